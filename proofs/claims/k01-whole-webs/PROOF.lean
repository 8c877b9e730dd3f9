import PyProof.Rows.All
import Wide.All
import OpenK.AllK
import Wide.FinOn
import KE.KStateDown
import KE.KExcInit
import Lean
import HandS.ForMost
import HandS.Exc
import HandS.ExcInit
import HandS.ExcField
import HandS.Defaults
import HandS.Lambda
import HandS.HeadHook4
import HandS.Head2
import HandS.EndTab
import HandS.HeadWalk
import HandS.IsInst
import HandS.SortInts
import HandS.More
import PyProof.Rows.SortShellAny
import PyProof.Rows.SortKeyStr
import HandS.TryMany
import HandS.OwnEq
import HandS.DeepEq
import KE.KEqNest
import KE.KDictLaw
import KE.KDictPairs
import HandS.Walk
import HandS.Flow
import HandS.Small
import HandS.NoneIn
import HandS.TryOnly
import HandS.MakeKwOnly
import HandS.Conv
import HandS.ListItems
import HandS.DictComp
import HandS.Deep
import HandS.TupAny
import KE.KDictZip
import HandS.GenList
import KE.GoesMore
import HandS.Zip
import PyProof.Rows.RegFStrParts
import HandS.Style
import PySem.Challenge.RW_partswithin_k01_whole_webs_and_pictures
set_option Elab.async false
set_option linter.all false
set_option maxRecDepth 100000
set_option maxHeartbeats 4000000
namespace Pw
open PySem PySem.Spec PyProof.Rows L2
def top (i : Nat) : Stmt := PySem.Challenge.pw_partswithin_k01_whole_webs_and_pictures.main.body.getD i (.Pass ⟨0, 0, 0, 0⟩)
abbrev s_BadPicture_init : Stmt := inClass (top 2) 0
abbrev s_BadPlaces_init : Stmt := inClass (top 3) 0
abbrev s_BadTies_init : Stmt := inClass (top 4) 0
abbrev s_NoPlace_init : Stmt := inClass (top 5) 0
abbrev s_is_list : Stmt := top 11
abbrev s_is_integer : Stmt := top 12
abbrev s_is_name : Stmt := top 13
abbrev s_is_one_of : Stmt := top 14
abbrev s_checked_places : Stmt := top 16
abbrev s_checked_near : Stmt := top 17
abbrev s_Web_init : Stmt := inClass (top 18) 0
abbrev s_Web_places : Stmt := inClass (top 18) 1
abbrev s_Web_ties : Stmt := inClass (top 18) 2
abbrev s_Web_ties_of : Stmt := inClass (top 18) 3
abbrev s_Web_eq : Stmt := inClass (top 18) 4
abbrev s_is_picture : Stmt := top 20
abbrev s_checked_picture : Stmt := top 21
abbrev s_place_at : Stmt := top 22
abbrev s_web_of : Stmt := top 23
abbrev s_picture_web : Stmt := top 24
abbrev s_law_a_words : Stmt := top 26
abbrev s_law_a_names : Stmt := top 27
abbrev s_law_a_tie : Stmt := top 28
abbrev s_law_a_scaled : Stmt := top 29
abbrev s_law_a_any : Stmt := top 30
abbrev s_law_a_row : Stmt := top 31
abbrev s_law_a_picture : Stmt := top 32
abbrev s_law_a_plane : Stmt := top 33
abbrev s_law_a_pools : Stmt := top 34
abbrev s_law_a_beside : Stmt := top 35
abbrev s_law_a_web : Stmt := top 36
abbrev s_law_a_near : Stmt := top 37
abbrev s_law_a_made : Stmt := top 38
abbrev s_law_a_spoiled : Stmt := top 39
abbrev s_law_start : Stmt := top 40
abbrev s_law_draw : Stmt := top 41
abbrev s_law_pick : Stmt := top 42
abbrev s_law_mixed : Stmt := top 43
abbrev s_law_same : Stmt := top 44
abbrev s_law_loose : Stmt := top 45
abbrev s_law_met : Stmt := top 46
abbrev s_law_told : Stmt := top 47
abbrev s_law_told_right : Stmt := top 48
abbrev s_law_unlike_right : Stmt := top 49
abbrev s_law_odd_names : Stmt := top 50
abbrev s_law_refused_right : Stmt := top 51
abbrev s_law_picture_right : Stmt := top 52
abbrev s_law_pictures_right : Stmt := top 53
abbrev s_law : Stmt := top 54
def d_BadPicture_init : He.DefD := ⟨("BadPicture", some "__init__"), "__init__", "BadPicture.__init__", defArgs s_BadPicture_init, defBody s_BadPicture_init, defScope s_BadPicture_init, [], []⟩
def d_BadPlaces_init : He.DefD := ⟨("BadPlaces", some "__init__"), "__init__", "BadPlaces.__init__", defArgs s_BadPlaces_init, defBody s_BadPlaces_init, defScope s_BadPlaces_init, [], []⟩
def d_BadTies_init : He.DefD := ⟨("BadTies", some "__init__"), "__init__", "BadTies.__init__", defArgs s_BadTies_init, defBody s_BadTies_init, defScope s_BadTies_init, [], []⟩
def d_NoPlace_init : He.DefD := ⟨("NoPlace", some "__init__"), "__init__", "NoPlace.__init__", defArgs s_NoPlace_init, defBody s_NoPlace_init, defScope s_NoPlace_init, [], []⟩
def d_is_list : He.DefD := ⟨("is_list", none), "is_list", "is_list", defArgs s_is_list, defBody s_is_list, defScope s_is_list, [], []⟩
def d_is_integer : He.DefD := ⟨("is_integer", none), "is_integer", "is_integer", defArgs s_is_integer, defBody s_is_integer, defScope s_is_integer, [], []⟩
def d_is_name : He.DefD := ⟨("is_name", none), "is_name", "is_name", defArgs s_is_name, defBody s_is_name, defScope s_is_name, [], []⟩
def d_is_one_of : He.DefD := ⟨("is_one_of", none), "is_one_of", "is_one_of", defArgs s_is_one_of, defBody s_is_one_of, defScope s_is_one_of, [], []⟩
def d_checked_places : He.DefD := ⟨("checked_places", none), "checked_places", "checked_places", defArgs s_checked_places, defBody s_checked_places, defScope s_checked_places, [], []⟩
def d_checked_near : He.DefD := ⟨("checked_near", none), "checked_near", "checked_near", defArgs s_checked_near, defBody s_checked_near, defScope s_checked_near, [], []⟩
def d_Web_init : He.DefD := ⟨("Web", some "__init__"), "__init__", "Web.__init__", defArgs s_Web_init, defBody s_Web_init, defScope s_Web_init, [], []⟩
def d_Web_places : He.DefD := ⟨("Web", some "places"), "places", "Web.places", defArgs s_Web_places, defBody s_Web_places, defScope s_Web_places, [], []⟩
def d_Web_ties : He.DefD := ⟨("Web", some "ties"), "ties", "Web.ties", defArgs s_Web_ties, defBody s_Web_ties, defScope s_Web_ties, [], []⟩
def d_Web_ties_of : He.DefD := ⟨("Web", some "ties_of"), "ties_of", "Web.ties_of", defArgs s_Web_ties_of, defBody s_Web_ties_of, defScope s_Web_ties_of, [], []⟩
def d_Web_eq : He.DefD := ⟨("Web", some "__eq__"), "__eq__", "Web.__eq__", defArgs s_Web_eq, defBody s_Web_eq, defScope s_Web_eq, [], []⟩
def d_is_picture : He.DefD := ⟨("is_picture", none), "is_picture", "is_picture", defArgs s_is_picture, defBody s_is_picture, defScope s_is_picture, [], []⟩
def d_checked_picture : He.DefD := ⟨("checked_picture", none), "checked_picture", "checked_picture", defArgs s_checked_picture, defBody s_checked_picture, defScope s_checked_picture, [], []⟩
def d_place_at : He.DefD := ⟨("place_at", none), "place_at", "place_at", defArgs s_place_at, defBody s_place_at, defScope s_place_at, [], []⟩
def d_web_of : He.DefD := ⟨("web_of", none), "web_of", "web_of", defArgs s_web_of, defBody s_web_of, defScope s_web_of, [], []⟩
def d_picture_web : He.DefD := ⟨("picture_web", none), "picture_web", "picture_web", defArgs s_picture_web, defBody s_picture_web, defScope s_picture_web, [], []⟩
def d_law_a_words : He.DefD := ⟨("_law_a_words", none), "_law_a_words", "_law_a_words", defArgs s_law_a_words, defBody s_law_a_words, defScope s_law_a_words, [], []⟩
def d_law_a_names : He.DefD := ⟨("_law_a_names", none), "_law_a_names", "_law_a_names", defArgs s_law_a_names, defBody s_law_a_names, defScope s_law_a_names, [], []⟩
def d_law_a_tie : He.DefD := ⟨("_law_a_tie", none), "_law_a_tie", "_law_a_tie", defArgs s_law_a_tie, defBody s_law_a_tie, defScope s_law_a_tie, [], []⟩
def d_law_a_scaled : He.DefD := ⟨("_law_a_scaled", none), "_law_a_scaled", "_law_a_scaled", defArgs s_law_a_scaled, defBody s_law_a_scaled, defScope s_law_a_scaled, [], []⟩
def d_law_a_any : He.DefD := ⟨("_law_a_any", none), "_law_a_any", "_law_a_any", defArgs s_law_a_any, defBody s_law_a_any, defScope s_law_a_any, [], []⟩
def d_law_a_row : He.DefD := ⟨("_law_a_row", none), "_law_a_row", "_law_a_row", defArgs s_law_a_row, defBody s_law_a_row, defScope s_law_a_row, [], []⟩
def d_law_a_picture : He.DefD := ⟨("_law_a_picture", none), "_law_a_picture", "_law_a_picture", defArgs s_law_a_picture, defBody s_law_a_picture, defScope s_law_a_picture, [], []⟩
def d_law_a_plane : He.DefD := ⟨("_law_a_plane", none), "_law_a_plane", "_law_a_plane", defArgs s_law_a_plane, defBody s_law_a_plane, defScope s_law_a_plane, [], []⟩
def d_law_a_pools : He.DefD := ⟨("_law_a_pools", none), "_law_a_pools", "_law_a_pools", defArgs s_law_a_pools, defBody s_law_a_pools, defScope s_law_a_pools, [], []⟩
def d_law_a_beside : He.DefD := ⟨("_law_a_beside", none), "_law_a_beside", "_law_a_beside", defArgs s_law_a_beside, defBody s_law_a_beside, defScope s_law_a_beside, [], []⟩
def d_law_a_web : He.DefD := ⟨("_law_a_web", none), "_law_a_web", "_law_a_web", defArgs s_law_a_web, defBody s_law_a_web, defScope s_law_a_web, [], []⟩
def d_law_a_near : He.DefD := ⟨("_law_a_near", none), "_law_a_near", "_law_a_near", defArgs s_law_a_near, defBody s_law_a_near, defScope s_law_a_near, [], []⟩
def d_law_a_made : He.DefD := ⟨("_law_a_made", none), "_law_a_made", "_law_a_made", defArgs s_law_a_made, defBody s_law_a_made, defScope s_law_a_made, [], []⟩
def d_law_a_spoiled : He.DefD := ⟨("_law_a_spoiled", none), "_law_a_spoiled", "_law_a_spoiled", defArgs s_law_a_spoiled, defBody s_law_a_spoiled, defScope s_law_a_spoiled, [], []⟩
def d_law_start : He.DefD := ⟨("_law_start", none), "_law_start", "_law_start", defArgs s_law_start, defBody s_law_start, defScope s_law_start, [], []⟩
def d_law_draw : He.DefD := ⟨("_law_draw", none), "_law_draw", "_law_draw", defArgs s_law_draw, defBody s_law_draw, defScope s_law_draw, [], []⟩
def d_law_pick : He.DefD := ⟨("_law_pick", none), "_law_pick", "_law_pick", defArgs s_law_pick, defBody s_law_pick, defScope s_law_pick, [], []⟩
def d_law_mixed : He.DefD := ⟨("_law_mixed", none), "_law_mixed", "_law_mixed", defArgs s_law_mixed, defBody s_law_mixed, defScope s_law_mixed, [], []⟩
def d_law_same : He.DefD := ⟨("_law_same", none), "_law_same", "_law_same", defArgs s_law_same, defBody s_law_same, defScope s_law_same, [], []⟩
def d_law_loose : He.DefD := ⟨("_law_loose", none), "_law_loose", "_law_loose", defArgs s_law_loose, defBody s_law_loose, defScope s_law_loose, [], []⟩
def d_law_met : He.DefD := ⟨("_law_met", none), "_law_met", "_law_met", defArgs s_law_met, defBody s_law_met, defScope s_law_met, [], []⟩
def d_law_told : He.DefD := ⟨("_law_told", none), "_law_told", "_law_told", defArgs s_law_told, defBody s_law_told, defScope s_law_told, [], []⟩
def d_law_told_right : He.DefD := ⟨("_law_told_right", none), "_law_told_right", "_law_told_right", defArgs s_law_told_right, defBody s_law_told_right, defScope s_law_told_right, [], []⟩
def d_law_unlike_right : He.DefD := ⟨("_law_unlike_right", none), "_law_unlike_right", "_law_unlike_right", defArgs s_law_unlike_right, defBody s_law_unlike_right, defScope s_law_unlike_right, [], []⟩
def d_law_odd_names : He.DefD := ⟨("_law_odd_names", none), "_law_odd_names", "_law_odd_names", defArgs s_law_odd_names, defBody s_law_odd_names, defScope s_law_odd_names, [], []⟩
def d_law_refused_right : He.DefD := ⟨("_law_refused_right", none), "_law_refused_right", "_law_refused_right", defArgs s_law_refused_right, defBody s_law_refused_right, defScope s_law_refused_right, [], []⟩
def d_law_picture_right : He.DefD := ⟨("_law_picture_right", none), "_law_picture_right", "_law_picture_right", defArgs s_law_picture_right, defBody s_law_picture_right, defScope s_law_picture_right, [], []⟩
def d_law_pictures_right : He.DefD := ⟨("_law_pictures_right", none), "_law_pictures_right", "_law_pictures_right", defArgs s_law_pictures_right, defBody s_law_pictures_right, defScope s_law_pictures_right, [], []⟩
def d_law : He.DefD := ⟨("law", none), "law", "law", defArgs s_law, defBody s_law, defScope s_law, [], []⟩
def fn : List He.DefD := [d_BadPicture_init, d_BadPlaces_init, d_BadTies_init, d_NoPlace_init, d_is_list, d_is_integer, d_is_name, d_is_one_of, d_checked_places, d_checked_near, d_Web_init, d_Web_places, d_Web_ties, d_Web_ties_of, d_Web_eq, d_is_picture, d_checked_picture, d_place_at, d_web_of, d_picture_web, d_law_a_words, d_law_a_names, d_law_a_tie, d_law_a_scaled, d_law_a_any, d_law_a_row, d_law_a_picture, d_law_a_plane, d_law_a_pools, d_law_a_beside, d_law_a_web, d_law_a_near, d_law_a_made, d_law_a_spoiled, d_law_start, d_law_draw, d_law_pick, d_law_mixed, d_law_same, d_law_loose, d_law_met, d_law_told, d_law_told_right, d_law_unlike_right, d_law_odd_names, d_law_refused_right, d_law_picture_right, d_law_pictures_right, d_law]
def fa : List He.Fa := [.glo "PartsError",
  .glo "BadPicture",
  .glo "BadPlaces",
  .glo "BadTies",
  .glo "NoPlace",
  .glo "Made",
  .glo "is_list",
  .glo "is_integer",
  .glo "is_name",
  .glo "is_one_of",
  .glo "checked_places",
  .glo "checked_near",
  .glo "Web",
  .glo "is_picture",
  .glo "checked_picture",
  .glo "place_at",
  .glo "web_of",
  .glo "picture_web",
  .glo "_law_a_words",
  .glo "_law_a_names",
  .glo "_law_a_tie",
  .glo "_law_a_scaled",
  .glo "_law_a_any",
  .glo "_law_a_row",
  .glo "_law_a_picture",
  .glo "_law_a_plane",
  .glo "_law_a_pools",
  .glo "_law_a_beside",
  .glo "_law_a_web",
  .glo "_law_a_near",
  .glo "_law_a_made",
  .glo "_law_a_spoiled",
  .glo "_law_start",
  .glo "_law_draw",
  .glo "_law_pick",
  .glo "_law_mixed",
  .glo "_law_same",
  .glo "_law_loose",
  .glo "_law_met",
  .glo "_law_told",
  .glo "_law_told_right",
  .glo "_law_unlike_right",
  .glo "_law_odd_names",
  .glo "_law_refused_right",
  .glo "_law_picture_right",
  .glo "_law_pictures_right",
  .glo "law",
  .free "ValueError",
  .free "abs",
  .free "all",
  .free "any",
  .free "bool",
  .free "dict",
  .free "enumerate",
  .free "int",
  .free "isinstance",
  .free "len",
  .free "list",
  .free "max",
  .free "min",
  .free "range",
  .free "repr",
  .free "sorted",
  .free "str",
  .free "tuple",
  .free "zip",
  .str "SMALL" "abcdefghijklmnopqrstuvwxyz",
  .str "FIGURES" "0123456789",
  .glo "WORDS",
  .cls "Web",
  .noat "Web" "own_places",
  .noat "Web" "own_near",
  .mkr "Web",
  .keep "Web",
  .meth "Web" "places",
  .meth "Web" "ties",
  .meth "Web" "ties_of",
  .meth "Web" "__eq__",
  .keep "BadPicture",
  .noat "BadPicture" "thing",
  .keep "BadPlaces",
  .noat "BadPlaces" "index",
  .keep "BadTies",
  .noat "BadTies" "index",
  .keep "NoPlace",
  .noat "NoPlace" "thing",
  .exm "BadPicture" "BadPicture" true,
  .exm "BadPicture" "BadPlaces" false,
  .exm "BadPicture" "BadTies" false,
  .exm "BadPicture" "NoPlace" false,
  .exm "BadPlaces" "BadPicture" false,
  .exm "BadPlaces" "BadPlaces" true,
  .exm "BadPlaces" "BadTies" false,
  .exm "BadPlaces" "NoPlace" false,
  .exm "BadTies" "BadPicture" false,
  .exm "BadTies" "BadPlaces" false,
  .exm "BadTies" "BadTies" true,
  .exm "BadTies" "NoPlace" false,
  .exm "NoPlace" "BadPicture" false,
  .exm "NoPlace" "BadPlaces" false,
  .exm "NoPlace" "BadTies" false,
  .exm "NoPlace" "NoPlace" true]
/-- places: 0 .glo PartsError, 1 .glo BadPicture, 2 .glo BadPlaces, 3 .glo BadTies, 4 .glo NoPlace, 5 .glo Made, 6 .glo is_list, 7 .glo is_integer, 8 .glo is_name, 9 .glo is_one_of, 10 .glo checked_places, 11 .glo checked_near, 12 .glo Web, 13 .glo is_picture, 14 .glo checked_picture, 15 .glo place_at, 16 .glo web_of, 17 .glo picture_web, 18 .glo _law_a_words, 19 .glo _law_a_names, 20 .glo _law_a_tie, 21 .glo _law_a_scaled, 22 .glo _law_a_any, 23 .glo _law_a_row, 24 .glo _law_a_picture, 25 .glo _law_a_plane, 26 .glo _law_a_pools, 27 .glo _law_a_beside, 28 .glo _law_a_web, 29 .glo _law_a_near, 30 .glo _law_a_made, 31 .glo _law_a_spoiled, 32 .glo _law_start, 33 .glo _law_draw, 34 .glo _law_pick, 35 .glo _law_mixed, 36 .glo _law_same, 37 .glo _law_loose, 38 .glo _law_met, 39 .glo _law_told, 40 .glo _law_told_right, 41 .glo _law_unlike_right, 42 .glo _law_odd_names, 43 .glo _law_refused_right, 44 .glo _law_picture_right, 45 .glo _law_pictures_right, 46 .glo law, 47 .free ValueError, 48 .free abs, 49 .free all, 50 .free any, 51 .free bool, 52 .free dict, 53 .free enumerate, 54 .free int, 55 .free isinstance, 56 .free len, 57 .free list, 58 .free max, 59 .free min, 60 .free range, 61 .free repr, 62 .free sorted, 63 .free str, 64 .free tuple, 65 .free zip, 66 .str SMALL abcdefghijklmnopqrstuvwxyz, 67 .str FIGURES 0123456789, 68 .glo WORDS, 69 .cls Web, 70 .noat Web own_places, 71 .noat Web own_near, 72 .mkr Web, 73 .keep Web, 74 .meth Web places, 75 .meth Web ties, 76 .meth Web ties_of, 77 .meth Web __eq__, 78 .keep BadPicture, 79 .noat BadPicture thing, 80 .keep BadPlaces, 81 .noat BadPlaces index, 82 .keep BadTies, 83 .noat BadTies index, 84 .keep NoPlace, 85 .noat NoPlace thing, 86 .exm BadPicture BadPicture true, 87 .exm BadPicture BadPlaces false, 88 .exm BadPicture BadTies false, 89 .exm BadPicture NoPlace false, 90 .exm BadPlaces BadPicture false, 91 .exm BadPlaces BadPlaces true, 92 .exm BadPlaces BadTies false, 93 .exm BadPlaces NoPlace false, 94 .exm BadTies BadPicture false, 95 .exm BadTies BadPlaces false, 96 .exm BadTies BadTies true, 97 .exm BadTies NoPlace false, 98 .exm NoPlace BadPicture false, 99 .exm NoPlace BadPlaces false, 100 .exm NoPlace BadTies false, 101 .exm NoPlace NoPlace true -/
theorem places_told : True := trivial
abbrev R : PySem.W.OpenRow := PySem.W.OpenLaw.row PySem.Challenge.rw_partswithin_k01_whole_webs_and_pictures
def words : List Str := ["place", "tie", "lot", "at", "loss", "border", "price", "join", "part", "fall", "drop", "mark", "watch", "hold"]
def excs : List Str := ["BadPicture", "BadPlaces", "BadTies", "NoPlace"]
def exB1 (K : PySem.W.Frag) : Bool := He.tupB K "WORDS" (words.map He.Dv.str) && excs.all fun x => PySem.W.excInitIn K (He.ga K x) He.veBase "ValueError.__new__" && (xfB K (He.ga K x) && (He.eqO (PySem.W.findIn K (.ref (He.ga K x)) "__setattr__") (some (some (.builtin "object.__setattr__"))) &&
  (decide (PySem.W.typeIn K (.ref (He.ga K x)) = some (.type "type")) && (PySem.W.isFn K (.ref (He.ma K (He.ga K x) "__init__")) && He.eqO (PySem.W.findIn K (.ref (He.ga K x)) "__init__") (some (some (.ref (He.ma K (He.ga K x) "__init__"))))))))
def tys : List Value := [.type "NoneType", .type "bool", .type "int", .type "str", .type "list", .type "tuple", .type "dict"]
def webB (K : PySem.W.Frag) (C : Addr) : Bool := He.eqO (PySem.W.findIn K (.ref C) "__class__") (some (some (.builtin "object.__class__"))) && (He.eqO (PySem.W.specialIn K (.builtin "object.__class__") "__get__") (some (some (.builtin "getset_descriptor.__get__"))) &&
  (decide (PySem.W.takesIn K (.builtin "object.__class__") = some true) && (decide (PySem.W.mroIn K C (.type "object") = some true) && (He.eqO (PySem.W.findIn K (.ref C) "__ne__") (some (some (.builtin "object.__ne__"))) && (decide (PySem.W.subIn K (.ref C) (.type "object") = some true) &&
  tys.all fun t => decide (PySem.W.kitOne K t (.ref C) = some false) && (PySem.W.notFirst K C t && decide (PySem.W.kitOne K (.ref C) t = some false)))))))
def exB (K : PySem.W.Frag) : Bool := (exB1 K && webB K (He.ga K "Web")) && !decide ((He.cT K ("_law_refused_right", none)).2 = (He.cT K ("_law_pictures_right", none)).2)
def tf : List He.Defn := [("_law_refused_right", none), ("_law_pictures_right", none)]
abbrev hk : PySem.W.Hook := He.hookX 5 fa fn [] tf exB
def ob (s : PySem.W.SharedT) : He.AlX := He.obsX 5 fa fn [] tf exB (HandSHeadRun.getT s)
theorem ob_eq (s : PySem.W.SharedT) : ob s = hk.obs s.abs := He.obsX_eq (HandSHeadRun.getT_eq s)
def loose1 : List PySem.Str := [("PartsError" : PySem.Str), ("BadPicture" : PySem.Str), ("BadPlaces" : PySem.Str), ("BadTies" : PySem.Str), ("NoPlace" : PySem.Str), ("Made" : PySem.Str), ("is_list" : PySem.Str), ("is_integer" : PySem.Str), ("is_name" : PySem.Str), ("is_one_of" : PySem.Str), ("checked_places" : PySem.Str), ("checked_near" : PySem.Str), ("Web" : PySem.Str), ("is_picture" : PySem.Str), ("checked_picture" : PySem.Str), ("place_at" : PySem.Str), ("web_of" : PySem.Str), ("picture_web" : PySem.Str), ("_law_a_words" : PySem.Str), ("_law_a_names" : PySem.Str), ("_law_a_tie" : PySem.Str), ("_law_a_scaled" : PySem.Str), ("_law_a_any" : PySem.Str), ("_law_a_row" : PySem.Str), ("_law_a_picture" : PySem.Str), ("_law_a_plane" : PySem.Str), ("_law_a_pools" : PySem.Str), ("_law_a_beside" : PySem.Str), ("_law_a_web" : PySem.Str), ("_law_a_near" : PySem.Str), ("_law_a_made" : PySem.Str), ("_law_a_spoiled" : PySem.Str), ("_law_start" : PySem.Str), ("_law_draw" : PySem.Str), ("_law_pick" : PySem.Str)]
def loose2 : List PySem.Str := [("_law_mixed" : PySem.Str), ("_law_same" : PySem.Str), ("_law_loose" : PySem.Str), ("_law_met" : PySem.Str), ("_law_told" : PySem.Str), ("_law_told_right" : PySem.Str), ("_law_unlike_right" : PySem.Str), ("_law_odd_names" : PySem.Str), ("_law_refused_right" : PySem.Str), ("_law_picture_right" : PySem.Str), ("_law_pictures_right" : PySem.Str), ("SMALL" : PySem.Str), ("FIGURES" : PySem.Str), ("WORDS" : PySem.Str)]
def loose : List PySem.Str := loose1 ++ loose2
theorem run (w : World) : HandSHeadRun.RunEq R (PySem.W.view R.prog [54]) hk ob 20000 loose w := by
  intro os
  kernel_rfl
end Pw
set_option Elab.async false
set_option linter.all false
set_option maxRecDepth 100000
set_option maxHeartbeats 4000000
/-! Sorting by keys: tuples of texts and ints, any number of them. -/
namespace Pw
open PySem PySem.Spec PyProof.Rows L2

/-! ### the order of keys -/
theorem str_ext {a b : Str} (h : a.cps.toList = b.cps.toList) : a = b := by
  obtain ⟨⟨x⟩⟩ := a
  obtain ⟨⟨y⟩⟩ := b
  simp only at h
  rw [h]
def ltS (a b : Str) : Bool := decide (a.cps.toList < b.cps.toList)
theorem ltS_irr (a : Str) : ltS a a = false := decide_eq_false (List.lt_irrefl _)
theorem ltS_tr {a b c : Str} (h : ltS a b = true) (h' : ltS b c = true) : ltS a c = true :=
  decide_eq_true (List.lt_trans (of_decide_eq_true h) (of_decide_eq_true h'))
theorem natL_tri : ∀ a b : List Nat, a = b ∨ a < b ∨ b < a
  | [], [] => .inl rfl
  | [], b :: bs => .inr (.inl (List.nil_lt_cons b bs))
  | a :: as, [] => .inr (.inr (List.nil_lt_cons a as))
  | a :: as, b :: bs => by
    rcases Nat.lt_trichotomy a b with h | h | h
    · exact .inr (.inl (List.cons_lt_cons_iff.mpr (.inl h)))
    · rcases natL_tri as bs with q | q | q
      · exact .inl (by rw [h, q])
      · exact .inr (.inl (List.cons_lt_cons_iff.mpr (.inr ⟨h, q⟩)))
      · exact .inr (.inr (List.cons_lt_cons_iff.mpr (.inr ⟨h.symm, q⟩)))
    · exact .inr (.inr (List.cons_lt_cons_iff.mpr (.inl h)))
theorem ltS_tri (a b : Str) : a = b ∨ ltS a b = true ∨ ltS b a = true := by
  rcases natL_tri a.cps.toList b.cps.toList with h | h | h
  · exact .inl (str_ext h)
  · exact .inr (.inl (decide_eq_true h))
  · exact .inr (.inr (decide_eq_true h))
def ltKey : Key → Key → Bool
  | .inl a, .inl b => decide (a < b)
  | .inr a, .inr b => ltS a b
  | .inl _, .inr _ => true
  | .inr _, .inl _ => false
theorem ltKey_irr (a : Key) : ltKey a a = false := by
  cases a with
  | inl i => exact decide_eq_false (Int.lt_irrefl _)
  | inr x => exact ltS_irr x
theorem ltKey_tr {a b c : Key} (h : ltKey a b = true) (h' : ltKey b c = true) : ltKey a c = true := by
  cases a <;> cases b <;> cases c <;> simp only [ltKey] at h h' ⊢ <;> first | exact ltS_tr h h' | (cases h; done) | (cases h'; done) | skip
  · exact decide_eq_true (Int.lt_trans (of_decide_eq_true h) (of_decide_eq_true h'))
theorem ltKey_tri (a b : Key) : a = b ∨ ltKey a b = true ∨ ltKey b a = true := by
  cases a with
  | inl i =>
    cases b with
    | inl j =>
      rcases Int.lt_trichotomy i j with h | h | h
      · exact .inr (.inl (decide_eq_true h))
      · exact .inl (by rw [h])
      · exact .inr (.inr (decide_eq_true h))
    | inr y => exact .inr (.inl rfl)
  | inr x =>
    cases b with
    | inl j => exact .inr (.inr rfl)
    | inr y =>
      rcases ltS_tri x y with h | h | h
      · exact .inl (by rw [h])
      · exact .inr (.inl h)
      · exact .inr (.inr h)
def lexK : List Key → List Key → Bool
  | [], [] => false
  | [], _ :: _ => true
  | _ :: _, [] => false
  | a :: as, b :: bs => if a = b then lexK as bs else ltKey a b
theorem lexK_irr : ∀ a : List Key, lexK a a = false
  | [] => rfl
  | a :: as => by
    unfold lexK
    rw [if_pos rfl]
    exact lexK_irr as
theorem lexK_tr : ∀ {a b c : List Key}, lexK a b = true → lexK b c = true → lexK a c = true
  | [], [], _, h, _ => by cases h
  | [], _ :: _, [], _, h => by cases h
  | [], _ :: _, _ :: _, _, _ => rfl
  | _ :: _, [], _, h, _ => by cases h
  | _ :: _, _ :: _, [], _, h => by cases h
  | a :: as, b :: bs, c :: cs, h, h' => by
    unfold lexK at h h' ⊢
    by_cases e : a = b
    · subst e
      rw [if_pos rfl] at h
      by_cases e' : a = c
      · subst e'
        rw [if_pos rfl] at h' ⊢
        exact lexK_tr h h'
      · rw [if_neg e'] at h' ⊢
        exact h'
    · rw [if_neg e] at h
      by_cases e' : b = c
      · subst e'
        rw [if_neg e]
        exact h
      · rw [if_neg e'] at h'
        by_cases e2 : a = c
        · subst e2
          have q := ltKey_tr h h'
          rw [ltKey_irr] at q
          cases q
        · rw [if_neg e2]
          exact ltKey_tr h h'
theorem lexK_tri : ∀ a b : List Key, a = b ∨ lexK a b = true ∨ lexK b a = true
  | [], [] => .inl rfl
  | [], _ :: _ => .inr (.inl rfl)
  | _ :: _, [] => .inr (.inr rfl)
  | a :: as, b :: bs => by
    unfold lexK
    by_cases e : a = b
    · subst e
      rw [if_pos rfl, if_pos rfl]
      rcases lexK_tri as bs with h | h | h
      · exact .inl (by rw [h])
      · exact .inr (.inl h)
      · exact .inr (.inr h)
    · rw [if_neg e, if_neg (fun z => e z.symm)]
      rcases ltKey_tri a b with h | h | h
      · exact absurd h e
      · exact .inr (.inl h)
      · exact .inr (.inr h)
theorem lexK_asym {a b : List Key} (h : lexK a b = true) : lexK b a = false := by
  cases q : lexK b a with
  | false => rfl
  | true =>
    have z := lexK_tr h q
    rw [lexK_irr] at z
    cases z
theorem lexK_le {a b : List Key} (h : lexK b a = false) : a = b ∨ lexK a b = true := by
  rcases lexK_tri a b with e | e | e
  · exact .inl e
  · exact .inr e
  · rw [h] at e
    cases e
theorem lexK_swo {α : Type} (k : α → List Key) : SrtO.Swo fun x y => lexK (k x) (k y) := by
  refine ⟨fun x y h => lexK_asym h, fun x y z h1 h2 => ?_⟩
  have a := lexK_le h1
  have b := lexK_le h2
  rcases a with a | a
  · rw [a]
    exact h2
  · rcases b with b | b
    · rw [← b]
      exact h1
    · exact lexK_asym (lexK_tr a b)

/-! ### tuples of keys in the heap -/
def isR : Key → Bool
  | .inl _ => false
  | .inr _ => true
def KIs (h : Heap) (v : Value) (ks : List Key) : Prop := ∃ a o us n, v = Value.ref a ∧ h.get? a = some o ∧ o.cls = .type "tuple" ∧ o.data = .seq us.toArray n ∧ Vals (ks.map kV) us
theorem KIs.keeps {h h' : Heap} {v : Value} {ks : List Key} (p : KIs h v ks) (k : ∀ b o, h.get? b = some o → o.cls = .type "tuple" → h'.get? b = some o) : KIs h' v ks := by
  obtain ⟨a, o, us, n, e, ho, hc, hd, hv⟩ := p
  exact ⟨a, o, us, n, e, k _ _ ho hc, hc, hd, hv⟩
section
variable {prog : Program} {w : World} {A : Around} {E : Value → Shared → Prop} {s : Shared}
theorem kat_keys {Q : Bool → Shared → Prop} : ∀ (as bs : List Key) (us ws : List Value) (i : Nat), Vals (as.map kV) us → Vals (bs.map kV) ws → as.map isR = bs.map isR → Q (lexK as bs) s → PySem.W.KatLex prog w A true false Q (us.zip ws) i s
  | [], [], us, ws, i, r1, r2, _, h => by
    cases r1
    cases r2
    exact PySem.W.kat_nil h
  | [], _ :: _, _, _, _, _, _, e, _ => by cases e
  | _ :: _, [], _, _, _, _, _, e, _ => by cases e
  | a :: as, b :: bs, us, ws, i, r1, r2, e, h => by
    cases r1 with
    | @cons _ u _ us q1 t1 =>
      cases r2 with
      | @cons _ w' _ ws q2 t2 =>
        have e1 : isR a = isR b := (List.cons.inj e).1
        have e2 : as.map isR = bs.map isR := (List.cons.inj e).2
        show PySem.W.KatLex prog w A true false Q ((u, w') :: us.zip ws) i s
        unfold lexK at h
        refine PySem.W.kat_cons ?_
        cases a with
        | inl x =>
          cases b with
          | inr y => cases e1
          | inl y =>
            obtain ⟨t, rfl⟩ := q1
            obtain ⟨t', rfl⟩ := q2
            refine SeqAt.EqAt.int_int x t y t' prog w _ _ ?_
            refine PySem.W.kat_go (fun z => ?_) (fun z => ?_)
            · have ez : x = y := by simpa using z
              rw [if_pos (by rw [ez])] at h
              exact PySem.W.kat_yes (kat_keys as bs us ws (i + 1) t1 t2 e2 h)
            · have ez : ¬ x = y := by simpa using z
              rw [if_neg (fun q => ez (Sum.inl.inj q))] at h
              refine PySem.W.kat_no ?_
              cases hb : (true && i == 0) with
              | true => exact oneLt_int h
              | false => exact PySem.W.kat_one _ _ (PyProof.Rows.lt_int h)
        | inr x =>
          cases b with
          | inl y => cases e1
          | inr y =>
            obtain ⟨t, rfl⟩ := q1
            obtain ⟨t', rfl⟩ := q2
            refine SeqAt.EqAt.str_str x t y t' prog w _ _ ?_
            refine PySem.W.kat_go (fun z => ?_) (fun z => ?_)
            · have ez : x = y := by simpa using z
              rw [if_pos (by rw [ez])] at h
              exact PySem.W.kat_yes (kat_keys as bs us ws (i + 1) t1 t2 e2 h)
            · have ez : ¬ x = y := by simpa using z
              rw [if_neg (fun q => ez (Sum.inr.inj q))] at h
              refine PySem.W.kat_no ?_
              cases hb : (true && i == 0) with
              | true => exact oneLt_str h
              | false => exact PySem.W.kat_one _ _ (PyProof.Rows.lt_str h)
theorem key_cmp {vs : List Value} {k : Value → List Key} {sh : List Bool} (hp : ∀ v ∈ vs, KIs s.heap v (k v) ∧ (k v).map isR = sh) : SrtO.Cmp prog w A s (tuples' true) (fun p => p.1 ∈ vs) (SrtO.lt2 fun v u => lexK (k v) (k u)) := by
  intro p q hm hm'
  obtain ⟨h1, e1⟩ := hp _ hm
  obtain ⟨h2, e2⟩ := hp _ hm'
  show wpAny (model prog w) A (keyLt' (tuples' true) p.1 q.1) (fun r s' => s' = s ∧ r = lexK (k p.1) (k q.1)) (fun _ _ => False) s
  generalize k p.1 = x at h1 e1 ⊢
  generalize k q.1 = y at h2 e2 ⊢
  obtain ⟨a, o, us, n, e, ho, hc, hd, hv⟩ := h1
  obtain ⟨a', o', us', n', e', ho', hc', hd', hv'⟩ := h2
  rw [e, e']
  refine PySem.W.kat_lt ho hd ho' hd' ?_
  have hl : us.length = us'.length := by
    have q1 := hv.length
    have q2 := hv'.length
    have q3 : x.length = y.length := by
      have := congrArg List.length (e1.trans e2.symm)
      simpa using this
    rw [List.length_map] at q1 q2
    omega
  have hz : decide (us.toArray.size < us'.toArray.size) = false := decide_eq_false (by simp only [List.size_toArray]; omega)
  rw [hz]
  show PySem.W.KatLex prog w A true false _ (us.zip us') 0 s
  exact kat_keys x y us us' 0 hv hv' (e1.trans e2.symm) ⟨rfl, rfl⟩
theorem firsts_ofK {h : Heap} {k : Value → List Key} {sh : List Bool} : ∀ {vs : List Value}, (∀ v ∈ vs, KIs h v (k v) ∧ (k v).map isR = true :: sh) → ∃ fs : List Value, PySem.W.KatTups h vs fs ∧ fs.length = vs.length ∧ ∀ f ∈ fs, ∃ x t, f = Value.str x t
  | [], _ => ⟨[], PySem.W.KatTups.nil, rfl, fun _ hm => by simp at hm⟩
  | v :: vs, hp => by
    obtain ⟨fs, h1, h2, h3⟩ := firsts_ofK (vs := vs) fun v' hm => hp v' (List.mem_cons_of_mem _ hm)
    obtain ⟨⟨a, o, us, n, e, ho, hc, hd, hv⟩, hs⟩ := hp v (List.mem_cons_self ..)
    subst e
    generalize k (.ref a) = x at hv hs
    cases x with
    | nil => cases hs
    | cons c cs =>
      cases c with
      | inl i => cases hs
      | inr z =>
        cases hv with
        | @cons _ u _ us q1 t1 =>
          obtain ⟨t, rfl⟩ := q1
          refine ⟨.str z t :: fs, PySem.W.KatTups.cons ho hc hd rfl h1, by rw [List.length_cons, List.length_cons, h2], fun f hm => ?_⟩
          rcases List.mem_cons.mp hm with rfl | hm
          · exact ⟨z, t, rfl⟩
          · exact h3 f hm
theorem keys_sortable {a : Addr} {vs : List Value} {k : Value → List Key} {sh : List Bool} (h0 : 0 < vs.length) (hp : ∀ v ∈ vs, KIs s.heap v (k v) ∧ (k v).map isR = true :: sh) (ha : ∀ o, s.heap.get? a = some o → o.cls ≠ .type "tuple") :
    SrtO.SortableO prog w A s a vs fun v u => lexK (k v) (k u) := by
  intro h' keep
  have hp' : ∀ v ∈ vs, KIs h' v (k v) ∧ (k v).map isR = true :: sh := fun v hm => ⟨(hp v hm).1.keeps fun b o e c => keep b o (fun z => by subst z; exact ha o e c) e, (hp v hm).2⟩
  obtain ⟨fs, h1, h2, h3⟩ := firsts_ofK hp'
  refine ⟨tuples' true, fun Q E hq => ?_, key_cmp hp'⟩
  refine PySem.W.kat_kind (T := .type "str") h1 (by omega) (fun f hm => ?_) (by rfl) ?_
  · obtain ⟨x, t, rfl⟩ := h3 f hm
    exact PySem.W.Looks.now
  · have e : (Value.type "str" != Value.type "tuple") = true := by first | decide +kernel | rfl | decide
    rw [e]
    exact hq
end
/-- sorted(xs), xs a list of tuples of texts and ints of one shape, a text ahead -/
def rSortedK (K : PySem.W.Frag) : List V → Hp → VK → Prop := fun vs H Q => ∃ (a : Addr) (xs : List V) (k : V → List Key) (sh : List Bool), vs = [V.ref a] ∧ SqL K H a xs ∧
  (∀ x ∈ xs, ∃ t, x = V.ref t ∧ H t = some (.tup ((k x).map kV)) ∧ (k x).map isR = true :: sh) ∧
  ∀ ys p, ys.Perm xs → ys.Pairwise (fun x y => lexK (k y) (k x) = false) → H p = none → Q (.ref p) (upd H p (.lst ys))
section
variable {X : Cx}
theorem cr_sortedK : CallR X (.builtin "sorted") (rSortedK X.K) := by
  intro pins s σ H vs us Q I r h
  obtain ⟨a, xs, k, sh, rfl, hs, hx, q⟩ := h
  obtain ⟨its, rv, hl, hz⟩ := I.list hs
  obtain ⟨u, rfl, ru⟩ := vals1 r
  obtain rfl : u = Value.ref a := ru
  obtain ⟨e1, e2⟩ := refs_back rv fun x m => by
    obtain ⟨t, e, _⟩ := hx x m
    exact ⟨t, e⟩
  have hp : ∀ v ∈ its, KIs s.heap v (k (backV v)) ∧ (k (backV v)).map isR = true :: sh := fun v hv => by
    obtain ⟨t, rfl⟩ := e2 v hv
    have hm : V.ref t ∈ xs := by rw [e1]; exact List.mem_map.mpr ⟨_, hv, rfl⟩
    obtain ⟨t', e, ht, hsh⟩ := hx _ hm
    cases e
    obtain ⟨_, its2, r2, o, ho, hc, n, hd⟩ := I.hok _ _ ht
    exact ⟨⟨t, o, its2, n, rfl, ho, hc, hd, r2⟩, hsh⟩
  refine SrtO.sorted_ord (lexK_swo fun u => k (backV u)) hl.isList (by rw [← rv.length]; exact hz) (fun h2 h₁ a' ha kk => ?_) fun out h1 h2 => ?_
  · refine keys_sortable (s := { s with heap := h₁ }) (sh := sh) (by omega) (fun v hm => ⟨(hp v hm).1.keeps fun b o e _ => (kk b o e).2, (hp v hm).2⟩) fun o e => ?_
    have e' : some o = some (seqObj "list" its.toArray 0) := e.symm.trans ha
    cases e'
    intro c
    exact absurd (Value.type.inj c) (by decide)
  · have h3 : ∀ u ∈ out, ∃ a, u = Value.ref a := fun u hu => e2 u (h2.perm.mem_iff.mp hu)
    obtain ⟨n, hn⟩ := PyProof.Rows.sortedAll_at s.heap its out.toArray
    have hb : (out.map backV).Perm xs := by
      rw [e1]
      exact h2.perm.map backV
    refine ⟨.ref _, upd H (s.heap.objs.size + 1) (.lst (out.map backV)), I.laid (t' := s.toks) (fun _ _ => PyProof.Rows.sortedAll_old) (Nat.le_succ _) ⟨?_, out, n, vals_back h3, hn⟩, rfl, q _ _ hb (List.pairwise_map.mpr h1) (I.hok.fresh (Nat.le_succ _))⟩
    rw [hb.length_eq]
    exact hz
/-- sorted(xs), a list of texts, any number of them -/
def rSortedL (K : PySem.W.Frag) : List V → Hp → VK → Prop := fun vs H Q => ∃ (a : Addr) (xs : List Str), vs = [V.ref a] ∧ SqL K H a (xs.map V.str) ∧
  ∀ (ys : List Str) (p : Addr), ys.Perm xs → sortedS ys = true → H p = none → Q (.ref p) (upd H p (.lst (ys.map V.str)))
theorem cr_sortedL : CallR X (.builtin "sorted") (rSortedL X.K) := by
  intro pins s σ H vs us Q I r h
  obtain ⟨a, xs, rfl, hs, q⟩ := h
  obtain ⟨its, rv, hl, hz⟩ := I.list hs
  rw [Vals.ref1 r]
  refine PyProof.Rows.sorted_strsAny hl.isList rv.strs (by rw [← rv.length]; exact hz) fun out ys h1 h2 h3 => ?_
  obtain ⟨ep, he'⟩ := PyProof.Rows.sortedAll_at s.heap its out
  have hlen : (ys.map V.str).length ≤ sizeLine := by
    rw [List.length_map] at hz ⊢
    rw [h2.length_eq]
    exact hz
  exact ⟨.ref _, upd H (s.heap.objs.size + 1) (.lst (ys.map V.str)), I.laid (t' := s.toks) (fun _ _ => PyProof.Rows.sortedAll_old) (Nat.le_succ _) ⟨hlen, out.toList, ep, vals_of_strs h1, he'⟩, rfl, q ys _ h2 h3 (I.hok.fresh (Nat.le_succ _))⟩
/-- sorted(d), a dict with text keys, any number of them -/
def rSortedDS : List V → Hp → VK → Prop := fun xs H Q => ∃ (a : Addr) (kvs : List (Key × V)) (ks : List Str), xs = [.ref a] ∧ Rd H a (.dK kvs) ∧ kvs.map (·.1) = ks.map Sum.inr ∧
  ∀ ys p, ys.Perm ks → sortedS ys = true → H p = none → Q (.ref p) (upd H p (.lst (ys.map V.str)))
theorem cr_sortedDS (hcalm : X.calm = true) : CallR X (.builtin "sorted") rSortedDS := by
  intro pins s σ H xs us Q I r q
  obtain ⟨a, kvs, ks, rfl, hd, hks, q⟩ := q
  obtain ⟨u, rfl, rx⟩ := vals1 r
  obtain rfl : u = Value.ref a := rx
  obtain ⟨z, lo, vs, rel, dd⟩ := dk_rd I.hok hd
  obtain ⟨ep, hat⟩ := dd.dictAt
  have hkeys : vs.map (·.1) = ks.map Sum.inr := rel.keys.symm.trans hks
  have hl : vs.length = ks.length := by
    have e := congrArg List.length hkeys
    simpa using e
  have hkl : kvs.length = ks.length := by
    have e := congrArg List.length hks
    simpa using e
  have hz : ks.length ≤ sizeLine := by omega
  refine Calls.call_function_entry PyProof.Rows.kind_sorted PyProof.Rows.plain_sorted PyProof.Rows.entry_sorted (PyProof.Rows.args_sorted1 _) ?_
  unfold Builtin.«sorted»
  refine wpAny_bind (m := checkCount "sorted" 1 1 _) (wpAny_pure ?_)
  refine wpAny_bind (PySem.W.kdu_collect (A := X.A.in1) (PySem.W.kdl_dict (knd := mixKind X.prog X.w) (kvs := vs) (ep := ep) lo) (I.ok.hd hcalm) hat (by omega) fun h' tk acc hk hacc => ?_)
  have hal : acc.toList.length = ks.length := by rw [Array.length_toList, hacc.1, hl]
  have hS : StrsAre acc.toList ks := strs_at hal fun j v e => by
    obtain ⟨k, x, e1, e2⟩ := hacc.2 j v (by rw [← Array.getElem?_toList]; exact e)
    have e3 : (vs.map (·.1))[j]? = some k := by rw [List.getElem?_map, e1] <;> rfl
    rw [hkeys, List.getElem?_map] at e3
    cases e4 : ks[j]? with
    | none =>
      rw [e4] at e3
      cases e3
    | some y =>
      rw [e4] at e3
      obtain rfl : Sum.inr y = k := Option.some.inj e3
      obtain ⟨t, ev⟩ := Value.isStrOf_shape (x := y) (v := v) e2
      exact ⟨y, t, rfl, ev⟩
  have I1 : Inv X pins σ H { s with heap := h', toks := tk } := I.kept hk
  refine wpAny_bind (wpAny_newList ?_ (by rw [hal]; exact hz))
  have hoL : (h'.push (seqObj "list" acc.toList.toArray 0)).get? h'.objs.size = some (seqObj "list" acc.toList.toArray 0) := Heap.get?_push_size _ rfl
  show wpAny _ _ _ _ _ { s with heap := h'.push (seqObj "list" acc.toList.toArray 0), toks := tk }
  refine wpAny_bind (wpAny_holding (wpAny_call_entry PyProof.Rows.slot_list_sort ⟨_, hoL, rfl⟩ PyProof.Rows.entry_list_sort
    (list_sort_treeKAny strKind_oneLt (s := { s with heap := h'.push (seqObj "list" acc.toList.toArray 0), toks := tk }) hoL hS.keysOf (fun v₁ v₂ rest e => keyKind_strs (by rw [← e]; exact hS)) (by rw [hal]; exact hz) fun st' hp hs => ⟨_, rfl, ?_⟩)
    (PyProof.Rows.args_list_sort _)))
  obtain ⟨ys, g1, g2, g3⟩ := sorted_out_str hS hp hs
  obtain ⟨e', he'⟩ := PyProof.Rows.sortedHeap_at (vs := acc.toList) (out := (arrOf st').map (·.2)) hoL
  have hlen : (ys.map V.str).length ≤ sizeLine := by
    rw [List.length_map, g2.length_eq]
    exact hz
  refine wpAny_pure ⟨_, rfl, .ref h'.objs.size, upd H h'.objs.size (.lst (ys.map V.str)), I1.laid (t' := tk) (fun b u e => ?_) (Nat.le_refl _)
    (show ObjOk X.prog X.w _ _ _ (.lst (ys.map V.str)) from ⟨hlen, ((arrOf st').map (·.2)).toList, e', vals_of_strs g1, by rw [Array.toArray_toList]; exact he'⟩), rfl, q ys _ g2 g3 (I1.hok.fresh (Nat.le_refl _))⟩
  have hb : b < h'.objs.size := Heap.lt_size e
  rw [PyProof.Rows.sortedHeap_old (Nat.ne_of_lt hb) (by rw [size_push']; exact Nat.lt_succ_of_lt hb)]
  exact Heap.get?_push_of_some _ e
end
end Pw
set_option Elab.async false
set_option linter.all false
set_option maxRecDepth 100000
set_option maxHeartbeats 4000000
/-! try with several clauses, each «except X as n» with one name n. -/
namespace Pw
open PySem PySem.Spec PyProof.Rows L2
/-- behind a suite that held its error in slot i -/
def Ends.drop (D : Ends) (i : Nat) : Ends := { nx := fun σ' H' => D.nx (σ'.set i none) H', rt := D.rt, bk := fun σ' H' => D.bk (σ'.set i none) H', ct := fun σ' H' => D.ct (σ'.set i none) H' }
/-- what the clauses wish of an error of the body -/
def wManyAs (K : PySem.W.Frag) (i : Nat) (Wout : WX) (D : Ends) : List (Value × (Addr → Value → Option Addr → TS)) → WX
  | [] => Wout
  | (c, ts) :: r => fun cls d σ H => ∃ b, PySem.W.exmOne K cls c = some b ∧ (b = true → ∀ a, H a = none → ts a cls d (Ends.drop D i) (σ.set i (some (.ref a))) H) ∧ (b = false → wManyAs K i Wout D r cls d σ H)
inductive HdsAs (X : Cx) (n : Str) : List ExceptHandler → List (Value × (Addr → Value → Option Addr → TS)) → Prop
  | nil : HdsAs X n [] []
  | cons {x : Str} {c : Value} {ts : Addr → Value → Option Addr → TS} {b₀ : Stmt} {suite : List Stmt} {np pos' : Pos} {hds : List ExceptHandler} {l : List (Value × (Addr → Value → Option Addr → TS))} (hc : Names X x c)
      (hsu : ∀ (a : Addr) (oe : Obj) (cls : Value) (d : Option Addr) (pn : List (Addr × Obj)), Zc cls d oe → (∃ vs, oe.data = .fields vs) → PSs (X.suite a ((a, oe) :: pn)) (b₀ :: suite) (ts a cls d)) (r : HdsAs X n hds l) :
      HdsAs X n (.ExceptHandler (some (.Name x np)) (some n) (b₀ :: suite) pos' :: hds) ((c, ts) :: l)
section
variable {X : Cx} {body : List Stmt} {h₀ : ExceptHandler} {hds : List ExceptHandler} {l : List (Value × (Addr → Value → Option Addr → TS))} {pos : Pos} {tb : WX → TS} {Wout : WX} {n : Str} {i : Nat}
theorem ps_try_manyAs (hs : X.stack = X.env :: X.outer) (hf : X.env.frame = some X.env.locals) (hN : X.N.Nodup) (hi : X.N[i]? = some n) (hln : X.env.kindOf n = some .local) (tk : Takes X Wout)
    (hb : ∀ (W : WX) (pn : List (Addr × Obj)) (xe : Value → Shared → Prop), Takes (X.tr pn xe) W → PassesOwn (model X.prog X.w) X.A X.env xe → PSs (X.tr pn xe) body (tb W))
    (hh : HdsAs X n (h₀ :: hds) l) : PS X (.Try body (h₀ :: hds) [] [] pos) (fun D σ H => tb (wManyAs X.K i Wout D l) D σ H) := by
  refine ⟨fun pins s σ H D I h => ?_⟩
  have ok := I.ok
  have hfr : X.A.frames = some (X.env :: X.outer) := by rw [ok.frames, hs]
  have hloc : Loc X.env.scope n := .inl hln
  refine wpAny_Try_except ?_
  refine wpAny_mono ((hb (wManyAs X.K i Wout D l) (X.pn ++ pins) (fun e s1 => wpAny (model X.prog X.w) X.A (noteFrame e X.env) (fun _ s2 => wpAny (model X.prog X.w) X.A (setFlight e none) (fun _ s3 =>
    wpAny (model X.prog X.w) X.A (handleBy e X.env (h₀ :: hds)) (SP X pins D) X.xe s3) X.xe s2) X.xe s1) (fun u s' xx => ?_) PassesOwn.looking).run [] s σ H D (I.toTry _) h) (fun f s1 hsp => ?_) (fun e s1 he => he)
  · obtain ⟨a, B, sI, pins', σ', H', cls, d, rfl, J', nb, up, sky, na, os, ag, w⟩ := xx
    have J : Inv X pins σ' H' sI := J'.ofTry ok
    have sky' : Sky B (X.env :: X.outer) a (Zc cls d) X.env.locals s'.heap := by rw [← hs]; exact sky
    show wpAny (model X.prog X.w) X.A (noteFrame (.ref a) X.env) _ _ _
    refine Sky.land Zc.steady hfr hf sky' fun h3 fl3 up3 => ?_
    have J3 : Inv X pins σ' H' { s' with heap := h3 } := J.landed nb fl3.1 (up.trans up3) os ag
    obtain ⟨oe3, vs3, he3, hz3, hd3⟩ := fl3.there
    have nfr : a ∉ frs (X.env :: X.outer) := fun hm => by
      obtain ⟨_, o', e', hnf⟩ := fl3.2.2.1.mem hm
      rw [he3] at e'
      cases e'
      exact hnf _ hd3
    have nL : a ≠ X.env.locals := fun z => nfr (List.mem_filterMap.mpr ⟨X.env, List.mem_cons_self, by rw [hf, z]⟩)
    have nF : a ∉ X.fs := fun hm => by
      obtain ⟨e, he, q⟩ := List.mem_filterMap.mp hm
      exact nfr (List.mem_filterMap.mpr ⟨e, List.mem_cons_of_mem _ he, q⟩)
    have S3 := J3.suite he3 hd3 na nL nF
    have go : ∀ {hds' : List ExceptHandler} {l' : List (Value × (Addr → Value → Option Addr → TS))}, HdsAs X n hds' l' → wManyAs X.K i Wout D l' cls d σ' H' →
        wpAny (model X.prog X.w) X.A (handleBy (.ref a) X.env hds') (SP X pins D) X.xe { s' with heap := h3 } := by
      intro hds' l' hk
      induction hk with
      | nil =>
        intro w
        refine wpAny_handleBy_nil ?_
        obtain ⟨k1, k2, k3, oe, vs, T, oT, ts', he, hz, hd, h1, hr⟩ := id fl3
        unfold PySem.passOn
        refine wpAny_bind (wpAny_field he hd h1 ?_)
        rw [if_neg (show ¬ ((Value.ref T == Value.none) = true) from by simp)]
        have fin : wpAny (model X.prog X.w) X.A (setFlight (.ref a) X.env.frame) (fun _ s4 => wpAny (model X.prog X.w) X.A (throw (.ref a) : Sem Flow) (SP X pins D) X.xe s4) X.xe { s' with heap := h3 } := by
          rw [hf]
          exact HandSPX.setFlight_upZ fl3 fun h4 hh4 up4 => wpAny_throw (tk _ _ ⟨a, B, sI, pins, σ', H', cls, d, rfl, J, nb, (up.trans up3).trans up4, .inr (.inr (by rw [hs]; exact hh4)), na, os, ag, w⟩)
        first
          | exact wpAny_bind (wpAny_pure (wpAny_bind fin))
          | exact wpAny_bind fin
      | @cons x c ts b₀ suite np pos' hds2 l2 hc hsu r ih =>
        intro w
        obtain ⟨b, hb1, hyes, hno⟩ := w
        refine wpAny_handleBy_cons (codeAny_handlers_test ?_) (by intro q; cases q)
        have LT : PySem.W.Looks (model X.prog X.w) h3 (typeOf (.ref a)) cls := fun A Q E s k q => wpAny_typeOf_ref (k _ _ he3) (by rw [hz3.1]; exact q)
        have LM := PySem.W.exm_one (M := model X.prog X.w) (J3.kIn) LT hb1
        have test : ∀ {Q : Value → Shared → Prop} {E : Value → Shared → Prop}, Q c { s' with heap := h3 } → wpAny (model X.prog X.w) (X.A.mark (some (.ref a))) (eval (.Name x np) X.env) Q E { s' with heap := h3 } := fun {Q E} q => by
          obtain ⟨hg, hdbg, hm | ⟨hm, hv, hnn⟩⟩ := hc
          · exact ld_glob (X := X.suite a ((a, oe3) :: (X.pn ++ pins))) S3 hg hm q hdbg
          · exact ld_blt (X := X.suite a ((a, oe3) :: (X.pn ++ pins))) S3 hg hm hv q hnn hdbg
        refine test (LM.here ?_)
        cases b with
        | true =>
          refine codeAny_handlers_suite_as ?_
          refine HandSPX.lands_againZ fl3 fun h4 fl4 up4 => ?_
          have J4 : Inv X pins σ' H' { s' with heap := h4 } := J.landed nb fl4.1 ((up.trans up3).trans up4) os ag
          obtain ⟨oe4, vs4, he4, hz4, hd4⟩ := fl4.there
          have S4 := J4.suite he4 hd4 na nL nF
          refine store_ok (X := X.suite a ((a, oe4) :: (X.pn ++ pins))) (v := .ref a) S4 hN hi hloc rfl (fun s5 S5 => ?_) (.inr hln)
          refine wpAny_mono ((hsu a oe4 cls d (X.pn ++ pins) hz4 ⟨_, hd4⟩).run [] s5 _ H' _ S5 (hyes rfl a na)) (fun f s6 hsp => ?_) (fun _ _ z => False.elim z)
          have end_ : ∀ {σ6 : L2.St} {H6 : Hp} {Q : Shared → Prop}, Inv (X.suite a ((a, oe4) :: (X.pn ++ pins))) [] σ6 H6 s6 → (∀ s7, Inv X pins (σ6.set i none) H6 s7 → Q s7) →
              wpAny (model X.prog X.w) X.A (do bindName X.env n .none; unbindBehindTheSuite X.env n pos') (fun _ s7 => Q s7) X.xe s6 := fun {σ6 H6 Q} S6 hq => gone_ok (S6.unsuite ok) hN hi hln hq
          cases f with
          | next =>
            obtain ⟨σ6, H6, S6, q6⟩ := hsp
            exact end_ S6 fun s7 J7 => ⟨_, _, J7, q6⟩
          | brk =>
            obtain ⟨σ6, H6, S6, q6⟩ := hsp
            exact end_ S6 fun s7 J7 => ⟨_, _, J7, q6⟩
          | cont =>
            obtain ⟨σ6, H6, S6, q6⟩ := hsp
            exact end_ S6 fun s7 J7 => ⟨_, _, J7, q6⟩
          | ret u =>
            obtain ⟨v6, σ6, H6, S6, r6, q6⟩ := hsp
            exact end_ S6 fun s7 J7 => ⟨_, _, _, J7, r6, q6⟩
        | false =>
          show wpAny _ X.A (handleBy (.ref a) X.env hds2) _ _ _
          exact ih (hno rfl)
    exact go hh w
  · cases f with
    | next =>
      obtain ⟨σ', H', J', q⟩ := hsp
      exact wpAny_execs_nil ⟨σ', H', J'.ofTry ok, q⟩
    | brk =>
      obtain ⟨σ', H', J', q⟩ := hsp
      exact ⟨σ', H', J'.ofTry ok, q⟩
    | cont =>
      obtain ⟨σ', H', J', q⟩ := hsp
      exact ⟨σ', H', J'.ofTry ok, q⟩
    | ret u =>
      obtain ⟨v, σ', H', J', r, q⟩ := hsp
      exact ⟨v, σ', H', J'.ofTry ok, r, q⟩
end
end Pw
set_option Elab.async false
set_option linter.all false
set_option maxRecDepth 100000
set_option maxHeartbeats 4000000
/-! ==, != by an own __eq__ with both answers; == of dicts of dicts. -/
namespace Pw
open PySem PySem.Spec PyProof.Rows L2

/-! ### != where only __eq__ is the text's own -/
section
variable {prog : Program} {w : World} {A : Around} {E : Value → Shared → Prop} {s : Shared} {K : PySem.W.Frag} {x C f : Addr} {ox : Obj} {od : Option Obj} {b tb : Value}
theorem ne_body {Q : Fin → Shared → Prop} (X : K.In s.heap) (I : PySem.W.InstAt s.heap x ox C od) (hs : PySem.W.findIn K (.ref C) "__eq__" = some (some (.ref f))) (hf : PySem.W.isFn K (.ref f) = true) (hu : A.units < cLine)
    (h : wpAny (model prog w) A (call (.ref f) [.ref x, b]) (fun v s' => ∃ k, v = .bool k ∧ Q (.done (.ret (.bool (!k)))) s') E s) : wpAny (model prog w) A (Builtin.«object.__ne__» ⟨[.ref x, b], []⟩) Q E s := by
  unfold Builtin.«object.__ne__»
  repeat (first
    | with_reducible refine wpAny_cRoomFor hu ?_
    | (refine wpAny_bind (m := callSpecialIfBound? (.ref x) (Str.ofString "__eq__") [b]) (PySem.W.ifBound_K X I hs hf (wpAny_mono h (fun r s' hr => by
          obtain ⟨k, rfl, hq⟩ := hr
          repeat (first | exact hq | exact wpAny_pure hq | (refine wpAny_bind (m := truthy (.bool _)) (wpAny_truthy_bool ?_)) | wp_step)) fun _ _ e => e)))
    | wp_step)
theorem ne_try {Q : Option Value → Shared → Prop} (X : K.In s.heap) (I : PySem.W.InstAt s.heap x ox C od) (hs : PySem.W.findIn K (.ref C) "__eq__" = some (some (.ref f))) (hf : PySem.W.isFn K (.ref f) = true)
    (hn : PySem.W.findIn K (.ref C) "__ne__" = some (some (.builtin "object.__ne__"))) (ho : PySem.W.subIn K (.ref C) (.type "object") = some true) (hu : A.units + 1 < cLine)
    (h : wpAny (model prog w) A.in1 (call (.ref f) [.ref x, b]) (fun v s' => ∃ k, v = .bool k ∧ Q (some (.bool (!k))) s') E s) : wpAny (model prog w) A (tryCompare (.ref x) "__ne__" b) Q E s := by
  have cl : wpAny (model prog w) A (call (.builtin "object.__ne__") [.ref x, b]) (fun v s' => ∃ k, v = .bool k ∧ Q (some (.bool k)) s') E s := by
    refine wpAny_call (codeAny_call_builtin F.cmp_object.ne.plain F.cmpEntry_ne (PySem.W.check_slot F.cmpKind_ne F.cmpSplit_ne (I.type.andThen (PySem.W.looks_subIn X ho)) (F.cmpArgs_ne _ _) ?_))
    refine ne_body (A := A.in1) X I hs hf hu (wpAny_mono h (fun v s' hv => ?_) fun _ _ e => e)
    obtain ⟨k, rfl, hq⟩ := hv
    exact ⟨k, rfl, _, rfl, hq⟩
  unfold tryCompare
  simp only [callSpecialIfBound?, bindSpecialIfBound?]
  refine wpAny_bind ?_
  refine wpAny_holding (wpAny_bind (wpAny_bind (wpAny_bind (I.type.here ((PySem.W.looks_findIn X hn).here ?_)))))
  refine wpAny_bind (wpAny_askSetting (wpAny_ite ?_))
  have fin : wpAny (model prog w) A (call (.builtin "object.__ne__") ([.ref x] ++ [b]) >>= fun v => pure (some v)) (fun r s' => ∃ k, r = some (.bool k) ∧ Q (some (.bool k)) s') E s := wpAny_bind (wpAny_mono cl (fun v s' h' => by
    obtain ⟨k, rfl, q⟩ := h'
    exact wpAny_pure ⟨k, rfl, q⟩) fun _ _ h' => h')
  have fin2 : wpAny (model prog w) A (call (.builtin "object.__ne__") ([.ref x] ++ [b]) >>= fun v => pure (some v)) (fun r s' => wpAny (model prog w) A (match r with | some .notImplemented | none => pure none | some v => pure (some v)) Q E s') E s :=
    wpAny_mono fin (fun r s' h' => by
      obtain ⟨k, rfl, q⟩ := h'
      exact wpAny_pure q) fun _ _ h' => h'
  split
  · exact wpAny_bind (wpAny_of_eq (F.cmp_object.ne.bind _) (wpAny_pure (by exact fin2)))
  · exact wpAny_tryCatch (wpAny_bind (wpAny_of_eq (F.cmp_object.ne.bind _) (wpAny_pure (by exact fin2))))
theorem ne_own {Q : Value → Shared → Prop} (X : K.In s.heap) (I : PySem.W.InstAt s.heap x ox C od) (hb : PySem.W.Looks (model prog w) s.heap (typeOf b) tb) (hnf : PySem.W.notFirst K C tb = true) (hs : PySem.W.findIn K (.ref C) "__eq__" = some (some (.ref f))) (hf : PySem.W.isFn K (.ref f) = true)
    (hn : PySem.W.findIn K (.ref C) "__ne__" = some (some (.builtin "object.__ne__"))) (ho : PySem.W.subIn K (.ref C) (.type "object") = some true) (hu : A.units + 1 < cLine)
    (h : wpAny (model prog w) A.in1 (call (.ref f) [.ref x, b]) (fun v s' => ∃ k, v = .bool k ∧ Q (.bool (!k)) s') E s) : wpAny (model prog w) A (richCompare .NotEq (.ref x) b) Q E s := by
  have one : wpAny (model prog w) A (tryCompare (.ref x) "__ne__" b) (fun r s' => ∃ v, r = some v ∧ Q v s') E s := ne_try X I hs hf hn ho hu (wpAny_mono h (fun v s' hv => by
    obtain ⟨k, rfl, q⟩ := hv
    exact ⟨k, rfl, _, rfl, q⟩) fun _ _ e => e)
  unfold richCompare
  simp only [oneThing_ref]
  refine wpAny_holding (wpAny_bind (wpAny_cRoomFor (Nat.lt_of_succ_lt hu) ?_))
  rw [cmpInfo_NotEq]
  refine wpAny_bind (I.type.here (wpAny_bind (hb.here ?_)))
  split
  · rename_i q
    have e : PySem.W.subIn K tb (.ref C) = some false := by
      rcases Bool.or_eq_true_iff.mp hnf with e | e
      · rw [beq_iff_eq.mp e] at q
        simp at q
      · exact beq_iff_eq.mp e
    refine wpAny_bind ((PySem.W.looks_subIn X e).here ?_)
    simp only [Bool.false_eq_true, if_false]
    refine wpAny_bind (wpAny_mono one (fun r s' z => ?_) fun _ _ e => e)
    obtain ⟨v, rfl, hq⟩ := z
    exact wpAny_pure hq
  · refine wpAny_bind (wpAny_pure ?_)
    simp only [Bool.false_eq_true, if_false]
    refine wpAny_bind (wpAny_mono one (fun r s' z => ?_) fun _ _ e => e)
    obtain ⟨v, rfl, hq⟩ := z
    exact wpAny_pure hq
end

/-! ### as rules: the first one an instance of the class at C, the second one of a type that is told -/
structure EqCls (K : PySem.W.Frag) (C f : Addr) : Prop where
  eq : PySem.W.findIn K (.ref C) "__eq__" = some (some (.ref f))
  fn : PySem.W.isFn K (.ref f) = true
  ne : PySem.W.findIn K (.ref C) "__ne__" = some (some (.builtin "object.__ne__"))
  ob : PySem.W.subIn K (.ref C) (.type "object") = some true
/-- the second one: an instance of the class, or of a built-in type that comes not first -/
def SndOk (K : PySem.W.Frag) (C : Addr) (H : Hp) (y : V) : Prop := ∃ t, TyX K H y t ∧ PySem.W.notFirst K C t = true
def rOwnEq (K : PySem.W.Frag) (C : Addr) (sp : Sp) : R2 := fun x y H Q => ∃ a dx fs, x = .ref a ∧ H a = some (.ins C dx fs) ∧ SndOk K C H y ∧ sp [.ref a, y] H (fun v H' => ∃ k, v = .bl k ∧ Q (.bl k) H') E0
def rOwnNe (K : PySem.W.Frag) (C : Addr) (sp : Sp) : R2 := fun x y H Q => ∃ a dx fs, x = .ref a ∧ H a = some (.ins C dx fs) ∧ SndOk K C H y ∧ sp [.ref a, y] H (fun v H' => ∃ k, v = .bl k ∧ Q (.bl (!k)) H') E0
section
variable {X : Cx} {pins : List (Addr × Obj)} {σ : L2.St} {H : Hp} {s : Shared}
theorem ty_looks {x : V} {u t : Value} (I : Inv X pins σ H s) (rx : RelV x u) (ty : TyX X.K H x t) : PySem.W.Looks (model X.prog X.w) s.heap (typeOf u) t := by
  cases ty with
  | base b =>
    cases b with
    | non => cases (show u = Value.none from rx); exact .now
    | bl y => cases (show u = Value.bool y from rx); exact .now
    | int i => obtain ⟨t, q⟩ := (show ∃ t, u = Value.int i t from rx); cases q; exact .now
    | str y => obtain ⟨t, q⟩ := (show ∃ t, u = Value.str y t from rx); cases q; exact .now
    | flt y => obtain ⟨t, q⟩ := (show ∃ t, u = Value.float y t from rx); cases q; exact .now
    | @lst a xs ea =>
      cases (show u = Value.ref a from rx)
      obtain ⟨_, _, n, _, h1⟩ := (show ObjOk X.prog X.w H s.heap a (.lst xs) from I.hok a _ ea)
      exact fun A Q E s k q => wpAny_typeOf_ref (k _ _ h1) q
    | @frz a ob xs ea =>
      cases (show u = Value.ref a from rx)
      obtain ⟨_, _, _, n, _, h1⟩ := (show ObjOk X.prog X.w H s.heap a (.frz ob (.lst xs)) from I.hok a _ ea)
      exact fun A Q E s k q => wpAny_typeOf_ref (k _ _ h1) q
    | @tup a xs ea =>
      cases (show u = Value.ref a from rx)
      obtain ⟨_, _, _, o, h1, h2, _⟩ := (show ObjOk X.prog X.w H s.heap a (.tup xs) from I.hok a _ ea)
      exact fun A Q E s k q => wpAny_typeOf_ref (k _ _ h1) (by rw [h2]; exact q)
    | @dK a kvs ea =>
      cases (show u = Value.ref a from rx)
      obtain ⟨_, _, vs, _, o, es, ep, h1, h2, _⟩ := (show ObjOk X.prog X.w H s.heap a (.dK kvs) from I.hok a _ ea)
      exact fun A Q E s k q => wpAny_typeOf_ref (k _ _ h1) (by rw [h2.1]; exact q)
    | @dT a kvs ea =>
      cases (show u = Value.ref a from rx)
      obtain ⟨_, _, xs, _, o, es, ep, h1, h2, _⟩ := (show ObjOk X.prog X.w H s.heap a (.dT kvs) from I.hok a _ ea)
      exact fun A Q E s k q => wpAny_typeOf_ref (k _ _ h1) (by rw [h2.1]; exact q)
    | @ins a C dx fs ea cl ha hn htk hm =>
      cases (show u = Value.ref a from rx)
      obtain ⟨mA, O, _⟩ := ins_get I.hok ea
      obtain ⟨od, J, _⟩ := O.look
      exact J.type
  | byt y => obtain ⟨t, q⟩ := (show ∃ t, u = Value.bytes y t from rx); cases q; exact .now
  | @set a S n ea =>
    cases (show u = Value.ref a from rx)
    obtain ⟨o, _, _, _, e, ex, _⟩ := I.hok a _ ea
    exact fun A Q E s k q => wpAny_typeOf_ref (k _ _ e) (by rw [ex.1]; exact q)
  | @kList a o e c =>
    cases (show u = Value.ref a from rx)
    exact fun A Q E s k q => wpAny_typeOf_ref (k _ _ (I.kIn a o e)) (by rw [c]; exact q)
  | @kTuple a o e c =>
    cases (show u = Value.ref a from rx)
    exact fun A Q E s k q => wpAny_typeOf_ref (k _ _ (I.kIn a o e)) (by rw [c]; exact q)
  | @kDict a o e c =>
    cases (show u = Value.ref a from rx)
    exact fun A Q E s k q => wpAny_typeOf_ref (k _ _ (I.kIn a o e)) (by rw [c]; exact q)
  | @fTuple a ob xs ea =>
    cases (show u = Value.ref a from rx)
    obtain ⟨_, _, _, _, o, h1, h2, _⟩ := (show ObjOk X.prog X.w H s.heap a (.frz ob (.tup xs)) from I.hok a _ ea)
    exact fun A Q E s k q => wpAny_typeOf_ref (k _ _ h1) (by rw [h2]; exact q)
  | @fDict a ob kvs ea =>
    cases (show u = Value.ref a from rx)
    obtain ⟨_, _, _, vs, _, o, es, ep, h1, h2, _⟩ := (show ObjOk X.prog X.w H s.heap a (.frz ob (.dK kvs)) from I.hok a _ ea)
    exact fun A Q E s k q => wpAny_typeOf_ref (k _ _ h1) (by rw [h2.1]; exact q)
variable {n : Nat} {C f : Addr} {fd : FuncData} {ps : List Str} {sp : Sp}
/-- the text's own method, called somewhere below -/
theorem own_run {CX : CXT} {E : XK} {R : Bool → Hp → Prop} {A : Around} {y : V} {u : Value} {a : Addr} (F : FnOk X.prog X.w X.K X.mg X.base CX n f fd ps sp) (hb : Binds X.K fd ps []) (hx : Passes CX X E) (I : Inv X pins σ H s) (hr : Room n A) (hfr : A.frames = X.A.frames) (ry : RelV y u)
    (h : sp [.ref a, y] H (fun v H' => ∃ k, v = .bl k ∧ R k H') E) : wpAny (model X.prog X.w) A (call (.ref f) [.ref a, u]) (fun v s' => ∃ k H', v = .bool k ∧ Inv X pins σ H' s' ∧ R k H') X.xe s := by
  have e0 : Env0 X.prog X.w X.K X.mg X.base A X.stack s H := by
    have e := I.env0
    exact ⟨by rw [hfr]; exact e.frames, e.mod, e.bs, e.bsz, e.funs, e.frf, e.hok, e.bare⟩
  have hl := F.len _ _ _ _ h
  have r2 : Vals [V.ref a, y] [Value.ref a, u] := .cons rfl (.cons ry .nil)
  refine wpAny_call (codeAny_mono (F.run A X.stack s H ⟨[.ref a, u], []⟩ [.ref a, u] [.ref a, y] _ E hr e0 (by
    have z := hb s [.ref a, u] I.kIn (by simpa using hl)
    simpa using z) r2 h) fun r s' hq => ?_)
  cases r with
  | error e => exact hx pins σ H s e s' I hq
  | ok fl =>
    cases fl with
    | ret w =>
      obtain ⟨z, H', I', rz, k, ez, q⟩ := I.after hq
      subst ez
      cases rz
      exact ⟨k, H', rfl, I', q⟩
    | next => exact False.elim hq
    | brk => exact False.elim hq
    | cont => exact False.elim hq
theorem op_ownEq {CX : CXT} (F : FnOk X.prog X.w X.K X.mg X.base CX n f fd ps sp) (hx : Passes CX X E0) (T : EqCls X.K C f) (hb : Binds X.K fd ps []) (hr : Room n X.A) : OpR X (compareOp .Eq) (rOwnEq X.K C sp) := by
  intro pins s σ H x y v u Q I rx ry h
  obtain ⟨a, dx, fs, rfl, ha, ⟨t, ty, hn⟩, h⟩ := h
  obtain rfl : v = Value.ref a := rx
  obtain ⟨mA, J, _⟩ := ins_get I.hok ha
  obtain ⟨od, J, _⟩ := J.look
  obtain ⟨m, hF⟩ := I.fr
  refine PySem.W.cmp_K (op := .Eq) (tb := t) hr.units0 hF I.ok.mod.kin J (ty_looks I ry ty) hn T.eq T.fn ?_
  refine wpAny_mono (own_run (R := fun k H' => Q (.bl k) H') F hb hx I hr rfl ry h) (fun v s' q => ?_) fun _ _ e => e
  obtain ⟨k, H', rfl, I', q⟩ := q
  exact ⟨.bl k, H', I', rfl, q⟩
theorem op_ownNe {CX : CXT} (F : FnOk X.prog X.w X.K X.mg X.base CX n f fd ps sp) (hx : Passes CX X E0) (T : EqCls X.K C f) (hb : Binds X.K fd ps []) (hr : Room (n + 1) X.A) : OpR X (compareOp .NotEq) (rOwnNe X.K C sp) := by
  intro pins s σ H x y v u Q I rx ry h
  obtain ⟨a, dx, fs, rfl, ha, ⟨t, ty, hn⟩, h⟩ := h
  obtain rfl : v = Value.ref a := rx
  obtain ⟨mA, J, _⟩ := ins_get I.hok ha
  obtain ⟨od, J, _⟩ := J.look
  show wpAny (model X.prog X.w) X.A (richCompare .NotEq (.ref a) u) (EP X pins σ Q) X.xe s
  refine ne_own I.kIn J (ty_looks I ry ty) hn T.eq T.fn T.ne T.ob (by have z := hr.un; omega) ?_
  refine wpAny_mono (own_run (R := fun k H' => Q (.bl (!k)) H') F hb hx I hr.in1 rfl ry h) (fun v s' q => ?_) fun _ _ e => e
  obtain ⟨k, H', rfl, I', q⟩ := q
  exact ⟨k, rfl, .bl (!k), H', I', rfl, q⟩
end
end Pw
set_option Elab.async false
set_option linter.all false
set_option maxRecDepth 100000
set_option maxHeartbeats 4000000
/-! dicts of dicts of ints with text keys: what stands in the heap, their ==; the least and greatest of two texts. -/
namespace Pw
open PySem PySem.Spec PyProof.Rows L2

/-- places, each with its neighbours and heights -/
abbrev Row := List (Str × Int)
abbrev Near := List (Str × Row)
def rowK (r : Row) : List (Key × V) := r.map fun q => (Sum.inr q.1, V.int q.2)
def nearK (z : List ((Str × Row) × Addr)) : List (Key × V) := z.map fun q => (Sum.inr q.1.1, V.ref q.2)
/-- at d a dict of the dicts of n, which stand at addresses that N lets -/
def NearAt (N : Addr → Prop) (H : Hp) (d : Addr) (n : Near) : Prop := ∃ z : List ((Str × Row) × Addr), z.map (·.1) = n ∧ H d = some (.dK (nearK z)) ∧ ∀ q ∈ z, N q.2 ∧ H q.2 = some (.dK (rowK q.1.2))
structure NearOk (n : Near) : Prop where
  nd : (n.map (·.1)).Nodup
  rows : ∀ q ∈ n, (q.2.map (·.1)).Nodup
def rowEq (a b : Row) : Bool := a.length == b.length && a.all fun q => (b.lookup q.1).any fun h => decide (h = q.2)
def nearEq (a b : Near) : Bool := a.length == b.length && a.all fun q => (b.lookup q.1).any fun r => rowEq q.2 r
theorem lookup_mem_nd {α : Type} : ∀ {l : List (Str × α)} {k : Str} {v : α}, (l.map (·.1)).Nodup → (k, v) ∈ l → l.lookup k = some v
  | [], _, _, _, h => by cases h
  | (j, u) :: l, k, v, nd, h => by
    have nd' := List.nodup_cons.mp nd
    rcases List.mem_cons.mp h with e | h
    · cases e
      simp [List.lookup]
    · have ne : k ≠ j := fun e => nd'.1 (by
        rw [← e]
        exact List.mem_map.mpr ⟨_, h, rfl⟩)
      have q : (k == j) = false := by simpa using ne
      show (match k == j with | true => some u | false => l.lookup k) = some v
      rw [q]
      exact lookup_mem_nd nd'.2 h
theorem mem_of_lookup' {α : Type} : ∀ {l : List (Str × α)} {k : Str} {v : α}, l.lookup k = some v → (k, v) ∈ l
  | [], _, _, h => by cases h
  | (j, u) :: l, k, v, h => by
    have h' : (match k == j with | true => some u | false => l.lookup k) = some v := h
    cases q : (k == j) with
    | true =>
      rw [q] at h'
      have e := beq_iff_eq.mp q
      rw [e, ← Option.some.inj h']
      exact List.mem_cons_self
    | false =>
      rw [q] at h'
      exact List.mem_cons_of_mem _ (mem_of_lookup' h')
theorem rowEq_refl {a : Row} (nd : (a.map (·.1)).Nodup) : rowEq a a = true := by
  unfold rowEq
  rw [Bool.and_eq_true, List.all_eq_true]
  refine ⟨by simp, fun q hq => ?_⟩
  rw [lookup_mem_nd nd (show (q.1, q.2) ∈ a from hq)]
  simp
theorem valV_rowK (k : Str) : ∀ r : Row, valV (rowK r) (Sum.inr k : Key) = (r.lookup k).map V.int
  | [] => rfl
  | (j, h) :: r => by
    have ih := valV_rowK k r
    show valV ((Sum.inr j, V.int h) :: rowK r) (Sum.inr k : Key) = Option.map V.int (match k == j with | true => some h | false => r.lookup k)
    by_cases e : j = k
    · subst e
      rw [valV_pos rfl]
      simp
    · have q : (k == j) = false := by simpa using (fun z : k = j => e z.symm)
      rw [valV_neg (fun z => e (Sum.inr.inj z)), q]
      exact ih
section
variable {X : Cx} {pins : List (Addr × Obj)} {σ : L2.St} {H : Hp} {s : Shared}
theorem kv_val {kvs : List (Key × V)} {vs : List (Key × Value)} (r : KV kvs vs) {k : Key} {u : Value} (h : valueAt vs k = some u) : ∃ v, valV kvs k = some v ∧ RelV v u := by
  have q := r.val k
  rw [h] at q
  cases e : valV kvs k with
  | none =>
    rw [e] at q
    exact q.elim
  | some v =>
    rw [e] at q
    exact ⟨v, rfl, q⟩
theorem kv_none {kvs : List (Key × V)} {vs : List (Key × Value)} (r : KV kvs vs) {k : Key} : (valueAt vs k).isSome = (valV kvs k).isSome := (r.val k).isSome_eq.symm
theorem row_tree (I : Inv X pins σ H s) {a b : Addr} {r t : Row} (ha : H a = some (.dK (rowK r))) (hb : H b = some (.dK (rowK t))) (nd : (r.map (·.1)).Nodup) : PySem.W.EqTree X.prog X.w s 1 (.ref a) (.ref b) (rowEq r t) := by
  by_cases e : a = b
  · subst e
    rw [ha] at hb
    have er : rowK r = rowK t := by
      have z := Option.some.inj hb
      injection z
    have hrt : r = t := by
      have inj : ∀ {x y : Row}, rowK x = rowK y → x = y := by
        intro x
        induction x with
        | nil =>
          intro y h
          cases y with
          | nil => rfl
          | cons _ _ => cases h
        | cons p x ih =>
          intro y h
          cases y with
          | nil => cases h
          | cons q y =>
            obtain ⟨p1, p2⟩ := p
            obtain ⟨q1, q2⟩ := q
            have h' : ((Sum.inr p1 : Key), V.int p2) :: rowK x = ((Sum.inr q1 : Key), V.int q2) :: rowK y := h
            injection h' with h1 h2
            injection h1 with h3 h4
            rw [Sum.inr.inj h3, V.int.inj h4, ih h2]
      exact inj er
    subst hrt
    rw [rowEq_refl nd]
    exact .same
  · obtain ⟨_, ya, va, ra, da⟩ := (show ObjOk X.prog X.w H s.heap a (.dK (rowK r)) from I.hok a _ ha)
    obtain ⟨_, yb, vb, rb, db⟩ := (show ObjOk X.prog X.w H s.heap b (.dK (rowK t)) from I.hok b _ hb)
    have key : rowEq r t = (va.length == vb.length && va.all fun p => (valueAt vb p.1).isSome && (match p.1 with | .inl _ => false | .inr k => (t.lookup k).any fun h => decide (some h = r.lookup k))) := by
      have hl1 : va.length = r.length := by
        rw [← ra.length]
        simp [rowK]
      have hl2 : vb.length = t.length := by
        rw [← rb.length]
        simp [rowK]
      unfold rowEq
      rw [hl1, hl2]
      congr 1
      have hk : va.map (·.1) = r.map fun q => (Sum.inr q.1 : Key) := by
        rw [← ra.keys]
        simp [rowK, Function.comp_def]
      have e1 : (va.all fun p => (valueAt vb p.1).isSome && (match p.1 with | .inl _ => false | .inr k => (t.lookup k).any fun h => decide (some h = r.lookup k)))
          = (va.map (·.1)).all fun k => (valueAt vb k).isSome && (match k with | .inl _ => false | .inr k => (t.lookup k).any fun h => decide (some h = r.lookup k)) := by
        rw [List.all_map]
        rfl
      rw [e1, hk, List.all_map]
      have all_c : ∀ {f g : Str × Int → Bool} {l : List (Str × Int)}, (∀ q ∈ l, f q = g q) → l.all f = l.all g := by
        intro f g l
        induction l with
        | nil => intro _; rfl
        | cons p l ih =>
          intro h
          rw [List.all_cons, List.all_cons, h p List.mem_cons_self, ih fun q hq => h q (List.mem_cons_of_mem _ hq)]
      refine all_c fun q hq => ?_
      show ((t.lookup q.1).any fun h => decide (h = q.2)) = ((valueAt vb (Sum.inr q.1 : Key)).isSome && (t.lookup q.1).any fun h => decide (some h = r.lookup q.1))
      rw [kv_none rb, valV_rowK, lookup_mem_nd nd (show (q.1, q.2) ∈ r from hq)]
      cases t.lookup q.1 with
      | none => rfl
      | some h => simp
    rw [key]
    refine .dicts (knd := mixKind X.prog X.w) (n := 0) (e := fun k => match k with | .inl _ => false | .inr k => (t.lookup k).any fun h => decide (some h = r.lookup k)) e ya yb da db fun k v y hm hv => ?_
    obtain ⟨w', hw, rw'⟩ := kv_val rb hv
    have hk : k ∈ va.map (·.1) := List.mem_map.mpr ⟨_, hm, rfl⟩
    rw [← ra.keys] at hk
    obtain ⟨⟨k', v'⟩, hm', rfl⟩ := List.mem_map.mp hk
    obtain ⟨⟨c, h⟩, hc, ec⟩ := List.mem_map.mp (show (k', v') ∈ rowK r from hm')
    cases ec
    rw [valV_rowK] at hw
    cases hl : t.lookup c with
    | none =>
      rw [hl] at hw
      cases hw
    | some h2 =>
      rw [hl] at hw
      cases hw
      have hv' : valueAt va (Sum.inr c : Key) = some v := by
        obtain ⟨_, _, _, _, _, _, _, _, hnd⟩ := id da
        exact valueAt_of_mem hnd hm
      obtain ⟨w2, hw2, rw2⟩ := kv_val ra hv'
      rw [valV_rowK, lookup_mem_nd nd hc] at hw2
      cases hw2
      obtain ⟨t1, rfl⟩ := rw2
      obtain ⟨t2, rfl⟩ := rw'
      show PySem.W.EqTree X.prog X.w s 0 _ _ ((t.lookup c).any fun h' => decide (some h' = r.lookup c))
      rw [hl, lookup_mem_nd nd hc]
      have e3 : ((some h2 : Option Int).any fun h' => decide (some h' = some h)) = (h == h2) := by
        show decide (some h2 = some h) = (h == h2)
        by_cases z : h = h2
        · subst z
          simp
        · have z' : ¬ h2 = h := fun q => z q.symm
          simp [z, z']
      rw [e3]
      exact .leaf fun A _ => SeqAt.EqAt.int_int h t1 h2 t2
theorem all_congr_mem {α : Type} {f g : α → Bool} : ∀ {l : List α}, (∀ q ∈ l, f q = g q) → l.all f = l.all g
  | [], _ => rfl
  | p :: l, h => by rw [List.all_cons, List.all_cons, h p List.mem_cons_self, all_congr_mem fun q hq => h q (List.mem_cons_of_mem _ hq)]
theorem near_val (k : Str) : ∀ z : List ((Str × Row) × Addr), ∀ v, valV (nearK z) (Sum.inr k : Key) = some v → ∃ q, q ∈ z ∧ q.1.1 = k ∧ v = V.ref q.2 ∧ (z.map (·.1)).lookup k = some q.1.2
  | [], v, h => by cases h
  | p :: z, v, h => by
    have h' : valV ((Sum.inr p.1.1, V.ref p.2) :: nearK z) (Sum.inr k : Key) = some v := h
    by_cases e : p.1.1 = k
    · rw [valV_pos (by rw [e])] at h'
      refine ⟨p, List.mem_cons_self, e, (Option.some.inj h').symm, ?_⟩
      obtain ⟨⟨c, r⟩, a⟩ := p
      subst e
      simp [List.lookup]
    · rw [valV_neg (fun z => e (Sum.inr.inj z))] at h'
      obtain ⟨q, hq, h1, h2, h3⟩ := near_val k z v h'
      refine ⟨q, List.mem_cons_of_mem _ hq, h1, h2, ?_⟩
      obtain ⟨⟨c, r⟩, a⟩ := p
      have q' : (k == c) = false := by simpa using (fun z : k = c => e z.symm)
      show (match k == c with | true => some r | false => (z.map (·.1)).lookup k) = some q.1.2
      rw [q']
      exact h3
theorem near_none (k : Str) : ∀ z : List ((Str × Row) × Addr), (valV (nearK z) (Sum.inr k : Key)).isSome = ((z.map (·.1)).lookup k).isSome
  | [] => rfl
  | p :: z => by
    have ih := near_none k z
    obtain ⟨⟨c, r⟩, a⟩ := p
    show (valV ((Sum.inr c, V.ref a) :: nearK z) (Sum.inr k : Key)).isSome = Option.isSome (match k == c with | true => some r | false => (z.map (·.1)).lookup k)
    by_cases e : c = k
    · subst e
      rw [valV_pos rfl]
      simp
    · have q' : (k == c) = false := by simpa using (fun z : k = c => e z.symm)
      rw [valV_neg (fun z => e (Sum.inr.inj z)), q']
      exact ih
def nearE (n m : Near) (k : Key) : Bool := match k with
  | .inl _ => false
  | .inr c => (m.lookup c).any fun r2 => (n.lookup c).any fun r1 => rowEq r1 r2
/-- d == e of two such dicts -/
theorem near_eq {E : Value → Shared → Prop} {Q : Value → Shared → Prop} {N M : Addr → Prop} {a b : Addr} {n m : Near} (I : Inv X pins σ H s) (ha : NearAt N H a n) (hb : NearAt M H b m) (ok : NearOk n) (hu : X.A.units + 2 < cLine) (q : Q (.bool (nearEq n m)) s) :
    wpAny (model X.prog X.w) X.A (compareOp .Eq (.ref a) (.ref b)) Q E s := by
  obtain ⟨z, rfl, hza, hz⟩ := ha
  obtain ⟨y, rfl, hyb, hy⟩ := hb
  obtain ⟨_, ya, va, ra, da⟩ := (show ObjOk X.prog X.w H s.heap a (.dK (nearK z)) from I.hok a _ hza)
  obtain ⟨_, yb, vb, rb, db⟩ := (show ObjOk X.prog X.w H s.heap b (.dK (nearK y)) from I.hok b _ hyb)
  have key : nearEq (z.map (·.1)) (y.map (·.1)) = (va.length == vb.length && va.all fun (p : Key × Value) => (valueAt vb p.1).isSome && nearE (z.map (·.1)) (y.map (·.1)) p.1) := by
    have hl1 : va.length = (z.map (·.1)).length := by
      rw [← ra.length]
      simp [nearK]
    have hl2 : vb.length = (y.map (·.1)).length := by
      rw [← rb.length]
      simp [nearK]
    unfold nearEq
    rw [hl1, hl2]
    congr 1
    have hk : va.map (·.1) = (z.map (·.1)).map fun q => (Sum.inr q.1 : Key) := by
      rw [← ra.keys]
      simp [nearK, Function.comp_def]
    have e1 : (va.all fun (p : Key × Value) => (valueAt vb p.1).isSome && nearE (z.map (·.1)) (y.map (·.1)) p.1) = (va.map (·.1)).all fun (k : Key) => (valueAt vb k).isSome && nearE (z.map (·.1)) (y.map (·.1)) k := by
      rw [List.all_map]
      rfl
    rw [e1, hk]
    generalize hn : z.map (·.1) = n at ok ⊢
    rw [List.all_map]
    refine all_congr_mem fun q hq => ?_
    show (((y.map (·.1)).lookup q.1).any fun r => rowEq q.2 r) = ((valueAt vb (Sum.inr q.1 : Key)).isSome && nearE n (y.map (·.1)) (Sum.inr q.1))
    rw [kv_none rb, near_none]
    show _ = (((y.map (·.1)).lookup q.1).isSome && (((y.map (·.1)).lookup q.1).any fun r2 => (n.lookup q.1).any fun r1 => rowEq r1 r2))
    rw [lookup_mem_nd ok.nd (show (q.1, q.2) ∈ n from hq)]
    cases (y.map (·.1)).lookup q.1 with
    | none => rfl
    | some h => simp
  rw [key] at q
  refine PySem.W.eq_dictsT (knd := mixKind X.prog X.w) (n := 1) (e := nearE (z.map (·.1)) (y.map (·.1))) ya yb da db (fun k v w' hm hv => ?_) hu q
  obtain ⟨_, _, _, _, _, _, _, _, hnd⟩ := id da
  obtain ⟨v1, hv1, rv1⟩ := kv_val ra (valueAt_of_mem hnd hm)
  obtain ⟨v2, hv2, rv2⟩ := kv_val rb hv
  have hk : k ∈ va.map (·.1) := List.mem_map.mpr ⟨_, hm, rfl⟩
  rw [← ra.keys] at hk
  obtain ⟨⟨k', v'⟩, hm', rfl⟩ := List.mem_map.mp hk
  obtain ⟨c, hc, ec⟩ := List.mem_map.mp (show (k', v') ∈ nearK z from hm')
  cases ec
  obtain ⟨q1, hq1, e1, rfl, l1⟩ := near_val _ z v1 hv1
  obtain ⟨q2, hq2, e2, rfl, l2⟩ := near_val _ y v2 hv2
  obtain rfl : v = Value.ref q1.2 := rv1
  obtain rfl : w' = Value.ref q2.2 := rv2
  have t := row_tree I (hz q1 hq1).2 (hy q2 hq2).2 (ok.rows q1.1 (List.mem_map.mpr ⟨_, hq1, rfl⟩))
  show PySem.W.EqTree X.prog X.w s 1 _ _ (((y.map (·.1)).lookup c.1.1).any fun r2 => ((z.map (·.1)).lookup c.1.1).any fun r1 => rowEq r1 r2)
  rw [l1, l2]
  exact t
def rEqNear : R2 := fun x y H Q => ∃ N M a b n m, x = .ref a ∧ y = .ref b ∧ NearAt N H a n ∧ NearAt M H b m ∧ NearOk n ∧ Q (.bl (nearEq n m)) H
theorem op_eqNear (hu : X.A.units + 2 < cLine) : OpR X (compareOp .Eq) rEqNear := by
  intro pins s σ H x y v u Q I rx ry h
  obtain ⟨N, M, a, b, n, m, rfl, rfl, ha, hb, ok, q⟩ := h
  obtain rfl : v = Value.ref a := rx
  obtain rfl : u = Value.ref b := ry
  exact near_eq I ha hb ok hu ⟨.bl _, H, I, rfl, q⟩
end
end Pw
set_option Elab.async false
set_option linter.all false
set_option maxRecDepth 100000
set_option maxHeartbeats 4000000
/-! min and max of two texts; either of two readings; what either of two sequences is. -/
namespace Pw
open PySem PySem.Spec PyProof.Rows L2

section
variable {prog : Program} {w : World} {A : Around} {E : Value → Shared → Prop} {s : Shared}
abbrev twoS (a b : Str) (t u : Tok) : Array Value := #[.str a t, .str b u]
def pickS (a b : Str) (i : Nat) : Str := if i = 0 then a else b
theorem twoS_at {a b : Str} {t u : Tok} {i : Nat} {v : Value} (h : (twoS a b t u)[i]? = some v) : ∃ t, v = .str (pickS a b i) t := by
  match i, h with
  | 0, h =>
    have z : Value.str a t = v := by simpa [twoS] using h
    exact ⟨t, z.symm⟩
  | 1, h =>
    have z : Value.str b u = v := by simpa [twoS] using h
    exact ⟨u, z.symm⟩
  | i + 2, h => simp [twoS] at h
theorem two_strs {op : CmpOp} {a b : Str} {t u : Tok} {bt : Nat → Nat → Bool} {R : Value → Shared → Prop} (hh : A.handled = none) (hc : CmpOf prog w A.in1 op (fun i v => (twoS a b t u)[i]? = some v) bt)
    (h : ∀ h' tk v, (∀ c o, s.heap.get? c = some o → h'.get? c = some o) → (if bt 1 0 = true then ∃ t, v = Value.str b t else ∃ t, v = Value.str a t) → R v { s with heap := h', toks := tk }) :
    wpAny (model prog w) A.in1 (pyIter (.ref s.heap.objs.size)) (fun it s₂ => ∃ I fp wr n P St bt, it = .ref I ∧ Walks prog w A.in1 I fp wr n P St ∧ St 0 s₂.heap ∧ (∀ b ∈ fp, b < s₂.heap.objs.size) ∧ 0 < n ∧ CmpOf prog w A.in1 op P bt ∧
      ∀ v h' tk, P (argBest bt (n - 1)) v → (∀ b o, b ∉ wr → s₂.heap.get? b = some o → h'.get? b = some o) → R v { s₂ with heap := h', toks := tk }) E
      { s with heap := s.heap.push { cls := .type "tuple", data := .seq #[.str a t, .str b u] } } := by
  have hT : (s.heap.push { cls := .type "tuple", data := .seq #[.str a t, .str b u] }).IsTuple s.heap.objs.size (twoS a b t u) := ⟨_, Heap.get?_push_size _ rfl, rfl, 0, rfl⟩
  refine wpAny_pyIter_tuple hT ?_
  have hsz : (s.heap.push { cls := .type "tuple", data := .seq #[.str a t, .str b u] }).objs.size = s.heap.objs.size + 1 := Heap.size_push ..
  refine ⟨_, [_, s.heap.objs.size], [_], _, _, _, bt, rfl, Walks.tuple (A := A.in1) hh _ s.heap.objs.size (by rw [hsz]; exact Nat.ne_of_lt (Nat.lt_succ_self _)) (twoS a b t u),
    ⟨⟨_, Heap.get?_push_size _ rfl, rfl, rfl⟩, hT.push _⟩, fun c hc => ?_, by simp [twoS], hc, fun v h' tk hP hk => ?_⟩
  · show c < ((s.heap.push _).push _).objs.size
    rw [Heap.size_push, hsz]
    rcases List.mem_cons.mp hc with rfl | hc
    · rw [hsz]; exact Nat.lt_succ_self _
    · rcases List.mem_cons.mp hc with rfl | hc
      · exact Nat.lt_succ_of_lt (Nat.lt_succ_self _)
      · cases hc
  · refine h h' tk v (fun c o e => ?_) ?_
    · refine hk c o (fun hm => ?_) (Heap.get?_push_of_some _ (Heap.get?_push_of_some _ e))
      rcases List.mem_cons.mp hm with e1 | hm
      · have z := Heap.lt_size e
        rw [e1, hsz] at z
        exact Nat.lt_irrefl _ (Nat.lt_of_succ_lt z)
      · cases hm
    · have hsz2 : (twoS a b t u).size - 1 = 1 := by simp [twoS]
      rw [hsz2] at hP
      cases q : bt 1 0 with
      | true =>
        have e : argBest bt 1 = 1 := by simp [argBest, q]
        rw [e] at hP
        rw [if_pos rfl]
        exact ⟨u, by simpa [twoS] using hP.symm⟩
      | false =>
        have e : argBest bt 1 = 0 := by simp [argBest, q]
        rw [e] at hP
        rw [if_neg Bool.false_ne_true]
        exact ⟨t, by simpa [twoS] using hP.symm⟩
end
def minS (a b : Str) : Str := if b.cps.toList < a.cps.toList then b else a
def maxS (a b : Str) : Str := if a.cps.toList < b.cps.toList then b else a
def rMinS : List V → Hp → VK → Prop := fun xs H Q => ∃ a b, xs = [.str a, .str b] ∧ Q (.str (minS a b)) H
def rMaxS : List V → Hp → VK → Prop := fun xs H Q => ∃ a b, xs = [.str a, .str b] ∧ Q (.str (maxS a b)) H
section
variable {X : Cx}
theorem call_minS (hc : X.calm = true) : CallR X (.builtin "min") rMinS := by
  intro pins s σ H xs us Q I r h
  obtain ⟨a, b, rfl, q⟩ := h
  obtain ⟨u, w', rfl, ⟨t, rfl⟩, ⟨t', rfl⟩⟩ := vals2 r
  refine call_min_two (two_strs (I.ok.hd hc) (bt := fun i j => decide ((pickS a b i).cps.toList < (pickS a b j).cps.toList)) (fun i j vi vj s Q E hi hj hq => ?_) fun h' tk v k hv => ?_)
  · obtain ⟨t1, rfl⟩ := twoS_at hi
    obtain ⟨t2, rfl⟩ := twoS_at hj
    exact PyProof.Rows.lt_str hq
  · refine ⟨.str (minS a b), H, I.kept k, ?_, q⟩
    unfold minS
    by_cases z : b.cps.toList < a.cps.toList
    · rw [if_pos (decide_eq_true (by simpa [pickS] using z))] at hv
      rw [if_pos z]
      exact hv
    · rw [if_neg (by simpa [pickS] using z)] at hv
      rw [if_neg z]
      exact hv
theorem call_maxS (hc : X.calm = true) : CallR X (.builtin "max") rMaxS := by
  intro pins s σ H xs us Q I r h
  obtain ⟨a, b, rfl, q⟩ := h
  obtain ⟨u, w', rfl, ⟨t, rfl⟩, ⟨t', rfl⟩⟩ := vals2 r
  refine call_max_two (two_strs (I.ok.hd hc) (bt := fun i j => decide ((pickS a b j).cps.toList < (pickS a b i).cps.toList)) (fun i j vi vj s Q E hi hj hq => ?_) fun h' tk v k hv => ?_)
  · obtain ⟨t1, rfl⟩ := twoS_at hi
    obtain ⟨t2, rfl⟩ := twoS_at hj
    exact PySem.P.gt_str hq
  · refine ⟨.str (maxS a b), H, I.kept k, ?_, q⟩
    unfold maxS
    by_cases z : a.cps.toList < b.cps.toList
    · rw [if_pos (decide_eq_true (by simpa [pickS] using z))] at hv
      rw [if_pos z]
      exact hv
    · rw [if_neg (by simpa [pickS] using z)] at hv
      rw [if_neg z]
      exact hv

/-! ### one of two readings -/
theorem pi_or {tg e : Expr} {w1 w2 : TI} (h1 : PI X tg e w1) (h2 : PI X tg e w2) : PI X tg e (fun σ H R => w1 σ H R ∨ w2 σ H R) :=
  ⟨fun pins s σ H R I h => h.elim (h1.run pins s σ H R I) (h2.run pins s σ H R I)⟩
theorem pg_or {tg : Expr} {g1 g2 : TG} (h1 : PG X tg g1) (h2 : PG X tg g2) : PG X tg (fun v σ H Q => g1 v σ H Q ∨ g2 v σ H Q) :=
  ⟨fun pins s σ H v u Q I r h => h.elim (h1.run pins s σ H v u Q I r) (h2.run pins s σ H v u Q I r)⟩
theorem pe_or2 {e : Expr} {t1 t2 : TE} (h1 : PE X e t1) (h2 : PE X e t2) : PE X e (fun σ H Q => t1 σ H Q ∨ t2 σ H Q) :=
  ⟨fun pins s σ H Q I h => h.elim (h1.run pins s σ H Q I) (h2.run pins s σ H Q I)⟩
end
end Pw
set_option Elab.async false
set_option linter.all false
set_option maxRecDepth 100000
set_option maxHeartbeats 4000000
/-! dict(pairs) where the keys are tuples of texts and ints. -/
namespace Pw
open PySem PySem.Spec PyProof.Rows L2
/-- the pair's tuple, the key's tuple, the key, the value -/
abbrev KP := Addr × Addr × List Key × V
def kpD (z : KP) : List Key × V := (z.2.2.1, z.2.2.2)
def foldK (kvs : List (List Key × V)) (more : List (List Key × V)) : List (List Key × V) := more.foldl (fun acc q => putK acc q.1 q.2) kvs
theorem foldK_has (k : List Key) : ∀ (more kvs : List (List Key × V)), (valV (foldK kvs more) k).isSome = ((valV kvs k).isSome || more.any fun q => decide (q.1 = k))
  | [], kvs => by simp [foldK]
  | p :: r, kvs => by
    show (valV (foldK (putK kvs p.1 p.2) r) k).isSome = _
    rw [foldK_has k r, valV_put, List.any_cons]
    by_cases e : k = p.1
    · subst e
      simp
    · have e' : ¬ p.1 = k := fun z => e z.symm
      rw [if_neg e, decide_eq_false e', Bool.false_or]
theorem foldK_len : ∀ (more kvs : List (List Key × V)), (foldK kvs more).length ≤ kvs.length + more.length
  | [], kvs => Nat.le_refl _
  | p :: r, kvs => by
    have h1 := foldK_len r (putK kvs p.1 p.2)
    have h2 : (putK kvs p.1 p.2).length ≤ kvs.length + 1 := by
      unfold putK
      split
      · rw [List.length_map]
        exact Nat.le_succ _
      · rw [List.length_append]
        exact Nat.le_refl _
    show (foldK (putK kvs p.1 p.2) r).length ≤ _
    rw [List.length_cons]
    omega
def rDictT : List V → Hp → VK → Prop := fun xs H Q => ∃ (a : Addr) (zs : List KP), xs = [.ref a] ∧ H a = some (.lst (zs.map fun z => V.ref z.1)) ∧ (∀ z ∈ zs, H z.1 = some (.tup [.ref z.2.1, z.2.2.2]) ∧ H z.2.1 = some (.tup (z.2.2.1.map kV))) ∧
  ∀ p, H p = none → Q (.ref p) (upd H p (.dT (foldK [] (zs.map kpD))))
section
variable {X : Cx} {pins : List (Addr × Obj)} {σ : L2.St} {H : Hp} {s : Shared}
theorem kp_vals (I : Inv X pins σ H s) : ∀ zs : List KP, (∀ z ∈ zs, H z.1 = some (.tup [.ref z.2.1, z.2.2.2]) ∧ H z.2.1 = some (.tup (z.2.2.1.map kV))) →
    ∃ qs : List (List Key × Addr × Value), KT H (zs.map kpD) qs ∧ qs.length = zs.length ∧ ∀ (j : Nat) (q : List Key × Addr × Value), qs[j]? = some q → ∃ z : KP, zs[j]? = some z ∧ q.2.1 = z.2.1 ∧ s.heap.IsTuple z.1 #[.ref q.2.1, q.2.2] ∧ H q.2.1 = some (.tup (q.1.map kV))
  | [], _ => ⟨[], .nil, rfl, fun j q e => by simp at e⟩
  | z :: zs, h => by
    obtain ⟨qs, r, hl, hq⟩ := kp_vals I zs fun y hy => h y (List.mem_cons_of_mem _ hy)
    obtain ⟨h1, h2⟩ := h z List.mem_cons_self
    obtain ⟨_, its, rv, o, ho, hc, n, hd⟩ := (show ObjOk X.prog X.w H s.heap z.1 (.tup [.ref z.2.1, z.2.2.2]) from I.hok _ _ h1)
    obtain ⟨u1, u2, rfl, r1, r2⟩ := vals2 rv
    obtain rfl : u1 = Value.ref z.2.1 := r1
    refine ⟨(z.2.2.1, z.2.1, u2) :: qs, .cons ⟨rfl, h2, r2⟩ r, by rw [List.length_cons, List.length_cons, hl], fun j q e => ?_⟩
    cases j with
    | zero =>
      have e' : (z.2.2.1, z.2.1, u2) = q := Option.some.inj e
      subst e'
      exact ⟨z, rfl, rfl, ⟨o, ho, hc, n, hd⟩, h2⟩
    | succ j =>
      obtain ⟨y, e1, e2⟩ := hq j q (by simpa using e)
      exact ⟨y, by simpa using e1, e2⟩
theorem kt_fold : ∀ {more kvs : List (List Key × V)} {qs xs : List (List Key × Addr × Value)}, KT H more qs → KT H kvs xs → KT H (foldK kvs more) (storedAllH xs qs) := by
  intro more kvs qs xs r
  unfold KT at r
  induction r generalizing kvs xs with
  | nil => intro q; exact q
  | @cons p q ps qs h t ih =>
    intro r0
    have e : KT H (putK kvs p.1 p.2) (storedH xs q.1 q.2.1 q.2.2) := by
      have z := KT.put r0 p.1 h.2.1 h.2.2
      rw [← h.1]
      exact z
    exact ih e
theorem call_dictT (hcalm : X.calm = true) (hu : X.A.units + 3 < cLine) : CallR X (.type "dict") rDictT := by
  intro pins s σ H xs us Q I r q
  obtain ⟨a, zs, rfl, ha, hz, q⟩ := q
  obtain ⟨u, rfl, rx⟩ := vals1 r
  obtain rfl : u = Value.ref a := rx
  obtain ⟨hlen, its, n, rv, hob⟩ := (show ObjOk X.prog X.w H s.heap a (.lst (zs.map fun z => V.ref z.1)) from I.hok _ _ ha)
  rw [List.length_map] at hlen
  obtain ⟨qs, kt, hl, hq⟩ := kp_vals I zs hz
  have ei : its = zs.map fun z => Value.ref z.1 := by
    have z := refs_at (ps := zs.map (·.1)) (us := its) (by rw [List.map_map]; exact rv)
    rw [z, List.map_map]
    rfl
  subst ei
  have items : PairItems s.heap (zs.map fun z => Value.ref z.1).toArray (fun j => ((zs[j]?).map (·.1)).getD 0) (qs.map fun q => (Value.ref q.2.1, q.2.2)) := by
    refine ⟨by simp [hl], fun j k v e => ?_⟩
    rw [List.getElem?_map] at e
    cases eq : qs[j]? with
    | none =>
      rw [eq] at e
      cases e
    | some q =>
      rw [eq] at e
      cases e
      obtain ⟨z, e1, e2, e3, e4⟩ := hq j q eq
      refine ⟨by simp [e1], ?_⟩
      show PairAt s.heap (((zs[j]?).map (·.1)).getD 0) _ _
      rw [e1]
      exact .inl e3
  have hst : KeysStay (tupleKind (mixKind X.prog X.w)) s.heap s.heap.objs.size [] qs := by
    intro h' k x hx
    obtain ⟨j, hj, ej⟩ := List.mem_iff_getElem.mp hx
    obtain ⟨z, e1, e2, e3, e4⟩ := hq j x (by rw [List.getElem?_eq_getElem hj, ej])
    obtain ⟨o, it, n, h1, h2, h3, h4⟩ := key_of I.hok e4
    exact ⟨o, it, n, k _ _ (Nat.ne_of_lt (Heap.lt_size h1)) (by simp) h1, h2, h3, h4⟩
  refine call_dict_pairsH (knd := tupleKind (mixKind X.prog X.w)) (ps := qs) (PairArg.list a (zs.map fun z => Value.ref z.1).toArray (fun j => ((zs[j]?).map (·.1)).getD 0) (qs.map fun q => (Value.ref q.2.1, q.2.2))) (I.ok.hd hcalm) ?_ ⟨⟨_, n, hob, rfl, rfl, rfl⟩, items⟩
    ⟨by simp, fun i key v e => ?_⟩ hst (by simp only [List.length_map]; omega) fun h' tk hd k => ?_
  · show (tupleKind (mixKind X.prog X.w)).room X.A.in1.in1
    exact tupleKind_room_in1 (A := X.A.in1) (by show X.A.units + 1 + 1 < cLine; omega)
  · have e' : (qs.map fun q => (Value.ref q.2.1, q.2.2))[i]? = some (key, v) := e
    rw [List.getElem?_map] at e'
    cases eq : qs[i]? with
    | none =>
      rw [eq] at e'
      cases e'
    | some q =>
      rw [eq] at e'
      cases e'
      exact ⟨q.1, q.2.1, rfl, rfl⟩
  · have hm : (s.heap.objs.size == sysModules) = false := beq_eq_false_iff_ne.mpr (Nat.ne_of_gt I.big)
    have hn := I.hok.fresh (Nat.le_refl s.heap.objs.size)
    have hlen2 : (foldK [] (zs.map kpD)).length ≤ sizeLine := by
      refine Nat.le_trans (foldK_len _ _) ?_
      rw [List.length_nil, Nat.zero_add, List.length_map]
      exact hlen
    obtain ⟨o, es, ep, d1, d2, d3, d4, d5, d6⟩ := hd
    have kt2 : KT (upd H s.heap.objs.size (.dT (foldK [] (zs.map kpD)))) (foldK [] (zs.map kpD)) (storedAllH [] qs) :=
      (kt_fold kt .nil).keeps fun b ys e => by
        rw [upd_ne (ne_of_none e hn)]
        exact e
    exact ⟨.ref s.heap.objs.size, upd H s.heap.objs.size (.dT (foldK [] (zs.map kpD))), I.laid (t' := tk) (fun b o e => k b o (by simp) e) (Nat.le_refl _) (show ObjOk X.prog X.w _ _ _ (.dT _) from ⟨hlen2, hm, _, kt2, o, es, ep, d1, d2, d3, d4, d6⟩), rfl, q _ hn⟩
end
end Pw
set_option Elab.async false
set_option linter.all false
set_option maxRecDepth 100000
set_option maxHeartbeats 4000000
/-! What the top has left, by names; a def by its name; the heap's words; the data. -/
namespace Pw
open PySem PySem.Spec PyProof.Rows L2

/-! ### the facts of the top -/
structure Tx (K : PySem.W.Frag) (mg : Str → Option Value) : Prop where
  says : He.SaysD fa fn K
  hp : ∃ h : Heap, K.In h ∧ h.Ns mainGlobals mg
  ex : exB K = true
section
variable {K : PySem.W.Frag} {mg : Str → Option Value}
theorem Tx.ex1 (T : Tx K mg) : (exB1 K && webB K (He.ga K "Web")) = true := (Bool.and_eq_true_iff.mp T.ex).1
theorem Tx.tabs (T : Tx K mg) : (He.cT K ("_law_refused_right", none)).2 ≠ (He.cT K ("_law_pictures_right", none)).2 := of_decide_eq_false (by
  have h := (Bool.and_eq_true_iff.mp T.ex).2
  rwa [Bool.not_eq_true'] at h)
theorem Tx.glo (T : Tx K mg) (i : Nat) {x : Str} (h : fa[i]? = some (.glo x) := by rfl) : mg x = some (.ref (He.ga K x)) := by
  obtain ⟨h0, X, G⟩ := T.hp
  exact He.glo_ok X G (T.says.fact i h)
theorem Tx.free (T : Tx K mg) (i : Nat) {x : Str} (h : fa[i]? = some (.free x) := by rfl) : mg x = none := by
  obtain ⟨h0, X, G⟩ := T.hp
  exact He.free_ok X G (T.says.fact i h)
theorem Tx.str (T : Tx K mg) (i : Nat) {x z : Str} (h : fa[i]? = some (.str x z) := by rfl) : ∃ t, mg x = some (.str z t) := by
  obtain ⟨h0, X, G⟩ := T.hp
  exact He.str_ok X G (T.says.fact i h)
theorem Tx.abs (T : Tx K mg) : mg "abs" = none := T.free 48
theorem Tx.all (T : Tx K mg) : mg "all" = none := T.free 49
theorem Tx.any (T : Tx K mg) : mg "any" = none := T.free 50
theorem Tx.bool (T : Tx K mg) : mg "bool" = none := T.free 51
theorem Tx.dict (T : Tx K mg) : mg "dict" = none := T.free 52
theorem Tx.enumerate (T : Tx K mg) : mg "enumerate" = none := T.free 53
theorem Tx.int (T : Tx K mg) : mg "int" = none := T.free 54
theorem Tx.isinstance (T : Tx K mg) : mg "isinstance" = none := T.free 55
theorem Tx.len (T : Tx K mg) : mg "len" = none := T.free 56
theorem Tx.list (T : Tx K mg) : mg "list" = none := T.free 57
theorem Tx.max (T : Tx K mg) : mg "max" = none := T.free 58
theorem Tx.min (T : Tx K mg) : mg "min" = none := T.free 59
theorem Tx.range (T : Tx K mg) : mg "range" = none := T.free 60
theorem Tx.repr (T : Tx K mg) : mg "repr" = none := T.free 61
theorem Tx.sorted (T : Tx K mg) : mg "sorted" = none := T.free 62
theorem Tx.strT (T : Tx K mg) : mg "str" = none := T.free 63
theorem Tx.tuple (T : Tx K mg) : mg "tuple" = none := T.free 64
theorem Tx.zip (T : Tx K mg) : mg "zip" = none := T.free 65
end

section
variable {K : PySem.W.Frag} {mg : Str → Option Value}
structure WebF (K : PySem.W.Frag) : Prop where
  cc : PySem.W.findIn K (.ref (He.ga K "Web")) "__class__" = some (some (.builtin "object.__class__"))
  cg : PySem.W.specialIn K (.builtin "object.__class__") "__get__" = some (some (.builtin "getset_descriptor.__get__"))
  ct : PySem.W.takesIn K (.builtin "object.__class__") = some true
  cm : PySem.W.mroIn K (He.ga K "Web") (.type "object") = some true
  ne : PySem.W.findIn K (.ref (He.ga K "Web")) "__ne__" = some (some (.builtin "object.__ne__"))
  ob : PySem.W.subIn K (.ref (He.ga K "Web")) (.type "object") = some true
  isW : ∀ t ∈ tys, PySem.W.kitOne K t (.ref (He.ga K "Web")) = some false
  nf : ∀ t ∈ tys, PySem.W.notFirst K (He.ga K "Web") t = true
  isB : ∀ t ∈ tys, PySem.W.kitOne K (.ref (He.ga K "Web")) t = some false
theorem Tx.web (T : Tx K mg) : WebF K := by
  have h : (exB1 K && webB K (He.ga K "Web")) = true := T.ex1
  obtain ⟨_, h⟩ := Bool.and_eq_true_iff.mp h
  unfold webB at h
  simp only [Bool.and_eq_true, List.all_eq_true] at h
  obtain ⟨h1, h2, h3, h4, h5, h6, h7⟩ := h
  exact ⟨He.eqO_ok h1, He.eqO_ok h2, of_decide_eq_true h3, of_decide_eq_true h4, He.eqO_ok h5, of_decide_eq_true h6, fun t ht => of_decide_eq_true (h7 t ht).1, fun t ht => (h7 t ht).2.1, fun t ht => of_decide_eq_true (h7 t ht).2.2⟩
theorem Tx.cls (T : Tx K mg) : Cls K (He.ga K "Web") := He.cls_ok (T.says.fact 69 (f := .cls "Web") rfl)
theorem Tx.nP (T : Tx K mg) : NoAttr K (He.ga K "Web") "own_places" := He.noat_ok (T.says.fact 70 (f := .noat "Web" "own_places") rfl)
theorem Tx.nN (T : Tx K mg) : NoAttr K (He.ga K "Web") "own_near" := He.noat_ok (T.says.fact 71 (f := .noat "Web" "own_near") rfl)
theorem Tx.mkW (T : Tx K mg) : Mk K (He.ga K "Web") (He.ma K (He.ga K "Web") "__init__") := He.mkr_ok (T.says.fact 72 (f := .mkr "Web") rfl)
theorem Tx.m_places (T : Tx K mg) : Meth K (He.ga K "Web") "places" (He.ma K (He.ga K "Web") "places") := He.meth_ok (T.says.fact 74 (f := .meth "Web" "places") rfl)
theorem Tx.m_ties (T : Tx K mg) : Meth K (He.ga K "Web") "ties" (He.ma K (He.ga K "Web") "ties") := He.meth_ok (T.says.fact 75 (f := .meth "Web" "ties") rfl)
theorem Tx.m_ties_of (T : Tx K mg) : Meth K (He.ga K "Web") "ties_of" (He.ma K (He.ga K "Web") "ties_of") := He.meth_ok (T.says.fact 76 (f := .meth "Web" "ties_of") rfl)
theorem Tx.m_eq (T : Tx K mg) : Meth K (He.ga K "Web") "__eq__" (He.ma K (He.ga K "Web") "__eq__") := He.meth_ok (T.says.fact 77 (f := .meth "Web" "__eq__") rfl)
theorem Tx.words (T : Tx K mg) (H : Hp) : SqT K H (He.ga K "WORDS") (words.map V.str) := by
  have h : (exB1 K && webB K (He.ga K "Web")) = true := T.ex1
  obtain ⟨h, _⟩ := Bool.and_eq_true_iff.mp h
  obtain ⟨h, _⟩ := Bool.and_eq_true_iff.mp h
  have q := He.tupB_ok h H
  rw [List.map_map] at q
  exact q
end
/-! ### a def of the module, by its name -/
def Ok (P : Program) (w : World) (K : PySem.W.Frag) (mg : Str → Option Value) (base : Heap) (CX : CXT) (k : Nat) (x : Str) (ps : List Str) (sp : Sp) : Prop :=
  ∃ f fd, mg x = some (.ref f) ∧ PySem.W.keepIn K (.ref f) = true ∧ L2.Binds K fd ps [] ∧ FnOk P w K mg base CX k f fd ps sp
section
variable {P : Program} {w : World} {K : PySem.W.Frag} {mg : Str → Option Value} {base : Heap} {CX : CXT} {k : Nat} {x : Str} {ps : List Str} {sp : Sp}
theorem Ok.mono (F : Ok P w K mg base CX k x ps sp) {j : Nat} (h : k ≤ j) : Ok P w K mg base CX j x ps sp := by
  obtain ⟨f, fd, a, b, c, d⟩ := F
  exact ⟨f, fd, a, b, c, d.mono h⟩
theorem Ok.imp (F : Ok P w K mg base CX k x ps sp) {sp' : Sp} (h : ∀ vs H Q E, sp' vs H Q E → sp vs H Q E) : Ok P w K mg base CX k x ps sp' := by
  obtain ⟨f, fd, a, b, c, d⟩ := F
  exact ⟨f, fd, a, b, c, d.imp h⟩
/-- a module's def keeps its promise: i its place among fn, j among fa -/
theorem mkOkX {d : He.DefD} (T : Tx K mg) (i j : Nat) (hi : fn[i]? = some d) (hj : fa[j]? = some (.glo d.name)) (ha : d.at_ = (d.name, none)) (hd : d.dfl = []) (hk : d.kwd = []) {N ps : List Str} {k : Nat} {sp : Sp}
    (hb : ∀ (kV doc pm : Value) (an : Option Addr) (cdv ct : Value) (us : List Value), us.length = ps.length → bindArgs (PySem.W.fnOf d.name d.qual d.params d.body d.scope .none kV doc pm an cdv ct) ⟨us, []⟩ = pure (ps.zip us))
    (S : FnScope N ps d.scope) (len : ∀ vs H Q E, sp vs H Q E → vs.length = ps.length)
    (hbody : ∀ (f : Addr) (cdv : Value) (A : Around) (outer : List Env) (s : Shared) (H : Hp) (vs : List V) (Q : VK) (E : XK), Room k (A.deeper (envOfC d.qual d.scope s.heap.objs.size f cdv)) → sp vs H Q E →
      ∃ t, PSs (cxOf (L2.CX P w) P w K mg base N d.qual d.scope f cdv A outer s H E) d.body t ∧ t { nx := fun _ H' => Q .non H', rt := Q } (start N vs) H) : Ok P w K mg base (L2.CX P w) (k + 1) d.name ps sp := by
  obtain ⟨fd, F⟩ := T.says.def_ i hi
  have e1 : d.dvs K = [] := by unfold He.DefD.dvs; rw [hd]; rfl
  have e2 : d.kws K = [] := by unfold He.DefD.kws; rw [hk]; rfl
  rw [e1, e2] at F
  refine ⟨_, fd, ?_, F.kp, F.bindsN hb, F.ok S len (hbody _)⟩
  have e : He.fAd K d.at_ = He.ga K d.name := by rw [ha]; rfl
  rw [e]
  exact T.glo j hj
/-- a module's def that lets nothing out keeps its promise: i its place among fn, j among fa -/
theorem mkOk {d : He.DefD} (T : Tx K mg) (i j : Nat) (hi : fn[i]? = some d) (hj : fa[j]? = some (.glo d.name)) (ha : d.at_ = (d.name, none)) (hd : d.dfl = []) (hk : d.kwd = []) {N ps : List Str} {k : Nat} {sp : Sp}
    (hb : ∀ (kV doc pm : Value) (an : Option Addr) (cdv ct : Value) (us : List Value), us.length = ps.length → bindArgs (PySem.W.fnOf d.name d.qual d.params d.body d.scope .none kV doc pm an cdv ct) ⟨us, []⟩ = pure (ps.zip us))
    (S : FnScope N ps d.scope) (len : ∀ vs H Q E, sp vs H Q E → vs.length = ps.length)
    (hbody : ∀ (f : Addr) (cdv : Value) (A : Around) (outer : List Env) (s : Shared) (H : Hp) (vs : List V) (Q : VK) (E : XK), Room k (A.deeper (envOfC d.qual d.scope s.heap.objs.size f cdv)) → sp vs H Q E →
      ∃ t, PSs (cxOf CX0 P w K mg base N d.qual d.scope f cdv A outer s H E).nox d.body t ∧ t { nx := fun _ H' => Q .non H', rt := Q } (start N vs) H) : Ok P w K mg base CX0 (k + 1) d.name ps sp := by
  obtain ⟨fd, F⟩ := T.says.def_ i hi
  have e1 : d.dvs K = [] := by unfold He.DefD.dvs; rw [hd]; rfl
  have e2 : d.kws K = [] := by unfold He.DefD.kws; rw [hk]; rfl
  rw [e1, e2] at F
  refine ⟨_, fd, ?_, F.kp, F.bindsN hb, F.ok S len fun cdv A outer s H vs Q E hr h => ?_⟩
  · have e : He.fAd K d.at_ = He.ga K d.name := by rw [ha]; rfl
    rw [e]
    exact T.glo j hj
  · obtain ⟨t, a, q⟩ := hbody _ cdv A outer s H vs Q E hr h
    exact ⟨t, a.nox, q⟩
end
section
variable {X : Cx} {CX : CXT} {k : Nat} {ps : List Str} {sp : Sp} {E : XK} {x : Str} {p pos : Pos} {e : Expr} {es : List Expr} {t : TA}
theorem pe_ok (F : Ok X.prog X.w X.K X.mg X.base CX k x ps sp) (hr : Room k X.A) (hx : Passes CX X E) (ha : PA X (e :: es) t) (hg : Gl X x := by rfl) (hdb : (x == ("__debug__" : Str)) = false := by decide)
    (he : starEach (e :: es) X.env = (false, eval e X.env) :: starEach es X.env := by rfl) (hpl : (backTo pos (starEach es X.env)).any (·.1) = false := by rfl) : PE X (.Call (.Name x p) (e :: es) [] pos) (tCall sp [] E t) := by
  obtain ⟨f, fd, a, b, c, d⟩ := F
  exact pe_call d hr hg a b c .nil hx ha hdb he hpl
theorem pe_ok0 (F : Ok X.prog X.w X.K X.mg X.base CX k x ps sp) (hr : Room k X.A) (hx : Passes CX X E) (hg : Gl X x := by rfl) (hdb : (x == ("__debug__" : Str)) = false := by decide) : PE X (.Call (.Name x p) [] [] pos) (tCall sp [] E tNil) := by
  obtain ⟨f, fd, a, b, c, d⟩ := F
  exact pe_call0 d hr hg a b c .nil hx hdb
end

/-! ### heaps -/
/-- all that is known but a and b stands as it stood -/
def Kp (a b : Addr) (H H' : Hp) : Prop := ∀ c o, H c = some o → c ≠ a → c ≠ b → H' c = some o
theorem Kp.refl {a b : Addr} (H : Hp) : Kp a b H H := fun _ _ h _ _ => h
theorem Kp.trans {a b : Addr} {H H1 H2 : Hp} (x : Kp a b H H1) (y : Kp a b H1 H2) : Kp a b H H2 := fun c o h ha hb => y c o (x c o h ha hb) ha hb
theorem Kp.of {a b : Addr} {H H' : Hp} (x : Same H H') : Kp a b H H' := fun c o h _ _ => x c o h
theorem same_refl (H : Hp) : Same H H := fun _ _ h => h
theorem same_trans {H H1 H2 : Hp} (x : Same H H1) (y : Same H1 H2) : Same H H2 := fun c o h => y c o (x c o h)
theorem same_new {H : Hp} {p : Addr} {o : HO} (h : H p = none) : Same H (upd H p o) := fun c u e => by
  rw [upd_ne (ne_of_none e h)]
  exact e
theorem kp_new {a b : Addr} {H : Hp} {p : Addr} {o : HO} (h : H p = none) : Kp a b H (upd H p o) := .of (same_new h)
/-- an object that the entry does not know may change -/
theorem same_mut {H H' : Hp} {p : Addr} {o : HO} (e : Same H H') (h : H p = none) : Same H (upd H' p o) := fun a u ha => by
  rw [upd_ne (ne_of_none ha h)]
  exact e a u ha
theorem kp_mut {a b : Addr} {H H' : Hp} {p : Addr} {o : HO} (e : Kp a b H H') (h : H p = none) : Kp a b H (upd H' p o) := fun c u hc x y => by
  rw [upd_ne (ne_of_none hc h)]
  exact e c u hc x y
theorem upd_at {H : Hp} {p c : Addr} {o u : HO} (h : H c = some u) (n : c ≠ p) : upd H p o c = some u := by
  rw [upd_ne n]
  exact h
end Pw
set_option Elab.async false
set_option linter.all false
set_option maxRecDepth 100000
set_option maxHeartbeats 4000000
/-! The data that the program hands about: what a value stands for; lists against []. -/
namespace Pw
open PySem PySem.Spec PyProof.Rows L2

/-! ### lists against the empty list -/
def rNeNil (K : PySem.W.Frag) : R2 := fun x y H Q => ∃ a b xs, x = .ref a ∧ y = .ref b ∧ SqL K H a xs ∧ SqL K H b [] ∧ Q (.bl (!xs.isEmpty)) H
section
variable {X : Cx}
theorem op_neNil (hu : X.A.units + 64 < cLine) : OpR X (compareOp .NotEq) (rNeNil X.K) := by
  intro pins s σ H x y v u Q I rx ry h
  obtain ⟨a, b, xs, rfl, rfl, ha, hb, q⟩ := h
  obtain rfl : v = Value.ref a := rx
  obtain rfl : u = Value.ref b := ry
  obtain ⟨its, rv, hl, _⟩ := I.list ha
  obtain ⟨jts, rw', hm, _⟩ := I.list hb
  cases rw'
  have hu' : X.A.units < cLine := by omega
  have il : ∀ {p : Addr} {zs : Array Value}, PlainL s.heap p zs → s.heap.IsList p zs := fun hz => by
    obtain ⟨o, n, ho, hc, _, hd⟩ := hz
    exact ⟨o, ho, hc, n, hd⟩
  have hl := il hl
  have hm := il hm
  cases xs with
  | nil =>
    cases rv
    exact SeqAt.RcNeAt.lists (e := fun _ => true) hl hm rfl hu' (fun j h1 h2 => absurd h1 (Nat.not_lt_zero _)) X.prog X.w X.xe _ ⟨.bl _, H, I, rfl, q⟩
  | cons x xs =>
    cases rv with
    | cons r1 r2 => exact SeqAt.RcNeAt.lists_lengths hl hm rfl hu' X.prog X.w X.xe _ ⟨.bl _, H, I, rfl, q⟩
end

/-! ### data -/
inductive Dt where
  | non | bl (b : Bool) | int (i : Int) | str (s : Str)
  | seq (l : Bool) (xs : List Dt)
  | dic (kvs : List (Key × V))
  | web (n : Near)
/-- a Web's attributes -/
def flds (t d : Addr) : List (Str × V) := [("own_places", V.ref t), ("own_near", V.ref d)]
def WebAt (K : PySem.W.Frag) (N : Addr → Prop) (H : Hp) (p : Addr) (n : Near) : Prop := ∃ dx t d, H p = some (.ins (He.ga K "Web") dx (flds t d)) ∧ N t ∧ N d ∧ H t = some (.tup (n.map fun q => V.str q.1)) ∧ NearAt N H d n ∧ NearOk n
mutual
/-- v is d, its objects at addresses that N lets -/
def Rep (K : PySem.W.Frag) (N : Addr → Prop) (H : Hp) : Dt → V → Prop
  | .non, v => v = .non
  | .bl b, v => v = .bl b
  | .int i, v => v = .int i
  | .str s, v => v = .str s
  | .seq l xs, v => ∃ p vs, v = .ref p ∧ N p ∧ H p = some (if l then .lst vs else .tup vs) ∧ RepL K N H xs vs
  | .dic kvs, v => ∃ p, v = .ref p ∧ N p ∧ H p = some (.dK kvs)
  | .web n, v => ∃ p, v = .ref p ∧ N p ∧ WebAt K N H p n
def RepL (K : PySem.W.Frag) (N : Addr → Prop) (H : Hp) : List Dt → List V → Prop
  | [], vs => vs = []
  | d :: ds, vs => ∃ v ws, vs = v :: ws ∧ Rep K N H d v ∧ RepL K N H ds ws
end
section
variable {K : PySem.W.Frag} {N N' : Addr → Prop} {H H' : Hp}
theorem WebAt.step {p : Addr} {n : Near} (h : WebAt K N H p n) (hp : N p) (hn : ∀ c, N c → N' c) (hk : ∀ c o, N c → H c = some o → H' c = some o) : WebAt K N' H' p n := by
  obtain ⟨dx, t, d, h1, h2, h3, h4, ⟨z, h5, h6, h7⟩, h8⟩ := h
  exact ⟨dx, t, d, hk _ _ hp h1, hn _ h2, hn _ h3, hk _ _ h2 h4, ⟨z, h5, hk _ _ h3 h6, fun q hq => ⟨hn _ (h7 q hq).1, hk _ _ (h7 q hq).1 (h7 q hq).2⟩⟩, h8⟩
mutual
theorem Rep.step (hn : ∀ c, N c → N' c) (hk : ∀ c o, N c → H c = some o → H' c = some o) : ∀ (d : Dt) (v : V), Rep K N H d v → Rep K N' H' d v
  | .non, _, h => h
  | .bl _, _, h => h
  | .int _, _, h => h
  | .str _, _, h => h
  | .seq l xs, _, h => by
    obtain ⟨p, vs, e, hp, ho, hr⟩ := h
    exact ⟨p, vs, e, hn p hp, hk p _ hp ho, RepL.step hn hk xs vs hr⟩
  | .dic _, _, h => by
    obtain ⟨p, e, hp, ho⟩ := h
    exact ⟨p, e, hn p hp, hk p _ hp ho⟩
  | .web _, _, h => by
    obtain ⟨p, e, hp, ho⟩ := h
    exact ⟨p, e, hn p hp, ho.step hp hn hk⟩
theorem RepL.step (hn : ∀ c, N c → N' c) (hk : ∀ c o, N c → H c = some o → H' c = some o) : ∀ (ds : List Dt) (vs : List V), RepL K N H ds vs → RepL K N' H' ds vs
  | [], _, h => h
  | d :: ds, _, h => by
    obtain ⟨v, ws, e, h1, h2⟩ := h
    exact ⟨v, ws, e, Rep.step hn hk d v h1, RepL.step hn hk ds ws h2⟩
end
theorem RepL.len : ∀ {ds : List Dt} {vs : List V}, RepL K N H ds vs → vs.length = ds.length
  | [], _, h => by
    obtain rfl : _ = [] := h
    rfl
  | d :: ds, _, h => by
    obtain ⟨v, ws, rfl, h1, h2⟩ := h
    rw [List.length_cons, List.length_cons, RepL.len h2]
theorem RepL.get : ∀ {ds : List Dt} {vs : List V} {i : Nat} {v : V}, RepL K N H ds vs → vs[i]? = some v → ∃ d, ds[i]? = some d ∧ Rep K N H d v
  | [], _, i, v, h, e => by
    obtain rfl : _ = [] := h
    simp at e
  | d :: ds, _, 0, v, h, e => by
    obtain ⟨v', ws, rfl, h1, h2⟩ := h
    simp at e
    subst e
    exact ⟨d, by simp, h1⟩
  | d :: ds, _, i + 1, v, h, e => by
    obtain ⟨v', ws, rfl, h1, h2⟩ := h
    obtain ⟨d', e1, e2⟩ := RepL.get (i := i) h2 (by simpa using e)
    exact ⟨d', by simpa using e1, e2⟩
theorem RepL.get' : ∀ {ds : List Dt} {vs : List V} {i : Nat} {d : Dt}, RepL K N H ds vs → ds[i]? = some d → ∃ v, vs[i]? = some v ∧ Rep K N H d v
  | [], _, i, v, h, e => by simp at e
  | d :: ds, _, 0, v, h, e => by
    obtain ⟨v', ws, rfl, h1, h2⟩ := h
    simp at e
    subst e
    exact ⟨v', by simp, h1⟩
  | d :: ds, _, i + 1, v, h, e => by
    obtain ⟨v', ws, rfl, h1, h2⟩ := h
    obtain ⟨d', e1, e2⟩ := RepL.get' (i := i) h2 (by simpa using e)
    exact ⟨d', by simpa using e1, e2⟩
theorem RepL.app : ∀ {ds es : List Dt} {vs ws : List V}, RepL K N H ds vs → RepL K N H es ws → RepL K N H (ds ++ es) (vs ++ ws)
  | [], es, _, ws, h, h' => by
    obtain rfl : _ = [] := h
    exact h'
  | d :: ds, es, _, ws, h, h' => by
    obtain ⟨v, us, rfl, h1, h2⟩ := h
    exact ⟨v, us ++ ws, rfl, h1, RepL.app h2 h'⟩
theorem RepL.one {d : Dt} {v : V} (h : Rep K N H d v) : RepL K N H [d] [v] := ⟨v, [], rfl, h, rfl⟩
theorem RepL.snoc {ds : List Dt} {vs : List V} {d : Dt} {v : V} (h : RepL K N H ds vs) (h' : Rep K N H d v) : RepL K N H (ds ++ [d]) (vs ++ [v]) := h.app (.one h')
theorem RepL.cons {ds : List Dt} {vs : List V} {d : Dt} {v : V} (h' : Rep K N H d v) (h : RepL K N H ds vs) : RepL K N H (d :: ds) (v :: vs) := ⟨v, vs, rfl, h', h⟩
theorem RepL.nil : RepL K N H [] [] := rfl
theorem RepL.erase : ∀ {ds : List Dt} {vs : List V} (i : Nat), RepL K N H ds vs → RepL K N H (ds.eraseIdx i) (vs.eraseIdx i)
  | [], _, i, h => by
    obtain rfl : _ = [] := h
    exact RepL.nil
  | d :: ds, _, 0, h => by
    obtain ⟨v, us, rfl, h1, h2⟩ := h
    exact h2
  | d :: ds, _, i + 1, h => by
    obtain ⟨v, us, rfl, h1, h2⟩ := h
    exact ⟨v, us.eraseIdx i, rfl, h1, RepL.erase i h2⟩
theorem RepL.drop : ∀ {ds : List Dt} {vs : List V} (i : Nat), RepL K N H ds vs → RepL K N H (ds.drop i) (vs.drop i)
  | ds, vs, 0, h => h
  | [], _, i + 1, h => by
    obtain rfl : _ = [] := h
    exact RepL.nil
  | d :: ds, _, i + 1, h => by
    obtain ⟨v, us, rfl, h1, h2⟩ := h
    exact RepL.drop i h2
theorem RepL.take : ∀ {ds : List Dt} {vs : List V} (i : Nat), RepL K N H ds vs → RepL K N H (ds.take i) (vs.take i)
  | ds, vs, 0, h => RepL.nil
  | [], _, i + 1, h => by
    obtain rfl : _ = [] := h
    exact RepL.nil
  | d :: ds, _, i + 1, h => by
    obtain ⟨v, us, rfl, h1, h2⟩ := h
    exact ⟨v, us.take i, rfl, h1, RepL.take i h2⟩
theorem RepL.mem : ∀ {ds : List Dt} {vs : List V}, RepL K N H ds vs → ∀ v ∈ vs, ∃ d ∈ ds, Rep K N H d v := fun h v hv => by
  obtain ⟨i, hi, e⟩ := List.getElem_of_mem hv
  obtain ⟨d, e1, e2⟩ := h.get (i := i) (v := v) (by rw [List.getElem?_eq_getElem hi, e])
  exact ⟨d, List.mem_of_getElem? e1, e2⟩
end

/-! ### the shapes of this program -/
abbrev Tie := Str × Str × Int
def dStrs (ns : List Str) : Dt := .seq true (ns.map .str)
def dTie (t : Tie) : Dt := .seq false [.str t.1, .str t.2.1, .int t.2.2]
def dTies (ts : List Tie) : Dt := .seq true (ts.map dTie)
def dRaw (ns : List Str) (ts : List Tie) : Dt := .seq false [dStrs ns, dTies ts]
def dRow (r : List Int) : Dt := .seq true (r.map .int)
def dPic (p : List (List Int)) : Dt := .seq true (p.map dRow)
section
variable {K : PySem.W.Frag} {N : Addr → Prop} {H : Hp}
theorem repL_strs : ∀ {ns : List Str} {vs : List V}, RepL K N H (ns.map .str) vs ↔ vs = ns.map V.str
  | [], vs => Iff.rfl
  | n :: ns, vs => by
    constructor
    · rintro ⟨v, ws, rfl, h1, h2⟩
      rw [show v = V.str n from h1, repL_strs.mp h2]
      rfl
    · rintro rfl
      exact ⟨_, _, rfl, rfl, repL_strs.mpr rfl⟩
theorem repL_ints : ∀ {ns : List Int} {vs : List V}, RepL K N H (ns.map .int) vs ↔ vs = ns.map V.int
  | [], vs => Iff.rfl
  | n :: ns, vs => by
    constructor
    · rintro ⟨v, ws, rfl, h1, h2⟩
      rw [show v = V.int n from h1, repL_ints.mp h2]
      rfl
    · rintro rfl
      exact ⟨_, _, rfl, rfl, repL_ints.mpr rfl⟩
theorem rep_strs {ns : List Str} {v : V} : Rep K N H (dStrs ns) v ↔ ∃ p, v = .ref p ∧ N p ∧ H p = some (.lst (ns.map V.str)) := by
  constructor
  · rintro ⟨p, vs, e, hp, ho, hr⟩
    rw [repL_strs.mp hr] at ho
    exact ⟨p, e, hp, ho⟩
  · rintro ⟨p, e, hp, ho⟩
    exact ⟨p, _, e, hp, ho, repL_strs.mpr rfl⟩
theorem rep_row {ns : List Int} {v : V} : Rep K N H (dRow ns) v ↔ ∃ p, v = .ref p ∧ N p ∧ H p = some (.lst (ns.map V.int)) := by
  constructor
  · rintro ⟨p, vs, e, hp, ho, hr⟩
    rw [repL_ints.mp hr] at ho
    exact ⟨p, e, hp, ho⟩
  · rintro ⟨p, e, hp, ho⟩
    exact ⟨p, _, e, hp, ho, repL_ints.mpr rfl⟩
theorem rep_tie {t : Tie} {v : V} : Rep K N H (dTie t) v ↔ ∃ p, v = .ref p ∧ N p ∧ H p = some (.tup [.str t.1, .str t.2.1, .int t.2.2]) := by
  constructor
  · rintro ⟨p, vs, e, hp, ho, v1, w1, rfl, e1, v2, w2, rfl, e2, v3, w3, rfl, e3, e4⟩
    obtain rfl : w3 = [] := e4
    obtain rfl : v1 = _ := e1
    obtain rfl : v2 = _ := e2
    obtain rfl : v3 = _ := e3
    exact ⟨p, e, hp, ho⟩
  · rintro ⟨p, e, hp, ho⟩
    exact ⟨p, _, e, hp, ho, _, _, rfl, rfl, _, _, rfl, rfl, _, _, rfl, rfl, rfl⟩
theorem rep_ties {ts : List Tie} {v : V} : Rep K N H (dTies ts) v ↔ ∃ p vs, v = .ref p ∧ N p ∧ H p = some (.lst vs) ∧ RepL K N H (ts.map dTie) vs := Iff.rfl
theorem rep_raw {ns : List Str} {ts : List Tie} {v : V} : Rep K N H (dRaw ns ts) v ↔ ∃ p a b, v = .ref p ∧ N p ∧ H p = some (.tup [a, b]) ∧ Rep K N H (dStrs ns) a ∧ Rep K N H (dTies ts) b := by
  constructor
  · rintro ⟨p, vs, e, hp, ho, v1, w1, rfl, e1, v2, w2, rfl, e2, e3⟩
    obtain rfl : w2 = [] := e3
    exact ⟨p, v1, v2, e, hp, ho, e1, e2⟩
  · rintro ⟨p, a, b, e, hp, ho, e1, e2⟩
    exact ⟨p, _, e, hp, ho, _, _, rfl, e1, _, _, rfl, e2, rfl⟩
end

/-! ### data as the library's data -/
mutual
def Dt.py : Dt → PyData
  | .non => .none
  | .bl b => .bool b
  | .int i => .int i
  | .str s => .str s
  | .seq l xs => if l then .list (Dt.pyL xs) else .tuple (Dt.pyL xs)
  | .dic _ => .none
  | .web _ => .none
def Dt.pyL : List Dt → List PyData
  | [] => []
  | d :: ds => Dt.py d :: Dt.pyL ds
end
mutual
/-- lists, tuples and flat things, no deeper than n, of texts that can be laid -/
def Dt.pl : Nat → Dt → Bool
  | _, .non => true
  | _, .bl _ => true
  | _, .int _ => true
  | _, .str s => PyData.strOk s
  | 0, .seq _ _ => false
  | n + 1, .seq _ xs => Dt.plL n xs
  | _, .dic _ => false
  | _, .web _ => false
def Dt.plL : Nat → List Dt → Bool
  | _, [] => true
  | n, d :: ds => Dt.pl n d && Dt.plL n ds
end
section
variable {K : PySem.W.Frag} {N : Addr → Prop} {H : Hp}
mutual
theorem Rep.dp : ∀ (n : Nat) (d : Dt) (v : V), Rep K N H d v → d.pl n = true → Dp K H v d.py
  | _, .non, _, h, _ => by
    obtain rfl : _ = V.non := h
    exact .non
  | _, .bl b, _, h, _ => by
    obtain rfl : _ = V.bl b := h
    exact .bl b
  | _, .int i, _, h, _ => by
    obtain rfl : _ = V.int i := h
    exact .int i
  | _, .str s, _, h, _ => by
    obtain rfl : _ = V.str s := h
    exact .str s
  | 0, .seq l xs, _, h, hp => by simp [Dt.pl] at hp
  | n + 1, .seq l xs, _, h, hp => by
    obtain ⟨p, vs, rfl, _, ho, hr⟩ := h
    have q := RepL.dp n xs vs hr (by simpa [Dt.pl] using hp)
    cases l with
    | true => exact .lst (SqL.of ho) q
    | false => exact .tup (SqT.of ho) q
  | _, .dic _, _, h, hp => by simp [Dt.pl] at hp
  | _, .web _, _, h, hp => by simp [Dt.pl] at hp
theorem RepL.dp : ∀ (n : Nat) (ds : List Dt) (vs : List V), RepL K N H ds vs → Dt.plL n ds = true → DpAll K H vs (Dt.pyL ds)
  | _, [], _, h, _ => by
    obtain rfl : _ = [] := h
    exact .nil
  | n, d :: ds, _, h, hp => by
    obtain ⟨v, ws, rfl, h1, h2⟩ := h
    have hp' : (Dt.pl n d && Dt.plL n ds) = true := by simpa [Dt.plL] using hp
    obtain ⟨p1, p2⟩ := Bool.and_eq_true_iff.mp hp'
    exact .cons (Rep.dp n d v h1 p1) (RepL.dp n ds ws h2 p2)
end
mutual
theorem Dt.lay : ∀ (n : Nat) (d : Dt), d.pl n = true → d.py.canLay0 = true ∧ d.py.depth ≤ n
  | _, .non, _ => by simp [Dt.py, PyData.canLay0, PyData.depth]
  | _, .bl b, _ => by simp [Dt.py, PyData.canLay0, PyData.depth]
  | _, .int i, _ => by simp [Dt.py, PyData.canLay0, PyData.depth]
  | _, .str s, h => by
    have h' : PyData.strOk s = true := by simpa [Dt.pl] using h
    simp [Dt.py, PyData.canLay0, PyData.depth, h']
  | 0, .seq l xs, h => by simp [Dt.pl] at h
  | n + 1, .seq l xs, h => by
    obtain ⟨a, b⟩ := Dt.layL n xs (by simpa [Dt.pl] using h)
    cases l <;> simp [Dt.py, PyData.canLay0, PyData.depth, a] <;> omega
  | _, .dic _, h => by simp [Dt.pl] at h
  | _, .web _, h => by simp [Dt.pl] at h
theorem Dt.layL : ∀ (n : Nat) (ds : List Dt), Dt.plL n ds = true → PyData.canLayAll0 (Dt.pyL ds) = true ∧ PyData.depthAll (Dt.pyL ds) ≤ n
  | _, [], _ => by simp [Dt.pyL, PyData.canLayAll0, PyData.depthAll]
  | n, d :: ds, h => by
    have hp' : (Dt.pl n d && Dt.plL n ds) = true := by simpa [Dt.plL] using h
    obtain ⟨p1, p2⟩ := Bool.and_eq_true_iff.mp hp'
    obtain ⟨a, b⟩ := Dt.lay n d p1
    obtain ⟨c, e⟩ := Dt.layL n ds p2
    simp [Dt.pyL, PyData.canLayAll0, PyData.depthAll, a, c]
    omega
end
theorem Dt.shp {n : Nat} {d : Dt} (h : d.pl n = true) (hn : n ≤ 64) : SeqAt.shaped d.py = true := by
  obtain ⟨a, b⟩ := Dt.lay n d h
  unfold SeqAt.shaped
  rw [a, decide_eq_true (Nat.le_trans b hn)]
  rfl
end

/-! ### types -/
def Dt.ty (K : PySem.W.Frag) : Dt → Value
  | .non => .type "NoneType"
  | .bl _ => .type "bool"
  | .int _ => .type "int"
  | .str _ => .type "str"
  | .seq l _ => if l then .type "list" else .type "tuple"
  | .dic _ => .type "dict"
  | .web _ => .ref (He.ga K "Web")
def Dt.isT : Dt → String → Bool
  | .non, _ => false
  | .bl _, n => n == "bool" || n == "int"
  | .int _, n => n == "int"
  | .str _, n => n == "str"
  | .seq l _, n => n == (if l then "list" else "tuple")
  | .dic _, n => n == "dict"
  | .web _, _ => false
def Dt.isSeq : Dt → Bool
  | .seq _ _ => true
  | _ => false
def Dt.isWeb : Dt → Bool
  | .web _ => true
  | _ => false
def clsNames : List String := ["int", "bool", "str", "list", "tuple", "dict"]
section
variable {K : PySem.W.Frag} {mg : Str → Option Value} {N : Addr → Prop} {H : Hp} {d : Dt} {v : V}
theorem Rep.ty (T : Tx K mg) (h : Rep K N H d v) : TyX K H v (d.ty K) := by
  cases d with
  | non =>
    obtain rfl : v = _ := h
    exact .base .non
  | bl b =>
    obtain rfl : v = _ := h
    exact .base (.bl b)
  | int i =>
    obtain rfl : v = _ := h
    exact .base (.int i)
  | str s =>
    obtain rfl : v = _ := h
    exact .base (.str s)
  | seq l xs =>
    obtain ⟨p, vs, rfl, _, ho, _⟩ := h
    cases l with
    | true => exact .base (.lst ho)
    | false => exact .base (.tup ho)
  | dic kvs =>
    obtain ⟨p, rfl, _, ho⟩ := h
    exact .base (.dK ho)
  | web n =>
    obtain ⟨p, rfl, _, dx, t, dd, ho, _⟩ := h
    exact .base (.ins ho T.cls T.web.cc T.web.cg T.web.ct T.web.cm)
theorem Dt.kit (T : Tx K mg) (d : Dt) {n : String} (hn : n ∈ clsNames) : PySem.W.kitOne K (d.ty K) (.type n) = some (d.isT n) := by
  have e : n = "int" ∨ n = "bool" ∨ n = "str" ∨ n = "list" ∨ n = "tuple" ∨ n = "dict" := by simpa [clsNames] using hn
  cases d with
  | web w =>
    refine T.web.isB _ ?_
    rcases e with rfl | rfl | rfl | rfl | rfl | rfl <;> simp [tys]
  | seq l xs =>
    cases l <;> rcases e with rfl | rfl | rfl | rfl | rfl | rfl <;> exact kit_ty (by simp only [Dt.isT]; decide +kernel)
  | _ => rcases e with rfl | rfl | rfl | rfl | rfl | rfl <;> exact kit_ty (by simp only [Dt.isT]; decide +kernel)
theorem Dt.kitAny (T : Tx K mg) (d : Dt) : ∀ (ns : List String), (∀ n ∈ ns, n ∈ clsNames) → PySem.W.kitAny K (d.ty K) (ns.map Value.type) = some (ns.any d.isT)
  | [], _ => rfl
  | n :: ns, h => by
    refine kitAny_cons (d.kit T (h n List.mem_cons_self)) (fun e => ?_) (fun e => ?_)
    · rw [Dt.kitAny T d ns fun m hm => h m (List.mem_cons_of_mem _ hm), List.any_cons, e]
      rfl
    · rw [List.any_cons, e]
      rfl
theorem Dt.kitW (T : Tx K mg) (d : Dt) : PySem.W.kitOne K (d.ty K) (.ref (He.ga K "Web")) = some d.isWeb := by
  cases d with
  | web w =>
    unfold PySem.W.kitOne
    rw [if_pos (by simp [Dt.ty])]
    rfl
  | seq l xs => cases l <;> exact T.web.isW _ (by simp [tys, Dt.ty])
  | _ => exact T.web.isW _ (by simp [tys, Dt.ty])
theorem Dt.sec (T : Tx K mg) (d : Dt) : PySem.W.notFirst K (He.ga K "Web") (d.ty K) = true := by
  cases d with
  | web w =>
    unfold PySem.W.notFirst Dt.ty
    simp
  | seq l xs => cases l <;> exact T.web.nf _ (by simp [tys, Dt.ty])
  | _ => exact T.web.nf _ (by simp [tys, Dt.ty])
theorem Rep.snd (T : Tx K mg) (h : Rep K N H d v) : SndOk K (He.ga K "Web") H v := ⟨_, h.ty T, d.sec T⟩
/-- isinstance(x, T), T a built-in class -/
theorem isi_ok (T : Tx K mg) (h : Rep K N H d v) {n : String} (hn : n ∈ clsNames) {Q : VK} (q : Q (.bl (d.isT n)) H) : rIsi K [v, .ty n] H Q := ⟨v, .ty n, _, _, _, rfl, .ty n, h.ty T, d.kit T hn, q⟩
theorem isiW_ok (T : Tx K mg) (h : Rep K N H d v) {Q : VK} (q : Q (.bl d.isWeb) H) : rIsi K [v, .ref (He.ga K "Web")] H Q := ⟨v, _, _, _, _, rfl, .own _, h.ty T, d.kitW T, q⟩
theorem Rep.same (h : Rep K N H d v) {H' : Hp} (k : Same H H') : Rep K N H' d v := Rep.step (fun _ h => h) (fun c o _ => k c o) d v h
/-- isinstance(x, (T1, T2, ..)), the tuple just made -/
theorem isiT_ok (T : Tx K mg) (h : Rep K N H d v) (ns : List String) (hn : ∀ n ∈ ns, n ∈ clsNames) {p : Addr} (hp : H p = none) {Q : VK} (q : Q (.bl (ns.any d.isT)) (upd H p (.tup (ns.map V.ty)))) : rIsiT K [v, .ref p] (upd H p (.tup (ns.map V.ty))) Q := by
  refine ⟨v, p, _, _, _, _, rfl, upd_same, ?_, (h.same (same_new hp)).ty T, d.kitAny T ns hn, q⟩
  clear q hn
  induction ns with
  | nil => exact .nil
  | cons n ns ih => exact .cons (.ty n) ih
theorem seq_any (d : Dt) : ["list", "tuple"].any d.isT = d.isSeq := by
  cases d with
  | seq l xs => cases l <;> simp [Dt.isT, Dt.isSeq]
  | _ => simp [Dt.isT, Dt.isSeq]
end
end Pw
set_option Elab.async false
set_option linter.all false
set_option maxRecDepth 100000
set_option maxHeartbeats 4000000
/-! The rules that read the written part, with that part named: so that a comprehension's element may use them. -/
namespace Pw
open PySem PySem.Spec PyProof.Rows L2
section
variable {X : Cx} {K : PySem.W.Frag}
def rLenQ (K : PySem.W.Frag) : List V → Hp → VK → Prop := fun xs H Q => ∃ p ys, xs = [.ref p] ∧ (SqL K H p ys ∨ SqT K H p ys) ∧ Q (.int ys.length) H
def rListQ (K : PySem.W.Frag) : List V → Hp → VK → Prop := fun xs H Q => ∃ p ys, xs = [.ref p] ∧ (SqL K H p ys ∨ SqT K H p ys) ∧ ∀ l, H l = none → Q (.ref l) (upd H l (.lst ys))
def rTupQ (K : PySem.W.Frag) : List V → Hp → VK → Prop := fun xs H Q => ∃ p ys, xs = [.ref p] ∧ ((SqL K H p ys ∧ ∀ l, H l = none → Q (.ref l) (upd H l (.tup ys))) ∨ (SqT K H p ys ∧ Q (.ref p) H))
def rDictQ (K : PySem.W.Frag) : List V → Hp → VK → Prop := fun xs H Q => ∃ (a : Addr) (ps : List Addr) (kvs : List (Key × V)), xs = [.ref a] ∧ SqL K H a (ps.map V.ref) ∧ Paired (fun p kv => SqT K H p [kV kv.1, kv.2]) ps kvs ∧
    ∀ p, H p = none → Q (.ref p) (upd H p (.dK (mergeK [] kvs)))
theorem k_len (e : X.K = K := by rfl) : CallR X (.builtin "len") (rLenQ K) := by subst e; exact call_len_seq
theorem k_list (e : X.K = K := by rfl) : CallR X (.type "list") (rListQ K) := by subst e; exact call_list_of
theorem k_tuple (e : X.K = K := by rfl) : CallR X (.type "tuple") (rTupQ K) := by subst e; exact call_tuple_of
theorem k_dictP (hc : X.calm = true) (e : X.K = K := by rfl) : CallR X (.type "dict") (rDictQ K) := by subst e; exact call_dictP hc
theorem k_all (hc : X.calm = true) (e : X.K = K := by rfl) : CallR X (.builtin "all") (rAll K) := by subst e; exact cr_all hc
theorem k_any (hc : X.calm = true) (e : X.K = K := by rfl) : CallR X (.builtin "any") (rAny K) := by subst e; exact cr_any hc
theorem k_max (hc : X.calm = true) (e : X.K = K := by rfl) : CallR X (.builtin "max") (rMax K) := by subst e; exact cr_max hc
theorem k_sortedL (e : X.K = K := by rfl) : CallR X (.builtin "sorted") (rSortedL K) := by subst e; exact cr_sortedL
theorem k_sortedK (e : X.K = K := by rfl) : CallR X (.builtin "sorted") (rSortedK K) := by subst e; exact cr_sortedK
theorem k_isi (e : X.K = K := by rfl) : CallR X (.builtin "isinstance") (rIsi K) := by subst e; exact call_isi
theorem k_isiT (e : X.K = K := by rfl) : CallR X (.builtin "isinstance") (rIsiT K) := by subst e; exact call_isiT
theorem k_ixL (e : X.K = K := by rfl) : IxR X (rIxL K) := by subst e; exact ix_list
theorem k_ixT (e : X.K = K := by rfl) : IxR X (rIxT K) := by subst e; exact ix_tup
theorem k_slL (e : X.K = K := by rfl) : SlR X (rSlL K) := by subst e; exact sl_list
theorem k_slT (e : X.K = K := by rfl) : SlR X (rSlA K) := by subst e; exact sl_tupA
theorem k_catT (e : X.K = K := by rfl) : OpR X (binaryOp .Add) (rCatA K) := by subst e; exact op_catA
theorem k_in (e : X.K = K := by rfl) : OpR X (compareOp .In) (rIn K false) := by subst e; exact op_in_seq
theorem k_notIn (e : X.K = K := by rfl) : OpR X (compareOp .NotIn) (rIn K true) := by subst e; exact op_notIn_seq
theorem k_eqD (hu : X.A.units + 64 < cLine) (e : X.K = K := by rfl) : OpR X (compareOp .Eq) (rEqD K) := by subst e; exact op_eqD hu
theorem k_neD (hu : X.A.units + 64 < cLine) (e : X.K = K := by rfl) : OpR X (compareOp .NotEq) (rNeD K) := by subst e; exact op_neD hu
theorem k_neNil (hu : X.A.units + 64 < cLine) (e : X.K = K := by rfl) : OpR X (compareOp .NotEq) (rNeNil K) := by subst e; exact op_neNil hu
theorem k_inD (hu : X.A.units + 65 < cLine) (e : X.K = K := by rfl) : OpR X (compareOp .In) (rInD K) := by subst e; exact op_inD hu
theorem k_notInD (hu : X.A.units + 65 < cLine) (e : X.K = K := by rfl) : OpR X (compareOp .NotIn) (rNotInD K) := by subst e; exact op_notInD hu
theorem k_fld {e : Expr} {ta : TE} {f : Str} {pos : Pos} (he : PE X e ta) (hb : attributeBase e f X.env (eval e X.env) = eval e X.env) (ek : X.K = K := by rfl) : PE X (.Attribute e f pos) (tFld K ta f) := by subst ek; exact pe_fld he hb
theorem k_pl {l tg : Expr} {tl : TE} (hl : PE X l tl) (e : X.K = K := by rfl) : PI X tg l (iList K tl) := by subst e; exact pi_list hl
theorem k_pt {l tg : Expr} {tl : TE} (hl : PE X l tl) (e : X.K = K := by rfl) : PI X tg l (iTup K tl) := by subst e; exact pi_tup hl
theorem k_tup {es : List Expr} {k : Nat} {t : TGs} {n : Nat} {pos : Pos} (hc : X.calm = true) (h : PGs X es t)
    (hn : (assignEach es X.env).length = n := by rfl) (hst : (assignEach es X.env).findIdx? (·.1) = none := by rfl) (e : X.K = K := by rfl) : PG X (.Tuple es k pos) (gTup K n t) := by subst e; exact pg_tup hc h hn hst
theorem k_enum {e : Expr} {ta : TA} {p pos tpos : Pos} {elts : List Expr} {kk : Nat} (hg : Gl X "enumerate") (hm : X.mg "enumerate" = none) (ha : PA X [e] ta) (hs : starEach [e] X.env = [(false, eval e X.env)] := by rfl) (ek : X.K = K := by rfl) :
    PI X (.Tuple elts kk tpos) (.Call (.Name "enumerate" p) [e] [] pos) (iEnum K ta) := by subst ek; exact pi_enum hg hm ha hs
theorem k_zip {e e2 : Expr} {ta : TA} {p pos tpos : Pos} {elts : List Expr} {kk : Nat} (hg : Gl X "zip") (hm : X.mg "zip" = none) (ha : PA X [e, e2] ta)
    (hs : starEach [e, e2] X.env = (false, eval e X.env) :: starEach [e2] X.env := by rfl) (hpl : (backTo pos (starEach [e2] X.env)).any (·.1) = false := by rfl) (ek : X.K = K := by rfl) :
    PI X (.Tuple elts kk tpos) (.Call (.Name "zip" p) [e, e2] [] pos) (iZip K ta) := by subst ek; exact pi_zip hg hm ha hs hpl
theorem k_bm {o e : Expr} {es : List Expr} {to : TE} {t : TA} {name : Str} {apos cpos : Pos} {T id : String} {r : V → List V → Hp → VK → Prop}
    (pa : PlainAttrs T) (slot : Slot T name id) (hty : typeOf (.builtin id) = pure (.type "method_descriptor")) (hm : MtR X id r) (ho : PE X o to) (ha : PA X (e :: es) t)
    (hbase : attributeBase o name X.env (eval o X.env) = eval o X.env := by rfl)
    (hfew : ((backTo cpos (starEach (e :: es) X.env)).all (fun x => !x.1) && (backToKw cpos (keywordEach [] X.env)).all (fun x => x.1.isSome)
      && decide ((e :: es).length + ([] : List Keyword).length + (if ([] : List Keyword).isEmpty then 0 else 1) < 30)) = true := by rfl)
    (hline : (apos.endLine == cpos.line) = true := by rfl) (hs : starEach (e :: es) X.env = (false, eval e X.env) :: starEach es X.env := by rfl) (hplain : (backTo cpos (starEach es X.env)).any (·.1) = false := by rfl) (ek : X.K = K := by rfl) :
    PE X (.Call (.Attribute o name apos) (e :: es) [] cpos) (tBM K T r to t) := by subst ek; exact pe_bm pa slot hty hm ho ha hbase hfew hline hs hplain
theorem gName_i {i : Nat} {v : V} {σ : L2.St} {H : Hp} {Q : L2.St → Hp → Prop} (h : Q (σ.set i (some v)) H) : gName i v σ H Q := h
/-- what comes in between, said once -/
theorem via {te : TE} {σ : L2.St} {H : Hp} {Q : VK} (Good : V → Hp → Prop) (h : ∀ Qc : VK, (∀ v H', Good v H' → Qc v H') → te σ H Qc) (k : ∀ v H', Good v H' → Q v H') : te σ H Q := h Q k
theorem viaT {t : TT} {σ : L2.St} {H : Hp} {Q : Bool → Hp → Prop} (Good : Bool → Hp → Prop) (h : ∀ Qc : Bool → Hp → Prop, (∀ v H', Good v H' → Qc v H') → t σ H Qc) (k : ∀ v H', Good v H' → Q v H') : t σ H Q := h Q k
theorem viaS {t1 t2 : TS} {D : Ends} {σ : L2.St} {H : Hp} (Mid : L2.St → Hp → Prop) (h : ∀ nx : L2.St → Hp → Prop, (∀ σ H, Mid σ H → nx σ H) → t1 { D with nx := nx } σ H) (k : ∀ σ H, Mid σ H → t2 D σ H) : tSeq t1 t2 D σ H := h _ k
theorem yesT {σ : L2.St} {H : Hp} {A B : Hp → Prop} (h : A H) : tYes σ H (fun b H3 => if b = true then A H3 else B H3) := by
  show if true = true then A H else B H
  rw [if_pos rfl]
  exact h
end
end Pw
set_option Elab.async false
set_option linter.all false
set_option maxRecDepth 100000
set_option maxHeartbeats 4000000
/-! The stream of draws. -/
namespace Pw
open PySem PySem.Spec PyProof.Rows L2

def cap : Int := 1099511627776
/-- a stream stands at a, its cells at b; it bears n draws more -/
def Strm (a b : Addr) (n : Nat) (H : Hp) : Prop := ∃ (cells : List Int) (left cnt mix : Int), H a = some (.lst [.ref b, .int left, .int cnt, .int mix]) ∧ H b = some (.lst (cells.map V.int)) ∧
  0 ≤ left ∧ 0 ≤ cnt ∧ cnt + n ≤ cap ∧ 0 ≤ mix ∧ mix < 2147483647
theorem Strm.ne {a b : Addr} {n : Nat} {H : Hp} (h : Strm a b n H) : a ≠ b := by
  obtain ⟨cells, left, cnt, mix, ha, hb, _⟩ := h
  refine ne_of ha hb fun e => ?_
  injection e with e
  cases cells with
  | nil => cases e
  | cons c cs =>
    rw [List.map_cons] at e
    injection e with e _
    cases e
theorem Strm.le {a b : Addr} {n m : Nat} {H : Hp} (h : Strm a b n H) (hm : m ≤ n) : Strm a b m H := by
  obtain ⟨cells, left, cnt, mix, ha, hb, h1, h2, h3, h4⟩ := h
  exact ⟨cells, left, cnt, mix, ha, hb, h1, h2, by omega, h4⟩
theorem Strm.at_ {a b : Addr} {n : Nat} {H H' : Hp} (h : Strm a b n H) (ha : H' a = H a) (hb : H' b = H b) : Strm a b n H' := by
  obtain ⟨cells, left, cnt, mix, h1, h2, h3⟩ := h
  exact ⟨cells, left, cnt, mix, by rw [ha]; exact h1, by rw [hb]; exact h2, h3⟩
theorem Strm.same {a b : Addr} {n : Nat} {H H' : Hp} (h : Strm a b n H) (k : Same H H') : Strm a b n H' := by
  obtain ⟨cells, left, cnt, mix, h1, h2, h3⟩ := h
  exact ⟨cells, left, cnt, mix, k _ _ h1, k _ _ h2, h3⟩
theorem Strm.new {a b : Addr} {n : Nat} {H : Hp} {p : Addr} {o : HO} (h : Strm a b n H) (hp : H p = none) : Strm a b n (upd H p o) := h.same (same_new hp)
theorem Strm.tra {a b : Addr} {n : Nat} {H : Hp} (h : Strm a b n H) : ∃ o, H a = some o := by
  obtain ⟨cells, left, cnt, mix, h1, h2, h3⟩ := h
  exact ⟨_, h1⟩
theorem Strm.trb {a b : Addr} {n : Nat} {H : Hp} (h : Strm a b n H) : ∃ o, H b = some o := by
  obtain ⟨cells, left, cnt, mix, h1, h2, h3⟩ := h
  exact ⟨_, h2⟩
/-- what is not known behind a step was not known ahead of it -/
theorem Kp.back {a b : Addr} {n : Nat} {H H' : Hp} (k : Kp a b H H') (s : Strm a b n H') {c : Addr} (h : H' c = none) : H c = none := by
  cases e : H c with
  | none => rfl
  | some o =>
    by_cases ea : c = a
    · obtain ⟨u, hu⟩ := s.tra
      rw [ea, hu] at h
      cases h
    · by_cases eb : c = b
      · obtain ⟨u, hu⟩ := s.trb
        rw [eb, hu] at h
        cases h
      · rw [k c o e ea eb] at h
        cases h
theorem same_back {H H' : Hp} (k : Same H H') {c : Addr} (h : H' c = none) : H c = none := by
  cases e : H c with
  | none => rfl
  | some o =>
    rw [k c o e] at h
    cases h
/-! ### comprehensions that leave what stood -/
def PvP (D : Addr) (H1 : Hp) (acc : Nat → List V) (i : Nat) (H : Hp) : Prop := Same H1 H ∧ H D = some (.lst (acc i))
theorem pv_zero {D : Addr} {H1 : Hp} {acc : Nat → List V} (h : H1 D = none) (e : acc 0 = []) : PvP D H1 acc 0 (upd H1 D (.lst [])) := ⟨same_new h, by rw [e]; exact upd_same⟩
theorem pv_add {D : Addr} {H1 H H4 : Hp} {acc : Nat → List V} {i : Nat} {y : V} (P : PvP D H1 acc i H) (s : Same H H4) (e : acc (i + 1) = acc i ++ [y]) (hl : (acc i).length < sizeLine) (hD : H1 D = none) :
    ∃ a, H4 D = some (.lst a) ∧ a.length < sizeLine ∧ PvP D H1 acc (i + 1) (upd H4 D (.lst (a ++ [y]))) :=
  ⟨acc i, s _ _ P.2, hl, same_mut (same_trans P.1 s) hD, by rw [e]; exact upd_same⟩
theorem take_snoc {α : Type} {l : List α} {i : Nat} {x : α} (h : l[i]? = some x) : l.take (i + 1) = l.take i ++ [x] := by
  rw [List.take_add_one, h]
  rfl
/-- the same with draws: the stream at a, b; c the draws that a turn may take -/
def PvS (a b D : Addr) (H1 : Hp) (m : Nat → Nat) (R : Nat → List V → Hp → Prop) (i : Nat) (H : Hp) : Prop := Kp a b H1 H ∧ Strm a b (m i) H ∧ ∃ acc, H D = some (.lst acc) ∧ R i acc H
def spDraw : Sp := fun vs H Q _ => ∃ (a b : Addr) (n : Nat) (m : Int), vs = [.ref a, .int m] ∧ Strm a b (n + 1) H ∧ 0 < m ∧ m < 1073741824 ∧
  ∀ (H' : Hp) (d : Int), Kp a b H H' → Strm a b n H' → 0 ≤ d → d < m → Q (.int d) H'
theorem sc_law_draw : FnScope ["_law_stream", "_law_many", "_law_cell", "_law_digit", "_law_mixed_here"] ["_law_stream", "_law_many"] (defScope s_law_draw) := ⟨rfl, rfl, rfl, by decide +kernel, rfl, by decide +kernel, by decide +kernel⟩
section
variable {P : Program} {w : World} {K : PySem.W.Frag} {mg : Str → Option Value} {base : Heap}
theorem ok_draw (T : Tx K mg) : Ok P w K mg base CX0 1 "_law_draw" ["_law_stream", "_law_many"] spDraw := by
  refine mkOk (d := d_law_draw) T 35 33 rfl rfl rfl rfl rfl (fun _ _ _ _ _ _ us hl => match us, hl with | [_, _], _ => rfl) sc_law_draw (fun vs H Q E h => ?_) (fun f cdv A outer s H vs Q E hr h => ?_)
  · obtain ⟨a, b, n, m, rfl, _⟩ := h
    rfl
  · obtain ⟨a, b, n, m, rfl, hS, hm, hm2, k⟩ := h
    have nd := sc_law_draw.nd
    have hu := hu_of hr
    refine ⟨_, (pss_cons (ps_asg (pe_op op_add (pe_ix (k_ixL (K := K)) (pv 0) pe_int (fun _ _ => rfl)) pe_int) (pg_sub (pv 0) pe_int set_list))
      (pss_cons (ps_while PassesOwn.never (PW.pt (pw_and (pt_cmpR op_eq (pe_ix (k_ixL (K := K)) (pv 0) pe_int (fun _ _ => rfl)) pe_int (nomark _)) (pw_and1 (pt_cmpR (k_neNil hr.units (K := K)) (pe_ix (k_ixL (K := K)) (pv 0) pe_int (fun _ _ => rfl)) (pe_lst pa_nil) (nomark _)))))
      (pss_cons (ps_set (i := 2) nd rfl (Or.inl rfl) (k_bm (K := K) PySem.F.plainAttrs_list PySem.F.slot_list_pop PySem.F.type_list_pop mt_popAt (pe_ix (k_ixL (K := K)) (pv 0) pe_int (fun _ _ => rfl)) (pa_cons pe_int pa_nil)))
      (pss_cons (ps_asg (pe_op op_mod (pe_callTy call_int1 (by rfl) T.int (by decide +kernel) (pa_cons (pe_op op_add (pe_op op_add (pe_op op_mul (pe_ix (k_ixL (K := K)) (pv 0) pe_int (fun _ _ => rfl)) pe_int) (pv 2)) pe_int) pa_nil)) pe_int) (pg_sub (pv 0) pe_int set_list))
      (pss_one (ps_asg (pe_ifExp (pt_cmpR op_ge (pv 2) (pe_op op_pow pe_int pe_int) (nomark _)) (pv 2) pe_int) (pg_sub (pv 0) pe_int set_list))))))
      (pss_cons (ps_if (pt_cmpR op_gt (pe_ix (k_ixL (K := K)) (pv 0) pe_int (fun _ _ => rfl)) pe_int (nomark _)) (pss_cons (ps_set (i := 3) nd rfl (Or.inl rfl) (pe_op op_mod (pe_callTy call_int1 (by rfl) T.int (by decide +kernel) (pa_cons (pe_ix (k_ixL (K := K)) (pv 0) pe_int (fun _ _ => rfl)) pa_nil)) (pv 1)))
      (pss_cons (ps_asg (pe_op op_fdiv (pe_ix (k_ixL (K := K)) (pv 0) pe_int (fun _ _ => rfl)) (pv 1)) (pg_sub (pv 0) pe_int set_list))
      (pss_one (ps_ret (pv 3))))) pss_nil)
      (pss_cons (ps_set (i := 4) nd rfl (Or.inl rfl) (pe_op op_mod (pe_callTy call_int1 (by rfl) T.int (by decide +kernel) (pa_cons (pe_op op_pow (pe_op op_add (pe_op op_add (pe_ix (k_ixL (K := K)) (pv 0) pe_int (fun _ _ => rfl)) (pe_op op_mul pe_int (pe_ix (k_ixL (K := K)) (pv 0) pe_int (fun _ _ => rfl)))) pe_int) pe_int) pa_nil)) pe_int))
      (pss_one (ps_ret (pe_op op_mod (pe_op op_mod (pe_callTy call_int1 (by rfl) T.int (by decide +kernel) (pa_cons (pe_op op_pow (pe_op op_add (pe_op op_add (pe_op op_mul (pv 4) pe_int) (pe_op op_mul pe_int (pe_ix (k_ixL (K := K)) (pv 0) pe_int (fun _ _ => rfl)))) pe_int) pe_int) pa_nil)) pe_int) (pv 1)))))))), ?_⟩
    obtain ⟨cells, left, cnt, mix, ha, hb, h1, h2, h3, h4, h5⟩ := id hS
    have hab : a ≠ b := hS.ne
    refine ⟨_, rfl, a, _, 2, .int cnt, rfl, rfl, SqL.of ha, rfl, cnt, 1, rfl, rfl, _, rfl, a, _, 2, 2, rfl, rfl, ha, rfl, ?_⟩
    refine ⟨fun l σ H' => ∃ (v : Option V) (cells : List Int) (left mix : Int), σ = [some (.ref a), some (.int m), v, none, none] ∧ l = cells.length ∧ H' a = some (.lst [.ref b, .int left, .int (cnt + 1), .int mix]) ∧ H' b = some (.lst (cells.map V.int)) ∧
      0 ≤ left ∧ 0 ≤ mix ∧ mix < 2147483647 ∧ Kp a b H H', ⟨_, none, cells, left, mix, rfl, rfl, upd_same, by rw [upd_ne hab.symm]; exact hb, h1, h4, h5, fun c o hc n1 n2 => upd_at hc n1⟩, ?_⟩
    rintro l σ H1 ⟨v, cells, left, mix, rfl, rfl, ha, hb, h1, h4, h5, kp⟩
    refine ⟨_, rfl, a, _, 1, .int left, rfl, rfl, SqL.of ha, rfl, rfl, _, rfl, ?_⟩
    refine ite2 (fun e => ?_) (fun e => ?_)
    refine ⟨_, rfl, a, _, 0, .ref b, rfl, rfl, SqL.of ha, rfl, by decide, fun p np => ?_⟩
    have kp := kp.trans (kp_new (o := .lst []) np)
    have ha := upd_at (o := .lst []) ha (ne_of_none ha np)
    have hb := upd_at (o := .lst []) hb (ne_of_none hb np)
    refine ⟨b, p, _, rfl, rfl, SqL.of hb, SqL.of upd_same, _, rfl, ?_⟩
    refine ite2 (fun e2 => ?_) (fun e2 => ?_)
    · refine ⟨_, fun σ' H' h => ⟨cells.length - 1, ?_, h⟩, ?_⟩
      · cases cells with
        | nil => cases e2
        | cons c cs => simp
      cases cells with
      | nil => cases e2
      | cons c cs =>
        refine ⟨_, rfl, a, _, 0, .ref b, rfl, rfl, SqL.of ha, rfl, .inl ⟨rfl, _, SqL.of hb⟩, b, _, 0, 0, .int c, rfl, rfl, hb, by decide, by decide, by simp [seqIndex?], rfl, ?_⟩
        have ha := upd_at (o := .lst ((List.map V.int (c :: cs)).eraseIdx 0)) ha hab
        have kp : Kp a b H (upd (upd H1 p (.lst [])) b (.lst ((List.map V.int (c :: cs)).eraseIdx 0))) := fun x o hx n1 n2 => upd_at (kp x o hx n1 n2) n2
        refine ⟨_, rfl, a, _, 3, .int mix, rfl, rfl, SqL.of ha, rfl, _, _, rfl, rfl, .inl ⟨by omega, by omega⟩, _, rfl, _, _, rfl, rfl, _, _, rfl, rfl, .inl ⟨_, rfl, _, _, rfl, rfl, by show (0 : Int) < 2147483647; decide, _, rfl, a, _, 3, 3, rfl, rfl, ha, rfl, ?_⟩⟩
        have hm1 := Int.emod_nonneg (mix * 8191 + c + 3) (show (2147483647 : Int) ≠ 0 by decide)
        have hm2 := Int.emod_lt_of_pos (mix * 8191 + c + 3) (show (0 : Int) < 2147483647 by decide)
        refine ⟨_, rfl, _, _, rfl, rfl, ⟨by decide, by decide, by decide⟩, _, _, rfl, rfl, _, rfl, ?_⟩
        refine ite2 (fun e3 => ?_) (fun e3 => ?_)
        · refine ⟨_, rfl, _, rfl, a, _, 1, 1, rfl, rfl, upd_same, rfl, ?_⟩
          refine ⟨_, cs, c, _, rfl, rfl, upd_same, ?_, ?_, hm1, hm2, fun x o hx n1 n2 => upd_at (upd_at (kp x o hx n1 n2) n1) n1⟩
          · rw [upd_ne hab.symm, upd_ne hab.symm, upd_same]
            rfl
          · have e4 := of_decide_eq_true e3
            have e5 : (0 : Int) ≤ 10 ^ (Int.toNat 18) := by decide
            exact Int.le_trans e5 e4
        · refine ⟨_, rfl, a, _, 1, 1, rfl, rfl, upd_same, rfl, ?_⟩
          refine ⟨_, cs, 0, _, rfl, rfl, upd_same, ?_, Int.le_refl _, hm1, hm2, fun x o hx n1 n2 => upd_at (upd_at (kp x o hx n1 n2) n1) n1⟩
          rw [upd_ne hab.symm, upd_ne hab.symm, upd_same]
          rfl
    all_goals
      refine ⟨_, rfl, a, _, 1, .int left, rfl, rfl, SqL.of ha, rfl, _, _, rfl, rfl, _, rfl, ?_⟩
      refine ite2 (fun e6 => ?_) (fun e6 => ?_)
      · have e7 : 0 < left := of_decide_eq_true e6
        refine ⟨_, rfl, a, _, 1, .int left, rfl, rfl, SqL.of ha, rfl, .inl ⟨_, rfl, _, rfl, _, _, rfl, rfl, hm, ?_⟩⟩
        refine ⟨_, rfl, a, _, 1, .int left, rfl, rfl, SqL.of ha, rfl, _, rfl, _, _, rfl, rfl, ⟨hm, hm2⟩, _, rfl, a, _, 1, 1, rfl, rfl, ha, rfl, ?_⟩
        refine ⟨_, rfl, k _ _ (fun x o hx n1 n2 => upd_at (kp x o hx n1 n2) n1) ⟨cells, left / m, cnt + 1, mix, upd_same, by rw [upd_ne hab.symm]; exact hb, Int.ediv_nonneg h1 (by omega), by omega, by omega, h4, h5⟩ (Int.emod_nonneg _ (by omega)) (Int.emod_lt_of_pos _ hm)⟩
      · have hc1 : cnt + 1 ≤ 1099511627776 := by unfold cap at h3; omega
        refine ⟨_, rfl, a, _, 3, .int mix, rfl, rfl, SqL.of ha, rfl, _, rfl, a, _, 2, .int (cnt + 1), rfl, rfl, SqL.of ha, rfl, _, _, rfl, rfl, .inl ⟨by decide, by decide⟩, _, _, rfl, rfl, _, _, rfl, rfl, _, _, rfl, rfl, ⟨by decide, by decide, by omega⟩, .inl ⟨_, rfl, _, _, rfl, rfl, by show (0 : Int) < 2147483629; decide, ?_⟩⟩
        have g1 := Int.emod_nonneg ((mix + 7919 * (cnt + 1) + 104729) ^ Int.toNat 5) (show (2147483629 : Int) ≠ 0 by decide)
        have g2 := Int.emod_lt_of_pos ((mix + 7919 * (cnt + 1) + 104729) ^ Int.toNat 5) (show (0 : Int) < 2147483629 by decide)
        generalize (mix + 7919 * (cnt + 1) + 104729) ^ Int.toNat 5 % 2147483629 = g at g1 g2 ⊢
        refine ⟨_, rfl, _, _, rfl, rfl, .inl ⟨by omega, by omega⟩, _, rfl, a, _, 2, .int (cnt + 1), rfl, rfl, SqL.of ha, rfl, _, _, rfl, rfl, .inl ⟨by decide, by decide⟩, _, _, rfl, rfl, _, _, rfl, rfl, _, _, rfl, rfl, ⟨by decide, by decide, by omega⟩, .inl ⟨_, rfl, _, _, rfl, rfl, by show (0 : Int) < 1000000007; decide, _, rfl, _, _, rfl, rfl, hm, ?_⟩⟩
        exact k _ _ kp ⟨cells, left, cnt + 1, mix, ha, hb, h1, by omega, by omega, h4, h5⟩ (Int.emod_nonneg _ (by omega)) (Int.emod_lt_of_pos _ hm)
end
end Pw
set_option Elab.async false
set_option linter.all false
set_option maxRecDepth 100000
set_option maxHeartbeats 4000000
/-! The names that the law makes. -/
namespace Pw
open PySem PySem.Spec PyProof.Rows L2
def smallS : Str := "abcdefghijklmnopqrstuvwxyz"
def figS : Str := "0123456789"
def isNm (s : Str) : Bool := match s.cps.toList with
  | [] => false
  | c :: cs => decide ((c :: cs).length ≤ 8) && (decide (c ∈ smallS.cps.toList) && (!inV (.str s) (words.map V.str) && (c :: cs).all fun x => decide (x ∈ (smallS ++ figS).cps.toList)))
/-! ### names -/
def pool : List Str := ["a", "b", "c", "d", "x", "y", "u", "v", "an", "ann", "p1", "p", "q9", "places", "tied", "eightsgn", "w0"]
def nN (i : Nat) : Str := ("n" : Str) ++ toString ((i : Nat) : Int)
def allN : List Str := pool ++ (List.range 200).map nN
def skey (s : Str) : Nat := s.cps.toList.foldl (fun a c => a * 1000 + c + 1) 0
theorem pool_nd : pool.Nodup := by decide +kernel
theorem nN_nd : ((List.range 200).map nN).Nodup := by decide +kernel
theorem allN_nd : allN.Nodup := by decide +kernel
theorem allN_ok : allN.all (fun x => isNm x && (decide (x ≠ "late9") && decide (x ≠ "nobody"))) = true := by decide +kernel
end Pw
set_option Elab.async false
set_option linter.all false
set_option maxRecDepth 100000
set_option maxHeartbeats 4000000
/-! The places of a picture: each of its own, and good. -/
namespace Pw
open PySem PySem.Spec PyProof.Rows L2
def plc (i j : Nat) : Str := ((("r" : Str) ++ toString ((i : Nat) : Int)) ++ "c") ++ toString ((j : Nat) : Int)
/-- what a place's text tells -/
def plcD (s : Str) : List Nat := s.cps.toList.foldl (fun acc c => match acc with
  | [] => [0]
  | a :: r => if c = 99 then 0 :: a :: r else (a * 10 + (c - 48)) :: r) []
def plcAll : List (Nat × Nat) := (List.range 12).flatMap fun i => (List.range 20).map fun j => (i, j)
theorem plc_ok : plcAll.all (fun q => decide (plcD (plc q.1 q.2) = [q.2, q.1]) && (isNm (plc q.1 q.2) && (decide (plc q.1 q.2 ≠ "late9") && decide (plc q.1 q.2 ≠ "nobody")))) = true := by decide +kernel
theorem plc_mem {i j : Nat} (hi : i < 12) (hj : j < 20) : (i, j) ∈ plcAll := List.mem_flatMap.mpr ⟨i, List.mem_range.mpr hi, List.mem_map.mpr ⟨j, List.mem_range.mpr hj, rfl⟩⟩
theorem plc_gd {i j : Nat} (hi : i < 12) (hj : j < 20) : isNm (plc i j) = true ∧ plc i j ≠ "late9" ∧ plc i j ≠ "nobody" := by
  have q := List.all_eq_true.mp plc_ok _ (plc_mem hi hj)
  simp only [Bool.and_eq_true, decide_eq_true_eq] at q
  exact q.2
theorem plc_inj {i j k l : Nat} (hi : i < 12) (hj : j < 20) (hk : k < 12) (hl : l < 20) (h : plc i j = plc k l) : i = k ∧ j = l := by
  have q := List.all_eq_true.mp plc_ok _ (plc_mem hi hj)
  have r := List.all_eq_true.mp plc_ok _ (plc_mem hk hl)
  simp only [Bool.and_eq_true, decide_eq_true_eq] at q r
  have e := q.1
  rw [h, r.1] at e
  injection e with e1 e2
  injection e2 with e2 _
  exact ⟨e2.symm, e1.symm⟩
end Pw
set_option Elab.async false
set_option linter.all false
set_option maxRecDepth 100000
set_option maxHeartbeats 4000000
/-! The small defs. -/
namespace Pw
open PySem PySem.Spec PyProof.Rows L2

section
variable {P : Program} {w : World} {K : PySem.W.Frag} {mg : Str → Option Value} {base : Heap}
/-! ### is_list, is_integer -/
def spIsList (K : PySem.W.Frag) : Sp := fun vs H Q _ => ∃ (v : V) (d : Dt) (N : Addr → Prop), vs = [v] ∧ Rep K N H d v ∧ ∀ H', Same H H' → Q (.bl d.isSeq) H'
theorem sc_is_list : FnScope ["thing"] ["thing"] (defScope s_is_list) := ⟨rfl, rfl, rfl, by decide +kernel, rfl, by decide +kernel, by decide +kernel⟩
theorem ok_is_list (T : Tx K mg) : Ok P w K mg base CX0 1 "is_list" ["thing"] (spIsList K) := by
  refine mkOk (d := d_is_list) T 4 6 rfl rfl rfl rfl rfl (fun _ _ _ _ _ _ us hl => match us, hl with | [_], _ => rfl) sc_is_list (fun vs H Q E h => ?_) (fun f cdv A outer s H vs Q E hr h => ?_)
  · obtain ⟨v, d, N, rfl, _⟩ := h
    rfl
  · obtain ⟨v, d, N, rfl, hd, k⟩ := h
    have nd := sc_is_list.nd
    refine ⟨_, (pss_one (ps_ret (pe_callB (k_isiT (K := K)) (by rfl) T.isinstance (by decide +kernel) (pa_cons (pv 0) (pa_cons (pe_tup (pa_cons (pe_bltn (v := .ty "list") (u := .type "list") (by rfl) T.list (by decide +kernel) rfl) (pa_cons (pe_bltn (v := .ty "tuple") (u := .type "tuple") (by rfl) T.tuple (by decide +kernel) rfl) pa_nil))) pa_nil))))), ?_⟩
    refine ⟨_, rfl, by show 2 ≤ sizeLine; decide, fun p np => ?_⟩
    refine isiT_ok T hd ["list", "tuple"] (by decide) np ?_
    rw [seq_any]
    exact k _ (same_new np)
def Dt.isInt : Dt → Bool
  | .int _ => true
  | _ => false
def spIsInt (K : PySem.W.Frag) : Sp := fun vs H Q _ => ∃ (v : V) (d : Dt) (N : Addr → Prop), vs = [v] ∧ Rep K N H d v ∧ Q (.bl d.isInt) H
theorem sc_is_integer : FnScope ["thing"] ["thing"] (defScope s_is_integer) := ⟨rfl, rfl, rfl, by decide +kernel, rfl, by decide +kernel, by decide +kernel⟩
theorem isInt_eq (d : Dt) : (d.isT "int" && !d.isT "bool") = d.isInt := by
  cases d with
  | seq l xs => cases l <;> rfl
  | _ => rfl
theorem ok_is_integer (T : Tx K mg) : Ok P w K mg base CX0 1 "is_integer" ["thing"] (spIsInt K) := by
  refine mkOk (d := d_is_integer) T 5 7 rfl rfl rfl rfl rfl (fun _ _ _ _ _ _ us hl => match us, hl with | [_], _ => rfl) sc_is_integer (fun vs H Q E h => ?_) (fun f cdv A outer s H vs Q E hr h => ?_)
  · obtain ⟨v, d, N, rfl, _⟩ := h
    rfl
  · obtain ⟨v, d, N, rfl, hd, k⟩ := h
    have nd := sc_is_integer.nd
    refine ⟨_, (pss_one (ps_ret (pe_and (pe_callB (k_isi (K := K)) (by rfl) T.isinstance (by decide +kernel) (pa_cons (pv 0) (pa_cons (pe_bltn (v := .ty "int") (u := .type "int") (by rfl) T.int (by decide +kernel) rfl) pa_nil))) (pe_one (pe_not (pe_callB (k_isi (K := K)) (by rfl) T.isinstance (by decide +kernel) (pa_cons (pv 0) (pa_cons (pe_bltn (v := .ty "bool") (u := .type "bool") (by rfl) T.bool (by decide +kernel) rfl) pa_nil)))))))), ?_⟩
    rw [← isInt_eq d] at k
    refine ⟨_, rfl, v, .ty "int", _, _, _, rfl, .ty _, hd.ty T, d.kit T (by decide), _, rfl, ?_⟩
    cases e : d.isT "int" with
    | false =>
      rw [e] at k
      exact iteF k
    | true =>
      rw [e] at k
      refine iteT ⟨_, rfl, v, .ty "bool", _, _, _, rfl, .ty _, hd.ty T, d.kit T (by decide), _, rfl, ?_⟩
      exact k
/-! ### is_one_of -/
def spIsOneOf (K : PySem.W.Frag) : Sp := fun vs H Q _ => ∃ (v : V) (d : Dt) (N : Addr → Prop) (p : Addr) (kvs : List (Key × V)), vs = [.ref p, v] ∧ H p = some (.dK kvs) ∧ Rep K N H d v ∧ Q (.bl (match d with | .str s => (valV kvs (Sum.inr s : Key)).isSome | _ => false)) H
theorem sc_is_one_of : FnScope ["known", "thing"] ["known", "thing"] (defScope s_is_one_of) := ⟨rfl, rfl, rfl, by decide +kernel, rfl, by decide +kernel, by decide +kernel⟩
theorem ok_is_one_of (T : Tx K mg) : Ok P w K mg base CX0 1 "is_one_of" ["known", "thing"] (spIsOneOf K) := by
  refine mkOk (d := d_is_one_of) T 7 9 rfl rfl rfl rfl rfl (fun _ _ _ _ _ _ us hl => match us, hl with | [_, _], _ => rfl) sc_is_one_of (fun vs H Q E h => ?_) (fun f cdv A outer s H vs Q E hr h => ?_)
  · obtain ⟨v, d, N, p, kvs, rfl, _⟩ := h
    rfl
  · obtain ⟨v, d, N, p, kvs, rfl, hp, hd, k⟩ := h
    have nd := sc_is_one_of.nd
    have hu := hu_of hr
    refine ⟨_, (pss_one (ps_ret (pe_and (pe_callB (k_isi (K := K)) (by rfl) T.isinstance (by decide +kernel) (pa_cons (pv 1) (pa_cons (pe_bltn (v := .ty "str") (u := .type "str") (by rfl) T.strT (by decide +kernel) rfl) pa_nil))) (pe_one (pe_cmp (pc_din hu (pv 1) (pv 0)) rfl))))), ?_⟩
    refine ⟨_, rfl, v, .ty "str", _, _, _, rfl, .ty _, hd.ty T, d.kit T (by decide), _, rfl, ?_⟩
    cases d with
    | str s =>
      obtain rfl : v = _ := hd
      refine iteT ⟨_, rfl, _, rfl, p, _, rfl, DGet.k (k := Sum.inr s) hp, ?_⟩
      exact k
    | seq l xs => cases l <;> exact iteF k
    | _ => exact iteF k
/-! ### is_name -/
def Dt.isNm : Dt → Bool
  | .str s => Pw.isNm s
  | _ => false
def spIsName (K : PySem.W.Frag) : Sp := fun vs H Q _ => ∃ (v : V) (d : Dt) (N : Addr → Prop), vs = [v] ∧ Rep K N H d v ∧ (∀ s, d = .str s → s.length ≤ 1000) ∧ ∀ H', Same H H' → Q (.bl d.isNm) H'
theorem sc_is_name : FnScope ["thing", "sign"] ["thing"] (defScope s_is_name) := ⟨rfl, rfl, rfl, by decide +kernel, rfl, by decide +kernel, by decide +kernel⟩
theorem words_flat : (words.map V.str).all flatV = true := by decide +kernel
theorem ok_is_name (T : Tx K mg) : Ok P w K mg base CX0 1 "is_name" ["thing"] (spIsName K) := by
  refine mkOk (d := d_is_name) T 6 8 rfl rfl rfl rfl rfl (fun _ _ _ _ _ _ us hl => match us, hl with | [_], _ => rfl) sc_is_name (fun vs H Q E h => ?_) (fun f cdv A outer s H vs Q E hr h => ?_)
  · obtain ⟨v, d, N, rfl, _⟩ := h
    rfl
  · obtain ⟨v, d, N, rfl, hd, hl, k⟩ := h
    have nd := sc_is_name.nd
    obtain ⟨t1, hSMALL⟩ := T.str 66 (x := "SMALL") (z := "abcdefghijklmnopqrstuvwxyz")
    obtain ⟨t2, hFIGURES⟩ := T.str 67 (x := "FIGURES") (z := "0123456789")
    refine ⟨_, (pss_cons (ps_if (PW.pt (pw_or (pt_not (pt_val (pe_callB (k_isi (K := K)) (by rfl) T.isinstance (by decide +kernel) (pa_cons (pv 0) (pa_cons (pe_bltn (v := .ty "str") (u := .type "str") (by rfl) T.strT (by decide +kernel) rfl) pa_nil))))) (pw_or (pt_not (pt_chain op_lt op_le pe_int (pe_callB call_len_str (by rfl) T.len (by decide +kernel) (pa_cons (pv 0) pa_nil)) pe_int)) (pw_or (pt_cmpR op_notIn_sign (pe_ix ix_str (pv 0) pe_int (fun _ _ => rfl)) (pe_glob (v := .str "abcdefghijklmnopqrstuvwxyz") rfl hSMALL ⟨_, rfl⟩) rfl) (pw_or1 (pt_cmpR (k_in (K := K)) (pv 0) (pe_glob (v := .ref (He.ga K "WORDS")) rfl (T.glo 68) rfl) rfl)))))) (pss_one (ps_ret pe_bl)) pss_nil)
      (pss_one (ps_ret (pe_callB (k_all rfl (K := K)) (by rfl) T.all (by decide +kernel) (pa_cons (pe_lc (own := [("sign", 1)]) (by rfl) nd (pi_str (pv 0)) (blkOk_by (own := [("sign", 1)]) (N := ["thing", "sign"]) (sc := (defScope s_is_name)) (by decide +kernel)) (fun _ _ _ _ _ => (pg_name (i := 1) nd rfl (by first | exact Or.inl rfl | exact Or.inr rfl))) (fun _ _ _ _ _ => pts_nil) (fun _ _ _ _ _ => (pe_cmpR op_in_sign (pv 1) (pe_op op_add_str (pe_glob (v := .str "abcdefghijklmnopqrstuvwxyz") rfl hSMALL ⟨_, rfl⟩) (pe_glob (v := .str "0123456789") rfl hFIGURES ⟨_, rfl⟩)) rfl))) pa_nil))))), ?_⟩
    refine ⟨_, rfl, v, .ty "str", _, _, _, rfl, .ty _, hd.ty T, d.kit T (by decide), _, rfl, ?_⟩
    have len_eq : ∀ s : Str, s.length = s.cps.toList.length := fun s => Array.length_toList.symm
    cases d with
    | str s =>
      obtain rfl : v = _ := hd
      refine iteF ?_
      refine ⟨_, rfl, s, rfl, Nat.le_trans (hl s rfl) (by decide), _, _, rfl, rfl, _, rfl, ?_⟩
      have k' : ∀ H' b, Same H H' → Pw.isNm s = b → Q (.bl b) H' := fun H' b h e => by
        rw [← e]
        exact k H' h
      cases hc : s.cps.toList with
      | nil =>
        have e0 : s.length = 0 := by rw [len_eq, hc]; rfl
        rw [e0]
        refine iteF ⟨_, rfl, iteT (k' H false (same_refl H) ?_)⟩
        unfold Pw.isNm
        rw [hc]
      | cons c cs =>
        have e0 : s.length = (c :: cs).length := by rw [len_eq, hc]
        have e1 : Pw.isNm s = (decide ((c :: cs).length ≤ 8) && (decide (c ∈ smallS.cps.toList) && (!inV (.str s) (words.map V.str) && (c :: cs).all fun x => decide (x ∈ (smallS ++ figS).cps.toList)))) := by
          unfold Pw.isNm
          rw [hc]
        rw [e1] at k'
        have e2 : decide (0 < (s.length : Int)) = true := decide_eq_true (by rw [e0]; simp)
        rw [e2]
        refine iteT ⟨_, _, rfl, rfl, _, rfl, ?_⟩
        have e3 : decide ((s.length : Int) ≤ 8) = decide ((c :: cs).length ≤ 8) := by rw [e0]; exact decide_eq_decide.mpr (by omega)
        rw [e3]
        cases h8 : decide ((c :: cs).length ≤ 8) with
        | false =>
          rw [h8] at k'
          exact iteT (k' H false (same_refl H) rfl)
        | true =>
          rw [h8] at k'
          refine iteF ⟨_, rfl, s, 0, c, rfl, rfl, Nat.le_trans (hl s rfl) (by decide), ?_, c, _, rfl, rfl, _, rfl, ?_⟩
          · show atI s.cps.toList 0 = some c
            rw [hc]
            exact atI_nat (j := 0) rfl
          cases hs : decide (c ∈ smallS.cps.toList) with
          | false =>
            rw [hs] at k'
            have hs' : decide (c ∈ Array.toList (Str.cps "abcdefghijklmnopqrstuvwxyz")) = false := hs
            rw [hs']
            exact iteT (k' H false (same_refl H) rfl)
          | true =>
            rw [hs] at k'
            have hs' : decide (c ∈ Array.toList (Str.cps "abcdefghijklmnopqrstuvwxyz")) = true := hs
            rw [hs']
            refine iteF ⟨_, rfl, _, _, rfl, .inr (T.words H), rfl, words_flat, _, rfl, ?_⟩
            cases hw : inV (.str s) (words.map V.str) with
            | true =>
              rw [hw] at k'
              exact iteT (k' H false (same_refl H) rfl)
            | false =>
              rw [hw] at k'
              refine iteF ⟨_, rfl, s, rfl, fun D hD => ?_⟩
              have hsz : s.cps.size = (c :: cs).length := by rw [← hc]; exact Array.length_toList.symm
              have hl8 : (c :: cs).length ≤ 8 := of_decide_eq_true h8
              let pr : Nat → Bool := fun x => decide (x ∈ (smallS ++ figS).cps.toList)
              let acc : Nat → List V := fun i => ((c :: cs).take i).map fun x => V.bl (pr x)
              refine lc_it (n := s.cps.size) (walk_str (z := s)) (PvP D H acc) (pv_zero hD rfl) (fun _ _ _ _ => trivial) ?_ ?_
              · rintro i x H1 H2 hi hP ⟨rfl, y, hy, rfl⟩
                have hy' : (c :: cs)[i]? = some y := by rw [← hc]; simpa using hy
                refine ⟨rfl, yesT ?_⟩
                refine ⟨_, rfl, _, _, rfl, rfl, by decide, y, _, rfl, rfl, ?_⟩
                refine pv_add hP (same_refl _) ?_ ?_ hD
                · show ((c :: cs).take (i + 1)).map _ = _
                  rw [take_snoc hy', List.map_append]
                  rfl
                · show (((c :: cs).take i).map _).length < sizeLine
                  rw [List.length_map]
                  exact Nat.lt_of_le_of_lt (Nat.le_trans (List.length_take_le' _ _) hl8) (by decide)
              · rintro H1 ⟨sm, hd1⟩
                have e4 : acc s.cps.size = ((c :: cs).map pr).map V.bl := by
                  show ((c :: cs).take s.cps.size).map _ = _
                  rw [hsz, List.take_length, List.map_map]
                  rfl
                rw [e4] at hd1
                refine ⟨D, _, rfl, SqL.of hd1, ?_⟩
                refine k' H1 _ sm ?_
                show ((c :: cs).all pr) = ((c :: cs).map pr).all id
                rw [List.all_map]
                rfl
    | seq l xs => cases l <;> exact iteT (k H (same_refl H))
    | _ => exact iteT (k H (same_refl H))
/-! ### place_at -/
def spPlaceAt : Sp := fun vs H Q _ => ∃ (i j : Nat), vs = [.int i, .int j] ∧ i < 1000 ∧ j < 1000 ∧ Q (.str (plc i j)) H
theorem sc_place_at : FnScope ["row", "column"] ["row", "column"] (defScope s_place_at) := ⟨rfl, rfl, rfl, by decide +kernel, rfl, by decide +kernel, by decide +kernel⟩
theorem log_small {i : Nat} (h : i < 1000) : ((i : Nat) : Int).natAbs.log2 < 1920 := by
  have h0 : ((i : Nat) : Int).natAbs = i := by omega
  rw [h0]
  by_cases e : i = 0
  · subst e
    decide
  · exact Nat.lt_trans ((Nat.log2_lt e).mpr (Nat.lt_trans h (by decide : 1000 < 2 ^ 11))) (by decide)
theorem digits_small : ∀ i : Nat, i < 1000 → (toString ((i : Nat) : Int) : Str).length ≤ 3 := by decide +kernel
theorem ok_place_at (T : Tx K mg) : Ok P w K mg base CX0 1 "place_at" ["row", "column"] spPlaceAt := by
  refine mkOk (d := d_place_at) T 17 15 rfl rfl rfl rfl rfl (fun _ _ _ _ _ _ us hl => match us, hl with | [_, _], _ => rfl) sc_place_at (fun vs H Q E h => ?_) (fun f cdv A outer s H vs Q E hr h => ?_)
  · obtain ⟨i, j, rfl, _⟩ := h
    rfl
  · obtain ⟨i, j, rfl, hi, hj, k⟩ := h
    have nd := sc_place_at.nd
    have d1 := digits_small i hi
    have d2 := digits_small j hj
    refine ⟨_, (pss_one (ps_ret (pe_op op_add_str (pe_op op_add_str (pe_op op_add_str pe_str (pe_callTy call_str_int (by rfl) T.strT (by decide +kernel) (pa_cons (pv 0) pa_nil))) pe_str) (pe_callTy call_str_int (by rfl) T.strT (by decide +kernel) (pa_cons (pv 1) pa_nil))))), ?_⟩
    refine ⟨_, rfl, _, rfl, log_small hi, _, _, rfl, rfl, ?_, _, _, rfl, rfl, ?_, _, rfl, _, rfl, log_small hj, _, _, rfl, rfl, ?_, k⟩
    · exact Nat.le_trans (Nat.add_le_add (show (Str.ofString "r").length ≤ 1 by decide +kernel) d1) (by decide)
    · rw [Str.length_append]
      exact Nat.le_trans (Nat.add_le_add (Nat.add_le_add (show (Str.ofString "r").length ≤ 1 by decide +kernel) d1) (show (Str.ofString "c").length ≤ 1 by decide +kernel)) (by decide)
    · rw [Str.length_append, Str.length_append]
      exact Nat.le_trans (Nat.add_le_add (Nat.add_le_add (Nat.add_le_add (show (Str.ofString "r").length ≤ 1 by decide +kernel) d1) (show (Str.ofString "c").length ≤ 1 by decide +kernel)) d2) (by decide)
/-! ### a tie -/
def spTie : Sp := fun vs H Q _ => ∃ (x y : Str) (h : Int), vs = [.str x, .str y, .int h] ∧ ∀ p, H p = none → Q (.ref p) (upd H p (.tup [.str (minS x y), .str (maxS x y), .int h]))
theorem sc_law_a_tie : FnScope ["_law_one", "_law_other", "_law_height"] ["_law_one", "_law_other", "_law_height"] (defScope s_law_a_tie) := ⟨rfl, rfl, rfl, by decide +kernel, rfl, by decide +kernel, by decide +kernel⟩
theorem ok_tie (T : Tx K mg) : Ok P w K mg base CX0 1 "_law_a_tie" ["_law_one", "_law_other", "_law_height"] spTie := by
  refine mkOk (d := d_law_a_tie) T 22 20 rfl rfl rfl rfl rfl (fun _ _ _ _ _ _ us hl => match us, hl with | [_, _, _], _ => rfl) sc_law_a_tie (fun vs H Q E h => ?_) (fun f cdv A outer s H vs Q E hr h => ?_)
  · obtain ⟨x, y, h, rfl, _⟩ := h
    rfl
  · obtain ⟨x, y, h, rfl, k⟩ := h
    have nd := sc_law_a_tie.nd
    refine ⟨_, (pss_one (ps_ret (pe_tup (pa_cons (pe_callB (call_minS rfl) (by rfl) T.min (by decide +kernel) (pa_cons (pv 0) (pa_cons (pv 1) pa_nil))) (pa_cons (pe_callB (call_maxS rfl) (by rfl) T.max (by decide +kernel) (pa_cons (pv 0) (pa_cons (pv 1) pa_nil))) (pa_cons (pv 2) pa_nil)))))), ?_⟩
    exact ⟨_, rfl, _, rfl, x, y, rfl, _, rfl, _, rfl, x, y, rfl, _, rfl, by show 3 ≤ sizeLine; decide, k⟩
/-! ### the stream's start -/
def spStart (K : PySem.W.Frag) : Sp := fun vs H Q _ => ∃ (p : Addr) (ns : List Int), vs = [.ref p] ∧ SqL K H p (ns.map V.int) ∧ ∀ a b H', H a = none → H b = none → Same H H' → Strm a b 1000000000000 H' → Q (.ref a) H'
theorem sc_law_start : FnScope ["_law_script"] ["_law_script"] (defScope s_law_start) := ⟨rfl, rfl, rfl, by decide +kernel, rfl, by decide +kernel, by decide +kernel⟩
theorem ok_start (T : Tx K mg) : Ok P w K mg base CX0 1 "_law_start" ["_law_script"] (spStart K) := by
  refine mkOk (d := d_law_start) T 34 32 rfl rfl rfl rfl rfl (fun _ _ _ _ _ _ us hl => match us, hl with | [_], _ => rfl) sc_law_start (fun vs H Q E h => ?_) (fun f cdv A outer s H vs Q E hr h => ?_)
  · obtain ⟨p, ns, rfl, _⟩ := h
    rfl
  · obtain ⟨p, ns, rfl, hp, k⟩ := h
    have nd := sc_law_start.nd
    refine ⟨_, (pss_one (ps_ret (pe_lst (pa_cons (pe_callTy (k_list (K := K)) (by rfl) T.list (by decide +kernel) (pa_cons (pv 0) pa_nil)) (pa_cons pe_int (pa_cons pe_int (pa_cons pe_int pa_nil))))))), ?_⟩
    refine ⟨_, rfl, p, _, rfl, .inl hp, fun b nb => ⟨by show 4 ≤ sizeLine; decide, fun a na => ?_⟩⟩
    have hne : b ≠ a := ne_of_none (upd_same (H := H) (a := b) (o := .lst (ns.map V.int))) na
    refine k a b _ (same_back (same_new nb) na) nb (same_trans (same_new nb) (same_new na)) ⟨ns, 0, 0, 11, upd_same, by rw [upd_ne hne]; exact upd_same, by decide, by decide, by decide, by decide, by decide⟩
/-! ### a pick -/
def spPick : Sp := fun vs H Q _ => ∃ (a b p : Addr) (n : Nat) (xs : List V), vs = [.ref a, .ref p] ∧ Strm a b (n + 1) H ∧ H p = some (.lst xs) ∧ p ≠ a ∧ p ≠ b ∧ 0 < xs.length ∧ xs.length < 1000000000 ∧
  ∀ (H' : Hp) (x : V), x ∈ xs → Kp a b H H' → Strm a b n H' → Q x H'
theorem sc_law_pick : FnScope ["_law_stream", "_law_some"] ["_law_stream", "_law_some"] (defScope s_law_pick) := ⟨rfl, rfl, rfl, by decide +kernel, rfl, by decide +kernel, by decide +kernel⟩
theorem ok_pick (T : Tx K mg) : Ok P w K mg base CX0 2 "_law_pick" ["_law_stream", "_law_some"] spPick := by
  have G_draw : Ok P w K mg base CX0 1 _ _ _ := ok_draw T
  refine mkOk (d := d_law_pick) T 36 34 rfl rfl rfl rfl rfl (fun _ _ _ _ _ _ us hl => match us, hl with | [_, _], _ => rfl) sc_law_pick (fun vs H Q E h => ?_) (fun f cdv A outer s H vs Q E hr h => ?_)
  · obtain ⟨a, b, p, n, xs, rfl, _⟩ := h
    rfl
  · obtain ⟨a, b, p, n, xs, rfl, hS, hp, pa, pb, h0, h1, k⟩ := h
    have nd := sc_law_pick.nd
    refine ⟨_, (pss_one (ps_ret (pe_ix (k_ixL (K := K)) (pv 1) (pe_ok G_draw (hr.mono (by omega)) pass0 (pa_cons (pv 0) (pa_cons (pe_callB (k_len (K := K)) (by rfl) T.len (by decide +kernel) (pa_cons (pv 1) pa_nil)) pa_nil))) (fun _ _ => rfl)))), ?_⟩
    refine ⟨_, rfl, _, rfl, _, rfl, p, xs, rfl, .inl (SqL.of hp), a, b, n, _, rfl, hS, by omega, by omega, fun H' d kp S d0 d1 => ?_⟩
    obtain ⟨j, rfl⟩ : ∃ j : Nat, d = j := ⟨d.toNat, by omega⟩
    have hj : j < xs.length := by omega
    exact ⟨p, xs, _, xs[j], rfl, rfl, SqL.of (kp _ _ hp pa pb), atI_nat (List.getElem?_eq_getElem hj), k _ _ (List.getElem_mem hj) kp S⟩
/-! ### a shuffle -/
theorem seqIx {j n : Nat} (h : j < n) : seqIndex? (j : Int) n = some j := by
  unfold seqIndex?
  simp
  omega
theorem perm_erase {α : Type} : ∀ {l : List α} {j : Nat} (h : j < l.length), ([l[j]] ++ l.eraseIdx j).Perm l
  | [], j, h => absurd h (Nat.not_lt_zero j)
  | x :: l, 0, h => List.Perm.refl _
  | x :: l, j + 1, h => by
    have hj : j < l.length := by simpa using h
    have ih := perm_erase hj
    show (l[j] :: x :: l.eraseIdx j).Perm (x :: l)
    exact (List.Perm.swap x l[j] _).trans (ih.cons x)
theorem same_back_kp {a b : Addr} {n : Nat} {H H' : Hp} (k : Kp a b H H') (s : Strm a b n H') {c : Addr} (h : H' c = none) : H c = none := k.back s h

def spMixed : Sp := fun vs H Q _ => ∃ (a b p : Addr) (n : Nat) (xs : List V), vs = [.ref a, .ref p] ∧ Strm a b (n + xs.length) H ∧ H p = some (.lst xs) ∧ p ≠ a ∧ p ≠ b ∧ xs.length < 100000 ∧
  ∀ (H' : Hp) (q : Addr) (ys : List V), ys.Perm xs → H q = none → H' q = some (.lst ys) → Kp a b H H' → Strm a b n H' → Q (.ref q) H'
theorem sc_law_mixed : FnScope ["_law_stream", "_law_some", "_law_left", "_law_k"] ["_law_stream", "_law_some"] (defScope s_law_mixed) := ⟨rfl, rfl, rfl, by decide +kernel, rfl, by decide +kernel, by decide +kernel⟩
theorem ok_mixed (T : Tx K mg) : Ok P w K mg base CX0 2 "_law_mixed" ["_law_stream", "_law_some"] spMixed := by
  have G_draw : Ok P w K mg base CX0 1 _ _ _ := ok_draw T
  refine mkOk (d := d_law_mixed) T 37 35 rfl rfl rfl rfl rfl (fun _ _ _ _ _ _ us hl => match us, hl with | [_, _], _ => rfl) sc_law_mixed (fun vs H Q E h => ?_) (fun f cdv A outer s H vs Q E hr h => ?_)
  · obtain ⟨a, b, p, n, xs, rfl, _⟩ := h
    rfl
  · obtain ⟨a, b, p, n, xs, rfl, hS, hp, pa, pb, h1, k⟩ := h
    have nd := sc_law_mixed.nd
    refine ⟨_, (pss_cons (ps_set (i := 2) nd rfl (Or.inr rfl) (pe_callTy (k_list (K := K)) (by rfl) T.list (by decide +kernel) (pa_cons (pv 1) pa_nil)))
      (pss_one (ps_ret (pe_lc (own := [("_law_k", 3)]) (by rfl) nd (pi_range1 (by rfl) T.range (pa_cons (pe_callB (k_len (K := K)) (by rfl) T.len (by decide +kernel) (pa_cons (pv 2) pa_nil)) pa_nil)) (blkOk_by (own := [("_law_k", 3)]) (N := ["_law_stream", "_law_some", "_law_left", "_law_k"]) (sc := (defScope s_law_mixed)) (by decide +kernel)) (fun _ _ _ _ _ => (pg_name (i := 3) nd rfl (by first | exact Or.inl rfl | exact Or.inr rfl))) (fun _ _ _ _ _ => pts_nil) (fun _ _ _ _ _ => (k_bm (K := K) PySem.F.plainAttrs_list PySem.F.slot_list_pop PySem.F.type_list_pop mt_popAt (pv 2) (pa_cons (pe_ok G_draw (hr.mono (by omega)) pass0 (pa_cons (pv 0) (pa_cons (pe_callB (k_len (K := K)) (by rfl) T.len (by decide +kernel) (pa_cons (pv 2) pa_nil)) pa_nil))) pa_nil))))))), ?_⟩
    refine ⟨_, rfl, p, xs, rfl, .inl (SqL.of hp), fun l nl => ?_⟩
    have hS0 := hS
    have hS := hS.new (o := .lst xs) nl
    have kp := kp_new (a := a) (b := b) (o := .lst xs) nl
    have hl : upd H l (.lst xs) l = some (.lst xs) := upd_same
    generalize upd H l (.lst xs) = H1 at hS kp hl ⊢
    refine ⟨_, rfl, l, xs, rfl, .inl (SqL.of hl), _, rfl, by omega, by omega, fun D nD => ?_⟩
    have hDl : D ≠ l := (ne_of_none hl nD).symm
    obtain ⟨oa, ta⟩ := hS.tra
    obtain ⟨ob, tb⟩ := hS.trb
    have hDa : D ≠ a := (ne_of_none ta nD).symm
    have hDb : D ≠ b := (ne_of_none tb nD).symm
    have hpl : H l = none := nl
    have hla : l ≠ a := by
      obtain ⟨o, t⟩ := hS0.tra
      exact (ne_of_none t nl).symm
    have hlb : l ≠ b := by
      obtain ⟨o, t⟩ := hS0.trb
      exact (ne_of_none t nl).symm
    refine lc_it (n := xs.length) walk_range (fun i H2 => ∃ acc rem, H2 D = some (.lst acc) ∧ H2 l = some (.lst rem) ∧ (acc ++ rem).Perm xs ∧ acc.length = i ∧ Kp a b H H2 ∧ Strm a b (n + rem.length) H2)
      ⟨[], xs, upd_same, upd_at hl hDl.symm, List.Perm.refl _, rfl, kp.trans (kp_new nD), hS.new nD⟩ (fun _ _ _ _ => trivial) ?_ ?_
    · rintro i x H2 H3 hi ⟨acc, rem, e1, e2, pm, ln, kp2, S2⟩ ⟨rfl, rfl⟩
      have hlen := pm.length_eq
      rw [List.length_append, ln] at hlen
      have hrem : 0 < rem.length := by omega
      have S2' : Strm a b (n + (rem.length - 1) + 1) H3 := S2.le (by omega)
      refine ⟨rfl, yesT ?_⟩
      refine ⟨_, rfl, .inl ⟨rfl, _, SqL.of e2⟩, _, rfl, _, rfl, l, rem, rfl, .inl (SqL.of e2), a, b, n + (rem.length - 1), _, rfl, S2', by omega, by omega, fun H4 d kp4 S4 d0 d1 => ?_⟩
      obtain ⟨j, rfl⟩ : ∃ j : Nat, d = j := ⟨d.toNat, by omega⟩
      have hj : j < rem.length := by omega
      have e1' := kp4 _ _ e1 hDa hDb
      have e2' := kp4 _ _ e2 hla hlb
      refine ⟨l, rem, _, j, rem[j], rfl, rfl, e2', by omega, by omega, seqIx hj, List.getElem?_eq_getElem hj, acc, upd_at e1' hDl, by rw [ln]; exact Nat.lt_of_lt_of_le hi (Nat.le_trans (Nat.le_of_lt h1) (by decide)), ?_⟩
      refine ⟨acc ++ [rem[j]], rem.eraseIdx j, upd_same, by rw [upd_ne hDl.symm]; exact upd_same, ?_, by rw [List.length_append, ln]; rfl, ?_, ?_⟩
      · rw [List.append_assoc]
        exact (List.Perm.append_left acc (perm_erase hj)).trans pm
      · exact kp_mut (kp_mut (kp2.trans kp4) hpl) (same_back_kp kp hS nD)
      · rw [List.length_eraseIdx_of_lt hj]
        exact (S4.at_ (by rw [upd_ne hDa.symm, upd_ne hla.symm]) (by rw [upd_ne hDb.symm, upd_ne hlb.symm]))
    · rintro H2 ⟨acc, rem, e1, e2, pm, ln, kp2, S2⟩
      have hlen := pm.length_eq
      rw [List.length_append, ln] at hlen
      have hrem : rem = [] := List.eq_nil_of_length_eq_zero (by omega)
      subst hrem
      rw [List.append_nil] at pm
      exact k H2 D acc pm (same_back_kp kp hS nD) e1 kp2 S2
end
end Pw
set_option Elab.async false
set_option linter.all false
set_option maxRecDepth 100000
set_option maxHeartbeats 4000000
/-! Plain words on ties and names. -/
namespace Pw
open PySem PySem.Spec PyProof.Rows L2

/-! ### the least and greatest of two texts -/
def pr (x y : Str) : Str × Str := (minS x y, maxS x y)
theorem pr_cases (x y : Str) : (pr x y = (x, y) ∧ (x = y ∨ ltS x y = true)) ∨ (pr x y = (y, x) ∧ ltS y x = true) := by
  unfold pr minS maxS
  rcases ltS_tri x y with e | e | e
  · subst e
    left
    have h : ¬ (x.cps.toList < x.cps.toList) := List.lt_irrefl _
    rw [if_neg h]
    exact ⟨rfl, .inl rfl⟩
  · left
    have h1 : x.cps.toList < y.cps.toList := of_decide_eq_true e
    have h2 : ¬ (y.cps.toList < x.cps.toList) := fun z => List.lt_irrefl _ (List.lt_trans h1 z)
    rw [if_pos h1, if_neg h2]
    exact ⟨rfl, .inr e⟩
  · right
    have h1 : y.cps.toList < x.cps.toList := of_decide_eq_true e
    have h2 : ¬ (x.cps.toList < y.cps.toList) := fun z => List.lt_irrefl _ (List.lt_trans h1 z)
    rw [if_pos h1, if_neg h2]
    exact ⟨rfl, e⟩
theorem pr_inj {x y u v : Str} (h : pr x y = pr u v) : (x = u ∧ y = v) ∨ (x = v ∧ y = u) := by
  rcases pr_cases x y with ⟨a, _⟩ | ⟨a, _⟩ <;> rcases pr_cases u v with ⟨b, _⟩ | ⟨b, _⟩ <;> rw [a, b] at h <;> injection h with h1 h2
  · exact .inl ⟨h1, h2⟩
  · exact .inr ⟨h1, h2⟩
  · exact .inr ⟨h2, h1⟩
  · exact .inl ⟨h2, h1⟩
theorem pr_comm (x y : Str) : pr x y = pr y x := by
  rcases pr_cases x y with ⟨a, h⟩ | ⟨a, h⟩ <;> rcases pr_cases y x with ⟨b, h'⟩ | ⟨b, h'⟩ <;> rw [a, b]
  · rcases h with rfl | h
    · rfl
    · rcases h' with rfl | h'
      · rfl
      · have := ltS_tr h h'
        rw [ltS_irr] at this
        cases this
  · have := ltS_tr h h'
    rw [ltS_irr] at this
    cases this
theorem pr_lt {x y : Str} (h : x ≠ y) : ltS (pr x y).1 (pr x y).2 = true := by
  rcases pr_cases x y with ⟨a, h'⟩ | ⟨a, h'⟩ <;> rw [a]
  · rcases h' with rfl | h'
    · exact absurd rfl h
    · exact h'
  · exact h'
theorem pr_of_lt {x y : Str} (h : ltS x y = true) : pr x y = (x, y) := by
  rcases pr_cases x y with ⟨a, h'⟩ | ⟨a, h'⟩
  · exact a
  · have := ltS_tr h h'
    rw [ltS_irr] at this
    cases this
theorem pr_mem {x y : Str} {ns : List Str} (hx : x ∈ ns) (hy : y ∈ ns) : (pr x y).1 ∈ ns ∧ (pr x y).2 ∈ ns := by
  rcases pr_cases x y with ⟨a, _⟩ | ⟨a, _⟩ <;> rw [a]
  · exact ⟨hx, hy⟩
  · exact ⟨hy, hx⟩

/-! ### ties -/
def pa2 (t : Tie) : Str × Str := (t.1, t.2.1)
def mkT (x y : Str) (h : Int) : Tie := (minS x y, maxS x y, h)
theorem pa2_mk (x y : Str) (h : Int) : pa2 (mkT x y h) = pr x y := rfl
structure TiesOk (ns : List Str) (B : Int) (ts : List Tie) : Prop where
  mem : ∀ t ∈ ts, t.1 ∈ ns ∧ t.2.1 ∈ ns ∧ ltS t.1 t.2.1 = true ∧ -B ≤ t.2.2 ∧ t.2.2 ≤ B
  nd : (ts.map pa2).Nodup
theorem TiesOk.nil {ns : List Str} {B : Int} : TiesOk ns B [] := ⟨fun t h => (nomatch h), List.nodup_nil⟩
theorem nodup_snoc {α : Type} {l : List α} {x : α} (h : l.Nodup) (hx : x ∉ l) : (l ++ [x]).Nodup := by
  rw [List.nodup_append]
  refine ⟨h, List.nodup_cons.mpr ⟨(nomatch ·), List.nodup_nil⟩, fun a ha b hb => ?_⟩
  rw [List.mem_singleton] at hb
  intro e
  rw [hb] at e
  exact hx (e ▸ ha)
theorem TiesOk.snoc {ns : List Str} {B : Int} {ts : List Tie} (T : TiesOk ns B ts) {x y : Str} {h : Int} (hx : x ∈ ns) (hy : y ∈ ns) (ne : x ≠ y) (h1 : -B ≤ h) (h2 : h ≤ B) (hn : pr x y ∉ ts.map pa2) : TiesOk ns B (ts ++ [mkT x y h]) := by
  refine ⟨fun t ht => ?_, ?_⟩
  · rcases List.mem_append.mp ht with ht | ht
    · exact T.mem t ht
    · rw [List.mem_singleton] at ht
      subst ht
      exact ⟨(pr_mem hx hy).1, (pr_mem hx hy).2, pr_lt ne, h1, h2⟩
  · rw [List.map_append]
    exact nodup_snoc T.nd hn
theorem TiesOk.perm {ns : List Str} {B : Int} {ts us : List Tie} (T : TiesOk ns B ts) (p : us.Perm ts) : TiesOk ns B us :=
  ⟨fun t ht => T.mem t (p.mem_iff.mp ht), (p.map pa2).nodup_iff.mpr T.nd⟩
theorem TiesOk.mono {ns : List Str} {B C : Int} {ts : List Tie} (T : TiesOk ns B ts) (h : B ≤ C) : TiesOk ns C ts :=
  ⟨fun t ht => by obtain ⟨a, b, c, d, e⟩ := T.mem t ht; exact ⟨a, b, c, by omega, by omega⟩, T.nd⟩
def tk (t : Tie) : List Key := [Sum.inr t.1, Sum.inr t.2.1, Sum.inl t.2.2]
def Srt (ts : List Tie) : Prop := ts.Pairwise fun s t => lexK (tk t) (tk s) = false
def big : Int := 1000000000000
/-- a web's plain form: names, each once and good; ties, each pair once, in order -/
structure RawOk (ns : List Str) (ts : List Tie) : Prop where
  nd : ns.Nodup
  gd : ∀ x ∈ ns, isNm x = true ∧ x ≠ "late9" ∧ x ≠ "nobody"
  len : ns.length ≤ 200
  ties : TiesOk ns big ts
  so : Srt ts
  tl : ts.length ≤ 1000

/-! ### slices -/
theorem cut_to {xs : List V} (n : Nat) : cutV xs none (some (n : Int)) = xs.take n := by
  unfold cutV
  rw [HT.sIx_none, HT.sIx_nat, List.drop_zero, Nat.sub_zero]
  by_cases h : n ≤ xs.length
  · rw [Nat.min_eq_left h]
  · rw [Nat.min_eq_right (by omega), List.take_length, List.take_of_length_le (by omega)]
theorem cut_from {xs : List V} (n : Nat) : cutV xs (some (n : Int)) none = xs.drop n := by
  unfold cutV
  rw [HT.sIx_none, HT.sIx_nat]
  by_cases h : n ≤ xs.length
  · rw [Nat.min_eq_left h]
    exact List.take_of_length_le (by simp)
  · rw [Nat.min_eq_right (by omega), List.drop_length, List.drop_of_length_le (by omega)]
    simp
theorem cut_mid {xs : List V} (n m : Nat) : cutV xs (some (n : Int)) (some (m : Int)) = (xs.drop n).take (m - n) := by
  unfold cutV
  rw [HT.sIx_nat, HT.sIx_nat]
  by_cases h : n ≤ xs.length
  · rw [Nat.min_eq_left h]
    by_cases h2 : m ≤ xs.length
    · rw [Nat.min_eq_left h2]
    · rw [Nat.min_eq_right (by omega), List.take_of_length_le (by simp), List.take_of_length_le (by simp; omega)]
  · rw [Nat.min_eq_right (b := xs.length) (a := n) (by omega), List.drop_length, List.drop_of_length_le (by omega)]
    simp
/-- a permutation of values that are texts is one of texts -/
theorem perm_map {α : Type} {f : α → V} : ∀ {xs : List α} {ys : List V}, ys.Perm (xs.map f) → ∃ zs : List α, zs.Perm xs ∧ ys = zs.map f := by
  intro xs ys h
  generalize e : xs.map f = l at h
  induction h generalizing xs with
  | nil => exact ⟨[], by rw [List.map_eq_nil_iff.mp e], rfl⟩
  | cons x p ih =>
    cases xs with
    | nil => cases e
    | cons a as =>
      rw [List.map_cons] at e
      injection e with e1 e2
      obtain ⟨zs, p1, p2⟩ := ih e2
      exact ⟨a :: zs, p1.cons a, by rw [List.map_cons, e1, p2]⟩
  | swap x y l =>
    cases xs with
    | nil => cases e
    | cons a as =>
      cases as with
      | nil => cases e
      | cons b bs =>
        rw [List.map_cons, List.map_cons] at e
        injection e with e1 e2
        injection e2 with e2 e3
        exact ⟨b :: a :: bs, List.Perm.swap _ _ _, by rw [List.map_cons, List.map_cons, e1, e2, e3]⟩
  | trans p q ih1 ih2 =>
    obtain ⟨zs, p1, p2⟩ := ih2 e
    obtain ⟨ws, p3, p4⟩ := ih1 p2.symm
    exact ⟨ws, p3.trans p1, p4⟩
/-- the same of represented data -/
theorem perm_rep {K : PySem.W.Frag} {N : Addr → Prop} {H : Hp} {ds : List Dt} {vs ws : List V} (r : RepL K N H ds vs) (p : ws.Perm vs) : ∃ es, es.Perm ds ∧ RepL K N H es ws := by
  induction p generalizing ds with
  | nil => exact ⟨ds, List.Perm.refl _, r⟩
  | cons x p ih =>
    cases ds with
    | nil => cases r
    | cons d ds =>
      obtain ⟨v, us, e, h1, h2⟩ := r
      injection e with e1 e2
      subst e1 e2
      obtain ⟨es, p1, p2⟩ := ih h2
      exact ⟨d :: es, p1.cons d, _, _, rfl, h1, p2⟩
  | swap x y l =>
    cases ds with
    | nil => cases r
    | cons d ds =>
      obtain ⟨v, us, e, h1, h2⟩ := r
      injection e with e1 e2
      subst e1 e2
      cases ds with
      | nil => cases h2
      | cons d2 ds =>
        obtain ⟨v2, us2, e, h3, h4⟩ := h2
        injection e with e1 e2
        subst e1 e2
        exact ⟨d2 :: d :: ds, List.Perm.swap _ _ _, _, _, rfl, h3, _, _, rfl, h1, h4⟩
  | trans p q ih1 ih2 =>
    obtain ⟨es, p1, p2⟩ := ih2 r
    obtain ⟨fs, p3, p4⟩ := ih1 p2
    exact ⟨fs, p3.trans p1, p4⟩
theorem perm_map_inv {α β : Type} {f : α → β} : ∀ {xs : List α} {ys : List β}, ys.Perm (xs.map f) → ∃ zs : List α, zs.Perm xs ∧ ys = zs.map f := by
  intro xs ys h
  generalize e : xs.map f = l at h
  induction h generalizing xs with
  | nil => exact ⟨[], by rw [List.map_eq_nil_iff.mp e], rfl⟩
  | cons x p ih =>
    cases xs with
    | nil => cases e
    | cons a as =>
      rw [List.map_cons] at e
      injection e with e1 e2
      obtain ⟨zs, p1, p2⟩ := ih e2
      exact ⟨a :: zs, p1.cons a, by rw [List.map_cons, e1, p2]⟩
  | swap x y l =>
    cases xs with
    | nil => cases e
    | cons a as =>
      cases as with
      | nil => cases e
      | cons b bs =>
        rw [List.map_cons, List.map_cons] at e
        injection e with e1 e2
        injection e2 with e2 e3
        exact ⟨b :: a :: bs, List.Perm.swap _ _ _, by rw [List.map_cons, List.map_cons, e1, e2, e3]⟩
  | trans p q ih1 ih2 =>
    obtain ⟨zs, p1, p2⟩ := ih2 e
    obtain ⟨ws, p3, p4⟩ := ih1 p2.symm
    exact ⟨ws, p3.trans p1, p4⟩

/-! ### sorting what stands for tuples of keys -/
def kDt : Key → Dt
  | .inl i => .int i
  | .inr s => .str s
def dTup (ks : List Key) : Dt := .seq false (ks.map kDt)
section
variable {K : PySem.W.Frag} {N : Addr → Prop} {H : Hp}
theorem repL_keys : ∀ {ks : List Key} {vs : List V}, RepL K N H (ks.map kDt) vs ↔ vs = ks.map kV
  | [], vs => Iff.rfl
  | k :: ks, vs => by
    constructor
    · rintro ⟨v, ws, rfl, h1, h2⟩
      rw [repL_keys.mp h2]
      cases k with
      | inl i => rw [show v = V.int i from h1]; rfl
      | inr x => rw [show v = V.str x from h1]; rfl
    · rintro rfl
      refine ⟨_, _, rfl, ?_, repL_keys.mpr rfl⟩
      cases k with
      | inl i => exact rfl
      | inr x => exact rfl
theorem rep_tup {ks : List Key} {v : V} : Rep K N H (dTup ks) v ↔ ∃ p, v = .ref p ∧ N p ∧ H p = some (.tup (ks.map kV)) := by
  constructor
  · rintro ⟨p, vs, e, hp, ho, hr⟩
    rw [repL_keys.mp hr] at ho
    exact ⟨p, e, hp, ho⟩
  · rintro ⟨p, e, hp, ho⟩
    exact ⟨p, _, e, hp, ho, repL_keys.mpr rfl⟩
def vK : V → Key
  | .int i => .inl i
  | .str s => .inr s
  | _ => .inl 0
theorem vK_kV (k : Key) : vK (kV k) = k := by cases k <;> rfl
def keysAt (H : Hp) : V → List Key
  | .ref t => (match H t with
    | some (.tup xs) => xs.map vK
    | _ => [])
  | _ => []
theorem keysAt_rep {ks : List Key} {v : V} (h : Rep K N H (dTup ks) v) : keysAt H v = ks := by
  obtain ⟨p, rfl, _, ho⟩ := rep_tup.mp h
  show (match H p with
    | some (.tup xs) => xs.map vK
    | _ => []) = ks
  rw [ho]
  show (ks.map kV).map vK = ks
  rw [List.map_map]
  have e : (vK ∘ kV) = id := funext fun k => vK_kV k
  rw [e, List.map_id]
theorem keys_pair {α : Type} (f : α → List Key) : ∀ {ys : List α} {ws : List V}, RepL K N H (ys.map fun x => dTup (f x)) ws → ws.Pairwise (fun x y => lexK (keysAt H y) (keysAt H x) = false) → ys.Pairwise fun x y => lexK (f y) (f x) = false
  | [], _, _, _ => List.Pairwise.nil
  | y :: ys, _, ⟨w, ws, e, h1, h2⟩, h => by
    subst e
    rw [List.pairwise_cons] at h ⊢
    refine ⟨fun z hz => ?_, keys_pair f h2 h.2⟩
    obtain ⟨i, hi, ez⟩ := List.getElem_of_mem hz
    obtain ⟨v, e1, e2⟩ := h2.get' (i := i) (d := dTup (f z)) (by rw [List.getElem?_map, List.getElem?_eq_getElem hi, ez]; rfl)
    have q := h.1 v (List.mem_of_getElem? e1)
    rw [keysAt_rep e2, keysAt_rep h1] at q
    exact q
theorem sort_rep {α : Type} (f : α → List Key) (sh : List Bool) {xs : List α} (hsh : ∀ x ∈ xs, (f x).map isR = true :: sh) {p : Addr} {vs : List V} (h : H p = some (.lst vs)) (r : RepL K N H (xs.map fun x => dTup (f x)) vs) {Q : VK}
    (q : ∀ (ys : List α) (ws : List V) (t : Addr), ys.Perm xs → (ys.Pairwise fun x y => lexK (f y) (f x) = false) → RepL K N H (ys.map fun x => dTup (f x)) ws → H t = none → Q (.ref t) (upd H t (.lst ws))) : rSortedK K [.ref p] H Q := by
  refine ⟨p, vs, keysAt H, sh, rfl, SqL.of h, fun x hx => ?_, fun ws t pm pw nt => ?_⟩
  · obtain ⟨d, hd, hr⟩ := r.mem x hx
    obtain ⟨a, ha, rfl⟩ := List.mem_map.mp hd
    have e := keysAt_rep hr
    obtain ⟨t, rfl, _, ho⟩ := rep_tup.mp hr
    refine ⟨t, rfl, ?_, ?_⟩
    · rw [e]
      exact ho
    · rw [e]
      exact hsh a ha
  · obtain ⟨es, p1, p2⟩ := perm_rep r pm
    obtain ⟨ys, p3, rfl⟩ := perm_map_inv p1
    exact q ys ws t p3 (keys_pair f p2 pw) p2 nt
end
end Pw
set_option Elab.async false
set_option linter.all false
set_option maxRecDepth 100000
set_option maxHeartbeats 4000000
/-! The law's webs: names, scaled ties, any ties. -/
namespace Pw
open PySem PySem.Spec PyProof.Rows L2
section
variable {P : Program} {w : World} {K : PySem.W.Frag} {mg : Str → Option Value} {base : Heap}
/-- not known in H -/
abbrev Fr (H : Hp) : Addr → Prop := fun c => H c = none
theorem Rep.kp {N : Addr → Prop} {H H' : Hp} {a b : Addr} {d : Dt} {v : V} (h : Rep K N H d v) (k : Kp a b H H') (hn : ∀ c, N c → c ≠ a ∧ c ≠ b) : Rep K N H' d v :=
  Rep.step (fun _ h => h) (fun c o hc ho => k c o ho (hn c hc).1 (hn c hc).2) d v h
theorem RepL.kp {N : Addr → Prop} {H H' : Hp} {a b : Addr} {d : List Dt} {v : List V} (h : RepL K N H d v) (k : Kp a b H H') (hn : ∀ c, N c → c ≠ a ∧ c ≠ b) : RepL K N H' d v :=
  RepL.step (fun _ h => h) (fun c o hc ho => k c o ho (hn c hc).1 (hn c hc).2) d v h
theorem RepL.same {N : Addr → Prop} {H H' : Hp} {d : List Dt} {v : List V} (h : RepL K N H d v) (k : Same H H') : RepL K N H' d v := RepL.step (fun _ h => h) (fun c o _ => k c o) d v h
theorem RepL.mut {N : Addr → Prop} {H : Hp} {p : Addr} {o : HO} {d : List Dt} {v : List V} (h : RepL K N H d v) (hn : ¬ N p) : RepL K N (upd H p o) d v :=
  RepL.step (fun _ h => h) (fun c o hc ho => upd_at ho fun e => hn (by rw [← e]; exact hc)) d v h
theorem Rep.mut {N : Addr → Prop} {H : Hp} {p : Addr} {o : HO} {d : Dt} {v : V} (h : Rep K N H d v) (hn : ¬ N p) : Rep K N (upd H p o) d v :=
  Rep.step (fun _ h => h) (fun c o hc ho => upd_at ho fun e => hn (by rw [← e]; exact hc)) d v h
theorem Rep.wk {N N' : Addr → Prop} {H : Hp} {d : Dt} {v : V} (h : Rep K N H d v) (hn : ∀ c, N c → N' c) : Rep K N' H d v := Rep.step hn (fun _ _ _ h => h) d v h
theorem RepL.wk {N N' : Addr → Prop} {H : Hp} {d : List Dt} {v : List V} (h : RepL K N H d v) (hn : ∀ c, N c → N' c) : RepL K N' H d v := RepL.step hn (fun _ _ _ h => h) d v h
theorem Strm.off {a b : Addr} {n : Nat} {H : Hp} (S : Strm a b n H) {c : Addr} (h : H c = none) : c ≠ a ∧ c ≠ b := by
  obtain ⟨o, t⟩ := S.tra
  obtain ⟨o', t'⟩ := S.trb
  exact ⟨(ne_of_none t h).symm, (ne_of_none t' h).symm⟩

mutual
theorem Rep.apart {N : Addr → Prop} {H : Hp} {l : Addr} (nl : H l = none) : ∀ (d : Dt) (v : V), Rep K N H d v → Rep K (fun c => N c ∧ c ≠ l) H d v
  | .non, _, h => h
  | .bl _, _, h => h
  | .int _, _, h => h
  | .str _, _, h => h
  | .seq l xs, _, h => by
    obtain ⟨p, vs, e, hp, ho, hr⟩ := h
    exact ⟨p, vs, e, ⟨hp, ne_of_none ho nl⟩, ho, RepL.apart nl xs vs hr⟩
  | .dic _, _, h => by
    obtain ⟨p, e, hp, ho⟩ := h
    exact ⟨p, e, ⟨hp, ne_of_none ho nl⟩, ho⟩
  | .web _, _, h => by
    obtain ⟨p, e, hp, dx, t, d, h1, h2, h3, h4, ⟨z, h5, h6, h7⟩, h8⟩ := h
    exact ⟨p, e, ⟨hp, ne_of_none h1 nl⟩, dx, t, d, h1, ⟨h2, ne_of_none h4 nl⟩, ⟨h3, ne_of_none h6 nl⟩, h4, ⟨z, h5, h6, fun q hq => ⟨⟨(h7 q hq).1, ne_of_none (h7 q hq).2 nl⟩, (h7 q hq).2⟩⟩, h8⟩
theorem RepL.apart {N : Addr → Prop} {H : Hp} {l : Addr} (nl : H l = none) : ∀ (ds : List Dt) (vs : List V), RepL K N H ds vs → RepL K (fun c => N c ∧ c ≠ l) H ds vs
  | [], _, h => h
  | d :: ds, _, h => by
    obtain ⟨v, ws, e, h1, h2⟩ := h
    exact ⟨v, ws, e, Rep.apart nl d v h1, RepL.apart nl ds ws h2⟩
end
theorem repL_apart {N : Addr → Prop} {H : Hp} {l : Addr} {ds : List Dt} {vs : List V} (h : RepL K N H ds vs) (nl : H l = none) : RepL K (fun c => N c ∧ c ≠ l) H ds vs := RepL.apart nl ds vs h

/-! ### names -/
def spNames : Sp := fun vs H Q _ => ∃ (a b : Addr) (n many : Nat), vs = [.ref a, .int many] ∧ Strm a b (n + 17) H ∧ many ≤ 200 ∧
  ∀ (H' : Hp) (p : Addr) (ns : List Str), H p = none → H' p = some (.lst (ns.map V.str)) → ns.length = many → ns.Nodup → (∀ x ∈ ns, x ∈ allN) → (many ≤ 17 → ∀ x ∈ ns, x ∈ pool) → Kp a b H H' → Strm a b n H' → Q (.ref p) H'
theorem sc_law_a_names : FnScope ["_law_stream", "_law_many", "_law_some", "_law_found", "_law_number"] ["_law_stream", "_law_many"] (defScope s_law_a_names) := ⟨rfl, rfl, rfl, by decide +kernel, rfl, by decide +kernel, by decide +kernel⟩
theorem nodup_app {ns ms : List Str} (h : (ns ++ ms).Nodup) {xs : List Str} (p : xs.Perm ns) (i j : Nat) : (xs.take i ++ ms.take j).Nodup := by
  have h' : (xs ++ ms).Nodup := (p.append_right ms).nodup_iff.mpr h
  refine List.Nodup.sublist ?_ h'
  exact List.Sublist.append (List.take_sublist _ _) (List.take_sublist _ _)
theorem nN_len : ∀ i : Nat, i < 1000 → ("n" : Str).length + (toString ((i : Nat) : Int) : Str).length ≤ sizeLine := fun i hi =>
  Nat.le_trans (Nat.add_le_add (show (Str.ofString "n").length ≤ 1 by decide +kernel) (digits_small i hi)) (by decide)
theorem ok_names (T : Tx K mg) : Ok P w K mg base CX0 3 "_law_a_names" ["_law_stream", "_law_many"] spNames := by
  have G_mixed : Ok P w K mg base CX0 2 _ _ _ := ok_mixed T
  refine mkOk (d := d_law_a_names) T 21 19 rfl rfl rfl rfl rfl (fun _ _ _ _ _ _ us hl => match us, hl with | [_, _], _ => rfl) sc_law_a_names (fun vs H Q E h => ?_) (fun f cdv A outer s H vs Q E hr h => ?_)
  · obtain ⟨a, b, n, many, rfl, _⟩ := h
    rfl
  · obtain ⟨a, b, n, many, rfl, hS, hm, k⟩ := h
    have nd := sc_law_a_names.nd
    refine ⟨_, (pss_cons (ps_set (i := 2) nd rfl (Or.inl rfl) (pe_lst (pa_cons pe_str (pa_cons pe_str (pa_cons pe_str (pa_cons pe_str (pa_cons pe_str (pa_cons pe_str (pa_cons pe_str (pa_cons pe_str (pa_cons pe_str (pa_cons pe_str (pa_cons pe_str (pa_cons pe_str (pa_cons pe_str (pa_cons pe_str (pa_cons pe_str (pa_cons pe_str (pa_cons pe_str pa_nil)))))))))))))))))))
      (pss_cons (ps_set (i := 3) nd rfl (Or.inl rfl) (pe_slice (k_slL (K := K)) (pe_ok G_mixed (hr.mono (by omega)) pass0 (pa_cons (pv 0) (pa_cons (pv 2) pa_nil))) po_none (po_some (pv 1))))
      (pss_one (ps_ret (pe_op op_cat (pv 3) (pe_lc (own := [("_law_number", 4)]) (by rfl) nd (pi_range1 (by rfl) T.range (pa_cons (pe_op op_sub (pv 1) (pe_callB (k_len (K := K)) (by rfl) T.len (by decide +kernel) (pa_cons (pv 3) pa_nil))) pa_nil)) (blkOk_by (own := [("_law_number", 4)]) (N := ["_law_stream", "_law_many", "_law_some", "_law_found", "_law_number"]) (sc := (defScope s_law_a_names)) (by decide +kernel)) (fun _ _ _ _ _ => (pg_name (i := 4) nd rfl (by first | exact Or.inl rfl | exact Or.inr rfl))) (fun _ _ _ _ _ => pts_nil) (fun _ _ _ _ _ => (pe_op op_add_str pe_str (pe_callTy call_str_int (by rfl) T.strT (by decide +kernel) (pa_cons (pv 4) pa_nil)))))))))), ?_⟩
    refine ⟨by show 17 ≤ sizeLine; decide, fun l nl => ?_⟩
    have hl : upd H l (.lst (pool.map V.str)) l = some (.lst (pool.map V.str)) := upd_same
    have S1 := hS.new (o := .lst (pool.map V.str)) nl
    refine ⟨_, rfl, _, rfl, a, b, l, n, pool.map V.str, rfl, S1, hl, (hS.off nl).1, (hS.off nl).2, by decide, fun H1 q ys pm nq hq kp1 S2 => ⟨_, rfl, _, rfl, q, ys, rfl, SqL.of hq, fun r nr => ?_⟩⟩
    have kp1 : Kp a b H H1 := (kp_new nl).trans kp1
    obtain ⟨zs, pz, rfl⟩ := perm_map pm
    rw [cut_to, ← List.map_take]
    have S3 := S2.new (o := .lst ((zs.take many).map V.str)) nr
    have kp3 : Kp a b H _ := kp1.trans (kp_new (o := .lst ((zs.take many).map V.str)) nr)
    have hr3 : upd H1 r (.lst ((zs.take many).map V.str)) r = some (.lst ((zs.take many).map V.str)) := upd_same
    have nr0 : H r = none := kp1.back S2 nr
    generalize upd H1 r (.lst ((zs.take many).map V.str)) = H3 at S3 kp3 hr3 ⊢
    have lz : zs.length = 17 := pz.length_eq
    have lf : (zs.take many).length = min many 17 := by rw [List.length_take, lz]
    refine ⟨_, rfl, _, rfl, _, rfl, r, _, rfl, .inl (SqL.of hr3), _, _, rfl, rfl, _, rfl, ?_, ?_, fun D nD => ?_⟩
    · rw [List.length_map, lf]
      omega
    · rw [List.length_map, lf]
      omega
    have hn : ((many : Int) - (((zs.take many).map V.str).length : Int)).toNat = many - min many 17 := by
      rw [List.length_map, lf]
      omega
    rw [hn]
    refine lc_it walk_range (PvP D H3 fun i => ((List.range i).map nN).map V.str) (pv_zero nD rfl) (fun _ _ _ _ => trivial) ?_ ?_
    · rintro i x H4 H5 hi hP ⟨rfl, rfl⟩
      have e0 : (0 : Int) + (i : Nat) = ((i : Nat) : Int) := Int.zero_add _
      refine ⟨rfl, yesT ?_⟩
      refine ⟨_, rfl, _, rfl, by rw [e0]; exact log_small (by omega), _, _, rfl, rfl, by rw [e0]; exact nN_len i (by omega), ?_⟩
      refine pv_add hP (same_refl _) ?_ ?_ nD
      · rw [e0]
        show ((List.range (i + 1)).map nN).map V.str = _
        rw [List.range_succ, List.map_append, List.map_append]
        rfl
      · show (((List.range i).map nN).map V.str).length < sizeLine
        rw [List.length_map, List.length_map, List.length_range]
        exact Nat.lt_of_lt_of_le (show i < 1000 by omega) (by decide)
    · rintro H4 ⟨sm, hD4⟩
      have e4 := sm _ _ hr3
      refine ⟨r, D, _, _, rfl, rfl, e4, hD4, ?_, fun p np => ?_⟩
      · rw [List.length_map, List.length_map, List.length_map, List.length_range, lf]
        exact Nat.le_trans (show _ ≤ 1000 by omega) (by decide)
      have hnd : (zs.take many ++ (List.range (many - min many 17)).map nN).Nodup := by
        have h2 := nodup_app allN_nd pz many (many - min many 17)
        rw [← List.map_take, List.take_range] at h2
        rw [Nat.min_eq_left (by omega)] at h2
        exact h2
      have hin : ∀ x ∈ zs.take many, x ∈ pool := fun x hx => pz.mem_iff.mp (List.mem_of_mem_take hx)
      rw [← List.map_append]
      have kp5 : Kp a b H H4 := kp3.trans (.of sm)
      refine k _ p _ (kp5.back (S3.same sm) np) upd_same ?_ hnd ?_ ?_ (kp5.trans (kp_new np)) ((S3.same sm).new np)
      · rw [List.length_append, lf, List.length_map, List.length_range]
        omega
      · intro x hx
        rcases List.mem_append.mp hx with hx | hx
        · exact List.mem_append.mpr (.inl (hin x hx))
        · obtain ⟨i, hi, rfl⟩ := List.mem_map.mp hx
          exact List.mem_append.mpr (.inr (List.mem_map.mpr ⟨i, List.mem_range.mpr (Nat.lt_of_lt_of_le (List.mem_range.mp hi) (by omega)), rfl⟩))
      · intro hm17 x hx
        rw [Nat.min_eq_left hm17, Nat.sub_self, List.range_zero, List.map_nil, List.append_nil] at hx
        exact hin x hx
end
end Pw
set_option Elab.async false
set_option linter.all false
set_option maxRecDepth 100000
set_option maxHeartbeats 4000000
/-! The law's webs: scaled ties, any ties. -/
namespace Pw
open PySem PySem.Spec PyProof.Rows L2
section
variable {P : Program} {w : World} {K : PySem.W.Frag} {mg : Str → Option Value} {base : Heap}
/-! ### scaled -/
def spScaled (K : PySem.W.Frag) : Sp := fun vs H Q _ => ∃ (a b p : Addr) (n : Nat) (B : Int) (ns : List Str) (ts : List Tie) (us : List V), vs = [.ref a, .ref p] ∧ Strm a b (n + 1) H ∧ p ≠ a ∧ p ≠ b ∧ H p = some (.lst us) ∧ RepL K (fun c => c ≠ a ∧ c ≠ b) H (ts.map dTie) us ∧
  TiesOk ns B ts ∧ B ≤ 100000 ∧ ts.length ≤ 1000 ∧
  ∀ (H' : Hp) (q : Addr) (ts' : List Tie) (ws : List V), H q = none → H' q = some (.lst ws) → RepL K (Fr H) H' (ts'.map dTie) ws → TiesOk ns big ts' → Srt ts' → ts'.length = ts.length → Kp a b H H' → Strm a b n H' → Q (.ref q) H'
theorem sc_law_a_scaled : FnScope ["_law_stream", "_law_ties", "_law_low", "_law_step", "_law_one", "_law_other", "_law_height"] ["_law_stream", "_law_ties"] (defScope s_law_a_scaled) := ⟨rfl, rfl, rfl, by decide +kernel, rfl, by decide +kernel, by decide +kernel⟩
theorem bnd {s h B : Int} (h1 : 0 ≤ s) (h2 : s ≤ 1000) (h3 : -B ≤ h) (h4 : h ≤ B) (h5 : B ≤ 100000) : -100000000 ≤ s * h ∧ s * h ≤ 100000000 := by
  have a : s * h ≤ s * 100000 := Int.mul_le_mul_of_nonneg_left (by omega) h1
  have b : s * (-100000) ≤ s * h := Int.mul_le_mul_of_nonneg_left (by omega) h1
  omega
theorem ok_scaled (T : Tx K mg) : Ok P w K mg base CX0 3 "_law_a_scaled" ["_law_stream", "_law_ties"] (spScaled K) := by
  have G_pick : Ok P w K mg base CX0 2 _ _ _ := ok_pick T
  refine mkOk (d := d_law_a_scaled) T 23 21 rfl rfl rfl rfl rfl (fun _ _ _ _ _ _ us hl => match us, hl with | [_, _], _ => rfl) sc_law_a_scaled (fun vs H Q E h => ?_) (fun f cdv A outer s H vs Q E hr h => ?_)
  · obtain ⟨a, b, p, n, B, ns, ts, us, rfl, _⟩ := h
    rfl
  · obtain ⟨a, b, p, n, B, ns, ts, us, rfl, hS, pa, pb, hp, hr0, hT, hB, hL, k⟩ := h
    have nd := sc_law_a_scaled.nd
    refine ⟨_, (pss_cons (ps_asg (pe_ok G_pick (hr.mono (by omega)) pass0 (pa_cons (pv 0) (pa_cons (pe_lst (pa_cons (pe_tup (pa_cons pe_int (pa_cons pe_int pa_nil))) (pa_cons (pe_tup (pa_cons pe_int (pa_cons pe_int pa_nil))) (pa_cons (pe_tup (pa_cons (pe_un un_neg pe_int) (pa_cons pe_int pa_nil))) (pa_cons (pe_tup (pa_cons (pe_un un_neg pe_int) (pa_cons pe_int pa_nil))) (pa_cons (pe_tup (pa_cons pe_int (pa_cons pe_int pa_nil))) (pa_cons (pe_tup (pa_cons pe_int (pa_cons pe_int pa_nil))) pa_nil))))))) pa_nil))) (k_tup (K := K) (n := 2) rfl (pgs_cons (pg_name (i := 2) nd rfl (Or.inr rfl)) (pgs_cons (pg_name (i := 3) nd rfl (Or.inr rfl)) pgs_nil))))
      (pss_one (ps_ret (pe_callB (k_sortedK (K := K)) (by rfl) T.sorted (by decide +kernel) (pa_cons (pe_lc (own := [("_law_one", 4), ("_law_other", 5), ("_law_height", 6)]) (by rfl) nd (k_pl (K := K) (pv 1)) (blkOk_by (own := [("_law_one", 4), ("_law_other", 5), ("_law_height", 6)]) (N := ["_law_stream", "_law_ties", "_law_low", "_law_step", "_law_one", "_law_other", "_law_height"]) (sc := (defScope s_law_a_scaled)) (by decide +kernel)) (fun _ _ _ _ _ => (k_tup (K := K) (n := 3) rfl (pgs_cons (pg_name (i := 4) nd rfl (by first | exact Or.inl rfl | exact Or.inr rfl)) (pgs_cons (pg_name (i := 5) nd rfl (by first | exact Or.inl rfl | exact Or.inr rfl)) (pgs_cons (pg_name (i := 6) nd rfl (by first | exact Or.inl rfl | exact Or.inr rfl)) pgs_nil))))) (fun _ _ _ _ _ => pts_nil) (fun _ _ _ _ _ => (pe_tup (pa_cons (pv 4) (pa_cons (pv 5) (pa_cons (pe_op op_add (pv 2) (pe_op op_mul (pv 3) (pv 6))) pa_nil)))))) pa_nil))))), ?_⟩
    refine ⟨_, rfl, by show 2 ≤ sizeLine; decide, ?_⟩
    intro t1 n_t1
    have e_t1 : upd H t1 (.tup [.int 0, .int 1]) t1 = some (.tup [.int 0, .int 1]) := upd_same
    have s_t1 : Same H (upd H t1 (.tup [.int 0, .int 1])) := same_new n_t1
    generalize upd H t1 (.tup [.int 0, .int 1]) = H1 at e_t1 s_t1 ⊢
    refine ⟨by show 2 ≤ sizeLine; decide, ?_⟩
    intro t2 n_t2
    have e_t2 : upd H1 t2 (.tup [.int 0, .int 1]) t2 = some (.tup [.int 0, .int 1]) := upd_same
    have s_t2 : Same H1 (upd H1 t2 (.tup [.int 0, .int 1])) := same_new n_t2
    generalize upd H1 t2 (.tup [.int 0, .int 1]) = H2 at e_t2 s_t2 ⊢
    refine ⟨_, rfl, by show 2 ≤ sizeLine; decide, ?_⟩
    intro t3 n_t3
    have e_t3 : upd H2 t3 (.tup [.int (-3), .int 1]) t3 = some (.tup [.int (-3), .int 1]) := upd_same
    have s_t3 : Same H2 (upd H2 t3 (.tup [.int (-3), .int 1])) := same_new n_t3
    generalize upd H2 t3 (.tup [.int (-3), .int 1]) = H3 at e_t3 s_t3 ⊢
    refine ⟨_, rfl, by show 2 ≤ sizeLine; decide, ?_⟩
    intro t4 n_t4
    have e_t4 : upd H3 t4 (.tup [.int (-40), .int 7]) t4 = some (.tup [.int (-40), .int 7]) := upd_same
    have s_t4 : Same H3 (upd H3 t4 (.tup [.int (-40), .int 7])) := same_new n_t4
    generalize upd H3 t4 (.tup [.int (-40), .int 7]) = H4 at e_t4 s_t4 ⊢
    refine ⟨by show 2 ≤ sizeLine; decide, ?_⟩
    intro t5 n_t5
    have e_t5 : upd H4 t5 (.tup [.int 5, .int 2]) t5 = some (.tup [.int 5, .int 2]) := upd_same
    have s_t5 : Same H4 (upd H4 t5 (.tup [.int 5, .int 2])) := same_new n_t5
    generalize upd H4 t5 (.tup [.int 5, .int 2]) = H5 at e_t5 s_t5 ⊢
    refine ⟨by show 2 ≤ sizeLine; decide, ?_⟩
    intro t6 n_t6
    have e_t6 : upd H5 t6 (.tup [.int 1000, .int 1000]) t6 = some (.tup [.int 1000, .int 1000]) := upd_same
    have s_t6 : Same H5 (upd H5 t6 (.tup [.int 1000, .int 1000])) := same_new n_t6
    generalize upd H5 t6 (.tup [.int 1000, .int 1000]) = H6 at e_t6 s_t6 ⊢
    refine ⟨by show 6 ≤ sizeLine; decide, ?_⟩
    intro l n_l
    have e_l : upd H6 l (.lst [.ref t1, .ref t2, .ref t3, .ref t4, .ref t5, .ref t6]) l = some (.lst [.ref t1, .ref t2, .ref t3, .ref t4, .ref t5, .ref t6]) := upd_same
    have s_l : Same H6 (upd H6 l (.lst [.ref t1, .ref t2, .ref t3, .ref t4, .ref t5, .ref t6])) := same_new n_l
    generalize upd H6 l (.lst [.ref t1, .ref t2, .ref t3, .ref t4, .ref t5, .ref t6]) = H7 at e_l s_l ⊢
    have s_l0 : Same H H7 := same_trans s_t1 (same_trans s_t2 (same_trans s_t3 (same_trans s_t4 (same_trans s_t5 (same_trans s_t6 s_l)))))
    have f1 := same_trans s_t2 (same_trans s_t3 (same_trans s_t4 (same_trans s_t5 (same_trans s_t6 s_l)))) _ _ e_t1
    have f2 := (same_trans s_t3 (same_trans s_t4 (same_trans s_t5 (same_trans s_t6 s_l)))) _ _ e_t2
    have f3 := (same_trans s_t4 (same_trans s_t5 (same_trans s_t6 s_l))) _ _ e_t3
    have f4 := (same_trans s_t5 (same_trans s_t6 s_l)) _ _ e_t4
    have f5 := (same_trans s_t6 s_l) _ _ e_t5
    have f6 := s_l _ _ e_t6
    have nl0 : H l = none := same_back (same_trans s_t1 (same_trans s_t2 (same_trans s_t3 (same_trans s_t4 (same_trans s_t5 s_t6))))) n_l
    have all : ∀ x ∈ [V.ref t1, V.ref t2, V.ref t3, V.ref t4, V.ref t5, V.ref t6], ∃ (t : Addr) (lo st : Int), x = .ref t ∧ H7 t = some (.tup [.int lo, .int st]) ∧ -1000 ≤ lo ∧ lo ≤ 1000 ∧ 0 ≤ st ∧ st ≤ 1000 := by
      intro x hx
      simp only [List.mem_cons, List.not_mem_nil, or_false] at hx
      rcases hx with rfl | rfl | rfl | rfl | rfl | rfl
      · exact ⟨t1, _, _, rfl, f1, by decide, by decide, by decide, by decide⟩
      · exact ⟨t2, _, _, rfl, f2, by decide, by decide, by decide, by decide⟩
      · exact ⟨t3, _, _, rfl, f3, by decide, by decide, by decide, by decide⟩
      · exact ⟨t4, _, _, rfl, f4, by decide, by decide, by decide, by decide⟩
      · exact ⟨t5, _, _, rfl, f5, by decide, by decide, by decide, by decide⟩
      · exact ⟨t6, _, _, rfl, f6, by decide, by decide, by decide, by decide⟩
    refine ⟨a, b, l, n, _, rfl, hS.same s_l0, e_l, (hS.off nl0).1, (hS.off nl0).2, by show 0 < 6; decide, by show 6 < 1000000000; decide, fun H8 x hx kp8 S8 => ?_⟩
    obtain ⟨t, lo, st, rfl, ht, l1, l2, s1, s2⟩ := all x hx
    have hta : t ≠ a := by
      obtain ⟨_, _, _, _, z, _⟩ := hS.same s_l0
      exact ne_of ht z (by intro z; cases z)
    have htb : t ≠ b := by
      obtain ⟨_, _, _, _, _, z, _⟩ := hS.same s_l0
      exact ne_of ht z (by intro z; cases z)
    have kp : Kp a b H H8 := (Kp.of s_l0).trans kp8
    refine ⟨t, _, rfl, SqT.of (kp8 _ _ ht hta htb), rfl, _, _, rfl, _, _, rfl, rfl, ?_⟩
    have hp8 := kp _ _ hp pa pb
    have hr8 := hr0.kp kp fun _ h => h
    have hlen : us.length = ts.length := by rw [hr0.len, List.length_map]
    refine ⟨_, rfl, p, rfl, ⟨_, SqL.of hp8⟩, fun D nD => ?_⟩
    refine lc_it (walk_list (xs := us)) (fun i H9 => Same H8 H9 ∧ ∃ acc, H9 D = some (.lst acc) ∧ RepL K (fun c => H8 c = none ∧ c ≠ D) H9 (((ts.take i).map fun t => ((t.1, t.2.1, lo + st * t.2.2) : Tie)).map dTie) acc)
      ⟨same_new nD, [], upd_same, RepL.nil⟩ (fun i H9 _ ⟨sm, _⟩ => SqL.of (sm _ _ hp8)) ?_ ?_
    · rintro i x H9 H10 hi ⟨sm, acc, hacc, racc⟩ ⟨rfl, hx⟩
      obtain ⟨d, hd, hrep⟩ := (hr8.same sm).get hx
      obtain ⟨t, hti, rfl⟩ : ∃ t, ts[i]? = some t ∧ dTie t = d := by
        rw [List.getElem?_map] at hd
        exact Option.map_eq_some_iff.mp hd
      obtain ⟨q, rfl, hq, ho⟩ := rep_tie.mp hrep
      refine ⟨q, _, rfl, SqT.of ho, rfl, _, _, rfl, _, _, rfl, _, _, rfl, rfl, rfl, yesT ?_⟩
      refine ⟨_, rfl, _, rfl, _, rfl, _, rfl, _, rfl, _, _, rfl, rfl, .inl ⟨by omega, by omega⟩, _, _, rfl, rfl, by show 3 ≤ sizeLine; decide, fun r nr => ?_⟩
      have hDr : D ≠ r := ne_of_none hacc nr
      have e := racc.len
      have hl : acc.length = i := by rw [e, List.length_map, List.length_map, List.length_take]; omega
      refine ⟨acc, upd_at hacc hDr, by rw [hl]; exact Nat.lt_of_lt_of_le (show i < 10000 by omega) (by decide), same_mut (same_trans sm (same_new nr)) nD, _, upd_same, ?_⟩
      rw [take_snoc hti, List.map_append, List.map_append]
      refine RepL.snoc ?_ ?_
      · exact (racc.same (same_new nr)).mut fun h => h.2 rfl
      · exact rep_tie.mpr ⟨r, rfl, ⟨same_back sm nr, hDr.symm⟩, upd_at upd_same hDr.symm⟩
    · rintro H9 ⟨sm, acc, hacc, racc⟩
      rw [hlen, List.take_length] at racc
      refine sort_rep tk [true, false] (fun _ _ => rfl) hacc racc fun ys ws t pm pw rws nt => ?_
      have kp9 : Kp a b H H9 := kp.trans (.of sm)
      have S9 := S8.same sm
      refine k _ t ys ws (kp9.back S9 nt) upd_same ?_ ?_ pw ?_ (kp9.trans (kp_new nt)) (S9.new nt)
      · exact (rws.wk fun c hc => kp.back S8 hc.1).same (same_new nt)
      · refine TiesOk.perm ?_ pm
        refine ⟨fun z hz => ?_, ?_⟩
        · obtain ⟨y, hy, rfl⟩ := List.mem_map.mp hz
          obtain ⟨g1, g2, g3, g4, g5⟩ := hT.mem y hy
          refine ⟨g1, g2, g3, ?_, ?_⟩
          · show -big ≤ lo + st * y.2.2
            have := bnd s1 s2 g4 g5 hB
            unfold big
            omega
          · show lo + st * y.2.2 ≤ big
            have := bnd s1 s2 g4 g5 hB
            unfold big
            omega
        · rw [List.map_map]
          exact hT.nd
      · rw [pm.length_eq, List.length_map]
end
end Pw
set_option Elab.async false
set_option linter.all false
set_option maxRecDepth 100000
set_option maxHeartbeats 4000000
/-! The law's webs: any ties. -/
namespace Pw
open PySem PySem.Spec PyProof.Rows L2
section
variable {P : Program} {w : World} {K : PySem.W.Frag} {mg : Str → Option Value} {base : Heap}
def retRaw (K : PySem.W.Frag) (a b : Addr) (n : Nat) (H : Hp) (Q : VK) (C : List Str → List Tie → Prop) : Prop :=
  ∀ (H' : Hp) (v : V) (ns : List Str) (ts : List Tie), Rep K (Fr H) H' (dRaw ns ts) v → RawOk ns ts → C ns ts → Kp a b H H' → Strm a b n H' → Q v H'
theorem allN_gd {x : Str} (h : x ∈ allN) : isNm x = true ∧ x ≠ "late9" ∧ x ≠ "nobody" := by
  have q := List.all_eq_true.mp allN_ok x h
  simp only [Bool.and_eq_true, decide_eq_true_eq] at q
  exact q
theorem pool_in {x : Str} (h : x ∈ pool) : x ∈ allN := List.mem_append.mpr (.inl h)
theorem nd_get {α : Type} {l : List α} (h : l.Nodup) {i j : Nat} {x : α} (hi : l[i]? = some x) (hj : l[j]? = some x) : i = j := by
  obtain ⟨h1, e1⟩ := List.getElem?_eq_some_iff.mp hi
  exact (List.getElem?_inj h1 h).mp (hi.trans hj.symm)
theorem map_get {α β : Type} {f : α → β} {l : List α} {i : Nat} {y : β} (h : (l.map f)[i]? = some y) : ∃ z, l[i]? = some z ∧ f z = y := by
  rw [List.getElem?_map] at h
  exact Option.map_eq_some_iff.mp h
/-- where a list of names stands apart from the stream -/
theorem strs_off {a b p : Addr} {n : Nat} {H : Hp} {ns : List Str} (S : Strm a b n H) (hp : H p = some (.lst (ns.map V.str))) (hn : p ≠ b) : p ≠ a ∧ p ≠ b := by
  refine ⟨?_, hn⟩
  obtain ⟨_, _, _, _, z, _⟩ := S
  refine ne_of hp z fun e => ?_
  injection e with e
  cases ns with
  | nil => cases e
  | cons x xs =>
    rw [List.map_cons] at e
    injection e with e _
    cases e

def spAny (K : PySem.W.Frag) : Sp := fun vs H Q _ => ∃ (a b : Addr) (n many : Nat) (share heights : Int), vs = [.ref a, .int many, .int share, .int heights] ∧ Strm a b (n + 400) H ∧ many ≤ 8 ∧ 0 < heights ∧ heights < 1000 ∧
  retRaw K a b n H Q fun ns ts => ns.length = many ∧ (∀ x ∈ ns, x ∈ pool) ∧ ts.length ≤ 200
theorem sc_law_a_any : FnScope ["_law_stream", "_law_many", "_law_share", "_law_heights", "_law_places", "_law_ties", "_law_at", "_law_one", "_law_other"] ["_law_stream", "_law_many", "_law_share", "_law_heights"] (defScope s_law_a_any) := ⟨rfl, rfl, rfl, by decide +kernel, rfl, by decide +kernel, by decide +kernel⟩
theorem ok_any (T : Tx K mg) : Ok P w K mg base CX0 4 "_law_a_any" ["_law_stream", "_law_many", "_law_share", "_law_heights"] (spAny K) := by
  have G_draw : Ok P w K mg base CX0 1 _ _ _ := ok_draw T
  have G_a_names : Ok P w K mg base CX0 3 _ _ _ := ok_names T
  have G_a_tie : Ok P w K mg base CX0 1 _ _ _ := ok_tie T
  have G_a_scaled : Ok P w K mg base CX0 3 _ _ _ := ok_scaled T
  refine mkOk (d := d_law_a_any) T 24 22 rfl rfl rfl rfl rfl (fun _ _ _ _ _ _ us hl => match us, hl with | [_, _, _, _], _ => rfl) sc_law_a_any (fun vs H Q E h => ?_) (fun f cdv A outer s H vs Q E hr h => ?_)
  · obtain ⟨a, b, n, many, sh, he, rfl, _⟩ := h
    rfl
  · obtain ⟨a, b, n, many, sh, he, rfl, hS, hm, he0, he1, k⟩ := h
    have nd := sc_law_a_any.nd
    refine ⟨_, (pss_cons (ps_par (i := 4) (j := 5) (by rfl) nd rfl rfl (by decide) rfl rfl (pa_cons (pe_ok G_a_names (hr.mono (by omega)) pass0 (pa_cons (pv 0) (pa_cons (pv 1) pa_nil))) (pa_cons (pe_lst pa_nil) pa_nil)) (by rfl))
      (pss_cons (ps_for PassesOwn.never rfl (k_enum (K := K) (by rfl) T.enumerate (pa_cons (pv 4) pa_nil)) (k_tup (K := K) (n := 2) rfl (pgs_cons (pg_name (i := 6) nd rfl (Or.inl rfl)) (pgs_cons (pg_name (i := 7) nd rfl (Or.inl rfl)) pgs_nil)))
      (pss_one (ps_for PassesOwn.never rfl (k_pl (K := K) (pe_slice (k_slL (K := K)) (pv 4) (po_some (pe_op op_add (pv 6) pe_int)) po_none)) (pg_name (i := 8) nd rfl (Or.inl rfl))
      (pss_one (ps_if (pt_cmpR op_lt (pe_ok G_draw (hr.mono (by omega)) pass0 (pa_cons (pv 0) (pa_cons pe_int pa_nil))) (pv 2) (nomark _)) (pss_one (ps_expr (k_bm (K := K) PySem.F.plainAttrs_list PySem.F.slot_list_append PySem.F.type_list_append mt_append (pv 5) (pa_cons (pe_ok G_a_tie (hr.mono (by omega)) pass0 (pa_cons (pv 7) (pa_cons (pv 8) (pa_cons (pe_ok G_draw (hr.mono (by omega)) pass0 (pa_cons (pv 0) (pa_cons (pv 3) pa_nil))) pa_nil)))) pa_nil)))) pss_nil)))))
      (pss_one (ps_ret (pe_tup (pa_cons (pv 4) (pa_cons (pe_ok G_a_scaled (hr.mono (by omega)) pass0 (pa_cons (pv 0) (pa_cons (pv 5) pa_nil))) pa_nil))))))), ?_⟩
    refine ⟨_, rfl, _, rfl, a, b, n + 383, many, rfl, hS.le (by omega), by omega, fun H1 p ns np hp hlen hnd hall hpool kp1 S1 => ⟨by show 0 ≤ sizeLine; decide, fun l nl => ⟨_, _, rfl, ?_⟩⟩⟩
    have hpool := hpool (by omega)
    have kp2 : Kp a b H (upd H1 l (.lst [])) := kp1.trans (kp_new nl)
    have S2 := S1.new (o := .lst []) nl
    have hp2 := upd_at (o := .lst []) hp (ne_of_none hp nl)
    have hl2 : upd H1 l (.lst []) l = some (.lst []) := upd_same
    have hpl : p ≠ l := ne_of_none hp nl
    have nl0 : H l = none := kp1.back S1 nl
    have poff := hS.off np
    have loff := hS.off nl0
    generalize upd H1 l (.lst []) = H2 at kp2 S2 hp2 hl2 ⊢
    refine ⟨_, rfl, p, _, rfl, SqL.of hp2, for_it (walk_enum (xs := ns.map V.str)) (fun i σ H3 => ∃ (ts : List Tie) (us : List V) (v6 v7 v8 : Option V), σ = [some (.ref a), some (.int many), some (.int sh), some (.int he), some (.ref p), some (.ref l), v6, v7, v8] ∧
      Kp a b H H3 ∧ Strm a b (n + 1 + 32 * (8 - i)) H3 ∧ H3 p = some (.lst (ns.map V.str)) ∧ H3 l = some (.lst us) ∧ RepL K (fun c => H c = none ∧ c ≠ l) H3 (ts.map dTie) us ∧ TiesOk ns 1000 ts ∧
      (∀ t ∈ ts, ∃ (j k : Nat) (x y : Str), j < i ∧ j < k ∧ ns[j]? = some x ∧ ns[k]? = some y ∧ pa2 t = pr x y) ∧ ts.length ≤ 16 * i)
      ⟨[], [], none, none, none, rfl, kp2, S2.le (by omega), hp2, hl2, RepL.nil, TiesOk.nil, fun t ht => (nomatch ht), Nat.le_refl _⟩ ?_ ?_ ?_⟩
    · rintro i σ H3 _ ⟨ts, us, v6, v7, v8, _, _, _, h, _⟩
      exact SqL.of h
    · rintro i x σ H3 H4 hi ⟨ts, us, v6, v7, v8, rfl, kp3, S3, hp3, hl3, hr3, hT, hj, hc⟩ ⟨t, x, y, rfl, nt, rfl, e1, e2⟩
      rw [List.length_map] at hi
      obtain rfl := Option.some.inj e1
      obtain ⟨one, ho, rfl⟩ : ∃ z, ns[i]? = some z ∧ V.str z = y := map_get e2
      have kp4 : Kp a b H _ := kp3.trans (kp_new (o := .tup [V.int (i : Nat), V.str one]) nt)
      have S4 := S3.new (o := .tup [V.int (i : Nat), V.str one]) nt
      have s4 : Same H3 _ := same_new (o := .tup [V.int (i : Nat), V.str one]) nt
      have e4 : upd H3 t (.tup [V.int (i : Nat), V.str one]) t = _ := upd_same
      generalize upd H3 t (.tup [V.int (i : Nat), V.str one]) = H4 at kp4 S4 s4 e4 ⊢
      refine ⟨t, _, rfl, SqT.of e4, rfl, _, _, rfl, _, _, rfl, rfl, ?_⟩
      refine ⟨_, rfl, _, rfl, _, _, rfl, rfl, _, rfl, p, _, rfl, SqL.of (s4 _ _ hp3), fun q nq => ⟨q, rfl, ?_⟩⟩
      rw [show ((i : Nat) : Int) + 1 = ((i + 1 : Nat) : Int) from rfl, cut_from, ← List.map_drop]
      have kp5 : Kp a b H _ := kp4.trans (kp_new (o := .lst ((ns.drop (i + 1)).map V.str)) nq)
      have S5 := S4.new (o := .lst ((ns.drop (i + 1)).map V.str)) nq
      have s5 : Same H3 _ := same_trans s4 (same_new (o := .lst ((ns.drop (i + 1)).map V.str)) nq)
      have e5 : upd H4 q (.lst ((ns.drop (i + 1)).map V.str)) q = _ := upd_same
      have hqa := S4.off nq
      have hql : q ≠ l := (ne_of_none (s4 _ _ hl3) nq).symm
      generalize upd H4 q (.lst ((ns.drop (i + 1)).map V.str)) = H5 at kp5 S5 s5 e5 ⊢
      refine ⟨⟨_, SqL.of e5⟩, for_it (walk_list (xs := (ns.drop (i + 1)).map V.str)) (fun j σ H6 => ∃ (ts : List Tie) (us : List V) (v8 : Option V), σ = [some (.ref a), some (.int many), some (.int sh), some (.int he), some (.ref p), some (.ref l), some (.int (i : Nat)), some (.str one), v8] ∧
        Kp a b H H6 ∧ Strm a b (n + 1 + 32 * (8 - (i + 1)) + 2 * (16 - j)) H6 ∧ H6 p = some (.lst (ns.map V.str)) ∧ H6 q = some (.lst ((ns.drop (i + 1)).map V.str)) ∧ H6 l = some (.lst us) ∧ RepL K (fun c => H c = none ∧ c ≠ l) H6 (ts.map dTie) us ∧ TiesOk ns 1000 ts ∧
        (∀ t ∈ ts, ∃ (j' k : Nat) (x y : Str), (j' < i ∨ j' = i ∧ k < i + 1 + j) ∧ j' < k ∧ ns[j']? = some x ∧ ns[k]? = some y ∧ pa2 t = pr x y) ∧ ts.length ≤ 16 * i + j)
        ⟨ts, us, v8, rfl, kp5, S5.le (by omega), s5 _ _ hp3, e5, s5 _ _ hl3, hr3.same s5, hT, fun t ht => by obtain ⟨j, k, x, y, h1, h2⟩ := hj t ht; exact ⟨j, k, x, y, .inl h1, h2⟩, hc⟩ ?_ ?_ ?_⟩
      · rintro j σ H6 _ ⟨ts, us, v8, _, _, _, _, h, _⟩
        exact SqL.of h
      · rintro j x σ H6 H7 hjl ⟨ts, us, v8, rfl, kp6, S6, hp6, hq6, hl6, hr6, hT, hj, hc⟩ ⟨rfl, hx⟩
        rw [List.length_map, List.length_drop] at hjl
        obtain ⟨oth, hoth, rfl⟩ : ∃ z, (ns.drop (i + 1))[j]? = some z ∧ V.str z = x := map_get hx
        rw [List.getElem?_drop] at hoth
        have hne : one ≠ oth := fun e => by
          subst e
          have := nd_get hnd ho hoth
          omega
        refine ⟨_, rfl, a, b, n + 1 + 32 * (8 - (i + 1)) + 2 * (16 - j) - 1, 6, rfl, S6.le (by omega), by decide, by decide, fun H8 d kp8 S8 d0 d1 => ⟨_, rfl, _, _, rfl, rfl, _, rfl, ?_⟩⟩
        have kp9 := kp6.trans kp8
        have hp9 := kp8 _ _ hp6 poff.1 poff.2
        have hq9 := kp8 _ _ hq6 hqa.1 hqa.2
        have hl9 := kp8 _ _ hl6 loff.1 loff.2
        have hr9 := hr6.kp kp8 fun c hc => hS.off hc.1
        refine ite2 (fun _ => ?_) (fun _ => ?_)
        · refine ⟨_, rfl, .inl ⟨rfl, _, SqL.of hl9⟩, _, rfl, _, rfl, _, rfl, _, rfl, a, b, n + 1 + 32 * (8 - (i + 1)) + 2 * (16 - j) - 2, he, rfl, S8.le (by omega), he0, by omega, fun H10 h kp10 S10 h0 h1 => ⟨one, oth, h, rfl, fun r nr => ?_⟩⟩
          have kp11 := (kp9.trans kp10).trans (kp_new (o := .tup [V.str (minS one oth), V.str (maxS one oth), V.int h]) nr)
          have S11 := S10.new (o := .tup [V.str (minS one oth), V.str (maxS one oth), V.int h]) nr
          have s11 : Same H10 _ := same_new (o := .tup [V.str (minS one oth), V.str (maxS one oth), V.int h]) nr
          have e11 : upd H10 r (.tup [V.str (minS one oth), V.str (maxS one oth), V.int h]) r = _ := upd_same
          have nr0 : H r = none := (kp9.trans kp10).back S10 nr
          have hl10 := kp10 _ _ hl9 loff.1 loff.2
          have hrl : r ≠ l := (ne_of_none hl10 nr).symm
          generalize upd H10 r (.tup [V.str (minS one oth), V.str (maxS one oth), V.int h]) = H11 at kp11 S11 s11 e11 ⊢
          have hl11 := s11 _ _ hl10
          have hlen2 : us.length = ts.length := by rw [hr9.len, List.length_map]
          refine ⟨l, us, .ref r, rfl, rfl, hl11, by rw [hlen2]; exact Nat.lt_of_le_of_lt hc (Nat.lt_of_lt_of_le (show 16 * i + j < 1000 by omega) (by decide)), ?_⟩
          refine ⟨ts ++ [mkT one oth h], us ++ [.ref r], _, rfl, kp_mut kp11 nl0, ?_, ?_, ?_, upd_same, ?_, ?_, ?_, ?_⟩
          · refine (S11.le ?_).at_ (upd_ne loff.1.symm) (upd_ne loff.2.symm)
            omega
          · exact upd_at (s11 _ _ (kp10 _ _ hp9 poff.1 poff.2)) hpl
          · exact upd_at (s11 _ _ (kp10 _ _ hq9 hqa.1 hqa.2)) hql
          · rw [List.map_append]
            refine RepL.snoc ?_ ?_
            · exact ((hr9.kp kp10 fun c hc => hS.off hc.1).same s11).mut fun h => h.2 rfl
            · exact rep_tie.mpr ⟨r, rfl, ⟨nr0, hrl⟩, upd_at e11 hrl⟩
          · refine hT.snoc (List.mem_of_getElem? ho) (List.mem_of_getElem? hoth) hne (by omega) (by omega) fun hin => ?_
            obtain ⟨t', ht', e'⟩ := List.mem_map.mp hin
            obtain ⟨j', k', x, y, hjk, hlt, g1, g2, g3⟩ := hj t' ht'
            rcases pr_inj (g3.symm.trans e') with ⟨r1, r2⟩ | ⟨r1, r2⟩
            · subst r1 r2
              have := nd_get hnd g1 ho
              have := nd_get hnd g2 hoth
              omega
            · subst r1 r2
              have := nd_get hnd g1 hoth
              have := nd_get hnd g2 ho
              omega
          · intro t' ht'
            rcases List.mem_append.mp ht' with ht' | ht'
            · obtain ⟨j', k', x, y, hjk, h2⟩ := hj t' ht'
              exact ⟨j', k', x, y, by omega, h2⟩
            · rw [List.mem_singleton] at ht'
              subst ht'
              exact ⟨i, i + 1 + j, one, oth, by omega, by omega, ho, hoth, rfl⟩
          · rw [List.length_append]
            show ts.length + 1 ≤ _
            omega
        · exact ⟨ts, us, _, rfl, kp9, S8.le (by omega), hp9, hq9, hl9, hr9, hT, fun t ht => by obtain ⟨j', k, x, y, h1, h2⟩ := hj t ht; exact ⟨j', k, x, y, by omega, h2⟩, by omega⟩
      · rintro σ H6 ⟨ts, us, v8, rfl, kp6, S6, hp6, hq6, hl6, hr6, hT, hj, hc⟩
        rw [List.length_map, List.length_drop] at *
        refine ⟨ts, us, _, _, v8, rfl, kp6, S6.le (by omega), hp6, hl6, hr6, hT, fun t ht => ?_, by omega⟩
        obtain ⟨j', k, x, y, h1, h2⟩ := hj t ht
        exact ⟨j', k, x, y, by omega, h2⟩
    · rintro σ H3 ⟨ts, us, v6, v7, v8, rfl, kp3, S3, hp3, hl3, hr3, hT, hj, hc⟩
      rw [List.length_map] at *
      refine ⟨_, rfl, _, rfl, _, rfl, a, b, l, n, 1000, ns, ts, us, rfl, S3.le (by omega), loff.1, loff.2, hl3, hr3.wk (fun c hc => hS.off hc.1), hT, by decide, by omega, fun H4 q ts' ws nq hq hr4 hT' hso hl' kp4 S4 => ⟨by show 2 ≤ sizeLine; decide, fun r nr => ?_⟩⟩
      have kp5 := kp3.trans kp4
      have s5 : Same H4 _ := same_new (o := .tup [V.ref p, V.ref q]) nr
      refine k _ _ ns ts' (rep_raw.mpr ⟨r, _, _, rfl, kp5.back S4 nr, upd_same, rep_strs.mpr ⟨p, rfl, np, s5 _ _ (kp4 _ _ hp3 poff.1 poff.2)⟩, q, ws, rfl, kp3.back S3 nq, s5 _ _ hq, ?_⟩) ⟨hnd, fun x hx => allN_gd (pool_in (hpool x hx)), by omega, hT', hso, by omega⟩ ⟨hlen, hpool, by omega⟩ (kp5.trans (kp_new nr)) (S4.new nr)
      exact (hr4.wk fun c hc => kp3.back S3 hc).same s5
end
end Pw
set_option Elab.async false
set_option linter.all false
set_option maxRecDepth 100000
set_option maxHeartbeats 4000000
/-! The law's pictures and their planes. -/
namespace Pw
open PySem PySem.Spec PyProof.Rows L2
theorem cut_map {α : Type} (f : α → V) (xs : List α) (lo hi : Option Int) : ∃ ys : List α, cutV (xs.map f) lo hi = ys.map f ∧ (∀ y ∈ ys, y ∈ xs) ∧ ys.length ≤ xs.length := by
  unfold cutV
  rw [List.length_map, ← List.map_drop, ← List.map_take]
  exact ⟨_, rfl, fun y hy => List.mem_of_mem_drop (List.mem_of_mem_take hy), by rw [List.length_take, List.length_drop]; omega⟩
theorem atI_last {α : Type} {xs : List α} {v : α} (h : xs[xs.length - 1]? = some v) : atI xs (-1) = some v := by
  unfold atI ixN
  have hl : 0 < xs.length := by
    rcases Nat.lt_or_ge 0 xs.length with h1 | h1
    · exact h1
    · rw [List.getElem?_eq_none (by omega)] at h
      cases h
  rw [if_neg (by decide), if_pos (by omega)]
  show xs[((-1 : Int) + xs.length).toNat]? = some v
  rw [show ((-1 : Int) + xs.length).toNat = xs.length - 1 by omega]
  exact h
theorem atI_pred {α : Type} {xs : List α} {v : α} {i : Nat} (hi : 0 < i) (h : xs[i - 1]? = some v) : atI xs ((i : Int) - 1) = some v := by
  rw [show (i : Int) - 1 = ((i - 1 : Nat) : Int) by omega]
  exact atI_nat h
section
variable {P : Program} {w : World} {K : PySem.W.Frag} {mg : Str → Option Value} {base : Heap}
structure PicOk (R C : Nat) (lo hi : Int) (pic : List (List Int)) : Prop where
  len : pic.length = R
  row : ∀ r ∈ pic, r.length = C ∧ ∀ x ∈ r, lo ≤ x ∧ x ≤ hi
def spPicture (K : PySem.W.Frag) : Sp := fun vs H Q _ => ∃ (a b : Addr) (n R C : Nat) (sh : Int), vs = [.ref a, .int R, .int C, .int sh] ∧ Strm a b (n + R * (2 * C)) H ∧ R ≤ 100 ∧ C ≤ 100 ∧ 0 < sh ∧ sh < 1000 ∧
  ∀ (H' : Hp) (v : V) (pic : List (List Int)), Rep K (Fr H) H' (dPic pic) v → PicOk R C 0 sh pic → Kp a b H H' → Strm a b n H' → Q v H'
theorem sc_law_a_picture : FnScope ["_law_stream", "_law_rows", "_law_columns", "_law_shades", "_law_found", "_law_row", "_law_line", "_law_column", "_law_near", "_law_is_flat"] ["_law_stream", "_law_rows", "_law_columns", "_law_shades"] (defScope s_law_a_picture) := ⟨rfl, rfl, rfl, by decide +kernel, rfl, by decide +kernel, by decide +kernel⟩
theorem ok_picture (T : Tx K mg) : Ok P w K mg base CX0 3 "_law_a_picture" ["_law_stream", "_law_rows", "_law_columns", "_law_shades"] (spPicture K) := by
  have G_draw : Ok P w K mg base CX0 1 _ _ _ := ok_draw T
  have G_pick : Ok P w K mg base CX0 2 _ _ _ := ok_pick T
  refine mkOk (d := d_law_a_picture) T 26 24 rfl rfl rfl rfl rfl (fun _ _ _ _ _ _ us hl => match us, hl with | [_, _, _, _], _ => rfl) sc_law_a_picture (fun vs H Q E h => ?_) (fun f cdv A outer s H vs Q E hr h => ?_)
  · obtain ⟨a, b, n, R, C, sh, rfl, _⟩ := h
    rfl
  · obtain ⟨a, b, n, R, C, sh, rfl, hS, hR, hC, sh0, sh1, k⟩ := h
    have nd := sc_law_a_picture.nd
    refine ⟨_, (pss_cons (ps_set (i := 4) nd rfl (Or.inl rfl) (pe_lst pa_nil))
      (pss_cons (ps_for PassesOwn.never rfl (pi_range1 (by rfl) T.range (pa_cons (pv 1) pa_nil)) (pg_name (i := 5) nd rfl (Or.inl rfl))
      (pss_cons (ps_set (i := 6) nd rfl (Or.inl rfl) (pe_lst pa_nil))
      (pss_cons (ps_for PassesOwn.never rfl (pi_range1 (by rfl) T.range (pa_cons (pv 2) pa_nil)) (pg_name (i := 7) nd rfl (Or.inl rfl))
      (pss_cons (ps_set (i := 8) nd rfl (Or.inl rfl) (pe_op op_cat (pe_slice (k_slL (K := K)) (pv 6) (po_some (pe_un un_neg pe_int)) po_none) (pe_ifExp (pt_cmpR (k_neNil hr.units (K := K)) (pv 4) (pe_lst pa_nil) (nomark _)) (pe_slice (k_slL (K := K)) (pe_ix (k_ixL (K := K)) (pv 4) (pe_un un_neg pe_int) (fun _ _ => rfl)) (po_some (pv 7)) (po_some (pe_op op_add (pv 7) pe_int))) (pe_lst pa_nil))))
      (pss_cons (ps_set (i := 9) nd rfl (Or.inl rfl) (pe_and (pe_cmpR (k_neNil hr.units (K := K)) (pv 8) (pe_lst pa_nil) (nomark _)) (pe_one (pe_cmpR op_gt (pe_ok G_draw (hr.mono (by omega)) pass0 (pa_cons (pv 0) (pa_cons pe_int pa_nil))) pe_int (nomark _)))))
      (pss_one (ps_expr (k_bm (K := K) PySem.F.plainAttrs_list PySem.F.slot_list_append PySem.F.type_list_append mt_append (pv 6) (pa_cons (pe_ifExp (pt_val (pv 9)) (pe_ok G_pick (hr.mono (by omega)) pass0 (pa_cons (pv 0) (pa_cons (pv 8) pa_nil))) (pe_ok G_draw (hr.mono (by omega)) pass0 (pa_cons (pv 0) (pa_cons (pv 3) pa_nil)))) pa_nil)))))))
      (pss_one (ps_expr (k_bm (K := K) PySem.F.plainAttrs_list PySem.F.slot_list_append PySem.F.type_list_append mt_append (pv 4) (pa_cons (pv 6) pa_nil)))))))
      (pss_one (ps_ret (pv 4))))), ?_⟩
    refine ⟨by show 0 ≤ sizeLine; decide, fun f nf => ?_⟩
    have foff := hS.off nf
    have S1 := hS.new (o := .lst []) nf
    have kp1 : Kp a b H (upd H f (.lst [])) := kp_new nf
    have hf1 : upd H f (.lst []) f = some (.lst []) := upd_same
    generalize upd H f (.lst []) = H1 at S1 kp1 hf1 ⊢
    refine ⟨_, rfl, _, rfl, by omega, by omega, ?_⟩
    rw [show ((R : Int)).toNat = R by omega]
    refine for_it walk_range (fun i σ H2 => ∃ (pic : List (List Int)) (us : List V) (v5 v6 v7 v8 v9 : Option V), σ = [some (.ref a), some (.int R), some (.int C), some (.int sh), some (.ref f), v5, v6, v7, v8, v9] ∧
      Kp a b H H2 ∧ Strm a b (n + (R - i) * (2 * C)) H2 ∧ H2 f = some (.lst us) ∧ RepL K (fun c => H c = none ∧ c ≠ f) H2 (pic.map dRow) us ∧ PicOk i C 0 sh pic)
      ⟨[], [], none, none, none, none, none, rfl, kp1, S1, hf1, RepL.nil, rfl, fun r h => (nomatch h)⟩ (fun _ _ _ _ _ => trivial) ?_ ?_
    · rintro i x σ H2 H3 hi ⟨pic, us, v5, v6, v7, v8, v9, rfl, kp2, S2, hf2, hr2, hP⟩ ⟨rfl, rfl⟩
      refine ⟨by show 0 ≤ sizeLine; decide, fun l nl => ?_⟩
      have loff := S2.off nl
      have hlf : l ≠ f := (ne_of_none hf2 nl).symm
      have nl0 : H l = none := kp2.back S2 nl
      have S3 := S2.new (o := .lst []) nl
      have kp3 := kp2.trans (kp_new (o := .lst []) nl)
      have hf3 := upd_at (o := .lst []) hf2 hlf.symm
      have hr3 := hr2.same (same_new (o := .lst []) nl)
      have hl3 : upd H3 l (.lst []) l = some (.lst []) := upd_same
      -- the rows that stand keep apart from the new line
      have ha3 : RepL K (fun c => (H c = none ∧ c ≠ f) ∧ c ≠ l) (upd H3 l (.lst [])) (pic.map dRow) us :=
        RepL.step (N := fun c => (H c = none ∧ c ≠ f) ∧ c ≠ l) (fun _ h => h) (fun c o hc ho => upd_at ho hc.2) _ _ (repL_apart hr2 nl)
      generalize upd H3 l (.lst []) = H4 at S3 kp3 hf3 hl3 ha3 ⊢
      clear hr3
      have hm : (R - i) * (2 * C) = (R - (i + 1)) * (2 * C) + 2 * C := by
        rw [show R - i = (R - (i + 1)) + 1 by omega, Nat.add_mul, Nat.one_mul]
      refine ⟨_, rfl, _, rfl, by omega, by omega, ?_⟩
      rw [show ((C : Int)).toNat = C by omega]
      refine for_it walk_range (fun j σ H5 => ∃ (ln : List Int) (v7 v8 v9 : Option V), σ = [some (.ref a), some (.int R), some (.int C), some (.int sh), some (.ref f), some (.int ((0 : Int) + (i : Nat))), some (.ref l), v7, v8, v9] ∧
        Kp a b H H5 ∧ Strm a b (n + (R - (i + 1)) * (2 * C) + 2 * (C - j)) H5 ∧ H5 f = some (.lst us) ∧ RepL K (fun c => (H c = none ∧ c ≠ f) ∧ c ≠ l) H5 (pic.map dRow) us ∧ H5 l = some (.lst (ln.map V.int)) ∧ ln.length = j ∧ ∀ x ∈ ln, 0 ≤ x ∧ x ≤ sh)
        ⟨[], v7, v8, v9, rfl, kp3, S3.le (by omega), hf3, ha3, hl3, rfl, fun x h => (nomatch h)⟩ (fun _ _ _ _ _ => trivial) ?_ ?_
      · rintro j x σ H5 H6 hj ⟨ln, v7, v8, v9, rfl, kp5, S5, hf5, hr5, hl5, hln, hx⟩ ⟨rfl, rfl⟩
        have len1 : us.length = i := by rw [hr5.len, List.length_map, hP.len]
        have noff : ∀ c, (H c = none ∧ c ≠ f) ∧ c ≠ l → c ≠ a ∧ c ≠ b := fun c hc => hS.off hc.1.1
        refine viaS (fun σ H7 => ∃ (q : Addr) (nr : List Int), σ = [some (.ref a), some (.int R), some (.int C), some (.int sh), some (.ref f), some (.int ((0 : Int) + (i : Nat))), some (.ref l), some (.int ((0 : Int) + (j : Nat))), some (.ref q), v9] ∧
          Same H6 H7 ∧ H6 q = none ∧ H7 q = some (.lst (nr.map V.int)) ∧ nr.length ≤ 200 ∧ ∀ x ∈ nr, 0 ≤ x ∧ x ≤ sh) (fun nx hn => ?_) ?_
        · refine ⟨_, rfl, _, rfl, _, rfl, l, _, rfl, SqL.of hl5, fun p np => ?_⟩
          obtain ⟨A1, eA, hA, lA⟩ := cut_map V.int ln (some (-1)) none
          rw [eA]
          have s7 : Same H6 _ := same_new (o := .lst (A1.map V.int)) np
          have e7 : upd H6 p (.lst (A1.map V.int)) p = _ := upd_same
          generalize upd H6 p (.lst (A1.map V.int)) = H7 at s7 e7 ⊢
          refine via (te := tIf _ _ _) (fun v H8 => ∃ (q : Addr) (B1 : List Int), v = .ref q ∧ Same H7 H8 ∧ H8 q = some (.lst (B1.map V.int)) ∧ B1.length ≤ 100 ∧ ∀ x ∈ B1, 0 ≤ x ∧ x ≤ sh) (fun Qc hc => ?_) ?_
          · refine ⟨_, rfl, by show 0 ≤ sizeLine; decide, fun q nq => ⟨f, q, us, rfl, rfl, SqL.of (same_trans s7 (same_new nq) _ _ hf5), SqL.of upd_same, _, rfl, ?_⟩⟩
            refine ite2 (fun e => ?_) (fun e => ?_)
            · have hne : 0 < us.length := by
                cases us with
                | nil => cases e
                | cons _ _ => simp
              obtain ⟨v, hv⟩ : ∃ v, us[us.length - 1]? = some v := ⟨us[us.length - 1], List.getElem?_eq_getElem (by omega)⟩
              obtain ⟨d, hd, hrep⟩ := hr5.get hv
              obtain ⟨r, hr1, rfl⟩ := map_get hd
              obtain ⟨rp, rfl, hrp, hro⟩ := rep_row.mp hrep
              have hrow := hP.row r (List.mem_of_getElem? hr1)
              refine ⟨_, rfl, _, rfl, f, us, _, _, rfl, rfl, SqL.of (same_trans s7 (same_new nq) _ _ hf5), atI_last hv, ?_⟩
              refine ⟨_, rfl, _, rfl, _, rfl, _, _, rfl, rfl, _, rfl, rp, _, rfl, SqL.of (same_trans s7 (same_new nq) _ _ hro), fun t nt => ?_⟩
              obtain ⟨B1, eB, hB, lB⟩ := cut_map V.int r (some (0 + (j : Nat))) (some (0 + (j : Nat) + 1))
              refine hc _ _ ⟨t, B1, rfl, same_trans (same_new nq) (same_new nt), by rw [eB]; exact upd_same, by omega, fun x hx => hrow.2 x (hB x hx)⟩
            · refine ⟨by show 0 ≤ sizeLine; decide, fun t nt => hc _ _ ⟨t, [], rfl, same_trans (same_new nq) (same_new nt), upd_same, Nat.zero_le _, fun x h => (nomatch h)⟩⟩
          · rintro v H8 ⟨q, B1, rfl, s8, hq8, lB, hB⟩
            refine ⟨p, q, _, _, rfl, rfl, s8 _ _ e7, hq8, ?_, fun t nt => ?_⟩
            · rw [List.length_map, List.length_map]
              exact Nat.le_trans (show A1.length + B1.length ≤ 200 by omega) (by decide)
            rw [← List.map_append]
            refine hn _ _ ⟨t, A1 ++ B1, rfl, same_trans (same_trans s7 s8) (same_new nt), same_back (same_trans s7 s8) nt, upd_same, by rw [List.length_append]; omega, fun x hx' => ?_⟩
            rcases List.mem_append.mp hx' with h | h
            · exact hx x (hA x h)
            · exact hB x h
        rintro σ H7 ⟨q, nr, rfl, s7, nq, hq7, lq, hq⟩
        have qoff := S5.off nq
        have kp7 := kp5.trans (.of s7)
        have S7 := S5.same s7
        -- is_flat
        refine viaS (fun σ H8 => ∃ (fl : Bool), σ = [some (.ref a), some (.int R), some (.int C), some (.int sh), some (.ref f), some (.int ((0 : Int) + (i : Nat))), some (.ref l), some (.int ((0 : Int) + (j : Nat))), some (.ref q), some (.bl fl)] ∧
          Kp a b H7 H8 ∧ Strm a b (n + (R - (i + 1)) * (2 * C) + 2 * (C - j) - 1) H8 ∧ (fl = true → 0 < nr.length)) (fun nx hn => ?_) ?_
        · refine ⟨_, rfl, by show 0 ≤ sizeLine; decide, fun t nt => ⟨q, t, _, rfl, rfl, SqL.of (same_new nt _ _ hq7), SqL.of upd_same, _, rfl, ?_⟩⟩
          refine ite2 (fun e => ?_) (fun e => ?_)
          · have hne : 0 < nr.length := by
              cases nr with
              | nil => cases e
              | cons _ _ => simp
            refine ⟨_, rfl, a, b, n + (R - (i + 1)) * (2 * C) + 2 * (C - j) - 1, 3, rfl, (S7.new nt).le (by omega), by decide, by decide, fun H8 d kp8 S8 _ _ => ⟨_, _, rfl, rfl, ?_⟩⟩
            exact hn _ _ ⟨_, rfl, (kp_new nt).trans kp8, S8, fun _ => hne⟩
          · exact hn _ _ ⟨false, rfl, kp_new nt, (S7.new nt).le (by omega), fun h => by cases h⟩
        rintro σ H8 ⟨fl, rfl, kp8, S8, hfl⟩
        have kp9 := kp7.trans kp8
        have kpl := (Kp.of (a := a) (b := b) s7).trans kp8
        have hl8 := kpl _ _ hl5 loff.1 loff.2
        have hf8 := kpl _ _ hf5 foff.1 foff.2
        have hr8 := hr5.kp kpl noff
        refine ⟨_, rfl, .inl ⟨rfl, _, SqL.of hl8⟩, ?_⟩
        refine via (te := tIf _ _ _) (fun v H9 => ∃ (x : Int), v = .int x ∧ 0 ≤ x ∧ x ≤ sh ∧ Kp a b H8 H9 ∧ Strm a b (n + (R - (i + 1)) * (2 * C) + 2 * (C - j) - 2) H9) (fun Qc hc => ?_) ?_
        · refine ⟨_, rfl, _, rfl, ?_⟩
          refine ite2 (fun e => ?_) (fun e => ?_)
          · refine ⟨_, rfl, _, rfl, a, b, q, n + (R - (i + 1)) * (2 * C) + 2 * (C - j) - 2, nr.map V.int, rfl, S8.le (by omega), kp8 _ _ hq7 qoff.1 qoff.2, qoff.1, qoff.2, by rw [List.length_map]; exact hfl e, by rw [List.length_map]; omega, fun H9 x hx' kp9 S9 => ?_⟩
            obtain ⟨z, hz, rfl⟩ := List.mem_map.mp hx'
            exact hc _ _ ⟨z, rfl, (hq z hz).1, (hq z hz).2, kp9, S9⟩
          · refine ⟨_, rfl, _, rfl, a, b, n + (R - (i + 1)) * (2 * C) + 2 * (C - j) - 2, sh, rfl, S8.le (by omega), sh0, by omega, fun H9 d kp9 S9 d0 d1 => ?_⟩
            exact hc _ _ ⟨d, rfl, d0, by omega, kp9, S9⟩
        rintro v H9 ⟨x, rfl, x0, x1, kp10, S9⟩
        have hl9 := kp10 _ _ hl8 loff.1 loff.2
        refine ⟨l, _, .int x, rfl, rfl, hl9, by rw [List.length_map, hln]; exact Nat.lt_of_lt_of_le (show j < 1000 by omega) (by decide), ?_⟩
        refine ⟨ln ++ [x], _, _, _, rfl, kp_mut (kp9.trans kp10) nl0, ?_, upd_at (kp10 _ _ hf8 foff.1 foff.2) hlf.symm, (hr8.kp kp10 noff).mut (fun h => h.2 rfl), ?_, by rw [List.length_append, hln]; rfl, ?_⟩
        · refine (S9.le ?_).at_ (upd_ne loff.1.symm) (upd_ne loff.2.symm)
          omega
        · rw [List.map_append]
          exact upd_same
        · intro z hz
          rcases List.mem_append.mp hz with h | h
          · exact hx z h
          · rw [List.mem_singleton] at h
            subst h
            exact ⟨x0, x1⟩
      · rintro σ H5 ⟨ln, v7, v8, v9, rfl, kp5, S5, hf5, hr5, hl5, hln, hx⟩
        have len1 : us.length = i := by rw [hr5.len, List.length_map, hP.len]
        refine ⟨_, rfl, .inl ⟨rfl, _, SqL.of hf5⟩, _, rfl, f, us, .ref l, rfl, rfl, hf5, by rw [len1]; exact Nat.lt_of_lt_of_le (show i < 1000 by omega) (by decide), ?_⟩
        refine ⟨pic ++ [ln], us ++ [.ref l], _, _, _, _, _, rfl, kp_mut kp5 nf, ?_, upd_same, ?_, ?_, ?_⟩
        · refine (S5.le ?_).at_ (upd_ne foff.1.symm) (upd_ne foff.2.symm)
          omega
        · rw [List.map_append]
          refine RepL.snoc ?_ ?_
          · exact (hr5.wk fun c hc => hc.1).mut fun h => h.2 rfl
          · exact rep_row.mpr ⟨l, rfl, ⟨nl0, hlf⟩, upd_at hl5 hlf⟩
        · rw [List.length_append, hP.len]
          rfl
        · intro r hr'
          rcases List.mem_append.mp hr' with h | h
          · exact hP.row r h
          · rw [List.mem_singleton] at h
            subst h
            exact ⟨hln, hx⟩
    · rintro σ H2 ⟨pic, us, v5, v6, v7, v8, v9, rfl, kp2, S2, hf2, hr2, hP⟩
      refine ⟨_, rfl, k H2 _ pic ⟨f, us, rfl, nf, hf2, hr2.wk fun c hc => hc.1⟩ hP kp2 (S2.le (by omega))⟩
end
end Pw
set_option Elab.async false
set_option linter.all false
set_option maxRecDepth 100000
set_option maxHeartbeats 4000000
/-! A picture's plane, plainly: its places, its ties. -/
namespace Pw
open PySem PySem.Spec PyProof.Rows L2
def absI (z : Int) : Int := if z < 0 then -z else z
def px (pic : List (List Int)) (i j : Nat) : Int := (pic.getD i []).getD j 0
def leftT (pic : List (List Int)) (i j : Nat) : List Tie := if 0 < j then [(plc i (j - 1), plc i j, absI (px pic i j - px pic i (j - 1)))] else []
def upT (pic : List (List Int)) (i j : Nat) : List Tie := if 0 < i then [(plc (i - 1) j, plc i j, absI (px pic i j - px pic (i - 1) j))] else []
def cellT (pic : List (List Int)) (i j : Nat) : List Tie := leftT pic i j ++ upT pic i j
theorem leftT_len (pic : List (List Int)) (i j : Nat) : (leftT pic i j).length ≤ 1 := by unfold leftT; split <;> simp
theorem upT_len (pic : List (List Int)) (i j : Nat) : (upT pic i j).length ≤ 1 := by unfold upT; split <;> simp
def rowT (pic : List (List Int)) (i n : Nat) : List Tie := (List.range n).flatMap (cellT pic i)
def planeT (pic : List (List Int)) (C m : Nat) : List Tie := (List.range m).flatMap fun i => rowT pic i C
def rowN (i n : Nat) : List Str := (List.range n).map (plc i)
def planeN (C m : Nat) : List Str := (List.range m).flatMap fun i => rowN i C
def sw (t : Tie) : Tie := mkT t.1 t.2.1 t.2.2
theorem rowT_succ (pic : List (List Int)) (i n : Nat) : rowT pic i (n + 1) = rowT pic i n ++ cellT pic i n := by
  unfold rowT
  rw [List.range_succ, List.flatMap_append, List.flatMap_cons, List.flatMap_nil, List.append_nil]
theorem planeT_succ (pic : List (List Int)) (C m : Nat) : planeT pic C (m + 1) = planeT pic C m ++ rowT pic m C := by
  unfold planeT
  rw [List.range_succ, List.flatMap_append, List.flatMap_cons, List.flatMap_nil, List.append_nil]
theorem rowN_succ (i n : Nat) : rowN i (n + 1) = rowN i n ++ [plc i n] := by
  unfold rowN
  rw [List.range_succ, List.map_append]
  rfl
theorem planeN_succ (C m : Nat) : planeN C (m + 1) = planeN C m ++ rowN m C := by
  unfold planeN
  rw [List.range_succ, List.flatMap_append, List.flatMap_cons, List.flatMap_nil, List.append_nil]
theorem planeN_len (C m : Nat) : (planeN C m).length = m * C := by
  induction m with
  | zero => simp [planeN]
  | succ m ih =>
    rw [planeN_succ, List.length_append, ih, Nat.add_mul, Nat.one_mul]
    simp [rowN]
theorem cellT_len (pic : List (List Int)) (i j : Nat) : (cellT pic i j).length ≤ 2 := by
  unfold cellT
  rw [List.length_append]
  have := leftT_len pic i j
  have := upT_len pic i j
  omega
theorem rowT_len (pic : List (List Int)) (i n : Nat) : (rowT pic i n).length ≤ 2 * n := by
  induction n with
  | zero => simp [rowT]
  | succ n ih =>
    rw [rowT_succ, List.length_append]
    have := cellT_len pic i n
    omega
theorem planeT_len (pic : List (List Int)) (C m : Nat) : (planeT pic C m).length ≤ m * (2 * C) := by
  induction m with
  | zero => simp [planeT]
  | succ m ih =>
    rw [planeT_succ, List.length_append, Nat.add_mul, Nat.one_mul]
    have := rowT_len pic m C
    omega
theorem mem_planeN {C m i j : Nat} (hi : i < m) (hj : j < C) : plc i j ∈ planeN C m := List.mem_flatMap.mpr ⟨i, List.mem_range.mpr hi, List.mem_map.mpr ⟨j, List.mem_range.mpr hj, rfl⟩⟩
theorem planeN_nd {C m : Nat} (hm : m ≤ 12) (hC : C ≤ 20) : (planeN C m).Nodup := by
  unfold planeN List.Nodup
  rw [List.pairwise_flatMap]
  refine ⟨fun i hi => ?_, ?_⟩
  · unfold rowN
    rw [List.pairwise_map]
    refine List.Pairwise.imp_of_mem ?_ List.nodup_range
    intro a b ha hb hne e
    have h1 := List.mem_range.mp hi
    have h2 := List.mem_range.mp ha
    have h3 := List.mem_range.mp hb
    exact hne (plc_inj (by omega) (by omega) (by omega) (by omega) e).2
  · refine List.Pairwise.imp_of_mem ?_ List.nodup_range
    intro a b ha hb hne x hx y hy e
    obtain ⟨j, hj, rfl⟩ := List.mem_map.mp hx
    obtain ⟨k, hk, rfl⟩ := List.mem_map.mp hy
    have h1 := List.mem_range.mp ha
    have h2 := List.mem_range.mp hb
    have h3 := List.mem_range.mp hj
    have h4 := List.mem_range.mp hk
    exact hne (plc_inj (by omega) (by omega) (by omega) (by omega) e).1
theorem px_in {R C : Nat} {lo hi : Int} {pic : List (List Int)} (h : PicOk R C lo hi pic) {i j : Nat} (h1 : i < R) (h2 : j < C) : ∃ r, pic[i]? = some r ∧ r[j]? = some (px pic i j) ∧ lo ≤ px pic i j ∧ px pic i j ≤ hi := by
  have hl := h.len
  have e : pic[i]? = some pic[i] := List.getElem?_eq_getElem (by omega)
  have hr := h.row pic[i] (List.getElem_mem _)
  have e2 : pic[i][j]? = some pic[i][j] := List.getElem?_eq_getElem (by omega)
  have e3 : px pic i j = pic[i][j] := by
    have e4 : pic.getD i [] = pic[i] := by
      rw [List.getD_eq_getElem?_getD, e]
      rfl
    unfold px
    rw [e4, List.getD_eq_getElem?_getD, e2]
    rfl
  refine ⟨pic[i], e, by rw [e3]; exact e2, ?_⟩
  rw [e3]
  exact hr.2 _ (List.getElem_mem _)
theorem cell_mem {R C : Nat} {lo hi : Int} {pic : List (List Int)} (h : PicOk R C lo hi pic) {i j : Nat} (h1 : i < R) (h2 : j < C) {t : Tie} (ht : t ∈ cellT pic i j) :
    ∃ (i' j' : Nat) (z : Int), t = (plc i' j', plc i j, z) ∧ i' + j' + 1 = i + j ∧ i' ≤ i ∧ j' ≤ j ∧ 0 ≤ z ∧ z ≤ hi - lo := by
  unfold cellT leftT upT at ht
  have ab : ∀ x y : Int, lo ≤ x ∧ x ≤ hi → lo ≤ y ∧ y ≤ hi → 0 ≤ absI (x - y) ∧ absI (x - y) ≤ hi - lo := fun x y hx hy => by
    unfold absI
    split <;> omega
  have p0 := (px_in h h1 h2).choose_spec.2.2
  rcases List.mem_append.mp ht with ht | ht
  · by_cases e : 0 < j
    · rw [if_pos e, List.mem_singleton] at ht
      have p1 := (px_in h h1 (show j - 1 < C by omega)).choose_spec.2.2
      exact ⟨i, j - 1, _, ht, by omega, by omega, by omega, ab _ _ p0 p1⟩
    · rw [if_neg e] at ht
      cases ht
  · by_cases e : 0 < i
    · rw [if_pos e, List.mem_singleton] at ht
      have p1 := (px_in h (show i - 1 < R by omega) h2).choose_spec.2.2
      exact ⟨i - 1, j, _, ht, by omega, by omega, by omega, ab _ _ p0 p1⟩
    · rw [if_neg e] at ht
      cases ht
theorem pr_plc {i' j' i j k' l' k l : Nat} (b1 : i < 12 ∧ j < 20) (b2 : k < 12 ∧ l < 20) (s1 : i' + j' + 1 = i + j ∧ i' ≤ i ∧ j' ≤ j) (s2 : k' + l' + 1 = k + l ∧ k' ≤ k ∧ l' ≤ l)
    (h : pr (plc i' j') (plc i j) = pr (plc k' l') (plc k l)) : i = k ∧ j = l ∧ i' = k' ∧ j' = l' := by
  rcases pr_inj h with ⟨e1, e2⟩ | ⟨e1, e2⟩
  · have a := plc_inj (by omega) (by omega) (by omega) (by omega) e1
    have b := plc_inj (by omega) (by omega) (by omega) (by omega) e2
    omega
  · have a := plc_inj (by omega) (by omega) (by omega) (by omega) e1
    have b := plc_inj (by omega) (by omega) (by omega) (by omega) e2
    omega
theorem planeT_ok {R C : Nat} {lo hi : Int} {pic : List (List Int)} (h : PicOk R C lo hi pic) (hR : R ≤ 12) (hC : C ≤ 20) : TiesOk (planeN C R) (hi - lo) ((planeT pic C R).map sw) := by
  have mem : ∀ t ∈ planeT pic C R, ∃ (i j i' j' : Nat) (z : Int), i < R ∧ j < C ∧ t = (plc i' j', plc i j, z) ∧ i' + j' + 1 = i + j ∧ i' ≤ i ∧ j' ≤ j ∧ 0 ≤ z ∧ z ≤ hi - lo := by
    intro t ht
    obtain ⟨i, hi', ht⟩ := List.mem_flatMap.mp ht
    obtain ⟨j, hj, ht⟩ := List.mem_flatMap.mp ht
    obtain ⟨i', j', z, e⟩ := cell_mem h (List.mem_range.mp hi') (List.mem_range.mp hj) ht
    exact ⟨i, j, i', j', z, List.mem_range.mp hi', List.mem_range.mp hj, e⟩
  refine ⟨fun t ht => ?_, ?_⟩
  · obtain ⟨s, hs, rfl⟩ := List.mem_map.mp ht
    obtain ⟨i, j, i', j', z, h1, h2, rfl, h3, h4, h5, h6, h7⟩ := mem s hs
    have m := pr_mem (mem_planeN (show i' < R by omega) (show j' < C by omega)) (mem_planeN h1 h2)
    refine ⟨m.1, m.2, pr_lt fun e => ?_, ?_, h7⟩
    · have := plc_inj (by omega) (by omega) (by omega) (by omega) e
      omega
    · show -(hi - lo) ≤ z
      omega
  · rw [List.map_map, List.Nodup, List.pairwise_map]
    unfold planeT
    rw [List.pairwise_flatMap]
    refine ⟨fun i hi' => ?_, ?_⟩
    · unfold rowT
      rw [List.pairwise_flatMap]
      have hi2 := List.mem_range.mp hi'
      refine ⟨fun j hj => ?_, ?_⟩
      · have hj2 := List.mem_range.mp hj
        unfold cellT leftT upT
        by_cases e1 : 0 < j
        · by_cases e2 : 0 < i
          · rw [if_pos e1, if_pos e2]
            refine List.pairwise_append.mpr ⟨List.pairwise_singleton _ _, List.pairwise_singleton _ _, fun x hx y hy e => ?_⟩
            rw [List.mem_singleton] at hx hy
            subst hx hy
            have := pr_plc (i' := i) (j' := j - 1) (i := i) (j := j) (k' := i - 1) (l' := j) (k := i) (l := j) ⟨by omega, by omega⟩ ⟨by omega, by omega⟩ ⟨by omega, by omega, by omega⟩ ⟨by omega, by omega, by omega⟩ e
            omega
          · rw [if_pos e1, if_neg e2]
            exact List.pairwise_singleton _ _
        · by_cases e2 : 0 < i
          · rw [if_neg e1, if_pos e2]
            exact List.pairwise_singleton _ _
          · rw [if_neg e1, if_neg e2]
            exact List.Pairwise.nil
      · refine List.Pairwise.imp_of_mem ?_ List.nodup_range
        intro j l hj hl hne x hx y hy e
        have hj2 := List.mem_range.mp hj
        have hl2 := List.mem_range.mp hl
        obtain ⟨i', j', z, rfl, s1, s2, s3, _⟩ := cell_mem h hi2 hj2 hx
        obtain ⟨k', l', z', rfl, s4, s5, s6, _⟩ := cell_mem h hi2 hl2 hy
        have := pr_plc ⟨by omega, by omega⟩ ⟨by omega, by omega⟩ ⟨s1, s2, s3⟩ ⟨s4, s5, s6⟩ e
        exact hne this.2.1
    · refine List.Pairwise.imp_of_mem ?_ List.nodup_range
      intro i k hi' hk hne x hx y hy e
      have hi2 := List.mem_range.mp hi'
      have hk2 := List.mem_range.mp hk
      obtain ⟨j, hj, hx⟩ := List.mem_flatMap.mp hx
      obtain ⟨l, hl, hy⟩ := List.mem_flatMap.mp hy
      have hj2 := List.mem_range.mp hj
      have hl2 := List.mem_range.mp hl
      obtain ⟨i', j', z, rfl, s1, s2, s3, _⟩ := cell_mem h hi2 hj2 hx
      obtain ⟨k', l', z', rfl, s4, s5, s6, _⟩ := cell_mem h hk2 hl2 hy
      have := pr_plc ⟨by omega, by omega⟩ ⟨by omega, by omega⟩ ⟨s1, s2, s3⟩ ⟨s4, s5, s6⟩ e
      exact hne this.1
end Pw
set_option Elab.async false
set_option linter.all false
set_option maxRecDepth 100000
set_option maxHeartbeats 4000000
/-! The law's plane of a picture. -/
namespace Pw
open PySem PySem.Spec PyProof.Rows L2
section
variable {P : Program} {w : World} {K : PySem.W.Frag} {mg : Str → Option Value} {base : Heap}
theorem tl_add {H0 H : Hp} {tl p : Addr} {us : List V} {ts : List Tie} {t : Tie} (h1 : H tl = some (.lst us)) (h2 : RepL K (fun c => H0 c = none ∧ c ≠ tl) H (ts.map dTie) us) (np : H p = none) (n0 : H0 p = none) :
    RepL K (fun c => H0 c = none ∧ c ≠ tl) (upd (upd H p (.tup [.str t.1, .str t.2.1, .int t.2.2])) tl (.lst (us ++ [.ref p]))) ((ts ++ [t]).map dTie) (us ++ [.ref p]) := by
  have hne : p ≠ tl := (ne_of_none h1 np).symm
  rw [List.map_append]
  refine RepL.snoc ?_ ?_
  · exact (h2.same (same_new np)).mut fun h => h.2 rfl
  · exact rep_tie.mpr ⟨p, rfl, ⟨n0, hne⟩, upd_at upd_same hne⟩
/-- ties stand in tuples: apart from any list -/
theorem repL_tie_apart {N : Addr → Prop} {H : Hp} {l : Addr} {xs : List V} : ∀ {ts : List Tie} {vs : List V}, RepL K N H (ts.map dTie) vs → H l = some (.lst xs) → RepL K (fun c => N c ∧ c ≠ l) H (ts.map dTie) vs
  | [], _, h, _ => h
  | t :: ts, _, ⟨v, ws, e, h1, h2⟩, hl => by
    obtain ⟨p, rfl, hp, ho⟩ := rep_tie.mp h1
    exact ⟨_, ws, e, rep_tie.mpr ⟨p, rfl, ⟨hp, ne_of ho hl (by intro z; cases z)⟩, ho⟩, repL_tie_apart h2 hl⟩
theorem repL_tie_off {N : Addr → Prop} {H : Hp} {l : Addr} {o : HO} : ∀ {ts : List Tie} {vs : List V}, RepL K N H (ts.map dTie) vs → H l = some o → (∀ xs, HO.tup xs ≠ o) → RepL K (fun c => N c ∧ c ≠ l) H (ts.map dTie) vs
  | [], _, h, _, _ => h
  | t :: ts, _, ⟨v, ws, e, h1, h2⟩, hl, hne => by
    obtain ⟨p, rfl, hp, ho⟩ := rep_tie.mp h1
    exact ⟨_, ws, e, rep_tie.mpr ⟨p, rfl, ⟨hp, ne_of ho hl (hne _)⟩, ho⟩, repL_tie_off h2 hl hne⟩
theorem str_len1 (z : Nat) (hz : z < 1000) : (Str.ofString "r").length + (toString ((z : Nat) : Int) : Str).length ≤ sizeLine := Nat.le_trans (Nat.add_le_add (show (Str.ofString "r").length ≤ 1 by decide +kernel) (digits_small z hz)) (by decide)
theorem str_len2 (z : Nat) (hz : z < 1000) : ((Str.ofString "r") ++ (toString ((z : Nat) : Int) : Str)).length + (Str.ofString "c").length ≤ sizeLine := by
  rw [Str.length_append]
  exact Nat.le_trans (Nat.add_le_add (Nat.add_le_add (show (Str.ofString "r").length ≤ 1 by decide +kernel) (digits_small z hz)) (show (Str.ofString "c").length ≤ 1 by decide +kernel)) (by decide)
theorem str_len3 (z y : Nat) (hz : z < 1000) (hy : y < 1000) : (((Str.ofString "r") ++ (toString ((z : Nat) : Int) : Str)) ++ (Str.ofString "c")).length + (toString ((y : Nat) : Int) : Str).length ≤ sizeLine := by
  rw [Str.length_append, Str.length_append]
  exact Nat.le_trans (Nat.add_le_add (Nat.add_le_add (Nat.add_le_add (show (Str.ofString "r").length ≤ 1 by decide +kernel) (digits_small z hz)) (show (Str.ofString "c").length ≤ 1 by decide +kernel)) (digits_small y hy)) (by decide)
def spPlane (K : PySem.W.Frag) : Sp := fun vs H Q _ => ∃ (v : V) (N : Addr → Prop) (R C : Nat) (lo hi : Int) (pic : List (List Int)), vs = [v] ∧ Rep K N H (dPic pic) v ∧ PicOk R C lo hi pic ∧ R ≤ 12 ∧ C ≤ 20 ∧
  ∀ (H' : Hp) (v' : V) (ts : List Tie), Rep K (Fr H) H' (dRaw (planeN C R) ts) v' → ts.Perm ((planeT pic C R).map sw) → Srt ts → Same H H' → Q v' H'
theorem sc_law_a_plane : FnScope ["_law_picture", "_law_places", "_law_ties", "_law_row", "_law_line", "_law_column", "_law_shade", "_law_name", "_law_beside", "_law_above"] ["_law_picture"] (defScope s_law_a_plane) := ⟨rfl, rfl, rfl, by decide +kernel, rfl, by decide +kernel, by decide +kernel⟩
theorem ok_plane (T : Tx K mg) : Ok P w K mg base CX0 2 "_law_a_plane" ["_law_picture"] (spPlane K) := by
  have G_a_tie : Ok P w K mg base CX0 1 _ _ _ := ok_tie T
  refine mkOk (d := d_law_a_plane) T 27 25 rfl rfl rfl rfl rfl (fun _ _ _ _ _ _ us hl => match us, hl with | [_], _ => rfl) sc_law_a_plane (fun vs H Q E h => ?_) (fun f cdv A outer s H vs Q E hr h => ?_)
  · obtain ⟨v, N, R, C, lo, hi, pic, rfl, _⟩ := h
    rfl
  · obtain ⟨v, N, R, C, lo, hi, pic, rfl, hrep, hP, hR, hC, k⟩ := h
    have nd := sc_law_a_plane.nd
    obtain ⟨p, vs, rfl, hNp, hp, hrows⟩ := hrep
    have lvs : vs.length = R := by rw [hrows.len, List.length_map, hP.len]
    refine ⟨_, (pss_cons (ps_par (i := 1) (j := 2) (by rfl) nd rfl rfl (by decide) rfl rfl (pa_cons (pe_lst pa_nil) (pa_cons (pe_lst pa_nil) pa_nil)) (by rfl))
      (pss_cons (ps_for PassesOwn.never rfl (k_enum (K := K) (by rfl) T.enumerate (pa_cons (pv 0) pa_nil)) (k_tup (K := K) (n := 2) rfl (pgs_cons (pg_name (i := 3) nd rfl (Or.inl rfl)) (pgs_cons (pg_name (i := 4) nd rfl (Or.inl rfl)) pgs_nil)))
      (pss_one (ps_for PassesOwn.never rfl (k_enum (K := K) (by rfl) T.enumerate (pa_cons (pv 4) pa_nil)) (k_tup (K := K) (n := 2) rfl (pgs_cons (pg_name (i := 5) nd rfl (Or.inl rfl)) (pgs_cons (pg_name (i := 6) nd rfl (Or.inl rfl)) pgs_nil)))
      (pss_cons (ps_set (i := 7) nd rfl (Or.inl rfl) (pe_op op_add_str (pe_op op_add_str (pe_op op_add_str pe_str (pe_callTy call_str_int (by rfl) T.strT (by decide +kernel) (pa_cons (pv 3) pa_nil))) pe_str) (pe_callTy call_str_int (by rfl) T.strT (by decide +kernel) (pa_cons (pv 5) pa_nil))))
      (pss_cons (ps_expr (k_bm (K := K) PySem.F.plainAttrs_list PySem.F.slot_list_append PySem.F.type_list_append mt_append (pv 1) (pa_cons (pv 7) pa_nil)))
      (pss_cons (ps_if (pt_cmpR op_gt (pv 5) pe_int (nomark _)) (pss_cons (ps_set (i := 8) nd rfl (Or.inl rfl) (pe_op op_add_str (pe_op op_add_str (pe_op op_add_str pe_str (pe_callTy call_str_int (by rfl) T.strT (by decide +kernel) (pa_cons (pv 3) pa_nil))) pe_str) (pe_callTy call_str_int (by rfl) T.strT (by decide +kernel) (pa_cons (pe_op op_sub (pv 5) pe_int) pa_nil))))
      (pss_one (ps_expr (k_bm (K := K) PySem.F.plainAttrs_list PySem.F.slot_list_append PySem.F.type_list_append mt_append (pv 2) (pa_cons (pe_ok G_a_tie (hr.mono (by omega)) pass0 (pa_cons (pv 8) (pa_cons (pv 7) (pa_cons (pe_callB call_abs (by rfl) T.abs (by decide +kernel) (pa_cons (pe_op op_sub (pv 6) (pe_ix (k_ixL (K := K)) (pv 4) (pe_op op_sub (pv 5) pe_int) (fun _ _ => rfl))) pa_nil)) pa_nil)))) pa_nil))))) pss_nil)
      (pss_one (ps_if (pt_cmpR op_gt (pv 3) pe_int (nomark _)) (pss_cons (ps_set (i := 9) nd rfl (Or.inl rfl) (pe_op op_add_str (pe_op op_add_str (pe_op op_add_str pe_str (pe_callTy call_str_int (by rfl) T.strT (by decide +kernel) (pa_cons (pe_op op_sub (pv 3) pe_int) pa_nil))) pe_str) (pe_callTy call_str_int (by rfl) T.strT (by decide +kernel) (pa_cons (pv 5) pa_nil))))
      (pss_one (ps_expr (k_bm (K := K) PySem.F.plainAttrs_list PySem.F.slot_list_append PySem.F.type_list_append mt_append (pv 2) (pa_cons (pe_ok G_a_tie (hr.mono (by omega)) pass0 (pa_cons (pv 9) (pa_cons (pv 7) (pa_cons (pe_callB call_abs (by rfl) T.abs (by decide +kernel) (pa_cons (pe_op op_sub (pv 6) (pe_ix (k_ixL (K := K)) (pe_ix (k_ixL (K := K)) (pv 0) (pe_op op_sub (pv 3) pe_int) (fun _ _ => rfl)) (pv 5) (fun _ _ => rfl))) pa_nil)) pa_nil)))) pa_nil))))) pss_nil))))))))
      (pss_one (ps_ret (pe_tup (pa_cons (pv 1) (pa_cons (pe_callB (k_sortedK (K := K)) (by rfl) T.sorted (by decide +kernel) (pa_cons (pv 2) pa_nil)) pa_nil))))))), ?_⟩
    refine ⟨by show 0 ≤ sizeLine; decide, ?_⟩
    intro pl n_pl
    have e_pl : upd H pl (.lst []) pl = some (.lst []) := upd_same
    have s_pl : Same H (upd H pl (.lst [])) := same_new n_pl
    generalize upd H pl (.lst []) = H1 at e_pl s_pl ⊢
    refine ⟨by show 0 ≤ sizeLine; decide, ?_⟩
    intro tl n_tl
    have e_tl : upd H1 tl (.lst []) tl = some (.lst []) := upd_same
    have s_tl : Same H1 (upd H1 tl (.lst [])) := same_new n_tl
    generalize upd H1 tl (.lst []) = H2 at e_tl s_tl ⊢
    have hplt : pl ≠ tl := ne_of_none e_pl n_tl
    have ntl0 : H tl = none := same_back s_pl n_tl
    refine ⟨_, _, rfl, ?_⟩
    refine ⟨_, rfl, p, vs, rfl, SqL.of (same_trans s_pl s_tl _ _ hp), for_it (walk_enum (xs := vs)) (fun i σ H3 => ∃ (us : List V) (v3 v4 v5 v6 v7 v8 v9 : Option V), σ = [some (.ref p), some (.ref pl), some (.ref tl), v3, v4, v5, v6, v7, v8, v9] ∧
      Same H H3 ∧ H3 pl = some (.lst ((planeN C i).map V.str)) ∧ H3 tl = some (.lst us) ∧ RepL K (fun c => H c = none ∧ c ≠ tl) H3 (((planeT pic C i).map sw).map dTie) us)
      ⟨[], none, none, none, none, none, none, none, rfl, same_trans s_pl s_tl, s_tl _ _ e_pl, e_tl, RepL.nil⟩ ?_ ?_ ?_⟩
    · rintro i σ H3 _ ⟨us, _, _, _, _, _, _, _, _, sm, _⟩
      exact SqL.of (sm _ _ hp)
    · rintro i x σ H3 H4 hi' ⟨us, v3, v4, v5, v6, v7, v8, v9, rfl, sm, hpl, htl, hr3⟩ ⟨t, x, y, rfl, nt, rfl, e1, e2⟩
      obtain rfl := Option.some.inj e1
      have hiR : i < R := by omega
      obtain ⟨d, hd, hyr⟩ := hrows.get e2
      obtain ⟨r, hri, rfl⟩ := map_get hd
      obtain ⟨rp, rfl, hNr, hrp⟩ := rep_row.mp hyr
      have hrow := hP.row r (List.mem_of_getElem? hri)
      have sm4 := same_trans sm (same_new (o := .tup [V.int (i : Nat), V.ref rp]) nt)
      have s4 : Same H3 _ := same_new (o := .tup [V.int (i : Nat), V.ref rp]) nt
      have e4 : upd H3 t (.tup [V.int (i : Nat), V.ref rp]) t = _ := upd_same
      generalize upd H3 t (.tup [V.int (i : Nat), V.ref rp]) = H4 at sm4 s4 e4 ⊢
      refine ⟨t, _, rfl, SqT.of e4, rfl, _, _, rfl, _, _, rfl, rfl, ?_⟩
      refine ⟨_, rfl, rp, _, rfl, SqL.of (sm4 _ _ hrp), for_it (walk_enum (xs := r.map V.int)) (fun j σ H5 => ∃ (us : List V) (v5 v6 v7 v8 v9 : Option V), σ = [some (.ref p), some (.ref pl), some (.ref tl), some (.int (i : Nat)), some (.ref rp), v5, v6, v7, v8, v9] ∧
        Same H H5 ∧ H5 pl = some (.lst ((planeN C i ++ rowN i j).map V.str)) ∧ H5 tl = some (.lst us) ∧ RepL K (fun c => H c = none ∧ c ≠ tl) H5 (((planeT pic C i ++ rowT pic i j).map sw).map dTie) us)
        ⟨us, v5, v6, v7, v8, v9, rfl, sm4, by rw [show rowN i 0 = [] from rfl, List.append_nil]; exact s4 _ _ hpl, s4 _ _ htl, by rw [show rowT pic i 0 = [] from rfl, List.append_nil]; exact hr3.same s4⟩ ?_ ?_ ?_⟩
      · rintro j σ H5 _ ⟨us, _, _, _, _, _, _, sm, _⟩
        exact SqL.of (sm _ _ hrp)
      · rintro j x σ H5 H6 hj' ⟨us, v5, v6, v7, v8, v9, rfl, sm5, hpl5, htl5, hr5⟩ ⟨t, x, y, rfl, nt, rfl, e1, e2⟩
        obtain rfl := Option.some.inj e1
        rw [List.length_map, hrow.1] at hj'
        obtain ⟨sh, hsj, rfl⟩ := map_get e2
        have esh : sh = px pic i j := by
          obtain ⟨r', a1, a2, _⟩ := px_in hP hiR hj'
          rw [hri] at a1
          obtain rfl := Option.some.inj a1
          rw [hsj] at a2
          exact Option.some.inj a2
        subst esh
        have sm6 := same_trans sm5 (same_new (o := .tup [V.int (j : Nat), V.int (px pic i j)]) nt)
        have s6 : Same H5 _ := same_new (o := .tup [V.int (j : Nat), V.int (px pic i j)]) nt
        have e6 : upd H5 t (.tup [V.int (j : Nat), V.int (px pic i j)]) t = _ := upd_same
        generalize upd H5 t (.tup [V.int (j : Nat), V.int (px pic i j)]) = H6 at sm6 s6 e6 ⊢
        refine ⟨t, _, rfl, SqT.of e6, rfl, _, _, rfl, _, _, rfl, rfl, ?_⟩
        -- the name
        refine ⟨_, rfl, _, rfl, log_small (i := i) (by omega), _, _, rfl, rfl, str_len1 i (by omega), _, _, rfl, rfl, str_len2 i (by omega), _, rfl, _, rfl, log_small (i := j) (by omega), _, _, rfl, rfl, str_len3 i j (by omega) (by omega), ?_⟩
        refine ⟨_, rfl, .inl ⟨rfl, _, SqL.of (s6 _ _ hpl5)⟩, _, rfl, pl, _, _, rfl, rfl, s6 _ _ hpl5, ?_, ?_⟩
        · rw [List.length_map, List.length_append, planeN_len]
          have : i * C ≤ 12 * 20 := Nat.mul_le_mul (by omega) hC
          simp [rowN]
          exact Nat.lt_of_lt_of_le (show i * C + j < 1000 by omega) (by decide)
        have sm7 : Same H (upd H6 pl (.lst ((planeN C i ++ rowN i j).map V.str ++ [V.str (plc i j)]))) := same_mut sm6 n_pl
        have hpl7 : upd H6 pl (.lst ((planeN C i ++ rowN i j).map V.str ++ [V.str (plc i j)])) pl = some (.lst ((planeN C i ++ rowN i (j + 1)).map V.str)) := by
          rw [rowN_succ, ← List.append_assoc, List.map_append (l₂ := [plc i j])]
          exact upd_same
        have htl7 : upd H6 pl (.lst ((planeN C i ++ rowN i j).map V.str ++ [V.str (plc i j)])) tl = some (.lst us) := upd_at (s6 _ _ htl5) hplt.symm
        have hr7 : RepL K (fun c => H c = none ∧ c ≠ tl) (upd H6 pl (.lst ((planeN C i ++ rowN i j).map V.str ++ [V.str (plc i j)]))) (((planeT pic C i ++ rowT pic i j).map sw).map dTie) us :=
          RepL.step (N := fun c => (H c = none ∧ c ≠ tl) ∧ c ≠ pl) (fun _ h => h.1) (fun c o hc ho => upd_at ho hc.2) _ _ (repL_tie_apart (hr5.same s6) (s6 _ _ hpl5))
        dsimp only
        have lacc : (planeT pic C i ++ rowT pic i j).length ≤ 900 := by
          have l1 := planeT_len pic C i
          have l2 := rowT_len pic i j
          have l3 : i * (2 * C) ≤ 12 * (2 * 20) := Nat.mul_le_mul (by omega) (by omega)
          rw [List.length_append]
          omega
        refine viaS (t1 := tIfS _ _ _) (H := upd H6 pl (.lst ((planeN C i ++ rowN i j).map V.str ++ [V.str (plc i j)]))) (fun σ H8 => ∃ (us : List V) (v8 : Option V), σ = [some (.ref p), some (.ref pl), some (.ref tl), some (.int (i : Nat)), some (.ref rp), some (.int (j : Nat)), some (.int (px pic i j)), some (.str (plc i j)), v8, v9] ∧
          Same H H8 ∧ H8 pl = some (.lst ((planeN C i ++ rowN i (j + 1)).map V.str)) ∧ H8 tl = some (.lst us) ∧ RepL K (fun c => H c = none ∧ c ≠ tl) H8 (((planeT pic C i ++ rowT pic i j ++ leftT pic i j).map sw).map dTie) us) (fun nx hn => ?_) ?_
        · generalize upd H6 pl (.lst ((planeN C i ++ rowN i j).map V.str ++ [V.str (plc i j)])) = H7 at sm7 hpl7 htl7 hr7 ⊢
          refine ⟨_, rfl, _, _, rfl, rfl, _, rfl, ?_⟩
          refine ite2 (fun e => ?_) (fun e => ?_)
          · have hj0 : 0 < j := by
              have := of_decide_eq_true e
              omega
            have ej : ((j : Nat) : Int) - 1 = ((j - 1 : Nat) : Int) := by omega
            refine ⟨_, rfl, _, rfl, log_small (i := i) (by omega), _, _, rfl, rfl, str_len1 i (by omega), _, _, rfl, rfl, str_len2 i (by omega), _, rfl, _, _, rfl, rfl, _, rfl, by rw [ej]; exact log_small (i := j - 1) (by omega), _, _, rfl, rfl, by rw [ej]; exact str_len3 i (j - 1) (by omega) (by omega), ?_⟩
            obtain ⟨r', a1, a2, _⟩ := px_in hP hiR (show j - 1 < C by omega)
            rw [hri] at a1
            obtain rfl := Option.some.inj a1
            refine ⟨_, rfl, .inl ⟨rfl, _, SqL.of htl7⟩, _, rfl, _, rfl, _, rfl, _, rfl, _, rfl, _, _, rfl, rfl, rp, _, _, _, rfl, rfl, SqL.of (sm7 _ _ hrp), atI_pred hj0 (by rw [List.getElem?_map, a2]; rfl), _, _, rfl, rfl, _, rfl, _, _, _, rfl, fun t nt => ?_⟩
            rw [ej]
            have ntl : t ≠ tl := (ne_of_none htl7 nt).symm
            have lus : us.length ≤ 900 := by
              rw [hr7.len, List.length_map, List.length_map]
              exact lacc
            refine ⟨tl, us, .ref t, rfl, rfl, upd_at htl7 ntl.symm, Nat.lt_of_le_of_lt lus (by decide), ?_⟩
            refine hn _ _ ⟨_, _, rfl, same_mut (same_trans sm7 (same_new nt)) ntl0, upd_at (upd_at hpl7 (ne_of_none hpl7 nt)) hplt, upd_same, ?_⟩
            unfold leftT
            rw [if_pos hj0, List.map_append]
            exact tl_add (t := sw (plc i (j - 1), plc i j, absI (px pic i j - px pic i (j - 1)))) htl7 hr7 nt (same_back sm7 nt)
          · have hj0 : ¬ 0 < j := fun z => e (decide_eq_true (by omega))
            refine hn _ _ ⟨us, _, rfl, sm7, hpl7, htl7, ?_⟩
            unfold leftT
            rw [if_neg hj0, List.append_nil]
            exact hr7
        rintro σ H8 ⟨us8, v8, rfl, sm8, hpl8, htl8, hr8⟩
        have lus : us8.length ≤ 901 := by
          rw [hr8.len, List.length_map, List.length_map, List.length_append]
          have := leftT_len pic i j
          omega
        refine ⟨_, rfl, _, _, rfl, rfl, _, rfl, ?_⟩
        refine ite2 (fun e => ?_) (fun e => ?_)
        · have hi0 : 0 < i := by
            have := of_decide_eq_true e
            omega
          have ei : ((i : Nat) : Int) - 1 = ((i - 1 : Nat) : Int) := by omega
          refine ⟨_, rfl, _, _, rfl, rfl, _, rfl, by rw [ei]; exact log_small (i := i - 1) (by omega), _, _, rfl, rfl, by rw [ei]; exact str_len1 (i - 1) (by omega), _, _, rfl, rfl, by rw [ei]; exact str_len2 (i - 1) (by omega), _, rfl, _, rfl, log_small (i := j) (by omega), _, _, rfl, rfl, by rw [ei]; exact str_len3 (i - 1) j (by omega) (by omega), ?_⟩
          obtain ⟨r', a1, a2, _⟩ := px_in hP (show i - 1 < R by omega) hj'
          obtain ⟨w1, b1, b2⟩ := hrows.get' (i := i - 1) (d := dRow r') (by rw [List.getElem?_map, a1]; rfl)
          obtain ⟨q, rfl, _, hq⟩ := rep_row.mp b2
          refine ⟨_, rfl, .inl ⟨rfl, _, SqL.of htl8⟩, _, rfl, _, rfl, _, rfl, _, rfl, _, rfl, _, _, rfl, rfl, p, vs, _, _, rfl, rfl, SqL.of (sm8 _ _ hp), atI_pred hi0 b1, _, rfl, q, _, _, _, rfl, rfl, SqL.of (sm8 _ _ hq), atI_nat (by rw [List.getElem?_map, a2]; rfl), _, _, rfl, rfl, _, rfl, _, _, _, rfl, fun t nt => ?_⟩
          rw [ei]
          have ntl : t ≠ tl := (ne_of_none htl8 nt).symm
          refine ⟨tl, us8, .ref t, rfl, rfl, upd_at htl8 ntl.symm, Nat.lt_of_le_of_lt lus (by decide), ?_⟩
          refine ⟨_, _, _, _, _, _, rfl, same_mut (same_trans sm8 (same_new nt)) ntl0, upd_at (upd_at hpl8 (ne_of_none hpl8 nt)) hplt, upd_same, ?_⟩
          rw [rowT_succ]
          unfold cellT upT
          rw [if_pos hi0, ← List.append_assoc, ← List.append_assoc, List.map_append]
          exact tl_add (t := sw (plc (i - 1) j, plc i j, absI (px pic i j - px pic (i - 1) j))) htl8 hr8 nt (same_back sm8 nt)
        · have hi0 : ¬ 0 < i := fun z => e (decide_eq_true (by omega))
          refine ⟨us8, _, _, _, _, _, rfl, sm8, hpl8, htl8, ?_⟩
          rw [rowT_succ]
          unfold cellT upT
          rw [if_neg hi0, List.append_nil, ← List.append_assoc]
          exact hr8
      · rintro σ H5 ⟨us, v5, v6, v7, v8, v9, rfl, sm5, hpl5, htl5, hr5⟩
        rw [List.length_map, hrow.1] at hpl5 hr5
        exact ⟨us, _, _, v5, v6, v7, v8, v9, rfl, sm5, by rw [planeN_succ]; exact hpl5, htl5, by rw [planeT_succ]; exact hr5⟩
    · rintro σ H3 ⟨us, v3, v4, v5, v6, v7, v8, v9, rfl, sm3, hpl3, htl3, hr3⟩
      rw [lvs] at hpl3 hr3
      refine ⟨_, rfl, _, rfl, ?_⟩
      unfold tNil
      refine sort_rep tk [true, false] (fun _ _ => rfl) htl3 hr3 fun ys ws t pm pw rws nt => ⟨by show 2 ≤ sizeLine; decide, fun q nq => ?_⟩
      have s4 : Same H3 _ := same_trans (same_new (o := .lst ws) nt) (same_new (o := .tup [V.ref pl, V.ref t]) nq)
      have hqt : t ≠ q := ne_of_none upd_same nq
      refine k _ _ ys (rep_raw.mpr ⟨q, _, _, rfl, same_back (same_trans sm3 (same_new nt)) nq, upd_same, rep_strs.mpr ⟨pl, rfl, n_pl, s4 _ _ hpl3⟩, t, ws, rfl, same_back sm3 nt, upd_at upd_same hqt, ?_⟩) pm pw (same_trans sm3 s4)
      exact (rws.wk fun c hc => hc.1).same s4
end
end Pw
set_option Elab.async false
set_option linter.all false
set_option maxRecDepth 100000
set_option maxHeartbeats 4000000
/-! list(zip(xs, ys)) of two lists: a new list of new pairs. -/
namespace Pw
open PySem PySem.Spec PySem.Calls PyProof.Rows L2
theorem zip_no_len : typeLookup (.type "zip") "__len__" = pure none := by rw [typeLookup_type, builtinLookup_eq_fast]; kernel_rfl
theorem zip_no_hint : typeLookup (.type "zip") "__length_hint__" = pure none := by rw [typeLookup_type, builtinLookup_eq_fast]; kernel_rfl
theorem ilk {B h : Heap} {l : Addr} {xs : Array Value} (b : B.IsList l xs) (k : ∀ q o, B.get? q = some o → h.get? q = some o) : h.IsList l xs := by
  obtain ⟨o, ho, hc, n, hd⟩ := b
  exact ⟨o, k _ _ ho, hc, n, hd⟩
/-- k pairs made: as their addresses, acc the list's items -/
structure ZS (B : Heap) (N0 S z TI TO i1 i2 l1 l2 : Addr) (xs ys : Array Value) (k : Nat) (h : Heap) (acc : Array Value) (as : List Addr) : Prop where
  keep : ∀ b o, B.get? b = some o → h.get? b = some o
  zp : (IsZip h z TI TO .none ∧ ∃ a b, IsPair h TO a b) ∨ ∃ T f oT, IsZipHeld h z TI TO T f ∧ h.get? T = some oT ∧ N0 ≤ T
  ti : IsPair h TI (.ref i1) (.ref i2)
  h1 : h.IsListIter i1 l1 k
  h2 : h.IsListIter i2 l2 k
  hS : ∃ c, h.get? S = some { cls := .type "list", dict := none, data := .seq acc c, slots := #[] }
  hacc : acc.toList = as.map Value.ref
  len : as.length = k
  rise : as.Pairwise (· < ·)
  above : ∀ t ∈ as, N0 ≤ t ∧ t < h.objs.size
  size : N0 ≤ h.objs.size
  pairs : ∀ (j : Nat) (b : Addr), as[j]? = some b → ∃ x y, xs[j]? = some x ∧ ys[j]? = some y ∧ IsPair h b x y
section
variable {prog : Program} {w : World} {A : Around} {B : Heap} {N0 S z TI TO i1 i2 l1 l2 : Addr} {xs ys : Array Value}
theorem zip_loop {R : Result → Shared → Prop} (hh : A.handled = none) (D : ZipApart z TI TO i1 i2 l1 l2) (hB : B.objs.size ≤ z ∧ B.objs.size ≤ TI ∧ B.objs.size ≤ TO ∧ B.objs.size ≤ i1 ∧ B.objs.size ≤ i2 ∧ B.objs.size ≤ S)
    (hN : z < N0 ∧ TI < N0 ∧ TO < N0 ∧ i1 < N0 ∧ i2 < N0 ∧ S < N0) (hS : S ≠ z ∧ S ≠ TI ∧ S ≠ TO ∧ S ≠ i1 ∧ S ≠ i2)
    (b1 : B.IsList l1 xs) (b2 : B.IsList l2 ys) (hn1 : xs.size ≤ sizeLine) (s0 : Shared)
    (hR : ∀ h as acc, ZS B N0 S z TI TO i1 i2 l1 l2 xs ys (min xs.size ys.size) h acc as ∨ (∃ h0, ZS B N0 S z TI TO i1 i2 l1 l2 xs ys (min xs.size ys.size) h0 acc as ∧ ∀ q o, q ≠ z → q ≠ TO → q ≠ i1 → q ≠ i2 → h0.get? q = some o → h.get? q = some o) → R (.ok (.ret .none)) { s0 with heap := h }) :
    ∀ (m k : Nat) (h : Heap) (acc : Array Value) (as : List Addr), m = min xs.size ys.size - k → k ≤ min xs.size ys.size → ZS B N0 S z TI TO i1 i2 l1 l2 xs ys k h acc as →
      codeAny (model prog w) A (.builtin "list.extend.loop" ⟨[.ref S, .ref z, .none], []⟩) R { s0 with heap := h } := by
  have off : ∀ {q : Addr} {o : Obj}, B.get? q = some o → q ≠ z ∧ q ≠ TO ∧ q ≠ i1 ∧ q ≠ i2 ∧ q ≠ S := fun {q o} e => by
    have nl : ∀ {p : Addr}, B.objs.size ≤ p → q ≠ p := fun {p} hp e' => by
      rw [e'] at e
      exact absurd (Heap.lt_size e) (Nat.not_lt.mpr hp)
    exact ⟨nl hB.1, nl hB.2.2.1, nl hB.2.2.2.1, nl hB.2.2.2.2.1, nl hB.2.2.2.2.2⟩
  intro m
  induction m with
  | zero =>
    intro k h acc as hm hk Z
    have e : k = min xs.size ys.size := by omega
    subst e
    have hl1 : h.IsList l1 xs := ilk b1 Z.keep
    have hl2 : h.IsList l2 ys := ilk b2 Z.keep
    have hend : xs[min xs.size ys.size]? = none ∨ ys[min xs.size ys.size]? = none := by
      rcases Nat.le_total xs.size ys.size with g | g
      · left
        rw [Nat.min_eq_left g]
        simp
      · right
        rw [Nat.min_eq_right g]
        simp
    refine codeAny_builtin F.entry_extend_loop ?_
    rw [Around.under_plainId F.plain_extend_loop _]
    show wpAny _ A.in1 (pyNext (.ref z) >>= _) _ _ _
    rcases Z.zp with ⟨hz, a, b, hTO⟩ | ⟨T, f, oT, hz, hT, hTN⟩
    · exact wpAny_bind (wpAny_pyNext_zip_end (s := { s0 with heap := h }) (A := A.in1) hh D hz Z.ti hTO Z.h1 Z.h2 hl1 hl2 hend fun h' hk' => wpAny_pure (hR h' as acc (.inr ⟨h, Z, hk'⟩)))
    · exact wpAny_bind (wpAny_pyNext_zip_end_held (s := { s0 with heap := h }) (A := A.in1) hh D hz hT Z.ti Z.h1 Z.h2 hl1 hl2 hend fun h' hk' => wpAny_pure (hR h' as acc (.inr ⟨h, Z, fun q o c1 _ c3 c4 e => hk' q o c1 c3 c4 e⟩)))
  | succ m ih =>
    intro k h acc as hm hk Z
    have hlt : k < min xs.size ys.size := by omega
    have hl1 : h.IsList l1 xs := ilk b1 Z.keep
    have hl2 : h.IsList l2 ys := ilk b2 Z.keep
    have hx : xs[k]? = some (xs[k]'(by omega)) := by simp
    have hy : ys[k]? = some (ys[k]'(by omega)) := by simp
    have hsz : acc.size = k := by
      have := congrArg List.length Z.hacc
      rw [List.length_map, Z.len] at this
      simpa using this
    -- what one item does
    have go : ∀ h', (∃ T f oT, IsZipHeld h' z TI TO T f ∧ h'.get? T = some oT ∧ N0 ≤ T) → h'.IsListIter i1 l1 (k + 1) → h'.IsListIter i2 l2 (k + 1) → IsPair h' h.objs.size (xs[k]'(by omega)) (ys[k]'(by omega)) → h'.objs.size = h.objs.size + 1 →
        (∀ q o, q ≠ z → q ≠ TO → q ≠ i1 → q ≠ i2 → h.get? q = some o → h'.get? q = some o) →
        wpAny (model prog w) A.in1 (updateSeq S (·.push (.ref h.objs.size)) >>= fun _ => again (.builtin "list.extend.loop" ⟨[.ref S, .ref z, .none], []⟩))
          (fun fin s' => match fin with | .done f => R (.ok f) s' | .again c' => c'.quiet = true ∧ codeAny (model prog w) A c' R s') (fun e s' => R (.error e) s') { s0 with heap := h' } := by
      intro h' hz' h1' h2' hp hsz' hk'
      obtain ⟨c, hSc⟩ := Z.hS
      have hS1 : h'.get? S = some { cls := .type "list", dict := none, data := .seq acc c, slots := #[] } := hk' S _ hS.1 hS.2.2.1 hS.2.2.2.1 hS.2.2.2.2 hSc
      have hlt2 : k < sizeLine := by omega
      refine wpAny_bind ?_
      refine wpAny_updateSeq (s := { s0 with heap := h' }) hS1 rfl (wpAny_pure ⟨plainId_quiet F.plain_extend_loop _, ?_⟩) (by omega) (by show (acc.push _).size ≤ sizeLine + 1; rw [Array.size_push]; omega)
      have oth : ∀ b o, b ≠ S → h'.get? b = some o → (h'.update S (Obj.mapSeq (·.push (.ref h.objs.size)))).get? b = some o := fun b o hbS e => (Heap.get?_update_other _ _ (Ne.symm hbS)).trans e
      have szu : (h'.update S (Obj.mapSeq (·.push (.ref h.objs.size)))).objs.size = h'.objs.size := Heap.size_update ..
      have hNS : S < h.objs.size := Nat.lt_of_lt_of_le hN.2.2.2.2.2 Z.size
      refine ih (k + 1) (h'.update S (Obj.mapSeq (·.push (.ref h.objs.size)))) (acc.push (.ref h.objs.size)) (as ++ [h.objs.size]) (by omega) (by omega) ?_
      refine ⟨fun b o e => ?_, ?_, ?_, ?_, ?_, ⟨_, Heap.get?_update_self (Obj.mapSeq (·.push (.ref h.objs.size))) hS1 rfl⟩, ?_, ?_, ?_, fun t ht => ?_, ?_, fun j b hj => ?_⟩
      · have q := off e
        exact oth b o q.2.2.2.2 (hk' b o q.1 q.2.1 q.2.2.1 q.2.2.2.1 (Z.keep b o e))
      · right
        obtain ⟨T, f, oT, a1, a2, a3⟩ := hz'
        exact ⟨T, f, oT, oth _ _ hS.1.symm a1, oth _ _ (Nat.ne_of_gt (Nat.lt_of_lt_of_le hN.2.2.2.2.2 a3)) a2, a3⟩
      · exact oth _ _ hS.2.1.symm (hk' _ _ D.TIz D.TITO D.TIi1 D.TIi2 Z.ti)
      · exact h1'.at fun o q => oth _ _ hS.2.2.2.1.symm q
      · exact h2'.at fun o q => oth _ _ hS.2.2.2.2.symm q
      · rw [Array.toList_push, Z.hacc, List.map_append]
        rfl
      · rw [List.length_append, Z.len]
        rfl
      · refine List.pairwise_append.mpr ⟨Z.rise, List.pairwise_singleton _ _, fun a ha b hb => ?_⟩
        rw [List.mem_singleton] at hb
        subst hb
        exact (Z.above a ha).2
      · rw [szu]
        rcases List.mem_append.mp ht with ht | ht
        · have := Z.above t ht
          exact ⟨this.1, by rw [hsz']; exact Nat.lt_succ_of_lt this.2⟩
        · rw [List.mem_singleton] at ht
          subst ht
          exact ⟨Z.size, by rw [hsz']; exact Nat.lt_succ_self _⟩
      · rw [szu]
        rw [hsz']
        exact Nat.le_succ_of_le Z.size
      · have hsz3 := Z.size
        rcases Nat.lt_or_ge j k with hjk | hjk
        · rw [List.getElem?_append_left (by rw [Z.len]; exact hjk)] at hj
          obtain ⟨x, y, e1, e2, e3⟩ := Z.pairs j b hj
          have hb := Z.above b (List.mem_of_getElem? hj)
          have ng : ∀ {p : Addr}, p < N0 → b ≠ p := fun h => Nat.ne_of_gt (Nat.lt_of_lt_of_le h hb.1)
          exact ⟨x, y, e1, e2, oth _ _ (ng hN.2.2.2.2.2) (hk' _ _ (ng hN.1) (ng hN.2.2.1) (ng hN.2.2.2.1) (ng hN.2.2.2.2.1) e3)⟩
        · rw [List.getElem?_append_right (by rw [Z.len]; exact hjk), Z.len] at hj
          have hj0 : j = k := by
            rcases Nat.eq_or_lt_of_le hjk with e | e
            · exact e.symm
            · rw [List.getElem?_eq_none (by simp; omega)] at hj
              cases hj
          subst hj0
          rw [Nat.sub_self] at hj
          obtain rfl := Option.some.inj hj
          exact ⟨_, _, hx, hy, oth _ _ (Nat.ne_of_gt hNS) hp⟩
    refine codeAny_builtin F.entry_extend_loop ?_
    rw [Around.under_plainId F.plain_extend_loop _]
    show wpAny _ A.in1 (pyNext (.ref z) >>= _) _ _ _
    rcases Z.zp with ⟨hz, a, b, hTO⟩ | ⟨T, f, oT, hz, hT, hTN⟩
    · refine wpAny_bind (wpAny_pyNext_zip_item (s := { s0 with heap := h }) (A := A.in1) D hz Z.ti hTO Z.h1 Z.h2 hl1 hl2 hx hy fun h' a1 a2 a3 a4 a5 a6 a7 => ?_)
      exact go h' ⟨h.objs.size, false, _, a1, a5, Z.size⟩ a3 a4 a5 a6 a7
    · refine wpAny_bind (wpAny_pyNext_zip_item_held (s := { s0 with heap := h }) (A := A.in1) D hz hT Z.ti Z.h1 Z.h2 hl1 hl2 hx hy fun h' a1 a3 a4 a5 a6 a7 => ?_)
      exact go h' ⟨T, true, oT, a1, a7 _ _ (Nat.ne_of_gt (Nat.lt_of_lt_of_le hN.1 hTN)) (Nat.ne_of_gt (Nat.lt_of_lt_of_le hN.2.2.2.1 hTN)) (Nat.ne_of_gt (Nat.lt_of_lt_of_le hN.2.2.2.2.1 hTN)) hT, hTN⟩ a3 a4 a5 a6 fun q o c1 _ c3 c4 e => a7 q o c1 c3 c4 e
theorem hint_zip {E : Value → Shared → Prop} {s : Shared} {r : Addr} {Q : Bool → Shared → Prop} (hT : s.TypeIs (.ref r) "zip") (h : Q true s) : wpAny (model prog w) A (Builtin.List.listLengthHint (.ref r)) Q E s := by
  unfold Builtin.List.listLengthHint
  refine wpAny_bind (wpAny_specialOf hT zip_no_len ?_)
  show wpAny _ _ (specialOf (Value.ref r) (Str.ofString "__length_hint__") >>= _) _ _ _
  refine wpAny_bind (wpAny_specialOf hT zip_no_hint ?_)
  exact wpAny_pure h
end
/-! ### the new pairs, tracked -/
def putP : Hp → List Addr → List (V × V) → Hp
  | H, a :: as, p :: ps => putP (upd H a (.tup [p.1, p.2])) as ps
  | H, _, _ => H
theorem putP_off {b : Addr} : ∀ (as : List Addr) (ps : List (V × V)) (H : Hp), b ∉ as → putP H as ps b = H b
  | [], _, _, _ => rfl
  | _ :: _, [], _, _ => rfl
  | a :: as, p :: ps, H, h => by
    show putP (upd H a (.tup [p.1, p.2])) as ps b = H b
    rw [putP_off as ps _ (fun z => h (List.mem_cons_of_mem _ z)), upd_ne (fun z => h (by rw [z]; exact List.mem_cons_self))]
theorem putP_at : ∀ (as : List Addr) (ps : List (V × V)) (H : Hp), as.length = ps.length → as.Nodup → Paired (fun (t : Addr) (p : V × V) => putP H as ps t = some (.tup [p.1, p.2])) as ps
  | [], [], _, _, _ => .nil
  | [], _ :: _, _, h, _ => by cases h
  | _ :: _, [], _, h, _ => by cases h
  | a :: as, p :: ps, H, h, hn => by
    have hn' := List.nodup_cons.mp hn
    have ih := putP_at as ps (upd H a (.tup [p.1, p.2])) (Nat.succ.inj h) hn'.2
    refine .cons ?_ ih
    show putP (upd H a (.tup [p.1, p.2])) as ps a = some (.tup [p.1, p.2])
    rw [putP_off as ps _ hn'.1, upd_same]
def rListZip (K : PySem.W.Frag) : List V → Hp → VK → Prop := fun vs H Q => ∃ (a b : Addr) (xs ys : List V), vs = [.ref a, .ref b] ∧ SqL K H a xs ∧ SqL K H b ys ∧
  ∀ (H' : Hp) (p : Addr) (ts : List Addr), Same H H' → H p = none → (∀ t ∈ ts, H t = none) → p ∉ ts → H' p = some (.lst (ts.map V.ref)) → Paired (fun (t : Addr) (q : V × V) => H' t = some (.tup [q.1, q.2])) ts (xs.zip ys) → Q (.ref p) H'
def tListZip (K : PySem.W.Frag) (ta : TA) : TE := fun σ H Q => ta σ H fun vs H1 => rListZip K vs H1 Q
section
variable {X : Cx} {pins : List (Addr × Obj)} {σ : L2.St} {H : Hp} {s : Shared}
theorem vals_zip {xs ys : List V} {us ws : List Value} {j : Nat} {p : V × V} {x y : Value} (r1 : Vals xs us) (r2 : Vals ys ws) (h : (xs.zip ys)[j]? = some p) (hx : us[j]? = some x) (hy : ws[j]? = some y) : RelV p.1 x ∧ RelV p.2 y := by
  rw [List.getElem?_zip_eq_some] at h
  obtain ⟨h1, h2⟩ := h
  obtain ⟨u, e1, e2⟩ := r1.get h1
  obtain ⟨u', e3, e4⟩ := r2.get h2
  rw [hx] at e1
  rw [hy] at e3
  cases e1
  cases e3
  exact ⟨e2, e4⟩
theorem pairs_laid {h' : Heap} {tk : Nat} {xs ys : List V} {us ws : List Value} {acc : Array Value} {c : Nat} {as : List Addr} {S : Addr} (I : Inv X pins σ H s) (hz : (xs.zip ys).length ≤ sizeLine) (r1 : Vals xs us) (r2 : Vals ys ws) (hSs : s.heap.objs.size ≤ S)
    (hk : ∀ b o, s.heap.get? b = some o → h'.get? b = some o) (hS : h'.get? S = some { cls := .type "list", dict := none, data := .seq acc c, slots := #[] }) (hl : as.length = (xs.zip ys).length) (hacc : acc.toList = as.map Value.ref) (hrise : as.Pairwise (· < ·)) (habove : ∀ t ∈ as, S < t)
    (hpairs : ∀ (j : Nat) (b : Addr), as[j]? = some b → ∃ x y, us[j]? = some x ∧ ws[j]? = some y ∧ IsPair h' b x y) :
    ∃ H' : Hp, Same H H' ∧ H S = none ∧ (∀ t ∈ as, H t = none) ∧ S ∉ as ∧ H' S = some (.lst (as.map V.ref)) ∧ Paired (fun (t : Addr) (q : V × V) => H' t = some (.tup [q.1, q.2])) as (xs.zip ys) ∧ Inv X pins σ H' { s with heap := h', toks := tk } := by
  have hSn : S ∉ as := fun z => Nat.lt_irrefl _ (habove _ z)
  have nd : as.Nodup := List.Pairwise.imp (fun {a b} (h : a < b) => Nat.ne_of_lt h) hrise
  have new : ∀ t ∈ as, H t = none := fun t ht => I.hok.fresh (Nat.le_trans hSs (Nat.le_of_lt (habove t ht)))
  have newS : H S = none := I.hok.fresh hSs
  have atP := putP_at as (xs.zip ys) (upd H S (.lst (as.map V.ref))) hl nd
  have off : ∀ b, b ∉ as → b ≠ S → putP (upd H S (.lst (as.map V.ref))) as (xs.zip ys) b = H b := fun b h1 h2 => by rw [putP_off as _ _ h1, upd_ne h2]
  have low : ∀ b o, s.heap.get? b = some o → b ∉ as ∧ b ≠ S := fun b o e => ⟨fun z => absurd (Heap.lt_size e) (Nat.not_lt.mpr (Nat.le_trans hSs (Nat.le_of_lt (habove b z)))), fun z => absurd (Heap.lt_size e) (Nat.not_lt.mpr (by rw [z]; exact hSs))⟩
  have kp : ∀ b u, H b = some u → (putP (upd H S (.lst (as.map V.ref))) as (xs.zip ys)) b = some u := fun b u e => by
    rw [off b (fun z => by rw [new b z] at e; cases e) (fun z => by rw [z, newS] at e; cases e)]
    exact e
  have eS : putP (upd H S (.lst (as.map V.ref))) as (xs.zip ys) S = some (.lst (as.map V.ref)) := by rw [putP_off as _ _ hSn, upd_same]
  refine ⟨putP (upd H S (.lst (as.map V.ref))) as (xs.zip ys), kp, newS, new, hSn, eS, atP, ?_⟩
  refine I.call' (ch := []) rfl ⟨fun b o q _ _ _ => hk b o q, fun b o q _ _ _ => ⟨o.slots, hk b o q⟩, fun b o q n _ => ?_, fun b o q _ => ⟨o, hk b o q⟩, fun b xs q => kp b _ q, fun b o u q => kp b _ q, fun b ps q => ⟨#[], by rw [kp b _ q]; simp⟩⟩ (fun b u q => ?_) I.bare fun b z => by simp at z
  · obtain ⟨z1, z2⟩ := low b o q
    rw [off b z1 z2]
    exact n
  · by_cases hb : b ∈ as
    · obtain ⟨j, pk, e1, e2, e3⟩ := LiI.paired_ix atP hb
      rw [e3] at q
      cases q
      obtain ⟨x, y, f1, f2, f3⟩ := hpairs j b e1
      obtain ⟨g1, g2⟩ := vals_zip r1 r2 e2 f1 f2
      exact ⟨by show 2 ≤ sizeLine; decide, [x, y], .cons g1 (.cons g2 .nil), ⟨_, f3, rfl, _, rfl⟩⟩
    · by_cases hb2 : b = S
      · rw [hb2] at q ⊢
        rw [eS] at q
        cases q
        refine ⟨by rw [List.length_map]; omega, acc.toList, c, by rw [hacc]; exact LiI.vals_refs as, ?_⟩
        rw [Array.toArray_toList]
        exact hS
      · rw [off b hb hb2] at q
        exact (I.hok b u q).stay (fun d v _ y => hk d v y) (fun d y => kp d _ y) fun d xs y => kp d _ y
/-- list(z), z a new zip of two lists -/
theorem call_listzip {l1 l2 z TI TO i1 i2 : Addr} {xs ys : Array Value} {B : Heap} {A : Around} {E : Value → Shared → Prop} {Q : Value → Shared → Prop} {prog : Program} {w : World} {s : Shared} (hh : A.handled = none) (D : ZipApart z TI TO i1 i2 l1 l2)
    (hB : B.objs.size ≤ z ∧ B.objs.size ≤ TI ∧ B.objs.size ≤ TO ∧ B.objs.size ≤ i1 ∧ B.objs.size ≤ i2) (b1 : B.IsList l1 xs) (b2 : B.IsList l2 ys) (hn1 : xs.size ≤ sizeLine) (kB : ∀ q o, B.get? q = some o → s.heap.get? q = some o)
    (hz : IsZip s.heap z TI TO .none) (hTI : IsPair s.heap TI (.ref i1) (.ref i2)) (hTO : ∃ a b, IsPair s.heap TO a b) (h1 : s.heap.IsListIter i1 l1 0) (h2 : s.heap.IsListIter i2 l2 0)
    (hQ : ∀ (h' : Heap) (acc : Array Value) (c : Nat) (as : List Addr), (∀ q o, B.get? q = some o → h'.get? q = some o) → h'.get? s.heap.objs.size = some { cls := .type "list", dict := none, data := .seq acc c, slots := #[] } → acc.toList = as.map Value.ref → as.length = min xs.size ys.size → as.Pairwise (· < ·) → (∀ t ∈ as, s.heap.objs.size < t) →
      (∀ (j : Nat) (b : Addr), as[j]? = some b → ∃ x y, xs[j]? = some x ∧ ys[j]? = some y ∧ IsPair h' b x y) → Q (.ref s.heap.objs.size) { s with heap := h' }) :
    wpAny (model prog w) A (call (.type "list") [.ref z]) Q E s := by
  have hzl : z < s.heap.objs.size := Heap.lt_size hz
  have hTIl : TI < s.heap.objs.size := Heap.lt_size hTI
  obtain ⟨a0, b0, hTO⟩ := hTO
  have hTOl : TO < s.heap.objs.size := Heap.lt_size hTO
  have hi1 : i1 < s.heap.objs.size := by
    obtain ⟨_, e1, _⟩ := h1
    exact Heap.lt_size e1
  have hi2 : i2 < s.heap.objs.size := by
    obtain ⟨_, e1, _⟩ := h2
    exact Heap.lt_size e1
  have hBs : B.objs.size ≤ s.heap.objs.size := Nat.le_trans hB.1 (Nat.le_of_lt hzl)
  refine callType_codes (Q₁ := fun obj s₁ => obj = .ref s.heap.objs.size ∧ s₁ = { s with heap := s.heap.push { cls := .type "list", data := .seq #[] } }) F.called_list (F.typeCall_list_1 _) F.entry_list_init
    (code_list_new _ ⟨rfl, rfl⟩) fun obj s₁ h₁ => ?_
  obtain ⟨rfl, rfl⟩ := h₁
  have hS : (s.heap.push { cls := .type "list", data := .seq #[] }).get? s.heap.objs.size = some { cls := .type "list", data := .seq #[] } := Heap.get?_push_size _ rfl
  refine ⟨⟨_, hS, rfl⟩, F.args_list_init_2 _ _, ?_⟩
  show wpAny _ A.in1.in1 (do let old ← Builtin.List.listItems (.ref s.heap.objs.size); Builtin.List.listUpdate (.ref s.heap.objs.size) (fun _ => #[]); letGo old.toList.reverse; Builtin.List.listExtendWith (.ref s.heap.objs.size) (.ref z) .none) _ _ _
  refine wpAny_bind ?_
  unfold Builtin.List.listItems
  refine wpAny_bind (wpAny_seqItems hS rfl (wpAny_pure ?_))
  show wpAny _ A.in1.in1 (updateSeq s.heap.objs.size (fun _ => #[]) >>= fun _ => letGo (#[] : Array Value).toList.reverse >>= fun _ => Builtin.List.listExtendWith (.ref s.heap.objs.size) (.ref z) .none) _ _ _
  refine wpAny_bind (wpAny_updateSeq hS rfl ?_)
  have hS2 := Heap.get?_update_self (Obj.mapSeq (fun _ => (#[] : Array Value))) hS rfl
  refine wpAny_bind (wpAny_letGo ?_)
  unfold Builtin.List.listExtendWith
  have up : ∀ (h : Heap) (f : Obj → Obj), (∀ b o, s.heap.get? b = some o → h.get? b = some o) → ∀ b o, s.heap.get? b = some o → (h.update s.heap.objs.size f).get? b = some o := fun h f q b o e =>
    (Heap.get?_update_other _ _ (Ne.symm (Nat.ne_of_lt (Heap.lt_size e)))).trans (q b o e)
  have k1 : ∀ b o, s.heap.get? b = some o → (s.heap.push { cls := .type "list", data := .seq #[] }).get? b = some o := fun b o e => Heap.get?_push_of_some _ e
  have k2 := up _ (Obj.mapSeq (fun _ => (#[] : Array Value))) k1
  have gty : ∀ {h : Heap}, (∀ b o, s.heap.get? b = some o → h.get? b = some o) → ({ s with heap := h } : Shared).TypeIs (.ref z) "zip" := fun {h} q => ⟨_, q _ _ hz, rfl⟩
  refine wpAny_bind (wpAny_typeOf (s := { s with heap := _ }) (gty k2) ?_)
  have g1 : Builtin.List.listSameRef (.ref s.heap.objs.size) (.ref z) = false := by simp [Builtin.List.listSameRef, Nat.ne_of_gt hzl]
  have g2 : (Value.type "zip" == Value.type "list") = false := by decide
  have g3 : (Value.type "zip" == Value.type "tuple") = false := by decide
  simp only [g1, g2, g3, Bool.or_false, Bool.false_eq_true, if_false]
  refine wpAny_bind (wpAny_pyIter_zip (s := { s with heap := _ }) (k2 _ _ hz) ?_)
  refine wpAny_bind (wpAny_holding (hint_zip (s := { s with heap := _ }) (gty k2) ?_))
  show wpAny _ A.in1.in1 (rule "list.extend.makes-room" >>= fun _ => Builtin.List.listTouch (.ref s.heap.objs.size) >>= fun _ =>
    again (.builtin "list.extend.loop" ⟨[.ref s.heap.objs.size, .ref z, .none], []⟩)) _ _ _
  refine wpAny_bind (wpAny_rule ?_)
  refine wpAny_bind ?_
  show wpAny _ A.in1.in1 (updateSeq s.heap.objs.size (·.push .none) >>= fun _ => updateSeq s.heap.objs.size (·.pop)) _ _ _
  refine wpAny_bind (wpAny_updateSeq hS2 rfl ?_)
  have hS3 := Heap.get?_update_self (Obj.mapSeq (·.push Value.none)) hS2 rfl
  refine wpAny_updateSeq (hz := by seq_fits) hS3 rfl ?_
  have hS4 := Heap.get?_update_self (Obj.mapSeq (·.pop)) hS3 rfl
  have k4 := up _ (Obj.mapSeq (·.pop)) (up _ (Obj.mapSeq (·.push Value.none)) k2)
  have hsz4 : ((((s.heap.push { cls := .type "list", data := .seq #[] }).update s.heap.objs.size (Obj.mapSeq (fun _ => (#[] : Array Value)))).update s.heap.objs.size (Obj.mapSeq (·.push Value.none))).update s.heap.objs.size (Obj.mapSeq (·.pop))).objs.size = s.heap.objs.size + 1 := by
    rw [Heap.size_update, Heap.size_update, Heap.size_update, Heap.size_push]
  refine wpAny_pure ⟨plainId_quiet F.plain_extend_loop _, ?_⟩
  refine zip_loop (A := A.in1) (B := B) (N0 := s.heap.objs.size + 1) (S := s.heap.objs.size) (xs := xs) (ys := ys) hh D ⟨hB.1, hB.2.1, hB.2.2.1, hB.2.2.2.1, hB.2.2.2.2, hBs⟩ ⟨Nat.lt_succ_of_lt hzl, Nat.lt_succ_of_lt hTIl, Nat.lt_succ_of_lt hTOl, Nat.lt_succ_of_lt hi1, Nat.lt_succ_of_lt hi2, Nat.lt_succ_self _⟩
    ⟨Nat.ne_of_gt hzl, Nat.ne_of_gt hTIl, Nat.ne_of_gt hTOl, Nat.ne_of_gt hi1, Nat.ne_of_gt hi2⟩ b1 b2 hn1 s ?_ (min xs.size ys.size) 0 _ _ [] rfl (Nat.zero_le _)
    ⟨fun b o e => k4 b o (kB b o e), .inl ⟨k4 _ _ hz, a0, b0, k4 _ _ hTO⟩, k4 _ _ hTI, h1.at fun o q => k4 _ _ q, h2.at fun o q => k4 _ _ q, ⟨_, hS4⟩, rfl, rfl, List.Pairwise.nil, fun t ht => (nomatch ht), by rw [hsz4]; exact Nat.le_refl _, fun j b hj => by simp at hj⟩
  intro h as acc hZ
  have offB : ∀ {q : Addr} {o : Obj}, B.get? q = some o → q ≠ z ∧ q ≠ TO ∧ q ≠ i1 ∧ q ≠ i2 := fun {q o} e => by
    have nl : ∀ {p : Addr}, B.objs.size ≤ p → q ≠ p := fun {p} hp e' => by
      rw [e'] at e
      exact absurd (Heap.lt_size e) (Nat.not_lt.mpr hp)
    exact ⟨nl hB.1, nl hB.2.2.1, nl hB.2.2.2.1, nl hB.2.2.2.2⟩
  refine ⟨rfl, ?_⟩
  rcases hZ with Z | ⟨h0, Z, hk⟩
  · obtain ⟨c, hSc⟩ := Z.hS
    exact hQ h acc c as Z.keep hSc Z.hacc Z.len Z.rise (fun t ht => (Z.above t ht).1) Z.pairs
  · obtain ⟨c, hSc⟩ := Z.hS
    refine hQ h acc c as (fun q o e => ?_) (hk _ _ (Nat.ne_of_gt hzl) (Nat.ne_of_gt hTOl) (Nat.ne_of_gt hi1) (Nat.ne_of_gt hi2) hSc) Z.hacc Z.len Z.rise (fun t ht => (Z.above t ht).1) (fun j b hj => ?_)
    · have := offB e
      exact hk q o this.1 this.2.1 this.2.2.1 this.2.2.2 (Z.keep q o e)
    · obtain ⟨x, y, e1, e2, e3⟩ := Z.pairs j b hj
      have hb := (Z.above b (List.mem_of_getElem? hj)).1
      have ng : ∀ {p : Addr}, p < s.heap.objs.size → b ≠ p := fun h => Nat.ne_of_gt (Nat.lt_trans h hb)
      exact ⟨x, y, e1, e2, hk _ _ (ng hzl) (ng hTOl) (ng hi1) (ng hi2) e3⟩
end
section
variable {X : Cx}
theorem pe_listZip {K : PySem.W.Frag} {e e2 : Expr} {ta : TA} {p p2 pos pos2 : Pos} (hc : X.calm = true) (hg : Gl X "list") (hm : X.mg "list" = none) (hg2 : Gl X "zip") (hm2 : X.mg "zip" = none) (ha : PA X [e, e2] ta)
    (hs : starEach [e, e2] X.env = (false, eval e X.env) :: starEach [e2] X.env := by rfl) (hpl : (backTo pos2 (starEach [e2] X.env)).any (·.1) = false := by rfl)
    (hs2 : starEach [.Call (.Name "zip" p2) [e, e2] [] pos2] X.env = (false, eval (.Call (.Name "zip" p2) [e, e2] [] pos2) X.env) :: starEach [] X.env := by rfl) (ek : X.K = K := by rfl) :
    PE X (.Call (.Name "list" p) [.Call (.Name "zip" p2) [e, e2] [] pos2] [] pos) (tListZip K ta) := by
  subst ek
  refine ⟨fun pins s σ H Q I h => ?_⟩
  refine wpAny_Call_Name_kw (ld_blt I hg hm (show bootBuiltins ("list" : Str) = some (.type "list") by decide +kernel) ?_)
  refine PyProof.Rows.callWith_type1 ?_ hs2 rfl
  rw [hs2]
  show wpAny _ _ (spliced ((false, eval (.Call (.Name "zip" p2) [e, e2] [] pos2) X.env) :: backTo pos (starEach [] X.env))) _ _ s
  refine Calls.spliced_cons ?_
  refine Call_ (ld_blt I hg2 hm2 PyProof.Rows.boot_zip (PyProof.Rows.callWith_type1 (thn (ha.run pos2 pins s σ H _ I h) fun us s1 ⟨vs, H1, I1, r1, q1⟩ => ?_) hs hpl))
  obtain ⟨a, b, xs, ys, ex, hqx, hqy, q⟩ := q1
  subst ex
  cases r1 with
  | cons r rr =>
    cases rr with
    | cons r' rr =>
      cases rr
      cases r
      cases r'
      obtain ⟨its, rv, p1, z1⟩ := I1.list hqx
      obtain ⟨its2, rv2, p2, z2⟩ := I1.list hqy
      have la : a < s1.heap.objs.size := p1.lt
      have lb : b < s1.heap.objs.size := p2.lt
      refine call_zip_2 p1.isList p2.isList fun h' hz hTI hTO h1 h2 hsz hk => ?_
      refine Calls.spliced_nil ?_
      have hlen := rv.length
      have hlen2 := rv2.length
      refine call_listzip (B := s1.heap) (s := { s1 with heap := h' }) (I1.ok.hd hc) (PySem.W.ktu_apart s1.heap.objs.size a b la lb) ⟨by omega, by omega, by omega, by omega, by omega⟩ p1.isList p2.isList (by simpa [hlen] using z1) hk hz hTI ⟨_, _, hTO⟩ h1 h2 fun h2' acc c as k1 k2 k3 k4 k5 k6 k7 => ?_
      have hSs : s1.heap.objs.size ≤ h'.objs.size := by rw [hsz]; omega
      have lz : (xs.zip ys).length = min its.toArray.size its2.toArray.size := by
        rw [List.length_zip, hlen, hlen2]
        simp
      obtain ⟨H', m1, m2, m3, m4, m5, m6, J⟩ := pairs_laid (tk := s1.toks) (us := its) (ws := its2) I1 (by rw [lz]; simp at z1 ⊢; omega) rv rv2 hSs k1 k2 (by rw [k4, lz]) k3 k5 k6 (fun j b hj => by
        obtain ⟨x, y, e1, e2, e3⟩ := k7 j b hj
        exact ⟨x, y, by simpa using e1, by simpa using e2, e3⟩)
      exact ⟨.ref _, H', J, rfl, q H' _ as m1 m2 m3 m4 m5 m6⟩
end
end Pw
set_option Elab.async false
set_option linter.all false
set_option maxRecDepth 100000
set_option maxHeartbeats 4000000
/-! The law's webs: a row, a ring. -/
namespace Pw
open PySem PySem.Spec PyProof.Rows L2
/-- the pairs of a row -/
def rowE (ns : List Str) : List (Str × Str) := ns.zip (ns.drop 1)
theorem rowE_get {ns : List Str} {i : Nat} {e : Str × Str} (h : (rowE ns)[i]? = some e) : ns[i]? = some e.1 ∧ ns[i + 1]? = some e.2 := by
  unfold rowE at h
  rw [List.getElem?_zip_eq_some, List.getElem?_drop] at h
  rw [Nat.add_comm i 1]
  exact h
theorem pairs_nd {ns : List Str} (hn : ns.Nodup) {es : List (Str × Str)} (ix : ∀ i e, es[i]? = some e → ∃ j k, ns[j]? = some e.1 ∧ ns[k]? = some e.2 ∧ j ≠ k ∧ ((k = j + 1 ∧ j = i) ∨ (k = 0 ∧ j = i ∧ j + 1 = ns.length ∧ 2 < ns.length ∧ i + 1 = es.length))) :
    (es.map fun e => pr e.1 e.2).Nodup := by
  unfold List.Nodup
  rw [List.pairwise_map, List.pairwise_iff_getElem]
  intro i j hi hj hij e
  obtain ⟨a, b, h1, h2, h3, h4⟩ := ix i _ (List.getElem?_eq_getElem hi)
  obtain ⟨c, d, g1, g2, g3, g4⟩ := ix j _ (List.getElem?_eq_getElem hj)
  have l1 := (List.getElem?_eq_some_iff.mp h2).1
  have l2 := (List.getElem?_eq_some_iff.mp g2).1
  have l3 := (List.getElem?_eq_some_iff.mp h1).1
  have l4 := (List.getElem?_eq_some_iff.mp g1).1
  rcases pr_inj e with ⟨e1, e2⟩ | ⟨e1, e2⟩
  · rw [e1] at h1
    rw [e2] at h2
    have := nd_get hn h1 g1
    have := nd_get hn h2 g2
    omega
  · rw [e1] at h1
    rw [e2] at h2
    have := nd_get hn h1 g2
    have := nd_get hn h2 g1
    omega
theorem paired_unmap {α β γ : Type} {F : α → β → Prop} (f : γ → β) : ∀ {xs : List α} {ys : List γ}, Paired F xs (ys.map f) → Paired (fun a c => F a (f c)) xs ys
  | [], [], _ => .nil
  | [], _ :: _, h => by cases h
  | _ :: _, [], h => by cases h
  | _ :: _, _ :: _, .cons h t => .cons h (paired_unmap f t)
theorem paired_imp {α β : Type} {F G : α → β → Prop} (i : ∀ a b, F a b → G a b) : ∀ {xs : List α} {ys : List β}, Paired F xs ys → Paired G xs ys
  | _, _, .nil => .nil
  | _, _, .cons h t => .cons (i _ _ h) (paired_imp i t)
theorem paired_app {α β : Type} {F : α → β → Prop} : ∀ {xs xs' : List α} {ys ys' : List β}, Paired F xs ys → Paired F xs' ys' → Paired F (xs ++ xs') (ys ++ ys')
  | _, _, _, _, .nil, h => h
  | _, _, _, _, .cons h t, h' => .cons h (paired_app t h')
theorem paired_get' {α β : Type} {F : α → β → Prop} : ∀ {xs : List α} {ys : List β}, Paired F xs ys → ∀ {i : Nat} {x : α}, xs[i]? = some x → ∃ y, ys[i]? = some y ∧ F x y
  | _, _, .nil, i, x, h => by cases h
  | _, _, .cons r t, 0, x, h => by
    have e := Option.some.inj h
    subst e
    exact ⟨_, rfl, r⟩
  | _, _, .cons r t, i + 1, x, h => paired_get' t h
theorem paired_len {α β : Type} {F : α → β → Prop} : ∀ {xs : List α} {ys : List β}, Paired F xs ys → xs.length = ys.length
  | _, _, .nil => rfl
  | _, _, .cons _ t => congrArg (· + 1) (paired_len t)
theorem Strm.tup_off {a b t : Addr} {n : Nat} {H : Hp} {xs : List V} (S : Strm a b n H) (h : H t = some (.tup xs)) : t ≠ a ∧ t ≠ b := by
  obtain ⟨_, _, _, _, z, z', _⟩ := S
  exact ⟨ne_of h z (by intro z; cases z), ne_of h z' (by intro z; cases z)⟩
section
variable {P : Program} {w : World} {K : PySem.W.Frag} {mg : Str → Option Value} {base : Heap}
def spRow (K : PySem.W.Frag) : Sp := fun vs H Q _ => ∃ (a b : Addr) (n many : Nat) (heights : Int) (ring : Bool), vs = [.ref a, .int many, .int heights, .bl ring] ∧ Strm a b (n + 400) H ∧ 2 ≤ many ∧ many ≤ 8 ∧ 0 < heights ∧ heights < 1000 ∧
  retRaw K a b n H Q fun ns ts => ns.length = many ∧ ∀ x ∈ ns, x ∈ pool
theorem sc_law_a_row : FnScope ["_law_stream", "_law_many", "_law_heights", "_law_is_ring", "_law_places", "_law_pairs", "_law_x", "_law_y"] ["_law_stream", "_law_many", "_law_heights", "_law_is_ring"] (defScope s_law_a_row) := ⟨rfl, rfl, rfl, by decide +kernel, rfl, by decide +kernel, by decide +kernel⟩
theorem ok_row (T : Tx K mg) : Ok P w K mg base CX0 4 "_law_a_row" ["_law_stream", "_law_many", "_law_heights", "_law_is_ring"] (spRow K) := by
  have G_draw : Ok P w K mg base CX0 1 _ _ _ := ok_draw T
  have G_a_names : Ok P w K mg base CX0 3 _ _ _ := ok_names T
  have G_a_tie : Ok P w K mg base CX0 1 _ _ _ := ok_tie T
  have G_a_scaled : Ok P w K mg base CX0 3 _ _ _ := ok_scaled T
  refine mkOk (d := d_law_a_row) T 25 23 rfl rfl rfl rfl rfl (fun _ _ _ _ _ _ us hl => match us, hl with | [_, _, _, _], _ => rfl) sc_law_a_row (fun vs H Q E h => ?_) (fun f cdv A outer s H vs Q E hr h => ?_)
  · obtain ⟨a, b, n, many, he, ring, rfl, _⟩ := h
    rfl
  · obtain ⟨a, b, n, many, he, ring, rfl, hS, hm2, hm, he0, he1, k⟩ := h
    have nd := sc_law_a_row.nd
    refine ⟨_, (pss_cons (ps_set (i := 4) nd rfl (Or.inl rfl) (pe_ok G_a_names (hr.mono (by omega)) pass0 (pa_cons (pv 0) (pa_cons (pv 1) pa_nil))))
      (pss_cons (ps_set (i := 5) nd rfl (Or.inl rfl) (pe_op op_cat (pe_listZip (K := K) rfl (by rfl) T.list (by rfl) T.zip (pa_cons (pv 4) (pa_cons (pe_slice (k_slL (K := K)) (pv 4) (po_some pe_int) po_none) pa_nil))) (pe_ifExp (PW.pt (pw_and (pt_val (pv 3)) (pw_and1 (pt_cmpR op_gt (pv 1) pe_int (nomark _))))) (pe_lst (pa_cons (pe_tup (pa_cons (pe_ix (k_ixL (K := K)) (pv 4) (pe_un un_neg pe_int) (fun _ _ => rfl)) (pa_cons (pe_ix (k_ixL (K := K)) (pv 4) pe_int (fun _ _ => rfl)) pa_nil))) pa_nil)) (pe_lst pa_nil))))
      (pss_one (ps_ret (pe_tup (pa_cons (pv 4) (pa_cons (pe_ok G_a_scaled (hr.mono (by omega)) pass0 (pa_cons (pv 0) (pa_cons (pe_lc (own := [("_law_x", 6), ("_law_y", 7)]) (by rfl) nd (k_pl (K := K) (pv 5)) (blkOk_by (own := [("_law_x", 6), ("_law_y", 7)]) (N := ["_law_stream", "_law_many", "_law_heights", "_law_is_ring", "_law_places", "_law_pairs", "_law_x", "_law_y"]) (sc := (defScope s_law_a_row)) (by decide +kernel)) (fun _ _ _ _ _ => (k_tup (K := K) (n := 2) rfl (pgs_cons (pg_name (i := 6) nd rfl (by first | exact Or.inl rfl | exact Or.inr rfl)) (pgs_cons (pg_name (i := 7) nd rfl (by first | exact Or.inl rfl | exact Or.inr rfl)) pgs_nil)))) (fun _ _ _ _ _ => pts_nil) (fun _ _ _ _ _ => (pe_ok G_a_tie (hr.mono (by omega)) pass0 (pa_cons (pv 6) (pa_cons (pv 7) (pa_cons (pe_ok G_draw (hr.mono (by omega)) pass0 (pa_cons (pv 0) (pa_cons (pv 2) pa_nil))) pa_nil)))))) pa_nil))) pa_nil))))))), ?_⟩
    refine ⟨_, rfl, _, rfl, a, b, n + 383, many, rfl, hS.le (by omega), by omega, fun H1 p ns np hp hlen hnd hall hpool kp1 S1 => ?_⟩
    have hpool := hpool (by omega)
    have poff := hS.off np
    obtain ⟨first, hfirst⟩ : ∃ z, ns[0]? = some z := ⟨ns[0], List.getElem?_eq_getElem (by omega)⟩
    obtain ⟨last, hlast⟩ : ∃ z, ns[ns.length - 1]? = some z := ⟨ns[ns.length - 1], List.getElem?_eq_getElem (by omega)⟩
    -- the pairs
    dsimp only
    refine viaS (t1 := tAsg _ _) (fun σ H2 => ∃ (q : Addr) (tp : List Addr) (es : List (Str × Str)), σ = [some (.ref a), some (.int many), some (.int he), some (.bl ring), some (.ref p), some (.ref q), none, none] ∧ Same H1 H2 ∧ H1 q = none ∧
      H2 q = some (.lst (tp.map V.ref)) ∧ Paired (fun (t : Addr) (e : Str × Str) => H2 t = some (.tup [.str e.1, .str e.2])) tp es ∧ es.length ≤ 16 ∧ (es.map fun e => pr e.1 e.2).Nodup ∧ ∀ e ∈ es, e.1 ∈ ns ∧ e.2 ∈ ns ∧ e.1 ≠ e.2) (fun nx hn => ?_) ?_
    · refine ⟨_, rfl, _, rfl, _, rfl, p, _, rfl, SqL.of hp, fun q nq => ?_⟩
      rw [show (1 : Int) = ((1 : Nat) : Int) from rfl, cut_from, ← List.map_drop]
      have s2 : Same H1 _ := same_new (o := .lst ((ns.drop 1).map V.str)) nq
      have e2 : upd H1 q (.lst ((ns.drop 1).map V.str)) q = _ := upd_same
      generalize upd H1 q (.lst ((ns.drop 1).map V.str)) = H2 at s2 e2 ⊢
      refine ⟨p, q, _, _, rfl, SqL.of (s2 _ _ hp), SqL.of e2, fun H3 l ts s3 nl nts lts hl hpr => ?_⟩
      have hprs : Paired (fun (t : Addr) (e : Str × Str) => H3 t = some (.tup [.str e.1, .str e.2])) ts (rowE ns) := by
        rw [List.zip_map] at hpr
        exact paired_unmap (fun e : Str × Str => ((V.str e.1, V.str e.2) : V × V)) hpr
      have lrow : (rowE ns).length + 1 = ns.length := by
        unfold rowE
        rw [List.length_zip, List.length_drop]
        omega
      have hix : ∀ i e, (rowE ns)[i]? = some e → ∃ j k, ns[j]? = some e.1 ∧ ns[k]? = some e.2 ∧ j ≠ k ∧ k = j + 1 ∧ j = i := fun i e h => ⟨i, i + 1, (rowE_get h).1, (rowE_get h).2, by omega, rfl, rfl⟩
      have hmem : ∀ e ∈ rowE ns, e.1 ∈ ns ∧ e.2 ∈ ns ∧ e.1 ≠ e.2 := fun e he => by
        obtain ⟨i, hi, rfl⟩ := List.getElem_of_mem he
        obtain ⟨j, k, h1, h2, h3, _⟩ := hix i _ (List.getElem?_eq_getElem hi)
        refine ⟨List.mem_of_getElem? h1, List.mem_of_getElem? h2, fun z => ?_⟩
        rw [← z] at h2
        exact h3 (nd_get hnd h1 h2)
      have ltr : ts.length = (rowE ns).length := paired_len hprs
      refine via (te := tIf _ _ _) (fun v H4 => ∃ (r : Addr) (tp : List Addr) (es : List (Str × Str)), v = .ref r ∧ Same H3 H4 ∧ H4 r = some (.lst (tp.map V.ref)) ∧ Paired (fun (t : Addr) (e : Str × Str) => H4 t = some (.tup [.str e.1, .str e.2])) tp es ∧ es.length ≤ 1 ∧
        ((rowE ns ++ es).map fun e => pr e.1 e.2).Nodup ∧ ∀ e ∈ es, e.1 ∈ ns ∧ e.2 ∈ ns ∧ e.1 ≠ e.2) (fun Qc hc => ?_) ?_
      · refine viaT (t := tAnd _ _) (fun c H4 => H4 = H3 ∧ (c = true → 2 < many)) (fun Qt ht => ?_) ?_
        · refine ⟨_, rfl, _, rfl, ?_⟩
          refine ite2 (fun e => ⟨_, rfl, _, _, rfl, rfl, _, rfl, ?_⟩) (fun e => ht _ _ ⟨rfl, fun z => by cases z⟩)
          refine ht _ _ ⟨rfl, fun z => ?_⟩
          have := of_decide_eq_true z
          omega
        · rintro c H4 ⟨rfl, hc2⟩
          refine ite2 (fun e => ?_) (fun e => ?_)
          · have hm3 := hc2 e
            have hp3 := same_trans s2 s3 _ _ hp
            refine ⟨_, rfl, _, rfl, p, _, _, _, rfl, rfl, SqL.of hp3, atI_last (by rw [List.length_map, List.getElem?_map, hlast]; rfl), _, rfl, p, _, _, _, rfl, rfl, SqL.of hp3, atI_nat (j := 0) (by rw [List.getElem?_map, hfirst]; rfl), by show 2 ≤ sizeLine; decide, fun t nt => ⟨by show 1 ≤ sizeLine; decide, fun r nr => ?_⟩⟩
            refine hc _ _ ⟨r, [t], [(last, first)], rfl, same_trans (same_new nt) (same_new nr), upd_same, .cons (upd_at upd_same (ne_of_none upd_same nr)) .nil, Nat.le_refl _, ?_, fun e he => ?_⟩
            · refine pairs_nd hnd fun i e h => ?_
              rcases Nat.lt_or_ge i (rowE ns).length with hi | hi
              · rw [List.getElem?_append_left hi] at h
                obtain ⟨j, k, h1, h2, h3, h4, h5⟩ := hix i e h
                exact ⟨j, k, h1, h2, h3, .inl ⟨h4, h5⟩⟩
              · rw [List.getElem?_append_right hi] at h
                have hi0 : i - (rowE ns).length = 0 := by
                  have := (List.getElem?_eq_some_iff.mp h).1
                  simp at this
                  exact this
                rw [hi0] at h
                obtain rfl := Option.some.inj h
                exact ⟨ns.length - 1, 0, hlast, hfirst, by omega, .inr ⟨rfl, by omega, by omega, by omega, by rw [List.length_append]; simp; omega⟩⟩
            · rw [List.mem_singleton] at he
              subst he
              refine ⟨List.mem_of_getElem? hlast, List.mem_of_getElem? hfirst, fun z => ?_⟩
              have z' : last = first := z
              rw [← z'] at hfirst
              have := nd_get hnd hlast hfirst
              omega
          · refine ⟨by show 0 ≤ sizeLine; decide, fun r nr => hc _ _ ⟨r, [], [], rfl, same_new nr, upd_same, .nil, Nat.zero_le _, ?_, fun e he => (nomatch he)⟩⟩
            rw [List.append_nil]
            exact pairs_nd hnd fun i e h => by
              obtain ⟨j, k, h1, h2, h3, h4, h5⟩ := hix i e h
              exact ⟨j, k, h1, h2, h3, .inl ⟨h4, h5⟩⟩
      · rintro v H4 ⟨r, tp, es, rfl, s4, hr4, hp4, les, hnd4, hm4⟩
        have ltp := paired_len hp4
        refine ⟨l, r, _, _, rfl, rfl, s4 _ _ hl, hr4, ?_, fun t nt => ?_⟩
        · rw [List.length_map, List.length_map]
          exact Nat.le_trans (show ts.length + tp.length ≤ 100 by omega) (by decide)
        rw [← List.map_append]
        have s5 : Same H4 _ := same_new (o := .lst ((ts ++ tp).map V.ref)) nt
        refine hn _ _ ⟨t, ts ++ tp, rowE ns ++ es, rfl, same_trans (same_trans s2 s3) (same_trans s4 s5), same_back (same_trans (same_trans s2 s3) s4) nt, upd_same, paired_app (paired_imp (fun _ _ h => s5 _ _ (s4 _ _ h)) hprs) (paired_imp (fun _ _ h => s5 _ _ h) hp4), by rw [List.length_append]; omega, hnd4, fun e he => ?_⟩
        rcases List.mem_append.mp he with h | h
        · exact hmem e h
        · exact hm4 e h
    rintro σ H2 ⟨q, tp, es, rfl, s2, nq, hq, hpr, les, hnd2, hmem⟩
    have kp2 := kp1.trans (.of s2)
    have S2 := S1.same s2
    have ltp := paired_len hpr
    have qoff := S1.off nq
    refine ⟨_, rfl, _, rfl, _, rfl, q, rfl, ⟨_, SqL.of hq⟩, fun D nD => ?_⟩
    have Doff := S2.off nD
    refine lc_it (walk_list (xs := tp.map V.ref)) (fun i H3 => ∃ (ts : List Tie) (us : List V), Kp a b H2 H3 ∧ Strm a b (n + 1 + (16 - i)) H3 ∧ H3 D = some (.lst us) ∧ RepL K (fun c => H2 c = none ∧ c ≠ D) H3 (ts.map dTie) us ∧ ts.map pa2 = (es.take i).map (fun e => pr e.1 e.2) ∧ ∀ t ∈ ts, 0 ≤ t.2.2 ∧ t.2.2 ≤ 1000)
      ⟨[], [], kp_new nD, (S2.new nD).le (by omega), upd_same, RepL.nil, rfl, fun t ht => (nomatch ht)⟩ (fun i H3 _ ⟨_, _, kp3, _⟩ => SqL.of (kp3 _ _ hq qoff.1 qoff.2)) ?_ ?_
    · rintro i x H3 H4 hi ⟨ts, us, kp3, S3, hD3, hr3, hpa, hb⟩ ⟨rfl, hx⟩
      obtain ⟨t, hti, rfl⟩ := map_get hx
      obtain ⟨e, hei, hte⟩ := paired_get' hpr hti
      have toff := S2.tup_off hte
      have hte3 := kp3 _ _ hte toff.1 toff.2
      rw [List.length_map] at hi
      refine ⟨t, _, rfl, SqT.of hte3, rfl, _, _, rfl, _, _, rfl, rfl, rfl, yesT ?_⟩
      refine ⟨_, rfl, _, rfl, _, rfl, _, rfl, a, b, n + 1 + (16 - i) - 1, he, rfl, S3.le (by omega), he0, by omega, fun H5 h kp5 S5 h0 h1 => ⟨e.1, e.2, h, rfl, fun r nr => ?_⟩⟩
      have hD5 := kp5 _ _ hD3 Doff.1 Doff.2
      have hDr : D ≠ r := ne_of_none hD5 nr
      have lu : us.length = ts.length := by rw [hr3.len, List.length_map]
      have lt : ts.length ≤ 16 := by
        have := congrArg List.length hpa
        rw [List.length_map, List.length_map, List.length_take] at this
        omega
      refine ⟨us, upd_at hD5 hDr, by rw [lu]; exact Nat.lt_of_le_of_lt lt (by decide), ts ++ [mkT e.1 e.2 h], us ++ [.ref r], kp_mut ((kp3.trans kp5).trans (kp_new nr)) nD, ?_, upd_same, ?_, ?_, ?_⟩
      · refine ((S5.new nr).le ?_).at_ (upd_ne Doff.1.symm) (upd_ne Doff.2.symm)
        omega
      · refine tl_add (t := mkT e.1 e.2 h) hD5 (hr3.kp kp5 fun c hc => S2.off hc.1) nr ((kp3.trans kp5).back S5 nr)
      · rw [List.map_append, hpa, take_snoc hei, List.map_append]
        rfl
      · intro t' ht'
        rcases List.mem_append.mp ht' with ht' | ht'
        · exact hb t' ht'
        · rw [List.mem_singleton] at ht'
          subst ht'
          exact ⟨h0, by show h ≤ 1000; omega⟩
    · rintro H3 ⟨ts, us, kp3, S3, hD3, hr3, hpa, hb⟩
      rw [List.length_map] at hpa
      rw [ltp, List.take_length] at hpa
      have kp4 := kp2.trans kp3
      have hT : TiesOk ns 1000 ts := by
        refine ⟨fun t ht => ?_, by rw [hpa]; exact hnd2⟩
        have : pa2 t ∈ es.map fun e => pr e.1 e.2 := by
          rw [← hpa]
          exact List.mem_map.mpr ⟨t, ht, rfl⟩
        obtain ⟨e, he, hpe⟩ := List.mem_map.mp this
        have hm := hmem e he
        have m := pr_mem hm.1 hm.2.1
        have l := pr_lt hm.2.2
        rw [hpe] at m l
        have := hb t ht
        exact ⟨m.1, m.2, l, by omega, by omega⟩
      have lt : ts.length ≤ 16 := by
        have := congrArg List.length hpa
        rw [List.length_map, List.length_map] at this
        omega
      have hp3 := kp3 _ _ (s2 _ _ hp) poff.1 poff.2
      refine ⟨a, b, D, n, 1000, ns, ts, us, rfl, S3.le (by omega), Doff.1, Doff.2, hD3, hr3.wk (fun c hc => S2.off hc.1), hT, by decide, by omega, fun H4 q ts' ws nq hq hr4 hT' hso hl' kp5 S4 => ⟨by show 2 ≤ sizeLine; decide, fun r nr => ?_⟩⟩
      have kp6 := kp4.trans kp5
      have s5 : Same H4 _ := same_new (o := .tup [V.ref p, V.ref q]) nr
      refine k _ _ ns ts' (rep_raw.mpr ⟨r, _, _, rfl, kp6.back S4 nr, upd_same, rep_strs.mpr ⟨p, rfl, np, s5 _ _ (kp5 _ _ hp3 poff.1 poff.2)⟩, q, ws, rfl, kp4.back S3 nq, s5 _ _ hq, ?_⟩) ⟨hnd, fun x hx => allN_gd (pool_in (hpool x hx)), by omega, hT', hso, by omega⟩ ⟨hlen, hpool⟩ (kp6.trans (kp_new nr)) (S4.new nr)
      exact (hr4.wk fun c hc => kp4.back S3 hc).same s5
end
end Pw
set_option Elab.async false
set_option linter.all false
set_option maxRecDepth 100000
set_option maxHeartbeats 4000000
/-! The names that a web beside gets. -/
namespace Pw
open PySem PySem.Spec PyProof.Rows L2
def zzN (x : Str) (i : Nat) : Str := (cutS x none (some 4) ++ ("zz" : Str)) ++ toString ((i : Nat) : Int)
def zzAll : List (Str × Nat) := pool.flatMap fun x => (List.range 8).map fun i => (x, i)
theorem zz_ok : zzAll.all (fun q => decide ((zzN q.1 q.2).cps.toList.getLast? = some (48 + q.2)) && (decide (zzN q.1 q.2 ∉ pool) && (decide ((cutS q.1 none (some 4)).length ≤ 4) && (isNm (zzN q.1 q.2) && (decide (zzN q.1 q.2 ≠ "late9") && decide (zzN q.1 q.2 ≠ "nobody")))))) = true := by decide +kernel
theorem zz_f {x : Str} {i : Nat} (hx : x ∈ pool) (hi : i < 8) : (zzN x i).cps.toList.getLast? = some (48 + i) ∧ zzN x i ∉ pool ∧ (cutS x none (some 4)).length ≤ 4 ∧ isNm (zzN x i) = true ∧ zzN x i ≠ "late9" ∧ zzN x i ≠ "nobody" := by
  have q := List.all_eq_true.mp zz_ok (x, i) (List.mem_flatMap.mpr ⟨x, hx, List.mem_map.mpr ⟨i, List.mem_range.mpr hi, rfl⟩⟩)
  simp only [Bool.and_eq_true, decide_eq_true_eq] at q
  exact q
theorem zz_inj {x y : Str} {i j : Nat} (hx : x ∈ pool) (hy : y ∈ pool) (hi : i < 8) (hj : j < 8) (h : zzN x i = zzN y j) : i = j := by
  have a := (zz_f hx hi).1
  have b := (zz_f hy hj).1
  rw [h, b] at a
  have := Option.some.inj a
  omega
theorem pool_len {x : Str} (h : x ∈ pool) : x.length ≤ 8 := by
  have q : pool.all (fun x => decide (x.length ≤ 8)) = true := by decide +kernel
  exact of_decide_eq_true (List.all_eq_true.mp q x h)
end Pw
set_option Elab.async false
set_option linter.all false
set_option maxRecDepth 100000
set_option maxHeartbeats 4000000
/-! The law's webs: one beside another. -/
namespace Pw
open PySem PySem.Spec PyProof.Rows L2
/-! ### dicts with text keys -/
def dkv (l : List (Str × V)) : List (Key × V) := l.map fun q => (Sum.inr q.1, q.2)
theorem valV_dkv (k : Str) : ∀ l : List (Str × V), valV (dkv l) (Sum.inr k : Key) = l.lookup k
  | [] => rfl
  | (j, h) :: r => by
    have ih := valV_dkv k r
    show valV ((Sum.inr j, h) :: dkv r) (Sum.inr k : Key) = (match k == j with | true => some h | false => r.lookup k)
    by_cases e : j = k
    · subst e
      rw [valV_pos rfl]
      simp
    · have q : (k == j) = false := by simpa using (fun z : k = j => e z.symm)
      rw [valV_neg (fun z => e (Sum.inr.inj z)), q]
      exact ih
theorem lookup_none {α : Type} : ∀ {l : List (Str × α)} {k : Str}, k ∉ l.map (·.1) → l.lookup k = none
  | [], _, _ => rfl
  | (j, u) :: l, k, h => by
    rw [List.map_cons, List.mem_cons, not_or] at h
    have q : (k == j) = false := by simpa using h.1
    show (match k == j with | true => some u | false => l.lookup k) = none
    rw [q]
    exact lookup_none h.2
theorem put_dkv {l : List (Str × V)} {k : Str} {v : V} (h : k ∉ l.map (·.1)) : putK (dkv l) (Sum.inr k) v = dkv (l ++ [(k, v)]) := by
  rw [putK_new v (by rw [valV_dkv, lookup_none h])]
  unfold dkv
  rw [List.map_append]
  rfl
theorem merge_dkv : ∀ (l acc : List (Str × V)), ((acc ++ l).map (·.1)).Nodup → mergeK (dkv acc) (dkv l) = dkv (acc ++ l)
  | [], acc, _ => by
    rw [List.append_nil]
    rfl
  | (k, v) :: l, acc, h => by
    have h' : ((acc ++ [(k, v)] ++ l).map (·.1)).Nodup := by
      rw [List.append_assoc]
      exact h
    have ih := merge_dkv l (acc ++ [(k, v)]) h'
    rw [List.append_assoc] at ih
    show mergeK (putK (dkv acc) (Sum.inr k) v) (dkv l) = dkv (acc ++ (k, v) :: l)
    rw [put_dkv]
    · exact ih
    · intro hk
      rw [List.map_append, List.nodup_append] at h
      exact h.2.2 k hk k (by simp) rfl
theorem merge_dkv0 {l : List (Str × V)} (h : (l.map (·.1)).Nodup) : mergeK [] (dkv l) = dkv l := merge_dkv l [] h
/-! ### the names beside -/
def zzG (ks : List Str) (x : Str) (i : Nat) : Str := if x ∈ ks then zzN x i else x
def zzL (ks os : List Str) : List Str := os.mapIdx fun i x => zzG ks x i
theorem zzL_get {ks os : List Str} {i : Nat} {x : Str} (h : os[i]? = some x) : (zzL ks os)[i]? = some (zzG ks x i) := by
  unfold zzL
  rw [List.getElem?_mapIdx, h]
  rfl
theorem zzL_get' {ks os : List Str} {i : Nat} {y : Str} (h : (zzL ks os)[i]? = some y) : ∃ x, os[i]? = some x ∧ y = zzG ks x i := by
  unfold zzL at h
  rw [List.getElem?_mapIdx] at h
  obtain ⟨x, h1, h2⟩ := Option.map_eq_some_iff.mp h
  exact ⟨x, h1, h2.symm⟩
theorem zzL_len (ks os : List Str) : (zzL ks os).length = os.length := by
  unfold zzL
  rw [List.length_mapIdx]
section
variable {ks os : List Str} (hk : ∀ x ∈ ks, x ∈ pool) (ho : ∀ x ∈ os, x ∈ pool) (hl : os.length ≤ 8) (hn : os.Nodup)
include hk ho hl
theorem zzG_out {i : Nat} {x : Str} (h : os[i]? = some x) : zzG ks x i ∉ ks := by
  have hi := (List.getElem?_eq_some_iff.mp h).1
  have hp := ho x (List.mem_of_getElem? h)
  unfold zzG
  by_cases e : x ∈ ks
  · rw [if_pos e]
    exact fun z => (zz_f hp (by omega)).2.1 (hk _ z)
  · rw [if_neg e]
    exact e
theorem zzG_gd {i : Nat} {x : Str} (h : os[i]? = some x) : isNm (zzG ks x i) = true ∧ zzG ks x i ≠ "late9" ∧ zzG ks x i ≠ "nobody" := by
  have hi := (List.getElem?_eq_some_iff.mp h).1
  have hp := ho x (List.mem_of_getElem? h)
  unfold zzG
  by_cases e : x ∈ ks
  · rw [if_pos e]
    exact (zz_f hp (by omega)).2.2.2
  · rw [if_neg e]
    exact allN_gd (pool_in hp)
include hn
theorem zzG_inj {i j : Nat} {x y : Str} (h : os[i]? = some x) (h' : os[j]? = some y) (e : zzG ks x i = zzG ks y j) : i = j := by
  have hi := (List.getElem?_eq_some_iff.mp h).1
  have hj := (List.getElem?_eq_some_iff.mp h').1
  have hp := ho x (List.mem_of_getElem? h)
  have hq := ho y (List.mem_of_getElem? h')
  unfold zzG at e
  by_cases e1 : x ∈ ks <;> by_cases e2 : y ∈ ks
  · rw [if_pos e1, if_pos e2] at e
    exact zz_inj hp hq (by omega) (by omega) e
  · rw [if_pos e1, if_neg e2] at e
    rw [← e] at hq
    exact absurd hq (zz_f hp (by omega)).2.1
  · rw [if_neg e1, if_pos e2] at e
    rw [e] at hp
    exact absurd hp (zz_f hq (by omega)).2.1
  · rw [if_neg e1, if_neg e2] at e
    subst e
    exact nd_get hn h h'
theorem zzL_nd : (zzL ks os).Nodup := by
  unfold List.Nodup
  rw [List.pairwise_iff_getElem]
  intro i j hi hj hij e
  obtain ⟨x, h1, e1⟩ := zzL_get' (List.getElem?_eq_getElem hi)
  obtain ⟨y, h2, e2⟩ := zzL_get' (List.getElem?_eq_getElem hj)
  rw [e1, e2] at e
  have := zzG_inj hk ho hl hn h1 h2 e
  omega
end
/-- the new name of a text -/
def zzF (ks os : List Str) (x : Str) : Str := ((os.zip (zzL ks os)).lookup x).getD x
theorem zip_keys {os gs : List Str} (h : os.length = gs.length) : (os.zip gs).map (·.1) = os := by
  rw [List.map_fst_zip (by omega)]
theorem zzF_get {ks os : List Str} (hn : os.Nodup) {i : Nat} {x : Str} (h : os[i]? = some x) : (os.zip (zzL ks os)).lookup x = some (zzG ks x i) := by
  refine lookup_mem_nd ?_ ?_
  · rw [zip_keys (zzL_len ks os).symm]
    exact hn
  · refine List.mem_of_getElem? (i := i) ?_
    rw [List.getElem?_zip_eq_some]
    exact ⟨h, zzL_get h⟩
theorem paired_take {α β : Type} {F : α → β → Prop} {xs : List α} {ys : List β} {i : Nat} {y : β} (h : Paired F xs (ys.take i)) (hy : ys[i]? = some y) {x : α} (hx : F x y) : Paired F (xs ++ [x]) (ys.take (i + 1)) := by
  rw [take_snoc hy]
  exact paired_app h (.cons hx .nil)
theorem paired_mapr {α β γ : Type} {F : α → β → Prop} (f : γ → β) : ∀ {xs : List α} {ys : List γ}, Paired (fun a c => F a (f c)) xs ys → Paired F xs (ys.map f)
  | _, _, .nil => .nil
  | _, _, .cons h t => .cons h (paired_mapr f t)
theorem zzF_at {ks os : List Str} (hn : os.Nodup) {i : Nat} {x : Str} (h : os[i]? = some x) : zzF ks os x = zzG ks x i := by
  unfold zzF
  rw [zzF_get hn h]
  rfl
theorem bes_ok {ks os : List Str} {ts1 ts2 : List Tie} (k1 : RawOk ks ts1) (k2 : RawOk os ts2) (hk : ∀ x ∈ ks, x ∈ pool) (ho : ∀ x ∈ os, x ∈ pool) (lo : os.length ≤ 8) :
    TiesOk (ks ++ zzL ks os) big (ts1 ++ ts2.map fun t => mkT (zzF ks os t.1) (zzF ks os t.2.1) t.2.2) := by
  have inF : ∀ x ∈ os, zzF ks os x ∈ zzL ks os ∧ zzF ks os x ∉ ks := fun x hx => by
    obtain ⟨i, hi, rfl⟩ := List.getElem_of_mem hx
    rw [zzF_at k2.nd (List.getElem?_eq_getElem hi)]
    exact ⟨List.mem_of_getElem? (zzL_get (List.getElem?_eq_getElem hi)), zzG_out hk ho lo (List.getElem?_eq_getElem hi)⟩
  have injF : ∀ x ∈ os, ∀ y ∈ os, zzF ks os x = zzF ks os y → x = y := fun x hx y hy e => by
    obtain ⟨i, hi, rfl⟩ := List.getElem_of_mem hx
    obtain ⟨j, hj, rfl⟩ := List.getElem_of_mem hy
    rw [zzF_at k2.nd (List.getElem?_eq_getElem hi), zzF_at k2.nd (List.getElem?_eq_getElem hj)] at e
    have := zzG_inj hk ho lo k2.nd (List.getElem?_eq_getElem hi) (List.getElem?_eq_getElem hj) e
    subst this
    rfl
  refine ⟨fun t ht => ?_, ?_⟩
  · rcases List.mem_append.mp ht with ht | ht
    · obtain ⟨a, b, c⟩ := k1.ties.mem t ht
      exact ⟨List.mem_append.mpr (.inl a), List.mem_append.mpr (.inl b), c⟩
    · obtain ⟨s, hs, rfl⟩ := List.mem_map.mp ht
      obtain ⟨a, b, c, d⟩ := k2.ties.mem s hs
      have m := pr_mem (inF _ a).1 (inF _ b).1
      refine ⟨List.mem_append.mpr (.inr m.1), List.mem_append.mpr (.inr m.2), pr_lt fun e => ?_, d⟩
      have e2 := injF _ a _ b e
      rw [e2, ltS_irr] at c
      cases c
  · rw [List.map_append, List.nodup_append]
    refine ⟨k1.ties.nd, ?_, ?_⟩
    · rw [List.map_map]
      unfold List.Nodup
      rw [List.pairwise_map]
      have h2 := k2.ties.nd
      unfold List.Nodup at h2
      rw [List.pairwise_map] at h2
      refine List.Pairwise.imp_of_mem ?_ h2
      intro s t hs ht hne e
      obtain ⟨a, b, c, d⟩ := k2.ties.mem s hs
      obtain ⟨a', b', c', d'⟩ := k2.ties.mem t ht
      rcases pr_inj e with ⟨e1, e2⟩ | ⟨e1, e2⟩
      · refine hne ?_
        unfold pa2
        rw [injF _ a _ a' e1, injF _ b _ b' e2]
      · rw [injF _ a _ b' e1, injF _ b _ a' e2] at c
        have := ltS_tr c c'
        rw [ltS_irr] at this
        cases this
    · intro x hx y hy e
      subst e
      obtain ⟨t, ht, e1⟩ := List.mem_map.mp hx
      obtain ⟨u, hu, e2⟩ := List.mem_map.mp hy
      obtain ⟨s, hs, rfl⟩ := List.mem_map.mp hu
      obtain ⟨a, b, c, d⟩ := k1.ties.mem t ht
      obtain ⟨a', b', c', d'⟩ := k2.ties.mem s hs
      have e3 : pa2 t = pr (zzF ks os s.1) (zzF ks os s.2.1) := e1.trans e2.symm
      have e4 : t.1 = (pr (zzF ks os s.1) (zzF ks os s.2.1)).1 := congrArg Prod.fst e3
      rcases pr_cases (zzF ks os s.1) (zzF ks os s.2.1) with ⟨q, _⟩ | ⟨q, _⟩
      · rw [q] at e4
        have e5 : t.1 = zzF ks os s.1 := e4
        refine (inF _ a').2 ?_
        rw [← e5]
        exact a
      · rw [q] at e4
        have e5 : t.1 = zzF ks os s.2.1 := e4
        refine (inF _ b').2 ?_
        rw [← e5]
        exact a
section
variable {P : Program} {w : World} {K : PySem.W.Frag} {mg : Str → Option Value} {base : Heap}
def spBeside (K : PySem.W.Frag) : Sp := fun vs H Q _ => ∃ (v1 v2 : V) (N : Addr → Prop) (ks os : List Str) (ts1 ts2 : List Tie), vs = [v1, v2] ∧ Rep K N H (dRaw ks ts1) v1 ∧ Rep K N H (dRaw os ts2) v2 ∧ RawOk ks ts1 ∧ RawOk os ts2 ∧ (∀ x ∈ ks, x ∈ pool) ∧ (∀ x ∈ os, x ∈ pool) ∧
  ks.length ≤ 8 ∧ os.length ≤ 8 ∧ ts1.length ≤ 200 ∧ ts2.length ≤ 200 ∧
  ∀ (H' : Hp) (v : V) (ns : List Str) (ts : List Tie), Rep K (fun c => N c ∨ H c = none) H' (dRaw ns ts) v → RawOk ns ts → ns.length = ks.length + os.length → Same H H' → Q v H'
theorem sc_law_a_beside : FnScope ["_law_one", "_law_other", "_law_known", "_law_name", "_law_names", "_law_at", "_law_ties", "_law_x", "_law_y", "_law_height"] ["_law_one", "_law_other"] (defScope s_law_a_beside) := ⟨rfl, rfl, rfl, by decide +kernel, rfl, by decide +kernel, by decide +kernel⟩
theorem ok_beside (T : Tx K mg) : Ok P w K mg base CX0 2 "_law_a_beside" ["_law_one", "_law_other"] (spBeside K) := by
  have G_a_tie : Ok P w K mg base CX0 1 _ _ _ := ok_tie T
  refine mkOk (d := d_law_a_beside) T 29 27 rfl rfl rfl rfl rfl (fun _ _ _ _ _ _ us hl => match us, hl with | [_, _], _ => rfl) sc_law_a_beside (fun vs H Q E h => ?_) (fun f cdv A outer s H vs Q E hr h => ?_)
  · obtain ⟨v1, v2, N, ks, os, ts1, ts2, rfl, _⟩ := h
    rfl
  · obtain ⟨v1, v2, N, ks, os, ts1, ts2, rfl, r1, r2, k1, k2, hk, ho, lk, lo, lt1, lt2, k⟩ := h
    have nd := sc_law_a_beside.nd
    have hu := hu_of hr
    obtain ⟨p1, a1, b1, rfl, _, hp1, ra1, rb1⟩ := rep_raw.mp r1
    obtain ⟨p2, a2, b2, rfl, _, hp2, ra2, rb2⟩ := rep_raw.mp r2
    obtain ⟨q1, rfl, _, hq1⟩ := rep_strs.mp ra1
    obtain ⟨q2, rfl, _, hq2⟩ := rep_strs.mp ra2
    obtain ⟨u1, us1, rfl, _, hu1, ru1⟩ := rep_ties.mp rb1
    obtain ⟨u2, us2, rfl, _, hu2, ru2⟩ := rep_ties.mp rb2
    have lzz : (zzL ks os).length = os.length := zzL_len ks os
    refine ⟨_, (pss_cons (ps_set (i := 2) nd rfl (Or.inl rfl) (pe_callTy (k_dictP rfl (K := K)) (by rfl) T.dict (by decide +kernel) (pa_cons (pe_lc (own := [("_law_name", 3)]) (by rfl) nd (k_pl (K := K) (pe_ix (k_ixT (K := K)) (pv 0) pe_int (fun _ _ => rfl))) (blkOk_by (own := [("_law_name", 3)]) (N := ["_law_one", "_law_other", "_law_known", "_law_name", "_law_names", "_law_at", "_law_ties", "_law_x", "_law_y", "_law_height"]) (sc := (defScope s_law_a_beside)) (by decide +kernel)) (fun _ _ _ _ _ => (pg_name (i := 3) nd rfl (by first | exact Or.inl rfl | exact Or.inr rfl))) (fun _ _ _ _ _ => pts_nil) (fun _ _ _ _ _ => (pe_tup (pa_cons (pv 3) (pa_cons pe_bl pa_nil))))) pa_nil)))
      (pss_cons (ps_set (i := 4) nd rfl (Or.inr rfl) pe_dnewK)
      (pss_cons (ps_for PassesOwn.never rfl (k_enum (K := K) (by rfl) T.enumerate (pa_cons (pe_ix (k_ixT (K := K)) (pv 1) pe_int (fun _ _ => rfl)) pa_nil)) (k_tup (K := K) (n := 2) rfl (pgs_cons (pg_name (i := 5) nd rfl (Or.inl rfl)) (pgs_cons (pg_name (i := 3) nd rfl (Or.inl rfl)) pgs_nil)))
      (pss_one (ps_dput hu (pv 4) (pv 3) (pe_ifExp (pt_cmp (pc_dnotin hu (pv 3) (pv 2))) (pv 3) (pe_op op_add_str (pe_op op_add_str (pe_slice sl_str (pv 3) po_none (po_some pe_int)) pe_str) (pe_callTy call_str_int (by rfl) T.strT (by decide +kernel) (pa_cons (pv 5) pa_nil)))) rfl)))
      (pss_cons (ps_setLc (i := 6) (own := [("_law_x", 7), ("_law_y", 8), ("_law_height", 9)]) (by rfl) nd rfl rfl (sw_true rfl rfl rfl (by decide +kernel)) (k_pl (K := K) (pe_ix (k_ixT (K := K)) (pv 1) pe_int (fun _ _ => rfl))) (blkOk_by (own := [("_law_x", 7), ("_law_y", 8), ("_law_height", 9)]) (N := ["_law_one", "_law_other", "_law_known", "_law_name", "_law_names", "_law_at", "_law_ties", "_law_x", "_law_y", "_law_height"]) (sc := (defScope s_law_a_beside)) (by decide +kernel)) (fun _ _ _ _ _ => (k_tup (K := K) (n := 3) rfl (pgs_cons (pg_name (i := 7) nd rfl (by first | exact Or.inl rfl | exact Or.inr rfl)) (pgs_cons (pg_name (i := 8) nd rfl (by first | exact Or.inl rfl | exact Or.inr rfl)) (pgs_cons (pg_name (i := 9) nd rfl (by first | exact Or.inl rfl | exact Or.inr rfl)) pgs_nil))))) (fun _ _ _ _ _ => pts_nil) (fun _ _ _ _ _ => (pe_ok G_a_tie (hr.mono (by omega)) pass0 (pa_cons (pe_dget hu (pv 4) (pv 7) (fun _ _ => rfl)) (pa_cons (pe_dget hu (pv 4) (pv 8) (fun _ _ => rfl)) (pa_cons (pv 9) pa_nil))))))
      (pss_one (ps_ret (pe_tup (pa_cons (pe_op op_cat (pe_ix (k_ixT (K := K)) (pv 0) pe_int (fun _ _ => rfl)) (pe_lc (own := [("_law_name", 3)]) (by rfl) nd (k_pl (K := K) (pe_ix (k_ixT (K := K)) (pv 1) pe_int (fun _ _ => rfl))) (blkOk_by (own := [("_law_name", 3)]) (N := ["_law_one", "_law_other", "_law_known", "_law_name", "_law_names", "_law_at", "_law_ties", "_law_x", "_law_y", "_law_height"]) (sc := (defScope s_law_a_beside)) (by decide +kernel)) (fun _ _ _ _ _ => (pg_name (i := 3) nd rfl (by first | exact Or.inl rfl | exact Or.inr rfl))) (fun _ _ _ _ _ => pts_nil) (fun _ _ _ _ _ => (pe_dget hu (pv 4) (pv 3) (fun _ _ => rfl))))) (pa_cons (pe_callB (k_sortedK (K := K)) (by rfl) T.sorted (by decide +kernel) (pa_cons (pe_op op_cat (pe_ix (k_ixT (K := K)) (pv 0) pe_int (fun _ _ => rfl)) (pv 6)) pa_nil)) pa_nil))))))))), ?_⟩
    refine ⟨_, rfl, p1, _, 0, _, rfl, rfl, SqT.of hp1, rfl, q1, rfl, ⟨_, SqL.of hq1⟩, fun D nD => ?_⟩
    refine lc_it (walk_list (xs := ks.map V.str)) (fun i H1 => Same H H1 ∧ ∃ tp : List Addr, H1 D = some (.lst (tp.map V.ref)) ∧ Paired (fun (t : Addr) (x : Str) => H1 t = some (.tup [.str x, .bl true])) tp (ks.take i))
      ⟨same_new nD, [], upd_same, .nil⟩ (fun i H1 _ ⟨sm, _⟩ => SqL.of (sm _ _ hq1)) ?_ ?_
    · rintro i x H1 H2 hi ⟨sm, tp, hD, hpr⟩ ⟨rfl, hx⟩
      obtain ⟨z, hz, rfl⟩ := map_get hx
      refine ⟨rfl, yesT ?_⟩
      refine ⟨_, rfl, by show 2 ≤ sizeLine; decide, fun t nt => ?_⟩
      have hDt : D ≠ t := ne_of_none hD nt
      have ltp := paired_len hpr
      rw [List.length_map] at hi
      rw [List.length_take] at ltp
      refine ⟨_, upd_at hD hDt, by rw [List.length_map]; exact Nat.lt_of_le_of_lt (show tp.length ≤ 8 by omega) (by decide), same_mut (same_trans sm (same_new nt)) nD, tp ++ [t], by rw [List.map_append]; exact upd_same, ?_⟩
      refine paired_take (paired_imp (fun q y h => ?_) hpr) hz (upd_at upd_same hDt.symm)
      exact upd_at (upd_at h (ne_of_none h nt)) (ne_of h hD (by intro z; cases z))
    rintro H1 ⟨s1, tp, hD, hpr⟩
    rw [List.length_map, List.take_length] at hpr
    refine ⟨D, tp, dkv (ks.map fun x => (x, V.bl true)), rfl, SqL.of hD, ?_, ?_⟩
    · unfold dkv
      rw [List.map_map]
      exact paired_mapr _ (paired_imp (fun q y h => SqT.of h) hpr)
    rw [merge_dkv0 (by rw [List.map_map]; simpa [Function.comp_def] using k1.nd)]
    intro kn n_kn
    have e_kn : upd H1 kn (.dK (dkv (ks.map fun x => (x, V.bl true)))) kn = some (.dK (dkv (ks.map fun x => (x, V.bl true)))) := upd_same
    have s_kn : Same H1 (upd H1 kn (.dK (dkv (ks.map fun x => (x, V.bl true))))) := same_new n_kn
    generalize upd H1 kn (.dK (dkv (ks.map fun x => (x, V.bl true)))) = H2 at e_kn s_kn ⊢
    refine fun nm n_nm => ?_
    revert n_nm
    intro n_nm
    have s3 : Same H2 (upd H2 nm (.dK [])) := same_new n_nm
    have e3 : upd H2 nm (.dK []) nm = some (.dK []) := upd_same
    generalize upd H2 nm (.dK []) = H3 at s3 e3 ⊢
    have sH2 : Same H H2 := same_trans s1 s_kn
    have sH3 : Same H H3 := same_trans sH2 s3
    have hkn : H3 kn = _ := s3 _ _ e_kn
    have hknm : kn ≠ nm := ne_of_none e_kn n_nm
    have nnm0 : H nm = none := same_back sH2 n_nm
    have nkn0 : H kn = none := same_back s1 n_kn
    have isk : ∀ x : Str, (valV (dkv (ks.map fun x => (x, V.bl true))) (Sum.inr x : Key)).isSome = decide (x ∈ ks) := fun x => by
      rw [valV_dkv]
      by_cases e : x ∈ ks
      · rw [lookup_mem_nd (v := V.bl true) (by rw [List.map_map]; simpa [Function.comp_def] using k1.nd) (List.mem_map.mpr ⟨x, e, rfl⟩), decide_eq_true e]
        rfl
      · rw [lookup_none (by rw [List.map_map]; simpa [Function.comp_def] using e), decide_eq_false e]
        rfl
    -- the names
    refine gName_i ?_
    dsimp only
    refine viaS (t1 := tFor _ _ _) (fun σ H4 => ∃ (v3 v5 : Option V), σ = [some (.ref p1), some (.ref p2), some (.ref kn), v3, some (.ref nm), v5, none, none, none, none] ∧ Same H H4 ∧ H4 nm = some (.dK (dkv ((os.zip (zzL ks os)).map fun q => (q.1, V.str q.2))))) (fun nx hn => ?_) ?_
    · refine ⟨_, rfl, p2, _, 0, _, rfl, rfl, SqT.of (sH3 _ _ hp2), rfl, q2, _, rfl, SqL.of (sH3 _ _ hq2), for_it (walk_enum (xs := os.map V.str)) (fun i σ H4 => ∃ (v3 v5 : Option V), σ = [some (.ref p1), some (.ref p2), some (.ref kn), v3, some (.ref nm), v5, none, none, none, none] ∧
        Same H H4 ∧ H4 kn = some (.dK (dkv (ks.map fun x => (x, V.bl true)))) ∧ H4 nm = some (.dK (dkv (((os.zip (zzL ks os)).take i).map fun q => (q.1, V.str q.2)))))
        ⟨none, none, rfl, sH3, hkn, e3⟩ ?_ ?_ ?_⟩
      · rintro i σ H4 _ ⟨_, _, _, sm, _⟩
        exact SqL.of (sm _ _ hq2)
      · rintro i x σ H4 H5 hi ⟨v3, v5, rfl, sm, hkn4, hnm4⟩ ⟨t, x', y, rfl, nt, rfl, e1, e2⟩
        obtain rfl := Option.some.inj e1
        obtain ⟨z, hz, rfl⟩ := map_get e2
        rw [List.length_map] at hi
        have s5 : Same H4 _ := same_new (o := .tup [V.int (i : Nat), V.str z]) nt
        have e5 : upd H4 t (.tup [V.int (i : Nat), V.str z]) t = _ := upd_same
        generalize upd H4 t (.tup [V.int (i : Nat), V.str z]) = H5 at s5 e5 ⊢
        refine ⟨t, _, rfl, SqT.of e5, rfl, _, _, rfl, _, _, rfl, rfl, ?_⟩
        refine via (te := tIf _ _ _) (fun v H6 => H6 = H5 ∧ v = .str (zzG ks z i)) (fun Qc hc => ?_) ?_
        · refine ⟨_, rfl, _, rfl, kn, _, rfl, DGet.k (k := Sum.inr z) (s5 _ _ hkn4), _, rfl, ?_⟩
          rw [isk]
          have hp := ho z (List.mem_of_getElem? hz)
          have f := zz_f hp (show i < 8 by omega)
          by_cases e : z ∈ ks
          · rw [decide_eq_true e]
            refine iteF ⟨_, rfl, _, rfl, z, rfl, Nat.le_trans (pool_len hp) (by decide), _, _, rfl, rfl, ?_, _, rfl, _, rfl, log_small (i := i) (by omega), _, _, rfl, rfl, ?_, ?_⟩
            · exact Nat.le_trans (Nat.add_le_add f.2.2.1 (show (Str.ofString "zz").length ≤ 2 by decide +kernel)) (by decide)
            · rw [Str.length_append]
              exact Nat.le_trans (Nat.add_le_add (Nat.add_le_add f.2.2.1 (show (Str.ofString "zz").length ≤ 2 by decide +kernel)) (digits_small i (by omega))) (by decide)
            · refine hc _ _ ⟨rfl, ?_⟩
              unfold zzG
              rw [if_pos e]
              rfl
          · rw [decide_eq_false e]
            refine iteT ⟨_, rfl, hc _ _ ⟨rfl, ?_⟩⟩
            unfold zzG
            rw [if_neg e]
        · rintro v H6 ⟨rfl, rfl⟩
          have hnm5 := s5 _ _ hnm4
          have hgi : (os.zip (zzL ks os))[i]? = some (z, zzG ks z i) := by
            rw [List.getElem?_zip_eq_some]
            exact ⟨hz, zzL_get hz⟩
          have hfresh : z ∉ (((os.zip (zzL ks os)).take i).map fun q => (q.1, V.str q.2)).map (·.1) := by
            rw [List.map_map]
            intro hin
            obtain ⟨q, hq, hqz⟩ := List.mem_map.mp hin
            obtain ⟨j, hj, hqj⟩ := List.getElem_of_mem hq
            have hj' : j < i := by
              rw [List.length_take] at hj
              omega
            rw [List.getElem_take] at hqj
            have h2 : (os.zip (zzL ks os))[j]? = some q := by rw [← hqj]; exact List.getElem?_eq_getElem _
            rw [List.getElem?_zip_eq_some] at h2
            have hqz' : q.1 = z := hqz
            rw [hqz'] at h2
            have := nd_get k2.nd h2.1 hz
            omega
          refine ⟨_, rfl, _, rfl, nm, _, rfl, DPut.k (k := Sum.inr z) hnm5 ?_, ?_⟩
          · unfold dkv
            rw [List.length_map, List.length_map, List.length_take, List.length_zip]
            exact Nat.lt_of_le_of_lt (show min i (min os.length (zzL ks os).length) ≤ 8 by omega) (by decide)
          · rw [put_dkv hfresh]
            refine ⟨_, _, rfl, same_mut (same_trans sm s5) nnm0, upd_at (s5 _ _ hkn4) hknm, ?_⟩
            rw [take_snoc hgi, List.map_append]
            exact upd_same
      · rintro σ H4 ⟨v3, v5, rfl, sm, hkn4, hnm4⟩
        rw [List.length_map] at hnm4
        have e : (os.zip (zzL ks os)).take os.length = os.zip (zzL ks os) := List.take_of_length_le (by rw [List.length_zip]; omega)
        rw [e] at hnm4
        exact hn _ _ ⟨v3, v5, rfl, sm, hnm4⟩
    rintro σ H4 ⟨v3, v5, rfl, s4, hnm4⟩
    have get4 : ∀ (x : Str) (i : Nat), os[i]? = some x → valV (dkv ((os.zip (zzL ks os)).map fun q => (q.1, V.str q.2))) (Sum.inr x : Key) = some (.str (zzG ks x i)) := fun x i h => by
      rw [valV_dkv]
      refine lookup_mem_nd ?_ (List.mem_map.mpr ⟨(x, zzG ks x i), List.mem_of_getElem? (i := i) ?_, rfl⟩)
      · rw [List.map_map]
        show ((os.zip (zzL ks os)).map (·.1)).Nodup
        rw [zip_keys (zzL_len ks os).symm]
        exact k2.nd
      · rw [List.getElem?_zip_eq_some]
        exact ⟨h, zzL_get h⟩
    have getF : ∀ x ∈ os, valV (dkv ((os.zip (zzL ks os)).map fun q => (q.1, V.str q.2))) (Sum.inr x : Key) = some (.str (zzF ks os x)) := fun x hx => by
      obtain ⟨i, hi, rfl⟩ := List.getElem_of_mem hx
      rw [get4 _ i (List.getElem?_eq_getElem hi), zzF_at k2.nd (List.getElem?_eq_getElem hi)]
    refine ⟨_, rfl, p2, _, 1, _, rfl, rfl, SqT.of (s4 _ _ hp2), rfl, u2, rfl, ⟨_, SqL.of (s4 _ _ hu2)⟩, fun D2 nD2 => ?_⟩
    have lu2 : us2.length = ts2.length := by rw [ru2.len, List.length_map]
    have lu1 : us1.length = ts1.length := by rw [ru1.len, List.length_map]
    refine lc_it (walk_list (xs := us2)) (fun i H5 => Same H4 H5 ∧ ∃ us, H5 D2 = some (.lst us) ∧ RepL K (fun c => H4 c = none ∧ c ≠ D2) H5 (((ts2.take i).map fun t => mkT (zzF ks os t.1) (zzF ks os t.2.1) t.2.2).map dTie) us)
      ⟨same_new nD2, [], upd_same, RepL.nil⟩ (fun i H5 _ ⟨sm, _⟩ => SqL.of (sm _ _ (s4 _ _ hu2))) ?_ ?_
    · rintro i x H5 H6 hi ⟨sm, us, hD, hru⟩ ⟨rfl, hx⟩
      obtain ⟨d, hd, hrep⟩ := (ru2.same (same_trans s4 sm)).get hx
      obtain ⟨t, hti, rfl⟩ := map_get hd
      obtain ⟨q, rfl, hq, hqo⟩ := rep_tie.mp hrep
      have hm := k2.ties.mem t (List.mem_of_getElem? hti)
      have hnm5 := sm _ _ hnm4
      refine ⟨q, _, rfl, SqT.of hqo, rfl, _, _, rfl, _, _, rfl, _, _, rfl, rfl, rfl, yesT ?_⟩
      refine ⟨_, rfl, _, rfl, nm, _, rfl, by rw [← getF t.1 hm.1]; exact DGet.k (k := Sum.inr t.1) hnm5, _, rfl, _, rfl, nm, _, rfl, by rw [← getF t.2.1 hm.2.1]; exact DGet.k (k := Sum.inr t.2.1) hnm5, _, rfl, _, _, _, rfl, fun r nr => ?_⟩
      have hDr : D2 ≠ r := ne_of_none hD nr
      refine ⟨us, upd_at hD hDr, ?_, same_mut (same_trans sm (same_new nr)) nD2, us ++ [.ref r], upd_same, ?_⟩
      · rw [hru.len, List.length_map, List.length_map, List.length_take]
        exact Nat.lt_of_le_of_lt (show min i ts2.length ≤ 200 by omega) (by decide)
      · rw [take_snoc hti, List.map_append]
        exact tl_add (t := mkT (zzF ks os t.1) (zzF ks os t.2.1) t.2.2) hD hru nr (same_back sm nr)
    rintro H5 ⟨s5, us, hD2, hru5⟩
    rw [lu2, List.take_length] at hru5
    have s05 := same_trans s4 s5
    have lus : us.length = ts2.length := by rw [hru5.len, List.length_map, List.length_map]
    refine ⟨_, rfl, p1, _, 0, _, rfl, rfl, SqT.of (s05 _ _ hp1), rfl, _, rfl, p2, _, 0, _, rfl, rfl, SqT.of (s05 _ _ hp2), rfl, q2, rfl, ⟨_, SqL.of (s05 _ _ hq2)⟩, fun D3 nD3 => ?_⟩
    refine lc_it (walk_list (xs := os.map V.str)) (PvP D3 H5 fun i => ((zzL ks os).take i).map V.str) (pv_zero nD3 rfl) (fun i H6 _ h => SqL.of (h.1 _ _ (s05 _ _ hq2))) ?_ ?_
    · rintro i x H6 H7 hi hP ⟨rfl, hx⟩
      obtain ⟨z, hz, rfl⟩ := map_get hx
      refine ⟨rfl, yesT ?_⟩
      refine ⟨_, rfl, _, rfl, nm, _, rfl, by rw [← get4 z i hz]; exact DGet.k (k := Sum.inr z) (hP.1 _ _ (s5 _ _ hnm4)), ?_⟩
      refine pv_add hP (same_refl _) ?_ ?_ nD3
      · show ((zzL ks os).take (i + 1)).map V.str = _
        rw [take_snoc (zzL_get hz), List.map_append]
        rfl
      · show (((zzL ks os).take i).map V.str).length < sizeLine
        rw [List.length_map, List.length_take]
        exact Nat.lt_of_le_of_lt (show min i (zzL ks os).length ≤ 8 by omega) (by decide)
    rintro H6 ⟨s6, hD3⟩
    dsimp only at hD3
    rw [List.length_map, ← zzL_len ks os, List.take_length] at hD3
    have s06 := same_trans s05 s6
    refine ⟨q1, D3, _, _, rfl, rfl, s06 _ _ hq1, hD3, ?_, fun nl n_nl => ?_⟩
    · rw [List.length_map, List.length_map]
      exact Nat.le_trans (show ks.length + (zzL ks os).length ≤ 16 by omega) (by decide)
    rw [← List.map_append]
    have s7 : Same H6 (upd H6 nl (.lst ((ks ++ zzL ks os).map V.str))) := same_new n_nl
    have e7 : upd H6 nl (.lst ((ks ++ zzL ks os).map V.str)) nl = _ := upd_same
    generalize upd H6 nl (.lst ((ks ++ zzL ks os).map V.str)) = H7 at s7 e7 ⊢
    have s07 := same_trans s06 s7
    refine ⟨_, rfl, p1, _, 1, _, rfl, rfl, SqT.of (s07 _ _ hp1), rfl, _, rfl, u1, D2, us1, us, rfl, rfl, s07 _ _ hu1, s7 _ _ (s6 _ _ hD2), ?_, fun al n_al => ?_⟩
    · rw [lu1, lus]
      exact Nat.le_trans (show ts1.length + ts2.length ≤ 400 by omega) (by decide)
    have s8 : Same H7 (upd H7 al (.lst (us1 ++ us))) := same_new n_al
    have e8 : upd H7 al (.lst (us1 ++ us)) al = _ := upd_same
    generalize upd H7 al (.lst (us1 ++ us)) = H8 at s8 e8 ⊢
    have s08 := same_trans s07 s8
    have hall : RepL K (fun c => N c ∨ H c = none) H8 ((ts1 ++ ts2.map fun t => mkT (zzF ks os t.1) (zzF ks os t.2.1) t.2.2).map dTie) (us1 ++ us) := by
      rw [List.map_append]
      exact RepL.app ((ru1.same s08).wk fun _ h => .inl h) ((hru5.same (same_trans s6 (same_trans s7 s8))).wk fun c hc => .inr (same_back s4 hc.1))
    unfold tNil
    refine sort_rep tk [true, false] (fun _ _ => rfl) e8 hall fun ys ws t pm pw rws nt => ⟨by show 2 ≤ sizeLine; decide, fun r nr => ?_⟩
    have s9 : Same H8 _ := same_trans (same_new (o := .lst ws) nt) (same_new (o := .tup [V.ref nl, V.ref t]) nr)
    have htr : t ≠ r := ne_of_none upd_same nr
    have hT := (bes_ok k1 k2 hk ho lo).perm pm
    have hlen : ys.length ≤ 1000 := by
      rw [pm.length_eq, List.length_append, List.length_map]
      omega
    refine k _ _ (ks ++ zzL ks os) ys (rep_raw.mpr ⟨r, _, _, rfl, .inr (same_back (same_trans s08 (same_new nt)) nr), upd_same, rep_strs.mpr ⟨nl, rfl, .inr (same_back s06 n_nl), s9 _ _ (s8 _ _ e7)⟩, t, ws, rfl, .inr (same_back s08 nt), upd_at upd_same htr, ?_⟩) ⟨?_, ?_, ?_, hT, pw, hlen⟩ ?_ (same_trans s08 s9)
    · exact rws.same s9
    · rw [List.nodup_append]
      refine ⟨k1.nd, zzL_nd hk ho lo k2.nd, fun x hx y hy e => ?_⟩
      subst e
      obtain ⟨i, hi, e⟩ := List.getElem_of_mem hy
      obtain ⟨z, h1, e1⟩ := zzL_get' (List.getElem?_eq_getElem hi)
      rw [e] at e1
      exact zzG_out hk ho lo h1 (e1 ▸ hx)
    · intro x hx
      rcases List.mem_append.mp hx with hx | hx
      · exact k1.gd x hx
      · obtain ⟨i, hi, e⟩ := List.getElem_of_mem hx
        obtain ⟨z, h1, e1⟩ := zzL_get' (List.getElem?_eq_getElem hi)
        rw [e] at e1
        rw [e1]
        exact zzG_gd hk ho lo h1
    · rw [List.length_append, lzz]
      omega
    · rw [List.length_append, lzz]
end
end Pw
set_option Elab.async false
set_option linter.all false
set_option maxRecDepth 100000
set_option maxHeartbeats 4000000
/-! Pools: what stands while they are made. -/
namespace Pw
open PySem PySem.Spec PyProof.Rows L2
section
variable {X : Cx} {K : PySem.W.Frag}
theorem k_lst {es : List Expr} {k : Nat} {t : TGs} {n : Nat} {pos : Pos} (hc : X.calm = true) (h : PGs X es t)
    (hn : (assignEach es X.env).length = n := by rfl) (hst : (assignEach es X.env).findIdx? (·.1) = none := by rfl) (e : X.K = K := by rfl) : PG X (.Tuple es k pos) (gLst K n t) := by subst e; exact pg_lst hc h hn hst
end
theorem next_i {D : Ends} {σ : L2.St} {H : Hp} (h : D.nx σ H) : tNext D σ H := h
/-- the places met, each with its height -/
abbrev Th := List (Str × Int)
def thF (th : Th) : List (Key × V) := dkv (th.map fun q => (q.1, V.bl true))
def thT (th : Th) : List (Key × V) := dkv (th.map fun q => (q.1, V.int q.2))
theorem thF_keys (th : Th) : (th.map fun q => (q.1, V.bl true)).map (·.1) = th.map (·.1) := by rw [List.map_map]; rfl
theorem thT_keys (th : Th) : (th.map fun q => (q.1, V.int q.2)).map (·.1) = th.map (·.1) := by rw [List.map_map]; rfl
theorem thF_put {th : Th} {x : Str} {h : Int} (hx : x ∉ th.map (·.1)) : putK (thF th) (Sum.inr x) (.bl true) = thF (th ++ [(x, h)]) := by
  unfold thF
  rw [put_dkv (by rw [thF_keys]; exact hx), List.map_append]
  rfl
theorem thT_put {th : Th} {x : Str} {h : Int} (hx : x ∉ th.map (·.1)) : putK (thT th) (Sum.inr x) (.int h) = thT (th ++ [(x, h)]) := by
  unfold thT
  rw [put_dkv (by rw [thT_keys]; exact hx), List.map_append]
  rfl
theorem thF_is (th : Th) (x : Str) : (valV (thF th) (Sum.inr x : Key)).isSome = decide (x ∈ th.map (·.1)) := by
  unfold thF
  rw [valV_dkv]
  by_cases e : x ∈ th.map (·.1)
  · obtain ⟨q, hq, rfl⟩ := List.mem_map.mp e
    rw [decide_eq_true e]
    have : ∀ l : List (Str × V), q.1 ∈ l.map (·.1) → (l.lookup q.1).isSome = true := by
      intro l
      induction l with
      | nil => intro h; cases h
      | cons p l ih =>
        intro h
        obtain ⟨j, u⟩ := p
        show (match q.1 == j with | true => some u | false => l.lookup q.1).isSome = true
        by_cases e : q.1 = j
        · rw [beq_iff_eq.mpr e]
          rfl
        · have e2 : (q.1 == j) = false := by simpa using e
          rw [e2]
          refine ih ?_
          rw [List.map_cons, List.mem_cons] at h
          rcases h with h | h
          · exact absurd h e
          · exact h
    exact this _ (by rw [thF_keys]; exact e)
  · rw [lookup_none (by rw [thF_keys]; exact e), decide_eq_false e]
    rfl
theorem thT_get {th : Th} (hn : (th.map (·.1)).Nodup) {q : Str × Int} (h : q ∈ th) : valV (thT th) (Sum.inr q.1 : Key) = some (.int q.2) := by
  unfold thT
  rw [valV_dkv]
  exact lookup_mem_nd (by rw [thT_keys]; exact hn) (List.mem_map.mpr ⟨q, h, rfl⟩)
structure PoolI (K : PySem.W.Frag) (a b : Addr) (H0 : Hp) (ns : List Str) (p l f t : Addr) (B : Int) (n : Nat) (fs : List Str) (th : Th) (ts : List Tie) (H : Hp) : Prop where
  kp : Kp a b H0 H
  st : Strm a b n H
  hp : H p = some (.lst (ns.map V.str))
  hl : ∃ us, H l = some (.lst us) ∧ RepL K (fun c => H0 c = none ∧ c ≠ l) H (ts.map dTie) us
  hf : H f = some (.dK (thF th))
  ht : H t = some (.dK (thT th))
  nd : (th.map (·.1)).Nodup
  mem : ∀ q ∈ th, q.1 ∈ ns ∧ 0 ≤ q.2 ∧ q.2 ≤ B
  tok : TiesOk ns 100 ts
  tin : ∀ s ∈ ts, s.1 ∈ fs ∧ s.2.1 ∈ fs
/-- where they stand -/
structure PoolA (a b : Addr) (H0 : Hp) (p l f t : Addr) : Prop where
  s0 : ∃ n, Strm a b n H0
  np : H0 p = none
  nl : H0 l = none
  nf : H0 f = none
  nt : H0 t = none
  pl : p ≠ l
  pf : p ≠ f
  pt : p ≠ t
  lf : l ≠ f
  lt : l ≠ t
  ft : f ≠ t
section
variable {K : PySem.W.Frag} {a b : Addr} {H0 H H' : Hp} {ns : List Str} {p l f t : Addr} {B : Int} {n n' : Nat} {fs : List Str} {th : Th} {ts : List Tie}
theorem PoolA.off (A : PoolA a b H0 p l f t) {c : Addr} (h : H0 c = none) : c ≠ a ∧ c ≠ b := let ⟨_, S⟩ := A.s0; S.off h
theorem PoolI.move (A : PoolA a b H0 p l f t) (h : PoolI K a b H0 ns p l f t B n fs th ts H) (kp : Kp a b H H') (S : Strm a b n' H') : PoolI K a b H0 ns p l f t B n' fs th ts H' := by
  obtain ⟨us, h1, h2⟩ := h.hl
  have mv : ∀ {c : Addr} {o : HO}, H0 c = none → H c = some o → H' c = some o := fun h0 hc => kp _ _ hc (A.off h0).1 (A.off h0).2
  exact ⟨h.kp.trans kp, S, mv A.np h.hp, ⟨us, mv A.nl h1, h2.kp kp fun c hc => A.off hc.1⟩, mv A.nf h.hf, mv A.nt h.ht, h.nd, h.mem, h.tok, h.tin⟩
theorem PoolI.same (A : PoolA a b H0 p l f t) (h : PoolI K a b H0 ns p l f t B n fs th ts H) (s : Same H H') : PoolI K a b H0 ns p l f t B n fs th ts H' := h.move A (.of s) (h.st.same s)
theorem PoolI.le (h : PoolI K a b H0 ns p l f t B n fs th ts H) (hn : n' ≤ n) : PoolI K a b H0 ns p l f t B n' fs th ts H := ⟨h.kp, h.st.le hn, h.hp, h.hl, h.hf, h.ht, h.nd, h.mem, h.tok, h.tin⟩
theorem PoolI.wide {C : Int} (h : PoolI K a b H0 ns p l f t B n fs th ts H) (hB : B ≤ C) : PoolI K a b H0 ns p l f t C n fs th ts H :=
  ⟨h.kp, h.st, h.hp, h.hl, h.hf, h.ht, h.nd, fun q hq => by obtain ⟨x, y, z⟩ := h.mem q hq; exact ⟨x, y, by omega⟩, h.tok, h.tin⟩
/-- a place is met -/
theorem PoolI.put (A : PoolA a b H0 p l f t) (h : PoolI K a b H0 ns p l f t B n fs th ts H) {x : Str} {z : Int} (hx : x ∉ th.map (·.1)) (hn : x ∈ ns) (h1 : 0 ≤ z) (h2 : z ≤ B) :
    PoolI K a b H0 ns p l f t B n fs (th ++ [(x, z)]) ts (upd (upd H f (.dK (putK (thF th) (Sum.inr x) (.bl true)))) t (.dK (putK (thT th) (Sum.inr x) (.int z)))) := by
  obtain ⟨us, l1, l2⟩ := h.hl
  rw [thF_put (h := z) hx, thT_put hx]
  have oa := A.off A.nf
  have ob := A.off A.nt
  refine ⟨kp_mut (kp_mut h.kp A.nf) A.nt, ?_, upd_at (upd_at h.hp A.pf) A.pt, ⟨us, upd_at (upd_at l1 A.lf) A.lt, ?_⟩, upd_at upd_same A.ft, upd_same, ?_, ?_, h.tok, h.tin⟩
  · exact (h.st.at_ (upd_ne oa.1.symm) (upd_ne oa.2.symm)).at_ (upd_ne ob.1.symm) (upd_ne ob.2.symm)
  · refine RepL.step (N := fun c => ((H0 c = none ∧ c ≠ l) ∧ c ≠ f) ∧ c ≠ t) (fun _ h => h.1.1) (fun c o hc ho => upd_at (upd_at ho hc.1.2) hc.2) _ _ ?_
    exact repL_tie_off (repL_tie_off l2 h.hf (by intro xs z; cases z)) h.ht (by intro xs z; cases z)
  · rw [List.map_append]
    exact nodup_snoc h.nd hx
  · intro q hq
    rcases List.mem_append.mp hq with hq | hq
    · exact h.mem q hq
    · rw [List.mem_singleton] at hq
      subst hq
      exact ⟨hn, h1, h2⟩
theorem PoolI.more {gs : List Str} (h : PoolI K a b H0 ns p l f t B n fs th ts H) (hg : ∀ x ∈ fs, x ∈ gs) : PoolI K a b H0 ns p l f t B n gs th ts H :=
  ⟨h.kp, h.st, h.hp, h.hl, h.hf, h.ht, h.nd, h.mem, h.tok, fun s hs => ⟨hg _ (h.tin s hs).1, hg _ (h.tin s hs).2⟩⟩
/-- a tie is added -/
theorem PoolI.tie (A : PoolA a b H0 p l f t) (h : PoolI K a b H0 ns p l f t B n fs th ts H) {us : List V} (l1 : H l = some (.lst us)) (l2 : RepL K (fun c => H0 c = none ∧ c ≠ l) H (ts.map dTie) us) {r : Addr} {x y : Str} {z : Int} (nr : H r = none)
    (hx : x ∈ fs) (hy : y ∈ fs) (nx : x ∈ ns) (ny : y ∈ ns) (ne : x ≠ y) (h0 : 0 ≤ z) (h1 : z ≤ 100) (hn : pr x y ∉ ts.map pa2) :
    PoolI K a b H0 ns p l f t B n fs th (ts ++ [mkT x y z]) (upd (upd H r (.tup [.str (minS x y), .str (maxS x y), .int z])) l (.lst (us ++ [.ref r]))) := by
  have ol := A.off A.nl
  have nr0 : H0 r = none := h.kp.back h.st nr
  refine ⟨kp_mut (h.kp.trans (kp_new nr)) A.nl, (h.st.new nr).at_ (upd_ne ol.1.symm) (upd_ne ol.2.symm), upd_at (upd_at h.hp (ne_of_none h.hp nr)) A.pl, ⟨_, upd_same, tl_add (t := mkT x y z) l1 l2 nr nr0⟩, upd_at (upd_at h.hf (ne_of_none h.hf nr)) A.lf.symm, upd_at (upd_at h.ht (ne_of_none h.ht nr)) A.lt.symm, h.nd, h.mem, h.tok.snoc nx ny ne (by omega) h1 hn, fun s hs => ?_⟩
  rcases List.mem_append.mp hs with hs | hs
  · exact h.tin s hs
  · rw [List.mem_singleton] at hs
    subst hs
    exact pr_mem hx hy
/-- ties are put behind, at once -/
theorem PoolI.ext (A : PoolA a b H0 p l f t) (h : PoolI K a b H0 ns p l f t B n fs th ts H) {us vs : List V} {qs : List Tie} (l1 : H l = some (.lst us)) (l2 : RepL K (fun c => H0 c = none ∧ c ≠ l) H (ts.map dTie) us) (l3 : RepL K (fun c => H0 c = none ∧ c ≠ l) H (qs.map dTie) vs)
    (hq : TiesOk ns 100 (ts ++ qs)) (hin : ∀ s ∈ qs, s.1 ∈ fs ∧ s.2.1 ∈ fs) : PoolI K a b H0 ns p l f t B n fs th (ts ++ qs) (upd H l (.lst (us ++ vs))) := by
  have ol := A.off A.nl
  refine ⟨kp_mut h.kp A.nl, h.st.at_ (upd_ne ol.1.symm) (upd_ne ol.2.symm), upd_at h.hp A.pl, ⟨_, upd_same, ?_⟩, upd_at h.hf A.lf.symm, upd_at h.ht A.lt.symm, h.nd, h.mem, hq, fun s hs => ?_⟩
  · rw [List.map_append]
    exact (l2.app l3).mut fun h => h.2 rfl
  · rcases List.mem_append.mp hs with hs | hs
    · exact h.tin s hs
    · exact hin s hs
end
theorem TiesOk.ahead {ns : List Str} {nm : Str} {z : Int} (hm : nm ∈ ns) (h0 : 0 ≤ z) (h1 : z ≤ 100) : ∀ (ah : List Str) (ts : List Tie), TiesOk ns 100 ts → ah.Nodup → (∀ x ∈ ah, x ∈ ns ∧ x ≠ nm) → (∀ x ∈ ah, pr x nm ∉ ts.map pa2) → TiesOk ns 100 (ts ++ ah.map fun x => mkT x nm z)
  | [], ts, T, _, _, _ => by
    rw [List.map_nil, List.append_nil]
    exact T
  | x :: ah, ts, T, hn, hin, hp => by
    have hn' := List.nodup_cons.mp hn
    have hx := hin x List.mem_cons_self
    have ih := TiesOk.ahead hm h0 h1 ah (ts ++ [mkT x nm z]) (T.snoc hx.1 hm hx.2 (by omega) h1 (hp x List.mem_cons_self)) hn'.2 (fun y hy => hin y (List.mem_cons_of_mem _ hy)) (fun y hy hpy => by
      rw [List.map_append] at hpy
      rcases List.mem_append.mp hpy with h | h
      · exact hp y (List.mem_cons_of_mem _ hy) h
      · have h2 : pr y nm = pr x nm := by simpa [pa2_mk] using h
        rcases pr_inj h2 with ⟨e, _⟩ | ⟨e, _⟩
        · exact hn'.1 (by rw [← e]; exact hy)
        · exact (hin y (List.mem_cons_of_mem _ hy)).2 e)
    rw [List.append_assoc] at ih
    exact ih
theorem thF_names (th : Th) : (thF th).map (fun kv => kV kv.1) = (th.map (·.1)).map V.str := by
  unfold thF dkv
  rw [List.map_map, List.map_map, List.map_map]
  rfl
def hgt (th : Th) (x : Str) : Int := (th.lookup x).getD 0
theorem thT_look {th : Th} (hn : (th.map (·.1)).Nodup) {x : Str} (hx : x ∈ th.map (·.1)) : valV (thT th) (Sum.inr x : Key) = some (.int (hgt th x)) ∧ (x, hgt th x) ∈ th := by
  obtain ⟨q, hq, rfl⟩ := List.mem_map.mp hx
  have e : hgt th q.1 = q.2 := by
    unfold hgt
    rw [lookup_mem_nd hn (show (q.1, q.2) ∈ th from hq)]
    rfl
  rw [e]
  exact ⟨thT_get hn hq, hq⟩
theorem PoolI.mutT {K : PySem.W.Frag} {a b : Addr} {H0 H : Hp} {ns : List Str} {p l f t : Addr} {B : Int} {n : Nat} {fs : List Str} {th : Th} {ts : List Tie} (A : PoolA a b H0 p l f t) (h : PoolI K a b H0 ns p l f t B n fs th ts H) {d : Addr} {kvs : List (List Key × V)} {o : HO} (hd : H d = some (.dT kvs)) (hd0 : H0 d = none)
    (hf : d ≠ f) (ht : d ≠ t) : PoolI K a b H0 ns p l f t B n fs th ts (upd H d o) := by
  obtain ⟨us, l1, l2⟩ := h.hl
  have od := A.off hd0
  have e1 : p ≠ d := ne_of h.hp hd (by intro z; cases z)
  have e2 : l ≠ d := ne_of l1 hd (by intro z; cases z)
  refine ⟨kp_mut h.kp hd0, h.st.at_ (upd_ne od.1.symm) (upd_ne od.2.symm), upd_at h.hp e1, ⟨us, upd_at l1 e2, ?_⟩, upd_at h.hf hf.symm, upd_at h.ht ht.symm, h.nd, h.mem, h.tok, h.tin⟩
  exact RepL.step (N := fun c => (H0 c = none ∧ c ≠ l) ∧ c ≠ d) (fun _ h => h.1) (fun c o hc ho => upd_at ho hc.2) _ _ (repL_tie_off l2 hd (by intro xs z; cases z))
def key2 (x y : Str) : List Key := [Sum.inr x, Sum.inr y]
theorem key2_inj {x y u v : Str} (h : key2 x y = key2 u v) : x = u ∧ y = v := by
  unfold key2 at h
  injection h with h1 h2
  injection h2 with h2 _
  exact ⟨Sum.inr.inj h1, Sum.inr.inj h2⟩
theorem key2_any {ts : List Tie} {x y : Str} {zs : List KP} (h : zs.map (fun z => z.2.2.1) = ts.map fun t => key2 t.1 t.2.1) : ((zs.map kpD).any fun q => decide (q.1 = key2 x y)) = decide ((x, y) ∈ ts.map pa2) := by
  have e : ((zs.map kpD).any fun q => decide (q.1 = key2 x y)) = ((ts.map fun t => key2 t.1 t.2.1).any fun k => decide (k = key2 x y)) := by
    rw [← h, List.any_map, List.any_map]
    rfl
  rw [e]
  by_cases m : (x, y) ∈ ts.map pa2
  · rw [decide_eq_true m, List.any_eq_true]
    obtain ⟨t, ht, e⟩ := List.mem_map.mp m
    refine ⟨key2 t.1 t.2.1, List.mem_map.mpr ⟨t, ht, rfl⟩, decide_eq_true ?_⟩
    have e1 : t.1 = x := congrArg Prod.fst e
    have e2 : t.2.1 = y := congrArg Prod.snd e
    rw [e1, e2]
  · rw [decide_eq_false m, List.any_eq_false]
    intro k hk
    obtain ⟨t, ht, rfl⟩ := List.mem_map.mp hk
    intro z
    obtain ⟨e1, e2⟩ := key2_inj (of_decide_eq_true z)
    exact m (List.mem_map.mpr ⟨t, ht, by rw [← e1, ← e2]; rfl⟩)
end Pw
set_option Elab.async false
set_option linter.all false
set_option maxRecDepth 100000
set_option maxHeartbeats 8000000
/-! The law's webs: pools. -/
namespace Pw
open PySem PySem.Spec PyProof.Rows L2
theorem nd_app_new {α : Type} {l m : List α} (hl : l.Nodup) (hm : m.Nodup) (h : ∀ x ∈ m, x ∉ l) : (l ++ m).Nodup := by
  rw [List.nodup_append]
  exact ⟨hl, hm, fun x hx y hy e => h y hy (e ▸ hx)⟩
theorem nodup_le {l m : List Str} (h : l.Nodup) (hs : ∀ x ∈ l, x ∈ m) : l.length ≤ m.length := by
  induction l generalizing m with
  | nil => exact Nat.zero_le _
  | cons x l ih =>
    have h' := List.nodup_cons.mp h
    have hx := hs x List.mem_cons_self
    have := ih (m := m.erase x) h'.2 fun y hy => (List.mem_erase_of_ne (fun e : y = x => h'.1 (by rw [← e]; exact hy))).mpr (hs y (List.mem_cons_of_mem _ hy))
    have e := List.length_erase_of_mem hx
    have : 0 < m.length := List.length_pos_of_mem hx
    rw [List.length_cons]
    omega
section
variable {P : Program} {w : World} {K : PySem.W.Frag} {mg : Str → Option Value} {base : Heap}
/-- the names that are not met, in their order -/
def rest (ns : List Str) (th : Th) : List Str := ns.filter fun x => !decide (x ∈ th.map (·.1))
def spPools (K : PySem.W.Frag) : Sp := fun vs H Q _ => ∃ (a b : Addr) (n many pools : Nat), vs = [.ref a, .int many, .int pools] ∧ Strm a b (n + 400) H ∧ 2 ≤ many ∧ many ≤ 8 ∧ 1 ≤ pools ∧ pools ≤ 8 ∧
  retRaw K a b n H Q fun ns ts => ns.length = many ∧ (∀ x ∈ ns, x ∈ pool) ∧ ts.length ≤ 200
theorem sc_law_a_pools : FnScope ["_law_stream", "_law_many", "_law_pools", "_law_names", "_law_ties", "_law_found", "_law_tall", "_law_k", "_law_size", "_law_lot", "_law_name", "_law_height", "_law_at", "_law_ahead", "_law_one", "_law_tied", "_law_other"] ["_law_stream", "_law_many", "_law_pools"] (defScope s_law_a_pools) := ⟨rfl, rfl, rfl, by decide +kernel, rfl, by decide +kernel, by decide +kernel⟩
theorem ok_pools (T : Tx K mg) : Ok P w K mg base CX0 4 "_law_a_pools" ["_law_stream", "_law_many", "_law_pools"] (spPools K) := by
  have G_draw : Ok P w K mg base CX0 1 _ _ _ := ok_draw T
  have G_mixed : Ok P w K mg base CX0 2 _ _ _ := ok_mixed T
  have G_a_names : Ok P w K mg base CX0 3 _ _ _ := ok_names T
  have G_a_tie : Ok P w K mg base CX0 1 _ _ _ := ok_tie T
  have G_a_scaled : Ok P w K mg base CX0 3 _ _ _ := ok_scaled T
  refine mkOk (d := d_law_a_pools) T 28 26 rfl rfl rfl rfl rfl (fun _ _ _ _ _ _ us hl => match us, hl with | [_, _, _], _ => rfl) sc_law_a_pools (fun vs H Q E h => ?_) (fun f cdv A outer s H vs Q E hr h => ?_)
  · obtain ⟨a, b, n, many, pools, rfl, _⟩ := h
    rfl
  · obtain ⟨a, b, n, many, pools, rfl, hS, hm2, hm, hp1, hp2, k⟩ := h
    have nd := sc_law_a_pools.nd
    have hu := hu_of hr
    have hu3 := Nat.lt_of_le_of_lt (Nat.add_le_add_left (by decide : 3 ≤ 64) _) hr.units
    refine ⟨_, (pss_cons (ps_asg (pe_tup (pa_cons (pe_ok G_a_names (hr.mono (by omega)) pass0 (pa_cons (pv 0) (pa_cons (pv 1) pa_nil))) (pa_cons (pe_lst pa_nil) (pa_cons pe_dnewK (pa_cons pe_dnewK pa_nil))))) (k_tup (K := K) (n := 4) rfl (pgs_cons (pg_name (i := 3) nd rfl (Or.inl rfl)) (pgs_cons (pg_name (i := 4) nd rfl (Or.inl rfl)) (pgs_cons (pg_name (i := 5) nd rfl (Or.inr rfl)) (pgs_cons (pg_name (i := 6) nd rfl (Or.inr rfl)) pgs_nil))))))
      (pss_cons (ps_for PassesOwn.never rfl (pi_range1 (by rfl) T.range (pa_cons (pv 2) pa_nil)) (pg_name (i := 7) nd rfl (Or.inl rfl))
      (pss_cons (ps_set (i := 8) nd rfl (Or.inl rfl) (pe_ifExp (pt_cmpR op_gt (pe_op op_sub (pe_callB (k_len (K := K)) (by rfl) T.len (by decide +kernel) (pa_cons (pv 3) pa_nil)) (pe_callB call_lenD (by rfl) T.len (by decide +kernel) (pa_cons (pv 5) pa_nil))) (pe_op op_mul pe_int (pe_op op_sub (pv 2) (pv 7))) (nomark _)) (pe_op op_add pe_int (pe_op op_fdiv (pe_ok G_draw (hr.mono (by omega)) pass0 (pa_cons (pv 0) (pa_cons pe_int pa_nil))) pe_int)) pe_int))
      (pss_cons (ps_set (i := 9) nd rfl (Or.inl rfl) (pe_slice (k_slL (K := K)) (pe_lc (own := [("_law_name", 10)]) (by rfl) nd (k_pl (K := K) (pv 3)) (blkOk_by (own := [("_law_name", 10)]) (N := ["_law_stream", "_law_many", "_law_pools", "_law_names", "_law_ties", "_law_found", "_law_tall", "_law_k", "_law_size", "_law_lot", "_law_name", "_law_height", "_law_at", "_law_ahead", "_law_one", "_law_tied", "_law_other"]) (sc := (defScope s_law_a_pools)) (by decide +kernel)) (fun _ _ _ _ _ => (pg_name (i := 10) nd rfl (by first | exact Or.inl rfl | exact Or.inr rfl))) (fun _ _ _ _ _ => (pts_one (pt_cmp (pc_dnotin hu (pv 10) (pv 5))))) (fun _ _ _ _ _ => (pv 10))) po_none (po_some (pv 8))))
      (pss_cons (ps_set (i := 11) nd rfl (Or.inr rfl) (pe_ok G_draw (hr.mono (by omega)) pass0 (pa_cons (pv 0) (pa_cons pe_int pa_nil))))
      (pss_one (ps_for PassesOwn.never rfl (k_enum (K := K) (by rfl) T.enumerate (pa_cons (pv 9) pa_nil)) (k_tup (K := K) (n := 2) rfl (pgs_cons (pg_name (i := 12) nd rfl (Or.inl rfl)) (pgs_cons (pg_name (i := 10) nd rfl (Or.inr rfl)) pgs_nil)))
      (pss_cons (ps_asg (pe_tup (pa_cons pe_bl (pa_cons (pv 11) pa_nil))) (k_tup (K := K) (n := 2) rfl (pgs_cons (pg_sub (pv 5) (pv 10) (set_dict hu)) (pgs_cons (pg_sub (pv 6) (pv 10) (set_dict hu)) pgs_nil))))
      (pss_one (ps_if (pt_cmpR op_gt (pv 12) pe_int (nomark _)) (pss_one (ps_expr (k_bm (K := K) PySem.F.plainAttrs_list PySem.F.slot_list_append PySem.F.type_list_append mt_append (pv 4) (pa_cons (pe_ok G_a_tie (hr.mono (by omega)) pass0 (pa_cons (pe_ix (k_ixL (K := K)) (pv 9) (pe_op op_sub (pv 12) pe_int) (fun _ _ => rfl)) (pa_cons (pv 10) (pa_cons (pv 11) pa_nil)))) pa_nil)))) pss_nil)))))))))
      (pss_cons (ps_for PassesOwn.never rfl (k_pl (K := K) (pe_lc (own := [("_law_name", 10)]) (by rfl) nd (k_pl (K := K) (pv 3)) (blkOk_by (own := [("_law_name", 10)]) (N := ["_law_stream", "_law_many", "_law_pools", "_law_names", "_law_ties", "_law_found", "_law_tall", "_law_k", "_law_size", "_law_lot", "_law_name", "_law_height", "_law_at", "_law_ahead", "_law_one", "_law_tied", "_law_other"]) (sc := (defScope s_law_a_pools)) (by decide +kernel)) (fun _ _ _ _ _ => (pg_name (i := 10) nd rfl (by first | exact Or.inl rfl | exact Or.inr rfl))) (fun _ _ _ _ _ => (pts_one (pt_cmp (pc_dnotin hu (pv 10) (pv 5))))) (fun _ _ _ _ _ => (pv 10)))) (pg_name (i := 10) nd rfl (Or.inr rfl))
      (pss_cons (ps_set (i := 13) nd rfl (Or.inl rfl) (pe_slice (k_slL (K := K)) (pe_ok G_mixed (hr.mono (by omega)) pass0 (pa_cons (pv 0) (pa_cons (pe_callTy (call_list_dK rfl) (by rfl) T.list (by decide +kernel) (pa_cons (pv 5) pa_nil)) pa_nil))) po_none (po_some (pe_op op_add pe_int (pe_ok G_draw (hr.mono (by omega)) pass0 (pa_cons (pv 0) (pa_cons pe_int pa_nil)))))))
      (pss_cons (ps_set (i := 11) nd rfl (Or.inr rfl) (pe_op op_add (pe_callB (k_max rfl (K := K)) (by rfl) T.max (by decide +kernel) (pa_cons (pe_op op_cat (pe_lc (own := [("_law_one", 14)]) (by rfl) nd (k_pl (K := K) (pv 13)) (blkOk_by (own := [("_law_one", 14)]) (N := ["_law_stream", "_law_many", "_law_pools", "_law_names", "_law_ties", "_law_found", "_law_tall", "_law_k", "_law_size", "_law_lot", "_law_name", "_law_height", "_law_at", "_law_ahead", "_law_one", "_law_tied", "_law_other"]) (sc := (defScope s_law_a_pools)) (by decide +kernel)) (fun _ _ _ _ _ => (pg_name (i := 14) nd rfl (by first | exact Or.inl rfl | exact Or.inr rfl))) (fun _ _ _ _ _ => pts_nil) (fun _ _ _ _ _ => (pe_dget hu (pv 6) (pv 14) (fun _ _ => rfl)))) (pe_lst (pa_cons pe_int pa_nil))) pa_nil)) (pe_ifExp (pt_cmpR op_gt (pe_ok G_draw (hr.mono (by omega)) pass0 (pa_cons (pv 0) (pa_cons pe_int pa_nil))) pe_int (nomark _)) pe_int pe_int)))
      (pss_cons (ps_expr (k_bm (K := K) PySem.F.plainAttrs_list PySem.F.slot_list_extend PySem.F.type_list_extend mt_extend (pv 4) (pa_cons (pe_lc (own := [("_law_one", 14)]) (by rfl) nd (k_pl (K := K) (pv 13)) (blkOk_by (own := [("_law_one", 14)]) (N := ["_law_stream", "_law_many", "_law_pools", "_law_names", "_law_ties", "_law_found", "_law_tall", "_law_k", "_law_size", "_law_lot", "_law_name", "_law_height", "_law_at", "_law_ahead", "_law_one", "_law_tied", "_law_other"]) (sc := (defScope s_law_a_pools)) (by decide +kernel)) (fun _ _ _ _ _ => (pg_name (i := 14) nd rfl (by first | exact Or.inl rfl | exact Or.inr rfl))) (fun _ _ _ _ _ => pts_nil) (fun _ _ _ _ _ => (pe_ok G_a_tie (hr.mono (by omega)) pass0 (pa_cons (pv 14) (pa_cons (pv 10) (pa_cons (pv 11) pa_nil)))))) pa_nil)))
      (pss_one (ps_asg (pe_tup (pa_cons pe_bl (pa_cons (pv 11) pa_nil))) (k_tup (K := K) (n := 2) rfl (pgs_cons (pg_sub (pv 5) (pv 10) (set_dict hu)) (pgs_cons (pg_sub (pv 6) (pv 10) (set_dict hu)) pgs_nil)))))))))
      (pss_cons (ps_set (i := 15) nd rfl (Or.inl rfl) (pe_callTy (call_dictT rfl hu3) (by rfl) T.dict (by decide +kernel) (pa_cons (pe_lc (own := [("_law_one", 14), ("_law_other", 16), ("_law_height", 11)]) (by rfl) nd (k_pl (K := K) (pv 4)) (blkOk_by (own := [("_law_one", 14), ("_law_other", 16), ("_law_height", 11)]) (N := ["_law_stream", "_law_many", "_law_pools", "_law_names", "_law_ties", "_law_found", "_law_tall", "_law_k", "_law_size", "_law_lot", "_law_name", "_law_height", "_law_at", "_law_ahead", "_law_one", "_law_tied", "_law_other"]) (sc := (defScope s_law_a_pools)) (by decide +kernel)) (fun _ _ _ _ _ => (k_tup (K := K) (n := 3) rfl (pgs_cons (pg_name (i := 14) nd rfl (by first | exact Or.inl rfl | exact Or.inr rfl)) (pgs_cons (pg_name (i := 16) nd rfl (by first | exact Or.inl rfl | exact Or.inr rfl)) (pgs_cons (pg_name (i := 11) nd rfl (by first | exact Or.inl rfl | exact Or.inr rfl)) pgs_nil))))) (fun _ _ _ _ _ => pts_nil) (fun _ _ _ _ _ => (pe_tup (pa_cons (pe_tup (pa_cons (pv 14) (pa_cons (pv 16) pa_nil))) (pa_cons pe_bl pa_nil))))) pa_nil)))
      (pss_cons (ps_for PassesOwn.never rfl (pi_range1 (by rfl) T.range (pa_cons (pe_ok G_draw (hr.mono (by omega)) pass0 (pa_cons (pv 0) (pa_cons (pe_op op_add pe_int (pe_op op_fdiv (pv 1) pe_int)) pa_nil))) pa_nil)) (pg_name (i := 7) nd rfl (Or.inl rfl))
      (pss_cons (ps_asg (pe_ifExp (pt_cmpR op_gt (pv 1) pe_int (nomark _)) (pe_slice (k_slL (K := K)) (pe_ok G_mixed (hr.mono (by omega)) pass0 (pa_cons (pv 0) (pa_cons (pv 3) pa_nil))) po_none (po_some pe_int)) (pe_tup (pa_cons pe_str (pa_cons pe_str pa_nil)))) (k_lst (K := K) (n := 2) rfl (pgs_cons (pg_name (i := 14) nd rfl (Or.inl rfl)) (pgs_cons (pg_name (i := 16) nd rfl (Or.inl rfl)) pgs_nil))))
      (pss_one (ps_if (PW.pt (pw_and (pt_cmpR op_gt (pv 1) pe_int (nomark _)) (pw_and1 (pt_cmp (pc_dnotin hu (pe_tup (pa_cons (pe_callB (call_minS rfl) (by rfl) T.min (by decide +kernel) (pa_cons (pv 14) (pa_cons (pv 16) pa_nil))) (pa_cons (pe_callB (call_maxS rfl) (by rfl) T.max (by decide +kernel) (pa_cons (pv 14) (pa_cons (pv 16) pa_nil))) pa_nil))) (pv 15)))))) (pss_cons (ps_dput hu (pv 15) (pe_tup (pa_cons (pe_callB (call_minS rfl) (by rfl) T.min (by decide +kernel) (pa_cons (pv 14) (pa_cons (pv 16) pa_nil))) (pa_cons (pe_callB (call_maxS rfl) (by rfl) T.max (by decide +kernel) (pa_cons (pv 14) (pa_cons (pv 16) pa_nil))) pa_nil))) pe_bl rfl)
      (pss_one (ps_expr (k_bm (K := K) PySem.F.plainAttrs_list PySem.F.slot_list_append PySem.F.type_list_append mt_append (pv 4) (pa_cons (pe_ok G_a_tie (hr.mono (by omega)) pass0 (pa_cons (pv 14) (pa_cons (pv 16) (pa_cons (pe_op op_add (pe_op op_add (pe_callB (call_max2 rfl) (by rfl) T.max (by decide +kernel) (pa_cons (pe_dget hu (pv 6) (pv 14) (fun _ _ => rfl)) (pa_cons (pe_dget hu (pv 6) (pv 16) (fun _ _ => rfl)) pa_nil))) pe_int) (pe_ok G_draw (hr.mono (by omega)) pass0 (pa_cons (pv 0) (pa_cons pe_int pa_nil)))) pa_nil)))) pa_nil))))) pss_nil))))
      (pss_one (ps_ret (pe_tup (pa_cons (pv 3) (pa_cons (pe_ok G_a_scaled (hr.mono (by omega)) pass0 (pa_cons (pv 0) (pa_cons (pv 4) pa_nil))) pa_nil)))))))))), ?_⟩
    refine ⟨_, rfl, _, rfl, a, b, n + 383, many, rfl, hS.le (by omega), by omega, fun H1 p ns np hp hlen hnd hall hpool kp1 S1 => ⟨by show 0 ≤ sizeLine; decide, ?_⟩⟩
    have hpool := hpool (by omega)
    intro l n_l
    have e_l : upd H1 l (.lst []) l = some (.lst []) := upd_same
    have s_l : Same H1 (upd H1 l (.lst [])) := same_new n_l
    generalize upd H1 l (.lst []) = H2 at e_l s_l ⊢
    refine fun f n_f => ?_
    have s_f : Same H2 (upd H2 f (.dK [])) := same_new n_f
    have e_f : upd H2 f (.dK []) f = some (.dK []) := upd_same
    generalize upd H2 f (.dK []) = H3 at s_f e_f ⊢
    refine fun t n_t => ?_
    have s_t : Same H3 (upd H3 t (.dK [])) := same_new n_t
    have e_t : upd H3 t (.dK []) t = some (.dK []) := upd_same
    generalize upd H3 t (.dK []) = H4 at s_t e_t ⊢
    refine ⟨by show 4 ≤ sizeLine; decide, ?_⟩
    intro tp n_tp
    have e_tp : upd H4 tp (.tup [.ref p, .ref l, .ref f, .ref t]) tp = some (.tup [.ref p, .ref l, .ref f, .ref t]) := upd_same
    have s_tp : Same H4 (upd H4 tp (.tup [.ref p, .ref l, .ref f, .ref t])) := same_new n_tp
    generalize upd H4 tp (.tup [.ref p, .ref l, .ref f, .ref t]) = H5 at e_tp s_tp ⊢
    have s14 : Same H1 H4 := same_trans s_l (same_trans s_f s_t)
    have A : PoolA a b H p l f t := by
      have hl2 := s_f _ _ e_l
      refine ⟨⟨_, hS⟩, np, kp1.back S1 n_l, kp1.back S1 (same_back s_l n_f), kp1.back S1 (same_back s_l (same_back s_f n_t)), ne_of_none hp n_l, ne_of_none (s_l _ _ hp) n_f, ne_of_none (s_f _ _ (s_l _ _ hp)) n_t, ne_of_none e_l n_f, ne_of_none hl2 n_t, ne_of_none e_f n_t⟩
    have s15 := same_trans s14 s_tp
    have I0 : PoolI K a b H ns p l f t 2 (n + 383) [] [] [] H5 := ⟨kp1.trans (.of s15), S1.same s15, s15 _ _ hp, ⟨[], s_tp _ _ (s_t _ _ (s_f _ _ e_l)), RepL.nil⟩, s_tp _ _ (s_t _ _ e_f), s_tp _ _ e_t, List.nodup_nil, fun q h => (nomatch h), TiesOk.nil, fun s h => (nomatch h)⟩
    refine ⟨tp, _, rfl, SqT.of e_tp, rfl, _, _, rfl, _, _, rfl, _, _, rfl, _, _, rfl, rfl, ?_⟩
    dsimp only
    -- phase 1: the pools
    refine viaS (t1 := tFor _ _ _) (fun σ H6 => ∃ (th : Th) (ts : List Tie) (v7 v8 v9 v10 v11 v12 : Option V), σ = [some (.ref a), some (.int many), some (.int pools), some (.ref p), some (.ref l), some (.ref f), some (.ref t), v7, v8, v9, v10, v11, v12, none, none, none, none] ∧
      PoolI K a b H ns p l f t 2 (n + 300) (th.map (·.1)) th ts H6 ∧ ts.length ≤ 8 * 8) (fun nx hn => ?_) ?_
    · refine ⟨_, rfl, _, rfl, by omega, by omega, ?_⟩
      rw [show ((pools : Int)).toNat = pools by omega]
      refine for_it walk_range (fun i σ H6 => ∃ (th : Th) (ts : List Tie) (v7 v8 v9 v10 v11 v12 : Option V), σ = [some (.ref a), some (.int many), some (.int pools), some (.ref p), some (.ref l), some (.ref f), some (.ref t), v7, v8, v9, v10, v11, v12, none, none, none, none] ∧
        PoolI K a b H ns p l f t 2 (n + 300 + 8 * (8 - i)) (th.map (·.1)) th ts H6 ∧ ts.length ≤ 8 * i)
        ⟨[], [], none, none, none, none, none, none, rfl, I0.le (by omega), Nat.le_refl _⟩ (fun _ _ _ _ _ => trivial) ?_ ?_
      · rintro i x σ H6 H7 hi ⟨th, ts, v7, v8, v9, v10, v11, v12, rfl, I6, hts⟩ ⟨rfl, rfl⟩
        refine gName_i ?_
        dsimp only
        -- size
        refine viaS (t1 := tAsg _ _) (fun σ H8 => ∃ (sz : Nat), σ = [some (.ref a), some (.int many), some (.int pools), some (.ref p), some (.ref l), some (.ref f), some (.ref t), some (.int ((0 : Int) + (i : Nat))), some (.int (sz : Nat)), v9, v10, v11, v12, none, none, none, none] ∧
          PoolI K a b H ns p l f t 2 (n + 300 + 8 * (8 - (i + 1)) + 6) (th.map (·.1)) th ts H8) (fun nx hn => ?_) ?_
        · refine ⟨_, rfl, p, _, rfl, .inl (SqL.of I6.hp), _, rfl, f, _, rfl, I6.hf, _, _, rfl, rfl, _, rfl, _, rfl, _, _, rfl, rfl, _, _, rfl, rfl, .inl ⟨by decide, by decide⟩, _, _, rfl, rfl, _, rfl, ?_⟩
          refine ite2 (fun _ => ?_) (fun _ => ?_)
          · refine ⟨_, rfl, a, b, n + 300 + 8 * (8 - (i + 1)) + 6, 6, rfl, I6.st.le (by omega), by decide, by decide, fun H8 d kp8 S8 d0 d1 => ⟨_, _, rfl, rfl, ⟨by decide, by decide⟩, _, _, rfl, rfl, ?_⟩⟩
            obtain ⟨d, rfl⟩ : ∃ j : Nat, d = j := ⟨d.toNat, by omega⟩
            refine hn _ _ ⟨2 + d / 5, ?_, I6.move A kp8 S8⟩
            rfl
          · exact hn _ _ ⟨1, rfl, I6.le (by omega)⟩
        rintro σ H8 ⟨sz, rfl, I8⟩
        -- lot
        refine viaS (t1 := tAsg _ _) (fun σ H9 => ∃ (q : Addr) (lot : List Str), σ = [some (.ref a), some (.int many), some (.int pools), some (.ref p), some (.ref l), some (.ref f), some (.ref t), some (.int ((0 : Int) + (i : Nat))), some (.int (sz : Nat)), some (.ref q), v10, v11, v12, none, none, none, none] ∧
          Same H8 H9 ∧ H8 q = none ∧ H9 q = some (.lst (lot.map V.str)) ∧ lot.Nodup ∧ lot.length ≤ 8 ∧ ∀ x ∈ lot, x ∈ ns ∧ x ∉ th.map (·.1)) (fun nx hn => ?_) ?_
        · refine ⟨_, rfl, p, rfl, ⟨_, SqL.of I8.hp⟩, fun D nD => ?_⟩
          refine lc_it (walk_list (xs := ns.map V.str)) (PvP D H8 fun j => ((ns.take j).filter fun x => !decide (x ∈ th.map (·.1))).map V.str) (pv_zero nD rfl) (fun j H9 _ h => SqL.of (h.1 _ _ I8.hp)) ?_ ?_
          · rintro j x H9 H10 hj hP ⟨rfl, hx⟩
            obtain ⟨z, hz, rfl⟩ := map_get hx
            refine ⟨rfl, ?_⟩
            refine ⟨_, rfl, _, rfl, f, _, rfl, DGet.k (k := Sum.inr z) (hP.1 _ _ I8.hf), _, rfl, ?_⟩
            rw [thF_is]
            refine ite2 (fun e => ?_) (fun e => ?_)
            · refine ⟨_, rfl, pv_add hP (same_refl _) ?_ ?_ nD⟩
              · show ((ns.take (j + 1)).filter fun x => !decide (x ∈ th.map (·.1))).map V.str = _
                rw [take_snoc hz, List.filter_append, List.map_append]
                simp only [List.filter_cons, List.filter_nil, e, if_true]
                rfl
              · show (((ns.take j).filter fun x => !decide (x ∈ th.map (·.1))).map V.str).length < sizeLine
                rw [List.length_map]
                exact Nat.lt_of_le_of_lt (Nat.le_trans (List.length_filter_le _ _) (List.length_take_le' _ _)) (Nat.lt_of_le_of_lt (show ns.length ≤ 8 by omega) (by decide))
            · refine ⟨hP.1, ?_⟩
              have e' : (!decide (z ∈ th.map (·.1))) = false := by
                cases h : (!decide (z ∈ th.map (·.1))) with
                | false => rfl
                | true => exact absurd h e
              have e2 : ((ns.take (j + 1)).filter fun x => !decide (x ∈ th.map (·.1))) = (ns.take j).filter fun x => !decide (x ∈ th.map (·.1)) := by
                rw [take_snoc hz, List.filter_append]
                simp only [List.filter_cons, List.filter_nil, e', Bool.false_eq_true, if_false, List.append_nil]
              show H10 D = some (.lst (((ns.take (j + 1)).filter fun x => !decide (x ∈ th.map (·.1))).map V.str))
              rw [e2]
              exact hP.2
          · rintro H9 ⟨s9, hD⟩
            have hD : H9 D = some (.lst ((rest ns th).map V.str)) := by
              have e3 := hD
              dsimp only at e3
              rw [List.length_map, List.take_length] at e3
              exact e3
            refine ⟨_, rfl, _, rfl, D, _, rfl, SqL.of hD, fun q nq => ?_⟩
            rw [cut_to, ← List.map_take]
            refine hn _ _ ⟨q, (rest ns th).take sz, rfl, same_trans s9 (same_new nq), same_back s9 nq, upd_same, ?_, ?_, fun x hx => ?_⟩
            · exact (List.Nodup.sublist (List.take_sublist _ _) (List.Nodup.sublist List.filter_sublist hnd))
            · exact Nat.le_trans (List.length_take_le' _ _) (Nat.le_trans (List.length_filter_le _ _) (by omega))
            · have := List.mem_filter.mp (List.mem_of_mem_take hx)
              refine ⟨this.1, ?_⟩
              simpa using this.2
        rintro σ H9 ⟨q, lot, rfl, s9, nq, hq, lnd, lln, lmem⟩
        have I9 := I8.same A s9
        have qoff := I8.st.off nq
        -- height
        refine ⟨_, rfl, a, b, n + 300 + 8 * (8 - (i + 1)) + 5, 3, rfl, I9.st.le (by omega), by decide, by decide, fun H10 z kp10 S10 z0 z1 => ?_⟩
        have I10 := I9.move A kp10 S10
        have hq10 := kp10 _ _ hq qoff.1 qoff.2
        have q0 : H q = none := I8.kp.back I8.st nq
        refine gName_i ?_
        dsimp only
        refine ⟨_, rfl, q, _, rfl, SqL.of hq10, for_it (walk_enum (xs := lot.map V.str)) (fun j σ H11 => ∃ (ts' : List Tie) (v10 v12 : Option V), σ = [some (.ref a), some (.int many), some (.int pools), some (.ref p), some (.ref l), some (.ref f), some (.ref t), some (.int ((0 : Int) + (i : Nat))), some (.int (sz : Nat)), some (.ref q), v10, some (.int z), v12, none, none, none, none] ∧
          PoolI K a b H ns p l f t 2 (n + 300 + 8 * (8 - (i + 1))) (th.map (·.1) ++ lot.take j) (th ++ (lot.take j).map fun x => (x, z)) ts' H11 ∧ H11 q = some (.lst (lot.map V.str)) ∧ ts'.length ≤ ts.length + j)
          ⟨ts, v10, v12, rfl, by rw [List.take_zero, List.map_nil, List.append_nil, List.append_nil]; exact I10.le (by omega), hq10, Nat.le_refl _⟩ ?_ ?_ ?_⟩
        · rintro j σ H11 _ ⟨_, _, _, _, _, h, _⟩
          exact SqL.of h
        · rintro j x σ H11 H12 hj ⟨ts', v10, v12, rfl, I11, hq11, lts⟩ ⟨r, x', y, rfl, nr, rfl, e1, e2⟩
          obtain rfl := Option.some.inj e1
          obtain ⟨nm, hnm, rfl⟩ := map_get e2
          rw [List.length_map] at hj
          have hkeys : (th ++ (lot.take j).map fun x => (x, z)).map (·.1) = th.map (·.1) ++ lot.take j := by
            rw [List.map_append, List.map_map]
            congr 1
            simp [Function.comp_def]
          have hnew : nm ∉ (th ++ (lot.take j).map fun x => (x, z)).map (·.1) := by
            rw [hkeys]
            intro hin
            rcases List.mem_append.mp hin with h | h
            · exact (lmem nm (List.mem_of_getElem? hnm)).2 h
            · obtain ⟨j', hj', e⟩ := List.getElem_of_mem h
              rw [List.getElem_take] at e
              rw [List.length_take] at hj'
              have := nd_get lnd (show lot[j']? = some nm by rw [← e]; exact List.getElem?_eq_getElem (by omega)) hnm
              omega
          have s12 : Same H11 _ := same_new (o := .tup [V.int (j : Nat), V.str nm]) nr
          have e12 : upd H11 r (.tup [V.int (j : Nat), V.str nm]) r = _ := upd_same
          generalize upd H11 r (.tup [V.int (j : Nat), V.str nm]) = H12 at s12 e12 ⊢
          have I12 := I11.same A s12
          have hq12 := s12 _ _ hq11
          refine ⟨r, _, rfl, SqT.of e12, rfl, _, _, rfl, _, _, rfl, rfl, ?_⟩
          dsimp only
          refine ⟨_, rfl, by show 2 ≤ sizeLine; decide, ?_⟩
          intro tq n_tq
          have e_tq : upd H12 tq (.tup [.bl true, .int z]) tq = some (.tup [.bl true, .int z]) := upd_same
          have s_tq : Same H12 (upd H12 tq (.tup [.bl true, .int z])) := same_new n_tq
          generalize upd H12 tq (.tup [.bl true, .int z]) = H13 at e_tq s_tq ⊢
          have I13 := I12.same A s_tq
          have hq13 := s_tq _ _ hq12
          have lfl : ∀ (g : Th), g.length ≤ 16 → (thF g).length < sizeLine := fun g hg => by
            unfold thF dkv
            rw [List.length_map, List.length_map]
            exact Nat.lt_of_le_of_lt hg (by decide)
          have ltl : ∀ (g : Th), g.length ≤ 16 → (thT g).length < sizeLine := fun g hg => by
            unfold thT dkv
            rw [List.length_map, List.length_map]
            exact Nat.lt_of_le_of_lt hg (by decide)
          have lth : (th ++ (lot.take j).map fun x => (x, z)).length ≤ 16 := by
            have h1 := nodup_le I13.nd (fun x hx => by
              obtain ⟨q', hq', rfl⟩ := List.mem_map.mp hx
              exact (I13.mem q' hq').1)
            rw [List.length_map] at h1
            omega
          refine ⟨tq, _, rfl, SqT.of e_tq, rfl, _, _, rfl, _, rfl, _, rfl, f, _, rfl, DPut.k (k := Sum.inr nm) I13.hf (lfl _ lth), _, _, rfl, _, rfl, _, rfl, t, _, rfl, DPut.k (k := Sum.inr nm) (upd_at I13.ht A.ft.symm) (ltl _ lth), rfl, ?_⟩
          have hin : nm ∈ ns := (lmem nm (List.mem_of_getElem? hnm)).1
          have I14 := I13.put A hnew hin z0 (show z ≤ 2 by omega)
          have hqf : q ≠ f := ne_of hq13 I13.hf (by intro z; cases z)
          have hqt : q ≠ t := ne_of hq13 I13.ht (by intro z; cases z)
          have hq14 : (upd (upd H13 f (.dK (putK (thF (th ++ (lot.take j).map fun x => (x, z))) (Sum.inr nm) (.bl true)))) t (.dK (putK (thT (th ++ (lot.take j).map fun x => (x, z))) (Sum.inr nm) (.int z)))) q = some (.lst (lot.map V.str)) := upd_at (upd_at hq13 hqf) hqt
          generalize upd (upd H13 f (.dK (putK (thF (th ++ (lot.take j).map fun x => (x, z))) (Sum.inr nm) (.bl true)))) t (.dK (putK (thT (th ++ (lot.take j).map fun x => (x, z))) (Sum.inr nm) (.int z))) = H14 at I14 hq14 ⊢
          have eth : (th ++ (lot.take j).map fun x => (x, z)) ++ [(nm, z)] = th ++ (lot.take (j + 1)).map fun x => (x, z) := by
            rw [take_snoc hnm, List.map_append, List.append_assoc]
            rfl
          rw [eth] at I14
          have efs : ∀ x ∈ th.map (·.1) ++ lot.take j, x ∈ th.map (·.1) ++ lot.take (j + 1) := fun x hx => by
            rw [take_snoc hnm, ← List.append_assoc]
            exact List.mem_append.mpr (.inl hx)
          dsimp only
          refine ⟨_, rfl, _, _, rfl, rfl, _, rfl, ?_⟩
          refine ite2 (fun e => ?_) (fun e => ?_)
          · have hj0 : 0 < j := by
              have := of_decide_eq_true e
              omega
            obtain ⟨us, l1, l2⟩ := I14.hl
            obtain ⟨pv', hpv⟩ : ∃ x, lot[j - 1]? = some x := ⟨lot[j - 1], List.getElem?_eq_getElem (by omega)⟩
            refine ⟨_, rfl, .inl ⟨rfl, _, SqL.of l1⟩, _, rfl, _, rfl, _, _, rfl, rfl, q, _, _, _, rfl, rfl, SqL.of hq14, atI_pred hj0 (by rw [List.getElem?_map, hpv]; rfl), _, rfl, _, rfl, _, _, _, rfl, fun w nw => ?_⟩
            have lus : us.length ≤ 1000 := by
              rw [l2.len, List.length_map]
              omega
            refine ⟨l, us, .ref w, rfl, rfl, upd_at l1 (ne_of_none l1 nw), Nat.lt_of_le_of_lt lus (by decide), ?_⟩
            have hne : pv' ≠ nm := fun e => by
              rw [e] at hpv
              have := nd_get lnd hpv hnm
              omega
            have hpin : pv' ∈ lot.take j := by
              refine List.mem_of_getElem? (i := j - 1) ?_
              rw [List.getElem?_take_of_lt (by omega)]
              exact hpv
            have hfresh : pr pv' nm ∉ ts'.map pa2 := fun hin' => by
              obtain ⟨s', hs', e'⟩ := List.mem_map.mp hin'
              have m := I11.tin s' hs'
              rw [hkeys] at hnew
              have e1 : s'.1 = (pr pv' nm).1 := congrArg Prod.fst e'
              have e2 : s'.2.1 = (pr pv' nm).2 := congrArg Prod.snd e'
              rcases pr_cases pv' nm with ⟨g, _⟩ | ⟨g, _⟩ <;> rw [g] at e1 e2
              · exact hnew (by have q1 : s'.2.1 = nm := e2; rw [← q1]; exact m.2)
              · exact hnew (by have q1 : s'.1 = nm := e1; rw [← q1]; exact m.1)
            have I15 := (I14.more efs).tie A l1 l2 (x := pv') (y := nm) (z := z) nw (by rw [take_snoc hnm]; exact List.mem_append.mpr (.inr (List.mem_append.mpr (.inl hpin)))) (by rw [take_snoc hnm]; exact List.mem_append.mpr (.inr (List.mem_append.mpr (.inr (List.mem_singleton.mpr rfl))))) (lmem pv' (List.mem_of_getElem? hpv)).1 hin hne z0 (by omega) hfresh
            have hql : q ≠ l := fun e => by
              rw [e] at nq
              obtain ⟨_, z1, _⟩ := I8.hl
              rw [z1] at nq
              cases nq
            refine ⟨ts' ++ [mkT pv' nm z], _, _, rfl, I15, upd_at (upd_at hq14 (ne_of_none hq14 nw)) hql, by rw [List.length_append]; show ts'.length + 1 ≤ _; omega⟩
          · exact ⟨ts', _, _, rfl, I14.more efs, hq14, by omega⟩
        · rintro σ H11 ⟨ts', v10, v12, rfl, I11, hq11, lts⟩
          rw [List.length_map, List.take_length] at I11
          rw [List.length_map] at lts
          refine ⟨th ++ lot.map fun x => (x, z), ts', _, _, _, _, _, _, rfl, I11.more (fun x hx => ?_), by omega⟩
          rw [List.map_append, List.map_map]
          simpa [Function.comp_def] using hx
      · rintro σ H6 ⟨th, ts, v7, v8, v9, v10, v11, v12, rfl, I6, hts⟩
        exact hn _ _ ⟨th, ts, v7, v8, v9, v10, v11, v12, rfl, I6.le (by omega), by omega⟩
    rintro σ H6 ⟨th, ts, v7, v8, v9, v10, v11, v12, rfl, I6, hts⟩
    -- phase 2: the names that are left
    refine viaS (t1 := tFor _ _ _) (fun σ H7 => ∃ (th : Th) (ts : List Tie) (v7 v8 v9 v10 v11 v12 v13 : Option V), σ = [some (.ref a), some (.int many), some (.int pools), some (.ref p), some (.ref l), some (.ref f), some (.ref t), v7, v8, v9, v10, v11, v12, v13, none, none, none] ∧
      PoolI K a b H ns p l f t 20 (n + 200) (th.map (·.1)) th ts H7 ∧ ts.length ≤ 150 ∧ ∀ x ∈ ns, x ∈ th.map (·.1)) (fun nx hn => ?_) ?_
    · refine ⟨_, rfl, p, rfl, ⟨_, SqL.of I6.hp⟩, fun D nD => ?_⟩
      have Doff := I6.st.off nD
      refine lc_it (walk_list (xs := ns.map V.str)) (PvP D H6 fun j => ((ns.take j).filter fun x => !decide (x ∈ th.map (·.1))).map V.str) (pv_zero nD rfl) (fun j H9 _ h => SqL.of (h.1 _ _ I6.hp)) ?_ ?_
      · rintro j x H9 H10 hj hP ⟨rfl, hx⟩
        obtain ⟨z, hz, rfl⟩ := map_get hx
        refine ⟨rfl, ?_⟩
        refine ⟨_, rfl, _, rfl, f, _, rfl, DGet.k (k := Sum.inr z) (hP.1 _ _ I6.hf), _, rfl, ?_⟩
        rw [thF_is]
        refine ite2 (fun e => ?_) (fun e => ?_)
        · refine ⟨_, rfl, pv_add hP (same_refl _) ?_ ?_ nD⟩
          · show ((ns.take (j + 1)).filter fun x => !decide (x ∈ th.map (·.1))).map V.str = _
            rw [take_snoc hz, List.filter_append, List.map_append]
            simp only [List.filter_cons, List.filter_nil, e, if_true]
            rfl
          · show (((ns.take j).filter fun x => !decide (x ∈ th.map (·.1))).map V.str).length < sizeLine
            rw [List.length_map]
            exact Nat.lt_of_le_of_lt (Nat.le_trans (List.length_filter_le _ _) (List.length_take_le' _ _)) (Nat.lt_of_le_of_lt (show ns.length ≤ 8 by omega) (by decide))
        · refine ⟨hP.1, ?_⟩
          have e' : (!decide (z ∈ th.map (·.1))) = false := by
            cases h : (!decide (z ∈ th.map (·.1))) with
            | false => rfl
            | true => exact absurd h e
          have e2 : ((ns.take (j + 1)).filter fun x => !decide (x ∈ th.map (·.1))) = (ns.take j).filter fun x => !decide (x ∈ th.map (·.1)) := by
            rw [take_snoc hz, List.filter_append]
            simp only [List.filter_cons, List.filter_nil, e', Bool.false_eq_true, if_false, List.append_nil]
          show H10 D = some (.lst (((ns.take (j + 1)).filter fun x => !decide (x ∈ th.map (·.1))).map V.str))
          rw [e2]
          exact hP.2
      rintro H9 ⟨s9, hD0⟩
      have hD : H9 D = some (.lst ((rest ns th).map V.str)) := by
        have e3 := hD0
        dsimp only at e3
        rw [List.length_map, List.take_length] at e3
        exact e3
      have rnd : (rest ns th).Nodup := List.Nodup.sublist List.filter_sublist hnd
      have rln : (rest ns th).length ≤ 8 := Nat.le_trans (List.length_filter_le _ _) (by omega)
      have rmem : ∀ x ∈ rest ns th, x ∈ ns ∧ x ∉ th.map (·.1) := fun x hx => by
        have := List.mem_filter.mp hx
        refine ⟨this.1, ?_⟩
        simpa using this.2
      have lth6 : th.length ≤ 8 := by
        have h1 := nodup_le I6.nd (fun x hx => by
          obtain ⟨q', hq', rfl⟩ := List.mem_map.mp hx
          exact (I6.mem q' hq').1)
        rw [List.length_map] at h1
        omega
      refine ⟨D, rfl, ⟨_, SqL.of hD⟩, for_it (walk_list (xs := (rest ns th).map V.str)) (fun i σ H10 => ∃ (hs : List Int) (ts' : List Tie) (v10 v11 v13 : Option V), σ = [some (.ref a), some (.int many), some (.int pools), some (.ref p), some (.ref l), some (.ref f), some (.ref t), v7, v8, v9, v10, v11, v12, v13, none, none, none] ∧
        hs.length = i ∧ PoolI K a b H ns p l f t (2 + i) (n + 200 + 10 * (8 - i)) ((th ++ ((rest ns th).take i).zip hs).map (·.1)) (th ++ ((rest ns th).take i).zip hs) ts' H10 ∧ H10 D = some (.lst ((rest ns th).map V.str)) ∧ ts'.length ≤ 64 + 8 * i)
        ⟨[], ts, v10, v11, none, rfl, rfl, by rw [List.take_zero, List.zip_nil_left, List.append_nil]; exact (I6.same A s9).le (by omega), hD, by omega⟩ ?_ ?_ ?_⟩
      · rintro i σ H10 _ ⟨_, _, _, _, _, _, _, _, h, _⟩
        exact SqL.of h
      · rintro i x σ H10 H11 hi ⟨hs, ts', v10, v11, v13, rfl, lhs, I10, hD10, lts⟩ ⟨rfl, hx⟩
        obtain ⟨nm, hnm, rfl⟩ := map_get hx
        rw [List.length_map] at hi
        refine gName_i ?_
        dsimp only
        have hkeys : (th ++ ((rest ns th).take i).zip hs).map (·.1) = th.map (·.1) ++ (rest ns th).take i := by
          rw [List.map_append, List.map_fst_zip (by rw [List.length_take]; omega)]
        have hnew : nm ∉ (th ++ ((rest ns th).take i).zip hs).map (·.1) := by
          rw [hkeys]
          intro hin
          rcases List.mem_append.mp hin with h | h
          · exact (rmem nm (List.mem_of_getElem? hnm)).2 h
          · obtain ⟨j', hj', e⟩ := List.getElem_of_mem h
            rw [List.getElem_take] at e
            rw [List.length_take] at hj'
            have := nd_get rnd (show (rest ns th)[j']? = some nm by rw [← e]; exact List.getElem?_eq_getElem (by omega)) hnm
            omega
        have hin : nm ∈ ns := (rmem nm (List.mem_of_getElem? hnm)).1
        have eth : ∀ z : Int, (th ++ ((rest ns th).take i).zip hs) ++ [(nm, z)] = th ++ ((rest ns th).take (i + 1)).zip (hs ++ [z]) := fun z => by
          rw [take_snoc hnm, List.zip_append (by rw [List.length_take]; omega), List.append_assoc]
          rfl
        have lg : (th ++ ((rest ns th).take i).zip hs).length ≤ 8 := by
          have h1 := nodup_le I10.nd (fun x hx => by
            obtain ⟨q', hq', rfl⟩ := List.mem_map.mp hx
            exact (I10.mem q' hq').1)
          rw [List.length_map] at h1
          omega
        generalize th ++ ((rest ns th).take i).zip hs = g at I10 hkeys hnew eth lg
        have D0 : D ≠ l ∧ D ≠ f ∧ D ≠ t := by
          obtain ⟨_, z1, _⟩ := I6.hl
          exact ⟨(ne_of_none z1 nD).symm, (ne_of_none I6.hf nD).symm, (ne_of_none I6.ht nD).symm⟩
        -- ahead
        refine viaS (t1 := tAsg _ _) (fun σ H12 => ∃ (q : Addr) (ah : List Str), σ = [some (.ref a), some (.int many), some (.int pools), some (.ref p), some (.ref l), some (.ref f), some (.ref t), v7, v8, v9, some (.str nm), v11, v12, some (.ref q), none, none, none] ∧
          PoolI K a b H ns p l f t (2 + i) (n + 200 + 10 * (8 - (i + 1)) + 1) (g.map (·.1)) g ts' H12 ∧ H12 D = some (.lst ((rest ns th).map V.str)) ∧ H12 q = some (.lst (ah.map V.str)) ∧ H q = none ∧ q ≠ l ∧ ah.Nodup ∧ ah.length ≤ 8 ∧ ∀ x ∈ ah, x ∈ g.map (·.1)) (fun nx hn => ?_) ?_
        · refine ⟨_, rfl, _, rfl, f, _, rfl, I10.hf, fun q nq => ?_⟩
          rw [thF_names]
          have s12 : Same H11 (upd H11 q (.lst ((g.map (·.1)).map V.str))) := same_new nq
          have e12 : upd H11 q (.lst ((g.map (·.1)).map V.str)) q = _ := upd_same
          have qoff := I10.st.off nq
          generalize upd H11 q (.lst ((g.map (·.1)).map V.str)) = H12 at s12 e12 ⊢
          have I12 := I10.same A s12
          refine ⟨a, b, q, n + 200 + 10 * (8 - (i + 1)) + 2, _, rfl, I12.st.le (by rw [List.length_map, List.length_map]; omega), e12, qoff.1, qoff.2, by rw [List.length_map, List.length_map]; omega, fun H13 r ys pm nr hr kp13 S13 => ?_⟩
          obtain ⟨zs, pz, rfl⟩ := perm_map pm
          have I13 := I12.move A kp13 S13
          have roff := I12.st.off nr
          refine ⟨_, rfl, a, b, n + 200 + 10 * (8 - (i + 1)) + 1, 3, rfl, S13.le (by omega), by decide, by decide, fun H14 d kp14 S14 d0 d1 => ⟨_, _, rfl, rfl, _, rfl, r, _, rfl, SqL.of (kp14 _ _ hr roff.1 roff.2), fun q2 nq2 => ?_⟩⟩
          obtain ⟨d, rfl⟩ : ∃ j : Nat, d = j := ⟨d.toNat, by omega⟩
          rw [show (1 : Int) + (d : Int) = ((1 + d : Nat) : Int) by omega, cut_to, ← List.map_take]
          have I14 := I13.move A kp14 S14
          have hD14 := kp14 _ _ (kp13 _ _ (s12 _ _ hD10) Doff.1 Doff.2) Doff.1 Doff.2
          refine hn _ _ ⟨q2, zs.take (1 + d), rfl, (I14.same A (same_new nq2)), upd_at hD14 (ne_of_none hD14 nq2), upd_same, I14.kp.back I14.st nq2, ?_, ?_, ?_, fun x hx => ?_⟩
          · obtain ⟨_, z1, _⟩ := I14.hl
            exact (ne_of_none z1 nq2).symm
          · exact List.Nodup.sublist (List.take_sublist _ _) (pz.nodup_iff.mpr I10.nd)
          · refine Nat.le_trans (List.length_take_le' _ _) ?_
            rw [pz.length_eq, List.length_map]
            exact lg
          · exact pz.mem_iff.mp (List.mem_of_mem_take hx)
        rintro σ H12 ⟨q, ah, rfl, I12, hD12, hq12, q0, hql, and_, lah, hah⟩
        have qoff := A.off q0
        -- height
        refine viaS (t1 := tAsg _ _) (fun σ H13 => ∃ (z : Int), σ = [some (.ref a), some (.int many), some (.int pools), some (.ref p), some (.ref l), some (.ref f), some (.ref t), v7, v8, v9, some (.str nm), some (.int z), v12, some (.ref q), none, none, none] ∧
          PoolI K a b H ns p l f t (2 + i) (n + 200 + 10 * (8 - (i + 1))) (g.map (·.1)) g ts' H13 ∧ H13 D = some (.lst ((rest ns th).map V.str)) ∧ H13 q = some (.lst (ah.map V.str)) ∧ 0 ≤ z ∧ z ≤ 3 + i) (fun nx hn => ?_) ?_
        · refine ⟨_, rfl, q, rfl, ⟨_, SqL.of hq12⟩, fun E nE => ?_⟩
          refine lc_it (walk_list (xs := ah.map V.str)) (PvP E H12 fun j => ((ah.take j).map (hgt g)).map V.int) (pv_zero nE rfl) (fun j H13 _ h => SqL.of (h.1 _ _ hq12)) ?_ ?_
          · rintro j x H13 H14 hj hP ⟨rfl, hx⟩
            obtain ⟨y, hy, rfl⟩ := map_get hx
            have hl := thT_look I12.nd (hah y (List.mem_of_getElem? hy))
            refine ⟨rfl, yesT ?_⟩
            refine ⟨_, rfl, _, rfl, t, _, rfl, by rw [← hl.1]; exact DGet.k (k := Sum.inr y) (hP.1 _ _ I12.ht), ?_⟩
            refine pv_add hP (same_refl _) ?_ ?_ nE
            · show ((ah.take (j + 1)).map (hgt g)).map V.int = _
              rw [take_snoc hy, List.map_append, List.map_append]
              rfl
            · show (((ah.take j).map (hgt g)).map V.int).length < sizeLine
              rw [List.length_map, List.length_map]
              exact Nat.lt_of_le_of_lt (List.length_take_le' _ _) (Nat.lt_of_le_of_lt lah (by decide))
          rintro H13 ⟨s13, hE0⟩
          have hE : H13 E = some (.lst ((ah.map (hgt g)).map V.int)) := by
            have e3 := hE0
            dsimp only at e3
            rw [List.length_map, List.take_length] at e3
            exact e3
          refine ⟨by show 1 ≤ sizeLine; decide, ?_⟩
          intro z0 n_z0
          have e_z0 : upd H13 z0 (.lst [.int 0]) z0 = some (.lst [.int 0]) := upd_same
          have s_z0 : Same H13 (upd H13 z0 (.lst [.int 0])) := same_new n_z0
          generalize upd H13 z0 (.lst [.int 0]) = H14 at e_z0 s_z0 ⊢
          refine ⟨E, z0, _, _, rfl, rfl, s_z0 _ _ hE, e_z0, ?_, ?_⟩
          · rw [List.length_map, List.length_map]
            exact Nat.le_trans (Nat.add_le_add lah (Nat.le_refl 1)) (by decide)
          refine fun cc n_cc => ?_
          have s15 : Same H14 (upd H14 cc (.lst ((ah.map (hgt g)).map V.int ++ [.int 0]))) := same_new n_cc
          have e15 : upd H14 cc (.lst ((ah.map (hgt g)).map V.int ++ [.int 0])) cc = some (.lst ((ah.map (hgt g) ++ [0]).map V.int)) := by
            rw [List.map_append]
            exact upd_same
          generalize upd H14 cc (.lst ((ah.map (hgt g)).map V.int ++ [.int 0])) = H15 at s15 e15 ⊢
          have s05 : Same H12 H15 := same_trans s13 (same_trans s_z0 s15)
          have I15 := I12.same A s05
          refine ⟨cc, _, rfl, SqL.of e15, by rw [List.length_append]; simp, fun m hm _ => ?_⟩
          have hm0 : 0 ≤ m ∧ m ≤ 2 + i := by
            rcases List.mem_append.mp hm with h | h
            · obtain ⟨y, hy, rfl⟩ := List.mem_map.mp h
              have := (I12.mem _ (thT_look I12.nd (hah y hy)).2).2
              exact this
            · rw [List.mem_singleton] at h
              subst h
              omega
          refine ⟨_, rfl, a, b, n + 200 + 10 * (8 - (i + 1)), 4, rfl, I15.st, by decide, by decide, fun H16 d kp16 S16 d0 d1 => ⟨_, _, rfl, rfl, _, rfl, ?_⟩⟩
          have I16 := I15.move A kp16 S16
          have hD16 := kp16 _ _ (s05 _ _ hD12) Doff.1 Doff.2
          have hq16 := kp16 _ _ (s05 _ _ hq12) qoff.1 qoff.2
          refine ite2 (fun _ => ?_) (fun _ => ?_)
          · exact ⟨_, _, rfl, rfl, hn _ _ ⟨_, rfl, I16, hD16, hq16, by omega, by omega⟩⟩
          · exact ⟨_, _, rfl, rfl, hn _ _ ⟨_, rfl, I16, hD16, hq16, by omega, by omega⟩⟩
        rintro σ H13 ⟨z, rfl, I13, hD13, hq13, z0, z1⟩
        -- the ties
        refine viaS (t1 := tDrop _) (fun σ H14 => σ = [some (.ref a), some (.int many), some (.int pools), some (.ref p), some (.ref l), some (.ref f), some (.ref t), v7, v8, v9, some (.str nm), some (.int z), v12, some (.ref q), none, none, none] ∧
          PoolI K a b H ns p l f t (2 + i) (n + 200 + 10 * (8 - (i + 1))) (g.map (·.1) ++ [nm]) g (ts' ++ ah.map fun x => mkT x nm z) H14 ∧ H14 D = some (.lst ((rest ns th).map V.str))) (fun nx hn => ?_) ?_
        · obtain ⟨us, l1, l2⟩ := I13.hl
          refine ⟨_, rfl, .inl ⟨rfl, _, SqL.of l1⟩, _, rfl, q, rfl, ⟨_, SqL.of hq13⟩, fun E nE => ?_⟩
          have nE0 : H E = none := I13.kp.back I13.st nE
          have hEl : E ≠ l := (ne_of_none l1 nE).symm
          refine lc_it (walk_list (xs := ah.map V.str)) (fun j H14 => Same H13 H14 ∧ ∃ vs, H14 E = some (.lst vs) ∧ RepL K (fun c => H13 c = none ∧ c ≠ E) H14 (((ah.take j).map fun x => mkT x nm z).map dTie) vs)
            ⟨same_new nE, [], upd_same, RepL.nil⟩ (fun j H14 _ ⟨sm, _⟩ => SqL.of (sm _ _ hq13)) ?_ ?_
          · rintro j x H14 H15 hj ⟨sm, vs, hE, hrv⟩ ⟨rfl, hx⟩
            obtain ⟨y, hy, rfl⟩ := map_get hx
            refine ⟨rfl, yesT ?_⟩
            refine ⟨_, rfl, _, rfl, _, rfl, y, nm, z, rfl, fun r nr => ?_⟩
            have hEr : E ≠ r := ne_of_none hE nr
            refine ⟨vs, upd_at hE hEr, ?_, same_mut (same_trans sm (same_new nr)) nE, vs ++ [.ref r], upd_same, ?_⟩
            · rw [hrv.len, List.length_map, List.length_map]
              exact Nat.lt_of_le_of_lt (List.length_take_le' _ _) (Nat.lt_of_le_of_lt lah (by decide))
            · rw [take_snoc hy, List.map_append]
              exact tl_add (t := mkT y nm z) hE hrv nr (same_back sm nr)
          rintro H14 ⟨s14, vs, hE, hrv⟩
          rw [List.length_map, List.take_length] at hrv
          have lvs : vs.length ≤ 8 := by
            rw [hrv.len, List.length_map, List.length_map]
            exact lah
          have lus : us.length ≤ 500 := by
            rw [l2.len, List.length_map]
            omega
          have I14 := I13.same A s14
          refine ⟨l, E, us, vs, rfl, rfl, s14 _ _ l1, hE, Nat.le_trans (show us.length + vs.length ≤ 1000 by omega) (by decide), ?_⟩
          refine hn _ _ ⟨rfl, ?_, upd_at (s14 _ _ hD13) D0.1⟩
          have hk : ∀ x ∈ g.map (·.1), x ∈ g.map (·.1) ++ [nm] := fun x hx => List.mem_append.mpr (.inl hx)
          refine (I14.more hk).ext A (s14 _ _ l1) (l2.same s14) (hrv.wk fun c hc => ⟨I13.kp.back I13.st hc.1, ?_⟩) ?_ ?_
          · intro e
            rw [e] at hc
            rw [l1] at hc
            cases hc.1
          · refine TiesOk.ahead hin z0 (by omega) ah ts' I13.tok and_ (fun x hx => ?_) (fun x hx hpx => ?_)
            · obtain ⟨q', hq', rfl⟩ := List.mem_map.mp (hah x hx)
              exact ⟨(I13.mem q' hq').1, fun e => hnew (e ▸ hah _ hx)⟩
            · obtain ⟨s', hs', e'⟩ := List.mem_map.mp hpx
              have m := I13.tin s' hs'
              have e1 : s'.1 = (pr x nm).1 := congrArg Prod.fst e'
              have e2 : s'.2.1 = (pr x nm).2 := congrArg Prod.snd e'
              rcases pr_cases x nm with ⟨g', _⟩ | ⟨g', _⟩ <;> rw [g'] at e1 e2
              · exact hnew (by have q1 : s'.2.1 = nm := e2; rw [← q1]; exact m.2)
              · exact hnew (by have q1 : s'.1 = nm := e1; rw [← q1]; exact m.1)
          · intro s' hs'
            obtain ⟨x, hx, rfl⟩ := List.mem_map.mp hs'
            exact pr_mem (List.mem_append.mpr (.inl (hah x hx))) (List.mem_append.mpr (.inr (List.mem_singleton.mpr rfl)))
        rintro σ H14 ⟨rfl, I14, hD14⟩
        refine ⟨_, rfl, by show 2 ≤ sizeLine; decide, ?_⟩
        intro tq n_tq
        have e_tq : upd H14 tq (.tup [.bl true, .int z]) tq = some (.tup [.bl true, .int z]) := upd_same
        have s_tq : Same H14 (upd H14 tq (.tup [.bl true, .int z])) := same_new n_tq
        generalize upd H14 tq (.tup [.bl true, .int z]) = H15 at e_tq s_tq ⊢
        have I15 := I14.same A s_tq
        have lfl : (thF g).length < sizeLine := by
          unfold thF dkv
          rw [List.length_map, List.length_map]
          exact Nat.lt_of_le_of_lt lg (by decide)
        have ltl : (thT g).length < sizeLine := by
          unfold thT dkv
          rw [List.length_map, List.length_map]
          exact Nat.lt_of_le_of_lt lg (by decide)
        refine ⟨tq, _, rfl, SqT.of e_tq, rfl, _, _, rfl, _, rfl, _, rfl, f, _, rfl, DPut.k (k := Sum.inr nm) I15.hf lfl, _, _, rfl, _, rfl, _, rfl, t, _, rfl, DPut.k (k := Sum.inr nm) (upd_at I15.ht A.ft.symm) ltl, rfl, ?_⟩
        have I16 := (I15.wide (C := 2 + (i + 1 : Nat)) (by omega)).put A hnew hin z0 (show z ≤ 2 + ((i + 1 : Nat) : Int) by omega)
        rw [eth z] at I16
        refine ⟨hs ++ [z], ts' ++ ah.map fun x => mkT x nm z, _, _, _, rfl, by rw [List.length_append, lhs]; rfl, ?_, upd_at (upd_at (s_tq _ _ hD14) D0.2.1) D0.2.2, ?_⟩
        · rw [← eth z]
          rw [← eth z] at I16
          refine PoolI.more I16 fun x hx => ?_
          rw [List.map_append]
          exact hx
        · rw [List.length_append, List.length_map]
          omega
      · rintro σ H10 ⟨hs, ts', v10, v11, v13, rfl, lhs, I10, hD10, lts⟩
        rw [List.length_map] at I10 lts lhs
        rw [List.take_length] at I10
        refine hn _ _ ⟨_, ts', _, _, _, _, _, _, _, rfl, (I10.wide (by omega)).le (by omega), by omega, fun x hx => ?_⟩
        rw [List.map_append, List.map_fst_zip (by omega)]
        by_cases e : x ∈ th.map (·.1)
        · exact List.mem_append.mpr (.inl e)
        · refine List.mem_append.mpr (.inr (List.mem_filter.mpr ⟨hx, ?_⟩))
          simpa using e
    rintro σ H7 ⟨th, ts, v7, v8, v9, v10, v11, v12, v13, rfl, I7, lts, hcov⟩
    -- phase 3: more ties
    refine viaS (t1 := tAsg _ _) (fun σ H8 => ∃ (td : Addr) (kvs : List (List Key × V)), σ = [some (.ref a), some (.int many), some (.int pools), some (.ref p), some (.ref l), some (.ref f), some (.ref t), v7, v8, v9, v10, v11, v12, v13, none, some (.ref td), none] ∧
      PoolI K a b H ns p l f t 20 (n + 200) (th.map (·.1)) th ts H8 ∧ H td = none ∧ td ≠ f ∧ td ≠ t ∧ H8 td = some (.dT kvs) ∧ kvs.length ≤ 150 ∧ ∀ x y, (valV kvs (key2 x y)).isSome = decide ((x, y) ∈ ts.map pa2)) (fun nx hn => ?_) ?_
    · obtain ⟨us, l1, l2⟩ := I7.hl
      have lus : us.length = ts.length := by rw [l2.len, List.length_map]
      refine ⟨_, rfl, l, rfl, ⟨_, SqL.of l1⟩, fun D nD => ?_⟩
      refine lc_it (walk_list (xs := us)) (fun i H8 => Same H7 H8 ∧ ∃ zs : List KP, H8 D = some (.lst (zs.map fun z => V.ref z.1)) ∧ (∀ z ∈ zs, H8 z.1 = some (.tup [.ref z.2.1, z.2.2.2]) ∧ H8 z.2.1 = some (.tup (z.2.2.1.map kV))) ∧ zs.map (fun z => z.2.2.1) = (ts.take i).map fun t => key2 t.1 t.2.1)
        ⟨same_new nD, [], upd_same, fun z h => (nomatch h), rfl⟩ (fun i H8 _ ⟨sm, _⟩ => SqL.of (sm _ _ l1)) ?_ ?_
      · rintro i x H8 H9 hi ⟨sm, zs, hD, hz, hk⟩ ⟨rfl, hx⟩
        obtain ⟨d, hd, hrep⟩ := (l2.same sm).get hx
        obtain ⟨e, hei, rfl⟩ := map_get hd
        obtain ⟨q, rfl, hq, hqo⟩ := rep_tie.mp hrep
        refine ⟨q, _, rfl, SqT.of hqo, rfl, _, _, rfl, _, _, rfl, _, _, rfl, rfl, rfl, yesT ?_⟩
        refine ⟨_, rfl, _, rfl, by show 2 ≤ sizeLine; decide, ?_⟩
        intro k1 n_k1
        have e_k1 : upd H9 k1 (.tup [.str e.1, .str e.2.1]) k1 = some (.tup [.str e.1, .str e.2.1]) := upd_same
        have s_k1 : Same H9 (upd H9 k1 (.tup [.str e.1, .str e.2.1])) := same_new n_k1
        generalize upd H9 k1 (.tup [.str e.1, .str e.2.1]) = H10 at e_k1 s_k1 ⊢
        refine ⟨by show 2 ≤ sizeLine; decide, ?_⟩
        intro k2 n_k2
        have e_k2 : upd H10 k2 (.tup [.ref k1, .bl true]) k2 = some (.tup [.ref k1, .bl true]) := upd_same
        have s_k2 : Same H10 (upd H10 k2 (.tup [.ref k1, .bl true])) := same_new n_k2
        generalize upd H10 k2 (.tup [.ref k1, .bl true]) = H11 at e_k2 s_k2 ⊢
        have hD11 := s_k2 _ _ (s_k1 _ _ hD)
        have hDk1 : D ≠ k1 := ne_of_none hD n_k1
        have hDk2 : D ≠ k2 := ne_of_none (s_k1 _ _ hD) n_k2
        have lzs : zs.length ≤ ts.length := by
          have := congrArg List.length hk
          rw [List.length_map, List.length_map, List.length_take] at this
          omega
        refine ⟨_, hD11, by rw [List.length_map]; exact Nat.lt_of_le_of_lt (Nat.le_trans lzs lts) (by decide), same_mut (same_trans sm (same_trans s_k1 s_k2)) nD, zs ++ [(k2, k1, key2 e.1 e.2.1, .bl true)], by rw [List.map_append]; exact upd_same, fun z hz' => ?_, ?_⟩
        · rcases List.mem_append.mp hz' with h | h
          · obtain ⟨g1, g2⟩ := hz z h
            exact ⟨upd_at (s_k2 _ _ (s_k1 _ _ g1)) (ne_of g1 hD (by intro z; cases z)), upd_at (s_k2 _ _ (s_k1 _ _ g2)) (ne_of g2 hD (by intro z; cases z))⟩
          · rw [List.mem_singleton] at h
            subst h
            exact ⟨upd_at e_k2 hDk2.symm, upd_at (s_k2 _ _ e_k1) hDk1.symm⟩
        · rw [List.map_append, hk, take_snoc hei, List.map_append]
          rfl
      rintro H8 ⟨s8, zs, hD, hz, hk⟩
      rw [lus, List.take_length] at hk
      refine ⟨D, zs, rfl, hD, hz, fun td n_td => ?_⟩
      have I8 := I7.same A (same_trans s8 (same_new (o := .dT (foldK [] (zs.map kpD))) n_td))
      have I8' := I7.same A s8
      refine hn _ _ ⟨td, _, rfl, I8, I8'.kp.back I8'.st n_td, (ne_of_none I8'.hf n_td).symm, (ne_of_none I8'.ht n_td).symm, upd_same, ?_, fun x y => ?_⟩
      · have h1 := foldK_len (zs.map kpD) []
        have h2 := congrArg List.length hk
        rw [List.length_map, List.length_map] at h2
        rw [List.length_map, List.length_nil] at h1
        omega
      · rw [foldK_has, key2_any hk]
        rfl
    rintro σ H8 ⟨td, kvs, rfl, I8, ntd, tdf, tdt, htd, lkv, hkv⟩
    have tdoff := A.off ntd
    refine viaS (t1 := tFor _ _ _) (fun σ H9 => ∃ (ts : List Tie) (v7 v14 v16 : Option V), σ = [some (.ref a), some (.int many), some (.int pools), some (.ref p), some (.ref l), some (.ref f), some (.ref t), v7, v8, v9, v10, v11, v12, v13, v14, some (.ref td), v16] ∧
      PoolI K a b H ns p l f t 20 (n + 1) (th.map (·.1)) th ts H9 ∧ ts.length ≤ 160) (fun nx hn => ?_) ?_
    · refine ⟨_, rfl, _, rfl, _, _, rfl, rfl, ⟨by decide, by decide⟩, _, _, rfl, rfl, a, b, n + 199, _, rfl, I8.st, by omega, by omega, fun H9 d kp9 S9 d0 d1 => ⟨d, rfl, by omega, by omega, ?_⟩⟩
      obtain ⟨d, rfl⟩ : ∃ j : Nat, d = j := ⟨d.toNat, by omega⟩
      have hd6 : d ≤ 6 := by omega
      rw [show ((d : Int)).toNat = d by omega]
      refine for_it walk_range (fun i σ H10 => ∃ (ts : List Tie) (kvs : List (List Key × V)) (v7 v14 v16 : Option V), σ = [some (.ref a), some (.int many), some (.int pools), some (.ref p), some (.ref l), some (.ref f), some (.ref t), v7, v8, v9, v10, v11, v12, v13, v14, some (.ref td), v16] ∧
        PoolI K a b H ns p l f t 20 (n + 1 + 10 * (8 - i)) (th.map (·.1)) th ts H10 ∧ H10 td = some (.dT kvs) ∧ kvs.length ≤ 150 + i ∧ (∀ x y, (valV kvs (key2 x y)).isSome = decide ((x, y) ∈ ts.map pa2)) ∧ ts.length ≤ 150 + i)
        ⟨ts, kvs, v7, none, none, rfl, (I8.move A kp9 S9).le (by omega), kp9 _ _ htd tdoff.1 tdoff.2, by omega, hkv, by omega⟩ (fun _ _ _ _ _ => trivial) ?_ ?_
      · rintro i x σ H10 H11 hi ⟨ts, kvs, v7, v14, v16, rfl, I10, htd, lkv, hkv, lts⟩ ⟨rfl, rfl⟩
        refine gName_i ?_
        dsimp only
        refine viaS (t1 := tAsg _ _) (fun σ H12 => ∃ (x y : Str), σ = [some (.ref a), some (.int many), some (.int pools), some (.ref p), some (.ref l), some (.ref f), some (.ref t), some (.int ((0 : Int) + (i : Nat))), v8, v9, v10, v11, v12, v13, some (.str x), some (.ref td), some (.str y)] ∧
          PoolI K a b H ns p l f t 20 (n + 1 + 10 * (8 - (i + 1)) + 1) (th.map (·.1)) th ts H12 ∧ H12 td = some (.dT kvs) ∧ x ∈ ns ∧ y ∈ ns ∧ x ≠ y) (fun nx hn => ?_) ?_
        · refine ⟨_, rfl, _, _, rfl, rfl, _, rfl, ?_⟩
          rw [show decide ((1 : Int) < (many : Int)) = true from decide_eq_true (by omega)]
          refine iteT ?_
          have poff := A.off A.np
          refine ⟨_, rfl, _, rfl, a, b, p, n + 1 + 10 * (8 - (i + 1)) + 1, ns.map V.str, rfl, I10.st.le (by rw [List.length_map]; omega), I10.hp, poff.1, poff.2, by rw [List.length_map]; omega, fun H12 q ys pm nq hq kp12 S12 => ⟨_, rfl, q, _, rfl, SqL.of hq, fun r nr => ?_⟩⟩
          obtain ⟨zs, pz, rfl⟩ := perm_map pm
          rw [show (2 : Int) = ((2 : Nat) : Int) from rfl, cut_to, ← List.map_take]
          have lz := pz.length_eq
          have znd : zs.Nodup := pz.nodup_iff.mpr hnd
          match zs, lz, znd, pz with
          | [], lz, _, _ => simp at lz; omega
          | [_], lz, _, _ => simp at lz; omega
          | x :: y :: zs, lz, znd, pz =>
            refine ⟨r, _, rfl, SqL.of upd_same, rfl, _, _, rfl, _, _, rfl, rfl, ?_⟩
            have I12 := (I10.move A kp12 S12).same A (same_new (o := .lst (((x :: y :: zs).take 2).map V.str)) nr)
            have htd12 := kp12 _ _ htd tdoff.1 tdoff.2
            refine hn _ _ ⟨x, y, rfl, I12, upd_at htd12 (ne_of_none htd12 nr), pz.mem_iff.mp List.mem_cons_self, pz.mem_iff.mp (List.mem_cons_of_mem _ List.mem_cons_self), fun e => ?_⟩
            subst e
            exact (List.nodup_cons.mp znd).1 List.mem_cons_self
        rintro σ H12 ⟨x, y, rfl, I12, htd12, hx, hy, hne⟩
        refine viaT (t := tAnd _ _) (fun c H13 => PoolI K a b H ns p l f t 20 (n + 1 + 10 * (8 - (i + 1)) + 1) (th.map (·.1)) th ts H13 ∧ H13 td = some (.dT kvs) ∧ (c = true → pr x y ∉ ts.map pa2)) (fun Qt ht => ?_) ?_
        · refine ⟨_, rfl, _, _, rfl, rfl, _, rfl, ?_⟩
          rw [show decide ((1 : Int) < (many : Int)) = true from decide_eq_true (by omega)]
          refine iteT ⟨_, rfl, _, rfl, x, y, rfl, _, rfl, _, rfl, x, y, rfl, by show 2 ≤ sizeLine; decide, ?_⟩
          intro kt n_kt
          have e_kt : upd H12 kt (.tup [.str (minS x y), .str (maxS x y)]) kt = some (.tup [.str (minS x y), .str (maxS x y)]) := upd_same
          have s_kt : Same H12 (upd H12 kt (.tup [.str (minS x y), .str (maxS x y)])) := same_new n_kt
          generalize upd H12 kt (.tup [.str (minS x y), .str (maxS x y)]) = H13 at e_kt s_kt ⊢
          refine ⟨_, rfl, td, _, rfl, DGet.t (k := key2 (minS x y) (maxS x y)) (s_kt _ _ htd12) e_kt, _, rfl, ?_⟩
          refine ht _ _ ⟨I12.same A s_kt, s_kt _ _ htd12, fun c => ?_⟩
          rw [hkv] at c
          intro m
          have m' : (minS x y, maxS x y) ∈ ts.map pa2 := m
          rw [decide_eq_true m'] at c
          cases c
        rintro c H13 ⟨I13, htd13, hc⟩
        refine ite2 (fun e => ?_) (fun e => ?_)
        · have hfresh := hc e
          refine ⟨_, rfl, _, rfl, _, rfl, x, y, rfl, _, rfl, _, rfl, x, y, rfl, by show 2 ≤ sizeLine; decide, ?_⟩
          intro kt n_kt
          have e_kt : upd H13 kt (.tup [.str (minS x y), .str (maxS x y)]) kt = some (.tup [.str (minS x y), .str (maxS x y)]) := upd_same
          have s_kt : Same H13 (upd H13 kt (.tup [.str (minS x y), .str (maxS x y)])) := same_new n_kt
          generalize upd H13 kt (.tup [.str (minS x y), .str (maxS x y)]) = H14 at e_kt s_kt ⊢
          have htd14 := s_kt _ _ htd13
          have I14 := I13.same A s_kt
          refine ⟨td, _, rfl, DPut.t (k := key2 (minS x y) (maxS x y)) htd14 e_kt (Nat.lt_of_le_of_lt (show kvs.length ≤ 1000 by omega) (by decide)), ?_⟩
          have I15 := I14.mutT A (o := .dT (putK kvs (key2 (minS x y) (maxS x y)) (.bl true))) htd14 ntd tdf tdt
          have htd15 : upd H14 td (.dT (putK kvs (key2 (minS x y) (maxS x y)) (.bl true))) td = _ := upd_same
          generalize upd H14 td (.dT (putK kvs (key2 (minS x y) (maxS x y)) (.bl true))) = H15 at I15 htd15 ⊢
          obtain ⟨us, l1, l2⟩ := I15.hl
          have gx := thT_look I15.nd (hcov x hx)
          have gy := thT_look I15.nd (hcov y hy)
          have bx := I15.mem _ gx.2
          have byy := I15.mem _ gy.2
          refine ⟨_, rfl, .inl ⟨rfl, _, SqL.of l1⟩, _, rfl, _, rfl, _, rfl, _, rfl, t, _, rfl, by rw [← gx.1]; exact DGet.k (k := Sum.inr x) I15.ht, _, rfl, _, rfl, t, _, rfl, by rw [← gy.1]; exact DGet.k (k := Sum.inr y) I15.ht, _, _, rfl, _, _, rfl, rfl, _, rfl, a, b, n + 1 + 10 * (8 - (i + 1)), 4, rfl, I15.st, by decide, by decide, fun H16 d kp16 S16 d0 d1 => ⟨_, _, rfl, rfl, _, _, _, rfl, fun r nr => ?_⟩⟩
          have I16 := I15.move A kp16 S16
          obtain ⟨us, l1, l2⟩ := I16.hl
          have lus : us.length = ts.length := by rw [l2.len, List.length_map]
          have htd16 := kp16 _ _ htd15 tdoff.1 tdoff.2
          refine ⟨l, us, .ref r, rfl, rfl, upd_at l1 (ne_of_none l1 nr), by rw [lus]; exact Nat.lt_of_le_of_lt (show ts.length ≤ 1000 by omega) (by decide), ?_⟩
          have I17 := I16.tie A l1 l2 (x := x) (y := y) (z := (if hgt th y > hgt th x then hgt th y else hgt th x) + 1 + d) nr (hcov x hx) (hcov y hy) hx hy hne (by dsimp only at bx byy; split <;> omega) (by dsimp only at bx byy; split <;> omega) hfresh
          refine ⟨_, putK kvs (key2 (minS x y) (maxS x y)) (.bl true), _, _, _, rfl, I17, upd_at (upd_at htd16 (ne_of_none htd16 nr)) (ne_of htd16 l1 (by intro z; cases z)), ?_, fun u v => ?_, ?_⟩
          · have h1 : (putK kvs (key2 (minS x y) (maxS x y)) (V.bl true)).length ≤ kvs.length + 1 := foldK_len [(key2 (minS x y) (maxS x y), V.bl true)] kvs
            omega
          · rw [valV_put, List.map_append]
            by_cases e1 : key2 u v = key2 (minS x y) (maxS x y)
            · obtain ⟨e2, e3⟩ := key2_inj e1
              rw [if_pos e1]
              refine (decide_eq_true (List.mem_append.mpr (.inr ?_))).symm
              rw [e2, e3]
              exact List.mem_singleton.mpr rfl
            · rw [if_neg e1, hkv]
              refine decide_eq_decide.mpr ⟨fun h => List.mem_append.mpr (.inl h), fun h => ?_⟩
              rcases List.mem_append.mp h with h | h
              · exact h
              · have h' : (u, v) = pr x y := List.mem_singleton.mp h
                exact absurd (by rw [show u = minS x y from congrArg Prod.fst h', show v = maxS x y from congrArg Prod.snd h']) e1
          · rw [List.length_append]
            show ts.length + 1 ≤ _
            omega
        · exact ⟨ts, kvs, _, _, _, rfl, I13.le (by omega), htd13, by omega, hkv, by omega⟩
      · rintro σ H10 ⟨ts, kvs, v7, v14, v16, rfl, I10, htd, lkv, hkv, lts⟩
        exact hn _ _ ⟨ts, _, _, _, rfl, I10.le (by omega), by omega⟩
    rintro σ H9 ⟨ts, v7, v14, v16, rfl, I9, lts⟩
    obtain ⟨us, l1, l2⟩ := I9.hl
    have poff := A.off np
    have loff := A.off A.nl
    refine ⟨_, rfl, _, rfl, _, rfl, a, b, l, n, 100, ns, ts, us, rfl, I9.st, loff.1, loff.2, l1, l2.wk (fun c hc => A.off hc.1), I9.tok, by decide, by omega, fun H10 q ts' ws nq hq hr4 hT' hso hl' kp10 S10 => ⟨by show 2 ≤ sizeLine; decide, fun r nr => ?_⟩⟩
    have kp11 := I9.kp.trans kp10
    have s11 : Same H10 _ := same_new (o := .tup [V.ref p, V.ref q]) nr
    refine k _ _ ns ts' (rep_raw.mpr ⟨r, _, _, rfl, kp11.back S10 nr, upd_same, rep_strs.mpr ⟨p, rfl, np, s11 _ _ (kp10 _ _ I9.hp poff.1 poff.2)⟩, q, ws, rfl, I9.kp.back I9.st nq, s11 _ _ hq, ?_⟩) ⟨hnd, fun x hx => allN_gd (pool_in (hpool x hx)), by omega, hT', hso, by omega⟩ ⟨hlen, hpool, by omega⟩ (kp11.trans (kp_new nr)) (S10.new nr)
    exact (hr4.wk fun c hc => I9.kp.back I9.st hc).same s11
end
end Pw
set_option Elab.async false
set_option linter.all false
set_option maxRecDepth 100000
set_option maxHeartbeats 8000000
/-! The law's webs: any of them. -/
namespace Pw
open PySem PySem.Spec PyProof.Rows L2
theorem plane_raw {R C : Nat} {lo hi : Int} {pic : List (List Int)} {ts : List Tie} (h : PicOk R C lo hi pic) (hR : R ≤ 12) (hC : C ≤ 20) (hn : R * C ≤ 200) (hb : hi - lo ≤ big) (pm : ts.Perm ((planeT pic C R).map sw)) (so : Srt ts) : RawOk (planeN C R) ts := by
  refine ⟨planeN_nd hR hC, fun x hx => ?_, by rw [planeN_len]; exact hn, ((planeT_ok h hR hC).mono hb).perm pm, so, ?_⟩
  · obtain ⟨i, hi, hx⟩ := List.mem_flatMap.mp hx
    obtain ⟨j, hj, rfl⟩ := List.mem_map.mp hx
    have h1 := List.mem_range.mp hi
    have h2 := List.mem_range.mp hj
    exact plc_gd (by omega) (by omega)
  · rw [pm.length_eq, List.length_map]
    have h1 := planeT_len pic C R
    have h2 : R * (2 * C) = 2 * (R * C) := by rw [Nat.mul_left_comm]
    omega
section
variable {P : Program} {w : World} {K : PySem.W.Frag} {mg : Str → Option Value} {base : Heap}
def spWeb (K : PySem.W.Frag) : Sp := fun vs H Q _ => ∃ (a b : Addr) (n : Nat), vs = [.ref a, .int 8] ∧ Strm a b (n + 2000) H ∧ retRaw K a b n H Q fun ns ts => 2 ≤ ns.length ∧ ns.length ≤ 24
theorem sc_law_a_web : FnScope ["_law_stream", "_law_many", "_law_way", "_law_size", "_law_wide", "_law_first"] ["_law_stream", "_law_many"] (defScope s_law_a_web) := ⟨rfl, rfl, rfl, by decide +kernel, rfl, by decide +kernel, by decide +kernel⟩
theorem ok_web (T : Tx K mg) : Ok P w K mg base CX0 5 "_law_a_web" ["_law_stream", "_law_many"] (spWeb K) := by
  have G_draw : Ok P w K mg base CX0 1 _ _ _ := ok_draw T
  have G_a_any : Ok P w K mg base CX0 4 _ _ _ := ok_any T
  have G_a_row : Ok P w K mg base CX0 4 _ _ _ := ok_row T
  have G_a_picture : Ok P w K mg base CX0 3 _ _ _ := ok_picture T
  have G_a_plane : Ok P w K mg base CX0 2 _ _ _ := ok_plane T
  have G_a_pools : Ok P w K mg base CX0 4 _ _ _ := ok_pools T
  have G_a_beside : Ok P w K mg base CX0 2 _ _ _ := ok_beside T
  refine mkOk (d := d_law_a_web) T 30 28 rfl rfl rfl rfl rfl (fun _ _ _ _ _ _ us hl => match us, hl with | [_, _], _ => rfl) sc_law_a_web (fun vs H Q E h => ?_) (fun f cdv A outer s H vs Q E hr h => ?_)
  · obtain ⟨a, b, n, rfl, _⟩ := h
    rfl
  · obtain ⟨a, b, n, rfl, hS, k⟩ := h
    have nd := sc_law_a_web.nd
    refine ⟨_, (pss_cons (ps_par (i := 2) (j := 3) (by rfl) nd rfl rfl (by decide) rfl rfl (pa_cons (pe_ok G_draw (hr.mono (by omega)) pass0 (pa_cons (pv 0) (pa_cons pe_int pa_nil))) (pa_cons (pe_callB (call_min2 rfl) (by rfl) T.min (by decide +kernel) (pa_cons (pv 1) (pa_cons (pe_op op_add pe_int (pe_ok G_draw (hr.mono (by omega)) pass0 (pa_cons (pv 0) (pa_cons (pv 1) pa_nil)))) pa_nil))) pa_nil)) (by rfl))
      (pss_cons (ps_if (PW.pt (pw_or (pt_cmpR op_lt (pv 2) pe_int (nomark _)) (pw_or1 (pt_cmpR op_lt (pv 3) pe_int (nomark _))))) (pss_one (ps_ret (pe_ok G_a_any (hr.mono (by omega)) pass0 (pa_cons (pv 0) (pa_cons (pv 3) (pa_cons (pe_op op_add pe_int (pe_ok G_draw (hr.mono (by omega)) pass0 (pa_cons (pv 0) (pa_cons pe_int pa_nil)))) (pa_cons (pe_op op_add pe_int (pe_ok G_draw (hr.mono (by omega)) pass0 (pa_cons (pv 0) (pa_cons pe_int pa_nil)))) pa_nil))))))) pss_nil)
      (pss_cons (ps_if (pt_cmpR op_eq (pv 2) pe_int (nomark _)) (pss_one (ps_ret (pe_ok G_a_row (hr.mono (by omega)) pass0 (pa_cons (pv 0) (pa_cons (pv 3) (pa_cons (pe_op op_add pe_int (pe_ok G_draw (hr.mono (by omega)) pass0 (pa_cons (pv 0) (pa_cons pe_int pa_nil)))) (pa_cons (pe_cmpR op_eq (pe_ok G_draw (hr.mono (by omega)) pass0 (pa_cons (pv 0) (pa_cons pe_int pa_nil))) pe_int (nomark _)) pa_nil))))))) pss_nil)
      (pss_cons (ps_if (pt_cmpR op_eq (pv 2) pe_int (nomark _)) (pss_cons (ps_set (i := 4) nd rfl (Or.inl rfl) (pe_op op_add pe_int (pe_ok G_draw (hr.mono (by omega)) pass0 (pa_cons (pv 0) (pa_cons pe_int pa_nil)))))
      (pss_one (ps_ret (pe_ok G_a_plane (hr.mono (by omega)) pass0 (pa_cons (pe_ok G_a_picture (hr.mono (by omega)) pass0 (pa_cons (pv 0) (pa_cons (pe_callB (call_max2 rfl) (by rfl) T.max (by decide +kernel) (pa_cons pe_int (pa_cons (pe_op op_fdiv (pv 3) (pv 4)) pa_nil))) (pa_cons (pv 4) (pa_cons (pe_op op_add pe_int (pe_ok G_draw (hr.mono (by omega)) pass0 (pa_cons (pv 0) (pa_cons pe_int pa_nil)))) pa_nil))))) pa_nil))))) pss_nil)
      (pss_cons (ps_if (PW.pt (pw_or (pt_cmpR op_lt (pv 2) pe_int (nomark _)) (pw_or1 (pt_cmpR op_lt (pv 3) pe_int (nomark _))))) (pss_one (ps_ret (pe_ok G_a_pools (hr.mono (by omega)) pass0 (pa_cons (pv 0) (pa_cons (pv 3) (pa_cons (pe_callB (call_min2 rfl) (by rfl) T.min (by decide +kernel) (pa_cons (pv 3) (pa_cons (pe_op op_add pe_int (pe_ok G_draw (hr.mono (by omega)) pass0 (pa_cons (pv 0) (pa_cons (pe_callB (call_max2 rfl) (by rfl) T.max (by decide +kernel) (pa_cons pe_int (pa_cons (pe_op op_fdiv (pv 3) pe_int) pa_nil))) pa_nil)))) pa_nil))) pa_nil)))))) pss_nil)
      (pss_cons (ps_set (i := 5) nd rfl (Or.inl rfl) (pe_ok G_a_any (hr.mono (by omega)) pass0 (pa_cons (pv 0) (pa_cons (pe_op op_fdiv (pv 3) pe_int) (pa_cons pe_int (pa_cons pe_int pa_nil))))))
      (pss_one (ps_ret (pe_ok G_a_beside (hr.mono (by omega)) pass0 (pa_cons (pv 5) (pa_cons (pe_ok G_a_pools (hr.mono (by omega)) pass0 (pa_cons (pv 0) (pa_cons (pe_op op_sub (pv 3) (pe_op op_fdiv (pv 3) pe_int)) (pa_cons (pe_op op_add pe_int (pe_ok G_draw (hr.mono (by omega)) pass0 (pa_cons (pv 0) (pa_cons pe_int pa_nil)))) pa_nil)))) pa_nil))))))))))), ?_⟩
    -- way, size
    refine viaS (fun σ H1 => ∃ (way size : Nat), σ = [some (.ref a), some (.int 8), some (.int (way : Nat)), some (.int (size : Nat)), none, none] ∧ Kp a b H H1 ∧ Strm a b (n + 1990) H1 ∧ way < 9 ∧ 2 ≤ size ∧ size ≤ 8) (fun nx hn => ?_) ?_
    · refine ⟨_, rfl, a, b, n + 1999, 9, rfl, hS, by decide, by decide, fun H1 d kp1 S1 d0 d1 => ⟨_, rfl, _, rfl, _, rfl, a, b, n + 1998, 8, rfl, S1, by decide, by decide, fun H2 e kp2 S2 e0 e1 => ⟨_, _, rfl, rfl, _, _, rfl, ?_⟩⟩⟩
      obtain ⟨d, rfl⟩ : ∃ j : Nat, d = j := ⟨d.toNat, by omega⟩
      obtain ⟨e, rfl⟩ : ∃ j : Nat, e = j := ⟨e.toNat, by omega⟩
      refine ⟨_, _, rfl, hn _ _ ⟨d, min 8 (2 + e), ?_, kp1.trans kp2, S2.le (by omega), by omega, by omega, by omega⟩⟩
      have hmin : (if 2 + (e : Int) < 8 then 2 + (e : Int) else 8) = ((min 8 (2 + e) : Nat) : Int) := by
        split <;> omega
      rw [hmin]
      rfl
    rintro σ H1 ⟨way, size, rfl, kp1, S1, w9, s2, s8⟩
    have ret : ∀ {H2 : Hp} {C : List Str → List Tie → Prop} {m : Nat}, Kp a b H1 H2 → Strm a b 0 H2 → n ≤ m → (∀ ns ts, C ns ts → 2 ≤ ns.length ∧ ns.length ≤ 24) → retRaw K a b m H2 Q C := fun {H2 C m} kp S hm hC H' v ns ts r ok c kp' S' =>
      k H' v ns ts (r.wk fun c hc => (kp1.trans kp).back S hc) ok (hC ns ts c) ((kp1.trans kp).trans kp') (S'.le hm)
    refine viaT (t := tOr _ _) (fun c H2 => H2 = H1 ∧ (c = false → 2 ≤ way ∧ 3 ≤ size)) (fun Qt ht => ?_) ?_
    · refine ⟨_, rfl, _, _, rfl, rfl, _, rfl, ?_⟩
      refine ite2 (fun e => ht _ _ ⟨rfl, fun z => by cases z⟩) (fun e => ⟨_, rfl, _, _, rfl, rfl, _, rfl, ht _ _ ⟨rfl, fun z => ?_⟩⟩)
      have h1 : ¬ ((way : Int) < 2) := fun h => e (decide_eq_true h)
      have h2 : ¬ ((size : Int) < 3) := of_decide_eq_false z
      omega
    rintro c H2 ⟨rfl, hc⟩
    refine ite2 (fun e => ?_) (fun e => ?_)
    · refine ⟨_, rfl, _, rfl, _, rfl, a, b, n + 1989, 5, rfl, S1, by decide, by decide, fun H3 d kp3 S3 d0 d1 => ⟨_, _, rfl, rfl, _, rfl, a, b, n + 1988, 5, rfl, S3, by decide, by decide, fun H4 e kp4 S4 e0 e1 => ⟨_, _, rfl, rfl, ?_⟩⟩⟩
      refine ⟨a, b, n + 1588, size, 1 + d, 1 + e, rfl, S4, s8, by omega, by omega, ret (kp3.trans kp4) (S4.le (Nat.zero_le _)) (by omega) fun ns ts h => by omega⟩
    have hw := hc (by cases c with
      | true => exact absurd rfl e
      | false => rfl)
    -- a row
    refine ⟨_, rfl, rfl, _, rfl, ?_⟩
    refine ite2 (fun e => ?_) (fun e => ?_)
    · refine ⟨_, rfl, _, rfl, _, rfl, a, b, n + 1989, 4, rfl, S1, by decide, by decide, fun H3 d kp3 S3 d0 d1 => ⟨_, _, rfl, rfl, _, rfl, a, b, n + 1988, 2, rfl, S3, by decide, by decide, fun H4 e kp4 S4 e0 e1 => ⟨rfl, ?_⟩⟩⟩
      refine ⟨a, b, n + 1588, size, 1 + d, _, rfl, S4, s2, s8, by omega, by omega, ret (kp3.trans kp4) (S4.le (Nat.zero_le _)) (by omega) fun ns ts h => by omega⟩
    -- a plane
    refine ⟨_, rfl, rfl, _, rfl, ?_⟩
    refine ite2 (fun e => ?_) (fun e => ?_)
    · refine ⟨_, rfl, a, b, n + 1989, 3, rfl, S1, by decide, by decide, fun H3 d kp3 S3 d0 d1 => ⟨_, _, rfl, rfl, ?_⟩⟩
      obtain ⟨d, rfl⟩ : ∃ j : Nat, d = j := ⟨d.toNat, by omega⟩
      refine gName_i ?_
      have hd3 : 1 + d ≤ 3 := by omega
      have hmax : (if (size : Int) / (1 + (d : Int)) > 1 then (size : Int) / (1 + (d : Int)) else 1) = ((max 1 (size / (1 + d)) : Nat) : Int) := by
        have e1 : (size : Int) / (1 + (d : Int)) = ((size / (1 + d) : Nat) : Int) := by
          rw [show (1 + (d : Int)) = ((1 + d : Nat) : Int) by omega]
          exact (Int.natCast_ediv _ _).symm
        rw [e1]
        split <;> omega
      have hR : max 1 (size / (1 + d)) ≤ 8 := by
        have := Nat.div_le_self size (1 + d)
        omega
      have hRC : 2 ≤ max 1 (size / (1 + d)) * (1 + d) := by
        rcases Nat.lt_or_ge d 1 with h | h
        · have : d = 0 := by omega
          subst this
          have : size / (1 + 0) = size := Nat.div_one size
          rw [this]
          omega
        · exact Nat.le_trans (show 2 ≤ 1 * (1 + d) by omega) (Nat.mul_le_mul_right _ (by omega))
      have hRC2 : max 1 (size / (1 + d)) * (1 + d) ≤ 8 * 3 := Nat.mul_le_mul hR hd3
      have hRC3 : max 1 (size / (1 + d)) * (2 * (1 + d)) ≤ 8 * 6 := Nat.mul_le_mul hR (by omega)
      refine ⟨_, rfl, _, rfl, _, rfl, _, _, rfl, rfl, ⟨by omega, by omega⟩, _, _, rfl, _, rfl, _, rfl, a, b, n + 1988, 5, rfl, S3, by decide, by decide, fun H4 e kp4 S4 e0 e1 => ⟨_, _, rfl, rfl, ?_⟩⟩
      rw [hmax]
      refine ⟨a, b, n + 1900, max 1 (size / (1 + d)), 1 + d, 2 + e, ?_, S4.le (by omega), by omega, by omega, by omega, by omega, fun H5 v pic hrep hpic kp5 S5 => ?_⟩
      · show [V.ref a, V.int _, V.int _, V.int _] = _
        rw [show (1 : Int) + (d : Int) = ((1 + d : Nat) : Int) by omega]
      refine ⟨v, _, _, _, _, _, pic, rfl, hrep, hpic, by omega, by omega, fun H6 v' ts hr pm so sm => ?_⟩
      have kp6 := ((kp3.trans kp4).trans kp5).trans (.of sm)
      refine k H6 v' _ ts (hr.wk fun c hc => (kp1.trans ((kp3.trans kp4).trans kp5)).back S5 hc) (plane_raw hpic (by omega) (by omega) (by omega) (by unfold big; omega) pm so) ?_ (kp1.trans kp6) ((S5.same sm).le (by omega))
      show 2 ≤ (planeN _ _).length ∧ (planeN _ _).length ≤ 24
      rw [planeN_len]
      omega
    -- pools
    refine next_i ?_
    dsimp only
    refine viaT (t := tOr _ _) (fun c H3 => H3 = H2 ∧ (c = false → 4 ≤ size)) (fun Qt ht => ?_) ?_
    · refine ⟨_, rfl, _, _, rfl, rfl, _, rfl, ?_⟩
      refine ite2 (fun e => ht _ _ ⟨rfl, fun z => by cases z⟩) (fun e => ⟨_, rfl, _, _, rfl, rfl, _, rfl, ht _ _ ⟨rfl, fun z => ?_⟩⟩)
      have h2 : ¬ ((size : Int) < 4) := of_decide_eq_false z
      omega
    rintro c H3 ⟨rfl, hc4⟩
    refine ite2 (fun e => ?_) (fun e => ?_)
    · refine ⟨_, rfl, _, rfl, _, rfl, _, rfl, _, rfl, _, _, rfl, rfl, ⟨by decide, by decide⟩, _, _, rfl, a, b, n + 1989, _, rfl, S1, by split <;> omega, by split <;> omega, fun H4 d kp4 S4 d0 d1 => ⟨_, _, rfl, rfl, _, _, rfl, ?_⟩⟩
      obtain ⟨d, rfl⟩ : ∃ j : Nat, d = j := ⟨d.toNat, by omega⟩
      have hmin : (if (2 + (d : Int)) < (size : Int) then (2 + (d : Int)) else (size : Int)) = ((min size (2 + d) : Nat) : Int) := by
        split <;> omega
      rw [hmin]
      exact ⟨a, b, n + 1500, size, min size (2 + d), rfl, S4.le (by omega), s2, s8, by omega, by omega, ret kp4 (S4.le (Nat.zero_le _)) (by omega) fun ns ts h => by omega⟩
    have hw4 := hc4 (by cases c with
      | true => exact absurd rfl e
      | false => rfl)
    -- two beside one another
    have e2 : (size : Int) / 2 = ((size / 2 : Nat) : Int) := by omega
    refine ⟨_, rfl, _, rfl, _, _, rfl, rfl, ⟨by decide, by decide⟩, ?_⟩
    refine ⟨a, b, n + 1500, size / 2, 4, 3, by show [V.ref a, V.int _, V.int _, V.int _] = _; rw [e2], S1.le (by omega), by omega, by decide, by decide, fun H4 v1 ks ts1 r1 o1 c1 kp4 S4 => ?_⟩
    refine gName_i ?_
    refine ⟨_, rfl, _, rfl, _, rfl, _, rfl, _, _, rfl, rfl, ⟨by decide, by decide⟩, _, _, rfl, rfl, _, rfl, a, b, n + 1499, 2, rfl, S4.le (by omega), by decide, by decide, fun H5 d kp5 S5 d0 d1 => ⟨_, _, rfl, rfl, ?_⟩⟩
    obtain ⟨d, rfl⟩ : ∃ j : Nat, d = j := ⟨d.toNat, by omega⟩
    refine ⟨a, b, n + 1000, size - size / 2, 1 + d, ?_, S5.le (by omega), by omega, by omega, by omega, by omega, fun H6 v2 os ts2 r2 o2 c2 kp6 S6 => ?_⟩
    · show [V.ref a, V.int _, V.int _] = _
      rw [show (size : Int) - (size : Int) / 2 = ((size - size / 2 : Nat) : Int) by omega, show (1 : Int) + (d : Int) = ((1 + d : Nat) : Int) by omega]
    have back4 : ∀ c, Fr H3 c → Fr H c := fun c hc => kp1.back S1 hc
    have r1' : Rep K (Fr H) H6 (dRaw ks ts1) v1 := (((r1.wk back4).kp (kp5.trans kp6) fun c hc => hS.off hc))
    have r2' : Rep K (Fr H) H6 (dRaw os ts2) v2 := r2.wk fun c hc => (kp1.trans (kp4.trans kp5)).back S5 hc
    refine ⟨v1, v2, Fr H, ks, os, ts1, ts2, rfl, r1', r2', o1, o2, c1.2.1, c2.2.1, by omega, by omega, c1.2.2, c2.2.2, fun H7 v ns ts r o ln sm => ?_⟩
    refine k H7 v ns ts (r.wk fun c hc => ?_) o (by omega) ((kp1.trans (kp4.trans (kp5.trans kp6))).trans (.of sm)) ((S6.same sm).le (by omega))
    rcases hc with h | h
    · exact h
    · exact (kp1.trans (kp4.trans (kp5.trans kp6))).back S6 h
end
end Pw
set_option Elab.async false
set_option linter.all false
set_option maxRecDepth 100000
set_option maxHeartbeats 4000000
/-! for .. in enumerate(t), t a tuple. -/
namespace PySem
open Sem (wp)
open AutoSeq1 (wpAny_loadPart')
theorem pw_meets_enumerate_newT (l : Addr) (items : Array Value) (n : Nat) (dct : Option Addr) (sl : Array (Option Value)) :
    Meets (Builtin.«enumerate.__new__» ⟨[.type "enumerate", .ref l], []⟩) (fun _ R s => s.heap.get? l = some { cls := .type "tuple", dict := dct, data := .seq items n, slots := sl } ∧
      R (.ok (.ret (.ref (s.heap.push { cls := .type "tuple_iterator", data := .fields #[.ref l, .int 0 0] }).objs.size)))
        { s with heap := (s.heap.push { cls := .type "tuple_iterator", data := .fields #[.ref l, .int 0 0] }).push { cls := .type "enumerate", data := .fields #[.none, .bool false, .ref s.heap.objs.size, rawInt 0, .none, .none] } }) :=
  .of_wp fun prog w A R s h => by
    obtain ⟨hp, g, d, tk, os⟩ := s; obtain ⟨hl, h⟩ := h
    have hsub := sub_enumerate
    have hL : Heap.IsTuple (Shared.heap ⟨hp, g, d, tk, os⟩) l items := ⟨_, hl, rfl, n, rfl⟩
    wp_walk using wpAny_loadPart' hl
    refine wpAny_stack_any fun st => wpAny_pure ?_
    split
    · rename_i c _ _ _ _ _
      cases (c == Value.type "enumerate")
      · wp_walk using wpAny_loadPart' hl, wpAny_pyIter_tuple hL
        exact ⟨_, rfl, h⟩
      · wp_walk using wpAny_loadPart' hl, wpAny_pyIter_tuple hL
        exact ⟨_, rfl, h⟩
    · wp_walk using wpAny_loadPart' hl, wpAny_pyIter_tuple hL
      exact ⟨_, rfl, h⟩
end PySem

namespace Pw
open PySem PySem.Spec PySem.Calls PyProof.Rows L2
section
variable {prog : Program} {w : World} {A : Around} {E : Value → Shared → Prop} {s : Shared}
theorem call_enumerate_tuple {l : Addr} {items : Array Value} {Q : Value → Shared → Prop} (hL : s.heap.IsTuple l items)
    (h : ∀ h', IsEnum h' (s.heap.objs.size + 1) s.heap.objs.size 0 .none → h'.IsTupleIter s.heap.objs.size l 0 → h'.objs.size = s.heap.objs.size + 2 →
      (∀ b o, s.heap.get? b = some o → h'.get? b = some o) → Q (.ref (s.heap.objs.size + 1)) { s with heap := h' }) :
    wpAny (model prog w) A (call (.type "enumerate") [.ref l]) Q E s := by
  obtain ⟨⟨c, dct, dt, sl⟩, hl, hc, n, hd⟩ := hL
  replace hc : c = .type "tuple" := hc
  replace hd : dt = .seq items n := hd
  subst hc hd
  refine callType_new F.called_enumerate (by decide) (F.typeCall_enumerate_1 _) (F.newCall_enumerate_1 _) (fun obj => F.args_object_init_2 obj _) F.entry_enumerate_new
    (PySem.pw_meets_enumerate_newT l items n dct sl) ⟨hl, ?_⟩
  have hz : (s.heap.push { cls := .type "tuple_iterator", data := .fields #[.ref l, .int 0 0] }).objs.size = s.heap.objs.size + 1 := Heap.size_push ..
  show _ ∧ _
  rw [hz]
  have he : IsEnum ((s.heap.push { cls := .type "tuple_iterator", data := .fields #[.ref l, .int 0 0] }).push
      { cls := .type "enumerate", data := .fields #[.none, .bool false, .ref s.heap.objs.size, rawInt 0, .none, .none] }) (s.heap.objs.size + 1) s.heap.objs.size 0 .none := by
    have := Heap.get?_push_size (s.heap.push { cls := .type "tuple_iterator", data := .fields #[.ref l, .int 0 0] })
      (o := { cls := .type "enumerate", data := .fields #[.none, .bool false, .ref s.heap.objs.size, rawInt 0, .none, .none] }) rfl
    rw [hz] at this; exact this
  refine ⟨⟨_, he, rfl⟩, h _ he ⟨_, Heap.get?_push_of_some _ (Heap.get?_push_size _ rfl), rfl, rfl⟩ (by rw [Heap.size_push, hz]) fun b o x => Heap.get?_push_of_some _ (Heap.get?_push_of_some _ x)⟩
end
/-- the tuple at a, its items with their places in new pairs -/
def IteT (K : PySem.W.Frag) (a : Addr) : It :=
  ⟨fun i H => ∃ (xs : List V) (x : V), SqT K H a xs ∧ xs[i]? = some x, fun i H v H' => ∃ T x, v = .ref T ∧ H T = none ∧ H' = upd H T (.tup [.int (i : Nat), x]) ∧ ∀ xs, SqT K H a xs → xs[i]? = some x, fun i H => ∃ xs : List V, SqT K H a xs ∧ xs.length = i⟩
theorem turn_enumT {P : Program} {w : World} {K : PySem.W.Frag} {elts : List Expr} {kk : Nat} {tpos : Pos} (a e it : Addr) (hai : a ≠ it) (hea : e ≠ a) :
    Turn P w K (.Tuple elts kk tpos) (IteT K a) [e, it] e (fun i h => (∃ old, IsEnum h e it ((i : Nat) : Int) old) ∧ h.IsTupleIter it a i ∧ e ≠ it) where
  mem := by simp
  obj := fun i h st b hb => by
    obtain ⟨⟨old, he⟩, ⟨o, ho, hc, hd⟩, _⟩ := st
    have e' : b = e ∨ b = it := by simpa using hb
    rcases e' with z | z
    · rw [z]; exact ⟨_, he, fun v q => nomatch q⟩
    · rw [z]; exact ⟨o, ho, fun v q => by rw [hd] at q; cases q⟩
  keep := fun i h h' st k => let ⟨⟨old, he⟩, hi, hne⟩ := st; ⟨⟨old, k e (by simp) _ he⟩, hi.at fun o q => k it (by simp) o q, hne⟩
  item := by
    intro X hP hw hK hc i pins s σ H E I hf st hg
    subst hP hw hK
    obtain ⟨⟨old, he⟩, hit, hne⟩ := st
    obtain ⟨xs, x, hq, hx⟩ := hg
    obtain ⟨its, rv, p, hz⟩ := I.tuple hq
    obtain ⟨u, hu, ru⟩ := rv.get hx
    have hel : e < s.heap.objs.size := Heap.lt_size he
    have hil : it < s.heap.objs.size := by obtain ⟨_, q, _⟩ := hit; exact Heap.lt_size q
    have hi : i < its.toArray.size := by
      obtain ⟨h1, _⟩ := List.getElem?_eq_some_iff.mp hu
      simpa using h1
    refine wpAny_pyNext_enum_itemD (fp := [it, a]) (n := its.toArray.size) (P := fun i v => its.toArray[i]? = some v) (St := fun i h => h.IsTupleIter it a i ∧ h.IsTuple a its.toArray) (Draws.tuple (show X.A.in1.handled = none from I.ok.hd hc) it a hai its.toArray) he ⟨hit, p⟩ hi hne (by simp [hne, hea]) fun x' h' tk hx' ho hst' hT hsz hk => ?_
    obtain rfl : x' = u := by
      have e1 : its.toArray[i]? = some u := by simpa using hu
      rw [e1] at hx'
      exact (Option.some.inj hx').symm
    refine ⟨_, rfl, wpAny_letOwnedTupleGo_enum (s := { s with heap := h', toks := tk + 1 }) ho fun h'' he' sb => ?_⟩
    have hT2 : h''.get? s.heap.objs.size = some { cls := .type "tuple", data := .seq #[.int i tk, x'] } := (sb.2 _ (Nat.ne_of_gt hel)).trans hT
    have new : ObjOk X.prog X.w (upd H s.heap.objs.size (.tup [.int (i : Nat), x])) h'' s.heap.objs.size (.tup [.int (i : Nat), x]) :=
      ⟨by show 2 ≤ sizeLine; decide, [.int i tk, x'], .cons ⟨_, rfl⟩ (.cons ru .nil), ⟨_, hT2, rfl, _, rfl⟩⟩
    have I1 : Inv X pins σ (upd H s.heap.objs.size (.tup [.int (i : Nat), x])) { s with heap := h'', toks := tk + 1 } :=
      I.turnedNew (ch := [e, it]) (fun b ob hb q => (sb.2 b (fun z => hb (by simp [z]))).trans (hk b ob (fun z => hb (by simp [z])) (fun z => hb (by simp [z])) q)) hf (Nat.le_refl _) new
    refine ⟨.ref s.heap.objs.size, _, I1, rfl, ⟨_, x, rfl, I.hok.fresh (Nat.le_refl _), rfl, fun ys hy => ?_⟩, ⟨⟨x', ?_⟩, hst'.1.at fun o q => (sb.2 it (Ne.symm hne)).trans q, hne⟩, fun b hb => ?_⟩
    · rw [I.tuple_inj hy hq]
      exact hx
    · have e1 : ((i + 1 : Nat) : Int) = (i : Int) + 1 := by omega
      rw [e1]; exact he'
    · have hb' : b < s.heap.objs.size := by
        have e' : b = e ∨ b = it := by simpa using hb
        rcases e' with z | z
        · rw [z]; exact hel
        · rw [z]; exact hil
      rw [upd_ne (Nat.ne_of_lt hb')]
      exact (hf b hb).1
  done := by
    intro X hP hw hK hc i pins s σ H E I hf st hg
    subst hP hw hK
    obtain ⟨⟨old, he⟩, hit, hne⟩ := st
    obtain ⟨xs, hq, hx⟩ := hg
    obtain ⟨its, rv, p, hz⟩ := I.tuple hq
    obtain ⟨f0, f1, f2, f3, f4, f5⟩ := hf it (by simp)
    have hl := rv.length
    subst hx
    have e1 : xs.length = its.toArray.size := by simpa using hl
    rw [e1] at he hit
    exact wpAny_pyNext_enum_endD (fp := [it, a]) (n := its.toArray.size) (P := fun i v => its.toArray[i]? = some v) (St := fun i h => h.IsTupleIter it a i ∧ h.IsTuple a its.toArray) (Draws.tuple (show X.A.in1.handled = none from I.ok.hd hc) it a hai its.toArray) he ⟨hit, p⟩ fun h' eb => ⟨rfl, I.turned (t' := s.toks) (fun b o hb q => eb b o hb q) f0 f1 f3 f4 f5⟩
  self := fun A i s Q E st h => let ⟨⟨_, he⟩, _⟩ := st; wpAny_pyIter_enum he h
def iEnumT (K : PySem.W.Frag) (ta : TA) : TI := fun σ H R => ta σ H fun vs H1 => ∃ a xs, vs = [.ref a] ∧ SqT K H1 a xs ∧ R (IteT K a) H1
theorem k_enumT {X : Cx} {K : PySem.W.Frag} {e : Expr} {ta : TA} {p pos tpos : Pos} {elts : List Expr} {kk : Nat} (hg : Gl X "enumerate") (hm : X.mg "enumerate" = none) (ha : PA X [e] ta) (hs : starEach [e] X.env = [(false, eval e X.env)] := by rfl) (ek : X.K = K := by rfl) :
    PI X (.Tuple elts kk tpos) (.Call (.Name "enumerate" p) [e] [] pos) (iEnumT K ta) := by
  subst ek
  refine ⟨fun pins s σ H R I h => ?_⟩
  refine Call_ (ld_blt I hg hm boot_enumerate (PyProof.Rows.callWith_type1 (thn (ha.run pos pins s σ H _ I h) fun us s1 ⟨vs, H1, I1, r1, q1⟩ => ?_) hs rfl))
  obtain ⟨a, xs, ex, hq, q⟩ := q1
  subst ex
  cases r1 with
  | cons r rr =>
    cases rr
    cases r
    obtain ⟨its, rv, p', hz⟩ := I1.tuple hq
    have hal : a < s1.heap.objs.size := by
      obtain ⟨o, ho, _⟩ := p'
      exact Heap.lt_size ho
    refine call_enumerate_tuple (show s1.heap.IsTuple a its.toArray from p') fun h' he hit hsz hk => wpAny_pyIter_enum he ?_
    have I2 : Inv X pins σ H1 { s1 with heap := h' } := I1.kept (t' := s1.toks) hk
    refine ⟨s1.heap.objs.size + 1, [s1.heap.objs.size + 1, s1.heap.objs.size], _, _, H1, rfl, I2, turn_enumT a (s1.heap.objs.size + 1) s1.heap.objs.size (Nat.ne_of_lt hal) (Nat.ne_of_gt (Nat.lt_succ_of_lt hal)), ⟨⟨.none, he⟩, hit, Nat.succ_ne_self _⟩, fun b hb => ?_, q⟩
    have e' : b = s1.heap.objs.size + 1 ∨ b = s1.heap.objs.size := by simpa using hb
    have hle : s1.heap.objs.size ≤ b := by
      rcases e' with z | z
      · rw [z]; exact Nat.le_add_right _ _
      · rw [z]; exact Nat.le_refl _
    exact I1.fpOk hle (I1.hok.fresh hle)
theorem walk_enumT {K : PySem.W.Frag} {a : Addr} {xs : List V} : Walk (IteT K a) xs.length (fun H => SqT K H a xs) (YPair (fun i => some (.int (i : Nat))) (fun i => xs[i]?)) := by
  refine ⟨fun i _ hi q => ⟨xs, xs[i], q, by simp [hi]⟩, fun _ q => ⟨xs, q, rfl⟩, fun i H v H' _ q y => ?_⟩
  obtain ⟨T, x, h1, h2, h3, h4⟩ := y
  exact ⟨T, .int (i : Nat), x, h1, h2, h3, rfl, h4 xs q⟩
end Pw
set_option Elab.async false
set_option linter.all false
set_option maxRecDepth 100000
set_option maxHeartbeats 4000000
/-! The program's errors; methods. -/
namespace Pw
open PySem PySem.Spec PyProof.Rows L2
section
variable {P : Program} {w : World} {K : PySem.W.Frag} {mg : Str → Option Value} {base : Heap}
/-! ### methods -/
/-- the function object at f -/
def LkF (K : PySem.W.Frag) (f : Addr) (fd : FuncData) : Prop := ∃ (oc : Value) (od : Option Addr) (osl : Array (Option Value)), K.lookup f = some ⟨oc, od, .func fd, osl⟩
theorem lkF_of {K : PySem.W.Frag} {x qual : Str} {params : Arguments} {body : List Stmt} {scope : Scope} {dvs : List V} {kws : List (Str × V)} {f : Addr} {fd : FuncData} (F : FunD K x qual params body scope dvs kws f fd) : LkF K f fd := by
  obtain ⟨oc, od, dV, kV, doc, pm, an, cdv, ct, osl, e, lk, _⟩ := F.ex
  exact ⟨oc, od, osl, lk⟩
theorem LkF.eq {K : PySem.W.Frag} {f : Addr} {fd fd' : FuncData} (h : LkF K f fd) (h' : LkF K f fd') : fd = fd' := by
  obtain ⟨_, _, _, h⟩ := h
  obtain ⟨_, _, _, h'⟩ := h'
  rw [h] at h'
  cases h'
  rfl
/-- a method of a class keeps its promise -/
def OkM (P : Program) (w : World) (K : PySem.W.Frag) (mg : Str → Option Value) (base : Heap) (CX : CXT) (k : Nat) (C m : Str) (ps : List Str) (sp : Sp) : Prop :=
  ∃ fd, (L2.Binds K fd ps [] ∧ LkF K (He.ma K (He.ga K C) m) fd) ∧ FnOk P w K mg base CX k (He.ma K (He.ga K C) m) fd ps sp
theorem mkM {d : He.DefD} (T : Tx K mg) (i : Nat) {C m : Str} (hi : fn[i]? = some d) (ha : d.at_ = (C, some m)) (hd : d.dfl = []) (hk : d.kwd = []) {N ps : List Str} {k : Nat} {sp : Sp}
    (hb : ∀ (kV doc pm : Value) (an : Option Addr) (cdv ct : Value) (us : List Value), us.length = ps.length → bindArgs (PySem.W.fnOf d.name d.qual d.params d.body d.scope .none kV doc pm an cdv ct) ⟨us, []⟩ = pure (ps.zip us))
    (S : FnScope N ps d.scope) (len : ∀ vs H Q E, sp vs H Q E → vs.length = ps.length)
    (hbody : ∀ (f : Addr) (cdv : Value) (A : Around) (outer : List Env) (s : Shared) (H : Hp) (vs : List V) (Q : VK) (E : XK), Room k (A.deeper (envOfC d.qual d.scope s.heap.objs.size f cdv)) → sp vs H Q E →
      ∃ t, PSs (cxOf CX0 P w K mg base N d.qual d.scope f cdv A outer s H E).nox d.body t ∧ t { nx := fun _ H' => Q .non H', rt := Q } (start N vs) H) : OkM P w K mg base CX0 (k + 1) C m ps sp := by
  obtain ⟨fd, F⟩ := T.says.def_ i hi
  have e1 : d.dvs K = [] := by unfold He.DefD.dvs; rw [hd]; rfl
  have e2 : d.kws K = [] := by unfold He.DefD.kws; rw [hk]; rfl
  rw [e1, e2] at F
  have e : He.fAd K d.at_ = He.ma K (He.ga K C) m := by rw [ha]; rfl
  rw [e] at F
  refine ⟨fd, ⟨F.bindsN hb, lkF_of F⟩, F.ok S len fun cdv A outer s H vs Q E hr h => ?_⟩
  obtain ⟨t, a, q⟩ := hbody _ cdv A outer s H vs Q E hr h
  exact ⟨t, a.nox, q⟩
theorem mkMX {d : He.DefD} (T : Tx K mg) (i : Nat) {C m : Str} (hi : fn[i]? = some d) (ha : d.at_ = (C, some m)) (hd : d.dfl = []) (hk : d.kwd = []) {N ps : List Str} {k : Nat} {sp : Sp}
    (hb : ∀ (kV doc pm : Value) (an : Option Addr) (cdv ct : Value) (us : List Value), us.length = ps.length → bindArgs (PySem.W.fnOf d.name d.qual d.params d.body d.scope .none kV doc pm an cdv ct) ⟨us, []⟩ = pure (ps.zip us))
    (S : FnScope N ps d.scope) (len : ∀ vs H Q E, sp vs H Q E → vs.length = ps.length)
    (hbody : ∀ (f : Addr) (cdv : Value) (A : Around) (outer : List Env) (s : Shared) (H : Hp) (vs : List V) (Q : VK) (E : XK), Room k (A.deeper (envOfC d.qual d.scope s.heap.objs.size f cdv)) → sp vs H Q E →
      ∃ t, PSs (cxOf (L2.CX P w) P w K mg base N d.qual d.scope f cdv A outer s H E) d.body t ∧ t { nx := fun _ H' => Q .non H', rt := Q } (start N vs) H) : OkM P w K mg base (L2.CX P w) (k + 1) C m ps sp := by
  obtain ⟨fd, F⟩ := T.says.def_ i hi
  have e1 : d.dvs K = [] := by unfold He.DefD.dvs; rw [hd]; rfl
  have e2 : d.kws K = [] := by unfold He.DefD.kws; rw [hk]; rfl
  rw [e1, e2] at F
  have e : He.fAd K d.at_ = He.ma K (He.ga K C) m := by rw [ha]; rfl
  rw [e] at F
  exact ⟨fd, ⟨F.bindsN hb, lkF_of F⟩, F.ok S len (hbody _)⟩

/-! ### the errors' classes -/
theorem excTail_ve : ∀ l : List Value, PySem.W.excTail He.veBase l = true → PySem.HandSPX.refsVE l = true
  | [], h => h
  | .ref _ :: r, h => excTail_ve r h
  | .none :: _, h => h
  | .ellipsis :: _, h => h
  | .notImplemented :: _, h => h
  | .bool _ :: _, h => h
  | .int _ _ :: _, h => h
  | .float _ _ :: _, h => h
  | .str _ _ :: _, h => h
  | .bytes _ _ :: _, h => h
  | .type _ :: _, h => h
  | .builtin _ :: _, h => h
theorem oex_of {C : Addr} (q : PySem.W.excInitIn K C He.veBase "ValueError.__new__" = true) (hd : PySem.W.hasDictIn K C = true) :
    ∃ nm q N bs bm sn sub ab col dd k0 k1 k2 k3 k5, K.lookup C = some (excClassObj nm q C N bs bm true sn sub ab col dd k0 k1 k2 k3 k5 "ValueError.__new__") ∧ PySem.HandSPX.refsVE bm = true := by
  unfold PySem.W.excInitIn at q
  split at q
  · rename_i dd cd sl ho
    split at q
    · rename_i C' bm k0 k1 k2 k3 n k5 hm hs
      simp only [Bool.and_eq_true, beq_iff_eq, Bool.not_eq_true'] at q
      obtain ⟨⟨⟨rfl, rfl⟩, hdel⟩, ht⟩ := q
      obtain ⟨nm, bs, mro, ns, qn, hdct, sn, sub, ab, col, del⟩ := cd
      dsimp only at hm hdel
      subst hm hdel
      have hsl : sl = #[k0, k1, k2, k3, some (.builtin "ValueError.__new__"), k5] := by
        obtain ⟨l⟩ := sl
        simp only at hs
        rw [hs]
      subst hsl
      have hh : hdct = true := by
        unfold PySem.W.hasDictIn PySem.W.clsIn at hd
        rw [ho] at hd
        simpa using hd
      subst hh
      exact ⟨nm, qn, ns, bs, bm, sn, sub, ab, col, dd, k0, k1, k2, k3, k5, ho, excTail_ve _ ht⟩
    · cases q
  · cases q
structure ExF (K : PySem.W.Frag) (x : Str) : Prop where
  oex : OexC K (He.ga K x)
  xf : XfC K (He.ga K x)
  ini : PySem.W.findIn K (.ref (He.ga K x)) "__init__" = some (some (.ref (He.ma K (He.ga K x) "__init__")))
  fn : PySem.W.typeIn K (.ref (He.ma K (He.ga K x) "__init__")) = some (.type "function")
theorem Tx.exf (T : Tx K mg) {x : Str} (hx : x ∈ excs) (hk : PySem.W.keepIn K (.ref (He.ga K x)) = true) : ExF K x := by
  have h : (exB1 K && webB K (He.ga K "Web")) = true := T.ex1
  obtain ⟨h, _⟩ := Bool.and_eq_true_iff.mp h
  obtain ⟨_, h⟩ := Bool.and_eq_true_iff.mp h
  have q := List.all_eq_true.mp h x hx
  simp only [Bool.and_eq_true] at q
  obtain ⟨q1, q2, q3, q4, q5, q6⟩ := q
  have xf := xfB_ok q2
  exact ⟨⟨oex_of q1 xf.hdC, He.eqO_ok q3, xf.exC, of_decide_eq_true q4, hk⟩, xf, He.eqO_ok q6, beq_iff_eq.mp q5⟩
theorem Tx.xPic (T : Tx K mg) : ExF K "BadPicture" := T.exf (by decide +kernel) (T.says.fact 78 (f := .keep "BadPicture") rfl)
theorem Tx.xPla (T : Tx K mg) : ExF K "BadPlaces" := T.exf (by decide +kernel) (T.says.fact 80 (f := .keep "BadPlaces") rfl)
theorem Tx.xTie (T : Tx K mg) : ExF K "BadTies" := T.exf (by decide +kernel) (T.says.fact 82 (f := .keep "BadTies") rfl)
theorem Tx.xNo (T : Tx K mg) : ExF K "NoPlace" := T.exf (by decide +kernel) (T.says.fact 84 (f := .keep "NoPlace") rfl)
theorem Tx.nPic (T : Tx K mg) : PySem.W.findIn K (.ref (He.ga K "BadPicture")) "thing" = some none := He.noat_ok (T.says.fact 79 (f := .noat "BadPicture" "thing") rfl)
theorem Tx.nPla (T : Tx K mg) : PySem.W.findIn K (.ref (He.ga K "BadPlaces")) "index" = some none := He.noat_ok (T.says.fact 81 (f := .noat "BadPlaces" "index") rfl)
theorem Tx.nTie (T : Tx K mg) : PySem.W.findIn K (.ref (He.ga K "BadTies")) "index" = some none := He.noat_ok (T.says.fact 83 (f := .noat "BadTies" "index") rfl)
theorem Tx.nNo (T : Tx K mg) : PySem.W.findIn K (.ref (He.ga K "NoPlace")) "thing" = some none := He.noat_ok (T.says.fact 85 (f := .noat "NoPlace" "thing") rfl)
/-- an error's __init__: self.f = the one argument -/
def spXI (K : PySem.W.Frag) (C : Addr) (f : Str) : Sp := fun vs H Q _ => ∃ (a : Addr) (y : V), vs = [.ref a, y] ∧ H a = some (exo a C none) ∧ ∀ dx, H dx = none → dx ≠ a → Q .non (upd (upd H dx (exd dx [(f, y)])) a (exo a C (some dx)))
/-- the class x with its field f -/
def ExcOk (P : Program) (w : World) (K : PySem.W.Frag) (mg : Str → Option Value) (base : Heap) (x f : Str) : Prop :=
  ExF K x ∧ mg x = some (.ref (He.ga K x)) ∧ ∃ ps, OkM P w K mg base CX0 1 x "__init__" ps (spXI K (He.ga K x) f)
theorem sc_BadPicture_init : FnScope ["self", "thing"] ["self", "thing"] (defScope s_BadPicture_init) := ⟨rfl, rfl, rfl, by decide +kernel, rfl, by decide +kernel, by decide +kernel⟩
theorem sc_BadPlaces_init : FnScope ["self", "index"] ["self", "index"] (defScope s_BadPlaces_init) := ⟨rfl, rfl, rfl, by decide +kernel, rfl, by decide +kernel, by decide +kernel⟩
theorem sc_BadTies_init : FnScope ["self", "index"] ["self", "index"] (defScope s_BadTies_init) := ⟨rfl, rfl, rfl, by decide +kernel, rfl, by decide +kernel, by decide +kernel⟩
theorem sc_NoPlace_init : FnScope ["self", "thing"] ["self", "thing"] (defScope s_NoPlace_init) := ⟨rfl, rfl, rfl, by decide +kernel, rfl, by decide +kernel, by decide +kernel⟩
theorem ok_xPic (T : Tx K mg) : ExcOk P w K mg base "BadPicture" "thing" := by
  refine ⟨T.xPic, T.glo 1, ["self", "thing"], mkM (d := d_BadPicture_init) T 0 rfl rfl rfl rfl (fun _ _ _ _ _ _ us hl => match us, hl with | [_, _], _ => rfl) sc_BadPicture_init (fun vs H Q E h => ?_) (fun f cdv A outer s H vs Q E hr h => ?_)⟩
  · obtain ⟨a, y, rfl, _⟩ := h
    rfl
  · obtain ⟨a, y, rfl, ha, k⟩ := h
    exact ⟨_, pss_one (ps_ost (pv 0) (pv 1)), _, rfl, _, rfl, a, _, rfl, T.xPic.oex, T.nPic, .inl ⟨ha, k⟩⟩
theorem ok_xPla (T : Tx K mg) : ExcOk P w K mg base "BadPlaces" "index" := by
  refine ⟨T.xPla, T.glo 2, ["self", "index"], mkM (d := d_BadPlaces_init) T 1 rfl rfl rfl rfl (fun _ _ _ _ _ _ us hl => match us, hl with | [_, _], _ => rfl) sc_BadPlaces_init (fun vs H Q E h => ?_) (fun f cdv A outer s H vs Q E hr h => ?_)⟩
  · obtain ⟨a, y, rfl, _⟩ := h
    rfl
  · obtain ⟨a, y, rfl, ha, k⟩ := h
    exact ⟨_, pss_one (ps_ost (pv 0) (pv 1)), _, rfl, _, rfl, a, _, rfl, T.xPla.oex, T.nPla, .inl ⟨ha, k⟩⟩
theorem ok_xTie (T : Tx K mg) : ExcOk P w K mg base "BadTies" "index" := by
  refine ⟨T.xTie, T.glo 3, ["self", "index"], mkM (d := d_BadTies_init) T 2 rfl rfl rfl rfl (fun _ _ _ _ _ _ us hl => match us, hl with | [_, _], _ => rfl) sc_BadTies_init (fun vs H Q E h => ?_) (fun f cdv A outer s H vs Q E hr h => ?_)⟩
  · obtain ⟨a, y, rfl, _⟩ := h
    rfl
  · obtain ⟨a, y, rfl, ha, k⟩ := h
    exact ⟨_, pss_one (ps_ost (pv 0) (pv 1)), _, rfl, _, rfl, a, _, rfl, T.xTie.oex, T.nTie, .inl ⟨ha, k⟩⟩
theorem ok_xNo (T : Tx K mg) : ExcOk P w K mg base "NoPlace" "thing" := by
  refine ⟨T.xNo, T.glo 4, ["self", "thing"], mkM (d := d_NoPlace_init) T 3 rfl rfl rfl rfl (fun _ _ _ _ _ _ us hl => match us, hl with | [_, _], _ => rfl) sc_NoPlace_init (fun vs H Q E h => ?_) (fun f cdv A outer s H vs Q E hr h => ?_)⟩
  · obtain ⟨a, y, rfl, _⟩ := h
    rfl
  · obtain ⟨a, y, rfl, ha, k⟩ := h
    exact ⟨_, pss_one (ps_ost (pv 0) (pv 1)), _, rfl, _, rfl, a, _, rfl, T.xNo.oex, T.nNo, .inl ⟨ha, k⟩⟩
end
/-- what is known where such an error is on its way: its dict d is new -/
def RaiseX (K : PySem.W.Frag) (x f : Str) (y : V) (H : Hp) (E : XK) : Prop := ∀ (d : Addr) (H' : Hp), Same H H' → H d = none → H' d = some (.xd [(f, y)]) → E (.ref (He.ga K x)) (some d) H'
theorem raise_ok {K : PySem.W.Frag} {x f : Str} {y : V} {H : Hp} {E : XK} (h : RaiseX K x f y H E) : [y].length ≤ 1000 ∧ ∀ a, H a = none → spXI K (He.ga K x) f (.ref a :: ([y] ++ [])) (upd H a (exo a (He.ga K x) none))
    (fun v H2 => v = .non ∧ ∃ (d : Addr) (fs : List (Str × V)), H2 a = some (exo a (He.ga K x) (some d)) ∧ H2 d = some (exd d fs) ∧ H d = none ∧ E (.ref (He.ga K x)) (some d) (upd (del H2 a) d (.xd fs))) (fun _ _ _ => False) := by
  refine ⟨by show 1 ≤ 1000; decide, fun a na => ⟨a, y, rfl, upd_same, fun dx ndx hne => ⟨rfl, dx, [(f, y)], upd_same, upd_at upd_same hne, ?_, ?_⟩⟩⟩
  · rw [upd_ne hne] at ndx
    exact ndx
  · rw [upd_ne hne] at ndx
    refine h dx _ (fun c o hc => ?_) ndx upd_same
    have e1 : c ≠ dx := ne_of_none hc ndx
    have e2 : c ≠ a := ne_of_none hc na
    rw [upd_ne e1, del_ne e2, upd_ne e2, upd_ne e1, upd_ne e2]
    exact hc
section
variable {X : Cx} {K : PySem.W.Frag} {x f : Str} {p pos pos2 : Pos} {e : Expr} {te : TE} {W : WX}
theorem ps_rz (G : ExcOk X.prog X.w K X.mg X.base x f) (hr : Room 2 X.A) (hc : X.calm = true) (tk : Takes X W) (he : PE X e te) (hg : Gl X x := by rfl) (hdb : (x == ("__debug__" : Str)) = false := by decide)
    (hst : starEach [e] X.env = (false, eval e X.env) :: starEach [] X.env := by rfl) (hpl : (backTo pos (starEach [] X.env)).any (·.1) = false := by rfl) (ek : X.K = K := by rfl) :
    PS X (.Raise (some (.Call (.Name x p) [e] [] pos)) none pos2) (fun _ σ H => tMkO (He.ga K x) (spXI K (He.ga K x) f) [] (tCons te tNil) σ H fun cls d H' => W cls d σ H') := by
  subst ek
  obtain ⟨F, hm, ps, fd, hb, G⟩ := G
  exact ps_raise hc tk (pmk_oex F.oex F.ini F.fn G hr hb.1 .nil (pass0 (X := X)) hg hm (pa_cons he pa_nil hst) hdb hst hpl)
end
end Pw
set_option Elab.async false
set_option linter.all false
set_option maxRecDepth 100000
set_option maxHeartbeats 4000000
/-! Comprehensions within comprehensions. -/
namespace Pw
open PySem PySem.Spec PyProof.Rows L2
section
/-- a comprehension's scope within a def whose scope is outer -/
def relS (scope outer : Scope) : Scope := { scope with names := scope.names.map fun (n, k) => if (k == .free && outer.kind == .function && outer.names.lookup n == some .cell) then (n, .cell) else (n, k) }
theorem blkOk_rel {N : List Str} {scope scope2 outer : Scope} {own : List (Str × Nat)} {env : Env} (h : blkC N (relS scope outer) scope2 own = true) (he : env.scope = outer) : BlkOk N (relabel scope env) scope2 own := by
  subst he
  exact blkOk_by h
end
end Pw
set_option Elab.async false
set_option linter.all false
set_option maxRecDepth 100000
set_option maxHeartbeats 4000000
/-! Checked places. -/
namespace Pw
open PySem PySem.Spec PyProof.Rows L2
section
variable {P : Program} {w : World} {K : PySem.W.Frag} {mg : Str → Option Value} {base : Heap}
theorem RaiseX.mono {x f : Str} {y : V} {H H1 : Hp} {E : XK} (h : RaiseX K x f y H E) (s : Same H H1) : RaiseX K x f y H1 E := fun d H' s' n e => h d H' (same_trans s s') (same_back s n) e
theorem isk_acc : ∀ (acc : List Str) (z : Str), ((acc.map fun x => (x, V.bl true)).lookup z).isSome = decide (z ∈ acc)
  | [], z => rfl
  | x :: acc, z => by
    show (match z == x with | true => some (V.bl true) | false => (acc.map fun x => (x, V.bl true)).lookup z).isSome = _
    cases e : (z == x) with
    | true =>
      rw [beq_iff_eq] at e
      subst e
      simp
    | false =>
      have e' : ¬ z = x := by simpa using e
      have ih := isk_acc acc z
      simp only [List.mem_cons, e', false_or]
      exact ih
/-- what stands at p: a list or a tuple -/
abbrev sqo (l : Bool) (xs : List V) : HO := if l then .lst xs else .tup xs
theorem sq_or {H : Hp} {p : Addr} {l : Bool} {xs : List V} (h : H p = some (sqo l xs)) : SqL K H p xs ∨ SqT K H p xs := by
  cases l with
  | true => exact .inl (SqL.of h)
  | false => exact .inr (SqT.of h)
theorem Walk.weak {J : It} {n : Nat} {G G' : Hp → Prop} {Y : Nat → Hp → V → Hp → Prop} (w : Walk J n G Y) (h : ∀ H, G' H → G H) : Walk J n G' Y :=
  ⟨fun i H hi q => w.goes i H hi (h H q), fun H q => w.stops H (h H q), fun i H v H' hi q y => w.yields i H v H' hi (h H q) y⟩
theorem enumU {ta : TA} {σ : L2.St} {H : Hp} {R : It → Hp → Prop} {l : Bool} {p : Addr} {xs : List V} (ho : H p = some (sqo l xs)) (h : ∀ Q : List V → Hp → Prop, Q [.ref p] H → ta σ H Q)
    (hR : ∀ J, Walk J xs.length (fun H => H p = some (sqo l xs)) (YPair (fun i => some (.int (i : Nat))) (fun i => xs[i]?)) → R J H) : iEnum K ta σ H R ∨ iEnumT K ta σ H R := by
  cases l with
  | true => exact .inl (h _ ⟨p, xs, rfl, SqL.of ho, hR _ (Walk.weak walk_enum fun _ => SqL.of)⟩)
  | false => exact .inr (h _ ⟨p, xs, rfl, SqT.of ho, hR _ (Walk.weak walk_enumT fun _ => SqT.of)⟩)
def chkP (i : Nat) (acc : List Str) : List Dt → Nat ⊕ List Str
  | [] => .inr acc
  | .str s :: ds => if isNm s = true ∧ s ∉ acc then chkP (i + 1) (acc ++ [s]) ds else .inl i
  | _ :: _ => .inl i
def chkPlaces : Dt → Nat ⊕ List Str
  | .seq _ xs => chkP 0 [] xs
  | _ => .inl 0
/-- texts short, few things -/
def Dt.few : Dt → Prop
  | .seq _ xs => xs.length ≤ 100000 ∧ ∀ s, Dt.str s ∈ xs → s.length ≤ 1000
  | _ => True
def spCP (K : PySem.W.Frag) : Sp := fun vs H Q E => ∃ (v : V) (d : Dt) (N : Addr → Prop), vs = [v] ∧ Rep K N H d v ∧ d.few ∧ match chkPlaces d with
  | .inl i => RaiseX K "BadPlaces" "index" (.int (i : Nat)) H E
  | .inr ns => ∀ (ys : List Str) (p : Addr) (H' : Hp), ys.Perm ns → sortedS ys = true → H p = none → Same H H' → H' p = some (.lst (ys.map V.str)) → Q (.ref p) H'
theorem sc_checked_places : FnScope ["places", "met", "index", "thing"] ["places"] (defScope s_checked_places) := ⟨rfl, rfl, rfl, by decide +kernel, rfl, by decide +kernel, by decide +kernel⟩
theorem ok_CP (T : Tx K mg) : Ok P w K mg base (L2.CX P w) 3 "checked_places" ["places"] (spCP K) := by
  have G_is_list : Ok P w K mg base CX0 1 _ _ _ := ok_is_list T
  have G_is_name : Ok P w K mg base CX0 1 _ _ _ := ok_is_name T
  have G_xPla : ExcOk P w K mg base "BadPlaces" "index" := ok_xPla T
  refine mkOkX (d := d_checked_places) T 8 10 rfl rfl rfl rfl rfl (fun _ _ _ _ _ _ us hl => match us, hl with | [_], _ => rfl) sc_checked_places (fun vs H Q E h => ?_) (fun f cdv A outer s H vs Q E hr h => ?_)
  · obtain ⟨v, d, N, rfl, _⟩ := h
    rfl
  · obtain ⟨v, d, N, rfl, hd, hf, k⟩ := h
    have nd := sc_checked_places.nd
    have hu := hu_of hr
    refine ⟨_, (pss_cons (ps_if (pt_not (pt_val (pe_ok G_is_list (hr.mono (by omega)) pass0 (pa_cons (pv 0) pa_nil)))) (pss_one (ps_rz G_xPla (hr.mono (by omega)) rfl (takes_of rfl rfl rfl rfl) pe_int)) pss_nil)
      (pss_cons (ps_set (i := 1) nd rfl (Or.inl rfl) pe_dnewK)
      (pss_cons (ps_for (passes_of rfl) rfl (pi_or (k_enum (K := K) (by rfl) T.enumerate (pa_cons (pv 0) pa_nil)) (k_enumT (K := K) (by rfl) T.enumerate (pa_cons (pv 0) pa_nil))) (k_tup (K := K) (n := 2) rfl (pgs_cons (pg_name (i := 2) nd rfl (Or.inl rfl)) (pgs_cons (pg_name (i := 3) nd rfl (Or.inl rfl)) pgs_nil)))
      (pss_cons (ps_if (PW.pt (pw_or (pt_not (pt_val (pe_ok G_is_name (hr.mono (by omega)) pass0 (pa_cons (pv 3) pa_nil)))) (pw_or1 (pt_cmp (pc_din hu (pv 3) (pv 1)))))) (pss_one (ps_rz G_xPla (hr.mono (by omega)) rfl (takes_of rfl rfl rfl rfl) (pv 2))) pss_nil)
      (pss_one (ps_dput hu (pv 1) (pv 3) pe_bl rfl))))
      (pss_one (ps_ret (pe_callB (cr_sortedDS rfl) (by rfl) T.sorted (by decide +kernel) (pa_cons (pv 1) pa_nil))))))), ?_⟩
    refine ⟨_, rfl, v, d, N, rfl, hd, fun H1 s1 => ?_⟩
    dsimp only
    cases hs : d.isSeq with
    | false =>
      have e0 : chkPlaces d = .inl 0 := by cases d <;> first | rfl | cases hs
      rw [e0] at k
      exact ⟨_, rfl, iteT (raise_ok (k.mono s1))⟩
    | true =>
    obtain ⟨l, xs, rfl⟩ : ∃ l xs, d = .seq l xs := by cases d <;> first | exact ⟨_, _, rfl⟩ | cases hs
    obtain ⟨p, vs, rfl, _, hp, hr0⟩ := hd
    refine ⟨_, rfl, iteF ?_⟩
    refine fun m nm => ?_
    have s2 : Same H1 (upd H1 m (.dK [])) := same_new nm
    have e2 : upd H1 m (.dK []) m = some (.dK []) := upd_same
    generalize upd H1 m (.dK []) = H2 at s2 e2 ⊢
    have s02 := same_trans s1 s2
    have nm0 : H m = none := same_back s1 nm
    have lv := hr0.len
    refine gName_i ?_
    dsimp only
    refine viaS (t1 := tFor _ _ _) (fun σ H4 => ∃ (v2 v3 : Option V) (acc : List Str), σ = [some (.ref p), some (.ref m), v2, v3] ∧ Same H H4 ∧ H4 m = some (.dK (dkv (acc.map fun x => (x, V.bl true)))) ∧ chkP 0 [] xs = .inr acc) (fun nx hn => ?_) ?_
    · refine enumU (l := l) (p := p) (xs := vs) (s02 _ _ hp) (fun Q q => ⟨_, rfl, q⟩) fun J wk => ?_
      refine for_it wk (fun i σ H4 => ∃ (v2 v3 : Option V) (acc : List Str), σ = [some (.ref p), some (.ref m), v2, v3] ∧ Same H H4 ∧ H4 m = some (.dK (dkv (acc.map fun x => (x, V.bl true)))) ∧ acc.length = i ∧ chkP 0 [] xs = chkP i acc (xs.drop i))
        ⟨none, none, [], rfl, s02, e2, rfl, rfl⟩ (fun i σ H4 _ ⟨_, _, _, _, sm, _⟩ => sm _ _ hp) ?_ ?_
      · rintro i x σ H4 _ hi ⟨v2, v3, acc, rfl, sm, hm, la, hc⟩ ⟨t, x', y, rfl, nt, rfl, e1, e2⟩
        obtain rfl := Option.some.inj e1
        obtain ⟨dx, hdx, hrx⟩ := hr0.get e2
        have s5 : Same H4 _ := same_new (o := .tup [V.int (i : Nat), y]) nt
        have e5 : upd H4 t (.tup [V.int (i : Nat), y]) t = _ := upd_same
        generalize upd H4 t (.tup [V.int (i : Nat), y]) = H5 at s5 e5 ⊢
        have s05 := same_trans sm s5
        refine ⟨t, _, rfl, SqT.of e5, rfl, _, _, rfl, _, _, rfl, rfl, ?_⟩
        rw [List.drop_eq_getElem_cons (by omega), (List.getElem?_eq_some_iff.mp hdx).2] at hc
        refine ⟨_, rfl, y, dx, N, rfl, hrx.same s05, fun s e => hf.2 s (e ▸ List.mem_of_getElem? hdx), fun H6 s6 => ?_⟩
        dsimp only
        cases hn : dx.isNm with
        | false =>
          have e0 : chkPlaces (.seq l xs) = .inl i := by
            show chkP 0 [] xs = .inl i
            rw [hc]
            cases dx with
            | str s =>
              have : Pw.isNm s = false := hn
              show (if Pw.isNm s = true ∧ s ∉ acc then _ else Sum.inl i) = _
              rw [this, if_neg (by simp)]
            | _ => rfl
          rw [e0] at k
          refine ⟨_, rfl, iteT (iteT ⟨_, rfl, raise_ok (k.mono (same_trans s05 s6))⟩)⟩
        | true =>
        obtain ⟨z, rfl⟩ : ∃ z, dx = .str z := by cases dx <;> first | exact ⟨_, rfl⟩ | cases hn
        obtain rfl : y = V.str z := hrx
        have hm6 := s6 _ _ (s5 _ _ hm)
        have s06 := same_trans s05 s6
        refine ⟨_, rfl, iteF ⟨_, rfl, _, rfl, m, _, rfl, DGet.k (k := Sum.inr z) hm6, _, rfl, ?_⟩⟩
        have isk : (valV (dkv (acc.map fun x => (x, V.bl true))) (Sum.inr z : Key)).isSome = decide (z ∈ acc) := by
          rw [valV_dkv]
          exact isk_acc acc z
        rw [isk]
        have hz : Pw.isNm z = true := hn
        by_cases hza : z ∈ acc
        · have e0 : chkPlaces (.seq l xs) = .inl i := by
            show chkP 0 [] xs = .inl i
            rw [hc]
            show (if Pw.isNm z = true ∧ z ∉ acc then _ else Sum.inl i) = _
            rw [if_neg (by simp [hza])]
          rw [e0] at k
          rw [decide_eq_true hza]
          exact iteT ⟨_, rfl, raise_ok (k.mono s06)⟩
        · rw [decide_eq_false hza]
          have e0 : chkP i acc (Dt.str z :: xs.drop (i + 1)) = chkP (i + 1) (acc ++ [z]) (xs.drop (i + 1)) := by
            show (if Pw.isNm z = true ∧ z ∉ acc then _ else Sum.inl i) = _
            rw [if_pos ⟨hz, hza⟩]
          rw [e0] at hc
          refine iteF ⟨_, rfl, _, rfl, m, _, rfl, DPut.k (k := Sum.inr z) hm6 ?_, ?_⟩
          · unfold dkv
            rw [List.length_map, List.length_map]
            have := hf.1
            exact Nat.lt_of_le_of_lt (show acc.length ≤ 100000 by omega) (by decide)
          · rw [put_dkv (by rw [List.map_map]; simpa [Function.comp_def] using hza)]
            refine ⟨_, _, acc ++ [z], rfl, same_mut s06 nm0, ?_, by rw [List.length_append, la]; rfl, hc⟩
            rw [List.map_append]
            exact upd_same
      · rintro σ H4 ⟨v2, v3, acc, rfl, sm, hm, la, hc⟩
        rw [lv, List.drop_length] at hc
        exact hn _ _ ⟨v2, v3, acc, rfl, sm, hm, hc⟩
    rintro σ H4 ⟨v2, v3, acc, rfl, sm, hm, hc⟩
    have e0 : chkPlaces (.seq l xs) = .inr acc := hc
    rw [e0] at k
    refine ⟨_, rfl, m, _, acc, rfl, .inl hm, ?_, fun ys q py sy nq => ?_⟩
    · unfold dkv
      rw [List.map_map, List.map_map]
      rfl
    · exact k ys q _ py sy (same_back sm nq) (same_trans sm (same_new nq)) upd_same
end
end Pw
set_option Elab.async false
set_option linter.all false
set_option maxRecDepth 100000
set_option maxHeartbeats 4000000
/-! Checked ties: the plain part; dict comprehensions by a walk. -/
namespace Pw
open PySem PySem.Spec PyProof.Rows L2
theorem dc_it {J : It} {n : Nat} {G : Hp → Prop} {Y : Nat → Hp → V → Hp → Prop} (w : Walk J n G Y) {g : TG} {tt : TT} {tk tv : TE} {vs : List Nat} {σ : L2.St} {H1 : Hp} {D : Addr} {Qd : Hp → Prop} (Pv : Nat → Hp → Prop) (h0 : Pv 0 (upd H1 D (.dK []))) (hG : ∀ i H, i ≤ n → Pv i H → G H)
    (hs : ∀ i x H H', i < n → Pv i H → Y i H x H' → g x (wipe σ vs) H' fun σ2 H2 => wipe σ2 vs = wipe σ vs ∧ tt σ2 H2 fun b H3 =>
      if b = true then tk σ2 H3 fun y H4 => tv σ2 H4 fun z H5 => ∃ kvs k, y = kV k ∧ H5 D = some (.dK kvs) ∧ kvs.length < sizeLine ∧ Pv (i + 1) (upd H5 D (.dK (putK kvs k z))) else Pv (i + 1) H3) (hd : ∀ H, Pv n H → Qd H) :
    ∃ W : Nat → Nat → Hp → Prop, (∃ m, W 0 m (upd H1 D (.dK []))) ∧ ∀ i m H, W i m H →
      (J.stop i H ∧ Qd H) ∨ (J.go i H ∧ ∃ Nx : Hp → Prop, (∀ H', Nx H' → ∃ m', m' < m ∧ W (i + 1) m' H') ∧ ∀ x H', J.yld i H x H' → g x (wipe σ vs) H' fun σ2 H2 => wipe σ2 vs = wipe σ vs ∧ tt σ2 H2 fun b H3 =>
        if b = true then tk σ2 H3 fun y H4 => tv σ2 H4 fun z H5 => ∃ kvs k, y = kV k ∧ H5 D = some (.dK kvs) ∧ kvs.length < sizeLine ∧ Nx (upd H5 D (.dK (putK kvs k z))) else Nx H3) := by
  refine ⟨fun i m H => m = n - i ∧ i ≤ n ∧ Pv i H, ⟨n, by simp, Nat.zero_le _, h0⟩, ?_⟩
  rintro i m H ⟨rfl, hi, p⟩
  have q := hG i H hi p
  by_cases hlt : i < n
  · refine .inr ⟨w.goes i H hlt q, Pv (i + 1), fun H' p' => ⟨n - (i + 1), by omega, rfl, hlt, p'⟩, fun x H' y => hs i x H H' hlt p (w.yields i H x H' hlt q y)⟩
  · have e : i = n := by omega
    subst e
    exact .inl ⟨w.stops H q, hd H p⟩
/-! ### ties as they are read -/
def tieOf : Dt → Option Tie
  | .seq _ [.str x, .str y, .int h] => some (x, y, h)
  | _ => none
abbrev pn (t : Tie) : Str × Str := pr t.1 t.2.1
def chkT (ns : List Str) (i : Nat) (acc : List Tie) : List Dt → Nat ⊕ List Tie
  | [] => .inr acc
  | d :: ds => match tieOf d with
    | some t => if t.1 ∈ ns ∧ t.2.1 ∈ ns ∧ t.1 ≠ t.2.1 ∧ pn t ∉ acc.map pn then chkT ns (i + 1) (acc ++ [t]) ds else .inl i
    | none => .inl i
def chkTies (ns : List Str) : Dt → Nat ⊕ List Tie
  | .seq _ xs => chkT ns 0 [] xs
  | _ => .inl 0
def rowOf (acc : List Tie) (x : Str) : Row := acc.filterMap fun t => if t.1 = x then some (t.2.1, t.2.2) else if t.2.1 = x then some (t.1, t.2.2) else none
structure AccOk (ns : List Str) (acc : List Tie) : Prop where
  mem : ∀ t ∈ acc, t.1 ∈ ns ∧ t.2.1 ∈ ns ∧ t.1 ≠ t.2.1
  nd : (acc.map pn).Nodup
theorem AccOk.nil {ns : List Str} : AccOk ns [] := ⟨fun t h => (nomatch h), List.nodup_nil⟩
theorem AccOk.snoc {ns : List Str} {acc : List Tie} (A : AccOk ns acc) {t : Tie} (h : t.1 ∈ ns ∧ t.2.1 ∈ ns ∧ t.1 ≠ t.2.1 ∧ pn t ∉ acc.map pn) : AccOk ns (acc ++ [t]) := by
  refine ⟨fun u hu => ?_, ?_⟩
  · rcases List.mem_append.mp hu with hu | hu
    · exact A.mem u hu
    · rw [List.mem_singleton.mp hu]
      exact ⟨h.1, h.2.1, h.2.2.1⟩
  · rw [List.map_append]
    exact nodup_snoc A.nd h.2.2.2
theorem rowOf_snoc {acc : List Tie} {t : Tie} {q : Str} : rowOf (acc ++ [t]) q = rowOf acc q ++ (if t.1 = q then [(t.2.1, t.2.2)] else if t.2.1 = q then [(t.1, t.2.2)] else []) := by
  unfold rowOf
  rw [List.filterMap_append]
  congr 1
  by_cases e : t.1 = q
  · rw [if_pos e]
    simp [e]
  · by_cases e2 : t.2.1 = q
    · rw [if_neg e, if_pos e2]
      simp [e, e2]
    · rw [if_neg e, if_neg e2]
      simp [e, e2]
theorem rowOf_mem {ns : List Str} {acc : List Tie} (A : AccOk ns acc) {x y : Str} {h : Int} : (y, h) ∈ rowOf acc x ↔ (x, y, h) ∈ acc ∨ (y, x, h) ∈ acc := by
  unfold rowOf
  rw [List.mem_filterMap]
  constructor
  · rintro ⟨⟨a, b, k⟩, ht, e⟩
    dsimp only at e
    split at e
    · rename_i e1
      subst e1
      cases e
      exact .inl ht
    · split at e
      · rename_i e1
        subst e1
        cases e
        exact .inr ht
      · cases e
  · rintro (ht | ht)
    · exact ⟨_, ht, by simp⟩
    · refine ⟨_, ht, ?_⟩
      have := (A.mem _ ht).2.2
      dsimp only at this ⊢
      rw [if_neg this, if_pos rfl]
theorem rowOf_key {ns : List Str} {acc : List Tie} (A : AccOk ns acc) {x y : Str} : y ∈ (rowOf acc x).map (·.1) ↔ pr x y ∈ acc.map pn := by
  constructor
  · intro h
    obtain ⟨⟨y', h⟩, hm, rfl⟩ := List.mem_map.mp h
    rcases (rowOf_mem A).mp hm with q | q
    · exact List.mem_map.mpr ⟨_, q, rfl⟩
    · exact List.mem_map.mpr ⟨_, q, pr_comm _ _⟩
  · intro h
    obtain ⟨⟨a, b, k⟩, ht, e⟩ := List.mem_map.mp h
    refine List.mem_map.mpr ⟨(y, k), (rowOf_mem A).mpr ?_, rfl⟩
    rcases pr_inj (show pr a b = pr x y from e) with ⟨rfl, rfl⟩ | ⟨rfl, rfl⟩
    · exact .inl ht
    · exact .inr ht
theorem rowOf_nd {ns : List Str} : ∀ {acc : List Tie}, AccOk ns acc → ∀ x, ((rowOf acc x).map (·.1)).Nodup := by
  intro acc A x
  unfold List.Nodup
  have h := A.nd
  unfold List.Nodup at h
  rw [List.pairwise_map] at h ⊢
  unfold rowOf
  rw [List.pairwise_filterMap]
  refine List.Pairwise.imp_of_mem ?_ h
  rintro ⟨a, b, k⟩ ⟨a', b', k'⟩ h1 h2 ne ⟨p, r⟩ e1 ⟨p', r'⟩ e2 e
  dsimp only at e e1 e2
  subst e
  refine ne ?_
  show pr a b = pr a' b'
  have f : ∀ {a b : Str} {k r : Int} {p : Str}, (if a = x then some (b, k) else if b = x then some (a, k) else none) = some (p, r) → pr a b = pr x p := by
    intro a b k r p e
    split at e
    · rename_i e1
      subst e1
      cases e
      rfl
    · split at e
      · rename_i e1
        subst e1
        cases e
        exact pr_comm _ _
      · cases e
  rw [f e1, f e2]
theorem rowOf_len (acc : List Tie) (x : Str) : (rowOf acc x).length ≤ acc.length := List.length_filterMap_le _ _
theorem rowK_dkv (r : Row) : rowK r = dkv (r.map fun q => (q.1, V.int q.2)) := by
  unfold rowK dkv
  rw [List.map_map]
  rfl
theorem put_rowK {r : Row} {y : Str} {h : Int} (hy : y ∉ r.map (·.1)) : putK (rowK r) (Sum.inr y) (V.int h) = rowK (r ++ [(y, h)]) := by
  rw [rowK_dkv, rowK_dkv, put_dkv (by rw [List.map_map]; simpa [Function.comp_def] using hy), List.map_append]
  rfl
theorem lookup_isSome {α : Type} : ∀ (r : List (Str × α)) (k : Str), (r.lookup k).isSome = decide (k ∈ r.map (·.1))
  | [], _ => rfl
  | (j, u) :: l, k => by
    have ih := lookup_isSome l k
    show (match k == j with | true => some u | false => l.lookup k).isSome = _
    cases e : (k == j) with
    | true =>
      rw [beq_iff_eq] at e
      subst e
      simp
    | false =>
      have e' : ¬ k = j := by simpa using e
      simp only [List.map_cons, List.mem_cons, e', false_or]
      exact ih
theorem rowK_isSome (r : Row) (k : Str) : (valV (rowK r) (Sum.inr k : Key)).isSome = decide (k ∈ r.map (·.1)) := by
  rw [valV_rowK, Option.isSome_map]
  exact lookup_isSome r k
/-- the outer dict's content -/
def outK (z : List (Str × Addr)) : List (Key × V) := dkv (z.map fun q => (q.1, V.ref q.2))
theorem outK_isSome (z : List (Str × Addr)) (k : Str) : (valV (outK z) (Sum.inr k : Key)).isSome = decide (k ∈ z.map (·.1)) := by
  unfold outK
  rw [valV_dkv, lookup_isSome, List.map_map]
  rfl
theorem outK_get {z : List (Str × Addr)} (nd : (z.map (·.1)).Nodup) {q : Str × Addr} (h : q ∈ z) : valV (outK z) (Sum.inr q.1 : Key) = some (V.ref q.2) := by
  unfold outK
  rw [valV_dkv]
  refine lookup_mem_nd (by rw [List.map_map]; exact nd) (List.mem_map.mpr ⟨q, h, rfl⟩)
structure NrAt (H : Hp) (r : Addr) (z : List (Str × Addr)) (acc : List Tie) : Prop where
  at_ : H r = some (.dK (outK z))
  rows : ∀ q ∈ z, H q.2 = some (.dK (rowK (rowOf acc q.1)))
theorem NrAt.same {H H' : Hp} {r : Addr} {z : List (Str × Addr)} {acc : List Tie} (h : NrAt H r z acc) (s : Same H H') : NrAt H' r z acc := ⟨s _ _ h.at_, fun q hq => s _ _ (h.rows q hq)⟩
end Pw
set_option Elab.async false
set_option linter.all false
set_option maxRecDepth 100000
set_option maxHeartbeats 4000000
/-! name = a dict comprehension. -/
namespace Pw
open PySem PySem.Spec PyProof.Rows L2
section
variable {X : Cx}
theorem sw_trueD {kx vx : Expr} {gs : List Comprehension} {scope : Scope} {pos py : Pos} {y : Str} {l : Nat} {env : Env} (hk : env.scope.kind = .function) (hy : env.scope.names.lookup y = some .local) (hl : (py.line == pos.line) = true)
    (ha : (scope.names.any fun (n, k) => n == y && (k == .local || k == .cell)) = false) : swapsWith (.DictComp kx vx gs scope pos) (some (.Name y py)) l env = pure true := by
  have ky : env.kindOf y = some .local := hy
  have hb : env.blockKind = .function := by unfold Env.blockKind; rw [hk]; rfl
  unfold swapsWith
  simp only [hb, ky, ha, Expr.pos, hl]
  rfl
/-- name = {..} on one line, the name a local -/
theorem ps_setDc {i : Nat} {y : Str} {py : Pos} {kx vx tg iter : Expr} {ifs : List Expr} {scope : Scope} {own : List (Str × Nat)} {pos spos : Pos} {wi : TI} {g : TG} {tt : TT} {tk tv : TE} (hc : X.calm = true) (hN : X.N.Nodup) (hy : X.N[i]? = some y) (hyl : X.env.scope.names.lookup y = some .local)
    (hsw : swapsWith (.DictComp kx vx [⟨tg, iter, ifs, 0⟩] scope pos) (some (.Name y py)) spos.line X.env = pure true) (hi : PI X tg iter wi) (ok : BlkOk X.N X.env.scope scope own)
    (hg : ∀ (s : Shared) (H : Hp) (C : Addr) (cl : List (Str × Addr)) (fp : List Addr), PG (X.blk s H scope (compEnvC scope cl C X.env) fp) tg g) (ht : ∀ (s : Shared) (H : Hp) (C : Addr) (cl : List (Str × Addr)) (fp : List Addr), PTs (X.blk s H scope (compEnvC scope cl C X.env) fp) ifs tt)
    (hk : ∀ (s : Shared) (H : Hp) (C : Addr) (cl : List (Str × Addr)) (fp : List Addr), PE (X.blk s H scope (compEnvC scope cl C X.env) fp) kx tk)
    (he : ∀ (s : Shared) (H : Hp) (C : Addr) (cl : List (Str × Addr)) (fp : List Addr), PE (X.blk s H scope (compEnvC scope cl C X.env) fp) vx tv) (hs : ∀ x, foldedSetIterable iter X.env x = pure x := by intro _; rfl) :
    PS X (.Assign [.Name y py] (.DictComp kx vx [⟨tg, iter, ifs, 0⟩] scope pos) spos) (tAsg (tDc wi g tt tk tv (own.map (·.2))) (gName i)) := by
  refine ⟨fun pins s σ H D I h => ?_⟩
  rw [exec_Assign_Name_used _ _ _ _ hsw]
  refine wpAny_bind (wpAny_standAt (wpAny_bind ?_))
  show wpAny _ X.A (do let _ ← comprehension (.DictComp kx vx [⟨tg, iter, ifs, 0⟩] scope pos) scope X.env (firstIterPos [⟨tg, iter, ifs, 0⟩] pos) newDict false (eval iter X.env) (some (assign (.Name y py) X.env))) _ _ s
  have h : tDc wi g tt tk tv (own.map (·.2)) σ H (fun x H1 => gName i x σ H1 D.nx) := h
  refine wpAny_bind (thn (dc_core (Qf := fun _ s' => SP X pins D .next s') hc hN I hi ok hg ht hk he hs h fun L C s' m H' I' q hn f => ?_) fun _ s' hq => wpAny_pure (wpAny_pure hq))
  show wpAny _ _ (assign (.Name y py) X.env (.ref L)) _ _ _
  refine wpAny_assign_Name (store_ok2 (v := V.ref L) I' hN hy (.inl hyl) rfl (fun s2 I2 ⟨a, sb, ha⟩ => ?_) (.inr hyl))
  obtain ⟨f0, f1, f2, f3, f4, f5⟩ := f
  have haC : C ≠ a := by
    rcases ha with z | z
    · rw [z]; exact f1
    · exact fun e => f4 y a z e.symm
  refine ⟨m, hn.sameBut sb haC, fun h3 sb3 => ?_⟩
  exact ⟨_, H', I2.turned (t' := s2.toks) (fun b o hb e => (sb3.2 b hb).trans e) f0 f1 f3 f4 f5, q⟩
end
end Pw
set_option Elab.async false
set_option linter.all false
set_option maxRecDepth 100000
set_option maxHeartbeats 8000000
/-! Checked ties. -/
namespace Pw
open PySem PySem.Spec PyProof.Rows L2
section
variable {P : Program} {w : World} {K : PySem.W.Frag} {mg : Str → Option Value} {base : Heap}
def spCN (K : PySem.W.Frag) : Sp := fun vs H Q E => ∃ (t : Addr) (v : V) (d : Dt) (N : Addr → Prop) (ns : List Str), vs = [.ref t, v] ∧ H t = some (.tup (ns.map V.str)) ∧ ns.Nodup ∧ ns.length ≤ 100000 ∧ Rep K N H d v ∧ d.few ∧ match chkTies ns d with
  | .inl i => RaiseX K "BadTies" "index" (.int (i : Nat)) H E
  | .inr ts => AccOk ns ts → ∀ (r : Addr) (z : List (Str × Addr)) (H' : Hp), z.map (·.1) = ns → H r = none → Same H H' → NrAt H' r z ts → Q (.ref r) H'
theorem zz_snd {z : List (Str × Addr)} (zn : (z.map (·.2)).Nodup) {p q : Str × Addr} (hp : p ∈ z) (hq : q ∈ z) (e : p.2 = q.2) : p.1 = q.1 := by
  obtain ⟨i, hi, rfl⟩ := List.getElem_of_mem hp
  obtain ⟨j, hj, rfl⟩ := List.getElem_of_mem hq
  have : i = j := nd_get zn (x := z[i].2) (by rw [List.getElem?_map, List.getElem?_eq_getElem hi]; rfl) (by rw [List.getElem?_map, List.getElem?_eq_getElem hj, e]; rfl)
  subst this
  rfl
theorem zz_fst {z : List (Str × Addr)} (zn : (z.map (·.1)).Nodup) {p q : Str × Addr} (hp : p ∈ z) (hq : q ∈ z) (e : p.1 = q.1) : p.2 = q.2 := by
  obtain ⟨i, hi, rfl⟩ := List.getElem_of_mem hp
  obtain ⟨j, hj, rfl⟩ := List.getElem_of_mem hq
  have : i = j := nd_get zn (x := z[i].1) (by rw [List.getElem?_map, List.getElem?_eq_getElem hi]; rfl) (by rw [List.getElem?_map, List.getElem?_eq_getElem hj, e]; rfl)
  subst this
  rfl
theorem outK_dget {H : Hp} {r : Addr} {z : List (Str × Addr)} (h : H r = some (.dK (outK z))) (hzn : (z.map (·.1)).Nodup) {x : Str} {a : Addr} (hq : (x, a) ∈ z) : DGet H r (.str x) (some (.ref a)) := by
  have e := DGet.k (k := Sum.inr x) h
  rw [outK_get hzn hq] at e
  exact e
theorem NrAt.put {H : Hp} {r : Addr} {z : List (Str × Addr)} {acc : List Tie} (hN : NrAt H r z acc) (hzn : (z.map (·.1)).Nodup) (zn : (z.map (·.2)).Nodup) (zf : ∀ q ∈ z, q.2 ≠ r) {x y : Str} {a b : Addr} {h : Int} (ha : (x, a) ∈ z) (hb : (y, b) ∈ z) (hxy : x ≠ y) :
    NrAt (upd (upd H a (.dK (rowK (rowOf acc x ++ [(y, h)])))) b (.dK (rowK (rowOf acc y ++ [(x, h)])))) r z (acc ++ [(x, y, h)]) := by
  refine ⟨upd_at (upd_at hN.at_ (zf _ ha).symm) (zf _ hb).symm, fun q hq => ?_⟩
  rw [rowOf_snoc]
  dsimp only
  by_cases e1 : x = q.1
  · have e2 : a = q.2 := zz_fst hzn ha hq e1
    have e3 : q.2 ≠ b := fun e => hxy (by rw [e1]; exact zz_snd zn hq hb e)
    rw [if_pos e1]
    refine upd_at ?_ e3
    rw [← e2, ← e1]
    exact upd_same
  · rw [if_neg e1]
    have e3 : q.2 ≠ a := fun e => e1 (zz_snd zn ha hq e.symm)
    by_cases e2 : y = q.1
    · have e4 : b = q.2 := zz_fst hzn hb hq e2
      rw [if_pos e2, ← e4, ← e2]
      exact upd_same
    · have e4 : q.2 ≠ b := fun e => e2 (zz_snd zn hb hq e.symm)
      rw [if_neg e2, List.append_nil]
      exact upd_at (upd_at (hN.rows q hq) e3) e4
theorem chkT_none {ns : List Str} {i : Nat} {acc : List Tie} {d : Dt} {ds : List Dt} (h : tieOf d = none) : chkT ns i acc (d :: ds) = .inl i := by
  show (match tieOf d with | some t => _ | none => Sum.inl i) = _
  rw [h]
theorem chkT_bad {ns : List Str} {i : Nat} {acc : List Tie} {d : Dt} {ds : List Dt} {t : Tie} (h : tieOf d = some t) (hb : ¬ (t.1 ∈ ns ∧ t.2.1 ∈ ns ∧ t.1 ≠ t.2.1 ∧ pn t ∉ acc.map pn)) : chkT ns i acc (d :: ds) = .inl i := by
  show (match tieOf d with | some t => (if t.1 ∈ ns ∧ t.2.1 ∈ ns ∧ t.1 ≠ t.2.1 ∧ pn t ∉ acc.map pn then chkT ns (i + 1) (acc ++ [t]) ds else .inl i) | none => Sum.inl i) = _
  rw [h]
  exact if_neg hb
theorem chkT_good {ns : List Str} {i : Nat} {acc : List Tie} {d : Dt} {ds : List Dt} {t : Tie} (h : tieOf d = some t) (hb : t.1 ∈ ns ∧ t.2.1 ∈ ns ∧ t.1 ≠ t.2.1 ∧ pn t ∉ acc.map pn) : chkT ns i acc (d :: ds) = chkT ns (i + 1) (acc ++ [t]) ds := by
  show (match tieOf d with | some t => (if t.1 ∈ ns ∧ t.2.1 ∈ ns ∧ t.1 ≠ t.2.1 ∧ pn t ∉ acc.map pn then chkT ns (i + 1) (acc ++ [t]) ds else .inl i) | none => Sum.inl i) = _
  rw [h]
  exact if_pos hb
theorem tieOf_len {l : Bool} {ys : List Dt} (h : ys.length ≠ 3) : tieOf (.seq l ys) = none := by
  unfold tieOf
  split
  · rename_i e
    cases e
    exact absurd rfl h
  · rfl
theorem tieOf_int {l : Bool} {a b c : Dt} (h : c.isInt = false) : tieOf (.seq l [a, b, c]) = none := by
  cases c <;> first | (cases h; done) | (cases a <;> cases b <;> rfl)
theorem sq_ix {H : Hp} {p : Addr} {l : Bool} {xs : List V} {i : Nat} {v : V} {Q : VK} (h : H p = some (sqo l xs)) (e : xs[i]? = some v) (q : Q v H) : rIxL K (.ref p) (.int (i : Nat)) H Q ∨ rIxT K (.ref p) (.int (i : Nat)) H Q := by
  cases l with
  | true => exact .inl ⟨p, xs, _, v, rfl, rfl, SqL.of h, atI_nat e, q⟩
  | false => exact .inr ⟨p, xs, _, v, rfl, rfl, SqT.of h, atI_nat e, q⟩
theorem sq_g {H : Hp} {p : Addr} {l : Bool} {xs : List V} {n : Nat} {t : TGs} {σ : L2.St} {Q : L2.St → Hp → Prop} (h : H p = some (sqo l xs)) (e : xs.length = n) (q : t xs σ H Q) : gTup K n t (.ref p) σ H Q ∨ gLst K n t (.ref p) σ H Q := by
  cases l with
  | true => exact .inr ⟨p, xs, rfl, SqL.of h, e, q⟩
  | false => exact .inl ⟨p, xs, rfl, SqT.of h, e, q⟩
theorem sc_checked_near : FnScope ["places", "ties", "near", "place", "index", "thing", "one", "other", "height"] ["places", "ties"] (defScope s_checked_near) := ⟨rfl, rfl, rfl, by decide +kernel, rfl, by decide +kernel, by decide +kernel⟩
theorem ok_CN (T : Tx K mg) : Ok P w K mg base (L2.CX P w) 3 "checked_near" ["places", "ties"] (spCN K) := by
  have G_is_list : Ok P w K mg base CX0 1 _ _ _ := ok_is_list T
  have G_is_integer : Ok P w K mg base CX0 1 _ _ _ := ok_is_integer T
  have G_is_one_of : Ok P w K mg base CX0 1 _ _ _ := ok_is_one_of T
  have G_xTie : ExcOk P w K mg base "BadTies" "index" := ok_xTie T
  refine mkOkX (d := d_checked_near) T 9 11 rfl rfl rfl rfl rfl (fun _ _ _ _ _ _ us hl => match us, hl with | [_, _], _ => rfl) sc_checked_near (fun vs H Q E h => ?_) (fun f cdv A outer s H vs Q E hr h => ?_)
  · obtain ⟨t, v, d, N, ns, rfl, _⟩ := h
    rfl
  · obtain ⟨t, v, d, N, ns, rfl, ht, hnd, hln, hd, hf, k⟩ := h
    have nd := sc_checked_near.nd
    have hu := hu_of hr
    refine ⟨_, (pss_cons (ps_if (pt_not (pt_val (pe_ok G_is_list (hr.mono (by omega)) pass0 (pa_cons (pv 1) pa_nil)))) (pss_one (ps_rz G_xTie (hr.mono (by omega)) rfl (takes_of rfl rfl rfl rfl) pe_int)) pss_nil)
      (pss_cons (ps_setDc (i := 2) (own := [("place", 3)]) (by rfl) nd rfl rfl (sw_trueD rfl rfl rfl (by decide +kernel)) (k_pt (K := K) (pv 0)) (blkOk_by (own := [("place", 3)]) (N := ["places", "ties", "near", "place", "index", "thing", "one", "other", "height"]) (sc := (defScope s_checked_near)) (by decide +kernel)) (fun _ _ _ _ _ => (pg_name (i := 3) nd rfl (by first | exact Or.inl rfl | exact Or.inr rfl))) (fun _ _ _ _ _ => pts_nil) (fun _ _ _ _ _ => (pv 3)) (fun _ _ _ _ _ => pe_dnewK))
      (pss_cons (ps_for (passes_of rfl) rfl (pi_or (k_enum (K := K) (by rfl) T.enumerate (pa_cons (pv 1) pa_nil)) (k_enumT (K := K) (by rfl) T.enumerate (pa_cons (pv 1) pa_nil))) (k_tup (K := K) (n := 2) rfl (pgs_cons (pg_name (i := 4) nd rfl (Or.inl rfl)) (pgs_cons (pg_name (i := 5) nd rfl (Or.inl rfl)) pgs_nil)))
      (pss_cons (ps_if (PW.pt (pw_or (pt_not (pt_val (pe_ok G_is_list (hr.mono (by omega)) pass0 (pa_cons (pv 5) pa_nil)))) (pw_or (pt_cmpR op_ne (pe_callB (k_len (K := K)) (by rfl) T.len (by decide +kernel) (pa_cons (pv 5) pa_nil)) pe_int (nomark _)) (pw_or1 (pt_not (pt_val (pe_ok G_is_integer (hr.mono (by omega)) pass0 (pa_cons (pe_ix ((k_ixL (K := K)).or (k_ixT (K := K))) (pv 5) pe_int (fun _ _ => rfl)) pa_nil)))))))) (pss_one (ps_rz G_xTie (hr.mono (by omega)) rfl (takes_of rfl rfl rfl rfl) (pv 4))) pss_nil)
      (pss_cons (ps_asg (pv 5) (pg_or (k_tup (K := K) (n := 3) rfl (pgs_cons (pg_name (i := 6) nd rfl (Or.inl rfl)) (pgs_cons (pg_name (i := 7) nd rfl (Or.inl rfl)) (pgs_cons (pg_name (i := 8) nd rfl (Or.inl rfl)) pgs_nil)))) (k_lst (K := K) (n := 3) rfl (pgs_cons (pg_name (i := 6) nd rfl (Or.inl rfl)) (pgs_cons (pg_name (i := 7) nd rfl (Or.inl rfl)) (pgs_cons (pg_name (i := 8) nd rfl (Or.inl rfl)) pgs_nil))))))
      (pss_cons (ps_if (PW.pt (pw_or (pt_not (pt_val (pe_ok G_is_one_of (hr.mono (by omega)) pass0 (pa_cons (pv 2) (pa_cons (pv 6) pa_nil))))) (pw_or (pt_not (pt_val (pe_ok G_is_one_of (hr.mono (by omega)) pass0 (pa_cons (pv 2) (pa_cons (pv 7) pa_nil))))) (pw_or (pt_cmpR op_eq (pv 6) (pv 7) (nomark _)) (pw_or1 (pt_cmp (pc_din hu (pv 7) (pe_dget hu (pv 2) (pv 6) (fun _ _ => rfl))))))))) (pss_one (ps_rz G_xTie (hr.mono (by omega)) rfl (takes_of rfl rfl rfl rfl) (pv 4))) pss_nil)
      (pss_cons (ps_dput hu (pe_dget hu (pv 2) (pv 6) (fun _ _ => rfl)) (pv 7) (pv 8) rfl)
      (pss_one (ps_dput hu (pe_dget hu (pv 2) (pv 7) (fun _ _ => rfl)) (pv 6) (pv 8) rfl)))))))
      (pss_one (ps_ret (pv 2)))))), ?_⟩
    refine ⟨_, rfl, v, d, N, rfl, hd, fun H1 s1 => ?_⟩
    dsimp only
    cases hs : d.isSeq with
    | false =>
      have e0 : chkTies ns d = .inl 0 := by cases d <;> first | rfl | cases hs
      rw [e0] at k
      exact ⟨_, rfl, iteT (raise_ok (k.mono s1))⟩
    | true =>
    obtain ⟨l, xs, rfl⟩ : ∃ l xs, d = .seq l xs := by cases d <;> first | exact ⟨_, _, rfl⟩ | cases hs
    obtain ⟨p, vs, rfl, _, hp, hr0⟩ := hd
    refine ⟨_, rfl, iteF (next_i ?_)⟩
    dsimp only
    have lv := hr0.len
    -- the empty dicts
    refine viaS (t1 := tAsg _ _) (fun σ H4 => ∃ (v3 : Option V) (r : Addr) (z : List (Str × Addr)), σ = [some (.ref t), some (.ref p), some (.ref r), v3, none, none, none, none, none] ∧ Same H H4 ∧ H r = none ∧ z.map (·.1) = ns ∧ (z.map (·.2)).Nodup ∧ (∀ q ∈ z, H q.2 = none ∧ q.2 ≠ r) ∧ NrAt H4 r z []) (fun nx hn => ?_) ?_
    · refine ⟨_, rfl, t, rfl, ⟨_, SqT.of (s1 _ _ ht)⟩, fun r nr => ?_⟩
      have nr0 : H r = none := same_back s1 nr
      refine dc_it (walk_tup (xs := ns.map V.str)) (fun i H4 => ∃ (z : List (Str × Addr)), Same H H4 ∧ z.map (·.1) = ns.take i ∧ (z.map (·.2)).Nodup ∧ (∀ q ∈ z, H q.2 = none ∧ q.2 ≠ r) ∧ NrAt H4 r z [])
        ⟨[], same_trans s1 (same_new nr), rfl, List.nodup_nil, fun q h => (nomatch h), ⟨upd_same, fun q h => (nomatch h)⟩⟩ (fun i H4 _ ⟨_, sm, _⟩ => SqT.of (sm _ _ ht)) ?_ ?_
      · rintro i x H4 _ hi ⟨z, sm, hz, zn, zf, hN⟩ ⟨rfl, hx⟩
        obtain ⟨y, hy, rfl⟩ := map_get hx
        refine ⟨rfl, yesT ⟨_, rfl, fun a na => ?_⟩⟩
        have hra : r ≠ a := ne_of_none hN.at_ na
        have s5 : Same _ (upd _ a (.dK [])) := same_new na
        have hzi : z.length = i := by
          have := congrArg List.length hz
          rw [List.length_map, List.length_take] at this
          rw [List.length_map] at hi
          omega
        have hzy : y ∉ z.map (·.1) := by
          rw [hz]
          intro hin
          obtain ⟨j, hj, e⟩ := List.getElem_of_mem hin
          rw [List.getElem_take] at e
          rw [List.length_take] at hj
          have : ns[j]? = some y := by rw [← e]; exact List.getElem?_eq_getElem _
          have := nd_get hnd this hy
          omega
        refine ⟨_, Sum.inr y, rfl, s5 _ _ hN.at_, ?_, z ++ [(y, a)], same_mut (same_trans sm s5) nr0, ?_, ?_, ?_, ?_⟩
        · unfold outK dkv
          rw [List.length_map, List.length_map, hzi]
          rw [List.length_map] at hi
          exact Nat.lt_of_lt_of_le hi (Nat.le_trans hln (by decide))
        · rw [List.map_append, hz, take_snoc hy]
          rfl
        · rw [List.map_append]
          refine nodup_snoc zn fun hin => ?_
          obtain ⟨q, hq, e⟩ := List.mem_map.mp hin
          exact ne_of_none (hN.rows q hq) na e
        · intro q hq
          rcases List.mem_append.mp hq with hq | hq
          · exact zf q hq
          · rw [List.mem_singleton.mp hq]
            exact ⟨same_back sm na, hra.symm⟩
        · refine ⟨?_, fun q hq => ?_⟩
          · rw [upd_same]
            unfold outK
            rw [put_dkv (by rw [List.map_map]; exact hzy), List.map_append]
            rfl
          · rcases List.mem_append.mp hq with hq | hq
            · exact upd_at (s5 _ _ (hN.rows q hq)) (zf q hq).2
            · rw [List.mem_singleton.mp hq]
              exact upd_at upd_same hra.symm
      · rintro H4 ⟨z, sm, hz, zn, zf, hN⟩
        rw [List.length_map, List.take_length] at hz
        exact hn _ _ ⟨_, r, z, rfl, sm, nr0, hz, zn, zf, hN⟩
    rintro σ H2 ⟨v3, r, z, rfl, s02, nr0, hz, zn, zf, hN2⟩
    have hzn : (z.map (·.1)).Nodup := by rw [hz]; exact hnd
    refine viaS (t1 := tFor _ _ _) (fun σ H4 => ∃ (v4 v5 v6 v7 v8 : Option V) (acc : List Tie), σ = [some (.ref t), some (.ref p), some (.ref r), v3, v4, v5, v6, v7, v8] ∧ Same H H4 ∧ NrAt H4 r z acc ∧ AccOk ns acc ∧ chkT ns 0 [] xs = .inr acc) (fun nx hn => ?_) ?_
    · refine enumU (l := l) (p := p) (xs := vs) (s02 _ _ hp) (fun Q q => ⟨_, rfl, q⟩) fun J wk => ?_
      refine for_it wk (fun i σ H4 => ∃ (v4 v5 v6 v7 v8 : Option V) (acc : List Tie), σ = [some (.ref t), some (.ref p), some (.ref r), v3, v4, v5, v6, v7, v8] ∧ Same H H4 ∧ NrAt H4 r z acc ∧ AccOk ns acc ∧ acc.length = i ∧ chkT ns 0 [] xs = chkT ns i acc (xs.drop i))
        ⟨none, none, none, none, none, [], rfl, s02, hN2, .nil, rfl, rfl⟩ (fun i σ H4 _ ⟨_, _, _, _, _, _, _, sm, _⟩ => sm _ _ hp) ?_ ?_
      · rintro i x σ H4 _ hi ⟨v4, v5, v6, v7, v8, acc, rfl, sm, hN, hA, la, hc⟩ ⟨tp, x', y, rfl, nt, rfl, e1, e2⟩
        obtain rfl := Option.some.inj e1
        obtain ⟨dx, hdx, hrx⟩ := hr0.get e2
        have s5 : Same H4 _ := same_new (o := .tup [V.int (i : Nat), y]) nt
        have e5 : upd H4 tp (.tup [V.int (i : Nat), y]) tp = _ := upd_same
        generalize upd H4 tp (.tup [V.int (i : Nat), y]) = H5 at s5 e5 ⊢
        have s05 := same_trans sm s5
        refine ⟨tp, _, rfl, SqT.of e5, rfl, _, _, rfl, _, _, rfl, rfl, ?_⟩
        rw [List.drop_eq_getElem_cons (by omega), (List.getElem?_eq_some_iff.mp hdx).2] at hc
        have bad : chkT ns i acc (dx :: xs.drop (i + 1)) = .inl i → ∀ {H6 : Hp}, Same H H6 → RaiseX K "BadTies" "index" (.int (i : Nat)) H6 E := fun hb H6 s6 => by
          have e0 : chkTies ns (.seq l xs) = .inl i := hc.trans hb
          rw [e0] at k
          exact k.mono s6
        refine ⟨_, rfl, y, dx, N, rfl, hrx.same s05, fun H6 s6 => ?_⟩
        dsimp only
        have s06 := same_trans s05 s6
        cases hsx : dx.isSeq with
        | false =>
          refine ⟨_, rfl, iteT (iteT ⟨_, rfl, raise_ok (bad (chkT_none ?_) s06)⟩)⟩
          cases dx <;> first | rfl | cases hsx
        | true =>
        obtain ⟨l2, ys, rfl⟩ : ∃ l2 ys, dx = .seq l2 ys := by cases dx <;> first | exact ⟨_, _, rfl⟩ | cases hsx
        obtain ⟨q, ws, rfl, _, hq, hrw⟩ := hrx
        have hq6 : H6 q = some (sqo l2 ws) := s06 _ _ hq
        have lw := hrw.len
        refine ⟨_, rfl, iteF ?_⟩
        refine ⟨_, rfl, q, ws, rfl, sq_or hq6, rfl, _, rfl, ?_⟩
        by_cases h3 : ys.length = 3
        · obtain ⟨da, db, dc, rfl⟩ : ∃ a b c, ys = [a, b, c] := by
            match ys, h3 with
            | [a, b, c], _ => exact ⟨a, b, c, rfl⟩
          obtain ⟨va, _, rfl, ha, vb, _, rfl, hb, vc, _, rfl, hc', rfl⟩ := hrw
          refine iteF ⟨_, rfl, ?_⟩
          refine sq_ix hq6 (i := 2) rfl ?_
          refine ⟨vc, dc, N, rfl, hc'.same s06, _, rfl, ?_⟩
          cases hi3 : dc.isInt with
          | false =>
            exact iteT ⟨_, rfl, raise_ok (bad (chkT_none (tieOf_int hi3)) s06)⟩
          | true =>
          obtain ⟨h, rfl⟩ : ∃ h, dc = .int h := by cases dc <;> first | exact ⟨_, rfl⟩ | cases hi3
          obtain rfl : vc = V.int h := hc'
          refine iteF (next_i ?_)
          dsimp only
          refine ⟨_, rfl, sq_g hq6 rfl ?_⟩
          refine ⟨_, _, rfl, _, _, rfl, _, _, rfl, rfl, ?_⟩
          have hN6 : NrAt H6 r z acc := (hN.same s5).same s6
          refine ⟨_, rfl, _, rfl, va, da, N, r, outK z, rfl, hN6.at_, ha.same s06, ?_⟩
          have tno : ∀ {a b : Dt}, (∀ x y, ¬ (a = .str x ∧ b = .str y)) → tieOf (.seq l2 [a, b, .int h]) = none := fun {a b} hn => by
            unfold tieOf
            split
            · rename_i e
              cases e
              exact absurd ⟨rfl, rfl⟩ (hn _ _)
            · rfl
          cases da with
          | str x =>
            obtain rfl : va = V.str x := ha
            dsimp only
            rw [outK_isSome, hz]
            refine ⟨_, rfl, ?_⟩
            by_cases hx : x ∈ ns
            · rw [decide_eq_true hx]
              refine iteF ⟨_, rfl, _, rfl, vb, db, N, r, outK z, rfl, hN6.at_, hb.same s06, ?_⟩
              cases db with
              | str y =>
                obtain rfl : vb = V.str y := hb
                dsimp only
                rw [outK_isSome, hz]
                refine ⟨_, rfl, ?_⟩
                by_cases hy : y ∈ ns
                · rw [decide_eq_true hy]
                  refine iteF ⟨_, rfl, _, rfl, rfl, _, rfl, ?_⟩
                  by_cases hxy : x = y
                  · rw [decide_eq_true (show V.str x = V.str y by rw [hxy])]
                    exact iteT (iteT ⟨_, rfl, raise_ok (bad (chkT_bad (t := (x, y, h)) rfl fun z => z.2.2.1 hxy) s06)⟩)
                  rw [decide_eq_false (show ¬ V.str x = V.str y from fun z => hxy (V.str.inj z))]
                  obtain ⟨⟨x', a⟩, hqa, ea⟩ := List.mem_map.mp (show x ∈ z.map (·.1) by rw [hz]; exact hx)
                  obtain rfl : x' = x := ea
                  obtain ⟨⟨y', b⟩, hqb, eb⟩ := List.mem_map.mp (show y ∈ z.map (·.1) by rw [hz]; exact hy)
                  obtain rfl : y' = y := eb
                  have hrb : H6 b = some (.dK (rowK (rowOf acc y'))) := hN6.rows _ hqb
                  have hra : H6 a = some (.dK (rowK (rowOf acc x'))) := hN6.rows _ hqa
                  refine iteF ⟨_, rfl, _, rfl, _, rfl, r, _, rfl, outK_dget hN6.at_ hzn hqa, a, _, rfl, DGet.k (k := Sum.inr y') hra, _, rfl, ?_⟩
                  rw [rowK_isSome]
                  by_cases hin : y' ∈ (rowOf acc x').map (·.1)
                  · rw [decide_eq_true hin]
                    exact iteT ⟨_, rfl, raise_ok (bad (chkT_bad (t := (x', y', h)) rfl fun z => z.2.2.2 ((rowOf_key hA).mp hin)) s06)⟩
                  rw [decide_eq_false hin]
                  have hpn : pn (x', y', h) ∉ acc.map pn := fun z => hin ((rowOf_key hA).mpr z)
                  have hin2 : x' ∉ (rowOf acc y').map (·.1) := fun z => hpn (by
                    have := (rowOf_key hA).mp z
                    rwa [pr_comm] at this)
                  have hab : a ≠ b := fun e => hxy (zz_snd zn hqa hqb e)
                  have far := (zf _ hqa).2
                  have fbr := (zf _ hqb).2
                  have lx := rowOf_len acc x'
                  have ly := rowOf_len acc y'
                  have hfl := hf.1
                  refine iteF (next_i ?_)
                  refine ⟨_, rfl, _, rfl, _, rfl, r, _, rfl, outK_dget hN6.at_ hzn hqa, _, rfl, a, _, rfl, DPut.k (k := Sum.inr y') hra (by unfold rowK; rw [List.length_map]; exact Nat.lt_of_le_of_lt (show _ ≤ 100000 by omega) (by decide)), ?_⟩
                  rw [put_rowK hin]
                  refine ⟨_, rfl, _, rfl, _, rfl, r, _, rfl, outK_dget (upd_at hN6.at_ far.symm) hzn hqb, _, rfl, b, _, rfl, DPut.k (k := Sum.inr x') (upd_at hrb hab.symm) (by unfold rowK; rw [List.length_map]; exact Nat.lt_of_le_of_lt (show _ ≤ 100000 by omega) (by decide)), ?_⟩
                  rw [put_rowK hin2]
                  refine ⟨_, _, _, _, _, acc ++ [(x', y', h)], rfl, same_mut (same_mut s06 (zf _ hqa).1) (zf _ hqb).1, hN6.put hzn zn (fun q hq => (zf q hq).2) hqa hqb hxy, hA.snoc ⟨hx, hy, hxy, hpn⟩, by rw [List.length_append, la]; rfl, hc.trans (chkT_good (t := (x', y', h)) rfl ⟨hx, hy, hxy, hpn⟩)⟩
                · rw [decide_eq_false hy]
                  exact iteT (iteT ⟨_, rfl, raise_ok (bad (chkT_bad (t := (x, y, h)) rfl fun z => hy z.2.1) s06)⟩)
              | _ => exact ⟨_, rfl, iteT (iteT ⟨_, rfl, raise_ok (bad (chkT_none (tno fun _ _ z => by cases z.2)) s06)⟩)⟩
            · rw [decide_eq_false hx]
              refine iteT (iteT ⟨_, rfl, raise_ok (bad ?_ s06)⟩)
              cases db with
              | str y => exact chkT_bad (t := (x, y, h)) rfl fun z => hx z.1
              | _ => exact chkT_none (tno fun _ _ z => by cases z.2)
          | _ => exact ⟨_, rfl, iteT (iteT ⟨_, rfl, raise_ok (bad (chkT_none (tno fun _ _ z => by cases z.1)) s06)⟩)⟩
        · have e3 : (!decide (V.int (ws.length : Nat) = V.int 3)) = true := by
            rw [lw]
            have : ¬ V.int (ys.length : Nat) = V.int 3 := fun z => h3 (by have := V.int.inj z; omega)
            simp [this]
          rw [e3]
          exact iteT ⟨_, rfl, raise_ok (bad (chkT_none (tieOf_len h3)) s06)⟩
      · rintro σ H4 ⟨v4, v5, v6, v7, v8, acc, rfl, sm, hN, hA, la, hc⟩
        rw [lv, List.drop_length] at hc
        exact hn _ _ ⟨v4, v5, v6, v7, v8, acc, rfl, sm, hN, hA, hc⟩
    rintro σ H4 ⟨v4, v5, v6, v7, v8, acc, rfl, sm, hN, hA, hc⟩
    have e0 : chkTies ns (.seq l xs) = .inr acc := hc
    rw [e0] at k
    exact ⟨_, rfl, k hA r z H4 hz nr0 sm hN⟩
end
end Pw
set_option Elab.async false
set_option linter.all false
set_option maxRecDepth 100000
set_option maxHeartbeats 4000000
/-! What web places and ties make. -/
namespace Pw
open PySem PySem.Spec PyProof.Rows L2
abbrev SrtS (l : List Str) : Prop := l.Pairwise fun a b => ltS a b = true
theorem risingS_pw : ∀ (l : List Str) (x : Str), risingS x l = true → (∀ y ∈ l, ltS y x = false) ∧ l.Pairwise fun a b => ltS b a = false
  | [], x, _ => ⟨fun y h => (nomatch h), .nil⟩
  | y :: l, x, h => by
    have h' : (!ltCps y.cps.toList x.cps.toList && risingS y l) = true := h
    obtain ⟨h1, h2⟩ := Bool.and_eq_true_iff.mp h'
    have e1 : ltS y x = false := by
      rw [Bool.not_eq_true'] at h1
      rw [← h1]
      exact (lt_meets y x)
    obtain ⟨i1, i2⟩ := risingS_pw l y h2
    refine ⟨fun z hz => ?_, .cons i1 i2⟩
    rcases List.mem_cons.mp hz with rfl | hz
    · exact e1
    · have e2 := i1 z hz
      cases e3 : ltS z x with
      | false => rfl
      | true =>
        exfalso
        rcases ltS_tri y z with rfl | q | q
        · rw [e1] at e3
          cases e3
        · have := ltS_tr q e3
          rw [e1] at this
          cases this
        · rw [e2] at q
          cases q
theorem srt_of {l : List Str} (h : sortedS l = true) (nd : l.Nodup) : SrtS l := by
  have p : l.Pairwise fun a b => ltS b a = false := by
    cases l with
    | nil => exact .nil
    | cons x l =>
      obtain ⟨h1, h2⟩ := risingS_pw l x h
      exact .cons h1 h2
  refine (p.and nd).imp fun {a b} ⟨h1, h2⟩ => ?_
  rcases ltS_tri a b with e | e | e
  · exact absurd e h2
  · exact e
  · rw [e] at h1
    cases h1
theorem srt_uniq {α : Type} {r : α → α → Prop} (hi : ∀ a, ¬ r a a) (ht : ∀ a b, r a b → r b a → False) : ∀ {l m : List α}, l.Pairwise r → m.Pairwise r → (∀ x, x ∈ l ↔ x ∈ m) → l = m
  | [], [], _, _, _ => rfl
  | [], b :: m, _, _, h => by
    have := (h b).mpr List.mem_cons_self
    cases this
  | a :: l, [], _, _, h => by
    have := (h a).mp List.mem_cons_self
    cases this
  | a :: l, b :: m, hl, hm, h => by
    obtain ⟨l1, l2⟩ := List.pairwise_cons.mp hl
    obtain ⟨m1, m2⟩ := List.pairwise_cons.mp hm
    have e : a = b := by
      rcases List.mem_cons.mp ((h a).mp List.mem_cons_self) with e | e
      · exact e
      · rcases List.mem_cons.mp ((h b).mpr List.mem_cons_self) with e' | e'
        · exact e'.symm
        · exact absurd (l1 b e') fun z => ht _ _ z (m1 a e)
    subst e
    rw [srt_uniq hi ht l2 m2 fun x => ⟨fun hx => ?_, fun hx => ?_⟩]
    · rcases List.mem_cons.mp ((h x).mp (List.mem_cons_of_mem _ hx)) with e | e
      · subst e
        exact absurd (l1 _ hx) (hi _)
      · exact e
    · rcases List.mem_cons.mp ((h x).mpr (List.mem_cons_of_mem _ hx)) with e | e
      · subst e
        exact absurd (m1 _ hx) (hi _)
      · exact e
theorem ltS_asy {a b : Str} (h : ltS a b = true) (h' : ltS b a = true) : False := by
  have := ltS_tr h h'
  rw [ltS_irr] at this
  cases this
theorem srtS_uniq {l m : List Str} (hl : SrtS l) (hm : SrtS m) (h : ∀ x, x ∈ l ↔ x ∈ m) : l = m :=
  srt_uniq (fun a h => ltS_asy h h) (fun _ _ => ltS_asy) hl hm h
theorem srtS_nd {l : List Str} (h : SrtS l) : l.Nodup := h.imp fun {a b} h e => by
  subst e
  exact ltS_asy h h
/-- pairs whose texts rise -/
theorem srtP_uniq {α : Type} {l m : List (Str × α)} (hl : SrtS (l.map (·.1))) (hm : SrtS (m.map (·.1))) (h : ∀ x, x ∈ l ↔ x ∈ m) : l = m := by
  unfold SrtS at hl hm
  rw [List.pairwise_map] at hl hm
  exact srt_uniq (fun a h => ltS_asy h h) (fun _ _ => ltS_asy) hl hm h
structure SrtN (n : Near) : Prop where
  keys : SrtS (n.map (·.1))
  rows : ∀ q ∈ n, SrtS (q.2.map (·.1))
theorem SrtN.ok {n : Near} (h : SrtN n) : NearOk n := ⟨srtS_nd h.keys, fun q hq => srtS_nd (h.rows q hq)⟩
theorem sub_eq {l m : List Str} (nd : l.Nodup) (hl : l.length = m.length) (hs : ∀ x ∈ l, x ∈ m) : ∀ x ∈ m, x ∈ l := fun y hy => Classical.byContradiction fun hn => by
  have := nodup_le (l := y :: l) (m := m) (List.nodup_cons.mpr ⟨hn, nd⟩) fun x hx => by
    rcases List.mem_cons.mp hx with rfl | hx
    · exact hy
    · exact hs x hx
  rw [List.length_cons] at this
  omega
theorem eq_by {α : Type} {f : α → α → Bool} {l m : List (Str × α)} (hl : SrtS (l.map (·.1))) (hm : SrtS (m.map (·.1))) (hlen : l.length = m.length) (h : ∀ q ∈ l, ∃ v, m.lookup q.1 = some v ∧ v = q.2) : l = m := by
  have h1 : ∀ q ∈ l, q ∈ m := fun q hq => by
    obtain ⟨v, e1, e2⟩ := h q hq
    subst e2
    exact mem_of_lookup' e1
  refine srtP_uniq hl hm fun x => ⟨h1 x, fun hx => ?_⟩
  have hk := sub_eq (srtS_nd hl) (by rw [List.length_map, List.length_map]; exact hlen) (fun y hy => by
    obtain ⟨q, hq, rfl⟩ := List.mem_map.mp hy
    exact List.mem_map.mpr ⟨q, h1 q hq, rfl⟩) x.1 (List.mem_map.mpr ⟨x, hx, rfl⟩)
  obtain ⟨q, hq, e⟩ := List.mem_map.mp hk
  have e1 := lookup_mem_nd (srtS_nd hm) (show (q.1, q.2) ∈ m from h1 q hq)
  have e2 := lookup_mem_nd (srtS_nd hm) (show (x.1, x.2) ∈ m from hx)
  rw [e] at e1
  rw [e1] at e2
  have e3 : q.2 = x.2 := Option.some.inj e2
  have : q = x := Prod.ext e e3
  rw [← this]
  exact hq
theorem rowEq_eq {a b : Row} (ha : SrtS (a.map (·.1))) (hb : SrtS (b.map (·.1))) (h : rowEq a b = true) : a = b := by
  unfold rowEq at h
  obtain ⟨h1, h2⟩ := Bool.and_eq_true_iff.mp h
  refine eq_by (f := fun _ _ => true) ha hb (beq_iff_eq.mp h1) fun q hq => ?_
  have := List.all_eq_true.mp h2 q hq
  cases e : b.lookup q.1 with
  | none =>
    rw [e] at this
    cases this
  | some v =>
    rw [e] at this
    exact ⟨v, rfl, of_decide_eq_true this⟩
theorem nearEq_eq {n m : Near} (hn : SrtN n) (hm : SrtN m) : nearEq n m = decide (n = m) := by
  cases h : nearEq n m with
  | false =>
    refine (decide_eq_false fun e => ?_).symm
    subst e
    unfold nearEq at h
    have : (n.length == n.length && n.all fun q => (n.lookup q.1).any fun r => rowEq q.2 r) = true := by
      rw [Bool.and_eq_true, List.all_eq_true]
      refine ⟨by simp, fun q hq => ?_⟩
      rw [lookup_mem_nd hn.ok.nd (show (q.1, q.2) ∈ n from hq)]
      exact rowEq_refl (hn.ok.rows q hq)
    rw [this] at h
    cases h
  | true =>
    refine (decide_eq_true ?_).symm
    unfold nearEq at h
    obtain ⟨h1, h2⟩ := Bool.and_eq_true_iff.mp h
    refine eq_by (f := fun _ _ => true) hn.keys hm.keys (beq_iff_eq.mp h1) fun q hq => ?_
    have := List.all_eq_true.mp h2 q hq
    cases e : m.lookup q.1 with
    | none =>
      rw [e] at this
      cases this
    | some v =>
      rw [e] at this
      exact ⟨v, rfl, (rowEq_eq (hn.rows q hq) (hm.rows (q.1, v) (mem_of_lookup' e)) this).symm⟩
/-- the web that places and ties make -/
structure WebOf (ns : List Str) (ts : List Tie) (n : Near) : Prop where
  srt : SrtN n
  mem : ∀ x, x ∈ n.map (·.1) ↔ x ∈ ns
  tie : ∀ q ∈ n, ∀ y h, (y, h) ∈ q.2 ↔ ((q.1, y, h) ∈ ts ∨ (y, q.1, h) ∈ ts)
theorem WebOf.uniq {ns ns' : List Str} {ts ts' : List Tie} {n n' : Near} (w : WebOf ns ts n) (w' : WebOf ns' ts' n') (hns : ∀ x, x ∈ ns ↔ x ∈ ns') (hts : ∀ x y h, ((x, y, h) ∈ ts ∨ (y, x, h) ∈ ts) ↔ ((x, y, h) ∈ ts' ∨ (y, x, h) ∈ ts')) : n = n' := by
  have key : ∀ {ns ns' : List Str} {ts ts' : List Tie} {n n' : Near}, WebOf ns ts n → WebOf ns' ts' n' → (∀ x, x ∈ ns ↔ x ∈ ns') → (∀ x y h, ((x, y, h) ∈ ts ∨ (y, x, h) ∈ ts) ↔ ((x, y, h) ∈ ts' ∨ (y, x, h) ∈ ts')) → ∀ q, q ∈ n → q ∈ n' := by
    intro ns ns' ts ts' n n' w w' hns hts q hq
    have h1 : q.1 ∈ n'.map (·.1) := (w'.mem _).mpr ((hns _).mp ((w.mem _).mp (List.mem_map.mpr ⟨q, hq, rfl⟩)))
    obtain ⟨q', hq', e⟩ := List.mem_map.mp h1
    have : q.2 = q'.2 := by
      refine srtP_uniq (w.srt.rows q hq) (w'.srt.rows q' hq') fun ⟨y, h⟩ => ?_
      rw [w.tie q hq, w'.tie q' hq', e]
      exact hts _ _ _
    have : q = q' := Prod.ext e.symm this
    rw [this]
    exact hq'
  exact srtP_uniq w.srt.keys w'.srt.keys fun q => ⟨key w w' hns hts q, key w' w (fun x => (hns x).symm) (fun x y h => (hts x y h).symm) q⟩
end Pw
set_option Elab.async false
set_option linter.all false
set_option maxRecDepth 100000
set_option maxHeartbeats 8000000
/-! A web is made. -/
namespace Pw
open PySem PySem.Spec PyProof.Rows L2
/-- what Web(places, ties) comes to -/
inductive MkR where
  | places (i : Nat) | ties (i : Nat) | ok (ns : List Str) (ts : List Tie)
def chkW (d1 d2 : Dt) : MkR := match chkPlaces d1 with
  | .inl i => .places i
  | .inr ns => match chkTies ns d2 with
    | .inl i => .ties i
    | .inr ts => .ok ns ts
theorem chkT_mem {ns ms : List Str} (h : ∀ x, x ∈ ns ↔ x ∈ ms) : ∀ (ds : List Dt) (i : Nat) (acc : List Tie), chkT ns i acc ds = chkT ms i acc ds
  | [], _, _ => rfl
  | d :: ds, i, acc => by
    cases e : tieOf d with
    | none => rw [chkT_none e, chkT_none e]
    | some t =>
      by_cases hb : t.1 ∈ ns ∧ t.2.1 ∈ ns ∧ t.1 ≠ t.2.1 ∧ pn t ∉ acc.map pn
      · rw [chkT_good e hb, chkT_good e ⟨(h _).mp hb.1, (h _).mp hb.2.1, hb.2.2⟩]
        exact chkT_mem h ds _ _
      · rw [chkT_bad e hb, chkT_bad e fun z => hb ⟨(h _).mpr z.1, (h _).mpr z.2.1, z.2.2⟩]
theorem chkTies_mem {ns ms : List Str} (h : ∀ x, x ∈ ns ↔ x ∈ ms) (d : Dt) : chkTies ns d = chkTies ms d := by
  cases d <;> first | rfl | exact chkT_mem h _ _ _
theorem chkP_nd : ∀ (ds : List Dt) (i : Nat) (acc : List Str) {ns : List Str}, acc.Nodup → chkP i acc ds = .inr ns → ns.Nodup ∧ ns.length = acc.length + ds.length
  | [], i, acc, ns, h, e => by
    cases e
    exact ⟨h, rfl⟩
  | .str s :: ds, i, acc, ns, h, e => by
    have e' : (if isNm s = true ∧ s ∉ acc then chkP (i + 1) (acc ++ [s]) ds else .inl i) = .inr ns := e
    split at e'
    · rename_i c
      obtain ⟨h1, h2⟩ := chkP_nd ds _ _ (nodup_snoc h c.2) e'
      refine ⟨h1, ?_⟩
      rw [h2, List.length_append]
      show acc.length + 1 + ds.length = acc.length + (ds.length + 1)
      omega
    · cases e'
  | .non :: _, _, _, _, _, e => by cases e
  | .bl _ :: _, _, _, _, _, e => by cases e
  | .int _ :: _, _, _, _, _, e => by cases e
  | .seq _ _ :: _, _, _, _, _, e => by cases e
  | .dic _ :: _, _, _, _, _, e => by cases e
  | .web _ :: _, _, _, _, _, e => by cases e
theorem chkPlaces_nd {d : Dt} {ns : List Str} (hf : d.few) (e : chkPlaces d = .inr ns) : ns.Nodup ∧ ns.length ≤ 100000 := by
  cases d with
  | seq l xs =>
    obtain ⟨h1, h2⟩ := chkP_nd xs 0 [] List.nodup_nil e
    refine ⟨h1, ?_⟩
    rw [h2]
    have := hf.1
    show 0 + _ ≤ _
    omega
  | _ => cases e
theorem nd_take {l : List Str} (nd : l.Nodup) {j : Nat} {y : Str} (h : l[j]? = some y) : y ∉ l.take j := fun hin => by
  obtain ⟨i, hi, e⟩ := List.getElem_of_mem hin
  rw [List.getElem_take] at e
  rw [List.length_take] at hi
  have h2 : l[i]? = some y := by rw [← e]; exact List.getElem?_eq_getElem _
  have := nd_get nd h2 h
  omega
theorem nearK_dkv (z : List ((Str × Row) × Addr)) : nearK z = dkv (z.map fun q => (q.1.1, V.ref q.2)) := by
  unfold nearK dkv
  rw [List.map_map]
  rfl
theorem AccOk.mem_iff {ns ms : List Str} {ts : List Tie} (h : AccOk ns ts) (e : ∀ x, x ∈ ns ↔ x ∈ ms) : AccOk ms ts := ⟨fun t ht => ⟨(e _).mp (h.mem t ht).1, (e _).mp (h.mem t ht).2.1, (h.mem t ht).2.2⟩, h.nd⟩
/-- a row in order -/
def rowFor (ts : List Tie) (x : Str) (ks : List Str) : Row := ks.map fun y => (y, ((rowOf ts x).lookup y).getD 0)
theorem rowFor_keys (ts : List Tie) (x : Str) (ks : List Str) : (rowFor ts x ks).map (·.1) = ks := by
  unfold rowFor
  rw [List.map_map]
  exact List.map_id ks
theorem row_srt {ns : List Str} {ts : List Tie} (A : AccOk ns ts) {x : Str} {ks : List Str} (p : ks.Perm ((rowOf ts x).map (·.1))) (s : sortedS ks = true) : SrtS ((rowFor ts x ks).map (·.1)) ∧ ∀ y h, (y, h) ∈ rowFor ts x ks ↔ (y, h) ∈ rowOf ts x := by
  have nd := rowOf_nd A x
  refine ⟨?_, fun y h => ⟨fun hm => ?_, fun hm => ?_⟩⟩
  · rw [rowFor_keys]
    exact srt_of s (p.nodup_iff.mpr nd)
  · obtain ⟨z, hz, e⟩ := List.mem_map.mp hm
    cases e
    obtain ⟨⟨y, h⟩, hq, rfl⟩ := List.mem_map.mp (p.mem_iff.mp hz)
    rw [lookup_mem_nd nd hq]
    exact hq
  · refine List.mem_map.mpr ⟨y, p.mem_iff.mpr (List.mem_map.mpr ⟨_, hm, rfl⟩), ?_⟩
    rw [lookup_mem_nd nd hm]
    rfl
theorem chkT_len {ns : List Str} : ∀ (ds : List Dt) (i : Nat) (acc : List Tie) {ts : List Tie}, chkT ns i acc ds = .inr ts → ts.length = acc.length + ds.length
  | [], i, acc, ts, e => by
    cases e
    rfl
  | d :: ds, i, acc, ts, e => by
    cases et : tieOf d with
    | none =>
      rw [chkT_none et] at e
      cases e
    | some t =>
      by_cases hb : t.1 ∈ ns ∧ t.2.1 ∈ ns ∧ t.1 ≠ t.2.1 ∧ pn t ∉ acc.map pn
      · rw [chkT_good et hb] at e
        rw [chkT_len ds _ _ e, List.length_append]
        show acc.length + 1 + ds.length = acc.length + (ds.length + 1)
        omega
      · rw [chkT_bad et hb] at e
        cases e
theorem chkTies_len {ns : List Str} {d : Dt} {ts : List Tie} (hf : d.few) (e : chkTies ns d = .inr ts) : ts.length ≤ sizeLine := by
  cases d with
  | seq l xs =>
    have := chkT_len xs 0 [] e
    rw [this]
    exact Nat.le_trans (show 0 + xs.length ≤ 100000 by have := hf.1; omega) (by decide)
  | _ => cases e
section
variable {P : Program} {w : World} {K : PySem.W.Frag} {mg : Str → Option Value} {base : Heap}
/-- Web.__init__: H0 the heap ahead of the making -/
def spMk (K : PySem.W.Frag) : Sp := fun vs H Q E => ∃ (a dx : Addr) (v1 v2 : V) (d1 d2 : Dt) (N : Addr → Prop) (H0 : Hp), vs = [.ref a, v1, v2] ∧ H a = some (.ins (He.ga K "Web") dx []) ∧ Same H0 H ∧ H0 a = none ∧ Rep K N H0 d1 v1 ∧ Rep K N H0 d2 v2 ∧ d1.few ∧ d2.few ∧
  match chkW d1 d2 with
  | .places i => RaiseX K "BadPlaces" "index" (.int (i : Nat)) H0 E
  | .ties i => RaiseX K "BadTies" "index" (.int (i : Nat)) H0 E
  | .ok ns ts => AccOk ns ts → ∀ (n : Near) (H' : Hp), WebOf ns ts n → Same H0 H' → WebAt K (fun c => H0 c = none) H' a n → Q .non H'
theorem sc_Web_init : FnScope ["self", "places", "ties", "near", "one", "other"] ["self", "places", "ties"] (defScope s_Web_init) := ⟨rfl, rfl, rfl, by decide +kernel, rfl, by decide +kernel, by decide +kernel⟩
theorem ok_init (T : Tx K mg) : OkM P w K mg base (L2.CX P w) 4 "Web" "__init__" ["self", "places", "ties"] (spMk K) := by
  have G_checked_places : Ok P w K mg base (L2.CX P w) 3 _ _ _ := ok_CP T
  have G_checked_near : Ok P w K mg base (L2.CX P w) 3 _ _ _ := ok_CN T
  refine mkMX (d := d_Web_init) T 10 rfl rfl rfl rfl (fun _ _ _ _ _ _ us hl => match us, hl with | [_, _, _], _ => rfl) sc_Web_init (fun vs H Q E h => ?_) (fun f cdv A outer s H vs Q E hr h => ?_)
  · obtain ⟨a, dx, v1, v2, d1, d2, N, H0, rfl, _⟩ := h
    rfl
  · obtain ⟨a, dx, v1, v2, d1, d2, N, H0, rfl, ha, s0, na, hd1, hd2, hf1, hf2, k⟩ := h
    have nd := sc_Web_init.nd
    have hu := hu_of hr
    refine ⟨_, (pss_cons (ps_fld (pv 0) (pe_callTy (k_tuple (K := K)) (by rfl) T.tuple (by decide +kernel) (pa_cons (pe_ok G_checked_places (hr.mono (by omega)) (passes_call (takes_of rfl rfl rfl rfl) (fun _ _ _ _ h => h)) (pa_cons (pv 1) pa_nil)) pa_nil)) rfl)
      (pss_cons (ps_set (i := 3) nd rfl (Or.inr rfl) (pe_ok G_checked_near (hr.mono (by omega)) (passes_call (takes_of rfl rfl rfl rfl) (fun _ _ _ _ h => h)) (pa_cons (k_fld (K := K) (pv 0) rfl) (pa_cons (pv 2) pa_nil))))
      (pss_one (ps_fld (pv 0) (pe_dc (own := [("one", 4)]) (by rfl) nd (k_pt (K := K) (k_fld (K := K) (pv 0) rfl)) (blkOk_by (own := [("one", 4)]) (N := ["self", "places", "ties", "near", "one", "other"]) (sc := (defScope s_Web_init)) (by decide +kernel)) (fun _ _ _ _ _ => (pg_name (i := 4) nd rfl (by first | exact Or.inl rfl | exact Or.inr rfl))) (fun _ _ _ _ _ => pts_nil) (fun _ _ _ _ _ => (pv 4)) (fun _ _ _ _ _ => (pe_dc (own := [("other", 5)]) (by rfl) nd (k_pl (K := K) (pe_callB (cr_sortedDS rfl) (by rfl) T.sorted (by decide +kernel) (pa_cons (pe_dget hu (pv 3) (pv 4) (fun _ _ => rfl)) pa_nil))) (blkOk_rel (own := [("other", 5)]) (N := ["self", "places", "ties", "near", "one", "other"]) (outer := (defScope s_Web_init)) (by decide +kernel) rfl) (fun _ _ _ _ _ => (pg_name (i := 5) nd rfl (by first | exact Or.inl rfl | exact Or.inr rfl))) (fun _ _ _ _ _ => pts_nil) (fun _ _ _ _ _ => (pv 5)) (fun _ _ _ _ _ => (pe_dget hu (pe_dget hu (pv 3) (pv 4) (fun _ _ => rfl)) (pv 5) (fun _ _ => rfl)))))) rfl)))), ?_⟩
    unfold chkW at k
    -- the places
    refine ⟨_, rfl, v1, d1, N, rfl, hd1.same s0, hf1, ?_⟩
    cases hp : chkPlaces d1 with
    | inl i =>
      rw [hp] at k
      exact RaiseX.mono k s0
    | inr ns =>
    rw [hp] at k
    dsimp only at k ⊢
    intro ys p1 H1 py sy np1 s1 e1
    obtain ⟨hnd, hln⟩ := chkPlaces_nd hf1 hp
    have ndy : ys.Nodup := py.nodup_iff.mpr hnd
    have hmem : ∀ x, x ∈ ns ↔ x ∈ ys := fun x => py.mem_iff.symm
    refine ⟨p1, _, rfl, .inl ⟨SqL.of e1, fun t nt => ?_⟩⟩
    have s2 : Same H1 (upd H1 t (.tup (ys.map V.str))) := same_new nt
    have e2 : upd H1 t (.tup (ys.map V.str)) t = _ := upd_same
    generalize upd H1 t (.tup (ys.map V.str)) = H2 at s2 e2 ⊢
    have ha2 := s2 _ _ (s1 _ _ ha)
    have hat : a ≠ t := ne_of_none (s1 _ _ ha) nt
    refine ⟨_, rfl, a, _, dx, [], rfl, ha2, T.cls, T.nP, by decide, ?_⟩
    have s03 : Same H0 (upd H2 a (.ins (He.ga K "Web") dx [("own_places", V.ref t)])) := same_mut (same_trans s0 (same_trans s1 s2)) na
    have ea3 : upd H2 a (.ins (He.ga K "Web") dx [("own_places", V.ref t)]) a = _ := upd_same
    have et3 : upd H2 a (.ins (He.ga K "Web") dx [("own_places", V.ref t)]) t = _ := upd_at e2 hat.symm
    have nt0 : H0 t = none := same_back (same_trans s0 s1) nt
    show tSeq _ _ _ _ (upd H2 a (.ins (He.ga K "Web") dx [("own_places", V.ref t)]))
    generalize upd H2 a (.ins (He.ga K "Web") dx [("own_places", V.ref t)]) = H3 at s03 ea3 et3 ⊢
    -- the ties
    refine ⟨_, rfl, a, _, dx, _, V.ref t, rfl, ea3, T.cls, T.nP, rfl, _, rfl, t, v2, d2, N, ys, rfl, et3, ndy, by rw [py.length_eq]; exact hln, hd2.same s03, hf2, ?_⟩
    rw [← chkTies_mem hmem d2]
    cases ht : chkTies ns d2 with
    | inl i =>
      rw [ht] at k
      exact RaiseX.mono k s03
    | inr ts =>
    rw [ht] at k
    dsimp only at k ⊢
    intro hA r z H4 hz nr s4 hN
    have htl : ts.length ≤ sizeLine := chkTies_len hf2 ht
    refine gName_i ?_
    have s04 := same_trans s03 s4
    have hzn : (z.map (·.1)).Nodup := by rw [hz]; exact ndy
    refine ⟨_, rfl, a, _, dx, _, V.ref t, rfl, s4 _ _ ea3, T.cls, T.nP, rfl, t, rfl, ⟨_, SqT.of (s4 _ _ et3)⟩, fun D nD => ?_⟩
    have nD0 : H0 D = none := same_back s04 nD
    refine dc_it (walk_tup (xs := ys.map V.str)) (fun i H5 => ∃ zz : List ((Str × Row) × Addr), Same H4 H5 ∧ zz.map (·.1.1) = ys.take i ∧ H5 D = some (.dK (nearK zz)) ∧ (∀ q ∈ zz, (H0 q.2 = none ∧ q.2 ≠ D) ∧ H5 q.2 = some (.dK (rowK q.1.2))) ∧
        ∀ q ∈ zz, SrtS (q.1.2.map (·.1)) ∧ ∀ y h, (y, h) ∈ q.1.2 ↔ (y, h) ∈ rowOf ts q.1.1)
      ⟨[], same_new nD, rfl, upd_same, fun q h => (nomatch h), fun q h => (nomatch h)⟩ (fun i H5 _ ⟨_, sm, _⟩ => SqT.of (sm _ _ (s4 _ _ et3))) ?_ ?_
    · rintro i x _ H5 hi ⟨zz, sm, hzz, hD, hrow, hsrt⟩ ⟨rfl, hx⟩
      obtain ⟨x0, hx0, rfl⟩ := map_get hx
      clear hx
      have hx := hx0
      rw [List.length_map] at hi
      obtain ⟨⟨x', ax⟩, hqx, ex⟩ := List.mem_map.mp (show x0 ∈ z.map (·.1) by rw [hz]; exact List.mem_of_getElem? hx)
      obtain rfl : x' = x0 := ex
      have hN5 := hN.same sm
      have hrx : H5 ax = some (.dK (rowK (rowOf ts x'))) := hN5.rows _ hqx
      refine ⟨rfl, yesT ⟨_, rfl, ?_⟩⟩
      -- the row
      refine ⟨_, rfl, _, rfl, r, _, rfl, outK_dget hN5.at_ hzn hqx, ax, _, (rowOf ts x').map (·.1), rfl, .inl hrx, ?_, fun ks L pks sks nL => ?_⟩
      · unfold rowK
        rw [List.map_map, List.map_map]
        rfl
      have s6 : Same H5 (upd H5 L (.lst (ks.map V.str))) := same_new nL
      have e6 : upd H5 L (.lst (ks.map V.str)) L = _ := upd_same
      generalize upd H5 L (.lst (ks.map V.str)) = H6 at s6 e6 ⊢
      refine ⟨L, rfl, ⟨_, SqL.of e6⟩, fun D2 nD2 => ?_⟩
      obtain ⟨rs, rm⟩ := row_srt hA pks sks
      have hkl : ks.length ≤ sizeLine := by
        rw [pks.length_eq, List.length_map]
        exact Nat.le_trans (rowOf_len ts x') htl
      have hkr : (rowFor ts x' ks).map (·.1) = ks := rowFor_keys _ _ _
      have s06 := same_trans sm s6
      refine dc_it (walk_list (xs := ks.map V.str)) (fun j H7 => Same H6 H7 ∧ H7 D2 = some (.dK (rowK ((rowFor ts x' ks).take j)))) ⟨same_new nD2, upd_same⟩ (fun j H7 _ ⟨sm7, _⟩ => SqL.of (sm7 _ _ e6)) ?_ ?_
      · rintro j y _ H7 hj ⟨sm7, hD2⟩ ⟨rfl, hy⟩
        obtain ⟨y0, hy0, rfl⟩ := map_get hy
        clear hy
        have hy := hy0
        rw [List.length_map] at hj
        have hN7 := (hN.same s06).same sm7
        have hrx7 : H7 ax = some (.dK (rowK (rowOf ts x'))) := hN7.rows _ hqx
        have hyk : y0 ∈ (rowOf ts x').map (·.1) := pks.mem_iff.mp (List.mem_of_getElem? hy)
        have hry : (rowFor ts x' ks)[j]? = some (y0, ((rowOf ts x').lookup y0).getD 0) := by
          unfold rowFor
          rw [List.getElem?_map, hy]
          rfl
        refine ⟨rfl, yesT ⟨_, rfl, _, rfl, _, rfl, r, _, rfl, outK_dget hN7.at_ hzn hqx, _, rfl, ax, V.int (((rowOf ts x').lookup y0).getD 0), rfl, ?_, ?_⟩⟩
        · have e := DGet.k (k := Sum.inr y0) hrx7
          rw [valV_rowK] at e
          have e2 := lookup_isSome (rowOf ts x') y0
          rw [decide_eq_true hyk] at e2
          obtain ⟨h, eh⟩ := Option.isSome_iff_exists.mp e2
          rw [eh] at e ⊢
          exact e
        · refine ⟨_, Sum.inr y0, rfl, hD2, ?_, same_mut sm7 nD2, ?_⟩
          · unfold rowK
            rw [List.length_map, List.length_take]
            exact Nat.lt_of_le_of_lt (Nat.min_le_left _ _) (Nat.lt_of_lt_of_le hj hkl)
          · rw [put_rowK, upd_same, take_snoc hry]
            intro hin
            rw [List.map_take, hkr] at hin
            exact nd_take ((pks.nodup_iff).mpr (rowOf_nd hA x')) hy hin
      · rintro H7 ⟨sm7, hD2⟩
        rw [List.length_map, show ks.length = (rowFor ts x' ks).length by unfold rowFor; rw [List.length_map], List.take_length] at hD2
        have s57 := same_trans s6 sm7
        have nD20 : H0 D2 = none := same_back (same_trans s04 s06) nD2
        have hDD : D2 ≠ D := (ne_of_none (s6 _ _ hD) nD2).symm
        have hzi : zz.length = i := by
          have := congrArg List.length hzz
          rw [List.length_map, List.length_take] at this
          omega
        have hfresh : x' ∉ (zz.map fun q => (q.1.1, V.ref q.2)).map (·.1) := by
          rw [List.map_map]
          intro hin
          have hin' : x' ∈ zz.map (·.1.1) := hin
          rw [hzz] at hin'
          exact nd_take ndy hx hin'
        refine ⟨_, Sum.inr x', rfl, s57 _ _ hD, ?_, zz ++ [((x', rowFor ts x' ks), D2)], same_mut (same_trans sm s57) nD, ?_, ?_, ?_, ?_⟩
        · unfold nearK
          rw [List.length_map, hzi]
          exact Nat.lt_of_lt_of_le hi (by rw [py.length_eq]; exact Nat.le_trans hln (by decide))
        · rw [List.map_append, hzz, take_snoc hx]
          rfl
        · rw [upd_same, nearK_dkv, put_dkv hfresh, nearK_dkv, List.map_append]
          rfl
        · intro q hq
          rcases List.mem_append.mp hq with hq | hq
          · obtain ⟨h1, h2⟩ := hrow q hq
            exact ⟨h1, upd_at (s57 _ _ h2) h1.2⟩
          · rw [List.mem_singleton.mp hq]
            exact ⟨⟨nD20, hDD⟩, upd_at hD2 hDD⟩
        · intro q hq
          rcases List.mem_append.mp hq with hq | hq
          · exact hsrt q hq
          · rw [List.mem_singleton.mp hq]
            exact ⟨rs, rm⟩
    · rintro H5 ⟨zz, sm, hzz, hD, hrow, hsrt⟩
      rw [List.length_map, List.take_length] at hzz
      have s05 := same_trans s04 sm
      have ea5 := sm _ _ (s4 _ _ ea3)
      have et5 := sm _ _ (s4 _ _ et3)
      have hDa : D ≠ a := (ne_of_none (s4 _ _ ea3) nD).symm
      have hkeys : (zz.map (·.1)).map (·.1) = ys := by
        rw [List.map_map]
        exact hzz
      have hsn : SrtN (zz.map (·.1)) := ⟨by rw [hkeys]; exact srt_of sy ndy, fun q hq => by
        obtain ⟨p, hp, rfl⟩ := List.mem_map.mp hq
        exact (hsrt p hp).1⟩
      refine ⟨_, rfl, a, _, dx, _, rfl, ea5, T.cls, T.nN, by show 1 < 1000; decide, ?_⟩
      refine k (hA.mem_iff fun x => (hmem x).symm) (zz.map (·.1)) _ ⟨hsn, fun x => ?_, fun q hq y h => ?_⟩ (same_mut s05 na) ⟨dx, t, D, upd_same, nt0, nD0, ?_, ⟨zz, rfl, upd_at hD hDa, fun q hq => ⟨(hrow q hq).1.1, upd_at (hrow q hq).2 (fun e => ?_)⟩⟩, hsn.ok⟩
      · rw [hkeys]
        exact (hmem x).symm
      · obtain ⟨p, hp, rfl⟩ := List.mem_map.mp hq
        rw [(hsrt p hp).2, rowOf_mem hA]
      · rw [upd_at et5 hat.symm, ← hkeys, List.map_map]
        rfl
      · have := (hrow q hq).2
        rw [e, ea5] at this
        cases this
end
end Pw
set_option Elab.async false
set_option linter.all false
set_option maxRecDepth 100000
set_option maxHeartbeats 8000000
/-! A web's methods. -/
namespace Pw
open PySem PySem.Spec PyProof.Rows L2
def tiesN (n : Near) : List Tie := n.flatMap fun q => (q.2.filter fun r => ltS q.1 r.1).map fun r => (q.1, r.1, r.2)
def dPair (r : Str × Int) : Dt := .seq false [.str r.1, .int r.2]
def dRowP (r : Row) : Dt := .seq true (r.map dPair)
theorem near_dget {H : Hp} {d : Addr} {z : List ((Str × Row) × Addr)} (h : H d = some (.dK (nearK z))) (nd : ((z.map (·.1)).map (·.1)).Nodup) {p : (Str × Row) × Addr} (hp : p ∈ z) : DGet H d (.str p.1.1) (some (.ref p.2)) := by
  have e : nearK z = outK (z.map fun q => (q.1.1, q.2)) := by
    unfold nearK outK dkv
    rw [List.map_map, List.map_map]
    rfl
  rw [e] at h
  refine outK_dget h ?_ (List.mem_map.mpr ⟨p, hp, rfl⟩)
  rw [List.map_map]
  rw [List.map_map] at nd
  exact nd
theorem map_get' {α β : Type} {f : α → β} {l : List α} {i : Nat} {b : β} (h : (l.map f)[i]? = some b) : ∃ a, l[i]? = some a ∧ f a = b := by
  rw [List.getElem?_map] at h
  exact Option.map_eq_some_iff.mp h
theorem near_row {z : List ((Str × Row) × Addr)} {r : Row} (hz : z ≠ []) (e : nearK z = rowK r) : False := by
  cases z with
  | nil => exact hz rfl
  | cons p z =>
    cases r with
    | nil => cases e
    | cons q r =>
      unfold nearK rowK at e
      rw [List.map_cons, List.map_cons] at e
      injection e with e1 _
      injection e1 with _ e2
      cases e2
def tiesR (q : Str × Row) : List Tie := (q.2.filter fun r => ltS q.1 r.1).map fun r => (q.1, r.1, r.2)
theorem tiesN_snoc {n : Near} {q : Str × Row} : tiesN (n ++ [q]) = tiesN n ++ tiesR q := by
  unfold tiesN tiesR
  rw [List.flatMap_append, List.flatMap_singleton]
theorem tiesN_len : ∀ {n : Near}, (∀ q ∈ n, q.2.length ≤ 1000) → (tiesN n).length ≤ n.length * 1000
  | [], _ => Nat.zero_le _
  | q :: n, h => by
    have ih := tiesN_len (n := n) fun q hq => h q (List.mem_cons_of_mem _ hq)
    have h1 := h q List.mem_cons_self
    have h2 : (tiesN (q :: n)).length = (tiesR q).length + (tiesN n).length := by
      unfold tiesN tiesR
      rw [List.flatMap_cons, List.length_append]
    have h3 : (tiesR q).length ≤ q.2.length := by
      unfold tiesR
      rw [List.length_map]
      exact List.length_filter_le _ _
    rw [h2, List.length_cons]
    omega
theorem rep_pairs {K : PySem.W.Frag} {N : Addr → Prop} {H : Hp} : ∀ (r : Row) (ts : List Addr), (∀ t ∈ ts, N t) → Paired (fun (t : Addr) (q : Key × V) => H t = some (.tup [kV q.1, q.2])) ts (rowK r) → RepL K N H (r.map dPair) (ts.map V.ref)
  | [], ts, _, h => by
    cases h
    exact RepL.nil
  | (x, i) :: r, ts, hn, h => by
    cases h with
    | cons e h =>
      rename_i t ts
      exact ⟨_, _, rfl, ⟨t, _, rfl, hn t List.mem_cons_self, e, _, _, rfl, rfl, _, _, rfl, rfl, rfl⟩, rep_pairs r ts (fun u hu => hn u (List.mem_cons_of_mem _ hu)) h⟩
section
variable {P : Program} {w : World} {K : PySem.W.Frag} {mg : Str → Option Value} {base : Heap}
def spPl (K : PySem.W.Frag) : Sp := fun vs H Q _ => ∃ (a : Addr) (n : Near) (N : Addr → Prop), vs = [.ref a] ∧ WebAt K N H a n ∧ ∀ p, H p = none → Q (.ref p) (upd H p (.lst (n.map fun q => V.str q.1)))
def spTi (K : PySem.W.Frag) : Sp := fun vs H Q _ => ∃ (a : Addr) (n : Near) (N : Addr → Prop), vs = [.ref a] ∧ WebAt K N H a n ∧ n.length ≤ 1000 ∧ (∀ q ∈ n, q.2.length ≤ 1000) ∧ ∀ H' v, Same H H' → Rep K (Fr H) H' (dTies (tiesN n)) v → Q v H'
def spTo (K : PySem.W.Frag) : Sp := fun vs H Q E => ∃ (a : Addr) (n : Near) (N M : Addr → Prop) (v : V) (d : Dt), vs = [.ref a, v] ∧ WebAt K N H a n ∧ Rep K M H d v ∧
  ((∃ q ∈ n, d = .str q.1 ∧ ∀ H' u, Same H H' → Rep K (Fr H) H' (dRowP q.2) u → Q u H') ∨ ((∀ q ∈ n, d ≠ .str q.1) ∧ RaiseX K "NoPlace" "thing" v H E))
def spEq (K : PySem.W.Frag) : Sp := fun vs H Q _ => ∃ (a : Addr) (n : Near) (N M : Addr → Prop) (v : V) (d : Dt), vs = [.ref a, v] ∧ WebAt K N H a n ∧ Rep K M H d v ∧ Q (.bl (match d with | .web m => nearEq n m | _ => false)) H
theorem sc_Web_places : FnScope ["self"] ["self"] (defScope s_Web_places) := ⟨rfl, rfl, rfl, by decide +kernel, rfl, by decide +kernel, by decide +kernel⟩
theorem sc_Web_ties : FnScope ["self", "found", "one", "other"] ["self"] (defScope s_Web_ties) := ⟨rfl, rfl, rfl, by decide +kernel, rfl, by decide +kernel, by decide +kernel⟩
theorem sc_Web_ties_of : FnScope ["self", "place"] ["self", "place"] (defScope s_Web_ties_of) := ⟨rfl, rfl, rfl, by decide +kernel, rfl, by decide +kernel, by decide +kernel⟩
theorem sc_Web_eq : FnScope ["self", "other"] ["self", "other"] (defScope s_Web_eq) := ⟨rfl, rfl, rfl, by decide +kernel, rfl, by decide +kernel, by decide +kernel⟩
theorem ok_places (T : Tx K mg) : OkM P w K mg base CX0 1 "Web" "places" ["self"] (spPl K) := by
  refine mkM (d := d_Web_places) T 11 rfl rfl rfl rfl (fun _ _ _ _ _ _ us hl => match us, hl with | [_], _ => rfl) sc_Web_places (fun vs H Q E h => ?_) (fun f cdv A outer s H vs Q E hr h => ?_)
  · obtain ⟨a, n, N, rfl, _⟩ := h
    rfl
  · obtain ⟨a, n, N, rfl, hw, k⟩ := h
    have nd := sc_Web_places.nd
    refine ⟨_, (pss_one (ps_ret (pe_callTy (k_list (K := K)) (by rfl) T.list (by decide +kernel) (pa_cons (k_fld (K := K) (pv 0) rfl) pa_nil)))), ?_⟩
    obtain ⟨dx, t, dd, h1, h2, h3, h4, h5, h6⟩ := hw
    exact ⟨_, rfl, a, _, dx, _, _, rfl, h1, T.cls, T.nP, rfl, t, _, rfl, .inr (SqT.of h4), k⟩
theorem ok_eq (T : Tx K mg) : OkM P w K mg base CX0 1 "Web" "__eq__" ["self", "other"] (spEq K) := by
  refine mkM (d := d_Web_eq) T 14 rfl rfl rfl rfl (fun _ _ _ _ _ _ us hl => match us, hl with | [_, _], _ => rfl) sc_Web_eq (fun vs H Q E h => ?_) (fun f cdv A outer s H vs Q E hr h => ?_)
  · obtain ⟨a, n, N, M, v, d, rfl, _⟩ := h
    rfl
  · obtain ⟨a, n, N, M, v, d, rfl, hw, hd, k⟩ := h
    have nd := sc_Web_eq.nd
    have hu2 := Nat.lt_of_le_of_lt (Nat.add_le_add_left (by decide : 2 ≤ 64) _) hr.units
    refine ⟨_, (pss_one (ps_ret (pe_and (pe_callB (k_isi (K := K)) (by rfl) T.isinstance (by decide +kernel) (pa_cons (pv 1) (pa_cons (pe_glob (v := .ref (He.ga K "Web")) rfl (T.glo 12) rfl) pa_nil))) (pe_one (pe_cmpR (op_eqNear hu2) (k_fld (K := K) (pv 0) rfl) (k_fld (K := K) (pv 1) rfl) (nomark _)))))), ?_⟩
    obtain ⟨dx, t, dd, h1, h2, h3, h4, h5, h6⟩ := hw
    refine ⟨_, rfl, v, _, _, _, _, rfl, .own _, hd.ty T, d.kitW T, ?_⟩
    cases d with
    | web m =>
      obtain ⟨p, rfl, _, dx', t', dd', h1', h2', h3', h4', h5', h6'⟩ := hd
      exact ⟨_, rfl, iteT ⟨_, rfl, a, _, dx, _, _, rfl, h1, T.cls, T.nN, rfl, _, rfl, p, _, dx', _, _, rfl, h1', T.cls, T.nN, rfl, N, M, _, _, n, m, rfl, rfl, h5, h5', h6, k⟩⟩
    | _ => exact ⟨_, rfl, iteF k⟩
theorem ok_ties_of (T : Tx K mg) : OkM P w K mg base (L2.CX P w) 3 "Web" "ties_of" ["self", "place"] (spTo K) := by
  have G_is_one_of : Ok P w K mg base CX0 1 _ _ _ := ok_is_one_of T
  have G_xNoP : ExcOk P w K mg base "NoPlace" "thing" := ok_xNo T
  refine mkMX (d := d_Web_ties_of) T 13 rfl rfl rfl rfl (fun _ _ _ _ _ _ us hl => match us, hl with | [_, _], _ => rfl) sc_Web_ties_of (fun vs H Q E h => ?_) (fun f cdv A outer s H vs Q E hr h => ?_)
  · obtain ⟨a, n, N, M, v, d, rfl, _⟩ := h
    rfl
  · obtain ⟨a, n, N, M, v, d, rfl, hw, hd, k⟩ := h
    have nd := sc_Web_ties_of.nd
    have hu := hu_of hr
    refine ⟨_, (pss_cons (ps_if (pt_not (pt_val (pe_ok G_is_one_of (hr.mono (by omega)) pass0 (pa_cons (k_fld (K := K) (pv 0) rfl) (pa_cons (pv 1) pa_nil))))) (pss_one (ps_rz G_xNoP (hr.mono (by omega)) rfl (takes_of rfl rfl rfl rfl) (pv 1))) pss_nil)
      (pss_one (ps_ret (LiI.pe_listItems rfl (pe_dget hu (k_fld (K := K) (pv 0) rfl) (pv 1) (fun _ _ => rfl)) (by rfl) T.list (by decide +kernel))))), ?_⟩
    obtain ⟨dx, t, dd, h1, h2, h3, h4, ⟨z, rfl, hz, hrows⟩, h6⟩ := hw
    refine ⟨_, rfl, a, _, dx, _, _, rfl, h1, T.cls, T.nN, rfl, _, rfl, v, d, M, dd, nearK z, rfl, hz, hd, ?_⟩
    rcases k with ⟨q, hq, rfl, k⟩ | ⟨hno, k⟩
    · obtain ⟨p, hp, rfl⟩ := List.mem_map.mp hq
      obtain rfl : v = V.str p.1.1 := hd
      have e := near_none p.1.1 z
      rw [lookup_mem_nd h6.nd hq] at e
      dsimp only
      rw [e]
      refine ⟨_, rfl, iteF (next_i ?_)⟩
      refine ⟨_, rfl, a, _, dx, _, _, rfl, h1, T.cls, T.nN, rfl, _, rfl, dd, _, rfl, near_dget hz h6.nd hp, p.2, _, rfl, (hrows p hp).2, fun H' p' ts' sm np nts hpn hp' hpr => ?_⟩
      refine k H' _ sm ⟨p', _, rfl, np, hp', ?_⟩
      exact rep_pairs p.1.2 ts' nts hpr
    · have fin : ∀ b, b = false → True := fun _ _ => trivial
      cases d with
      | str x =>
        obtain rfl : v = V.str x := hd
        have e := near_none x z
        rw [lookup_none (fun hin => by
          obtain ⟨q, hq, rfl⟩ := List.mem_map.mp hin
          exact hno q hq rfl)] at e
        dsimp only
        rw [e]
        exact ⟨_, rfl, iteT ⟨_, rfl, raise_ok k⟩⟩
      | _ => exact ⟨_, rfl, iteT ⟨_, rfl, raise_ok k⟩⟩
theorem ok_ties (T : Tx K mg) : OkM P w K mg base CX0 1 "Web" "ties" ["self"] (spTi K) := by
  refine mkM (d := d_Web_ties) T 12 rfl rfl rfl rfl (fun _ _ _ _ _ _ us hl => match us, hl with | [_], _ => rfl) sc_Web_ties (fun vs H Q E h => ?_) (fun f cdv A outer s H vs Q E hr h => ?_)
  · obtain ⟨a, n, N, rfl, _⟩ := h
    rfl
  · obtain ⟨a, n, N, rfl, hw, hn1, hn2, k⟩ := h
    have nd := sc_Web_ties.nd
    have hu := hu_of hr
    refine ⟨_, (pss_cons (ps_set (i := 1) nd rfl (Or.inl rfl) (pe_lst pa_nil))
      (pss_cons (ps_for PassesOwn.never rfl (k_pt (K := K) (k_fld (K := K) (pv 0) rfl)) (pg_name (i := 2) nd rfl (Or.inr rfl))
      (pss_one (ps_expr (k_bm (K := K) PySem.F.plainAttrs_list PySem.F.slot_list_extend PySem.F.type_list_extend mt_extend (pv 1) (pa_cons (pe_lock (pe_lc (own := [("other", 3)]) (by rfl) nd (pi_keys (pe_dget hu (k_fld (K := K) (pv 0) rfl) (pv 2) (fun _ _ => rfl))) (blkOk_by (own := [("other", 3)]) (N := ["self", "found", "one", "other"]) (sc := (defScope s_Web_ties)) (by decide +kernel)) (fun _ _ _ _ _ => (pg_name (i := 3) nd rfl (by first | exact Or.inl rfl | exact Or.inr rfl))) (fun _ _ _ _ _ => (pts_one (pt_cmpR op_lt_str (pv 2) (pv 3) (nomark _)))) (fun _ _ _ _ _ => (pe_tup (pa_cons (pv 2) (pa_cons (pv 3) (pa_cons (pe_dget hu (pe_dget hu (k_fld (K := K) (pv 0) rfl) (pv 2) (fun _ _ => rfl)) (pv 3) (fun _ _ => rfl)) pa_nil))))))) pa_nil)))))
      (pss_one (ps_ret (pv 1))))), ?_⟩
    obtain ⟨dx, t, dd, h1, h2, h3, h4, ⟨z, rfl, hz, hrows⟩, h6⟩ := hw
    refine ⟨by show 0 ≤ sizeLine; decide, ?_⟩
    intro l n_l
    have e_l : upd H l (.lst []) l = some (.lst []) := upd_same
    have s_l : Same H (upd H l (.lst [])) := same_new n_l
    generalize upd H l (.lst []) = H2 at e_l s_l ⊢
    refine gName_i ?_
    dsimp only
    have hknd : ((z.map (·.1)).map (·.1)).Nodup := h6.nd
    refine viaS (t1 := tFor _ _ _) (fun σ H4 => ∃ (v2 : Option V) (vs : List V), σ = [some (.ref a), some (.ref l), v2, none] ∧ Same H H4 ∧ H4 l = some (.lst vs) ∧ RepL K (fun c => H c = none ∧ c ≠ l) H4 ((tiesN (z.map (·.1))).map dTie) vs) (fun nx hn => ?_) ?_
    · refine ⟨_, rfl, a, _, dx, _, _, rfl, s_l _ _ h1, T.cls, T.nP, rfl, t, rfl, ⟨_, SqT.of (s_l _ _ h4)⟩, ?_⟩
      refine for_it (walk_tup (xs := (z.map (·.1)).map fun q => V.str q.1)) (fun i σ H4 => ∃ (v2 : Option V) (vs : List V), σ = [some (.ref a), some (.ref l), v2, none] ∧ Same H H4 ∧ H4 l = some (.lst vs) ∧ RepL K (fun c => H c = none ∧ c ≠ l) H4 ((tiesN ((z.map (·.1)).take i)).map dTie) vs)
        ⟨none, [], rfl, s_l, e_l, RepL.nil⟩ (fun i σ H4 _ ⟨_, _, _, sm, _⟩ => SqT.of (sm _ _ h4)) ?_ ?_
      · rintro i x σ H4 H5 hi ⟨v2, vs, rfl, sm, hl, hr⟩ ⟨rfl, hx⟩
        obtain ⟨q, hq, rfl⟩ := map_get hx
        obtain ⟨p, hp, rfl⟩ := map_get hq
        have hpz : p ∈ z := List.mem_of_getElem? hp
        refine gName_i ?_
        have har := sm _ _ (hrows p hpz).2
        have hai : l ≠ p.2 := fun e => by
          rw [← e, hl] at har
          cases har
        refine ⟨_, rfl, .inl ⟨rfl, vs, SqL.of hl⟩, p.2, _, har, trivial, fun od => ?_⟩
        have hdd := sm _ _ hz
        have hda : dd ≠ p.2 := fun e => by
          rw [← e, hdd] at har
          have e2 : nearK z = rowK p.1.2 := by
            have z := Option.some.inj har
            injection z
          exact near_row (fun e => by rw [e] at hpz; cases hpz) e2
        have haa := sm _ _ h1
        have hap : a ≠ p.2 := fun e => by
          rw [← e, haa] at har
          cases har
        refine ⟨_, rfl, a, _, dx, _, _, rfl, upd_at haa hap, T.cls, T.nN, rfl, _, rfl, dd, _, rfl, near_dget (upd_at hdd hda) hknd hpz, p.2, od, rfl, .inl ⟨_, upd_same, fun D nD => ?_⟩⟩
        have hDp : D ≠ p.2 := fun e => by
          rw [e, upd_same] at nD
          cases nD
        have nD5 : H5 D = none := by rwa [upd_ne hDp] at nD
        have hlv := hr.len
        rw [List.length_map] at hlv
        have hlt := tiesN_len (n := (z.map (·.1)).take i) fun q hq => hn2 q (List.mem_of_mem_take hq)
        rw [List.length_take] at hlt
        have hlr : p.1.2.length ≤ 1000 := hn2 p.1 (List.mem_map.mpr ⟨p, hpz, rfl⟩)
        refine lc_it walk_keys (fun j H7 => (∀ c o, H5 c = some o → c ≠ p.2 → H7 c = some o) ∧ H7 p.2 = some (.frz od (.dK (rowK p.1.2))) ∧ ∃ ws, H7 D = some (.lst ws) ∧ ws.length ≤ j ∧
            RepL K (fun c => H5 c = none ∧ c ≠ D) H7 ((((p.1.2.take j).filter fun r => ltS p.1.1 r.1).map fun r => (p.1.1, r.1, r.2)).map dTie) ws)
          ⟨fun c o h hc => upd_at (upd_at h hc) (ne_of_none h nD5), upd_at upd_same hDp.symm, [], upd_same, Nat.le_refl _, RepL.nil⟩ (fun j H7 _ ⟨_, h, _⟩ => h) ?_ ?_
        · rintro j y _ H7 hj ⟨kp7, hf7, ws, hD7, hlw, hrw⟩ ⟨rfl, kk, vv, hkv, rfl⟩
          obtain ⟨⟨y, h⟩, hyr, e⟩ := map_get' hkv
          cases e
          refine ⟨rfl, ?_⟩
          refine ⟨_, rfl, _, rfl, _, _, rfl, rfl, _, rfl, ?_⟩
          have et : p.1.2.take (j + 1) = p.1.2.take j ++ [(y, h)] := take_snoc hyr
          rw [et, List.filter_append]
          have hrn := h6.rows p.1 (List.mem_map.mpr ⟨p, hpz, rfl⟩)
          have hjr : j < p.1.2.length := (List.getElem?_eq_some_iff.mp hyr).1
          cases hl2 : ltS p.1.1 y with
          | false =>
            rw [show decide (p.1.1.cps.toList < (y, h).1.cps.toList) = false from hl2]
            refine iteF ⟨kp7, hf7, ws, hD7, Nat.le_succ_of_le hlw, ?_⟩
            rw [show List.filter (fun r : Str × Int => ltS p.1.1 r.1) [(y, h)] = [] by simp [hl2], List.append_nil]
            exact hrw
          | true =>
            rw [show decide (p.1.1.cps.toList < (y, h).1.cps.toList) = true from hl2]
            refine iteT ⟨_, rfl, _, rfl, _, rfl, a, _, dx, _, _, rfl, kp7 _ _ haa hap, T.cls, T.nN, rfl, _, rfl, dd, _, rfl, near_dget (kp7 _ _ hdd hda) hknd hpz, _, rfl, p.2, V.int h, rfl, .inl ⟨rowK p.1.2, Sum.inr y, .inr ⟨od, hf7⟩, rfl, ?_⟩, by show 3 ≤ sizeLine; decide, fun tt ntt => ?_⟩
            · rw [valV_rowK, lookup_mem_nd hrn (List.mem_of_getElem? hyr)]
              rfl
            have hDt : D ≠ tt := ne_of_none hD7 ntt
            have hpt : p.2 ≠ tt := ne_of_none hf7 ntt
            refine ⟨ws, upd_at hD7 hDt, Nat.lt_of_le_of_lt (show ws.length ≤ 1000 by omega) (by decide), fun c o hc hcp => ?_, upd_at (upd_at hf7 hpt) hDp.symm, ws ++ [.ref tt], upd_same, ?_, ?_⟩
            · exact upd_at (upd_at (kp7 c o hc hcp) (ne_of_none (kp7 c o hc hcp) ntt)) (ne_of_none hc nD5)
            · rw [List.length_append]
              show ws.length + 1 ≤ j + 1
              omega
            · rw [show List.filter (fun r : Str × Int => ltS p.1.1 r.1) [(y, h)] = [(y, h)] by simp [hl2], List.map_append, List.map_append]
              refine RepL.snoc (RepL.step (fun _ h => h) (fun c o hN hc => upd_at (upd_at hc (ne_of_none hc ntt)) hN.2) _ _ hrw) ?_
              have nt5 : H5 tt = none := by
                cases e : H5 tt with
                | none => rfl
                | some o =>
                  have := kp7 tt o e hpt.symm
                  rw [ntt] at this
                  cases this
              exact rep_tie.mpr ⟨tt, rfl, ⟨nt5, hDt.symm⟩, upd_at upd_same hDt.symm⟩
        · rintro H7 ⟨kp7, hf7, ws, hD7, hlw, hrw⟩
          have hrk : (rowK p.1.2).length = p.1.2.length := by
            unfold rowK
            rw [List.length_map]
          rw [hrk] at hlw hrw
          rw [List.take_length] at hrw
          have hl7 := kp7 _ _ hl hai
          have s8 : Same H5 (upd H7 p.2 (.dK (rowK p.1.2))) := fun c o hc => by
            by_cases e : c = p.2
            · subst e
              rw [har] at hc
              rw [← hc]
              exact upd_same
            · exact upd_at (kp7 c o hc e) e
          have hD8 : upd H7 p.2 (.dK (rowK p.1.2)) D = some (.lst ws) := upd_at hD7 hDp
          have hw8 : RepL K (fun c => H5 c = none ∧ c ≠ D) (upd H7 p.2 (.dK (rowK p.1.2))) ((tiesR p.1).map dTie) ws := RepL.step (fun _ h => h) (fun c o hN hc => upd_at hc (fun e => by
            have := hN.1
            rw [e, har] at this
            cases this)) _ _ hrw
          refine ⟨hf7, ?_⟩
          generalize upd H7 p.2 (.dK (rowK p.1.2)) = H8 at s8 hD8 hw8 ⊢
          have hl8 := s8 _ _ hl
          refine ⟨l, D, vs, ws, rfl, rfl, hl8, hD8, Nat.le_trans (show vs.length + ws.length ≤ 2000000 by omega) (by decide), _, vs ++ ws, rfl, same_mut (same_trans sm s8) n_l, upd_same, ?_⟩
          rw [take_snoc hq, tiesN_snoc, List.map_append]
          refine RepL.app (RepL.step (fun _ h => h) (fun c o hN hc => upd_at (s8 c o hc) hN.2) _ _ hr) (RepL.step (fun c hN => ?_) (fun c o hN hc => upd_at hc (fun e => ?_)) _ _ hw8)
          · exact ⟨same_back sm hN.1, fun e => by
              have := hN.1
              rw [e, hl] at this
              cases this⟩
          · have := hN.1
            rw [e, hl] at this
            cases this
      · rintro σ H4 ⟨v2, vs, rfl, sm, hl, hr⟩
        rw [List.length_map, List.take_length] at hr
        exact hn _ _ ⟨v2, vs, rfl, sm, hl, hr⟩
    rintro σ H4 ⟨v2, vs, rfl, sm, hl, hr⟩
    exact ⟨_, rfl, k H4 _ sm ⟨l, vs, rfl, n_l, hl, RepL.step (fun c h => h.1) (fun _ _ _ h => h) _ _ hr⟩⟩
end
end Pw
set_option Elab.async false
set_option linter.all false
set_option maxRecDepth 100000
set_option maxHeartbeats 4000000
/-! Calls of the class Web and of its methods. -/
namespace Pw
open PySem PySem.Spec PyProof.Rows L2
theorem PE.weak {X : Cx} {e : Expr} {t t' : TE} (h : PE X e t) (i : ∀ σ H Q, t' σ H Q → t σ H Q) : PE X e t' := ⟨fun pins s σ H Q I q => h.run pins s σ H Q I (i σ H Q q)⟩
theorem PA.up {X : Cx} {es : List Expr} {t : TA} (h : PA X es t) : PA X es (fun σ H Q => ∃ Q', t σ H Q' ∧ ∀ vs H, Q' vs H → Q vs H) := ⟨fun pos pins s σ H Q I ⟨Q', q, i⟩ => wpAny_mono (h.run pos pins s σ H Q' I q) (fun us s' ⟨vs, H', I', r, q'⟩ => ⟨vs, H', I', r, i vs H' q'⟩) fun _ _ e => e⟩
theorem passL {X : Cx} : Passes (L2.CX X.prog X.w) X E0 := fun _ _ _ _ _ _ _ h => by
  obtain ⟨_, _, _, _, _, _, _, _, _, _, _, _, z⟩ := h
  exact z.elim
/-- what is asked of Web's arguments, what is known of the new web -/
def WebGo (K : PySem.W.Frag) (E : XK) (Q : VK) (H : Hp) (v1 v2 : V) : Prop := ∃ (d1 d2 : Dt) (N : Addr → Prop), Rep K N H d1 v1 ∧ Rep K N H d2 v2 ∧ d1.few ∧ d2.few ∧ match chkW d1 d2 with
  | .places i => RaiseX K "BadPlaces" "index" (.int (i : Nat)) H E
  | .ties i => RaiseX K "BadTies" "index" (.int (i : Nat)) H E
  | .ok ns ts => AccOk ns ts → ∀ (n : Near) (v : V) (H' : Hp), WebOf ns ts n → Same H H' → Rep K (Fr H) H' (.web n) v → Q v H'
def tWeb (K : PySem.W.Frag) (E : XK) (t : TA) : TE := fun σ H Q => t σ H fun vs H1 => ∃ v1 v2, vs = [v1, v2] ∧ WebGo K E Q H1 v1 v2
theorem webGo_mk {K : PySem.W.Frag} {E : XK} {Q : VK} {H : Hp} {v1 v2 : V} (h : WebGo K E Q H v1 v2) {x dx : Addr} (nx : H x = none) (nd : H dx = none) (ne : dx ≠ x) :
    spMk K [.ref x, v1, v2] (upd (upd H dx (.own x)) x (.ins (He.ga K "Web") dx [])) (fun v H2 => v = .non ∧ Q (.ref x) H2) E := by
  obtain ⟨d1, d2, N, h1, h2, f1, f2, h⟩ := h
  refine ⟨x, dx, v1, v2, d1, d2, N, H, rfl, upd_same, ?_, nx, h1, h2, f1, f2, ?_⟩
  · exact same_mut (same_new nd) nx
  · cases e : chkW d1 d2 with
    | places i =>
      rw [e] at h
      exact h
    | ties i =>
      rw [e] at h
      exact h
    | ok ns ts =>
      rw [e] at h
      exact fun hA n H' hw s hat => ⟨rfl, h hA n (.ref x) H' hw s ⟨x, rfl, nx, hat⟩⟩
section
variable {X : Cx} {K : PySem.W.Frag} {CX : CXT} {k : Nat} {E : XK} {p pos apos : Pos} {e o : Expr} {es : List Expr} {t : TA} {ta : TE} {ps : List Str} {sp : Sp} {m : Str}
theorem pe_web (T : Tx K X.mg) (G : OkM X.prog X.w K X.mg X.base CX k "Web" "__init__" ps (spMk K)) (hr : Room (k + 1) X.A) (hx : Passes CX X E) (ha : PA X (e :: es) t) (hg : Gl X "Web" := by rfl)
    (he : starEach (e :: es) X.env = (false, eval e X.env) :: starEach es X.env := by rfl) (hpl : (backTo pos (starEach es X.env)).any (·.1) = false := by rfl) (ek : X.K = K := by rfl) : PE X (.Call (.Name "Web" p) (e :: es) [] pos) (tWeb K E t) := by
  subst ek
  obtain ⟨fd, hb, F⟩ := G
  refine PE.weak (pe_make (x := "Web") (C := He.ga X.K "Web") T.mkW F hr hg (T.glo 12) hb.1 .nil hx (PA.up ha) (by decide) he hpl) fun σ H Q q => ?_
  refine ⟨_, q, fun vs H1 ⟨v1, v2, e, g⟩ x dx nx nd ne => ?_⟩
  subst e
  exact webGo_mk g nx nd ne
/-- o.m() of a web -/
theorem pe_m0 {pl : Sem Bool} (T : Tx K X.mg) (G : OkM X.prog X.w K X.mg X.base CX k "Web" m ps sp) (hm : Meth K (He.ga K "Web") m (He.ma K (He.ga K "Web") m)) (hr : Room k X.A) (hx : Passes CX X E) (he : PE X o ta)
    (ht : eval (.Call (.Attribute o m apos) [] [] pos) X.env = (do
      let ov ← eval o X.env
      standAt apos.atName
      let (f, first) ← holding [ov] (getMethod ov m pl)
      callWith pos f first (backTo pos (starEach [] X.env)) (backToKw pos (keywordEach [] X.env))) := by rfl) (ek : X.K = K := by rfl) :
    PE X (.Call (.Attribute o m apos) [] [] pos) (tMeth (He.ga K "Web") m sp [] E ta tNil) := by
  subst ek
  obtain ⟨fd, hb, F⟩ := G
  exact pe_meth0 he T.cls hm F hr hb.1 .nil hx ht
/-- o.m(e, ..) of a web -/
theorem pe_m1 {pl : Sem Bool} (T : Tx K X.mg) (G : OkM X.prog X.w K X.mg X.base CX k "Web" m ps sp) (hm : Meth K (He.ga K "Web") m (He.ma K (He.ga K "Web") m)) (hr : Room k X.A) (hx : Passes CX X E) (he : PE X o ta) (ha : PA X (e :: es) t)
    (hst : starEach (e :: es) X.env = (false, eval e X.env) :: starEach es X.env := by rfl) (hpl : (backTo pos (starEach es X.env)).any (·.1) = false := by rfl)
    (ht : eval (.Call (.Attribute o m apos) (e :: es) [] pos) X.env = (do
      let ov ← eval o X.env
      standAt apos.atName
      let (f, first) ← holding [ov] (getMethod ov m pl)
      callWith pos f first (backTo pos (starEach (e :: es) X.env)) (backToKw pos (keywordEach [] X.env))) := by rfl) (ek : X.K = K := by rfl) :
    PE X (.Call (.Attribute o m apos) (e :: es) [] pos) (tMeth (He.ga K "Web") m sp [] E ta t) := by
  subst ek
  obtain ⟨fd, hb, F⟩ := G
  exact pe_meth he T.cls hm F hr hb.1 .nil hx ha hst hpl ht
/-! ### == and != of webs -/
def rWeq (K : PySem.W.Frag) : R2 := fun x y H Q => ∃ (n : Near) (d : Dt) (N M : Addr → Prop), Rep K N H (.web n) x ∧ Rep K M H d y ∧ Q (.bl (match d with | .web m => nearEq n m | _ => false)) H
def rWne (K : PySem.W.Frag) : R2 := fun x y H Q => ∃ (n : Near) (d : Dt) (N M : Addr → Prop), Rep K N H (.web n) x ∧ Rep K M H d y ∧ Q (.bl (!(match d with | .web m => nearEq n m | _ => false))) H
theorem OpR.weak {op : Value → Value → Sem Value} {r r' : R2} (h : OpR X op r) (i : ∀ x y H Q, r' x y H Q → r x y H Q) : OpR X op r' := fun pins s σ H x y v u Q I rx ry q => h pins s σ H x y v u Q I rx ry (i x y H Q q)
theorem Tx.eqc {mg : Str → Option Value} (T : Tx K mg) : EqCls K (He.ga K "Web") (He.ma K (He.ga K "Web") "__eq__") := ⟨T.m_eq.at_, T.m_eq.fn, T.web.ne, T.web.ob⟩
theorem op_weq (T : Tx K X.mg) (G : OkM X.prog X.w K X.mg X.base CX0 k "Web" "__eq__" ps (spEq K)) (hr : Room k X.A) (ek : X.K = K := by rfl) : OpR X (compareOp .Eq) (rWeq K) := by
  subst ek
  obtain ⟨fd, hb, F⟩ := G
  refine OpR.weak (op_ownEq F pass0 T.eqc hb.1 hr) fun x y H Q q => ?_
  obtain ⟨n, d, N, M, ⟨a, rfl, _, hw⟩, hd, q⟩ := q
  have hw0 := hw
  obtain ⟨dx, t, dd, h1, _⟩ := hw0
  exact ⟨a, dx, _, rfl, h1, hd.snd T, a, n, N, M, y, d, rfl, hw, hd, _, rfl, q⟩
theorem op_wne (T : Tx K X.mg) (G : OkM X.prog X.w K X.mg X.base CX0 k "Web" "__eq__" ps (spEq K)) (hr : Room (k + 1) X.A) (ek : X.K = K := by rfl) : OpR X (compareOp .NotEq) (rWne K) := by
  subst ek
  obtain ⟨fd, hb, F⟩ := G
  refine OpR.weak (op_ownNe F pass0 T.eqc hb.1 hr) fun x y H Q q => ?_
  obtain ⟨n, d, N, M, ⟨a, rfl, _, hw⟩, hd, q⟩ := q
  have hw0 := hw
  obtain ⟨dx, t, dd, h1, _⟩ := hw0
  exact ⟨a, dx, _, rfl, h1, hd.snd T, a, n, N, M, y, d, rfl, hw, hd, _, rfl, q⟩
end
end Pw
set_option Elab.async false
set_option linter.all false
set_option maxRecDepth 100000
set_option maxHeartbeats 8000000
/-! Pictures, as the program takes them. -/
namespace Pw
open PySem PySem.Spec PyProof.Rows L2
def Dt.its : Dt → List Dt
  | .seq _ xs => xs
  | _ => []
def Dt.r1 (r : Dt) : Bool := r.isSeq && decide (0 < r.its.length)
def Dt.r2 (f r : Dt) : Bool := decide (r.its.length = f.its.length) && r.its.all Dt.isInt
def Dt.isPic (d : Dt) : Bool := d.isSeq && (d.its.all Dt.r1 && match d.its with
  | [] => true
  | f :: _ => d.its.all (Dt.r2 f))
def Dt.int0 : Dt → Int
  | .int i => i
  | _ => 0
def Dt.ints (d : Dt) : List Int := d.its.map Dt.int0
def Dt.pic (d : Dt) : List (List Int) := d.its.map Dt.ints
/-- few rows, few in a row -/
def Dt.few2 (d : Dt) : Prop := d.its.length ≤ 100000 ∧ ∀ r ∈ d.its, r.its.length ≤ 100000
theorem Rep.sq {K : PySem.W.Frag} {N : Addr → Prop} {H : Hp} {d : Dt} {v : V} (h : Rep K N H d v) (e : d.isSeq = true) : ∃ l p vs, v = .ref p ∧ N p ∧ H p = some (sqo l vs) ∧ RepL K N H d.its vs := by
  cases d with
  | seq l xs =>
    obtain ⟨p, vs, h1, h2, h3, h4⟩ := h
    exact ⟨l, p, vs, h1, h2, h3, h4⟩
  | _ => cases e
section
variable {K : PySem.W.Frag}
/-- [f(x) for x in xs], f a bool, xs a list or a tuple -/
theorem lcB {te el : TE} {i : Nat} {vs : List Nat} {σ : L2.St} {H : Hp} {Q : VK} {l : Bool} {p : Addr} {xs : List V} (bs : List Bool) (ho : H p = some (sqo l xs)) (hz : xs.length ≤ 100000) (lb : bs.length = xs.length) (ht : ∀ Q' : VK, Q' (.ref p) H → te σ H Q')
    (hw : ∀ x, wipe ((wipe σ vs).set i (some x)) vs = wipe σ vs)
    (hel : ∀ (j : Nat) (x : V) (b : Bool) (H1 : Hp) (Q' : VK), xs[j]? = some x → bs[j]? = some b → Same H H1 → (∀ H2, Same H1 H2 → Q' (.bl b) H2) → el ((wipe σ vs).set i (some x)) H1 Q')
    (hq : ∀ (D : Addr) (H' : Hp), Same H H' → H' D = some (.lst (bs.map V.bl)) → Q (.ref D) H') : tLc (fun σ H R => iList K te σ H R ∨ iTup K te σ H R) (gName i) tYes el vs σ H Q := by
  have key : ∀ (J : It) (D : Addr), H D = none → Walk J xs.length (fun H1 => H1 p = some (sqo l xs)) (YAt xs) → ∃ W : Nat → Nat → Hp → Prop, (∃ m, W 0 m (upd H D (.lst []))) ∧ ∀ i1 m H1, W i1 m H1 →
      (J.stop i1 H1 ∧ Q (.ref D) H1) ∨ (J.go i1 H1 ∧ ∃ Nx : Hp → Prop, (∀ H', Nx H' → ∃ m', m' < m ∧ W (i1 + 1) m' H') ∧ ∀ x H', J.yld i1 H1 x H' → gName i x (wipe σ vs) H' fun σ2 H2 => wipe σ2 vs = wipe σ vs ∧ tYes σ2 H2 fun b H3 =>
        if b = true then el σ2 H3 fun y H4 => ∃ acc, H4 D = some (.lst acc) ∧ acc.length < sizeLine ∧ Nx (upd H4 D (.lst (acc ++ [y]))) else Nx H3) := fun J D nD wk => by
    refine lc_it wk (PvP D H fun j => (bs.take j).map V.bl) (pv_zero nD rfl) (fun j H1 _ P => P.1 _ _ ho) ?_ ?_
    · rintro j x H1 H2 hj P ⟨rfl, hx⟩
      have hb : bs[j]? = some bs[j] := List.getElem?_eq_getElem (by omega)
      refine ⟨hw x, yesT ?_⟩
      refine hel j x _ _ _ hx hb P.1 fun H3 s3 => ?_
      refine pv_add P s3 ?_ ?_ nD
      · rw [take_snoc hb, List.map_append]
        rfl
      · rw [List.length_map, List.length_take]
        exact Nat.lt_of_le_of_lt (show min j bs.length ≤ 100000 by omega) (by decide)
    · rintro H1 ⟨sm, hD⟩
      rw [← lb] at hD
      dsimp only at hD
      rw [List.take_length] at hD
      exact hq D H1 sm hD
  cases l with
  | true => exact .inl (ht _ ⟨p, rfl, ⟨xs, SqL.of ho⟩, fun D nD => key _ D nD (Walk.weak walk_list fun _ => SqL.of)⟩)
  | false => exact .inr (ht _ ⟨p, rfl, ⟨xs, SqT.of ho⟩, fun D nD => key _ D nD (Walk.weak walk_tup fun _ => SqT.of)⟩)
end
section
variable {K : PySem.W.Frag}
/-- all([f(x) for x in xs]) -/
theorem allE {te el : TE} {i : Nat} {vs : List Nat} {σ : L2.St} {H : Hp} {Q : VK} {l : Bool} {p : Addr} {xs : List V} (bs : List Bool) (ho : H p = some (sqo l xs)) (hz : xs.length ≤ 100000) (lb : bs.length = xs.length) (ht : ∀ Q' : VK, Q' (.ref p) H → te σ H Q')
    (hw : ∀ x, wipe ((wipe σ vs).set i (some x)) vs = wipe σ vs)
    (hel : ∀ (j : Nat) (x : V) (b : Bool) (H1 : Hp) (Q' : VK), xs[j]? = some x → bs[j]? = some b → Same H H1 → (∀ H2, Same H1 H2 → Q' (.bl b) H2) → el ((wipe σ vs).set i (some x)) H1 Q')
    (hq : ∀ (H' : Hp), Same H H' → Q (.bl (bs.all id)) H') : tCB (rAll K) (tCons (tLc (fun σ H R => iList K te σ H R ∨ iTup K te σ H R) (gName i) tYes el vs) tNil) σ H Q :=
  lcB (Q := fun x H1 => tNil σ H1 fun xs H2 => rAll K (x :: xs) H2 Q) bs ho hz lb ht hw hel fun D H' s hD => ⟨D, bs, rfl, SqL.of hD, hq H' s⟩
end
section
variable {P : Program} {w : World} {K : PySem.W.Frag} {mg : Str → Option Value} {base : Heap}
def spIsPic (K : PySem.W.Frag) : Sp := fun vs H Q _ => ∃ (v : V) (d : Dt) (N : Addr → Prop), vs = [v] ∧ Rep K N H d v ∧ d.few2 ∧ ∀ H', Same H H' → Q (.bl d.isPic) H'
theorem sc_is_picture : FnScope ["thing", "row", "shade"] ["thing"] (defScope s_is_picture) := ⟨rfl, rfl, rfl, by decide +kernel, rfl, by decide +kernel, by decide +kernel⟩
theorem ok_is_picture (T : Tx K mg) : Ok P w K mg base CX0 2 "is_picture" ["thing"] (spIsPic K) := by
  have G_is_list : Ok P w K mg base CX0 1 _ _ _ := ok_is_list T
  have G_is_integer : Ok P w K mg base CX0 1 _ _ _ := ok_is_integer T
  refine mkOk (d := d_is_picture) T 15 13 rfl rfl rfl rfl rfl (fun _ _ _ _ _ _ us hl => match us, hl with | [_], _ => rfl) sc_is_picture (fun vs H Q E h => ?_) (fun f cdv A outer s H vs Q E hr h => ?_)
  · obtain ⟨v, d, N, rfl, _⟩ := h
    rfl
  · obtain ⟨v, d, N, rfl, hd, hf, k⟩ := h
    have nd := sc_is_picture.nd
    refine ⟨_, (pss_cons (ps_if (PW.pt (pw_or (pt_not (pt_val (pe_ok G_is_list (hr.mono (by omega)) pass0 (pa_cons (pv 0) pa_nil)))) (pw_or1 (pt_not (pt_val (pe_callB (k_all rfl (K := K)) (by rfl) T.all (by decide +kernel) (pa_cons (pe_lc (own := [("row", 1)]) (by rfl) nd (pi_or (k_pl (K := K) (pv 0)) (k_pt (K := K) (pv 0))) (blkOk_by (own := [("row", 1)]) (N := ["thing", "row", "shade"]) (sc := (defScope s_is_picture)) (by decide +kernel)) (fun _ _ _ _ _ => (pg_name (i := 1) nd rfl (by first | exact Or.inl rfl | exact Or.inr rfl))) (fun _ _ _ _ _ => pts_nil) (fun _ _ _ _ _ => (pe_and (pe_ok G_is_list (hr.mono (by omega)) pass0 (pa_cons (pv 1) pa_nil)) (pe_one (pe_cmpR op_gt (pe_callB (k_len (K := K)) (by rfl) T.len (by decide +kernel) (pa_cons (pv 1) pa_nil)) pe_int (nomark _)))))) pa_nil))))))) (pss_one (ps_ret pe_bl)) pss_nil)
      (pss_one (ps_ret (pe_callB (k_all rfl (K := K)) (by rfl) T.all (by decide +kernel) (pa_cons (pe_lc (own := [("row", 1)]) (by rfl) nd (pi_or (k_pl (K := K) (pv 0)) (k_pt (K := K) (pv 0))) (blkOk_by (own := [("row", 1)]) (N := ["thing", "row", "shade"]) (sc := (defScope s_is_picture)) (by decide +kernel)) (fun _ _ _ _ _ => (pg_name (i := 1) nd rfl (by first | exact Or.inl rfl | exact Or.inr rfl))) (fun _ _ _ _ _ => pts_nil) (fun _ _ _ _ _ => (pe_and (pe_cmpR op_eq (pe_callB (k_len (K := K)) (by rfl) T.len (by decide +kernel) (pa_cons (pv 1) pa_nil)) (pe_callB (k_len (K := K)) (by rfl) T.len (by decide +kernel) (pa_cons (pe_ix ((k_ixL (K := K)).or (k_ixT (K := K))) (pv 0) pe_int (fun _ _ => rfl)) pa_nil)) (nomark _)) (pe_one (pe_callB (k_all rfl (K := K)) (by rfl) T.all (by decide +kernel) (pa_cons (pe_lc (own := [("shade", 2)]) (by rfl) nd (pi_or (k_pl (K := K) (pv 1)) (k_pt (K := K) (pv 1))) (blkOk_rel (own := [("shade", 2)]) (N := ["thing", "row", "shade"]) (outer := (defScope s_is_picture)) (by decide +kernel) rfl) (fun _ _ _ _ _ => (pg_name (i := 2) nd rfl (by first | exact Or.inl rfl | exact Or.inr rfl))) (fun _ _ _ _ _ => pts_nil) (fun _ _ _ _ _ => (pe_ok G_is_integer (hr.mono (by omega)) pass0 (pa_cons (pv 2) pa_nil)))) pa_nil)))))) pa_nil))))), ?_⟩
    refine ⟨_, rfl, v, d, N, rfl, hd, fun H1 s1 => ?_⟩
    dsimp only
    cases hs : d.isSeq with
    | false =>
      have e0 : d.isPic = false := by
        unfold Dt.isPic
        rw [hs]
        rfl
      rw [e0] at k
      exact ⟨_, rfl, iteT (iteT (k H1 s1))⟩
    | true =>
    obtain ⟨l, p, vs, rfl, _, hp, hr⟩ := hd.sq hs
    have lv := hr.len
    have hp1 := s1 _ _ hp
    refine ⟨_, rfl, iteF ?_⟩
    dsimp only [tNot, tB]
    refine allE (l := l) (p := p) (xs := vs) (d.its.map Dt.r1) hp1 (by rw [lv]; exact hf.1) (by rw [List.length_map, lv]) (fun Q' q => ⟨_, rfl, q⟩) (fun _ => rfl) ?_ ?_
    · intro j x b H2 Q' hx hb s2 q
      obtain ⟨dx, hdx, hrx⟩ := hr.get hx
      rw [List.getElem?_map, hdx] at hb
      have hb' : dx.r1 = b := Option.some.inj hb
      have s02 := same_trans s1 s2
      refine ⟨_, rfl, x, dx, N, rfl, hrx.same s02, fun H3 s3 => ⟨_, rfl, ?_⟩⟩
      unfold Dt.r1 at hb'
      cases hsx : dx.isSeq with
      | false =>
        rw [hsx, Bool.false_and] at hb'
        subst hb'
        exact iteF (q H3 s3)
      | true =>
        rw [hsx, Bool.true_and] at hb'
        obtain ⟨l2, p2, vs2, rfl, _, hp2, hr2⟩ := hrx.sq hsx
        refine iteT ⟨_, rfl, p2, vs2, rfl, sq_or (same_trans s02 s3 _ _ hp2), _, _, rfl, rfl, ?_⟩
        have e : decide ((0 : Int) < (vs2.length : Nat)) = b := by
          rw [← hb', hr2.len]
          exact decide_eq_decide.mpr (by omega)
        dsimp only
        rw [e]
        exact q H3 s3
    · intro H2 s2
      have s02 := same_trans s1 s2
      have ea : (d.its.map Dt.r1).all id = d.its.all Dt.r1 := by
        rw [List.all_map]
        rfl
      rw [ea]
      refine ⟨_, rfl, ?_⟩
      cases hall : d.its.all Dt.r1 with
      | false =>
        have e0 : d.isPic = false := by
          unfold Dt.isPic
          rw [hs, hall]
          rfl
        rw [e0] at k
        exact iteT (k H2 s02)
      | true =>
      refine iteF (next_i ?_)
      dsimp only [tRet]
      have hp2 := s2 _ _ hp1
      have ePic : d.isPic = (d.its.map fun r => match d.its with | [] => true | f :: _ => Dt.r2 f r).all id := by
        unfold Dt.isPic
        rw [hs, hall, List.all_map]
        cases d.its <;> rfl
      rw [ePic] at k
      refine allE (l := l) (p := p) (xs := vs) (d.its.map fun r => match d.its with | [] => true | f :: _ => Dt.r2 f r) hp2 (by rw [lv]; exact hf.1) (by rw [List.length_map, lv]) (fun Q' q => ⟨_, rfl, q⟩) (fun _ => rfl) ?_ (fun H3 s3 => k H3 (same_trans s02 s3))
      intro j x b H3 Q' hx hb s3 q
      obtain ⟨dx, hdx, hrx⟩ := hr.get hx
      rw [List.getElem?_map, hdx] at hb
      have s03 := same_trans s02 s3
      obtain ⟨f0, fs, hfs⟩ : ∃ f fs, d.its = f :: fs := by
        cases e : d.its with
        | nil =>
          rw [e] at hdx
          cases hdx
        | cons f fs => exact ⟨f, fs, rfl⟩
      rw [hfs] at hb
      have hb' : Dt.r2 f0 dx = b := Option.some.inj hb
      have memx : dx ∈ d.its := List.mem_of_getElem? hdx
      have sqx : dx.isSeq = true := by
        have := List.all_eq_true.mp hall dx memx
        unfold Dt.r1 at this
        exact (Bool.and_eq_true_iff.mp this).1
      have sqf : f0.isSeq = true := by
        have := List.all_eq_true.mp hall f0 (by rw [hfs]; exact List.mem_cons_self)
        unfold Dt.r1 at this
        exact (Bool.and_eq_true_iff.mp this).1
      obtain ⟨lx, px, vx, rfl, _, hpx, hrx2⟩ := hrx.sq sqx
      obtain ⟨vf, hvf, hrf⟩ := hr.get' (i := 0) (d := f0) (by rw [hfs]; rfl)
      obtain ⟨lf, pf, vf2, rfl, _, hpf, hrf2⟩ := hrf.sq sqf
      have hpx3 := s03 _ _ hpx
      refine ⟨_, rfl, px, vx, rfl, sq_or hpx3, _, rfl, sq_ix (s03 _ _ hp) (i := 0) hvf ⟨pf, vf2, rfl, sq_or (s03 _ _ hpf), rfl, ?_⟩⟩
      refine ⟨_, rfl, ?_⟩
      unfold Dt.r2 at hb'
      have el : decide (V.int (vx.length : Nat) = V.int (vf2.length : Nat)) = decide (dx.its.length = f0.its.length) := by
        rw [hrx2.len, hrf2.len]
        refine decide_eq_decide.mpr ⟨fun z => by have := V.int.inj z; omega, fun z => by rw [z]⟩
      rw [el]
      cases hl : decide (dx.its.length = f0.its.length) with
      | false =>
        rw [hl, Bool.false_and] at hb'
        subst hb'
        exact iteF (q H3 (same_refl H3))
      | true =>
        rw [hl, Bool.true_and] at hb'
        refine iteT ?_
        refine allE (l := lx) (p := px) (xs := vx) (dx.its.map Dt.isInt) hpx3 (by rw [hrx2.len]; exact hf.2 dx memx) (by rw [List.length_map, hrx2.len]) (fun Q' q => ⟨_, rfl, q⟩) (fun _ => rfl) ?_ (fun H4 s4 => ?_)
        · intro i y c H4 Q2 hy hc s4 q2
          obtain ⟨dy, hdy, hry⟩ := hrx2.get hy
          rw [List.getElem?_map, hdy] at hc
          have hc' : dy.isInt = c := Option.some.inj hc
          refine ⟨_, rfl, y, dy, N, rfl, hry.same (same_trans s03 s4), ?_⟩
          rw [hc']
          exact q2 H4 (same_refl H4)
        · rw [List.all_map]
          have : dx.its.all (id ∘ Dt.isInt) = b := hb'
          rw [this]
          exact q H4 s4
end
end Pw
set_option Elab.async false
set_option linter.all false
set_option maxRecDepth 100000
set_option maxHeartbeats 8000000
/-! Pictures become webs. -/
namespace Pw
open PySem PySem.Spec PyProof.Rows L2
section
variable {K : PySem.W.Frag}
/-- [f(x) for x in xs], f some data, xs a list or a tuple -/
theorem lcR {te el : TE} {i : Nat} {vs : List Nat} {σ : L2.St} {H : Hp} {Q : VK} {l : Bool} {p : Addr} {xs : List V} (ds : List Dt) (ho : H p = some (sqo l xs)) (hz : xs.length ≤ 100000) (lb : ds.length = xs.length) (ht : ∀ Q' : VK, Q' (.ref p) H → te σ H Q')
    (hw : ∀ x, wipe ((wipe σ vs).set i (some x)) vs = wipe σ vs)
    (hel : ∀ (j : Nat) (x : V) (d : Dt) (H1 : Hp) (Q' : VK), xs[j]? = some x → ds[j]? = some d → Same H H1 → (∀ y H2, Same H1 H2 → Rep K (Fr H1) H2 d y → Q' y H2) → el ((wipe σ vs).set i (some x)) H1 Q')
    (hq : ∀ (D : Addr) (H' : Hp), Same H H' → H D = none → Rep K (Fr H) H' (.seq true ds) (.ref D) → Q (.ref D) H') : tLc (fun σ H R => iList K te σ H R ∨ iTup K te σ H R) (gName i) tYes el vs σ H Q := by
  have key : ∀ (J : It) (D : Addr), H D = none → Walk J xs.length (fun H1 => H1 p = some (sqo l xs)) (YAt xs) → ∃ W : Nat → Nat → Hp → Prop, (∃ m, W 0 m (upd H D (.lst []))) ∧ ∀ i1 m H1, W i1 m H1 →
      (J.stop i1 H1 ∧ Q (.ref D) H1) ∨ (J.go i1 H1 ∧ ∃ Nx : Hp → Prop, (∀ H', Nx H' → ∃ m', m' < m ∧ W (i1 + 1) m' H') ∧ ∀ x H', J.yld i1 H1 x H' → gName i x (wipe σ vs) H' fun σ2 H2 => wipe σ2 vs = wipe σ vs ∧ tYes σ2 H2 fun b H3 =>
        if b = true then el σ2 H3 fun y H4 => ∃ acc, H4 D = some (.lst acc) ∧ acc.length < sizeLine ∧ Nx (upd H4 D (.lst (acc ++ [y]))) else Nx H3) := fun J D nD wk => by
    refine lc_it wk (fun j H7 => Same H H7 ∧ ∃ ws, H7 D = some (.lst ws) ∧ ws.length = j ∧ RepL K (fun c => H c = none ∧ c ≠ D) H7 (ds.take j) ws) ⟨same_new nD, [], upd_same, rfl, RepL.nil⟩ (fun j H1 _ P => P.1 _ _ ho) ?_ ?_
    · rintro j x H1 H2 hj ⟨sm, ws, hD, lw, hr⟩ ⟨rfl, hx⟩
      have hb : ds[j]? = some ds[j] := List.getElem?_eq_getElem (by omega)
      refine ⟨hw x, yesT ?_⟩
      refine hel j x _ _ _ hx hb sm fun y H3 s3 hy => ?_
      have hoff : ∀ c, Fr H2 c → H c = none ∧ c ≠ D := fun c hc => ⟨same_back sm hc, (ne_of_none hD hc).symm⟩
      refine ⟨ws, s3 _ _ hD, Nat.lt_of_le_of_lt (show ws.length ≤ 100000 by omega) (by decide), same_mut (same_trans sm s3) nD, ws ++ [y], upd_same, by rw [List.length_append, lw]; rfl, ?_⟩
      rw [take_snoc hb]
      exact RepL.snoc (RepL.step (fun _ h => h) (fun c o hN hc => upd_at (s3 c o hc) hN.2) _ _ hr) (Rep.step hoff (fun c o hN hc => upd_at hc (hoff c hN).2) _ _ hy)
    · rintro H1 ⟨sm, ws, hD, lw, hr⟩
      rw [← lb, List.take_length] at hr
      exact hq D H1 sm nD ⟨D, ws, rfl, nD, hD, RepL.step (fun c h => h.1) (fun _ _ _ h => h) _ _ hr⟩
  cases l with
  | true => exact .inl (ht _ ⟨p, rfl, ⟨xs, SqL.of ho⟩, fun D nD => key _ D nD (Walk.weak walk_list fun _ => SqL.of)⟩)
  | false => exact .inr (ht _ ⟨p, rfl, ⟨xs, SqT.of ho⟩, fun D nD => key _ D nD (Walk.weak walk_tup fun _ => SqT.of)⟩)
end
theorem its_int {r : Dt} (h : r.its.all Dt.isInt = true) : r.its = r.ints.map Dt.int := by
  unfold Dt.ints
  rw [List.map_map]
  refine (List.map_id _).symm.trans (List.map_congr_left fun d hd => ?_)
  have := List.all_eq_true.mp h d hd
  cases d <;> first | rfl | cases this
section
variable {P : Program} {w : World} {K : PySem.W.Frag} {mg : Str → Option Value} {base : Heap}
def spCkPic (K : PySem.W.Frag) : Sp := fun vs H Q E => ∃ (v : V) (d : Dt) (N : Addr → Prop), vs = [v] ∧ Rep K N H d v ∧ d.few2 ∧ if d.isPic = true then (∀ u H', Same H H' → Rep K (Fr H) H' (dPic d.pic) u → Q u H') else RaiseX K "BadPicture" "thing" v H E
theorem sc_checked_picture : FnScope ["picture", "row"] ["picture"] (defScope s_checked_picture) := ⟨rfl, rfl, rfl, by decide +kernel, rfl, by decide +kernel, by decide +kernel⟩
theorem ok_ck_picture (T : Tx K mg) : Ok P w K mg base (L2.CX P w) 3 "checked_picture" ["picture"] (spCkPic K) := by
  have G_is_picture : Ok P w K mg base CX0 2 _ _ _ := ok_is_picture T
  have G_xPic : ExcOk P w K mg base "BadPicture" "thing" := ok_xPic T
  refine mkOkX (d := d_checked_picture) T 16 14 rfl rfl rfl rfl rfl (fun _ _ _ _ _ _ us hl => match us, hl with | [_], _ => rfl) sc_checked_picture (fun vs H Q E h => ?_) (fun f cdv A outer s H vs Q E hr h => ?_)
  · obtain ⟨v, d, N, rfl, _⟩ := h
    rfl
  · obtain ⟨v, d, N, rfl, hd, hf, k⟩ := h
    have nd := sc_checked_picture.nd
    refine ⟨_, (pss_cons (ps_if (pt_not (pt_val (pe_ok G_is_picture (hr.mono (by omega)) pass0 (pa_cons (pv 0) pa_nil)))) (pss_one (ps_rz G_xPic (hr.mono (by omega)) rfl (takes_of rfl rfl rfl rfl) (pv 0))) pss_nil)
      (pss_one (ps_ret (pe_lc (own := [("row", 1)]) (by rfl) nd (pi_or (k_pl (K := K) (pv 0)) (k_pt (K := K) (pv 0))) (blkOk_by (own := [("row", 1)]) (N := ["picture", "row"]) (sc := (defScope s_checked_picture)) (by decide +kernel)) (fun _ _ _ _ _ => (pg_name (i := 1) nd rfl (by first | exact Or.inl rfl | exact Or.inr rfl))) (fun _ _ _ _ _ => pts_nil) (fun _ _ _ _ _ => (pe_callTy (k_list (K := K)) (by rfl) T.list (by decide +kernel) (pa_cons (pv 1) pa_nil))))))), ?_⟩
    refine ⟨_, rfl, v, d, N, rfl, hd, hf, fun H1 s1 => ⟨_, rfl, ?_⟩⟩
    cases hp : d.isPic with
    | false =>
      rw [hp, if_neg (by decide)] at k
      exact iteT ⟨_, rfl, raise_ok (k.mono s1)⟩
    | true =>
      rw [hp, if_pos rfl] at k
      have hs : d.isSeq = true := by
        unfold Dt.isPic at hp
        exact (Bool.and_eq_true_iff.mp hp).1
      obtain ⟨l, p, vs, rfl, _, hpp, hr⟩ := hd.sq hs
      have lv := hr.len
      have hrow : ∀ r ∈ d.its, r.isSeq = true ∧ r.its.all Dt.isInt = true := fun r hr => by
        unfold Dt.isPic at hp
        obtain ⟨_, h2⟩ := Bool.and_eq_true_iff.mp hp
        obtain ⟨h3, h4⟩ := Bool.and_eq_true_iff.mp h2
        have h5 := List.all_eq_true.mp h3 r hr
        unfold Dt.r1 at h5
        refine ⟨(Bool.and_eq_true_iff.mp h5).1, ?_⟩
        cases e : d.its with
        | nil =>
          rw [e] at hr
          cases hr
        | cons f fs =>
          rw [e] at h4
          have h6 := List.all_eq_true.mp h4 r (by rw [← e]; exact hr)
          unfold Dt.r2 at h6
          exact (Bool.and_eq_true_iff.mp h6).2
      refine iteF (next_i ?_)
      dsimp only [tRet]
      refine lcR (l := l) (p := p) (xs := vs) (d.its.map fun r => dRow r.ints) (s1 _ _ hpp) (by rw [lv]; exact hf.1) (by rw [List.length_map, lv]) (fun Q' q => ⟨_, rfl, q⟩) (fun _ => rfl) ?_ ?_
      · intro j x dr H2 Q' hx hb s2 q
        obtain ⟨dx, hdx, hrx⟩ := hr.get hx
        rw [List.getElem?_map, hdx] at hb
        obtain rfl : dRow dx.ints = dr := Option.some.inj hb
        obtain ⟨h1, h2⟩ := hrow dx (List.mem_of_getElem? hdx)
        obtain ⟨l2, p2, vs2, rfl, _, hp2, hr2⟩ := hrx.sq h1
        rw [its_int h2] at hr2
        obtain rfl := repL_ints.mp hr2
        refine ⟨_, rfl, p2, _, rfl, sq_or (s2 _ _ (s1 _ _ hp2)), fun t nt => ?_⟩
        exact q _ _ (same_new nt) (rep_row.mpr ⟨t, rfl, nt, upd_same⟩)
      · intro D H2 s2 nD hrep
        refine k _ H2 (same_trans s1 s2) ?_
        have e : dPic d.pic = .seq true (d.its.map fun r => dRow r.ints) := by
          unfold dPic Dt.pic
          rw [List.map_map]
          rfl
        rw [e]
        exact Rep.step (fun c hc => same_back s1 hc) (fun _ _ _ h => h) _ _ hrep
/-- places and ties that make a web as they are -/
theorem chkP_ok : ∀ (ns : List Str) (i : Nat) (acc : List Str), (acc ++ ns).Nodup → (∀ x ∈ ns, isNm x = true) → chkP i acc (ns.map Dt.str) = .inr (acc ++ ns)
  | [], i, acc, _, _ => by
    rw [List.append_nil]
    rfl
  | x :: ns, i, acc, nd, h => by
    have hx : x ∉ acc := fun hin => by
      rw [List.nodup_append] at nd
      exact nd.2.2 x hin x List.mem_cons_self rfl
    show (if isNm x = true ∧ x ∉ acc then chkP (i + 1) (acc ++ [x]) (ns.map Dt.str) else .inl i) = _
    rw [if_pos ⟨h x List.mem_cons_self, hx⟩, chkP_ok ns (i + 1) (acc ++ [x]) (by rw [List.append_assoc]; exact nd) (fun y hy => h y (List.mem_cons_of_mem _ hy)), List.append_assoc]
    rfl
theorem chkT_ok {ns : List Str} : ∀ (ts : List Tie) (i : Nat) (acc : List Tie), AccOk ns (acc ++ ts) → chkT ns i acc (ts.map dTie) = .inr (acc ++ ts)
  | [], i, acc, _ => by
    rw [List.append_nil]
    rfl
  | t :: ts, i, acc, A => by
    have h := A.mem t (List.mem_append.mpr (.inr List.mem_cons_self))
    have hn : pn t ∉ acc.map pn := fun hin => by
      have nd := A.nd
      rw [List.map_append, List.nodup_append] at nd
      exact nd.2.2 _ hin _ List.mem_cons_self rfl
    rw [List.map_cons, chkT_good (t := t) rfl ⟨h.1, h.2.1, h.2.2, hn⟩, chkT_ok ts _ _ (by rw [List.append_assoc]; exact A), List.append_assoc]
    rfl
theorem chkW_ok {ns : List Str} {ts : List Tie} (l1 l2 : Bool) (nd : ns.Nodup) (h : ∀ x ∈ ns, isNm x = true) (A : AccOk ns ts) : chkW (.seq l1 (ns.map Dt.str)) (.seq l2 (ts.map dTie)) = .ok ns ts := by
  unfold chkW
  rw [show chkPlaces (.seq l1 (ns.map Dt.str)) = .inr ns from chkP_ok ns 0 [] nd h]
  dsimp only
  rw [show chkTies ns (.seq l2 (ts.map dTie)) = .inr ts from chkT_ok ts 0 [] A]
theorem isNm_len {x : Str} (h : isNm x = true) : x.length ≤ 1000 := by
  have e : x.length = x.cps.toList.length := Array.length_toList.symm
  unfold isNm at h
  cases c : x.cps.toList with
  | nil =>
    rw [e, c]
    exact Nat.zero_le _
  | cons a r =>
    rw [c] at h
    dsimp only at h
    rw [e, c]
    have := of_decide_eq_true (Bool.and_eq_true_iff.mp h).1
    omega
theorem strs_few {ns : List Str} (l : Bool) (hl : ns.length ≤ 100000) (h : ∀ x ∈ ns, isNm x = true) : (Dt.seq l (ns.map Dt.str)).few := by
  refine ⟨by rw [List.length_map]; exact hl, fun s hs => ?_⟩
  obtain ⟨x, hx, e⟩ := List.mem_map.mp hs
  cases e
  exact isNm_len (h _ hx)
theorem ties_few {ts : List Tie} (l : Bool) (hl : ts.length ≤ 100000) : (Dt.seq l (ts.map dTie)).few := by
  refine ⟨by rw [List.length_map]; exact hl, fun s hs => ?_⟩
  obtain ⟨x, hx, e⟩ := List.mem_map.mp hs
  cases e
theorem plane_acc {R C : Nat} {lo hi : Int} {pic : List (List Int)} (h : PicOk R C lo hi pic) (hR : R ≤ 12) (hC : C ≤ 20) : AccOk (planeN C R) (planeT pic C R) := by
  have k := planeT_ok h hR hC
  have hpn : ((planeT pic C R).map sw).map pa2 = (planeT pic C R).map pn := by
    rw [List.map_map]
    rfl
  refine ⟨fun t ht => ?_, by rw [← hpn]; exact k.nd⟩
  obtain ⟨a, b, c, _⟩ := k.mem (sw t) (List.mem_map.mpr ⟨t, ht, rfl⟩)
  have a' : (pr t.1 t.2.1).1 ∈ planeN C R := a
  have b' : (pr t.1 t.2.1).2 ∈ planeN C R := b
  have c' : ltS (pr t.1 t.2.1).1 (pr t.1 t.2.1).2 = true := c
  rcases pr_cases t.1 t.2.1 with ⟨e, _⟩ | ⟨e, _⟩
  · rw [e] at a' b' c'
    exact ⟨a', b', fun z => by
      rw [show (t.1, t.2.1).1 = t.1 from rfl, show (t.1, t.2.1).2 = t.2.1 from rfl, z, ltS_irr] at c'
      cases c'⟩
  · rw [e] at a' b' c'
    exact ⟨b', a', fun z => by
      rw [show (t.2.1, t.1).1 = t.2.1 from rfl, show (t.2.1, t.1).2 = t.1 from rfl, z, ltS_irr] at c'
      cases c'⟩
def spWebOf (K : PySem.W.Frag) : Sp := fun vs H Q _ => ∃ (v : V) (N : Addr → Prop) (R C : Nat) (lo hi : Int) (pic : List (List Int)), vs = [v] ∧ Rep K N H (dPic pic) v ∧ PicOk R C lo hi pic ∧ R ≤ 12 ∧ C ≤ 20 ∧
  ∀ (n : Near) (u : V) (H' : Hp), WebOf (planeN C R) (planeT pic C R) n → Same H H' → Rep K (Fr H) H' (.web n) u → Q u H'
theorem sc_web_of : FnScope ["rows", "places", "ties", "row", "line", "column", "shade", "here"] ["rows"] (defScope s_web_of) := ⟨rfl, rfl, rfl, by decide +kernel, rfl, by decide +kernel, by decide +kernel⟩
theorem ok_web_of (T : Tx K mg) : Ok P w K mg base CX0 6 "web_of" ["rows"] (spWebOf K) := by
  have G_place_at : Ok P w K mg base CX0 1 _ _ _ := ok_place_at T
  have G_init : OkM P w K mg base (L2.CX P w) 4 "Web" "__init__" _ _ := ok_init T
  refine mkOk (d := d_web_of) T 18 16 rfl rfl rfl rfl rfl (fun _ _ _ _ _ _ us hl => match us, hl with | [_], _ => rfl) sc_web_of (fun vs H Q E h => ?_) (fun f cdv A outer s H vs Q E hr h => ?_)
  · obtain ⟨v, N, R, C, lo, hi, pic, rfl, _⟩ := h
    rfl
  · obtain ⟨v, N, R, C, lo, hi, pic, rfl, hrep, hP, hR, hC, k⟩ := h
    have nd := sc_web_of.nd
    obtain ⟨p, vs, rfl, hNp, hp, hrows⟩ := hrep
    have hgd : ∀ x ∈ planeN C R, isNm x = true := fun x hx => by
      obtain ⟨i, hi, hx⟩ := List.mem_flatMap.mp hx
      obtain ⟨j, hj, rfl⟩ := List.mem_map.mp hx
      have h1 := List.mem_range.mp hi
      have h2 := List.mem_range.mp hj
      exact (plc_gd (by omega) (by omega)).1
    have lvs : vs.length = R := by rw [hrows.len, List.length_map, hP.len]
    refine ⟨_, (pss_cons (ps_par (i := 1) (j := 2) (by rfl) nd rfl rfl (by decide) rfl rfl (pa_cons (pe_lst pa_nil) (pa_cons (pe_lst pa_nil) pa_nil)) (by rfl))
      (pss_cons (ps_for PassesOwn.never rfl (k_enum (K := K) (by rfl) T.enumerate (pa_cons (pv 0) pa_nil)) (k_tup (K := K) (n := 2) rfl (pgs_cons (pg_name (i := 3) nd rfl (Or.inl rfl)) (pgs_cons (pg_name (i := 4) nd rfl (Or.inl rfl)) pgs_nil)))
      (pss_one (ps_for PassesOwn.never rfl (k_enum (K := K) (by rfl) T.enumerate (pa_cons (pv 4) pa_nil)) (k_tup (K := K) (n := 2) rfl (pgs_cons (pg_name (i := 5) nd rfl (Or.inl rfl)) (pgs_cons (pg_name (i := 6) nd rfl (Or.inl rfl)) pgs_nil)))
      (pss_cons (ps_set (i := 7) nd rfl (Or.inl rfl) (pe_ok G_place_at (hr.mono (by omega)) pass0 (pa_cons (pv 3) (pa_cons (pv 5) pa_nil))))
      (pss_cons (ps_expr (k_bm (K := K) PySem.F.plainAttrs_list PySem.F.slot_list_append PySem.F.type_list_append mt_append (pv 1) (pa_cons (pv 7) pa_nil)))
      (pss_cons (ps_if (pt_cmpR op_gt (pv 5) pe_int (nomark _)) (pss_one (ps_expr (k_bm (K := K) PySem.F.plainAttrs_list PySem.F.slot_list_append PySem.F.type_list_append mt_append (pv 2) (pa_cons (pe_tup (pa_cons (pe_ok G_place_at (hr.mono (by omega)) pass0 (pa_cons (pv 3) (pa_cons (pe_op op_sub (pv 5) pe_int) pa_nil))) (pa_cons (pv 7) (pa_cons (pe_callB call_abs (by rfl) T.abs (by decide +kernel) (pa_cons (pe_op op_sub (pv 6) (pe_ix (k_ixL (K := K)) (pv 4) (pe_op op_sub (pv 5) pe_int) (fun _ _ => rfl))) pa_nil)) pa_nil)))) pa_nil)))) pss_nil)
      (pss_one (ps_if (pt_cmpR op_gt (pv 3) pe_int (nomark _)) (pss_one (ps_expr (k_bm (K := K) PySem.F.plainAttrs_list PySem.F.slot_list_append PySem.F.type_list_append mt_append (pv 2) (pa_cons (pe_tup (pa_cons (pe_ok G_place_at (hr.mono (by omega)) pass0 (pa_cons (pe_op op_sub (pv 3) pe_int) (pa_cons (pv 5) pa_nil))) (pa_cons (pv 7) (pa_cons (pe_callB call_abs (by rfl) T.abs (by decide +kernel) (pa_cons (pe_op op_sub (pv 6) (pe_ix (k_ixL (K := K)) (pe_ix (k_ixL (K := K)) (pv 0) (pe_op op_sub (pv 3) pe_int) (fun _ _ => rfl)) (pv 5) (fun _ _ => rfl))) pa_nil)) pa_nil)))) pa_nil)))) pss_nil))))))))
      (pss_one (ps_ret (pe_web T G_init (hr.mono (by omega)) passL (pa_cons (pv 1) (pa_cons (pv 2) pa_nil))))))), ?_⟩
    refine ⟨by show 0 ≤ sizeLine; decide, ?_⟩
    intro pl n_pl
    have e_pl : upd H pl (.lst []) pl = some (.lst []) := upd_same
    have s_pl : Same H (upd H pl (.lst [])) := same_new n_pl
    generalize upd H pl (.lst []) = H1 at e_pl s_pl ⊢
    refine ⟨by show 0 ≤ sizeLine; decide, ?_⟩
    intro tl n_tl
    have e_tl : upd H1 tl (.lst []) tl = some (.lst []) := upd_same
    have s_tl : Same H1 (upd H1 tl (.lst [])) := same_new n_tl
    generalize upd H1 tl (.lst []) = H2 at e_tl s_tl ⊢
    have hplt : pl ≠ tl := ne_of_none e_pl n_tl
    have ntl0 : H tl = none := same_back s_pl n_tl
    refine ⟨_, _, rfl, ?_⟩
    refine ⟨_, rfl, p, vs, rfl, SqL.of (same_trans s_pl s_tl _ _ hp), for_it (walk_enum (xs := vs)) (fun i σ H3 => ∃ (us : List V) (v3 v4 v5 v6 v7 : Option V), σ = [some (.ref p), some (.ref pl), some (.ref tl), v3, v4, v5, v6, v7] ∧
      Same H H3 ∧ H3 pl = some (.lst ((planeN C i).map V.str)) ∧ H3 tl = some (.lst us) ∧ RepL K (fun c => H c = none ∧ c ≠ tl) H3 (((planeT pic C i).map id).map dTie) us)
      ⟨[], none, none, none, none, none, rfl, same_trans s_pl s_tl, s_tl _ _ e_pl, e_tl, RepL.nil⟩ ?_ ?_ ?_⟩
    · rintro i σ H3 _ ⟨us, _, _, _, _, _, _, sm, _⟩
      exact SqL.of (sm _ _ hp)
    · rintro i x σ H3 H4 hi' ⟨us, v3, v4, v5, v6, v7, rfl, sm, hpl, htl, hr3⟩ ⟨t, x, y, rfl, nt, rfl, e1, e2⟩
      obtain rfl := Option.some.inj e1
      have hiR : i < R := by omega
      obtain ⟨d, hd, hyr⟩ := hrows.get e2
      obtain ⟨r, hri, rfl⟩ := map_get hd
      obtain ⟨rp, rfl, hNr, hrp⟩ := rep_row.mp hyr
      have hrow := hP.row r (List.mem_of_getElem? hri)
      have sm4 := same_trans sm (same_new (o := .tup [V.int (i : Nat), V.ref rp]) nt)
      have s4 : Same H3 _ := same_new (o := .tup [V.int (i : Nat), V.ref rp]) nt
      have e4 : upd H3 t (.tup [V.int (i : Nat), V.ref rp]) t = _ := upd_same
      generalize upd H3 t (.tup [V.int (i : Nat), V.ref rp]) = H4 at sm4 s4 e4 ⊢
      refine ⟨t, _, rfl, SqT.of e4, rfl, _, _, rfl, _, _, rfl, rfl, ?_⟩
      refine ⟨_, rfl, rp, _, rfl, SqL.of (sm4 _ _ hrp), for_it (walk_enum (xs := r.map V.int)) (fun j σ H5 => ∃ (us : List V) (v5 v6 v7 : Option V), σ = [some (.ref p), some (.ref pl), some (.ref tl), some (.int (i : Nat)), some (.ref rp), v5, v6, v7] ∧
        Same H H5 ∧ H5 pl = some (.lst ((planeN C i ++ rowN i j).map V.str)) ∧ H5 tl = some (.lst us) ∧ RepL K (fun c => H c = none ∧ c ≠ tl) H5 (((planeT pic C i ++ rowT pic i j).map id).map dTie) us)
        ⟨us, v5, v6, v7, rfl, sm4, by rw [show rowN i 0 = [] from rfl, List.append_nil]; exact s4 _ _ hpl, s4 _ _ htl, by rw [show rowT pic i 0 = [] from rfl, List.append_nil]; exact hr3.same s4⟩ ?_ ?_ ?_⟩
      · rintro j σ H5 _ ⟨us, _, _, _, _, sm, _⟩
        exact SqL.of (sm _ _ hrp)
      · rintro j x σ H5 H6 hj' ⟨us, v5, v6, v7, rfl, sm5, hpl5, htl5, hr5⟩ ⟨t, x, y, rfl, nt, rfl, e1, e2⟩
        obtain rfl := Option.some.inj e1
        rw [List.length_map, hrow.1] at hj'
        obtain ⟨sh, hsj, rfl⟩ := map_get e2
        have esh : sh = px pic i j := by
          obtain ⟨r', a1, a2, _⟩ := px_in hP hiR hj'
          rw [hri] at a1
          obtain rfl := Option.some.inj a1
          rw [hsj] at a2
          exact Option.some.inj a2
        subst esh
        have sm6 := same_trans sm5 (same_new (o := .tup [V.int (j : Nat), V.int (px pic i j)]) nt)
        have s6 : Same H5 _ := same_new (o := .tup [V.int (j : Nat), V.int (px pic i j)]) nt
        have e6 : upd H5 t (.tup [V.int (j : Nat), V.int (px pic i j)]) t = _ := upd_same
        generalize upd H5 t (.tup [V.int (j : Nat), V.int (px pic i j)]) = H6 at sm6 s6 e6 ⊢
        refine ⟨t, _, rfl, SqT.of e6, rfl, _, _, rfl, _, _, rfl, rfl, ?_⟩
        -- the name
        refine ⟨_, rfl, _, rfl, i, j, rfl, by omega, by omega, ?_⟩
        refine ⟨_, rfl, .inl ⟨rfl, _, SqL.of (s6 _ _ hpl5)⟩, _, rfl, pl, _, _, rfl, rfl, s6 _ _ hpl5, ?_, ?_⟩
        · rw [List.length_map, List.length_append, planeN_len]
          have : i * C ≤ 12 * 20 := Nat.mul_le_mul (by omega) hC
          simp [rowN]
          exact Nat.lt_of_lt_of_le (show i * C + j < 1000 by omega) (by decide)
        have sm7 : Same H (upd H6 pl (.lst ((planeN C i ++ rowN i j).map V.str ++ [V.str (plc i j)]))) := same_mut sm6 n_pl
        have hpl7 : upd H6 pl (.lst ((planeN C i ++ rowN i j).map V.str ++ [V.str (plc i j)])) pl = some (.lst ((planeN C i ++ rowN i (j + 1)).map V.str)) := by
          rw [rowN_succ, ← List.append_assoc, List.map_append (l₂ := [plc i j])]
          exact upd_same
        have htl7 : upd H6 pl (.lst ((planeN C i ++ rowN i j).map V.str ++ [V.str (plc i j)])) tl = some (.lst us) := upd_at (s6 _ _ htl5) hplt.symm
        have hr7 : RepL K (fun c => H c = none ∧ c ≠ tl) (upd H6 pl (.lst ((planeN C i ++ rowN i j).map V.str ++ [V.str (plc i j)]))) (((planeT pic C i ++ rowT pic i j).map id).map dTie) us :=
          RepL.step (N := fun c => (H c = none ∧ c ≠ tl) ∧ c ≠ pl) (fun _ h => h.1) (fun c o hc ho => upd_at ho hc.2) _ _ (repL_tie_apart (hr5.same s6) (s6 _ _ hpl5))
        dsimp only
        have lacc : (planeT pic C i ++ rowT pic i j).length ≤ 900 := by
          have l1 := planeT_len pic C i
          have l2 := rowT_len pic i j
          have l3 : i * (2 * C) ≤ 12 * (2 * 20) := Nat.mul_le_mul (by omega) (by omega)
          rw [List.length_append]
          omega
        refine viaS (t1 := tIfS _ _ _) (H := upd H6 pl (.lst ((planeN C i ++ rowN i j).map V.str ++ [V.str (plc i j)]))) (fun σ H8 => ∃ (us : List V), σ = [some (.ref p), some (.ref pl), some (.ref tl), some (.int (i : Nat)), some (.ref rp), some (.int (j : Nat)), some (.int (px pic i j)), some (.str (plc i j))] ∧
          Same H H8 ∧ H8 pl = some (.lst ((planeN C i ++ rowN i (j + 1)).map V.str)) ∧ H8 tl = some (.lst us) ∧ RepL K (fun c => H c = none ∧ c ≠ tl) H8 (((planeT pic C i ++ rowT pic i j ++ leftT pic i j).map id).map dTie) us) (fun nx hn => ?_) ?_
        · generalize upd H6 pl (.lst ((planeN C i ++ rowN i j).map V.str ++ [V.str (plc i j)])) = H7 at sm7 hpl7 htl7 hr7 ⊢
          refine ⟨_, rfl, _, _, rfl, rfl, _, rfl, ?_⟩
          refine ite2 (fun e => ?_) (fun e => ?_)
          · have hj0 : 0 < j := by
              have := of_decide_eq_true e
              omega
            have ej : ((j : Nat) : Int) - 1 = ((j - 1 : Nat) : Int) := by omega
            obtain ⟨r', a1, a2, _⟩ := px_in hP hiR (show j - 1 < C by omega)
            rw [hri] at a1
            obtain rfl := Option.some.inj a1
            refine ⟨_, rfl, .inl ⟨rfl, _, SqL.of htl7⟩, _, rfl, _, rfl, _, _, rfl, rfl, i, j - 1, by show [V.int _, V.int _] = _; rw [ej], by omega, by omega, _, rfl, _, rfl, _, rfl, _, rfl, _, _, rfl, rfl, rp, _, _, _, rfl, rfl, SqL.of (sm7 _ _ hrp), atI_pred hj0 (by rw [List.getElem?_map, a2]; rfl), _, _, rfl, rfl, _, rfl, by show 3 ≤ sizeLine; decide, fun t nt => ?_⟩
            have ntl : t ≠ tl := (ne_of_none htl7 nt).symm
            have lus : us.length ≤ 900 := by
              rw [hr7.len, List.length_map, List.length_map]
              exact lacc
            refine ⟨tl, us, .ref t, rfl, rfl, upd_at htl7 ntl.symm, Nat.lt_of_le_of_lt lus (by decide), ?_⟩
            refine hn _ _ ⟨_, rfl, same_mut (same_trans sm7 (same_new nt)) ntl0, upd_at (upd_at hpl7 (ne_of_none hpl7 nt)) hplt, upd_same, ?_⟩
            unfold leftT
            rw [if_pos hj0, List.map_append]
            exact tl_add (t := (plc i (j - 1), plc i j, absI (px pic i j - px pic i (j - 1)))) htl7 hr7 nt (same_back sm7 nt)
          · have hj0 : ¬ 0 < j := fun z => e (decide_eq_true (by omega))
            refine hn _ _ ⟨us, rfl, sm7, hpl7, htl7, ?_⟩
            unfold leftT
            rw [if_neg hj0, List.append_nil]
            exact hr7
        rintro σ H8 ⟨us8, rfl, sm8, hpl8, htl8, hr8⟩
        have lus : us8.length ≤ 901 := by
          rw [hr8.len, List.length_map, List.length_map, List.length_append]
          have := leftT_len pic i j
          omega
        refine ⟨_, rfl, _, _, rfl, rfl, _, rfl, ?_⟩
        refine ite2 (fun e => ?_) (fun e => ?_)
        · have hi0 : 0 < i := by
            have := of_decide_eq_true e
            omega
          have ei : ((i : Nat) : Int) - 1 = ((i - 1 : Nat) : Int) := by omega
          obtain ⟨r', a1, a2, _⟩ := px_in hP (show i - 1 < R by omega) hj'
          obtain ⟨w1, b1, b2⟩ := hrows.get' (i := i - 1) (d := dRow r') (by rw [List.getElem?_map, a1]; rfl)
          obtain ⟨q, rfl, _, hq⟩ := rep_row.mp b2
          refine ⟨_, rfl, .inl ⟨rfl, _, SqL.of htl8⟩, _, rfl, _, _, rfl, rfl, _, rfl, i - 1, j, by show [V.int _, V.int _] = _; rw [ei], by omega, by omega, _, rfl, _, rfl, _, rfl, _, rfl, _, _, rfl, rfl, p, vs, _, _, rfl, rfl, SqL.of (sm8 _ _ hp), atI_pred hi0 b1, _, rfl, q, _, _, _, rfl, rfl, SqL.of (sm8 _ _ hq), atI_nat (by rw [List.getElem?_map, a2]; rfl), _, _, rfl, rfl, _, rfl, by show 3 ≤ sizeLine; decide, fun t nt => ?_⟩
          have ntl : t ≠ tl := (ne_of_none htl8 nt).symm
          refine ⟨tl, us8, .ref t, rfl, rfl, upd_at htl8 ntl.symm, Nat.lt_of_le_of_lt lus (by decide), ?_⟩
          refine ⟨_, _, _, _, rfl, same_mut (same_trans sm8 (same_new nt)) ntl0, upd_at (upd_at hpl8 (ne_of_none hpl8 nt)) hplt, upd_same, ?_⟩
          rw [rowT_succ]
          unfold cellT upT
          rw [if_pos hi0, ← List.append_assoc, ← List.append_assoc, List.map_append]
          exact tl_add (t := (plc (i - 1) j, plc i j, absI (px pic i j - px pic (i - 1) j))) htl8 hr8 nt (same_back sm8 nt)
        · have hi0 : ¬ 0 < i := fun z => e (decide_eq_true (by omega))
          refine ⟨us8, _, _, _, rfl, sm8, hpl8, htl8, ?_⟩
          rw [rowT_succ]
          unfold cellT upT
          rw [if_neg hi0, List.append_nil, ← List.append_assoc]
          exact hr8
      · rintro σ H5 ⟨us, v5, v6, v7, rfl, sm5, hpl5, htl5, hr5⟩
        rw [List.length_map, hrow.1] at hpl5 hr5
        exact ⟨us, _, _, v5, v6, v7, rfl, sm5, by rw [planeN_succ]; exact hpl5, htl5, by rw [planeT_succ]; exact hr5⟩
    · rintro σ H3 ⟨us, v3, v4, v5, v6, v7, rfl, sm3, hpl3, htl3, hr3⟩
      rw [lvs] at hpl3 hr3
      refine ⟨_, rfl, _, rfl, ?_⟩
      refine ⟨_, _, rfl, dStrs (planeN C R), dTies (planeT pic C R), Fr H, rep_strs.mpr ⟨pl, rfl, n_pl, hpl3⟩, ?_, strs_few true ?_ hgd, ties_few true ?_, ?_⟩
      · rw [List.map_id] at hr3
        exact ⟨tl, us, rfl, ntl0, htl3, RepL.step (fun c h => h.1) (fun _ _ _ h => h) _ _ hr3⟩
      · rw [planeN_len]
        have : R * C ≤ 12 * 20 := Nat.mul_le_mul hR hC
        omega
      · have l1 := planeT_len pic C R
        have l3 : R * (2 * C) ≤ 12 * (2 * 20) := Nat.mul_le_mul hR (by omega)
        omega
      · show match chkW (.seq true _) (.seq true _) with | .places i => _ | .ties i => _ | .ok ns ts => _
        rw [chkW_ok true true (planeN_nd hR hC) hgd (plane_acc hP hR hC)]
        intro hA n v H4 hw s4 hrep
        exact k n v H4 hw (same_trans sm3 s4) (hrep.wk fun c hc => same_back sm3 hc)
end
end Pw
set_option Elab.async false
set_option linter.all false
set_option maxRecDepth 100000
set_option maxHeartbeats 8000000
/-! picture_web. -/
namespace Pw
open PySem PySem.Spec PyProof.Rows L2
section
variable {P : Program} {w : World} {K : PySem.W.Frag} {mg : Str → Option Value} {base : Heap}
def spPW (K : PySem.W.Frag) : Sp := fun vs H Q E => ∃ (v : V) (d : Dt) (N : Addr → Prop), vs = [v] ∧ Rep K N H d v ∧ d.few2 ∧ if d.isPic = true then
    (∃ (R C : Nat) (lo hi : Int), PicOk R C lo hi d.pic ∧ R ≤ 12 ∧ C ≤ 20 ∧ ∀ (n : Near) (u : V) (H' : Hp), WebOf (planeN C R) (planeT d.pic C R) n → Same H H' → Rep K (Fr H) H' (.web n) u → Q u H')
  else RaiseX K "BadPicture" "thing" v H E
theorem sc_picture_web : FnScope ["picture"] ["picture"] (defScope s_picture_web) := ⟨rfl, rfl, rfl, by decide +kernel, rfl, by decide +kernel, by decide +kernel⟩
theorem ok_picture_web (T : Tx K mg) : Ok P w K mg base (L2.CX P w) 7 "picture_web" ["picture"] (spPW K) := by
  have G_checked_picture : Ok P w K mg base (L2.CX P w) 3 _ _ _ := ok_ck_picture T
  have G_web_of : Ok P w K mg base CX0 6 _ _ _ := ok_web_of T
  refine mkOkX (d := d_picture_web) T 19 17 rfl rfl rfl rfl rfl (fun _ _ _ _ _ _ us hl => match us, hl with | [_], _ => rfl) sc_picture_web (fun vs H Q E h => ?_) (fun f cdv A outer s H vs Q E hr h => ?_)
  · obtain ⟨v, d, N, rfl, _⟩ := h
    rfl
  · obtain ⟨v, d, N, rfl, hd, hf, k⟩ := h
    have nd := sc_picture_web.nd
    refine ⟨_, (pss_one (ps_ret (pe_ok G_web_of (hr.mono (by omega)) pass0 (pa_cons (pe_ok G_checked_picture (hr.mono (by omega)) (passes_call (takes_of rfl rfl rfl rfl) (fun _ _ _ _ h => h)) (pa_cons (pv 0) pa_nil)) pa_nil)))), ?_⟩
    refine ⟨_, rfl, v, d, N, rfl, hd, hf, ?_⟩
    cases hp : d.isPic with
    | false =>
      rw [hp, if_neg (by decide)] at k
      exact iteF k
    | true =>
      rw [hp, if_pos rfl] at k
      obtain ⟨R, C, lo, hi, h1, h2, h3, k⟩ := k
      refine iteT fun u H1 s1 hu => ?_
      exact ⟨u, Fr H, R, C, lo, hi, d.pic, rfl, hu, h1, h2, h3, fun n x H2 hw s2 hx => k n x H2 hw (same_trans s1 s2) (hx.wk fun c hc => same_back s1 hc)⟩
end
end Pw
set_option Elab.async false
set_option linter.all false
set_option maxRecDepth 100000
set_option maxHeartbeats 8000000
/-! Lists and tuples at will. -/
namespace Pw
open PySem PySem.Spec PyProof.Rows L2
mutual
/-- all sequences as lists -/
def Dt.lax : Dt → Dt
  | .seq _ xs => .seq true (Dt.laxL xs)
  | .non => .non
  | .bl b => .bl b
  | .int i => .int i
  | .str s => .str s
  | .dic k => .dic k
  | .web n => .web n
def Dt.laxL : List Dt → List Dt
  | [] => []
  | d :: ds => Dt.lax d :: Dt.laxL ds
end
mutual
/-- no deeper than n -/
def Dt.dep : Nat → Dt → Bool
  | 0, _ => false
  | n + 1, .seq _ xs => decide (xs.length ≤ 100000) && Dt.depL n xs
  | _ + 1, .non => true
  | _ + 1, .bl _ => true
  | _ + 1, .int _ => true
  | _ + 1, .str _ => true
  | _ + 1, .dic _ => true
  | _ + 1, .web _ => true
def Dt.depL : Nat → List Dt → Bool
  | _, [] => true
  | n, d :: ds => Dt.dep n d && Dt.depL n ds
end
mutual
def Dt.cnt : Dt → Nat
  | .seq _ xs => 1 + Dt.cntL xs
  | .non => 0
  | .bl _ => 0
  | .int _ => 0
  | .str _ => 0
  | .dic _ => 0
  | .web _ => 0
def Dt.cntL : List Dt → Nat
  | [] => 0
  | d :: ds => Dt.cnt d + Dt.cntL ds
end
theorem laxL_map : ∀ ds : List Dt, Dt.laxL ds = ds.map Dt.lax
  | [] => rfl
  | d :: ds => by
    show Dt.lax d :: Dt.laxL ds = _
    rw [laxL_map ds]
    rfl
theorem depL_mem {n : Nat} : ∀ {ds : List Dt}, Dt.depL n ds = true → ∀ d ∈ ds, Dt.dep n d = true
  | [], _, d, h => by cases h
  | e :: ds, hd, d, h => by
    obtain ⟨h1, h2⟩ := Bool.and_eq_true_iff.mp (show (Dt.dep n e && Dt.depL n ds) = true from hd)
    rcases List.mem_cons.mp h with rfl | h
    · exact h1
    · exact depL_mem h2 d h
theorem cntL_take : ∀ {ds : List Dt} {j : Nat} {d : Dt}, ds[j]? = some d → Dt.cntL (ds.drop j) = d.cnt + Dt.cntL (ds.drop (j + 1))
  | [], _, _, h => by simp at h
  | e :: ds, 0, d, h => by
    simp at h
    subst h
    rfl
  | e :: ds, j + 1, d, h => by
    have h' : ds[j]? = some d := by simpa using h
    exact cntL_take (ds := ds) (j := j) h'
/-- a comprehension over a list or a tuple -/
theorem lcU {K : PySem.W.Frag} {te el : TE} {i : Nat} {vs : List Nat} {σ : L2.St} {H : Hp} {Q : VK} {l : Bool} {p : Addr} {xs : List V} (Pv : Addr → Nat → Hp → Prop) (ho : H p = some (sqo l xs)) (ht : ∀ Q' : VK, Q' (.ref p) H → te σ H Q')
    (hw : ∀ x, wipe ((wipe σ vs).set i (some x)) vs = wipe σ vs) (h0 : ∀ D, H D = none → Pv D 0 (upd H D (.lst []))) (hG : ∀ D j H1, Pv D j H1 → H1 p = some (sqo l xs))
    (hel : ∀ (D : Addr) (j : Nat) (x : V) (H1 : Hp), H D = none → xs[j]? = some x → Pv D j H1 → el ((wipe σ vs).set i (some x)) H1 fun y H4 => ∃ acc, H4 D = some (.lst acc) ∧ acc.length < sizeLine ∧ Pv D (j + 1) (upd H4 D (.lst (acc ++ [y]))))
    (hq : ∀ (D : Addr) (H' : Hp), H D = none → Pv D xs.length H' → Q (.ref D) H') : tLc (fun σ H R => iList K te σ H R ∨ iTup K te σ H R) (gName i) tYes el vs σ H Q := by
  have key : ∀ (J : It) (D : Addr), H D = none → Walk J xs.length (fun H1 => H1 p = some (sqo l xs)) (YAt xs) → ∃ W : Nat → Nat → Hp → Prop, (∃ m, W 0 m (upd H D (.lst []))) ∧ ∀ i1 m H1, W i1 m H1 →
      (J.stop i1 H1 ∧ Q (.ref D) H1) ∨ (J.go i1 H1 ∧ ∃ Nx : Hp → Prop, (∀ H', Nx H' → ∃ m', m' < m ∧ W (i1 + 1) m' H') ∧ ∀ x H', J.yld i1 H1 x H' → gName i x (wipe σ vs) H' fun σ2 H2 => wipe σ2 vs = wipe σ vs ∧ tYes σ2 H2 fun b H3 =>
        if b = true then el σ2 H3 fun y H4 => ∃ acc, H4 D = some (.lst acc) ∧ acc.length < sizeLine ∧ Nx (upd H4 D (.lst (acc ++ [y]))) else Nx H3) := fun J D nD wk => by
    refine lc_it wk (Pv D) (h0 D nD) (fun j H1 _ P => hG D j H1 P) ?_ (fun H1 P => hq D H1 nD P)
    rintro j x H1 H2 hj P ⟨rfl, hx⟩
    exact ⟨hw x, yesT (hel D j x _ nD hx P)⟩
  cases l with
  | true => exact .inl (ht _ ⟨p, rfl, ⟨xs, SqL.of ho⟩, fun D nD => key _ D nD (Walk.weak walk_list fun _ => SqL.of)⟩)
  | false => exact .inr (ht _ ⟨p, rfl, ⟨xs, SqT.of ho⟩, fun D nD => key _ D nD (Walk.weak walk_tup fun _ => SqT.of)⟩)
mutual
theorem Rep.known {K : PySem.W.Frag} {N : Addr → Prop} {H : Hp} : ∀ (d : Dt) (v : V), Rep K N H d v → Rep K (fun c => N c ∧ H c ≠ none) H d v
  | .non, _, h => h
  | .bl _, _, h => h
  | .int _, _, h => h
  | .str _, _, h => h
  | .seq _ xs, _, h => by
    obtain ⟨p, vs, e, hp, ho, hr⟩ := h
    exact ⟨p, vs, e, ⟨hp, by rw [ho]; exact fun z => by cases z⟩, ho, RepL.known xs vs hr⟩
  | .dic _, _, h => by
    obtain ⟨p, e, hp, ho⟩ := h
    exact ⟨p, e, ⟨hp, by rw [ho]; exact fun z => by cases z⟩, ho⟩
  | .web _, _, h => by
    obtain ⟨p, e, hp, dx, t, d, h1, h2, h3, h4, ⟨z, h5, h6, h7⟩, h8⟩ := h
    exact ⟨p, e, ⟨hp, by rw [h1]; exact fun z => by cases z⟩, dx, t, d, h1, ⟨h2, by rw [h4]; exact fun z => by cases z⟩, ⟨h3, by rw [h6]; exact fun z => by cases z⟩, h4, ⟨z, h5, h6, fun q hq => ⟨⟨(h7 q hq).1, by rw [(h7 q hq).2]; exact fun z => by cases z⟩, (h7 q hq).2⟩⟩, h8⟩
theorem RepL.known {K : PySem.W.Frag} {N : Addr → Prop} {H : Hp} : ∀ (ds : List Dt) (vs : List V), RepL K N H ds vs → RepL K (fun c => N c ∧ H c ≠ none) H ds vs
  | [], _, h => h
  | d :: ds, _, h => by
    obtain ⟨v, ws, e, h1, h2⟩ := h
    exact ⟨v, ws, e, Rep.known d v h1, RepL.known ds ws h2⟩
end
section
variable {P : Program} {w : World} {K : PySem.W.Frag} {mg : Str → Option Value} {base : Heap}
def spLoose (K : PySem.W.Frag) (k : Nat) : Sp := fun vs H Q _ => ∃ (a b : Addr) (v : V) (d : Dt) (N : Addr → Prop) (n : Nat), vs = [.ref a, v] ∧ Rep K N H d v ∧ (∀ c, N c → c ≠ a ∧ c ≠ b) ∧ d.dep k = true ∧ Strm a b (n + d.cnt) H ∧
  ∀ (H' : Hp) (v' : V) (d' : Dt), d'.lax = d.lax → Rep K (fun c => N c ∨ Fr H c) H' d' v' → Kp a b H H' → Strm a b n H' → Q v' H'
theorem sc_law_loose : FnScope ["_law_stream", "_law_thing", "_law_found", "_law_part"] ["_law_stream", "_law_thing"] (defScope s_law_loose) := ⟨rfl, rfl, rfl, by decide +kernel, rfl, by decide +kernel, by decide +kernel⟩
theorem ok_loose0 (T : Tx K mg) : Ok P w K mg base CX0 1 "_law_loose" ["_law_stream", "_law_thing"] (fun _ _ _ _ => False) := by
  refine mkOk (d := d_law_loose) T 39 37 rfl rfl rfl rfl rfl (fun _ _ _ _ _ _ us hl => match us, hl with | [_, _], _ => rfl) sc_law_loose (fun vs H Q E h => ?_) (fun f cdv A outer s H vs Q E hr h => ?_)
  · exact h.elim
  · exact h.elim
theorem ok_loose (T : Tx K mg) : ∀ k, Ok P w K mg base CX0 (k + 2) "_law_loose" ["_law_stream", "_law_thing"] (spLoose K k)
  | 0 => ((ok_loose0 T).mono (by omega)).imp fun vs H Q E ⟨a, b, v, d, N, n, _, _, _, hk, _⟩ => by
    cases d <;> simp [Dt.dep] at hk
  | k + 1 => by
    have G_draw : Ok P w K mg base CX0 1 _ _ _ := ok_draw T
    have G_loose : Ok P w K mg base CX0 (k + 2) _ _ _ := ok_loose T k
    refine mkOk (d := d_law_loose) T 39 37 rfl rfl rfl rfl rfl (fun _ _ _ _ _ _ us hl => match us, hl with | [_, _], _ => rfl) sc_law_loose (fun vs H Q E h => ?_) (fun f cdv A outer s H vs Q E hr h => ?_)
    · obtain ⟨a, b, v, d, N, n, rfl, _⟩ := h
      rfl
    · obtain ⟨a, b, v, d, N, n, rfl, hd, hN, hk, hS, q⟩ := h
      have nd := sc_law_loose.nd
      refine ⟨_, (pss_cons (ps_if (pt_not (pt_val (pe_callB (k_isiT (K := K)) (by rfl) T.isinstance (by decide +kernel) (pa_cons (pv 1) (pa_cons (pe_tup (pa_cons (pe_bltn (v := .ty "list") (u := .type "list") (by rfl) T.list (by decide +kernel) rfl) (pa_cons (pe_bltn (v := .ty "tuple") (u := .type "tuple") (by rfl) T.tuple (by decide +kernel) rfl) pa_nil))) pa_nil))))) (pss_one (ps_ret (pv 1))) pss_nil)
      (pss_cons (ps_setLc (i := 2) (own := [("_law_part", 3)]) (by rfl) nd rfl rfl (sw_true rfl rfl rfl (by decide +kernel)) (pi_or (k_pl (K := K) (pv 1)) (k_pt (K := K) (pv 1))) (blkOk_by (own := [("_law_part", 3)]) (N := ["_law_stream", "_law_thing", "_law_found", "_law_part"]) (sc := (defScope s_law_loose)) (by decide +kernel)) (fun _ _ _ _ _ => (pg_name (i := 3) nd rfl (by first | exact Or.inl rfl | exact Or.inr rfl))) (fun _ _ _ _ _ => pts_nil) (fun _ _ _ _ _ => (pe_ok G_loose (hr.mono (by omega)) pass0 (pa_cons (pv 0) (pa_cons (pv 3) pa_nil)))))
      (pss_one (ps_ret (pe_ifExp (pt_cmpR op_eq (pe_ok G_draw (hr.mono (by omega)) pass0 (pa_cons (pv 0) (pa_cons pe_int pa_nil))) pe_int (nomark _)) (pv 2) (pe_callTy (k_tuple (K := K)) (by rfl) T.tuple (by decide +kernel) (pa_cons (pv 2) pa_nil))))))), ?_⟩
      refine ⟨_, rfl, by show 2 ≤ sizeLine; decide, fun tp ntp => ?_⟩
      unfold tNil
      refine isiT_ok T hd ["list", "tuple"] (by decide) ntp ?_
      rw [seq_any]
      have s1 : Same H (upd H tp (.tup (["list", "tuple"].map V.ty))) := same_new ntp
      generalize upd H tp (.tup (["list", "tuple"].map V.ty)) = H1 at s1 ⊢
      refine ⟨_, rfl, ?_⟩
      cases hs : d.isSeq with
      | false =>
        refine iteT ⟨_, rfl, q H1 v d rfl ((hd.same s1).wk fun c hc => .inl hc) (.of s1) ((hS.same s1).le (Nat.le_add_right _ _))⟩
      | true =>
      obtain ⟨l, xs, rfl⟩ : ∃ l xs, d = .seq l xs := by cases d <;> first | exact ⟨_, _, rfl⟩ | cases hs
      obtain ⟨hlx, hdx⟩ := Bool.and_eq_true_iff.mp (show (decide (xs.length ≤ 100000) && Dt.depL k xs) = true from hk)
      have hlx := of_decide_eq_true hlx
      obtain ⟨p, vs, rfl, hNp, hp, hr⟩ := hd
      have lv := hr.len
      have hrk := hr.known
      have hoff := hN p hNp
      refine iteF (next_i ?_)
      dsimp only
      refine viaS (t1 := tAsg _ _) (fun σ H4 => ∃ (D : Addr) (v3 : Option V) (ws : List V) (ds' : List Dt), σ = [some (.ref a), some (.ref p), some (.ref D), v3] ∧ H D = none ∧ Kp a b H H4 ∧ Strm a b (n + 1) H4 ∧ H4 D = some (.lst ws) ∧ RepL K (fun c => (N c ∨ Fr H c) ∧ c ≠ D) H4 ds' ws ∧ Dt.laxL ds' = Dt.laxL xs) (fun nx hn => ?_) ?_
      · refine lcU (l := l) (p := p) (xs := vs) (fun D j H7 => Kp a b H H7 ∧ Strm a b (n + 1 + Dt.cntL (xs.drop j)) H7 ∧ ∃ (ws : List V) (ds' : List Dt), H7 D = some (.lst ws) ∧ ws.length = j ∧ RepL K (fun c => (N c ∨ Fr H c) ∧ c ≠ D) H7 ds' ws ∧ Dt.laxL ds' = Dt.laxL (xs.take j)) (s1 _ _ hp) (fun Q' q => ⟨_, rfl, q⟩) (fun _ => rfl) ?_ ?_ ?_ ?_
        · intro D nD
          have s2 : Same H (upd H1 D (.lst [])) := same_trans s1 (same_new nD)
          refine ⟨.of s2, (hS.same s2).le ?_, [], [], upd_same, rfl, RepL.nil, rfl⟩
          show n + 1 + Dt.cntL xs ≤ n + (1 + Dt.cntL xs)
          omega
        · intro D j H7 ⟨kp, _⟩
          exact kp _ _ hp hoff.1 hoff.2
        · intro D j x H7 nD hx ⟨kp, S7, ws, ds', hD, lw, hr7, hl7⟩
          obtain ⟨dx, hdx2, hrx⟩ := hrk.get hx
          have nD0 : H D = none := same_back s1 nD
          have hoffN : ∀ c, N c ∧ H c ≠ none → c ≠ a ∧ c ≠ b := fun c hc => hN c hc.1
          rw [cntL_take hdx2] at S7
          refine ⟨_, rfl, _, rfl, a, b, x, dx, _, n + 1 + Dt.cntL (xs.drop (j + 1)), rfl, hrx.kp kp hoffN, hoffN, depL_mem hdx dx (List.mem_of_getElem? hdx2), S7.le (by omega), fun H8 y dy hly hy kp8 S8 => ?_⟩
          have offD := hS.off nD0
          have hD8 := kp8 _ _ hD offD.1 offD.2
          have hoff2 : ∀ c, ((N c ∧ H c ≠ none) ∨ Fr H7 c) → (N c ∨ Fr H c) ∧ c ≠ D := fun c hc => by
            rcases hc with hc | hc
            · exact ⟨.inl hc.1, fun e => hc.2 (by rw [e]; exact nD0)⟩
            · exact ⟨.inr (kp.back S7 hc), (ne_of_none hD hc).symm⟩
          have jl : j < xs.length := (List.getElem?_eq_some_iff.mp hdx2).1
          refine ⟨ws, hD8, Nat.lt_of_le_of_lt (show ws.length ≤ 100000 by omega) (by decide), kp_mut (kp.trans kp8) nD0, S8.at_ (upd_ne offD.1.symm) (upd_ne offD.2.symm), ws ++ [y], ds' ++ [dy], upd_same, by rw [List.length_append, lw]; rfl, ?_, ?_⟩
          · refine RepL.snoc (RepL.step (fun _ h => h) (fun c o hc ho => upd_at (kp8 c o ho ?_ ?_) hc.2) _ _ hr7) (Rep.step hoff2 (fun c o hc ho => upd_at ho (hoff2 c hc).2) _ _ hy)
            · rcases hc.1 with h | h
              · exact (hN c h).1
              · exact (hS.off h).1
            · rcases hc.1 with h | h
              · exact (hN c h).2
              · exact (hS.off h).2
          · have ea : ∀ (l : List Dt) (d : Dt), Dt.laxL (l ++ [d]) = Dt.laxL l ++ [d.lax] := fun l d => by
              rw [laxL_map, laxL_map, List.map_append]
              rfl
            rw [take_snoc hdx2, ea, ea, hl7, hly]
        · intro D H7 nD ⟨kp, S7, ws, ds', hD, lw, hr7, hl7⟩
          rw [lv, List.drop_length] at S7
          rw [lv, List.take_length] at hl7
          exact hn _ _ ⟨D, _, ws, ds', rfl, same_back s1 nD, kp, S7, hD, hr7, hl7⟩
      rintro σ H4 ⟨D, v3, ws, ds', rfl, nD0, kp, S4, hD, hr4, hl4⟩
      have offD := hS.off nD0
      have hlax : ∀ l2, (Dt.seq l2 ds').lax = (Dt.seq l xs).lax := fun l2 => by
        show Dt.seq true (Dt.laxL ds') = Dt.seq true (Dt.laxL xs)
        rw [hl4]
      refine ⟨_, rfl, a, b, n, 3, rfl, S4, by decide, by decide, fun H5 dd kp5 S5 d0 d1 => ?_⟩
      have hoffW : ∀ c, (N c ∨ Fr H c) ∧ c ≠ D → c ≠ a ∧ c ≠ b := fun c hc => by
        rcases hc.1 with h | h
        · exact hN c h
        · exact hS.off h
      have hr5 := hr4.kp kp5 hoffW
      have hD5 := kp5 _ _ hD offD.1 offD.2
      refine ⟨rfl, _, rfl, ?_⟩
      refine ite2 (fun e => ?_) (fun e => ?_)
      · exact ⟨_, rfl, q H5 _ (.seq true ds') (hlax true) ⟨D, ws, rfl, .inr nD0, hD5, hr5.wk fun c hc => hc.1⟩ (kp.trans kp5) S5⟩
      · refine ⟨_, rfl, D, ws, rfl, .inl ⟨SqL.of hD5, fun t nt => ?_⟩⟩
        exact q _ _ (.seq false ds') (hlax false) ⟨t, ws, rfl, .inr ((kp.trans kp5).back S5 nt), upd_same, (hr5.same (same_new nt)).wk fun c hc => hc.1⟩ ((kp.trans kp5).trans (kp_new nt)) (S5.new nt)
end
end Pw
set_option Elab.async false
set_option linter.all false
set_option maxRecDepth 100000
set_option maxHeartbeats 8000000
/-! The law's own sameness, of equal data. -/
namespace Pw
open PySem PySem.Spec PyProof.Rows L2
section
variable {X : Cx} {K : PySem.W.Frag}
theorem k_zipA {e e2 : Expr} {ta : TA} {p pos tpos : Pos} {elts : List Expr} {kk : Nat} (hg : Gl X "zip") (hm : X.mg "zip" = none) (ha : PA X [e, e2] ta)
    (hs : starEach [e, e2] X.env = (false, eval e X.env) :: starEach [e2] X.env := by rfl) (hpl : (backTo pos (starEach [e2] X.env)).any (·.1) = false := by rfl) (ek : X.K = K := by rfl) :
    PI X (.Tuple elts kk tpos) (.Call (.Name "zip" p) [e, e2] [] pos) (RZ.iZipA K ta) := by subst ek; exact RZ.pi_zipA hg hm ha hs hpl
theorem walk_zipT {a b : Addr} {xs ys : List V} {n : Nat} (hn : n = min xs.length ys.length) : Walk (RZ.ItzT K a b) n (fun H => SqT K H a xs ∧ SqT K H b ys) (YPair (fun i => xs[i]?) (fun i => ys[i]?)) := by
  subst hn
  refine ⟨fun i _ hi q => ?_, fun _ q => ⟨xs, ys, q.1, q.2, by omega⟩, fun i H v H' _ q y => ?_⟩
  · have h1 : i < xs.length := by omega
    have h2 : i < ys.length := by omega
    exact ⟨xs, ys, xs[i], ys[i], q.1, q.2, by simp [h1], by simp [h2]⟩
  · obtain ⟨T, x, z, h1, h2, h3, h4, h5⟩ := y
    exact ⟨T, x, z, h1, h2, h3, h4 xs q.1, h5 ys q.2⟩
theorem zipU {ta : TA} {σ : L2.St} {H : Hp} {R : It → Hp → Prop} {l : Bool} {p q : Addr} {xs ys : List V} (ho : H p = some (sqo l xs)) (hq : H q = some (sqo l ys)) (hl : xs.length = ys.length) (h : ∀ Q : List V → Hp → Prop, Q [.ref p, .ref q] H → ta σ H Q)
    (hR : ∀ J, Walk J xs.length (fun H => H p = some (sqo l xs) ∧ H q = some (sqo l ys)) (YPair (fun i => xs[i]?) (fun i => ys[i]?)) → R J H) : RZ.iZipA K ta σ H R := by
  cases l with
  | true => exact h _ ⟨p, q, xs, ys, rfl, .inl ⟨SqL.of ho, SqL.of hq, hR _ (Walk.weak (walk_zip (by omega)) fun _ h => ⟨SqL.of h.1, SqL.of h.2⟩)⟩⟩
  | false => exact h _ ⟨p, q, xs, ys, rfl, .inr ⟨SqT.of ho, SqT.of hq, hR _ (Walk.weak (walk_zipT (by omega)) fun _ h => ⟨SqT.of h.1, SqT.of h.2⟩)⟩⟩
end
mutual
/-- what the law compares: no deeper than n, dicts empty -/
def Dt.smp : Nat → Dt → Bool
  | 0, _ => false
  | n + 1, .seq _ xs => decide (xs.length ≤ 100000) && Dt.smpL n xs
  | n + 1, .dic kvs => kvs.isEmpty && decide (1 ≤ n)
  | _ + 1, .non => true
  | _ + 1, .bl _ => true
  | _ + 1, .int _ => true
  | _ + 1, .str _ => true
  | _ + 1, .web _ => true
def Dt.smpL : Nat → List Dt → Bool
  | _, [] => true
  | n, d :: ds => Dt.smp n d && Dt.smpL n ds
end
theorem smpL_mem {n : Nat} : ∀ {ds : List Dt}, Dt.smpL n ds = true → ∀ d ∈ ds, Dt.smp n d = true
  | [], _, d, h => by cases h
  | e :: ds, hd, d, h => by
    obtain ⟨h1, h2⟩ := Bool.and_eq_true_iff.mp (show (Dt.smp n e && Dt.smpL n ds) = true from hd)
    rcases List.mem_cons.mp h with rfl | h
    · exact h1
    · exact smpL_mem h2 d h
section
variable {P : Program} {w : World} {K : PySem.W.Frag} {mg : Str → Option Value} {base : Heap}
def spSame (K : PySem.W.Frag) (k : Nat) : Sp := fun vs H Q _ => ∃ (u v : V) (d : Dt) (N M : Addr → Prop), vs = [u, v] ∧ Rep K N H d u ∧ Rep K M H d v ∧ d.smp k = true ∧ ∀ H', Same H H' → Q (.bl true) H'
theorem sc_law_same : FnScope ["_law_found", "_law_due", "_law_x", "_law_y"] ["_law_found", "_law_due"] (defScope s_law_same) := ⟨rfl, rfl, rfl, by decide +kernel, rfl, by decide +kernel, by decide +kernel⟩
theorem ok_same0 (T : Tx K mg) : Ok P w K mg base CX0 1 "_law_same" ["_law_found", "_law_due"] (fun _ _ _ _ => False) := by
  refine mkOk (d := d_law_same) T 38 36 rfl rfl rfl rfl rfl (fun _ _ _ _ _ _ us hl => match us, hl with | [_, _], _ => rfl) sc_law_same (fun vs H Q E h => ?_) (fun f cdv A outer s H vs Q E hr h => ?_)
  · exact h.elim
  · exact h.elim
theorem nearEq_refl {n : Near} (h : NearOk n) : nearEq n n = true := by
  unfold nearEq
  rw [Bool.and_eq_true, List.all_eq_true]
  refine ⟨by simp, fun q hq => ?_⟩
  rw [lookup_mem_nd h.nd (show (q.1, q.2) ∈ n from hq)]
  exact rowEq_refl (h.rows q hq)
theorem ok_same (T : Tx K mg) : ∀ k, Ok P w K mg base CX0 (k + 2) "_law_same" ["_law_found", "_law_due"] (spSame K k)
  | 0 => ((ok_same0 T).mono (by omega)).imp fun vs H Q E ⟨u, v, d, N, M, _, _, _, hk, _⟩ => by
    cases d <;> simp [Dt.smp] at hk
  | k + 1 => by
    have G_same : Ok P w K mg base CX0 (k + 2) _ _ _ := ok_same T k
    have G_eq : OkM P w K mg base CX0 1 "Web" "__eq__" _ _ := ok_eq T
    refine mkOk (d := d_law_same) T 38 36 rfl rfl rfl rfl rfl (fun _ _ _ _ _ _ us hl => match us, hl with | [_, _], _ => rfl) sc_law_same (fun vs H Q E h => ?_) (fun f cdv A outer s H vs Q E hr h => ?_)
    · obtain ⟨u, v, d, N, M, rfl, _⟩ := h
      rfl
    · obtain ⟨u, v, d, N, M, rfl, hu', hv, hk, q⟩ := h
      have nd := sc_law_same.nd
      refine ⟨_, (pss_cons (ps_if (pt_val (pe_callB (k_isiT (K := K)) (by rfl) T.isinstance (by decide +kernel) (pa_cons (pv 1) (pa_cons (pe_tup (pa_cons (pe_bltn (v := .ty "list") (u := .type "list") (by rfl) T.list (by decide +kernel) rfl) (pa_cons (pe_bltn (v := .ty "tuple") (u := .type "tuple") (by rfl) T.tuple (by decide +kernel) rfl) pa_nil))) pa_nil)))) (pss_cons (ps_if (PW.pt (pw_or (pt_cmpR op_ne (pe_callB (k_isi (K := K)) (by rfl) T.isinstance (by decide +kernel) (pa_cons (pv 0) (pa_cons (pe_bltn (v := .ty "list") (u := .type "list") (by rfl) T.list (by decide +kernel) rfl) pa_nil))) (pe_callB (k_isi (K := K)) (by rfl) T.isinstance (by decide +kernel) (pa_cons (pv 1) (pa_cons (pe_bltn (v := .ty "list") (u := .type "list") (by rfl) T.list (by decide +kernel) rfl) pa_nil))) (nomark _)) (pw_or1 (pt_cmpR op_ne (pe_callB (k_isi (K := K)) (by rfl) T.isinstance (by decide +kernel) (pa_cons (pv 0) (pa_cons (pe_bltn (v := .ty "tuple") (u := .type "tuple") (by rfl) T.tuple (by decide +kernel) rfl) pa_nil))) (pe_callB (k_isi (K := K)) (by rfl) T.isinstance (by decide +kernel) (pa_cons (pv 1) (pa_cons (pe_bltn (v := .ty "tuple") (u := .type "tuple") (by rfl) T.tuple (by decide +kernel) rfl) pa_nil))) (nomark _))))) (pss_one (ps_ret pe_bl)) pss_nil)
      (pss_one (ps_ret (pe_and (pe_cmpR op_eq (pe_callB (k_len (K := K)) (by rfl) T.len (by decide +kernel) (pa_cons (pv 0) pa_nil)) (pe_callB (k_len (K := K)) (by rfl) T.len (by decide +kernel) (pa_cons (pv 1) pa_nil)) (nomark _)) (pe_one (pe_callB (k_all rfl (K := K)) (by rfl) T.all (by decide +kernel) (pa_cons (pe_lc (own := [("_law_x", 2), ("_law_y", 3)]) (by rfl) nd (k_zipA (K := K) (by rfl) T.zip (pa_cons (pv 0) (pa_cons (pv 1) pa_nil))) (blkOk_by (own := [("_law_x", 2), ("_law_y", 3)]) (N := ["_law_found", "_law_due", "_law_x", "_law_y"]) (sc := (defScope s_law_same)) (by decide +kernel)) (fun _ _ _ _ _ => (k_tup (K := K) (n := 2) rfl (pgs_cons (pg_name (i := 2) nd rfl (by first | exact Or.inl rfl | exact Or.inr rfl)) (pgs_cons (pg_name (i := 3) nd rfl (by first | exact Or.inl rfl | exact Or.inr rfl)) pgs_nil)))) (fun _ _ _ _ _ => pts_nil) (fun _ _ _ _ _ => (pe_ok G_same (hr.mono (by omega)) pass0 (pa_cons (pv 2) (pa_cons (pv 3) pa_nil))))) pa_nil))))))) pss_nil)
      (pss_cons (ps_if (pt_val (pe_callB (k_isi (K := K)) (by rfl) T.isinstance (by decide +kernel) (pa_cons (pv 1) (pa_cons (pe_bltn (v := .ty "dict") (u := .type "dict") (by rfl) T.dict (by decide +kernel) rfl) pa_nil)))) (pss_one (ps_ret (pe_and (pe_callB (k_isi (K := K)) (by rfl) T.isinstance (by decide +kernel) (pa_cons (pv 0) (pa_cons (pe_bltn (v := .ty "dict") (u := .type "dict") (by rfl) T.dict (by decide +kernel) rfl) pa_nil))) (pe_one (pe_ok G_same (hr.mono (by omega)) pass0 (pa_cons (LiI.pe_listItems rfl (pv 0) (by rfl) T.list (by decide +kernel)) (pa_cons (LiI.pe_listItems rfl (pv 1) (by rfl) T.list (by decide +kernel)) pa_nil))))))) pss_nil)
      (pss_cons (ps_if (pt_val (pe_callB (k_isi (K := K)) (by rfl) T.isinstance (by decide +kernel) (pa_cons (pv 1) (pa_cons (pe_bltn (v := .ty "int") (u := .type "int") (by rfl) T.int (by decide +kernel) rfl) pa_nil)))) (pss_one (ps_ret (pe_and (pe_callB (k_isi (K := K)) (by rfl) T.isinstance (by decide +kernel) (pa_cons (pv 0) (pa_cons (pe_bltn (v := .ty "int") (u := .type "int") (by rfl) T.int (by decide +kernel) rfl) pa_nil))) (pe_and (pe_cmpR op_eq (pe_callB (k_isi (K := K)) (by rfl) T.isinstance (by decide +kernel) (pa_cons (pv 0) (pa_cons (pe_bltn (v := .ty "bool") (u := .type "bool") (by rfl) T.bool (by decide +kernel) rfl) pa_nil))) (pe_callB (k_isi (K := K)) (by rfl) T.isinstance (by decide +kernel) (pa_cons (pv 1) (pa_cons (pe_bltn (v := .ty "bool") (u := .type "bool") (by rfl) T.bool (by decide +kernel) rfl) pa_nil))) (nomark _)) (pe_one (pe_cmpR (OpR.or op_eq (op_weq T G_eq (hr.mono (by omega)))) (pv 0) (pv 1) (nomark _))))))) pss_nil)
      (pss_one (ps_ret (pe_and (pe_not (pe_callB (k_isiT (K := K)) (by rfl) T.isinstance (by decide +kernel) (pa_cons (pv 0) (pa_cons (pe_tup (pa_cons (pe_bltn (v := .ty "int") (u := .type "int") (by rfl) T.int (by decide +kernel) rfl) (pa_cons (pe_bltn (v := .ty "list") (u := .type "list") (by rfl) T.list (by decide +kernel) rfl) (pa_cons (pe_bltn (v := .ty "tuple") (u := .type "tuple") (by rfl) T.tuple (by decide +kernel) rfl) (pa_cons (pe_bltn (v := .ty "dict") (u := .type "dict") (by rfl) T.dict (by decide +kernel) rfl) pa_nil))))) pa_nil)))) (pe_one (pe_cmpR (OpR.or op_eq (op_weq T G_eq (hr.mono (by omega)))) (pv 0) (pv 1) (nomark _))))))))), ?_⟩
      refine ⟨_, rfl, by show 2 ≤ sizeLine; decide, fun tp ntp => ?_⟩
      unfold tNil
      refine isiT_ok T hv ["list", "tuple"] (by decide) ntp ?_
      rw [seq_any]
      have s1 : Same H (upd H tp (.tup (["list", "tuple"].map V.ty))) := same_new ntp
      generalize upd H tp (.tup (["list", "tuple"].map V.ty)) = H1 at s1 ⊢
      refine ⟨_, rfl, ?_⟩
      have hu1 := hu'.same s1
      have hv1 := hv.same s1
      cases hs : d.isSeq with
      | true =>
        refine iteT ?_
        obtain ⟨l, xs, rfl⟩ : ∃ l xs, d = .seq l xs := by cases d <;> first | exact ⟨_, _, rfl⟩ | cases hs
        obtain ⟨hlx, hdx⟩ := Bool.and_eq_true_iff.mp (show (decide (xs.length ≤ 100000) && Dt.smpL k xs) = true from hk)
        have hlx := of_decide_eq_true hlx
        refine ⟨_, rfl, u, .ty "list", _, _, _, rfl, .ty _, hu1.ty T, Dt.kit T _ (by decide), _, rfl, v, .ty "list", _, _, _, rfl, .ty _, hv1.ty T, Dt.kit T _ (by decide), rfl, _, rfl, ?_⟩
        rw [decide_eq_true (rfl : V.bl (Dt.isT (.seq l xs) "list") = V.bl (Dt.isT (.seq l xs) "list"))]
        refine iteF ?_
        refine ⟨_, rfl, u, .ty "tuple", _, _, _, rfl, .ty _, hu1.ty T, Dt.kit T _ (by decide), _, rfl, v, .ty "tuple", _, _, _, rfl, .ty _, hv1.ty T, Dt.kit T _ (by decide), rfl, _, rfl, ?_⟩
        rw [decide_eq_true (rfl : V.bl (Dt.isT (.seq l xs) "tuple") = V.bl (Dt.isT (.seq l xs) "tuple"))]
        refine iteF (next_i ?_)
        obtain ⟨p1, us, rfl, _, hp1, hr1⟩ := hu1
        obtain ⟨p2, ws, rfl, _, hp2, hr2⟩ := hv1
        have l1 := hr1.len
        have l2 := hr2.len
        have l12 : us.length = ws.length := by rw [l1, l2]
        dsimp only
        refine ⟨_, rfl, p1, us, rfl, sq_or hp1, _, rfl, p2, ws, rfl, sq_or hp2, rfl, _, rfl, ?_⟩
        rw [decide_eq_true (show V.int (us.length : Nat) = V.int (ws.length : Nat) by rw [l12])]
        refine iteT ?_
        dsimp only [tCB, tLc, tCons]
        refine zipU (l := l) (xs := us) (ys := ws) hp1 hp2 l12 (fun Q q => ⟨_, rfl, _, rfl, q⟩) ?_
        intro J wk D nD
        refine lc_it wk (PvP D H1 fun j => List.replicate j (V.bl true)) (pv_zero nD rfl) (fun j H2 _ P => ⟨P.1 _ _ hp1, P.1 _ _ hp2⟩) ?_ ?_
        · rintro j x H2 _ hj P ⟨t, y, z, rfl, nt, rfl, e1, e2⟩
          obtain ⟨d1, hd1, hy⟩ := hr1.get e1
          obtain ⟨d2, hd2, hz⟩ := hr2.get e2
          rw [hd1] at hd2
          obtain rfl := Option.some.inj hd2
          have s2 : Same H2 (upd H2 t (.tup [y, z])) := same_new nt
          have e5 : upd H2 t (.tup [y, z]) t = _ := upd_same
          generalize upd H2 t (.tup [y, z]) = H3 at s2 e5 ⊢
          have s3 := same_trans P.1 s2
          refine ⟨t, _, rfl, SqT.of e5, rfl, _, _, rfl, _, _, rfl, rfl, rfl, yesT ?_⟩
          refine ⟨_, rfl, _, rfl, y, z, d1, N, M, rfl, hy.same s3, hz.same s3, smpL_mem hdx d1 (List.mem_of_getElem? hd1), fun H4 s4 => ?_⟩
          refine pv_add P (same_trans s2 s4) (List.replicate_succ' ..) ?_ nD
          rw [List.length_replicate]
          exact Nat.lt_of_le_of_lt (show j ≤ 100000 by omega) (by decide)
        · rintro H2 ⟨sm, hD⟩
          have ea : List.replicate us.length (V.bl true) = (List.replicate us.length true).map V.bl := by rw [List.map_replicate]
          dsimp only at hD
          rw [ea] at hD
          refine ⟨D, _, rfl, SqL.of hD, ?_⟩
          have e2 : (List.replicate us.length true).all id = true := by
            rw [List.all_eq_true]
            intro b hb
            exact (List.eq_of_mem_replicate hb)
          rw [e2]
          exact q H2 (same_trans s1 sm)
      | false =>
        refine iteF (next_i ?_)
        dsimp only
        refine ⟨_, rfl, v, .ty "dict", _, _, _, rfl, .ty _, hv1.ty T, Dt.kit T _ (by decide), _, rfl, ?_⟩
        cases d with
        | seq l xs => cases hs
        | dic kvs =>
          have hk2 : (kvs.isEmpty && decide (1 ≤ k)) = true := hk
          obtain ⟨hk3, hk4⟩ := Bool.and_eq_true_iff.mp hk2
          have hk4 := of_decide_eq_true hk4
          obtain rfl : kvs = [] := List.isEmpty_iff.mp hk3
          obtain ⟨p1, rfl, _, hp1⟩ := id hu1
          obtain ⟨p2, rfl, _, hp2⟩ := id hv1
          refine iteT ⟨_, rfl, _, .ty "dict", _, _, _, rfl, .ty _, hu1.ty T, Dt.kit T _ (by decide), _, rfl, ?_⟩
          refine iteT ⟨_, rfl, p1, [], rfl, hp1, fun H2 a1 t1 sm2 n1 nt1 nn1 h1 pr1 => ?_⟩
          refine ⟨_, rfl, p2, [], rfl, sm2 _ _ hp2, fun H3 a2 t2 sm3 n2 nt2 nn2 h2 pr2 => ?_⟩
          cases pr1
          cases pr2
          refine ⟨_, _, .seq true [], Fr H, Fr H, rfl, ⟨a1, [], rfl, same_back s1 n1, sm3 _ _ h1, rfl⟩, ⟨a2, [], rfl, same_back (same_trans s1 sm2) n2, h2, rfl⟩, ?_, fun H4 s4 => q H4 (same_trans s1 (same_trans sm2 (same_trans sm3 s4)))⟩
          obtain ⟨k', rfl⟩ : ∃ k', k = k' + 1 := ⟨k - 1, by omega⟩
          rfl
        | int i =>
          have tyu := hu1.ty T
          have tyv := hv1.ty T
          obtain rfl : u = V.int i := hu1
          obtain rfl : v = V.int i := hv1
          refine iteF (next_i ?_)
          dsimp only
          refine ⟨_, rfl, _, .ty "int", _, _, _, rfl, .ty _, tyv, Dt.kit T _ (by decide), _, rfl, ?_⟩
          refine iteT ⟨_, rfl, _, .ty "int", _, _, _, rfl, .ty _, tyu, Dt.kit T _ (by decide), _, rfl, ?_⟩
          refine iteT ⟨_, rfl, _, .ty "bool", _, _, _, rfl, .ty _, tyu, Dt.kit T _ (by decide), _, rfl, _, .ty "bool", _, _, _, rfl, .ty _, tyv, Dt.kit T _ (by decide), rfl, _, rfl, ?_⟩
          rw [decide_eq_true (rfl : V.bl (Dt.isT (.int i) "bool") = V.bl (Dt.isT (.int i) "bool"))]
          refine iteT ⟨_, rfl, _, rfl, .inl ⟨rfl, ?_⟩⟩
          rw [decide_eq_true (rfl : V.int i = V.int i)]
          exact q H1 s1
        | bl i =>
          have tyu := hu1.ty T
          have tyv := hv1.ty T
          obtain rfl : u = V.bl i := hu1
          obtain rfl : v = V.bl i := hv1
          refine iteF (next_i ?_)
          dsimp only
          refine ⟨_, rfl, _, .ty "int", _, _, _, rfl, .ty _, tyv, Dt.kit T _ (by decide), _, rfl, ?_⟩
          refine iteT ⟨_, rfl, _, .ty "int", _, _, _, rfl, .ty _, tyu, Dt.kit T _ (by decide), _, rfl, ?_⟩
          refine iteT ⟨_, rfl, _, .ty "bool", _, _, _, rfl, .ty _, tyu, Dt.kit T _ (by decide), _, rfl, _, .ty "bool", _, _, _, rfl, .ty _, tyv, Dt.kit T _ (by decide), rfl, _, rfl, ?_⟩
          rw [decide_eq_true (rfl : V.bl (Dt.isT (.bl i) "bool") = V.bl (Dt.isT (.bl i) "bool"))]
          refine iteT ⟨_, rfl, _, rfl, .inl ⟨rfl, ?_⟩⟩
          rw [decide_eq_true (rfl : V.bl i = V.bl i)]
          exact q H1 s1
        | web n =>
          have tyv := hv1.ty T
          refine iteF (next_i ?_)
          dsimp only
          refine ⟨_, rfl, v, .ty "int", _, _, _, rfl, .ty _, tyv, Dt.kit T _ (by decide), _, rfl, ?_⟩
          refine iteF (next_i ?_)
          dsimp only
          refine ⟨_, rfl, by show 4 ≤ sizeLine; decide, fun t nt => ?_⟩
          refine isiT_ok T hu1 ["int", "list", "tuple", "dict"] (by decide) nt ?_
          have s2 : Same H1 (upd H1 t (.tup (["int", "list", "tuple", "dict"].map V.ty))) := same_new nt
          generalize upd H1 t (.tup (["int", "list", "tuple", "dict"].map V.ty)) = H2 at s2 ⊢
          have hu2 := hu1.same s2
          have hv2 := hv1.same s2
          refine ⟨_, rfl, _, rfl, iteT ⟨_, rfl, _, rfl, .inr ⟨n, .web n, N, M, hu2, hv2, ?_⟩⟩⟩
          obtain ⟨p, _, _, dx, tt, dd, _, _, _, _, _, hok⟩ := hu2
          dsimp only
          rw [nearEq_refl hok]
          exact q H2 (same_trans s1 s2)
        | non =>
          have tyv := hv1.ty T
          refine iteF (next_i ?_)
          dsimp only
          refine ⟨_, rfl, v, .ty "int", _, _, _, rfl, .ty _, tyv, Dt.kit T _ (by decide), _, rfl, ?_⟩
          refine iteF (next_i ?_)
          dsimp only
          refine ⟨_, rfl, by show 4 ≤ sizeLine; decide, fun t nt => ?_⟩
          refine isiT_ok T hu1 ["int", "list", "tuple", "dict"] (by decide) nt ?_
          have s2 : Same H1 (upd H1 t (.tup (["int", "list", "tuple", "dict"].map V.ty))) := same_new nt
          generalize upd H1 t (.tup (["int", "list", "tuple", "dict"].map V.ty)) = H2 at s2 ⊢
          have hu2 := hu1.same s2
          have hv2 := hv1.same s2
          obtain rfl : u = V.non := hu2
          obtain rfl : v = V.non := hv2
          refine ⟨_, rfl, _, rfl, iteT ⟨_, rfl, _, rfl, .inl ⟨rfl, ?_⟩⟩⟩
          exact q H2 (same_trans s1 s2)
        | str x =>
          have tyv := hv1.ty T
          refine iteF (next_i ?_)
          dsimp only
          refine ⟨_, rfl, v, .ty "int", _, _, _, rfl, .ty _, tyv, Dt.kit T _ (by decide), _, rfl, ?_⟩
          refine iteF (next_i ?_)
          dsimp only
          refine ⟨_, rfl, by show 4 ≤ sizeLine; decide, fun t nt => ?_⟩
          refine isiT_ok T hu1 ["int", "list", "tuple", "dict"] (by decide) nt ?_
          have s2 : Same H1 (upd H1 t (.tup (["int", "list", "tuple", "dict"].map V.ty))) := same_new nt
          generalize upd H1 t (.tup (["int", "list", "tuple", "dict"].map V.ty)) = H2 at s2 ⊢
          have hu2 := hu1.same s2
          have hv2 := hv1.same s2
          obtain rfl : u = V.str x := hu2
          obtain rfl : v = V.str x := hv2
          refine ⟨_, rfl, _, rfl, iteT ⟨_, rfl, _, rfl, .inl ⟨rfl, ?_⟩⟩⟩
          rw [decide_eq_true (rfl : V.str x = V.str x)]
          exact q H2 (same_trans s1 s2)
end
end Pw
set_option Elab.async false
set_option linter.all false
set_option maxRecDepth 100000
set_option maxHeartbeats 4000000
/-! What does not tell lists from tuples. -/
namespace Pw
open PySem PySem.Spec PyProof.Rows L2
theorem tieOf_lax (d : Dt) : tieOf d.lax = tieOf d := by
  cases d with
  | seq l xs =>
    by_cases h3 : xs.length = 3
    · match xs, h3 with
      | [a, b, c], _ => cases a <;> cases b <;> cases c <;> rfl
    · rw [tieOf_len h3]
      exact tieOf_len (by rw [laxL_map, List.length_map]; exact h3)
  | _ => rfl
theorem chkT_lax {ns : List Str} : ∀ (ds : List Dt) (i : Nat) (acc : List Tie), chkT ns i acc (Dt.laxL ds) = chkT ns i acc ds
  | [], _, _ => rfl
  | d :: ds, i, acc => by
    show chkT ns i acc (d.lax :: Dt.laxL ds) = _
    cases e : tieOf d with
    | none => rw [chkT_none e, chkT_none (by rw [tieOf_lax, e])]
    | some t =>
      by_cases hb : t.1 ∈ ns ∧ t.2.1 ∈ ns ∧ t.1 ≠ t.2.1 ∧ pn t ∉ acc.map pn
      · rw [chkT_good e hb, chkT_good (by rw [tieOf_lax, e]) hb]
        exact chkT_lax ds _ _
      · rw [chkT_bad e hb, chkT_bad (by rw [tieOf_lax, e]) hb]
theorem chkTies_lax {ns : List Str} (d : Dt) : chkTies ns d.lax = chkTies ns d := by
  cases d with
  | seq l xs => exact chkT_lax xs 0 []
  | _ => rfl
theorem chkP_lax : ∀ (ds : List Dt) (i : Nat) (acc : List Str), chkP i acc (Dt.laxL ds) = chkP i acc ds
  | [], _, _ => rfl
  | .str s :: ds, i, acc => by
    show (if isNm s = true ∧ s ∉ acc then chkP (i + 1) (acc ++ [s]) (Dt.laxL ds) else .inl i) = (if isNm s = true ∧ s ∉ acc then chkP (i + 1) (acc ++ [s]) ds else .inl i)
    rw [chkP_lax ds]
  | .non :: _, _, _ => rfl
  | .bl _ :: _, _, _ => rfl
  | .int _ :: _, _, _ => rfl
  | .seq _ _ :: _, _, _ => rfl
  | .dic _ :: _, _, _ => rfl
  | .web _ :: _, _, _ => rfl
theorem chkPlaces_lax (d : Dt) : chkPlaces d.lax = chkPlaces d := by
  cases d with
  | seq l xs => exact chkP_lax xs 0 []
  | _ => rfl
theorem chkW_lax {d1 d2 e1 e2 : Dt} (h1 : d1.lax = e1.lax) (h2 : d2.lax = e2.lax) : chkW d1 d2 = chkW e1 e2 := by
  unfold chkW
  rw [← chkPlaces_lax d1, ← chkPlaces_lax e1, h1]
  cases chkPlaces e1.lax with
  | inl i => rfl
  | inr ns =>
    dsimp only
    rw [← chkTies_lax d2, ← chkTies_lax e2, h2]
theorem few_lax (d : Dt) : d.lax.few ↔ d.few := by
  cases d with
  | seq l xs =>
    show ((Dt.laxL xs).length ≤ 100000 ∧ ∀ s, Dt.str s ∈ Dt.laxL xs → s.length ≤ 1000) ↔ (xs.length ≤ 100000 ∧ ∀ s, Dt.str s ∈ xs → s.length ≤ 1000)
    rw [laxL_map, List.length_map]
    have e : ∀ s, Dt.str s ∈ xs.map Dt.lax ↔ Dt.str s ∈ xs := fun s => by
      rw [List.mem_map]
      constructor
      · rintro ⟨d, hd, e⟩
        cases d <;> simp [Dt.lax] at e
        subst e
        exact hd
      · intro h
        exact ⟨_, h, rfl⟩
    constructor
    · rintro ⟨h1, h2⟩
      exact ⟨h1, fun s hs => h2 s ((e s).mpr hs)⟩
    · rintro ⟨h1, h2⟩
      exact ⟨h1, fun s hs => h2 s ((e s).mp hs)⟩
  | _ => exact Iff.rfl
theorem few_of_lax {d e : Dt} (h : d.lax = e.lax) (hf : e.few) : d.few := (few_lax d).mp (by rw [h]; exact (few_lax e).mpr hf)
end Pw
set_option Elab.async false
set_option linter.all false
set_option maxRecDepth 100000
set_option maxHeartbeats 8000000
/-! A web made of raw data, in any order. -/
namespace Pw
open PySem PySem.Spec PyProof.Rows L2
/-- t or t turned -/
def Fl (t s : Tie) : Prop := s = t ∨ s = (t.2.1, t.1, t.2.2)
theorem WebOf.conv {ns ns' : List Str} {ts ts' : List Tie} {n : Near} (w : WebOf ns ts n) (h1 : ∀ x, x ∈ ns ↔ x ∈ ns') (h2 : ∀ x y h, ((x, y, h) ∈ ts ∨ (y, x, h) ∈ ts) ↔ ((x, y, h) ∈ ts' ∨ (y, x, h) ∈ ts')) : WebOf ns' ts' n :=
  ⟨w.srt, fun x => (w.mem x).trans (h1 x), fun q hq y h => (w.tie q hq y h).trans (h2 _ _ _)⟩
theorem raw_acc {ns : List Str} {ts : List Tie} (h : RawOk ns ts) : AccOk ns ts := by
  refine ⟨fun t ht => ?_, ?_⟩
  · obtain ⟨a, b, c, _⟩ := h.ties.mem t ht
    exact ⟨a, b, fun e => by
      rw [e, ltS_irr] at c
      cases c⟩
  · have e : ts.map pn = ts.map pa2 := List.map_congr_left fun t ht => pr_of_lt (h.ties.mem t ht).2.2.1
    rw [e]
    exact h.ties.nd
theorem pn_fl {t s : Tie} (h : Fl t s) : pn s = pn t := by
  rcases h with rfl | rfl
  · rfl
  · exact pr_comm _ _
theorem fl_pn : ∀ {ts ss : List Tie}, Paired Fl ts ss → ss.map pn = ts.map pn
  | _, _, .nil => rfl
  | _, _, .cons h t => by rw [List.map_cons, List.map_cons, pn_fl h, fl_pn t]
theorem fl_in : ∀ {ts ss : List Tie}, Paired Fl ts ss → ∀ s ∈ ss, ∃ t ∈ ts, Fl t s
  | _, _, .nil, s, h => by cases h
  | _, _, .cons h t, s, hs => by
    rcases List.mem_cons.mp hs with rfl | hs
    · exact ⟨_, List.mem_cons_self, h⟩
    · obtain ⟨u, hu, e⟩ := fl_in t s hs
      exact ⟨u, List.mem_cons_of_mem _ hu, e⟩
theorem fl_out : ∀ {ts ss : List Tie}, Paired Fl ts ss → ∀ t ∈ ts, ∃ s ∈ ss, Fl t s
  | _, _, .nil, s, h => by cases h
  | _, _, .cons h t, s, hs => by
    rcases List.mem_cons.mp hs with rfl | hs
    · exact ⟨_, List.mem_cons_self, h⟩
    · obtain ⟨u, hu, e⟩ := fl_out t s hs
      exact ⟨u, List.mem_cons_of_mem _ hu, e⟩
theorem acc_fl {ns ns2 : List Str} {ts ts2 ss : List Tie} (A : AccOk ns ts) (pm : ts2.Perm ts) (fl : Paired Fl ts2 ss) (pn2 : ns2.Perm ns) : AccOk ns2 ss := by
  refine ⟨fun s hs => ?_, by rw [fl_pn fl]; exact (pm.map pn).nodup_iff.mpr A.nd⟩
  obtain ⟨t, ht, e⟩ := fl_in fl s hs
  obtain ⟨h1, h2, h3⟩ := A.mem t (pm.mem_iff.mp ht)
  rcases e with rfl | rfl
  · exact ⟨pn2.mem_iff.mpr h1, pn2.mem_iff.mpr h2, h3⟩
  · exact ⟨pn2.mem_iff.mpr h2, pn2.mem_iff.mpr h1, fun e => h3 e.symm⟩
theorem fl_mem {ts ts2 ss : List Tie} (pm : ts2.Perm ts) (fl : Paired Fl ts2 ss) (x y : Str) (h : Int) : ((x, y, h) ∈ ss ∨ (y, x, h) ∈ ss) ↔ ((x, y, h) ∈ ts ∨ (y, x, h) ∈ ts) := by
  have f1 : ∀ {x y : Str}, (x, y, h) ∈ ss → ((x, y, h) ∈ ts ∨ (y, x, h) ∈ ts) := fun {x y} hs => by
    obtain ⟨t, ht, e⟩ := fl_in fl _ hs
    rcases e with e | e
    · exact .inl (by rw [e]; exact pm.mem_iff.mp ht)
    · obtain ⟨t1, t2, t3⟩ := t
      cases e
      exact .inr (pm.mem_iff.mp ht)
  have f2 : ∀ {x y : Str}, (x, y, h) ∈ ts → ((x, y, h) ∈ ss ∨ (y, x, h) ∈ ss) := fun {x y} hs => by
    obtain ⟨s, hs', e⟩ := fl_out fl _ (pm.mem_iff.mpr hs)
    rcases e with rfl | rfl
    · exact .inl hs'
    · exact .inr hs'
  constructor
  · rintro (h | h)
    · exact f1 h
    · exact (f1 h).symm
  · rintro (h | h)
    · exact f2 h
    · exact (f2 h).symm
theorem depL_all {n : Nat} : ∀ {ds : List Dt}, (∀ d ∈ ds, Dt.dep n d = true) → Dt.depL n ds = true
  | [], _ => by cases n <;> rfl
  | d :: ds, h => by
    show (Dt.dep n d && Dt.depL n ds) = true
    rw [h d List.mem_cons_self, depL_all fun e he => h e (List.mem_cons_of_mem _ he)]
    rfl
theorem dep_strs {ns : List Str} (l : Bool) (h : ns.length ≤ 100000) : (Dt.seq l (ns.map Dt.str)).dep 3 = true := by
  show (decide ((ns.map Dt.str).length ≤ 100000) && Dt.depL 2 (ns.map Dt.str)) = true
  rw [List.length_map, decide_eq_true h, depL_all fun d hd => ?_]
  · rfl
  · obtain ⟨x, _, rfl⟩ := List.mem_map.mp hd
    rfl
theorem dep_ties {ts : List Tie} (l : Bool) (h : ts.length ≤ 100000) : (Dt.seq l (ts.map dTie)).dep 3 = true := by
  show (decide ((ts.map dTie).length ≤ 100000) && Dt.depL 2 (ts.map dTie)) = true
  rw [List.length_map, decide_eq_true h, depL_all fun d hd => ?_]
  · rfl
  · obtain ⟨x, _, rfl⟩ := List.mem_map.mp hd
    rfl
theorem cnt_strs : ∀ ns : List Str, Dt.cntL (ns.map Dt.str) = 0
  | [] => rfl
  | x :: ns => by
    show 0 + Dt.cntL (ns.map Dt.str) = 0
    rw [cnt_strs ns]
theorem cnt_ties : ∀ ts : List Tie, Dt.cntL (ts.map dTie) = ts.length
  | [] => rfl
  | x :: ts => by
    show 1 + Dt.cntL (ts.map dTie) = ts.length + 1
    rw [cnt_ties ts]
    omega
section
variable {P : Program} {w : World} {K : PySem.W.Frag} {mg : Str → Option Value} {base : Heap}
def spMade (K : PySem.W.Frag) : Sp := fun vs H Q _ => ∃ (a b : Addr) (v : V) (N : Addr → Prop) (ns : List Str) (ts : List Tie) (m : Nat), vs = [.ref a, v] ∧ Rep K N H (dRaw ns ts) v ∧ (∀ c, N c → c ≠ a ∧ c ≠ b) ∧ RawOk ns ts ∧ Strm a b (m + (3 * ts.length + ns.length + 2)) H ∧
  ∀ (n : Near) (u : V) (H' : Hp), WebOf ns ts n → Kp a b H H' → Strm a b m H' → Rep K (Fr H) H' (.web n) u → Q u H'
theorem sc_law_a_made : FnScope ["_law_stream", "_law_raw", "_law_ties", "_law_one", "_law_other", "_law_height"] ["_law_stream", "_law_raw"] (defScope s_law_a_made) := ⟨rfl, rfl, rfl, by decide +kernel, rfl, by decide +kernel, by decide +kernel⟩
theorem ok_made (T : Tx K mg) : Ok P w K mg base CX0 7 "_law_a_made" ["_law_stream", "_law_raw"] (spMade K) := by
  have G_draw : Ok P w K mg base CX0 1 _ _ _ := ok_draw T
  have G_mixed : Ok P w K mg base CX0 2 _ _ _ := ok_mixed T
  have G_loose : Ok P w K mg base CX0 5 _ _ _ := ok_loose T 3
  have G_init : OkM P w K mg base (L2.CX P w) 4 "Web" "__init__" _ _ := ok_init T
  refine mkOk (d := d_law_a_made) T 32 30 rfl rfl rfl rfl rfl (fun _ _ _ _ _ _ us hl => match us, hl with | [_, _], _ => rfl) sc_law_a_made (fun vs H Q E h => ?_) (fun f cdv A outer s H vs Q E hr h => ?_)
  · obtain ⟨a, b, v, N, ns, ts, m, rfl, _⟩ := h
    rfl
  · obtain ⟨a, b, v, N, ns, ts, m, rfl, hrep, hN, hok, hS, q⟩ := h
    have nd := sc_law_a_made.nd
    obtain ⟨p, va, vb, rfl, hNp, hp, hra, hrb⟩ := rep_raw.mp hrep
    obtain ⟨pa, rfl, hNa, hpa⟩ := rep_strs.mp hra
    obtain ⟨pb, vs, rfl, hNb, hpb, hrb⟩ := rep_ties.mp hrb
    refine ⟨_, (pss_cons (ps_set (i := 2) nd rfl (Or.inl rfl) (pe_lst pa_nil))
      (pss_cons (ps_for PassesOwn.never rfl (k_pl (K := K) (pe_ok G_mixed (hr.mono (by omega)) pass0 (pa_cons (pv 0) (pa_cons (pe_ix (k_ixT (K := K)) (pv 1) pe_int (fun _ _ => rfl)) pa_nil)))) (k_tup (K := K) (n := 3) rfl (pgs_cons (pg_name (i := 3) nd rfl (Or.inl rfl)) (pgs_cons (pg_name (i := 4) nd rfl (Or.inl rfl)) (pgs_cons (pg_name (i := 5) nd rfl (Or.inl rfl)) pgs_nil))))
      (pss_one (ps_expr (k_bm (K := K) PySem.F.plainAttrs_list PySem.F.slot_list_append PySem.F.type_list_append mt_append (pv 2) (pa_cons (pe_ifExp (pt_cmpR op_eq (pe_ok G_draw (hr.mono (by omega)) pass0 (pa_cons (pv 0) (pa_cons pe_int pa_nil))) pe_int (nomark _)) (pe_tup (pa_cons (pv 3) (pa_cons (pv 4) (pa_cons (pv 5) pa_nil)))) (pe_tup (pa_cons (pv 4) (pa_cons (pv 3) (pa_cons (pv 5) pa_nil))))) pa_nil)))))
      (pss_one (ps_ret (pe_web T G_init (hr.mono (by omega)) passL (pa_cons (pe_ok G_loose (hr.mono (by omega)) pass0 (pa_cons (pv 0) (pa_cons (pe_ok G_mixed (hr.mono (by omega)) pass0 (pa_cons (pv 0) (pa_cons (pe_ix (k_ixT (K := K)) (pv 1) pe_int (fun _ _ => rfl)) pa_nil))) pa_nil))) (pa_cons (pe_ok G_loose (hr.mono (by omega)) pass0 (pa_cons (pv 0) (pa_cons (pv 2) pa_nil))) pa_nil))))))), ?_⟩
    refine ⟨by show 0 ≤ sizeLine; decide, ?_⟩
    intro l n_l
    have e_l : upd H l (.lst []) l = some (.lst []) := upd_same
    have s_l : Same H (upd H l (.lst [])) := same_new n_l
    generalize upd H l (.lst []) = H1 at e_l s_l ⊢
    refine gName_i ?_
    dsimp only
    have lts : vs.length = ts.length := by rw [hrb.len, List.length_map]
    refine viaS (t1 := tFor _ _ _) (fun σ H4 => ∃ (v3 v4 v5 : Option V) (us : List V) (ss ts2 : List Tie), σ = [some (.ref a), some (.ref p), some (.ref l), v3, v4, v5] ∧ Kp a b H H4 ∧ Strm a b (m + (ts.length + ns.length + 2)) H4 ∧ H4 l = some (.lst us) ∧ RepL K (fun c => Fr H c ∧ c ≠ l) H4 (ss.map dTie) us ∧ ts2.Perm ts ∧ Paired Fl ts2 ss) (fun nx hn => ?_) ?_
    · refine ⟨_, rfl, _, rfl, p, _, 1, _, rfl, rfl, SqT.of (s_l _ _ hp), rfl, a, b, pb, m + (2 * ts.length + ns.length + 2), vs, rfl, (hS.same s_l).le (by omega), s_l _ _ hpb, (hN pb hNb).1, (hN pb hNb).2, by have := hok.tl; omega, fun H2 q2 ys py nq hq2 kp2 S2 => ?_⟩
      have kp02 := (Kp.of s_l : Kp a b H H1).trans kp2
      obtain ⟨es, pes, res⟩ := perm_rep hrb py
      obtain ⟨ts2, pm, rfl⟩ := perm_map_inv pes
      have lys : ys.length = ts.length := by rw [py.length_eq, lts]
      have nl0 : H l = none := n_l
      have ofl := hS.off nl0
      have hl2 := kp2 _ _ e_l ofl.1 ofl.2
      have nq0 : H q2 = none := same_back s_l nq
      have ofq := hS.off nq0
      have hlq : l ≠ q2 := ne_of_none e_l nq
      refine ⟨q2, rfl, ⟨_, SqL.of hq2⟩, for_it (walk_list (xs := ys)) (fun i σ H4 => ∃ (v3 v4 v5 : Option V) (us : List V) (ss : List Tie), σ = [some (.ref a), some (.ref p), some (.ref l), v3, v4, v5] ∧ Kp a b H H4 ∧ Strm a b (m + (2 * ts.length - i + ns.length + 2)) H4 ∧ H4 l = some (.lst us) ∧ us.length = i ∧ H4 q2 = some (.lst ys) ∧ RepL K (fun c => Fr H c ∧ c ≠ l) H4 (ss.map dTie) us ∧ Paired Fl (ts2.take i) ss)
        ⟨none, none, none, [], [], rfl, kp02, S2.le (by omega), hl2, rfl, hq2, RepL.nil, .nil⟩ ?_ ?_ ?_⟩
      · rintro i σ H4 _ ⟨_, _, _, _, _, _, _, _, _, _, h, _⟩
        exact SqL.of h
      · rintro i x σ H4 _ hi ⟨v3, v4, v5, us, ss, rfl, kp4, S4, hl4, lu, hq4, hr4, fl⟩ ⟨rfl, hx⟩
        obtain ⟨dt, hdt, hrt⟩ := res.get hx
        obtain ⟨t, ht, rfl⟩ := map_get hdt
        obtain ⟨pt, rfl, hNt, hpt⟩ := rep_tie.mp hrt
        have opt := hN pt hNt
        have hpt4 := kp4 _ _ hpt opt.1 opt.2
        refine ⟨pt, _, rfl, SqT.of hpt4, rfl, _, _, rfl, _, _, rfl, _, _, rfl, rfl, ?_⟩
        refine ⟨_, rfl, .inl ⟨rfl, us, SqL.of hl4⟩, _, rfl, a, b, m + (2 * ts.length - (i + 1) + ns.length + 2), 2, rfl, S4.le (by omega), by decide, by decide, fun H5 dd kp5 S5 d0 d1 => ?_⟩
        have hl5 := kp5 _ _ hl4 ofl.1 ofl.2
        have hq5 := kp5 _ _ hq4 ofq.1 ofq.2
        have hr5 := hr4.kp kp5 fun c hc => hS.off hc.1
        have fin : ∀ (s : Tie) (tt : Addr), Fl t s → H5 tt = none → ∃ (us2 : List V), us2 = us ++ [.ref tt] ∧ Kp a b H (upd (upd H5 tt (.tup [.str s.1, .str s.2.1, .int s.2.2])) l (.lst us2)) ∧ Strm a b (m + (2 * ts.length - (i + 1) + ns.length + 2)) (upd (upd H5 tt (.tup [.str s.1, .str s.2.1, .int s.2.2])) l (.lst us2)) ∧
            upd (upd H5 tt (.tup [.str s.1, .str s.2.1, .int s.2.2])) l (.lst us2) l = some (.lst us2) ∧ us2.length = i + 1 ∧ upd (upd H5 tt (.tup [.str s.1, .str s.2.1, .int s.2.2])) l (.lst us2) q2 = some (.lst ys) ∧
            RepL K (fun c => Fr H c ∧ c ≠ l) (upd (upd H5 tt (.tup [.str s.1, .str s.2.1, .int s.2.2])) l (.lst us2)) ((ss ++ [s]).map dTie) us2 ∧ Paired Fl (ts2.take (i + 1)) (ss ++ [s]) := fun s tt hs ntt => by
          refine ⟨_, rfl, kp_mut ((kp4.trans kp5).trans (kp_new ntt)) nl0, (S5.new ntt).at_ (upd_ne ofl.1.symm) (upd_ne ofl.2.symm), upd_same, by rw [List.length_append, lu]; rfl, upd_at (upd_at hq5 (ne_of_none hq5 ntt)) hlq.symm, tl_add hl5 hr5 ntt ((kp4.trans kp5).back S5 ntt), ?_⟩
          rw [take_snoc ht]
          exact paired_app fl (.cons hs .nil)
        have lus : us.length < sizeLine := Nat.lt_of_le_of_lt (show us.length ≤ 1000 by have := hok.tl; omega) (by decide)
        refine ⟨rfl, _, rfl, ?_⟩
        refine ite2 (fun e => ?_) (fun e => ?_)
        · refine ⟨_, rfl, _, rfl, _, rfl, by show 3 ≤ sizeLine; decide, fun tt ntt => ?_⟩
          obtain ⟨us2, rfl, f⟩ := fin t tt (.inl rfl) ntt
          exact ⟨l, us, .ref tt, rfl, rfl, upd_at hl5 (ne_of_none hl5 ntt), lus, _, _, _, _, _, rfl, f⟩
        · refine ⟨_, rfl, _, rfl, _, rfl, by show 3 ≤ sizeLine; decide, fun tt ntt => ?_⟩
          obtain ⟨us2, rfl, f⟩ := fin (t.2.1, t.1, t.2.2) tt (.inr rfl) ntt
          exact ⟨l, us, .ref tt, rfl, rfl, upd_at hl5 (ne_of_none hl5 ntt), lus, _, _, _, _, _, rfl, f⟩
      · rintro σ H4 ⟨v3, v4, v5, us, ss, rfl, kp4, S4, hl4, lu, hq4, hr4, fl⟩
        rw [lys] at S4 fl
        have e2 : ts2.length = ts.length := pm.length_eq
        rw [← e2, List.take_length] at fl
        exact hn _ _ ⟨v3, v4, v5, us, ss, ts2, rfl, kp4, S4.le (by omega), hl4, hr4, pm, fl⟩
    rintro σ H4 ⟨v3, v4, v5, us, ss, ts2, rfl, kp4, S4, hl4, hr4, pm, fl⟩
    have hp4 := kp4 _ _ hp (hN p hNp).1 (hN p hNp).2
    have hpa4 := kp4 _ _ hpa (hN pa hNa).1 (hN pa hNa).2
    refine ⟨_, rfl, _, rfl, _, rfl, p, _, 0, _, rfl, rfl, SqT.of hp4, rfl, a, b, pa, m + (ts.length + 2), ns.map V.str, rfl, by rw [List.length_map]; exact S4.le (by omega), hpa4, (hN pa hNa).1, (hN pa hNa).2, by rw [List.length_map]; have := hok.len; omega, fun H5 q5 ys py nq5 hq5 kp5 S5 => ?_⟩
    obtain ⟨ns2, pn2, rfl⟩ := perm_map_inv py
    have kp05 := kp4.trans kp5
    have nq0 := kp4.back S4 nq5
    have ofq := hS.off nq0
    refine ⟨a, b, .ref q5, dStrs ns2, Fr H, m + (ts.length + 1), rfl, rep_strs.mpr ⟨q5, rfl, nq0, hq5⟩, fun c hc => hS.off hc, ?_, S5.le ?_, fun H6 v6 d6 lx6 rep6 kp6 S6 => ?_⟩
    · exact dep_strs true (by rw [pn2.length_eq]; have := hok.len; omega)
    · show m + (ts.length + 1) + (1 + Dt.cntL (ns2.map Dt.str)) ≤ _
      rw [cnt_strs]
      omega
    have ofl := hS.off n_l
    have hl5 := kp5 _ _ hl4 ofl.1 ofl.2
    have hl6 := kp6 _ _ hl5 ofl.1 ofl.2
    have lss : ss.length = ts.length := by rw [← pm.length_eq, paired_len fl]
    have hoff2 : ∀ c, Fr H c ∧ c ≠ l → c ≠ a ∧ c ≠ b := fun c hc => hS.off hc.1
    have hr6 := (hr4.kp kp5 hoff2).kp kp6 hoff2
    refine ⟨_, rfl, _, rfl, a, b, .ref l, dTies ss, Fr H, m, rfl, ⟨l, us, rfl, n_l, hl6, hr6.wk fun c hc => hc.1⟩, fun c hc => hS.off hc, ?_, S6.le ?_, fun H7 v7 d7 lx7 rep7 kp7 S7 => ?_⟩
    · exact dep_ties true (by rw [lss]; have := hok.tl; omega)
    · show m + (1 + Dt.cntL (ss.map dTie)) ≤ _
      rw [cnt_ties, lss]
      omega
    have kp06 := kp05.trans kp6
    have off : ∀ c, Fr H c → c ≠ a ∧ c ≠ b := fun c hc => hS.off hc
    have r6 : Rep K (Fr H) H7 d6 v6 := (rep6.wk fun c hc => hc.elim id (fun h => kp05.back S5 h)).kp kp7 off
    have r7 : Rep K (Fr H) H7 d7 v7 := rep7.wk fun c hc => hc.elim id (fun h => kp06.back S6 h)
    have gd : ∀ x ∈ ns2, isNm x = true := fun x hx => (hok.gd x (pn2.mem_iff.mp hx)).1
    have ack : AccOk ns2 ss := acc_fl (raw_acc hok) pm fl pn2
    refine ⟨_, _, rfl, d6, d7, Fr H, r6, r7, few_of_lax lx6 (strs_few true (by rw [pn2.length_eq]; have := hok.len; omega) gd), few_of_lax lx7 (ties_few true (by rw [lss]; have := hok.tl; omega)), ?_⟩
    rw [chkW_lax lx6 lx7, show chkW (dStrs ns2) (dTies ss) = .ok ns2 ss from chkW_ok true true (pn2.nodup_iff.mpr hok.nd) gd ack]
    intro _ n u H8 hw s8 hu
    have kp08 := (kp06.trans kp7).trans (.of s8)
    exact q n u H8 (hw.conv (fun x => pn2.mem_iff) (fl_mem pm fl)) kp08 (S7.same s8) (hu.wk fun c hc => (kp06.trans kp7).back S7 hc)
end
end Pw
set_option Elab.async false
set_option linter.all false
set_option maxRecDepth 100000
set_option maxHeartbeats 8000000
/-! What changes lists throughout: data as a tree of objects. -/
namespace Pw
open PySem PySem.Spec PyProof.Rows L2
mutual
/-- v is d; the lists within, each once, at fp -/
def Tr (H : Hp) : Dt → V → List Addr → Prop
  | .non, v, fp => v = .non ∧ fp = []
  | .bl b, v, fp => v = .bl b ∧ fp = []
  | .int i, v, fp => v = .int i ∧ fp = []
  | .str s, v, fp => v = .str s ∧ fp = []
  | .seq l xs, v, fp => ∃ p vs f, v = .ref p ∧ H p = some (sqo l vs) ∧ TrL H xs vs f ∧ fp = if l then p :: f else f
  | .dic _, _, _ => False
  | .web _, _, _ => False
def TrL (H : Hp) : List Dt → List V → List Addr → Prop
  | [], vs, fp => vs = [] ∧ fp = []
  | d :: ds, vs, fp => ∃ v ws f g, vs = v :: ws ∧ fp = f ++ g ∧ Tr H d v f ∧ TrL H ds ws g
end
mutual
def Dt.spoil : Dt → Dt
  | .seq l xs => .seq l (if l then Dt.spoilL xs ++ [.str "late9"] else Dt.spoilL xs)
  | .non => .non
  | .bl b => .bl b
  | .int i => .int i
  | .str s => .str s
  | .dic k => .dic k
  | .web n => .web n
def Dt.spoilL : List Dt → List Dt
  | [] => []
  | d :: ds => Dt.spoil d :: Dt.spoilL ds
end
section
variable {H H' : Hp}
mutual
theorem Tr.lst : ∀ (d : Dt) (v : V) (fp : List Addr), Tr H d v fp → ∀ c ∈ fp, ∃ xs, H c = some (.lst xs)
  | .non, _, _, ⟨_, e⟩, c, hc => by rw [e] at hc; cases hc
  | .bl _, _, _, ⟨_, e⟩, c, hc => by rw [e] at hc; cases hc
  | .int _, _, _, ⟨_, e⟩, c, hc => by rw [e] at hc; cases hc
  | .str _, _, _, ⟨_, e⟩, c, hc => by rw [e] at hc; cases hc
  | .seq l xs, _, _, h, c, hc => by
    obtain ⟨p, vs, f, rfl, hp, hr, rfl⟩ := h
    cases l with
    | true =>
      rcases List.mem_cons.mp hc with rfl | hc
      · exact ⟨vs, hp⟩
      · exact TrL.lst xs vs f hr c hc
    | false => exact TrL.lst xs vs f hr c hc
  | .dic _, _, _, h, _, _ => h.elim
  | .web _, _, _, h, _, _ => h.elim
theorem TrL.lst : ∀ (ds : List Dt) (vs : List V) (fp : List Addr), TrL H ds vs fp → ∀ c ∈ fp, ∃ xs, H c = some (.lst xs)
  | [], _, _, ⟨_, e⟩, c, hc => by rw [e] at hc; cases hc
  | d :: ds, _, _, h, c, hc => by
    obtain ⟨v, ws, f, g, rfl, rfl, h1, h2⟩ := h
    rcases List.mem_append.mp hc with hc | hc
    · exact Tr.lst d v f h1 c hc
    · exact TrL.lst ds ws g h2 c hc
end
mutual
/-- what is known stays but at g, that holds lists alone, none of d's -/
theorem Tr.step {g : List Addr} (hg : ∀ c ∈ g, ∃ xs, H c = some (.lst xs)) (hk : ∀ c o, H c = some o → c ∉ g → H' c = some o) : ∀ (d : Dt) (v : V) (fp : List Addr), Tr H d v fp → (∀ c ∈ fp, c ∉ g) → Tr H' d v fp
  | .non, _, _, h, _ => h
  | .bl _, _, _, h, _ => h
  | .int _, _, _, h, _ => h
  | .str _, _, _, h, _ => h
  | .seq l xs, _, _, h, hn => by
    obtain ⟨p, vs, f, e, hp, hr, rfl⟩ := h
    cases l with
    | true => exact ⟨p, vs, f, e, hk p _ hp (hn p List.mem_cons_self), TrL.step hg hk xs vs f hr fun c hc => hn c (List.mem_cons_of_mem _ hc), rfl⟩
    | false =>
      refine ⟨p, vs, f, e, hk p _ hp fun hc => ?_, TrL.step hg hk xs vs f hr hn, rfl⟩
      obtain ⟨ys, z⟩ := hg p hc
      rw [hp] at z
      cases z
  | .dic _, _, _, h, _ => h.elim
  | .web _, _, _, h, _ => h.elim
theorem TrL.step {g : List Addr} (hg : ∀ c ∈ g, ∃ xs, H c = some (.lst xs)) (hk : ∀ c o, H c = some o → c ∉ g → H' c = some o) : ∀ (ds : List Dt) (vs : List V) (fp : List Addr), TrL H ds vs fp → (∀ c ∈ fp, c ∉ g) → TrL H' ds vs fp
  | [], _, _, h, _ => h
  | d :: ds, _, _, h, hn => by
    obtain ⟨v, ws, f, g', e, rfl, h1, h2⟩ := h
    exact ⟨v, ws, f, g', e, rfl, Tr.step hg hk d v f h1 fun c hc => hn c (List.mem_append_left _ hc), TrL.step hg hk ds ws g' h2 fun c hc => hn c (List.mem_append_right _ hc)⟩
end
theorem Tr.same {d : Dt} {v : V} {fp : List Addr} (h : Tr H d v fp) (s : Same H H') : Tr H' d v fp := Tr.step (g := []) (fun c h => (nomatch h)) (fun c o hc _ => s c o hc) d v fp h fun c _ h => (nomatch h)
theorem TrL.same {d : List Dt} {v : List V} {fp : List Addr} (h : TrL H d v fp) (s : Same H H') : TrL H' d v fp := TrL.step (g := []) (fun c h => (nomatch h)) (fun c o hc _ => s c o hc) d v fp h fun c _ h => (nomatch h)
theorem TrL.len : ∀ {ds : List Dt} {vs : List V} {fp : List Addr}, TrL H ds vs fp → vs.length = ds.length
  | [], _, _, ⟨e, _⟩ => by rw [e]; rfl
  | d :: ds, _, _, h => by
    obtain ⟨v, ws, f, g, rfl, rfl, h1, h2⟩ := h
    rw [List.length_cons, List.length_cons, h2.len]
theorem TrL.app : ∀ {ds es : List Dt} {vs ws : List V} {f g : List Addr}, TrL H ds vs f → TrL H es ws g → TrL H (ds ++ es) (vs ++ ws) (f ++ g)
  | [], es, _, ws, _, g, ⟨e1, e2⟩, h' => by
    rw [e1, e2]
    exact h'
  | d :: ds, es, _, ws, _, g, h, h' => by
    obtain ⟨v, us, f1, f2, rfl, rfl, h1, h2⟩ := h
    exact ⟨v, us ++ ws, f1, f2 ++ g, rfl, by rw [List.append_assoc], h1, h2.app h'⟩
theorem TrL.one {d : Dt} {v : V} {f : List Addr} (h : Tr H d v f) : TrL H [d] [v] f := ⟨v, [], f, [], rfl, by rw [List.append_nil], h, rfl, rfl⟩
theorem TrL.nil : TrL H [] [] [] := ⟨rfl, rfl⟩
theorem TrL.get : ∀ {ds : List Dt} {vs : List V} {fp : List Addr} {i : Nat} {d : Dt}, TrL H ds vs fp → ds[i]? = some d → ∃ v f1 f f2, vs[i]? = some v ∧ fp = f1 ++ (f ++ f2) ∧ TrL H (ds.take i) (vs.take i) f1 ∧ Tr H d v f ∧ TrL H (ds.drop (i + 1)) (vs.drop (i + 1)) f2
  | [], _, _, i, d, _, e => by simp at e
  | d :: ds, _, _, 0, e, h, he => by
    obtain ⟨v, ws, f, g, rfl, rfl, h1, h2⟩ := h
    simp at he
    subst he
    exact ⟨v, [], f, g, by simp, rfl, TrL.nil, h1, h2⟩
  | d :: ds, _, _, i + 1, e, h, he => by
    obtain ⟨v, ws, f, g, rfl, rfl, h1, h2⟩ := h
    obtain ⟨u, f1, f', f2, e1, rfl, e2, e3, e4⟩ := h2.get (i := i) (by simpa using he)
    exact ⟨u, f ++ f1, f', f2, by simpa using e1, by simp [List.append_assoc], ⟨v, _, f, f1, rfl, rfl, h1, e2⟩, e3, e4⟩
theorem spoilL_map : ∀ ds : List Dt, Dt.spoilL ds = ds.map Dt.spoil
  | [] => rfl
  | d :: ds => by
    show Dt.spoil d :: Dt.spoilL ds = _
    rw [spoilL_map ds]
    rfl
theorem spoil_step {xs : List Dt} {i : Nat} {d : Dt} (h : xs[i]? = some d) : Dt.spoilL (xs.take (i + 1)) ++ xs.drop (i + 1) = (Dt.spoilL (xs.take i) ++ xs.drop i).take i ++ ([d.spoil] ++ (Dt.spoilL (xs.take i) ++ xs.drop i).drop (i + 1)) := by
  have hi : i < xs.length := (List.getElem?_eq_some_iff.mp h).1
  have hl : (Dt.spoilL (xs.take i)).length = i := by
    rw [spoilL_map, List.length_map, List.length_take]
    omega
  have e1 : (Dt.spoilL (xs.take i) ++ xs.drop i).take i = Dt.spoilL (xs.take i) := List.take_left' hl
  have e2 : (Dt.spoilL (xs.take i) ++ xs.drop i).drop (i + 1) = xs.drop (i + 1) := by
    rw [← List.drop_drop, List.drop_left' hl, List.drop_drop]
  have e3 : Dt.spoilL (xs.take (i + 1)) = Dt.spoilL (xs.take i) ++ [d.spoil] := by
    rw [take_snoc h, spoilL_map, spoilL_map, List.map_append]
    rfl
  rw [e1, e2, e3, List.append_assoc]
mutual
theorem Tr.rep {K : PySem.W.Frag} : ∀ (d : Dt) (v : V) (fp : List Addr), Tr H d v fp → Rep K (fun _ => True) H d v
  | .non, _, _, h => h.1
  | .bl _, _, _, h => h.1
  | .int _, _, _, h => h.1
  | .str _, _, _, h => h.1
  | .seq l xs, _, _, h => by
    obtain ⟨p, vs, f, e, hp, hr, _⟩ := h
    exact ⟨p, vs, e, trivial, hp, TrL.rep xs vs f hr⟩
  | .dic _, _, _, h => h.elim
  | .web _, _, _, h => h.elim
theorem TrL.rep {K : PySem.W.Frag} : ∀ (ds : List Dt) (vs : List V) (fp : List Addr), TrL H ds vs fp → RepL K (fun _ => True) H ds vs
  | [], _, _, h => h.1
  | d :: ds, _, _, h => by
    obtain ⟨v, ws, f, g, e, _, h1, h2⟩ := h
    exact ⟨v, ws, e, Tr.rep d v f h1, TrL.rep ds ws g h2⟩
end
end
/-- the parts spoiled, the whole not yet -/
def Dt.mid : Dt → Dt
  | .seq l xs => .seq l (Dt.spoilL xs)
  | d => d
section
variable {K : PySem.W.Frag}
theorem forU {te : TE} {g : TG} {tb : TS} {D : Ends} {σ : L2.St} {H : Hp} {l : Bool} {p : Addr} {xs : List V} (Pv : Nat → L2.St → Hp → Prop) (ho : H p = some (sqo l xs)) (ht : ∀ Q' : VK, Q' (.ref p) H → te σ H Q') (h0 : Pv 0 σ H)
    (hG : ∀ i σ H, i ≤ xs.length → Pv i σ H → H p = some (sqo l xs)) (hs : ∀ i x σ H1, i < xs.length → Pv i σ H1 → xs[i]? = some x → g x σ H1 fun σ2 H2 => tb { D with nx := Pv (i + 1), ct := Pv (i + 1), bk := D.nx } σ2 H2) (hd : ∀ σ H', Pv xs.length σ H' → D.nx σ H') :
    tFor (fun σ H R => iList K te σ H R ∨ iTup K te σ H R) g tb D σ H := by
  have hs' : ∀ i x σ H H', i < xs.length → Pv i σ H → YAt xs i H x H' → g x σ H' fun σ2 H2 => tb { D with nx := Pv (i + 1), ct := Pv (i + 1), bk := D.nx } σ2 H2 := fun i x σ H H' hi hp ⟨e, hx⟩ => by
    rw [e]
    exact hs i x σ H hi hp hx
  cases l with
  | true => exact .inl (ht _ ⟨p, rfl, ⟨xs, SqL.of ho⟩, for_it (walk_list (xs := xs)) Pv h0 (fun i σ H hi q => SqL.of (hG i σ H hi q)) hs' hd⟩)
  | false => exact .inr (ht _ ⟨p, rfl, ⟨xs, SqT.of ho⟩, for_it (walk_tup (xs := xs)) Pv h0 (fun i σ H hi q => SqT.of (hG i σ H hi q)) hs' hd⟩)
end
section
variable {P : Program} {w : World} {K : PySem.W.Frag} {mg : Str → Option Value} {base : Heap}
def spSpoil (k : Nat) : Sp := fun vs H Q _ => ∃ (v : V) (d : Dt) (fp : List Addr), vs = [v] ∧ Tr H d v fp ∧ fp.Nodup ∧ d.dep k = true ∧
  ∀ H', (∀ c o, H c = some o → c ∉ fp → H' c = some o) → Tr H' d.spoil v fp → Q .non H'
theorem sc_law_a_spoiled : FnScope ["_law_thing", "_law_part", "_law_key"] ["_law_thing"] (defScope s_law_a_spoiled) := ⟨rfl, rfl, rfl, by decide +kernel, rfl, by decide +kernel, by decide +kernel⟩
theorem ok_spoil0 (T : Tx K mg) : Ok P w K mg base CX0 1 "_law_a_spoiled" ["_law_thing"] (fun _ _ _ _ => False) := by
  refine mkOk (d := d_law_a_spoiled) T 33 31 rfl rfl rfl rfl rfl (fun _ _ _ _ _ _ us hl => match us, hl with | [_], _ => rfl) sc_law_a_spoiled (fun vs H Q E h => ?_) (fun f cdv A outer s H vs Q E hr h => ?_)
  · exact h.elim
  · exact h.elim
theorem ok_spoil (T : Tx K mg) : ∀ k, Ok P w K mg base CX0 (k + 2) "_law_a_spoiled" ["_law_thing"] (spSpoil k)
  | 0 => ((ok_spoil0 T).mono (by omega)).imp fun vs H Q E ⟨v, d, fp, _, _, _, hk, _⟩ => by
    cases d <;> simp [Dt.dep] at hk
  | k + 1 => by
    have G_a_spoiled : Ok P w K mg base CX0 (k + 2) _ _ _ := ok_spoil T k
    refine mkOk (d := d_law_a_spoiled) T 33 31 rfl rfl rfl rfl rfl (fun _ _ _ _ _ _ us hl => match us, hl with | [_], _ => rfl) sc_law_a_spoiled (fun vs H Q E h => ?_) (fun f cdv A outer s H vs Q E hr h => ?_)
    · obtain ⟨v, d, fp, rfl, _⟩ := h
      rfl
    · obtain ⟨v, d, fp, rfl, hd, hfp, hk, q⟩ := h
      have nd := sc_law_a_spoiled.nd
      have hu := hu_of hr
      refine ⟨_, (pss_cons (ps_if (pt_val (pe_callB (k_isiT (K := K)) (by rfl) T.isinstance (by decide +kernel) (pa_cons (pv 0) (pa_cons (pe_tup (pa_cons (pe_bltn (v := .ty "list") (u := .type "list") (by rfl) T.list (by decide +kernel) rfl) (pa_cons (pe_bltn (v := .ty "tuple") (u := .type "tuple") (by rfl) T.tuple (by decide +kernel) rfl) pa_nil))) pa_nil)))) (pss_one (ps_for PassesOwn.never rfl (pi_or (k_pl (K := K) (pv 0)) (k_pt (K := K) (pv 0))) (pg_name (i := 1) nd rfl (Or.inl rfl))
      (pss_one (ps_expr (pe_ok G_a_spoiled (hr.mono (by omega)) pass0 (pa_cons (pv 1) pa_nil)))))) pss_nil)
      (pss_cons (ps_if (pt_val (pe_callB (k_isi (K := K)) (by rfl) T.isinstance (by decide +kernel) (pa_cons (pv 0) (pa_cons (pe_bltn (v := .ty "dict") (u := .type "dict") (by rfl) T.dict (by decide +kernel) rfl) pa_nil)))) (pss_cons (ps_for PassesOwn.never rfl (k_pl (K := K) (pe_callTy (k_list (K := K)) (by rfl) T.list (by decide +kernel) (pa_cons (pv 0) pa_nil))) (pg_name (i := 2) nd rfl (Or.inl rfl))
      (pss_one (ps_expr (pe_ok G_a_spoiled (hr.mono (by omega)) pass0 (pa_cons (pe_ix ((k_ixL (K := K)).or (k_ixT (K := K))) (pv 0) (pv 2) (fun _ _ => rfl)) pa_nil)))))
      (pss_one (ps_asg pe_str (pg_sub (pv 0) pe_str (set_dict hu))))) pss_nil)
      (pss_one (ps_if (pt_val (pe_callB (k_isi (K := K)) (by rfl) T.isinstance (by decide +kernel) (pa_cons (pv 0) (pa_cons (pe_bltn (v := .ty "list") (u := .type "list") (by rfl) T.list (by decide +kernel) rfl) pa_nil)))) (pss_one (ps_expr (k_bm (K := K) PySem.F.plainAttrs_list PySem.F.slot_list_append PySem.F.type_list_append mt_append (pv 0) (pa_cons pe_str pa_nil)))) pss_nil)))), ?_⟩
      have rd : Rep K (fun _ => True) H d v := Tr.rep d v fp hd
      refine viaS (t1 := tIfS _ _ _) (fun σ H4 => ∃ (v1 v2 : Option V) (hm : Dt), σ = [some v, v1, v2] ∧ (∀ c o, H c = some o → c ∉ fp → H4 c = some o) ∧ Tr H4 hm v fp ∧ hm = d.mid) (fun nx hn => ?_) ?_
      · refine ⟨_, rfl, by show 2 ≤ sizeLine; decide, fun tp ntp => ?_⟩
        unfold tNil
        refine isiT_ok T rd ["list", "tuple"] (by decide) ntp ?_
        rw [seq_any]
        have s1 : Same H (upd H tp (.tup (["list", "tuple"].map V.ty))) := same_new ntp
        generalize upd H tp (.tup (["list", "tuple"].map V.ty)) = H1 at s1 ⊢
        refine ⟨_, rfl, ?_⟩
        cases d with
        | seq l xs =>
          refine iteT ?_
          obtain ⟨hlx, hdx⟩ := Bool.and_eq_true_iff.mp (show (decide (xs.length ≤ 100000) && Dt.depL k xs) = true from hk)
          obtain ⟨p, vs, f, rfl, hp, hr0, hf⟩ := hd
          have lv := hr0.len
          have nf : f.Nodup := by
            cases l with
            | true =>
              rw [hf] at hfp
              exact (List.nodup_cons.mp hfp).2
            | false =>
              rw [hf] at hfp
              exact hfp
          have pf : p ∉ f := by
            intro hc
            cases l with
            | true =>
              rw [hf] at hfp
              exact (List.nodup_cons.mp hfp).1 hc
            | false =>
              obtain ⟨ys, z⟩ := TrL.lst xs vs f hr0 p hc
              rw [hp] at z
              cases z
          have sub : ∀ c, c ∈ f → c ∈ fp := fun c hc => by
            rw [hf]
            cases l with
            | true => exact List.mem_cons_of_mem _ hc
            | false => exact hc
          have hp1 := s1 _ _ hp
          refine forU (l := l) (p := p) (xs := vs) (fun i σ H4 => ∃ (v1 : Option V), σ = [some (.ref p), v1, none] ∧ (∀ c o, H c = some o → c ∉ f → H4 c = some o) ∧ TrL H4 (Dt.spoilL (xs.take i) ++ xs.drop i) vs f) hp1 (fun Q' q => ⟨_, rfl, q⟩)
            ⟨none, rfl, fun c o hc _ => s1 c o hc, hr0.same s1⟩ (fun i σ H4 _ ⟨_, _, kp, _⟩ => kp _ _ hp pf) ?_ ?_
          · rintro i x σ H4 hi ⟨v1, rfl, kp, tr⟩ hx
            obtain ⟨di, hxi⟩ : ∃ di, xs[i]? = some di := ⟨_, List.getElem?_eq_getElem (show i < xs.length by omega)⟩
            have hsl : (Dt.spoilL (xs.take i)).length = i := by
              rw [spoilL_map, List.length_map, List.length_take]
              omega
            have hgi : (Dt.spoilL (xs.take i) ++ xs.drop i)[i]? = some di := by
              rw [List.getElem?_append_right (by omega), hsl, Nat.sub_self, List.getElem?_drop, Nat.add_zero, hxi]
            obtain ⟨u, f1, f2, f3, e1, rfl, t1, t2, t3⟩ := tr.get hgi
            rw [hx] at e1
            obtain rfl := Option.some.inj e1
            obtain ⟨n1, n23, d123⟩ := List.nodup_append.mp nf
            obtain ⟨n2, n3, d23⟩ := List.nodup_append.mp n23
            refine gName_i ?_
            refine ⟨_, rfl, x, di, f2, rfl, t2, n2, depL_mem hdx _ (List.mem_of_getElem? hxi), fun H5 kp5 tr5 => ?_⟩
            have hg2 := Tr.lst _ _ _ t2
            refine ⟨some x, rfl, fun c o hc hn => ?_, ?_⟩
            · exact kp5 c o (kp c o hc hn) fun h => hn (List.mem_append_right _ (List.mem_append_left _ h))
            · have a1 := TrL.step hg2 kp5 _ _ _ t1 fun c hc h2 => d123 c hc c (List.mem_append_left _ h2) rfl
              have a3 := TrL.step hg2 kp5 _ _ _ t3 fun c hc h2 => d23 c h2 c hc rfl
              have ev : vs = vs.take i ++ ([x] ++ vs.drop (i + 1)) := by
                rw [← List.append_assoc, ← take_snoc hx, List.take_append_drop]
              rw [spoil_step hxi, ev]
              exact a1.app ((TrL.one tr5).app a3)
          · rintro σ H4 ⟨v1, rfl, kp, tr⟩
            rw [lv, List.take_length, List.drop_length, List.append_nil] at tr
            refine hn _ _ ⟨v1, none, .seq l (Dt.spoilL xs), rfl, fun c o hc hn => kp c o hc fun h => hn (sub c h), ⟨p, vs, f, rfl, kp _ _ hp pf, tr, hf⟩, rfl⟩
        | dic _ => exact hd.elim
        | web _ => exact hd.elim
        | _ => exact iteF (hn _ _ ⟨none, none, _, rfl, fun c o hc _ => s1 c o hc, Tr.same hd s1, rfl⟩)
      rintro σ H4 ⟨v1, v2, hm, rfl, kp, tr, rfl⟩
      refine viaS (t1 := tIfS _ _ _) (fun σ H5 => σ = [some v, v1, v2] ∧ H5 = H4) (fun nx hn => ?_) ?_
      · have rd4 : Rep K (fun _ => True) H4 _ v := Tr.rep _ v fp tr
        refine ⟨_, rfl, v, .ty "dict", _, _, _, rfl, .ty _, rd4.ty T, Dt.kit T _ (by decide), _, rfl, ?_⟩
        cases d with
        | seq l xs => cases l <;> exact iteF (hn _ _ ⟨rfl, rfl⟩)
        | dic _ => exact hd.elim
        | web _ => exact hd.elim
        | _ => exact iteF (hn _ _ ⟨rfl, rfl⟩)
      rintro σ H5 ⟨rfl, rfl⟩
      have rd4 : Rep K (fun _ => True) H5 _ v := Tr.rep _ v fp tr
      refine ⟨_, rfl, v, .ty "list", _, _, _, rfl, .ty _, rd4.ty T, Dt.kit T _ (by decide), _, rfl, ?_⟩
      cases d with
      | seq l xs =>
        cases l with
        | false => exact iteF (q H5 kp tr)
        | true =>
          obtain ⟨p, vs, f, rfl, hp, hr0, rfl⟩ := tr
          obtain ⟨hlx, hdx⟩ := Bool.and_eq_true_iff.mp (show (decide (xs.length ≤ 100000) && Dt.depL k xs) = true from hk)
          have hlx := of_decide_eq_true hlx
          have lv := hr0.len
          rw [spoilL_map, List.length_map] at lv
          refine iteT ⟨_, rfl, .inl ⟨rfl, vs, SqL.of hp⟩, p, vs, _, rfl, rfl, hp, Nat.lt_of_le_of_lt (show vs.length ≤ 100000 by omega) (by decide), ?_⟩
          refine q _ (fun c o hc hn => upd_at (kp c o hc hn) fun e => hn (by rw [e]; exact List.mem_cons_self)) ⟨p, _, f ++ [], rfl, upd_same, ?_, by rw [List.append_nil]⟩
          refine TrL.app ?_ (TrL.one ⟨rfl, rfl⟩)
          refine TrL.step (g := [p]) (fun c hc => ?_) (fun c o hc hn => upd_at hc fun e => hn (by rw [e]; exact List.mem_singleton.mpr rfl)) _ _ _ hr0 fun c hc hp => ?_
          · rw [List.mem_singleton.mp hc]
            exact ⟨vs, hp⟩
          · rw [List.mem_singleton.mp hp] at hc
            exact (List.nodup_cons.mp hfp).1 hc
      | dic _ => exact hd.elim
      | web _ => exact hd.elim
      | _ => exact iteF (q H5 kp tr)
end
end Pw
set_option Elab.async false
set_option linter.all false
set_option maxRecDepth 100000
set_option maxHeartbeats 8000000
/-! The law's near. -/
namespace Pw
open PySem PySem.Spec PyProof.Rows L2
/-- the dict's lists of pairs as they grow -/
structure NrL (K : PySem.W.Frag) (H0 H : Hp) (r : Addr) (z : List (Str × Addr)) (R : Str → Row) : Prop where
  same : Same H0 H
  nr : H0 r = none
  zf : ∀ q ∈ z, H0 q.2 = none ∧ q.2 ≠ r
  zn : (z.map (·.2)).Nodup
  kn : (z.map (·.1)).Nodup
  at_ : H r = some (.dK (outK z))
  rows : ∀ q ∈ z, ∃ us, H q.2 = some (.lst us) ∧ RepL K (fun c => H0 c = none ∧ c ≠ r ∧ c ∉ z.map (·.2)) H ((R q.1).map dPair) us
section
variable {K : PySem.W.Frag} {H0 H : Hp} {r : Addr} {z : List (Str × Addr)} {R : Str → Row}
theorem NrL.cong (h : NrL K H0 H r z R) {R' : Str → Row} (e : ∀ q ∈ z, R q.1 = R' q.1) : NrL K H0 H r z R' :=
  ⟨h.same, h.nr, h.zf, h.zn, h.kn, h.at_, fun q hq => by rw [← e q hq]; exact h.rows q hq⟩
theorem NrL.put (h : NrL K H0 H r z R) {x : Str} {a : Addr} (ha : (x, a) ∈ z) {us : List V} (hus : H a = some (.lst us)) {tt : Addr} (nt : H tt = none) (y : Str) (i : Int) :
    NrL K H0 (upd (upd H tt (.tup [.str y, .int i])) a (.lst (us ++ [.ref tt]))) r z fun s => if s = x then R s ++ [(y, i)] else R s := by
  have hf := h.zf _ ha
  have hat : a ≠ tt := ne_of_none hus nt
  have hrt : r ≠ tt := ne_of_none h.at_ nt
  have hM : ∀ c, (H0 c = none ∧ c ≠ r ∧ c ∉ z.map (·.2)) → c ≠ a := fun c hc e => hc.2.2 (by rw [e]; exact List.mem_map.mpr ⟨_, ha, rfl⟩)
  refine ⟨same_mut (same_trans h.same (same_new nt)) hf.1, h.nr, h.zf, h.zn, h.kn, upd_at (upd_at h.at_ hrt) hf.2.symm, fun q hq => ?_⟩
  have hqt : q.2 ≠ tt := by
    obtain ⟨us', h1, _⟩ := h.rows q hq
    exact ne_of_none h1 nt
  obtain ⟨vs, h1, h2⟩ := h.rows q hq
  have h2' := (h2.same (same_new (o := .tup [.str y, .int i]) nt)).mut (o := .lst (us ++ [.ref tt])) fun hc => hM _ hc rfl
  by_cases e : q.1 = x
  · have e2 : q.2 = a := zz_fst h.kn hq ha e
    rw [if_pos e]
    rw [e2, hus] at h1
    obtain rfl : us = vs := by
      have := Option.some.inj h1
      injection this
    refine ⟨_, by rw [e2]; exact upd_same, ?_⟩
    rw [List.map_append]
    refine RepL.snoc h2' ⟨tt, _, rfl, ⟨same_back h.same nt, hrt.symm, fun hc => ?_⟩, upd_at upd_same hat.symm, _, _, rfl, rfl, _, _, rfl, rfl, rfl⟩
    obtain ⟨p, hp, ep⟩ := List.mem_map.mp hc
    obtain ⟨ws, h3, _⟩ := h.rows p hp
    rw [ep, nt] at h3
    cases h3
  · have e2 : q.2 ≠ a := fun e2 => e (zz_snd h.zn hq ha e2)
    rw [if_neg e]
    exact ⟨vs, upd_at (upd_at h1 hqt) e2, h2'⟩
end
def pk (r : Str × Int) : List Key := [Sum.inr r.1, Sum.inl r.2]
theorem rows_srt {r : Row} (nd : (r.map (·.1)).Nodup) (h : r.Pairwise fun x y => lexK (pk y) (pk x) = false) : SrtS (r.map (·.1)) := by
  unfold SrtS
  rw [List.pairwise_map]
  unfold List.Nodup at nd
  rw [List.pairwise_map] at nd
  refine (h.and nd).imp fun {a b} ⟨h1, h2⟩ => ?_
  rcases lexK_le h1 with e | e
  · unfold pk at e
    injection e with e _
    injection e with e
    exact absurd e h2
  · unfold pk lexK at e
    rw [if_neg (fun z => h2 (by injection z))] at e
    exact e
section
variable {P : Program} {w : World} {K : PySem.W.Frag} {mg : Str → Option Value} {base : Heap}
def spNear (K : PySem.W.Frag) : Sp := fun vs H Q _ => ∃ (v : V) (N : Addr → Prop) (ns : List Str) (ts : List Tie), vs = [v] ∧ Rep K N H (dRaw ns ts) v ∧ RawOk ns ts ∧
  ∀ (H' : Hp) (p : Addr) (n : Near) (z : List (Str × V)), WebOf ns ts n → Same H H' → H p = none → z.map (·.1) = n.map (·.1) → H' p = some (.dK (dkv z)) → RepL K (Fr H) H' (n.map fun q => dRowP q.2) (z.map (·.2)) → Q (.ref p) H'
theorem sc_law_a_near : FnScope ["_law_raw", "_law_near", "_law_place", "_law_one", "_law_other", "_law_height"] ["_law_raw"] (defScope s_law_a_near) := ⟨rfl, rfl, rfl, by decide +kernel, rfl, by decide +kernel, by decide +kernel⟩
theorem ok_near (T : Tx K mg) : Ok P w K mg base CX0 1 "_law_a_near" ["_law_raw"] (spNear K) := by
  refine mkOk (d := d_law_a_near) T 31 29 rfl rfl rfl rfl rfl (fun _ _ _ _ _ _ us hl => match us, hl with | [_], _ => rfl) sc_law_a_near (fun vs H Q E h => ?_) (fun f cdv A outer s H vs Q E hr h => ?_)
  · obtain ⟨v, N, ns, ts, rfl, _⟩ := h
    rfl
  · obtain ⟨v, N, ns, ts, rfl, hrep, hok, k⟩ := h
    have nd := sc_law_a_near.nd
    have hu := hu_of hr
    obtain ⟨p, va, vb, rfl, hNp, hp, hra, hrb⟩ := rep_raw.mp hrep
    obtain ⟨pa, rfl, hNa, hpa⟩ := rep_strs.mp hra
    obtain ⟨pb, vs, rfl, hNb, hpb, hrb⟩ := rep_ties.mp hrb
    have lts : vs.length = ts.length := by rw [hrb.len, List.length_map]
    refine ⟨_, (pss_cons (ps_set (i := 1) nd rfl (Or.inr rfl) (pe_callTy (k_dictP rfl (K := K)) (by rfl) T.dict (by decide +kernel) (pa_cons (pe_lc (own := [("_law_place", 2)]) (by rfl) nd (k_pl (K := K) (pe_callB (k_sortedL (K := K)) (by rfl) T.sorted (by decide +kernel) (pa_cons (pe_ix (k_ixT (K := K)) (pv 0) pe_int (fun _ _ => rfl)) pa_nil))) (blkOk_by (own := [("_law_place", 2)]) (N := ["_law_raw", "_law_near", "_law_place", "_law_one", "_law_other", "_law_height"]) (sc := (defScope s_law_a_near)) (by decide +kernel)) (fun _ _ _ _ _ => (pg_name (i := 2) nd rfl (by first | exact Or.inl rfl | exact Or.inr rfl))) (fun _ _ _ _ _ => pts_nil) (fun _ _ _ _ _ => (pe_tup (pa_cons (pv 2) (pa_cons (pe_lst pa_nil) pa_nil))))) pa_nil)))
      (pss_cons (ps_for PassesOwn.never rfl (k_pl (K := K) (pe_ix (k_ixT (K := K)) (pv 0) pe_int (fun _ _ => rfl))) (k_tup (K := K) (n := 3) rfl (pgs_cons (pg_name (i := 3) nd rfl (Or.inl rfl)) (pgs_cons (pg_name (i := 4) nd rfl (Or.inl rfl)) (pgs_cons (pg_name (i := 5) nd rfl (Or.inl rfl)) pgs_nil))))
      (pss_cons (ps_expr (k_bm (K := K) PySem.F.plainAttrs_list PySem.F.slot_list_append PySem.F.type_list_append mt_append (pe_dget hu (pv 1) (pv 3) (fun _ _ => rfl)) (pa_cons (pe_tup (pa_cons (pv 4) (pa_cons (pv 5) pa_nil))) pa_nil)))
      (pss_one (ps_expr (k_bm (K := K) PySem.F.plainAttrs_list PySem.F.slot_list_append PySem.F.type_list_append mt_append (pe_dget hu (pv 1) (pv 4) (fun _ _ => rfl)) (pa_cons (pe_tup (pa_cons (pv 3) (pa_cons (pv 5) pa_nil))) pa_nil))))))
      (pss_one (ps_ret (pe_callTy (k_dictP rfl (K := K)) (by rfl) T.dict (by decide +kernel) (pa_cons (pe_lock (pe_lc (own := [("_law_place", 2)]) (by rfl) nd (pi_keys (pv 1)) (blkOk_by (own := [("_law_place", 2)]) (N := ["_law_raw", "_law_near", "_law_place", "_law_one", "_law_other", "_law_height"]) (sc := (defScope s_law_a_near)) (by decide +kernel)) (fun _ _ _ _ _ => (pg_name (i := 2) nd rfl (by first | exact Or.inl rfl | exact Or.inr rfl))) (fun _ _ _ _ _ => pts_nil) (fun _ _ _ _ _ => (pe_tup (pa_cons (pv 2) (pa_cons (pe_callB (k_sortedK (K := K)) (by rfl) T.sorted (by decide +kernel) (pa_cons (pe_dget hu (pv 1) (pv 2) (fun _ _ => rfl)) pa_nil)) pa_nil)))))) pa_nil)))))), ?_⟩
    refine viaS (t1 := tAsg _ _) (fun σ H4 => ∃ (v2 : Option V) (r : Addr) (z : List (Str × Addr)), σ = [some (.ref p), some (.ref r), v2, none, none, none] ∧ NrL K H H4 r z (rowOf []) ∧ (z.map (·.1)).Perm ns ∧ SrtS (z.map (·.1))) (fun nx hn => ?_) ?_
    · refine ⟨_, rfl, p, _, 0, _, rfl, rfl, SqT.of hp, rfl, pa, ns, rfl, SqL.of hpa, fun ms q pm so nq => ?_⟩
      have hq : upd H q (.lst (ms.map V.str)) q = _ := upd_same
      have s1 : Same H (upd H q (.lst (ms.map V.str))) := same_new nq
      generalize upd H q (.lst (ms.map V.str)) = H1 at hq s1 ⊢
      have ml : ms.length ≤ 200 := by rw [pm.length_eq]; exact hok.len
      have mnd : ms.Nodup := pm.nodup_iff.mpr hok.nd
      refine ⟨q, rfl, ⟨_, SqL.of hq⟩, fun D nD => ?_⟩
      refine lc_it (walk_list (xs := ms.map V.str)) (fun i H3 => Same H H3 ∧ H3 q = some (.lst (ms.map V.str)) ∧ ∃ (z : List (Str × Addr)) (tp : List Addr), z.map (·.1) = ms.take i ∧ (z.map (·.2)).Nodup ∧ (∀ y ∈ z, H y.2 = none ∧ H3 y.2 = some (.lst [])) ∧
          H3 D = some (.lst (tp.map V.ref)) ∧ D ∉ z.map (·.2) ∧ Paired (fun (t : Addr) (y : Str × Addr) => H3 t = some (.tup [.str y.1, .ref y.2])) tp z)
        ⟨same_trans s1 (same_new nD), upd_at hq (ne_of_none hq nD), [], [], rfl, List.nodup_nil, fun _ h => (nomatch h), upd_same, (nomatch ·), .nil⟩ (fun i H3 _ ⟨_, h, _⟩ => SqL.of h) ?_ ?_
      · rintro i x H3 _ hi ⟨sm, hq3, z, tp, hz, zn, zl, hD, zD, pr⟩ ⟨rfl, hx⟩
        obtain ⟨y, hy, rfl⟩ := map_get hx
        refine ⟨rfl, yesT ⟨_, rfl, by show 0 ≤ sizeLine; decide, fun l nl => ⟨by show 2 ≤ sizeLine; decide, fun t nt => ?_⟩⟩⟩
        have hDl : D ≠ l := ne_of_none hD nl
        have hlt : l ≠ t := ne_of_none (upd_same (a := l)) nt
        have nt3 : _ = none := same_back (same_new (o := .lst []) nl) nt
        have hDt : D ≠ t := ne_of_none hD nt3
        have sm3 := same_trans (same_new (o := .lst []) nl) (same_new (o := .tup [.str y, .ref l]) nt)
        have hzi : z.length = i := by
          have := congrArg List.length hz
          rw [List.length_map, List.length_take] at this
          rw [List.length_map] at hi
          omega
        have ltp := paired_len pr
        rw [List.length_map] at hi
        have zl' : ∀ y ∈ z, y.2 ≠ l ∧ y.2 ≠ t ∧ y.2 ≠ D := fun y hy => ⟨ne_of_none (zl y hy).2 nl, ne_of_none (zl y hy).2 nt3, fun e => zD (List.mem_map.mpr ⟨y, hy, e⟩)⟩
        refine ⟨_, sm3 _ _ hD, by rw [List.length_map]; exact Nat.lt_of_le_of_lt (show tp.length ≤ 200 by omega) (by decide), same_mut (same_trans sm sm3) (same_back s1 nD), upd_at (sm3 _ _ hq3) (fun e => by rw [e, nD] at hq; cases hq), z ++ [(y, l)], tp ++ [t], ?_, ?_, ?_, by rw [List.map_append]; exact upd_same, ?_, ?_⟩
        · rw [List.map_append, hz, take_snoc hy]
          rfl
        · rw [List.map_append]
          refine nodup_snoc zn fun hin => ?_
          obtain ⟨p, hp, e⟩ := List.mem_map.mp hin
          exact (zl' p hp).1 e
        · intro p hp
          rcases List.mem_append.mp hp with hp | hp
          · exact ⟨(zl p hp).1, upd_at (sm3 _ _ (zl p hp).2) (zl' p hp).2.2⟩
          · rw [List.mem_singleton.mp hp]
            exact ⟨same_back sm nl, upd_at (upd_at upd_same hlt) hDl.symm⟩
        · rw [List.map_append]
          intro hin
          rcases List.mem_append.mp hin with hin | hin
          · exact zD hin
          · exact hDl (List.mem_singleton.mp hin)
        · refine paired_app (paired_imp (fun u p h => ?_) pr) (.cons (upd_at upd_same hDt.symm) .nil)
          exact upd_at (sm3 _ _ h) (ne_of h hD (by intro z; cases z))
      rintro H3 ⟨sm, hq3, z, tp, hz, zn, zl, hD, zD, pr⟩
      rw [List.length_map, List.take_length] at hz
      have kn : (z.map (·.1)).Nodup := by rw [hz]; exact mnd
      refine ⟨D, tp, outK z, rfl, SqL.of hD, ?_, fun r nr => ?_⟩
      · unfold outK dkv
        rw [List.map_map]
        exact paired_mapr _ (paired_imp (fun q y h => SqT.of h) pr)
      rw [show mergeK [] (outK z) = outK z from merge_dkv0 (by rw [List.map_map]; exact kn)]
      refine hn _ _ ⟨none, r, z, rfl, ⟨same_trans sm (same_new nr), same_back sm nr, fun y hy => ⟨(zl y hy).1, ne_of_none (zl y hy).2 nr⟩, zn, kn, upd_same, fun y hy => ⟨[], upd_at (zl y hy).2 (ne_of_none (zl y hy).2 nr), RepL.nil⟩⟩, by rw [hz]; exact pm, by rw [hz]; exact srt_of so mnd⟩
    rintro σ H4 ⟨v2, r, z, rfl, hN, zp, zs⟩
    have lz : z.length = ns.length := by rw [← zp.length_eq, List.length_map]
    refine viaS (t1 := tFor _ _ _) (fun σ H5 => ∃ (v2 v3 v4 v5 : Option V), σ = [some (.ref p), some (.ref r), v2, v3, v4, v5] ∧ NrL K H H5 r z (rowOf ts)) (fun nx hn => ?_) ?_
    · refine ⟨_, rfl, p, _, 1, _, rfl, rfl, SqT.of (hN.same _ _ hp), rfl, pb, rfl, ⟨_, SqL.of (hN.same _ _ hpb)⟩, ?_⟩
      refine for_it (walk_list (xs := vs)) (fun i σ H5 => ∃ (v2 v3 v4 v5 : Option V), σ = [some (.ref p), some (.ref r), v2, v3, v4, v5] ∧ NrL K H H5 r z (rowOf (ts.take i)))
        ⟨v2, none, none, none, rfl, hN⟩ (fun i σ H5 _ ⟨_, _, _, _, _, h⟩ => SqL.of (h.same _ _ hpb)) ?_ ?_
      · rintro i x σ _ H5 hi ⟨v2, v3, v4, v5, rfl, hM⟩ ⟨rfl, hx⟩
        obtain ⟨dt, hdt, hrt⟩ := hrb.get hx
        obtain ⟨⟨x1, y1, h1⟩, ht, rfl⟩ := map_get hdt
        obtain ⟨pt, rfl, hNt, hpt⟩ := rep_tie.mp hrt
        obtain ⟨mx, my, mlt, _, _⟩ := hok.ties.mem _ (List.mem_of_getElem? ht)
        have hne : x1 ≠ y1 := fun e => by
          dsimp only at mlt
          rw [e, ltS_irr] at mlt
          cases mlt
        obtain ⟨⟨x2, ax⟩, hax, ex⟩ := List.mem_map.mp (zp.mem_iff.mpr mx)
        obtain ⟨⟨y2, ay⟩, hay, ey⟩ := List.mem_map.mp (zp.mem_iff.mpr my)
        dsimp only at ex ey
        subst ex ey
        refine ⟨pt, _, rfl, SqT.of (hM.same _ _ hpt), rfl, _, _, rfl, _, _, rfl, _, _, rfl, rfl, ?_⟩
        have bnd : ∀ (q : Str × Addr) (us : List V) (R : Str → Row) (H6 : Hp), (∀ s, (R s).length ≤ 2000) → NrL K H H6 r z R → q ∈ z → H6 q.2 = some (.lst us) → us.length < sizeLine := fun q us R H6 hR hL hq hu => by
          obtain ⟨us', h1, h2⟩ := hL.rows q hq
          rw [hu] at h1
          have e : us = us' := by
            have := Option.some.inj h1
            injection this
          rw [e, h2.len, List.length_map]
          exact Nat.lt_of_le_of_lt (hR _) (by decide)
        have hR0 : ∀ s, (rowOf (ts.take i) s).length ≤ 1000 := fun s => Nat.le_trans (rowOf_len _ s) (Nat.le_trans (List.length_take_le' _ _) hok.tl)
        obtain ⟨us1, hu1, _⟩ := hM.rows _ hax
        have lb1 := bnd _ us1 _ _ (fun s => Nat.le_trans (hR0 s) (by decide)) hM hax hu1
        refine ⟨_, rfl, _, rfl, r, _, rfl, outK_dget hM.at_ hM.kn hax, .inl ⟨rfl, us1, SqL.of hu1⟩, _, rfl, _, rfl, by show 2 ≤ sizeLine; decide, fun t1 nt1 => ⟨ax, us1, .ref t1, rfl, rfl, upd_at hu1 (ne_of_none hu1 nt1), lb1, ?_⟩⟩
        have hM1 := hM.put hax hu1 nt1 y2 h1
        generalize upd (upd H5 t1 (.tup [.str y2, .int h1])) ax (.lst (us1 ++ [.ref t1])) = H6 at hM1 ⊢
        have hR1 : ∀ s, (if s = x2 then rowOf (ts.take i) s ++ [(y2, h1)] else rowOf (ts.take i) s).length ≤ 2000 := fun s => by
          have := hR0 s
          split
          · rw [List.length_append]
            show _ + 1 ≤ 2000
            omega
          · omega
        obtain ⟨us2, hu2, _⟩ := hM1.rows _ hay
        have lb2 := bnd _ us2 _ _ hR1 hM1 hay hu2
        refine ⟨_, rfl, _, rfl, r, _, rfl, outK_dget hM1.at_ hM1.kn hay, .inl ⟨rfl, us2, SqL.of hu2⟩, _, rfl, _, rfl, by show 2 ≤ sizeLine; decide, fun t2 nt2 => ⟨ay, us2, .ref t2, rfl, rfl, upd_at hu2 (ne_of_none hu2 nt2), lb2, _, _, _, _, rfl, ?_⟩⟩
        refine (hM1.put hay hu2 nt2 x2 h1).cong fun q hq => ?_
        rw [take_snoc ht, rowOf_snoc]
        dsimp only
        by_cases e1 : q.1 = x2
        · rw [if_neg (fun e => hne (e1.symm.trans e)), if_pos e1, if_pos e1.symm]
        · by_cases e2 : q.1 = y2
          · rw [if_pos e2, if_neg e1, if_neg (fun e => e1 e.symm), if_pos e2.symm]
          · rw [if_neg e2, if_neg e1, if_neg (fun e => e1 e.symm), if_neg (fun e => e2 e.symm), List.append_nil]
      · rintro σ H5 ⟨v2, v3, v4, v5, rfl, hM⟩
        rw [lts, List.take_length] at hM
        exact hn _ _ ⟨v2, v3, v4, v5, rfl, hM⟩
    rintro σ H5 ⟨v2, v3, v4, v5, rfl, hM⟩
    refine ⟨r, _, hM.at_, trivial, fun od => ?_⟩
    refine ⟨_, rfl, r, od, rfl, .inl ⟨_, upd_same, fun D nD => ?_⟩⟩
    have hDr : D ≠ r := fun e => by
      rw [e, upd_same] at nD
      cases nD
    have nD5 : H5 D = none := by rwa [upd_ne hDr] at nD
    have lo : (outK z).length = z.length := by unfold outK dkv; rw [List.length_map, List.length_map]
    refine lc_it walk_keys (fun j H7 => (∀ c o, H5 c = some o → c ≠ r → H7 c = some o) ∧ H7 r = some (.frz od (.dK (outK z))) ∧ ∃ (n : Near) (zz : List (Str × V)) (tp : List Addr), n.map (·.1) = (z.take j).map (·.1) ∧ (∀ q ∈ n, q.2.Perm (rowOf ts q.1) ∧ SrtS (q.2.map (·.1))) ∧
        zz.map (·.1) = n.map (·.1) ∧ RepL K (fun c => H c = none ∧ c ≠ r ∧ c ≠ D) H7 (n.map fun q => dRowP q.2) (zz.map (·.2)) ∧ H7 D = some (.lst (tp.map V.ref)) ∧ Paired (fun (t : Addr) (q : Str × V) => H7 t = some (.tup [.str q.1, q.2])) tp zz)
      ⟨fun c o h hc => upd_at (upd_at h hc) (ne_of_none h nD5), upd_at upd_same hDr.symm, [], [], [], rfl, fun _ h => (nomatch h), rfl, RepL.nil, upd_same, .nil⟩ (fun j H7 _ ⟨_, h, _⟩ => h) ?_ ?_
    · rintro j y _ H7 hj ⟨kp7, hf7, n, zz, tp, hn1, hn2, hzz, hrz, hD7, pr⟩ ⟨rfl, kk, vv, hkv, rfl⟩
      obtain ⟨⟨⟨x, a⟩, hxa⟩⟩ : Nonempty { q : Str × Addr // z[j]? = some q } := ⟨⟨_, List.getElem?_eq_getElem (show j < z.length by omega)⟩⟩
      have hkv' : (outK z)[j]? = some (Sum.inr x, V.ref a) := by
        unfold outK dkv
        rw [List.getElem?_map, List.getElem?_map, hxa]
        rfl
      rw [hkv'] at hkv
      cases hkv
      have hz := List.mem_of_getElem? hxa
      obtain ⟨us, hus, rus⟩ := hM.rows _ hz
      have hus7 := kp7 _ _ hus (hM.zf _ hz).2
      have har : a ≠ r := (hM.zf _ hz).2
      refine ⟨rfl, yesT ⟨_, rfl, _, rfl, _, rfl, r, V.ref a, rfl, .inl ⟨outK z, Sum.inr x, .inr ⟨od, hf7⟩, rfl, (outK_get hM.kn hz).symm⟩, ?_⟩⟩
      have rus7 : RepL K (fun c => (H c = none ∧ c ≠ r ∧ c ∉ z.map (·.2)) ∧ c ≠ D) _ ((rowOf ts x).map fun q => dTup (pk q)) us := RepL.step (fun _ h => h) (fun c o hN hc => kp7 c o hc hN.1.2.1) _ _ (repL_apart rus nD5)
      dsimp only [tNil]
      refine sort_rep pk [false] (fun _ _ => rfl) hus7 rus7 fun ys ws l pm pw rws nl => ⟨by show 2 ≤ sizeLine; decide, fun t nt => ?_⟩
      have nl7 := nl
      have nt7 := same_back (same_new (o := .lst ws) nl) nt
      have hDl : D ≠ l := ne_of_none hD7 nl
      have hrl : r ≠ l := ne_of_none hf7 nl
      have hDt : D ≠ t := ne_of_none hD7 nt7
      have hrt : r ≠ t := ne_of_none hf7 nt7
      have hlt : l ≠ t := ne_of_none (upd_same (a := l)) nt
      have s8 := same_trans (same_new (o := .lst ws) nl) (same_new (o := .tup [.str x, .ref l]) nt)
      have h5n : ∀ c, H7 c = none → c ≠ r → H5 c = none := fun c hc hcr => by
        cases e : H5 c with
        | none => rfl
        | some o =>
          have := kp7 c o e hcr
          rw [hc] at this
          cases this
      have nl0 : H l = none := same_back hM.same (h5n l nl hrl.symm)
      have ltp := paired_len pr
      have lzz : zz.length = j := by
        have := congrArg List.length hzz
        rw [hn1, List.length_map, List.length_map, List.length_take] at this
        omega
      refine ⟨_, s8 _ _ hD7, by rw [List.length_map]; exact Nat.lt_of_le_of_lt (show tp.length ≤ 200 by have := hok.len; omega) (by decide), fun c o hc hcr => upd_at (s8 _ _ (kp7 c o hc hcr)) (ne_of_none hc nD5), upd_at (s8 _ _ hf7) hDr.symm, n ++ [(x, ys)], zz ++ [(x, .ref l)], tp ++ [t], ?_, ?_, ?_, ?_, by rw [List.map_append]; exact upd_same, ?_⟩
      · rw [List.map_append, hn1, take_snoc hxa, List.map_append]
        rfl
      · intro q hq
        rcases List.mem_append.mp hq with hq | hq
        · exact hn2 q hq
        · rw [List.mem_singleton.mp hq]
          exact ⟨pm, rows_srt ((pm.map (·.1)).nodup_iff.mpr (rowOf_nd (raw_acc hok) x)) pw⟩
      · rw [List.map_append, List.map_append, hzz]
        rfl
      · rw [List.map_append, List.map_append]
        refine RepL.snoc (RepL.step (fun _ h => h) (fun c o hN hc => upd_at (s8 c o hc) hN.2.2) _ _ hrz) ?_
        refine ⟨l, ws, rfl, ⟨nl0, hrl.symm, hDl.symm⟩, upd_at (upd_at upd_same hlt) hDl.symm, ?_⟩
        exact RepL.step (fun c h => ⟨h.1.1, h.1.2.1, h.2⟩) (fun c o hN hc => upd_at (s8 c o hc) hN.2) _ _ rws
      · refine paired_app (paired_imp (fun u q h => ?_) pr) (.cons (upd_at upd_same hDt.symm) .nil)
        exact upd_at (s8 _ _ h) (ne_of h hD7 (by intro z; cases z))
    · rintro H7 ⟨kp7, hf7, n, zz, tp, hn1, hn2, hzz, hrz, hD7, pr⟩
      rw [lo, List.take_length] at hn1
      have s8 : Same H5 (upd H7 r (.dK (outK z))) := fun c o hc => by
        by_cases e : c = r
        · subst e
          rw [hM.at_] at hc
          rw [← hc]
          exact upd_same
        · exact upd_at (kp7 c o hc e) e
      have hD8 : upd H7 r (.dK (outK z)) D = some (.lst (tp.map V.ref)) := upd_at hD7 hDr
      have r8 : RepL K (fun c => H c = none ∧ c ≠ r ∧ c ≠ D) (upd H7 r (.dK (outK z))) (n.map fun q => dRowP q.2) (zz.map (·.2)) := RepL.step (fun _ h => h) (fun c o hN hc => upd_at hc hN.2.1) _ _ hrz
      have pr8 : Paired (fun (t : Addr) (q : Str × V) => upd H7 r (.dK (outK z)) t = some (.tup [.str q.1, q.2])) tp zz := paired_imp (fun u q h => upd_at h (ne_of h hf7 (by intro z; cases z))) pr
      refine ⟨hf7, ?_⟩
      generalize upd H7 r (.dK (outK z)) = H8 at s8 hD8 r8 pr8 ⊢
      have s08 := same_trans hM.same s8
      have ekn : (zz.map (·.1)).Nodup := by rw [hzz, hn1]; exact hM.kn
      refine ⟨D, tp, dkv zz, rfl, SqL.of hD8, ?_, fun m nm => ?_⟩
      · unfold dkv
        exact paired_mapr _ (paired_imp (fun q y h => SqT.of h) pr8)
      rw [merge_dkv0 ekn]
      refine k _ m n zz ⟨⟨by rw [hn1]; exact zs, fun q hq => (hn2 q hq).2⟩, fun x => by rw [hn1]; exact zp.mem_iff, fun q hq y h => ?_⟩ (same_trans s08 (same_new nm)) (same_back s08 nm) hzz upd_same ?_
      · rw [(hn2 q hq).1.mem_iff]
        exact rowOf_mem (raw_acc hok)
      · exact (r8.same (same_new nm)).wk fun c hc => hc.1
end
end Pw
set_option Elab.async false
set_option linter.all false
set_option maxRecDepth 100000
set_option maxHeartbeats 8000000
/-! What is told, or how it is refused: a lambda handed to the law's def. -/
namespace Pw
open PySem PySem.Spec PyProof.Rows L2 LamX
def mets : List (Str × Str × Str) := [("BadPlaces", "index", "places"), ("BadTies", "index", "ties"), ("NoPlace", "thing", "place"), ("BadPicture", "thing", "picture")]
/-- what is known where the lambda's error lies: the law's def makes a pair of it -/
def EMet (K : PySem.W.Frag) (Q : VK) : XK := fun cls d H => ∃ (x f tag : Str) (dd : Addr) (y : V), (x, f, tag) ∈ mets ∧ cls = .ref (He.ga K x) ∧ d = some dd ∧ H dd = some (.xd [(f, y)]) ∧ ∀ p, H p = none → Q (.ref p) (upd H p (.tup [.str tag, y]))
def TTmet (K : PySem.W.Frag) : (XK → Hp → VK → Prop) → Hp → VK → Prop := fun tl H Q => tl (EMet K Q) H fun v H' => ([V.str "told", v] : List V).length ≤ sizeLine ∧ ∀ p, H' p = none → Q (.ref p) (upd H' p (.tup [.str "told", v]))
theorem met_raise {K : PySem.W.Frag} {Q : VK} {H : Hp} {x f tag : Str} {y : V} (hm : (x, f, tag) ∈ mets) (h : ∀ p H', Same H H' → H p = none → H' p = some (.tup [.str tag, y]) → Q (.ref p) H') : RaiseX K x f y H (EMet K Q) :=
  fun d H' s nd hd => ⟨x, f, tag, d, y, hm, rfl, rfl, hd, fun p np => h p _ (same_trans s (same_new np)) (same_back s np) upd_same⟩
theorem sc_law_met : FnScope ["_law_ask", "e"] ["_law_ask"] (defScope s_law_met) := ⟨rfl, rfl, rfl, by decide +kernel, rfl, by decide +kernel, by decide +kernel⟩
section
variable {X : Cx} {K : PySem.W.Frag}
theorem Tx.exm {mg : Str → Option Value} (T : Tx K mg) (i : Nat) {x y : Str} {b : Bool} (h : fa[i]? = some (.exm x y b) := by rfl) : PySem.W.exmOne K (.ref (He.ga K x)) (.ref (He.ga K y)) = some b := He.exm_ok (T.says.fact i h)
/-- the caught error's name, wherever two slots stand -/
def tL1 : TE := fun σ H Q => σ.length = 2 → tVar 1 σ H Q
theorem PE.len {e : Expr} {t : TE} (h : PE X e t) (hn : X.N.length = 2) : PE X e (fun σ H Q => σ.length = 2 → t σ H Q) := ⟨fun pins s σ H Q I q => h.run pins s σ H Q I (q (by rw [I.len, hn]))⟩
def metL (K : PySem.W.Frag) : List (Value × (Addr → Value → Option Addr → TS)) := [
  (.ref (He.ga K "BadPlaces"), fun a cls d => tRet (tTup (tCons (tC (.str "places")) (tCons (tXf a cls d (He.ga K "BadPlaces") "index" tL1) tNil)))),
  (.ref (He.ga K "BadTies"), fun a cls d => tRet (tTup (tCons (tC (.str "ties")) (tCons (tXf a cls d (He.ga K "BadTies") "index" tL1) tNil)))),
  (.ref (He.ga K "NoPlace"), fun a cls d => tRet (tTup (tCons (tC (.str "place")) (tCons (tXf a cls d (He.ga K "NoPlace") "thing" tL1) tNil)))),
  (.ref (He.ga K "BadPicture"), fun a cls d => tRet (tTup (tCons (tC (.str "picture")) (tCons (tXf a cls d (He.ga K "BadPicture") "thing" tL1) tNil))))]
theorem met_pair {cls : Value} {d : Option Addr} {C a dd : Addr} {f tag : Str} {y : V} {D : Ends} {σ : L2.St} {H : Hp} (h1 : cls = .ref C) (h2 : d = some dd) (h3 : H dd = some (.xd [(f, y)])) (q : ∀ p, H p = none → D.rt (.ref p) (upd H p (.tup [.str tag, y]))) :
    tRet (tTup (tCons (tC (.str tag)) (tCons (tXf a cls d C f tL1) tNil))) (Ends.drop D 1) (σ.set 1 (some (.ref a))) H := by
  intro hl
  refine ⟨_, ?_, rfl, h1, dd, _, y, h2, h3, by simp [List.lookup], ⟨by show 2 ≤ sizeLine; decide, q⟩⟩
  rw [List.length_set] at hl
  rw [List.getElem?_set_self (by omega)]
theorem many_no {Wout : WX} {D : Ends} {i : Nat} {c : Value} {ts : Addr → Value → Option Addr → TS} {r : List (Value × (Addr → Value → Option Addr → TS))} {cls : Value} {d : Option Addr} {σ : L2.St} {H : Hp} (e : PySem.W.exmOne K cls c = some false) (h : wManyAs K i Wout D r cls d σ H) :
    wManyAs K i Wout D ((c, ts) :: r) cls d σ H := ⟨false, e, (nomatch ·), fun _ => h⟩
theorem many_yes {Wout : WX} {D : Ends} {i : Nat} {c : Value} {ts : Addr → Value → Option Addr → TS} {r : List (Value × (Addr → Value → Option Addr → TS))} {cls : Value} {d : Option Addr} {σ : L2.St} {H : Hp} (e : PySem.W.exmOne K cls c = some true)
    (h : ∀ a, H a = none → ts a cls d (Ends.drop D i) (σ.set i (some (.ref a))) H) : wManyAs K i Wout D ((c, ts) :: r) cls d σ H := ⟨true, e, fun _ => h, (nomatch ·)⟩
theorem met_many {mg : Str → Option Value} (T : Tx K mg) {Wout : WX} {D : Ends} {Q : VK} (hD : D.rt = Q) {cls : Value} {d : Option Addr} {σ : L2.St} {H : Hp} (h : EMet K Q cls d H) : wManyAs K 1 Wout D (metL K) cls d σ H := by
  obtain ⟨x, f, tag, dd, y, hm, rfl, rfl, hd, q⟩ := h
  subst hD
  simp only [mets, List.mem_cons, Prod.mk.injEq, List.not_mem_nil, or_false] at hm
  rcases hm with ⟨rfl, rfl, rfl⟩ | ⟨rfl, rfl, rfl⟩ | ⟨rfl, rfl, rfl⟩ | ⟨rfl, rfl, rfl⟩
  · exact many_yes (T.exm 91) fun a _ => met_pair rfl rfl hd q
  · exact many_no (T.exm 95) (many_yes (T.exm 96) fun a _ => met_pair rfl rfl hd q)
  · exact many_no (T.exm 99) (many_no (T.exm 100) (many_yes (T.exm 101) fun a _ => met_pair rfl rfl hd q))
  · exact many_no (T.exm 87) (many_no (T.exm 88) (many_no (T.exm 89) (many_yes (T.exm 86) fun a _ => met_pair rfl rfl hd q)))
theorem met_gives (T : Tx K X.mg) (ek : X.K = K) {g : Addr} {cdg : Value} {q : Str} : GivesTo X ["_law_ask", "e"] "_law_met" (defScope s_law_met) g cdg (defBody s_law_met) "_law_ask" q (TTmet K) := by
  subst ek
  intro f c' s H Q tl act hc h
  have nd : (["_law_ask", "e"] : List Str).Nodup := sc_law_met.nd
  refine ⟨_, pss_one (ps_try_manyAs (X := (cxOf C8.CX0 X.prog X.w X.K X.mg X.base ["_law_ask", "e"] "_law_met" (defScope s_law_met) g cdg X.A X.stack s H C8.E0).nox) (n := "e") (i := 1) (l := metL X.K) (Wout := fun _ _ _ _ => False)
      (tb := fun W D σ H => ∃ Ech : XK, (∀ cls d σ' H', Ech cls d H' → W cls d σ' H') ∧ σ[0]? = some (some (.ref f)) ∧ H c' = some (CodeO c' q) ∧ tl Ech H (fun v H' => ([V.str "told", v] : List V).length ≤ sizeLine ∧ ∀ p, H' p = none → D.rt (.ref p) (upd H' p (.tup [.str "told", v]))))
      rfl rfl nd rfl (show (defScope s_law_met).names.lookup ("e" : Str) = some .local by decide +kernel) takes0 (fun W pn xe tk _ => ?_) ?_), ?_⟩
  · refine ⟨fun pins s' σ H' D I h' => ?_⟩
    obtain ⟨Ech, hW, h1, h2, h3⟩ := h'
    exact (pss_one (ps_ret (pe_tup (pa_cons pe_str (pa_cons (act W pn xe Ech _ _ tk hW) pa_nil))))).run pins s' σ H' D I ⟨h1, h2, h3⟩
  · refine .cons ⟨rfl, by decide, .inl (T.glo 2)⟩ (fun a oe cls d pn hz hf => pss_one (ps_ret (pe_tup (pa_cons pe_str (pa_cons (pe_xf T.xPla.xf T.nPla hz hf (PE.len (pv 1) rfl)) pa_nil)))))
      (.cons ⟨rfl, by decide, .inl (T.glo 3)⟩ (fun a oe cls d pn hz hf => pss_one (ps_ret (pe_tup (pa_cons pe_str (pa_cons (pe_xf T.xTie.xf T.nTie hz hf (PE.len (pv 1) rfl)) pa_nil)))))
      (.cons ⟨rfl, by decide, .inl (T.glo 4)⟩ (fun a oe cls d pn hz hf => pss_one (ps_ret (pe_tup (pa_cons pe_str (pa_cons (pe_xf T.xNo.xf T.nNo hz hf (PE.len (pv 1) rfl)) pa_nil)))))
      (.cons ⟨rfl, by decide, .inl (T.glo 1)⟩ (fun a oe cls d pn hz hf => pss_one (ps_ret (pe_tup (pa_cons pe_str (pa_cons (pe_xf T.xPic.xf T.nPic hz hf (PE.len (pv 1) rfl)) pa_nil))))) .nil)))
  · exact ⟨EMet X.K Q, fun cls d σ' H' hE => met_many T rfl hE, rfl, hc, h⟩
/-! ### the defs that make lambdas -/
def tabR (K : PySem.W.Frag) : Addr × Addr := He.cT K ("_law_refused_right", none)
def tabP (K : PySem.W.Frag) : Addr × Addr := He.cT K ("_law_pictures_right", none)
def qR : Str := "_law_refused_right" ++ ".<locals>." ++ "<lambda>"
def qP : Str := "_law_pictures_right" ++ ".<locals>." ++ "<lambda>"
def tabsT (K : PySem.W.Frag) : List (Addr × Str) := [((tabR K).2, qR), ((tabP K).2, qP)]
theorem tabs_at {mg : Str → Option Value} (T : Tx K mg) {P : Addr} {q : Str} (h : (P, q) ∈ tabsT K) : ∀ p ∈ tabsT K, p.1 = P → p.2 = q := by
  have n := T.tabs
  intro p hp e
  simp only [tabsT, List.mem_cons, List.not_mem_nil, or_false] at h hp
  rcases h with h | h <;> rcases hp with rfl | rfl <;> cases h
  · rfl
  · exact absurd e.symm n
  · exact absurd e n
  · rfl
def tMet (K : PySem.W.Frag) (t : XK → TE) : TE := tLam (tabsT K) (TTmet K) t
theorem pe_met {c P : Addr} {k : Nat} {params : Arguments} {body : Expr} {scope : Scope} {t : XK → TE} {p lpos pos : Pos} (T : Tx K X.mg) (TB : TabB X.base X.mg c P) (hcode : X.env.code = .ref c) (hm : (P, X.env.qual ++ "<lambda>") ∈ tabsT K) (hr : Room (k + 2) X.A)
    (hbody : ∀ (A : Around) (outer : List Env) (s : Shared) (H : Hp) (E : XK) (f c' : Addr), Room k (A.deeper (lamEnv X scope s.heap.objs.size f c')) → PE (lamCx X A outer s H E scope f c') body (t E))
    (L : lamSB X.env.scope scope = true := by rfl) (hdef : defaultsOf params X.env = ([], []) := by rfl)
    (hbind : ∀ (q : Str) (cl : List (Str × Addr)) (pm cv ctv : Value), bindArgs (PySem.W.kla_fn "<lambda>" q params body scope cl pm cv ctv) ⟨[], []⟩ = pure [] := by intros; rfl) (hg : Gl X "_law_met" := by rfl) (ek : X.K = K := by rfl) :
    PE X (.Call (.Name "_law_met" p) [.Lambda params body scope lpos] [] pos) (tMet K t) := by
  subst ek
  obtain ⟨fd, F⟩ := T.says.def_ 40 (d := d_law_met) rfl
  obtain ⟨oc, od, dV, kV, doc, pm, an, cdv, ct, osl, rfl, lk, hcd, hD, _⟩ := F.ex
  rcases hD with ⟨_, rfl⟩ | ⟨e, _⟩
  · exact pe_lamcall (a := "_law_ask") hg (T.glo 38) F.kp lk hcd (F.bindsN fun _ _ _ _ _ _ us hl => match us, hl with | [_], _ => rfl) sc_law_met rfl (.inl (by decide +kernel)) (met_gives T rfl) TB hcode hm (tabs_at T hm) hr (lamS_by L) hdef hbind hbody
  · exact absurd rfl e
end
section
variable {K : PySem.W.Frag}
/-- all known but a, b and tables stands as it stood -/
def KpN (a b : Addr) (H H' : Hp) : Prop := ∀ c o, H c = some o → (∀ ps, o ≠ .tbl ps) → c ≠ a → c ≠ b → H' c = some o
theorem KpN.refl {a b : Addr} (H : Hp) : KpN a b H H := fun _ _ h _ _ _ => h
theorem KpN.of {a b : Addr} {H H' : Hp} (k : Kp a b H H') : KpN a b H H' := fun c o h _ x y => k c o h x y
theorem KpN.same {a b : Addr} {H H' : Hp} (k : Same H H') : KpN a b H H' := fun c o h _ _ _ => k c o h
theorem KpN.ext {a b : Addr} {H H' : Hp} (k : ExtN H H') : KpN a b H H' := fun c o h n _ _ => k c o h n
theorem KpN.trans {a b : Addr} {H H1 H2 : Hp} (x : KpN a b H H1) (y : KpN a b H1 H2) : KpN a b H H2 := fun c o h n ha hb => y c o (x c o h n ha hb) n ha hb
mutual
theorem Rep.kpn {a b : Addr} {N : Addr → Prop} {H H' : Hp} (k : KpN a b H H') (hn : ∀ c, N c → c ≠ a ∧ c ≠ b) : ∀ (d : Dt) (v : V), Rep K N H d v → Rep K N H' d v
  | .non, _, h => h
  | .bl _, _, h => h
  | .int _, _, h => h
  | .str _, _, h => h
  | .seq l xs, _, h => by
    obtain ⟨p, vs, e, hp, ho, hr⟩ := h
    exact ⟨p, vs, e, hp, k p _ ho (by cases l <;> (intro ps z; cases z)) (hn p hp).1 (hn p hp).2, RepL.kpn k hn xs vs hr⟩
  | .dic _, _, h => by
    obtain ⟨p, e, hp, ho⟩ := h
    exact ⟨p, e, hp, k p _ ho (by intro ps z; cases z) (hn p hp).1 (hn p hp).2⟩
  | .web _, _, h => by
    obtain ⟨p, e, hp, dx, t, d, h1, h2, h3, h4, ⟨z, h5, h6, h7⟩, h8⟩ := h
    exact ⟨p, e, hp, dx, t, d, k p _ h1 (by intro ps z; cases z) (hn p hp).1 (hn p hp).2, h2, h3, k t _ h4 (by intro ps z; cases z) (hn t h2).1 (hn t h2).2, ⟨z, h5, k d _ h6 (by intro ps z; cases z) (hn d h3).1 (hn d h3).2,
      fun q hq => ⟨(h7 q hq).1, k _ _ (h7 q hq).2 (by intro ps z; cases z) (hn _ (h7 q hq).1).1 (hn _ (h7 q hq).1).2⟩⟩, h8⟩
theorem RepL.kpn {a b : Addr} {N : Addr → Prop} {H H' : Hp} (k : KpN a b H H') (hn : ∀ c, N c → c ≠ a ∧ c ≠ b) : ∀ (ds : List Dt) (vs : List V), RepL K N H ds vs → RepL K N H' ds vs
  | [], _, h => h
  | d :: ds, _, h => by
    obtain ⟨v, ws, e, h1, h2⟩ := h
    exact ⟨v, ws, e, Rep.kpn k hn d v h1, RepL.kpn k hn ds ws h2⟩
end
theorem Strm.ext {a b : Addr} {n : Nat} {H H' : Hp} (h : Strm a b n H) (k : ExtN H H') : Strm a b n H' := by
  obtain ⟨cells, left, cnt, mix, h1, h2, h3⟩ := h
  exact ⟨cells, left, cnt, mix, k _ _ h1 (by intro ps z; cases z), k _ _ h2 (by intro ps z; cases z), h3⟩
theorem Tabs.kp {a b : Addr} {n : Nat} {H H' : Hp} {T : List (Addr × Str)} (t : Tabs T H) (S : Strm a b n H) (k : Kp a b H H') : Tabs T H' := fun p hp => by
  obtain ⟨ps, h1, h2, h3⟩ := t p hp
  obtain ⟨cells, left, cnt, mix, ha, hb, _⟩ := S
  have na : ∀ {c : Addr} {o : HO}, H c = some o → (∀ xs, o ≠ .lst xs) → c ≠ a ∧ c ≠ b := fun {c o} hc hn => ⟨fun e => by
    rw [e, ha] at hc
    exact hn _ (Option.some.inj hc).symm, fun e => by
    rw [e, hb] at hc
    exact hn _ (Option.some.inj hc).symm⟩
  refine ⟨ps, k _ _ h1 (na h1 fun xs z => by cases z).1 (na h1 fun xs z => by cases z).2, h2, fun pos cv hc => ?_⟩
  obtain ⟨c, e1, e2⟩ := h3 pos cv hc
  have nc : ∀ xs, CodeO c p.2 ≠ .lst xs := fun xs z => by
    unfold CodeO at z
    cases z
  exact ⟨c, e1, k _ _ e2 (na e2 nc).1 (na e2 nc).2⟩
theorem Tabs.same {H H' : Hp} {T : List (Addr × Str)} (t : Tabs T H) (k : Same H H') : Tabs T H' := Tabs.ext t k
end
end Pw
set_option Elab.async false
set_option linter.all false
set_option maxRecDepth 100000
set_option maxHeartbeats 8000000
/-! Defs called where no guard stands; repr of data. -/
namespace Pw
open PySem PySem.Spec PyProof.Rows L2
/-- a def's promise, where no guard stands -/
structure FnG (P : Program) (w : World) (K : PySem.W.Frag) (mg : Str → Option Value) (base : Heap) (k : Nat) (f : Addr) (fd : FuncData) (ps : List Str) (sp : Sp) : Prop where
  ln : ∀ vs H Q E, sp vs H Q E → vs.length = ps.length
  go : ∀ (A : Around) (outer : List Env) (s : Shared) (H : Hp) (args : Args) (us : List Value) (vs : List V) (Q : VK) (E : XK), A.guards = some [] → Room k A → Env0 P w K mg base A outer s H → BindsTo s fd args (ps.zip us) → Vals vs us → sp vs H Q E →
    codeAny (model P w) A (.call (.ref f) args) (CR CX0 outer P w H s Q E) s
def OkG (P : Program) (w : World) (K : PySem.W.Frag) (mg : Str → Option Value) (base : Heap) (k : Nat) (x : Str) (ps : List Str) (sp : Sp) : Prop :=
  ∃ f fd, mg x = some (.ref f) ∧ PySem.W.keepIn K (.ref f) = true ∧ L2.Binds K fd ps [] ∧ FnG P w K mg base k f fd ps sp
section
variable {P : Program} {w : World} {K : PySem.W.Frag} {mg : Str → Option Value} {base : Heap}
theorem mkG {d : He.DefD} (T : Tx K mg) (i j : Nat) (hi : fn[i]? = some d) (hj : fa[j]? = some (.glo d.name)) (ha : d.at_ = (d.name, none)) (hd : d.dfl = []) (hk : d.kwd = []) {N ps : List Str} {k : Nat} {sp : Sp}
    (hb : ∀ (kV doc pm : Value) (an : Option Addr) (cdv ct : Value) (us : List Value), us.length = ps.length → bindArgs (PySem.W.fnOf d.name d.qual d.params d.body d.scope .none kV doc pm an cdv ct) ⟨us, []⟩ = pure (ps.zip us))
    (S : FnScope N ps d.scope) (len : ∀ vs H Q E, sp vs H Q E → vs.length = ps.length)
    (hbody : ∀ (f c : Addr) (A : Around) (outer : List Env) (s : Shared) (H : Hp) (vs : List V) (Q : VK) (E : XK), He.codeOf K d.at_ = c → A.guards = some [] → Room k (A.deeper (envOfC d.qual d.scope s.heap.objs.size f (.ref c))) → sp vs H Q E →
      ∃ t, PSs (cxOf CX0 P w K mg base N d.qual d.scope f (.ref c) A outer s H E).nox d.body t ∧ t { nx := fun _ H' => Q .non H', rt := Q } (start N vs) H) : OkG P w K mg base (k + 1) d.name ps sp := by
  obtain ⟨fd, F⟩ := T.says.def_ i hi
  have e1 : d.dvs K = [] := by unfold He.DefD.dvs; rw [hd]; rfl
  have e2 : d.kws K = [] := by unfold He.DefD.kws; rw [hk]; rfl
  rw [e1, e2] at F
  obtain ⟨oc, od, dV, kV, doc, pm, an, cdv, ct, osl, rfl, lk, hcd, _, _⟩ := F.ex
  obtain ⟨c, rfl⟩ := He.codeIn_ref hcd
  have ec : He.codeOf K d.at_ = c := He.codeOf_eq lk rfl
  refine ⟨_, _, ?_, F.kp, F.bindsN hb, len, fun A outer s H args us vs Q E hg hr e0 hbt r h => ?_⟩
  · have e : He.fAd K d.at_ = He.ga K d.name := by rw [ha]; rfl
    rw [e]
    exact T.glo j hj
  · refine LamX.run_ofS lk hcd S hr e0 hbt r (len _ _ _ _ h) fun hr' => ?_
    obtain ⟨t, a, q⟩ := hbody _ c A outer s H vs Q E ec hg hr' h
    exact ⟨t, a.nox, q⟩
theorem OkG.mono {k j : Nat} {x : Str} {ps : List Str} {sp : Sp} (F : OkG P w K mg base k x ps sp) (h : k ≤ j) : OkG P w K mg base j x ps sp := by
  obtain ⟨f, fd, a, b, c, d⟩ := F
  exact ⟨f, fd, a, b, c, d.ln, fun A outer s H args us vs Q E hg hr => d.go A outer s H args us vs Q E hg (hr.mono h)⟩
end
section
variable {X : Cx} {k : Nat} {ps : List Str} {sp : Sp} {E : XK} {x : Str} {p pos : Pos} {e : Expr} {es : List Expr} {t : TA}
theorem pe_okG (F : OkG X.prog X.w X.K X.mg X.base k x ps sp) (gd : X.A.guards = some []) (hr : Room k X.A) (ha : PA X (e :: es) t) (hg : Gl X x := by rfl) (hdb : (x == ("__debug__" : Str)) = false := by decide)
    (he : starEach (e :: es) X.env = (false, eval e X.env) :: starEach es X.env := by rfl) (hpl : (backTo pos (starEach es X.env)).any (·.1) = false := by rfl) : PE X (.Call (.Name x p) (e :: es) [] pos) (tCall sp [] E t) := by
  obtain ⟨f, fd, hm, hk, hb, G⟩ := F
  refine ⟨fun pins s σ H Q I h => wpAny_Call_Name_kw (ld_glob I hg hm ?_ hdb)⟩
  have args := ha.run pos pins s σ H _ I h
  refine PySem.W.callWith_K (h₀ := X.base) I.ok.mod.kin hk (thn args fun us s1 ⟨vs, H1, I1, r, q⟩ => ⟨I1.kIn, ?_⟩) he hpl
  have q' : sp vs H1 Q E := by
    have q2 : sp (vs ++ []) H1 Q E := q
    rwa [List.append_nil] at q2
  have hl : (us ++ []).length = ps.length := by
    rw [List.append_nil, ← r.length]
    exact G.ln _ _ _ _ q'
  have bt := hb s1 us I1.kIn hl
  rw [List.append_nil] at bt
  refine wpAny_call (codeAny_mono (G.go X.A X.stack s1 H1 ⟨us, []⟩ us vs Q E gd hr I1.env0 bt r q') fun r' s' hq => ?_)
  match r', hq with
  | .error _, z => exact (show False from z).elim
  | .ok (.ret u), z => exact I1.after z
  | .ok .next, z => exact z.elim
  | .ok .brk, z => exact z.elim
  | .ok .cont, z => exact z.elim
end
/-! ### repr -/
mutual
/-- texts and ints that are short -/
def Dt.okS : Dt → Bool
  | .str s => PyData.strOk s && decide (s.length ≤ 100)
  | .int i => decide (i.natAbs < 10 ^ 15)
  | .seq _ xs => Dt.okSL xs
  | .non => true
  | .bl _ => true
  | .dic _ => false
  | .web _ => false
def Dt.okSL : List Dt → Bool
  | [] => true
  | d :: ds => Dt.okS d && Dt.okSL ds
end
mutual
def Dt.wt : Dt → Nat
  | .seq _ xs => Dt.wtL xs
  | .str _ => 100
  | .int _ => 100
  | .non => 100
  | .bl _ => 100
  | .dic _ => 100
  | .web _ => 100
def Dt.wtL : List Dt → Nat
  | [] => 0
  | d :: ds => Dt.wt d + 1 + Dt.wtL ds
end
theorem int_short {i : Int} (h : i.natAbs < 10 ^ 15) : (PyData.shown (.int i)).length ≤ 20 := by
  have e := int_text_length_le10 (k := 15) (by decide) h
  show (Str.ofString (toString i)).length ≤ 20
  rw [PySem.ofString_length]
  omega
theorem log_le {n : Nat} (h : n < 10 ^ 15) : n.log2 + 1 ≤ 100 := by
  by_cases e : n = 0
  · subst e
    decide
  · have : n.log2 < 60 := (Nat.log2_lt e).mpr (Nat.lt_trans h (by decide))
    omega
mutual
theorem okS_ok : ∀ d : Dt, d.okS = true → d.py.leavesShort 20 = true ∧ d.py.showable = true ∧ d.py.weight ≤ d.wt
  | .non, _ => ⟨rfl, rfl, Nat.zero_le _⟩
  | .bl b, _ => ⟨rfl, rfl, Nat.zero_le _⟩
  | .int i, h => by
    have h' : i.natAbs < 10 ^ 15 := of_decide_eq_true h
    have hl := log_le h'
    refine ⟨decide_eq_true (int_short h'), decide_eq_true (by omega), ?_⟩
    show (if i == 0 then 0 else i.natAbs.log2 + 1) ≤ 100
    split <;> omega
  | .str s, h => by
    obtain ⟨h1, h2⟩ := Bool.and_eq_true_iff.mp (show (PyData.strOk s && decide (s.length ≤ 100)) = true from h)
    refine ⟨?_, rfl, of_decide_eq_true h2⟩
    show (s.cps.toList.all fun c => decide (c < 16 ^ 8)) = true
    have h3 : (s.cps.all fun c => decide (c < 0x110000)) = true := h1
    rw [← Array.all_toList] at h3
    rw [List.all_eq_true] at h3 ⊢
    exact fun c hc => decide_eq_true (Nat.lt_trans (of_decide_eq_true (h3 c hc)) (by decide))
  | .seq l xs, h => by
    obtain ⟨h1, h2, h3⟩ := okSL_ok xs h
    cases l <;> exact ⟨h1, h2, h3⟩
  | .dic _, h => by cases h
  | .web _, h => by cases h
theorem okSL_ok : ∀ ds : List Dt, Dt.okSL ds = true → PyData.leavesShortAll 20 (Dt.pyL ds) = true ∧ PyData.showableAll (Dt.pyL ds) = true ∧ PyData.weightAll (Dt.pyL ds) ≤ Dt.wtL ds
  | [], _ => ⟨rfl, rfl, Nat.zero_le _⟩
  | d :: ds, h => by
    obtain ⟨e1, e2⟩ := Bool.and_eq_true_iff.mp (show (Dt.okS d && Dt.okSL ds) = true from h)
    obtain ⟨h1, h2, h3⟩ := okS_ok d e1
    obtain ⟨k1, k2, k3⟩ := okSL_ok ds e2
    refine ⟨?_, ?_, ?_⟩
    · show (PyData.leavesShort 20 d.py && PyData.leavesShortAll 20 (Dt.pyL ds)) = true
      rw [h1, k1]
      rfl
    · show (PyData.showable d.py && PyData.showableAll (Dt.pyL ds)) = true
      rw [h2, k2]
      rfl
    · show PyData.weight d.py + 1 + PyData.weightAll (Dt.pyL ds) ≤ Dt.wt d + 1 + Dt.wtL ds
      omega
end
mutual
theorem dep_pl : ∀ (n : Nat) (d : Dt), d.okS = true → d.dep n = true → d.pl n = true
  | 0, d, _, h => by cases d <;> simp [Dt.dep] at h
  | n + 1, .seq l xs, h, hd => by
    obtain ⟨_, h2⟩ := Bool.and_eq_true_iff.mp (show (decide (xs.length ≤ 100000) && Dt.depL n xs) = true from hd)
    exact depL_plL n xs h h2
  | _ + 1, .non, _, _ => rfl
  | _ + 1, .bl _, _, _ => rfl
  | _ + 1, .int _, _, _ => rfl
  | _ + 1, .str s, h, _ => (Bool.and_eq_true_iff.mp (show (PyData.strOk s && decide (s.length ≤ 100)) = true from h)).1
  | _ + 1, .dic _, h, _ => by cases h
  | _ + 1, .web _, h, _ => by cases h
theorem depL_plL : ∀ (n : Nat) (ds : List Dt), Dt.okSL ds = true → Dt.depL n ds = true → Dt.plL n ds = true
  | _, [], _, _ => by simp [Dt.plL]
  | n, d :: ds, h, hd => by
    obtain ⟨e1, e2⟩ := Bool.and_eq_true_iff.mp (show (Dt.okS d && Dt.okSL ds) = true from h)
    obtain ⟨g1, g2⟩ := Bool.and_eq_true_iff.mp (show (Dt.dep n d && Dt.depL n ds) = true from hd)
    simp only [Dt.plL, dep_pl n d e1 g1, depL_plL n ds e2 g2, Bool.and_self]
end
mutual
theorem dep_up : ∀ (n : Nat) (d : Dt), d.dep n = true → d.dep (n + 1) = true
  | 0, d, h => by cases d <;> simp [Dt.dep] at h
  | n + 1, .seq l xs, hd => by
    obtain ⟨h1, h2⟩ := Bool.and_eq_true_iff.mp (show (decide (xs.length ≤ 100000) && Dt.depL n xs) = true from hd)
    show (decide (xs.length ≤ 100000) && Dt.depL (n + 1) xs) = true
    rw [h1, depL_up n xs h2]
    rfl
  | _ + 1, .non, _ => rfl
  | _ + 1, .bl _, _ => rfl
  | _ + 1, .int _, _ => rfl
  | _ + 1, .str s, _ => rfl
  | _ + 1, .dic _, _ => rfl
  | _ + 1, .web _, _ => rfl
theorem depL_up : ∀ (n : Nat) (ds : List Dt), Dt.depL n ds = true → Dt.depL (n + 1) ds = true
  | _, [], _ => by cases ‹Nat› <;> rfl
  | n, d :: ds, hd => by
    obtain ⟨g1, g2⟩ := Bool.and_eq_true_iff.mp (show (Dt.dep n d && Dt.depL n ds) = true from hd)
    show (Dt.dep (n + 1) d && Dt.depL (n + 1) ds) = true
    rw [dep_up n d g1, depL_up n ds g2]
    rfl
end
theorem dep_mono {n m : Nat} {d : Dt} (h : d.dep n = true) (hm : n ≤ m) : d.dep m = true := by
  induction hm with
  | refl => exact h
  | step _ ih => exact dep_up _ _ ih
theorem nm_ok {x : Str} (h : isNm x = true) : PyData.strOk x = true ∧ x.length ≤ 8 := by
  unfold isNm at h
  cases hc : x.cps.toList with
  | nil =>
    rw [hc] at h
    cases h
  | cons c cs =>
    rw [hc] at h
    dsimp only at h
    simp only [Bool.and_eq_true, decide_eq_true_eq, List.all_eq_true] at h
    obtain ⟨h1, _, _, h4⟩ := h
    have small : ∀ y ∈ (smallS ++ figS).cps.toList, y < 0x110000 := by decide +kernel
    refine ⟨?_, ?_⟩
    · show (x.cps.all fun c => decide (c < 0x110000)) = true
      rw [← Array.all_toList, hc, List.all_eq_true]
      exact fun y hy => decide_eq_true (small y (h4 y hy))
    · show x.cps.size ≤ 8
      rw [← Array.length_toList, hc]
      exact h1
theorem okSL_all : ∀ {ds : List Dt}, (∀ d ∈ ds, Dt.okS d = true) → Dt.okSL ds = true
  | [], _ => rfl
  | d :: ds, h => by
    show (Dt.okS d && Dt.okSL ds) = true
    rw [h d List.mem_cons_self, okSL_all fun e he => h e (List.mem_cons_of_mem _ he)]
    rfl
theorem wtL_le {k : Nat} : ∀ {ds : List Dt}, (∀ d ∈ ds, Dt.wt d ≤ k) → Dt.wtL ds ≤ (k + 1) * ds.length
  | [], _ => Nat.zero_le _
  | d :: ds, h => by
    have h1 := h d List.mem_cons_self
    have h2 := wtL_le (k := k) fun e he => h e (List.mem_cons_of_mem d he)
    show Dt.wt d + 1 + Dt.wtL ds ≤ (k + 1) * (ds.length + 1)
    rw [Nat.mul_add, Nat.mul_one]
    omega
def rRepr (K : PySem.W.Frag) : List V → Hp → VK → Prop := fun xs H Q => ∃ (v : V) (d : Dt) (N : Addr → Prop) (l : Bool) (ys : List Dt), xs = [v] ∧ d = .seq l ys ∧ Rep K N H d v ∧ d.dep 10 = true ∧ d.okS = true ∧ d.wt ≤ 700000 ∧ Q (.str d.py.shown) H
section
variable {X : Cx}
theorem cr_repr (gd : X.A.guards = some []) (hu : X.A.units + 64 < cLine) : CallR X (.builtin "repr") (rRepr X.K) := by
  intro pins s σ H xs us Q I r h
  obtain ⟨v, d, N, l, ys, rfl, rfl, hd, hdp, hok, hwt, q⟩ := h
  have hpl := dep_pl 10 _ hok hdp
  obtain ⟨k1, hsh, k3⟩ := okS_ok _ hok
  have hsz : (Dt.py (.seq l ys)).shown.length ≤ sizeLine := by
    have h1 := PyData.shown_le 20 (by decide) _ k1
    have h2 : (20 + 2) * (Dt.py (.seq l ys)).weight ≤ 22 * 700000 := Nat.mul_le_mul (by decide) (Nat.le_trans k3 hwt)
    refine Nat.le_trans h1 (Nat.le_trans (Nat.add_le_add_right h2 _) (by decide))
  obtain ⟨u, rfl, ru⟩ := vals1 r
  have dp := Rep.dp 10 _ v hd hpl
  obtain ⟨as, rd⟩ := Dp.reads I _ v u dp ru
  obtain ⟨p, vs, rfl, _⟩ := hd
  obtain rfl : u = Value.ref p := ru
  obtain ⟨l1, l2⟩ := Dt.lay 10 _ hpl
  exact repr_of_reads' rd hsh (PyData.noDict_hsm (PyData.hasDict_of_canLay _ l1)) gd (by omega) (fun _ _ e => e) (fun h' w tk hk => ⟨.str _, H, I.kept (t' := tk) hk, ⟨_, rfl⟩, q⟩) hsz
theorem k_repr {K : PySem.W.Frag} (gd : X.A.guards = some []) (hu : X.A.units + 64 < cLine) (e : X.K = K := by rfl) : CallR X (.builtin "repr") (rRepr K) := by subst e; exact cr_repr gd hu
end
end Pw
set_option Elab.async false
set_option linter.all false
set_option maxRecDepth 100000
set_option maxHeartbeats 8000000
/-! Calls with keywords: Web(ties=, places=), ties_of(place=), picture_web(picture=). -/
namespace Pw
open PySem PySem.Spec PyProof.Rows L2
theorem vals_rev : ∀ {vs : List V} {us : List Value}, Vals vs us → Vals vs.reverse us.reverse
  | _, _, .nil => .nil
  | _, _, .cons r t => by
    rw [List.reverse_cons, List.reverse_cons]
    exact (vals_rev t).append (.cons r .nil)
theorem kbn_of {K : PySem.W.Frag} {x qual : Str} {params : Arguments} {body : List Stmt} {scope : Scope} {f : Addr} {fd fd' : FuncData} (F : FunD K x qual params body scope [] [] f fd) (lk : LkF K f fd') {ps ks : List Str} {n : Nat} {g : List Value → List Value → List Value} {gV : List V → List V → List V}
    (h : ∀ (kV doc pm : Value) (an : Option Addr) (cdv ct : Value) (us ws : List Value), us.length = n → ws.length = ks.length → bindArgs (PySem.W.fnOf x qual params body scope .none kV doc pm an cdv ct) ⟨us, ks.zip ws⟩ = pure (ps.zip (g us ws)))
    (rel : ∀ {vs : List V} {us : List Value} {zs : List V} {ws : List Value}, Vals vs us → Vals zs ws → Vals (gV vs zs) (g us ws)) : KBn K fd' ps n ks g gV := by
  obtain rfl := (lkF_of F).eq lk
  obtain ⟨oc, od, dV, kV, doc, pm, an, cdv, ct, osl, rfl, _, _, hD, _⟩ := F.ex
  rcases hD with ⟨_, rfl⟩ | ⟨e, _⟩
  · exact ⟨fun s us ws _ l1 l2 => BindsTo.of_eq (h kV doc pm an cdv ct us ws l1 l2), rel⟩
  · exact absurd rfl e
section
variable {X : Cx} {K : PySem.W.Frag} {CX : CXT} {k n : Nat} {E : XK} {p pos apos : Pos} {o : Expr} {kws : List Keyword} {tk : TA} {ta : TE} {ps ks : List Str} {sp : Sp} {m x : Str} {f : Addr} {fd : FuncData} {g : List Value → List Value → List Value} {gV : List V → List V → List V}
theorem run_kbn {pins : List (Addr × Obj)} {σ : L2.St} {H : Hp} {s : Shared} {Q : VK} {us ws : List Value} {vs zs : List V} (F : FnOk X.prog X.w X.K X.mg X.base CX k f fd ps sp) (hr : Room k X.A) (hb : KBn X.K fd ps n ks g gV) (hx : Passes CX X E)
    (I : Inv X pins σ H s) (r : Vals vs us) (rz : Vals zs ws) (l1 : us.length = n) (l2 : ws.length = ks.length) (h : sp (gV vs zs) H Q E) : wpAny (model X.prog X.w) X.A (call (.ref f) us (ks.zip ws)) (EP X pins σ Q) X.xe s := by
  refine wpAny_call (codeAny_mono (F.run X.A X.stack s H ⟨us, ks.zip ws⟩ (g us ws) (gV vs zs) Q E hr I.env0 (hb.to s us ws I.kIn l1 l2) (hb.rel r rz) h) fun r' s' hq => ?_)
  match r', hq with
  | .error _, z => exact hx pins σ H s _ s' I z
  | .ok (.ret u), z => exact I.after z
  | .ok .next, z => exact z.elim
  | .ok .brk, z => exact z.elim
  | .ok .cont, z => exact z.elim
def tMethK (K : PySem.W.Frag) (m : Str) (n : Nat) (sp : Sp) (gV : List V → List V → List V) (E : XK) (ta : TE) (tk : TA) : TE := fun σ H Q => ta σ H fun x H1 => ∃ a dx fs, x = .ref a ∧ H1 a = some (.ins (He.ga K "Web") dx fs) ∧ fs.lookup m = none ∧ tk σ H1 fun zs H2 => zs.length = n ∧ sp (gV [x] zs) H2 Q E
def tWebK (K : PySem.W.Frag) (E : XK) (tk : TA) : TE := fun σ H Q => tk σ H fun vs H1 => ∃ v1 v2, vs = [v2, v1] ∧ WebGo K E Q H1 v1 v2
def tPwK (K : PySem.W.Frag) (E : XK) (tk : TA) : TE := fun σ H Q => tk σ H fun zs H1 => ∃ v, zs = [v] ∧ spPW K [v] H1 Q E
/-- o.m(k = v) of a web -/
theorem pe_mk0 {pl : Sem Bool} (T : Tx K X.mg) (F : FnOk X.prog X.w X.K X.mg X.base CX k f fd ps sp) (hm : Meth K (He.ga K "Web") m f) (hr : Room k X.A) (hb : KBn X.K fd ps 1 ks g gV) (hx : Passes CX X E) (he : PE X o ta) (hkw : PK X kws tk)
    (ht : eval (.Call (.Attribute o m apos) [] kws pos) X.env = (do
      let ov ← eval o X.env
      standAt apos.atName
      let (f, first) ← holding [ov] (getMethod ov m pl)
      callWith pos f first (backTo pos (starEach [] X.env)) (backToKw pos (keywordEach kws X.env))) := by rfl)
    (hall : (backToKw pos (keywordEach kws X.env)).all (·.1.isSome) = true := by rfl) (hks : (backToKw pos (keywordEach kws X.env)).filterMap (·.1) = ks := by rfl)
    (hpl : ((backTo pos (starEach [] X.env)).any (·.1) || (backToKw pos (keywordEach kws X.env)).any (·.1.isNone)) = false := by rfl) (ek : X.K = K := by rfl) :
    PE X (.Call (.Attribute o m apos) [] kws pos) (tMethK K m ks.length sp gV E ta tk) := by
  subst ek
  refine ⟨fun pins s σ H Q I h => PySem.W.methodCall_KW (pl := pl) (thn (he.run pins s σ H _ I h) fun u s1 ⟨x, H1, I1, rx, a, dx, fs, ex, ea, l, q⟩ => ?_) ht⟩
  subst ex
  obtain rfl : u = Value.ref a := rx
  refine getmeth_ok I1 ea T.cls hm l ?_
  refine PySem.W.callWith_KW0 (first := [.ref a]) (h₀ := X.base) I.ok.mod.kin hm.kp hall ?_ hpl
  refine thn (hkw.run pos pins s1 σ H1 _ I1 q) fun ws s2 ⟨zs, H2, I2, rz, lz, q2⟩ => ⟨I2.kIn, ?_⟩
  rw [hks]
  exact run_kbn (us := [.ref a]) (vs := [.ref a]) F hr hb hx I2 (.cons rfl .nil) rz rfl (rz.length.symm.trans lz) q2
theorem PK.up {t : TA} (h : PK X kws t) : PK X kws (fun σ H Q => ∃ Q', t σ H Q' ∧ ∀ vs H, Q' vs H → Q vs H) := ⟨fun pos pins s σ H Q I ⟨Q', q, i⟩ => wpAny_mono (h.run pos pins s σ H Q' I q) (fun us s' ⟨vs, H', I', r, q'⟩ => ⟨vs, H', I', r, i vs H' q'⟩) fun _ _ e => e⟩
/-- Web(ties=, places=) -/
theorem pe_webK (T : Tx K X.mg) (G : OkM X.prog X.w K X.mg X.base CX k "Web" "__init__" ["self", "places", "ties"] (spMk K)) (hr : Room (k + 1) X.A) (hx : Passes CX X E) (hkw : PK X kws tk) (hg : Gl X "Web" := by rfl)
    (hall : (backToKw pos (keywordEach kws X.env)).all (·.1.isSome) = true := by rfl) (hks : (backToKw pos (keywordEach kws X.env)).filterMap (·.1) = (["ties", "places"] : List Str) := by rfl)
    (hpl : ((backTo pos (starEach [] X.env)).any (·.1) || (backToKw pos (keywordEach kws X.env)).any (·.1.isNone)) = false := by rfl) (ek : X.K = K := by rfl) :
    PE X (.Call (.Name "Web" p) [] kws pos) (tWebK K E tk) := by
  subst ek
  obtain ⟨fd, hb, F⟩ := G
  obtain ⟨fd', D⟩ := T.says.def_ 10 (d := d_Web_init) rfl
  have kb : KBn X.K fd ["self", "places", "ties"] 1 ["ties", "places"] (fun us ws => us ++ ws.reverse) (fun us ws => us ++ ws.reverse) := kbn_of D hb.2 (fun kV doc pm an cdv ct us ws l1 l2 => match us, ws, l1, l2 with
    | [_], [_, _], _, _ => rfl) fun r rz => r.append (vals_rev rz)
  refine PE.weak (pe_makeK0 (x := "Web") (p := p) (pos := pos) (C := He.ga X.K "Web") T.mkW F hr hg (T.glo 12) kb hx (PK.up hkw) hall hks (by decide) hpl) fun σ H Q q => ⟨_, q, fun vs H1 h => ?_⟩
  obtain ⟨v1, v2, e, go⟩ := h
  subst e
  exact ⟨rfl, rfl, fun x dx nx nd ne => webGo_mk go nx nd ne⟩
end
section
variable {P : Program} {w : World} {K : PySem.W.Frag} {mg : Str → Option Value} {base : Heap}
/-- picture_web, for a call with its keyword -/
theorem ok_picture_webK (T : Tx K mg) : ∃ f fd, mg "picture_web" = some (.ref f) ∧ PySem.W.keepIn K (.ref f) = true ∧ KBn K fd ["picture"] 0 ["picture"] (fun us ws => us ++ ws) (fun us ws => us ++ ws) ∧ FnOk P w K mg base (L2.CX P w) 7 f fd ["picture"] (spPW K) := by
  have G_checked_picture : Ok P w K mg base (L2.CX P w) 3 _ _ _ := ok_ck_picture T
  have G_web_of : Ok P w K mg base CX0 6 _ _ _ := ok_web_of T
  obtain ⟨fd, F⟩ := T.says.def_ 19 (d := d_picture_web) rfl
  refine ⟨_, fd, T.glo 17, F.kp, kbn_of F (lkF_of F) (fun kV doc pm an cdv ct us ws l1 l2 => match us, ws, l1, l2 with
    | [], [_], _, _ => rfl) fun r rz => r.append rz, F.ok sc_picture_web (fun vs H Q E h => ?_) (fun cdv A outer s H vs Q E hr h => ?_)⟩
  · obtain ⟨v, d, N, rfl, _⟩ := h
    rfl
  · obtain ⟨v, d, N, rfl, hd, hf, k⟩ := h
    have nd := sc_picture_web.nd
    refine ⟨_, (pss_one (ps_ret (pe_ok G_web_of (hr.mono (by omega)) pass0 (pa_cons (pe_ok G_checked_picture (hr.mono (by omega)) (passes_call (takes_of rfl rfl rfl rfl) (fun _ _ _ _ h => h)) (pa_cons (pv 0) pa_nil)) pa_nil)))), ?_⟩
    refine ⟨_, rfl, v, d, N, rfl, hd, hf, ?_⟩
    cases hp : d.isPic with
    | false =>
      rw [hp, if_neg (by decide)] at k
      exact iteF k
    | true =>
      rw [hp, if_pos rfl] at k
      obtain ⟨R, C, lo, hi, h1, h2, h3, k⟩ := k
      refine iteT fun u H1 s1 hu => ?_
      exact ⟨u, Fr H, R, C, lo, hi, d.pic, rfl, hu, h1, h2, h3, fun n x H2 hw s2 hx => k n x H2 hw (same_trans s1 s2) (hx.wk fun c hc => same_back s1 hc)⟩
end
section
variable {X : Cx} {K : PySem.W.Frag} {E : XK} {p pos : Pos} {kws : List Keyword} {tk : TA}
/-- picture_web(picture=) -/
theorem pe_pwK (T : Tx K X.mg) (hr : Room 7 X.A) (hx : Passes (L2.CX X.prog X.w) X E) (hkw : PK X kws tk) (hg : Gl X "picture_web" := by rfl)
    (hall : (backToKw pos (keywordEach kws X.env)).all (·.1.isSome) = true := by rfl) (hks : (backToKw pos (keywordEach kws X.env)).filterMap (·.1) = (["picture"] : List Str) := by rfl)
    (hpl : ((backTo pos (starEach [] X.env)).any (·.1) || (backToKw pos (keywordEach kws X.env)).any (·.1.isNone)) = false := by rfl) (ek : X.K = K := by rfl) :
    PE X (.Call (.Name "picture_web" p) [] kws pos) (tPwK K E tk) := by
  subst ek
  obtain ⟨f, fd, hm, hk, kb, F⟩ := ok_picture_webK (P := X.prog) (w := X.w) (base := X.base) T
  refine ⟨fun pins s σ H Q I h => wpAny_Call_Name_kw (ld_glob I hg hm ?_ (by decide))⟩
  refine PySem.W.callWith_KW0 (h₀ := X.base) I.ok.mod.kin hk hall ?_ hpl
  refine thn (hkw.run pos pins s σ H _ I h) fun ws s2 ⟨zs, H2, I2, rz, v, ez, q2⟩ => ⟨I2.kIn, ?_⟩
  subst ez
  rw [hks]
  exact run_kbn (us := []) (vs := []) F hr kb hx I2 .nil rz rfl rz.length.symm q2
end
end Pw
set_option Elab.async false
set_option linter.all false
set_option maxRecDepth 100000
set_option maxHeartbeats 8000000
/-! What a web tells. -/
namespace Pw
open PySem PySem.Spec PyProof.Rows L2
mutual
/-- no list within -/
def Dt.noL : Dt → Bool
  | .seq l xs => !l && Dt.noLL xs
  | .non => true
  | .bl _ => true
  | .int _ => true
  | .str _ => true
  | .dic _ => false
  | .web _ => false
def Dt.noLL : List Dt → Bool
  | [] => true
  | d :: ds => Dt.noL d && Dt.noLL ds
end
section
variable {K : PySem.W.Frag} {N : Addr → Prop} {H : Hp}
mutual
theorem Rep.tr : ∀ (d : Dt) (v : V), Rep K N H d v → d.noL = true → Tr H d v []
  | .non, _, h, _ => ⟨h, rfl⟩
  | .bl _, _, h, _ => ⟨h, rfl⟩
  | .int _, _, h, _ => ⟨h, rfl⟩
  | .str _, _, h, _ => ⟨h, rfl⟩
  | .seq l xs, _, h, e => by
    obtain ⟨p, vs, rfl, _, hp, hr⟩ := h
    cases l with
    | true => cases e
    | false => exact ⟨p, vs, [], rfl, hp, RepL.tr xs vs hr (by simpa [Dt.noL] using e), rfl⟩
  | .dic _, _, _, e => by cases e
  | .web _, _, _, e => by cases e
theorem RepL.tr : ∀ (ds : List Dt) (vs : List V), RepL K N H ds vs → Dt.noLL ds = true → TrL H ds vs []
  | [], _, h, _ => ⟨h, rfl⟩
  | d :: ds, _, h, e => by
    obtain ⟨v, ws, rfl, h1, h2⟩ := h
    obtain ⟨e1, e2⟩ := Bool.and_eq_true_iff.mp (show (Dt.noL d && Dt.noLL ds) = true from e)
    exact ⟨v, ws, [], [], rfl, rfl, Rep.tr d v h1 e1, RepL.tr ds ws h2 e2⟩
end
theorem rep_trl {ds : List Dt} {v : V} (h : Rep K N H (.seq true ds) v) (e : Dt.noLL ds = true) : ∃ p, v = .ref p ∧ N p ∧ Tr H (.seq true ds) v [p] := by
  obtain ⟨p, vs, rfl, hN, hp, hr⟩ := h
  exact ⟨p, rfl, hN, p, vs, [], rfl, hp, RepL.tr ds vs hr e, rfl⟩
theorem noLL_all : ∀ {ds : List Dt}, (∀ d ∈ ds, Dt.noL d = true) → Dt.noLL ds = true
  | [], _ => rfl
  | d :: ds, h => by
    show (Dt.noL d && Dt.noLL ds) = true
    rw [h d List.mem_cons_self, noLL_all fun e he => h e (List.mem_cons_of_mem _ he)]
    rfl
theorem noL_strs (ns : List Str) : Dt.noLL (ns.map .str) = true := noLL_all fun d hd => by
  obtain ⟨x, _, rfl⟩ := List.mem_map.mp hd
  rfl
theorem noL_ties (ts : List Tie) : Dt.noLL (ts.map dTie) = true := noLL_all fun d hd => by
  obtain ⟨x, _, rfl⟩ := List.mem_map.mp hd
  rfl
theorem noL_pairs (r : Row) : Dt.noLL (r.map dPair) = true := noLL_all fun d hd => by
  obtain ⟨x, _, rfl⟩ := List.mem_map.mp hd
  rfl
end
def dTold (n : Near) : Dt := .seq true [dStrs (n.map (·.1)), dTies (tiesN n), .seq true (n.map fun q => dRowP q.2)]
section
variable {P : Program} {w : World} {K : PySem.W.Frag} {mg : Str → Option Value} {base : Heap}
def spTold (K : PySem.W.Frag) : Sp := fun vs H Q _ => ∃ (v : V) (n : Near) (N : Addr → Prop), vs = [v] ∧ Rep K N H (.web n) v ∧ n.length ≤ 1000 ∧ (∀ q ∈ n, q.2.length ≤ 1000) ∧
  ∀ (H' : Hp) (u : V) (fp : List Addr), Same H H' → Rep K (Fr H) H' (dTold n) u → Tr H' (dTold n) u fp → fp.Nodup → (∀ c ∈ fp, H c = none) → Q u H'
theorem sc_law_told : FnScope ["_law_web", "_law_one"] ["_law_web"] (defScope s_law_told) := ⟨rfl, rfl, rfl, by decide +kernel, rfl, by decide +kernel, by decide +kernel⟩
theorem ok_told (T : Tx K mg) : Ok P w K mg base CX0 4 "_law_told" ["_law_web"] (spTold K) := by
  have G_places : OkM P w K mg base CX0 1 "Web" "places" _ _ := ok_places T
  have G_ties : OkM P w K mg base CX0 1 "Web" "ties" _ _ := ok_ties T
  obtain ⟨fd_to, ⟨_, lk_to⟩, F_to⟩ : OkM P w K mg base (L2.CX P w) 3 "Web" "ties_of" ["self", "place"] (spTo K) := ok_ties_of T
  obtain ⟨fd2, D_to⟩ := T.says.def_ 13 (d := d_Web_ties_of) rfl
  have kb_to : KBn K fd_to ["self", "place"] 1 ["place"] (fun us ws => us ++ ws) (fun us ws => us ++ ws) := kbn_of D_to lk_to (fun kV doc pm an cdv ct us ws l1 l2 => match us, ws, l1, l2 with
    | [_], [_], _, _ => rfl) fun r rz => r.append rz
  refine mkOk (d := d_law_told) T 41 39 rfl rfl rfl rfl rfl (fun _ _ _ _ _ _ us hl => match us, hl with | [_], _ => rfl) sc_law_told (fun vs H Q E h => ?_) (fun f cdv A outer s H vs Q E hr h => ?_)
  · obtain ⟨v, n, N, rfl, _⟩ := h
    rfl
  · obtain ⟨v, n, N, rfl, hrep, hn1, hn2, k⟩ := h
    have nd := sc_law_told.nd
    obtain ⟨a, rfl, _, hw⟩ := id hrep
    obtain ⟨dx, t, dd, h1, _⟩ := id hw
    refine ⟨_, (pss_one (ps_ret (pe_lst (pa_cons (pe_m0 (K := K) T G_places T.m_places (hr.mono (by omega)) pass0 (pv 0)) (pa_cons (pe_m0 (K := K) T G_ties T.m_ties (hr.mono (by omega)) pass0 (pv 0)) (pa_cons (pe_lc (own := [("_law_one", 1)]) (by rfl) nd (k_pl (K := K) (pe_m0 (K := K) T G_places T.m_places (hr.mono (by omega)) pass0 (pv 0))) (blkOk_by (own := [("_law_one", 1)]) (N := ["_law_web", "_law_one"]) (sc := (defScope s_law_told)) (by decide +kernel)) (fun _ _ _ _ _ => (pg_name (i := 1) nd rfl (by first | exact Or.inl rfl | exact Or.inr rfl))) (fun _ _ _ _ _ => pts_nil) (fun _ _ _ _ _ => (pe_mk0 (K := K) T F_to T.m_ties_of (hr.mono (by omega)) kb_to passL (pv 0) (pk_cons (pv 1) pk_nil)))) pa_nil)))))), ?_⟩
    have web_at : ∀ {H' : Hp}, Same H H' → (∃ fs, H' a = some (.ins (He.ga K "Web") dx fs) ∧ fs.lookup ("places" : Str) = none ∧ fs.lookup ("ties" : Str) = none ∧ fs.lookup ("ties_of" : Str) = none) ∧ WebAt K N H' a n := fun {H'} s => by
      obtain ⟨a', e, _, hw'⟩ := hrep.same s
      cases e
      exact ⟨⟨_, s _ _ h1, rfl, rfl, rfl⟩, hw'⟩
    obtain ⟨⟨f0, f1, f2, f3, f4⟩, hw0⟩ := web_at (same_refl H)
    refine ⟨_, rfl, a, dx, _, rfl, f1, f2, a, n, N, rfl, hw0, ?_⟩
    intro p1 n_p1
    have e_p1 : upd H p1 (.lst (n.map fun q => V.str q.1)) p1 = some (.lst (n.map fun q => V.str q.1)) := upd_same
    have s_p1 : Same H (upd H p1 (.lst (n.map fun q => V.str q.1))) := same_new n_p1
    generalize upd H p1 (.lst (n.map fun q => V.str q.1)) = H1 at e_p1 s_p1 ⊢
    obtain ⟨⟨g0, g1, g2, g3, g4⟩, hw1⟩ := web_at s_p1
    refine ⟨_, rfl, a, dx, _, rfl, g1, g3, a, n, N, rfl, hw1, hn1, hn2, fun H2 v2 s2 r2 => ?_⟩
    have s02 := same_trans s_p1 s2
    obtain ⟨⟨j0, j1, j2, j3, j4⟩, hw2⟩ := web_at s02
    refine ⟨_, rfl, a, dx, _, rfl, j1, j2, a, n, N, rfl, hw2, ?_⟩
    intro p3 n_p3
    have e_p3 : upd H2 p3 (.lst (n.map fun q => V.str q.1)) p3 = some (.lst (n.map fun q => V.str q.1)) := upd_same
    have s_p3 : Same H2 (upd H2 p3 (.lst (n.map fun q => V.str q.1))) := same_new n_p3
    generalize upd H2 p3 (.lst (n.map fun q => V.str q.1)) = H3 at e_p3 s_p3 ⊢
    have s03 := same_trans s02 s_p3
    refine ⟨p3, rfl, ⟨_, SqL.of e_p3⟩, fun D nD => ?_⟩
    refine lc_it (walk_list (xs := n.map fun q => V.str q.1)) (fun j H7 => Same H3 H7 ∧ ∃ rs : List Addr, H7 D = some (.lst (rs.map V.ref)) ∧ rs.length = j ∧ rs.Nodup ∧ (∀ c ∈ rs, H3 c = none ∧ c ≠ D) ∧ TrL H7 ((n.take j).map fun q => dRowP q.2) (rs.map V.ref) rs ∧
        RepL K (fun c => H3 c = none ∧ c ≠ D) H7 ((n.take j).map fun q => dRowP q.2) (rs.map V.ref))
      ⟨same_new nD, [], upd_same, rfl, List.nodup_nil, fun _ h => (nomatch h), TrL.nil, RepL.nil⟩ (fun j H7 _ ⟨sm, _⟩ => SqL.of (sm _ _ e_p3)) ?_ ?_
    · rintro j x _ H7 hj ⟨sm, rs, hD, lr, nr, fr, tr, rr⟩ ⟨rfl, hx⟩
      obtain ⟨q, hq, rfl⟩ := map_get hx
      obtain ⟨⟨j0, j1, j2, j3, j4⟩, hw7⟩ := web_at (same_trans s03 sm)
      refine ⟨rfl, yesT ⟨_, rfl, a, dx, _, rfl, j1, j4, _, rfl, rfl, a, n, N, N, _, .str q.1, rfl, hw7, rfl, .inl ⟨q, List.mem_of_getElem? hq, rfl, fun H8 u s8 ru => ?_⟩⟩⟩
      obtain ⟨r, rfl, nr7, tru⟩ := rep_trl (ds := q.2.map dPair) ru (noL_pairs q.2)
      have nr3 : H3 r = none := same_back sm nr7
      have hDr : D ≠ r := ne_of_none hD nr7
      have hD8 := s8 _ _ hD
      have ll := lr
      rw [List.length_map] at hj
      have off : ∀ c, (H3 c = none ∧ c ≠ D) → c ≠ D := fun c h => h.2
      refine ⟨_, hD8, by rw [List.length_map, lr]; exact Nat.lt_of_lt_of_le hj (Nat.le_trans hn1 (by decide)), same_mut (same_trans sm s8) nD, rs ++ [r], by rw [List.map_append]; exact upd_same, by rw [List.length_append, lr]; rfl, nodup_snoc nr fun hin => ?_, fun c hc => ?_, ?_, ?_⟩
      · obtain ⟨xs, z⟩ := TrL.lst _ _ _ tr r hin
        rw [nr7] at z
        cases z
      · rcases List.mem_append.mp hc with hc | hc
        · exact fr c hc
        · rw [List.mem_singleton.mp hc]
          exact ⟨nr3, hDr.symm⟩
      · rw [take_snoc hq, List.map_append, List.map_append]
        have gD : ∀ c ∈ [D], ∃ xs, H8 c = some (.lst xs) := fun c hc => by
          rw [List.mem_singleton.mp hc]
          exact ⟨_, hD8⟩
        have kD : ∀ c o, H8 c = some o → c ∉ [D] → upd H8 D (.lst (rs.map V.ref ++ [.ref r])) c = some o := fun c o hc hn => upd_at hc fun e => hn (by rw [e]; exact List.mem_singleton.mpr rfl)
        refine TrL.app (TrL.step gD kD _ _ _ (tr.same s8) fun c hc h => ?_) (TrL.one (Tr.step gD kD _ _ _ tru fun c hc h => ?_))
        · rw [List.mem_singleton.mp h] at hc
          exact (fr D hc).2 rfl
        · rw [List.mem_singleton.mp hc] at h
          exact hDr (List.mem_singleton.mp h).symm
      · rw [take_snoc hq, List.map_append, List.map_append]
        have hru : ∀ c, Fr H7 c → H3 c = none ∧ c ≠ D := fun c hc => ⟨same_back sm hc, (ne_of_none hD hc).symm⟩
        exact RepL.snoc ((rr.same s8).mut fun h => h.2 rfl) ((ru.wk hru).mut fun h => h.2 rfl)
    · rintro H7 ⟨sm, rs, hD, lr, nr, fr, tr, rr⟩
      rw [List.length_map, List.take_length] at tr rr
      refine ⟨by show 3 ≤ sizeLine; decide, fun t nt => ?_⟩
      have s07 := same_trans s03 sm
      have s27 := same_trans s_p3 sm
      have s17 := same_trans s2 s27
      obtain ⟨p2, rfl, np2, tr2⟩ := rep_trl (ds := (tiesN n).map dTie) r2 (noL_ties (tiesN n))
      obtain ⟨q2, us2, e2, _, hq2, _⟩ := id r2
      cases e2
      have h2p : H2 p2 = some (.lst us2) := hq2
      have ht : upd H7 t (.lst [.ref p1, .ref p2, .ref D]) t = _ := upd_same
      have st : Same H7 (upd H7 t (.lst [.ref p1, .ref p2, .ref D])) := same_new nt
      generalize upd H7 t (.lst [.ref p1, .ref p2, .ref D]) = H9 at ht st ⊢
      have hp1 : H7 p1 = some (.lst (n.map fun q => V.str q.1)) := s17 _ _ e_p1
      have hp2 : H7 p2 = some (.lst us2) := s27 _ _ h2p
      have nt0 : H t = none := same_back s07 nt
      have kD : ∀ c, H7 c ≠ none → c ≠ t := fun c hc e => hc (by rw [e]; exact nt)
      have en : (n.map fun q => V.str q.1) = (n.map (·.1)).map V.str := by
        rw [List.map_map]
        rfl
      rw [en] at hp1
      have x1 : H3 p1 ≠ none := by rw [s_p3 _ _ (s2 _ _ e_p1)]; exact fun z => by cases z
      have x2 : H3 p2 ≠ none := by rw [s_p3 _ _ h2p]; exact fun z => by cases z
      have d12 : p1 ≠ p2 := fun e => by rw [e, np2] at e_p1; cases e_p1
      have d1D : p1 ≠ D := fun e => x1 (by rw [e]; exact nD)
      have d2D : p2 ≠ D := fun e => x2 (by rw [e]; exact nD)
      have d1r : p1 ∉ rs := fun h => x1 (fr p1 h).1
      have d2r : p2 ∉ rs := fun h => x2 (fr p2 h).1
      have dDr : D ∉ rs := fun h => (fr D h).2 rfl
      have tk : t ∉ [p1] ++ ([p2] ++ ((D :: rs) ++ [])) := fun h => by
        simp only [List.cons_append, List.nil_append, List.append_nil, List.mem_cons] at h
        rcases h with h | h | h | h
        · rw [h, hp1] at nt; cases nt
        · rw [h, hp2] at nt; cases nt
        · rw [h, hD] at nt; cases nt
        · obtain ⟨xs, z⟩ := TrL.lst _ _ _ tr t h
          rw [nt] at z
          cases z
      have r1 : Rep K (Fr H) H9 (dStrs (n.map (·.1))) (.ref p1) := rep_strs.mpr ⟨p1, rfl, n_p1, st _ _ hp1⟩
      have r29 : Rep K (Fr H) H9 (dTies (tiesN n)) (.ref p2) := Rep.wk (Rep.same r2 (same_trans s27 st)) fun c hc => same_back s_p1 hc
      have rD : Rep K (Fr H) H9 (.seq true (n.map fun q => dRowP q.2)) (.ref D) := ⟨D, _, rfl, same_back s03 nD, st _ _ hD, (rr.same st).wk fun c hc => same_back s03 hc.1⟩
      have t1 : Tr H9 (dStrs (n.map (·.1))) (.ref p1) [p1] := by
        obtain ⟨p', e, _, h⟩ := rep_trl (ds := (n.map (·.1)).map .str) r1 (noL_strs _)
        cases e
        exact h
      refine k H9 (.ref t) (t :: ([p1] ++ ([p2] ++ ((D :: rs) ++ [])))) (same_trans s07 st) ⟨t, _, rfl, nt0, ht, _, _, rfl, r1, _, _, rfl, r29, _, _, rfl, rD, rfl⟩
        ⟨t, _, [p1] ++ ([p2] ++ ((D :: rs) ++ [])), rfl, ht, ⟨_, _, [p1], _, rfl, rfl, t1, _, _, [p2], _, rfl, rfl, tr2.same (same_trans s27 st), _, _, D :: rs, [], rfl, rfl, ⟨D, _, rs, rfl, st _ _ hD, tr.same st, rfl⟩, rfl, rfl⟩, rfl⟩ ?_ fun c hc => ?_
      · simp only [List.cons_append, List.nil_append, List.append_nil] at tk ⊢
        simp only [List.nodup_cons, List.mem_cons, not_or] at tk ⊢
        exact ⟨⟨tk.1, tk.2.1, tk.2.2.1, tk.2.2.2⟩, ⟨d12, d1D, d1r⟩, ⟨d2D, d2r⟩, dDr, nr⟩
      · simp only [List.cons_append, List.nil_append, List.append_nil, List.mem_cons] at hc
        rcases hc with rfl | rfl | rfl | rfl | hc
        · exact nt0
        · exact n_p1
        · exact same_back s_p1 np2
        · exact same_back s03 nD
        · exact same_back s03 (fr c hc).1
end
end Pw
set_option Elab.async false
set_option linter.all false
set_option maxRecDepth 100000
set_option maxHeartbeats 8000000
/-! What is due of a web, in plain words. -/
namespace Pw
open PySem PySem.Spec PyProof.Rows L2
theorem lex_tie {x y x' y' : Str} {h h' : Int} : lexK (tk (x, y, h)) (tk (x', y', h')) = (if x = x' then (if y = y' then decide (h < h') else ltS y y') else ltS x x') := by
  unfold tk
  show (if (Sum.inr x : Key) = Sum.inr x' then (if (Sum.inr y : Key) = Sum.inr y' then (if (Sum.inl h : Key) = Sum.inl h' then lexK [] [] else ltKey (Sum.inl h) (Sum.inl h')) else ltKey (Sum.inr y) (Sum.inr y')) else ltKey (Sum.inr x) (Sum.inr x')) = _
  by_cases e1 : x = x'
  · subst e1
    rw [if_pos rfl, if_pos rfl]
    by_cases e2 : y = y'
    · subst e2
      rw [if_pos rfl, if_pos rfl]
      by_cases e3 : h = h'
      · subst e3
        rw [if_pos rfl]
        exact (decide_eq_false (Int.lt_irrefl _)).symm
      · rw [if_neg (fun z => e3 (Sum.inl.inj z))]
        rfl
    · rw [if_neg (fun z => e2 (Sum.inr.inj z)), if_neg e2]
      rfl
  · rw [if_neg (fun z => e1 (Sum.inr.inj z)), if_neg e1]
    rfl
theorem mem_tiesN {ns : List Str} {ts : List Tie} {n : Near} (w : WebOf ns ts n) (hok : RawOk ns ts) (t : Tie) : t ∈ tiesN n ↔ t ∈ ts := by
  obtain ⟨x, y, h⟩ := t
  unfold tiesN
  simp only [List.mem_flatMap, List.mem_map, List.mem_filter]
  constructor
  · rintro ⟨q, hq, r, ⟨hr, hl⟩, e⟩
    cases e
    rcases (w.tie q hq r.1 r.2).mp hr with z | z
    · exact z
    · have := (hok.ties.mem _ z).2.2.1
      dsimp only at this
      exact absurd hl (by
        intro hl
        exact ltS_asy hl this)
  · intro ht
    obtain ⟨m1, m2, m3, _⟩ := hok.ties.mem _ ht
    obtain ⟨q, hq, e⟩ := List.mem_map.mp ((w.mem x).mpr m1)
    subst e
    exact ⟨q, hq, (y, h), ⟨(w.tie q hq y h).mpr (.inl ht), m3⟩, rfl⟩
theorem tiesN_srt {n : Near} (w : SrtN n) : (tiesN n).Pairwise fun a b => lexK (tk a) (tk b) = true := by
  unfold tiesN
  rw [List.pairwise_flatMap]
  refine ⟨fun q hq => ?_, ?_⟩
  · rw [List.pairwise_map]
    have h := w.rows q hq
    unfold SrtS at h
    rw [List.pairwise_map] at h
    refine (h.imp fun {a b} hab => ?_).sublist List.filter_sublist
    show lexK (tk (q.1, a.1, a.2)) (tk (q.1, b.1, b.2)) = true
    rw [lex_tie, if_pos rfl, if_neg (fun e => by
      rw [e] at hab
      exact ltS_asy hab hab)]
    exact hab
  · have h := w.keys
    unfold SrtS at h
    rw [List.pairwise_map] at h
    refine h.imp fun {a b} hab => ?_
    intro x hx y hy
    obtain ⟨r, _, rfl⟩ := List.mem_map.mp hx
    obtain ⟨s, _, rfl⟩ := List.mem_map.mp hy
    show lexK (tk (a.1, r.1, r.2)) (tk (b.1, s.1, s.2)) = true
    rw [lex_tie, if_neg (fun e => by
      rw [e] at hab
      exact ltS_asy hab hab)]
    exact hab
theorem tie_inj {a b : Tie} (h : tk a = tk b) : a = b := by
  obtain ⟨x, y, i⟩ := a
  obtain ⟨x', y', i'⟩ := b
  unfold tk at h
  injection h with h1 h
  injection h with h2 h
  injection h with h3 _
  exact Prod.ext (Sum.inr.inj h1) (Prod.ext (Sum.inr.inj h2) (Sum.inl.inj h3))
theorem ts_nd {ns : List Str} {B : Int} {ts : List Tie} (T : TiesOk ns B ts) : ts.Nodup := by
  have h := T.nd
  unfold List.Nodup at h ⊢
  rw [List.pairwise_map] at h
  exact h.imp fun h e => h (by rw [e])
theorem ties_due {ns : List Str} {ts ys : List Tie} {n : Near} (w : WebOf ns ts n) (hok : RawOk ns ts) (pm : ys.Perm ts) (so : ys.Pairwise fun x y => lexK (tk y) (tk x) = false) : ys = tiesN n := by
  have nd : ys.Nodup := pm.nodup_iff.mpr (ts_nd hok.ties)
  unfold List.Nodup at nd
  refine srt_uniq (r := fun a b => lexK (tk a) (tk b) = true) (fun a h => by rw [lexK_irr] at h; cases h) (fun a b h h' => by
    rw [lexK_asym h] at h'
    cases h') ((so.and nd).imp fun {a b} ⟨h1, h2⟩ => ?_) (tiesN_srt w.srt) fun x => pm.mem_iff.trans (mem_tiesN w hok x).symm
  rcases lexK_le h1 with e | e
  · exact absurd (tie_inj e) h2
  · exact e
theorem names_due {ns ms : List Str} {ts : List Tie} {n : Near} (w : WebOf ns ts n) (hok : RawOk ns ts) (pm : ms.Perm ns) (so : sortedS ms = true) : ms = n.map (·.1) :=
  srtS_uniq (srt_of so (pm.nodup_iff.mpr hok.nd)) w.srt.keys fun x => pm.mem_iff.trans (w.mem x).symm
theorem web_len {ns : List Str} {ts : List Tie} {n : Near} (w : WebOf ns ts n) (hok : RawOk ns ts) : n.length = ns.length := by
  have h1 : (n.map (·.1)).Nodup := srtS_nd w.srt.keys
  have a := nodup_le h1 fun x hx => (w.mem x).mp hx
  have b := nodup_le hok.nd fun x hx => (w.mem x).mpr hx
  rw [List.length_map] at a b
  omega
theorem web_rows {ns : List Str} {ts : List Tie} {n : Near} (w : WebOf ns ts n) (hok : RawOk ns ts) : ∀ q ∈ n, q.2.length ≤ 200 := fun q hq => by
  have h1 : (q.2.map (·.1)).Nodup := srtS_nd (w.srt.rows q hq)
  have a := nodup_le (m := ns) h1 fun x hx => by
    obtain ⟨r, hr, rfl⟩ := List.mem_map.mp hx
    rcases (w.tie q hq r.1 r.2).mp hr with z | z
    · exact (hok.ties.mem _ z).2.1
    · exact (hok.ties.mem _ z).1
  have := hok.len
  rw [List.length_map] at a
  omega
theorem web_eq {ns : List Str} {ts : List Tie} {n m : Near} (w : WebOf ns ts n) (w' : WebOf ns ts m) : n = m := w.uniq w' (fun _ => Iff.rfl) fun _ _ _ => Iff.rfl
/-- a tie as a list or as a tuple -/
def dTieB (l : Bool) (t : Tie) : Dt := .seq l [.str t.1, .str t.2.1, .int t.2.2]
theorem dTieB_lax (l : Bool) (t : Tie) : (dTieB l t).lax = (dTie t).lax := rfl
theorem laxB : ∀ es : List (Bool × Tie), Dt.laxL (es.map fun e => dTieB e.1 e.2) = Dt.laxL ((es.map (·.2)).map dTie)
  | [] => rfl
  | e :: es => by
    show (dTieB e.1 e.2).lax :: Dt.laxL _ = (dTie e.2).lax :: Dt.laxL _
    rw [laxB es, dTieB_lax]
end Pw
set_option Elab.async false
set_option linter.all false
set_option maxRecDepth 100000
set_option maxHeartbeats 8000000
/-! A web tells what is due. -/
namespace Pw
open PySem PySem.Spec PyProof.Rows L2
def dHand (ns : List Str) (es : List (Bool × Tie)) : Dt := .seq true [dStrs ns, .seq true (es.map fun e => dTieB e.1 e.2)]
/-- what is handed to Web, as it grows -/
structure Hnd (a b : Addr) (Hn H : Hp) (hd q1 l2 : Addr) (ns2 : List Str) (es : List (Bool × Tie)) (us : List V) (f : List Addr) : Prop where
  kp : Kp a b Hn H
  ahd : H hd = some (.lst [.ref q1, .ref l2])
  aq : H q1 = some (.lst (ns2.map V.str))
  al : H l2 = some (.lst us)
  tr : TrL H (es.map fun e => dTieB e.1 e.2) us f
  nf : f.Nodup
  ff : ∀ c ∈ f, Hn c = none ∧ c ≠ hd ∧ c ≠ q1 ∧ c ≠ l2
  fh : Hn hd = none ∧ Hn q1 = none ∧ Hn l2 = none
  ne : hd ≠ q1 ∧ hd ≠ l2 ∧ q1 ≠ l2
section
variable {a b : Addr} {Hn H H' : Hp} {hd q1 l2 : Addr} {ns2 : List Str} {es : List (Bool × Tie)} {us : List V} {f : List Addr}
theorem TrL.kp {n : Nat} {d : List Dt} {v : List V} {fp : List Addr} (h : TrL H d v fp) (S : Strm a b n H) (k : Kp a b H H') (hf : ∀ c ∈ fp, c ≠ a ∧ c ≠ b) : TrL H' d v fp := by
  obtain ⟨cells, left, cnt, mix, ha, hb, _⟩ := S
  refine TrL.step (g := [a, b]) (fun c hc => ?_) (fun c o hc hn => k c o hc (fun e => hn (by rw [e]; simp)) fun e => hn (by rw [e]; simp)) _ _ _ h fun c hc hg => ?_
  · simp only [List.mem_cons, List.not_mem_nil, or_false] at hc
    rcases hc with rfl | rfl
    · exact ⟨_, ha⟩
    · exact ⟨_, hb⟩
  · simp only [List.mem_cons, List.not_mem_nil, or_false] at hg
    rcases hg with e | e
    · exact (hf c hc).1 e
    · exact (hf c hc).2 e
theorem Hnd.step {n k : Nat} (h : Hnd a b Hn H hd q1 l2 ns2 es us f) (S0 : Strm a b k Hn) (S : Strm a b n H) (k : Kp a b H H') : Hnd a b Hn H' hd q1 l2 ns2 es us f := by
  have off : ∀ c, Hn c = none → c ≠ a ∧ c ≠ b := fun c hc => S0.off hc
  exact ⟨h.kp.trans k, k _ _ h.ahd (off _ h.fh.1).1 (off _ h.fh.1).2, k _ _ h.aq (off _ h.fh.2.1).1 (off _ h.fh.2.1).2, k _ _ h.al (off _ h.fh.2.2).1 (off _ h.fh.2.2).2, h.tr.kp S k fun c hc => off c (h.ff c hc).1, h.nf, h.ff, h.fh, h.ne⟩
theorem Hnd.same (h : Hnd a b Hn H hd q1 l2 ns2 es us f) (k : Same H H') : Hnd a b Hn H' hd q1 l2 ns2 es us f :=
  ⟨h.kp.trans (.of k), k _ _ h.ahd, k _ _ h.aq, k _ _ h.al, h.tr.same k, h.nf, h.ff, h.fh, h.ne⟩
theorem tr_three (l : Bool) (s : Tie) {tt : Addr} (h : H tt = some (sqo l [.str s.1, .str s.2.1, .int s.2.2])) : Tr H (dTieB l s) (.ref tt) (if l then [tt] else []) :=
  ⟨tt, _, [], rfl, h, ⟨_, _, [], [], rfl, rfl, ⟨rfl, rfl⟩, _, _, [], [], rfl, rfl, ⟨rfl, rfl⟩, _, _, [], [], rfl, rfl, ⟨rfl, rfl⟩, rfl, rfl⟩, by cases l <;> rfl⟩
/-- a tie more -/
theorem Hnd.add {n : Nat} (h : Hnd a b Hn H hd q1 l2 ns2 es us f) (S : Strm a b n H) (l : Bool) (s : Tie) {tt : Addr} (nt : H tt = none) :
    Hnd a b Hn (upd (upd H tt (sqo l [.str s.1, .str s.2.1, .int s.2.2])) l2 (.lst (us ++ [.ref tt]))) hd q1 l2 ns2 (es ++ [(l, s)]) (us ++ [.ref tt]) (f ++ if l then [tt] else []) := by
  have st : Same H (upd H tt (sqo l [.str s.1, .str s.2.1, .int s.2.2])) := same_new nt
  have n1 : tt ≠ hd := (ne_of_none h.ahd nt).symm
  have n2 : tt ≠ q1 := (ne_of_none h.aq nt).symm
  have n3 : tt ≠ l2 := (ne_of_none h.al nt).symm
  have nft : tt ∉ f := fun hc => by
    obtain ⟨xs, z⟩ := TrL.lst _ _ _ h.tr tt hc
    rw [nt] at z
    cases z
  have mt : ∀ c, c ∈ (if l then [tt] else []) → c = tt := fun c hc => by
    cases l with
    | true => exact List.mem_singleton.mp hc
    | false => cases hc
  have al' : upd H tt (sqo l [.str s.1, .str s.2.1, .int s.2.2]) l2 = some (.lst us) := upd_at h.al n3.symm
  have g2 : ∀ c ∈ [l2], ∃ xs, upd H tt (sqo l [.str s.1, .str s.2.1, .int s.2.2]) c = some (.lst xs) := fun c hc => by
    rw [List.mem_singleton.mp hc]
    exact ⟨_, al'⟩
  have k2 : ∀ c o, upd H tt (sqo l [.str s.1, .str s.2.1, .int s.2.2]) c = some o → c ∉ [l2] → upd (upd H tt (sqo l [.str s.1, .str s.2.1, .int s.2.2])) l2 (.lst (us ++ [.ref tt])) c = some o := fun c o hc hn => upd_at hc fun e => hn (by rw [e]; exact List.mem_singleton.mpr rfl)
  refine ⟨kp_mut (h.kp.trans (kp_new nt)) h.fh.2.2, upd_at (upd_at h.ahd n1.symm) h.ne.2.1, upd_at (upd_at h.aq n2.symm) h.ne.2.2, upd_same, ?_, ?_, fun c hc => ?_, h.fh, h.ne⟩
  · rw [List.map_append]
    refine TrL.app (TrL.step g2 k2 _ _ _ (h.tr.same st) fun c hc hg => ?_) (TrL.one (Tr.step g2 k2 _ _ _ (tr_three l s upd_same) fun c hc hg => ?_))
    · exact (h.ff c hc).2.2.2 (List.mem_singleton.mp hg)
    · rw [mt c hc] at hg
      exact n3 (List.mem_singleton.mp hg)
  · refine List.nodup_append.mpr ⟨h.nf, by cases l <;> simp, fun c hc d hd e => ?_⟩
    rw [mt d hd] at e
    rw [e] at hc
    exact nft hc
  · rcases List.mem_append.mp hc with hc | hc
    · exact h.ff c hc
    · rw [mt c hc]
      refine ⟨?_, n1, n2, n3⟩
      exact h.kp.back S nt
def fpH (hd q1 l2 : Addr) (f : List Addr) : List Addr := hd :: ([q1] ++ ((l2 :: f) ++ []))
theorem Hnd.whole {K : PySem.W.Frag} (h : Hnd a b Hn H hd q1 l2 ns2 es us f) : Tr H (dHand ns2 es) (.ref hd) (fpH hd q1 l2 f) ∧ (fpH hd q1 l2 f).Nodup ∧ ∀ c ∈ fpH hd q1 l2 f, Hn c = none := by
  have r1 : Rep K (fun _ => True) H (dStrs ns2) (.ref q1) := rep_strs.mpr ⟨q1, rfl, trivial, h.aq⟩
  have t1 : Tr H (dStrs ns2) (.ref q1) [q1] := by
    obtain ⟨p', e, _, h⟩ := rep_trl (ds := ns2.map .str) r1 (noL_strs _)
    cases e
    exact h
  refine ⟨⟨hd, _, _, rfl, h.ahd, ⟨_, _, [q1], _, rfl, rfl, t1, _, _, l2 :: f, [], rfl, rfl, ⟨l2, us, f, rfl, h.al, h.tr, rfl⟩, rfl, rfl⟩, rfl⟩, ?_, fun c hc => ?_⟩
  · unfold fpH
    simp only [List.cons_append, List.nil_append, List.append_nil, List.nodup_cons, List.mem_cons, not_or]
    exact ⟨⟨h.ne.1, h.ne.2.1, fun z => (h.ff _ z).2.1 rfl⟩, ⟨h.ne.2.2, fun z => (h.ff _ z).2.2.1 rfl⟩, fun z => (h.ff _ z).2.2.2 rfl, h.nf⟩
  · unfold fpH at hc
    simp only [List.cons_append, List.nil_append, List.append_nil, List.mem_cons] at hc
    rcases hc with rfl | rfl | rfl | hc
    · exact h.fh.1
    · exact h.fh.2.1
    · exact h.fh.2.2
    · exact (h.ff c hc).1
end
theorem Rep.off {K : PySem.W.Frag} {N : Addr → Prop} {H H' : Hp} {fp : List Addr} {d : Dt} {v : V} (h : Rep K N H d v) (k : ∀ c o, H c = some o → c ∉ fp → H' c = some o) (hn : ∀ c, N c → c ∉ fp) : Rep K N H' d v :=
  Rep.step (fun _ h => h) (fun c o hN hc => k c o hc (hn c hN)) d v h
theorem smpL_all {n : Nat} : ∀ {ds : List Dt}, (∀ d ∈ ds, Dt.smp n d = true) → Dt.smpL n ds = true
  | [], _ => by cases n <;> rfl
  | d :: ds, h => by
    show (Dt.smp n d && Dt.smpL n ds) = true
    rw [h d List.mem_cons_self, smpL_all fun e he => h e (List.mem_cons_of_mem _ he)]
    rfl
theorem told_dep {n : Near} (h1 : n.length ≤ 1000) (h2 : ∀ q ∈ n, q.2.length ≤ 1000) (h3 : (tiesN n).length ≤ 1000) : (dTold n).dep 5 = true := by
  have e1 : (dStrs (n.map (·.1))).dep 4 = true := dep_mono (dep_strs true (by rw [List.length_map]; omega)) (by decide)
  have e2 : (dTies (tiesN n)).dep 4 = true := dep_mono (dep_ties true (by omega)) (by decide)
  have e3 : (Dt.seq true (n.map fun q => dRowP q.2)).dep 4 = true := by
    show (decide ((n.map fun q => dRowP q.2).length ≤ 100000) && Dt.depL 3 (n.map fun q => dRowP q.2)) = true
    rw [List.length_map, decide_eq_true (show n.length ≤ 100000 by omega), depL_all fun d hd => ?_]
    · rfl
    · obtain ⟨q, hq, rfl⟩ := List.mem_map.mp hd
      have := h2 q hq
      show (decide ((q.2.map dPair).length ≤ 100000) && Dt.depL 2 (q.2.map dPair)) = true
      rw [List.length_map, decide_eq_true (show q.2.length ≤ 100000 by omega), depL_all fun d hd => ?_]
      · rfl
      · obtain ⟨r, _, rfl⟩ := List.mem_map.mp hd
        rfl
  show (decide (3 ≤ 100000) && (Dt.dep 4 (dStrs (n.map (·.1))) && (Dt.dep 4 (dTies (tiesN n)) && (Dt.dep 4 (Dt.seq true (n.map fun q => dRowP q.2)) && true)))) = true
  rw [e1, e2, e3]
  rfl
theorem told_smp {n : Near} (h1 : n.length ≤ 1000) (h2 : ∀ q ∈ n, q.2.length ≤ 1000) (h3 : (tiesN n).length ≤ 1000) : (dTold n).smp 5 = true := by
  have e1 : (dStrs (n.map (·.1))).smp 4 = true := by
    show (decide (((n.map (·.1)).map Dt.str).length ≤ 100000) && Dt.smpL 3 ((n.map (·.1)).map Dt.str)) = true
    rw [List.length_map, List.length_map, decide_eq_true (show n.length ≤ 100000 by omega), smpL_all fun d hd => ?_]
    · rfl
    · obtain ⟨r, _, rfl⟩ := List.mem_map.mp hd
      rfl
  have e2 : (dTies (tiesN n)).smp 4 = true := by
    show (decide (((tiesN n).map dTie).length ≤ 100000) && Dt.smpL 3 ((tiesN n).map dTie)) = true
    rw [List.length_map, decide_eq_true (show (tiesN n).length ≤ 100000 by omega), smpL_all fun d hd => ?_]
    · rfl
    · obtain ⟨r, _, rfl⟩ := List.mem_map.mp hd
      rfl
  have e3 : (Dt.seq true (n.map fun q => dRowP q.2)).smp 4 = true := by
    show (decide ((n.map fun q => dRowP q.2).length ≤ 100000) && Dt.smpL 3 (n.map fun q => dRowP q.2)) = true
    rw [List.length_map, decide_eq_true (show n.length ≤ 100000 by omega), smpL_all fun d hd => ?_]
    · rfl
    · obtain ⟨q, hq, rfl⟩ := List.mem_map.mp hd
      have := h2 q hq
      show (decide ((q.2.map dPair).length ≤ 100000) && Dt.smpL 2 (q.2.map dPair)) = true
      rw [List.length_map, decide_eq_true (show q.2.length ≤ 100000 by omega), smpL_all fun d hd => ?_]
      · rfl
      · obtain ⟨r, _, rfl⟩ := List.mem_map.mp hd
        rfl
  show (decide (3 ≤ 100000) && (Dt.smp 4 (dStrs (n.map (·.1))) && (Dt.smp 4 (dTies (tiesN n)) && (Dt.smp 4 (Dt.seq true (n.map fun q => dRowP q.2)) && true)))) = true
  rw [e1, e2, e3]
  rfl
theorem hand_ok {ns ns2 : List Str} {ts ts2 : List Tie} {es : List (Bool × Tie)} (hok : RawOk ns ts) (p1 : ns2.Perm ns) (p2 : ts2.Perm ts) (fl : Paired Fl ts2 (es.map (·.2))) : (dHand ns2 es).dep 10 = true ∧ (dHand ns2 es).dep 5 = true ∧ (dHand ns2 es).okS = true ∧ (dHand ns2 es).wt ≤ 700000 := by
  have l1 : ns2.length ≤ 200 := by rw [p1.length_eq]; exact hok.len
  have l2 : es.length ≤ 1000 := by
    have := paired_len fl
    rw [List.length_map] at this
    rw [← this, p2.length_eq]
    exact hok.tl
  have gd : ∀ x ∈ ns, (Dt.str x).okS = true := fun x hx => by
    obtain ⟨h1, h2⟩ := nm_ok (hok.gd x hx).1
    show (PyData.strOk x && decide (x.length ≤ 100)) = true
    rw [h1, decide_eq_true (show x.length ≤ 100 by omega)]
    rfl
  have d5 : (dHand ns2 es).dep 5 = true := by
    have e1 : (dStrs ns2).dep 4 = true := dep_mono (dep_strs true (by omega)) (by decide)
    have e2 : (Dt.seq true (es.map fun e => dTieB e.1 e.2)).dep 4 = true := by
      show (decide ((es.map fun e => dTieB e.1 e.2).length ≤ 100000) && Dt.depL 3 (es.map fun e => dTieB e.1 e.2)) = true
      rw [List.length_map, decide_eq_true (show es.length ≤ 100000 by omega), depL_all fun d hd => ?_]
      · rfl
      · obtain ⟨r, _, rfl⟩ := List.mem_map.mp hd
        rfl
    show (decide (2 ≤ 100000) && (Dt.dep 4 (dStrs ns2) && (Dt.dep 4 (Dt.seq true (es.map fun e => dTieB e.1 e.2)) && true))) = true
    rw [e1, e2]
    rfl
  refine ⟨dep_mono d5 (by decide), d5, ?_, ?_⟩
  · have e1 : Dt.okSL (ns2.map Dt.str) = true := okSL_all fun d hd => by
      obtain ⟨x, hx, rfl⟩ := List.mem_map.mp hd
      exact gd x (p1.mem_iff.mp hx)
    have e2 : Dt.okSL (es.map fun e => dTieB e.1 e.2) = true := okSL_all fun d hd => by
      obtain ⟨e, he, rfl⟩ := List.mem_map.mp hd
      obtain ⟨t, ht, f⟩ := fl_in fl e.2 (List.mem_map.mpr ⟨e, he, rfl⟩)
      obtain ⟨m1, m2, _, b1, b2⟩ := hok.ties.mem t (p2.mem_iff.mp ht)
      have hb : ∀ i : Int, -big ≤ i → i ≤ big → (Dt.int i).okS = true := fun i h1 h2 => decide_eq_true (by unfold big at h1 h2; omega)
      have key : ∀ s : Tie, s.1 ∈ ns → s.2.1 ∈ ns → -big ≤ s.2.2 → s.2.2 ≤ big → (dTieB e.1 s).okS = true := fun s h1 h2 h3 h4 => by
        show (Dt.okS (.str s.1) && (Dt.okS (.str s.2.1) && (Dt.okS (.int s.2.2) && true))) = true
        rw [gd _ h1, gd _ h2, hb _ h3 h4]
        rfl
      rcases f with f | f
      · rw [f]
        exact key t m1 m2 b1 b2
      · rw [f]
        exact key _ m2 m1 b1 b2
    show (Dt.okSL (ns2.map Dt.str) && (Dt.okSL (es.map fun e => dTieB e.1 e.2) && true)) = true
    rw [e1, e2]
    rfl
  · have e1 : Dt.wtL (ns2.map Dt.str) ≤ (100 + 1) * (ns2.map Dt.str).length := wtL_le fun d hd => by
      obtain ⟨x, _, rfl⟩ := List.mem_map.mp hd
      exact Nat.le_refl _
    have e2 : Dt.wtL (es.map fun e => dTieB e.1 e.2) ≤ (303 + 1) * (es.map fun e => dTieB e.1 e.2).length := wtL_le fun d hd => by
      obtain ⟨x, _, rfl⟩ := List.mem_map.mp hd
      exact Nat.le_refl _
    rw [List.length_map] at e1 e2
    show Dt.wtL (ns2.map Dt.str) + 1 + (Dt.wtL (es.map fun e => dTieB e.1 e.2) + 1 + 0) ≤ 700000
    omega
theorem same_told {K : PySem.W.Frag} {σ : L2.St} {H : Hp} {Q : VK} {u vd : V} {n : Near} {N M : Addr → Prop} (hu : σ[8]? = some (some u)) (hd : σ[9]? = some (some vd)) (ru : Rep K N H (.web n) u) (rd : Rep K M H (dTold n) vd) (l1 : n.length ≤ 1000) (l2 : ∀ q ∈ n, q.2.length ≤ 1000) (l3 : (tiesN n).length ≤ 1000)
    (q : ∀ H', Same H H' → Q (.bl true) H') : tCall (spSame K 5) [] E0 (tCons (tCall (spTold K) [] E0 (tCons (tVar 8) tNil)) (tCons (tVar 9) tNil)) σ H Q :=
  ⟨u, hu, u, n, N, rfl, ru, l1, l2, fun H1 v fp s1 rv _ _ _ => ⟨vd, hd, v, vd, dTold n, Fr H, M, rfl, rv, rd.same s1, told_smp l1 l2 l3, fun H2 s2 => q H2 (same_trans s1 s2)⟩⟩
section
variable {P : Program} {w : World} {K : PySem.W.Frag} {mg : Str → Option Value} {base : Heap}
def spTR (K : PySem.W.Frag) : Sp := fun vs H Q _ => ∃ (a b : Addr) (v : V) (N : Addr → Prop) (ns : List Str) (ts : List Tie) (m : Nat), vs = [.ref a, v] ∧ Rep K N H (dRaw ns ts) v ∧ (∀ c, N c → c ≠ a ∧ c ≠ b) ∧ RawOk ns ts ∧ Strm a b (m + (5 * ts.length + 2 * ns.length + 10)) H ∧
  ∀ H', Kp a b H H' → Strm a b m H' → Q (.bl true) H'
theorem sc_law_told_right : FnScope ["_law_stream", "_law_raw", "_law_near", "_law_handed", "_law_one", "_law_other", "_law_height", "_law_was", "_law_made", "_law_due", "_law_twin"] ["_law_stream", "_law_raw"] (defScope s_law_told_right) := ⟨rfl, rfl, rfl, by decide +kernel, rfl, by decide +kernel, by decide +kernel⟩
theorem ok_TR (T : Tx K mg) : OkG P w K mg base 8 "_law_told_right" ["_law_stream", "_law_raw"] (spTR K) := by
  have G_draw : Ok P w K mg base CX0 1 _ _ _ := ok_draw T
  have G_mixed : Ok P w K mg base CX0 2 _ _ _ := ok_mixed T
  have G_a_near : Ok P w K mg base CX0 1 _ _ _ := ok_near T
  have G_init : OkM P w K mg base (L2.CX P w) 4 "Web" "__init__" _ _ := ok_init T
  have G_eq : OkM P w K mg base CX0 1 "Web" "__eq__" _ _ := ok_eq T
  have G_same : Ok P w K mg base CX0 7 _ _ _ := ok_same T 5
  have G_told : Ok P w K mg base CX0 4 _ _ _ := ok_told T
  have G_a_spoiled : Ok P w K mg base CX0 7 _ _ _ := ok_spoil T 5
  have G_a_made : Ok P w K mg base CX0 7 _ _ _ := ok_made T
  refine mkG (d := d_law_told_right) T 42 40 rfl rfl rfl rfl rfl (fun _ _ _ _ _ _ us hl => match us, hl with | [_, _], _ => rfl) sc_law_told_right (fun vs H Q E h => ?_) (fun f c A outer s H vs Q E ec gd hr h => ?_)
  · obtain ⟨a, b, v, N, ns, ts, m, rfl, _⟩ := h
    rfl
  · obtain ⟨a, b, v, N, ns, ts, m, rfl, hrep, hN, hok, hS, q⟩ := h
    have nd := sc_law_told_right.nd
    have hu := hu_of hr
    refine ⟨_, (pss_cons (ps_asg (pe_tup (pa_cons (pe_ok G_a_near (hr.mono (by omega)) pass0 (pa_cons (pv 1) pa_nil)) (pa_cons (pe_lst (pa_cons (pe_ok G_mixed (hr.mono (by omega)) pass0 (pa_cons (pv 0) (pa_cons (pe_ix (k_ixT (K := K)) (pv 1) pe_int (fun _ _ => rfl)) pa_nil))) (pa_cons (pe_lst pa_nil) pa_nil))) pa_nil))) (k_tup (K := K) (n := 2) rfl (pgs_cons (pg_name (i := 2) nd rfl (Or.inr rfl)) (pgs_cons (pg_name (i := 3) nd rfl (Or.inl rfl)) pgs_nil))))
      (pss_cons (ps_for PassesOwn.never rfl (k_pl (K := K) (pe_ok G_mixed (hr.mono (by omega)) pass0 (pa_cons (pv 0) (pa_cons (pe_ix (k_ixT (K := K)) (pv 1) pe_int (fun _ _ => rfl)) pa_nil)))) (k_tup (K := K) (n := 3) rfl (pgs_cons (pg_name (i := 4) nd rfl (Or.inl rfl)) (pgs_cons (pg_name (i := 5) nd rfl (Or.inl rfl)) (pgs_cons (pg_name (i := 6) nd rfl (Or.inl rfl)) pgs_nil))))
      (pss_one (ps_expr (k_bm (K := K) PySem.F.plainAttrs_list PySem.F.slot_list_append PySem.F.type_list_append mt_append (pe_ix (k_ixL (K := K)) (pv 3) pe_int (fun _ _ => rfl)) (pa_cons (pe_ifExp (pt_cmpR op_eq (pe_ok G_draw (hr.mono (by omega)) pass0 (pa_cons (pv 0) (pa_cons pe_int pa_nil))) pe_int (nomark _)) (pe_lst (pa_cons (pv 4) (pa_cons (pv 5) (pa_cons (pv 6) pa_nil)))) (pe_tup (pa_cons (pv 5) (pa_cons (pv 4) (pa_cons (pv 6) pa_nil))))) pa_nil)))))
      (pss_cons (ps_par (i := 7) (j := 8) (by rfl) nd rfl rfl (by decide) rfl rfl (pa_cons (pe_callB (k_repr (K := K) gd hr.units) (by rfl) T.repr (by decide +kernel) (pa_cons (pv 3) pa_nil)) (pa_cons (pe_webK (K := K) T G_init (hr.mono (by omega)) passL (pk_cons (pe_ix (k_ixL (K := K)) (pv 3) pe_int (fun _ _ => rfl)) (pk_cons (pe_ix (k_ixL (K := K)) (pv 3) pe_int (fun _ _ => rfl)) pk_nil))) pa_nil)) (by rfl))
      (pss_cons (ps_set (i := 9) nd rfl (Or.inl rfl) (pe_lst (pa_cons (pe_callB (k_sortedL (K := K)) (by rfl) T.sorted (by decide +kernel) (pa_cons (pe_ix (k_ixT (K := K)) (pv 1) pe_int (fun _ _ => rfl)) pa_nil)) (pa_cons (pe_callB (k_sortedK (K := K)) (by rfl) T.sorted (by decide +kernel) (pa_cons (pe_ix (k_ixT (K := K)) (pv 1) pe_int (fun _ _ => rfl)) pa_nil)) (pa_cons (pe_lock (pe_lc (own := [("_law_one", 4)]) (by rfl) nd (pi_keys (pv 2)) (blkOk_by (own := [("_law_one", 4)]) (N := ["_law_stream", "_law_raw", "_law_near", "_law_handed", "_law_one", "_law_other", "_law_height", "_law_was", "_law_made", "_law_due", "_law_twin"]) (sc := (defScope s_law_told_right)) (by decide +kernel)) (fun _ _ _ _ _ => (pg_name (i := 4) nd rfl (by first | exact Or.inl rfl | exact Or.inr rfl))) (fun _ _ _ _ _ => pts_nil) (fun _ _ _ _ _ => (pe_dget hu (pv 2) (pv 4) (fun _ _ => rfl))))) pa_nil)))))
      (pss_cons (ps_if (PW.pt (pw_or (pt_not (pt_val (pe_ok G_same (hr.mono (by omega)) pass0 (pa_cons (pe_ok G_told (hr.mono (by omega)) pass0 (pa_cons (pv 8) pa_nil)) (pa_cons (pv 9) pa_nil))))) (pw_or1 (pt_cmpR op_ne (pe_callB (k_repr (K := K) gd hr.units) (by rfl) T.repr (by decide +kernel) (pa_cons (pv 3) pa_nil)) (pv 7) (nomark _))))) (pss_one (ps_ret pe_bl)) pss_nil)
      (pss_cons (ps_expr (pe_ok G_a_spoiled (hr.mono (by omega)) pass0 (pa_cons (pv 3) pa_nil)))
      (pss_cons (ps_expr (pe_ok G_a_spoiled (hr.mono (by omega)) pass0 (pa_cons (pe_ok G_told (hr.mono (by omega)) pass0 (pa_cons (pv 8) pa_nil)) pa_nil)))
      (pss_cons (ps_set (i := 10) nd rfl (Or.inl rfl) (pe_ok G_a_made (hr.mono (by omega)) pass0 (pa_cons (pv 0) (pa_cons (pv 1) pa_nil))))
      (pss_cons (ps_if (PW.pt (pw_or (pt_not (pt_val (pe_ok G_same (hr.mono (by omega)) pass0 (pa_cons (pe_ok G_told (hr.mono (by omega)) pass0 (pa_cons (pv 8) pa_nil)) (pa_cons (pv 9) pa_nil))))) (pw_or (pt_not (pt_cmpR (op_weq (K := K) T G_eq (hr.mono (by omega))) (pv 8) (pv 10) (nomark _))) (pw_or1 (pt_cmpR (op_wne (K := K) T G_eq (hr.mono (by omega))) (pv 8) (pv 10) (nomark _)))))) (pss_one (ps_ret pe_bl)) pss_nil)
      (pss_one (ps_ret (pe_and (pe_not (pe_cmpR (op_weq (K := K) T G_eq (hr.mono (by omega))) (pv 8) (pv 1) (nomark _))) (pe_and (pe_cmpR (op_wne (K := K) T G_eq (hr.mono (by omega))) (pv 8) (pv 9) (nomark _)) (pe_and (pe_not (pe_cmpR (op_weq (K := K) T G_eq (hr.mono (by omega))) (pv 8) pe_int (nomark _))) (pe_one (pe_cmpR (op_wne (K := K) T G_eq (hr.mono (by omega))) (pv 8) (pe_tup (pa_cons (pe_ix (k_ixT (K := K)) (pv 1) pe_int (fun _ _ => rfl)) (pa_cons (pe_ix (k_ixT (K := K)) (pv 1) pe_int (fun _ _ => rfl)) pa_nil))) (nomark _))))))))))))))))), ?_⟩
    obtain ⟨p, va, vb, rfl, hNp, hp, hra, hrb⟩ := rep_raw.mp hrep
    obtain ⟨pa, rfl, hNa, hpa⟩ := rep_strs.mp hra
    obtain ⟨pb, vs, rfl, hNb, hpb, hrb⟩ := rep_ties.mp hrb
    have lts : vs.length = ts.length := by rw [hrb.len, List.length_map]
    refine viaS (t1 := tAsg _ _) (fun σ H4 => ∃ (pn hd q1 l2 : Addr) (n : Near) (z : List (Str × V)) (ns2 : List Str) (Hn : Hp), σ = [some (.ref a), some (.ref p), some (.ref pn), some (.ref hd), none, none, none, none, none, none, none] ∧ Same H Hn ∧ H pn = none ∧ z.map (·.1) = n.map (·.1) ∧
        Hn pn = some (.dK (dkv z)) ∧ RepL K (Fr H) Hn (n.map fun q => dRowP q.2) (z.map (·.2)) ∧ WebOf ns ts n ∧ ns2.Perm ns ∧ Hnd a b Hn H4 hd q1 l2 ns2 [] [] [] ∧ Strm a b (m + (5 * ts.length + ns.length + 10)) H4) (fun nx hn => ?_) ?_
    · refine ⟨_, rfl, .ref p, N, ns, ts, rfl, hrep, hok, fun Hn pn n z hw s1 npn hzn hpn hrz => ?_⟩
      refine ⟨_, rfl, _, rfl, p, _, 0, _, rfl, rfl, SqT.of (s1 _ _ hp), rfl, a, b, pa, m + (5 * ts.length + ns.length + 10), ns.map V.str, rfl, (hS.same s1).le (by rw [List.length_map]; omega), s1 _ _ hpa, (hN pa hNa).1, (hN pa hNa).2, by rw [List.length_map]; have := hok.len; omega, fun H2 q1 ys py nq1 hq1 kp2 S2 => ?_⟩
      obtain ⟨ns2, pn2, rfl⟩ := perm_map_inv py
      refine ⟨by show 0 ≤ sizeLine; decide, fun l2 nl2 => ⟨by show 2 ≤ sizeLine; decide, fun hd nhd => ⟨by show 2 ≤ sizeLine; decide, fun t nt => ⟨t, _, rfl, SqT.of upd_same, rfl, ?_⟩⟩⟩⟩
      have nhd2 := same_back (same_new (o := .lst []) nl2) nhd
      have hl2d : l2 ≠ hd := ne_of_none (upd_same (a := l2)) nhd
      have hql : q1 ≠ l2 := ne_of_none hq1 nl2
      have hqd : q1 ≠ hd := ne_of_none hq1 nhd2
      have sT := same_new (o := .tup [V.ref pn, V.ref hd]) nt
      refine ⟨_, _, rfl, _, _, rfl, rfl, hn _ _ ⟨pn, hd, q1, l2, n, z, ns2, Hn, rfl, s1, npn, hzn, hpn, hrz, hw, pn2, Hnd.same ⟨(kp2.trans (kp_new nl2)).trans (kp_new nhd), upd_same, upd_at (upd_at hq1 hql) hqd, upd_at upd_same hl2d, TrL.nil, List.nodup_nil, fun c h => (nomatch h), ⟨?_, nq1, ?_⟩, ⟨hqd.symm, hl2d.symm, hql⟩⟩ sT, ((S2.new nl2).new nhd).same sT⟩⟩
      · exact kp2.back S2 nhd2
      · exact kp2.back S2 nl2
    rintro σ H4 ⟨pn, hd, q1, l2, n, z, ns2, Hn, rfl, s1, npn, hzn, hpn, hrz, hw, pn2, hH, S4⟩
    have S0 := hS.same s1
    have off : ∀ c, Hn c = none → c ≠ a ∧ c ≠ b := fun c hc => S0.off hc
    have kpn : Kp a b H Hn := .of s1
    refine viaS (t1 := tFor _ _ _) (fun σ H5 => ∃ (v4 v5 v6 : Option V) (us : List V) (es : List (Bool × Tie)) (f : List Addr) (ts2 : List Tie), σ = [some (.ref a), some (.ref p), some (.ref pn), some (.ref hd), v4, v5, v6, none, none, none, none] ∧ Hnd a b Hn H5 hd q1 l2 ns2 es us f ∧
        Strm a b (m + (3 * ts.length + ns.length + 10)) H5 ∧ ts2.Perm ts ∧ Paired Fl ts2 (es.map (·.2))) (fun nx hn => ?_) ?_
    · have kp4 := kpn.trans hH.kp
      refine ⟨_, rfl, _, rfl, p, _, 1, _, rfl, rfl, SqT.of (kp4 _ _ hp (hN p hNp).1 (hN p hNp).2), rfl, a, b, pb, m + (4 * ts.length + ns.length + 10), vs, rfl, S4.le (by omega), kp4 _ _ hpb (hN pb hNb).1 (hN pb hNb).2, (hN pb hNb).1, (hN pb hNb).2, by have := hok.tl; omega, fun H5 q2 ys py nq hq2 kp5 S5 => ?_⟩
      obtain ⟨es0, pes, res⟩ := perm_rep hrb py
      obtain ⟨ts2, pm, rfl⟩ := perm_map_inv pes
      have lys : ys.length = ts.length := by rw [py.length_eq, lts]
      have ofq : q2 ≠ a ∧ q2 ≠ b := S4.off nq
      have hH5 := hH.step S0 S4 kp5
      have nql : q2 ≠ l2 := (ne_of_none hH.al nq).symm
      refine ⟨q2, rfl, ⟨_, SqL.of hq2⟩, for_it (walk_list (xs := ys)) (fun i σ H6 => ∃ (v4 v5 v6 : Option V) (us : List V) (es : List (Bool × Tie)) (f : List Addr), σ = [some (.ref a), some (.ref p), some (.ref pn), some (.ref hd), v4, v5, v6, none, none, none, none] ∧ Hnd a b Hn H6 hd q1 l2 ns2 es us f ∧
          Strm a b (m + (4 * ts.length - i + ns.length + 10)) H6 ∧ H6 q2 = some (.lst ys) ∧ us.length = i ∧ Paired Fl (ts2.take i) (es.map (·.2)))
        ⟨none, none, none, [], [], [], rfl, hH5, S5.le (by omega), hq2, rfl, .nil⟩ (fun i σ H6 _ ⟨_, _, _, _, _, _, _, _, _, h, _⟩ => SqL.of h) ?_ ?_⟩
      · rintro i x σ _ H6 hi ⟨v4, v5, v6, us, es, f, rfl, hH6, S6, hq6, lu, fl⟩ ⟨rfl, hx⟩
        obtain ⟨dt, hdt, hrt⟩ := res.get hx
        obtain ⟨t, ht, rfl⟩ := map_get hdt
        obtain ⟨pt, rfl, hNt, hpt⟩ := rep_tie.mp hrt
        have hpt6 := (kpn.trans hH6.kp) _ _ hpt (hN pt hNt).1 (hN pt hNt).2
        refine ⟨pt, _, rfl, SqT.of hpt6, rfl, _, _, rfl, _, _, rfl, _, _, rfl, rfl, ?_⟩
        refine ⟨_, rfl, hd, _, 1, .ref l2, rfl, rfl, SqL.of hH6.ahd, rfl, .inl ⟨rfl, us, SqL.of hH6.al⟩, _, rfl, a, b, m + (4 * ts.length - (i + 1) + ns.length + 10), 2, rfl, S6.le (by omega), by decide, by decide, fun H7 dd kp7 S7 d0 d1 => ?_⟩
        have hH7 := hH6.step S0 S6 kp7
        have hq7 := kp7 _ _ hq6 ofq.1 ofq.2
        have lus : us.length < sizeLine := Nat.lt_of_le_of_lt (show us.length ≤ 1000 by have := hok.tl; omega) (by decide)
        have fl' : ∀ (s : Tie), Fl t s → ∀ (l : Bool), Paired Fl (ts2.take (i + 1)) ((es ++ [(l, s)]).map (·.2)) := fun s hs l => by
          rw [take_snoc ht, List.map_append]
          exact paired_app fl (.cons hs .nil)
        refine ⟨rfl, _, rfl, ?_⟩
        refine ite2 (fun e => ?_) (fun e => ?_)
        · refine ⟨_, rfl, _, rfl, _, rfl, by show 3 ≤ sizeLine; decide, fun tt ntt => ?_⟩
          have h8 := hH7.add S7 true t ntt
          refine ⟨l2, us, .ref tt, rfl, rfl, upd_at hH7.al (ne_of_none hH7.al ntt), lus, _, _, _, _, _, _, rfl, h8, ?_, ?_, ?_, fl' t (.inl rfl) true⟩
          · exact (S7.new ntt).at_ (upd_ne (off _ hH.fh.2.2).1.symm) (upd_ne (off _ hH.fh.2.2).2.symm)
          · exact upd_at (upd_at hq7 (ne_of_none hq7 ntt)) nql
          · rw [List.length_append, lu]
            rfl
        · refine ⟨_, rfl, _, rfl, _, rfl, by show 3 ≤ sizeLine; decide, fun tt ntt => ?_⟩
          have h8 := hH7.add S7 false (t.2.1, t.1, t.2.2) ntt
          refine ⟨l2, us, .ref tt, rfl, rfl, upd_at hH7.al (ne_of_none hH7.al ntt), lus, _, _, _, _, _, _, rfl, h8, ?_, ?_, ?_, fl' _ (.inr rfl) false⟩
          · exact (S7.new ntt).at_ (upd_ne (off _ hH.fh.2.2).1.symm) (upd_ne (off _ hH.fh.2.2).2.symm)
          · exact upd_at (upd_at hq7 (ne_of_none hq7 ntt)) nql
          · rw [List.length_append, lu]
            rfl
      · rintro σ H6 ⟨v4, v5, v6, us, es, f, rfl, hH6, S6, hq6, lu, fl⟩
        rw [lys] at S6 fl
        have e2 : ts2.length = ts.length := pm.length_eq
        rw [← e2, List.take_length] at fl
        exact hn _ _ ⟨v4, v5, v6, us, es, f, ts2, rfl, hH6, S6.le (by omega), pm, fl⟩
    rintro σ H5 ⟨v4, v5, v6, us, es, f, ts2, rfl, hH5, S5, pm, fl⟩
    obtain ⟨d10, d5, dok, dwt⟩ := hand_ok hok pn2 pm fl
    obtain ⟨trh, nfh, ffh⟩ := hH5.whole (K := K)
    have rh : Rep K (fun _ => True) H5 (dHand ns2 es) (.ref hd) := Tr.rep _ _ _ trh
    have gd2 : ∀ x ∈ ns2, isNm x = true := fun x hx => (hok.gd x (pn2.mem_iff.mp hx)).1
    have ack : AccOk ns2 (es.map (·.2)) := acc_fl (raw_acc hok) pm fl pn2
    have les : es.length = ts.length := by
      have := paired_len fl
      rw [List.length_map] at this
      rw [← this, pm.length_eq]
    have rN : Rep K (fun _ => True) H5 (dStrs ns2) (.ref q1) := rep_strs.mpr ⟨q1, rfl, trivial, hH5.aq⟩
    have rL : Rep K (fun _ => True) H5 (.seq true (es.map fun e => dTieB e.1 e.2)) (.ref l2) := ⟨l2, us, rfl, trivial, hH5.al, TrL.rep _ _ _ hH5.tr⟩
    have laxE : (Dt.seq true (es.map fun e => dTieB e.1 e.2)).lax = (dTies (es.map (·.2))).lax := by
      show Dt.seq true (Dt.laxL _) = Dt.seq true (Dt.laxL _)
      rw [laxB]
    refine viaS (t1 := tPar _ _ _) (fun σ H6 => ∃ u, σ = [some (.ref a), some (.ref p), some (.ref pn), some (.ref hd), v4, v5, v6, some (.str (dHand ns2 es).py.shown), some u, none, none] ∧ Same H5 H6 ∧ Rep K (Fr H5) H6 (.web n) u) (fun nx hn => ?_) ?_
    · refine ⟨_, rfl, .ref hd, dHand ns2 es, _, true, _, rfl, rfl, rh, d10, dok, dwt, ?_⟩
      refine ⟨_, rfl, hd, _, 1, .ref l2, rfl, rfl, SqL.of hH5.ahd, rfl, _, rfl, hd, _, 0, .ref q1, rfl, rfl, SqL.of hH5.ahd, rfl, .ref q1, .ref l2, rfl, dStrs ns2, _, fun _ => True, rN, rL, strs_few true (by rw [pn2.length_eq]; have := hok.len; omega) gd2, few_of_lax laxE (ties_few true (by rw [List.length_map, les]; have := hok.tl; omega)), ?_⟩
      rw [chkW_lax rfl laxE, show chkW (dStrs ns2) (dTies (es.map (·.2))) = .ok ns2 (es.map (·.2)) from chkW_ok true true (pn2.nodup_iff.mpr hok.nd) gd2 ack]
      intro _ n' u H6 hw' s6 hu
      obtain rfl : n' = n := web_eq (hw'.conv (fun x => pn2.mem_iff) (fl_mem pm fl)) hw
      exact ⟨_, _, rfl, hn _ _ ⟨u, rfl, s6, hu⟩⟩
    rintro σ H6 ⟨u, rfl, s6, hu⟩
    have kp5 := kpn.trans hH5.kp
    have kp6 := kp5.trans (.of s6)
    have S6 := S5.same s6
    have nl : n.length ≤ 1000 := by rw [web_len hw hok]; have := hok.len; omega
    have nr : ∀ q ∈ n, q.2.length ≤ 1000 := fun q hq => Nat.le_trans (web_rows hw hok q hq) (by decide)
    have hpn6 : H6 pn = some (.dK (dkv z)) := s6 _ _ (hH5.kp _ _ hpn (hS.off npn).1 (hS.off npn).2)
    have hzk : (z.map (·.1)).Nodup := by rw [hzn]; exact srtS_nd hw.srt.keys
    have hraw6 := (hrep.kp kp6 hN)
    have hp6 := kp6 _ _ hp (hN p hNp).1 (hN p hNp).2
    have hpa6 := kp6 _ _ hpa (hN pa hNa).1 (hN pa hNa).2
    have hpb6 := kp6 _ _ hpb (hN pb hNb).1 (hN pb hNb).2
    have rts6 : RepL K (fun c => Hn c ≠ none ∧ c ≠ a ∧ c ≠ b) H6 (ts.map dTie) vs := (RepL.known _ _ hrb |>.kp kp6 fun c hc => hN c hc.1).wk fun c hc => ⟨fun e => hc.2 (same_back s1 e), hN c hc.1⟩
    have hrz6 : RepL K (fun c => Hn c ≠ none ∧ c ≠ a ∧ c ≠ b) H6 (n.map fun q => dRowP q.2) (z.map (·.2)) :=
      RepL.step (fun c hc => ⟨hc.2, hS.off hc.1⟩) (fun c o hc ho => s6 _ _ (hH5.kp _ _ ho (hS.off hc.1).1 (hS.off hc.1).2)) _ _ (RepL.known _ _ hrz)
    refine viaS (t1 := tAsg _ _) (fun σ H9 => ∃ (v4' : Option V) (vd : V), σ = [some (.ref a), some (.ref p), some (.ref pn), some (.ref hd), v4', v5, v6, some (.str (dHand ns2 es).py.shown), some u, some vd, none] ∧ Same H6 H9 ∧ (tiesN n).length ≤ 1000 ∧ Rep K (fun c => H5 c = none ∨ (Hn c ≠ none ∧ c ≠ a ∧ c ≠ b)) H9 (dTold n) vd) (fun nx hn => ?_) ?_
    · refine ⟨_, rfl, p, _, 0, _, rfl, rfl, SqT.of hp6, rfl, pa, ns, rfl, SqL.of hpa6, fun ms d1 pmn so nd1 => ?_⟩
      have sd1 : Same H6 (upd H6 d1 (.lst (ms.map V.str))) := same_new nd1
      have ed1 : upd H6 d1 (.lst (ms.map V.str)) d1 = _ := upd_same
      generalize upd H6 d1 (.lst (ms.map V.str)) = H7 at sd1 ed1 ⊢
      refine ⟨_, rfl, p, _, 1, _, rfl, rfl, SqT.of (sd1 _ _ hp6), rfl, ?_⟩
      dsimp only [tNil]
      refine sort_rep tk [true, false] (fun _ _ => rfl) (sd1 _ _ hpb6) (rts6.same sd1) fun ys ws d2 pmt pw rws nd2 => ?_
      have sd2 : Same H7 (upd H7 d2 (.lst ws)) := same_new nd2
      have ed2 : upd H7 d2 (.lst ws) d2 = _ := upd_same
      generalize upd H7 d2 (.lst ws) = H8 at sd2 ed2 ⊢
      have s68 := same_trans sd1 sd2
      have hpn8 := s68 _ _ hpn6
      refine ⟨pn, _, hpn8, trivial, fun od => ⟨_, rfl, pn, od, rfl, .inl ⟨_, upd_same, fun D nD => ?_⟩⟩⟩
      have hDr : D ≠ pn := fun e => by
        rw [e, upd_same] at nD
        cases nD
      have nD8 : H8 D = none := by rwa [upd_ne hDr] at nD
      have lz : (dkv z).length = z.length := by unfold dkv; rw [List.length_map]
      have zl : z.length = n.length := by
        have := congrArg List.length hzn
        rwa [List.length_map, List.length_map] at this
      refine lc_it walk_keys (fun j H' => (∀ c o, H8 c = some o → c ≠ pn → H' c = some o) ∧ H' pn = some (.frz od (.dK (dkv z))) ∧ H' D = some (.lst ((z.take j).map (·.2))))
        ⟨fun c o h hc => upd_at (upd_at h hc) (ne_of_none h nD8), upd_at upd_same hDr.symm, upd_same⟩ (fun j H' _ ⟨_, h, _⟩ => h) ?_ ?_
      · rintro j y _ H' hj ⟨kp', hf, hD⟩ ⟨rfl, kk, vv, hkv, rfl⟩
        obtain ⟨⟨⟨x, vx⟩, hxv⟩⟩ : Nonempty { q : Str × V // z[j]? = some q } := ⟨⟨_, List.getElem?_eq_getElem (show j < z.length by omega)⟩⟩
        have hkv' : (dkv z)[j]? = some (Sum.inr x, vx) := by
          unfold dkv
          rw [List.getElem?_map, hxv]
          rfl
        rw [hkv'] at hkv
        cases hkv
        refine ⟨rfl, yesT ?_⟩
        refine ⟨_, rfl, _, rfl, pn, vv, rfl, .inl ⟨dkv z, Sum.inr x, .inr ⟨od, hf⟩, rfl, ?_⟩, _, hD, ?_, fun c o hc hcr => upd_at (kp' c o hc hcr) (ne_of_none hc nD8), upd_at hf hDr.symm, ?_⟩
        · rw [valV_dkv]
          exact (lookup_mem_nd hzk (List.mem_of_getElem? hxv)).symm
        · rw [List.length_map, List.length_take]
          exact Nat.lt_of_le_of_lt (show min j z.length ≤ 1000 by omega) (by decide)
        · rw [take_snoc hxv, List.map_append]
          exact upd_same
      · rintro H' ⟨kp', hf, hD⟩
        rw [lz, List.take_length] at hD
        have s8 : Same H8 (upd H' pn (.dK (dkv z))) := fun c o hc => by
          by_cases e : c = pn
          · subst e
            rw [hpn8] at hc
            rw [← hc]
            exact upd_same
          · exact upd_at (kp' c o hc e) e
        have hD8 : upd H' pn (.dK (dkv z)) D = some (.lst (z.map (·.2))) := upd_at hD hDr
        refine ⟨hf, ?_⟩
        generalize upd H' pn (.dK (dkv z)) = H10 at s8 hD8 ⊢
        refine ⟨by show 3 ≤ sizeLine; decide, fun t nt => ?_⟩
        have st : Same H10 (upd H10 t (.lst [.ref d1, .ref d2, .ref D])) := same_new nt
        have et : upd H10 t (.lst [.ref d1, .ref d2, .ref D]) t = _ := upd_same
        generalize upd H10 t (.lst [.ref d1, .ref d2, .ref D]) = H11 at st et ⊢
        have s811 := same_trans s8 st
        have s611 := same_trans s68 s811
        have bk : ∀ c, H6 c = none → H5 c = none := fun c hc => same_back s6 hc
        have em := names_due hw hok pmn so
        have ey := ties_due hw hok pmt pw
        have lty : (tiesN n).length ≤ 1000 := by rw [← ey, pmt.length_eq]; exact hok.tl
        subst em ey
        refine hn _ _ ⟨_, .ref t, rfl, s611, lty, t, _, rfl, .inl (bk t (same_back (same_trans s68 s8) nt)), et, _, _, rfl, rep_strs.mpr ⟨d1, rfl, .inl (bk _ nd1), s811 _ _ (sd2 _ _ ed1)⟩, _, _, rfl, ?_, _, _, rfl, ?_, rfl⟩
        · exact ⟨d2, ws, rfl, .inl (bk _ (same_back sd1 nd2)), s811 _ _ ed2, (rws.same (same_trans sd2 s811)).wk fun c hc => .inr hc⟩
        · exact ⟨D, _, rfl, .inl (bk _ (same_back s68 nD8)), st _ _ hD8, (hrz6.same s611).wk fun c hc => .inr hc⟩
    rintro σ H9 ⟨v4', vd, rfl, s9, lt, rd⟩
    have s59 := same_trans s6 s9
    have hu9 := hu.same s9
    have kp9 := kp6.trans (.of s9)
    have S9 := S6.same s9
    refine viaS (t1 := tIfS _ _ _) (fun σ H10 => σ = [some (.ref a), some (.ref p), some (.ref pn), some (.ref hd), v4', v5, v6, some (.str (dHand ns2 es).py.shown), some u, some vd, none] ∧ Same H9 H10) (fun nx hn => ?_) ?_
    · refine same_told rfl rfl hu9 rd nl nr lt fun H10 s10 => ⟨_, rfl, iteF ?_⟩
      refine ⟨_, rfl, .ref hd, dHand ns2 es, _, true, _, rfl, rfl, rh.same (same_trans s59 s10), d10, dok, dwt, _, rfl, rfl, _, rfl, ?_⟩
      rw [decide_eq_true (rfl : V.str (dHand ns2 es).py.shown = V.str (dHand ns2 es).py.shown)]
      exact iteF (next_i (hn _ _ ⟨rfl, s10⟩))
    rintro σ H10 ⟨rfl, s10⟩
    have s510 := same_trans s59 s10
    -- what was handed is spoiled
    have f5 : ∀ c ∈ fpH hd q1 l2 f, H5 c ≠ none := fun c hc e => by
      obtain ⟨xs, z⟩ := Tr.lst _ _ _ trh c hc
      rw [e] at z
      cases z
    have nfp : ∀ c, (H5 c = none ∨ (Hn c ≠ none ∧ c ≠ a ∧ c ≠ b)) → c ∉ fpH hd q1 l2 f := fun c hc hin => by
      rcases hc with e | e
      · exact f5 c hin e
      · exact e.1 (ffh c hin)
    have nab : ∀ c, (H5 c = none ∨ (Hn c ≠ none ∧ c ≠ a ∧ c ≠ b)) → c ≠ a ∧ c ≠ b := fun c hc => by
      rcases hc with e | e
      · exact S5.off e
      · exact e.2
    refine viaS (t1 := tDrop _) (fun σ H11 => σ = [some (.ref a), some (.ref p), some (.ref pn), some (.ref hd), v4', v5, v6, some (.str (dHand ns2 es).py.shown), some u, some vd, none] ∧ Kp a b H H11 ∧ Strm a b (m + (3 * ts.length + ns.length + 10)) H11 ∧ Rep K (Fr H5) H11 (.web n) u ∧
        Rep K (fun c => H5 c = none ∨ (Hn c ≠ none ∧ c ≠ a ∧ c ≠ b)) H11 (dTold n) vd) (fun nx hn => ?_) ?_
    · refine ⟨_, rfl, .ref hd, dHand ns2 es, fpH hd q1 l2 f, rfl, trh.same s510, nfh, d5, fun H11 kp11 _ => ?_⟩
      have nfab : a ∉ fpH hd q1 l2 f ∧ b ∉ fpH hd q1 l2 f := ⟨fun h => (off _ (ffh a h)).1 rfl, fun h => (off _ (ffh b h)).2 rfl⟩
      refine hn _ _ ⟨rfl, fun c o hc ha hb => kp11 c o (s10 _ _ (kp9 c o hc ha hb)) fun h => ?_, ?_, (hu9.same s10).off kp11 fun c hc => nfp c (.inl hc), (rd.same s10).off kp11 nfp⟩
      · have := ffh c h
        rw [s1 _ _ hc] at this
        cases this
      · obtain ⟨cells, left, cnt, mix, z1, z2, z3⟩ := S9.same s10
        exact ⟨cells, left, cnt, mix, kp11 _ _ z1 nfab.1, kp11 _ _ z2 nfab.2, z3⟩
    rintro σ H11 ⟨rfl, kp11, S11, hu11, rd11⟩
    refine viaS (t1 := tDrop _) (fun σ H12 => σ = [some (.ref a), some (.ref p), some (.ref pn), some (.ref hd), v4', v5, v6, some (.str (dHand ns2 es).py.shown), some u, some vd, none] ∧ Kp a b H H12 ∧ Strm a b (m + (3 * ts.length + ns.length + 10)) H12 ∧ Rep K (Fr H5) H12 (.web n) u ∧
        Rep K (fun c => H5 c = none ∨ (Hn c ≠ none ∧ c ≠ a ∧ c ≠ b)) H12 (dTold n) vd) (fun nx hn => ?_) ?_
    · refine ⟨_, rfl, u, n, Fr H5, rfl, hu11, nl, nr, fun H12 v12 fp s12 rv12 tr12 nf12 ff12 => ?_⟩
      refine ⟨v12, dTold n, fp, rfl, tr12, nf12, told_dep nl nr lt, fun H13 kp13 _ => ?_⟩
      have kk : ∀ c o, H11 c = some o → H13 c = some o := fun c o hc => kp13 c o (s12 _ _ hc) fun h => by
        have := ff12 c h
        rw [hc] at this
        cases this
      exact hn _ _ ⟨rfl, kp11.trans (.of kk), S11.same kk, hu11.same kk, rd11.same kk⟩
    rintro σ H12 ⟨rfl, kp12, S12, hu12, rd12⟩
    refine viaS (t1 := tAsg _ _) (fun σ H13 => ∃ tw, σ = [some (.ref a), some (.ref p), some (.ref pn), some (.ref hd), v4', v5, v6, some (.str (dHand ns2 es).py.shown), some u, some vd, some tw] ∧ Kp a b H12 H13 ∧ Strm a b m H13 ∧ Rep K (Fr H12) H13 (.web n) tw) (fun nx hn => ?_) ?_
    · refine ⟨_, rfl, _, rfl, a, b, .ref p, N, ns, ts, m, rfl, hrep.kp kp12 hN, hN, hok, S12.le (by omega), fun n' tw H13 hw' kp13 S13 rtw => ?_⟩
      obtain rfl : n' = n := web_eq hw' hw
      exact hn _ _ ⟨tw, rfl, kp13, S13, rtw⟩
    rintro σ H13 ⟨tw, rfl, kp13, S13, rtw⟩
    have hu13 : Rep K (Fr H5) H13 (.web n) u := hu12.kp kp13 fun c hc => nab c (.inl hc)
    have rd13 := rd12.kp kp13 nab
    have kpE := kp12.trans kp13
    have hraw13 := hrep.kp kpE hN
    have nre := nearEq_refl hw.srt.ok
    refine viaS (t1 := tIfS _ _ _) (fun σ H14 => σ = [some (.ref a), some (.ref p), some (.ref pn), some (.ref hd), v4', v5, v6, some (.str (dHand ns2 es).py.shown), some u, some vd, some tw] ∧ Same H13 H14) (fun nx hn => ?_) ?_
    · refine same_told rfl rfl hu13 rd13 nl nr lt fun H14 s14 => ⟨_, rfl, iteF ?_⟩
      refine ⟨_, rfl, _, rfl, n, .web n, _, _, hu13.same s14, rtw.same s14, ?_⟩
      dsimp only
      rw [nre]
      refine ⟨_, rfl, iteF ?_⟩
      refine ⟨_, rfl, _, rfl, n, .web n, _, _, hu13.same s14, rtw.same s14, ?_⟩
      dsimp only
      rw [nre]
      exact ⟨_, rfl, iteF (next_i (hn _ _ ⟨rfl, s14⟩))⟩
    rintro σ H14 ⟨rfl, s14⟩
    have hu14 := hu13.same s14
    have hraw14 := hraw13.same s14
    refine ⟨_, rfl, _, rfl, n, dRaw ns ts, _, _, hu14, hraw14, _, rfl, _, rfl, iteT ?_⟩
    refine ⟨_, rfl, _, rfl, n, dTold n, _, _, hu14, rd13.same s14, _, rfl, iteT ?_⟩
    refine ⟨_, rfl, n, .int 5, _, Fr H, hu14, rfl, _, rfl, _, rfl, iteT ?_⟩
    obtain ⟨p', va', vb', ep, _, hp14, ra14, rb14⟩ := rep_raw.mp hraw14
    cases ep
    refine ⟨_, rfl, _, rfl, p, _, 0, _, rfl, rfl, SqT.of hp14, rfl, _, rfl, p, _, 1, _, rfl, rfl, SqT.of hp14, rfl, by show 2 ≤ sizeLine; decide, fun t nt => ?_⟩
    refine ⟨n, .seq false [dStrs ns, dTies ts], Fr H5, fun _ => True, hu14.same (same_new nt), ⟨t, _, rfl, trivial, upd_same, _, _, rfl, (ra14.same (same_new nt)).wk fun _ _ => trivial, _, _, rfl, (rb14.same (same_new nt)).wk fun _ _ => trivial, rfl⟩, ?_⟩
    exact q _ ((kpE.trans (.of s14)).trans (kp_new nt)) ((S13.same s14).new nt)
end
end Pw
set_option Elab.async false
set_option linter.all false
set_option maxRecDepth 100000
set_option maxHeartbeats 8000000
/-! Webs that differ, in plain words. -/
namespace Pw
open PySem PySem.Spec PyProof.Rows L2
theorem ne_name {ns ns' : List Str} {ts ts' : List Tie} {n m : Near} (w : WebOf ns ts n) (w' : WebOf ns' ts' m) {x : Str} (h : x ∈ ns') (h' : x ∉ ns) : nearEq n m = false := by
  rw [nearEq_eq w.srt w'.srt]
  refine decide_eq_false fun e => h' ?_
  subst e
  exact (w.mem x).mp ((w'.mem x).mpr h)
theorem ne_tie {ns ns' : List Str} {ts ts' : List Tie} {n m : Near} (w : WebOf ns ts n) (w' : WebOf ns' ts' m) {x y : Str} {h : Int} (hx : x ∈ ns) (h1 : (x, y, h) ∈ ts ∨ (y, x, h) ∈ ts) (h2 : ¬ ((x, y, h) ∈ ts' ∨ (y, x, h) ∈ ts')) : nearEq n m = false := by
  rw [nearEq_eq w.srt w'.srt]
  refine decide_eq_false fun e => h2 ?_
  subst e
  obtain ⟨q, hq, rfl⟩ := List.mem_map.mp ((w.mem x).mpr hx)
  exact (w'.tie q hq y h).mp ((w.tie q hq y h).mpr h1)
theorem ne_tie' {ns ns' : List Str} {ts ts' : List Tie} {n m : Near} (w : WebOf ns ts n) (w' : WebOf ns' ts' m) {x y : Str} {h : Int} (hx : x ∈ ns') (h1 : (x, y, h) ∈ ts' ∨ (y, x, h) ∈ ts') (h2 : ¬ ((x, y, h) ∈ ts ∨ (y, x, h) ∈ ts)) : nearEq n m = false := by
  have := ne_tie w' w hx h1 h2
  rw [nearEq_eq w'.srt w.srt] at this
  rw [nearEq_eq w.srt w'.srt]
  exact decide_eq_false fun e => (of_decide_eq_false this) e.symm
theorem late9_nm : isNm "late9" = true := by decide +kernel
theorem late9_nd {ns : List Str} {ts : List Tie} (hok : RawOk ns ts) : (ns ++ [("late9" : Str)]).Nodup := nodup_snoc hok.nd fun h => (hok.gd _ h).2.1 rfl
theorem late9_gd {ns : List Str} {ts : List Tie} (hok : RawOk ns ts) : ∀ x ∈ ns ++ [("late9" : Str)], isNm x = true := fun x hx => by
  rcases List.mem_append.mp hx with h | h
  · exact (hok.gd x h).1
  · rw [List.mem_singleton.mp h]
    exact late9_nm
theorem acc_names {ns ns' : List Str} {ts : List Tie} (A : AccOk ns ts) (h : ∀ x ∈ ns, x ∈ ns') : AccOk ns' ts := ⟨fun t ht => ⟨h _ (A.mem t ht).1, h _ (A.mem t ht).2.1, (A.mem t ht).2.2⟩, A.nd⟩
theorem acc_sub {ns : List Str} {ts ss : List Tie} (A : AccOk ns ts) (h : ss.Sublist ts) : AccOk ns ss := ⟨fun t ht => A.mem t (h.subset ht), A.nd.sublist (h.map pn)⟩
/-- the ties but those of a pair -/
def restT (x y : Str) (ts : List Tie) : List Tie := ts.filter fun t => !decide (t.1 = x ∧ t.2.1 = y)
theorem restT_mem {x y : Str} {ts : List Tie} {t : Tie} : t ∈ restT x y ts ↔ t ∈ ts ∧ ¬ (t.1 = x ∧ t.2.1 = y) := by
  unfold restT
  rw [List.mem_filter, Bool.not_eq_true', decide_eq_false_iff_not]
theorem raw_pn {ns : List Str} {ts : List Tie} (hok : RawOk ns ts) {t : Tie} (ht : t ∈ ts) : pn t = pa2 t := pr_of_lt (hok.ties.mem t ht).2.2.1
theorem rest_new {ns : List Str} {ts : List Tie} (hok : RawOk ns ts) {x y : Str} {h : Int} (ht : (x, y, h) ∈ ts) (i : Int) : AccOk ns (restT x y ts ++ [(y, x, i)]) := by
  obtain ⟨m1, m2, m3, _⟩ := hok.ties.mem _ ht
  refine (acc_sub (raw_acc hok) List.filter_sublist).snoc ⟨m2, m1, fun e => ?_, fun hin => ?_⟩
  · dsimp only at e m3
    rw [e] at m3
    exact ltS_asy m3 m3
  · obtain ⟨t, h1, h2⟩ := List.mem_map.mp hin
    obtain ⟨h3, h4⟩ := restT_mem.mp h1
    rw [raw_pn hok h3, show pn (y, x, i) = pr y x from rfl, pr_comm, pr_of_lt m3] at h2
    exact h4 ⟨congrArg Prod.fst h2, congrArg Prod.snd h2⟩
theorem same_pair {ns : List Str} {ts : List Tie} (hok : RawOk ns ts) {x y : Str} {h i : Int} (h1 : (x, y, h) ∈ ts) (h2 : (x, y, i) ∈ ts) : h = i := by
  obtain ⟨j, hj, e1⟩ := List.getElem_of_mem h1
  obtain ⟨k, hk, e2⟩ := List.getElem_of_mem h2
  have : j = k := nd_get hok.ties.nd (x := (x, y)) (by rw [List.getElem?_map, List.getElem?_eq_getElem hj, e1]; rfl) (by rw [List.getElem?_map, List.getElem?_eq_getElem hk, e2]; rfl)
  subst this
  rw [e1] at e2
  cases e2
  rfl
theorem no_rev {ns : List Str} {ts : List Tie} (hok : RawOk ns ts) {x y : Str} (hl : ltS x y = true) {h : Int} : (y, x, h) ∉ ts := fun hm => ltS_asy hl (hok.ties.mem _ hm).2.2.1
theorem open_new {ns : List Str} {ts : List Tie} (hok : RawOk ns ts) {x y : Str} (hx : x ∈ ns) (hy : y ∈ ns) (hl : ltS x y = true) (hn : ∀ h, (x, y, h) ∉ ts) (i : Int) : AccOk ns (ts ++ [(x, y, i)]) := by
  refine (raw_acc hok).snoc ⟨hx, hy, fun e => ?_, fun hin => ?_⟩
  · dsimp only at e
    rw [e] at hl
    exact ltS_asy hl hl
  · obtain ⟨⟨x', y', h'⟩, h1, h2⟩ := List.mem_map.mp hin
    rw [raw_pn hok h1, show pn (x, y, i) = pr x y from rfl, pr_of_lt hl] at h2
    have e1 : x' = x := congrArg Prod.fst h2
    have e2 : y' = y := congrArg Prod.snd h2
    subst e1 e2
    exact hn _ h1
theorem ne_late {ns : List Str} {ts : List Tie} {n m : Near} (hok : RawOk ns ts) (w : WebOf ns ts n) (w' : WebOf (ns ++ [("late9" : Str)]) ts m) : nearEq n m = false :=
  ne_name w w' (x := "late9") (by simp) fun h => (hok.gd _ h).2.1 rfl
theorem ne_rest {ns : List Str} {ts : List Tie} {n m : Near} (hok : RawOk ns ts) (w : WebOf ns ts n) {x y : Str} {h : Int} (ht : (x, y, h) ∈ ts) (w' : WebOf ns (restT x y ts) m) : nearEq n m = false := by
  obtain ⟨m1, m2, m3, _⟩ := hok.ties.mem _ ht
  refine ne_tie w w' m1 (.inl ht) ?_
  rintro (z | z)
  · exact (restT_mem.mp z).2 ⟨rfl, rfl⟩
  · exact no_rev hok m3 (restT_mem.mp z).1
theorem ne_other {ns : List Str} {ts : List Tie} {n m : Near} (hok : RawOk ns ts) (w : WebOf ns ts n) {x y : Str} {h : Int} (ht : (x, y, h) ∈ ts) (w' : WebOf ns (restT x y ts ++ [(y, x, h + 1)]) m) : nearEq n m = false := by
  obtain ⟨m1, m2, m3, _⟩ := hok.ties.mem _ ht
  refine ne_tie' w w' m1 (y := y) (h := h + 1) (.inr (by simp)) ?_
  rintro (z | z)
  · have := same_pair hok ht z
    omega
  · exact no_rev hok m3 z
theorem ne_open {ns : List Str} {ts : List Tie} {n m : Near} (hok : RawOk ns ts) (w : WebOf ns ts n) {x y : Str} (hx : x ∈ ns) (hl : ltS x y = true) (hn : ∀ h, (x, y, h) ∉ ts) (w' : WebOf ns (ts ++ [(x, y, 0)]) m) : nearEq n m = false := by
  refine ne_tie' w w' hx (y := y) (h := 0) (.inl (by simp)) ?_
  rintro (z | z)
  · exact hn _ z
  · exact no_rev hok hl z
end Pw
set_option Elab.async false
set_option linter.all false
set_option maxRecDepth 100000
set_option maxHeartbeats 8000000
/-! Webs otherwise are unlike. -/
namespace Pw
open PySem PySem.Spec PyProof.Rows L2
theorem kno {H : Hp} {p : Addr} {o : HO} (h : H p = some o) : H p ≠ none := by
  rw [h]
  exact Option.some_ne_none _
/-- not among some -/
abbrev Ex (l : List Addr) : Addr → Prop := fun c => c ∉ l
section
variable {K : PySem.W.Frag} {H H' : Hp} {l : List Addr} {d : Dt} {v : V} {ds : List Dt} {vs : List V} {p a b : Addr} {o : HO}
theorem Rep.ex_new (h : Rep K (Ex l) H d v) (hp : H p = none) : Rep K (Ex (p :: l)) H d v := (Rep.apart hp d v h).wk fun c hc hin => by
  rcases List.mem_cons.mp hin with e | e
  · exact hc.2 e
  · exact hc.1 e
theorem RepL.ex_new (h : RepL K (Ex l) H ds vs) (hp : H p = none) : RepL K (Ex (p :: l)) H ds vs := (RepL.apart hp ds vs h).wk fun c hc hin => by
  rcases List.mem_cons.mp hin with e | e
  · exact hc.2 e
  · exact hc.1 e
theorem Rep.ex_mut (h : Rep K (Ex l) H d v) (hp : p ∈ l) : Rep K (Ex l) (upd H p o) d v := h.mut fun hc => hc hp
theorem RepL.ex_mut (h : RepL K (Ex l) H ds vs) (hp : p ∈ l) : RepL K (Ex l) (upd H p o) ds vs := h.mut fun hc => hc hp
theorem ex_fr (h : ∀ p ∈ l, H p ≠ none) : ∀ c, Fr H c → Ex l c := fun c hc hin => h c hin hc
theorem Rep.ex_kp (h : Rep K (Ex l) H d v) (k : Kp a b H H') (ha : a ∈ l) (hb : b ∈ l) : Rep K (Ex l) H' d v := h.kp k fun c hc => ⟨fun e => hc (by rw [e]; exact ha), fun e => hc (by rw [e]; exact hb)⟩
theorem RepL.ex_kp (h : RepL K (Ex l) H ds vs) (k : Kp a b H H') (ha : a ∈ l) (hb : b ∈ l) : RepL K (Ex l) H' ds vs := h.kp k fun c hc => ⟨fun e => hc (by rw [e]; exact ha), fun e => hc (by rw [e]; exact hb)⟩
/-- Web of good names and ties -/
theorem webgo_ok {E : XK} {Q : VK} {v1 v2 : V} {N : Addr → Prop} {ns : List Str} {ts : List Tie} {l1 l2 : Bool} (r1 : Rep K N H (.seq l1 (ns.map Dt.str)) v1) (r2 : Rep K N H (.seq l2 (ts.map dTie)) v2) (nd : ns.Nodup) (gd : ∀ x ∈ ns, isNm x = true) (A : AccOk ns ts) (h1 : ns.length ≤ 100000) (h2 : ts.length ≤ 100000)
    (k : ∀ (n : Near) (v : V) (H' : Hp), WebOf ns ts n → Same H H' → Rep K (Fr H) H' (.web n) v → Q v H') : WebGo K E Q H v1 v2 := by
  refine ⟨_, _, N, r1, r2, strs_few l1 h1 gd, ties_few l2 h2, ?_⟩
  rw [chkW_ok l1 l2 nd gd A]
  exact fun _ => k
def dP (x y : Str) : Dt := .seq false [.str x, .str y]
theorem eqv_pair (x y u w : Str) : PyData.eqv (dP x y).py (dP u w).py = decide ((x, y) = (u, w)) := by
  show PyData.eqv (.tuple [.str x, .str y]) (.tuple [.str u, .str w]) = _
  rw [Bool.eq_iff_iff]
  simp [PyData.eqv, PyData.eqvAll]
theorem dP_pl {x y : Str} (hx : isNm x = true) (hy : isNm y = true) : (dP x y).pl 3 = true := by
  show Dt.plL 2 [.str x, .str y] = true
  simp [Dt.plL, Dt.pl, (nm_ok hx).1, (nm_ok hy).1]
theorem dPs_pl : ∀ {ps : List (Str × Str)}, (∀ q ∈ ps, isNm q.1 = true ∧ isNm q.2 = true) → Dt.plL 3 (ps.map fun q => dP q.1 q.2) = true
  | [], _ => by simp [Dt.plL]
  | q :: ps, h => by
    have h1 := h q List.mem_cons_self
    have h2 := dPs_pl fun r hr => h r (List.mem_cons_of_mem _ hr)
    simp only [List.map_cons, Dt.plL, dP_pl h1.1 h1.2, h2, Bool.and_self]
theorem any_pair (x y : Str) : ∀ ps : List (Str × Str), (Dt.pyL (ps.map fun q => dP q.1 q.2)).any (fun z => PyData.eqv z (dP x y).py) = decide ((x, y) ∈ ps)
  | [] => rfl
  | q :: ps => by
    show (PyData.eqv (dP q.1 q.2).py (dP x y).py || (Dt.pyL (ps.map fun q => dP q.1 q.2)).any fun z => PyData.eqv z (dP x y).py) = _
    rw [any_pair x y ps, eqv_pair]
    by_cases e : (q.1, q.2) = (x, y)
    · rw [decide_eq_true e, Bool.true_or]
      exact (decide_eq_true (by rw [← e]; exact List.mem_cons_self)).symm
    · rw [decide_eq_false e, Bool.false_or]
      by_cases e2 : (x, y) ∈ ps
      · rw [decide_eq_true e2, decide_eq_true (List.mem_cons_of_mem _ e2)]
      · rw [decide_eq_false e2, decide_eq_false fun h => ?_]
        rcases List.mem_cons.mp h with h | h
        · exact e h.symm
        · exact e2 h
theorem neD_ok {N M : Addr → Prop} {x y u w : Str} {v1 v2 : V} {Q : VK} (r1 : Rep K N H (dP x y) v1) (r2 : Rep K M H (dP u w) v2) (hx : isNm x = true) (hy : isNm y = true) (hu : isNm u = true) (hw : isNm w = true) (q : Q (.bl (!decide ((x, y) = (u, w)))) H) : rNeD K v1 v2 H Q :=
  ⟨_, _, Rep.dp 3 _ _ r1 (dP_pl hx hy), Rep.dp 3 _ _ r2 (dP_pl hu hw), Dt.shp (dP_pl hx hy) (by decide), Dt.shp (dP_pl hu hw) (by decide), by rw [eqv_pair]; exact q⟩
theorem notIn_ok {N M : Addr → Prop} {x y : Str} {ps : List (Str × Str)} {v1 v2 : V} {Q : VK} (r1 : Rep K N H (dP x y) v1) (r2 : Rep K M H (.seq true (ps.map fun q => dP q.1 q.2)) v2) (hx : isNm x = true) (hy : isNm y = true) (hp : ∀ q ∈ ps, isNm q.1 = true ∧ isNm q.2 = true) (q : Q (.bl (!decide ((x, y) ∈ ps))) H) : rNotInD K v1 v2 H Q := by
  have pl4 : (Dt.seq true (ps.map fun q => dP q.1 q.2)).pl 4 = true := by
    show Dt.plL 3 _ = true
    exact dPs_pl hp
  refine ⟨_, Dt.pyL (ps.map fun (q : Str × Str) => dP q.1 q.2), Rep.dp 3 _ _ r1 (dP_pl hx hy), Rep.dp 4 _ _ r2 pl4, Dt.shp (dP_pl hx hy) (by decide), Dt.shp pl4 (by decide), ?_⟩
  rw [any_pair]
  exact q
theorem rep_dP {N : Addr → Prop} {x y : Str} {v : V} : Rep K N H (dP x y) v ↔ ∃ p, v = .ref p ∧ N p ∧ H p = some (.tup [.str x, .str y]) := by
  constructor
  · rintro ⟨p, vs, e, hp, ho, v1, w1, rfl, e1, v2, w2, rfl, e2, e3⟩
    obtain rfl : w2 = [] := e3
    obtain rfl : v1 = _ := e1
    obtain rfl : v2 = _ := e2
    exact ⟨p, e, hp, ho⟩
  · rintro ⟨p, e, hp, ho⟩
    exact ⟨p, _, e, hp, ho, _, _, rfl, rfl, _, _, rfl, rfl, rfl⟩
/-- t[:2], t a tie -/
theorem cut2 {x y : Str} {h : Int} {Q : VK} (ho : H p = some (.tup [.str x, .str y, .int h])) (q : ∀ t, H t = none → Q (.ref t) (upd H t (.tup [.str x, .str y]))) : rSlA K (.ref p) none (some 2) H Q := by
  refine ⟨p, _, rfl, SqT.of ho, fun z => ?_, fun _ t nt => ?_⟩
  · exact absurd z.2 (show ¬ HT.sIx 3 3 (some 2) = 3 by decide)
  · have := q t nt
    rw [show cutV [V.str x, .str y, .int h] none (some 2) = [V.str x, .str y] from cut_to (xs := [V.str x, .str y, .int h]) 2]
    exact this
end
section
variable {P : Program} {w : World} {K : PySem.W.Frag} {mg : Str → Option Value} {base : Heap}
def spUnl (K : PySem.W.Frag) : Sp := fun vs H Q _ => ∃ (a b : Addr) (v : V) (N : Addr → Prop) (ns : List Str) (ts : List Tie) (m : Nat), vs = [.ref a, v] ∧ Rep K N H (dRaw ns ts) v ∧ (∀ c, N c → c ≠ a ∧ c ≠ b) ∧ RawOk ns ts ∧ Strm a b (m + 2) H ∧
  ∀ H', Kp a b H H' → Strm a b m H' → Q (.bl true) H'
theorem sc_law_unlike_right : FnScope ["_law_stream", "_law_raw", "_law_places", "_law_ties", "_law_made", "_law_others", "_law_one", "_law_other", "_law_height", "_law_rest", "_law_tie", "_law_open_ones", "_law_near"] ["_law_stream", "_law_raw"] (defScope s_law_unlike_right) := ⟨rfl, rfl, rfl, by decide +kernel, rfl, by decide +kernel, by decide +kernel⟩
theorem ok_unl (T : Tx K mg) : Ok P w K mg base CX0 6 "_law_unlike_right" ["_law_stream", "_law_raw"] (spUnl K) := by
  have G_pick : Ok P w K mg base CX0 2 _ _ _ := ok_pick T
  have G_init : OkM P w K mg base (L2.CX P w) 4 "Web" "__init__" _ _ := ok_init T
  have G_eq : OkM P w K mg base CX0 1 "Web" "__eq__" _ _ := ok_eq T
  refine mkOk (d := d_law_unlike_right) T 43 41 rfl rfl rfl rfl rfl (fun _ _ _ _ _ _ us hl => match us, hl with | [_, _], _ => rfl) sc_law_unlike_right (fun vs H Q E h => ?_) (fun f cdv A outer s H vs Q E hr h => ?_)
  · obtain ⟨a, b, v, N, ns, ts, m, rfl, _⟩ := h
    rfl
  · obtain ⟨a, b, v, N, ns, ts, m, rfl, hrep, hN, hok, hS, q⟩ := h
    have nd := sc_law_unlike_right.nd
    have hu := hu_of hr
    have hu65 : (A.deeper (envOfC d_law_unlike_right.qual d_law_unlike_right.scope s.heap.objs.size f cdv)).units + 65 < cLine := by have := hr.un; omega
    refine ⟨_, (pss_cons (ps_asg (pv 1) (k_tup (K := K) (n := 2) rfl (pgs_cons (pg_name (i := 2) nd rfl (Or.inl rfl)) (pgs_cons (pg_name (i := 3) nd rfl (Or.inl rfl)) pgs_nil))))
      (pss_cons (ps_asg (pe_tup (pa_cons (pe_web T G_init (hr.mono (by omega)) passL (pa_cons (pv 2) (pa_cons (pv 3) pa_nil))) (pa_cons (pe_lst (pa_cons (pe_web T G_init (hr.mono (by omega)) passL (pa_cons (pe_op op_cat (pv 2) (pe_lst (pa_cons pe_str pa_nil))) (pa_cons (pv 3) pa_nil))) pa_nil)) pa_nil))) (k_tup (K := K) (n := 2) rfl (pgs_cons (pg_name (i := 4) nd rfl (Or.inr rfl)) (pgs_cons (pg_name (i := 5) nd rfl (Or.inl rfl)) pgs_nil))))
      (pss_cons (ps_if (pt_cmpR (k_neNil hr.units (K := K)) (pv 3) (pe_lst pa_nil) (nomark _)) (pss_cons (ps_asg (pe_ok G_pick (hr.mono (by omega)) pass0 (pa_cons (pv 0) (pa_cons (pv 3) pa_nil))) (k_tup (K := K) (n := 3) rfl (pgs_cons (pg_name (i := 6) nd rfl (Or.inr rfl)) (pgs_cons (pg_name (i := 7) nd rfl (Or.inr rfl)) (pgs_cons (pg_name (i := 8) nd rfl (Or.inl rfl)) pgs_nil)))))
      (pss_cons (ps_setLc (i := 9) (own := [("_law_tie", 10)]) (by rfl) nd rfl rfl (sw_true rfl rfl rfl (by decide +kernel)) (k_pl (K := K) (pv 3)) (blkOk_by (own := [("_law_tie", 10)]) (N := ["_law_stream", "_law_raw", "_law_places", "_law_ties", "_law_made", "_law_others", "_law_one", "_law_other", "_law_height", "_law_rest", "_law_tie", "_law_open_ones", "_law_near"]) (sc := (defScope s_law_unlike_right)) (by decide +kernel)) (fun _ _ _ _ _ => (pg_name (i := 10) nd rfl (by first | exact Or.inl rfl | exact Or.inr rfl))) (fun _ _ _ _ _ => (pts_one (pt_cmpR (k_neD hr.units (K := K)) (pe_slice (k_slT (K := K)) (pv 10) po_none (po_some pe_int)) (pe_tup (pa_cons (pv 6) (pa_cons (pv 7) pa_nil))) (nomark _)))) (fun _ _ _ _ _ => (pv 10)))
      (pss_one (ps_expr (k_bm (K := K) PySem.F.plainAttrs_list PySem.F.slot_list_extend PySem.F.type_list_extend mt_extend (pv 5) (pa_cons (pe_lst (pa_cons (pe_web T G_init (hr.mono (by omega)) passL (pa_cons (pv 2) (pa_cons (pv 9) pa_nil))) (pa_cons (pe_web T G_init (hr.mono (by omega)) passL (pa_cons (pv 2) (pa_cons (pe_op op_cat (pv 9) (pe_lst (pa_cons (pe_tup (pa_cons (pv 7) (pa_cons (pv 6) (pa_cons (pe_op op_add (pv 8) pe_int) pa_nil)))) pa_nil))) pa_nil))) pa_nil))) pa_nil)))))) pss_nil)
      (pss_cons (ps_set (i := 11) nd rfl (Or.inl rfl) (pe_lst pa_nil))
      (pss_cons (ps_for PassesOwn.never rfl (k_pl (K := K) (pe_callB (k_sortedL (K := K)) (by rfl) T.sorted (by decide +kernel) (pa_cons (pv 2) pa_nil))) (pg_name (i := 6) nd rfl (Or.inr rfl))
      (pss_cons (ps_set (i := 12) nd rfl (Or.inr rfl) (pe_lc (own := [("_law_tie", 10)]) (by rfl) nd (k_pl (K := K) (pv 3)) (blkOk_by (own := [("_law_tie", 10)]) (N := ["_law_stream", "_law_raw", "_law_places", "_law_ties", "_law_made", "_law_others", "_law_one", "_law_other", "_law_height", "_law_rest", "_law_tie", "_law_open_ones", "_law_near"]) (sc := (defScope s_law_unlike_right)) (by decide +kernel)) (fun _ _ _ _ _ => (pg_name (i := 10) nd rfl (by first | exact Or.inl rfl | exact Or.inr rfl))) (fun _ _ _ _ _ => (pts_one (pt_cmpR op_eq (pe_ix (k_ixT (K := K)) (pv 10) pe_int (fun _ _ => rfl)) (pv 6) (nomark _)))) (fun _ _ _ _ _ => (pe_slice (k_slT (K := K)) (pv 10) po_none (po_some pe_int)))))
      (pss_one (ps_expr (k_bm (K := K) PySem.F.plainAttrs_list PySem.F.slot_list_extend PySem.F.type_list_extend mt_extend (pv 11) (pa_cons (pe_lc (own := [("_law_other", 7)]) (by rfl) nd (k_pl (K := K) (pv 2)) (blkOk_by (own := [("_law_other", 7)]) (N := ["_law_stream", "_law_raw", "_law_places", "_law_ties", "_law_made", "_law_others", "_law_one", "_law_other", "_law_height", "_law_rest", "_law_tie", "_law_open_ones", "_law_near"]) (sc := (defScope s_law_unlike_right)) (by decide +kernel)) (fun _ _ _ _ _ => (pg_name (i := 7) nd rfl (by first | exact Or.inl rfl | exact Or.inr rfl))) (fun _ _ _ _ _ => (pts_one (PW.pt (pw_and (pt_cmpR op_lt_str (pv 6) (pv 7) (nomark _)) (pw_and1 (pt_cmpR (k_notInD hu65 (K := K)) (pe_tup (pa_cons (pv 6) (pa_cons (pv 7) pa_nil))) (pv 12) rfl)))))) (fun _ _ _ _ _ => (pe_tup (pa_cons (pv 6) (pa_cons (pv 7) (pa_cons pe_int pa_nil)))))) pa_nil))))))
      (pss_cons (ps_if (pt_cmpR (k_neNil hr.units (K := K)) (pv 11) (pe_lst pa_nil) (nomark _)) (pss_one (ps_expr (k_bm (K := K) PySem.F.plainAttrs_list PySem.F.slot_list_append PySem.F.type_list_append mt_append (pv 5) (pa_cons (pe_web T G_init (hr.mono (by omega)) passL (pa_cons (pv 2) (pa_cons (pe_op op_cat (pv 3) (pe_lst (pa_cons (pe_ok G_pick (hr.mono (by omega)) pass0 (pa_cons (pv 0) (pa_cons (pv 11) pa_nil))) pa_nil))) pa_nil))) pa_nil)))) pss_nil)
      (pss_one (ps_ret (pe_not (pe_callB (k_any rfl (K := K)) (by rfl) T.any (by decide +kernel) (pa_cons (pe_lc (own := [("_law_other", 7)]) (by rfl) nd (k_pl (K := K) (pv 5)) (blkOk_by (own := [("_law_other", 7)]) (N := ["_law_stream", "_law_raw", "_law_places", "_law_ties", "_law_made", "_law_others", "_law_one", "_law_other", "_law_height", "_law_rest", "_law_tie", "_law_open_ones", "_law_near"]) (sc := (defScope s_law_unlike_right)) (by decide +kernel)) (fun _ _ _ _ _ => (pg_name (i := 7) nd rfl (by first | exact Or.inl rfl | exact Or.inr rfl))) (fun _ _ _ _ _ => pts_nil) (fun _ _ _ _ _ => (pe_or (pe_cmpR (op_weq (K := K) T G_eq (hr.mono (by omega))) (pv 4) (pv 7) (nomark _)) (pe_one (pe_not (pe_cmpR (op_wne (K := K) T G_eq (hr.mono (by omega))) (pv 4) (pv 7) (nomark _))))))) pa_nil))))))))))), ?_⟩
    obtain ⟨p, va, vb, rfl, hNp, hp, hra, hrb⟩ := rep_raw.mp hrep
    obtain ⟨pa, rfl, hNa, hpa⟩ := rep_strs.mp hra
    obtain ⟨pb, vs, rfl, hNb, hpb, hrb0⟩ := rep_ties.mp hrb
    have gd : ∀ x ∈ ns, isNm x = true := fun x hx => (hok.gd x hx).1
    have l1 : ns.length ≤ 200 := hok.len
    have l2 : ts.length ≤ 1000 := hok.tl
    have exN : ∀ c, N c → Ex [a, b] c := fun c hc hin => by
      simp only [List.mem_cons, List.not_mem_nil, or_false] at hin
      rcases hin with e | e
      · exact (hN c hc).1 e
      · exact (hN c hc).2 e
    have hra1 := hra.wk exN
    have hrb1 := hrb.wk exN
    refine ⟨_, rfl, p, _, rfl, SqT.of hp, rfl, _, _, rfl, _, _, rfl, rfl, ?_⟩
    dsimp only
    refine viaS (t1 := tAsg _ _) (fun σ H4 => ∃ (u : V) (lo : Addr) (n : Near) (ms : List Near) (ws : List V), σ = [some (.ref a), some (.ref p), some (.ref pa), some (.ref pb), some u, some (.ref lo), none, none, none, none, none, none, none] ∧ Same H H4 ∧ H lo = none ∧ WebOf ns ts n ∧
        Rep K (Ex [lo, a, b]) H4 (dStrs ns) (.ref pa) ∧ Rep K (Ex [lo, a, b]) H4 (dTies ts) (.ref pb) ∧ Rep K (Ex [lo, a, b]) H4 (.web n) u ∧ H4 lo = some (.lst ws) ∧ RepL K (Ex [lo, a, b]) H4 (ms.map Dt.web) ws ∧ ms.length ≤ 10 ∧ ∀ m ∈ ms, nearEq n m = false) (fun nx hn => ?_) ?_
    · refine ⟨_, rfl, _, rfl, .ref pa, .ref pb, rfl, webgo_ok hra1 hrb1 hok.nd gd (raw_acc hok) (by omega) (by omega) fun n u H1 hw s1 hu1 => ?_⟩
      have hpa1 := s1 _ _ hpa
      refine ⟨_, rfl, by show 1 ≤ sizeLine; decide, ?_⟩
      intro l9 n_l9
      have e_l9 : upd H1 l9 (.lst [.str "late9"]) l9 = some (.lst [.str "late9"]) := upd_same
      have s_l9 : Same H1 (upd H1 l9 (.lst [.str "late9"])) := same_new n_l9
      generalize upd H1 l9 (.lst [.str "late9"]) = H2 at e_l9 s_l9 ⊢
      have s02 := same_trans s1 s_l9
      refine ⟨pa, l9, _, _, rfl, rfl, s_l9 _ _ hpa1, e_l9, by rw [List.length_map]; exact Nat.le_trans (show ns.length + 1 ≤ 201 by omega) (by decide), ?_⟩
      intro lc n_lc
      have e_lc : upd H2 lc (.lst (ns.map V.str ++ [.str "late9"])) lc = some (.lst (ns.map V.str ++ [.str "late9"])) := upd_same
      have s_lc : Same H2 (upd H2 lc (.lst (ns.map V.str ++ [.str "late9"]))) := same_new n_lc
      generalize upd H2 lc (.lst (ns.map V.str ++ [.str "late9"])) = H3 at e_lc s_lc ⊢
      have s03 := same_trans s02 s_lc
      have rl : Rep K (fun _ => True) H3 (.seq true ((ns ++ [("late9" : Str)]).map Dt.str)) (.ref lc) := ⟨lc, _, rfl, trivial, e_lc, repL_strs.mpr (by rw [List.map_append]; rfl)⟩
      refine ⟨_, rfl, .ref lc, .ref pb, rfl, webgo_ok rl ((hrb1.same s03).wk fun _ _ => trivial) (late9_nd hok) (late9_gd hok) (acc_names (raw_acc hok) fun x hx => List.mem_append_left _ hx) (by rw [List.length_append]; show ns.length + 1 ≤ 100000; omega) (by omega) fun m1 u1 H5 hw1 s5 hu5 => ?_⟩
      have s05 := same_trans s03 s5
      refine ⟨by show 1 ≤ sizeLine; decide, ?_⟩
      intro lo n_lo
      have e_lo : upd H5 lo (.lst [u1]) lo = some (.lst [u1]) := upd_same
      have s_lo : Same H5 (upd H5 lo (.lst [u1])) := same_new n_lo
      generalize upd H5 lo (.lst [u1]) = H6 at e_lo s_lo ⊢
      refine ⟨by show 2 ≤ sizeLine; decide, ?_⟩
      intro t n_t
      have e_t : upd H6 t (.tup [u, .ref lo]) t = some (.tup [u, .ref lo]) := upd_same
      have s_t : Same H6 (upd H6 t (.tup [u, .ref lo])) := same_new n_t
      generalize upd H6 t (.tup [u, .ref lo]) = H7 at e_t s_t ⊢
      refine ⟨t, _, rfl, SqT.of e_t, rfl, _, _, rfl, _, _, rfl, rfl, ?_⟩
      have s07 := same_trans s05 (same_trans s_lo s_t)
      have known : ∀ q ∈ [a, b], H3 q ≠ none ∧ H q ≠ none := fun q hq => by
        obtain ⟨o, ta⟩ := hS.tra
        obtain ⟨o', tb⟩ := hS.trb
        simp only [List.mem_cons, List.not_mem_nil, or_false] at hq
        rcases hq with rfl | rfl
        · exact ⟨kno (s03 _ _ ta), kno ta⟩
        · exact ⟨kno (s03 _ _ tb), kno tb⟩
      have fin : ∀ {d : Dt} {v : V}, Rep K (Ex [a, b]) H5 d v → Rep K (Ex [lo, a, b]) H7 d v := fun h => ((h.ex_new n_lo).same s_lo).same s_t
      refine hn _ _ ⟨u, lo, n, [m1], [u1], rfl, s07, same_back s05 n_lo, hw, fin (hra1.same s05), fin (hrb1.same s05), fin ((hu1.wk (ex_fr fun q hq => (known q hq).2)).same (same_trans s_l9 (same_trans s_lc s5))), s_t _ _ e_lo, RepL.one (fin (hu5.wk (ex_fr fun q hq => (known q hq).1))), (show 1 ≤ 10 by decide), fun m hm => ?_⟩
      rw [List.mem_singleton.mp hm]
      exact ne_late hok hw hw1
    rintro σ H4 ⟨u, lo, n, ms, ws, rfl, s4, nlo, hw, ra4, rb4, ru4, hlo, rms, lms, hms⟩
    have S4 := hS.same s4
    obtain ⟨_, e, nEa, hpa4⟩ := rep_strs.mp ra4
    cases e
    obtain ⟨_, vs4, e, nEb, hpb4, rvs4⟩ := rep_ties.mp rb4
    cases e
    have oab : ∀ {l : List Addr} {c : Addr}, Ex (l ++ [a, b]) c → c ≠ a ∧ c ≠ b := fun {l c} hc => ⟨fun e => hc (by rw [e]; simp), fun e => hc (by rw [e]; simp)⟩
    have olo : lo ≠ a ∧ lo ≠ b := hS.off nlo
    refine viaS (t1 := tIfS _ _ _) (fun σ H5 => ∃ (v6 v7 v8 v9 : Option V) (ms : List Near) (ws : List V), σ = [some (.ref a), some (.ref p), some (.ref pa), some (.ref pb), some u, some (.ref lo), v6, v7, v8, v9, none, none, none] ∧ Kp a b H H5 ∧ Strm a b (m + 1) H5 ∧
        Rep K (Ex [lo, a, b]) H5 (dStrs ns) (.ref pa) ∧ Rep K (Ex [lo, a, b]) H5 (dTies ts) (.ref pb) ∧ Rep K (Ex [lo, a, b]) H5 (.web n) u ∧ H5 lo = some (.lst ws) ∧ RepL K (Ex [lo, a, b]) H5 (ms.map Dt.web) ws ∧ ms.length ≤ 12 ∧ ∀ m ∈ ms, nearEq n m = false) (fun nx hn => ?_) ?_
    · refine ⟨_, rfl, by show 0 ≤ sizeLine; decide, ?_⟩
      intro e0 n_e0
      have e_e0 : upd H4 e0 (.lst []) e0 = some (.lst []) := upd_same
      have s_e0 : Same H4 (upd H4 e0 (.lst [])) := same_new n_e0
      generalize upd H4 e0 (.lst []) = H5 at e_e0 s_e0 ⊢
      have ra5 := ra4.same s_e0
      have rb5 := rb4.same s_e0
      have ru5 := ru4.same s_e0
      have rms5 := rms.same s_e0
      have S5 := S4.same s_e0
      have hpb5 := s_e0 _ _ hpb4
      have lvs : vs4.length = ts.length := by rw [rvs4.len, List.length_map]
      refine ⟨pb, e0, vs4, rfl, rfl, SqL.of hpb5, SqL.of e_e0, _, rfl, ?_⟩
      cases hvs : vs4.isEmpty with
      | true => exact iteF (next_i (hn _ _ ⟨none, none, none, none, ms, ws, rfl, .of (same_trans s4 s_e0), S5.le (by omega), ra5, rb5, ru5, s_e0 _ _ hlo, rms5, by omega, hms⟩))
      | false =>
        refine iteT ?_
        have hlen : 0 < vs4.length := List.length_pos_iff.mpr fun e => by
          rw [e] at hvs
          cases hvs
        refine ⟨_, rfl, _, rfl, a, b, pb, m + 1, vs4, rfl, S5, hpb5, (oab (l := [lo]) nEb).1, (oab (l := [lo]) nEb).2, hlen, by omega, fun H6 xv hx kp6 S6 => ?_⟩
        have rvs5 := rvs4.same s_e0
        obtain ⟨dt, hdt, hrt⟩ := rvs5.mem xv hx
        obtain ⟨⟨x, y, hh⟩, ht, rfl⟩ := List.mem_map.mp hdt
        obtain ⟨pt, rfl, hEt, hpt⟩ := rep_tie.mp hrt
        obtain ⟨mx, my, mlt, _⟩ := hok.ties.mem _ ht
        refine ⟨pt, _, rfl, SqT.of (kp6 _ _ hpt (oab (l := [lo]) hEt).1 (oab (l := [lo]) hEt).2), rfl, _, _, rfl, _, _, rfl, _, _, rfl, rfl, ?_⟩
        dsimp only
        have ra6 := ra5.ex_kp kp6 (by simp) (by simp)
        have rb6 := rb5.ex_kp kp6 (by simp) (by simp)
        have ru6 := ru5.ex_kp kp6 (by simp) (by simp)
        have rms6 := rms5.ex_kp kp6 (by simp) (by simp)
        have hlo6 := kp6 _ _ (s_e0 _ _ hlo) olo.1 olo.2
        have kpH6 : Kp a b H H6 := (Kp.of (same_trans s4 s_e0)).trans kp6
        have hpb6 := kp6 _ _ hpb5 (oab (l := [lo]) nEb).1 (oab (l := [lo]) nEb).2
        have rvs6 := rvs5.ex_kp kp6 (by simp) (by simp)
        refine viaS (t1 := tAsg _ _) (fun σ H7 => ∃ (D : Addr) (us : List V), σ = [some (.ref a), some (.ref p), some (.ref pa), some (.ref pb), some u, some (.ref lo), some (.str x), some (.str y), some (.int hh), some (.ref D), none, none, none] ∧ Same H6 H7 ∧ H6 D = none ∧ H7 D = some (.lst us) ∧ RepL K (Ex [D, lo, a, b]) H7 ((restT x y ts).map dTie) us) (fun nx2 hn2 => ?_) ?_
        · refine ⟨_, rfl, pb, rfl, ⟨_, SqL.of hpb6⟩, fun D nD => ?_⟩
          have rvD := (rvs6.ex_new nD)
          refine lc_it (walk_list (xs := vs4)) (fun j H7 => Same H6 H7 ∧ ∃ us, H7 D = some (.lst us) ∧ us.length ≤ j ∧ RepL K (Ex [D, lo, a, b]) H7 ((restT x y (ts.take j)).map dTie) us)
            ⟨same_new nD, [], upd_same, Nat.le_refl _, RepL.nil⟩ (fun j H7 _ ⟨sm, _⟩ => SqL.of (sm _ _ hpb6)) ?_ ?_
          · rintro j xv _ H7 hj ⟨sm, us, hD, lu, ru⟩ ⟨rfl, hxj⟩
            obtain ⟨dt, hdt, hrt⟩ := (rvD.same sm).get hxj
            obtain ⟨⟨x', y', h'⟩, ht', rfl⟩ := map_get hdt
            have hrt0 := hrt
            obtain ⟨pt, rfl, hEt, hpt⟩ := rep_tie.mp hrt
            obtain ⟨mx', my', _⟩ := hok.ties.mem _ (List.mem_of_getElem? ht')
            refine ⟨rfl, _, rfl, _, rfl, cut2 hpt fun t1 nt1 => ⟨_, rfl, _, rfl, by show 2 ≤ sizeLine; decide, fun t2 nt2 => ?_⟩⟩
            have s9 := same_trans (same_new (o := .tup [.str x', .str y']) nt1) (same_new (o := .tup [.str x, .str y]) nt2)
            have q1 : Rep K (fun _ => True) (upd (upd H7 t1 (.tup [.str x', .str y'])) t2 (.tup [.str x, .str y])) (dP x' y') (.ref t1) := rep_dP.mpr ⟨t1, rfl, trivial, (same_new (o := .tup [.str x, .str y]) nt2) _ _ upd_same⟩
            have q2 : Rep K (fun _ => True) (upd (upd H7 t1 (.tup [.str x', .str y'])) t2 (.tup [.str x, .str y])) (dP x y) (.ref t2) := rep_dP.mpr ⟨t2, rfl, trivial, upd_same⟩
            refine neD_ok q1 q2 (gd _ mx') (gd _ my') (gd _ mx) (gd _ my) ⟨_, rfl, ?_⟩
            have hD9 := s9 _ _ hD
            have ru9 := ru.same s9
            have s69 := same_trans sm s9
            generalize upd (upd H7 t1 (.tup [.str x', .str y'])) t2 (.tup [.str x, .str y]) = H9 at s9 hD9 ru9 s69 ⊢
            have et : ts.take (j + 1) = ts.take j ++ [(x', y', h')] := take_snoc ht'
            unfold restT at ru9 ⊢
            rw [et, List.filter_append]
            by_cases e : (x', y') = (x, y)
            · rw [decide_eq_true e]
              refine iteF ⟨s69, us, hD9, Nat.le_succ_of_le lu, ?_⟩
              cases e
              rw [show List.filter (fun t : Tie => !decide (t.1 = x ∧ t.2.1 = y)) [(x, y, h')] = [] by simp, List.append_nil]
              exact ru9
            · rw [decide_eq_false e]
              refine iteT ⟨_, rfl, us, hD9, Nat.lt_of_le_of_lt (show us.length ≤ 1000 by omega) (by decide), same_mut s69 nD, us ++ [.ref pt], upd_same, by rw [List.length_append]; exact Nat.succ_le_succ lu, ?_⟩
              have e2 : ¬ (x' = x ∧ y' = y) := fun z => e (by rw [z.1, z.2])
              rw [show List.filter (fun t : Tie => !decide (t.1 = x ∧ t.2.1 = y)) [(x', y', h')] = [(x', y', h')] from List.filter_cons_of_pos (by rw [decide_eq_false e2]; rfl), List.map_append]
              exact RepL.snoc (ru9.ex_mut (by simp)) ((hrt0.same s9).ex_mut (by simp))
          · rintro H7 ⟨sm, us, hD, lu, ru⟩
            rw [lvs, List.take_length] at ru
            exact hn2 _ _ ⟨D, us, rfl, sm, nD, hD, ru⟩
        rintro σ H7 ⟨D, us, rfl, s7, nD6, hD7, rus⟩
        have hpa6 := kp6 _ _ (s_e0 _ _ hpa4) (oab (l := [lo]) nEa).1 (oab (l := [lo]) nEa).2
        have hlo7 := s7 _ _ hlo6
        have lus : us.length ≤ 1000 := by
          rw [rus.len, List.length_map]
          exact Nat.le_trans (List.length_filter_le _ _) l2
        have accR : AccOk ns (restT x y ts) := acc_sub (raw_acc hok) List.filter_sublist
        have lrs : (restT x y ts).length ≤ 1000 := Nat.le_trans (List.length_filter_le _ _) l2
        have ra7 : Rep K (fun _ => True) H7 (dStrs ns) (.ref pa) := (ra6.same s7).wk fun _ _ => trivial
        have rD7 : Rep K (fun _ => True) H7 (dTies (restT x y ts)) (.ref D) := ⟨D, us, rfl, trivial, hD7, rus.wk fun _ _ => trivial⟩
        refine ⟨_, rfl, .inl ⟨rfl, ws, SqL.of hlo7⟩, ?_⟩
        refine ⟨_, rfl, _, rfl, .ref pa, .ref D, rfl, webgo_ok ra7 rD7 hok.nd gd accR (by omega) (by omega) fun m1 w1 H8 hw1 s8 rw1 => ?_⟩
        refine ⟨_, rfl, _, rfl, _, rfl, _, rfl, _, rfl, _, _, rfl, rfl, by show 3 ≤ sizeLine; decide, ?_⟩
        intro tt n_tt
        have e_tt : upd H8 tt (.tup [.str y, .str x, .int (hh + 1)]) tt = some (.tup [.str y, .str x, .int (hh + 1)]) := upd_same
        have s_tt : Same H8 (upd H8 tt (.tup [.str y, .str x, .int (hh + 1)])) := same_new n_tt
        generalize upd H8 tt (.tup [.str y, .str x, .int (hh + 1)]) = H9 at e_tt s_tt ⊢
        refine ⟨by show 1 ≤ sizeLine; decide, ?_⟩
        intro l1' n_l1'
        have e_l1' : upd H9 l1' (.lst [.ref tt]) l1' = some (.lst [.ref tt]) := upd_same
        have s_l1' : Same H9 (upd H9 l1' (.lst [.ref tt])) := same_new n_l1'
        generalize upd H9 l1' (.lst [.ref tt]) = H10 at e_l1' s_l1' ⊢
        have s710 := same_trans s8 (same_trans s_tt s_l1')
        have hD10 := s710 _ _ hD7
        refine ⟨D, l1', us, _, rfl, rfl, hD10, e_l1', Nat.le_trans (show us.length + 1 ≤ 1001 by omega) (by decide), ?_⟩
        intro lc n_lc
        have e_lc : upd H10 lc (.lst (us ++ [.ref tt])) lc = some (.lst (us ++ [.ref tt])) := upd_same
        have s_lc : Same H10 (upd H10 lc (.lst (us ++ [.ref tt]))) := same_new n_lc
        generalize upd H10 lc (.lst (us ++ [.ref tt])) = H11 at e_lc s_lc ⊢
        have s711 := same_trans s710 s_lc
        have rN11 : Rep K (fun _ => True) H11 (dTies (restT x y ts ++ [(y, x, hh + 1)])) (.ref lc) := by
          refine ⟨lc, _, rfl, trivial, e_lc, ?_⟩
          rw [List.map_append]
          exact RepL.snoc ((rus.same s711).wk fun _ _ => trivial) (rep_tie.mpr ⟨tt, rfl, trivial, s_lc _ _ (s_l1' _ _ e_tt)⟩)
        refine ⟨.ref pa, .ref lc, rfl, webgo_ok (ra7.same s711) rN11 hok.nd gd (rest_new hok ht _) (by omega) (by rw [List.length_append]; show _ + 1 ≤ 100000; omega) fun m2 w2 H12 hw2 s12 rw2 => ?_⟩
        refine ⟨by show 2 ≤ sizeLine; decide, ?_⟩
        intro le n_le
        have e_le : upd H12 le (.lst [w1, w2]) le = some (.lst [w1, w2]) := upd_same
        have s_le : Same H12 (upd H12 le (.lst [w1, w2])) := same_new n_le
        generalize upd H12 le (.lst [w1, w2]) = H13 at e_le s_le ⊢
        have s713 := same_trans s711 (same_trans s12 s_le)
        have hlo13 := s713 _ _ hlo7
        have lws : ws.length ≤ 10 := by rw [rms.len, List.length_map]; exact lms
        refine ⟨lo, le, ws, [w1, w2], rfl, rfl, hlo13, e_le, Nat.le_trans (show ws.length + 2 ≤ 12 by omega) (by decide), hn _ _ ⟨_, _, _, _, ms ++ [m1, m2], ws ++ [w1, w2], rfl, ?_, ?_, ?_, ?_, ?_, upd_same, ?_, by rw [List.length_append]; show ms.length + 2 ≤ 12; omega, fun m hm => ?_⟩⟩
        · exact kp_mut (kpH6.trans (.of (same_trans s7 s713))) nlo
        · exact (S6.same (same_trans s7 s713)).at_ (upd_ne olo.1.symm) (upd_ne olo.2.symm)
        · exact (ra6.same (same_trans s7 s713)).ex_mut (by simp)
        · exact (rb6.same (same_trans s7 s713)).ex_mut (by simp)
        · exact (ru6.same (same_trans s7 s713)).ex_mut (by simp)
        · rw [List.map_append]
          have ka : ∀ q ∈ [lo, a, b], H7 q ≠ none := fun q hq => by
            obtain ⟨o, ta⟩ := (S6.same s7).tra
            obtain ⟨o', tb⟩ := (S6.same s7).trb
            simp only [List.mem_cons, List.not_mem_nil, or_false] at hq
            rcases hq with rfl | rfl | rfl
            · exact kno hlo7
            · exact kno ta
            · exact kno tb
          have k11 : ∀ q ∈ [lo, a, b], H11 q ≠ none := fun q hq e => ka q hq (same_back s711 e)
          refine RepL.app ((rms6.same (same_trans s7 s713)).ex_mut (by simp)) (RepL.cons ?_ (RepL.one ?_))
          · exact ((rw1.wk (ex_fr ka)).same (same_trans (same_trans s_tt (same_trans s_l1' s_lc)) (same_trans s12 s_le))).ex_mut (by simp)
          · exact ((rw2.wk (ex_fr k11)).same s_le).ex_mut (by simp)
        · rcases List.mem_append.mp hm with hm | hm
          · exact hms m hm
          · simp only [List.mem_cons, List.not_mem_nil, or_false] at hm
            rcases hm with rfl | rfl
            · exact ne_rest hok hw ht hw1
            · exact ne_other hok hw ht hw2
    rintro σ H5 ⟨v6, v7, v8, v9, ms, ws, rfl, kp5, S5, ra5, rb5, ru5, hlo5, rms5, lms5, hms5⟩
    refine ⟨by show 0 ≤ sizeLine; decide, ?_⟩
    intro ol n_ol
    have e_ol : upd H5 ol (.lst []) ol = some (.lst []) := upd_same
    have s_ol : Same H5 (upd H5 ol (.lst [])) := same_new n_ol
    generalize upd H5 ol (.lst []) = H6 at e_ol s_ol ⊢
    refine gName_i ?_
    dsimp only
    obtain ⟨_, e, nEa5, hpa5⟩ := rep_strs.mp ra5
    cases e
    obtain ⟨_, vs5, e, nEb5, hpb5, rvs5⟩ := rep_ties.mp rb5
    cases e
    have lvs5 : vs5.length = ts.length := by rw [rvs5.len, List.length_map]
    have ka5 : ∀ q ∈ [ol, lo, a, b], H6 q ≠ none := fun q hq => by
      obtain ⟨o, ta⟩ := (S5.same s_ol).tra
      obtain ⟨o', tb⟩ := (S5.same s_ol).trb
      simp only [List.mem_cons, List.not_mem_nil, or_false] at hq
      rcases hq with rfl | rfl | rfl | rfl
      · exact kno e_ol
      · exact kno (s_ol _ _ hlo5)
      · exact kno ta
      · exact kno tb
    refine viaS (t1 := tFor _ _ _) (fun σ H7 => ∃ (v6 v10 v12 : Option V) (op : List Tie) (os : List V), σ = [some (.ref a), some (.ref p), some (.ref pa), some (.ref pb), some u, some (.ref lo), v6, v7, v8, v9, v10, some (.ref ol), v12] ∧ Same H5 H7 ∧ H7 ol = some (.lst os) ∧ RepL K (Ex [ol, lo, a, b]) H7 (op.map dTie) os ∧ op.length ≤ 200 * 200 ∧
        ∀ t ∈ op, t.1 ∈ ns ∧ t.2.1 ∈ ns ∧ ltS t.1 t.2.1 = true ∧ t.2.2 = 0 ∧ ∀ h, (t.1, t.2.1, h) ∉ ts) (fun nx hn => ?_) ?_
    · have hpa6 := s_ol _ _ hpa5
      refine ⟨_, rfl, pa, ns, rfl, SqL.of hpa6, fun ms1 so pmn sso nso => ?_⟩
      have lms1 : ms1.length ≤ 200 := by rw [pmn.length_eq]; exact l1
      have sSo : Same H6 (upd H6 so (.lst (ms1.map V.str))) := same_new nso
      have eSo : upd H6 so (.lst (ms1.map V.str)) so = _ := upd_same
      generalize upd H6 so (.lst (ms1.map V.str)) = H7 at sSo eSo ⊢
      have s57 := same_trans s_ol sSo
      have dso : so ≠ ol := (ne_of_none e_ol nso).symm
      refine ⟨so, rfl, ⟨_, SqL.of eSo⟩, for_it (walk_list (xs := ms1.map V.str)) (fun i σ H8 => ∃ (v6 v10 v12 : Option V) (op : List Tie) (os : List V), σ = [some (.ref a), some (.ref p), some (.ref pa), some (.ref pb), some u, some (.ref lo), v6, v7, v8, v9, v10, some (.ref ol), v12] ∧ Same H5 H8 ∧ (∀ c, H8 c = none → H6 c = none) ∧ H8 so = some (.lst (ms1.map V.str)) ∧ H8 ol = some (.lst os) ∧
          RepL K (Ex [ol, lo, a, b]) H8 (op.map dTie) os ∧ op.length ≤ i * 200 ∧ ∀ t ∈ op, t.1 ∈ ns ∧ t.2.1 ∈ ns ∧ ltS t.1 t.2.1 = true ∧ t.2.2 = 0 ∧ ∀ h, (t.1, t.2.1, h) ∉ ts)
        ⟨v6, none, none, [], [], rfl, s57, fun c hc => same_back sSo hc, eSo, sSo _ _ e_ol, RepL.nil, Nat.zero_le _, fun _ h => (nomatch h)⟩ (fun i σ H8 _ ⟨_, _, _, _, _, _, _, _, h, _⟩ => SqL.of h) ?_ ?_⟩
      · rintro i xv σ _ H8 hi ⟨v6, v10, v12, op, os, rfl, s58, bk8, hso8, hol8, rop, lop, hop⟩ ⟨rfl, hxi⟩
        obtain ⟨x, hxm, rfl⟩ := map_get hxi
        have mx : x ∈ ns := pmn.mem_iff.mp (List.mem_of_getElem? hxm)
        refine gName_i ?_
        dsimp only
        refine viaS (t1 := tAsg _ _) (fun σ H9 => ∃ (D : Addr) (us : List V), σ = [some (.ref a), some (.ref p), some (.ref pa), some (.ref pb), some u, some (.ref lo), some (.str x), v7, v8, v9, v10, some (.ref ol), some (.ref D)] ∧ Same H8 H9 ∧
            Rep K (fun _ => True) H9 (.seq true (((ts.filter fun t => decide (t.1 = x)).map fun t => (t.1, t.2.1)).map fun q => dP q.1 q.2)) (.ref D)) (fun nx2 hn2 => ?_) ?_
        · have hpb8 := s58 _ _ hpb5
          have rv8 := rvs5.same s58
          refine ⟨_, rfl, pb, rfl, ⟨_, SqL.of hpb8⟩, fun D nD => ?_⟩
          refine lc_it (walk_list (xs := vs5)) (fun j H9 => Same H8 H9 ∧ ∃ us, H9 D = some (.lst us) ∧ us.length ≤ j ∧ RepL K (fun c => c ≠ D) H9 ((((ts.take j).filter fun t => decide (t.1 = x)).map fun t => (t.1, t.2.1)).map fun q => dP q.1 q.2) us)
            ⟨same_new nD, [], upd_same, Nat.le_refl _, RepL.nil⟩ (fun j H9 _ ⟨sm, _⟩ => SqL.of (sm _ _ hpb8)) ?_ ?_
          · rintro j xv _ H9 hj ⟨sm, us, hD, lu, ru⟩ ⟨rfl, hxj⟩
            obtain ⟨dt, hdt, hrt⟩ := (rv8.same sm).get hxj
            obtain ⟨⟨x', y', h'⟩, ht', rfl⟩ := map_get hdt
            obtain ⟨pt, rfl, hEt, hpt⟩ := rep_tie.mp hrt
            refine ⟨rfl, _, rfl, pt, _, 0, .str x', rfl, rfl, SqT.of hpt, rfl, _, rfl, rfl, _, rfl, ?_⟩
            rw [take_snoc ht', List.filter_append]
            by_cases e : x' = x
            · rw [decide_eq_true (show V.str x' = V.str x by rw [e])]
              rw [show List.filter (fun t : Tie => decide (t.1 = x)) [(x', y', h')] = [(x', y', h')] from List.filter_cons_of_pos (decide_eq_true e)]
              refine iteT ⟨_, rfl, _, rfl, cut2 hpt fun t1 nt1 => ?_⟩
              have hDt : D ≠ t1 := ne_of_none hD nt1
              refine ⟨us, upd_at hD hDt, Nat.lt_of_le_of_lt (show us.length ≤ 1000 by omega) (by decide), same_mut (same_trans sm (same_new nt1)) nD, us ++ [.ref t1], upd_same, by rw [List.length_append]; exact Nat.succ_le_succ lu, ?_⟩
              rw [List.map_append, List.map_append]
              exact RepL.snoc ((ru.same (same_new nt1)).mut fun h => h rfl) (rep_dP.mpr ⟨t1, rfl, hDt.symm, upd_at upd_same hDt.symm⟩)
            · rw [decide_eq_false (show ¬ V.str x' = V.str x from fun z => e (by injection z))]
              rw [show List.filter (fun t : Tie => decide (t.1 = x)) [(x', y', h')] = [] from List.filter_cons_of_neg (by rw [decide_eq_false e]; decide), List.append_nil]
              exact iteF ⟨sm, us, hD, Nat.le_succ_of_le lu, ru⟩
          · rintro H9 ⟨sm, us, hD, lu, ru⟩
            rw [lvs5, List.take_length] at ru
            exact hn2 _ _ ⟨D, us, rfl, sm, D, us, rfl, trivial, hD, ru.wk fun _ _ => trivial⟩
        rintro σ H9 ⟨D, us, rfl, s9, rD⟩
        have s59 := same_trans s58 s9
        have hol9 := s9 _ _ hol8
        have hpa9 := s59 _ _ hpa5
        have bk9 : ∀ c, H9 c = none → H6 c = none := fun c hc => bk8 c (same_back s9 hc)
        have psg : ∀ q ∈ (ts.filter fun t => decide (t.1 = x)).map fun t => (t.1, t.2.1), isNm q.1 = true ∧ isNm q.2 = true := fun q hq => by
          obtain ⟨t, ht, rfl⟩ := List.mem_map.mp hq
          obtain ⟨m1, m2, _⟩ := hok.ties.mem t (List.mem_filter.mp ht).1
          exact ⟨gd _ m1, gd _ m2⟩
        have inps : ∀ y, (x, y) ∈ ((ts.filter fun t => decide (t.1 = x)).map fun t => (t.1, t.2.1)) ↔ ∃ h, (x, y, h) ∈ ts := fun y => by
          rw [List.mem_map]
          constructor
          · rintro ⟨⟨x', y', h'⟩, ht, e⟩
            cases e
            exact ⟨h', (List.mem_filter.mp ht).1⟩
          · rintro ⟨h, hm⟩
            exact ⟨_, List.mem_filter.mpr ⟨hm, decide_eq_true rfl⟩, rfl⟩
        refine ⟨_, rfl, .inl ⟨rfl, os, SqL.of hol9⟩, _, rfl, pa, rfl, ⟨_, SqL.of hpa9⟩, fun D2 nD2 => ?_⟩
        refine lc_it (walk_list (xs := ns.map V.str)) (fun j H10 => Same H9 H10 ∧ ∃ (us2 : List V) (op2 : List Tie), H10 D2 = some (.lst us2) ∧ op2.length ≤ j ∧ RepL K (fun c => H9 c = none ∧ c ≠ D2) H10 (op2.map dTie) us2 ∧
            ∀ t ∈ op2, t.1 ∈ ns ∧ t.2.1 ∈ ns ∧ ltS t.1 t.2.1 = true ∧ t.2.2 = 0 ∧ ∀ h, (t.1, t.2.1, h) ∉ ts)
          ⟨same_new nD2, [], [], upd_same, Nat.le_refl _, RepL.nil, fun _ h => (nomatch h)⟩ (fun j H10 _ ⟨sm, _⟩ => SqL.of (sm _ _ hpa9)) ?_ ?_
        · rintro j xv _ H10 hj ⟨sm, us2, op2, hD2, lo2, ro2, ho2⟩ ⟨rfl, hxj⟩
          obtain ⟨y, hy, rfl⟩ := map_get hxj
          have my := List.mem_of_getElem? hy
          rw [List.length_map] at hj
          refine ⟨rfl, ?_⟩
          refine ⟨_, rfl, _, rfl, _, _, rfl, rfl, _, rfl, ?_⟩
          cases hl : ltS x y with
          | false =>
            rw [show decide (x.cps.toList < y.cps.toList) = false from hl]
            exact iteF (iteF ⟨sm, us2, op2, hD2, Nat.le_succ_of_le lo2, ro2, ho2⟩)
          | true =>
            rw [show decide (x.cps.toList < y.cps.toList) = true from hl]
            refine iteT ⟨_, rfl, _, rfl, by show 2 ≤ sizeLine; decide, fun t1 nt1 => ⟨_, rfl, ?_⟩⟩
            have st := same_new (o := .tup [.str x, .str y]) nt1
            have q1 : Rep K (fun _ => True) (upd H10 t1 (.tup [.str x, .str y])) (dP x y) (.ref t1) := rep_dP.mpr ⟨t1, rfl, trivial, upd_same⟩
            refine notIn_ok q1 ((rD.same sm).same st) (gd _ mx) (gd _ my) psg ⟨_, rfl, ?_⟩
            have hD3 := st _ _ hD2
            have ro3 := ro2.same st
            have sm3 := same_trans sm st
            have nt9 := same_back sm nt1
            generalize upd H10 t1 (.tup [.str x, .str y]) = H11 at st hD3 ro3 sm3 ⊢
            by_cases e : (x, y) ∈ ((ts.filter fun t => decide (t.1 = x)).map fun t => (t.1, t.2.1))
            · rw [decide_eq_true e]
              exact iteF ⟨sm3, us2, op2, hD3, Nat.le_succ_of_le lo2, ro3, ho2⟩
            · rw [decide_eq_false e]
              refine iteT ⟨_, rfl, _, rfl, by show 3 ≤ sizeLine; decide, fun t2 nt2 => ?_⟩
              have hDt : D2 ≠ t2 := ne_of_none hD3 nt2
              have lus2 : us2.length = op2.length := by rw [ro2.len, List.length_map]
              refine ⟨us2, upd_at hD3 hDt, Nat.lt_of_le_of_lt (show us2.length ≤ 200 by omega) (by decide), same_mut (same_trans sm3 (same_new nt2)) nD2, us2 ++ [.ref t2], op2 ++ [(x, y, 0)], upd_same, by rw [List.length_append]; exact Nat.succ_le_succ lo2, ?_, fun t ht => ?_⟩
              · rw [List.map_append]
                exact RepL.snoc ((ro3.same (same_new nt2)).mut fun h => h.2 rfl) (rep_tie.mpr ⟨t2, rfl, ⟨same_back sm3 nt2, hDt.symm⟩, upd_at upd_same hDt.symm⟩)
              · rcases List.mem_append.mp ht with ht | ht
                · exact ho2 t ht
                · rw [List.mem_singleton.mp ht]
                  exact ⟨mx, my, hl, rfl, fun h hm => e ((inps y).mpr ⟨h, hm⟩)⟩
        · rintro H10 ⟨sm, us2, op2, hD2, lo2, ro2, ho2⟩
          rw [List.length_map] at lo2
          have hol10 := sm _ _ hol9
          have los : os.length = op.length := by rw [rop.len, List.length_map]
          have lus2 : us2.length = op2.length := by rw [ro2.len, List.length_map]
          rw [List.length_map] at hi
          have h200 : op.length ≤ 200 * 200 := Nat.le_trans lop (Nat.mul_le_mul_right _ (by omega))
          have s510 := same_trans s59 sm
          have nol5 : H5 ol = none := n_ol
          refine ⟨ol, D2, os, us2, rfl, rfl, hol10, hD2, Nat.le_trans (show os.length + us2.length ≤ 50000 by omega) (by decide), _, _, _, op ++ op2, os ++ us2, rfl, same_mut s510 nol5, fun c hc => ?_, ?_, upd_same, ?_, ?_, fun t ht => ?_⟩
          · by_cases e : c = ol
            · rw [e, upd_same] at hc
              cases hc
            · rw [upd_ne e] at hc
              exact bk9 c (same_back sm hc)
          · exact upd_at (sm _ _ (s9 _ _ hso8)) dso
          · rw [List.map_append]
            refine RepL.app (((rop.same s9).same sm).ex_mut (by simp)) ((ro2.wk fun c hc => ?_).ex_mut (by simp))
            exact ex_fr ka5 c (bk9 c hc.1)
          · rw [List.length_append, Nat.add_mul, Nat.one_mul]
            omega
          · rcases List.mem_append.mp ht with ht | ht
            · exact hop t ht
            · exact ho2 t ht
      · rintro σ H8 ⟨v6, v10, v12, op, os, rfl, s58, bk8, hso8, hol8, rop, lop, hop⟩
        rw [List.length_map] at lop
        exact hn _ _ ⟨v6, v10, v12, op, os, rfl, s58, hol8, rop, Nat.le_trans lop (Nat.mul_le_mul_right _ lms1), hop⟩
    rintro σ H7 ⟨v6, v10, v12, op, os, rfl, s57, hol7, rop, lop, hop⟩
    have ra7 := ra5.same s57
    have rb7 := rb5.same s57
    have ru7 := ru5.same s57
    have rms7 := rms5.same s57
    have hlo7 := s57 _ _ hlo5
    have S7 := S5.same s57
    have hpa7 := s57 _ _ hpa5
    have hpb7 := s57 _ _ hpb5
    have kp7 := kp5.trans (.of s57)
    have lws5 : ws.length ≤ 12 := by rw [rms5.len, List.length_map]; exact lms5
    have los : os.length = op.length := by rw [rop.len, List.length_map]
    refine viaS (t1 := tIfS _ _ _) (fun σ H8 => ∃ (ms : List Near) (ws : List V), σ = [some (.ref a), some (.ref p), some (.ref pa), some (.ref pb), some u, some (.ref lo), v6, v7, v8, v9, v10, some (.ref ol), v12] ∧ Kp a b H H8 ∧ Strm a b m H8 ∧ Rep K (Ex [lo, a, b]) H8 (.web n) u ∧ H8 lo = some (.lst ws) ∧
        RepL K (Ex [lo, a, b]) H8 (ms.map Dt.web) ws ∧ ms.length ≤ 13 ∧ ∀ m ∈ ms, nearEq n m = false) (fun nx hn => ?_) ?_
    · refine ⟨_, rfl, by show 0 ≤ sizeLine; decide, ?_⟩
      intro e0 n_e0
      have e_e0 : upd H7 e0 (.lst []) e0 = some (.lst []) := upd_same
      have s_e0 : Same H7 (upd H7 e0 (.lst [])) := same_new n_e0
      generalize upd H7 e0 (.lst []) = H8 at e_e0 s_e0 ⊢
      have hol8 := s_e0 _ _ hol7
      refine ⟨ol, e0, os, rfl, rfl, SqL.of hol8, SqL.of e_e0, _, rfl, ?_⟩
      cases hos : os.isEmpty with
      | true => exact iteF (next_i (hn _ _ ⟨ms, ws, rfl, kp7.trans (.of s_e0), (S7.same s_e0).le (by omega), ru7.same s_e0, s_e0 _ _ hlo7, rms7.same s_e0, by omega, hms5⟩))
      | false =>
        refine iteT ?_
        have hlen : 0 < os.length := List.length_pos_iff.mpr fun e => by
          rw [e] at hos
          cases hos
        have S8 := S7.same s_e0
        have ools : ol ≠ a ∧ ol ≠ b := S5.off n_ol
        refine ⟨_, rfl, .inl ⟨rfl, ws, SqL.of (s_e0 _ _ hlo7)⟩, ?_⟩
        refine ⟨_, rfl, _, rfl, _, rfl, _, rfl, a, b, ol, m, os, rfl, S8, hol8, ools.1, ools.2, hlen, by omega, fun H9 xv hx kp9 S9 => ⟨by show 1 ≤ sizeLine; decide, ?_⟩⟩
        obtain ⟨dt, hdt, hrt⟩ := (rop.same s_e0).mem xv hx
        obtain ⟨⟨x, y, hh⟩, ht, rfl⟩ := List.mem_map.mp hdt
        obtain ⟨mx, my, mlt, h0, hno⟩ := hop _ ht
        dsimp only at mx my mlt h0 hno
        subst h0
        have hrt9 := hrt.ex_kp kp9 (by simp) (by simp)
        intro l1' n_l1'
        have e_l1' : upd H9 l1' (.lst [xv]) l1' = some (.lst [xv]) := upd_same
        have s_l1' : Same H9 (upd H9 l1' (.lst [xv])) := same_new n_l1'
        generalize upd H9 l1' (.lst [xv]) = H10 at e_l1' s_l1' ⊢
        have oEb := oab (l := [lo]) nEb5
        have oEa := oab (l := [lo]) nEa5
        have hpb9 := kp9 _ _ (s_e0 _ _ hpb7) oEb.1 oEb.2
        have hlo9 := kp9 _ _ (s_e0 _ _ hlo7) olo.1 olo.2
        refine ⟨pb, l1', vs5, _, rfl, rfl, s_l1' _ _ hpb9, e_l1', Nat.le_trans (show vs5.length + 1 ≤ 1001 by omega) (by decide), ?_⟩
        intro lc n_lc
        have e_lc : upd H10 lc (.lst (vs5 ++ [xv])) lc = some (.lst (vs5 ++ [xv])) := upd_same
        have s_lc : Same H10 (upd H10 lc (.lst (vs5 ++ [xv]))) := same_new n_lc
        generalize upd H10 lc (.lst (vs5 ++ [xv])) = H11 at e_lc s_lc ⊢
        have s911 := same_trans s_l1' s_lc
        have ra11 := ((ra7.same s_e0).ex_kp kp9 (by simp) (by simp)).same s911
        have rv11 := (((rvs5.same s57).same s_e0).ex_kp kp9 (by simp) (by simp)).same s911
        have rN11 : Rep K (fun _ => True) H11 (dTies (ts ++ [(x, y, 0)])) (.ref lc) := by
          refine ⟨lc, _, rfl, trivial, e_lc, ?_⟩
          rw [List.map_append]
          exact RepL.snoc (rv11.wk fun _ _ => trivial) ((hrt9.same s911).wk fun _ _ => trivial)
        refine ⟨.ref pa, .ref lc, rfl, webgo_ok (ra11.wk fun _ _ => trivial) rN11 hok.nd gd (open_new hok mx my mlt hno 0) (by omega) (by rw [List.length_append]; show ts.length + 1 ≤ 100000; omega) fun m1 w1 H12 hw1 s12 rw1 => ?_⟩
        have s912 := same_trans s911 s12
        have hlo12 := s912 _ _ hlo9
        have k11 : ∀ q ∈ [lo, a, b], H11 q ≠ none := fun q hq e => by
          have e := same_back s911 e
          obtain ⟨o, ta⟩ := S9.tra
          obtain ⟨o', tb⟩ := S9.trb
          simp only [List.mem_cons, List.not_mem_nil, or_false] at hq
          rcases hq with rfl | rfl | rfl
          · exact kno hlo9 e
          · exact kno ta e
          · exact kno tb e
        refine ⟨lo, ws, w1, rfl, rfl, hlo12, Nat.lt_of_le_of_lt lws5 (by decide), hn _ _ ⟨ms ++ [m1], ws ++ [w1], rfl, ?_, ?_, ?_, upd_same, ?_, by rw [List.length_append]; show ms.length + 1 ≤ 13; omega, fun m hm => ?_⟩⟩
        · exact kp_mut (((kp7.trans (.of s_e0)).trans kp9).trans (.of s912)) nlo
        · exact (S9.same s912).at_ (upd_ne olo.1.symm) (upd_ne olo.2.symm)
        · exact (((ru7.same s_e0).ex_kp kp9 (by simp) (by simp)).same s912).ex_mut (by simp)
        · rw [List.map_append]
          exact RepL.snoc ((((rms7.same s_e0).ex_kp kp9 (by simp) (by simp)).same s912).ex_mut (by simp)) ((rw1.wk (ex_fr k11)).ex_mut (by simp))
        · rcases List.mem_append.mp hm with hm | hm
          · exact hms5 m hm
          · rw [List.mem_singleton.mp hm]
            exact ne_open hok hw mx mlt hno hw1
    rintro σ H8 ⟨ms, ws, rfl, kp8, S8, ru8, hlo8, rms8, lms8, hms8⟩
    have lws8 : ws.length = ms.length := by rw [rms8.len, List.length_map]
    refine ⟨_, rfl, lo, rfl, ⟨_, SqL.of hlo8⟩, fun D nD => ?_⟩
    refine lc_it (walk_list (xs := ws)) (PvP D H8 fun j => List.replicate j (V.bl false)) (pv_zero nD rfl) (fun j H9 _ P => SqL.of (P.1 _ _ hlo8)) ?_ ?_
    · rintro j xv _ H9 hj P ⟨rfl, hxj⟩
      obtain ⟨dm, hdm, hrm⟩ := (rms8.same P.1).get hxj
      obtain ⟨mj, hmj, rfl⟩ := map_get hdm
      have hne := hms8 mj (List.mem_of_getElem? hmj)
      refine ⟨rfl, yesT ?_⟩
      refine ⟨_, rfl, _, rfl, n, .web mj, _, _, ru8.same P.1, hrm, ?_⟩
      dsimp only
      rw [hne]
      refine ⟨_, rfl, iteF ?_⟩
      refine ⟨_, rfl, _, rfl, n, .web mj, _, _, ru8.same P.1, hrm, ?_⟩
      dsimp only
      rw [hne]
      refine ⟨_, rfl, ?_⟩
      refine pv_add P (same_refl _) (List.replicate_succ' ..) ?_ nD
      rw [List.length_replicate]
      exact Nat.lt_of_le_of_lt (show j ≤ 13 by omega) (by decide)
    · rintro H9 ⟨sm, hD⟩
      dsimp only at hD
      rw [show List.replicate ws.length (V.bl false) = (List.replicate ws.length false).map V.bl by rw [List.map_replicate]] at hD
      refine ⟨D, _, rfl, SqL.of hD, ?_⟩
      have e2 : (List.replicate ws.length false).any id = false := by
        rw [List.any_eq_false]
        intro b hb
        rw [List.eq_of_mem_replicate hb]
        decide
      rw [e2]
      exact ⟨_, rfl, q H9 (kp8.trans (.of sm)) (S8.same sm)⟩
end
end Pw
set_option Elab.async false
set_option linter.all false
set_option maxRecDepth 100000
set_option maxHeartbeats 8000000
/-! Things that are no names. -/
namespace Pw
open PySem PySem.Spec PyProof.Rows L2
def oddS : List Str := ["", "A", "aB", "0a", "ninesigns", "a b", "a_b", "a\n", " a"]
def oddN : List Dt := [.non, .int 5, .bl true] ++ oddS.map Dt.str ++ [.seq true [.str "a"], .seq false [.str "a"], .dic []]
section
variable {P : Program} {w : World} {K : PySem.W.Frag} {mg : Str → Option Value} {base : Heap}
def spWordsL : Sp := fun vs H Q _ => vs = [] ∧ ∀ H' p, Same H H' → H p = none → H' p = some (.lst (words.map V.str)) → Q (.ref p) H'
theorem sc_law_a_words : FnScope ["_law_found"] [] (defScope s_law_a_words) := ⟨rfl, rfl, rfl, by decide +kernel, rfl, by decide +kernel, by decide +kernel⟩
theorem ok_words (T : Tx K mg) : Ok P w K mg base CX0 1 "_law_a_words" [] spWordsL := by
  refine mkOk (d := d_law_a_words) T 20 18 rfl rfl rfl rfl rfl (fun _ _ _ _ _ _ us hl => match us, hl with | [], _ => rfl) sc_law_a_words (fun vs H Q E h => ?_) (fun f cdv A outer s H vs Q E hr h => ?_)
  · obtain ⟨rfl, _⟩ := h
    rfl
  · obtain ⟨rfl, q⟩ := h
    have nd := sc_law_a_words.nd
    refine ⟨_, (pss_cons (ps_set (i := 0) nd rfl (Or.inl rfl) (pe_lst (pa_cons pe_str (pa_cons pe_str (pa_cons pe_str (pa_cons pe_str (pa_cons pe_str (pa_cons pe_str (pa_cons pe_str (pa_cons pe_str (pa_cons pe_str (pa_cons pe_str (pa_cons pe_str (pa_cons pe_str (pa_cons pe_str pa_nil)))))))))))))))
      (pss_one (ps_ret (pe_op op_cat (pv 0) (pe_lst (pa_cons pe_str pa_nil)))))), ?_⟩
    refine ⟨by show 13 ≤ sizeLine; decide, fun l nl => ?_⟩
    refine ⟨_, rfl, by show 1 ≤ sizeLine; decide, fun l1 nl1 => ?_⟩
    refine ⟨l, l1, _, _, rfl, rfl, upd_at upd_same (ne_of_none upd_same nl1), upd_same, by show 13 + 1 ≤ sizeLine; decide, fun p np => ?_⟩
    exact q _ p (same_trans (same_new nl) (same_trans (same_new nl1) (same_new np))) (same_back (same_trans (same_new nl) (same_new nl1)) np) upd_same
def spOdd (K : PySem.W.Frag) : Sp := fun vs H Q _ => ∃ (p : Addr) (ms : List Str), vs = [.ref p] ∧ H p = some (.lst (ms.map V.str)) ∧ ms.length ≤ 200 ∧ ∀ H' v, Same H H' → Rep K (Fr H) H' (.seq true (oddN ++ words.map Dt.str ++ ms.map Dt.str)) v → Q v H'
theorem sc_law_odd_names : FnScope ["_law_places", "_law_found"] ["_law_places"] (defScope s_law_odd_names) := ⟨rfl, rfl, rfl, by decide +kernel, rfl, by decide +kernel, by decide +kernel⟩
theorem ok_odd (T : Tx K mg) : Ok P w K mg base CX0 2 "_law_odd_names" ["_law_places"] (spOdd K) := by
  have G_a_words : Ok P w K mg base CX0 1 _ _ _ := ok_words T
  refine mkOk (d := d_law_odd_names) T 44 42 rfl rfl rfl rfl rfl (fun _ _ _ _ _ _ us hl => match us, hl with | [_], _ => rfl) sc_law_odd_names (fun vs H Q E h => ?_) (fun f cdv A outer s H vs Q E hr h => ?_)
  · obtain ⟨p, ms, rfl, _⟩ := h
    rfl
  · obtain ⟨p, ms, rfl, hp, hl, q⟩ := h
    have nd := sc_law_odd_names.nd
    refine ⟨_, (pss_cons (ps_set (i := 1) nd rfl (Or.inl rfl) (pe_lst (pa_cons pe_non (pa_cons pe_int (pa_cons pe_bl (pa_cons pe_str (pa_cons pe_str (pa_cons pe_str (pa_cons pe_str (pa_cons pe_str (pa_cons pe_str (pa_cons pe_str (pa_cons pe_str (pa_cons pe_str (pa_cons (pe_lst (pa_cons pe_str pa_nil)) (pa_cons (pe_tup (pa_cons pe_str pa_nil)) (pa_cons pe_dnewK pa_nil)))))))))))))))))
      (pss_one (ps_ret (pe_op op_cat (pe_op op_cat (pv 1) (pe_ok0 G_a_words (hr.mono (by omega)) pass0)) (pv 0))))), ?_⟩
    refine ⟨by show 1 ≤ sizeLine; decide, ?_⟩
    intro l1 n_l1
    have e_l1 : upd H l1 (.lst [.str "a"]) l1 = some (.lst [.str "a"]) := upd_same
    have s_l1 : Same H (upd H l1 (.lst [.str "a"])) := same_new n_l1
    generalize upd H l1 (.lst [.str "a"]) = H1 at e_l1 s_l1 ⊢
    refine ⟨by show 1 ≤ sizeLine; decide, ?_⟩
    intro t1 n_t1
    have e_t1 : upd H1 t1 (.tup [.str "a"]) t1 = some (.tup [.str "a"]) := upd_same
    have s_t1 : Same H1 (upd H1 t1 (.tup [.str "a"])) := same_new n_t1
    generalize upd H1 t1 (.tup [.str "a"]) = H2 at e_t1 s_t1 ⊢
    intro d1 n_d1
    have e_d1 : upd H2 d1 (.dK []) d1 = some (.dK []) := upd_same
    have s_d1 : Same H2 (upd H2 d1 (.dK [])) := same_new n_d1
    generalize upd H2 d1 (.dK []) = H3 at e_d1 s_d1 ⊢
    refine ⟨by show 15 ≤ sizeLine; decide, ?_⟩
    have full : ∀ {l : Addr} {H4 : Hp}, H3 l = none → H4 = upd H3 l (.lst ([V.non, .int 5, .bl true] ++ oddS.map V.str ++ [.ref l1, .ref t1, .ref d1])) → Same H3 H4 ∧ H4 l = some (.lst ([V.non, .int 5, .bl true] ++ oddS.map V.str ++ [.ref l1, .ref t1, .ref d1])) := fun nl e => by
      subst e
      exact ⟨same_new nl, upd_same⟩
    intro l nl
    obtain ⟨sl, el⟩ := full nl rfl
    show tSeq _ _ _ _ (upd H3 l (.lst ([V.non, .int 5, .bl true] ++ oddS.map V.str ++ [.ref l1, .ref t1, .ref d1])))
    generalize upd H3 l (.lst ([V.non, .int 5, .bl true] ++ oddS.map V.str ++ [.ref l1, .ref t1, .ref d1])) = H4 at sl el ⊢
    refine gName_i ?_
    dsimp only
    have s04 := same_trans s_l1 (same_trans s_t1 (same_trans s_d1 sl))
    refine ⟨_, rfl, ⟨rfl, fun H5 wp s5 nwp hwp => ⟨l, wp, _, _, rfl, rfl, s5 _ _ el, hwp, by show 15 + 14 ≤ sizeLine; decide, ?_⟩⟩⟩
    intro c1 nc1
    have sc1 : Same H5 (upd H5 c1 (.lst (([V.non, .int 5, .bl true] ++ oddS.map V.str ++ [.ref l1, .ref t1, .ref d1]) ++ words.map V.str))) := same_new nc1
    have ec1 : upd H5 c1 (.lst (([V.non, .int 5, .bl true] ++ oddS.map V.str ++ [.ref l1, .ref t1, .ref d1]) ++ words.map V.str)) c1 = _ := upd_same
    generalize upd H5 c1 (.lst (([V.non, .int 5, .bl true] ++ oddS.map V.str ++ [.ref l1, .ref t1, .ref d1]) ++ words.map V.str)) = H6 at sc1 ec1 ⊢
    have s06 := same_trans s04 (same_trans s5 sc1)
    refine ⟨_, rfl, c1, p, _, _, rfl, rfl, ec1, s06 _ _ hp, ?_, ?_⟩
    · rw [List.length_map]
      exact Nat.le_trans (show 29 + ms.length ≤ 229 by omega) (by decide)
    intro c2 nc2
    have s27 := same_trans sl (same_trans s5 (same_trans sc1 (same_new (o := .lst ((([V.non, .int 5, .bl true] ++ oddS.map V.str ++ [.ref l1, .ref t1, .ref d1]) ++ words.map V.str) ++ ms.map V.str)) nc2)))
    refine q _ _ (same_trans s06 (same_new nc2)) ⟨c2, _, rfl, same_back s06 nc2, upd_same, ?_⟩
    unfold oddN
    refine RepL.app (RepL.app (RepL.app (RepL.app ?_ ?_) ?_) ?_) ?_
    · exact ⟨_, _, rfl, rfl, _, _, rfl, rfl, _, _, rfl, rfl, rfl⟩
    · exact repL_strs.mpr rfl
    · exact ⟨_, _, rfl, ⟨l1, _, rfl, n_l1, s27 _ _ (s_d1 _ _ (s_t1 _ _ e_l1)), _, _, rfl, rfl, rfl⟩, _, _, rfl, ⟨t1, _, rfl, same_back s_l1 n_t1, s27 _ _ (s_d1 _ _ e_t1), _, _, rfl, rfl, rfl⟩, _, _, rfl, ⟨d1, rfl, same_back (same_trans s_l1 s_t1) n_d1, s27 _ _ e_d1⟩, rfl⟩
    · exact repL_strs.mpr rfl
    · exact repL_strs.mpr rfl
end
end Pw
set_option Elab.async false
set_option linter.all false
set_option maxRecDepth 100000
set_option maxHeartbeats 8000000
/-! What is refused, in plain words. -/
namespace Pw
open PySem PySem.Spec PyProof.Rows L2
def badNm (acc : List Str) (d : Dt) : Prop := ∀ s, d = .str s → ¬ (isNm s = true ∧ s ∉ acc)
theorem chkP_app : ∀ (ms : List Str) (i : Nat) (acc : List Str) (rest : List Dt), (acc ++ ms).Nodup → (∀ x ∈ ms, isNm x = true) → chkP i acc (ms.map Dt.str ++ rest) = chkP (i + ms.length) (acc ++ ms) rest
  | [], i, acc, rest, _, _ => by
    rw [List.append_nil]
    rfl
  | x :: ms, i, acc, rest, nd, h => by
    have hx : x ∉ acc := fun hin => by
      rw [List.nodup_append] at nd
      exact nd.2.2 x hin x List.mem_cons_self rfl
    show (if isNm x = true ∧ x ∉ acc then chkP (i + 1) (acc ++ [x]) (ms.map Dt.str ++ rest) else .inl i) = _
    rw [if_pos ⟨h x List.mem_cons_self, hx⟩, chkP_app ms (i + 1) (acc ++ [x]) rest (by rw [List.append_assoc]; exact nd) (fun y hy => h y (List.mem_cons_of_mem _ hy)), List.append_assoc, List.length_cons]
    rw [show i + 1 + ms.length = i + (ms.length + 1) by omega]
    rfl
theorem chkP_bad {i : Nat} {acc : List Str} {d : Dt} {ds : List Dt} (h : badNm acc d) : chkP i acc (d :: ds) = .inl i := by
  cases d with
  | str s => exact if_neg (h s rfl)
  | _ => rfl
theorem odd_bad {ns : List Str} : ∀ d ∈ oddN ++ words.map Dt.str ++ ns.map Dt.str, badNm ns d := fun d hd s e => by
  subst e
  rcases List.mem_append.mp hd with hd | hd
  · have h : (oddN ++ words.map Dt.str).all (fun d => match d with | .str s => !isNm s | _ => true) = true := by decide +kernel
    have := List.all_eq_true.mp h _ hd
    dsimp only at this
    rw [Bool.not_eq_true'] at this
    intro z
    rw [this] at z
    cases z.1
  · obtain ⟨x, hx, e⟩ := List.mem_map.mp hd
    cases e
    exact fun z => z.2 hx
theorem odd_len {ns : List Str} (h : ∀ x ∈ ns, isNm x = true) : ∀ s, Dt.str s ∈ oddN ++ words.map Dt.str ++ ns.map Dt.str → s.length ≤ 1000 := fun s hd => by
  rcases List.mem_append.mp hd with hd | hd
  · have h : (oddN ++ words.map Dt.str).all (fun d => match d with | .str s => decide (s.length ≤ 1000) | _ => true) = true := by decide +kernel
    have := List.all_eq_true.mp h _ hd
    exact of_decide_eq_true this
  · obtain ⟨x, hx, e⟩ := List.mem_map.mp hd
    cases e
    exact isNm_len (h _ hx)
theorem odd_dep {ns : List Str} : ∀ d ∈ oddN ++ words.map Dt.str ++ ns.map Dt.str, d.dep 3 = true ∧ d.cnt ≤ 1 := fun d hd => by
  rcases List.mem_append.mp hd with hd | hd
  · have h : (oddN ++ words.map Dt.str).all (fun d => d.dep 3 && decide (d.cnt ≤ 1)) = true := by decide +kernel
    obtain ⟨h1, h2⟩ := Bool.and_eq_true_iff.mp (List.all_eq_true.mp h _ hd)
    exact ⟨h1, of_decide_eq_true h2⟩
  · obtain ⟨x, hx, e⟩ := List.mem_map.mp hd
    cases e
    exact ⟨rfl, Nat.zero_le _⟩
def refD (ns : List Str) (i : Nat) (d : Dt) : Dt := .seq true ((ns.take i).map Dt.str ++ [d, .non] ++ (ns.drop i).map Dt.str)
theorem take_nd {ns : List Str} (h : ns.Nodup) (i : Nat) : (ns.take i).Nodup := h.sublist (List.take_sublist _ _)
theorem ref_places {ns : List Str} {i : Nat} {d d1 d2 : Dt} (hi : i ≤ ns.length) (nd : ns.Nodup) (gd : ∀ x ∈ ns, isNm x = true) (hb : badNm (ns.take i) d) (hl : d1.lax = (refD ns i d).lax) : chkW d1 d2 = .places i := by
  rw [chkW_lax hl (rfl : d2.lax = d2.lax)]
  unfold chkW
  have e : chkPlaces (refD ns i d) = .inl i := by
    show chkP 0 [] ((ns.take i).map Dt.str ++ [d, .non] ++ (ns.drop i).map Dt.str) = _
    rw [List.append_assoc, chkP_app (ns.take i) 0 [] _ (take_nd nd i) (fun x hx => gd x (List.mem_of_mem_take hx))]
    rw [show ([d, Dt.non] ++ (ns.drop i).map Dt.str) = d :: (Dt.non :: (ns.drop i).map Dt.str) from rfl]
    rw [chkP_bad (by rw [List.nil_append]; exact hb), List.length_take, Nat.zero_add, Nat.min_eq_left hi]
  rw [e]
theorem refd_few {ns : List Str} {i : Nat} {d : Dt} (hn : ns.length ≤ 1000) (gd : ∀ x ∈ ns, isNm x = true) (hd : ∀ s, d = .str s → s.length ≤ 1000) : (refD ns i d).few := by
  refine ⟨?_, fun s hs => ?_⟩
  · simp only [List.length_append, List.length_map, List.length_take, List.length_drop, List.length_cons, List.length_nil]
    omega
  · rcases List.mem_append.mp hs with hs | hs
    · rcases List.mem_append.mp hs with hs | hs
      · obtain ⟨x, hx, e⟩ := List.mem_map.mp hs
        cases e
        exact isNm_len (gd _ (List.mem_of_mem_take hx))
      · simp only [List.mem_cons, List.not_mem_nil, or_false] at hs
        rcases hs with e | e
        · exact hd s e.symm
        · cases e
    · obtain ⟨x, hx, e⟩ := List.mem_map.mp hs
      cases e
      exact isNm_len (gd _ (List.mem_of_mem_drop hx))
theorem cntL_app : ∀ (ds es : List Dt), Dt.cntL (ds ++ es) = Dt.cntL ds + Dt.cntL es
  | [], es => (Nat.zero_add _).symm
  | d :: ds, es => by
    show d.cnt + Dt.cntL (ds ++ es) = d.cnt + Dt.cntL ds + Dt.cntL es
    rw [cntL_app ds es, Nat.add_assoc]
theorem depL_app {n : Nat} : ∀ {ds es : List Dt}, Dt.depL n ds = true → Dt.depL n es = true → Dt.depL n (ds ++ es) = true
  | [], es, _, h => h
  | d :: ds, es, h, h' => by
    obtain ⟨h1, h2⟩ := Bool.and_eq_true_iff.mp (show (Dt.dep n d && Dt.depL n ds) = true from h)
    show (Dt.dep n d && Dt.depL n (ds ++ es)) = true
    rw [h1, depL_app h2 h']
    rfl
theorem depL_strs (n : Nat) (ns : List Str) : Dt.depL (n + 1) (ns.map Dt.str) = true := depL_all fun d hd => by
  obtain ⟨x, _, rfl⟩ := List.mem_map.mp hd
  rfl
theorem depL_ties (n : Nat) (ts : List Tie) : Dt.depL (n + 2) (ts.map dTie) = true := depL_all fun d hd => by
  obtain ⟨x, _, rfl⟩ := List.mem_map.mp hd
  rfl
theorem refd_dep {ns : List Str} {i : Nat} {d : Dt} (hn : ns.length ≤ 1000) (hd : d.dep 3 = true) : (refD ns i d).dep 4 = true := by
  have hl : ((ns.take i).map Dt.str ++ [d, .non] ++ (ns.drop i).map Dt.str).length ≤ 100000 := by
    simp only [List.length_append, List.length_map, List.length_take, List.length_drop, List.length_cons, List.length_nil]
    omega
  show (decide (_ ≤ 100000) && Dt.depL 3 _) = true
  rw [decide_eq_true hl, depL_app (depL_app (depL_strs 2 _) ?_) (depL_strs 2 _)]
  · rfl
  · show (Dt.dep 3 d && (true && true)) = true
    rw [hd]
    rfl
theorem refd_cnt {ns : List Str} {i : Nat} {d : Dt} (hd : d.cnt ≤ 1) : (refD ns i d).cnt ≤ 2 := by
  show 1 + Dt.cntL ((ns.take i).map Dt.str ++ [d, .non] ++ (ns.drop i).map Dt.str) ≤ 2
  rw [cntL_app, cntL_app, cnt_strs, cnt_strs]
  show 1 + (0 + (d.cnt + (0 + 0)) + 0) ≤ 2
  omega
/-! ### ties -/
def badTie (ns : List Str) (acc : List Tie) (d : Dt) : Prop := ∀ t, tieOf d = some t → ¬ (t.1 ∈ ns ∧ t.2.1 ∈ ns ∧ t.1 ≠ t.2.1 ∧ pn t ∉ acc.map pn)
theorem chkT_app {ns : List Str} : ∀ (ts : List Tie) (i : Nat) (acc : List Tie) (rest : List Dt), AccOk ns (acc ++ ts) → chkT ns i acc (ts.map dTie ++ rest) = chkT ns (i + ts.length) (acc ++ ts) rest
  | [], i, acc, rest, _ => by
    rw [List.append_nil]
    rfl
  | t :: ts, i, acc, rest, A => by
    have h := A.mem t (List.mem_append.mpr (.inr List.mem_cons_self))
    have hn : pn t ∉ acc.map pn := fun hin => by
      have nd := A.nd
      rw [List.map_append, List.nodup_append] at nd
      exact nd.2.2 _ hin _ List.mem_cons_self rfl
    rw [List.map_cons, List.cons_append, chkT_good (t := t) rfl ⟨h.1, h.2.1, h.2.2, hn⟩, chkT_app ts _ _ _ (by rw [List.append_assoc]; exact A), List.append_assoc, List.length_cons]
    rw [show i + 1 + ts.length = i + (ts.length + 1) by omega]
    rfl
theorem chkT_badT {ns : List Str} {i : Nat} {acc : List Tie} {d : Dt} {ds : List Dt} (h : badTie ns acc d) : chkT ns i acc (d :: ds) = .inl i := by
  cases e : tieOf d with
  | none => exact chkT_none e
  | some t => exact chkT_bad e (h t e)
def oddT (x y : Str) : List Dt := [.non, .int 5, .str "abc", .seq true [], .seq true [.str x, .str y], .seq true [.str x, .str y, .int 1, .int 1], .seq false [.str x, .str x, .int 0], .seq true [.str x, .str "nobody", .int 1], .seq true [.non, .str y, .int 2]] ++
  [.seq true [.seq true [.str x], .str y, .int 1], .seq false [.str x, .str y, .non], .seq false [.str x, .str y, .bl true], .seq false [.str x, .str y, .str "1"], .seq false [.str x, .str y, .seq true [.int 1]], .dic []]
def flipT (t : Tie) : Tie := (t.2.1, t.1, t.2.2 + 1)
theorem oddT_bad {ns : List Str} {acc : List Tie} {x y : Str} (hno : ("nobody" : Str) ∉ ns) : ∀ d ∈ oddT x y ++ acc.map dTie ++ (acc.map flipT).map dTie, badTie ns acc d := fun d hd t e => by
  rcases List.mem_append.mp hd with hd | hd
  · rcases List.mem_append.mp hd with hd | hd
    · unfold oddT at hd
      simp only [List.cons_append, List.nil_append, List.mem_cons, List.not_mem_nil, or_false] at hd
      rcases hd with rfl | rfl | rfl | rfl | rfl | rfl | rfl | rfl | rfl | rfl | rfl | rfl | rfl | rfl | rfl <;> cases e
      · exact fun z => z.2.2.1 rfl
      · exact fun z => hno z.2.1
    · obtain ⟨u, hu, rfl⟩ := List.mem_map.mp hd
      cases e
      exact fun z => z.2.2.2 (List.mem_map.mpr ⟨_, hu, rfl⟩)
  · obtain ⟨u', hu', rfl⟩ := List.mem_map.mp hd
    obtain ⟨u, hu, rfl⟩ := List.mem_map.mp hu'
    cases e
    exact fun z => z.2.2.2 (List.mem_map.mpr ⟨_, hu, pr_comm _ _⟩)
theorem oddT_few {acc : List Tie} {x y : Str} : ∀ d ∈ oddT x y ++ acc.map dTie ++ (acc.map flipT).map dTie, (∀ s, d = .str s → s.length ≤ 1000) ∧ d.dep 3 = true ∧ d.cnt ≤ 2 := fun d hd => by
  rcases List.mem_append.mp hd with hd | hd
  · rcases List.mem_append.mp hd with hd | hd
    · unfold oddT at hd
      simp only [List.cons_append, List.nil_append, List.mem_cons, List.not_mem_nil, or_false] at hd
      rcases hd with rfl | rfl | rfl | rfl | rfl | rfl | rfl | rfl | rfl | rfl | rfl | rfl | rfl | rfl | rfl <;> refine ⟨fun s e => ?_, rfl, Nat.le_of_ble_eq_true rfl⟩ <;> cases e
      decide +kernel
    · obtain ⟨u, hu, rfl⟩ := List.mem_map.mp hd
      exact ⟨fun s e => (nomatch e), rfl, show 1 ≤ 2 by decide⟩
  · obtain ⟨u', hu', rfl⟩ := List.mem_map.mp hd
    exact ⟨fun s e => (nomatch e), rfl, show 1 ≤ 2 by decide⟩
def tieD (ts : List Tie) (i : Nat) (d : Dt) : Dt := .seq true ((ts.take i).map dTie ++ [d, .non] ++ (ts.drop i).map dTie)
theorem ref_ties {ns : List Str} {ts : List Tie} {i : Nat} {d d2 : Dt} (hi : i ≤ ts.length) (nd : ns.Nodup) (gd : ∀ x ∈ ns, isNm x = true) (A : AccOk ns ts) (hb : badTie ns (ts.take i) d) (hl : d2.lax = (tieD ts i d).lax) : chkW (dStrs ns) d2 = .ties i := by
  rw [chkW_lax (rfl : (dStrs ns).lax = (dStrs ns).lax) hl]
  unfold chkW
  rw [show chkPlaces (dStrs ns) = .inr ns from chkP_ok ns 0 [] nd gd]
  dsimp only
  have e : chkTies ns (tieD ts i d) = .inl i := by
    show chkT ns 0 [] ((ts.take i).map dTie ++ [d, .non] ++ (ts.drop i).map dTie) = _
    rw [List.append_assoc, chkT_app (ts.take i) 0 [] _ (acc_sub A (List.take_sublist _ _))]
    rw [show ([d, Dt.non] ++ (ts.drop i).map dTie) = d :: (Dt.non :: (ts.drop i).map dTie) from rfl]
    rw [chkT_badT (by rw [List.nil_append]; exact hb), List.length_take, Nat.zero_add, Nat.min_eq_left hi]
  rw [e]
theorem tie_few {ts : List Tie} {i : Nat} {d : Dt} (hn : ts.length ≤ 1000) (hd : ∀ s, d = .str s → s.length ≤ 1000) : (tieD ts i d).few := by
  refine ⟨?_, fun s hs => ?_⟩
  · simp only [List.length_append, List.length_map, List.length_take, List.length_drop, List.length_cons, List.length_nil]
    omega
  · rcases List.mem_append.mp hs with hs | hs
    · rcases List.mem_append.mp hs with hs | hs
      · obtain ⟨x, hx, e⟩ := List.mem_map.mp hs
        cases e
      · simp only [List.mem_cons, List.not_mem_nil, or_false] at hs
        rcases hs with e | e
        · exact hd s e.symm
        · cases e
    · obtain ⟨x, hx, e⟩ := List.mem_map.mp hs
      cases e
theorem tie_dep {ts : List Tie} {i : Nat} {d : Dt} (hn : ts.length ≤ 1000) (hd : d.dep 3 = true) : (tieD ts i d).dep 4 = true := by
  have hl : ((ts.take i).map dTie ++ [d, .non] ++ (ts.drop i).map dTie).length ≤ 100000 := by
    simp only [List.length_append, List.length_map, List.length_take, List.length_drop, List.length_cons, List.length_nil]
    omega
  show (decide (_ ≤ 100000) && Dt.depL 3 _) = true
  rw [decide_eq_true hl, depL_app (depL_app (depL_ties 1 _) ?_) (depL_ties 1 _)]
  · rfl
  · show (Dt.dep 3 d && (true && true)) = true
    rw [hd]
    rfl
theorem tie_cnt {ts : List Tie} {i : Nat} {d : Dt} (hn : ts.length ≤ 1000) (hd : d.cnt ≤ 2) : (tieD ts i d).cnt ≤ 1003 := by
  show 1 + Dt.cntL ((ts.take i).map dTie ++ [d, .non] ++ (ts.drop i).map dTie) ≤ 1003
  rw [cntL_app, cntL_app, cnt_ties, cnt_ties, List.length_take, List.length_drop]
  show 1 + (min i ts.length + (d.cnt + (0 + 0)) + (ts.length - i)) ≤ 1003
  omega
/-! ### what is no place -/
def oddP (x : Str) (n : Near) : List Dt := [.non, .int 5, .str "nobody", .str "", .seq true [.str x], .seq false [.str x], .dic [], .bl true, .web n]
theorem oddP_bad {ns : List Str} {ts : List Tie} {n : Near} {x : Str} (hok : RawOk ns ts) (w : WebOf ns ts n) : ∀ d ∈ oddP x n, (∀ q ∈ n, d ≠ .str q.1) ∧ d.smp 6 = true := fun d hd => by
  have mem : ∀ q ∈ n, q.1 ∈ ns := fun q hq => (w.mem _).mp (List.mem_map.mpr ⟨q, hq, rfl⟩)
  unfold oddP at hd
  simp only [List.mem_cons, List.not_mem_nil, or_false] at hd
  rcases hd with rfl | rfl | rfl | rfl | rfl | rfl | rfl | rfl | rfl <;> refine ⟨fun q hq e => ?_, rfl⟩ <;> first | (cases e; done) | injection e with e
  · exact (hok.gd _ (mem q hq)).2.2 e.symm
  · have := (hok.gd _ (mem q hq)).1
    rw [← e] at this
    exact absurd this (by decide +kernel)
end Pw
set_option Elab.async false
set_option linter.all false
set_option maxRecDepth 100000
set_option maxHeartbeats 8000000
/-! What is none is refused. -/
namespace Pw
open PySem PySem.Spec PyProof.Rows L2 LamX
theorem passX {X : Cx} {E : XK} {s₀ : Shared} {H₀ : Hp} (hs : X.stack = X.env :: X.outer := by rfl) (hf : X.env.frame = some X.env.locals := by rfl) (hex : X.ex = [] := by rfl) {E₁ : Value → Shared → Prop}
    (hx : X.xe = fun e s' => wpAny (model X.prog X.w) X.A (leaving X.env e) (fun _ s'' => L2.CX X.prog X.w X.outer X.H_0 X.s_0 E e s'') E₁ s') : Passes (L2.CX X.prog X.w) X E := passes_call (takes_of hs hf hex hx) fun _ _ _ _ h => h
section
variable {K : PySem.W.Frag} {H : Hp} {σ : L2.St} {Q : VK}
/-- xs[:i] + [o, None] + xs[i:] -/
theorem mid_list {k : Nat} {pa : Addr} {xs : List V} {i : Nat} {o : V} (h1 : σ[k]? = some (some (.ref pa))) (h2 : σ[4]? = some (some (.int (i : Nat)))) (h3 : σ[5]? = some (some o)) (hp : H pa = some (.lst xs)) (hl : xs.length ≤ 100000)
    (q : ∀ H' c, Same H H' → H c = none → H' c = some (.lst (xs.take i ++ [o, .non] ++ xs.drop i)) → Q (.ref c) H') :
    tOp rCat (tOp rCat (tSl (rSlL K) (tVar k) tNoPart (tPart (tVar 4))) (tLst (tCons (tVar 5) (tCons (tC .non) tNil)))) (tSl (rSlL K) (tVar k) (tPart (tVar 4)) tNoPart) σ H Q := by
  refine ⟨_, h1, _, h2, _, rfl, pa, xs, rfl, SqL.of hp, ?_⟩
  rw [cut_to]
  intro p1 n_p1
  have e_p1 : upd H p1 (.lst (xs.take i)) p1 = some (.lst (xs.take i)) := upd_same
  have s_p1 : Same H (upd H p1 (.lst (xs.take i))) := same_new n_p1
  generalize upd H p1 (.lst (xs.take i)) = H1 at e_p1 s_p1 ⊢
  refine ⟨_, h3, by show 2 ≤ sizeLine; decide, ?_⟩
  intro p2 n_p2
  have e_p2 : upd H1 p2 (.lst [o, .non]) p2 = some (.lst [o, .non]) := upd_same
  have s_p2 : Same H1 (upd H1 p2 (.lst [o, .non])) := same_new n_p2
  generalize upd H1 p2 (.lst [o, .non]) = H2 at e_p2 s_p2 ⊢
  have l1 : (xs.take i).length ≤ 100000 := Nat.le_trans (List.length_take_le' _ _) hl
  have l2 : (xs.drop i).length ≤ 100000 := by rw [List.length_drop]; omega
  refine ⟨p1, p2, _, _, rfl, rfl, s_p2 _ _ e_p1, e_p2, Nat.le_trans (show (xs.take i).length + 2 ≤ 100002 by omega) (by decide), ?_⟩
  intro p3 n_p3
  have e_p3 : upd H2 p3 (.lst (xs.take i ++ [o, .non])) p3 = some (.lst (xs.take i ++ [o, .non])) := upd_same
  have s_p3 : Same H2 (upd H2 p3 (.lst (xs.take i ++ [o, .non]))) := same_new n_p3
  generalize upd H2 p3 (.lst (xs.take i ++ [o, .non])) = H3 at e_p3 s_p3 ⊢
  have s03 := same_trans s_p1 (same_trans s_p2 s_p3)
  refine ⟨_, h1, _, h2, _, rfl, pa, xs, rfl, SqL.of (s03 _ _ hp), ?_⟩
  rw [cut_from]
  intro p4 n_p4
  have e_p4 : upd H3 p4 (.lst (xs.drop i)) p4 = some (.lst (xs.drop i)) := upd_same
  have s_p4 : Same H3 (upd H3 p4 (.lst (xs.drop i))) := same_new n_p4
  generalize upd H3 p4 (.lst (xs.drop i)) = H4 at e_p4 s_p4 ⊢
  refine ⟨p3, p4, _, _, rfl, rfl, s_p4 _ _ e_p3, e_p4, ?_, ?_⟩
  · rw [List.length_append]
    exact Nat.le_trans (show (xs.take i).length + 2 + (xs.drop i).length ≤ 200002 by omega) (by decide)
  · intro c nc
    exact q _ c (same_trans (same_trans s03 s_p4) (same_new nc)) (same_back (same_trans s03 s_p4) nc) upd_same
/-- not known, or a table -/
def Fn (H : Hp) (c : Addr) : Prop := ∀ o, H c = some o → ∃ ps, o = .tbl ps
theorem fn_ext {H H1 : Hp} {c : Addr} (e : ExtN H H1) (h : H1 c = none) : Fn H c := fun o ho => Classical.byContradiction fun hn => by
  have := e c o ho fun ps z => hn ⟨ps, z⟩
  rw [h] at this
  cases this
theorem kpn_mut {a b : Addr} {H H' : Hp} {c : Addr} {o : HO} (k : KpN a b H H') (h : Fn H c) : KpN a b H (upd H' c o) := fun x u hx hn ha hb => by
  refine upd_at (k x u hx hn ha hb) fun e => ?_
  rw [e] at hx
  obtain ⟨ps, z⟩ := h u hx
  exact hn ps z
theorem tabs_mut {H : Hp} {c : Addr} {o : HO} {xs : List V} {T : List (Addr × Str)} (t : Tabs T H) (h : H c = some (.lst xs)) : Tabs T (upd H c o) := fun p hp => by
  obtain ⟨ps, h1, h2, h3⟩ := t p hp
  have nc : ∀ {x : Addr} {u : HO}, H x = some u → (∀ xs, u ≠ .lst xs) → x ≠ c := fun {x u} hx hn e => by
    rw [e, h] at hx
    exact hn _ (Option.some.inj hx).symm
  refine ⟨ps, upd_at h1 (nc h1 fun xs z => by cases z), h2, fun pos cv hc => ?_⟩
  obtain ⟨x, e1, e2⟩ := h3 pos cv hc
  exact ⟨x, e1, upd_at e2 (nc e2 fun xs z => by
    unfold CodeO at z
    cases z)⟩
def odd5 : List Dt := [.non, .int 5, .str "ann", .bl true, .dic [(Sum.inr "a", .int 1)]]
theorem odd5_no : ∀ d ∈ odd5, (∀ d2, chkW d d2 = .places 0) ∧ (∀ ns, chkTies ns d = .inl 0) ∧ d.few := fun d hd => by
  unfold odd5 at hd
  simp only [List.mem_cons, List.not_mem_nil, or_false] at hd
  rcases hd with rfl | rfl | rfl | rfl | rfl <;> exact ⟨fun _ => rfl, fun _ => rfl, trivial⟩
theorem chk_ties0 {ns : List Str} {d : Dt} (nd : ns.Nodup) (gd : ∀ x ∈ ns, isNm x = true) (h : chkTies ns d = .inl 0) : chkW (dStrs ns) d = .ties 0 := by
  unfold chkW
  rw [show chkPlaces (dStrs ns) = .inr ns from chkP_ok ns 0 [] nd gd]
  dsimp only
  rw [h]
/-- a lambda that is refused -/
theorem refused {t : XK → TE} {x f tag : Str} {y : V} (hT : Tabs (tabsT K) H) (hm : (x, f, tag) ∈ mets) (h : ∀ (H1 : Hp) (E : XK) (Q' : VK), ExtN H H1 → Tabs (tabsT K) H1 → RaiseX K x f y H1 E → t E σ H1 Q')
    (q : ∀ (p : Addr) (H1 H' : Hp), ExtN H H1 → Tabs (tabsT K) H1 → Same H1 H' → H1 p = none → H' p = some (.tup [.str tag, y]) → Q (.ref p) H') : tMet K t σ H Q :=
  ⟨hT, fun H1 eN T1 => h H1 _ _ eN T1 (met_raise hm fun p H' s np hp => q p H1 H' eN T1 s np hp)⟩
theorem rep_two {N : Addr → Prop} {tag : Str} {d : Dt} {y : V} {p : Addr} (h : H p = some (.tup [.str tag, y])) (hd : Rep K N H d y) : Rep K (fun _ => True) H (.seq false [.str tag, d]) (.ref p) := ⟨p, _, rfl, trivial, h, _, _, rfl, rfl, _, _, rfl, hd.wk fun _ _ => trivial, rfl⟩
theorem kpn_off {a b : Addr} : ∀ c, Ex [a, b] c → c ≠ a ∧ c ≠ b := fun c hc => ⟨fun e => hc (by rw [e]; simp), fun e => hc (by rw [e]; simp)⟩
theorem Strm.fr {a b : Addr} {n : Nat} (S : Strm a b n H) : ∀ c, Fr H c → Ex [a, b] c := ex_fr fun q hq => by
  obtain ⟨o, ta⟩ := S.tra
  obtain ⟨o', tb⟩ := S.trb
  simp only [List.mem_cons, List.not_mem_nil, or_false] at hq
  rcases hq with rfl | rfl
  · exact kno ta
  · exact kno tb
end
section
variable {P : Program} {w : World} {K : PySem.W.Frag} {mg : Str → Option Value} {base : Heap}
def spRef (K : PySem.W.Frag) : Sp := fun vs H Q _ => ∃ (a b : Addr) (v : V) (N : Addr → Prop) (ns : List Str) (ts : List Tie) (m : Nat), vs = [.ref a, v] ∧ Rep K N H (dRaw ns ts) v ∧ (∀ c, N c → c ≠ a ∧ c ≠ b) ∧ RawOk ns ts ∧ 2 ≤ ns.length ∧ Strm a b (m + 10000000) H ∧ Tabs (tabsT K) H ∧
  ∀ H', KpN a b H H' → Strm a b m H' → Tabs (tabsT K) H' → Q (.bl true) H'
theorem sc_law_refused_right : FnScope ["_law_stream", "_law_raw", "_law_places", "_law_ties", "_law_at", "_law_odd", "_law_some", "_law_found", "_law_one", "_law_other", "_law_odds", "_law_x", "_law_y", "_law_height", "_law_web"] ["_law_stream", "_law_raw"] (defScope s_law_refused_right) := ⟨rfl, rfl, rfl, by decide +kernel, rfl, by decide +kernel, by decide +kernel⟩
theorem ok_ref (T : Tx K mg) (TB : TabB base mg (tabR K).1 (tabR K).2) : OkG P w K mg base 12 "_law_refused_right" ["_law_stream", "_law_raw"] (spRef K) := by
  have G_draw : Ok P w K mg base CX0 1 _ _ _ := ok_draw T
  have G_init : OkM P w K mg base (L2.CX P w) 4 "Web" "__init__" _ _ := ok_init T
  have G_ties_of : OkM P w K mg base (L2.CX P w) 3 "Web" "ties_of" _ _ := ok_ties_of T
  have G_same : Ok P w K mg base CX0 10 _ _ _ := ok_same T 8
  have G_loose : Ok P w K mg base CX0 6 _ _ _ := ok_loose T 4
  have G_odd_names : Ok P w K mg base CX0 2 _ _ _ := ok_odd T
  refine mkG (d := d_law_refused_right) T 45 43 rfl rfl rfl rfl rfl (fun _ _ _ _ _ _ us hl => match us, hl with | [_, _], _ => rfl) sc_law_refused_right (fun vs H Q E h => ?_) (fun f c A outer s H vs Q E ec gd hr h => ?_)
  · obtain ⟨a, b, v, N, ns, ts, m, rfl, _⟩ := h
    rfl
  · obtain ⟨a, b, v, N, ns, ts, m, rfl, hrep, hN, hok, h2, hS, hTab, q⟩ := h
    have nd := sc_law_refused_right.nd
    have hu := hu_of hr
    subst ec
    have hmR : ((tabR K).2, qR) ∈ tabsT K := List.mem_cons_self
    refine ⟨_, (pss_cons (ps_asg (pv 1) (k_tup (K := K) (n := 2) rfl (pgs_cons (pg_name (i := 2) nd rfl (Or.inr rfl)) (pgs_cons (pg_name (i := 3) nd rfl (Or.inl rfl)) pgs_nil))))
      (pss_cons (ps_set (i := 4) nd rfl (Or.inl rfl) (pe_ok G_draw (hr.mono (by omega)) pass0 (pa_cons (pv 0) (pa_cons (pe_op op_add (pe_callB (k_len (K := K)) (by rfl) T.len (by decide +kernel) (pa_cons (pv 2) pa_nil)) pe_int) pa_nil))))
      (pss_cons (ps_for PassesOwn.never rfl (k_pl (K := K) (pe_ok G_odd_names (hr.mono (by omega)) pass0 (pa_cons (pe_slice (k_slL (K := K)) (pv 2) po_none (po_some (pv 4))) pa_nil))) (pg_name (i := 5) nd rfl (Or.inr rfl))
      (pss_cons (ps_set (i := 6) nd rfl (Or.inr rfl) (pe_ok G_loose (hr.mono (by omega)) pass0 (pa_cons (pv 0) (pa_cons (pe_op op_cat (pe_op op_cat (pe_slice (k_slL (K := K)) (pv 2) po_none (po_some (pv 4))) (pe_lst (pa_cons (pv 5) (pa_cons pe_non pa_nil)))) (pe_slice (k_slL (K := K)) (pv 2) (po_some (pv 4)) po_none)) pa_nil))))
      (pss_one (ps_if (pt_not (pt_val (pe_ok G_same (hr.mono (by omega)) pass0 (pa_cons (pe_met (K := K) T TB rfl hmR (hr.mono (by omega)) (k := 6) (fun A outer s H E f c hr => pe_web T G_init (hr.mono (by omega)) (passes_call (takes_of rfl rfl rfl rfl) (fun _ _ _ _ h => h)) (pa_cons (pv 6) (pa_cons pe_non pa_nil)))) (pa_cons (pe_tup (pa_cons pe_str (pa_cons (pv 4) pa_nil))) pa_nil))))) (pss_one (ps_ret pe_bl)) pss_nil))))
      (pss_cons (ps_for PassesOwn.never rfl (k_pt (K := K) (pe_tup (pa_cons pe_non (pa_cons pe_int (pa_cons pe_str (pa_cons pe_bl (pa_cons (pe_disp (pps_cons pe_str pe_int pps_nil) (by rfl) (by rfl) (fun z => by cases z) (by decide)) pa_nil))))))) (pg_name (i := 5) nd rfl (Or.inr rfl))
      (pss_cons (ps_set (i := 7) nd rfl (Or.inl rfl) (pe_lst (pa_cons (pe_met (K := K) T TB rfl hmR (hr.mono (by omega)) (k := 6) (fun A outer s H E f c hr => pe_web T G_init (hr.mono (by omega)) (passes_call (takes_of rfl rfl rfl rfl) (fun _ _ _ _ h => h)) (pa_cons (pv 5) (pa_cons pe_non pa_nil)))) pa_nil)))
      (pss_cons (ps_expr (k_bm (K := K) PySem.F.plainAttrs_list PySem.F.slot_list_append PySem.F.type_list_append mt_append (pv 7) (pa_cons (pe_met (K := K) T TB rfl hmR (hr.mono (by omega)) (k := 6) (fun A outer s H E f c hr => pe_web T G_init (hr.mono (by omega)) (passes_call (takes_of rfl rfl rfl rfl) (fun _ _ _ _ h => h)) (pa_cons (pv 2) (pa_cons (pv 5) pa_nil)))) pa_nil)))
      (pss_one (ps_if (pt_not (pt_val (pe_ok G_same (hr.mono (by omega)) pass0 (pa_cons (pv 7) (pa_cons (pe_lst (pa_cons (pe_tup (pa_cons pe_str (pa_cons pe_int pa_nil))) (pa_cons (pe_tup (pa_cons pe_str (pa_cons pe_int pa_nil))) pa_nil))) pa_nil))))) (pss_one (ps_ret pe_bl)) pss_nil)))))
      (pss_cons (ps_par3 (i := 4) (j := 8) (l := 9) (by rfl) nd rfl rfl rfl (by decide) (by decide) (by decide) rfl rfl rfl (pa_cons (pe_ok G_draw (hr.mono (by omega)) pass0 (pa_cons (pv 0) (pa_cons (pe_op op_add (pe_callB (k_len (K := K)) (by rfl) T.len (by decide +kernel) (pa_cons (pv 3) pa_nil)) pe_int) pa_nil))) (pa_cons (pe_ix (k_ixL (K := K)) (pv 2) pe_int (fun _ _ => rfl)) (pa_cons (pe_ix (k_ixL (K := K)) (pv 2) pe_int (fun _ _ => rfl)) pa_nil))) (by rfl))
      (pss_cons (ps_set (i := 10) nd rfl (Or.inl rfl) (pe_lst (pa_cons pe_non (pa_cons pe_int (pa_cons pe_str (pa_cons (pe_lst pa_nil) (pa_cons (pe_lst (pa_cons (pv 8) (pa_cons (pv 9) pa_nil))) (pa_cons (pe_lst (pa_cons (pv 8) (pa_cons (pv 9) (pa_cons pe_int (pa_cons pe_int pa_nil))))) (pa_cons (pe_tup (pa_cons (pv 8) (pa_cons (pv 8) (pa_cons pe_int pa_nil)))) (pa_cons (pe_lst (pa_cons (pv 8) (pa_cons pe_str (pa_cons pe_int pa_nil)))) (pa_cons (pe_lst (pa_cons pe_non (pa_cons (pv 9) (pa_cons pe_int pa_nil)))) pa_nil)))))))))))
      (pss_cons (ps_expr (k_bm (K := K) PySem.F.plainAttrs_list PySem.F.slot_list_extend PySem.F.type_list_extend mt_extend (pv 10) (pa_cons (pe_lst (pa_cons (pe_lst (pa_cons (pe_lst (pa_cons (pv 8) pa_nil)) (pa_cons (pv 9) (pa_cons pe_int pa_nil)))) (pa_cons (pe_tup (pa_cons (pv 8) (pa_cons (pv 9) (pa_cons pe_non pa_nil)))) (pa_cons (pe_tup (pa_cons (pv 8) (pa_cons (pv 9) (pa_cons pe_bl pa_nil)))) (pa_cons (pe_tup (pa_cons (pv 8) (pa_cons (pv 9) (pa_cons pe_str pa_nil)))) (pa_cons (pe_tup (pa_cons (pv 8) (pa_cons (pv 9) (pa_cons (pe_lst (pa_cons pe_int pa_nil)) pa_nil)))) (pa_cons pe_dnewK pa_nil))))))) pa_nil)))
      (pss_cons (ps_for PassesOwn.never rfl (k_pl (K := K) (pe_op op_cat (pe_op op_cat (pv 10) (pe_slice (k_slL (K := K)) (pv 3) po_none (po_some (pv 4)))) (pe_lc (own := [("_law_x", 11), ("_law_y", 12), ("_law_height", 13)]) (by rfl) nd (k_pl (K := K) (pe_slice (k_slL (K := K)) (pv 3) po_none (po_some (pv 4)))) (blkOk_by (own := [("_law_x", 11), ("_law_y", 12), ("_law_height", 13)]) (N := ["_law_stream", "_law_raw", "_law_places", "_law_ties", "_law_at", "_law_odd", "_law_some", "_law_found", "_law_one", "_law_other", "_law_odds", "_law_x", "_law_y", "_law_height", "_law_web"]) (sc := (defScope s_law_refused_right)) (by decide +kernel)) (fun _ _ _ _ _ => (k_tup (K := K) (n := 3) rfl (pgs_cons (pg_name (i := 11) nd rfl (by first | exact Or.inl rfl | exact Or.inr rfl)) (pgs_cons (pg_name (i := 12) nd rfl (by first | exact Or.inl rfl | exact Or.inr rfl)) (pgs_cons (pg_name (i := 13) nd rfl (by first | exact Or.inl rfl | exact Or.inr rfl)) pgs_nil))))) (fun _ _ _ _ _ => pts_nil) (fun _ _ _ _ _ => (pe_tup (pa_cons (pv 12) (pa_cons (pv 11) (pa_cons (pe_op op_add (pv 13) pe_int) pa_nil)))))))) (pg_name (i := 5) nd rfl (Or.inr rfl))
      (pss_cons (ps_set (i := 6) nd rfl (Or.inr rfl) (pe_ok G_loose (hr.mono (by omega)) pass0 (pa_cons (pv 0) (pa_cons (pe_op op_cat (pe_op op_cat (pe_slice (k_slL (K := K)) (pv 3) po_none (po_some (pv 4))) (pe_lst (pa_cons (pv 5) (pa_cons pe_non pa_nil)))) (pe_slice (k_slL (K := K)) (pv 3) (po_some (pv 4)) po_none)) pa_nil))))
      (pss_one (ps_if (pt_not (pt_val (pe_ok G_same (hr.mono (by omega)) pass0 (pa_cons (pe_met (K := K) T TB rfl hmR (hr.mono (by omega)) (k := 6) (fun A outer s H E f c hr => pe_web T G_init (hr.mono (by omega)) (passes_call (takes_of rfl rfl rfl rfl) (fun _ _ _ _ h => h)) (pa_cons (pv 2) (pa_cons (pv 6) pa_nil)))) (pa_cons (pe_tup (pa_cons pe_str (pa_cons (pv 4) pa_nil))) pa_nil))))) (pss_one (ps_ret pe_bl)) pss_nil))))
      (pss_cons (ps_set (i := 14) nd rfl (Or.inr rfl) (pe_web T G_init (hr.mono (by omega)) passL (pa_cons (pv 2) (pa_cons (pv 3) pa_nil))))
      (pss_cons (ps_for PassesOwn.never rfl (k_pt (K := K) (pe_tup (pa_cons pe_non (pa_cons pe_int (pa_cons pe_str (pa_cons pe_str (pa_cons (pe_lst (pa_cons (pv 8) pa_nil)) (pa_cons (pe_tup (pa_cons (pv 8) pa_nil)) (pa_cons pe_dnewK (pa_cons pe_bl (pa_cons (pv 14) pa_nil))))))))))) (pg_name (i := 5) nd rfl (Or.inr rfl))
      (pss_one (ps_if (pt_not (pt_val (pe_ok G_same (hr.mono (by omega)) pass0 (pa_cons (pe_lst (pa_cons (pe_met (K := K) T TB rfl hmR (hr.mono (by omega)) (k := 6) (fun A outer s H E f c hr => pe_m1 T G_ties_of T.m_ties_of (hr.mono (by omega)) (passes_call (takes_of rfl rfl rfl rfl) (fun _ _ _ _ h => h)) (pv 14) (pa_cons (pv 5) pa_nil))) pa_nil)) (pa_cons (pe_lst (pa_cons (pe_tup (pa_cons pe_str (pa_cons (pv 5) pa_nil))) pa_nil)) pa_nil))))) (pss_one (ps_ret pe_bl)) pss_nil)))
      (pss_one (ps_ret pe_bl)))))))))))), ?_⟩
    obtain ⟨p, va, vb, rfl, hNp, hp, hra, hrb⟩ := rep_raw.mp hrep
    obtain ⟨pa, rfl, hNa, hpa⟩ := rep_strs.mp hra
    obtain ⟨pb, vs, rfl, hNb, hpb, hrb0⟩ := rep_ties.mp hrb
    have gdn : ∀ x ∈ ns, isNm x = true := fun x hx => (hok.gd x hx).1
    have l1 : ns.length ≤ 200 := hok.len
    have l2 : ts.length ≤ 1000 := hok.tl
    have exN : ∀ c, N c → Ex [a, b] c := fun c hc hin => by
      simp only [List.mem_cons, List.not_mem_nil, or_false] at hin
      rcases hin with e | e
      · exact (hN c hc).1 e
      · exact (hN c hc).2 e
    have ra0 := hra.wk exN
    have rb0 := hrb.wk exN
    refine ⟨_, rfl, p, _, rfl, SqT.of hp, rfl, _, _, rfl, _, _, rfl, rfl, ?_⟩
    dsimp only
    refine ⟨_, rfl, _, rfl, pa, _, rfl, .inl (SqL.of hpa), _, _, rfl, rfl, a, b, m + 9000000, _, rfl, hS.le (by omega), by omega, by rw [List.length_map]; omega, fun H1 dd kp1 S1 d0 d1 => ?_⟩
    obtain ⟨at_, rfl⟩ : ∃ j : Nat, dd = j := ⟨dd.toNat, by omega⟩
    have hat : at_ ≤ ns.length := by rw [List.length_map] at d1; omega
    refine gName_i ?_
    dsimp only
    have ra1 := ra0.kpn (KpN.of kp1) kpn_off
    have rb1 := rb0.kpn (KpN.of kp1) kpn_off
    have T1 : Tabs (tabsT K) H1 := Tabs.kp hTab hS kp1
    have hpa1 := kp1 _ _ hpa (hN pa hNa).1 (hN pa hNa).2
    refine viaS (t1 := tFor _ _ _) (fun σ H4 => ∃ v5 v6 : Option V, σ = [some (.ref a), some (.ref p), some (.ref pa), some (.ref pb), some (.int (at_ : Nat)), v5, v6, none, none, none, none, none, none, none, none] ∧ KpN a b H1 H4 ∧ Strm a b (m + 8000000) H4 ∧ Tabs (tabsT K) H4) (fun nx hn => ?_) ?_
    · refine ⟨_, rfl, _, rfl, _, rfl, pa, _, rfl, SqL.of hpa1, ?_⟩
      rw [cut_to, ← List.map_take]
      intro pt n_pt
      have e_pt : upd H1 pt (.lst ((ns.take at_).map V.str)) pt = some (.lst ((ns.take at_).map V.str)) := upd_same
      have s_pt : Same H1 (upd H1 pt (.lst ((ns.take at_).map V.str))) := same_new n_pt
      generalize upd H1 pt (.lst ((ns.take at_).map V.str)) = H2 at e_pt s_pt ⊢
      refine ⟨pt, ns.take at_, rfl, e_pt, Nat.le_trans (List.length_take_le' _ _) l1, fun H3 v s3 rv => ?_⟩
      have rv0 := rv
      obtain ⟨ol, us, rfl, nol, hol, rus⟩ := rv
      have s13 := same_trans s_pt s3
      have rv3 : Rep K (Ex [a, b]) H3 _ (.ref ol) := rv0.wk (S1.same s_pt).fr
      have hEol : Ex [a, b] ol := (S1.same s_pt).fr _ nol
      have rus3 : RepL K (Ex [a, b]) H3 _ us := rus.wk (S1.same s_pt).fr
      have lus : us.length ≤ 300 := by
        rw [rus.len]
        simp only [List.length_append, List.length_map, List.length_take]
        have : oddN.length = 15 := rfl
        have : words.length = 14 := rfl
        omega
      refine ⟨ol, rfl, ⟨_, SqL.of hol⟩, for_it (walk_list (xs := us)) (fun i σ H4 => ∃ v5 v6 : Option V, σ = [some (.ref a), some (.ref p), some (.ref pa), some (.ref pb), some (.int (at_ : Nat)), v5, v6, none, none, none, none, none, none, none, none] ∧ KpN a b H3 H4 ∧ Strm a b (m + 8000000 + (300 - i) * 10) H4 ∧ Tabs (tabsT K) H4)
        ⟨none, none, rfl, KpN.refl _, (S1.same s13).le (by omega), Tabs.same T1 s13⟩ (fun i σ H4 _ ⟨_, _, _, kp, _⟩ => SqL.of (kp _ _ hol (by intro ps z; cases z) (kpn_off _ hEol).1 (kpn_off _ hEol).2)) ?_ ?_⟩
      · rintro i x σ _ H4 hi ⟨v5, v6, rfl, kp4, S4, T4⟩ ⟨rfl, hx⟩
        obtain ⟨d, hd, hrd⟩ := rus3.get hx
        have hmem := List.mem_of_getElem? hd
        have hrd4 := hrd.kpn kp4 kpn_off
        refine gName_i ?_
        dsimp only
        have kp14 := (KpN.same (a := a) (b := b) s13).trans kp4
        have ra4 := ra1.kpn kp14 kpn_off
        obtain ⟨pa', epa, _, hpa4⟩ := rep_strs.mp ra4
        cases epa
        obtain ⟨dd3, dcn⟩ := odd_dep d hmem
        refine viaS (t1 := tAsg _ _) (fun σ H5 => ∃ (v' : V) (d' : Dt), σ = [some (.ref a), some (.ref p), some (.ref pa), some (.ref pb), some (.int (at_ : Nat)), some x, some v', none, none, none, none, none, none, none, none] ∧ KpN a b H3 H5 ∧ Strm a b (m + 8000000 + (300 - (i + 1)) * 10) H5 ∧ Tabs (tabsT K) H5 ∧
            d'.lax = (refD ns at_ d).lax ∧ Rep K (Ex [a, b]) H5 d' v') (fun nx2 hn2 => ?_) ?_
        · refine ⟨_, rfl, mid_list rfl rfl rfl hpa4 (by rw [List.length_map]; omega) fun H5 c s5 nc hc => ?_⟩
          rw [← List.map_take, ← List.map_drop] at hc
          have rc : Rep K (Ex [a, b]) H5 (refD ns at_ d) (.ref c) := ⟨c, _, rfl, S4.fr c nc, hc, RepL.app (RepL.app (repL_strs.mpr rfl) ⟨_, _, rfl, hrd4.same s5, _, _, rfl, rfl, rfl⟩) (repL_strs.mpr rfl)⟩
          have cn := refd_cnt (ns := ns) (i := at_) dcn
          refine ⟨a, b, .ref c, refD ns at_ d, Ex [a, b], m + 8000000 + (300 - (i + 1)) * 10, rfl, rc, kpn_off, refd_dep (by omega) dd3, (S4.same s5).le (by omega), fun H6 v' d' hl rv kp6 S6 => ?_⟩
          have T5 := Tabs.same T4 s5
          refine hn2 _ _ ⟨v', d', rfl, (kp4.trans (KpN.same s5)).trans (KpN.of kp6), S6, Tabs.kp T5 (S4.same s5) kp6, hl, rv.wk fun c hc => ?_⟩
          rcases hc with hc | hc
          · exact hc
          · exact (S4.same s5).fr c hc
        rintro σ H5 ⟨v', d', rfl, kp5, S5, T5, hl5, rv5⟩
        have fw := few_of_lax hl5 (refd_few (i := at_) (by omega) gdn fun s e => odd_len (ns := ns.take at_) (fun x hx => gdn x (List.mem_of_mem_take hx)) s (by rw [← e]; exact hmem))
        refine refused T5 (x := "BadPlaces") (f := "index") (tag := "places") (y := .int (at_ : Nat)) (by decide) (fun H6 E Q' eN T6 hR => ?_) (fun pr H6 H7 eN T6 s7 npr hpr => ?_)
        · refine ⟨_, rfl, _, _, rfl, d', .non, Ex [a, b], rv5.kpn (KpN.ext eN) kpn_off, rfl, fw, trivial, ?_⟩
          rw [ref_places hat hok.nd gdn (odd_bad d hmem) hl5]
          exact hR
        · refine ⟨_, rfl, by show 2 ≤ sizeLine; decide, fun t nt => ?_⟩
          have st := same_new (o := .tup [.str "places", .int (at_ : Nat)]) nt
          refine ⟨.ref pr, .ref t, .seq false [.str "places", .int (at_ : Nat)], _, _, rfl, rep_two (N := fun _ => True) (st _ _ hpr) rfl, rep_two (N := fun _ => True) upd_same rfl, rfl, fun H8 s8 => ⟨_, rfl, iteF (next_i ?_)⟩⟩
          have s68 := same_trans s7 (same_trans st s8)
          exact ⟨_, _, rfl, (kp5.trans (KpN.ext eN)).trans (KpN.same s68), (S5.ext eN).same s68, Tabs.same T6 s68⟩
      · rintro σ H4 ⟨v5, v6, rfl, kp4, S4, T4⟩
        exact hn _ _ ⟨v5, v6, rfl, (KpN.same s13).trans kp4, S4.le (by omega), T4⟩
    rintro σ H4 ⟨v5, v6, rfl, kp4, S4, T4⟩
    refine viaS (t1 := tFor _ _ _) (fun σ H5 => ∃ v5 v6 v7 : Option V, σ = [some (.ref a), some (.ref p), some (.ref pa), some (.ref pb), some (.int (at_ : Nat)), v5, v6, v7, none, none, none, none, none, none, none] ∧ KpN a b H1 H5 ∧ Strm a b (m + 8000000) H5 ∧ Tabs (tabsT K) H5) (fun nx hn => ?_) ?_
    · intro pd npd
      have s5 : Same H4 (upd (upd H4 pd (.dK [])) pd (.dK [(Sum.inr "a", .int 1)])) := same_mut (same_new npd) npd
      have e5 : upd (upd H4 pd (.dK [])) pd (.dK [(Sum.inr "a", .int 1)]) pd = _ := upd_same
      refine ⟨upd_same, [(Sum.inr "a", .int 1)], rfl, by decide, ?_⟩
      show tNil _ (upd (upd H4 pd (.dK [])) pd (.dK [(Sum.inr "a", .int 1)])) _
      generalize upd (upd H4 pd (.dK [])) pd (.dK [(Sum.inr "a", .int 1)]) = H5 at s5 e5 ⊢
      refine ⟨by show 5 ≤ sizeLine; decide, ?_⟩
      intro tt n_tt
      have e_tt : upd H5 tt (.tup [.non, .int 5, .str "ann", .bl true, .ref pd]) tt = some (.tup [.non, .int 5, .str "ann", .bl true, .ref pd]) := upd_same
      have s_tt : Same H5 (upd H5 tt (.tup [.non, .int 5, .str "ann", .bl true, .ref pd])) := same_new n_tt
      generalize upd H5 tt (.tup [.non, .int 5, .str "ann", .bl true, .ref pd]) = H6 at e_tt s_tt ⊢
      have s46 := same_trans s5 s_tt
      have S6 := S4.same s46
      have hEpd : Ex [a, b] pd := S4.fr _ npd
      have hEtt : Ex [a, b] tt := (S4.same s5).fr _ n_tt
      have r5 : RepL K (Ex [a, b]) H6 odd5 [.non, .int 5, .str "ann", .bl true, .ref pd] := ⟨_, _, rfl, rfl, _, _, rfl, rfl, _, _, rfl, rfl, _, _, rfl, rfl, _, _, rfl, ⟨pd, rfl, hEpd, s_tt _ _ e5⟩, rfl⟩
      have ra6 := ra1.kpn (kp4.trans (KpN.same s46)) kpn_off
      refine ⟨tt, rfl, ⟨_, SqT.of e_tt⟩, for_it (walk_tup (xs := [.non, .int 5, .str "ann", .bl true, .ref pd])) (fun i σ H7 => ∃ v5 v6 v7 : Option V, σ = [some (.ref a), some (.ref p), some (.ref pa), some (.ref pb), some (.int (at_ : Nat)), v5, v6, v7, none, none, none, none, none, none, none] ∧ KpN a b H6 H7 ∧ Strm a b (m + 8000000) H7 ∧ Tabs (tabsT K) H7)
        ⟨v5, v6, none, rfl, KpN.refl _, S6, Tabs.same T4 s46⟩ (fun i σ H7 _ ⟨_, _, _, _, kp, _⟩ => SqT.of (kp _ _ e_tt (by intro ps z; cases z) (kpn_off _ hEtt).1 (kpn_off _ hEtt).2)) ?_ ?_⟩
      · rintro i x σ _ H7 hi ⟨v5, v6, v7, rfl, kp7, S7, T7⟩ ⟨rfl, hx⟩
        obtain ⟨d, hd, hrd⟩ := r5.get hx
        obtain ⟨c1, c2, cf⟩ := odd5_no d (List.mem_of_getElem? hd)
        have hrd7 := hrd.kpn kp7 kpn_off
        have ra7 := ra6.kpn kp7 kpn_off
        refine gName_i ?_
        dsimp only
        refine viaS (t1 := tAsg _ _) (fun σ H8 => ∃ l pr, σ = [some (.ref a), some (.ref p), some (.ref pa), some (.ref pb), some (.int (at_ : Nat)), some x, v6, some (.ref l), none, none, none, none, none, none, none] ∧ KpN a b H7 H8 ∧ Strm a b (m + 8000000) H8 ∧ Tabs (tabsT K) H8 ∧ Ex [a, b] l ∧
            H8 l = some (.lst [.ref pr]) ∧ Ex [a, b] pr ∧ pr ≠ l ∧ H8 pr = some (.tup [.str "places", .int 0]) ∧ Fn H7 l) (fun nx2 hn2 => ?_) ?_
        · refine refused T7 (x := "BadPlaces") (f := "index") (tag := "places") (y := .int 0) (by decide) (fun H8 E Q' eN T8 hR => ?_) (fun pr H8 H9 eN T8 s9 npr hpr => ?_)
          · refine ⟨_, rfl, _, _, rfl, d, .non, Ex [a, b], hrd7.kpn (KpN.ext eN) kpn_off, rfl, cf, trivial, ?_⟩
            rw [c1]
            exact hR
          · have S8 := S7.ext eN
            refine ⟨by show 1 ≤ sizeLine; decide, fun l nl => hn2 _ _ ⟨l, pr, rfl, ((KpN.ext eN).trans (KpN.same s9)).trans (KpN.same (same_new nl)), (S8.same s9).new nl, Tabs.same (Tabs.same T8 s9) (same_new nl), (S8.same s9).fr _ nl, upd_same, S8.fr _ npr, ne_of_none hpr nl, upd_at hpr (ne_of_none hpr nl), fn_ext eN (same_back s9 nl)⟩⟩
        rintro σ H8 ⟨l, pr, rfl, kp8, S8, T8, hEl, hl8, hEpr, hnpl, hpr8, fnl⟩
        have hrd8 := hrd7.kpn kp8 kpn_off
        have ra8 := ra7.kpn kp8 kpn_off
        refine viaS (t1 := tDrop _) (fun σ H9 => ∃ pr2, σ = [some (.ref a), some (.ref p), some (.ref pa), some (.ref pb), some (.int (at_ : Nat)), some x, v6, some (.ref l), none, none, none, none, none, none, none] ∧ KpN a b H7 H9 ∧ Strm a b (m + 8000000) H9 ∧ Tabs (tabsT K) H9 ∧
            H9 l = some (.lst [.ref pr, .ref pr2]) ∧ H9 pr = some (.tup [.str "places", .int 0]) ∧ H9 pr2 = some (.tup [.str "ties", .int 0])) (fun nx2 hn2 => ?_) ?_
        · refine ⟨_, rfl, .inl ⟨rfl, _, SqL.of hl8⟩, ?_⟩
          refine refused T8 (x := "BadTies") (f := "index") (tag := "ties") (y := .int 0) (by decide) (fun H9 E Q' eN T9 hR => ?_) (fun pr2 H9 H10 eN T9 s10 npr2 hpr2 => ?_)
          · refine ⟨_, rfl, _, rfl, _, _, rfl, dStrs ns, d, Ex [a, b], ra8.kpn (KpN.ext eN) kpn_off, hrd8.kpn (KpN.ext eN) kpn_off, strs_few true (by omega) gdn, cf, ?_⟩
            rw [chk_ties0 hok.nd gdn (c2 ns)]
            exact hR
          · have S9 := S8.ext eN
            have hl10 := s10 _ _ (eN _ _ hl8 (by intro ps z; cases z))
            have hpr10 := s10 _ _ (eN _ _ hpr8 (by intro ps z; cases z))
            have hn2l : pr2 ≠ l := fun e => by
              rw [e, hl10] at hpr2
              cases hpr2
            refine ⟨l, [.ref pr], .ref pr2, rfl, rfl, hl10, by show 1 < sizeLine; decide, hn2 _ _ ⟨pr2, rfl, kpn_mut ((kp8.trans (KpN.ext eN)).trans (KpN.same s10)) fnl, ?_, tabs_mut (Tabs.same T9 s10) hl10, upd_same, upd_at hpr10 hnpl, upd_at hpr2 hn2l⟩⟩
            exact (S9.same s10).at_ (upd_ne (kpn_off _ hEl).1.symm) (upd_ne (kpn_off _ hEl).2.symm)
        rintro σ H9 ⟨pr2, rfl, kp9, S9, T9, hl9, hpr9, hpr29⟩
        refine ⟨_, rfl, by show 2 ≤ sizeLine; decide, ?_⟩
        intro t1 n_t1
        have e_t1 : upd H9 t1 (.tup [.str "places", .int 0]) t1 = some (.tup [.str "places", .int 0]) := upd_same
        have s_t1 : Same H9 (upd H9 t1 (.tup [.str "places", .int 0])) := same_new n_t1
        generalize upd H9 t1 (.tup [.str "places", .int 0]) = H10 at e_t1 s_t1 ⊢
        refine ⟨by show 2 ≤ sizeLine; decide, ?_⟩
        intro t2 n_t2
        have e_t2 : upd H10 t2 (.tup [.str "ties", .int 0]) t2 = some (.tup [.str "ties", .int 0]) := upd_same
        have s_t2 : Same H10 (upd H10 t2 (.tup [.str "ties", .int 0])) := same_new n_t2
        generalize upd H10 t2 (.tup [.str "ties", .int 0]) = H11 at e_t2 s_t2 ⊢
        refine ⟨by show 2 ≤ sizeLine; decide, ?_⟩
        intro l3 n_l3
        have e_l3 : upd H11 l3 (.lst [.ref t1, .ref t2]) l3 = some (.lst [.ref t1, .ref t2]) := upd_same
        have s_l3 : Same H11 (upd H11 l3 (.lst [.ref t1, .ref t2])) := same_new n_l3
        generalize upd H11 l3 (.lst [.ref t1, .ref t2]) = H12 at e_l3 s_l3 ⊢
        have s912 := same_trans s_t1 (same_trans s_t2 s_l3)
        have ru : Rep K (fun _ => True) H12 (.seq true [.seq false [.str "places", .int 0], .seq false [.str "ties", .int 0]]) (.ref l) := ⟨l, _, rfl, trivial, s912 _ _ hl9, _, _, rfl, rep_two (N := fun _ => True) (s912 _ _ hpr9) rfl, _, _, rfl, rep_two (N := fun _ => True) (s912 _ _ hpr29) rfl, rfl⟩
        have rv : Rep K (fun _ => True) H12 (.seq true [.seq false [.str "places", .int 0], .seq false [.str "ties", .int 0]]) (.ref l3) := ⟨l3, _, rfl, trivial, e_l3, _, _, rfl, rep_two (N := fun _ => True) (s_l3 _ _ (s_t2 _ _ e_t1)) rfl, _, _, rfl, rep_two (N := fun _ => True) (s_l3 _ _ e_t2) rfl, rfl⟩
        refine ⟨_, _, _, _, _, rfl, ru, rv, rfl, fun H13 s13' => ⟨_, rfl, iteF (next_i ⟨_, _, _, rfl, kp7.trans (kp9.trans (KpN.same (same_trans s912 s13'))), (S9.same s912).same s13', Tabs.same (Tabs.same T9 s912) s13'⟩)⟩⟩
      · rintro σ H7 ⟨v5, v6, v7, rfl, kp7, S7, T7⟩
        exact hn _ _ ⟨v5, v6, v7, rfl, (kp4.trans (KpN.same s46)).trans kp7, S7, T7⟩
    rintro σ H5 ⟨v5, v6, v7, rfl, kp5, S5, T5⟩
    obtain ⟨x, y, ns', rfl⟩ : ∃ x y ns', ns = x :: y :: ns' := by
      match ns, h2 with
      | x :: y :: ns', _ => exact ⟨x, y, ns', rfl⟩
    have ra5 := ra1.kpn kp5 kpn_off
    have rb5 := rb1.kpn kp5 kpn_off
    obtain ⟨_, e, hEa, hpa5⟩ := rep_strs.mp ra5
    cases e
    obtain ⟨_, vs5, e, hEb, hpb5, rvs5⟩ := rep_ties.mp rb5
    cases e
    have lvs : vs5.length = ts.length := by rw [rvs5.len, List.length_map]
    refine viaS (t1 := tPar3 _ _ _ _) (fun σ H6 => ∃ at2 : Nat, at2 ≤ ts.length ∧ σ = [some (.ref a), some (.ref p), some (.ref pa), some (.ref pb), some (.int (at2 : Nat)), v5, v6, v7, some (.str x), some (.str y), none, none, none, none, none] ∧ KpN a b H5 H6 ∧ Strm a b (m + 7000000) H6 ∧ Tabs (tabsT K) H6) (fun nx hn => ?_) ?_
    · refine ⟨_, rfl, _, rfl, pb, _, rfl, .inl (SqL.of hpb5), _, _, rfl, rfl, a, b, m + 7000000, _, rfl, S5.le (by omega), by omega, by omega, fun H6 dd kp6 S6 d0 d1 => ?_⟩
      obtain ⟨at2, rfl⟩ : ∃ j : Nat, dd = j := ⟨dd.toNat, by omega⟩
      have hpa6 := kp6 _ _ hpa5 (kpn_off _ hEa).1 (kpn_off _ hEa).2
      exact ⟨_, rfl, pa, _, 0, .str x, rfl, rfl, SqL.of hpa6, atI_nat (j := 0) rfl, _, rfl, pa, _, 1, .str y, rfl, rfl, SqL.of hpa6, atI_nat (j := 1) rfl, _, _, _, rfl, hn _ _ ⟨at2, by omega, rfl, KpN.of kp6, S6, Tabs.kp T5 S5 kp6⟩⟩
    rintro σ H6 ⟨at2, hat2, rfl, kp6, S6, T6⟩
    have kp16 := kp5.trans kp6
    refine viaS (t1 := tAsg _ _) (fun σ H8 => ∃ (lo : Addr) (us : List V), σ = [some (.ref a), some (.ref p), some (.ref pa), some (.ref pb), some (.int (at2 : Nat)), v5, v6, v7, some (.str x), some (.str y), some (.ref lo), none, none, none, none] ∧ Same H6 H8 ∧ H6 lo = none ∧ H8 lo = some (.lst us) ∧ RepL K (fun c => H6 c = none ∧ c ≠ lo) H8 ((oddT x y).take 9) us) (fun nx hn => ?_) ?_
    · refine ⟨by show 0 ≤ sizeLine; decide, ?_⟩
      intro p1 n_p1
      have e_p1 : upd H6 p1 (.lst []) p1 = some (.lst []) := upd_same
      have s_p1 : Same H6 (upd H6 p1 (.lst [])) := same_new n_p1
      generalize upd H6 p1 (.lst []) = G1 at e_p1 s_p1 ⊢
      refine ⟨_, rfl, _, rfl, by show 2 ≤ sizeLine; decide, ?_⟩
      intro p2 n_p2
      have e_p2 : upd G1 p2 (.lst [.str x, .str y]) p2 = some (.lst [.str x, .str y]) := upd_same
      have s_p2 : Same G1 (upd G1 p2 (.lst [.str x, .str y])) := same_new n_p2
      generalize upd G1 p2 (.lst [.str x, .str y]) = G2 at e_p2 s_p2 ⊢
      refine ⟨_, rfl, _, rfl, by show 4 ≤ sizeLine; decide, ?_⟩
      intro p3 n_p3
      have e_p3 : upd G2 p3 (.lst [.str x, .str y, .int 1, .int 1]) p3 = some (.lst [.str x, .str y, .int 1, .int 1]) := upd_same
      have s_p3 : Same G2 (upd G2 p3 (.lst [.str x, .str y, .int 1, .int 1])) := same_new n_p3
      generalize upd G2 p3 (.lst [.str x, .str y, .int 1, .int 1]) = G3 at e_p3 s_p3 ⊢
      refine ⟨_, rfl, _, rfl, by show 3 ≤ sizeLine; decide, ?_⟩
      intro p4 n_p4
      have e_p4 : upd G3 p4 (.tup [.str x, .str x, .int 0]) p4 = some (.tup [.str x, .str x, .int 0]) := upd_same
      have s_p4 : Same G3 (upd G3 p4 (.tup [.str x, .str x, .int 0])) := same_new n_p4
      generalize upd G3 p4 (.tup [.str x, .str x, .int 0]) = G4 at e_p4 s_p4 ⊢
      refine ⟨_, rfl, by show 3 ≤ sizeLine; decide, ?_⟩
      intro p5 n_p5
      have e_p5 : upd G4 p5 (.lst [.str x, .str "nobody", .int 1]) p5 = some (.lst [.str x, .str "nobody", .int 1]) := upd_same
      have s_p5 : Same G4 (upd G4 p5 (.lst [.str x, .str "nobody", .int 1])) := same_new n_p5
      generalize upd G4 p5 (.lst [.str x, .str "nobody", .int 1]) = G5 at e_p5 s_p5 ⊢
      refine ⟨_, rfl, by show 3 ≤ sizeLine; decide, ?_⟩
      intro p6 n_p6
      have e_p6 : upd G5 p6 (.lst [.non, .str y, .int 2]) p6 = some (.lst [.non, .str y, .int 2]) := upd_same
      have s_p6 : Same G5 (upd G5 p6 (.lst [.non, .str y, .int 2])) := same_new n_p6
      generalize upd G5 p6 (.lst [.non, .str y, .int 2]) = G6 at e_p6 s_p6 ⊢
      refine ⟨by show 9 ≤ sizeLine; decide, ?_⟩
      intro lo n_lo
      have e_lo : upd G6 lo (.lst [.non, .int 5, .str "abc", .ref p1, .ref p2, .ref p3, .ref p4, .ref p5, .ref p6]) lo = some (.lst [.non, .int 5, .str "abc", .ref p1, .ref p2, .ref p3, .ref p4, .ref p5, .ref p6]) := upd_same
      have s_lo : Same G6 (upd G6 lo (.lst [.non, .int 5, .str "abc", .ref p1, .ref p2, .ref p3, .ref p4, .ref p5, .ref p6])) := same_new n_lo
      generalize upd G6 lo (.lst [.non, .int 5, .str "abc", .ref p1, .ref p2, .ref p3, .ref p4, .ref p5, .ref p6]) = G7 at e_lo s_lo ⊢
      have t6 := s_lo
      have t5 := same_trans s_p6 t6
      have t4 := same_trans s_p5 t5
      have t3 := same_trans s_p4 t4
      have t2 := same_trans s_p3 t3
      have t1 := same_trans s_p2 t2
      have b1 := s_p1
      have b2 := same_trans b1 s_p2
      have b3 := same_trans b2 s_p3
      have b4 := same_trans b3 s_p4
      have b5 := same_trans b4 s_p5
      have b6 := same_trans b5 s_p6
      have nn : ∀ {c : Addr} {o : HO}, G6 c = some o → c ≠ lo := fun h => ne_of_none h n_lo
      refine hn _ _ ⟨lo, _, rfl, same_trans b6 s_lo, same_back b6 n_lo, e_lo, _, _, rfl, rfl, _, _, rfl, rfl, _, _, rfl, rfl, _, _, rfl, ?_, _, _, rfl, ?_, _, _, rfl, ?_, _, _, rfl, ?_, _, _, rfl, ?_, _, _, rfl, ?_, rfl⟩
      · exact ⟨p1, _, rfl, ⟨n_p1, nn (same_trans s_p2 (same_trans s_p3 (same_trans s_p4 (same_trans s_p5 s_p6))) _ _ e_p1)⟩, t1 _ _ e_p1, rfl⟩
      · exact ⟨p2, _, rfl, ⟨same_back b1 n_p2, nn (same_trans s_p3 (same_trans s_p4 (same_trans s_p5 s_p6)) _ _ e_p2)⟩, t2 _ _ e_p2, _, _, rfl, rfl, _, _, rfl, rfl, rfl⟩
      · exact ⟨p3, _, rfl, ⟨same_back b2 n_p3, nn (same_trans s_p4 (same_trans s_p5 s_p6) _ _ e_p3)⟩, t3 _ _ e_p3, _, _, rfl, rfl, _, _, rfl, rfl, _, _, rfl, rfl, _, _, rfl, rfl, rfl⟩
      · exact ⟨p4, _, rfl, ⟨same_back b3 n_p4, nn (same_trans s_p5 s_p6 _ _ e_p4)⟩, t4 _ _ e_p4, _, _, rfl, rfl, _, _, rfl, rfl, _, _, rfl, rfl, rfl⟩
      · exact ⟨p5, _, rfl, ⟨same_back b4 n_p5, nn (s_p6 _ _ e_p5)⟩, t5 _ _ e_p5, _, _, rfl, rfl, _, _, rfl, rfl, _, _, rfl, rfl, rfl⟩
      · exact ⟨p6, _, rfl, ⟨same_back b5 n_p6, nn e_p6⟩, t6 _ _ e_p6, _, _, rfl, rfl, _, _, rfl, rfl, _, _, rfl, rfl, rfl⟩
    rintro σ H8 ⟨lo, us1, rfl, s68, nlo, hlo8, rus1⟩
    refine viaS (t1 := tDrop _) (fun σ H9 => ∃ (us : List V), σ = [some (.ref a), some (.ref p), some (.ref pa), some (.ref pb), some (.int (at2 : Nat)), v5, v6, v7, some (.str x), some (.str y), some (.ref lo), none, none, none, none] ∧ Same H6 H9 ∧ H9 lo = some (.lst us) ∧ RepL K (Ex [a, b]) H9 (oddT x y) us) (fun nx hn => ?_) ?_
    · have luu : us1.length = 9 := by rw [rus1.len]; rfl
      refine ⟨_, rfl, .inl ⟨rfl, _, SqL.of hlo8⟩, ?_⟩
      refine ⟨_, rfl, by show 1 ≤ sizeLine; decide, ?_⟩
      intro p0 n_p0
      have e_p0 : upd H8 p0 (.lst [.str x]) p0 = some (.lst [.str x]) := upd_same
      have s_p0 : Same H8 (upd H8 p0 (.lst [.str x])) := same_new n_p0
      generalize upd H8 p0 (.lst [.str x]) = G0 at e_p0 s_p0 ⊢
      refine ⟨_, rfl, by show 3 ≤ sizeLine; decide, ?_⟩
      intro p1 n_p1
      have e_p1 : upd G0 p1 (.lst [.ref p0, .str y, .int 1]) p1 = some (.lst [.ref p0, .str y, .int 1]) := upd_same
      have s_p1 : Same G0 (upd G0 p1 (.lst [.ref p0, .str y, .int 1])) := same_new n_p1
      generalize upd G0 p1 (.lst [.ref p0, .str y, .int 1]) = G1 at e_p1 s_p1 ⊢
      refine ⟨_, rfl, _, rfl, by show 3 ≤ sizeLine; decide, ?_⟩
      intro p2 n_p2
      have e_p2 : upd G1 p2 (.tup [.str x, .str y, .non]) p2 = some (.tup [.str x, .str y, .non]) := upd_same
      have s_p2 : Same G1 (upd G1 p2 (.tup [.str x, .str y, .non])) := same_new n_p2
      generalize upd G1 p2 (.tup [.str x, .str y, .non]) = G2 at e_p2 s_p2 ⊢
      refine ⟨_, rfl, _, rfl, by show 3 ≤ sizeLine; decide, ?_⟩
      intro p3 n_p3
      have e_p3 : upd G2 p3 (.tup [.str x, .str y, .bl true]) p3 = some (.tup [.str x, .str y, .bl true]) := upd_same
      have s_p3 : Same G2 (upd G2 p3 (.tup [.str x, .str y, .bl true])) := same_new n_p3
      generalize upd G2 p3 (.tup [.str x, .str y, .bl true]) = G3 at e_p3 s_p3 ⊢
      refine ⟨_, rfl, _, rfl, by show 3 ≤ sizeLine; decide, ?_⟩
      intro p4 n_p4
      have e_p4 : upd G3 p4 (.tup [.str x, .str y, .str "1"]) p4 = some (.tup [.str x, .str y, .str "1"]) := upd_same
      have s_p4 : Same G3 (upd G3 p4 (.tup [.str x, .str y, .str "1"])) := same_new n_p4
      generalize upd G3 p4 (.tup [.str x, .str y, .str "1"]) = G4 at e_p4 s_p4 ⊢
      refine ⟨_, rfl, _, rfl, by show 1 ≤ sizeLine; decide, ?_⟩
      intro p5 n_p5
      have e_p5 : upd G4 p5 (.lst [.int 1]) p5 = some (.lst [.int 1]) := upd_same
      have s_p5 : Same G4 (upd G4 p5 (.lst [.int 1])) := same_new n_p5
      generalize upd G4 p5 (.lst [.int 1]) = G5 at e_p5 s_p5 ⊢
      refine ⟨by show 3 ≤ sizeLine; decide, ?_⟩
      intro p6 n_p6
      have e_p6 : upd G5 p6 (.tup [.str x, .str y, .ref p5]) p6 = some (.tup [.str x, .str y, .ref p5]) := upd_same
      have s_p6 : Same G5 (upd G5 p6 (.tup [.str x, .str y, .ref p5])) := same_new n_p6
      generalize upd G5 p6 (.tup [.str x, .str y, .ref p5]) = G6 at e_p6 s_p6 ⊢
      intro p7 n_p7
      have e_p7 : upd G6 p7 (.dK []) p7 = some (.dK []) := upd_same
      have s_p7 : Same G6 (upd G6 p7 (.dK [])) := same_new n_p7
      generalize upd G6 p7 (.dK []) = G7 at e_p7 s_p7 ⊢
      refine ⟨by show 6 ≤ sizeLine; decide, ?_⟩
      intro le n_le
      have e_le : upd G7 le (.lst [.ref p1, .ref p2, .ref p3, .ref p4, .ref p6, .ref p7]) le = some (.lst [.ref p1, .ref p2, .ref p3, .ref p4, .ref p6, .ref p7]) := upd_same
      have s_le : Same G7 (upd G7 le (.lst [.ref p1, .ref p2, .ref p3, .ref p4, .ref p6, .ref p7])) := same_new n_le
      generalize upd G7 le (.lst [.ref p1, .ref p2, .ref p3, .ref p4, .ref p6, .ref p7]) = G8 at e_le s_le ⊢
      have t7 := s_le
      have t6 := same_trans s_p7 t7
      have t5 := same_trans s_p6 t6
      have t4 := same_trans s_p5 t5
      have t3 := same_trans s_p4 t4
      have t2 := same_trans s_p3 t3
      have t1 := same_trans s_p2 t2
      have t0 := same_trans s_p1 t1
      have s8 := same_trans s_p0 t0
      have fr : ∀ {c : Addr} {G : Hp}, Same H8 G → G c = none → H6 c = none ∧ c ≠ lo := fun {c G} sg hc => ⟨same_back s68 (same_back sg hc), fun e => by
        have := sg _ _ hlo8
        rw [← e, hc] at this
        cases this⟩
      have b0 := s_p0
      have b1 := same_trans b0 s_p1
      have b2 := same_trans b1 s_p2
      have b3 := same_trans b2 s_p3
      have b4 := same_trans b3 s_p4
      have b5 := same_trans b4 s_p5
      have b6 := same_trans b5 s_p6
      have r2 : RepL K (fun c => H6 c = none ∧ c ≠ lo) G8 ((oddT x y).drop 9) [.ref p1, .ref p2, .ref p3, .ref p4, .ref p6, .ref p7] := by
        refine ⟨_, _, rfl, ?_, _, _, rfl, ?_, _, _, rfl, ?_, _, _, rfl, ?_, _, _, rfl, ?_, _, _, rfl, ?_, rfl⟩
        · exact ⟨p1, _, rfl, fr b0 n_p1, t1 _ _ e_p1, _, _, rfl, ⟨p0, _, rfl, fr (same_refl _) n_p0, t0 _ _ e_p0, _, _, rfl, rfl, rfl⟩, _, _, rfl, rfl, _, _, rfl, rfl, rfl⟩
        · exact ⟨p2, _, rfl, fr b1 n_p2, t2 _ _ e_p2, _, _, rfl, rfl, _, _, rfl, rfl, _, _, rfl, rfl, rfl⟩
        · exact ⟨p3, _, rfl, fr b2 n_p3, t3 _ _ e_p3, _, _, rfl, rfl, _, _, rfl, rfl, _, _, rfl, rfl, rfl⟩
        · exact ⟨p4, _, rfl, fr b3 n_p4, t4 _ _ e_p4, _, _, rfl, rfl, _, _, rfl, rfl, _, _, rfl, rfl, rfl⟩
        · exact ⟨p6, _, rfl, fr b5 n_p6, t6 _ _ e_p6, _, _, rfl, rfl, _, _, rfl, rfl, _, _, rfl, ⟨p5, _, rfl, fr b4 n_p5, t5 _ _ e_p5, _, _, rfl, rfl, rfl⟩, rfl⟩
        · exact ⟨p7, rfl, fr b6 n_p7, t7 _ _ e_p7⟩
      refine ⟨lo, le, _, _, rfl, rfl, s8 _ _ hlo8, e_le, by rw [luu]; show 9 + 6 ≤ sizeLine; decide, hn _ _ ⟨_, rfl, same_mut (same_trans s68 s8) nlo, upd_same, ?_⟩⟩
      have rr := (RepL.app (rus1.same s8) r2).mut (p := lo) (o := .lst (us1 ++ [.ref p1, .ref p2, .ref p3, .ref p4, .ref p6, .ref p7])) fun h => h.2 rfl
      rw [List.take_append_drop] at rr
      exact rr.wk fun c hc => S6.fr c hc.1
    rintro σ H9 ⟨us, rfl, s69, hlo9, rus9⟩
    have S9 := S6.same s69
    have T9 := Tabs.same T6 s69
    have hpb9 := s69 _ _ (kp6 _ _ hpb5 (by intro ps z; cases z) (kpn_off _ hEb).1 (kpn_off _ hEb).2)
    have rv9 : RepL K (Ex [a, b]) H9 (ts.map dTie) vs5 := (rvs5.kpn kp6 kpn_off).same s69
    have lus9 : us.length = 15 := by rw [rus9.len]; rfl
    have kp19 : KpN a b H1 H9 := kp16.trans (KpN.same s69)
    refine viaS (t1 := tFor _ _ _) (fun σ H10 => ∃ v5 v6 : Option V, σ = [some (.ref a), some (.ref p), some (.ref pa), some (.ref pb), some (.int (at2 : Nat)), v5, v6, v7, some (.str x), some (.str y), some (.ref lo), none, none, none, none] ∧ KpN a b H9 H10 ∧ Strm a b (m + 1000) H10 ∧ Tabs (tabsT K) H10) (fun nx hn => ?_) ?_
    · refine ⟨_, rfl, _, rfl, _, rfl, _, rfl, pb, vs5, rfl, SqL.of hpb9, ?_⟩
      rw [cut_to]
      intro q1 n_q1
      have e_q1 : upd H9 q1 (.lst (vs5.take at2)) q1 = some (.lst (vs5.take at2)) := upd_same
      have s_q1 : Same H9 (upd H9 q1 (.lst (vs5.take at2))) := same_new n_q1
      generalize upd H9 q1 (.lst (vs5.take at2)) = G1 at e_q1 s_q1 ⊢
      have ltk : (vs5.take at2).length ≤ 1000 := Nat.le_trans (List.length_take_le' _ _) (by omega)
      refine ⟨lo, q1, us, _, rfl, rfl, s_q1 _ _ hlo9, e_q1, Nat.le_trans (show us.length + (vs5.take at2).length ≤ 1015 by omega) (by decide), ?_⟩
      intro q2 n_q2
      have e_q2 : upd G1 q2 (.lst (us ++ vs5.take at2)) q2 = some (.lst (us ++ vs5.take at2)) := upd_same
      have s_q2 : Same G1 (upd G1 q2 (.lst (us ++ vs5.take at2))) := same_new n_q2
      generalize upd G1 q2 (.lst (us ++ vs5.take at2)) = G2 at e_q2 s_q2 ⊢
      have g02 := same_trans s_q1 s_q2
      refine ⟨_, rfl, _, rfl, _, rfl, pb, vs5, rfl, SqL.of (g02 _ _ hpb9), ?_⟩
      rw [cut_to]
      intro q3 n_q3
      have e_q3 : upd G2 q3 (.lst (vs5.take at2)) q3 = some (.lst (vs5.take at2)) := upd_same
      have s_q3 : Same G2 (upd G2 q3 (.lst (vs5.take at2))) := same_new n_q3
      generalize upd G2 q3 (.lst (vs5.take at2)) = G3 at e_q3 s_q3 ⊢
      have g03 := same_trans g02 s_q3
      have rt3 : RepL K (Ex [a, b]) G3 ((ts.take at2).map dTie) (vs5.take at2) := by
        rw [List.map_take]
        exact (rv9.take at2).same g03
      have ltt : (vs5.take at2).length = (ts.take at2).length := by rw [rt3.len, List.length_map]
      refine ⟨q3, rfl, ⟨_, SqL.of e_q3⟩, fun D nD => ?_⟩
      refine lc_it (walk_list (xs := vs5.take at2)) (fun j G => Same G3 G ∧ ∃ ws : List V, G D = some (.lst ws) ∧ ws.length ≤ j ∧ RepL K (fun c => G3 c = none ∧ c ≠ D) G ((((ts.take at2).take j).map flipT).map dTie) ws)
        ⟨same_new nD, [], upd_same, Nat.le_refl _, RepL.nil⟩ (fun j G _ ⟨sm, _⟩ => SqL.of (sm _ _ e_q3)) ?_ ?_
      · rintro j xv _ G hj ⟨sm, ws, hD, lw, rw_⟩ ⟨rfl, hxj⟩
        obtain ⟨dt, hdt, hrt⟩ := (rt3.same sm).get hxj
        obtain ⟨⟨x', y', h'⟩, ht', rfl⟩ := map_get hdt
        obtain ⟨tp, rfl, _, htp⟩ := rep_tie.mp hrt
        refine ⟨tp, _, rfl, SqT.of htp, rfl, _, _, rfl, _, _, rfl, _, _, rfl, rfl, rfl, yesT ?_⟩
        refine ⟨_, rfl, _, rfl, _, rfl, _, _, rfl, rfl, by show 3 ≤ sizeLine; decide, fun t nt => ?_⟩
        have hDt : D ≠ t := ne_of_none hD nt
        refine ⟨ws, upd_at hD hDt, Nat.lt_of_le_of_lt (show ws.length ≤ 1000 by omega) (by decide), same_mut (same_trans sm (same_new nt)) nD, ws ++ [.ref t], upd_same, by rw [List.length_append]; exact Nat.succ_le_succ lw, ?_⟩
        rw [take_snoc ht', List.map_append, List.map_append]
        exact RepL.snoc ((rw_.same (same_new nt)).mut fun h => h.2 rfl) (rep_tie.mpr ⟨t, rfl, ⟨same_back sm nt, hDt.symm⟩, upd_at upd_same hDt.symm⟩)
      rintro G4 ⟨sm, ws, hD, lw, rw_⟩
      rw [ltt, List.take_length] at rw_
      have g04 := same_trans g03 sm
      have e_q2' := sm _ _ (s_q3 _ _ e_q2)
      refine ⟨q2, D, _, ws, rfl, rfl, e_q2', hD, by rw [List.length_append]; exact Nat.le_trans (show us.length + (vs5.take at2).length + ws.length ≤ 2015 by omega) (by decide), ?_⟩
      intro q5 n_q5
      have e_q5 : upd G4 q5 (.lst (us ++ vs5.take at2 ++ ws)) q5 = some (.lst (us ++ vs5.take at2 ++ ws)) := upd_same
      have s_q5 : Same G4 (upd G4 q5 (.lst (us ++ vs5.take at2 ++ ws))) := same_new n_q5
      generalize upd G4 q5 (.lst (us ++ vs5.take at2 ++ ws)) = G5 at e_q5 s_q5 ⊢
      have g05 := same_trans g04 s_q5
      have S5' := S9.same g05
      have rall : RepL K (Ex [a, b]) G5 (oddT x y ++ (ts.take at2).map dTie ++ ((ts.take at2).map flipT).map dTie) (us ++ vs5.take at2 ++ ws) :=
        RepL.app (RepL.app (rus9.same g05) ((rt3.same sm).same s_q5)) ((rw_.same s_q5).wk fun c hc => (S9.same g03).fr c hc.1)
      have hEq5 : Ex [a, b] q5 := (S9.same g04).fr _ n_q5
      have lall : (us ++ vs5.take at2 ++ ws).length ≤ 2015 := by rw [List.length_append, List.length_append]; omega
      refine ⟨q5, rfl, ⟨_, SqL.of e_q5⟩, for_it (walk_list (xs := us ++ vs5.take at2 ++ ws)) (fun i σ H10 => ∃ v5 v6 : Option V, σ = [some (.ref a), some (.ref p), some (.ref pa), some (.ref pb), some (.int (at2 : Nat)), v5, v6, v7, some (.str x), some (.str y), some (.ref lo), none, none, none, none] ∧ KpN a b G5 H10 ∧ Strm a b (m + 1000 + (2015 - i) * 1100) H10 ∧ Tabs (tabsT K) H10)
        ⟨v5, v6, rfl, KpN.refl _, S5'.le (by omega), Tabs.same T9 g05⟩ (fun i σ H10 _ ⟨_, _, _, kp, _⟩ => SqL.of (kp _ _ e_q5 (by intro ps z; cases z) (kpn_off _ hEq5).1 (kpn_off _ hEq5).2)) ?_ ?_⟩
      · rintro i xo σ _ H10 hi ⟨v5, v6, rfl, kp10, S10, T10⟩ ⟨rfl, hx⟩
        obtain ⟨d, hd, hrd⟩ := rall.get hx
        have hmem := List.mem_of_getElem? hd
        have hrd10 := hrd.kpn kp10 kpn_off
        obtain ⟨hs, dd3, dcn⟩ := oddT_few d hmem
        have hbad := oddT_bad (x := x) (y := y) (acc := ts.take at2) (ns := x :: y :: ns') (fun h => (hok.gd _ h).2.2 rfl) d hmem
        refine gName_i ?_
        dsimp only
        have kpG : KpN a b H9 H10 := (KpN.same g05).trans kp10
        have kp110 := kp19.trans kpG
        have ra10 := ra1.kpn kp110 kpn_off
        have rv10 := rv9.kpn kpG kpn_off
        have hpb10 := kpG _ _ hpb9 (by intro ps z; cases z) (kpn_off _ hEb).1 (kpn_off _ hEb).2
        refine viaS (t1 := tAsg _ _) (fun σ H11 => ∃ (v' : V) (d' : Dt), σ = [some (.ref a), some (.ref p), some (.ref pa), some (.ref pb), some (.int (at2 : Nat)), some xo, some v', v7, some (.str x), some (.str y), some (.ref lo), none, none, none, none] ∧ KpN a b H10 H11 ∧ Strm a b (m + 1000 + (2015 - (i + 1)) * 1100) H11 ∧ Tabs (tabsT K) H11 ∧
            d'.lax = (tieD ts at2 d).lax ∧ Rep K (Ex [a, b]) H11 d' v') (fun nx2 hn2 => ?_) ?_
        · refine ⟨_, rfl, mid_list rfl rfl rfl hpb10 (by omega) fun H11 c s11 nc hc => ?_⟩
          have rc : Rep K (Ex [a, b]) H11 (tieD ts at2 d) (.ref c) := by
            refine ⟨c, _, rfl, S10.fr c nc, hc, RepL.app (RepL.app ?_ ⟨_, _, rfl, hrd10.same s11, _, _, rfl, rfl, rfl⟩) ?_⟩
            · rw [List.map_take]
              exact (rv10.take at2).same s11
            · rw [List.map_drop]
              exact (rv10.drop at2).same s11
          have cn := tie_cnt (ts := ts) (i := at2) l2 dcn
          refine ⟨a, b, .ref c, tieD ts at2 d, Ex [a, b], m + 1000 + (2015 - (i + 1)) * 1100, rfl, rc, kpn_off, tie_dep l2 dd3, (S10.same s11).le (by omega), fun H12 v' d' hl rv kp12 S12 => ?_⟩
          have T11 := Tabs.same T10 s11
          refine hn2 _ _ ⟨v', d', rfl, (KpN.same s11).trans (KpN.of kp12), S12, Tabs.kp T11 (S10.same s11) kp12, hl, rv.wk fun c hc => ?_⟩
          rcases hc with hc | hc
          · exact hc
          · exact (S10.same s11).fr c hc
        rintro σ H11 ⟨v', d', rfl, kp11, S11, T11, hl11, rv11⟩
        have ra11 := ra10.kpn kp11 kpn_off
        have fw := few_of_lax hl11 (tie_few (i := at2) l2 hs)
        refine refused T11 (x := "BadTies") (f := "index") (tag := "ties") (y := .int (at2 : Nat)) (by decide) (fun H12 E Q' eN T12 hR => ?_) (fun pr H12 H13 eN T12 s13 npr hpr => ?_)
        · refine ⟨_, rfl, _, rfl, _, _, rfl, dStrs (x :: y :: ns'), d', Ex [a, b], ra11.kpn (KpN.ext eN) kpn_off, rv11.kpn (KpN.ext eN) kpn_off, strs_few true (by omega) gdn, fw, ?_⟩
          rw [ref_ties hat2 hok.nd gdn (raw_acc hok) hbad hl11]
          exact hR
        · refine ⟨_, rfl, by show 2 ≤ sizeLine; decide, fun t nt => ?_⟩
          have st := same_new (o := .tup [.str "ties", .int (at2 : Nat)]) nt
          refine ⟨.ref pr, .ref t, .seq false [.str "ties", .int (at2 : Nat)], _, _, rfl, rep_two (N := fun _ => True) (st _ _ hpr) rfl, rep_two (N := fun _ => True) upd_same rfl, rfl, fun H14 s14 => ⟨_, rfl, iteF (next_i ?_)⟩⟩
          have s1214 := same_trans s13 (same_trans st s14)
          exact ⟨_, _, rfl, (kp10.trans kp11).trans ((KpN.ext eN).trans (KpN.same s1214)), (S11.ext eN).same s1214, Tabs.same T12 s1214⟩
      · rintro σ H10 ⟨v5, v6, rfl, kp10, S10, T10⟩
        exact hn _ _ ⟨v5, v6, rfl, (KpN.same g05).trans kp10, S10.le (by omega), T10⟩
    rintro σ H10 ⟨v5, v6, rfl, kp10, S10, T10⟩
    have kp110 := kp19.trans kp10
    have ra10 := ra1.kpn kp110 kpn_off
    have rb10 := rb1.kpn kp110 kpn_off
    refine viaS (t1 := tAsg _ _) (fun σ H11 => ∃ (u : V) (n : Near), σ = [some (.ref a), some (.ref p), some (.ref pa), some (.ref pb), some (.int (at2 : Nat)), v5, v6, v7, some (.str x), some (.str y), some (.ref lo), none, none, none, some u] ∧ Same H10 H11 ∧ WebOf (x :: y :: ns') ts n ∧ Rep K (Ex [a, b]) H11 (.web n) u) (fun nx hn => ?_) ?_
    · exact ⟨_, rfl, _, rfl, _, _, rfl, webgo_ok ra10 rb10 hok.nd gdn (raw_acc hok) (by omega) (by omega) fun n u H11 hw s11 ru => hn _ _ ⟨u, n, rfl, s11, hw, ru.wk S10.fr⟩⟩
    rintro σ H11 ⟨u, n, rfl, s11, hw, ru11⟩
    have S11 := S10.same s11
    have T11 := Tabs.same T10 s11
    refine viaS (t1 := tFor _ _ _) (fun σ H12 => KpN a b H11 H12 ∧ Strm a b m H12 ∧ Tabs (tabsT K) H12) (fun nx hn => ?_) ?_
    · refine ⟨_, rfl, by show 1 ≤ sizeLine; decide, ?_⟩
      intro q1 n_q1
      have e_q1 : upd H11 q1 (.lst [.str x]) q1 = some (.lst [.str x]) := upd_same
      have s_q1 : Same H11 (upd H11 q1 (.lst [.str x])) := same_new n_q1
      generalize upd H11 q1 (.lst [.str x]) = G1 at e_q1 s_q1 ⊢
      refine ⟨_, rfl, by show 1 ≤ sizeLine; decide, ?_⟩
      intro q2 n_q2
      have e_q2 : upd G1 q2 (.tup [.str x]) q2 = some (.tup [.str x]) := upd_same
      have s_q2 : Same G1 (upd G1 q2 (.tup [.str x])) := same_new n_q2
      generalize upd G1 q2 (.tup [.str x]) = G2 at e_q2 s_q2 ⊢
      intro q3 n_q3
      have e_q3 : upd G2 q3 (.dK []) q3 = some (.dK []) := upd_same
      have s_q3 : Same G2 (upd G2 q3 (.dK [])) := same_new n_q3
      generalize upd G2 q3 (.dK []) = G3 at e_q3 s_q3 ⊢
      refine ⟨_, rfl, by show 9 ≤ sizeLine; decide, ?_⟩
      intro q4 n_q4
      have e_q4 : upd G3 q4 (.tup [.non, .int 5, .str "nobody", .str "", .ref q1, .ref q2, .ref q3, .bl true, u]) q4 = some (.tup [.non, .int 5, .str "nobody", .str "", .ref q1, .ref q2, .ref q3, .bl true, u]) := upd_same
      have s_q4 : Same G3 (upd G3 q4 (.tup [.non, .int 5, .str "nobody", .str "", .ref q1, .ref q2, .ref q3, .bl true, u])) := same_new n_q4
      generalize upd G3 q4 (.tup [.non, .int 5, .str "nobody", .str "", .ref q1, .ref q2, .ref q3, .bl true, u]) = G4 at e_q4 s_q4 ⊢
      have g4 := s_q4
      have g3 := same_trans s_q3 g4
      have g2 := same_trans s_q2 g3
      have g1 := same_trans s_q1 g2
      have S12 := S11.same g1
      have rall : RepL K (Ex [a, b]) G4 (oddP x n) [.non, .int 5, .str "nobody", .str "", .ref q1, .ref q2, .ref q3, .bl true, u] :=
        ⟨_, _, rfl, rfl, _, _, rfl, rfl, _, _, rfl, rfl, _, _, rfl, rfl, _, _, rfl, ⟨q1, _, rfl, S11.fr _ n_q1, g2 _ _ e_q1, _, _, rfl, rfl, rfl⟩, _, _, rfl, ⟨q2, _, rfl, (S11.same s_q1).fr _ n_q2, g3 _ _ e_q2, _, _, rfl, rfl, rfl⟩, _, _, rfl, ⟨q3, rfl, (S11.same (same_trans s_q1 s_q2)).fr _ n_q3, g4 _ _ e_q3⟩, _, _, rfl, rfl, _, _, rfl, ru11.same g1, rfl⟩
      have hEq4 : Ex [a, b] q4 := (S11.same (same_trans s_q1 (same_trans s_q2 s_q3))).fr _ n_q4
      refine ⟨q4, rfl, ⟨_, SqT.of e_q4⟩, for_it (walk_tup (xs := [.non, .int 5, .str "nobody", .str "", .ref q1, .ref q2, .ref q3, .bl true, u])) (fun i σ H12 => ∃ v5 : Option V, σ = [some (.ref a), some (.ref p), some (.ref pa), some (.ref pb), some (.int (at2 : Nat)), v5, v6, v7, some (.str x), some (.str y), some (.ref lo), none, none, none, some u] ∧ KpN a b G4 H12 ∧ Strm a b m H12 ∧ Tabs (tabsT K) H12)
        ⟨v5, rfl, KpN.refl _, S12.le (by omega), Tabs.same T11 g1⟩ (fun i σ H12 _ ⟨_, _, kp, _⟩ => SqT.of (kp _ _ e_q4 (by intro ps z; cases z) (kpn_off _ hEq4).1 (kpn_off _ hEq4).2)) ?_ ?_⟩
      · rintro i xo σ _ H12 hi ⟨v5, rfl, kp12, S12', T12⟩ ⟨rfl, hx⟩
        obtain ⟨d, hd, hrd⟩ := rall.get hx
        obtain ⟨hno, hsm⟩ := oddP_bad hok hw d (List.mem_of_getElem? hd)
        have hrd12 := hrd.kpn kp12 kpn_off
        have ru12 := (ru11.same g1).kpn kp12 kpn_off
        refine gName_i ?_
        dsimp only
        refine refused T12 (x := "NoPlace") (f := "thing") (tag := "place") (y := xo) (by decide) (fun H13 E Q' eN T13 hR => ?_) (fun pr H13 H14 eN T13 s14 npr hpr => ?_)
        · obtain ⟨wa, ewa, _, hwa⟩ := ru12.kpn (KpN.ext eN) kpn_off
          obtain ⟨dx, wt, wd, hins, _⟩ := id hwa
          exact ⟨_, rfl, wa, dx, _, ewa, hins, rfl, _, rfl, wa, n, _, _, xo, d, by rw [ewa]; rfl, hwa, hrd12.kpn (KpN.ext eN) kpn_off, .inr ⟨hno, hR⟩⟩
        · refine ⟨by show 1 ≤ sizeLine; decide, ?_⟩
          intro l1' n_l1'
          have e_l1' : upd H14 l1' (.lst [.ref pr]) l1' = some (.lst [.ref pr]) := upd_same
          have s_l1' : Same H14 (upd H14 l1' (.lst [.ref pr])) := same_new n_l1'
          generalize upd H14 l1' (.lst [.ref pr]) = H15 at e_l1' s_l1' ⊢
          refine ⟨_, rfl, by show 2 ≤ sizeLine; decide, ?_⟩
          intro t1 n_t1
          have e_t1 : upd H15 t1 (.tup [.str "place", xo]) t1 = some (.tup [.str "place", xo]) := upd_same
          have s_t1 : Same H15 (upd H15 t1 (.tup [.str "place", xo])) := same_new n_t1
          generalize upd H15 t1 (.tup [.str "place", xo]) = H16 at e_t1 s_t1 ⊢
          refine ⟨by show 1 ≤ sizeLine; decide, ?_⟩
          intro l2' n_l2'
          have e_l2' : upd H16 l2' (.lst [.ref t1]) l2' = some (.lst [.ref t1]) := upd_same
          have s_l2' : Same H16 (upd H16 l2' (.lst [.ref t1])) := same_new n_l2'
          generalize upd H16 l2' (.lst [.ref t1]) = H17 at e_l2' s_l2' ⊢
          have s1417 := same_trans s_l1' (same_trans s_t1 s_l2')
          have s1317 := same_trans s14 s1417
          have hd17 : Rep K (Ex [a, b]) H17 d xo := (hrd12.kpn (KpN.ext eN) kpn_off).same s1317
          have r1 : Rep K (fun _ => True) H17 (.seq true [.seq false [.str "place", d]]) (.ref l1') := ⟨l1', _, rfl, trivial, (same_trans s_t1 s_l2') _ _ e_l1', _, _, rfl, rep_two (s1417 _ _ hpr) hd17, rfl⟩
          have r2 : Rep K (fun _ => True) H17 (.seq true [.seq false [.str "place", d]]) (.ref l2') := ⟨l2', _, rfl, trivial, e_l2', _, _, rfl, rep_two (s_l2' _ _ e_t1) hd17, rfl⟩
          have hsm8 : (Dt.seq true [.seq false [.str "place", d]]).smp 8 = true := by
            show (decide (1 ≤ 100000) && ((decide (2 ≤ 100000) && (true && (Dt.smp 6 d && true))) && true)) = true
            rw [hsm]
            rfl
          refine ⟨_, _, _, _, _, rfl, r1, r2, hsm8, fun H18 s18 => ⟨_, rfl, iteF (next_i ?_)⟩⟩
          have s1318 := same_trans s1317 s18
          exact ⟨_, rfl, kp12.trans ((KpN.ext eN).trans (KpN.same s1318)), (S12'.ext eN).same s1318, Tabs.same T13 s1318⟩
      · rintro σ H12 ⟨v5, rfl, kp12, S12', T12⟩
        exact hn _ _ ⟨(KpN.same g1).trans kp12, S12', T12⟩
    rintro σ H12 ⟨kp12, S12, T12⟩
    exact q H12 ((KpN.of kp1).trans (kp110.trans ((KpN.same s11).trans kp12))) S12 T12
end
end Pw
set_option Elab.async false
set_option linter.all false
set_option maxRecDepth 100000
set_option maxHeartbeats 8000000
/-! Pictures, whether lists or tuples. -/
namespace Pw
open PySem PySem.Spec PyProof.Rows L2
theorem its_lax (d : Dt) : d.lax.its = d.its.map Dt.lax := by
  cases d with
  | seq l xs => exact laxL_map xs
  | _ => rfl
theorem isSeq_lax (d : Dt) : d.lax.isSeq = d.isSeq := by cases d <;> rfl
theorem isInt_lax (d : Dt) : d.lax.isInt = d.isInt := by cases d <;> rfl
theorem int0_lax (d : Dt) : d.lax.int0 = d.int0 := by cases d <;> rfl
theorem r1_lax (d : Dt) : d.lax.r1 = d.r1 := by
  unfold Dt.r1
  rw [isSeq_lax, its_lax, List.length_map]
theorem r2_lax (f d : Dt) : Dt.r2 f.lax d.lax = Dt.r2 f d := by
  unfold Dt.r2
  rw [its_lax, its_lax, List.length_map, List.length_map, List.all_map, show Dt.isInt ∘ Dt.lax = Dt.isInt from funext isInt_lax]
theorem isPic_lax (d : Dt) : d.lax.isPic = d.isPic := by
  unfold Dt.isPic
  rw [isSeq_lax, its_lax, List.all_map, show Dt.r1 ∘ Dt.lax = Dt.r1 from funext r1_lax]
  cases d.its with
  | nil => rfl
  | cons f fs =>
    show (d.isSeq && ((f :: fs).all Dt.r1 && ((f :: fs).map Dt.lax).all (Dt.r2 f.lax))) = (d.isSeq && ((f :: fs).all Dt.r1 && (f :: fs).all (Dt.r2 f)))
    rw [List.all_map, show Dt.r2 f.lax ∘ Dt.lax = Dt.r2 f from funext (r2_lax f)]
theorem ints_lax (d : Dt) : d.lax.ints = d.ints := by
  unfold Dt.ints
  rw [its_lax, List.map_map, show Dt.int0 ∘ Dt.lax = Dt.int0 from funext int0_lax]
theorem pic_lax (d : Dt) : d.lax.pic = d.pic := by
  unfold Dt.pic
  rw [its_lax, List.map_map, show Dt.ints ∘ Dt.lax = Dt.ints from funext ints_lax]
theorem few2_lax (d : Dt) : d.lax.few2 ↔ d.few2 := by
  unfold Dt.few2
  rw [its_lax, List.length_map]
  constructor
  · rintro ⟨h1, h2⟩
    refine ⟨h1, fun r hr => ?_⟩
    have := h2 _ (List.mem_map.mpr ⟨r, hr, rfl⟩)
    rwa [its_lax, List.length_map] at this
  · rintro ⟨h1, h2⟩
    refine ⟨h1, fun r hr => ?_⟩
    obtain ⟨r', hr', rfl⟩ := List.mem_map.mp hr
    rw [its_lax, List.length_map]
    exact h2 r' hr'
mutual
theorem okS_lax : ∀ d : Dt, d.lax.okS = d.okS
  | .seq _ xs => okSL_lax xs
  | .non => rfl
  | .bl _ => rfl
  | .int _ => rfl
  | .str _ => rfl
  | .dic _ => rfl
  | .web _ => rfl
theorem okSL_lax : ∀ ds : List Dt, Dt.okSL (Dt.laxL ds) = Dt.okSL ds
  | [] => rfl
  | d :: ds => by
    show (Dt.okS d.lax && Dt.okSL (Dt.laxL ds)) = (Dt.okS d && Dt.okSL ds)
    rw [okS_lax d, okSL_lax ds]
end
mutual
theorem wt_lax : ∀ d : Dt, d.lax.wt = d.wt
  | .seq _ xs => wtL_lax xs
  | .non => rfl
  | .bl _ => rfl
  | .int _ => rfl
  | .str _ => rfl
  | .dic _ => rfl
  | .web _ => rfl
theorem wtL_lax : ∀ ds : List Dt, Dt.wtL (Dt.laxL ds) = Dt.wtL ds
  | [] => rfl
  | d :: ds => by
    show Dt.wt d.lax + 1 + Dt.wtL (Dt.laxL ds) = Dt.wt d + 1 + Dt.wtL ds
    rw [wt_lax d, wtL_lax ds]
end
mutual
theorem dep_lax : ∀ (n : Nat) (d : Dt), d.lax.dep n = d.dep n
  | 0, d => by cases d <;> simp [Dt.dep, Dt.lax]
  | n + 1, .seq _ xs => by
    show (decide ((Dt.laxL xs).length ≤ 100000) && Dt.depL n (Dt.laxL xs)) = (decide (xs.length ≤ 100000) && Dt.depL n xs)
    rw [depL_lax n xs, laxL_map, List.length_map]
  | _ + 1, .non => rfl
  | _ + 1, .bl _ => rfl
  | _ + 1, .int _ => rfl
  | _ + 1, .str _ => rfl
  | _ + 1, .dic _ => rfl
  | _ + 1, .web _ => rfl
theorem depL_lax : ∀ (n : Nat) (ds : List Dt), Dt.depL n (Dt.laxL ds) = Dt.depL n ds
  | n, [] => by cases n <;> rfl
  | n, d :: ds => by
    show (Dt.dep n d.lax && Dt.depL n (Dt.laxL ds)) = (Dt.dep n d && Dt.depL n ds)
    rw [dep_lax n d, depL_lax n ds]
end
theorem ints_row (r : List Int) : (dRow r).ints = r := by
  show (r.map Dt.int).map Dt.int0 = r
  rw [List.map_map]
  exact List.map_id _
theorem pic_dPic (pic : List (List Int)) : (dPic pic).pic = pic := by
  show (pic.map dRow).map Dt.ints = pic
  rw [List.map_map, show Dt.ints ∘ dRow = id from funext ints_row]
  exact List.map_id _
theorem isPic_dPic {R C : Nat} {lo hi : Int} {pic : List (List Int)} (h : PicOk R C lo hi pic) (hC : 1 ≤ C) : (dPic pic).isPic = true := by
  unfold Dt.isPic
  have hl : ∀ r ∈ pic, (dRow r).its.length = C := fun r hr => by
    show (r.map Dt.int).length = C
    rw [List.length_map]
    exact (h.row r hr).1
  have hi' : ∀ r : List Int, (dRow r).its.all Dt.isInt = true := fun r => by
    show (r.map Dt.int).all Dt.isInt = true
    rw [List.all_eq_true]
    intro d hd
    obtain ⟨x, _, rfl⟩ := List.mem_map.mp hd
    rfl
  have e1 : (dPic pic).its = pic.map dRow := rfl
  rw [e1, show (dPic pic).isSeq = true from rfl, Bool.true_and, Bool.and_eq_true]
  refine ⟨List.all_eq_true.mpr fun d hd => ?_, ?_⟩
  · obtain ⟨r, hr, rfl⟩ := List.mem_map.mp hd
    show ((dRow r).isSeq && decide (0 < (dRow r).its.length)) = true
    rw [hl r hr, decide_eq_true (show 0 < C by omega)]
    rfl
  · cases pic with
    | nil => rfl
    | cons f fs =>
      show ((f :: fs).map dRow).all (Dt.r2 (dRow f)) = true
      refine List.all_eq_true.mpr fun d hd => ?_
      obtain ⟨r, hr, rfl⟩ := List.mem_map.mp hd
      unfold Dt.r2
      rw [hl r hr, hl f List.mem_cons_self, hi' r, decide_eq_true rfl]
      rfl
theorem few2_dPic {R C : Nat} {lo hi : Int} {pic : List (List Int)} (h : PicOk R C lo hi pic) (hR : R ≤ 12) (hC : C ≤ 20) : (dPic pic).few2 := by
  refine ⟨?_, fun r hr => ?_⟩
  · show (pic.map dRow).length ≤ 100000
    rw [List.length_map, h.len]
    omega
  · obtain ⟨r', hr', rfl⟩ := List.mem_map.mp (show r ∈ pic.map dRow from hr)
    show (r'.map Dt.int).length ≤ 100000
    rw [List.length_map, (h.row r' hr').1]
    omega
theorem dPic_all {R C : Nat} {lo hi : Int} {pic : List (List Int)} (h : PicOk R C lo hi pic) (hR : R ≤ 12) (hC : C ≤ 20) (hlo : -10000000 ≤ lo) (hhi : hi ≤ 10000000) : (dPic pic).okS = true ∧ (dPic pic).wt ≤ 700000 ∧ (dPic pic).dep 4 = true ∧ (dPic pic).cnt = 1 + R := by
  refine ⟨?_, ?_, ?_, ?_⟩
  · show Dt.okSL (pic.map dRow) = true
    refine okSL_all fun d hd => ?_
    obtain ⟨r, hr, rfl⟩ := List.mem_map.mp hd
    show Dt.okSL (r.map Dt.int) = true
    refine okSL_all fun d hd => ?_
    obtain ⟨x, hx, rfl⟩ := List.mem_map.mp hd
    have := (h.row r hr).2 x hx
    exact decide_eq_true (by omega)
  · show Dt.wtL (pic.map dRow) ≤ 700000
    have e1 : Dt.wtL (pic.map dRow) ≤ (2020 + 1) * (pic.map dRow).length := wtL_le fun d hd => by
      obtain ⟨r, hr, rfl⟩ := List.mem_map.mp hd
      have e2 : Dt.wtL (r.map Dt.int) ≤ (100 + 1) * (r.map Dt.int).length := wtL_le fun d hd => by
        obtain ⟨x, _, rfl⟩ := List.mem_map.mp hd
        exact Nat.le_refl _
      rw [List.length_map, (h.row r hr).1] at e2
      show Dt.wtL (r.map Dt.int) ≤ 2020
      omega
    rw [List.length_map, h.len] at e1
    omega
  · show (decide ((pic.map dRow).length ≤ 100000) && Dt.depL 3 (pic.map dRow)) = true
    rw [List.length_map, h.len, decide_eq_true (show R ≤ 100000 by omega), depL_all fun d hd => ?_]
    · rfl
    · obtain ⟨r, hr, rfl⟩ := List.mem_map.mp hd
      show (decide ((r.map Dt.int).length ≤ 100000) && Dt.depL 2 (r.map Dt.int)) = true
      rw [List.length_map, (h.row r hr).1, decide_eq_true (show C ≤ 100000 by omega), depL_all fun d hd => ?_]
      · rfl
      · obtain ⟨x, _, rfl⟩ := List.mem_map.mp hd
        rfl
  · show 1 + Dt.cntL (pic.map dRow) = 1 + R
    have e0 : ∀ r : List Int, Dt.cntL (r.map Dt.int) = 0 := fun r => by
      induction r with
      | nil => rfl
      | cons x r ih =>
        show 0 + Dt.cntL (r.map Dt.int) = 0
        rw [ih]
    have e1 : ∀ p : List (List Int), Dt.cntL (p.map dRow) = p.length := fun p => by
      induction p with
      | nil => rfl
      | cons r p ih =>
        show (1 + Dt.cntL (r.map Dt.int)) + Dt.cntL (p.map dRow) = p.length + 1
        rw [ih, e0]
        omega
    rw [e1, h.len]
theorem sw_fl (t : Tie) : Fl t (sw t) := by
  obtain ⟨x, y, h⟩ := t
  have e : sw (x, y, h) = ((pr x y).1, (pr x y).2, h) := rfl
  rw [e]
  rcases pr_cases x y with ⟨e, _⟩ | ⟨e, _⟩
  · rw [e]
    exact .inl rfl
  · rw [e]
    exact .inr rfl
theorem sw_paired : ∀ T : List Tie, Paired Fl T (T.map sw)
  | [] => .nil
  | t :: T => .cons (sw_fl t) (sw_paired T)
theorem web_plane {ns : List Str} {T ts : List Tie} {n : Near} (w : WebOf ns T n) (pm : ts.Perm (T.map sw)) : WebOf ns ts n :=
  w.conv (fun _ => Iff.rfl) fun x y h => by
    rw [← fl_mem (List.Perm.refl T) (sw_paired T) x y h, pm.mem_iff, pm.mem_iff]
end Pw
set_option Elab.async false
set_option linter.all false
set_option maxRecDepth 100000
set_option maxHeartbeats 8000000
/-! A picture's web is told. -/
namespace Pw
open PySem PySem.Spec PyProof.Rows L2 LamX
section
variable {P : Program} {w : World} {K : PySem.W.Frag} {mg : Str → Option Value} {base : Heap}
def spPR (K : PySem.W.Frag) : Sp := fun vs H Q _ => ∃ (a b : Addr) (v : V) (N : Addr → Prop) (R C : Nat) (lo hi : Int) (pic : List (List Int)) (m : Nat), vs = [.ref a, v] ∧ Rep K N H (dPic pic) v ∧ (∀ c, N c → c ≠ a ∧ c ≠ b) ∧ PicOk R C lo hi pic ∧ 1 ≤ C ∧ R ≤ 12 ∧ C ≤ 20 ∧ R * C ≤ 200 ∧
  -10000000 ≤ lo ∧ hi ≤ 10000000 ∧ Strm a b (m + 100) H ∧ ∀ H', Kp a b H H' → Strm a b m H' → Q (.bl true) H'
theorem sc_law_picture_right : FnScope ["_law_stream", "_law_given", "_law_handed", "_law_due", "_law_was", "_law_found"] ["_law_stream", "_law_given"] (defScope s_law_picture_right) := ⟨rfl, rfl, rfl, by decide +kernel, rfl, by decide +kernel, by decide +kernel⟩
theorem ok_PR (T : Tx K mg) : OkG P w K mg base 12 "_law_picture_right" ["_law_stream", "_law_given"] (spPR K) := by
  have G_init : OkM P w K mg base (L2.CX P w) 4 "Web" "__init__" _ _ := ok_init T
  have G_eq : OkM P w K mg base CX0 1 "Web" "__eq__" _ _ := ok_eq T
  have G_places : OkM P w K mg base CX0 1 "Web" "places" _ _ := ok_places T
  have G_ties : OkM P w K mg base CX0 1 "Web" "ties" _ _ := ok_ties T
  have G_same : Ok P w K mg base CX0 10 _ _ _ := ok_same T 8
  have G_loose : Ok P w K mg base CX0 6 _ _ _ := ok_loose T 4
  have G_a_plane : Ok P w K mg base CX0 2 _ _ _ := ok_plane T
  have G_picture_web : Ok P w K mg base (L2.CX P w) 7 _ _ _ := ok_picture_web T
  refine mkG (d := d_law_picture_right) T 46 44 rfl rfl rfl rfl rfl (fun _ _ _ _ _ _ us hl => match us, hl with | [_, _], _ => rfl) sc_law_picture_right (fun vs H Q E h => ?_) (fun f c A outer s H vs Q E ec gd hr h => ?_)
  · obtain ⟨a, b, v, N, R, C, lo, hi, pic, m, rfl, _⟩ := h
    rfl
  · obtain ⟨a, b, v, N, R, C, lo, hi, pic, m, rfl, hrep, hN, hpic, hC1, hR, hC, hRC, hlo, hhi, hS, q⟩ := h
    have nd := sc_law_picture_right.nd
    have hu := hu_of hr
    refine ⟨_, (pss_cons (ps_par (i := 2) (j := 3) (by rfl) nd rfl rfl (by decide) rfl rfl (pa_cons (pe_ok G_loose (hr.mono (by omega)) pass0 (pa_cons (pv 0) (pa_cons (pv 1) pa_nil))) (pa_cons (pe_ok G_a_plane (hr.mono (by omega)) pass0 (pa_cons (pv 1) pa_nil)) pa_nil)) (by rfl))
      (pss_cons (ps_set (i := 4) nd rfl (Or.inl rfl) (pe_callB (k_repr (K := K) gd hr.units) (by rfl) T.repr (by decide +kernel) (pa_cons (pv 2) pa_nil)))
      (pss_cons (ps_set (i := 5) nd rfl (Or.inl rfl) (pe_lst (pa_cons (pe_ok G_picture_web (hr.mono (by omega)) passL (pa_cons (pv 2) pa_nil)) (pa_cons (pe_pwK (K := K) T (hr.mono (by omega)) passL (pk_cons (pv 1) pk_nil)) pa_nil))))
      (pss_cons (ps_if (PW.pt (pw_or (pt_cmpR op_ne (pe_callB (k_repr (K := K) gd hr.units) (by rfl) T.repr (by decide +kernel) (pa_cons (pv 2) pa_nil)) (pv 4) (nomark _)) (pw_or (pt_not (pt_cmpR (op_weq (K := K) T G_eq (hr.mono (by omega))) (pe_ix (k_ixL (K := K)) (pv 5) pe_int (fun _ _ => rfl)) (pe_ix (k_ixL (K := K)) (pv 5) pe_int (fun _ _ => rfl)) (nomark _))) (pw_or1 (pt_not (pt_cmpR (op_weq (K := K) T G_eq (hr.mono (by omega))) (pe_ix (k_ixL (K := K)) (pv 5) pe_int (fun _ _ => rfl)) (pe_web T G_init (hr.mono (by omega)) passL (pa_cons (pe_ix (k_ixT (K := K)) (pv 3) pe_int (fun _ _ => rfl)) (pa_cons (pe_ix (k_ixT (K := K)) (pv 3) pe_int (fun _ _ => rfl)) pa_nil))) (nomark _))))))) (pss_one (ps_ret pe_bl)) pss_nil)
      (pss_one (ps_ret (pe_ok G_same (hr.mono (by omega)) pass0 (pa_cons (pe_lst (pa_cons (pe_m0 (K := K) T G_places T.m_places (hr.mono (by omega)) pass0 (pe_ix (k_ixL (K := K)) (pv 5) pe_int (fun _ _ => rfl))) (pa_cons (pe_m0 (K := K) T G_ties T.m_ties (hr.mono (by omega)) pass0 (pe_ix (k_ixL (K := K)) (pv 5) pe_int (fun _ _ => rfl))) pa_nil))) (pa_cons (pe_lst (pa_cons (pe_callB (k_sortedL (K := K)) (by rfl) T.sorted (by decide +kernel) (pa_cons (pe_ix (k_ixT (K := K)) (pv 3) pe_int (fun _ _ => rfl)) pa_nil)) (pa_cons (pe_ix (k_ixT (K := K)) (pv 3) pe_int (fun _ _ => rfl)) pa_nil))) pa_nil))))))))), ?_⟩
    obtain ⟨pok, pwt, pdep, pcn⟩ := dPic_all hpic hR hC hlo hhi
    have ppic := isPic_dPic hpic hC1
    have pfew := few2_dPic hpic hR hC
    have exN : ∀ c, N c → Ex [a, b] c := fun c hc hin => by
      simp only [List.mem_cons, List.not_mem_nil, or_false] at hin
      rcases hin with e | e
      · exact (hN c hc).1 e
      · exact (hN c hc).2 e
    have hraw : ∀ {ts : List Tie}, ts.Perm ((planeT pic C R).map sw) → Srt ts → RawOk (planeN C R) ts := fun pm so => plane_raw hpic hR hC hRC (by unfold big; omega) pm so
    refine viaS (t1 := tPar _ _ _) (fun σ H2 => ∃ (vh vd : V) (dh : Dt) (ts : List Tie), σ = [some (.ref a), some v, some vh, some vd, none, none] ∧ Kp a b H H2 ∧ Strm a b m H2 ∧ dh.lax = (dPic pic).lax ∧ Rep K (Ex [a, b]) H2 dh vh ∧ Rep K (Ex [a, b]) H2 (dPic pic) v ∧
        Rep K (Ex [a, b]) H2 (dRaw (planeN C R) ts) vd ∧ ts.Perm ((planeT pic C R).map sw) ∧ Srt ts) (fun nx hn => ?_) ?_
    · refine ⟨_, rfl, _, rfl, a, b, v, dPic pic, N, m, rfl, hrep, hN, pdep, hS.le (by rw [pcn]; omega), fun H1 vh dh hl rh kp1 S1 => ?_⟩
      have hrep1 := hrep.kp kp1 hN
      refine ⟨_, rfl, v, N, R, C, lo, hi, pic, rfl, hrep1, hpic, hR, hC, fun H2 vd ts rd pm so s2 => ⟨_, _, rfl, hn _ _ ⟨vh, vd, dh, ts, rfl, kp1.trans (.of s2), S1.same s2, hl, ?_, (hrep1.wk exN).same s2, rd.wk S1.fr, pm, so⟩⟩⟩
      refine (rh.wk fun c hc => ?_).same s2
      rcases hc with hc | hc
      · exact exN c hc
      · exact hS.fr c hc
    rintro σ H2 ⟨vh, vd, dh, ts, rfl, kp2, S2, hl, rh2, rg2, rd2, pm, so⟩
    have hok := hraw pm so
    have hpic' : dh.isPic = true := by rw [← isPic_lax, hl, isPic_lax]; exact ppic
    have hpicE : dh.pic = pic := by rw [← pic_lax, hl, pic_lax, pic_dPic]
    have hfew' : dh.few2 := (few2_lax dh).mp (by rw [hl]; exact (few2_lax _).mpr pfew)
    have hokS : dh.okS = true := by rw [← okS_lax, hl, okS_lax]; exact pok
    have hwt : dh.wt ≤ 700000 := by rw [← wt_lax, hl, wt_lax]; exact pwt
    have hdep : dh.dep 10 = true := dep_mono (by rw [← dep_lax, hl, dep_lax]; exact pdep) (by decide)
    obtain ⟨lh, ysh, eh⟩ : ∃ l ys, dh = .seq l ys := by
      have : dh.isSeq = true := by rw [← isSeq_lax, hl]; rfl
      cases dh <;> first | exact ⟨_, _, rfl⟩ | cases this
    refine ⟨_, rfl, vh, dh, _, lh, ysh, rfl, eh, rh2, hdep, hokS, hwt, ?_⟩
    refine gName_i ?_
    dsimp only
    refine viaS (t1 := tAsg _ _) (fun σ H4 => ∃ (fl : Addr) (u1 u2 : V) (n : Near), σ = [some (.ref a), some v, some vh, some vd, some (.str dh.py.shown), some (.ref fl)] ∧ Same H2 H4 ∧ H4 fl = some (.lst [u1, u2]) ∧ WebOf (planeN C R) (planeT pic C R) n ∧ Rep K (Ex [a, b]) H4 (.web n) u1 ∧ Rep K (Ex [a, b]) H4 (.web n) u2) (fun nx hn => ?_) ?_
    · refine ⟨_, rfl, vh, dh, _, rfl, rh2, hfew', ?_⟩
      rw [if_pos hpic']
      refine ⟨R, C, lo, hi, by rw [hpicE]; exact hpic, hR, hC, fun n u1 H3 hw s3 ru1 => ?_⟩
      rw [hpicE] at hw
      refine ⟨_, rfl, v, rfl, v, dPic pic, _, rfl, rg2.same s3, pfew, ?_⟩
      rw [if_pos ppic]
      refine ⟨R, C, lo, hi, by rw [pic_dPic]; exact hpic, hR, hC, fun n2 u2 H4 hw2 s4 ru2 => ?_⟩
      rw [pic_dPic] at hw2
      obtain rfl : n2 = n := web_eq hw2 hw
      refine ⟨by show 2 ≤ sizeLine; decide, ?_⟩
      intro fl n_fl
      have e_fl : upd H4 fl (.lst [u1, u2]) fl = some (.lst [u1, u2]) := upd_same
      have s_fl : Same H4 (upd H4 fl (.lst [u1, u2])) := same_new n_fl
      generalize upd H4 fl (.lst [u1, u2]) = H5 at e_fl s_fl ⊢
      exact hn _ _ ⟨fl, u1, u2, n2, rfl, same_trans s3 (same_trans s4 s_fl), e_fl, hw2, ((ru1.wk S2.fr).same s4).same s_fl, (ru2.wk (S2.same s3).fr).same s_fl⟩
    rintro σ H4 ⟨fl, u1, u2, n, rfl, s24, hfl, hw, ru1, ru2⟩
    have hwt' := web_plane hw pm
    have nre := nearEq_refl hw.srt.ok
    have rd4 := rd2.same s24
    obtain ⟨pd, vda, vdb, rfl, hEd, hpd, rda, rdb⟩ := rep_raw.mp rd4
    refine viaS (t1 := tIfS _ _ _) (fun σ H5 => σ = [some (.ref a), some v, some vh, some (.ref pd), some (.str dh.py.shown), some (.ref fl)] ∧ Same H4 H5) (fun nx hn => ?_) ?_
    · refine ⟨_, rfl, vh, dh, _, lh, ysh, rfl, eh, rh2.same s24, hdep, hokS, hwt, _, rfl, rfl, _, rfl, ?_⟩
      rw [decide_eq_true (rfl : V.str dh.py.shown = V.str dh.py.shown)]
      refine iteF ?_
      refine ⟨_, rfl, fl, _, 0, u1, rfl, rfl, SqL.of hfl, atI_nat (j := 0) rfl, _, rfl, fl, _, 1, u2, rfl, rfl, SqL.of hfl, atI_nat (j := 1) rfl, n, .web n, _, _, ru1, ru2, ?_⟩
      dsimp only
      rw [nre]
      refine ⟨_, rfl, iteF ?_⟩
      refine ⟨_, rfl, fl, _, 0, u1, rfl, rfl, SqL.of hfl, atI_nat (j := 0) rfl, _, rfl, pd, _, 0, vda, rfl, rfl, SqT.of hpd, rfl, _, rfl, pd, _, 1, vdb, rfl, rfl, SqT.of hpd, rfl, _, _, rfl, webgo_ok rda rdb hok.nd (fun x hx => (hok.gd x hx).1) (raw_acc hok) (by have := hok.len; omega) (by have := hok.tl; omega) fun n3 u3 H5 hw3 s5 ru3 => ?_⟩
      obtain rfl : n3 = n := web_eq hw3 hwt'
      refine ⟨n3, .web n3, _, _, ru1.same s5, ru3, ?_⟩
      dsimp only
      rw [nre]
      exact ⟨_, rfl, iteF (next_i (hn _ _ ⟨rfl, s5⟩))⟩
    rintro σ H5 ⟨rfl, s45⟩
    have nl : n.length ≤ 1000 := by rw [web_len hwt' hok]; have := hok.len; omega
    have nr : ∀ q ∈ n, q.2.length ≤ 1000 := fun q hq => Nat.le_trans (web_rows hwt' hok q hq) (by decide)
    have ets : ts = tiesN n := ties_due hwt' hok (List.Perm.refl _) hok.so
    obtain ⟨wa, rfl, _, _⟩ := id ru1
    have web_at : ∀ {H' : Hp}, Same H5 H' → (∃ dx fs, H' wa = some (.ins (He.ga K "Web") dx fs) ∧ fs.lookup ("places" : Str) = none ∧ fs.lookup ("ties" : Str) = none) ∧ ∃ M, WebAt K M H' wa n := fun {H'} s => by
      obtain ⟨a', e, _, hw'⟩ := (ru1.same s45).same s
      cases e
      obtain ⟨dx, t, dd, h1, _⟩ := id hw'
      exact ⟨⟨dx, _, h1, rfl, rfl⟩, _, hw'⟩
    have hfl5 := s45 _ _ hfl
    obtain ⟨⟨dx, fs, f1, f2, f3⟩, M5, hw5⟩ := web_at (same_refl H5)
    refine ⟨_, rfl, fl, _, 0, .ref wa, rfl, rfl, SqL.of hfl5, atI_nat (j := 0) rfl, wa, dx, fs, rfl, f1, f2, wa, n, _, rfl, hw5, ?_⟩
    intro p1 n_p1
    have e_p1 : upd H5 p1 (.lst (n.map fun q => V.str q.1)) p1 = some (.lst (n.map fun q => V.str q.1)) := upd_same
    have s_p1 : Same H5 (upd H5 p1 (.lst (n.map fun q => V.str q.1))) := same_new n_p1
    generalize upd H5 p1 (.lst (n.map fun q => V.str q.1)) = H6 at e_p1 s_p1 ⊢
    obtain ⟨⟨dx6, fs6, g1, g2, g3⟩, M6, hw6⟩ := web_at s_p1
    refine ⟨_, rfl, fl, _, 0, .ref wa, rfl, rfl, SqL.of (s_p1 _ _ hfl5), atI_nat (j := 0) rfl, wa, dx6, fs6, rfl, g1, g3, wa, n, _, rfl, hw6, nl, nr, fun H7 v2 s7 r2 => ?_⟩
    refine ⟨by show 2 ≤ sizeLine; decide, ?_⟩
    intro l1 n_l1
    have e_l1 : upd H7 l1 (.lst [.ref p1, v2]) l1 = some (.lst [.ref p1, v2]) := upd_same
    have s_l1 : Same H7 (upd H7 l1 (.lst [.ref p1, v2])) := same_new n_l1
    generalize upd H7 l1 (.lst [.ref p1, v2]) = H8 at e_l1 s_l1 ⊢
    have s48 := same_trans s45 (same_trans s_p1 (same_trans s7 s_l1))
    obtain ⟨pn, rfl, hEn, hpn⟩ := rep_strs.mp (rda.same s48)
    refine ⟨_, rfl, pd, _, 0, .ref pn, rfl, rfl, SqT.of (s48 _ _ hpd), rfl, ?_⟩
    refine ⟨pn, planeN C R, rfl, SqL.of hpn, fun ms d1 pmn sso nd1 => ?_⟩
    have sd1 : Same H8 (upd H8 d1 (.lst (ms.map V.str))) := same_new nd1
    have ed1 : upd H8 d1 (.lst (ms.map V.str)) d1 = _ := upd_same
    generalize upd H8 d1 (.lst (ms.map V.str)) = H9 at sd1 ed1 ⊢
    have s49 := same_trans s48 sd1
    refine ⟨_, rfl, pd, _, 1, vdb, rfl, rfl, SqT.of (s49 _ _ hpd), rfl, by show 2 ≤ sizeLine; decide, ?_⟩
    intro l2 n_l2
    have e_l2 : upd H9 l2 (.lst [.ref d1, vdb]) l2 = some (.lst [.ref d1, vdb]) := upd_same
    have s_l2 : Same H9 (upd H9 l2 (.lst [.ref d1, vdb])) := same_new n_l2
    generalize upd H9 l2 (.lst [.ref d1, vdb]) = H10 at e_l2 s_l2 ⊢
    have em := names_due hwt' hok pmn sso
    subst em
    subst ets
    have en : (n.map fun q => V.str q.1) = (n.map (·.1)).map V.str := by
      rw [List.map_map]
      rfl
    rw [en] at e_p1
    have s610 := same_trans s7 (same_trans s_l1 (same_trans sd1 s_l2))
    have r1 : Rep K (fun _ => True) H10 (.seq true [dStrs (n.map (·.1)), dTies (tiesN n)]) (.ref l1) := ⟨l1, _, rfl, trivial, (same_trans sd1 s_l2) _ _ e_l1, _, _, rfl, rep_strs.mpr ⟨p1, rfl, trivial, s610 _ _ e_p1⟩, _, _, rfl, (r2.same (same_trans s_l1 (same_trans sd1 s_l2))).wk fun _ _ => trivial, rfl⟩
    have r2' : Rep K (fun _ => True) H10 (.seq true [dStrs (n.map (·.1)), dTies (tiesN n)]) (.ref l2) := ⟨l2, _, rfl, trivial, e_l2, _, _, rfl, rep_strs.mpr ⟨d1, rfl, trivial, s_l2 _ _ ed1⟩, _, _, rfl, (rdb.same (same_trans s49 s_l2)).wk fun _ _ => trivial, rfl⟩
    refine ⟨_, _, _, _, _, rfl, r1, r2', ?_, fun H11 s11 => ?_⟩
    · have e1 : (dStrs (n.map (·.1))).smp 7 = true := by
        show (decide (((n.map (·.1)).map Dt.str).length ≤ 100000) && Dt.smpL 6 ((n.map (·.1)).map Dt.str)) = true
        rw [List.length_map, List.length_map, decide_eq_true (show n.length ≤ 100000 by omega), smpL_all fun d hd => ?_]
        · rfl
        · obtain ⟨r, _, rfl⟩ := List.mem_map.mp hd
          rfl
      have e2 : (dTies (tiesN n)).smp 7 = true := by
        show (decide (((tiesN n).map dTie).length ≤ 100000) && Dt.smpL 6 ((tiesN n).map dTie)) = true
        rw [List.length_map, decide_eq_true (show (tiesN n).length ≤ 100000 by have := hok.tl; omega), smpL_all fun d hd => ?_]
        · rfl
        · obtain ⟨r, _, rfl⟩ := List.mem_map.mp hd
          rfl
      show (decide (2 ≤ 100000) && (Dt.smp 7 (dStrs (n.map (·.1))) && (Dt.smp 7 (dTies (tiesN n)) && true))) = true
      rw [e1, e2]
      rfl
    · have s211 := same_trans s24 (same_trans s49 (same_trans s_l2 s11))
      exact q H11 (kp2.trans (.of s211)) (S2.same s211)
end
end Pw
set_option Elab.async false
set_option linter.all false
set_option maxRecDepth 100000
set_option maxHeartbeats 8000000
/-! Displays of written data; what is no picture. -/
namespace Pw
open PySem PySem.Spec PyProof.Rows L2
mutual
/-- the reading of a display of written things -/
def tD : Dt → TE
  | .non => tC .non
  | .bl b => tC (.bl b)
  | .int i => tC (.int i)
  | .str s => tC (.str s)
  | .seq true xs => tLst (tDL xs)
  | .seq false xs => tTup (tDL xs)
  | .dic _ => tDNewK
  | .web _ => tC .non
def tDL : List Dt → TA
  | [] => tNil
  | d :: ds => tCons (tD d) (tDL ds)
end
mutual
def Dt.lit : Dt → Bool
  | .seq _ xs => decide (xs.length ≤ 1000) && Dt.litL xs
  | .dic kvs => kvs.isEmpty
  | .web _ => false
  | .non => true
  | .bl _ => true
  | .int _ => true
  | .str _ => true
def Dt.litL : List Dt → Bool
  | [] => true
  | d :: ds => Dt.lit d && Dt.litL ds
end
/-- made since H -/
def Nw (H H' : Hp) : Addr → Prop := fun c => H c = none ∧ ∃ o, H' c = some o
theorem nw_same {H H' H2 : Hp} (s : Same H' H2) : ∀ c, Nw H H' c → Nw H H2 c := fun c ⟨h, o, ho⟩ => ⟨h, o, s c o ho⟩
theorem nw_back {H H1 H2 : Hp} (s : Same H H1) : ∀ c, Nw H1 H2 c → Nw H H2 c := fun c ⟨h, o, ho⟩ => ⟨same_back s h, o, ho⟩
section
variable {K : PySem.W.Frag}
mutual
theorem tD_ok : ∀ (d : Dt), d.lit = true → ∀ (σ : L2.St) (H : Hp) (Q : VK), (∀ H' v, Same H H' → Rep K (Nw H H') H' d v → Q v H') → tD d σ H Q
  | .non, _, _, H, _, q => q H _ (same_refl H) rfl
  | .bl _, _, _, H, _, q => q H _ (same_refl H) rfl
  | .int _, _, _, H, _, q => q H _ (same_refl H) rfl
  | .str _, _, _, H, _, q => q H _ (same_refl H) rfl
  | .seq true xs, h, σ, H, Q, q => by
    obtain ⟨h1, h2⟩ := Bool.and_eq_true_iff.mp (show (decide (xs.length ≤ 1000) && Dt.litL xs) = true from h)
    refine tDL_ok xs h2 σ H _ fun H1 vs s1 r => ⟨?_, fun p np => ?_⟩
    · rw [r.len]
      exact Nat.le_trans (of_decide_eq_true h1) (by decide)
    · exact q _ _ (same_trans s1 (same_new np)) ⟨p, vs, rfl, ⟨same_back s1 np, _, upd_same⟩, upd_same, (r.same (same_new np)).wk (nw_same (same_new np))⟩
  | .seq false xs, h, σ, H, Q, q => by
    obtain ⟨h1, h2⟩ := Bool.and_eq_true_iff.mp (show (decide (xs.length ≤ 1000) && Dt.litL xs) = true from h)
    refine tDL_ok xs h2 σ H _ fun H1 vs s1 r => ⟨?_, fun p np => ?_⟩
    · rw [r.len]
      exact Nat.le_trans (of_decide_eq_true h1) (by decide)
    · exact q _ _ (same_trans s1 (same_new np)) ⟨p, vs, rfl, ⟨same_back s1 np, _, upd_same⟩, upd_same, (r.same (same_new np)).wk (nw_same (same_new np))⟩
  | .dic kvs, h, σ, H, Q, q => fun p np => by
    obtain rfl : kvs = [] := List.isEmpty_iff.mp h
    exact q _ _ (same_new np) ⟨p, rfl, ⟨np, _, upd_same⟩, upd_same⟩
  | .web _, h, _, _, _, _ => by cases h
theorem tDL_ok : ∀ (ds : List Dt), Dt.litL ds = true → ∀ (σ : L2.St) (H : Hp) (Q : List V → Hp → Prop), (∀ H' vs, Same H H' → RepL K (Nw H H') H' ds vs → Q vs H') → tDL ds σ H Q
  | [], _, _, H, _, q => q H [] (same_refl H) rfl
  | d :: ds, h, σ, H, Q, q => by
    obtain ⟨h1, h2⟩ := Bool.and_eq_true_iff.mp (show (Dt.lit d && Dt.litL ds) = true from h)
    refine tD_ok d h1 σ H _ fun H1 v s1 r1 => tDL_ok ds h2 σ H1 _ fun H2 vs s2 r2 => ?_
    exact q _ _ (same_trans s1 s2) ⟨v, vs, rfl, (r1.same s2).wk (nw_same s2), r2.wk (nw_back s1)⟩
end
end
def odd1 : Dt := .seq true [.non, .int 5, .str "12", .dic [], .bl true, .seq true [.seq true []], .seq true [.int 1, .int 2], .seq true [.seq true [.int 1], .seq true []], .seq true [.seq true [.int 1, .int 2], .seq true [.int 3]],
  .seq true [.seq true [.int 1], .seq true [.int 2, .int 3]], .seq true [.seq true [.int 1, .non]], .seq true [.seq true [.str "1"]]]
def odd2 : Dt := .seq true [.seq true [.bl true]]
def odd3 : Dt := .seq true [.seq true [.seq true [.int 1], .non], .seq true [.str "1"], .seq true [.seq true [.int 1], .str "2"], .seq true [.seq true [.seq true [.int 1]]], .seq true [.seq true [], .seq true []], .seq false [.int 5],
  .seq true [.seq true [.int 1], .dic []], .seq true [.str "ab", .str "cd"]]
def oddPics : List Dt := odd1.its ++ [odd2] ++ odd3.its
def Dt.few2B (d : Dt) : Bool := decide (d.its.length ≤ 100000) && d.its.all fun r => decide (r.its.length ≤ 100000)
theorem few2_of {d : Dt} (h : d.few2B = true) : d.few2 := by
  obtain ⟨h1, h2⟩ := Bool.and_eq_true_iff.mp h
  exact ⟨of_decide_eq_true h1, fun r hr => of_decide_eq_true (List.all_eq_true.mp h2 r hr)⟩
theorem oddPics_no : ∀ d ∈ oddPics, d.isPic = false ∧ d.few2 ∧ d.smp 6 = true := fun d hd => by
  have h : oddPics.all (fun d => !d.isPic && (d.few2B && d.smp 6)) = true := by decide +kernel
  obtain ⟨h1, h2⟩ := Bool.and_eq_true_iff.mp (List.all_eq_true.mp h d hd)
  obtain ⟨h2, h3⟩ := Bool.and_eq_true_iff.mp h2
  exact ⟨by rwa [Bool.not_eq_true'] at h1, few2_of h2, h3⟩
theorem lit1 : odd1.lit = true := by decide +kernel
theorem lit2 : odd2.lit = true := by decide +kernel
theorem lit3 : odd3.lit = true := by decide +kernel
theorem litL1 : Dt.litL odd1.its = true := by decide +kernel
theorem litL3 : Dt.litL odd3.its = true := by decide +kernel
def dHeld : Dt := .seq true [.seq true [.int 1], .seq true [.str "x"]]
theorem held_no : dHeld.isPic = false ∧ dHeld.few2 ∧ (Dt.seq false [.str "picture", dHeld.spoil]).smp 8 = true ∧ dHeld.dep 5 = true := ⟨by decide +kernel, few2_of (by decide +kernel), by decide +kernel, by decide +kernel⟩
theorem Strm.kpn_off' {a b : Addr} {H H' : Hp} {n : Nat} {fp : List Addr} (S : Strm a b n H) (k : ∀ c o, H c = some o → c ∉ fp → H' c = some o) (ha : a ∉ fp) (hb : b ∉ fp) : Strm a b n H' := by
  obtain ⟨cells, left, cnt, mix, z1, z2, z3⟩ := S
  exact ⟨cells, left, cnt, mix, k _ _ z1 ha, k _ _ z2 hb, z3⟩
end Pw
set_option Elab.async false
set_option linter.all false
set_option maxRecDepth 100000
set_option maxHeartbeats 8000000
/-! Pictures are told as webs, what is none is refused. -/
namespace Pw
open PySem PySem.Spec PyProof.Rows L2 LamX
def dT2 (R C : Nat) : Dt := .seq false [.int (R : Nat), .int (C : Nat)]
theorem rep_T2 {K : PySem.W.Frag} {N : Addr → Prop} {H : Hp} {R C : Nat} {v : V} : Rep K N H (dT2 R C) v ↔ ∃ p, v = .ref p ∧ N p ∧ H p = some (.tup [.int (R : Nat), .int (C : Nat)]) := by
  constructor
  · rintro ⟨p, vs, e, hp, ho, v1, w1, rfl, e1, v2, w2, rfl, e2, e3⟩
    obtain rfl : w2 = [] := e3
    obtain rfl : v1 = _ := e1
    obtain rfl : v2 = _ := e2
    exact ⟨p, e, hp, ho⟩
  · rintro ⟨p, e, hp, ho⟩
    exact ⟨p, _, e, hp, ho, _, _, rfl, rfl, _, _, rfl, rfl, rfl⟩
section
variable {P : Program} {w : World} {K : PySem.W.Frag} {mg : Str → Option Value} {base : Heap}
def spPs (K : PySem.W.Frag) : Sp := fun vs H Q _ => ∃ (a b : Addr) (m : Nat), vs = [.ref a] ∧ Strm a b (m + 100000) H ∧ Tabs (tabsT K) H ∧ ∀ H', Strm a b m H' → Q (.bl true) H'
theorem sc_law_pictures_right : FnScope ["_law_stream", "_law_rows", "_law_columns", "_law_picture", "_law_low", "_law_row", "_law_shade", "_law_odds", "_law_odd", "_law_held", "_law_found"] ["_law_stream"] (defScope s_law_pictures_right) := ⟨rfl, rfl, rfl, by decide +kernel, rfl, by decide +kernel, by decide +kernel⟩
theorem ok_Ps (T : Tx K mg) (TB : TabB base mg (tabP K).1 (tabP K).2) : OkG P w K mg base 14 "_law_pictures_right" ["_law_stream"] (spPs K) := by
  have G_draw : Ok P w K mg base CX0 1 _ _ _ := ok_draw T
  have G_pick : Ok P w K mg base CX0 2 _ _ _ := ok_pick T
  have G_a_picture : Ok P w K mg base CX0 3 _ _ _ := ok_picture T
  have G_picture_right : OkG P w K mg base 12 _ _ _ := ok_PR T
  have G_init : OkM P w K mg base (L2.CX P w) 4 "Web" "__init__" _ _ := ok_init T
  have G_eq : OkM P w K mg base CX0 1 "Web" "__eq__" _ _ := ok_eq T
  have G_same : Ok P w K mg base CX0 10 _ _ _ := ok_same T 8
  have G_a_spoiled : Ok P w K mg base CX0 7 _ _ _ := ok_spoil T 5
  have G_picture_web : Ok P w K mg base (L2.CX P w) 7 _ _ _ := ok_picture_web T
  refine mkG (d := d_law_pictures_right) T 47 45 rfl rfl rfl rfl rfl (fun _ _ _ _ _ _ us hl => match us, hl with | [_], _ => rfl) sc_law_pictures_right (fun vs H Q E h => ?_) (fun f c A outer s H vs Q E ec gd hr h => ?_)
  · obtain ⟨a, b, m, rfl, _⟩ := h
    rfl
  · obtain ⟨a, b, m, rfl, hS, hTab, q⟩ := h
    have nd := sc_law_pictures_right.nd
    have hu := hu_of hr
    subst ec
    have hmP : ((tabP K).2, qP) ∈ tabsT K := List.mem_cons_of_mem _ List.mem_cons_self
    refine ⟨_, (pss_cons (ps_for PassesOwn.never rfl (k_pt (K := K) (pe_tup (pa_cons (pe_tup (pa_cons pe_int (pa_cons pe_int pa_nil))) (pa_cons (pe_tup (pa_cons (pe_op op_add pe_int (pe_ok G_draw (hr.mono (by omega)) pass0 (pa_cons (pv 0) (pa_cons pe_int pa_nil)))) (pa_cons (pe_op op_add pe_int (pe_ok G_draw (hr.mono (by omega)) pass0 (pa_cons (pv 0) (pa_cons pe_int pa_nil)))) pa_nil))) (pa_cons (pe_tup (pa_cons pe_int (pa_cons pe_int pa_nil))) (pa_cons (pe_tup (pa_cons pe_int (pa_cons pe_int pa_nil))) (pa_cons (pe_tup (pa_cons pe_int (pa_cons pe_int pa_nil))) pa_nil))))))) (k_tup (K := K) (n := 2) rfl (pgs_cons (pg_name (i := 1) nd rfl (Or.inl rfl)) (pgs_cons (pg_name (i := 2) nd rfl (Or.inl rfl)) pgs_nil)))
      (pss_cons (ps_set (i := 3) nd rfl (Or.inl rfl) (pe_ok G_a_picture (hr.mono (by omega)) pass0 (pa_cons (pv 0) (pa_cons (pv 1) (pa_cons (pv 2) (pa_cons (pe_op op_add pe_int (pe_ok G_draw (hr.mono (by omega)) pass0 (pa_cons (pv 0) (pa_cons pe_int pa_nil)))) pa_nil))))))
      (pss_cons (ps_set (i := 4) nd rfl (Or.inr rfl) (pe_ok G_pick (hr.mono (by omega)) pass0 (pa_cons (pv 0) (pa_cons (pe_lst (pa_cons pe_int (pa_cons (pe_un un_neg pe_int) (pa_cons (pe_op op_pow pe_int pe_int) pa_nil)))) pa_nil))))
      (pss_one (ps_if (pt_not (pt_val (pe_okG (E := E0) G_picture_right gd (hr.mono (by omega)) (pa_cons (pv 0) (pa_cons (pe_lc (own := [("_law_row", 5)]) (by rfl) nd (pi_or (k_pl (K := K) (pv 3)) (k_pt (K := K) (pv 3))) (blkOk_by (own := [("_law_row", 5)]) (N := ["_law_stream", "_law_rows", "_law_columns", "_law_picture", "_law_low", "_law_row", "_law_shade", "_law_odds", "_law_odd", "_law_held", "_law_found"]) (sc := (defScope s_law_pictures_right)) (by decide +kernel)) (fun _ _ _ _ _ => (pg_name (i := 5) nd rfl (by first | exact Or.inl rfl | exact Or.inr rfl))) (fun _ _ _ _ _ => pts_nil) (fun _ _ _ _ _ => (pe_lc (own := [("_law_shade", 6)]) (by rfl) nd (pi_or (k_pl (K := K) (pv 5)) (k_pt (K := K) (pv 5))) (blkOk_rel (own := [("_law_shade", 6)]) (N := ["_law_stream", "_law_rows", "_law_columns", "_law_picture", "_law_low", "_law_row", "_law_shade", "_law_odds", "_law_odd", "_law_held", "_law_found"]) (outer := (defScope s_law_pictures_right)) (by decide +kernel) rfl) (fun _ _ _ _ _ => (pg_name (i := 6) nd rfl (by first | exact Or.inl rfl | exact Or.inr rfl))) (fun _ _ _ _ _ => pts_nil) (fun _ _ _ _ _ => (pe_op op_add (pv 4) (pv 6)))))) pa_nil))))) (pss_one (ps_ret pe_bl)) pss_nil)))))
      (pss_cons (ps_set (i := 7) nd rfl (Or.inl rfl) (pe_lst (pa_cons pe_non (pa_cons pe_int (pa_cons pe_str (pa_cons pe_dnewK (pa_cons pe_bl (pa_cons (pe_lst (pa_cons (pe_lst pa_nil) pa_nil)) (pa_cons (pe_lst (pa_cons pe_int (pa_cons pe_int pa_nil))) (pa_cons (pe_lst (pa_cons (pe_lst (pa_cons pe_int pa_nil)) (pa_cons (pe_lst pa_nil) pa_nil))) (pa_cons (pe_lst (pa_cons (pe_lst (pa_cons pe_int (pa_cons pe_int pa_nil))) (pa_cons (pe_lst (pa_cons pe_int pa_nil)) pa_nil))) (pa_cons (pe_lst (pa_cons (pe_lst (pa_cons pe_int pa_nil)) (pa_cons (pe_lst (pa_cons pe_int (pa_cons pe_int pa_nil))) pa_nil))) (pa_cons (pe_lst (pa_cons (pe_lst (pa_cons pe_int (pa_cons pe_non pa_nil))) pa_nil)) (pa_cons (pe_lst (pa_cons (pe_lst (pa_cons pe_str pa_nil)) pa_nil)) pa_nil))))))))))))))
      (pss_cons (ps_expr (k_bm (K := K) PySem.F.plainAttrs_list PySem.F.slot_list_append PySem.F.type_list_append mt_append (pv 7) (pa_cons (pe_lst (pa_cons (pe_lst (pa_cons pe_bl pa_nil)) pa_nil)) pa_nil)))
      (pss_cons (ps_expr (k_bm (K := K) PySem.F.plainAttrs_list PySem.F.slot_list_extend PySem.F.type_list_extend mt_extend (pv 7) (pa_cons (pe_lst (pa_cons (pe_lst (pa_cons (pe_lst (pa_cons pe_int pa_nil)) (pa_cons pe_non pa_nil))) (pa_cons (pe_lst (pa_cons pe_str pa_nil)) (pa_cons (pe_lst (pa_cons (pe_lst (pa_cons pe_int pa_nil)) (pa_cons pe_str pa_nil))) (pa_cons (pe_lst (pa_cons (pe_lst (pa_cons (pe_lst (pa_cons pe_int pa_nil)) pa_nil)) pa_nil)) (pa_cons (pe_lst (pa_cons (pe_lst pa_nil) (pa_cons (pe_lst pa_nil) pa_nil))) (pa_cons (pe_tup (pa_cons pe_int pa_nil)) (pa_cons (pe_lst (pa_cons (pe_lst (pa_cons pe_int pa_nil)) (pa_cons pe_dnewK pa_nil))) (pa_cons (pe_lst (pa_cons pe_str (pa_cons pe_str pa_nil))) pa_nil))))))))) pa_nil)))
      (pss_cons (ps_for PassesOwn.never rfl (k_pl (K := K) (pv 7)) (pg_name (i := 8) nd rfl (Or.inr rfl))
      (pss_one (ps_if (pt_not (pt_val (pe_ok G_same (hr.mono (by omega)) pass0 (pa_cons (pe_lst (pa_cons (pe_met (K := K) T TB rfl hmP (hr.mono (by omega)) (k := 8) (fun A outer s H E f c hr => pe_ok G_picture_web (hr.mono (by omega)) (passes_call (takes_of rfl rfl rfl rfl) (fun _ _ _ _ h => h)) (pa_cons (pv 8) pa_nil))) pa_nil)) (pa_cons (pe_lst (pa_cons (pe_tup (pa_cons pe_str (pa_cons (pv 8) pa_nil))) pa_nil)) pa_nil))))) (pss_one (ps_ret pe_bl)) pss_nil)))
      (pss_cons (ps_set (i := 9) nd rfl (Or.inr rfl) (pe_lst (pa_cons (pe_lst (pa_cons pe_int pa_nil)) (pa_cons (pe_lst (pa_cons pe_str pa_nil)) pa_nil))))
      (pss_cons (ps_set (i := 10) nd rfl (Or.inl rfl) (pe_met (K := K) T TB rfl hmP (hr.mono (by omega)) (k := 8) (fun A outer s H E f c hr => pe_ok G_picture_web (hr.mono (by omega)) (passes_call (takes_of rfl rfl rfl rfl) (fun _ _ _ _ h => h)) (pa_cons (pv 9) pa_nil))))
      (pss_cons (ps_expr (pe_ok G_a_spoiled (hr.mono (by omega)) pass0 (pa_cons (pv 9) pa_nil)))
      (pss_one (ps_ret (pe_and (pe_ok G_same (hr.mono (by omega)) pass0 (pa_cons (pv 10) (pa_cons (pe_tup (pa_cons pe_str (pa_cons (pv 9) pa_nil))) pa_nil))) (pe_and (pe_cmpR (op_weq (K := K) T G_eq (hr.mono (by omega))) (pe_ok G_picture_web (hr.mono (by omega)) passL (pa_cons (pe_lst pa_nil) pa_nil)) (pe_web T G_init (hr.mono (by omega)) passL (pa_cons (pe_lst pa_nil) (pa_cons (pe_lst pa_nil) pa_nil))) (nomark _)) (pe_one (pe_cmpR (op_weq (K := K) T G_eq (hr.mono (by omega))) (pe_ok G_picture_web (hr.mono (by omega)) passL (pa_cons (pe_tup pa_nil) pa_nil)) (pe_web T G_init (hr.mono (by omega)) passL (pa_cons (pe_tup pa_nil) (pa_cons (pe_tup pa_nil) pa_nil))) (nomark _))))))))))))))), ?_⟩
    refine viaS (t1 := tFor _ _ _) (fun σ H4 => ∃ v1 v2 v3 v4 v5 v6 : Option V, σ = [some (.ref a), v1, v2, v3, v4, v5, v6, none, none, none, none] ∧ Strm a b (m + 1000) H4 ∧ Tabs (tabsT K) H4) (fun nx hn => ?_) ?_
    · refine ⟨by show 2 ≤ sizeLine; decide, ?_⟩
      intro t1 n_t1
      have e_t1 : upd H t1 (.tup [.int 1, .int 1]) t1 = some (.tup [.int 1, .int 1]) := upd_same
      have s_t1 : Same H (upd H t1 (.tup [.int 1, .int 1])) := same_new n_t1
      generalize upd H t1 (.tup [.int 1, .int 1]) = G1 at e_t1 s_t1 ⊢
      refine ⟨_, rfl, a, b, m + 90000, 4, rfl, (hS.same s_t1).le (by omega), by decide, by decide, fun G2 d kp2 S2 d0 d1 => ⟨_, _, rfl, rfl, ?_⟩⟩
      refine ⟨_, rfl, a, b, m + 80000, 4, rfl, S2.le (by omega), by decide, by decide, fun G3 e kp3 S3 e0 e1 => ⟨_, _, rfl, rfl, by show 2 ≤ sizeLine; decide, ?_⟩⟩
      obtain ⟨d, rfl⟩ : ∃ j : Nat, d = j := ⟨d.toNat, by omega⟩
      obtain ⟨e, rfl⟩ : ∃ j : Nat, e = j := ⟨e.toNat, by omega⟩
      intro t2 n_t2
      have e_t2 : upd G3 t2 (.tup [.int (1 + (d : Int)), .int (1 + (e : Int))]) t2 = some (.tup [.int (1 + (d : Int)), .int (1 + (e : Int))]) := upd_same
      have s_t2 : Same G3 (upd G3 t2 (.tup [.int (1 + (d : Int)), .int (1 + (e : Int))])) := same_new n_t2
      generalize upd G3 t2 (.tup [.int (1 + (d : Int)), .int (1 + (e : Int))]) = G4 at e_t2 s_t2 ⊢
      rw [show (1 : Int) + (d : Int) = ((1 + d : Nat) : Int) by omega, show (1 : Int) + (e : Int) = ((1 + e : Nat) : Int) by omega] at e_t2
      refine ⟨by show 2 ≤ sizeLine; decide, ?_⟩
      intro t3 n_t3
      have e_t3 : upd G4 t3 (.tup [.int 1, .int 12]) t3 = some (.tup [.int 1, .int 12]) := upd_same
      have s_t3 : Same G4 (upd G4 t3 (.tup [.int 1, .int 12])) := same_new n_t3
      generalize upd G4 t3 (.tup [.int 1, .int 12]) = G5 at e_t3 s_t3 ⊢
      refine ⟨by show 2 ≤ sizeLine; decide, ?_⟩
      intro t4 n_t4
      have e_t4 : upd G5 t4 (.tup [.int 12, .int 1]) t4 = some (.tup [.int 12, .int 1]) := upd_same
      have s_t4 : Same G5 (upd G5 t4 (.tup [.int 12, .int 1])) := same_new n_t4
      generalize upd G5 t4 (.tup [.int 12, .int 1]) = G6 at e_t4 s_t4 ⊢
      refine ⟨by show 2 ≤ sizeLine; decide, ?_⟩
      intro t5 n_t5
      have e_t5 : upd G6 t5 (.tup [.int 3, .int 2]) t5 = some (.tup [.int 3, .int 2]) := upd_same
      have s_t5 : Same G6 (upd G6 t5 (.tup [.int 3, .int 2])) := same_new n_t5
      generalize upd G6 t5 (.tup [.int 3, .int 2]) = G7 at e_t5 s_t5 ⊢
      refine ⟨by show 5 ≤ sizeLine; decide, ?_⟩
      intro tt n_tt
      have e_tt : upd G7 tt (.tup [.ref t1, .ref t2, .ref t3, .ref t4, .ref t5]) tt = some (.tup [.ref t1, .ref t2, .ref t3, .ref t4, .ref t5]) := upd_same
      have s_tt : Same G7 (upd G7 tt (.tup [.ref t1, .ref t2, .ref t3, .ref t4, .ref t5])) := same_new n_tt
      generalize upd G7 tt (.tup [.ref t1, .ref t2, .ref t3, .ref t4, .ref t5]) = G8 at e_tt s_tt ⊢
      have g7 := s_tt
      have g6 := same_trans s_t5 g7
      have g5 := same_trans s_t4 g6
      have g4 := same_trans s_t3 g5
      have g3 := same_trans s_t2 g4
      have kp13 := kp2.trans kp3
      have o1 := hS.off n_t1
      have h1 := g3 _ _ (kp13 _ _ e_t1 o1.1 o1.2)
      have S8 := S3.same g3
      have T8 := Tabs.same (Tabs.kp (Tabs.same hTab s_t1) (hS.same s_t1) kp13) g3
      have r8 : RepL K (Ex [a, b]) G8 [dT2 1 1, dT2 (1 + d) (1 + e), dT2 1 12, dT2 12 1, dT2 3 2] [.ref t1, .ref t2, .ref t3, .ref t4, .ref t5] :=
        ⟨_, _, rfl, rep_T2.mpr ⟨t1, rfl, hS.fr _ n_t1, h1⟩, _, _, rfl, rep_T2.mpr ⟨t2, rfl, S3.fr _ n_t2, g4 _ _ e_t2⟩, _, _, rfl, rep_T2.mpr ⟨t3, rfl, (S3.same s_t2).fr _ n_t3, g5 _ _ e_t3⟩,
          _, _, rfl, rep_T2.mpr ⟨t4, rfl, (S3.same (same_trans s_t2 s_t3)).fr _ n_t4, g6 _ _ e_t4⟩, _, _, rfl, rep_T2.mpr ⟨t5, rfl, (S3.same (same_trans s_t2 (same_trans s_t3 s_t4))).fr _ n_t5, g7 _ _ e_t5⟩, rfl⟩
      have hEt : Ex [a, b] tt := (S3.same (same_trans s_t2 (same_trans s_t3 (same_trans s_t4 s_t5)))).fr _ n_tt
      have sizes : ∀ x ∈ [dT2 1 1, dT2 (1 + d) (1 + e), dT2 1 12, dT2 12 1, dT2 3 2], ∃ R C : Nat, x = dT2 R C ∧ 1 ≤ C ∧ R ≤ 12 ∧ C ≤ 20 ∧ R * C ≤ 200 ∧ R * (2 * C) ≤ 1000 := by
        intro x hx
        simp only [List.mem_cons, List.not_mem_nil, or_false] at hx
        rcases hx with rfl | rfl | rfl | rfl | rfl
        · exact ⟨_, _, rfl, by decide, by decide, by decide, by decide, by decide⟩
        · have e1 : (1 + d) * (1 + e) ≤ 4 * 4 := Nat.mul_le_mul (by omega) (by omega)
          have e2 : (1 + d) * (2 * (1 + e)) ≤ 4 * 8 := Nat.mul_le_mul (by omega) (by omega)
          exact ⟨_, _, rfl, by omega, by omega, by omega, by omega, by omega⟩
        · exact ⟨_, _, rfl, by decide, by decide, by decide, by decide, by decide⟩
        · exact ⟨_, _, rfl, by decide, by decide, by decide, by decide, by decide⟩
        · exact ⟨_, _, rfl, by decide, by decide, by decide, by decide, by decide⟩
      refine ⟨tt, rfl, ⟨_, SqT.of e_tt⟩, for_it (walk_tup (xs := [.ref t1, .ref t2, .ref t3, .ref t4, .ref t5])) (fun i σ H4 => ∃ v1 v2 v3 v4 v5 v6 : Option V, σ = [some (.ref a), v1, v2, v3, v4, v5, v6, none, none, none, none] ∧ Kp a b G8 H4 ∧ Strm a b (m + 1000 + (5 - i) * 5000) H4 ∧ Tabs (tabsT K) H4)
        ⟨none, none, none, none, none, none, rfl, Kp.refl _, S8.le (by omega), T8⟩ (fun i σ H4 _ ⟨_, _, _, _, _, _, _, kp, _⟩ => SqT.of (kp _ _ e_tt (kpn_off _ hEt).1 (kpn_off _ hEt).2)) ?_ ?_⟩
      · rintro i x σ _ H4 hi ⟨v1, v2, v3, v4, v5, v6, rfl, kp4, S4, T4⟩ ⟨rfl, hx⟩
        obtain ⟨dx, hdx, hrx⟩ := r8.get hx
        obtain ⟨R, C, rfl, hC1, hR, hC, hRC, hRC2⟩ := sizes dx (List.mem_of_getElem? hdx)
        obtain ⟨tx, rfl, hEx, htx⟩ := rep_T2.mp hrx
        have hi5 : i < 5 := hi
        refine ⟨tx, _, rfl, SqT.of (kp4 _ _ htx (kpn_off _ hEx).1 (kpn_off _ hEx).2), rfl, _, _, rfl, _, _, rfl, rfl, ?_⟩
        dsimp only
        refine viaS (t1 := tAsg _ _) (fun σ H5 => ∃ (v : V) (pic : List (List Int)) (sh : Int), σ = [some (.ref a), some (.int (R : Nat)), some (.int (C : Nat)), some v, v4, v5, v6, none, none, none, none] ∧ Kp a b H4 H5 ∧ Strm a b (m + 1000 + (5 - (i + 1)) * 5000 + 500) H5 ∧ Rep K (Ex [a, b]) H5 (dPic pic) v ∧ PicOk R C 0 sh pic ∧ sh < 1000) (fun nx2 hn2 => ?_) ?_
        · refine ⟨_, rfl, _, rfl, _, rfl, _, rfl, a, b, m + 1000 + (5 - (i + 1)) * 5000 + 2000, 9, rfl, S4.le (by omega), by decide, by decide, fun H5 sd kp5 S5 sd0 sd1 => ⟨_, _, rfl, rfl, ?_⟩⟩
          refine ⟨a, b, m + 1000 + (5 - (i + 1)) * 5000 + 500, R, C, _, rfl, S5.le (by omega), by omega, by omega, by omega, by omega, fun H6 v pic rv hpic kp6 S6 => hn2 _ _ ⟨v, pic, _, rfl, kp5.trans kp6, S6, rv.wk S5.fr, hpic, by omega⟩⟩
        rintro σ H5 ⟨v, pic, sh, rfl, kp5, S5, rv5, hpic, hsh⟩
        refine viaS (t1 := tAsg _ _) (fun σ H6 => ∃ (low : Int), -1000000 ≤ low ∧ low ≤ 1000000 ∧ σ = [some (.ref a), some (.int (R : Nat)), some (.int (C : Nat)), some v, some (.int low), v5, v6, none, none, none, none] ∧ Kp a b H5 H6 ∧ Strm a b (m + 1000 + (5 - (i + 1)) * 5000 + 200) H6) (fun nx2 hn2 => ?_) ?_
        · refine ⟨_, rfl, _, rfl, _, _, rfl, rfl, ⟨by decide, by decide, by decide⟩, by show 3 ≤ sizeLine; decide, fun l nl => ?_⟩
          have ofl := S5.off nl
          refine ⟨a, b, l, m + 1000 + (5 - (i + 1)) * 5000 + 200, _, rfl, (S5.new nl).le (by omega), upd_same, ofl.1, ofl.2, by show 0 < 3; decide, by show 3 < 1000000000; decide, fun H6 xl hxl kp6 S6 => ?_⟩
          have kpl := (kp_new (a := a) (b := b) (o := .lst [.int 0, .int (-4), .int (10 ^ (6 : Int).toNat)]) nl).trans kp6
          simp only [List.mem_cons, List.not_mem_nil, or_false] at hxl
          rcases hxl with rfl | rfl | rfl
          · exact hn2 _ _ ⟨0, by decide, by decide, rfl, kpl, S6⟩
          · exact hn2 _ _ ⟨-4, by decide, by decide, rfl, kpl, S6⟩
          · exact hn2 _ _ ⟨10 ^ (6 : Int).toNat, by decide, by decide, rfl, kpl, S6⟩
        rintro σ H6 ⟨low, hl1, hl2, rfl, kp6, S6⟩
        have rv6 := rv5.ex_kp kp6 (by simp) (by simp)
        obtain ⟨pp, us, rfl, hEp, hpp, rus⟩ := rv6
        have lus : us.length = pic.length := by rw [rus.len, List.length_map]
        have lpic := hpic.len
        refine ⟨_, rfl, ?_⟩
        refine lcR (l := true) (p := pp) (xs := us) ((pic.map fun r => r.map fun z => low + z).map dRow) hpp (by omega) (by rw [List.length_map, List.length_map, lus]) (fun Q' q => ⟨_, rfl, q⟩) (fun _ => rfl) (fun j x d H7 Q' hxj hdj s7 hq => ?_) (fun D H7 s7 nD rD => ?_)
        · obtain ⟨dr, hdr, hrr⟩ := (rus.same s7).get hxj
          obtain ⟨r, hr, rfl⟩ := map_get hdr
          rw [List.getElem?_map, List.getElem?_map, hr] at hdj
          cases hdj
          obtain ⟨pr, rfl, _, hpr⟩ := rep_row.mp hrr
          have lr := (hpic.row r (List.mem_of_getElem? hr)).1
          refine lcR (l := true) (p := pr) (xs := r.map V.int) ((r.map fun z => low + z).map Dt.int) hpr (by rw [List.length_map]; omega) (by rw [List.length_map, List.length_map, List.length_map]) (fun Q' q => ⟨_, rfl, q⟩) (fun _ => rfl) (fun k y d H8 Q'' hyk hdk s8 hq2 => ?_) (fun D H8 s8 nD rD => hq _ _ s8 rD)
          obtain ⟨z, hz, rfl⟩ := map_get hyk
          rw [List.getElem?_map, List.getElem?_map, hz] at hdk
          cases hdk
          exact ⟨_, rfl, _, rfl, _, _, rfl, rfl, hq2 _ _ (same_refl _) rfl⟩
        · have S7 := S6.same s7
          refine ⟨a, b, .ref D, Fr H6, R, C, low, low + sh, _, m + 1000 + (5 - (i + 1)) * 5000, rfl, rD, fun c hc => S6.off hc, ⟨by rw [List.length_map]; exact lpic, fun r hr => ?_⟩, hC1, hR, hC, hRC, by omega, by omega, S7.le (by omega), fun H8 kp8 S8 => ⟨_, rfl, iteF (next_i ?_)⟩⟩
          · obtain ⟨r0, hr0, rfl⟩ := List.mem_map.mp hr
            obtain ⟨h1, h2⟩ := hpic.row r0 hr0
            refine ⟨by rw [List.length_map]; exact h1, fun z hz => ?_⟩
            obtain ⟨z0, hz0, rfl⟩ := List.mem_map.mp hz
            have := h2 z0 hz0
            omega
          · have kpE := (kp5.trans kp6).trans ((Kp.of s7).trans kp8)
            exact ⟨_, _, _, _, _, _, rfl, kp4.trans kpE, S8, Tabs.kp T4 S4 kpE⟩
      · rintro σ H4 ⟨v1, v2, v3, v4, v5, v6, rfl, kp4, S4, T4⟩
        exact hn _ _ ⟨v1, v2, v3, v4, v5, v6, rfl, S4.le (by show m + 1000 ≤ m + 1000 + (5 - 5) * 5000; omega), T4⟩
    rintro σ H4 ⟨v1, v2, v3, v4, v5, v6, rfl, S4, T4⟩
    refine viaS (t1 := tAsg _ _) (fun σ H5 => ∃ (lo : Addr) (us : List V), σ = [some (.ref a), v1, v2, v3, v4, v5, v6, some (.ref lo), none, none, none] ∧ Same H4 H5 ∧ H4 lo = none ∧ H5 lo = some (.lst us) ∧ RepL K (fun c => H4 c = none ∧ c ≠ lo) H5 odd1.its us) (fun nx hn => ?_) ?_
    · refine tDL_ok (K := K) odd1.its litL1 _ H4 _ fun H5 us s5 ru => ⟨?_, fun lo nlo => ?_⟩
      · rw [ru.len]
        decide
      · refine hn _ _ ⟨lo, us, rfl, same_trans s5 (same_new nlo), same_back s5 nlo, upd_same, (ru.same (same_new nlo)).wk fun c hc => ⟨hc.1, ?_⟩⟩
        obtain ⟨_, o, ho⟩ := hc
        exact ne_of_none ho nlo
    rintro σ H5 ⟨lo, us1, rfl, s45, nlo, hlo5, ru1⟩
    have fr5 : ∀ {H6 H7 : Hp}, Same H5 H6 → ∀ c, Nw H6 H7 c → H4 c = none ∧ c ≠ lo := fun {H6 H7} s6 c hc => ⟨same_back s45 (same_back s6 hc.1), fun e => by
      have := s6 _ _ hlo5
      rw [← e, hc.1] at this
      cases this⟩
    refine viaS (t1 := tDrop _) (fun σ H6 => σ = [some (.ref a), v1, v2, v3, v4, v5, v6, some (.ref lo), none, none, none] ∧ Same H4 H6 ∧ ∃ us2, H6 lo = some (.lst us2) ∧ RepL K (fun c => H4 c = none ∧ c ≠ lo) H6 (odd1.its ++ [odd2]) us2) (fun nx hn => ?_) ?_
    · refine ⟨_, rfl, .inl ⟨rfl, _, SqL.of hlo5⟩, ?_⟩
      refine tD_ok (K := K) odd2 lit2 _ H5 _ fun H6 x s6 rx => ?_
      have lu : us1.length = 12 := by rw [ru1.len]; rfl
      refine ⟨lo, us1, x, rfl, rfl, s6 _ _ hlo5, by rw [lu]; decide, hn _ _ ⟨rfl, same_mut (same_trans s45 s6) nlo, _, upd_same, ?_⟩⟩
      exact RepL.snoc ((ru1.same s6).mut fun h => h.2 rfl) ((rx.wk (fr5 (same_refl _))).mut fun h => h.2 rfl)
    rintro σ H6 ⟨rfl, s46, us2, hlo6, ru2⟩
    refine viaS (t1 := tDrop _) (fun σ H7 => σ = [some (.ref a), v1, v2, v3, v4, v5, v6, some (.ref lo), none, none, none] ∧ Same H4 H7 ∧ ∃ us3, H7 lo = some (.lst us3) ∧ RepL K (fun c => H4 c = none ∧ c ≠ lo) H7 oddPics us3) (fun nx hn => ?_) ?_
    · refine ⟨_, rfl, .inl ⟨rfl, _, SqL.of hlo6⟩, ?_⟩
      refine tD_ok (K := K) odd3 lit3 _ H6 _ fun H7 x s7 rx => ?_
      obtain ⟨le, ws, rfl, _, hle, rw_⟩ := rx
      have lu : us2.length = 13 := by rw [ru2.len]; rfl
      have lw : ws.length = 8 := by rw [rw_.len]; rfl
      refine ⟨lo, le, _, _, rfl, rfl, s7 _ _ hlo6, hle, by rw [lu, lw]; decide, hn _ _ ⟨rfl, same_mut (same_trans s46 s7) nlo, _, upd_same, ?_⟩⟩
      refine RepL.app ((ru2.same s7).mut fun h => h.2 rfl) ((rw_.wk fun c hc => ?_).mut fun h => h.2 rfl)
      refine ⟨same_back s46 hc.1, fun e => ?_⟩
      have := hc.1
      rw [e, hlo6] at this
      cases this
    rintro σ H7 ⟨rfl, s47, us, hlo7, rus⟩
    have S7 := S4.same s47
    have T7 := Tabs.same T4 s47
    have rus7 : RepL K (Ex [a, b]) H7 oddPics us := rus.wk fun c hc => S4.fr c hc.1
    have hElo : Ex [a, b] lo := S4.fr _ nlo
    refine viaS (t1 := tFor _ _ _) (fun σ H8 => ∃ w8 : Option V, σ = [some (.ref a), v1, v2, v3, v4, v5, v6, some (.ref lo), w8, none, none] ∧ Strm a b (m + 1000) H8 ∧ Tabs (tabsT K) H8) (fun nx hn => ?_) ?_
    · refine ⟨_, rfl, lo, rfl, ⟨_, SqL.of hlo7⟩, for_it (walk_list (xs := us)) (fun i σ H8 => ∃ w8 : Option V, σ = [some (.ref a), v1, v2, v3, v4, v5, v6, some (.ref lo), w8, none, none] ∧ KpN a b H7 H8 ∧ Strm a b (m + 1000) H8 ∧ Tabs (tabsT K) H8)
        ⟨none, rfl, KpN.refl _, S7, T7⟩ (fun i σ H8 _ ⟨_, _, kp, _⟩ => SqL.of (kp _ _ hlo7 (by intro ps z; cases z) (kpn_off _ hElo).1 (kpn_off _ hElo).2)) ?_ ?_⟩
      · rintro i xo σ _ H8 hi ⟨w8, rfl, kp8, S8, T8⟩ ⟨rfl, hx⟩
        obtain ⟨d, hd, hrd⟩ := rus7.get hx
        obtain ⟨hno, hfew, hsm⟩ := oddPics_no d (List.mem_of_getElem? hd)
        have hrd8 := hrd.kpn kp8 kpn_off
        refine gName_i ?_
        dsimp only
        refine refused T8 (x := "BadPicture") (f := "thing") (tag := "picture") (y := xo) (by decide) (fun H13 E Q' eN T13 hR => ?_) (fun pr H13 H14 eN T13 s14 npr hpr => ?_)
        · refine ⟨_, rfl, xo, d, _, rfl, hrd8.kpn (KpN.ext eN) kpn_off, hfew, ?_⟩
          rw [hno, if_neg (by decide)]
          exact hR
        · refine ⟨by show 1 ≤ sizeLine; decide, ?_⟩
          intro l1' n_l1'
          have e_l1' : upd H14 l1' (.lst [.ref pr]) l1' = some (.lst [.ref pr]) := upd_same
          have s_l1' : Same H14 (upd H14 l1' (.lst [.ref pr])) := same_new n_l1'
          generalize upd H14 l1' (.lst [.ref pr]) = H15 at e_l1' s_l1' ⊢
          refine ⟨_, rfl, by show 2 ≤ sizeLine; decide, ?_⟩
          intro t1 n_t1
          have e_t1 : upd H15 t1 (.tup [.str "picture", xo]) t1 = some (.tup [.str "picture", xo]) := upd_same
          have s_t1 : Same H15 (upd H15 t1 (.tup [.str "picture", xo])) := same_new n_t1
          generalize upd H15 t1 (.tup [.str "picture", xo]) = H16 at e_t1 s_t1 ⊢
          refine ⟨by show 1 ≤ sizeLine; decide, ?_⟩
          intro l2' n_l2'
          have e_l2' : upd H16 l2' (.lst [.ref t1]) l2' = some (.lst [.ref t1]) := upd_same
          have s_l2' : Same H16 (upd H16 l2' (.lst [.ref t1])) := same_new n_l2'
          generalize upd H16 l2' (.lst [.ref t1]) = H17 at e_l2' s_l2' ⊢
          have s1417 := same_trans s_l1' (same_trans s_t1 s_l2')
          have s1317 := same_trans s14 s1417
          have hd17 : Rep K (Ex [a, b]) H17 d xo := (hrd8.kpn (KpN.ext eN) kpn_off).same s1317
          have r1 : Rep K (fun _ => True) H17 (.seq true [.seq false [.str "picture", d]]) (.ref l1') := ⟨l1', _, rfl, trivial, (same_trans s_t1 s_l2') _ _ e_l1', _, _, rfl, rep_two (s1417 _ _ hpr) hd17, rfl⟩
          have r2 : Rep K (fun _ => True) H17 (.seq true [.seq false [.str "picture", d]]) (.ref l2') := ⟨l2', _, rfl, trivial, e_l2', _, _, rfl, rep_two (s_l2' _ _ e_t1) hd17, rfl⟩
          have hsm8 : (Dt.seq true [.seq false [.str "picture", d]]).smp 8 = true := by
            show (decide (1 ≤ 100000) && ((decide (2 ≤ 100000) && (true && (Dt.smp 6 d && true))) && true)) = true
            rw [hsm]
            rfl
          refine ⟨_, _, _, _, _, rfl, r1, r2, hsm8, fun H18 s18 => ⟨_, rfl, iteF (next_i ?_)⟩⟩
          have s1318 := same_trans s1317 s18
          exact ⟨_, rfl, kp8.trans ((KpN.ext eN).trans (KpN.same s1318)), (S8.ext eN).same s1318, Tabs.same T13 s1318⟩
      · rintro σ H8 ⟨w8, rfl, kp8, S8, T8⟩
        exact hn _ _ ⟨w8, rfl, S8, T8⟩
    rintro σ H8 ⟨w8, rfl, S8, T8⟩
    refine viaS (t1 := tAsg _ _) (fun σ H9 => ∃ l p1 p2, σ = [some (.ref a), v1, v2, v3, v4, v5, v6, some (.ref lo), w8, some (.ref l), none] ∧ Same H8 H9 ∧ H8 l = none ∧ H8 p1 = none ∧ H8 p2 = none ∧ [l, p1, p2].Nodup ∧ H9 l = some (.lst [.ref p1, .ref p2]) ∧ H9 p1 = some (.lst [.int 1]) ∧ H9 p2 = some (.lst [.str "x"])) (fun nx hn => ?_) ?_
    · refine ⟨by show 1 ≤ sizeLine; decide, ?_⟩
      intro p1 n_p1
      have e_p1 : upd H8 p1 (.lst [.int 1]) p1 = some (.lst [.int 1]) := upd_same
      have s_p1 : Same H8 (upd H8 p1 (.lst [.int 1])) := same_new n_p1
      generalize upd H8 p1 (.lst [.int 1]) = G1 at e_p1 s_p1 ⊢
      refine ⟨by show 1 ≤ sizeLine; decide, ?_⟩
      intro p2 n_p2
      have e_p2 : upd G1 p2 (.lst [.str "x"]) p2 = some (.lst [.str "x"]) := upd_same
      have s_p2 : Same G1 (upd G1 p2 (.lst [.str "x"])) := same_new n_p2
      generalize upd G1 p2 (.lst [.str "x"]) = G2 at e_p2 s_p2 ⊢
      refine ⟨by show 2 ≤ sizeLine; decide, ?_⟩
      intro l n_l
      have e_l : upd G2 l (.lst [.ref p1, .ref p2]) l = some (.lst [.ref p1, .ref p2]) := upd_same
      have s_l : Same G2 (upd G2 l (.lst [.ref p1, .ref p2])) := same_new n_l
      generalize upd G2 l (.lst [.ref p1, .ref p2]) = G3 at e_l s_l ⊢
      have n12 : p1 ≠ p2 := ne_of_none e_p1 n_p2
      have n1l : p1 ≠ l := ne_of_none (s_p2 _ _ e_p1) n_l
      have n2l : p2 ≠ l := ne_of_none e_p2 n_l
      refine hn _ _ ⟨l, p1, p2, rfl, same_trans s_p1 (same_trans s_p2 s_l), same_back (same_trans s_p1 s_p2) n_l, n_p1, same_back s_p1 n_p2, ?_, e_l, s_l _ _ (s_p2 _ _ e_p1), s_l _ _ e_p2⟩
      simp [n12, n1l.symm, n2l.symm]
    rintro σ H9 ⟨l, p1, p2, rfl, s89, nl8, n18, n28, ndp, hl9, h19, h29⟩
    have S9 := S8.same s89
    have T9 := Tabs.same T8 s89
    have rh9 : Rep K (fun _ => True) H9 dHeld (.ref l) := ⟨l, _, rfl, trivial, hl9, _, _, rfl, ⟨p1, _, rfl, trivial, h19, _, _, rfl, rfl, rfl⟩, _, _, rfl, ⟨p2, _, rfl, trivial, h29, _, _, rfl, rfl, rfl⟩, rfl⟩
    refine viaS (t1 := tAsg _ _) (fun σ H10 => ∃ pr, σ = [some (.ref a), v1, v2, v3, v4, v5, v6, some (.ref lo), w8, some (.ref l), some (.ref pr)] ∧ Strm a b (m + 1000) H10 ∧ H10 l = some (.lst [.ref p1, .ref p2]) ∧ H10 p1 = some (.lst [.int 1]) ∧ H10 p2 = some (.lst [.str "x"]) ∧ H10 pr = some (.tup [.str "picture", .ref l])) (fun nx hn => ?_) ?_
    · refine refused T9 (x := "BadPicture") (f := "thing") (tag := "picture") (y := .ref l) (by decide) (fun H13 E Q' eN T13 hR => ?_) (fun pr H13 H14 eN T13 s14 npr hpr => ?_)
      · have hl13 := eN _ _ hl9 (by intro ps z; cases z)
        have h113 := eN _ _ h19 (by intro ps z; cases z)
        have h213 := eN _ _ h29 (by intro ps z; cases z)
        refine ⟨_, rfl, .ref l, dHeld, fun _ => True, rfl, ⟨l, _, rfl, trivial, hl13, _, _, rfl, ⟨p1, _, rfl, trivial, h113, _, _, rfl, rfl, rfl⟩, _, _, rfl, ⟨p2, _, rfl, trivial, h213, _, _, rfl, rfl, rfl⟩, rfl⟩, held_no.2.1, ?_⟩
        rw [held_no.1, if_neg (by decide)]
        exact hR
      · exact hn _ _ ⟨pr, rfl, (S9.ext eN).same s14, s14 _ _ (eN _ _ hl9 (by intro ps z; cases z)), s14 _ _ (eN _ _ h19 (by intro ps z; cases z)), s14 _ _ (eN _ _ h29 (by intro ps z; cases z)), hpr⟩
    rintro σ H10 ⟨pr, rfl, S10, hl, h1, h2, hpr⟩
    have tr10 : Tr H10 dHeld (.ref l) [l, p1, p2] := ⟨l, _, [p1, p2], rfl, hl, ⟨_, _, [p1], [p2], rfl, rfl, ⟨p1, _, [], rfl, h1, ⟨_, _, [], [], rfl, rfl, ⟨rfl, rfl⟩, rfl, rfl⟩, rfl⟩, ⟨_, _, [p2], [], rfl, rfl, ⟨p2, _, [], rfl, h2, ⟨_, _, [], [], rfl, rfl, ⟨rfl, rfl⟩, rfl, rfl⟩, rfl⟩, rfl, rfl⟩⟩, rfl⟩
    have off : ∀ c, c = a ∨ c = b → c ∉ [l, p1, p2] := fun c hc hin => by
      have nn : ∀ {x : Addr}, H8 x = none → x ≠ a ∧ x ≠ b := fun h => S8.off h
      simp only [List.mem_cons, List.not_mem_nil, or_false] at hin
      rcases hin with e | e | e <;> subst e
      · rcases hc with z | z
        · exact (nn nl8).1 z
        · exact (nn nl8).2 z
      · rcases hc with z | z
        · exact (nn n18).1 z
        · exact (nn n18).2 z
      · rcases hc with z | z
        · exact (nn n28).1 z
        · exact (nn n28).2 z
    refine viaS (t1 := tDrop _) (fun σ H11 => σ = [some (.ref a), v1, v2, v3, v4, v5, v6, some (.ref lo), w8, some (.ref l), some (.ref pr)] ∧ Strm a b (m + 1000) H11 ∧ Rep K (fun _ => True) H11 dHeld.spoil (.ref l) ∧ H11 pr = some (.tup [.str "picture", .ref l])) (fun nx hn => ?_) ?_
    · refine ⟨_, rfl, .ref l, dHeld, _, rfl, tr10, ndp, held_no.2.2.2, fun H11 kp11 tr11 => ?_⟩
      refine hn _ _ ⟨rfl, S10.kpn_off' kp11 (off _ (.inl rfl)) (off _ (.inr rfl)), Tr.rep _ _ _ tr11, kp11 _ _ hpr fun hin => ?_⟩
      obtain ⟨xs, z⟩ := Tr.lst _ _ _ tr10 pr hin
      rw [hpr] at z
      cases z
    rintro σ H11 ⟨rfl, S11, rh, hpr11⟩
    refine ⟨_, rfl, _, rfl, by show 2 ≤ sizeLine; decide, fun t nt => ?_⟩
    have st := same_new (o := .tup [.str "picture", .ref l]) nt
    refine ⟨.ref pr, .ref t, .seq false [.str "picture", dHeld.spoil], _, _, rfl, rep_two (N := fun _ => True) (st _ _ hpr11) (rh.same st), rep_two (N := fun _ => True) upd_same (rh.same st), held_no.2.2.1, fun H12 s12 => ⟨_, rfl, iteT ?_⟩⟩
    have S12 := (S11.same st).same s12
    refine ⟨by show 0 ≤ sizeLine; decide, ?_⟩
    intro e1 n_e1
    have e_e1 : upd H12 e1 (.lst []) e1 = some (.lst []) := upd_same
    have s_e1 : Same H12 (upd H12 e1 (.lst [])) := same_new n_e1
    generalize upd H12 e1 (.lst []) = G1 at e_e1 s_e1 ⊢
    refine ⟨.ref e1, .seq true [], fun _ => True, rfl, ⟨e1, [], rfl, trivial, e_e1, rfl⟩, few2_of (by decide +kernel), ?_⟩
    rw [show Dt.isPic (.seq true []) = true by decide +kernel, if_pos rfl]
    refine ⟨0, 0, 0, 0, ⟨rfl, fun r hr => nomatch hr⟩, by decide, by decide, fun n1 u1 G2 hw1 s2 ru1 => ?_⟩
    refine ⟨by show 0 ≤ sizeLine; decide, ?_⟩
    intro e2 n_e2
    have e_e2 : upd G2 e2 (.lst []) e2 = some (.lst []) := upd_same
    have s_e2 : Same G2 (upd G2 e2 (.lst [])) := same_new n_e2
    generalize upd G2 e2 (.lst []) = G3 at e_e2 s_e2 ⊢
    refine ⟨by show 0 ≤ sizeLine; decide, ?_⟩
    intro e3 n_e3
    have e_e3 : upd G3 e3 (.lst []) e3 = some (.lst []) := upd_same
    have s_e3 : Same G3 (upd G3 e3 (.lst [])) := same_new n_e3
    generalize upd G3 e3 (.lst []) = G4 at e_e3 s_e3 ⊢
    refine ⟨_, _, rfl, webgo_ok (N := fun _ => True) (ns := []) (ts := []) (l1 := true) (l2 := true) ⟨e2, [], rfl, trivial, s_e3 _ _ e_e2, rfl⟩ ⟨e3, [], rfl, trivial, e_e3, rfl⟩ List.nodup_nil (fun x hx => nomatch hx) AccOk.nil (by decide) (by decide) fun n2 u2 G5 hw2 s5 ru2 => ?_⟩
    obtain rfl : n1 = n2 := web_eq hw1 hw2
    have nre := nearEq_refl hw1.srt.ok
    refine ⟨n1, .web n1, _, _, ru1.same (same_trans s_e2 (same_trans s_e3 s5)), ru2, ?_⟩
    dsimp only
    rw [nre]
    have S15 := (((S12.same s_e1).same s2).same (same_trans s_e2 s_e3)).same s5
    refine ⟨_, rfl, iteT ?_⟩
    refine ⟨by show 0 ≤ sizeLine; decide, ?_⟩
    intro e4 n_e4
    have e_e4 : upd G5 e4 (.tup []) e4 = some (.tup []) := upd_same
    have s_e4 : Same G5 (upd G5 e4 (.tup [])) := same_new n_e4
    generalize upd G5 e4 (.tup []) = G6 at e_e4 s_e4 ⊢
    refine ⟨.ref e4, .seq false [], fun _ => True, rfl, ⟨e4, [], rfl, trivial, e_e4, rfl⟩, few2_of (by decide +kernel), ?_⟩
    rw [show Dt.isPic (.seq false []) = true by decide +kernel, if_pos rfl]
    refine ⟨0, 0, 0, 0, ⟨rfl, fun r hr => nomatch hr⟩, by decide, by decide, fun n3 u3 G7 hw3 s7 ru3 => ?_⟩
    refine ⟨by show 0 ≤ sizeLine; decide, ?_⟩
    intro e5 n_e5
    have e_e5 : upd G7 e5 (.tup []) e5 = some (.tup []) := upd_same
    have s_e5 : Same G7 (upd G7 e5 (.tup [])) := same_new n_e5
    generalize upd G7 e5 (.tup []) = G8 at e_e5 s_e5 ⊢
    refine ⟨by show 0 ≤ sizeLine; decide, ?_⟩
    intro e6 n_e6
    have e_e6 : upd G8 e6 (.tup []) e6 = some (.tup []) := upd_same
    have s_e6 : Same G8 (upd G8 e6 (.tup [])) := same_new n_e6
    generalize upd G8 e6 (.tup []) = G9 at e_e6 s_e6 ⊢
    refine ⟨_, _, rfl, webgo_ok (N := fun _ => True) (ns := []) (ts := []) (l1 := false) (l2 := false) ⟨e5, [], rfl, trivial, s_e6 _ _ e_e5, rfl⟩ ⟨e6, [], rfl, trivial, e_e6, rfl⟩ List.nodup_nil (fun x hx => nomatch hx) AccOk.nil (by decide) (by decide) fun n4 u4 G10 hw4 s10 ru4 => ?_⟩
    obtain rfl : n3 = n4 := web_eq hw3 hw4
    have nre' := nearEq_refl hw3.srt.ok
    refine ⟨n3, .web n3, _, _, ru3.same (same_trans s_e5 (same_trans s_e6 s10)), ru4, ?_⟩
    dsimp only
    rw [nre']
    exact q _ (((((S15.same s_e4).same s7).same (same_trans s_e5 s_e6)).same s10).le (by omega))
end
end Pw
set_option Elab.async false
set_option linter.all false
set_option maxRecDepth 100000
set_option maxHeartbeats 8000000
/-! The ties by steps. -/
namespace Pw
open PySem PySem.Spec PyProof.Rows L2
/-- the pairs of places that the steps tie -/
def ixs (ss : List Nat) : List (Nat × Nat) := ss.flatMap fun s => (List.range 200).map fun i => (i, (i + s) % 200)
def gN (ns : List Str) (i : Nat) : Str := (ns[i]?).getD ""
def pq (ns : List Str) (q : Nat × Nat) : Str × Str := pr (gN ns q.1) (gN ns q.2)
def steps : List Nat := [1, 7, 31]
def code (q : Nat × Nat) : Nat := min q.1 q.2 * 200 + max q.1 q.2
def dupFree : List Nat → Bool
  | [] => true
  | x :: xs => xs.all (fun y => !(Nat.beq x y)) && dupFree xs
theorem dupFree_ok : ∀ {xs : List Nat}, dupFree xs = true → xs.Nodup
  | [], _ => List.nodup_nil
  | x :: xs, h => by
    obtain ⟨h1, h2⟩ := Bool.and_eq_true_iff.mp (show (xs.all (fun y => !(Nat.beq x y)) && dupFree xs) = true from h)
    refine List.nodup_cons.mpr ⟨fun hx => ?_, dupFree_ok h2⟩
    have := List.all_eq_true.mp h1 x hx
    rw [show Nat.beq x x = true from Nat.beq_refl x] at this
    cases this
theorem codes_nd : ((ixs steps).map code).Nodup := dupFree_ok (by decide +kernel)
theorem ixs_ok : (ixs steps).all (fun q => decide (q.1 < 200) && (decide (q.2 < 200) && decide (q.1 ≠ q.2))) = true := by decide +kernel
theorem ixs_mem {q : Nat × Nat} (h : q ∈ ixs steps) : q.1 < 200 ∧ q.2 < 200 ∧ q.1 ≠ q.2 := by
  obtain ⟨h1, h2⟩ := Bool.and_eq_true_iff.mp (List.all_eq_true.mp ixs_ok q h)
  obtain ⟨h2, h3⟩ := Bool.and_eq_true_iff.mp h2
  exact ⟨of_decide_eq_true h1, of_decide_eq_true h2, of_decide_eq_true h3⟩
theorem gN_at {ns : List Str} {i : Nat} (h : i < ns.length) : ns[i]? = some (gN ns i) := by
  unfold gN
  rw [List.getElem?_eq_getElem h]
  rfl
theorem gN_inj {ns : List Str} (nd : ns.Nodup) {i j : Nat} (hi : i < ns.length) (hj : j < ns.length) (e : gN ns i = gN ns j) : i = j := by
  have h1 := gN_at hi
  have h2 := gN_at hj
  rw [← e] at h2
  exact (List.getElem?_inj hi nd).mp (h1.trans h2.symm)
theorem nodup_map_on {α β : Type} {f : α → β} : ∀ {xs : List α}, (∀ x ∈ xs, ∀ y ∈ xs, f x = f y → x = y) → xs.Nodup → (xs.map f).Nodup
  | [], _, _ => List.nodup_nil
  | x :: xs, h, nd => by
    rw [List.nodup_cons] at nd
    refine List.nodup_cons.mpr ⟨fun hx => ?_, nodup_map_on (fun a ha b hb => h a (List.mem_cons_of_mem _ ha) b (List.mem_cons_of_mem _ hb)) nd.2⟩
    obtain ⟨y, hy, e⟩ := List.mem_map.mp hx
    exact nd.1 (h y (List.mem_cons_of_mem _ hy) x List.mem_cons_self e ▸ hy)
theorem nodup_of_map {α β : Type} {f : α → β} : ∀ {xs : List α}, (xs.map f).Nodup → xs.Nodup ∧ ∀ x ∈ xs, ∀ y ∈ xs, f x = f y → x = y
  | [], _ => ⟨List.nodup_nil, fun x h => (nomatch h)⟩
  | x :: xs, h => by
    rw [List.map_cons, List.nodup_cons] at h
    obtain ⟨h1, h2⟩ := nodup_of_map h.2
    refine ⟨List.nodup_cons.mpr ⟨fun hx => h.1 (List.mem_map_of_mem hx), h1⟩, fun a ha b hb e => ?_⟩
    rcases List.mem_cons.mp ha with rfl | ha' <;> rcases List.mem_cons.mp hb with rfl | hb'
    · rfl
    · exact absurd (e ▸ List.mem_map_of_mem hb') h.1
    · exact absurd (e ▸ List.mem_map_of_mem ha') h.1
    · exact h2 a ha' b hb' e
theorem pqs_nd {ns : List Str} (nd : ns.Nodup) (hl : ns.length = 200) : ((ixs steps).map (pq ns)).Nodup := by
  obtain ⟨h1, h2⟩ := nodup_of_map codes_nd
  refine nodup_map_on (fun x hx y hy e => h2 x hx y hy ?_) h1
  obtain ⟨a1, a2, _⟩ := ixs_mem hx
  obtain ⟨b1, b2, _⟩ := ixs_mem hy
  unfold code
  rcases pr_inj e with ⟨e1, e2⟩ | ⟨e1, e2⟩
  · rw [gN_inj nd (by omega) (by omega) e1, gN_inj nd (by omega) (by omega) e2]
  · rw [gN_inj nd (by omega) (by omega) e1, gN_inj nd (by omega) (by omega) e2, Nat.min_comm, Nat.max_comm]
theorem ixs_len : (ixs steps).length = 600 := by decide +kernel
/-- the ties by steps, in order, are a web's plain form -/
theorem steps_raw {ns : List Str} {ts us : List Tie} (nd : ns.Nodup) (hl : ns.length = 200) (gd : ∀ x ∈ ns, isNm x = true ∧ x ≠ "late9" ∧ x ≠ "nobody") (e : ts.map pa2 = (ixs steps).map (pq ns)) (hh : ∀ t ∈ ts, 0 ≤ t.2.2 ∧ t.2.2 ≤ 8) (pm : us.Perm ts) (so : Srt us) : RawOk ns us ∧ us.length = 600 := by
  have hlen : us.length = 600 := by
    rw [pm.length_eq, ← List.length_map (f := pa2), e, List.length_map, ixs_len]
  refine ⟨⟨nd, gd, by omega, TiesOk.perm ⟨fun t ht => ?_, by rw [e]; exact pqs_nd nd hl⟩ pm, so, by omega⟩, hlen⟩
  have h1 : pa2 t ∈ (ixs steps).map (pq ns) := e ▸ List.mem_map_of_mem ht
  obtain ⟨q, hq, eq⟩ := List.mem_map.mp h1
  obtain ⟨a1, a2, a3⟩ := ixs_mem hq
  have m1 : gN ns q.1 ∈ ns := List.mem_of_getElem? (gN_at (by omega))
  have m2 : gN ns q.2 ∈ ns := List.mem_of_getElem? (gN_at (by omega))
  obtain ⟨c1, c2⟩ := pr_mem m1 m2
  have lt := pr_lt (x := gN ns q.1) (y := gN ns q.2) fun z => a3 (gN_inj nd (by omega) (by omega) z)
  obtain ⟨b1, b2⟩ := hh t ht
  have ep : (t.1, t.2.1) = pr (gN ns q.1) (gN ns q.2) := eq.symm
  rw [← ep] at c1 c2 lt
  exact ⟨c1, c2, lt, by unfold big; omega, by unfold big; omega⟩
theorem ixs_snoc {i : Nat} {s : Nat} (h : steps[i]? = some s) : ixs (steps.take (i + 1)) = ixs (steps.take i) ++ (List.range 200).map fun i => (i, (i + s) % 200) := by
  rw [take_snoc h]
  unfold ixs
  rw [List.flatMap_append, List.flatMap_cons, List.flatMap_nil, List.append_nil]
end Pw
set_option Elab.async false
set_option linter.all false
set_option maxRecDepth 100000
set_option maxHeartbeats 8000000
/-! The law. -/
namespace Pw
open PySem PySem.Spec PyProof.Rows L2 LamX
section
variable {P : Program} {w : World} {K : PySem.W.Frag} {mg : Str → Option Value} {base : Heap}
def spLaw (K : PySem.W.Frag) : Sp := fun vs H Q _ => ∃ (p : Addr) (ns : List Int), vs = [.ref p] ∧ SqL K H p (ns.map V.int) ∧ Tabs (tabsT K) H ∧ ∀ H', Q (.bl true) H'
theorem sc_law : FnScope ["_law_script", "_law_stream", "_law_turn", "_law_raw", "_law_names", "_law_ties", "_law_step", "_law_at"] ["_law_script"] (defScope s_law) := ⟨rfl, rfl, rfl, by decide +kernel, rfl, by decide +kernel, by decide +kernel⟩
theorem ok_law (T : Tx K mg) (TB : TabB base mg (tabR K).1 (tabR K).2) (TP : TabB base mg (tabP K).1 (tabP K).2) : OkG P w K mg base 16 "law" ["_law_script"] (spLaw K) := by
  have G_start : Ok P w K mg base CX0 1 _ _ _ := ok_start T
  have G_draw : Ok P w K mg base CX0 1 _ _ _ := ok_draw T
  have G_a_web : Ok P w K mg base CX0 5 _ _ _ := ok_web T
  have G_a_names : Ok P w K mg base CX0 3 _ _ _ := ok_names T
  have G_a_tie : Ok P w K mg base CX0 1 _ _ _ := ok_tie T
  have G_a_picture : Ok P w K mg base CX0 3 _ _ _ := ok_picture T
  have G_told_right : OkG P w K mg base 8 _ _ _ := ok_TR T
  have G_unlike_right : Ok P w K mg base CX0 6 _ _ _ := ok_unl T
  have G_refused_right : OkG P w K mg base 12 _ _ _ := ok_ref T TB
  have G_pictures_right : OkG P w K mg base 14 _ _ _ := ok_Ps T TP
  have G_picture_right : OkG P w K mg base 12 _ _ _ := ok_PR T
  have G_told : Ok P w K mg base CX0 4 _ _ _ := ok_told T
  have G_init : OkM P w K mg base (L2.CX P w) 4 "Web" "__init__" _ _ := ok_init T
  have G_same : Ok P w K mg base CX0 10 _ _ _ := ok_same T 8
  refine mkG (d := d_law) T 48 46 rfl rfl rfl rfl rfl (fun _ _ _ _ _ _ us hl => match us, hl with | [_], _ => rfl) sc_law (fun vs H Q E h => ?_) (fun f c A outer s H vs Q E ec gd hr h => ?_)
  · obtain ⟨p, ns, rfl, _⟩ := h
    rfl
  · obtain ⟨p, ns, rfl, hp, hTab, q⟩ := h
    have nd := sc_law.nd
    have hu := hu_of hr
    subst ec
    refine ⟨_, (pss_cons (ps_set (i := 1) nd rfl (Or.inr rfl) (pe_ok G_start (hr.mono (by omega)) pass0 (pa_cons (pv 0) pa_nil)))
      (pss_cons (ps_for PassesOwn.never rfl (pi_range1 (by rfl) T.range (pa_cons pe_int pa_nil)) (pg_name (i := 2) nd rfl (Or.inl rfl))
      (pss_cons (ps_set (i := 3) nd rfl (Or.inl rfl) (pe_ok G_a_web (hr.mono (by omega)) pass0 (pa_cons (pv 1) (pa_cons pe_int pa_nil))))
      (pss_cons (ps_if (PW.pt (pw_or (pt_not (pt_val (pe_okG (E := E0) G_told_right gd (hr.mono (by omega)) (pa_cons (pv 1) (pa_cons (pv 3) pa_nil))))) (pw_or1 (pt_not (pt_val (pe_ok G_unlike_right (hr.mono (by omega)) pass0 (pa_cons (pv 1) (pa_cons (pv 3) pa_nil)))))))) (pss_one (ps_ret pe_bl)) pss_nil)
      (pss_one (ps_if (pt_not (pt_val (pe_okG (E := E0) G_refused_right gd (hr.mono (by omega)) (pa_cons (pv 1) (pa_cons (pv 3) pa_nil))))) (pss_one (ps_ret pe_bl)) pss_nil)))))
      (pss_cons (ps_set (i := 4) nd rfl (Or.inr rfl) (pe_ok G_a_names (hr.mono (by omega)) pass0 (pa_cons (pv 1) (pa_cons pe_int pa_nil))))
      (pss_cons (ps_set (i := 5) nd rfl (Or.inl rfl) (pe_lst pa_nil))
      (pss_cons (ps_for PassesOwn.never rfl (k_pt (K := K) (pe_tup (pa_cons pe_int (pa_cons pe_int (pa_cons pe_int pa_nil))))) (pg_name (i := 6) nd rfl (Or.inr rfl))
      (pss_one (ps_expr (k_bm (K := K) PySem.F.plainAttrs_list PySem.F.slot_list_extend PySem.F.type_list_extend mt_extend (pv 5) (pa_cons (pe_lc (own := [("_law_at", 7)]) (by rfl) nd (pi_range1 (by rfl) T.range (pa_cons pe_int pa_nil)) (blkOk_by (own := [("_law_at", 7)]) (N := ["_law_script", "_law_stream", "_law_turn", "_law_raw", "_law_names", "_law_ties", "_law_step", "_law_at"]) (sc := (defScope s_law)) (by decide +kernel)) (fun _ _ _ _ _ => (pg_name (i := 7) nd rfl (by first | exact Or.inl rfl | exact Or.inr rfl))) (fun _ _ _ _ _ => pts_nil) (fun _ _ _ _ _ => (pe_ok G_a_tie (hr.mono (by omega)) pass0 (pa_cons (pe_ix (k_ixL (K := K)) (pv 4) (pv 7) (fun _ _ => rfl)) (pa_cons (pe_ix (k_ixL (K := K)) (pv 4) (pe_op op_mod (pe_callTy call_int1 (by rfl) T.int (by decide +kernel) (pa_cons (pe_op op_add (pv 7) (pv 6)) pa_nil)) pe_int) (fun _ _ => rfl)) (pa_cons (pe_ok G_draw (hr.mono (by omega)) pass0 (pa_cons (pv 1) (pa_cons pe_int pa_nil))) pa_nil)))))) pa_nil)))))
      (pss_cons (ps_if (PW.pt (pw_or (pt_not (pt_val (pe_okG (E := E0) G_told_right gd (hr.mono (by omega)) (pa_cons (pv 1) (pa_cons (pe_tup (pa_cons (pv 4) (pa_cons (pe_callB (k_sortedK (K := K)) (by rfl) T.sorted (by decide +kernel) (pa_cons (pv 5) pa_nil)) pa_nil))) pa_nil))))) (pw_or1 (pt_not (pt_val (pe_okG (E := E0) G_pictures_right gd (hr.mono (by omega)) (pa_cons (pv 1) pa_nil))))))) (pss_one (ps_ret pe_bl)) pss_nil)
      (pss_cons (ps_if (pt_not (pt_val (pe_okG (E := E0) G_picture_right gd (hr.mono (by omega)) (pa_cons (pv 1) (pa_cons (pe_ok G_a_picture (hr.mono (by omega)) pass0 (pa_cons (pv 1) (pa_cons pe_int (pa_cons pe_int (pa_cons pe_int pa_nil))))) pa_nil))))) (pss_one (ps_ret pe_bl)) pss_nil)
      (pss_one (ps_ret (pe_ok G_same (hr.mono (by omega)) pass0 (pa_cons (pe_ok G_told (hr.mono (by omega)) pass0 (pa_cons (pe_web T G_init (hr.mono (by omega)) passL (pa_cons (pe_lst pa_nil) (pa_cons (pe_lst pa_nil) pa_nil))) pa_nil)) (pa_cons (pe_lst (pa_cons (pe_lst pa_nil) (pa_cons (pe_lst pa_nil) (pa_cons (pe_lst pa_nil) pa_nil)))) pa_nil)))))))))))), ?_⟩
    refine ⟨_, rfl, p, ns, rfl, hp, fun a b H1 na nb s1 S1 => ?_⟩
    have T1 := Tabs.same hTab s1
    refine gName_i ?_
    dsimp only
    refine viaS (t1 := tFor _ _ _) (fun σ H2 => ∃ v2 v3 : Option V, σ = [some (.ref p), some (.ref a), v2, v3, none, none, none, none] ∧ Strm a b 100000000 H2 ∧ Tabs (tabsT K) H2) (fun nx hn => ?_) ?_
    · refine ⟨_, rfl, by decide, by decide, ?_⟩
      refine for_it walk_range (fun i σ H2 => ∃ v2 v3 : Option V, σ = [some (.ref p), some (.ref a), v2, v3, none, none, none, none] ∧ Strm a b (100000000 + (3 - i) * 100000000) H2 ∧ Tabs (tabsT K) H2)
        ⟨none, none, rfl, S1.le (by omega), T1⟩ (fun _ _ _ _ _ => trivial) ?_ ?_
      · rintro i x σ _ H2 hi ⟨v2, v3, rfl, S2, T2⟩ ⟨rfl, rfl⟩
        have hi3 : i < 3 := hi
        refine gName_i ?_
        dsimp only
        refine ⟨_, rfl, a, b, 100000000 + (3 - i) * 100000000 - 2000, rfl, S2.le (by omega), fun H3 v ns ts rv ok c kp3 S3 => ?_⟩
        have T3 := Tabs.kp T2 S2 kp3
        have l1 := ok.tl
        have off : ∀ {H' : Hp} {n : Nat}, Strm a b n H' → ∀ c, Fr H2 c → c ≠ a ∧ c ≠ b := fun _ c hc => S2.off hc
        refine ⟨_, rfl, _, rfl, a, b, v, _, ns, ts, 100000000 + (3 - i) * 100000000 - 10000, rfl, rv, off S2, ok, S3.le (by omega), fun H4 kp4 S4 => ⟨_, rfl, iteF ?_⟩⟩
        have T4 := Tabs.kp T3 S3 kp4
        have rv4 := rv.kp kp4 (off S2)
        refine ⟨_, rfl, _, rfl, a, b, v, _, ns, ts, 100000000 + (3 - i) * 100000000 - 20000, rfl, rv4, off S2, ok, S4.le (by omega), fun H5 kp5 S5 => ⟨_, rfl, iteF ?_⟩⟩
        have T5 := Tabs.kp T4 S4 kp5
        have rv5 := rv4.kp kp5 (off S2)
        refine ⟨_, rfl, _, rfl, a, b, v, _, ns, ts, 100000000 + (3 - (i + 1)) * 100000000, rfl, rv5, off S2, ok, c.1, S5.le (by omega), T5, fun H6 kp6 S6 T6 => ⟨_, rfl, iteF ?_⟩⟩
        exact next_i ⟨_, _, rfl, S6, T6⟩
      · rintro σ H2 ⟨v2, v3, rfl, S2, T2⟩
        exact hn _ _ ⟨v2, v3, rfl, S2, T2⟩
    rintro σ H2 ⟨v2, v3, rfl, S2, T2⟩
    refine ⟨_, rfl, a, b, 90000000, 200, rfl, S2.le (by omega), by omega, fun H3 pn ns npn hpn hlen hnd hall _ kp3 S3 => ?_⟩
    have T3 := Tabs.kp T2 S2 kp3
    refine gName_i ?_
    dsimp only
    have offp := S2.off npn
    refine viaS (t1 := tAsg _ _) (fun σ H4 => ∃ pt, σ = [some (.ref p), some (.ref a), v2, v3, some (.ref pn), some (.ref pt), none, none] ∧ Same H3 H4 ∧ H3 pt = none ∧ H4 pt = some (.lst [])) (fun nx hn => ?_) ?_
    · refine ⟨by show 0 ≤ sizeLine; decide, ?_⟩
      intro pt n_pt
      have e_pt : upd H3 pt (.lst []) pt = some (.lst []) := upd_same
      have s_pt : Same H3 (upd H3 pt (.lst [])) := same_new n_pt
      generalize upd H3 pt (.lst []) = H4 at e_pt s_pt ⊢
      exact hn _ _ ⟨pt, rfl, s_pt, n_pt, e_pt⟩
    rintro σ H4 ⟨pt, rfl, s34, npt, hpt⟩
    have S4 := S3.same s34
    have T4 := Tabs.same T3 s34
    have offt := S3.off npt
    have gdn : ∀ x ∈ ns, isNm x = true ∧ x ≠ "late9" ∧ x ≠ "nobody" := fun x hx => allN_gd (hall x hx)
    refine viaS (t1 := tFor _ _ _) (fun σ H5 => ∃ (v6 v7 : Option V) (ts : List Tie) (us : List V), σ = [some (.ref p), some (.ref a), v2, v3, some (.ref pn), some (.ref pt), v6, v7] ∧ Kp a b H3 H5 ∧ Strm a b 80000000 H5 ∧ Tabs (tabsT K) H5 ∧
        H5 pt = some (.lst us) ∧ RepL K (fun c => H3 c = none ∧ c ≠ pt) H5 (ts.map dTie) us ∧ ts.map pa2 = (ixs steps).map (pq ns) ∧ ∀ t ∈ ts, 0 ≤ t.2.2 ∧ t.2.2 ≤ 8) (fun nx hn => ?_) ?_
    · refine ⟨by show 3 ≤ sizeLine; decide, ?_⟩
      intro tt n_tt
      have e_tt : upd H4 tt (.tup [.int 1, .int 7, .int 31]) tt = some (.tup [.int 1, .int 7, .int 31]) := upd_same
      have s_tt : Same H4 (upd H4 tt (.tup [.int 1, .int 7, .int 31])) := same_new n_tt
      generalize upd H4 tt (.tup [.int 1, .int 7, .int 31]) = H5 at e_tt s_tt ⊢
      have hEtt := S4.off n_tt
      have ntp : tt ≠ pt := (ne_of_none hpt n_tt).symm
      refine ⟨tt, rfl, ⟨_, SqT.of e_tt⟩, for_it (walk_tup (xs := [.int 1, .int 7, .int 31])) (fun i σ H6 => ∃ (v6 v7 : Option V) (ts : List Tie) (us : List V), σ = [some (.ref p), some (.ref a), v2, v3, some (.ref pn), some (.ref pt), v6, v7] ∧ Kp a b H3 H6 ∧ H6 tt = some (.tup [.int 1, .int 7, .int 31]) ∧ Strm a b (80000000 + (3 - i) * 1000) H6 ∧ Tabs (tabsT K) H6 ∧
          H6 pt = some (.lst us) ∧ RepL K (fun c => H3 c = none ∧ c ≠ pt) H6 (ts.map dTie) us ∧ ts.map pa2 = (ixs (steps.take i)).map (pq ns) ∧ (∀ t ∈ ts, 0 ≤ t.2.2 ∧ t.2.2 ≤ 8) ∧ ts.length = 200 * i)
        ⟨none, none, [], [], rfl, .of (same_trans s34 s_tt), e_tt, (S4.same s_tt).le (by omega), Tabs.same T4 s_tt, s_tt _ _ hpt, RepL.nil, rfl, (fun t h => (nomatch h)), rfl⟩ (fun i σ H6 _ ⟨_, _, _, _, _, _, z, _⟩ => SqT.of z) ?_ ?_⟩
      · rintro i x σ _ H6 hi ⟨v6, v7, ts, us, rfl, kp6, htt6, S6, T6, hpt6, rus6, ets, hh, hlt⟩ ⟨rfl, hx⟩
        have hi3 : i < 3 := hi
        obtain ⟨st, hst, rfl, hs31⟩ : ∃ st : Nat, steps[i]? = some st ∧ x = .int (st : Nat) ∧ st ≤ 31 := by
          match i, hi3, hx with
          | 0, _, hx => exact ⟨1, rfl, (Option.some.inj hx).symm, by decide⟩
          | 1, _, hx => exact ⟨7, rfl, (Option.some.inj hx).symm, by decide⟩
          | 2, _, hx => exact ⟨31, rfl, (Option.some.inj hx).symm, by decide⟩
        refine gName_i ?_
        dsimp only
        have lus : us.length = 200 * i := by rw [rus6.len, List.length_map, hlt]
        have hpn6 := kp6 _ _ hpn offp.1 offp.2
        refine ⟨_, rfl, .inl ⟨rfl, _, SqL.of hpt6⟩, ?_⟩
        refine ⟨_, rfl, by decide, by decide, fun D nD => ?_⟩
        have offD := S6.off nD
        have nDp : D ≠ pt := (ne_of_none hpt6 nD).symm
        refine lc_it walk_range (fun j G => ∃ (ts' : List Tie) (ws : List V), Kp a b H6 G ∧ Strm a b (80000000 + (3 - (i + 1)) * 1000 + (200 - j)) G ∧ G D = some (.lst ws) ∧ RepL K (fun c => H6 c = none ∧ c ≠ D) G (ts'.map dTie) ws ∧
            ts'.map pa2 = (List.range j).map (fun q => pq ns (q, (q + st) % 200)) ∧ (∀ t ∈ ts', 0 ≤ t.2.2 ∧ t.2.2 ≤ 8) ∧ ts'.length = j)
          ⟨[], [], kp_new nD, (S6.new nD).le (by omega), upd_same, RepL.nil, rfl, (fun t h => (nomatch h)), rfl⟩ (fun _ _ _ _ => trivial) ?_ ?_
        · rintro j x _ G hj ⟨ts', ws, kpG, SG, hD, rws, ets', hh', hlt'⟩ ⟨rfl, rfl⟩
          have hj200 : j < 200 := hj
          refine gName_i ?_
          dsimp only
          refine ⟨rfl, yesT ?_⟩
          have e0 : (0 : Int) + (j : Nat) = ((j : Nat) : Int) := Int.zero_add _
          rw [e0]
          have hpnG := kpG _ _ hpn6 offp.1 offp.2
          have e1 : (ns.map V.str)[j]? = some (.str (gN ns j)) := by rw [List.getElem?_map, gN_at (by omega)]; rfl
          have e2 : (ns.map V.str)[(j + st) % 200]? = some (.str (gN ns ((j + st) % 200))) := by rw [List.getElem?_map, gN_at (by omega)]; rfl
          refine ⟨_, rfl, _, rfl, pn, _, _, _, rfl, rfl, SqL.of hpnG, atI_nat e1, ?_⟩
          refine ⟨_, rfl, _, rfl, _, rfl, _, _, rfl, rfl, .inl ⟨_, rfl, ?_⟩⟩
          refine ⟨_, _, rfl, rfl, by show (0 : Int) < 200; decide, ?_⟩
          refine ⟨pn, _, (((j + st) % 200 : Nat) : Int), _, rfl, congrArg V.int (show ((j : Int) + (st : Int)) % 200 = (((j + st) % 200 : Nat) : Int) by omega), SqL.of hpnG, atI_nat e2, ?_⟩
          refine ⟨_, rfl, a, b, 80000000 + (3 - (i + 1)) * 1000 + (200 - (j + 1)), 9, rfl, SG.le (by omega), by decide, by decide, fun G2 d kp2 S2 d0 d1 => ?_⟩
          refine ⟨_, _, _, rfl, fun t nt => ?_⟩
          have kpG2 := kpG.trans kp2
          have hD2 := kp2 _ _ hD offD.1 offD.2
          have ntD : t ≠ D := (ne_of_none hD2 nt).symm
          have nt6 : H6 t = none := kpG2.back S2 nt
          have lws : ws.length = j := by rw [rws.len, List.length_map, hlt']
          have rws2 := rws.kp kp2 fun c hc => S6.off hc.1
          refine ⟨ws, upd_at hD2 ntD.symm, by rw [lws]; exact Nat.lt_trans hj200 (by decide), ts' ++ [mkT (gN ns j) (gN ns ((j + st) % 200)) d], ws ++ [.ref t], kp_mut (kpG2.trans (kp_new nt)) nD, ?_, upd_same, ?_, ?_, ?_, ?_⟩
          · exact (S2.new nt).at_ (upd_ne offD.1.symm) (upd_ne offD.2.symm)
          · rw [List.map_append]
            exact RepL.snoc ((rws2.same (same_new nt)).mut fun h => h.2 rfl) (rep_tie.mpr ⟨t, rfl, ⟨nt6, ntD⟩, upd_at upd_same ntD⟩)
          · rw [List.map_append, ets', List.range_succ, List.map_append]
            rfl
          · intro t' ht'
            rcases List.mem_append.mp ht' with h | h
            · exact hh' t' h
            · rw [List.mem_singleton] at h
              rw [h]
              exact ⟨d0, show d ≤ 8 by omega⟩
          · rw [List.length_append, hlt']
            rfl
        · rintro G ⟨ts', ws, kpG, SG, hD, rws, ets', hh', hlt'⟩
          have hptG := kpG _ _ hpt6 offt.1 offt.2
          have lws : ws.length = 200 := by rw [rws.len, List.length_map, hlt']; rfl
          have kp3G := kp6.trans kpG
          refine ⟨pt, D, us, ws, rfl, rfl, hptG, hD, by rw [lus, lws]; exact Nat.le_trans (show 200 * i + 200 ≤ 1000 by omega) (by decide), ?_⟩
          refine next_i ⟨_, _, ts ++ ts', us ++ ws, rfl, kp_mut kp3G npt, upd_at (kpG _ _ htt6 hEtt.1 hEtt.2) ntp, (SG.at_ (upd_ne offt.1.symm) (upd_ne offt.2.symm)).le (Nat.le_add_right _ _), ?_, upd_same, ?_, ?_, ?_, ?_⟩
          · exact tabs_mut (Tabs.kp T6 S6 kpG) hptG
          · rw [List.map_append]
            refine RepL.app ((rus6.kp kpG fun c hc => S3.off hc.1).mut fun h => h.2 rfl) ((rws.wk fun c hc => ?_).mut fun h => h.2 rfl)
            refine ⟨kp6.back S6 hc.1, fun e => ?_⟩
            have := hc.1
            rw [e, hpt6] at this
            cases this
          · rw [List.map_append, ets, ets', ixs_snoc hst, List.map_append, List.map_map]
            rfl
          · intro t' ht'
            rcases List.mem_append.mp ht' with h | h
            · exact hh t' h
            · exact hh' t' h
          · rw [List.length_append, hlt, hlt', Nat.mul_add]
            rfl
      · rintro σ H6 ⟨v6, v7, ts, us, rfl, kp6, htt6, S6, T6, hpt6, rus6, ets, hh, hlt⟩
        exact hn _ _ ⟨v6, v7, ts, us, rfl, kp6, S6, T6, hpt6, rus6, ets, hh⟩
    rintro σ H5 ⟨v6, v7, ts, us, rfl, kp5, S5, T5, hpt5, rus5, ets, hh⟩
    refine ⟨_, rfl, _, rfl, _, rfl, ?_⟩
    dsimp only [tNil]
    refine sort_rep tk [true, false] (fun _ _ => rfl) hpt5 rus5 fun ys ws t pm pw rws nt => ⟨by show 2 ≤ sizeLine; decide, fun q' nq => ?_⟩
    obtain ⟨hraw, hylen⟩ := steps_raw hnd hlen gdn ets hh pm pw
    have hpn5 := kp5 _ _ hpn offp.1 offp.2
    have s5t := same_new (o := .lst ws) nt
    have s5q := same_new (o := .tup [.ref pn, .ref t]) nq
    have S6 := (S5.same s5t).same s5q
    have T6 := Tabs.same (Tabs.same T5 s5t) s5q
    have hqt : t ≠ q' := ne_of_none upd_same nq
    refine ⟨a, b, .ref q', Ex [a, b], ns, ys, 70000000, rfl, rep_raw.mpr ⟨q', _, _, rfl, (S5.same s5t).fr _ nq, upd_same, rep_strs.mpr ⟨pn, rfl, S2.fr _ npn, s5q _ _ (s5t _ _ hpn5)⟩, t, ws, rfl, S5.fr _ nt, upd_at upd_same hqt, ?_⟩, kpn_off, hraw, S6.le (by omega), fun H6 kp6 S6' => ⟨_, rfl, iteF ?_⟩⟩
    · exact ((rws.wk fun c hc => S3.fr c hc.1).same s5t).same s5q
    have T6' := Tabs.kp T6 S6 kp6
    refine ⟨_, rfl, a, b, 60000000, rfl, S6'.le (by omega), T6', fun H7 S7 => ⟨_, rfl, iteF ?_⟩⟩
    refine ⟨_, rfl, _, rfl, a, b, 50000000, 10, 20, 9, rfl, S7.le (by omega), by decide, by decide, by decide, by decide, fun H8 v pic rv hpic kp8 S8 => ?_⟩
    refine ⟨a, b, v, _, 10, 20, 0, 9, pic, 40000000, rfl, rv, fun c hc => S7.off hc, hpic, by decide, by decide, by decide, by decide, by decide, by decide, S8.le (by omega), fun H9 kp9 S9 => ⟨_, rfl, iteF ?_⟩⟩
    refine ⟨by show 0 ≤ sizeLine; decide, ?_⟩
    intro e1 n_e1
    have e_e1 : upd H9 e1 (.lst []) e1 = some (.lst []) := upd_same
    have s_e1 : Same H9 (upd H9 e1 (.lst [])) := same_new n_e1
    generalize upd H9 e1 (.lst []) = G1 at e_e1 s_e1 ⊢
    refine ⟨by show 0 ≤ sizeLine; decide, ?_⟩
    intro e2 n_e2
    have e_e2 : upd G1 e2 (.lst []) e2 = some (.lst []) := upd_same
    have s_e2 : Same G1 (upd G1 e2 (.lst [])) := same_new n_e2
    generalize upd G1 e2 (.lst []) = G2 at e_e2 s_e2 ⊢
    refine ⟨_, _, rfl, webgo_ok (N := fun _ => True) (ns := []) (ts := []) (l1 := true) (l2 := true) ⟨e1, [], rfl, trivial, s_e2 _ _ e_e1, rfl⟩ ⟨e2, [], rfl, trivial, e_e2, rfl⟩ List.nodup_nil (fun x hx => nomatch hx) AccOk.nil (by decide) (by decide) fun n u G3 hw s3 ru => ?_⟩
    obtain rfl : n = [] := by
      cases n with
      | nil => rfl
      | cons r rs => exact nomatch (hw.mem r.1).mp List.mem_cons_self
    refine ⟨u, [], _, rfl, ru, by decide, fun q hq => (nomatch hq), fun G4 v4 fp s4 rv4 _ _ _ => ?_⟩
    refine ⟨by show 0 ≤ sizeLine; decide, ?_⟩
    intro f1 n_f1
    have e_f1 : upd G4 f1 (.lst []) f1 = some (.lst []) := upd_same
    have s_f1 : Same G4 (upd G4 f1 (.lst [])) := same_new n_f1
    generalize upd G4 f1 (.lst []) = G5 at e_f1 s_f1 ⊢
    refine ⟨by show 0 ≤ sizeLine; decide, ?_⟩
    intro f2 n_f2
    have e_f2 : upd G5 f2 (.lst []) f2 = some (.lst []) := upd_same
    have s_f2 : Same G5 (upd G5 f2 (.lst [])) := same_new n_f2
    generalize upd G5 f2 (.lst []) = G6 at e_f2 s_f2 ⊢
    refine ⟨by show 0 ≤ sizeLine; decide, ?_⟩
    intro f3 n_f3
    have e_f3 : upd G6 f3 (.lst []) f3 = some (.lst []) := upd_same
    have s_f3 : Same G6 (upd G6 f3 (.lst [])) := same_new n_f3
    generalize upd G6 f3 (.lst []) = G7 at e_f3 s_f3 ⊢
    refine ⟨by show 3 ≤ sizeLine; decide, ?_⟩
    intro f4 n_f4
    have e_f4 : upd G7 f4 (.lst [.ref f1, .ref f2, .ref f3]) f4 = some (.lst [.ref f1, .ref f2, .ref f3]) := upd_same
    have s_f4 : Same G7 (upd G7 f4 (.lst [.ref f1, .ref f2, .ref f3])) := same_new n_f4
    generalize upd G7 f4 (.lst [.ref f1, .ref f2, .ref f3]) = G8 at e_f4 s_f4 ⊢
    have g3 := s_f4
    have g2 := same_trans s_f3 g3
    have g1 := same_trans s_f2 g2
    refine ⟨v4, .ref f4, dTold [], _, fun _ => True, rfl, rv4.same (same_trans s_f1 g1), ⟨f4, _, rfl, trivial, e_f4, _, _, rfl, ⟨f1, [], rfl, trivial, g1 _ _ e_f1, rfl⟩, _, _, rfl, ⟨f2, [], rfl, trivial, g2 _ _ e_f2, rfl⟩, _, _, rfl, ⟨f3, [], rfl, trivial, g3 _ _ e_f3, rfl⟩, rfl⟩, by decide +kernel, fun H10 _ => ?_⟩
    exact q H10
end
end Pw
set_option Elab.async false
set_option linter.all false
set_option maxRecDepth 100000
set_option maxHeartbeats 8000000
/-! From the law's promise to the statement. -/
namespace Pw
open PySem PySem.Spec PyProof.Rows L2 LamX
/-- the heap in sight at the start: the tables, and the script where the head does not know it -/
def hp0 (T : List Addr) (a : Addr) (o : HO) (b : Bool) : Hp := fun c => if c ∈ T then some (.tbl #[]) else if b = true ∧ c = a then some o else none
theorem hp0_tab {T : List Addr} {a c : Addr} {o : HO} {b : Bool} (h : c ∈ T) : hp0 T a o b c = some (.tbl #[]) := if_pos h
theorem hp0_at {T : List Addr} {a : Addr} {o : HO} (h : a ∉ T) : hp0 T a o true a = some o := by
  unfold hp0
  rw [if_neg h, if_pos ⟨rfl, rfl⟩]
theorem hp0_some {T : List Addr} {a c : Addr} {o u : HO} {b : Bool} (h : hp0 T a o b c = some u) : (c ∈ T ∧ u = .tbl #[]) ∨ (c ∉ T ∧ b = true ∧ c = a ∧ u = o) := by
  unfold hp0 at h
  by_cases hc : c ∈ T
  · rw [if_pos hc] at h
    exact .inl ⟨hc, (Option.some.inj h).symm⟩
  · rw [if_neg hc] at h
    by_cases hb : b = true ∧ c = a
    · rw [if_pos hb] at h
      exact .inr ⟨hc, hb.1, hb.2, (Option.some.inj h).symm⟩
    · rw [if_neg hb] at h
      cases h
abbrev tab0 : Obj := { cls := .none, data := .fields #[] }
section
variable {P : Program} {w : World} {K : PySem.W.Frag} {mg mb : Str → Option Value}
theorem enter_law {k : Nat} {f at_ : Addr} {cs : List (Addr × Addr)} {nm x : Str} {sp : Sp} {s : Shared} {xs : List Value} {ns : List Int} (X : K.In s.heap) (G : s.heap.Ns mainGlobals mg) (B : s.heap.Ns builtinsNs mb) (boot : ∀ y : Str, y ≠ "__name__" → mb y = bootBuiltins y)
    (L : s.heap.NoLimit) (hgen : s.gens = #[]) (tabs : ∀ p ∈ cs, s.heap.get? p.2 = some tab0) (codes : ∀ p ∈ cs, PySem.W.codeHdIn K p.1 p.2 = true) (outK : ∀ p ∈ cs, K.lookup p.2 = none)
    (bmain : ∃ (m : Addr) (o : Obj), mg "__builtins__" = some (.ref m) ∧ m ≠ builtinsNs ∧ s.heap.get? m = some o ∧ o.cls = .type "module" ∧ o.dict = some builtinsNs ∧ o.data = .plain)
    (script : s.heap.get? at_ = some { cls := .type "list", data := .seq xs.toArray }) (hin : IntsAre xs ns) (few : ns.length ≤ sizeLine) (room : Room k callerA)
    (named : mg nm = some (.ref f)) (F : ∀ base : Heap, (∀ p ∈ cs, TabB base mg p.1 p.2) → OkG P w K mg base k nm [x] sp)
    (start : ∀ H : Hp, (∀ p ∈ cs, H p.2 = some (.tbl #[])) → SqL K H at_ (ns.map V.int) → sp [.ref at_] H (fun v _ => v = .bl true) fun _ _ _ => False) :
    codeAny (model P w) callerA (.call (.ref f) ⟨[.ref at_], []⟩) (fun r t => r = .ok (.ret (.bool true)) ∧ OldK s.heap t.heap ∧ t.os = s.os ∧ AllBare t.gens) s := by
  have vals := vals_ints hin
  have inT : ∀ c ∈ cs.map (·.2), s.heap.get? c = some tab0 := fun c hc => by
    obtain ⟨p, hp, rfl⟩ := List.mem_map.mp hc
    exact tabs p hp
  have ofT : ∀ p ∈ cs, p.2 ∈ cs.map (·.2) := fun p hp => List.mem_map_of_mem hp
  have notT : at_ ∉ cs.map (·.2) := fun hc => by
    have e : Data.fields #[] = Data.seq xs.toArray _ := congrArg Obj.data (Option.some.inj ((inT _ hc).symm.trans script))
    cases e
  obtain ⟨H, eH⟩ : ∃ H, H = hp0 (cs.map (·.2)) at_ (.frz { cls := .type "list", data := .seq xs.toArray } (.lst (ns.map V.int))) (K.lookup at_).isNone := ⟨_, rfl⟩
  have seen : ∀ {c : Addr} {u : HO}, H c = some u → (c ∈ cs.map (·.2) ∧ u = .tbl #[]) ∨ (c ∉ cs.map (·.2) ∧ (K.lookup at_).isNone = true ∧ c = at_ ∧ u = .frz { cls := .type "list", data := .seq xs.toArray } (.lst (ns.map V.int))) := fun {c u} h => hp0_some (by rw [← eH]; exact h)
  have tabH : ∀ p ∈ cs, H p.2 = some (.tbl #[]) := fun p hp => by
    rw [eH]
    exact hp0_tab (ofT p hp)
  have sq : SqL K H at_ (ns.map V.int) := by
    cases q : K.lookup at_ with
    | none =>
      refine .inl (.inr ⟨{ cls := .type "list", data := .seq xs.toArray }, ?_⟩)
      rw [eH, q]
      exact hp0_at notT
    | some o =>
      have e := X at_ o q
      rw [script] at e
      cases e
      exact .inr ⟨_, xs.toArray, _, q, rfl, rfl, rfl, by rw [List.size_toArray, hin.length]; exact few, vals⟩
  -- what is in sight is a table or the script
  have dark : ∀ {c : Addr} {o : Obj}, s.heap.get? c = some o → (o.data ≠ .fields #[]) → (∀ n, o.data ≠ .seq xs.toArray n) → H c = none := fun {c o} e n1 n2 => by
    cases q : H c with
    | none => rfl
    | some u =>
      rcases seen q with ⟨hc, _⟩ | ⟨_, _, rfl, _⟩
      · rw [inT c hc] at e
        exact absurd (congrArg Obj.data (Option.some.inj e)).symm n1
      · rw [script] at e
        exact absurd (congrArg Obj.data (Option.some.inj e)).symm (n2 _)
  have names : ∀ {c : Addr} {m : Str → Option Value}, s.heap.Ns c m → (hidT s.heap H).Ns c m := fun {c m} h => by
    obtain ⟨o, es, ep, e, d, r⟩ := h
    exact ⟨o, es, ep, hidT_get e (dark e (by rw [d]; intro z; cases z) (by rw [d]; intro n z; cases z)), d, r⟩
  have known : K.In (hidT s.heap H) := fun c o e => by
    refine hidT_get (X c o e) ?_
    cases q : H c with
    | none => rfl
    | some u =>
      rcases seen q with ⟨hc, _⟩ | ⟨_, hb, rfl, _⟩
      · obtain ⟨p, hp, rfl⟩ := List.mem_map.mp hc
        rw [outK p hp] at e
        cases e
      · rw [e] at hb
        cases hb
  have modl : L2.Mod K mg (hidT s.heap H) := ⟨known, names G, ⟨mb, names B, boot⟩, by
    obtain ⟨mc, l1, l2⟩ := L
    exact ⟨mc, names l1, l2⟩⟩
  have notG : ∀ {c : Addr} {o : Obj}, s.heap.get? c = some o → (∀ es ep, o.data ≠ .dict es ep) → mainGlobals ≠ c := fun {c o} e hn z => by
    obtain ⟨og, es, ep, eg, d, _⟩ := G
    rw [z, e] at eg
    exact hn es ep (Option.some.inj eg ▸ d)
  have tabB : ∀ p ∈ cs, TabB (hidT s.heap H) mg p.1 p.2 := fun p hp => by
    obtain ⟨m, o, b1, b2, b3, b4, b5, b6⟩ := bmain
    have hp0 := tabs p hp
    refine ⟨PySem.W.codeHd_of_K known (codes p hp), ⟨m, o, b1, b2, fun z => ?_, fun z => ?_, hidT_get b3 (dark b3 ?_ ?_), b4, b5, b6⟩, notG hp0 fun es ep z => by cases z⟩
    · exact notG b3 (fun es ep d => by rw [b6] at d; cases d) z.symm
    · rw [z, hp0] at b3
      cases b3
      cases b6
    · rw [b6]
      intro z
      cases z
    · rw [b6]
      intro n z
      cases z
  have objs : HOk P w H s.heap := fun c u h => by
    rcases seen h with ⟨hc, rfl⟩ | ⟨_, _, rfl, rfl⟩
    · exact inT c hc
    · exact ⟨script, by rw [List.length_map]; exact few, xs, _, vals, script⟩
  have env : Env0 P w K mg (hidT s.heap H) callerA [] s H := ⟨rfl, modl, fun c o e => of_hidT e, Nat.le_of_eq (hidT_size _ _), trivial, fun c hc => (nomatch (show c ∈ ([] : List Addr) from hc)), objs, .of_eq hgen⟩
  obtain ⟨f', fd, hf, _, hb, Gf⟩ := F _ tabB
  have ef : f' = f := by
    rw [named] at hf
    cases hf
    rfl
  subst ef
  refine codeAny_mono (Gf.go callerA [] s H ⟨[.ref at_], []⟩ [.ref at_] [.ref at_] _ _ rfl room env (hb s [.ref at_] X rfl) (.cons rfl .nil) (start H tabH sq)) fun r t h => ?_
  match r, h with
  | .error e, h => exact (show False from h).elim
  | .ok .next, h => exact h.elim
  | .ok .brk, h => exact h.elim
  | .ok .cont, h => exact h.elim
  | .ok (.ret u), h =>
    obtain ⟨v, H', same_os, bare, un, objs', rel, rfl⟩ := h
    obtain rfl : u = Value.bool true := rel
    have more : ∀ c ∈ cs.map (·.2), ∃ vs : Array Value, t.heap.get? c = some { cls := .none, data := .fields vs } := fun c hc => by
      have hH : H c = some (.tbl #[]) := by
        rw [eH]
        exact hp0_tab hc
      obtain ⟨ys, z⟩ := un.tbls c #[] hH
      exact ⟨_, objs' c _ z⟩
    have stay : ∀ c o, c ∉ cs.map (·.2) → s.heap.get? c = some o → t.heap.get? c = some o := fun c o hc e => by
      cases q : H c with
      | none => exact un.keep c o e q (fun z => (nomatch (show c ∈ ([] : List Addr) from z))) (fun z => (nomatch z))
      | some y =>
        rcases seen q with ⟨z, _⟩ | ⟨_, _, rfl, rfl⟩
        · exact absurd z hc
        · obtain ⟨e2, _⟩ := objs' _ _ (un.frzs _ _ _ q)
          rw [script] at e
          cases e
          exact e2
    refine ⟨rfl, ⟨fun c o e => ?_, fun c o e => ?_⟩, same_os, bare⟩
    · by_cases hc : c ∈ cs.map (·.2)
      · obtain ⟨vs, z⟩ := more c hc
        obtain ⟨p, hp, rfl⟩ := List.mem_map.mp hc
        have e0 := inT _ hc
        rw [e0] at e
        cases e
        exact .inr (.inl ⟨((PySem.W.codeHd_of_K X (codes p hp)).tab e0).isCodeTable, rfl, #[], vs, rfl, by rw [Array.empty_append]; exact z⟩)
      · exact .inl (stay c o hc e)
    · by_cases hc : c ∈ cs.map (·.2)
      · obtain ⟨vs, z⟩ := more c hc
        exact ⟨_, z⟩
      · exact ⟨o, stay c o hc e⟩
/-- the law's call, from what the head tells -/
theorem law_called {h : Heap} {f at_ : Addr} {s : Shared} {xs : List Value} {ns : List Int} (C : He.SaysX fa fn [] tf exB w s.heap K) (X : K.In s.heap) (G : s.heap.Ns mainGlobals mg) (B : s.heap.Ns builtinsNs mb) (boot : ∀ y : Str, y ≠ "__name__" → mb y = bootBuiltins y)
    (L : s.heap.NoLimit) (hgen : s.gens = #[])
    (bmain : ∃ (m : Addr) (o : Obj), mg "__builtins__" = some (.ref m) ∧ m ≠ builtinsNs ∧ s.heap.get? m = some o ∧ o.cls = .type "module" ∧ o.dict = some builtinsNs ∧ o.data = .plain)
    (named : mg "law" = some (.ref f)) (script : s.heap.get? at_ = some { cls := .type "list", data := .seq xs.toArray }) (hin : IntsAre xs ns) (few : ns.length ≤ sizeLine) :
    codeAny (model P w) callerA (.call (.ref f) ⟨[.ref at_], []⟩) (fun r t => r = .ok (.ret (.bool true)) ∧ OldK s.heap t.heap ∧ t.os = s.os ∧ AllBare t.gens) s := by
  have T : Tx K mg := ⟨C.t.d, ⟨s.heap, X, G⟩, C.more⟩
  have m1 : (("_law_refused_right", none) : He.Defn) ∈ tf := List.mem_cons_self
  have m2 : (("_law_pictures_right", none) : He.Defn) ∈ tf := List.mem_cons_of_mem _ List.mem_cons_self
  have two : ∀ {R : Addr × Addr → Prop}, R (tabR K) → R (tabP K) → ∀ p ∈ [tabR K, tabP K], R p := fun {R} r1 r2 p hp => by
    simp only [List.mem_cons, List.not_mem_nil, or_false] at hp
    rcases hp with rfl | rfl
    · exact r1
    · exact r2
  refine enter_law (k := 16) (cs := [tabR K, tabP K]) (nm := "law") (x := "_law_script") (sp := spLaw K) X G B boot L hgen (two (C.empty _ m1) (C.empty _ m2)) (two (C.hd _ m1) (C.hd _ m2)) (two (C.out _ m1) (C.out _ m2)) bmain script hin few ⟨rfl, by decide, by decide⟩ named
    (fun base TB => ok_law T (TB _ List.mem_cons_self) (TB _ (List.mem_cons_of_mem _ List.mem_cons_self))) fun H tb sq => ⟨at_, ns, rfl, sq, fun p hp => ?_, fun _ => rfl⟩
  simp only [tabsT, List.mem_cons, List.not_mem_nil, or_false] at hp
  rcases hp with rfl | rfl
  · exact TabS.nil (tb _ List.mem_cons_self)
  · exact TabS.nil (tb _ (List.mem_cons_of_mem _ List.mem_cons_self))
end
end Pw
set_option Elab.async false
set_option linter.all false
set_option maxRecDepth 100000
set_option maxHeartbeats 0
open PySem PySem.W PySem.Calls PyProof.Rows
theorem PySem.Challenge.cw_partswithin_k01_whole_webs_and_pictures_holds : PySem.Challenge.rw_partswithin_k01_whole_webs_and_pictures.Holds := by
  w_on; o_law
  refine HandSHeadRun.head_any (r := OpenLaw.row PySem.Challenge.rw_partswithin_k01_whole_webs_and_pictures) (q := view (OpenLaw.row PySem.Challenge.rw_partswithin_k01_whole_webs_and_pictures).prog [54]) (H := Pw.hk) (ob := Pw.ob) (M := 20000) (loose := Pw.loose) (d := HandSHeadRun.topDef (OpenLaw.row PySem.Challenge.rw_partswithin_k01_whole_webs_and_pictures).prog 54) (kwd := []) Pw.ob_eq
    (by kernel_rfl) (fun s => by kernel_rfl) Pw.run (by kernel_rfl) (by kernel_rfl) (by kernel_rfl) (by rfl) (by first | assumption | decide +kernel) (by decide +kernel) ⟨rfl, rfl, rfl, rfl, rfl, by decide +kernel⟩ ?hw ?hc
  case hw => w_witness2
  case hc =>
    refine Att.attach_callB (l := PySem.Challenge.rw_partswithin_k01_whole_webs_and_pictures) (n := 63) rfl (by kernel_rfl) fun w s₀ s₁ mg mb f o pm cd doc at_ vs ns G Y ho hd hcd named hobj hin few hbits hgen => ?_
    obtain ⟨K, X, C⟩ := Y
    have law : mg ("law" : PySem.Str) = some (.ref f) := by
      have e : (HandSHeadRun.topDef (OpenLaw.row PySem.Challenge.rw_partswithin_k01_whole_webs_and_pictures).prog 54).name = ("law" : PySem.Str) := by kernel_rfl
      rw [← e]
      exact named
    exact Pw.law_called (h := s₁.heap) C X G.T.g G.T.b G.T.builtins G.T.nolimit hgen G.T.bmain law hobj hin (Nat.le_trans few (by decide))
