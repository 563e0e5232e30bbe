import PyProof.Rows.All
import Wide.All
import OpenK.AllK
import Wide.FinOn
import HandS.ForMost
import HandS.ForExc
import HandS.Deep
import HandS.Style
import HandS.Lambda
import HandS.IsInst
import HandS.Wide
import HandS.DictComp
import HandS.TupAny
import HandS.Zip
import HandS.HeadHook1
import HandS.HeadHook2
import HandS.HeadHook4
import HandS.Defaults
import HandS.Codes
import KE.DataEq
import KE.DataCmp
import KE.DataMinMax
import KE.SortData
import HandS.SortKw
import KE.DataMinKey
import KE.KDictWalk
import KE.KLam
import HandS.DictTup
import HandS.TupLen
import HandS.Strs
import HandS.NoneIn
import HandS.ExcOwn
import HandS.TryOnly
import HandS.OwnEq
import HandS.NamedTup0
import KE.KDictSum
import KE.KSortTupAny
import HandS.HeadWalk
import KE.KStateDown
import Lean
import HandS.Head0
import HandS.Head1
import HandS.Head2
import HandS.HeadEnd
import HandS.HeadHook3
import PySem.Challenge.RW_elsetold_k74_whole_nights_far
set_option Elab.async false
set_option linter.all false
set_option maxRecDepth 100000
set_option maxHeartbeats 4000000
/-! Z3: the text by places, its facts by names, calls of its defs. Own work, printed by mkfacts.py. -/
namespace Z
open PySem PySem.Spec L2
def top (i : Nat) : Stmt := PySem.Challenge.pw_elsetold_k74_whole_nights_far.main.body.getD i (.Pass ⟨0, 0, 0, 0⟩)
def d_Doubled_init : He.DefD := ⟨("Doubled", some "__init__"), "__init__", "Doubled.__init__", defArgs (inClass (top 2) 0), defBody (inClass (top 2) 0), defScope (inClass (top 2) 0), [], []⟩
def d_Doubled_reaches_of : He.DefD := ⟨("Doubled", some "reaches_of"), "reaches_of", "Doubled.reaches_of", defArgs (inClass (top 2) 1), defBody (inClass (top 2) 1), defScope (inClass (top 2) 1), [], []⟩
def d_lesser : He.DefD := ⟨("lesser", none), "lesser", "lesser", defArgs (top 3), defBody (top 3), defScope (top 3), [], []⟩
def d_more : He.DefD := ⟨("more", none), "more", "more", defArgs (top 4), defBody (top 4), defScope (top 4), [], []⟩
def d_spot_reaches : He.DefD := ⟨("spot_reaches", none), "spot_reaches", "spot_reaches", defArgs (top 5), defBody (top 5), defScope (top 5), [], []⟩
def d_fronts : He.DefD := ⟨("fronts", none), "fronts", "fronts", defArgs (top 6), defBody (top 6), defScope (top 6), [], []⟩
def d_is_whole : He.DefD := ⟨("is_whole", none), "is_whole", "is_whole", defArgs (top 27), defBody (top 27), defScope (top 27), [.non], []⟩
def d_is_name : He.DefD := ⟨("is_name", none), "is_name", "is_name", defArgs (top 28), defBody (top 28), defScope (top 28), [], []⟩
def d_is_listed : He.DefD := ⟨("is_listed", none), "is_listed", "is_listed", defArgs (top 29), defBody (top 29), defScope (top 29), [], []⟩
def d_is_rising : He.DefD := ⟨("is_rising", none), "is_rising", "is_rising", defArgs (top 30), defBody (top 30), defScope (top 30), [], []⟩
def d_is_folk : He.DefD := ⟨("is_folk", none), "is_folk", "is_folk", defArgs (top 31), defBody (top 31), defScope (top 31), [], []⟩
def d_is_way : He.DefD := ⟨("is_way", none), "is_way", "is_way", defArgs (top 32), defBody (top 32), defScope (top 32), [], []⟩
def d_is_web : He.DefD := ⟨("is_web", none), "is_web", "is_web", defArgs (top 33), defBody (top 33), defScope (top 33), [], []⟩
def d_web_of : He.DefD := ⟨("web_of", none), "web_of", "web_of", defArgs (top 34), defBody (top 34), defScope (top 34), [], []⟩
def d_need_starters : He.DefD := ⟨("need_starters", none), "need_starters", "need_starters", defArgs (top 35), defBody (top 35), defScope (top 35), [], []⟩
def d_need_beat : He.DefD := ⟨("need_beat", none), "need_beat", "need_beat", defArgs (top 36), defBody (top 36), defScope (top 36), [], []⟩
def d_beats_between : He.DefD := ⟨("beats_between", none), "beats_between", "beats_between", defArgs (top 37), defBody (top 37), defScope (top 37), [], []⟩
def d_is_place : He.DefD := ⟨("is_place", none), "is_place", "is_place", defArgs (top 38), defBody (top 38), defScope (top 38), [], []⟩
def d_need_place : He.DefD := ⟨("need_place", none), "need_place", "need_place", defArgs (top 39), defBody (top 39), defScope (top 39), [], []⟩
def d_Cry_init : He.DefD := ⟨("Cry", some "__init__"), "__init__", "Cry.__init__", defArgs (inClass (top 43) 0), defBody (inClass (top 43) 0), defScope (inClass (top 43) 0), [], []⟩
def d_Cry_numbers_at : He.DefD := ⟨("Cry", some "numbers_at"), "numbers_at", "Cry.numbers_at", defArgs (inClass (top 43) 1), defBody (inClass (top 43) 1), defScope (inClass (top 43) 1), [], []⟩
def d_hearings : He.DefD := ⟨("hearings", none), "hearings", "hearings", defArgs (top 44), defBody (top 44), defScope (top 44), [], []⟩
def d_all_fronts : He.DefD := ⟨("all_fronts", none), "all_fronts", "all_fronts", defArgs (top 46), defBody (top 46), defScope (top 46), [], []⟩
def d_within : He.DefD := ⟨("within", none), "within", "within", defArgs (top 47), defBody (top 47), defScope (top 47), [], []⟩
def d_numbers_heard : He.DefD := ⟨("numbers_heard", none), "numbers_heard", "numbers_heard", defArgs (top 48), defBody (top 48), defScope (top 48), [], []⟩
def d_spans_heard : He.DefD := ⟨("spans_heard", none), "spans_heard", "spans_heard", defArgs (top 49), defBody (top 49), defScope (top 49), [], []⟩
def d_spans_of_all : He.DefD := ⟨("spans_of_all", none), "spans_of_all", "spans_of_all", defArgs (top 50), defBody (top 50), defScope (top 50), [], []⟩
def d_tellings : He.DefD := ⟨("tellings", none), "tellings", "tellings", defArgs (top 51), defBody (top 51), defScope (top 51), [], []⟩
def d_tellings_by : He.DefD := ⟨("tellings_by", none), "tellings_by", "tellings_by", defArgs (top 52), defBody (top 52), defScope (top 52), [], []⟩
def d_last_beat : He.DefD := ⟨("last_beat", none), "last_beat", "last_beat", defArgs (top 53), defBody (top 53), defScope (top 53), [], []⟩
def d_need_two : He.DefD := ⟨("need_two", none), "need_two", "need_two", defArgs (top 55), defBody (top 55), defScope (top 55), [], []⟩
def d_with_way : He.DefD := ⟨("with_way", none), "with_way", "with_way", defArgs (top 56), defBody (top 56), defScope (top 56), [], []⟩
def d_without : He.DefD := ⟨("without", none), "without", "without", defArgs (top 57), defBody (top 57), defScope (top 57), [], []⟩
def d_without_way : He.DefD := ⟨("without_way", none), "without_way", "without_way", defArgs (top 58), defBody (top 58), defScope (top 58), [], []⟩
def d_Begun_init : He.DefD := ⟨("Begun", some "__init__"), "__init__", "Begun.__init__", defArgs (inClass (top 61) 0), defBody (inClass (top 61) 0), defScope (inClass (top 61) 0), [], []⟩
def d_Begun_plain : He.DefD := ⟨("Begun", some "plain"), "plain", "Begun.plain", defArgs (inClass (top 61) 1), defBody (inClass (top 61) 1), defScope (inClass (top 61) 1), [], []⟩
def d_Begun_last : He.DefD := ⟨("Begun", some "last"), "last", "Begun.last", defArgs (inClass (top 61) 2), defBody (inClass (top 61) 2), defScope (inClass (top 61) 2), [], []⟩
def d_Begun_beats_at : He.DefD := ⟨("Begun", some "beats_at"), "beats_at", "Begun.beats_at", defArgs (inClass (top 61) 3), defBody (inClass (top 61) 3), defScope (inClass (top 61) 3), [], []⟩
def d_copy_of : He.DefD := ⟨("copy_of", none), "copy_of", "copy_of", defArgs (top 62), defBody (top 62), defScope (top 62), [], []⟩
def d_Night_init : He.DefD := ⟨("Night", some "__init__"), "__init__", "Night.__init__", defArgs (inClass (top 63) 0), defBody (inClass (top 63) 0), defScope (inClass (top 63) 0), [], []⟩
def d_Night_need_cry : He.DefD := ⟨("Night", some "need_cry"), "need_cry", "Night.need_cry", defArgs (inClass (top 63) 1), defBody (inClass (top 63) 1), defScope (inClass (top 63) 1), [], []⟩
def d_Night_keep : He.DefD := ⟨("Night", some "keep"), "keep", "Night.keep", defArgs (inClass (top 63) 2), defBody (inClass (top 63) 2), defScope (inClass (top 63) 2), [], []⟩
def d_Night_begin : He.DefD := ⟨("Night", some "begin"), "begin", "Night.begin", defArgs (inClass (top 63) 3), defBody (inClass (top 63) 3), defScope (inClass (top 63) 3), [], []⟩
def d_Night_go_on : He.DefD := ⟨("Night", some "go_on"), "go_on", "Night.go_on", defArgs (inClass (top 63) 4), defBody (inClass (top 63) 4), defScope (inClass (top 63) 4), [], []⟩
def d_Night_is_busy : He.DefD := ⟨("Night", some "is_busy"), "is_busy", "Night.is_busy", defArgs (inClass (top 63) 5), defBody (inClass (top 63) 5), defScope (inClass (top 63) 5), [], []⟩
def d_Night_add : He.DefD := ⟨("Night", some "add"), "add", "Night.add", defArgs (inClass (top 63) 6), defBody (inClass (top 63) 6), defScope (inClass (top 63) 6), [], []⟩
def d_Night_lose : He.DefD := ⟨("Night", some "lose"), "lose", "Night.lose", defArgs (inClass (top 63) 7), defBody (inClass (top 63) 7), defScope (inClass (top 63) 7), [], []⟩
def d_Night_back : He.DefD := ⟨("Night", some "back"), "back", "Night.back", defArgs (inClass (top 63) 8), defBody (inClass (top 63) 8), defScope (inClass (top 63) 8), [], []⟩
def d_Night_web_now : He.DefD := ⟨("Night", some "web_now"), "web_now", "Night.web_now", defArgs (inClass (top 63) 9), defBody (inClass (top 63) 9), defScope (inClass (top 63) 9), [], []⟩
def d_Night_beat_now : He.DefD := ⟨("Night", some "beat_now"), "beat_now", "Night.beat_now", defArgs (inClass (top 63) 10), defBody (inClass (top 63) 10), defScope (inClass (top 63) 10), [], []⟩
def d_Night_cries : He.DefD := ⟨("Night", some "cries"), "cries", "Night.cries", defArgs (inClass (top 63) 11), defBody (inClass (top 63) 11), defScope (inClass (top 63) 11), [], []⟩
def d_Night_heard_at : He.DefD := ⟨("Night", some "heard_at"), "heard_at", "Night.heard_at", defArgs (inClass (top 63) 12), defBody (inClass (top 63) 12), defScope (inClass (top 63) 12), [], []⟩
def d_Night_cries_heard : He.DefD := ⟨("Night", some "cries_heard"), "cries_heard", "Night.cries_heard", defArgs (inClass (top 63) 13), defBody (inClass (top 63) 13), defScope (inClass (top 63) 13), [], []⟩
def d_Night_told : He.DefD := ⟨("Night", some "told"), "told", "Night.told", defArgs (inClass (top 63) 14), defBody (inClass (top 63) 14), defScope (inClass (top 63) 14), [], []⟩
def d_Night_quiet_cries : He.DefD := ⟨("Night", some "quiet_cries"), "quiet_cries", "Night.quiet_cries", defArgs (inClass (top 63) 16), defBody (inClass (top 63) 16), defScope (inClass (top 63) 16), [], []⟩
def d_Night_history : He.DefD := ⟨("Night", some "history"), "history", "Night.history", defArgs (inClass (top 63) 17), defBody (inClass (top 63) 17), defScope (inClass (top 63) 17), [], []⟩
def d_Night_eq : He.DefD := ⟨("Night", some "__eq__"), "__eq__", "Night.__eq__", defArgs (inClass (top 63) 19), defBody (inClass (top 63) 19), defScope (inClass (top 63) 19), [], []⟩
def d_Night_len : He.DefD := ⟨("Night", some "__len__"), "__len__", "Night.__len__", defArgs (inClass (top 63) 20), defBody (inClass (top 63) 20), defScope (inClass (top 63) 20), [], []⟩
def d_law_reel : He.DefD := ⟨("_law_reel", none), "_law_reel", "_law_reel", defArgs (top 65), defBody (top 65), defScope (top 65), [], []⟩
def d_law_draw : He.DefD := ⟨("_law_draw", none), "_law_draw", "_law_draw", defArgs (top 66), defBody (top 66), defScope (top 66), [], []⟩
def d_law_name : He.DefD := ⟨("_law_name", none), "_law_name", "_law_name", defArgs (top 68), defBody (top 68), defScope (top 68), [], []⟩
def d_law_beats : He.DefD := ⟨("_law_beats", none), "_law_beats", "_law_beats", defArgs (top 69), defBody (top 69), defScope (top 69), [], []⟩
def d_law_web : He.DefD := ⟨("_law_web", none), "_law_web", "_law_web", defArgs (top 70), defBody (top 70), defScope (top 70), [], []⟩
def d_law_lot : He.DefD := ⟨("_law_lot", none), "_law_lot", "_law_lot", defArgs (top 71), defBody (top 71), defScope (top 71), [], []⟩
def d_law_spot : He.DefD := ⟨("_law_spot", none), "_law_spot", "_law_spot", defArgs (top 72), defBody (top 72), defScope (top 72), [], []⟩
def d_law_quiet : He.DefD := ⟨("_law_quiet", none), "_law_quiet", "_law_quiet", defArgs (top 73), defBody (top 73), defScope (top 73), [], []⟩
def d_law_told_right : He.DefD := ⟨("_law_told_right", none), "_law_told_right", "_law_told_right", defArgs (top 74), defBody (top 74), defScope (top 74), [], []⟩
def d_law_changed : He.DefD := ⟨("_law_changed", none), "_law_changed", "_law_changed", defArgs (top 75), defBody (top 75), defScope (top 75), [], []⟩
def d_law_way_done : He.DefD := ⟨("_law_way_done", none), "_law_way_done", "_law_way_done", defArgs (top 76), defBody (top 76), defScope (top 76), [], []⟩
def d_law_deed_right : He.DefD := ⟨("_law_deed_right", none), "_law_deed_right", "_law_deed_right", defArgs (top 77), defBody (top 77), defScope (top 77), [], []⟩
def d_law_undone : He.DefD := ⟨("_law_undone", none), "_law_undone", "_law_undone", defArgs (top 78), defBody (top 78), defScope (top 78), [], []⟩
def d_law_right : He.DefD := ⟨("_law_right", none), "_law_right", "_law_right", defArgs (top 79), defBody (top 79), defScope (top 79), [], []⟩
def d_law : He.DefD := ⟨("law", none), "law", "law", defArgs (top 80), defBody (top 80), defScope (top 80), [], []⟩
def fn : List He.DefD := [d_Doubled_init, d_Doubled_reaches_of, d_lesser, d_more, d_spot_reaches, d_fronts, d_is_whole, d_is_name, d_is_listed, d_is_rising, d_is_folk, d_is_way, d_is_web, d_web_of, d_need_starters, d_need_beat, d_beats_between, d_is_place, d_need_place, d_Cry_init, d_Cry_numbers_at, d_hearings, d_all_fronts, d_within, d_numbers_heard, d_spans_heard, d_spans_of_all, d_tellings, d_tellings_by, d_last_beat, d_need_two, d_with_way, d_without, d_without_way, d_Begun_init, d_Begun_plain, d_Begun_last, d_Begun_beats_at, d_copy_of, d_Night_init, d_Night_need_cry, d_Night_keep, d_Night_begin, d_Night_go_on, d_Night_is_busy, d_Night_add, d_Night_lose, d_Night_back, d_Night_web_now, d_Night_beat_now, d_Night_cries, d_Night_heard_at, d_Night_cries_heard, d_Night_told, d_Night_quiet_cries, d_Night_history, d_Night_eq, d_Night_len, d_law_reel, d_law_draw, d_law_name, d_law_beats, d_law_web, d_law_lot, d_law_spot, d_law_quiet, d_law_told_right, d_law_changed, d_law_way_done, d_law_deed_right, d_law_undone, d_law_right, d_law]
def fa : List He.Fa := [.glo "Doubled", .cls "Doubled", .mkr "Doubled", .meth "Doubled" "__init__", .meth "Doubled" "reaches_of", .glo "lesser", .glo "more", .glo "spot_reaches", .glo "fronts", .glo "is_whole", .glo "is_name", .glo "is_listed", .glo "is_rising", .glo "is_folk", .glo "is_way", .glo "is_web", .glo "web_of", .glo "need_starters", .glo "need_beat", .glo "beats_between", .glo "is_place", .glo "need_place", .glo "Cry", .cls "Cry", .mkr "Cry", .meth "Cry" "__init__", .meth "Cry" "numbers_at", .glo "hearings", .glo "all_fronts", .glo "within", .glo "numbers_heard", .glo "spans_heard", .glo "spans_of_all", .glo "tellings", .glo "tellings_by", .glo "last_beat", .glo "need_two", .glo "with_way", .glo "without", .glo "without_way", .glo "Begun", .cls "Begun", .mkr "Begun", .meth "Begun" "__init__", .meth "Begun" "plain", .meth "Begun" "last", .meth "Begun" "beats_at", .glo "copy_of", .glo "Night", .cls "Night", .mkr "Night", .meth "Night" "__init__", .meth "Night" "need_cry", .meth "Night" "keep", .meth "Night" "begin", .meth "Night" "go_on", .meth "Night" "is_busy", .meth "Night" "add", .meth "Night" "lose", .meth "Night" "back", .meth "Night" "web_now", .meth "Night" "beat_now", .meth "Night" "cries", .meth "Night" "heard_at", .meth "Night" "cries_heard", .meth "Night" "told", .meth "Night" "quiet_cries", .meth "Night" "history", .meth "Night" "__eq__", .meth "Night" "__len__", .glo "_law_reel", .glo "_law_draw", .glo "_law_name", .glo "_law_beats", .glo "_law_web", .glo "_law_lot", .glo "_law_spot", .glo "_law_quiet", .glo "_law_told_right", .glo "_law_changed", .glo "_law_way_done", .glo "_law_deed_right", .glo "_law_undone", .glo "_law_right", .glo "law", .noat "Doubled" "beside", .noat "Cry" "own", .noat "Cry" "begun_by", .noat "Cry" "by_folk", .noat "Begun" "name", .noat "Begun" "since", .noat "Begun" "lot", .noat "Begun" "in_web", .noat "Night" "own", .noat "Night" "at", .noat "Night" "begun_cries", .noat "Night" "past", .noat "Night" "deeds_done", .glo "Busy", .exc "Busy", .exm "Busy" "Busy" true, .keep "Busy", .free "len", .free "range", .free "min", .free "max", .free "sum", .free "sorted", .free "set", .free "list", .free "tuple", .free "isinstance", .free "int", .free "str", .free "bool", .free "all", .free "any", .free "abs", .free "enumerate", .free "zip", .int "MOST_LETTERS" 8, .int "MOST_FOLK" 60, .int "MOST_WAYS" 150, .int "MOST_BEATS" 1000000000000, .int "MOST_GONE" 1000000000000000000000000000000, .str "LETTERS" "abcdefghijklmnopqrstuvwxyz"]
abbrev tf1 : He.Defn := ("Doubled", some "reaches_of")
def exN (K : PySem.W.Frag) : Bool := He.eqO (PySem.W.findIn K (.ref (He.ga K "Night")) "__class__") (some (some (.builtin "object.__class__"))) && (decide (PySem.W.mroIn K (He.ga K "Night") (.type "object") = some true) && He.eqO (PySem.W.findIn K (.ref (He.ga K "Night")) "__ne__") (some (some (.builtin "object.__ne__"))))
end Z
set_option maxRecDepth 100000
set_option maxHeartbeats 0
/-! H1: the head's run. Own work. -/
namespace Z
open PySem PySem.Spec PyProof.Rows L2
def loose0 : List PySem.Str := ["_wall", "Doubled", "lesser", "more", "spot_reaches", "fronts", "CryError", "TooMany", "NoWeb", "NoPlace", "NoStarters", "NoBeat", "NoFolk", "Taken", "NoWay", "NoCry", "Twice", "Busy", "Nothing", "LETTERS", "MOST_LETTERS", "MOST_FOLK", "MOST_WAYS", "MOST_BEATS", "is_whole", "is_name", "is_listed", "is_rising", "is_folk", "is_way"]
def loose1 : List PySem.Str := ["is_web", "web_of", "need_starters", "need_beat", "beats_between", "is_place", "need_place", "spot_or_end", "places_beside", "Cry", "hearings", "all_fronts", "within", "numbers_heard", "spans_heard", "spans_of_all", "tellings", "tellings_by", "last_beat", "need_two", "with_way", "without", "without_way", "MOST_GONE", "Begun", "copy_of", "Night", "_law_reel", "_law_draw", "_law_cell"]
def loose2 : List PySem.Str := ["_law_name", "_law_beats", "_law_web", "_law_lot", "_law_spot", "_law_quiet", "_law_told_right", "_law_changed", "_law_way_done", "_law_deed_right", "_law_undone", "_law_right"]
def loose : List PySem.Str := loose0 ++ loose1 ++ loose2
abbrev RW : PySem.W.OpenRow := PySem.W.OpenLaw.row PySem.Challenge.rw_elsetold_k74_whole_nights_far

/-! forcing -/
def frAs {α : Type} : List Addr → (List Addr → α) → α
  | [], k => k []
  | a :: r, k => HandSHeadRun.frNat a fun a => frAs r fun r => k (a :: r)
theorem frAs_eq {α : Type} : ∀ (l : List Addr) (k : List Addr → α), frAs l k = k l
  | [], k => rfl
  | a :: r, k => by
    show (HandSHeadRun.frNat a fun a => frAs r fun r => k (a :: r)) = _
    rw [HandSHeadRun.frNat_eq, frAs_eq]
def frEs {α : Type} : List DictEntry → (List DictEntry → α) → α
  | [], k => k []
  | e :: r, k => match e with
    | e => frEs r fun r => k (e :: r)
theorem frEs_eq {α : Type} : ∀ (l : List DictEntry) (k : List DictEntry → α), frEs l k = k l
  | [], k => rfl
  | e :: r, k => by
    show (frEs r fun r => k (e :: r)) = _
    rw [frEs_eq]
def frDt {α : Type} (d : Data) (k : Data → α) : α := match d with
  | .dict es ep => frEs es.toList fun l => k (.dict l.toArray ep)
  | d => k d
theorem frDt_eq {α : Type} (d : Data) (k : Data → α) : frDt d k = k d := by
  cases d <;> first | rfl | skip
  show (frEs _ fun l => k (.dict l.toArray _)) = _
  rw [frEs_eq]
def frK {α : Type} : List (Addr × Obj) → (List (Addr × Obj) → α) → α
  | [], k => k []
  | p :: r, k => match p with
    | ⟨a, o⟩ => HandSHeadRun.frNat a fun a => match o with
      | ⟨c, d, dt, sl⟩ => frDt dt fun dt => frK r fun r => k ((a, ⟨c, d, dt, sl⟩) :: r)
theorem frK_eq {α : Type} : ∀ (l : List (Addr × Obj)) (k : List (Addr × Obj) → α), frK l k = k l
  | [], k => rfl
  | ⟨a, ⟨c, d, dt, sl⟩⟩ :: r, k => by
    show (HandSHeadRun.frNat a fun a => frDt dt fun dt => frK r fun r => k ((a, ⟨c, d, dt, sl⟩) :: r)) = _
    rw [HandSHeadRun.frNat_eq, frDt_eq, frK_eq]
/-! the objects that the globals lead to, each one once: a number's bits tell which were met -/
def addQ {α : Type} : List Addr → Nat → List Addr → (Nat → List Addr → α) → α
  | [], m, acc, k => k m acc
  | b :: r, m, acc, k => HandSHeadRun.frNat b fun b => match Nat.beq (Nat.land (Nat.shiftRight m b) 1) 1 with
    | true => addQ r m acc k
    | false => HandSHeadRun.frNat (Nat.lor m (Nat.shiftLeft 1 b)) fun m => addQ r m (b :: acc) k
theorem addQ_eq {α : Type} : ∀ (l : List Addr) (m : Nat) (acc : List Addr) (k : Nat → List Addr → α), addQ l m acc k = k (addQ l m acc Prod.mk).1 (addQ l m acc Prod.mk).2
  | [], _, _, _ => rfl
  | b :: r, m, acc, k => by
    simp only [addQ, HandSHeadRun.frNat_eq]
    cases Nat.beq (Nat.land (Nat.shiftRight m b) 1) 1 with
    | true => exact addQ_eq r m acc k
    | false => exact addQ_eq r _ _ k
def levQ {α : Type} (g : Addr → Option Obj) : List Addr → Nat → List Addr → (Nat → List Addr → α) → α
  | [], m, acc, k => k m acc
  | a :: r, m, acc, k => addQ (match g a with
    | some o => He.refsD o
    | none => []) m acc fun m acc => levQ g r m acc k
theorem levQ_eq {α : Type} (g : Addr → Option Obj) : ∀ (l : List Addr) (m : Nat) (acc : List Addr) (k : Nat → List Addr → α), levQ g l m acc k = k (levQ g l m acc Prod.mk).1 (levQ g l m acc Prod.mk).2
  | [], _, _, _ => rfl
  | a :: r, m, acc, k => by
    unfold levQ
    rw [addQ_eq _ _ _ (fun m acc => levQ g r m acc k), addQ_eq _ _ _ (fun m acc => levQ g r m acc Prod.mk)]
    exact levQ_eq g r _ _ k
def asQ {α : Type} (g : Addr → Option Obj) : Nat → List Addr → Nat → List Addr → (List Addr → α) → α
  | 0, fr, _, all, k => k (fr ++ all)
  | n + 1, fr, m, all, k => levQ g fr m [] fun m new => asQ g n new m (fr ++ all) k
theorem asQ_eq {α : Type} (g : Addr → Option Obj) : ∀ (n : Nat) (fr : List Addr) (m : Nat) (all : List Addr) (k : List Addr → α), asQ g n fr m all k = k (asQ g n fr m all id)
  | 0, _, _, _, _ => rfl
  | n + 1, fr, m, all, k => by
    unfold asQ
    rw [levQ_eq _ _ _ _ (fun m new => asQ g n new m (fr ++ all) k), levQ_eq _ _ _ _ (fun m new => asQ g n new m (fr ++ all) id)]
    exact asQ_eq g n _ _ _ k
def bit0 : Nat := 2 ^ (mainGlobals + 1)
def asH (g : Addr → Option Obj) : List Addr := asQ g 4 [mainGlobals] bit0 [] id
abbrev tf : List He.Defn := [tf1]
def obsQ (g : Addr → Option Obj) (K : PySem.W.Frag) : He.AlX := (He.obsT fa fn [] K, exN K && He.tabsB g tf K)
def obsF (g : Addr → Option Obj) : He.AlX := asQ g 4 [mainGlobals] bit0 [] fun as => frK (He.frT g as) fun K => obsQ g K
def obsS (g : Addr → Option Obj) : He.AlX := obsQ g (He.frT g (asH g))
theorem obsF_eq (g : Addr → Option Obj) : obsF g = obsS g := by
  unfold obsF
  rw [asQ_eq, frK_eq]
  rfl
theorem says_of {w : World} {h : Heap} {as : List Addr} (e : obsQ h.get? (He.frT h.get? as) = He.valX fn [] w) : He.SaysX fa fn [] tf exN w h (He.frT h.get? as) := by
  generalize hK : He.frT h.get? as = K at e
  obtain ⟨e1, e2⟩ := Prod.mk.inj e
  obtain ⟨m1, m2⟩ := He.ba e2
  have each : ∀ p ∈ tf, PySem.W.codeHdIn K (He.cT K p).1 (He.cT K p).2 = true ∧ ∃ o, h.get? (He.cT K p).2 = some o ∧ He.emptyTab o = true := by
    intro p hp
    have b := He.ba (List.all_eq_true.mp m2 p hp)
    refine ⟨b.1, ?_⟩
    have b2 := b.2
    generalize h.get? (He.cT K p).2 = u at b2
    cases u with
    | none => cases b2
    | some o => exact ⟨o, rfl, b2⟩
  constructor
  · exact e1
  · exact m1
  · exact fun p hp => (each p hp).1
  · intro p hp
    obtain ⟨_, o, q, z⟩ := each p hp
    rw [← hK] at q ⊢
    exact He.frT_none q z
  · intro p hp
    obtain ⟨_, o, q, z⟩ := each p hp
    exact q.trans (congrArg some (He.emptyTab_eq z))
def hk : PySem.W.Hook where
  α := He.AlX
  obs := fun s => obsS s.heap.get?
  val := fun w => He.valX fn [] w
  says := fun w h => ∃ K : PySem.W.Frag, K.In h ∧ He.SaysX fa fn [] tf exN w h K
  of := fun _ _ e => ⟨_, He.frT_in, says_of e⟩
  keeps := fun _ _ _ ⟨K, i, c⟩ k => ⟨K, PySem.W.Frag.In.keeps i k, { c with empty := fun p hp => k _ _ (c.empty p hp) }⟩
def ob (s : PySem.W.SharedT) : He.AlX := obsF (HandSHeadRun.getT s)
theorem ob_eq (s : PySem.W.SharedT) : ob s = hk.obs s.abs := (obsF_eq _).trans (congrArg obsS (funext (HandSHeadRun.getT_eq s)))
theorem run (w : World) : HandSHeadRun.RunEq RW (PySem.W.view RW.prog [80]) hk ob 20000 loose w := by
  intro os
  kernel_rfl
end Z
set_option maxRecDepth 100000
set_option maxHeartbeats 4000000
/-! Z0: states by predicates. Own work. -/
namespace Z
open PySem PySem.Spec L2

/-! ### stable knowledge -/
abbrev Pr := V → Hp → Prop
def Sta (P : Pr) (v : V) (G : Hp) : Prop := ∀ G', Same G G' → P v G'
theorem Sta.mono {P : Pr} {v : V} {G G' : Hp} (h : Sta P v G) (s : Same G G') : Sta P v G' := fun G2 s2 => h G2 (s.trans s2)
theorem Sta.here {P : Pr} {v : V} {G : Hp} (h : Sta P v G) : P v G := h G (Same.refl G)
theorem Sta.imp {P P' : Pr} {v : V} {G : Hp} (h : Sta P v G) (f : ∀ G', P v G' → P' v G') : Sta P' v G := fun G2 s2 => f _ (h G2 s2)
abbrev Stas (ps : List Pr) (vs : List V) (G : Hp) : Prop := Paired (fun P v => Sta P v G) ps vs
theorem Stas.mono {ps : List Pr} {vs : List V} {G G' : Hp} (h : Stas ps vs G) (s : Same G G') : Stas ps vs G' := Paired.mapP h fun _ _ q => q.mono s
theorem Stas.get {G : Hp} : ∀ {ps : List Pr} {vs : List V} {i : Nat} {P : Pr}, Stas ps vs G → ps[i]? = some P → ∃ v, vs[i]? = some v ∧ Sta P v G
  | _, _, _, _, .nil, e => by simp at e
  | _, _, 0, _, .cons r _, e => by simp at e; subst e; exact ⟨_, rfl, r⟩
  | _, _, i + 1, P, .cons _ t, e => by
    obtain ⟨u, h1, h2⟩ := Stas.get (i := i) (P := P) t (by simpa using e)
    exact ⟨u, by simpa using h1, h2⟩
theorem Stas.getV {G : Hp} : ∀ {ps : List Pr} {vs : List V} {i : Nat} {v : V}, Stas ps vs G → vs[i]? = some v → ∃ P, ps[i]? = some P ∧ Sta P v G
  | _, _, _, _, .nil, e => by simp at e
  | _, _, 0, _, .cons r _, e => by simp at e; subst e; exact ⟨_, rfl, r⟩
  | _, _, i + 1, v, .cons _ t, e => by
    obtain ⟨u, h1, h2⟩ := Stas.getV (i := i) (v := v) t (by simpa using e)
    exact ⟨u, by simpa using h1, h2⟩
theorem Stas.append {G : Hp} : ∀ {ps qs : List Pr} {vs ws : List V}, Stas ps vs G → Stas qs ws G → Stas (ps ++ qs) (vs ++ ws) G
  | _, _, _, _, .nil, s => s
  | _, _, _, _, .cons r t, s => .cons r (Stas.append t s)

/-! ### what is owned -/
inductive OC where
  | lst (ps : List Pr)
  | ins (C dx : Addr) (fs : List (Str × Pr))
  | dK (kvs : List (Key × Pr))
  | dT (kvs : List (List Key × Pr))
  | tbl (q : Str)
def OC.holds (G : Hp) : OC → HO → Prop
  | .lst ps, o => ∃ xs, o = .lst xs ∧ Stas ps xs G
  | .ins C dx fs, o => ∃ vs, o = .ins C dx vs ∧ Paired (fun (p : Str × Pr) (q : Str × V) => p.1 = q.1 ∧ Sta p.2 q.2 G) fs vs
  | .dK kvs, o => ∃ vs, o = .dK vs ∧ Paired (fun (p : Key × Pr) (q : Key × V) => p.1 = q.1 ∧ Sta p.2 q.2 G) kvs vs
  | .dT kvs, o => ∃ vs, o = .dT vs ∧ Paired (fun (p : List Key × Pr) (q : List Key × V) => p.1 = q.1 ∧ Sta p.2 q.2 G) kvs vs
  | .tbl q, o => ∃ ps, o = .tbl ps ∧ TriplesOk ps.toList ∧ ∀ (pos : Pos) (cv : Value), codeAmong pos ps.toList = some cv → ∃ c, cv = .ref c ∧ G c = some (LamX.CodeO c q)
theorem OC.holds.mono {c : OC} {o : HO} {G G' : Hp} (h : c.holds G o) (s : Same G G') : c.holds G' o := by
  cases c with
  | lst ps => obtain ⟨xs, e, q⟩ := h; exact ⟨xs, e, q.mono s⟩
  | ins C dx fs => obtain ⟨xs, e, q⟩ := h; exact ⟨xs, e, Paired.mapP q fun _ _ z => ⟨z.1, z.2.mono s⟩⟩
  | dK fs => obtain ⟨xs, e, q⟩ := h; exact ⟨xs, e, Paired.mapP q fun _ _ z => ⟨z.1, z.2.mono s⟩⟩
  | dT fs => obtain ⟨xs, e, q⟩ := h; exact ⟨xs, e, Paired.mapP q fun _ _ z => ⟨z.1, z.2.mono s⟩⟩
  | tbl q =>
    obtain ⟨ps, e, t, r⟩ := h
    refine ⟨ps, e, t, fun pos cv z => ?_⟩
    obtain ⟨c, e1, e2⟩ := r pos cv z
    exact ⟨c, e1, s _ _ e2⟩
def isTbl : OC → Bool
  | .tbl _ => true
  | _ => false
theorem OC.holds.noT {c : OC} {o : HO} {G : Hp} (h : c.holds G o) (n : isTbl c = false) : ∀ ps, o ≠ .tbl ps := fun ps e => by
  cases c with
  | tbl q => cases n
  | lst p => obtain ⟨xs, e2, _⟩ := h; rw [e2] at e; cases e
  | ins C dx p => obtain ⟨xs, e2, _⟩ := h; rw [e2] at e; cases e
  | dK p => obtain ⟨xs, e2, _⟩ := h; rw [e2] at e; cases e
  | dT p => obtain ⟨xs, e2, _⟩ := h; rw [e2] at e; cases e
theorem OC.holds.noE {c : OC} {o : HO} {G : Hp} (h : c.holds G o) {b : Addr} {q : Str} : o ≠ LamX.CodeO b q := fun e => by
  unfold LamX.CodeO at e
  cases c with
  | tbl q => obtain ⟨xs, e2, _⟩ := h; rw [e2] at e; cases e
  | lst p => obtain ⟨xs, e2, _⟩ := h; rw [e2] at e; cases e
  | ins C dx p => obtain ⟨xs, e2, _⟩ := h; rw [e2] at e; cases e
  | dK p => obtain ⟨xs, e2, _⟩ := h; rw [e2] at e; cases e
  | dT p => obtain ⟨xs, e2, _⟩ := h; rw [e2] at e; cases e
abbrev OM := Addr → Option OC
def OM.set (M : OM) (a : Addr) (c : OC) : OM := fun b => if b = a then some c else M b
def OM.del (M : OM) (a : Addr) : OM := fun b => if b = a then none else M b
theorem OM.set_same {M : OM} {a : Addr} {c : OC} : M.set a c a = some c := if_pos rfl
theorem OM.set_ne {M : OM} {a b : Addr} {c : OC} (h : b ≠ a) : M.set a c b = M b := if_neg h
theorem OM.del_same {M : OM} {a : Addr} : M.del a a = none := if_pos rfl
theorem OM.del_ne {M : OM} {a b : Addr} (h : b ≠ a) : M.del a b = M b := if_neg h
theorem OM.set_set {M : OM} {a : Addr} {c d : OC} : (M.set a c).set a d = M.set a d := by
  funext b; unfold OM.set; split <;> rfl
theorem OM.del_set {M : OM} {a : Addr} {c : OC} (h : M a = none) : (M.set a c).del a = M := by
  funext b
  show (if b = a then none else if b = a then some c else M b) = M b
  by_cases e : b = a
  · rw [if_pos e, e, h]
  · rw [if_neg e, if_neg e]
theorem OM.set_comm {M : OM} {a b : Addr} {c d : OC} (h : a ≠ b) : (M.set a c).set b d = (M.set b d).set a c := by
  funext x; unfold OM.set
  by_cases e : x = a
  · subst e; simp [h]
  · simp [e]
def noTb : Option HO → Option HO
  | some (.tbl _) => none
  | o => o
def Frz (M : OM) (H : Hp) : Hp := fun b => match M b with
  | none => noTb (H b)
  | some _ => none
theorem noTb_some {o : Option HO} {u : HO} (h : noTb o = some u) : o = some u ∧ ∀ ps, u ≠ .tbl ps := by
  unfold noTb at h
  split at h
  · cases h
  · rename_i z
    exact ⟨h, fun ps e => by subst e; exact z _ h⟩
theorem noTb_of {u : HO} (n : ∀ ps, u ≠ .tbl ps) : noTb (some u) = some u := by
  unfold noTb
  split
  · rename_i z e; cases e; exact absurd rfl (n _)
  · rfl
theorem Frz_nt {M : OM} {H : Hp} {b : Addr} {o : HO} (h : Frz M H b = some o) : ∀ ps, o ≠ .tbl ps := by
  unfold Frz at h
  cases e : M b with
  | none => rw [e] at h; exact (noTb_some h).2
  | some c => rw [e] at h; cases h
theorem Frz_some {M : OM} {H : Hp} {b : Addr} {o : HO} (h : Frz M H b = some o) : M b = none ∧ H b = some o := by
  unfold Frz at h
  cases e : M b with
  | none => rw [e] at h; exact ⟨rfl, (noTb_some h).1⟩
  | some c => rw [e] at h; cases h
theorem Frz_of {M : OM} {H : Hp} {b : Addr} {o : HO} (h1 : M b = none) (h2 : H b = some o) (nt : ∀ ps, o ≠ .tbl ps) : Frz M H b = some o := by
  unfold Frz; rw [h1, h2]; exact noTb_of nt
theorem Frz_le {M : OM} {H : Hp} : Same (Frz M H) H := fun _ _ e => (Frz_some e).2
structure Own (M : OM) (H : Hp) : Prop where
  cell : ∀ a c, M a = some c → ∃ o, H a = some o ∧ c.holds (Frz M H) o
theorem Own.free {M : OM} {H : Hp} (w : Own M H) {p : Addr} (h : H p = none) : M p = none := by
  cases e : M p with
  | none => rfl
  | some c => obtain ⟨o, q, _⟩ := w.cell p c e; rw [h] at q; cases q
structure Stp (M : OM) (H : Hp) (M' : OM) (H' : Hp) : Prop where
  frz : Same (Frz M H) (Frz M' H')
  own : Own M' H'
theorem Stp.refl {M : OM} {H : Hp} (w : Own M H) : Stp M H M H := ⟨Same.refl _, w⟩
theorem Stp.trans {M M1 M2 : OM} {H H1 H2 : Hp} (a : Stp M H M1 H1) (b : Stp M1 H1 M2 H2) : Stp M H M2 H2 := ⟨a.frz.trans b.frz, b.own⟩
/-- a new frozen object -/
theorem Stp.alloc {M : OM} {H : Hp} {p : Addr} (w : Own M H) (h : H p = none) (o : HO) (nt : ∀ ps, o ≠ .tbl ps := by intro _ z; cases z) : Stp M H M (upd H p o) ∧ Frz M (upd H p o) p = some o := by
  have hm := w.free h
  have s : Same (Frz M H) (Frz M (upd H p o)) := fun b u e => by
    obtain ⟨e1, e2⟩ := Frz_some e
    exact Frz_of e1 (by rw [upd_ne (ne_of_none e2 h)]; exact e2) (Frz_nt e)
  refine ⟨⟨s, ⟨fun a c e => ?_⟩⟩, Frz_of hm upd_same nt⟩
  obtain ⟨u, q, r⟩ := w.cell a c e
  exact ⟨u, by rw [upd_ne (ne_of_none q h)]; exact q, r.mono s⟩
/-- a new owned object -/
theorem Stp.allocO {M : OM} {H : Hp} {p : Addr} {o : HO} {c : OC} (w : Own M H) (h : H p = none) (hc : c.holds (Frz M H) o) : Stp M H (M.set p c) (upd H p o) := by
  have hm := w.free h
  have s : Same (Frz M H) (Frz (M.set p c) (upd H p o)) := fun b u e => by
    obtain ⟨e1, e2⟩ := Frz_some e
    have nb : b ≠ p := ne_of_none e2 h
    exact Frz_of (by rw [OM.set_ne nb]; exact e1) (by rw [upd_ne nb]; exact e2) (Frz_nt e)
  refine ⟨s, ⟨fun a d e => ?_⟩⟩
  by_cases e1 : a = p
  · subst e1
    rw [OM.set_same] at e; cases e
    exact ⟨o, upd_same, hc.mono s⟩
  · rw [OM.set_ne e1] at e
    obtain ⟨u, q, r⟩ := w.cell a d e
    exact ⟨u, by rw [upd_ne e1]; exact q, r.mono s⟩
/-- an owned object is written -/
theorem Stp.write {M : OM} {H : Hp} {a : Addr} {o : HO} {c c' : OC} (w : Own M H) (h : M a = some c) (hc : c'.holds (Frz M H) o) : Stp M H (M.set a c') (upd H a o) := by
  have s : Same (Frz M H) (Frz (M.set a c') (upd H a o)) := fun b u e => by
    obtain ⟨e1, e2⟩ := Frz_some e
    have nb : b ≠ a := fun z => by subst z; rw [h] at e1; cases e1
    exact Frz_of (by rw [OM.set_ne nb]; exact e1) (by rw [upd_ne nb]; exact e2) (Frz_nt e)
  refine ⟨s, ⟨fun b d e => ?_⟩⟩
  by_cases e1 : b = a
  · subst e1
    rw [OM.set_same] at e; cases e
    exact ⟨o, upd_same, hc.mono s⟩
  · rw [OM.set_ne e1] at e
    obtain ⟨u, q, r⟩ := w.cell b d e
    exact ⟨u, by rw [upd_ne e1]; exact q, r.mono s⟩
/-- an owned object is let go: it stands for ever -/
theorem Stp.freeze {M : OM} {H : Hp} {a : Addr} {c : OC} (w : Own M H) (h : M a = some c) (nt : isTbl c = false := by rfl) : Stp M H (M.del a) H ∧ ∃ o, Frz (M.del a) H a = some o ∧ c.holds (Frz (M.del a) H) o := by
  have s : Same (Frz M H) (Frz (M.del a) H) := fun b u e => by
    obtain ⟨e1, e2⟩ := Frz_some e
    have nb : b ≠ a := fun z => by subst z; rw [h] at e1; cases e1
    exact Frz_of (by rw [OM.del_ne nb]; exact e1) e2 (Frz_nt e)
  refine ⟨⟨s, ⟨fun b d e => ?_⟩⟩, ?_⟩
  · by_cases e1 : b = a
    · subst e1; rw [OM.del_same] at e; cases e
    · rw [OM.del_ne e1] at e
      obtain ⟨u, q, r⟩ := w.cell b d e
      exact ⟨u, q, r.mono s⟩
  · obtain ⟨u, q, r⟩ := w.cell a c h
    exact ⟨u, Frz_of OM.del_same q (r.noT nt), r.mono s⟩
/-- tables may have grown -/
theorem Stp.tbl {M : OM} {H H' : Hp} {a : Addr} {q : Str} (w : Own M H) (e : LamX.ExtN H H') (h : M a = some (.tbl q)) (u : ∀ b q', M b = some (.tbl q') → b = a ∧ q' = q) (t : LamX.TabS H' a q) : Stp M H M H' := by
  have s : Same (Frz M H) (Frz M H') := fun b o z => by
    obtain ⟨e1, e2⟩ := Frz_some z
    exact Frz_of e1 (e b o e2 (Frz_nt z)) (Frz_nt z)
  refine ⟨s, ⟨fun b d z => ?_⟩⟩
  cases hd : isTbl d with
  | false =>
    obtain ⟨o, e1, e2⟩ := w.cell b d z
    exact ⟨o, e b o e1 (e2.noT hd), e2.mono s⟩
  | true =>
    cases d with
    | tbl q' =>
      obtain ⟨e1, e2⟩ := u b q' z
      subst e1; subst e2
      obtain ⟨ps, h1, h2, h3⟩ := t
      refine ⟨_, h1, ps, rfl, h2, fun pos cv hc => ?_⟩
      obtain ⟨c, e3, e4⟩ := h3 pos cv hc
      refine ⟨c, e3, Frz_of ?_ e4 LamX.codeO_ne⟩
      cases z2 : M c with
      | none => rfl
      | some d2 =>
        obtain ⟨o, f1, f2⟩ := w.cell c d2 z2
        cases hd2 : isTbl d2 with
        | false =>
          rw [e c o f1 (f2.noT hd2)] at e4
          cases e4
          exact absurd rfl f2.noE
        | true =>
          cases d2 with
          | tbl q2 =>
            obtain ⟨e5, _⟩ := u c q2 z2
            subst e5
            rw [h1] at e4
            exact absurd (Option.some.inj e4).symm (LamX.codeO_ne _)
          | lst ps => cases hd2
          | ins C dx fs => cases hd2
          | dK kvs => cases hd2
          | dT kvs => cases hd2
    | lst ps => cases hd
    | ins C dx fs => cases hd
    | dK kvs => cases hd
    | dT kvs => cases hd

/-! ### slots -/
abbrev Gm := List (Option Pr)
structure At (G : Gm) (M : OM) (σ : St) (H : Hp) : Prop where
  own : Own M H
  len : σ.length = G.length
  env : ∀ (i : Nat) (P : Pr), G[i]? = some (some P) → ∃ v, σ[i]? = some (some v) ∧ Sta P v (Frz M H)
theorem At.step {G : Gm} {M M' : OM} {σ : St} {H H' : Hp} (a : At G M σ H) (s : Stp M H M' H') : At G M' σ H' :=
  ⟨s.own, a.len, fun i P e => let ⟨v, e1, e2⟩ := a.env i P e; ⟨v, e1, e2.mono s.frz⟩⟩
theorem At.set {G : Gm} {M : OM} {σ : St} {H : Hp} {P : Pr} {v : V} (a : At G M σ H) (i : Nat) (h : Sta P v (Frz M H)) : At (G.set i (some P)) M (σ.set i (some v)) H := by
  refine ⟨a.own, by rw [List.length_set, List.length_set]; exact a.len, fun j Q e => ?_⟩
  by_cases hj : j = i
  · subst hj
    have hl : j < G.length := by
      obtain ⟨q, _⟩ := List.getElem?_eq_some_iff.mp e
      rwa [List.length_set] at q
    rw [List.getElem?_set_self hl] at e
    cases e
    exact ⟨v, by rw [List.getElem?_set_self (by rw [a.len]; exact hl)], h⟩
  · rw [List.getElem?_set_ne (Ne.symm hj)] at e
    obtain ⟨u, e1, e2⟩ := a.env j Q e
    exact ⟨u, by rw [List.getElem?_set_ne (Ne.symm hj)]; exact e1, e2⟩
/-- forgetting -/
def Wk (G G' : Gm) : Prop := G.length = G'.length ∧ ∀ (i : Nat) (P : Pr), G'[i]? = some (some P) → G[i]? = some (some P)
theorem At.weak {G G' : Gm} {M : OM} {σ : St} {H : Hp} (a : At G M σ H) (w : Wk G G') : At G' M σ H := ⟨a.own, a.len.trans w.1, fun i P e => a.env i P (w.2 i P e)⟩
def wipeG (G : Gm) : List Nat → Gm
  | [] => G
  | v :: vs => (wipeG G vs).set v none
theorem At.wipe {G : Gm} {M : OM} {σ : St} {H : Hp} (a : At G M σ H) : ∀ vs : List Nat, At (wipeG G vs) M (L2.wipe σ vs) H
  | [] => a
  | v :: vs => by
    have b := At.wipe a vs
    refine ⟨b.own, by show ((L2.wipe σ vs).set v none).length = ((wipeG G vs).set v none).length; rw [List.length_set, List.length_set]; exact b.len, fun j Q e => ?_⟩
    have e : ((wipeG G vs).set v none)[j]? = some (some Q) := e
    by_cases hj : j = v
    · subst hj
      have hl : j < (wipeG G vs).length := by
        obtain ⟨q, _⟩ := List.getElem?_eq_some_iff.mp e
        rwa [List.length_set] at q
      rw [List.getElem?_set_self hl] at e
      cases e
    · rw [List.getElem?_set_ne (Ne.symm hj)] at e
      obtain ⟨u, e1, e2⟩ := b.env j Q e
      exact ⟨u, by show ((L2.wipe σ vs).set v none)[j]? = _; rw [List.getElem?_set_ne (Ne.symm hj)]; exact e1, e2⟩

/-! ### judgements -/
def Evl (G : Gm) (M : OM) (t : TE) (P : Pr) (M' : OM) : Prop := ∀ σ H Q, At G M σ H → (∀ v H', Stp M H M' H' → Sta P v (Frz M' H') → Q v H') → t σ H Q
def EvT (G : Gm) (M : OM) (t : TT) (b : Bool) (M' : OM) : Prop := ∀ σ H Q, At G M σ H → (∀ H', Stp M H M' H' → Q b H') → t σ H Q
def EvA (G : Gm) (M : OM) (t : TA) (ps : List Pr) (M' : OM) : Prop := ∀ σ H Q, At G M σ H → (∀ vs H', Stp M H M' H' → Stas ps vs (Frz M' H') → Q vs H') → t σ H Q
/-- a block that ends, one that hands back -/
def Nrm (G : Gm) (M : OM) (t : TS) (G' : Gm) (M' : OM) : Prop := ∀ σ H D, At G M σ H → (∀ σ' H', Stp M H M' H' → At G' M' σ' H' → D.nx σ' H') → t D σ H
def Rtn (G : Gm) (M : OM) (t : TS) (P : Pr) (M' : OM) : Prop := ∀ σ H D, At G M σ H → (∀ v H', Stp M H M' H' → Sta P v (Frz M' H') → D.rt v H') → t D σ H
/-- a target -/
def EvG (G : Gm) (M : OM) (P : Pr) (g : TG) (G' : Gm) (M' : OM) : Prop := ∀ v σ H (Q : St → Hp → Prop), At G M σ H → Sta P v (Frz M H) → (∀ σ' H', Stp M H M' H' → At G' M' σ' H' → Q σ' H') → g v σ H Q

section
variable {G G1 G2 : Gm} {M M1 M2 M3 : OM} {P P1 P2 : Pr}
theorem Evl.imp {t : TE} {P' : Pr} (h : Evl G M t P M1) (f : ∀ v G, P v G → P' v G) : Evl G M t P' M1 := fun σ H Q a k => h σ H Q a fun v H' s q => k v H' s (q.imp fun _ z => f _ _ z)
theorem ev_var {i : Nat} (h : G[i]? = some (some P)) : Evl G M (tVar i) P M := fun σ H Q a k => by
  obtain ⟨v, e1, e2⟩ := a.env i P h
  exact ⟨v, e1, k v H (.refl a.own) e2⟩
theorem ev_c {v : V} (h : ∀ G, P v G) : Evl G M (tC v) P M := fun σ H Q a k => k v H (.refl a.own) fun _ _ => h _
theorem eva_nil : EvA G M tNil [] M := fun σ H Q a k => k [] H (.refl a.own) .nil
theorem eva_cons {t : TE} {u : TA} {ps : List Pr} (h1 : Evl G M t P M1) (h2 : EvA G M1 u ps M2) : EvA G M (tCons t u) (P :: ps) M2 := fun σ H Q a k =>
  h1 σ H _ a fun v H1 s1 q1 => h2 σ H1 _ (a.step s1) fun vs H2 s2 q2 => k (v :: vs) H2 (s1.trans s2) (.cons (q1.mono s2.frz) q2)
/-- two operands by values -/
def OpE (M : OM) (r : V → V → Hp → VK → Prop) (P1 P2 P : Pr) (M' : OM) : Prop := ∀ x y H Q, Own M H → Sta P1 x (Frz M H) → Sta P2 y (Frz M H) → (∀ v H', Stp M H M' H' → Sta P v (Frz M' H') → Q v H') → r x y H Q
theorem ev_op {ta tb : TE} {r : V → V → Hp → VK → Prop} (h1 : Evl G M ta P1 M1) (h2 : Evl G M1 tb P2 M2) (h : OpE M2 r P1 P2 P M3) : Evl G M (tOp r ta tb) P M3 := fun σ H Q a k =>
  h1 σ H _ a fun v H1 s1 q1 => h2 σ H1 _ (a.step s1) fun u H2 s2 q2 => h v u H2 Q s2.own (q1.mono s2.frz) q2 fun w H3 s3 q3 => k w H3 ((s1.trans s2).trans s3) q3
/-- a call of a built-in by values -/
def CbE (M : OM) (r : List V → Hp → VK → Prop) (ps : List Pr) (P : Pr) (M' : OM) : Prop := ∀ vs H Q, Own M H → Stas ps vs (Frz M H) → (∀ v H', Stp M H M' H' → Sta P v (Frz M' H') → Q v H') → r vs H Q
theorem ev_cb {t : TA} {r : List V → Hp → VK → Prop} {ps : List Pr} (h1 : EvA G M t ps M1) (h : CbE M1 r ps P M2) : Evl G M (tCB r t) P M2 := fun σ H Q a k =>
  h1 σ H _ a fun vs H1 s1 q1 => h vs H1 Q s1.own q1 fun w H3 s3 q3 => k w H3 (s1.trans s3) q3
/-! tests -/
theorem evt_not {t : TT} {b : Bool} (h : EvT G M t b M1) : EvT G M (tNot t) (!b) M1 := fun σ H Q a k => h σ H _ a fun H' s => k H' s
theorem evt_and {t u : TT} {b c : Bool} (h : EvT G M t b M1) (h2 : b = true → EvT G M1 u c M2) (h3 : b = false → M1 = M2 ∧ c = false) : EvT G M (tAnd t u) c M2 := fun σ H Q a k => h σ H _ a fun H' s => by
  cases b with
  | true =>
    rw [if_pos rfl]
    exact h2 rfl σ H' Q (a.step s) fun H2 s2 => k H2 (s.trans s2)
  | false =>
    obtain ⟨e1, e2⟩ := h3 rfl
    subst e1; subst e2
    rw [if_neg Bool.false_ne_true]
    exact k H' s
theorem evt_or {t u : TT} {b c : Bool} (h : EvT G M t b M1) (h2 : b = false → EvT G M1 u c M2) (h3 : b = true → M1 = M2 ∧ c = true) : EvT G M (tOr t u) c M2 := fun σ H Q a k => h σ H _ a fun H' s => by
  cases b with
  | false =>
    rw [if_neg Bool.false_ne_true]
    exact h2 rfl σ H' Q (a.step s) fun H2 s2 => k H2 (s.trans s2)
  | true =>
    obtain ⟨e1, e2⟩ := h3 rfl
    subst e1; subst e2
    rw [if_pos rfl]
    exact k H' s
theorem evt_and' {t u : TT} {b c : Bool} (h : EvT G M t b M) (h2 : EvT G M u c M) : EvT G M (tAnd t u) (b && c) M :=
  evt_and h (fun e => by subst e; exact h2) fun e => ⟨rfl, by subst e; rfl⟩
theorem evt_or' {t u : TT} {b c : Bool} (h : EvT G M t b M) (h2 : EvT G M u c M) : EvT G M (tOr t u) (b || c) M :=
  evt_or h (fun e => by subst e; exact h2) fun e => ⟨rfl, by subst e; rfl⟩
theorem ev_if {t : TT} {ta tb : TE} {b : Bool} (h : EvT G M t b M1) (h1 : b = true → Evl G M1 ta P M2) (h2 : b = false → Evl G M1 tb P M2) : Evl G M (tIf t ta tb) P M2 := fun σ H Q a k => h σ H _ a fun H' s => by
  cases b with
  | true => rw [if_pos rfl]; exact h1 rfl σ H' Q (a.step s) fun v H2 s2 q => k v H2 (s.trans s2) q
  | false => rw [if_neg Bool.false_ne_true]; exact h2 rfl σ H' Q (a.step s) fun v H2 s2 q => k v H2 (s.trans s2) q
/-! statements -/
theorem nrm_next : Nrm G M tNext G M := fun σ H D a k => k σ H (.refl a.own) a
theorem nrm_seq {t u : TS} (h1 : Nrm G M t G1 M1) (h2 : Nrm G1 M1 u G2 M2) : Nrm G M (tSeq t u) G2 M2 := fun σ H D a k =>
  h1 σ H _ a fun σ1 H1 s1 a1 => h2 σ1 H1 D a1 fun σ2 H2 s2 a2 => k σ2 H2 (s1.trans s2) a2
theorem rtn_seq {t u : TS} (h1 : Nrm G M t G1 M1) (h2 : Rtn G1 M1 u P M2) : Rtn G M (tSeq t u) P M2 := fun σ H D a k =>
  h1 σ H _ a fun σ1 H1 s1 a1 => h2 σ1 H1 D a1 fun v H2 s2 q => k v H2 (s1.trans s2) q
theorem rtn_seqR {t u : TS} (h1 : Rtn G M t P M1) : Rtn G M (tSeq t u) P M1 := fun σ H D a k => h1 σ H _ a k
theorem rtn_ret {te : TE} (h : Evl G M te P M1) : Rtn G M (tRet te) P M1 := fun σ H D a k => h σ H _ a k
theorem nrm_set {te : TE} {i : Nat} (h : Evl G M te P M1) : Nrm G M (tAsg te (gName i)) (G.set i (some P)) M1 := fun σ H D a k =>
  h σ H _ a fun v H1 s q => k _ H1 s ((a.step s).set i q)
theorem nrm_asg {te : TE} {g : TG} (h : Evl G M te P M1) (h2 : EvG G M1 P g G2 M2) : Nrm G M (tAsg te g) G2 M2 := fun σ H D a k =>
  h σ H _ a fun v H1 s q => h2 v σ H1 _ (a.step s) q fun σ2 H2 s2 a2 => k σ2 H2 (s.trans s2) a2
theorem nrm_drop {te : TE} (h : Evl G M te P M1) : Nrm G M (tDrop te) G M1 := fun σ H D a k =>
  h σ H _ a fun v H1 s q => k _ H1 s (a.step s)
theorem nrm_if {c : TT} {t u : TS} {b : Bool} (h : EvT G M c b M1) (h1 : b = true → Nrm G M1 t G2 M2) (h2 : b = false → Nrm G M1 u G2 M2) : Nrm G M (tIfS c t u) G2 M2 := fun σ H D a k => h σ H _ a fun H' s => by
  cases b with
  | true => rw [if_pos rfl]; exact h1 rfl σ H' D (a.step s) fun σ2 H2 s2 q => k σ2 H2 (s.trans s2) q
  | false => rw [if_neg Bool.false_ne_true]; exact h2 rfl σ H' D (a.step s) fun σ2 H2 s2 q => k σ2 H2 (s.trans s2) q
theorem rtn_if {c : TT} {t u : TS} {b : Bool} (h : EvT G M c b M1) (h1 : b = true → Rtn G M1 t P M2) (h2 : b = false → Rtn G M1 u P M2) : Rtn G M (tIfS c t u) P M2 := fun σ H D a k => h σ H _ a fun H' s => by
  cases b with
  | true => rw [if_pos rfl]; exact h1 rfl σ H' D (a.step s) fun σ2 H2 s2 q => k σ2 H2 (s.trans s2) q
  | false => rw [if_neg Bool.false_ne_true]; exact h2 rfl σ H' D (a.step s) fun σ2 H2 s2 q => k σ2 H2 (s.trans s2) q
theorem Nrm.weak {t : TS} (h : Nrm G M t G1 M1) (w : Wk G1 G2) : Nrm G M t G2 M1 := fun σ H D a k => h σ H D a fun σ' H' s a' => k σ' H' s (a'.weak w)
/-! targets -/
theorem evg_name {i : Nat} : EvG G M P (gName i) (G.set i (some P)) M := fun v σ H Q a q k => k _ H (.refl a.own) (a.set i q)
def EvGs (G : Gm) (M : OM) (ps : List Pr) (g : TGs) (G' : Gm) (M' : OM) : Prop := ∀ vs σ H (Q : St → Hp → Prop), At G M σ H → Stas ps vs (Frz M H) → (∀ σ' H', Stp M H M' H' → At G' M' σ' H' → Q σ' H') → g vs σ H Q
theorem evgs_nil : EvGs G M [] gNil G M := fun vs σ H Q a q k => by
  cases q
  exact ⟨rfl, k σ H (.refl a.own) a⟩
theorem evgs_cons {g : TG} {u : TGs} {ps : List Pr} (h1 : EvG G M P g G1 M1) (h2 : EvGs G1 M1 ps u G2 M2) : EvGs G M (P :: ps) (gCons g u) G2 M2 := fun vs σ H Q a q k => by
  cases q with
  | cons r rr => exact ⟨_, _, rfl, h1 _ σ H _ a r fun σ1 H1 s1 a1 => h2 _ σ1 H1 Q a1 (Stas.mono rr s1.frz) fun σ2 H2 s2 a2 => k σ2 H2 (s1.trans s2) a2⟩
end
end Z
set_option maxRecDepth 100000
set_option maxHeartbeats 4000000
/-! Z1: data, operators, displays, calls. Own work. -/
namespace Z
open PySem PySem.Spec L2

section
variable {K : PySem.W.Frag}
mutual
theorem dp_mono {G G' : Hp} (s : Same G G') : ∀ (d : PyData) (v : V), Dp K G v d → Dp K G' v d
  | .none, _, h => by cases h; exact .non
  | .bool b, _, h => by cases h; exact .bl b
  | .int i, _, h => by cases h; exact .int i
  | .str x, _, h => by cases h; exact .str x
  | .list ds, _, h => by
    cases h with
    | lst q r => exact .lst (s.seq q) (dpAll_mono s ds _ r)
  | .tuple ds, _, h => by
    cases h with
    | tup q r =>
      refine .tup ?_ (dpAll_mono s ds _ r)
      rcases q with (h | ⟨o, h⟩) | h
      · exact .inl (.inl (s _ _ h))
      · exact .inl (.inr ⟨o, s _ _ h⟩)
      · exact .inr h
  | .dict _, _, h => by cases h
theorem dpAll_mono {G G' : Hp} (s : Same G G') : ∀ (ds : List PyData) (vs : List V), DpAll K G vs ds → DpAll K G' vs ds
  | [], _, h => by cases h; exact .nil
  | d :: ds, _, h => by
    cases h with
    | cons a b => exact .cons (dp_mono s d _ a) (dpAll_mono s ds _ b)
end
theorem seqT_mono {G G' : Hp} (s : Same G G') {a : Addr} {xs : List V} (q : SqT K G a xs) : SqT K G' a xs := by
  rcases q with (h | ⟨o, h⟩) | h
  · exact .inl (.inl (s _ _ h))
  · exact .inl (.inr ⟨o, s _ _ h⟩)
  · exact .inr h

/-! ### what a value is -/
def Dd (K : PySem.W.Frag) (d : PyData) : Pr := fun v G => Dp K G v d
def Ls (K : PySem.W.Frag) (ps : List Pr) : Pr := fun v G => ∃ a xs, v = .ref a ∧ SqL K G a xs ∧ Stas ps xs G
def Tp (K : PySem.W.Frag) (ps : List Pr) : Pr := fun v G => ∃ a xs, v = .ref a ∧ SqT K G a xs ∧ Stas ps xs G
def Rf (a : Addr) : Pr := fun v _ => v = .ref a
def Eqv (x : V) : Pr := fun v _ => v = x
def InsP (C : Addr) (fs : List (Str × Pr)) : Pr := fun v G => ∃ a dx vs, v = .ref a ∧ G a = some (.ins C dx vs) ∧ Paired (fun (p : Str × Pr) (q : Str × V) => p.1 = q.1 ∧ Sta p.2 q.2 G) fs vs
def Any : Pr := fun _ _ => True
theorem dd {d : PyData} {v : V} {G : Hp} (h : Dp K G v d) : Sta (Dd K d) v G := fun _ s => dp_mono s d v h
theorem ls_of {ps : List Pr} {G : Hp} {a : Addr} {xs : List V} (q : SqL K G a xs) (r : Stas ps xs G) : Sta (Ls K ps) (.ref a) G := fun _ s => ⟨a, xs, rfl, s.seq q, r.mono s⟩
theorem tp_of {ps : List Pr} {G : Hp} {a : Addr} {xs : List V} (q : SqT K G a xs) (r : Stas ps xs G) : Sta (Tp K ps) (.ref a) G := fun _ s => ⟨a, xs, rfl, seqT_mono s q, r.mono s⟩
theorem rf {a : Addr} {G : Hp} : Sta (Rf a) (.ref a) G := fun _ _ => rfl
theorem ins_of {C a dx : Addr} {fs : List (Str × Pr)} {vs : List (Str × V)} {G : Hp} (h : G a = some (.ins C dx vs)) (r : Paired (fun (p : Str × Pr) (q : Str × V) => p.1 = q.1 ∧ Sta p.2 q.2 G) fs vs) : Sta (InsP C fs) (.ref a) G :=
  fun _ s => ⟨a, dx, vs, rfl, s _ _ h, Paired.mapP r fun _ _ z => ⟨z.1, z.2.mono s⟩⟩
theorem dpAll_of {G : Hp} : ∀ {ds : List PyData} {vs : List V}, Stas (ds.map (Dd K)) vs G → DpAll K G vs ds
  | [], _, h => by cases h; exact .nil
  | d :: ds, _, h => by
    cases h with
    | cons a b => exact .cons a.here (dpAll_of b)
theorem stas_of {G : Hp} : ∀ {ds : List PyData} {vs : List V}, DpAll K G vs ds → Stas (ds.map (Dd K)) vs G
  | [], _, h => by cases h; exact .nil
  | d :: ds, _, h => by
    cases h with
    | cons a b => exact .cons (dd a) (stas_of b)
theorem ls_dd {ds : List PyData} {v : V} {G : Hp} (h : Sta (Dd K (.list ds)) v G) : Sta (Ls K (ds.map (Dd K))) v G := fun G' s => by
  cases h G' s with
  | lst q r => exact ⟨_, _, rfl, q, stas_of r⟩
theorem dd_ls {ds : List PyData} {v : V} {G : Hp} (h : Sta (Ls K (ds.map (Dd K))) v G) : Sta (Dd K (.list ds)) v G := fun G' s => by
  obtain ⟨a, xs, rfl, q, r⟩ := h G' s
  exact .lst q (dpAll_of r)
theorem tp_dd {ds : List PyData} {v : V} {G : Hp} (h : Sta (Dd K (.tuple ds)) v G) : Sta (Tp K (ds.map (Dd K))) v G := fun G' s => by
  cases h G' s with
  | tup q r => exact ⟨_, _, rfl, q, stas_of r⟩
theorem dd_tp {ds : List PyData} {v : V} {G : Hp} (h : Sta (Tp K (ds.map (Dd K))) v G) : Sta (Dd K (.tuple ds)) v G := fun G' s => by
  obtain ⟨a, xs, rfl, q, r⟩ := h G' s
  exact .tup q (dpAll_of r)
theorem dd_int {i : Int} {v : V} {G : Hp} (h : Sta (Dd K (.int i)) v G) : v = .int i := by cases h.here; rfl
theorem dd_str {i : Str} {v : V} {G : Hp} (h : Sta (Dd K (.str i)) v G) : v = .str i := by cases h.here; rfl
theorem dd_bl {i : Bool} {v : V} {G : Hp} (h : Sta (Dd K (.bool i)) v G) : v = .bl i := by cases h.here; rfl
theorem dd_non {v : V} {G : Hp} (h : Sta (Dd K .none) v G) : v = .non := by cases h.here; rfl
theorem dd_lst {ds : List PyData} {v : V} {G : Hp} (h : Sta (Dd K (.list ds)) v G) : ∃ a xs, v = .ref a ∧ SqL K G a xs ∧ Stas (ds.map (Dd K)) xs G := (ls_dd h).here
theorem dd_tup {ds : List PyData} {v : V} {G : Hp} (h : Sta (Dd K (.tuple ds)) v G) : ∃ a xs, v = .ref a ∧ SqT K G a xs ∧ Stas (ds.map (Dd K)) xs G := (tp_dd h).here
theorem Stas.len {ps : List Pr} {vs : List V} {G : Hp} (h : Stas ps vs G) : ps.length = vs.length := Paired.length h

variable {G G1 G2 : Gm} {M M1 M2 M3 : OM} {P P1 P2 : Pr}
/-! ### constants -/
theorem ev_int {i : Int} : Evl G M (tC (.int i)) (Dd K (.int i)) M := ev_c fun _ => .int i
theorem ev_str {i : Str} : Evl G M (tC (.str i)) (Dd K (.str i)) M := ev_c fun _ => .str i
theorem ev_bl {i : Bool} : Evl G M (tC (.bl i)) (Dd K (.bool i)) M := ev_c fun _ => .bl i
theorem ev_non : Evl G M (tC .non) (Dd K .none) M := ev_c fun _ => .non
theorem ev_val {v : V} : Evl G M (tC v) (Eqv v) M := ev_c fun _ => rfl

/-! ### operators -/
theorem ope_I {g : Int → Int → Int} {i j : Int} : OpE M (rI0 fun i j => V.int (g i j)) (Dd K (.int i)) (Dd K (.int j)) (Dd K (.int (g i j))) M := fun x y H Q w h1 h2 k =>
  ⟨i, j, dd_int h1, dd_int h2, k _ H (.refl w) (dd (.int _))⟩
theorem ope_B {g : Int → Int → Bool} {i j : Int} : OpE M (rI0 fun i j => V.bl (g i j)) (Dd K (.int i)) (Dd K (.int j)) (Dd K (.bool (g i j))) M := fun x y H Q w h1 h2 k =>
  ⟨i, j, dd_int h1, dd_int h2, k _ H (.refl w) (dd (.bl _))⟩
theorem ope_IC {C : Int → Int → Prop} {g : Int → Int → Int} {i j : Int} (c : C i j) : OpE M (rI C fun i j => V.int (g i j)) (Dd K (.int i)) (Dd K (.int j)) (Dd K (.int (g i j))) M := fun x y H Q w h1 h2 k =>
  ⟨i, j, dd_int h1, dd_int h2, c, k _ H (.refl w) (dd (.int _))⟩
theorem ope_cat {x y : Str} (h : x.length + y.length ≤ sizeLine) : OpE M (fun x y H Q => ∃ i j, x = .str i ∧ y = .str j ∧ i.length + j.length ≤ sizeLine ∧ Q (.str (i ++ j)) H) (Dd K (.str x)) (Dd K (.str y)) (Dd K (.str (x ++ y))) M := fun u v H Q w h1 h2 k =>
  ⟨x, y, dd_str h1, dd_str h2, h, k _ H (.refl w) (dd (.str _))⟩
/-- equality: flat values, data -/
abbrev rEqA (K : PySem.W.Frag) : R2 := fun x y H Q => rEq x y H Q ∨ rEqD K x y H Q
abbrev rNeA (K : PySem.W.Frag) : R2 := fun x y H Q => rNe x y H Q ∨ rNeD K x y H Q
theorem op_eqA {X : Cx} (hu : X.A.units + 64 < cLine) : OpR X (compareOp .Eq) (rEqA X.K) := OpR.or op_eq (op_eqD hu)
theorem op_neA {X : Cx} (hu : X.A.units + 64 < cLine) : OpR X (compareOp .NotEq) (rNeA X.K) := OpR.or op_ne (op_neD hu)
theorem ope_eqI {i j : Int} : OpE M (rEqA K) (Dd K (.int i)) (Dd K (.int j)) (Dd K (.bool (decide (i = j)))) M := fun x y H Q w h1 h2 k => by
  refine .inl ⟨by rw [dd_int h1, dd_int h2]; rfl, ?_⟩
  have e : decide (x = y) = decide (i = j) := by rw [dd_int h1, dd_int h2]; simp
  rw [e]
  exact k _ H (.refl w) (dd (.bl _))
theorem ope_neI {i j : Int} : OpE M (rNeA K) (Dd K (.int i)) (Dd K (.int j)) (Dd K (.bool (!decide (i = j)))) M := fun x y H Q w h1 h2 k => by
  refine .inl ⟨by rw [dd_int h1, dd_int h2]; rfl, ?_⟩
  have e : decide (x = y) = decide (i = j) := by rw [dd_int h1, dd_int h2]; simp
  rw [e]
  exact k _ H (.refl w) (dd (.bl _))
theorem ope_eqS {i j : Str} : OpE M (rEqA K) (Dd K (.str i)) (Dd K (.str j)) (Dd K (.bool (decide (i = j)))) M := fun x y H Q w h1 h2 k => by
  refine .inl ⟨by rw [dd_str h1, dd_str h2]; rfl, ?_⟩
  have e : decide (x = y) = decide (i = j) := by rw [dd_str h1, dd_str h2]; simp
  rw [e]
  exact k _ H (.refl w) (dd (.bl _))
theorem ope_neS {i j : Str} : OpE M (rNeA K) (Dd K (.str i)) (Dd K (.str j)) (Dd K (.bool (!decide (i = j)))) M := fun x y H Q w h1 h2 k => by
  refine .inl ⟨by rw [dd_str h1, dd_str h2]; rfl, ?_⟩
  have e : decide (x = y) = decide (i = j) := by rw [dd_str h1, dd_str h2]; simp
  rw [e]
  exact k _ H (.refl w) (dd (.bl _))
theorem ope_eqD {d e : PyData} (hd : SeqAt.shaped d = true) (he : SeqAt.shaped e = true) : OpE M (rEqA K) (Dd K d) (Dd K e) (Dd K (.bool (PyData.eqv d e))) M := fun x y H Q w h1 h2 k =>
  .inr ⟨d, e, dp_mono Frz_le _ _ h1.here, dp_mono Frz_le _ _ h2.here, hd, he, k _ H (.refl w) (dd (.bl _))⟩
theorem ope_neD {d e : PyData} (hd : SeqAt.shaped d = true) (he : SeqAt.shaped e = true) : OpE M (rNeA K) (Dd K d) (Dd K e) (Dd K (.bool (!PyData.eqv d e))) M := fun x y H Q w h1 h2 k =>
  .inr ⟨d, e, dp_mono Frz_le _ _ h1.here, dp_mono Frz_le _ _ h2.here, hd, he, k _ H (.refl w) (dd (.bl _))⟩
def isNon : PyData → Bool
  | .none => true
  | _ => false
theorem dd_isNon {d : PyData} {v : V} {G : Hp} (h : Sta (Dd K d) v G) : decide (v = .non) = isNon d := by
  have q := h.here
  cases q <;> rfl
theorem ope_isN {d : PyData} : OpE M (fun x y H Q => y = .non ∧ Q (.bl (decide (x = .non))) H) (Dd K d) (Dd K .none) (Dd K (.bool (isNon d))) M := fun x y H Q w h1 h2 k =>
  ⟨dd_non h2, by rw [dd_isNon h1]; exact k _ H (.refl w) (dd (.bl _))⟩
theorem ope_notN {d : PyData} : OpE M (fun x y H Q => y = .non ∧ Q (.bl (!decide (x = .non))) H) (Dd K d) (Dd K .none) (Dd K (.bool (!isNon d))) M := fun x y H Q w h1 h2 k =>
  ⟨dd_non h2, by rw [dd_isNon h1]; exact k _ H (.refl w) (dd (.bl _))⟩
theorem ope_ltS {i j : Str} : OpE M (fun x y H Q => ∃ i j, x = .str i ∧ y = .str j ∧ Q (.bl (decide (i.cps.toList < j.cps.toList))) H) (Dd K (.str i)) (Dd K (.str j)) (Dd K (.bool (decide (i.cps.toList < j.cps.toList)))) M := fun x y H Q w h1 h2 k =>
  ⟨i, j, dd_str h1, dd_str h2, k _ H (.refl w) (dd (.bl _))⟩
/-- a test -/
theorem evt_test {t : TE} {b : Bool} (h : Evl G M t (Dd K (.bool b)) M1) : EvT G M (tTest t) b M1 := fun σ H Q a k => h σ H _ a fun v H' s q => ⟨b, dd_bl q, k H' s⟩
theorem evt_B {t : TE} {b : Bool} (h : Evl G M t (Dd K (.bool b)) M1) : EvT G M (tB t) b M1 := fun σ H Q a k => h σ H _ a fun v H' s q => ⟨b, dd_bl q, k H' s⟩
theorem ev_not {t : TE} {b : Bool} (h : Evl G M t (Dd K (.bool b)) M1) : Evl G M (tNotV t) (Dd K (.bool (!b))) M1 := fun σ H Q a k => h σ H _ a fun v H' s q => ⟨b, dd_bl q, k _ H' s (dd (.bl _))⟩
theorem ev_and {t u : TE} {b c : Bool} (h : Evl G M t (Dd K (.bool b)) M1) (h2 : b = true → Evl G M1 u (Dd K (.bool c)) M2) (h3 : b = false → M1 = M2 ∧ c = false) : Evl G M (tAndV t u) (Dd K (.bool c)) M2 := fun σ H Q a k => h σ H _ a fun v H' s q => ⟨b, dd_bl q, by
  cases b with
  | true => rw [if_pos rfl]; exact h2 rfl σ H' Q (a.step s) fun v2 H2 s2 q2 => k v2 H2 (s.trans s2) q2
  | false =>
    obtain ⟨e1, e2⟩ := h3 rfl
    subst e1; subst e2
    rw [if_neg Bool.false_ne_true]
    exact k _ H' s (dd (.bl _))⟩
theorem ev_or {t u : TE} {b c : Bool} (h : Evl G M t (Dd K (.bool b)) M1) (h2 : b = false → Evl G M1 u (Dd K (.bool c)) M2) (h3 : b = true → M1 = M2 ∧ c = true) : Evl G M (tOrV t u) (Dd K (.bool c)) M2 := fun σ H Q a k => h σ H _ a fun v H' s q => ⟨b, dd_bl q, by
  cases b with
  | false => rw [if_neg Bool.false_ne_true]; exact h2 rfl σ H' Q (a.step s) fun v2 H2 s2 q2 => k v2 H2 (s.trans s2) q2
  | true =>
    obtain ⟨e1, e2⟩ := h3 rfl
    subst e1; subst e2
    rw [if_pos rfl]
    exact k _ H' s (dd (.bl _))⟩
theorem ev_and' {t u : TE} {b c : Bool} (h : Evl G M t (Dd K (.bool b)) M) (h2 : Evl G M u (Dd K (.bool c)) M) : Evl G M (tAndV t u) (Dd K (.bool (b && c))) M :=
  ev_and h (fun e => by subst e; exact h2) fun e => ⟨rfl, by subst e; rfl⟩
theorem ev_or' {t u : TE} {b c : Bool} (h : Evl G M t (Dd K (.bool b)) M) (h2 : Evl G M u (Dd K (.bool c)) M) : Evl G M (tOrV t u) (Dd K (.bool (b || c))) M :=
  ev_or h (fun e => by subst e; exact h2) fun e => ⟨rfl, by subst e; rfl⟩
/-- a < b < c by values -/
theorem ev_chain {r r' : R2} {ta tb tc : TE} {P3 : Pr} {b c : Bool} (h1 : Evl G M ta P1 M) (h2 : Evl G M tb P2 M) (h3 : OpE M r P1 P2 (Dd K (.bool b)) M) (h4 : Evl G M tc P3 M) (h5 : OpE M r' P2 P3 (Dd K (.bool c)) M) : Evl G M (tChain r r' ta tb tc) (Dd K (.bool (b && c))) M := fun σ H Q a k =>
  h1 σ H _ a fun x H1 s1 q1 => h2 σ H1 _ (a.step s1) fun y H2 s2 q2 => h3 x y H2 _ s2.own (q1.mono s2.frz) q2 fun z H3 s3 q3 => ⟨b, dd_bl q3, by
    have s := (s1.trans s2).trans s3
    cases b with
    | true =>
      rw [if_pos rfl]
      exact h4 σ H3 _ (a.step s) fun w H4 s4 q4 => h5 y w H4 Q s4.own ((q2.mono s3.frz).mono s4.frz) q4 fun u H5 s5 q5 => k u H5 ((s.trans s4).trans s5) q5
    | false =>
      rw [if_neg Bool.false_ne_true]
      exact k _ H3 s (dd (.bl _))⟩

/-! ### displays -/
def EvAD (K : PySem.W.Frag) (G : Gm) (M : OM) (t : TA) (ds : List PyData) (M' : OM) : Prop := EvA G M t (ds.map (Dd K)) M'
theorem evad_nil : EvAD K G M tNil [] M := eva_nil
theorem evad_cons {t : TE} {u : TA} {d : PyData} {ds : List PyData} (h1 : Evl G M t (Dd K d) M1) (h2 : EvAD K G M1 u ds M2) : EvAD K G M (tCons t u) (d :: ds) M2 := eva_cons h1 h2
theorem ev_tup {t : TA} {ps : List Pr} (h : EvA G M t ps M1) (hl : ps.length ≤ sizeLine) : Evl G M (tTup t) (Tp K ps) M1 := fun σ H Q a k => h σ H _ a fun vs H' s q =>
  ⟨by rw [← q.len]; exact hl, fun p hp => by
    obtain ⟨s2, e⟩ := Stp.alloc s.own hp (.tup vs)
    exact k _ _ (s.trans s2) (tp_of (.of e) (q.mono s2.frz))⟩
theorem ev_lst {t : TA} {ps : List Pr} (h : EvA G M t ps M1) (hl : ps.length ≤ sizeLine) : Evl G M (tLst t) (Ls K ps) M1 := fun σ H Q a k => h σ H _ a fun vs H' s q =>
  ⟨by rw [← q.len]; exact hl, fun p hp => by
    obtain ⟨s2, e⟩ := Stp.alloc s.own hp (.lst vs)
    exact k _ _ (s.trans s2) (ls_of (.of e) (q.mono s2.frz))⟩
theorem ev_tupD {t : TA} {ds : List PyData} (h : EvAD K G M t ds M1) (hl : ds.length ≤ sizeLine := by simp only [List.length_cons, List.length_nil]; decide) : Evl G M (tTup t) (Dd K (.tuple ds)) M1 := fun σ H Q a k =>
  ev_tup (K := K) h (by rw [List.length_map]; exact hl) σ H Q a fun v H' s q => k v H' s (dd_tp q)
theorem ev_lstD {t : TA} {ds : List PyData} (h : EvAD K G M t ds M1) (hl : ds.length ≤ sizeLine := by simp only [List.length_cons, List.length_nil]; decide) : Evl G M (tLst t) (Dd K (.list ds)) M1 := fun σ H Q a k =>
  ev_lst (K := K) h (by rw [List.length_map]; exact hl) σ H Q a fun v H' s q => k v H' s (dd_ls q)
theorem ls_imp {ds : List PyData} {t : TE} (h : Evl G M t (Ls K (ds.map (Dd K))) M1) : Evl G M t (Dd K (.list ds)) M1 := fun σ H Q a k => h σ H Q a fun v H' s q => k v H' s (dd_ls q)
theorem ls_exp {ds : List PyData} {t : TE} (h : Evl G M t (Dd K (.list ds)) M1) : Evl G M t (Ls K (ds.map (Dd K))) M1 := fun σ H Q a k => h σ H Q a fun v H' s q => k v H' s (ls_dd q)

/-! ### subscripts -/
theorem atI_map {α β : Type} {f : α → β} {xs : List α} {i : Int} : atI (xs.map f) i = (atI xs i).map f := by
  unfold atI
  rw [List.length_map]
  cases ixN xs.length i with
  | none => rfl
  | some j => simp [Option.bind]
theorem stas_atI {G : Hp} {ps : List Pr} {vs : List V} {i : Int} {P : Pr} (h : Stas ps vs G) (e : atI ps i = some P) : ∃ v, atI vs i = some v ∧ Sta P v G := by
  unfold atI at e ⊢
  rw [← h.len]
  cases q : ixN ps.length i with
  | none => rw [q] at e; cases e
  | some j =>
    rw [q] at e
    obtain ⟨v, e1, e2⟩ := h.get (i := j) (P := P) e
    exact ⟨v, e1, e2⟩
theorem ope_ixL {ps : List Pr} {i : Int} (e : atI ps i = some P) : OpE M (rIx K) (Ls K ps) (Dd K (.int i)) P M := fun x y H Q w h1 h2 k => by
  obtain ⟨a, xs, rfl, q, r⟩ := h1.here
  obtain ⟨v, e1, e2⟩ := stas_atI r e
  exact .inl ⟨a, xs, i, v, rfl, dd_int h2, Frz_le.seq q, e1, k v H (.refl w) e2⟩
theorem ope_ixT {ps : List Pr} {i : Int} (e : atI ps i = some P) : OpE M (rIx K) (Tp K ps) (Dd K (.int i)) P M := fun x y H Q w h1 h2 k => by
  obtain ⟨a, xs, rfl, q, r⟩ := h1.here
  obtain ⟨v, e1, e2⟩ := stas_atI r e
  exact .inr (.inl ⟨a, xs, i, v, rfl, dd_int h2, seqT_mono Frz_le q, e1, k v H (.refl w) e2⟩)
theorem ope_ixLD {ds : List PyData} {i : Int} {d : PyData} (e : atI ds i = some d) : OpE M (rIx K) (Dd K (.list ds)) (Dd K (.int i)) (Dd K d) M := fun x y H Q w h1 h2 k =>
  ope_ixL (ps := ds.map (Dd K)) (by rw [atI_map, e]; rfl) x y H Q w (ls_dd h1) h2 k
theorem ope_ixTD {ds : List PyData} {i : Int} {d : PyData} (e : atI ds i = some d) : OpE M (rIx K) (Dd K (.tuple ds)) (Dd K (.int i)) (Dd K d) M := fun x y H Q w h1 h2 k =>
  ope_ixT (ps := ds.map (Dd K)) (by rw [atI_map, e]; rfl) x y H Q w (tp_dd h1) h2 k
theorem ope_ixS {z : Str} {i : Int} {c : Nat} (hl : z.length ≤ sizeLine) (e : atI z.cps.toList i = some c) : OpE M (rIx K) (Dd K (.str z)) (Dd K (.int i)) (Dd K (.str ⟨#[c]⟩)) M := fun x y H Q w h1 h2 k =>
  .inr (.inr ⟨z, i, c, dd_str h1, dd_int h2, hl, e, k _ H (.refl w) (dd (.str _))⟩)
/-- an owned list -/
theorem ope_ixO {p : Addr} {ps : List Pr} {i : Int} (hm : M p = some (.lst ps)) (e : atI ps i = some P) : OpE M (rIx K) (Rf p) (Dd K (.int i)) P M := fun x y H Q w h1 h2 k => by
  cases h1.here
  obtain ⟨o, e1, xs, rfl, r⟩ := w.cell p _ hm
  obtain ⟨v, e2, e3⟩ := stas_atI r e
  exact .inl ⟨p, xs, i, v, rfl, dd_int h2, SqL.of e1, e2, k v H (.refl w) e3⟩

/-! ### attributes -/
theorem paired_lookup {G : Hp} {f : Str} : ∀ {fs : List (Str × Pr)} {vs : List (Str × V)} {P : Pr}, Paired (fun (p : Str × Pr) (q : Str × V) => p.1 = q.1 ∧ Sta p.2 q.2 G) fs vs → fs.lookup f = some P → ∃ v, vs.lookup f = some v ∧ Sta P v G
  | _, _, _, .nil, e => by simp at e
  | (a, P') :: fs, (b, v) :: vs, P, .cons r t, e => by
    obtain ⟨e1, e2⟩ := r
    have e1 : a = b := e1
    subst e1
    rw [List.lookup_cons] at e ⊢
    cases q : (f == a) with
    | true =>
      rw [q] at e
      cases e
      exact ⟨v, rfl, e2⟩
    | false =>
      rw [q] at e
      exact paired_lookup t e
theorem paired_none {G : Hp} {f : Str} : ∀ {fs : List (Str × Pr)} {vs : List (Str × V)}, Paired (fun (p : Str × Pr) (q : Str × V) => p.1 = q.1 ∧ Sta p.2 q.2 G) fs vs → fs.lookup f = none → vs.lookup f = none
  | _, _, .nil, e => rfl
  | (a, P') :: fs, (b, v) :: vs, .cons r t, e => by
    obtain ⟨e1, e2⟩ := r
    have e1 : a = b := e1
    subst e1
    rw [List.lookup_cons] at e ⊢
    cases q : (f == a) with
    | true =>
      rw [q] at e
      cases e
    | false =>
      rw [q] at e
      exact paired_none t e
theorem ev_fld {ta : TE} {C : Addr} {fs : List (Str × Pr)} {f : Str} (c : Cls K C) (n : NoAttr K C f) (h : Evl G M ta (InsP C fs) M1) (e : fs.lookup f = some P) : Evl G M (tFld K ta f) P M1 := fun σ H Q a k => h σ H _ a fun v H' s q => by
  obtain ⟨p, dx, vs, rfl, h1, h2⟩ := q.here
  obtain ⟨x, e1, e2⟩ := paired_lookup h2 e
  exact ⟨p, C, dx, vs, x, rfl, Frz_le _ _ h1, c, n, e1, k x H' s e2⟩
theorem ev_fldO {ta : TE} {C dx p : Addr} {fs : List (Str × Pr)} {f : Str} (c : Cls K C) (n : NoAttr K C f) (h : Evl G M ta (Rf p) M1) (hm : M1 p = some (.ins C dx fs)) (e : fs.lookup f = some P) : Evl G M (tFld K ta f) P M1 := fun σ H Q a k => h σ H _ a fun v H' s q => by
  cases q.here
  obtain ⟨o, h1, vs, rfl, h2⟩ := s.own.cell p _ hm
  obtain ⟨x, e1, e2⟩ := paired_lookup h2 e
  exact ⟨p, C, dx, vs, x, rfl, h1, c, n, e1, k x H' s e2⟩
def putP (f : Str) (P : Pr) : List (Str × Pr) → List (Str × Pr)
  | [] => [(f, P)]
  | (g, x) :: r => if g = f then (g, P) :: r else (g, x) :: putP f P r
theorem paired_put {G : Hp} {f : Str} {P : Pr} {v : V} (h : Sta P v G) : ∀ {fs : List (Str × Pr)} {vs : List (Str × V)}, Paired (fun (p : Str × Pr) (q : Str × V) => p.1 = q.1 ∧ Sta p.2 q.2 G) fs vs → Paired (fun (p : Str × Pr) (q : Str × V) => p.1 = q.1 ∧ Sta p.2 q.2 G) (putP f P fs) (putF f v vs)
  | _, _, .nil => .cons ⟨rfl, h⟩ .nil
  | (a, P') :: fs, (b, x) :: vs, .cons r t => by
    obtain ⟨e1, e2⟩ := r
    have e1 : a = b := e1
    subst e1
    unfold putP putF
    by_cases e : a = f
    · rw [if_pos e, if_pos e]; exact .cons ⟨rfl, h⟩ t
    · rw [if_neg e, if_neg e]; exact .cons ⟨rfl, e2⟩ (paired_put h t)
theorem nrm_fld {ta tv : TE} {C dx p : Addr} {fs : List (Str × Pr)} {f : Str} (c : Cls K C) (n : NoAttr K C f) (hv : Evl G M tv P M1) (h : Evl G M1 ta (Rf p) M2) (hm : M2 p = some (.ins C dx fs)) (hl : fs.length < 1000) : Nrm G M (sFld K ta tv f) G (M2.set p (.ins C dx (putP f P fs))) := fun σ H D a k =>
  hv σ H _ a fun y H1 s1 q1 => h σ H1 _ (a.step s1) fun x H2 s2 q2 => by
    cases q2.here
    obtain ⟨o, e1, vs, rfl, e2⟩ := s2.own.cell p _ hm
    have s3 := Stp.write s2.own hm (c' := .ins C dx (putP f P fs)) (o := .ins C dx (putF f y vs)) ⟨_, rfl, paired_put (q1.mono s2.frz) e2⟩
    have s := (s1.trans s2).trans s3
    exact ⟨p, C, dx, vs, rfl, e1, c, n, by rw [← Paired.length e2]; exact hl, k σ _ s (a.step s)⟩

/-! ### calls of defs -/
/-- a promise: what is owned and what the arguments are, what comes back, what is owned then -/
abbrev Ctr := OM → List Pr → Pr → OM → Prop
def SpR (R : Ctr) : Sp := fun vs H Q _ => ∃ M ps P M', R M ps P M' ∧ Own M H ∧ Stas ps vs (Frz M H) ∧ ∀ v H', Stp M H M' H' → Sta P v (Frz M' H') → Q v H'
theorem ev_call {R : Ctr} {E : XK} {t : TA} {ps : List Pr} (h : EvA G M t ps M1) (r : R M1 ps P M2) : Evl G M (tCall (SpR R) [] E t) P M2 := fun σ H Q a k => h σ H _ a fun vs H' s q =>
  ⟨M1, ps, P, M2, r, s.own, by rw [List.append_nil]; exact q, fun v H2 s2 q2 => k v H2 (s.trans s2) q2⟩
theorem ev_callD {R : Ctr} {E : XK} {t : TA} {ps qs : List Pr} {dvs : List V} (h : EvA G M t ps M1) (hd : ∀ G, Stas qs dvs G) (r : R M1 (ps ++ qs) P M2) : Evl G M (tCall (SpR R) dvs E t) P M2 := fun σ H Q a k => h σ H _ a fun vs H' s q =>
  ⟨M1, ps ++ qs, P, M2, r, s.own, q.append (hd _), fun v H2 s2 q2 => k v H2 (s.trans s2) q2⟩
/-- a method of a frozen instance -/
theorem ev_meth {R : Ctr} {E : XK} {C : Addr} {m : Str} {ta : TE} {t : TA} {fs : List (Str × Pr)} {ps : List Pr} (h0 : Evl G M ta (InsP C fs) M1) (hn : fs.lookup m = none) (h : EvA G M1 t ps M2) (r : R M2 (InsP C fs :: ps) P M3) : Evl G M (tMeth C m (SpR R) [] E ta t) P M3 := fun σ H Q a k =>
  h0 σ H _ a fun x H1 s1 q1 => by
    obtain ⟨p, dx, vs, rfl, e1, e2⟩ := q1.here
    refine ⟨p, dx, vs, rfl, Frz_le _ _ e1, paired_none e2 hn, h σ H1 _ (a.step s1) fun us H2 s2 q2 => ?_⟩
    exact ⟨M2, _, P, M3, r, s2.own, by rw [List.append_nil]; exact .cons (q1.mono s2.frz) q2, fun v H3 s3 q3 => k v H3 ((s1.trans s2).trans s3) q3⟩
theorem ev_methO {R : Ctr} {E : XK} {C p dx : Addr} {m : Str} {ta : TE} {t : TA} {fs : List (Str × Pr)} {ps : List Pr} (h0 : Evl G M ta (Rf p) M1) (hm : M1 p = some (.ins C dx fs)) (hn : fs.lookup m = none) (h : EvA G M1 t ps M2) (r : R M2 (Rf p :: ps) P M3) : Evl G M (tMeth C m (SpR R) [] E ta t) P M3 := fun σ H Q a k =>
  h0 σ H _ a fun x H1 s1 q1 => by
    cases q1.here
    obtain ⟨o, e1, vs, rfl, e2⟩ := s1.own.cell p _ hm
    refine ⟨p, dx, vs, rfl, e1, paired_none e2 hn, h σ H1 _ (a.step s1) fun us H2 s2 q2 => ?_⟩
    exact ⟨M2, _, P, M3, r, s2.own, by rw [List.append_nil]; exact .cons rf q2, fun v H3 s3 q3 => k v H3 ((s1.trans s2).trans s3) q3⟩
/-- a new instance that stays as its __init__ leaves it -/
theorem ev_make {R : Ctr} {E : XK} {C : Addr} {t : TA} {ps : List Pr} {fs : List (Str × Pr)} (h : EvA G M t ps M1) (r : ∀ x dx, M1 x = none → R (M1.set x (.ins C dx [])) (Rf x :: ps) (Dd K .none) (M1.set x (.ins C dx fs))) : Evl G M (tMake C (SpR R) [] E t) (InsP C fs) M1 := fun σ H Q a k =>
  h σ H _ a fun us H1 s1 q1 x dx hx hdx ne => by
    obtain ⟨s2, e2⟩ := Stp.alloc s1.own hdx (.own x)
    have hx2 : upd H1 dx (.own x) x = none := by rw [upd_ne (Ne.symm ne)]; exact hx
    have s3 := Stp.allocO s2.own hx2 (o := .ins C dx []) (c := .ins C dx []) ⟨[], rfl, .nil⟩
    have hm := s1.own.free hx
    refine ⟨_, _, _, _, r x dx hm, s3.own, by rw [List.append_nil]; exact .cons rf ((q1.mono s2.frz).mono s3.frz), fun v H4 s4 q4 => ⟨dd_non q4, ?_⟩⟩
    obtain ⟨s5, o, e5, vs, rfl, e6⟩ := Stp.freeze s4.own (a := x) OM.set_same
    have em : (M1.set x (.ins C dx fs)).del x = M1 := OM.del_set hm
    rw [em] at s5 e5 e6
    exact k _ H4 ((((s1.trans s2).trans s3).trans s4).trans s5) (ins_of e5 e6)
end
end Z
set_option maxRecDepth 100000
set_option maxHeartbeats 4000000
/-! Z2: walks, loops, comprehensions, the rule for a def. Own work. -/
namespace Z
open PySem PySem.Spec L2

section
variable {K : PySem.W.Frag} {G G1 G2 : Gm} {M M1 M2 M3 : OM} {P P1 P2 : Pr}
/-! ### walks -/
/-- J gives n things, the i-th one being p i, whatever happens to what isn't frozen in G -/
def Walks (J : It) (F : Hp) (n : Nat) (p : Nat → Pr) : Prop := ∀ (M : OM) (H : Hp), Own M H → Same F (Frz M H) →
  (∀ i, i < n → J.go i H ∧ ∀ x H', J.yld i H x H' → Stp M H M H' ∧ Sta (p i) x (Frz M H')) ∧ J.stop n H
def EvI (G : Gm) (M : OM) (wi : TI) (n : Nat) (p : Nat → Pr) (M' : OM) : Prop := ∀ σ H (R : It → Hp → Prop), At G M σ H → (∀ J H1, Stp M H M' H1 → Walks J (Frz M' H1) n p → R J H1) → wi σ H R
/-- an item of a list of predicates -/
def at_ (ps : List Pr) (i : Nat) : Pr := ps.getD i Any
theorem evi_list {tl : TE} {ps : List Pr} (h : Evl G M tl (Ls K ps) M1) : EvI G M (iList K tl) ps.length (at_ ps) M1 := fun σ H R a k => h σ H _ a fun v H1 s q => by
  obtain ⟨b, xs, rfl, h1, h2⟩ := q.here
  refine ⟨b, rfl, ⟨xs, Frz_le.seq h1⟩, k _ H1 s fun M2 H2 w2 s2 => ?_⟩
  have hq : SqL K H2 b xs := Frz_le.seq (s2.seq h1)
  have hs : Stas ps xs (Frz M2 H2) := h2.mono s2
  refine ⟨fun i hi => ?_, xs, hq, by rw [hs.len]; exact Nat.le_refl _⟩
  have hi' : i < xs.length := by rw [← hs.len]; exact hi
  refine ⟨⟨xs, xs[i], hq, List.getElem?_eq_getElem hi'⟩, fun x H3 y => ?_⟩
  obtain ⟨e, y⟩ := y
  subst e
  refine ⟨.refl w2, ?_⟩
  obtain ⟨P', e1, e2⟩ := hs.getV (y xs hq)
  have : at_ ps i = P' := by unfold at_; rw [List.getD_eq_getElem?_getD, e1]; rfl
  rw [this]
  exact e2

theorem at_get {ps : List Pr} {i : Nat} {P : Pr} (h : ps[i]? = some P) : at_ ps i = P := by unfold at_; rw [List.getD_eq_getElem?_getD, h]; rfl
theorem at_map {α : Type} {p : α → Pr} {as : List α} {i : Nat} {a : α} (h : as[i]? = some a) : at_ (as.map p) i = p a := at_get (by rw [List.getElem?_map, h]; rfl)
theorem evi_tup {tl : TE} {ps : List Pr} (h : Evl G M tl (Tp K ps) M1) : EvI G M (iTup K tl) ps.length (at_ ps) M1 := fun σ H R a k => h σ H _ a fun v H1 s q => by
  obtain ⟨b, xs, rfl, h1, h2⟩ := q.here
  refine ⟨b, rfl, ⟨xs, seqT_mono Frz_le h1⟩, k _ H1 s fun M2 H2 w2 s2 => ?_⟩
  have hq : SqT K H2 b xs := seqT_mono Frz_le (seqT_mono s2 h1)
  have hs : Stas ps xs (Frz M2 H2) := h2.mono s2
  refine ⟨fun i hi => ?_, xs, hq, by rw [hs.len]; exact Nat.le_refl _⟩
  have hi' : i < xs.length := by rw [← hs.len]; exact hi
  refine ⟨⟨xs, xs[i], hq, List.getElem?_eq_getElem hi'⟩, fun x H3 y => ?_⟩
  obtain ⟨e, y⟩ := y
  subst e
  refine ⟨.refl w2, ?_⟩
  obtain ⟨P', e1, e2⟩ := hs.getV (y xs hq)
  rw [at_get e1]
  exact e2
theorem evi_str {te : TE} {x : Str} (h : Evl G M te (Dd K (.str x)) M1) : EvI G M (iStr te) x.cps.size (fun i => Dd K (.str ⟨#[x.cps.getD i 0]⟩)) M1 := fun σ H R a k => h σ H _ a fun v H1 s q => by
  refine ⟨x, dd_str q, k _ H1 s fun M2 H2 w2 s2 => ⟨fun i hi => ⟨hi, fun v H3 y => ?_⟩, Nat.le_refl _⟩⟩
  obtain ⟨e, c, e1, e2⟩ := y
  subst e
  refine ⟨.refl w2, ?_⟩
  have : x.cps.getD i 0 = c := by rw [Array.getD_eq_getD_getElem?, e1]; rfl
  dsimp only
  rw [this, e2]
  exact dd (.str _)
theorem evi_range {ta : TA} {n : Nat} (h : EvA G M ta [Dd K (.int n)] M1) (hn : (n : Int) < 2 ^ 62) : EvI G M (iRng1 ta) n (fun i => Dd K (.int (i : Nat))) M1 := fun σ H R a k => h σ H _ a fun vs H1 s q => by
  cases q with
  | cons r rr =>
    cases rr
    refine ⟨n, by rw [dd_int r], by omega, hn, ?_⟩
    rw [Int.toNat_natCast]
    refine k _ H1 s fun M2 H2 w2 s2 => ⟨fun i hi => ⟨hi, fun v H3 y => ?_⟩, Nat.le_refl _⟩
    obtain ⟨e, e2⟩ := y
    subst e
    refine ⟨.refl w2, ?_⟩
    dsimp only
    rw [e2, Int.zero_add]
    exact dd (.int _)
theorem evi_zip {ta : TA} {ps qs : List Pr} (h : EvA G M ta [Ls K ps, Ls K qs] M1) : EvI G M (iZip K ta) (min ps.length qs.length) (fun i => Tp K [at_ ps i, at_ qs i]) M1 := fun σ H R a k => h σ H _ a fun vs H1 s q => by
  cases q with
  | cons r rr =>
    cases rr with
    | cons r' rr' =>
      cases rr'
      obtain ⟨b, xs, rfl, h1, h2⟩ := r.here
      obtain ⟨c, ys, rfl, h3, h4⟩ := r'.here
      refine ⟨b, c, xs, ys, rfl, Frz_le.seq h1, Frz_le.seq h3, k _ H1 s fun M2 H2 w2 s2 => ?_⟩
      have hb : SqL K H2 b xs := Frz_le.seq (s2.seq h1)
      have hc : SqL K H2 c ys := Frz_le.seq (s2.seq h3)
      have hx := h2.mono s2
      have hy := h4.mono s2
      have lx := hx.len
      have ly := hy.len
      refine ⟨fun i hi => ?_, xs, ys, hb, hc, by omega⟩
      have hi1 : i < xs.length := by omega
      have hi2 : i < ys.length := by omega
      refine ⟨⟨xs, ys, xs[i], ys[i], hb, hc, List.getElem?_eq_getElem hi1, List.getElem?_eq_getElem hi2⟩, fun v H3 y => ?_⟩
      obtain ⟨T, x, z, rfl, hT, rfl, y1, y2⟩ := y
      obtain ⟨s3, e3⟩ := Stp.alloc w2 hT (.tup [x, z])
      obtain ⟨P1, e1, q1⟩ := hx.getV (y1 xs hb)
      obtain ⟨P2, e2, q2⟩ := hy.getV (y2 ys hc)
      dsimp only
      rw [at_get e1, at_get e2]
      exact ⟨s3, tp_of (.of e3) (.cons (q1.mono s3.frz) (.cons (q2.mono s3.frz) .nil))⟩
theorem evi_enum {ta : TA} {ps : List Pr} (h : EvA G M ta [Ls K ps] M1) : EvI G M (iEnum K ta) ps.length (fun i => Tp K [Dd K (.int (i : Nat)), at_ ps i]) M1 := fun σ H R a k => h σ H _ a fun vs H1 s q => by
  cases q with
  | cons r rr =>
    cases rr
    obtain ⟨b, xs, rfl, h1, h2⟩ := r.here
    refine ⟨b, xs, rfl, Frz_le.seq h1, k _ H1 s fun M2 H2 w2 s2 => ?_⟩
    have hb : SqL K H2 b xs := Frz_le.seq (s2.seq h1)
    have hx := h2.mono s2
    have lx := hx.len
    refine ⟨fun i hi => ?_, xs, hb, by omega⟩
    have hi1 : i < xs.length := by omega
    refine ⟨⟨xs, xs[i], hb, List.getElem?_eq_getElem hi1⟩, fun v H3 y => ?_⟩
    obtain ⟨T, x, rfl, hT, rfl, y1⟩ := y
    obtain ⟨s3, e3⟩ := Stp.alloc w2 hT (.tup [.int (i : Nat), x])
    obtain ⟨P1, e1, q1⟩ := hx.getV (y1 xs hb)
    dsimp only
    rw [at_get e1]
    exact ⟨s3, tp_of (.of e3) (.cons (dd (.int _)) (.cons (q1.mono s3.frz) .nil))⟩
theorem EvI.imp {wi : TI} {n : Nat} {p p' : Nat → Pr} (h : EvI G M wi n p M1) (f : ∀ i, i < n → ∀ v G, p i v G → p' i v G) : EvI G M wi n p' M1 := fun σ H R a k => h σ H R a fun J H1 s w => k J H1 s fun M2 H2 w2 s2 => by
  obtain ⟨a, b⟩ := w M2 H2 w2 s2
  exact ⟨fun i hi => ⟨(a i hi).1, fun x H' y => ⟨((a i hi).2 x H' y).1, ((a i hi).2 x H' y).2.imp fun _ z => f i hi _ _ z⟩⟩, b⟩
/-- over a list of data -/
theorem evi_listD {tl : TE} {ds : List PyData} (h : Evl G M tl (Dd K (.list ds)) M1) : EvI G M (iList K tl) ds.length (at_ (ds.map (Dd K))) M1 := by
  have := evi_list (ls_exp h)
  rwa [List.length_map] at this

/-! ### for -/
def Body (G : Gm) (M : OM) (P : Pr) (g : TG) (tb : TS) (G' : Gm) (M' : OM) : Prop := ∀ v σ H (D : Ends), At G M σ H → Sta P v (Frz M H) → (∀ σ' H', Stp M H M' H' → At G' M' σ' H' → D.nx σ' H') → g v σ H fun σ2 H2 => tb D σ2 H2
theorem body_of {g : TG} {tb : TS} {G3 : Gm} (h1 : EvG G M P g G1 M1) (h2 : Nrm G1 M1 tb G3 M2) : Body G M P g tb G3 M2 := fun v σ H D a q k =>
  h1 v σ H _ a q fun σ1 H1 s1 a1 => h2 σ1 H1 D a1 fun σ2 H2 s2 a2 => k σ2 H2 (s1.trans s2) a2
theorem Body.weak {g : TG} {tb : TS} {G3 : Gm} (h : Body G M P g tb G1 M1) (w : Wk G1 G3) : Body G M P g tb G3 M1 := fun v σ H D a q k => h v σ H D a q fun σ' H' s a' => k σ' H' s (a'.weak w)
theorem nrm_for {wi : TI} {g : TG} {tb : TS} {n : Nat} {p : Nat → Pr} (Gi : Nat → Gm) (Mi : Nat → OM) (hi : EvI G M wi n p (Mi 0)) (hw : Wk G (Gi 0)) (hb : ∀ i, i < n → Body (Gi i) (Mi i) (p i) g tb (Gi (i + 1)) (Mi (i + 1))) : Nrm G M (tFor wi g tb) (Gi n) (Mi n) := fun σ H D a k => hi σ H _ a fun J H1 s w => by
  refine ⟨fun i m σ' H' => m = n - i ∧ i ≤ n ∧ Stp M H (Mi i) H' ∧ At (Gi i) (Mi i) σ' H' ∧ Same (Frz (Mi 0) H1) (Frz (Mi i) H'), ⟨n, by simp, Nat.zero_le _, s, (a.step s).weak hw, Same.refl _⟩, ?_⟩
  rintro i m σ' H' ⟨rfl, hin, st, at', sm⟩
  obtain ⟨w1, w2⟩ := w (Mi i) H' st.own sm
  by_cases hlt : i < n
  · obtain ⟨go, yl⟩ := w1 i hlt
    refine .inr ⟨go, fun σ2 H2 => Stp M H (Mi (i + 1)) H2 ∧ At (Gi (i + 1)) (Mi (i + 1)) σ2 H2 ∧ Same (Frz (Mi 0) H1) (Frz (Mi (i + 1)) H2), fun σ2 H2 ⟨q1, q2, q3⟩ => ⟨n - (i + 1), by omega, rfl, hlt, q1, q2, q3⟩, fun x H2 y => ?_⟩
    obtain ⟨y1, y2⟩ := yl x H2 y
    exact hb i hlt x σ' H2 _ (at'.step y1) y2 fun σ3 H3 s3 a3 => ⟨(st.trans y1).trans s3, a3, (sm.trans y1.frz).trans s3.frz⟩
  · have e : i = n := by omega
    subst e
    exact .inl ⟨w2, k σ' H' st at'⟩

/-! ### comprehensions -/
theorem wipe_set {v : Option V} : ∀ {vs : List Nat} {σ : L2.St} {i : Nat}, i ∈ vs → L2.wipe (σ.set i v) vs = L2.wipe σ vs
  | [], _, _, h => by cases h
  | w :: vs, σ, i, h => by
    show (L2.wipe (σ.set i v) vs).set w none = (L2.wipe σ vs).set w none
    by_cases hm : i ∈ vs
    · rw [wipe_set hm]
    · rcases List.mem_cons.mp h with e | h
      · subst e
        have : ∀ vs : List Nat, i ∉ vs → L2.wipe (σ.set i v) vs = (L2.wipe σ vs).set i v := by
          intro vs
          induction vs with
          | nil => intro _; rfl
          | cons u us ih =>
            intro hn
            show (L2.wipe (σ.set i v) us).set u none = ((L2.wipe σ us).set u none).set i v
            rw [ih fun z => hn (List.mem_cons_of_mem _ z), List.set_comm]
            exact fun z => hn (by rw [z]; exact List.mem_cons_self ..)
        rw [this vs hm, List.set_set]
      · exact absurd h hm
theorem wipe_sub {vs : List Nat} {σ : L2.St} : ∀ us : List Nat, (∀ u ∈ us, u ∈ vs) → L2.wipe (L2.wipe σ us) vs = L2.wipe σ vs
  | [], _ => rfl
  | u :: us, h => by
    show L2.wipe ((L2.wipe σ us).set u none) vs = _
    rw [wipe_set (h u (List.mem_cons_self ..)), wipe_sub us fun z hz => h z (List.mem_cons_of_mem _ hz)]
theorem wipe_wipe {vs : List Nat} {σ : L2.St} : L2.wipe (L2.wipe σ vs) vs = L2.wipe σ vs := wipe_sub vs fun _ h => h
/-- a target whose names are among those that are wiped -/
def EvGw (G : Gm) (M : OM) (P : Pr) (g : TG) (vs : List Nat) (G' : Gm) (M' : OM) : Prop := ∀ v σ H (Q : L2.St → Hp → Prop), At G M σ H → Sta P v (Frz M H) → (∀ σ' H', Stp M H M' H' → At G' M' σ' H' → L2.wipe σ' vs = L2.wipe σ vs → Q σ' H') → g v σ H Q
theorem evgw_name {i : Nat} {vs : List Nat} (h : i ∈ vs) : EvGw G M P (gName i) vs (G.set i (some P)) M := fun v σ H Q a q k => k _ H (.refl a.own) (a.set i q) (wipe_set h)
def EvGsw (G : Gm) (M : OM) (ps : List Pr) (g : TGs) (vs : List Nat) (G' : Gm) (M' : OM) : Prop := ∀ us σ H (Q : L2.St → Hp → Prop), At G M σ H → Stas ps us (Frz M H) → (∀ σ' H', Stp M H M' H' → At G' M' σ' H' → L2.wipe σ' vs = L2.wipe σ vs → Q σ' H') → g us σ H Q
theorem evgsw_nil {vs : List Nat} : EvGsw G M [] gNil vs G M := fun us σ H Q a q k => by
  cases q
  exact ⟨rfl, k σ H (.refl a.own) a rfl⟩
theorem evgsw_cons {g : TG} {u : TGs} {ps : List Pr} {vs : List Nat} (h1 : EvGw G M P g vs G1 M1) (h2 : EvGsw G1 M1 ps u vs G2 M2) : EvGsw G M (P :: ps) (gCons g u) vs G2 M2 := fun us σ H Q a q k => by
  cases q with
  | cons r rr => exact ⟨_, _, rfl, h1 _ σ H _ a r fun σ1 H1 s1 a1 e1 => h2 _ σ1 H1 Q a1 (Stas.mono rr s1.frz) fun σ2 H2 s2 a2 e2 => k σ2 H2 (s1.trans s2) a2 (e2.trans e1)⟩
theorem evgw_tup {g : TGs} {ps : List Pr} {vs : List Nat} {n : Nat} (h : EvGsw G M ps g vs G1 M1) (hl : ps.length = n) : EvGw G M (Tp K ps) (gTup K n g) vs G1 M1 := fun v σ H Q a q k => by
  obtain ⟨b, xs, rfl, h1, h2⟩ := q.here
  exact ⟨b, xs, rfl, seqT_mono Frz_le h1, by rw [← h2.len]; exact hl, h xs σ H Q a h2 k⟩
theorem evgw_tupD {g : TGs} {ds : List PyData} {vs : List Nat} {n : Nat} (h : EvGsw G M (ds.map (Dd K)) g vs G1 M1) (hl : ds.length = n) : EvGw G M (Dd K (.tuple ds)) (gTup K n g) vs G1 M1 := fun v σ H Q a q k =>
  evgw_tup h (by rw [List.length_map]; exact hl) v σ H Q a (tp_dd q) k
theorem evg_tup {g : TGs} {ps : List Pr} {n : Nat} (h : EvGs G M ps g G1 M1) (hl : ps.length = n) : EvG G M (Tp K ps) (gTup K n g) G1 M1 := fun v σ H Q a q k => by
  obtain ⟨b, xs, rfl, h1, h2⟩ := q.here
  exact ⟨b, xs, rfl, seqT_mono Frz_le h1, by rw [← h2.len]; exact hl, h xs σ H Q a h2 k⟩
theorem evg_tupD {g : TGs} {ds : List PyData} {n : Nat} (h : EvGs G M (ds.map (Dd K)) g G1 M1) (hl : ds.length = n) : EvG G M (Dd K (.tuple ds)) (gTup K n g) G1 M1 := fun v σ H Q a q k =>
  evg_tup h (by rw [List.length_map]; exact hl) v σ H Q a (tp_dd q) k
theorem evt_yes : EvT G M tYes true M := fun σ H Q a k => k H (.refl a.own)
/-- one turn of a comprehension -/
def Turn1 (G : Gm) (M : OM) (P : Pr) (g : TG) (tt : TT) (te : TE) (vs : List Nat) (b : Bool) (q : Pr) (M' : OM) : Prop := ∃ G1 M1 M2, EvGw G M P g vs G1 M1 ∧ EvT G1 M1 tt b M2 ∧ (b = true → Evl G1 M2 te q M') ∧ (b = false → M2 = M')
/-- what has come by the i-th turn -/
def acc (b : Nat → Bool) (q : Nat → Pr) : Nat → List Pr
  | 0 => []
  | i + 1 => if b i = true then acc b q i ++ [q i] else acc b q i
theorem acc_len {b : Nat → Bool} {q : Nat → Pr} : ∀ i, (acc b q i).length ≤ i
  | 0 => Nat.le_refl _
  | i + 1 => by
    unfold acc
    have := acc_len (b := b) (q := q) i
    split
    · rw [List.length_append, List.length_singleton]; omega
    · omega
/-- a raw list -/
def Lr (ps : List Pr) : Pr := fun v G => ∃ a xs, v = .ref a ∧ G a = some (.lst xs) ∧ Stas ps xs G
theorem lr_of {ps : List Pr} {G : Hp} {a : Addr} {xs : List V} (q : G a = some (.lst xs)) (r : Stas ps xs G) : Sta (Lr ps) (.ref a) G := fun _ s => ⟨a, xs, rfl, s _ _ q, r.mono s⟩
theorem lr_ls {ps : List Pr} {v : V} {G : Hp} (h : Sta (Lr ps) v G) : Sta (Ls K ps) v G := fun G' s => by
  obtain ⟨a, xs, rfl, e, r⟩ := h G' s
  exact ⟨a, xs, rfl, .of e, r⟩
theorem ev_lcIR {wi : TI} {g : TG} {tt : TT} {te : TE} {vs : List Nat} {n : Nat} {p : Nat → Pr} (Mi : Nat → OM) (b : Nat → Bool) (q : Nat → Pr) (hi : EvI G M wi n p (Mi 0)) (hs : n ≤ sizeLine) (dom : ∀ i D, i < n → Mi i D = none → Mi (i + 1) D = none)
    (turn : ∀ i, i < n → ∀ D c, Mi i D = none → Turn1 (wipeG G vs) ((Mi i).set D (.lst c)) (p i) g tt te vs (b i) (q i) ((Mi (i + 1)).set D (.lst c))) : Evl G M (tLc wi g tt te vs) (Lr (acc b q n)) (Mi n) := fun σ H Q a k => hi σ H _ a fun J H1 s w D hD => by
  have dm : ∀ i, i ≤ n → Mi i D = none := by
    intro i
    induction i with
    | zero => intro _; exact s.own.free hD
    | succ i ih => intro hi'; exact dom i D (by omega) (ih (by omega))
  have s0 := Stp.allocO s.own hD (o := .lst []) (c := .lst []) ⟨[], rfl, .nil⟩
  refine ⟨fun i m H' => m = n - i ∧ i ≤ n ∧ Stp M H ((Mi i).set D (.lst (acc b q i))) H' ∧ Same (Frz (Mi 0) H1) (Frz ((Mi i).set D (.lst (acc b q i))) H'), ⟨n, by simp, Nat.zero_le _, s.trans s0, s0.frz⟩, ?_⟩
  rintro i m H' ⟨rfl, hin, st, sm⟩
  obtain ⟨w1, w2⟩ := w _ H' st.own sm
  by_cases hlt : i < n
  · obtain ⟨go, yl⟩ := w1 i hlt
    refine .inr ⟨go, fun H2 => Stp M H ((Mi (i + 1)).set D (.lst (acc b q (i + 1)))) H2 ∧ Same (Frz (Mi 0) H1) (Frz ((Mi (i + 1)).set D (.lst (acc b q (i + 1)))) H2), fun H2 ⟨q1, q2⟩ => ⟨n - (i + 1), by omega, rfl, hlt, q1, q2⟩, fun x H2 y => ?_⟩
    obtain ⟨y1, y2⟩ := yl x H2 y
    obtain ⟨G1, M1, M2, t1, t2, t3, t4⟩ := turn i hlt D (acc b q i) (dm i (Nat.le_of_lt hlt))
    have a2 := ((a.step st).step y1).wipe vs
    refine t1 x (L2.wipe σ vs) H2 _ a2 y2 fun σ3 H3 s3 a3 e3 => ⟨?_, ?_⟩
    · rw [e3, wipe_wipe]
    refine t2 σ3 H3 _ a3 fun H4 s4 => ?_
    have st4 := ((st.trans y1).trans s3).trans s4
    have sm4 := ((sm.trans y1.frz).trans s3.frz).trans s4.frz
    cases hb : b i with
    | false =>
      rw [if_neg Bool.false_ne_true]
      have e := t4 hb
      have ea : acc b q (i + 1) = acc b q i := by show (if b i = true then _ else _) = _; rw [hb]; rfl
      rw [ea]
      rw [e] at st4 sm4
      exact ⟨st4, sm4⟩
    | true =>
      rw [if_pos rfl]
      refine t3 hb σ3 H4 _ (a3.step s4) fun z H5 s5 q5 => ?_
      have st5 := st4.trans s5
      have sm5 := sm4.trans s5.frz
      obtain ⟨o, e1, xs, rfl, r⟩ := st5.own.cell D _ OM.set_same
      have ea : acc b q (i + 1) = acc b q i ++ [q i] := by show (if b i = true then _ else _) = _; rw [hb]; rfl
      have hl := acc_len (b := b) (q := q) i
      have s6 := Stp.write st5.own OM.set_same (c' := .lst (acc b q (i + 1))) (o := .lst (xs ++ [z])) ⟨_, rfl, by rw [ea]; exact Stas.append r (.cons q5 .nil)⟩
      rw [OM.set_set] at s6
      exact ⟨xs, e1, by rw [← r.len]; omega, st5.trans s6, sm5.trans s6.frz⟩
  · have e : i = n := by omega
    subst e
    refine .inl ⟨w2, ?_⟩
    obtain ⟨s5, o, e5, xs, rfl, e6⟩ := Stp.freeze st.own OM.set_same
    rw [OM.del_set (dm i (Nat.le_refl _))] at s5 e5 e6
    exact k _ H' (st.trans s5) (lr_of e5 e6)
theorem ev_lcI {wi : TI} {g : TG} {tt : TT} {te : TE} {vs : List Nat} {n : Nat} {p : Nat → Pr} (Mi : Nat → OM) (b : Nat → Bool) (q : Nat → Pr) (hi : EvI G M wi n p (Mi 0)) (hs : n ≤ sizeLine) (dom : ∀ i D, i < n → Mi i D = none → Mi (i + 1) D = none)
    (turn : ∀ i, i < n → ∀ D c, Mi i D = none → Turn1 (wipeG G vs) ((Mi i).set D (.lst c)) (p i) g tt te vs (b i) (q i) ((Mi (i + 1)).set D (.lst c))) : Evl G M (tLc wi g tt te vs) (Ls K (acc b q n)) (Mi n) := fun σ H Q a k => ev_lcIR Mi b q hi hs dom turn σ H Q a fun v H' s q => k v H' s (lr_ls q)
/-- over a list of things, nothing owned is changed -/
theorem acc_list {α : Type} {p q : α → Pr} {f : α → Bool} (as : List α) (b' : Nat → Bool) (q' : Nat → Pr) (hb : ∀ i a, as[i]? = some a → b' i = f a) (hq : ∀ i a, as[i]? = some a → q' i = q a) : acc b' q' as.length = (as.filter f).map q := by
  have : ∀ n, n ≤ as.length → acc b' q' n = ((as.take n).filter f).map q := by
    intro n
    induction n with
    | zero => intro _; rfl
    | succ n ih =>
      intro hn
      have hlt : n < as.length := hn
      have e := List.getElem?_eq_getElem hlt
      show (if b' n = true then acc b' q' n ++ [q' n] else acc b' q' n) = _
      have et : as.take (n + 1) = as.take n ++ [as[n]] := by rw [List.take_succ, e]; rfl
      rw [ih (Nat.le_of_lt hlt), et, hb n _ e, hq n _ e, List.filter_append, List.map_append]
      cases hf : f as[n] with
      | true => simp [hf]
      | false => simp [hf]
  have := this as.length (Nat.le_refl _)
  rwa [List.take_length] at this
theorem ev_lc {α : Type} {wi : TI} {g : TG} {tt : TT} {te : TE} {vs : List Nat} (as : List α) (p q : α → Pr) (f : α → Bool) (hi : EvI G M wi as.length (at_ (as.map p)) M1) (hs : as.length ≤ sizeLine)
    (turn : ∀ a, a ∈ as → ∀ D c, M1 D = none → Turn1 (wipeG G vs) (M1.set D (.lst c)) (p a) g tt te vs (f a) (q a) (M1.set D (.lst c))) : Evl G M (tLc wi g tt te vs) (Ls K ((as.filter f).map q)) M1 := by
  have h := ev_lcI (K := K) (G := G) (M := M) (g := g) (tt := tt) (te := te) (vs := vs) (fun _ => M1) (fun i => (as[i]?.map f).getD false) (fun i => (as[i]?.map q).getD Any) hi hs (fun _ _ _ h => h) (fun i hi D c hD => by
    have e := List.getElem?_eq_getElem hi
    simp only [e, Option.map_some, Option.getD_some, at_map e]
    exact turn _ (List.getElem_mem hi) D c hD)
  rwa [acc_list (p := p) (f := f) (q := q) as _ _ (fun i a e => by simp only [e, Option.map_some, Option.getD_some]) (fun i a e => by simp only [e, Option.map_some, Option.getD_some])] at h
theorem ev_lcR {α : Type} {wi : TI} {g : TG} {tt : TT} {te : TE} {vs : List Nat} (as : List α) (p q : α → Pr) (f : α → Bool) (hi : EvI G M wi as.length (at_ (as.map p)) M1) (hs : as.length ≤ sizeLine)
    (turn : ∀ a, a ∈ as → ∀ D c, M1 D = none → Turn1 (wipeG G vs) (M1.set D (.lst c)) (p a) g tt te vs (f a) (q a) (M1.set D (.lst c))) : Evl G M (tLc wi g tt te vs) (Lr ((as.filter f).map q)) M1 := by
  have h := ev_lcIR (G := G) (M := M) (g := g) (tt := tt) (te := te) (vs := vs) (fun _ => M1) (fun i => (as[i]?.map f).getD false) (fun i => (as[i]?.map q).getD Any) hi hs (fun _ _ _ h => h) (fun i hi D c hD => by
    have e := List.getElem?_eq_getElem hi
    simp only [e, Option.map_some, Option.getD_some, at_map e]
    exact turn _ (List.getElem_mem hi) D c hD)
  rwa [acc_list (p := p) (f := f) (q := q) as _ _ (fun i a e => by simp only [e, Option.map_some, Option.getD_some]) (fun i a e => by simp only [e, Option.map_some, Option.getD_some])] at h
/-- data to data -/
theorem ev_lcD {α : Type} {wi : TI} {g : TG} {tt : TT} {te : TE} {vs : List Nat} (as : List α) (p : α → Pr) (q : α → PyData) (f : α → Bool) (hi : EvI G M wi as.length (at_ (as.map p)) M1) (hs : as.length ≤ sizeLine)
    (turn : ∀ a, a ∈ as → ∀ D c, M1 D = none → Turn1 (wipeG G vs) (M1.set D (.lst c)) (p a) g tt te vs (f a) (Dd K (q a)) (M1.set D (.lst c))) : Evl G M (tLc wi g tt te vs) (Dd K (.list ((as.filter f).map q))) M1 := by
  refine ls_imp ?_
  rw [List.map_map]
  exact ev_lc (K := K) as p (Dd K ∘ q) f hi hs turn
theorem turn_all {g : TG} {te : TE} {vs : List Nat} {q : Pr} (h1 : EvGw G M P g vs G1 M1) (h2 : Evl G1 M1 te q M2) : Turn1 G M P g tYes te vs true q M2 := ⟨G1, M1, M1, h1, evt_yes, fun _ => h2, fun e => by cases e⟩
theorem turn_if {g : TG} {tt : TT} {te : TE} {vs : List Nat} {q : Pr} {b : Bool} (h1 : EvGw G M P g vs G1 M) (h0 : EvT G1 M tt b M) (h2 : b = true → Evl G1 M te q M) : Turn1 G M P g tt te vs b q M := ⟨G1, M, M, h1, h0, h2, fun _ => rfl⟩

/-! ### the rule for a def -/
def gam (N : List Str) (ps : List Pr) : Gm := ps.map some ++ List.replicate (N.length - ps.length) none
theorem at_start {N : List Str} {ps : List Pr} {vs : List V} {H : Hp} (w : Own M H) (h : Stas ps vs (Frz M H)) : At (gam N ps) M (L2.start N vs) H := by
  have hl := h.len
  refine ⟨w, by unfold L2.start gam; simp [hl], fun i P e => ?_⟩
  unfold gam at e
  unfold L2.start
  by_cases hi : i < ps.length
  · rw [List.getElem?_append_left (by simpa using hi), List.getElem?_map] at e
    cases q : ps[i]? with
    | none => rw [q] at e; cases e
    | some P' =>
      rw [q] at e
      simp only [Option.map_some, Option.some.injEq] at e
      subst e
      obtain ⟨v, e1, e2⟩ := h.get q
      exact ⟨v, by rw [List.getElem?_append_left (by simp; omega), List.getElem?_map, e1]; rfl, e2⟩
  · rw [List.getElem?_append_right (by simp; omega)] at e
    rw [List.getElem?_replicate] at e
    split at e <;> simp at e
/-- a def that hands back -/
theorem end_rtn {N : List Str} {t : TS} {R : Ctr} {vs : List V} {H : Hp} {Q : VK} {E : XK} (h : SpR R vs H Q E) (b : ∀ M ps P M', R M ps P M' → Rtn (gam N ps) M t P M') : t { nx := fun _ H' => Q .non H', rt := Q } (L2.start N vs) H := by
  obtain ⟨M, ps, P, M', r, w, q, k⟩ := h
  exact b M ps P M' r _ H _ (at_start w q) fun v H' s q' => k v H' s q'
theorem end_nrm {N : List Str} {t : TS} {R : Ctr} {vs : List V} {H : Hp} {Q : VK} {E : XK} (h : SpR R vs H Q E) (b : ∀ M ps P M', R M ps P M' → P = Dd K .none ∧ ∃ G', Nrm (gam N ps) M t G' M') : t { nx := fun _ H' => Q .non H', rt := Q } (L2.start N vs) H := by
  obtain ⟨M, ps, P, M', r, w, q, k⟩ := h
  obtain ⟨e, G', b⟩ := b M ps P M' r
  subst e
  exact b _ H _ (at_start w q) fun σ' H' s a' => k _ H' s (dd .non)
theorem sp_len {R : Ctr} {n : Nat} (h : ∀ M ps P M', R M ps P M' → ps.length = n) : ∀ vs H Q E, SpR R vs H Q E → vs.length = n := fun vs H Q E ⟨M, ps, P, M', r, w, q, k⟩ => by
  rw [← q.len]; exact h _ _ _ _ r
end
end Z
set_option maxRecDepth 100000
set_option maxHeartbeats 4000000
/-! Z3: the text by places, its facts by names, calls of its defs. Own work, printed by mkfacts.py. -/
namespace Z
open PySem PySem.Spec L2
/-- what isinstance asks of the class Night (more of it is added where it is needed) -/
structure NightF (K : PySem.W.Frag) : Prop where
  cls : PySem.W.findIn K (.ref (He.ga K "Night")) "__class__" = some (some (.builtin "object.__class__"))
  mro : PySem.W.mroIn K (He.ga K "Night") (.type "object") = some true
  ne : PySem.W.findIn K (.ref (He.ga K "Night")) "__ne__" = some (some (.builtin "object.__ne__"))
/-- what stands behind the top -/
structure Tx (K : PySem.W.Frag) (mg : Str → Option Value) (base : Heap) : Prop where
  ex : ∃ h : Heap, K.In h ∧ h.Ns mainGlobals mg
  says : He.SaysD fa fn K
  tb : LamX.TabB base mg (He.codeOf K ("Doubled", some "reaches_of")) (He.tabOf K (He.codeOf K ("Doubled", some "reaches_of")))
  own : Cls K (He.ga K "Night") → NightF K
section
variable {K : PySem.W.Frag} {mg : Str → Option Value} {base : Heap} (T : Tx K mg base)
include T

theorem Tx.g_Doubled : mg "Doubled" = some (.ref (He.ga K "Doubled")) := by
  obtain ⟨h, X, G⟩ := T.ex
  exact He.glo_ok X G (T.says.fact 0 (f := .glo "Doubled") rfl)
theorem Tx.c_Doubled : Cls K (He.ga K "Doubled") := He.cls_ok (T.says.fact 1 (f := .cls "Doubled") rfl)
theorem Tx.k_Doubled : Mk K (He.ga K "Doubled") (He.ma K (He.ga K "Doubled") "__init__") := He.mkr_ok (T.says.fact 2 (f := .mkr "Doubled") rfl)
theorem Tx.m_Doubled_init : Meth K (He.ga K "Doubled") "__init__" (He.ma K (He.ga K "Doubled") "__init__") := He.meth_ok (T.says.fact 3 (f := .meth "Doubled" "__init__") rfl)
theorem Tx.m_Doubled_reaches_of : Meth K (He.ga K "Doubled") "reaches_of" (He.ma K (He.ga K "Doubled") "reaches_of") := He.meth_ok (T.says.fact 4 (f := .meth "Doubled" "reaches_of") rfl)
theorem Tx.g_lesser : mg "lesser" = some (.ref (He.ga K "lesser")) := by
  obtain ⟨h, X, G⟩ := T.ex
  exact He.glo_ok X G (T.says.fact 5 (f := .glo "lesser") rfl)
theorem Tx.g_more : mg "more" = some (.ref (He.ga K "more")) := by
  obtain ⟨h, X, G⟩ := T.ex
  exact He.glo_ok X G (T.says.fact 6 (f := .glo "more") rfl)
theorem Tx.g_spot_reaches : mg "spot_reaches" = some (.ref (He.ga K "spot_reaches")) := by
  obtain ⟨h, X, G⟩ := T.ex
  exact He.glo_ok X G (T.says.fact 7 (f := .glo "spot_reaches") rfl)
theorem Tx.g_fronts : mg "fronts" = some (.ref (He.ga K "fronts")) := by
  obtain ⟨h, X, G⟩ := T.ex
  exact He.glo_ok X G (T.says.fact 8 (f := .glo "fronts") rfl)
theorem Tx.g_is_whole : mg "is_whole" = some (.ref (He.ga K "is_whole")) := by
  obtain ⟨h, X, G⟩ := T.ex
  exact He.glo_ok X G (T.says.fact 9 (f := .glo "is_whole") rfl)
theorem Tx.g_is_name : mg "is_name" = some (.ref (He.ga K "is_name")) := by
  obtain ⟨h, X, G⟩ := T.ex
  exact He.glo_ok X G (T.says.fact 10 (f := .glo "is_name") rfl)
theorem Tx.g_is_listed : mg "is_listed" = some (.ref (He.ga K "is_listed")) := by
  obtain ⟨h, X, G⟩ := T.ex
  exact He.glo_ok X G (T.says.fact 11 (f := .glo "is_listed") rfl)
theorem Tx.g_is_rising : mg "is_rising" = some (.ref (He.ga K "is_rising")) := by
  obtain ⟨h, X, G⟩ := T.ex
  exact He.glo_ok X G (T.says.fact 12 (f := .glo "is_rising") rfl)
theorem Tx.g_is_folk : mg "is_folk" = some (.ref (He.ga K "is_folk")) := by
  obtain ⟨h, X, G⟩ := T.ex
  exact He.glo_ok X G (T.says.fact 13 (f := .glo "is_folk") rfl)
theorem Tx.g_is_way : mg "is_way" = some (.ref (He.ga K "is_way")) := by
  obtain ⟨h, X, G⟩ := T.ex
  exact He.glo_ok X G (T.says.fact 14 (f := .glo "is_way") rfl)
theorem Tx.g_is_web : mg "is_web" = some (.ref (He.ga K "is_web")) := by
  obtain ⟨h, X, G⟩ := T.ex
  exact He.glo_ok X G (T.says.fact 15 (f := .glo "is_web") rfl)
theorem Tx.g_web_of : mg "web_of" = some (.ref (He.ga K "web_of")) := by
  obtain ⟨h, X, G⟩ := T.ex
  exact He.glo_ok X G (T.says.fact 16 (f := .glo "web_of") rfl)
theorem Tx.g_need_starters : mg "need_starters" = some (.ref (He.ga K "need_starters")) := by
  obtain ⟨h, X, G⟩ := T.ex
  exact He.glo_ok X G (T.says.fact 17 (f := .glo "need_starters") rfl)
theorem Tx.g_need_beat : mg "need_beat" = some (.ref (He.ga K "need_beat")) := by
  obtain ⟨h, X, G⟩ := T.ex
  exact He.glo_ok X G (T.says.fact 18 (f := .glo "need_beat") rfl)
theorem Tx.g_beats_between : mg "beats_between" = some (.ref (He.ga K "beats_between")) := by
  obtain ⟨h, X, G⟩ := T.ex
  exact He.glo_ok X G (T.says.fact 19 (f := .glo "beats_between") rfl)
theorem Tx.g_is_place : mg "is_place" = some (.ref (He.ga K "is_place")) := by
  obtain ⟨h, X, G⟩ := T.ex
  exact He.glo_ok X G (T.says.fact 20 (f := .glo "is_place") rfl)
theorem Tx.g_need_place : mg "need_place" = some (.ref (He.ga K "need_place")) := by
  obtain ⟨h, X, G⟩ := T.ex
  exact He.glo_ok X G (T.says.fact 21 (f := .glo "need_place") rfl)
theorem Tx.g_Cry : mg "Cry" = some (.ref (He.ga K "Cry")) := by
  obtain ⟨h, X, G⟩ := T.ex
  exact He.glo_ok X G (T.says.fact 22 (f := .glo "Cry") rfl)
theorem Tx.c_Cry : Cls K (He.ga K "Cry") := He.cls_ok (T.says.fact 23 (f := .cls "Cry") rfl)
theorem Tx.k_Cry : Mk K (He.ga K "Cry") (He.ma K (He.ga K "Cry") "__init__") := He.mkr_ok (T.says.fact 24 (f := .mkr "Cry") rfl)
theorem Tx.m_Cry_init : Meth K (He.ga K "Cry") "__init__" (He.ma K (He.ga K "Cry") "__init__") := He.meth_ok (T.says.fact 25 (f := .meth "Cry" "__init__") rfl)
theorem Tx.m_Cry_numbers_at : Meth K (He.ga K "Cry") "numbers_at" (He.ma K (He.ga K "Cry") "numbers_at") := He.meth_ok (T.says.fact 26 (f := .meth "Cry" "numbers_at") rfl)
theorem Tx.g_hearings : mg "hearings" = some (.ref (He.ga K "hearings")) := by
  obtain ⟨h, X, G⟩ := T.ex
  exact He.glo_ok X G (T.says.fact 27 (f := .glo "hearings") rfl)
theorem Tx.g_all_fronts : mg "all_fronts" = some (.ref (He.ga K "all_fronts")) := by
  obtain ⟨h, X, G⟩ := T.ex
  exact He.glo_ok X G (T.says.fact 28 (f := .glo "all_fronts") rfl)
theorem Tx.g_within : mg "within" = some (.ref (He.ga K "within")) := by
  obtain ⟨h, X, G⟩ := T.ex
  exact He.glo_ok X G (T.says.fact 29 (f := .glo "within") rfl)
theorem Tx.g_numbers_heard : mg "numbers_heard" = some (.ref (He.ga K "numbers_heard")) := by
  obtain ⟨h, X, G⟩ := T.ex
  exact He.glo_ok X G (T.says.fact 30 (f := .glo "numbers_heard") rfl)
theorem Tx.g_spans_heard : mg "spans_heard" = some (.ref (He.ga K "spans_heard")) := by
  obtain ⟨h, X, G⟩ := T.ex
  exact He.glo_ok X G (T.says.fact 31 (f := .glo "spans_heard") rfl)
theorem Tx.g_spans_of_all : mg "spans_of_all" = some (.ref (He.ga K "spans_of_all")) := by
  obtain ⟨h, X, G⟩ := T.ex
  exact He.glo_ok X G (T.says.fact 32 (f := .glo "spans_of_all") rfl)
theorem Tx.g_tellings : mg "tellings" = some (.ref (He.ga K "tellings")) := by
  obtain ⟨h, X, G⟩ := T.ex
  exact He.glo_ok X G (T.says.fact 33 (f := .glo "tellings") rfl)
theorem Tx.g_tellings_by : mg "tellings_by" = some (.ref (He.ga K "tellings_by")) := by
  obtain ⟨h, X, G⟩ := T.ex
  exact He.glo_ok X G (T.says.fact 34 (f := .glo "tellings_by") rfl)
theorem Tx.g_last_beat : mg "last_beat" = some (.ref (He.ga K "last_beat")) := by
  obtain ⟨h, X, G⟩ := T.ex
  exact He.glo_ok X G (T.says.fact 35 (f := .glo "last_beat") rfl)
theorem Tx.g_need_two : mg "need_two" = some (.ref (He.ga K "need_two")) := by
  obtain ⟨h, X, G⟩ := T.ex
  exact He.glo_ok X G (T.says.fact 36 (f := .glo "need_two") rfl)
theorem Tx.g_with_way : mg "with_way" = some (.ref (He.ga K "with_way")) := by
  obtain ⟨h, X, G⟩ := T.ex
  exact He.glo_ok X G (T.says.fact 37 (f := .glo "with_way") rfl)
theorem Tx.g_without : mg "without" = some (.ref (He.ga K "without")) := by
  obtain ⟨h, X, G⟩ := T.ex
  exact He.glo_ok X G (T.says.fact 38 (f := .glo "without") rfl)
theorem Tx.g_without_way : mg "without_way" = some (.ref (He.ga K "without_way")) := by
  obtain ⟨h, X, G⟩ := T.ex
  exact He.glo_ok X G (T.says.fact 39 (f := .glo "without_way") rfl)
theorem Tx.g_Begun : mg "Begun" = some (.ref (He.ga K "Begun")) := by
  obtain ⟨h, X, G⟩ := T.ex
  exact He.glo_ok X G (T.says.fact 40 (f := .glo "Begun") rfl)
theorem Tx.c_Begun : Cls K (He.ga K "Begun") := He.cls_ok (T.says.fact 41 (f := .cls "Begun") rfl)
theorem Tx.k_Begun : Mk K (He.ga K "Begun") (He.ma K (He.ga K "Begun") "__init__") := He.mkr_ok (T.says.fact 42 (f := .mkr "Begun") rfl)
theorem Tx.m_Begun_init : Meth K (He.ga K "Begun") "__init__" (He.ma K (He.ga K "Begun") "__init__") := He.meth_ok (T.says.fact 43 (f := .meth "Begun" "__init__") rfl)
theorem Tx.m_Begun_plain : Meth K (He.ga K "Begun") "plain" (He.ma K (He.ga K "Begun") "plain") := He.meth_ok (T.says.fact 44 (f := .meth "Begun" "plain") rfl)
theorem Tx.m_Begun_last : Meth K (He.ga K "Begun") "last" (He.ma K (He.ga K "Begun") "last") := He.meth_ok (T.says.fact 45 (f := .meth "Begun" "last") rfl)
theorem Tx.m_Begun_beats_at : Meth K (He.ga K "Begun") "beats_at" (He.ma K (He.ga K "Begun") "beats_at") := He.meth_ok (T.says.fact 46 (f := .meth "Begun" "beats_at") rfl)
theorem Tx.g_copy_of : mg "copy_of" = some (.ref (He.ga K "copy_of")) := by
  obtain ⟨h, X, G⟩ := T.ex
  exact He.glo_ok X G (T.says.fact 47 (f := .glo "copy_of") rfl)
theorem Tx.g_Night : mg "Night" = some (.ref (He.ga K "Night")) := by
  obtain ⟨h, X, G⟩ := T.ex
  exact He.glo_ok X G (T.says.fact 48 (f := .glo "Night") rfl)
theorem Tx.c_Night : Cls K (He.ga K "Night") := He.cls_ok (T.says.fact 49 (f := .cls "Night") rfl)
theorem Tx.k_Night : Mk K (He.ga K "Night") (He.ma K (He.ga K "Night") "__init__") := He.mkr_ok (T.says.fact 50 (f := .mkr "Night") rfl)
theorem Tx.m_Night_init : Meth K (He.ga K "Night") "__init__" (He.ma K (He.ga K "Night") "__init__") := He.meth_ok (T.says.fact 51 (f := .meth "Night" "__init__") rfl)
theorem Tx.m_Night_need_cry : Meth K (He.ga K "Night") "need_cry" (He.ma K (He.ga K "Night") "need_cry") := He.meth_ok (T.says.fact 52 (f := .meth "Night" "need_cry") rfl)
theorem Tx.m_Night_keep : Meth K (He.ga K "Night") "keep" (He.ma K (He.ga K "Night") "keep") := He.meth_ok (T.says.fact 53 (f := .meth "Night" "keep") rfl)
theorem Tx.m_Night_begin : Meth K (He.ga K "Night") "begin" (He.ma K (He.ga K "Night") "begin") := He.meth_ok (T.says.fact 54 (f := .meth "Night" "begin") rfl)
theorem Tx.m_Night_go_on : Meth K (He.ga K "Night") "go_on" (He.ma K (He.ga K "Night") "go_on") := He.meth_ok (T.says.fact 55 (f := .meth "Night" "go_on") rfl)
theorem Tx.m_Night_is_busy : Meth K (He.ga K "Night") "is_busy" (He.ma K (He.ga K "Night") "is_busy") := He.meth_ok (T.says.fact 56 (f := .meth "Night" "is_busy") rfl)
theorem Tx.m_Night_add : Meth K (He.ga K "Night") "add" (He.ma K (He.ga K "Night") "add") := He.meth_ok (T.says.fact 57 (f := .meth "Night" "add") rfl)
theorem Tx.m_Night_lose : Meth K (He.ga K "Night") "lose" (He.ma K (He.ga K "Night") "lose") := He.meth_ok (T.says.fact 58 (f := .meth "Night" "lose") rfl)
theorem Tx.m_Night_back : Meth K (He.ga K "Night") "back" (He.ma K (He.ga K "Night") "back") := He.meth_ok (T.says.fact 59 (f := .meth "Night" "back") rfl)
theorem Tx.m_Night_web_now : Meth K (He.ga K "Night") "web_now" (He.ma K (He.ga K "Night") "web_now") := He.meth_ok (T.says.fact 60 (f := .meth "Night" "web_now") rfl)
theorem Tx.m_Night_beat_now : Meth K (He.ga K "Night") "beat_now" (He.ma K (He.ga K "Night") "beat_now") := He.meth_ok (T.says.fact 61 (f := .meth "Night" "beat_now") rfl)
theorem Tx.m_Night_cries : Meth K (He.ga K "Night") "cries" (He.ma K (He.ga K "Night") "cries") := He.meth_ok (T.says.fact 62 (f := .meth "Night" "cries") rfl)
theorem Tx.m_Night_heard_at : Meth K (He.ga K "Night") "heard_at" (He.ma K (He.ga K "Night") "heard_at") := He.meth_ok (T.says.fact 63 (f := .meth "Night" "heard_at") rfl)
theorem Tx.m_Night_cries_heard : Meth K (He.ga K "Night") "cries_heard" (He.ma K (He.ga K "Night") "cries_heard") := He.meth_ok (T.says.fact 64 (f := .meth "Night" "cries_heard") rfl)
theorem Tx.m_Night_told : Meth K (He.ga K "Night") "told" (He.ma K (He.ga K "Night") "told") := He.meth_ok (T.says.fact 65 (f := .meth "Night" "told") rfl)
theorem Tx.m_Night_quiet_cries : Meth K (He.ga K "Night") "quiet_cries" (He.ma K (He.ga K "Night") "quiet_cries") := He.meth_ok (T.says.fact 66 (f := .meth "Night" "quiet_cries") rfl)
theorem Tx.m_Night_history : Meth K (He.ga K "Night") "history" (He.ma K (He.ga K "Night") "history") := He.meth_ok (T.says.fact 67 (f := .meth "Night" "history") rfl)
theorem Tx.m_Night_eq : Meth K (He.ga K "Night") "__eq__" (He.ma K (He.ga K "Night") "__eq__") := He.meth_ok (T.says.fact 68 (f := .meth "Night" "__eq__") rfl)
theorem Tx.m_Night_len : Meth K (He.ga K "Night") "__len__" (He.ma K (He.ga K "Night") "__len__") := He.meth_ok (T.says.fact 69 (f := .meth "Night" "__len__") rfl)
theorem Tx.g__law_reel : mg "_law_reel" = some (.ref (He.ga K "_law_reel")) := by
  obtain ⟨h, X, G⟩ := T.ex
  exact He.glo_ok X G (T.says.fact 70 (f := .glo "_law_reel") rfl)
theorem Tx.g__law_draw : mg "_law_draw" = some (.ref (He.ga K "_law_draw")) := by
  obtain ⟨h, X, G⟩ := T.ex
  exact He.glo_ok X G (T.says.fact 71 (f := .glo "_law_draw") rfl)
theorem Tx.g__law_name : mg "_law_name" = some (.ref (He.ga K "_law_name")) := by
  obtain ⟨h, X, G⟩ := T.ex
  exact He.glo_ok X G (T.says.fact 72 (f := .glo "_law_name") rfl)
theorem Tx.g__law_beats : mg "_law_beats" = some (.ref (He.ga K "_law_beats")) := by
  obtain ⟨h, X, G⟩ := T.ex
  exact He.glo_ok X G (T.says.fact 73 (f := .glo "_law_beats") rfl)
theorem Tx.g__law_web : mg "_law_web" = some (.ref (He.ga K "_law_web")) := by
  obtain ⟨h, X, G⟩ := T.ex
  exact He.glo_ok X G (T.says.fact 74 (f := .glo "_law_web") rfl)
theorem Tx.g__law_lot : mg "_law_lot" = some (.ref (He.ga K "_law_lot")) := by
  obtain ⟨h, X, G⟩ := T.ex
  exact He.glo_ok X G (T.says.fact 75 (f := .glo "_law_lot") rfl)
theorem Tx.g__law_spot : mg "_law_spot" = some (.ref (He.ga K "_law_spot")) := by
  obtain ⟨h, X, G⟩ := T.ex
  exact He.glo_ok X G (T.says.fact 76 (f := .glo "_law_spot") rfl)
theorem Tx.g__law_quiet : mg "_law_quiet" = some (.ref (He.ga K "_law_quiet")) := by
  obtain ⟨h, X, G⟩ := T.ex
  exact He.glo_ok X G (T.says.fact 77 (f := .glo "_law_quiet") rfl)
theorem Tx.g__law_told_right : mg "_law_told_right" = some (.ref (He.ga K "_law_told_right")) := by
  obtain ⟨h, X, G⟩ := T.ex
  exact He.glo_ok X G (T.says.fact 78 (f := .glo "_law_told_right") rfl)
theorem Tx.g__law_changed : mg "_law_changed" = some (.ref (He.ga K "_law_changed")) := by
  obtain ⟨h, X, G⟩ := T.ex
  exact He.glo_ok X G (T.says.fact 79 (f := .glo "_law_changed") rfl)
theorem Tx.g__law_way_done : mg "_law_way_done" = some (.ref (He.ga K "_law_way_done")) := by
  obtain ⟨h, X, G⟩ := T.ex
  exact He.glo_ok X G (T.says.fact 80 (f := .glo "_law_way_done") rfl)
theorem Tx.g__law_deed_right : mg "_law_deed_right" = some (.ref (He.ga K "_law_deed_right")) := by
  obtain ⟨h, X, G⟩ := T.ex
  exact He.glo_ok X G (T.says.fact 81 (f := .glo "_law_deed_right") rfl)
theorem Tx.g__law_undone : mg "_law_undone" = some (.ref (He.ga K "_law_undone")) := by
  obtain ⟨h, X, G⟩ := T.ex
  exact He.glo_ok X G (T.says.fact 82 (f := .glo "_law_undone") rfl)
theorem Tx.g__law_right : mg "_law_right" = some (.ref (He.ga K "_law_right")) := by
  obtain ⟨h, X, G⟩ := T.ex
  exact He.glo_ok X G (T.says.fact 83 (f := .glo "_law_right") rfl)
theorem Tx.g_law : mg "law" = some (.ref (He.ga K "law")) := by
  obtain ⟨h, X, G⟩ := T.ex
  exact He.glo_ok X G (T.says.fact 84 (f := .glo "law") rfl)
theorem Tx.n_Doubled_beside : NoAttr K (He.ga K "Doubled") "beside" := He.noat_ok (T.says.fact 85 (f := .noat "Doubled" "beside") rfl)
theorem Tx.n_Cry_own : NoAttr K (He.ga K "Cry") "own" := He.noat_ok (T.says.fact 86 (f := .noat "Cry" "own") rfl)
theorem Tx.n_Cry_begun_by : NoAttr K (He.ga K "Cry") "begun_by" := He.noat_ok (T.says.fact 87 (f := .noat "Cry" "begun_by") rfl)
theorem Tx.n_Cry_by_folk : NoAttr K (He.ga K "Cry") "by_folk" := He.noat_ok (T.says.fact 88 (f := .noat "Cry" "by_folk") rfl)
theorem Tx.n_Begun_name : NoAttr K (He.ga K "Begun") "name" := He.noat_ok (T.says.fact 89 (f := .noat "Begun" "name") rfl)
theorem Tx.n_Begun_since : NoAttr K (He.ga K "Begun") "since" := He.noat_ok (T.says.fact 90 (f := .noat "Begun" "since") rfl)
theorem Tx.n_Begun_lot : NoAttr K (He.ga K "Begun") "lot" := He.noat_ok (T.says.fact 91 (f := .noat "Begun" "lot") rfl)
theorem Tx.n_Begun_in_web : NoAttr K (He.ga K "Begun") "in_web" := He.noat_ok (T.says.fact 92 (f := .noat "Begun" "in_web") rfl)
theorem Tx.n_Night_own : NoAttr K (He.ga K "Night") "own" := He.noat_ok (T.says.fact 93 (f := .noat "Night" "own") rfl)
theorem Tx.n_Night_at : NoAttr K (He.ga K "Night") "at" := He.noat_ok (T.says.fact 94 (f := .noat "Night" "at") rfl)
theorem Tx.n_Night_begun_cries : NoAttr K (He.ga K "Night") "begun_cries" := He.noat_ok (T.says.fact 95 (f := .noat "Night" "begun_cries") rfl)
theorem Tx.n_Night_past : NoAttr K (He.ga K "Night") "past" := He.noat_ok (T.says.fact 96 (f := .noat "Night" "past") rfl)
theorem Tx.n_Night_deeds_done : NoAttr K (He.ga K "Night") "deeds_done" := He.noat_ok (T.says.fact 97 (f := .noat "Night" "deeds_done") rfl)
theorem Tx.g_Busy : mg "Busy" = some (.ref (He.ga K "Busy")) := by
  obtain ⟨h, X, G⟩ := T.ex
  exact He.glo_ok X G (T.says.fact 98 (f := .glo "Busy") rfl)
theorem Tx.exc_Busy : (He.Fa.exc "Busy").ok K = true := T.says.fact 99 (f := .exc "Busy") rfl
theorem Tx.exm_Busy : (He.Fa.exm "Busy" "Busy" true).ok K = true := T.says.fact 100 (f := .exm "Busy" "Busy" true) rfl
theorem Tx.keep_Busy : (He.Fa.keep "Busy").ok K = true := T.says.fact 101 (f := .keep "Busy") rfl
theorem Tx.f_len : mg "len" = none := by
  obtain ⟨h, X, G⟩ := T.ex
  exact He.free_ok X G (T.says.fact 102 (f := .free "len") rfl)
theorem Tx.f_range : mg "range" = none := by
  obtain ⟨h, X, G⟩ := T.ex
  exact He.free_ok X G (T.says.fact 103 (f := .free "range") rfl)
theorem Tx.f_min : mg "min" = none := by
  obtain ⟨h, X, G⟩ := T.ex
  exact He.free_ok X G (T.says.fact 104 (f := .free "min") rfl)
theorem Tx.f_max : mg "max" = none := by
  obtain ⟨h, X, G⟩ := T.ex
  exact He.free_ok X G (T.says.fact 105 (f := .free "max") rfl)
theorem Tx.f_sum : mg "sum" = none := by
  obtain ⟨h, X, G⟩ := T.ex
  exact He.free_ok X G (T.says.fact 106 (f := .free "sum") rfl)
theorem Tx.f_sorted : mg "sorted" = none := by
  obtain ⟨h, X, G⟩ := T.ex
  exact He.free_ok X G (T.says.fact 107 (f := .free "sorted") rfl)
theorem Tx.f_set : mg "set" = none := by
  obtain ⟨h, X, G⟩ := T.ex
  exact He.free_ok X G (T.says.fact 108 (f := .free "set") rfl)
theorem Tx.f_list : mg "list" = none := by
  obtain ⟨h, X, G⟩ := T.ex
  exact He.free_ok X G (T.says.fact 109 (f := .free "list") rfl)
theorem Tx.f_tuple : mg "tuple" = none := by
  obtain ⟨h, X, G⟩ := T.ex
  exact He.free_ok X G (T.says.fact 110 (f := .free "tuple") rfl)
theorem Tx.f_isinstance : mg "isinstance" = none := by
  obtain ⟨h, X, G⟩ := T.ex
  exact He.free_ok X G (T.says.fact 111 (f := .free "isinstance") rfl)
theorem Tx.f_int : mg "int" = none := by
  obtain ⟨h, X, G⟩ := T.ex
  exact He.free_ok X G (T.says.fact 112 (f := .free "int") rfl)
theorem Tx.f_str : mg "str" = none := by
  obtain ⟨h, X, G⟩ := T.ex
  exact He.free_ok X G (T.says.fact 113 (f := .free "str") rfl)
theorem Tx.f_bool : mg "bool" = none := by
  obtain ⟨h, X, G⟩ := T.ex
  exact He.free_ok X G (T.says.fact 114 (f := .free "bool") rfl)
theorem Tx.f_all : mg "all" = none := by
  obtain ⟨h, X, G⟩ := T.ex
  exact He.free_ok X G (T.says.fact 115 (f := .free "all") rfl)
theorem Tx.f_any : mg "any" = none := by
  obtain ⟨h, X, G⟩ := T.ex
  exact He.free_ok X G (T.says.fact 116 (f := .free "any") rfl)
theorem Tx.f_abs : mg "abs" = none := by
  obtain ⟨h, X, G⟩ := T.ex
  exact He.free_ok X G (T.says.fact 117 (f := .free "abs") rfl)
theorem Tx.f_enumerate : mg "enumerate" = none := by
  obtain ⟨h, X, G⟩ := T.ex
  exact He.free_ok X G (T.says.fact 118 (f := .free "enumerate") rfl)
theorem Tx.f_zip : mg "zip" = none := by
  obtain ⟨h, X, G⟩ := T.ex
  exact He.free_ok X G (T.says.fact 119 (f := .free "zip") rfl)
theorem Tx.i_MOST_LETTERS : ∃ u, mg "MOST_LETTERS" = some u ∧ RelV (.int 8) u := by
  obtain ⟨h, X, G⟩ := T.ex
  obtain ⟨t, e⟩ := He.int_ok X G (T.says.fact 120 (f := .int "MOST_LETTERS" 8) rfl)
  exact ⟨_, e, t, rfl⟩
theorem Tx.i_MOST_FOLK : ∃ u, mg "MOST_FOLK" = some u ∧ RelV (.int 60) u := by
  obtain ⟨h, X, G⟩ := T.ex
  obtain ⟨t, e⟩ := He.int_ok X G (T.says.fact 121 (f := .int "MOST_FOLK" 60) rfl)
  exact ⟨_, e, t, rfl⟩
theorem Tx.i_MOST_WAYS : ∃ u, mg "MOST_WAYS" = some u ∧ RelV (.int 150) u := by
  obtain ⟨h, X, G⟩ := T.ex
  obtain ⟨t, e⟩ := He.int_ok X G (T.says.fact 122 (f := .int "MOST_WAYS" 150) rfl)
  exact ⟨_, e, t, rfl⟩
theorem Tx.i_MOST_BEATS : ∃ u, mg "MOST_BEATS" = some u ∧ RelV (.int 1000000000000) u := by
  obtain ⟨h, X, G⟩ := T.ex
  obtain ⟨t, e⟩ := He.int_ok X G (T.says.fact 123 (f := .int "MOST_BEATS" 1000000000000) rfl)
  exact ⟨_, e, t, rfl⟩
theorem Tx.i_MOST_GONE : ∃ u, mg "MOST_GONE" = some u ∧ RelV (.int 1000000000000000000000000000000) u := by
  obtain ⟨h, X, G⟩ := T.ex
  obtain ⟨t, e⟩ := He.int_ok X G (T.says.fact 124 (f := .int "MOST_GONE" 1000000000000000000000000000000) rfl)
  exact ⟨_, e, t, rfl⟩
theorem Tx.s_LETTERS : ∃ u, mg "LETTERS" = some u ∧ RelV (.str "abcdefghijklmnopqrstuvwxyz") u := by
  obtain ⟨h, X, G⟩ := T.ex
  obtain ⟨t, e⟩ := He.str_ok X G (T.says.fact 125 (f := .str "LETTERS" "abcdefghijklmnopqrstuvwxyz") rfl)
  exact ⟨_, e, t, rfl⟩
theorem Tx.fd_Doubled_init : ∃ fd, FunD K "__init__" "Doubled.__init__" (defArgs (inClass (top 2) 0)) (defBody (inClass (top 2) 0)) (defScope (inClass (top 2) 0)) [] [] (He.ma K (He.ga K "Doubled") "__init__") fd := T.says.def_ 0 (d := d_Doubled_init) rfl
theorem Tx.fd_Doubled_reaches_of : ∃ fd, FunD K "reaches_of" "Doubled.reaches_of" (defArgs (inClass (top 2) 1)) (defBody (inClass (top 2) 1)) (defScope (inClass (top 2) 1)) [] [] (He.ma K (He.ga K "Doubled") "reaches_of") fd := T.says.def_ 1 (d := d_Doubled_reaches_of) rfl
theorem Tx.fd_lesser : ∃ fd, FunD K "lesser" "lesser" (defArgs (top 3)) (defBody (top 3)) (defScope (top 3)) [] [] (He.ga K "lesser") fd := T.says.def_ 2 (d := d_lesser) rfl
theorem Tx.fd_more : ∃ fd, FunD K "more" "more" (defArgs (top 4)) (defBody (top 4)) (defScope (top 4)) [] [] (He.ga K "more") fd := T.says.def_ 3 (d := d_more) rfl
theorem Tx.fd_spot_reaches : ∃ fd, FunD K "spot_reaches" "spot_reaches" (defArgs (top 5)) (defBody (top 5)) (defScope (top 5)) [] [] (He.ga K "spot_reaches") fd := T.says.def_ 4 (d := d_spot_reaches) rfl
theorem Tx.fd_fronts : ∃ fd, FunD K "fronts" "fronts" (defArgs (top 6)) (defBody (top 6)) (defScope (top 6)) [] [] (He.ga K "fronts") fd := T.says.def_ 5 (d := d_fronts) rfl
theorem Tx.fd_is_whole : ∃ fd, FunD K "is_whole" "is_whole" (defArgs (top 27)) (defBody (top 27)) (defScope (top 27)) [.non] [] (He.ga K "is_whole") fd := T.says.def_ 6 (d := d_is_whole) rfl
theorem Tx.fd_is_name : ∃ fd, FunD K "is_name" "is_name" (defArgs (top 28)) (defBody (top 28)) (defScope (top 28)) [] [] (He.ga K "is_name") fd := T.says.def_ 7 (d := d_is_name) rfl
theorem Tx.fd_is_listed : ∃ fd, FunD K "is_listed" "is_listed" (defArgs (top 29)) (defBody (top 29)) (defScope (top 29)) [] [] (He.ga K "is_listed") fd := T.says.def_ 8 (d := d_is_listed) rfl
theorem Tx.fd_is_rising : ∃ fd, FunD K "is_rising" "is_rising" (defArgs (top 30)) (defBody (top 30)) (defScope (top 30)) [] [] (He.ga K "is_rising") fd := T.says.def_ 9 (d := d_is_rising) rfl
theorem Tx.fd_is_folk : ∃ fd, FunD K "is_folk" "is_folk" (defArgs (top 31)) (defBody (top 31)) (defScope (top 31)) [] [] (He.ga K "is_folk") fd := T.says.def_ 10 (d := d_is_folk) rfl
theorem Tx.fd_is_way : ∃ fd, FunD K "is_way" "is_way" (defArgs (top 32)) (defBody (top 32)) (defScope (top 32)) [] [] (He.ga K "is_way") fd := T.says.def_ 11 (d := d_is_way) rfl
theorem Tx.fd_is_web : ∃ fd, FunD K "is_web" "is_web" (defArgs (top 33)) (defBody (top 33)) (defScope (top 33)) [] [] (He.ga K "is_web") fd := T.says.def_ 12 (d := d_is_web) rfl
theorem Tx.fd_web_of : ∃ fd, FunD K "web_of" "web_of" (defArgs (top 34)) (defBody (top 34)) (defScope (top 34)) [] [] (He.ga K "web_of") fd := T.says.def_ 13 (d := d_web_of) rfl
theorem Tx.fd_need_starters : ∃ fd, FunD K "need_starters" "need_starters" (defArgs (top 35)) (defBody (top 35)) (defScope (top 35)) [] [] (He.ga K "need_starters") fd := T.says.def_ 14 (d := d_need_starters) rfl
theorem Tx.fd_need_beat : ∃ fd, FunD K "need_beat" "need_beat" (defArgs (top 36)) (defBody (top 36)) (defScope (top 36)) [] [] (He.ga K "need_beat") fd := T.says.def_ 15 (d := d_need_beat) rfl
theorem Tx.fd_beats_between : ∃ fd, FunD K "beats_between" "beats_between" (defArgs (top 37)) (defBody (top 37)) (defScope (top 37)) [] [] (He.ga K "beats_between") fd := T.says.def_ 16 (d := d_beats_between) rfl
theorem Tx.fd_is_place : ∃ fd, FunD K "is_place" "is_place" (defArgs (top 38)) (defBody (top 38)) (defScope (top 38)) [] [] (He.ga K "is_place") fd := T.says.def_ 17 (d := d_is_place) rfl
theorem Tx.fd_need_place : ∃ fd, FunD K "need_place" "need_place" (defArgs (top 39)) (defBody (top 39)) (defScope (top 39)) [] [] (He.ga K "need_place") fd := T.says.def_ 18 (d := d_need_place) rfl
theorem Tx.fd_Cry_init : ∃ fd, FunD K "__init__" "Cry.__init__" (defArgs (inClass (top 43) 0)) (defBody (inClass (top 43) 0)) (defScope (inClass (top 43) 0)) [] [] (He.ma K (He.ga K "Cry") "__init__") fd := T.says.def_ 19 (d := d_Cry_init) rfl
theorem Tx.fd_Cry_numbers_at : ∃ fd, FunD K "numbers_at" "Cry.numbers_at" (defArgs (inClass (top 43) 1)) (defBody (inClass (top 43) 1)) (defScope (inClass (top 43) 1)) [] [] (He.ma K (He.ga K "Cry") "numbers_at") fd := T.says.def_ 20 (d := d_Cry_numbers_at) rfl
theorem Tx.fd_hearings : ∃ fd, FunD K "hearings" "hearings" (defArgs (top 44)) (defBody (top 44)) (defScope (top 44)) [] [] (He.ga K "hearings") fd := T.says.def_ 21 (d := d_hearings) rfl
theorem Tx.fd_all_fronts : ∃ fd, FunD K "all_fronts" "all_fronts" (defArgs (top 46)) (defBody (top 46)) (defScope (top 46)) [] [] (He.ga K "all_fronts") fd := T.says.def_ 22 (d := d_all_fronts) rfl
theorem Tx.fd_within : ∃ fd, FunD K "within" "within" (defArgs (top 47)) (defBody (top 47)) (defScope (top 47)) [] [] (He.ga K "within") fd := T.says.def_ 23 (d := d_within) rfl
theorem Tx.fd_numbers_heard : ∃ fd, FunD K "numbers_heard" "numbers_heard" (defArgs (top 48)) (defBody (top 48)) (defScope (top 48)) [] [] (He.ga K "numbers_heard") fd := T.says.def_ 24 (d := d_numbers_heard) rfl
theorem Tx.fd_spans_heard : ∃ fd, FunD K "spans_heard" "spans_heard" (defArgs (top 49)) (defBody (top 49)) (defScope (top 49)) [] [] (He.ga K "spans_heard") fd := T.says.def_ 25 (d := d_spans_heard) rfl
theorem Tx.fd_spans_of_all : ∃ fd, FunD K "spans_of_all" "spans_of_all" (defArgs (top 50)) (defBody (top 50)) (defScope (top 50)) [] [] (He.ga K "spans_of_all") fd := T.says.def_ 26 (d := d_spans_of_all) rfl
theorem Tx.fd_tellings : ∃ fd, FunD K "tellings" "tellings" (defArgs (top 51)) (defBody (top 51)) (defScope (top 51)) [] [] (He.ga K "tellings") fd := T.says.def_ 27 (d := d_tellings) rfl
theorem Tx.fd_tellings_by : ∃ fd, FunD K "tellings_by" "tellings_by" (defArgs (top 52)) (defBody (top 52)) (defScope (top 52)) [] [] (He.ga K "tellings_by") fd := T.says.def_ 28 (d := d_tellings_by) rfl
theorem Tx.fd_last_beat : ∃ fd, FunD K "last_beat" "last_beat" (defArgs (top 53)) (defBody (top 53)) (defScope (top 53)) [] [] (He.ga K "last_beat") fd := T.says.def_ 29 (d := d_last_beat) rfl
theorem Tx.fd_need_two : ∃ fd, FunD K "need_two" "need_two" (defArgs (top 55)) (defBody (top 55)) (defScope (top 55)) [] [] (He.ga K "need_two") fd := T.says.def_ 30 (d := d_need_two) rfl
theorem Tx.fd_with_way : ∃ fd, FunD K "with_way" "with_way" (defArgs (top 56)) (defBody (top 56)) (defScope (top 56)) [] [] (He.ga K "with_way") fd := T.says.def_ 31 (d := d_with_way) rfl
theorem Tx.fd_without : ∃ fd, FunD K "without" "without" (defArgs (top 57)) (defBody (top 57)) (defScope (top 57)) [] [] (He.ga K "without") fd := T.says.def_ 32 (d := d_without) rfl
theorem Tx.fd_without_way : ∃ fd, FunD K "without_way" "without_way" (defArgs (top 58)) (defBody (top 58)) (defScope (top 58)) [] [] (He.ga K "without_way") fd := T.says.def_ 33 (d := d_without_way) rfl
theorem Tx.fd_Begun_init : ∃ fd, FunD K "__init__" "Begun.__init__" (defArgs (inClass (top 61) 0)) (defBody (inClass (top 61) 0)) (defScope (inClass (top 61) 0)) [] [] (He.ma K (He.ga K "Begun") "__init__") fd := T.says.def_ 34 (d := d_Begun_init) rfl
theorem Tx.fd_Begun_plain : ∃ fd, FunD K "plain" "Begun.plain" (defArgs (inClass (top 61) 1)) (defBody (inClass (top 61) 1)) (defScope (inClass (top 61) 1)) [] [] (He.ma K (He.ga K "Begun") "plain") fd := T.says.def_ 35 (d := d_Begun_plain) rfl
theorem Tx.fd_Begun_last : ∃ fd, FunD K "last" "Begun.last" (defArgs (inClass (top 61) 2)) (defBody (inClass (top 61) 2)) (defScope (inClass (top 61) 2)) [] [] (He.ma K (He.ga K "Begun") "last") fd := T.says.def_ 36 (d := d_Begun_last) rfl
theorem Tx.fd_Begun_beats_at : ∃ fd, FunD K "beats_at" "Begun.beats_at" (defArgs (inClass (top 61) 3)) (defBody (inClass (top 61) 3)) (defScope (inClass (top 61) 3)) [] [] (He.ma K (He.ga K "Begun") "beats_at") fd := T.says.def_ 37 (d := d_Begun_beats_at) rfl
theorem Tx.fd_copy_of : ∃ fd, FunD K "copy_of" "copy_of" (defArgs (top 62)) (defBody (top 62)) (defScope (top 62)) [] [] (He.ga K "copy_of") fd := T.says.def_ 38 (d := d_copy_of) rfl
theorem Tx.fd_Night_init : ∃ fd, FunD K "__init__" "Night.__init__" (defArgs (inClass (top 63) 0)) (defBody (inClass (top 63) 0)) (defScope (inClass (top 63) 0)) [] [] (He.ma K (He.ga K "Night") "__init__") fd := T.says.def_ 39 (d := d_Night_init) rfl
theorem Tx.fd_Night_need_cry : ∃ fd, FunD K "need_cry" "Night.need_cry" (defArgs (inClass (top 63) 1)) (defBody (inClass (top 63) 1)) (defScope (inClass (top 63) 1)) [] [] (He.ma K (He.ga K "Night") "need_cry") fd := T.says.def_ 40 (d := d_Night_need_cry) rfl
theorem Tx.fd_Night_keep : ∃ fd, FunD K "keep" "Night.keep" (defArgs (inClass (top 63) 2)) (defBody (inClass (top 63) 2)) (defScope (inClass (top 63) 2)) [] [] (He.ma K (He.ga K "Night") "keep") fd := T.says.def_ 41 (d := d_Night_keep) rfl
theorem Tx.fd_Night_begin : ∃ fd, FunD K "begin" "Night.begin" (defArgs (inClass (top 63) 3)) (defBody (inClass (top 63) 3)) (defScope (inClass (top 63) 3)) [] [] (He.ma K (He.ga K "Night") "begin") fd := T.says.def_ 42 (d := d_Night_begin) rfl
theorem Tx.fd_Night_go_on : ∃ fd, FunD K "go_on" "Night.go_on" (defArgs (inClass (top 63) 4)) (defBody (inClass (top 63) 4)) (defScope (inClass (top 63) 4)) [] [] (He.ma K (He.ga K "Night") "go_on") fd := T.says.def_ 43 (d := d_Night_go_on) rfl
theorem Tx.fd_Night_is_busy : ∃ fd, FunD K "is_busy" "Night.is_busy" (defArgs (inClass (top 63) 5)) (defBody (inClass (top 63) 5)) (defScope (inClass (top 63) 5)) [] [] (He.ma K (He.ga K "Night") "is_busy") fd := T.says.def_ 44 (d := d_Night_is_busy) rfl
theorem Tx.fd_Night_add : ∃ fd, FunD K "add" "Night.add" (defArgs (inClass (top 63) 6)) (defBody (inClass (top 63) 6)) (defScope (inClass (top 63) 6)) [] [] (He.ma K (He.ga K "Night") "add") fd := T.says.def_ 45 (d := d_Night_add) rfl
theorem Tx.fd_Night_lose : ∃ fd, FunD K "lose" "Night.lose" (defArgs (inClass (top 63) 7)) (defBody (inClass (top 63) 7)) (defScope (inClass (top 63) 7)) [] [] (He.ma K (He.ga K "Night") "lose") fd := T.says.def_ 46 (d := d_Night_lose) rfl
theorem Tx.fd_Night_back : ∃ fd, FunD K "back" "Night.back" (defArgs (inClass (top 63) 8)) (defBody (inClass (top 63) 8)) (defScope (inClass (top 63) 8)) [] [] (He.ma K (He.ga K "Night") "back") fd := T.says.def_ 47 (d := d_Night_back) rfl
theorem Tx.fd_Night_web_now : ∃ fd, FunD K "web_now" "Night.web_now" (defArgs (inClass (top 63) 9)) (defBody (inClass (top 63) 9)) (defScope (inClass (top 63) 9)) [] [] (He.ma K (He.ga K "Night") "web_now") fd := T.says.def_ 48 (d := d_Night_web_now) rfl
theorem Tx.fd_Night_beat_now : ∃ fd, FunD K "beat_now" "Night.beat_now" (defArgs (inClass (top 63) 10)) (defBody (inClass (top 63) 10)) (defScope (inClass (top 63) 10)) [] [] (He.ma K (He.ga K "Night") "beat_now") fd := T.says.def_ 49 (d := d_Night_beat_now) rfl
theorem Tx.fd_Night_cries : ∃ fd, FunD K "cries" "Night.cries" (defArgs (inClass (top 63) 11)) (defBody (inClass (top 63) 11)) (defScope (inClass (top 63) 11)) [] [] (He.ma K (He.ga K "Night") "cries") fd := T.says.def_ 50 (d := d_Night_cries) rfl
theorem Tx.fd_Night_heard_at : ∃ fd, FunD K "heard_at" "Night.heard_at" (defArgs (inClass (top 63) 12)) (defBody (inClass (top 63) 12)) (defScope (inClass (top 63) 12)) [] [] (He.ma K (He.ga K "Night") "heard_at") fd := T.says.def_ 51 (d := d_Night_heard_at) rfl
theorem Tx.fd_Night_cries_heard : ∃ fd, FunD K "cries_heard" "Night.cries_heard" (defArgs (inClass (top 63) 13)) (defBody (inClass (top 63) 13)) (defScope (inClass (top 63) 13)) [] [] (He.ma K (He.ga K "Night") "cries_heard") fd := T.says.def_ 52 (d := d_Night_cries_heard) rfl
theorem Tx.fd_Night_told : ∃ fd, FunD K "told" "Night.told" (defArgs (inClass (top 63) 14)) (defBody (inClass (top 63) 14)) (defScope (inClass (top 63) 14)) [] [] (He.ma K (He.ga K "Night") "told") fd := T.says.def_ 53 (d := d_Night_told) rfl
theorem Tx.fd_Night_quiet_cries : ∃ fd, FunD K "quiet_cries" "Night.quiet_cries" (defArgs (inClass (top 63) 16)) (defBody (inClass (top 63) 16)) (defScope (inClass (top 63) 16)) [] [] (He.ma K (He.ga K "Night") "quiet_cries") fd := T.says.def_ 54 (d := d_Night_quiet_cries) rfl
theorem Tx.fd_Night_history : ∃ fd, FunD K "history" "Night.history" (defArgs (inClass (top 63) 17)) (defBody (inClass (top 63) 17)) (defScope (inClass (top 63) 17)) [] [] (He.ma K (He.ga K "Night") "history") fd := T.says.def_ 55 (d := d_Night_history) rfl
theorem Tx.fd_Night_eq : ∃ fd, FunD K "__eq__" "Night.__eq__" (defArgs (inClass (top 63) 19)) (defBody (inClass (top 63) 19)) (defScope (inClass (top 63) 19)) [] [] (He.ma K (He.ga K "Night") "__eq__") fd := T.says.def_ 56 (d := d_Night_eq) rfl
theorem Tx.fd_Night_len : ∃ fd, FunD K "__len__" "Night.__len__" (defArgs (inClass (top 63) 20)) (defBody (inClass (top 63) 20)) (defScope (inClass (top 63) 20)) [] [] (He.ma K (He.ga K "Night") "__len__") fd := T.says.def_ 57 (d := d_Night_len) rfl
theorem Tx.fd_law_reel : ∃ fd, FunD K "_law_reel" "_law_reel" (defArgs (top 65)) (defBody (top 65)) (defScope (top 65)) [] [] (He.ga K "_law_reel") fd := T.says.def_ 58 (d := d_law_reel) rfl
theorem Tx.fd_law_draw : ∃ fd, FunD K "_law_draw" "_law_draw" (defArgs (top 66)) (defBody (top 66)) (defScope (top 66)) [] [] (He.ga K "_law_draw") fd := T.says.def_ 59 (d := d_law_draw) rfl
theorem Tx.fd_law_name : ∃ fd, FunD K "_law_name" "_law_name" (defArgs (top 68)) (defBody (top 68)) (defScope (top 68)) [] [] (He.ga K "_law_name") fd := T.says.def_ 60 (d := d_law_name) rfl
theorem Tx.fd_law_beats : ∃ fd, FunD K "_law_beats" "_law_beats" (defArgs (top 69)) (defBody (top 69)) (defScope (top 69)) [] [] (He.ga K "_law_beats") fd := T.says.def_ 61 (d := d_law_beats) rfl
theorem Tx.fd_law_web : ∃ fd, FunD K "_law_web" "_law_web" (defArgs (top 70)) (defBody (top 70)) (defScope (top 70)) [] [] (He.ga K "_law_web") fd := T.says.def_ 62 (d := d_law_web) rfl
theorem Tx.fd_law_lot : ∃ fd, FunD K "_law_lot" "_law_lot" (defArgs (top 71)) (defBody (top 71)) (defScope (top 71)) [] [] (He.ga K "_law_lot") fd := T.says.def_ 63 (d := d_law_lot) rfl
theorem Tx.fd_law_spot : ∃ fd, FunD K "_law_spot" "_law_spot" (defArgs (top 72)) (defBody (top 72)) (defScope (top 72)) [] [] (He.ga K "_law_spot") fd := T.says.def_ 64 (d := d_law_spot) rfl
theorem Tx.fd_law_quiet : ∃ fd, FunD K "_law_quiet" "_law_quiet" (defArgs (top 73)) (defBody (top 73)) (defScope (top 73)) [] [] (He.ga K "_law_quiet") fd := T.says.def_ 65 (d := d_law_quiet) rfl
theorem Tx.fd_law_told_right : ∃ fd, FunD K "_law_told_right" "_law_told_right" (defArgs (top 74)) (defBody (top 74)) (defScope (top 74)) [] [] (He.ga K "_law_told_right") fd := T.says.def_ 66 (d := d_law_told_right) rfl
theorem Tx.fd_law_changed : ∃ fd, FunD K "_law_changed" "_law_changed" (defArgs (top 75)) (defBody (top 75)) (defScope (top 75)) [] [] (He.ga K "_law_changed") fd := T.says.def_ 67 (d := d_law_changed) rfl
theorem Tx.fd_law_way_done : ∃ fd, FunD K "_law_way_done" "_law_way_done" (defArgs (top 76)) (defBody (top 76)) (defScope (top 76)) [] [] (He.ga K "_law_way_done") fd := T.says.def_ 68 (d := d_law_way_done) rfl
theorem Tx.fd_law_deed_right : ∃ fd, FunD K "_law_deed_right" "_law_deed_right" (defArgs (top 77)) (defBody (top 77)) (defScope (top 77)) [] [] (He.ga K "_law_deed_right") fd := T.says.def_ 69 (d := d_law_deed_right) rfl
theorem Tx.fd_law_undone : ∃ fd, FunD K "_law_undone" "_law_undone" (defArgs (top 78)) (defBody (top 78)) (defScope (top 78)) [] [] (He.ga K "_law_undone") fd := T.says.def_ 70 (d := d_law_undone) rfl
theorem Tx.fd_law_right : ∃ fd, FunD K "_law_right" "_law_right" (defArgs (top 79)) (defBody (top 79)) (defScope (top 79)) [] [] (He.ga K "_law_right") fd := T.says.def_ 71 (d := d_law_right) rfl
theorem Tx.fd_law : ∃ fd, FunD K "law" "law" (defArgs (top 80)) (defBody (top 80)) (defScope (top 80)) [] [] (He.ga K "law") fd := T.says.def_ 72 (d := d_law) rfl
end
/-! ### calls -/
structure Cal (P : Program) (w : World) (K : PySem.W.Frag) (mg : Str → Option Value) (base : Heap) (k : Nat) (x : Str) (sp : Sp) (dvs : List V) : Prop where
  ex : ∃ (f : Addr) (fd : FuncData) (ps : List Str) (ds : List Value), FnOk P w K mg base CX0 k f fd ps sp ∧ mg x = some (.ref f) ∧ PySem.W.keepIn K (.ref f) = true ∧ Binds K fd ps ds ∧ Vals dvs ds
structure Met (P : Program) (w : World) (K : PySem.W.Frag) (mg : Str → Option Value) (base : Heap) (k : Nat) (C : Addr) (m : Str) (sp : Sp) : Prop where
  ex : ∃ (f : Addr) (fd : FuncData) (ps : List Str), Cls K C ∧ Meth K C m f ∧ FnOk P w K mg base CX0 k f fd ps sp ∧ Binds K fd ps []
structure Mak (P : Program) (w : World) (K : PySem.W.Frag) (mg : Str → Option Value) (base : Heap) (k : Nat) (x : Str) (C : Addr) (sp : Sp) : Prop where
  ex : ∃ (f : Addr) (fd : FuncData) (ps : List Str), Mk K C f ∧ FnOk P w K mg base CX0 k f fd ps sp ∧ mg x = some (.ref C) ∧ Binds K fd ps []
section
variable {X : Cx} {j k : Nat} {x m : Str} {C : Addr} {sp : Sp} {dvs : List V} {p pos apos : Pos} {e o : Expr} {es : List Expr} {t : TA} {ta : TE}
theorem pe_gv {v : V} (hg : Gl X x) (h : ∃ u, X.mg x = some u ∧ RelV v u) (hd : (x == ("__debug__" : Str)) = false := by decide) : PE X (.Name x pos) (tC v) := by
  obtain ⟨u, h1, h2⟩ := h
  exact pe_glob hg h1 h2 hd
theorem pe_c (c : Cal X.prog X.w X.K X.mg X.base k x sp dvs) (hr : Room j X.A) (hk : k ≤ j) (hg : Gl X x) (ha : PA X (e :: es) t)
    (hdb : (x == ("__debug__" : Str)) = false := by decide) (he : starEach (e :: es) X.env = (false, eval e X.env) :: starEach es X.env := by rfl) (hpl : (backTo pos (starEach es X.env)).any (·.1) = false := by rfl) :
    PE X (.Call (.Name x p) (e :: es) [] pos) (tCall sp dvs E0 t) := by
  obtain ⟨f, fd, ps, ds, F, hm, kp, b, d⟩ := c.ex
  exact pe_call F (hr.mono hk) hg hm kp b d pass0 ha hdb he hpl
theorem pe_mk (c : Mak X.prog X.w X.K X.mg X.base k x C sp) (hr : Room j X.A) (hk : k + 1 ≤ j) (hg : Gl X x) (ha : PA X (e :: es) t)
    (hdb : (x == ("__debug__" : Str)) = false := by decide) (he : starEach (e :: es) X.env = (false, eval e X.env) :: starEach es X.env := by rfl) (hpl : (backTo pos (starEach es X.env)).any (·.1) = false := by rfl) :
    PE X (.Call (.Name x p) (e :: es) [] pos) (tMake C sp [] E0 t) := by
  obtain ⟨f, fd, ps, M, F, hm, b⟩ := c.ex
  exact pe_make M F (hr.mono hk) hg hm b .nil pass0 ha hdb he hpl
theorem pe_mt {pl : Sem Bool} (c : Met X.prog X.w X.K X.mg X.base k C m sp) (hr : Room j X.A) (hk : k ≤ j) (he : PE X o ta) (ha : PA X (e :: es) t)
    (hst : starEach (e :: es) X.env = (false, eval e X.env) :: starEach es X.env := by rfl) (hpl : (backTo pos (starEach es X.env)).any (·.1) = false := by rfl)
    (ht : eval (.Call (.Attribute o m apos) (e :: es) [] pos) X.env = (do
      let ov ← eval o X.env
      standAt apos.atName
      let (f, first) ← holding [ov] (getMethod ov m pl)
      callWith pos f first (backTo pos (starEach (e :: es) X.env)) (backToKw pos (keywordEach [] X.env))) := by rfl) :
    PE X (.Call (.Attribute o m apos) (e :: es) [] pos) (tMeth C m sp [] E0 ta t) := by
  obtain ⟨f, fd, ps, hc, hm, F, b⟩ := c.ex
  exact pe_meth (pl := pl) he hc hm F (hr.mono hk) b .nil pass0 ha hst hpl ht
theorem pe_mt0 {pl : Sem Bool} (c : Met X.prog X.w X.K X.mg X.base k C m sp) (hr : Room j X.A) (hk : k ≤ j) (he : PE X o ta)
    (ht : eval (.Call (.Attribute o m apos) [] [] pos) X.env = (do
      let ov ← eval o X.env
      standAt apos.atName
      let (f, first) ← holding [ov] (getMethod ov m pl)
      callWith pos f first (backTo pos (starEach [] X.env)) (backToKw pos (keywordEach [] X.env))) := by rfl) :
    PE X (.Call (.Attribute o m apos) [] [] pos) (tMeth C m sp [] E0 ta tNil) := by
  obtain ⟨f, fd, ps, hc, hm, F, b⟩ := c.ex
  exact pe_meth0 (pl := pl) he hc hm F (hr.mono hk) b .nil pass0 ht
end
section
variable {P : Program} {w : World} {K : PySem.W.Frag} {mg : Str → Option Value} {base : Heap} {k : Nat} {x m qual : Str} {C f : Addr} {fd : FuncData} {sp : Sp} {N ps : List Str} {params : Arguments} {body : List Stmt} {scope : Scope}
/-- a def keeps its promise -/
theorem fn_ok {dvs : List V} (F : FunD K x qual params body scope dvs [] f fd) (S : FnScope N ps scope) (len : ∀ vs H Q E, sp vs H Q E → vs.length = ps.length)
    (hbody : ∀ (cdv : Value) (A : Around) (outer : List Env) (s : Shared) (H : Hp) (E : XK), Room k (A.deeper (PyProof.Rows.envOfC qual scope s.heap.objs.size f cdv)) →
      ∃ t, PSs (cxOf CX0 P w K mg base N qual scope f cdv A outer s H E).nox body t ∧ ∀ vs Q, sp vs H Q E → t { nx := fun _ H' => Q .non H', rt := Q } (L2.start N vs) H) : FnOk P w K mg base CX0 (k + 1) f fd ps sp :=
  F.ok S len fun cdv A outer s H vs Q E hr h => by
    obtain ⟨t, h1, h2⟩ := hbody cdv A outer s H E hr
    exact ⟨t, h1.nox, h2 vs Q h⟩
theorem cal_mk (hm : mg x = some (.ref f)) (F : FunD K x qual params body scope [] [] f fd) (b : Binds K fd ps []) (ok : FnOk P w K mg base CX0 k f fd ps sp) : Cal P w K mg base k x sp [] :=
  ⟨f, fd, ps, [], ok, hm, F.kp, b, .nil⟩
end
end Z
set_option maxRecDepth 100000
set_option maxHeartbeats 4000000
/-! Z4: built-ins by values over data. Own work. -/
namespace Z
open PySem PySem.Spec L2
section
variable {K : PySem.W.Frag} {G G1 G2 : Gm} {M M1 M2 M3 : OM} {P P1 P2 : Pr}
theorem Evl.c {t : TE} {P' : Pr} {M' : OM} (h : Evl G M t P M1) (e : P = P' := by rfl) (e2 : M1 = M' := by rfl) : Evl G M t P' M' := by subst e; subst e2; exact h
theorem Rtn.c {t : TS} {P' : Pr} {M' : OM} (h : Rtn G M t P M1) (e : P = P' := by rfl) (e2 : M1 = M' := by rfl) : Rtn G M t P' M' := by subst e; subst e2; exact h
theorem EvT.c {t : TT} {b b' : Bool} {M' : OM} (h : EvT G M t b M1) (e : b = b' := by rfl) (e2 : M1 = M' := by rfl) : EvT G M t b' M' := by subst e; subst e2; exact h
theorem stas1 {vs : List V} {F : Hp} (h : Stas [P] vs F) : ∃ x, vs = [x] ∧ Sta P x F := by
  cases h with
  | cons a t => cases t; exact ⟨_, rfl, a⟩
theorem stas2 {vs : List V} {F : Hp} (h : Stas [P1, P2] vs F) : ∃ x y, vs = [x, y] ∧ Sta P1 x F ∧ Sta P2 y F := by
  cases h with
  | cons a t =>
    obtain ⟨y, rfl, b⟩ := stas1 t
    exact ⟨_, _, rfl, a, b⟩
theorem cbe_min2 {i j : Int} : CbE M (fun xs H Q => ∃ i j, xs = [.int i, .int j] ∧ Q (.int (if j < i then j else i)) H) [Dd K (.int i), Dd K (.int j)] (Dd K (.int (min i j))) M := fun vs H Q w h k => by
  obtain ⟨x, y, rfl, a, b⟩ := stas2 h
  rw [dd_int a, dd_int b]
  refine ⟨i, j, rfl, ?_⟩
  have e : (if j < i then j else i) = min i j := by by_cases q : j < i <;> simp [q] <;> omega
  rw [e]
  exact k _ H (.refl w) (dd (.int _))
theorem cbe_max2 {i j : Int} : CbE M (fun xs H Q => ∃ i j, xs = [.int i, .int j] ∧ Q (.int (if j > i then j else i)) H) [Dd K (.int i), Dd K (.int j)] (Dd K (.int (max i j))) M := fun vs H Q w h k => by
  obtain ⟨x, y, rfl, a, b⟩ := stas2 h
  rw [dd_int a, dd_int b]
  refine ⟨i, j, rfl, ?_⟩
  have e : (if j > i then j else i) = max i j := by by_cases q : j > i <;> simp [q] <;> omega
  rw [e]
  exact k _ H (.refl w) (dd (.int _))
theorem cbe_abs {i : Int} : CbE M (fun xs H Q => ∃ i, xs = [.int i] ∧ Q (.int (if i < 0 then -i else i)) H) [Dd K (.int i)] (Dd K (.int (i.natAbs : Int))) M := fun vs H Q w h k => by
  obtain ⟨x, rfl, a⟩ := stas1 h
  rw [dd_int a]
  refine ⟨i, rfl, ?_⟩
  have e : (if i < 0 then -i else i) = (i.natAbs : Int) := by by_cases q : i < 0 <;> simp [q] <;> omega
  rw [e]
  exact k _ H (.refl w) (dd (.int _))
theorem cbe_intB {b : Bool} : CbE M (fun xs H Q => (∃ i, xs = [.int i] ∧ Q (.int i) H) ∨ ∃ k, xs = [.bl k] ∧ Q (.int (if k then 1 else 0)) H) [Dd K (.bool b)] (Dd K (.int (if b then 1 else 0))) M := fun vs H Q w h k => by
  obtain ⟨x, rfl, a⟩ := stas1 h
  rw [dd_bl a]
  exact .inr ⟨b, rfl, k _ H (.refl w) (dd (.int _))⟩
theorem cbe_lenS {z : Str} (hz : z.length ≤ sizeLine) : CbE M (fun xs H Q => ∃ x n, xs = [x] ∧ LenV K x H n ∧ Q (.int n) H) [Dd K (.str z)] (Dd K (.int (z.length : Nat))) M := fun vs H Q w h k => by
  obtain ⟨x, rfl, a⟩ := stas1 h
  rw [dd_str a]
  exact ⟨_, z.length, rfl, ⟨hz, rfl⟩, k _ H (.refl w) (dd (.int _))⟩
theorem cbe_lenL {ps : List Pr} : CbE M (fun xs H Q => ∃ x n, xs = [x] ∧ LenV K x H n ∧ Q (.int n) H) [Ls K ps] (Dd K (.int (ps.length : Nat))) M := fun vs H Q w h k => by
  obtain ⟨x, rfl, a⟩ := stas1 h
  obtain ⟨b, xs, rfl, q, r⟩ := a.here
  exact ⟨_, xs.length, rfl, .inl ⟨xs, Frz_le.seq q, rfl⟩, by rw [← r.len]; exact k _ H (.refl w) (dd (.int _))⟩
theorem cbe_lenT {ps : List Pr} : CbE M (fun xs H Q => ∃ x n, xs = [x] ∧ LenV K x H n ∧ Q (.int n) H) [Tp K ps] (Dd K (.int (ps.length : Nat))) M := fun vs H Q w h k => by
  obtain ⟨x, rfl, a⟩ := stas1 h
  obtain ⟨b, xs, rfl, q, r⟩ := a.here
  exact ⟨_, xs.length, rfl, .inr ⟨xs, seqT_mono Frz_le q, rfl⟩, by rw [← r.len]; exact k _ H (.refl w) (dd (.int _))⟩
theorem cbe_lenLD {ds : List PyData} : CbE M (fun xs H Q => ∃ x n, xs = [x] ∧ LenV K x H n ∧ Q (.int n) H) [Dd K (.list ds)] (Dd K (.int (ds.length : Nat))) M := fun vs H Q w h k => by
  obtain ⟨x, rfl, a⟩ := stas1 h
  have := cbe_lenL (K := K) (ps := ds.map (Dd K)) [x] H Q w (.cons (ls_dd a) .nil)
  rw [List.length_map] at this
  exact this k
theorem cbe_lenTD {ds : List PyData} : CbE M (fun xs H Q => ∃ x n, xs = [x] ∧ LenV K x H n ∧ Q (.int n) H) [Dd K (.tuple ds)] (Dd K (.int (ds.length : Nat))) M := fun vs H Q w h k => by
  obtain ⟨x, rfl, a⟩ := stas1 h
  have := cbe_lenT (K := K) (ps := ds.map (Dd K)) [x] H Q w (.cons (tp_dd a) .nil)
  rw [List.length_map] at this
  exact this k
theorem cbe_lenO {p : Addr} {ps : List Pr} (hm : M p = some (.lst ps)) : CbE M (fun xs H Q => ∃ x n, xs = [x] ∧ LenV K x H n ∧ Q (.int n) H) [Rf p] (Dd K (.int (ps.length : Nat))) M := fun vs H Q w h k => by
  obtain ⟨x, rfl, a⟩ := stas1 h
  cases a.here
  obtain ⟨o, e1, xs, rfl, r⟩ := w.cell p _ hm
  exact ⟨_, xs.length, rfl, .inl ⟨xs, SqL.of e1, rfl⟩, by rw [← r.len]; exact k _ H (.refl w) (dd (.int _))⟩
abbrev rListOf (K : PySem.W.Frag) : List V → Hp → VK → Prop := fun xs H Q => ∃ p ys, xs = [.ref p] ∧ (SqL K H p ys ∨ SqT K H p ys) ∧ ∀ l, H l = none → Q (.ref l) (upd H l (.lst ys))
theorem cbe_listL {ps : List Pr} : CbE M (rListOf K) [Ls K ps] (Ls K ps) M := fun vs H Q w h k => by
  obtain ⟨x, rfl, a⟩ := stas1 h
  obtain ⟨b, xs, rfl, q, r⟩ := a.here
  refine ⟨b, xs, rfl, .inl (Frz_le.seq q), fun l hl => ?_⟩
  obtain ⟨s, e⟩ := Stp.alloc w hl (.lst xs)
  exact k _ _ s (ls_of (.of e) (r.mono s.frz))
theorem cbe_listT {ps : List Pr} : CbE M (rListOf K) [Tp K ps] (Ls K ps) M := fun vs H Q w h k => by
  obtain ⟨x, rfl, a⟩ := stas1 h
  obtain ⟨b, xs, rfl, q, r⟩ := a.here
  refine ⟨b, xs, rfl, .inr (seqT_mono Frz_le q), fun l hl => ?_⟩
  obtain ⟨s, e⟩ := Stp.alloc w hl (.lst xs)
  exact k _ _ s (ls_of (.of e) (r.mono s.frz))
theorem cbe_listLD {ds : List PyData} : CbE M (rListOf K) [Dd K (.list ds)] (Dd K (.list ds)) M := fun vs H Q w h k => by
  obtain ⟨x, rfl, a⟩ := stas1 h
  exact cbe_listL (K := K) [x] H Q w (.cons (ls_dd a) .nil) fun v H' s q => k v H' s (dd_ls q)
abbrev rTupOf (K : PySem.W.Frag) : List V → Hp → VK → Prop := fun xs H Q => ∃ p ys, xs = [.ref p] ∧ ((SqL K H p ys ∧ ∀ l, H l = none → Q (.ref l) (upd H l (.tup ys))) ∨ (SqT K H p ys ∧ Q (.ref p) H))
theorem cbe_tupL {ps : List Pr} : CbE M (rTupOf K) [Ls K ps] (Tp K ps) M := fun vs H Q w h k => by
  obtain ⟨x, rfl, a⟩ := stas1 h
  obtain ⟨b, xs, rfl, q, r⟩ := a.here
  refine ⟨b, xs, rfl, .inl ⟨Frz_le.seq q, fun l hl => ?_⟩⟩
  obtain ⟨s, e⟩ := Stp.alloc w hl (.tup xs)
  exact k _ _ s (tp_of (.of e) (r.mono s.frz))
theorem cbe_tupT {ps : List Pr} : CbE M (rTupOf K) [Tp K ps] (Tp K ps) M := fun vs H Q w h k => by
  obtain ⟨x, rfl, a⟩ := stas1 h
  obtain ⟨b, xs, rfl, q, r⟩ := a.here
  exact ⟨b, xs, rfl, .inr ⟨seqT_mono Frz_le q, k _ _ (.refl w) a⟩⟩
theorem cbe_tupLD {ds : List PyData} : CbE M (rTupOf K) [Dd K (.list ds)] (Dd K (.tuple ds)) M := fun vs H Q w h k => by
  obtain ⟨x, rfl, a⟩ := stas1 h
  exact cbe_tupL (K := K) [x] H Q w (.cons (ls_dd a) .nil) fun v H' s q => k v H' s (dd_tp q)
theorem cbe_tupTD {ds : List PyData} : CbE M (rTupOf K) [Dd K (.tuple ds)] (Dd K (.tuple ds)) M := fun vs H Q w h k => by
  obtain ⟨x, rfl, a⟩ := stas1 h
  exact cbe_tupT (K := K) [x] H Q w (.cons (tp_dd a) .nil) fun v H' s q => k v H' s (dd_tp q)
theorem ints_of {F : Hp} : ∀ {ns : List Int} {xs : List V}, Stas ((ns.map PyData.int).map (Dd K)) xs F → xs = ns.map V.int
  | [], _, h => by cases h; rfl
  | n :: ns, _, h => by
    cases h with
    | cons a b => rw [dd_int a, ints_of b]; rfl
theorem bls_of {F : Hp} : ∀ {ns : List Bool} {xs : List V}, Stas ((ns.map PyData.bool).map (Dd K)) xs F → xs = ns.map V.bl
  | [], _, h => by cases h; rfl
  | n :: ns, _, h => by
    cases h with
    | cons a b => rw [dd_bl a, bls_of b]; rfl
theorem strs_of {F : Hp} : ∀ {ns : List Str} {xs : List V}, Stas ((ns.map PyData.str).map (Dd K)) xs F → xs = ns.map V.str
  | [], _, h => by cases h; rfl
  | n :: ns, _, h => by
    cases h with
    | cons a b => rw [dd_str a, strs_of b]; rfl
theorem cbe_sum {ns : List Int} : CbE M (rSum K) [Dd K (.list (ns.map .int))] (Dd K (.int ns.sum)) M := fun vs H Q w h k => by
  obtain ⟨x, rfl, a⟩ := stas1 h
  obtain ⟨b, xs, rfl, q, r⟩ := dd_lst a
  rw [ints_of r] at q
  exact ⟨b, ns, rfl, Frz_le.seq q, k _ H (.refl w) (dd (.int _))⟩
theorem cbe_all {bs : List Bool} : CbE M (rAll K) [Dd K (.list (bs.map .bool))] (Dd K (.bool (bs.all id))) M := fun vs H Q w h k => by
  obtain ⟨x, rfl, a⟩ := stas1 h
  obtain ⟨b, xs, rfl, q, r⟩ := dd_lst a
  rw [bls_of r] at q
  exact ⟨b, bs, rfl, Frz_le.seq q, k _ H (.refl w) (dd (.bl _))⟩
theorem cbe_any {bs : List Bool} : CbE M (rAny K) [Dd K (.list (bs.map .bool))] (Dd K (.bool (bs.any id))) M := fun vs H Q w h k => by
  obtain ⟨x, rfl, a⟩ := stas1 h
  obtain ⟨b, xs, rfl, q, r⟩ := dd_lst a
  rw [bls_of r] at q
  exact ⟨b, bs, rfl, Frz_le.seq q, k _ H (.refl w) (dd (.bl _))⟩
/-- the name of a datum's type -/
def tyD : PyData → String
  | .none => "NoneType"
  | .bool _ => "bool"
  | .int _ => "int"
  | .str _ => "str"
  | .list _ => "list"
  | .tuple _ => "tuple"
  | .dict _ => "dict"
theorem tyx_of {d : PyData} {v : V} {H F : Hp} (s : Same F H) (h : Dp K F v d) : TyX K H v (.type (tyD d)) := by
  cases h with
  | non => exact .base (.non)
  | bl b => exact .base (.bl b)
  | int i => exact .base (.int i)
  | str x => exact .base (.str x)
  | lst q r =>
    rcases s.seq q with (q | ⟨o, q⟩) | ⟨o, its, n, e, c, _⟩
    · exact .base (.lst q)
    · exact .base (.frz q)
    · exact .kList e c
  | tup q r =>
    rcases seqT_mono s q with (q | ⟨o, q⟩) | ⟨o, its, n, e, c, _⟩
    · exact .base (.tup q)
    · exact .fTuple q
    · exact .kTuple e c
theorem cbe_isi {d : PyData} {n : String} {b : Bool} (h : kitB (tyD d) n = some b) : CbE M (rIsi K) [Dd K d, Eqv (.ty n)] (Dd K (.bool b)) M := fun vs H Q w q k => by
  obtain ⟨x, y, rfl, a, c⟩ := stas2 q
  cases c.here
  exact ⟨x, _, _, _, b, rfl, .ty n, tyx_of Frz_le a.here, kit_ty h, k _ H (.refl w) (dd (.bl _))⟩
end
end Z
set_option maxRecDepth 100000
set_option maxHeartbeats 4000000
/-! Z5: more rules by values: equality and order of data, sorted, greatest and least. Own work. -/
namespace Z
open PySem PySem.Spec L2
section
variable {X : Cx}
/-! ### == and != of data, of lists against an empty one -/
def rEqP (K : PySem.W.Frag) : R2 := fun x y H Q => (∃ d e, Dp K H x d ∧ Dp K H y e ∧ d.plain = true ∧ e.plain = true ∧ min d.depth e.depth ≤ 60 ∧ Q (.bl (PyData.eqv d e)) H) ∨
  ∃ a b xs, x = .ref a ∧ y = .ref b ∧ SqL K H a xs ∧ SqL K H b [] ∧ Q (.bl xs.isEmpty) H
def rNeP (K : PySem.W.Frag) : R2 := fun x y H Q => (∃ d e, Dp K H x d ∧ Dp K H y e ∧ d.plain = true ∧ e.plain = true ∧ min d.depth e.depth ≤ 60 ∧ Q (.bl (!PyData.eqv d e)) H) ∨
  ∃ a b xs, x = .ref a ∧ y = .ref b ∧ SqL K H a xs ∧ SqL K H b [] ∧ Q (.bl (!xs.isEmpty)) H
theorem vals_nil {us : List Value} (h : Vals [] us) : us = [] := by cases h; rfl
theorem op_eqP (hu : X.A.units + 64 < cLine) : OpR X (compareOp .Eq) (rEqP X.K) := by
  intro pins s σ H x y v u Q I rx ry h
  rcases h with ⟨d, e, hd, he, pd, pe, hl, q⟩ | ⟨a, b, xs, rfl, rfl, ha, hb, q⟩
  · obtain ⟨as, r1⟩ := Dp.reads I d x v hd rx
    obtain ⟨bs, r2⟩ := Dp.reads I e y u he ry
    exact SeqAt.eq_plain r1 r2 pd pe (by omega) ⟨.bl _, H, I, rfl, q⟩
  · cases rx
    cases ry
    obtain ⟨its, r1, p1, _⟩ := I.list ha
    obtain ⟨its2, r2, p2, _⟩ := I.list hb
    have e2 := vals_nil r2
    subst e2
    cases xs with
    | nil =>
      have e1 := vals_nil r1
      subst e1
      refine SeqAt.RcAt.lists (e := fun _ => true) p1.isList p2.isList rfl (by omega) (fun j h1 _ => absurd h1 (by simp)) _ _ _ _ ?_
      exact ⟨.bl _, H, I, rfl, q⟩
    | cons z zs =>
      cases r1 with
      | cons t tt => exact SeqAt.RcAt.lists_lengths p1.isList p2.isList (by simp) (by omega) _ _ _ _ ⟨.bl _, H, I, rfl, q⟩
theorem op_neP (hu : X.A.units + 64 < cLine) : OpR X (compareOp .NotEq) (rNeP X.K) := by
  intro pins s σ H x y v u Q I rx ry h
  rcases h with ⟨d, e, hd, he, pd, pe, hl, q⟩ | ⟨a, b, xs, rfl, rfl, ha, hb, q⟩
  · obtain ⟨as, r1⟩ := Dp.reads I d x v hd rx
    obtain ⟨bs, r2⟩ := Dp.reads I e y u he ry
    exact SeqAt.ne_plain r1 r2 pd pe (by omega) ⟨.bl _, H, I, rfl, q⟩
  · cases rx
    cases ry
    obtain ⟨its, r1, p1, _⟩ := I.list ha
    obtain ⟨its2, r2, p2, _⟩ := I.list hb
    have e2 := vals_nil r2
    subst e2
    cases xs with
    | nil =>
      have e1 := vals_nil r1
      subst e1
      refine SeqAt.RcNeAt.lists (e := fun _ => true) p1.isList p2.isList rfl (by omega) (fun j h1 _ => absurd h1 (by simp)) _ _ _ _ ?_
      exact ⟨.bl _, H, I, rfl, q⟩
    | cons z zs =>
      cases r1 with
      | cons t tt => exact SeqAt.RcNeAt.lists_lengths p1.isList p2.isList (by simp) (by omega) _ _ _ _ ⟨.bl _, H, I, rfl, q⟩
/-! ### < of alike data; in a list -/
def rLtP (K : PySem.W.Frag) : R2 := fun x y H Q => ∃ d e, Dp K H x d ∧ Dp K H y e ∧ PySem.W.alike d e = true ∧ d ≠ .none ∧ min d.depth e.depth ≤ 60 ∧ Q (.bl (PySem.W.dataLt d e)) H
def rInP (K : PySem.W.Frag) (neg : Bool) : R2 := fun x y H Q => ∃ d ds, Dp K H x d ∧ Dp K H y (.list ds) ∧ d.plain = true ∧ PyData.plainAll ds = true ∧ min (PyData.depthAll ds) d.depth ≤ 60 ∧ Q (.bl (if neg then !(ds.any fun z => PyData.eqv z d) else ds.any fun z => PyData.eqv z d)) H
theorem op_inP (hu : X.A.units + 64 < cLine) : OpR X (compareOp .In) (rInP X.K false) := by
  intro pins s σ H x y v u Q I rx ry h
  obtain ⟨d, ds, hd, he, pd, pe, hl, q⟩ := h
  obtain ⟨as, r1⟩ := Dp.reads I d x v hd rx
  obtain ⟨bs, r2⟩ := Dp.reads I (.list ds) y u he ry
  exact SeqAt.in_list_data r2 r1 pe pd (by omega) ⟨.bl _, H, I, rfl, q⟩
theorem op_notInP (hu : X.A.units + 64 < cLine) : OpR X (compareOp .NotIn) (rInP X.K true) := by
  intro pins s σ H x y v u Q I rx ry h
  obtain ⟨d, ds, hd, he, pd, pe, hl, q⟩ := h
  obtain ⟨as, r1⟩ := Dp.reads I d x v hd rx
  obtain ⟨bs, r2⟩ := Dp.reads I (.list ds) y u he ry
  exact SeqAt.notIn_list_data r2 r1 pe pd (by omega) ⟨.bl _, H, I, rfl, q⟩
theorem op_ltP (hu : X.A.units + 64 < cLine) : OpR X (compareOp .Lt) (rLtP X.K) := by
  intro pins s σ H x y v u Q I rx ry h
  obtain ⟨d, e, hd, he, al, nn, hl, q⟩ := h
  obtain ⟨as, r1⟩ := Dp.reads I d x v hd rx
  obtain ⟨bs, r2⟩ := Dp.reads I e y u he ry
  exact PySem.W.lt_data r1 r2 al nn (by omega) ⟨.bl _, H, I, rfl, q⟩

/-! ### sorted of data -/
/-- the order that sorted keeps -/
abbrev leD {β : Type} (enc : β → PyData) : β → β → Bool := PySem.W.dataLe false enc
def rSortD (K : PySem.W.Frag) : List V → Hp → VK → Prop := fun vs H Q => ∃ (β : Type) (enc : β → PyData) (bs : List β) (a : Addr) (F : Hp), vs = [V.ref a] ∧ Same F H ∧ Dp K F (.ref a) (.list (bs.map enc)) ∧ PySem.W.AllAlike (bs.map enc) ∧ PySem.W.Sortable (bs.map enc) ∧ bs.length ≤ sizeLine ∧ (∀ b ∈ bs, (enc b).depth ≤ 60) ∧
  ∀ (p : Addr) (ys : List V), H p = none → DpAll K F ys ((bs.mergeSort (leD enc)).map enc) → Q (.ref p) (upd H p (.lst ys))
theorem dpAll_each {K : PySem.W.Frag} {H : Hp} {β : Type} {enc : β → PyData} : ∀ {bs : List β} {out : List Value}, PySem.W.EachIs (fun (u : Value) b => ∃ x, RelV x u ∧ Dp K H x (enc b)) out bs → ∃ ys, Vals ys out ∧ DpAll K H ys (bs.map enc)
  | [], _, h => by cases h; exact ⟨[], .nil, .nil⟩
  | b :: bs, _, h => by
    cases h with
    | cons a t =>
      obtain ⟨x, r, d⟩ := a
      obtain ⟨ys, r2, d2⟩ := dpAll_each t
      exact ⟨x :: ys, .cons r r2, .cons d d2⟩
theorem each_dpAll {K : PySem.W.Frag} {H : Hp} {β : Type} {enc : β → PyData} : ∀ {bs : List β} {xs : List V} {its : List Value}, DpAll K H xs (bs.map enc) → Vals xs its → PySem.W.EachIs (fun (u : Value) b => ∃ x, RelV x u ∧ Dp K H x (enc b)) its bs
  | [], _, _, h, r => by cases h; cases r; exact .nil
  | b :: bs, _, _, h, r => by
    cases h with
    | cons d t => cases r with
      | cons q r => exact .cons ⟨_, q, d⟩ (each_dpAll t r)
theorem each_reads {pins : List (Addr × Obj)} {σ : L2.St} {H : Hp} {s : Shared} (I : Inv X pins σ H s) {β : Type} {enc : β → PyData} : ∀ {bs : List β} {its : List Value}, PySem.W.EachIs (fun (u : Value) b => ∃ x, RelV x u ∧ Dp X.K H x (enc b)) its bs → PySem.W.EachIs (fun v b => ∃ as, Reads s.heap v (enc b) as) its bs
  | [], _, h => by cases h; exact .nil
  | b :: bs, _, h => by
    cases h with
    | cons a t =>
      obtain ⟨x, r, d⟩ := a
      exact .cons (Dp.reads I _ _ _ d r) (each_reads I t)
theorem cr_sortD (hu : X.A.units + 64 < cLine) : CallR X (.builtin "sorted") (rSortD X.K) := by
  intro pins s σ H vs us Q I r h
  obtain ⟨β, enc, bs, a, F, rfl, hF, hd, al, so, hz, hdp, q⟩ := h
  rw [Vals.ref1 r]
  cases hd with
  | lst hs ha =>
    obtain ⟨its, rv, hl, _⟩ := I.list (hF.seq hs)
    have e1 := each_dpAll ha rv
    refine PySem.W.sorted_data (enc := enc) hl.isList e1 (each_reads I (each_dpAll (dpAll_mono hF _ _ ha) rv)) al so hz (fun b hb => by have := hdp b hb; omega) fun out hlen he => ?_
    obtain ⟨ep, he'⟩ := PyProof.Rows.sortedAll_at s.heap its (List.toArray out)
    obtain ⟨ys, r1, d1⟩ := dpAll_each he
    have hl2 : ys.length ≤ sizeLine := by rw [r1.length, hlen]; exact hz
    exact ⟨.ref _, upd H (s.heap.objs.size + 1) (.lst ys), I.laid (t' := s.toks) (fun _ _ => PyProof.Rows.sortedAll_old) (Nat.le_succ _) ⟨hl2, out, ep, r1, he'⟩, rfl, q _ ys (I.hok.fresh (Nat.le_succ _)) d1⟩

/-! ### max(xs, default=d) of data -/
def rMaxDf (K : PySem.W.Frag) : List V → List V → Hp → VK → Prop := fun vs zs H Q => ∃ (a : Addr) (ns : List Int) (n : Int), vs = [V.ref a] ∧ zs = [V.int n] ∧ SqL K H a (ns.map V.int) ∧ Q (.int (match ns with | [] => n | m :: r => r.foldl max m)) H
theorem reads_ints {h : Heap} : ∀ {ns : List Int} {us : List Value}, Vals (ns.map V.int) us → ∃ as, PySem.ReadsAll h us (ns.map PyData.int) as
  | [], _, r => by cases r; exact ⟨_, .nil⟩
  | n :: ns, _, r => by
    cases r with
    | cons a t =>
      obtain ⟨tk, rfl⟩ := a
      obtain ⟨as, h2⟩ := reads_ints t
      exact ⟨_, .cons (.int n tk) h2⟩
theorem depth_ints : ∀ ns : List Int, PyData.depthAll (ns.map PyData.int) = 0
  | [] => rfl
  | n :: ns => by
    show max 0 (PyData.depthAll (ns.map PyData.int)) = 0
    rw [depth_ints ns]; rfl
theorem cr_maxDf (hc : X.calm = true) (hu : X.A.units + 64 < cLine) : CallRK X (.builtin "max") ["default"] (rMaxDf X.K) := by
  intro pins s σ H xs zs us ws Q I r1 r2 h
  obtain ⟨a, ns, n, rfl, rfl, hs, q⟩ := h
  rw [Vals.ref1 r1]
  obtain ⟨w1, rfl, tk, rfl⟩ := vals1 r2
  obtain ⟨its, rv, hl, _⟩ := I.list hs
  obtain ⟨as, rd⟩ := reads_ints (h := s.heap) rv
  have al : PySem.W.AlikeAll (ns.map PyData.int) := ⟨fun x hx y hy => by
    obtain ⟨i, _, rfl⟩ := List.mem_map.mp hx
    obtain ⟨j, _, rfl⟩ := List.mem_map.mp hy
    rfl, fun x hx => by
    obtain ⟨i, _, rfl⟩ := List.mem_map.mp hx
    intro z; cases z⟩
  refine PySem.W.max_list_default (I.ok.hd hc) hl.isList rd al (by rw [depth_ints]; omega) (fun e0 h' tk' k => ?_) (fun y ys i v h' tk' bs ey hv hr k => ?_)
  · have : ns = [] := List.map_eq_nil_iff.mp e0
    subst this
    exact ⟨.int n, H, I.kept k, ⟨_, rfl⟩, q⟩
  · cases ns with
    | nil => cases ey
    | cons m ms =>
      have e1 : PyData.int m = y := (List.cons.inj ey).1
      have e2 : ms.map PyData.int = ys := (List.cons.inj ey).2
      subst e1; subst e2
      rw [PySem.W.maxD_ints] at hr
      cases hr
      exact ⟨.int _, H, I.kept k, ⟨_, rfl⟩, q⟩

/-! ### min, max of two texts -/
theorem cmp_texts {prog : Program} {w : World} {A : Around} {Pz : Nat → Value → Prop} (val : Nat → Str) (hval : ∀ i v, Pz i v → ∃ t, v = .str (val i) t) (hu : A.units < cLine) : CmpOf prog w A .Lt Pz fun i j => PySem.W.dataLt (.str (val i)) (.str (val j)) := by
  intro i j v u s Q E hi hj hq
  obtain ⟨t, rfl⟩ := hval i v hi
  obtain ⟨t', rfl⟩ := hval j u hj
  exact PySem.W.lt_data (.str _ _) (.str _ _) rfl (by intro z; cases z) (by simp only [PyData.depth]; omega) hq
theorem cmp_textsG {prog : Program} {w : World} {A : Around} {Pz : Nat → Value → Prop} (val : Nat → Str) (hval : ∀ i v, Pz i v → ∃ t, v = .str (val i) t) (hu : A.units < cLine) : CmpOf prog w A .Gt Pz fun i j => PySem.W.dataLt (.str (val j)) (.str (val i)) := by
  intro i j v u s Q E hi hj hq
  obtain ⟨t, rfl⟩ := hval i v hi
  obtain ⟨t', rfl⟩ := hval j u hj
  exact PySem.W.gt_data (.str _ _) (.str _ _) rfl (by intro z; cases z) (by simp only [PyData.depth]; omega) hq
/-- the two texts as the walk gives them -/
def two (a b : Str) (i : Nat) : Str := match i with
  | 0 => a
  | _ => b
theorem two_at {a b : Str} {t t' : Tok} (i : Nat) (v : Value) (h : (#[Value.str a t, Value.str b t'])[i]? = some v) : ∃ tk, v = .str (two a b i) tk := by
  match i, h with
  | 0, h =>
    have e : Value.str a t = v := by simpa using h
    exact ⟨t, e.symm⟩
  | 1, h =>
    have e : Value.str b t' = v := by simpa using h
    exact ⟨t', e.symm⟩
  | n + 2, h => simp at h
def lesserT (a b : Str) : Str := if PySem.W.dataLt (.str b) (.str a) = true then b else a
def greaterT (a b : Str) : Str := if PySem.W.dataLt (.str a) (.str b) = true then b else a
theorem call_minS (hc : X.calm = true) (hu : X.A.units + 64 < cLine) : CallR X (.builtin "min") (fun xs H Q => ∃ a b, xs = [.str a, .str b] ∧ Q (.str (lesserT a b)) H) := by
  intro pins s σ H xs us Q I r h
  obtain ⟨a, b, rfl, q⟩ := h
  obtain ⟨u1, u2, rfl, ⟨t, rfl⟩, ⟨t', rfl⟩⟩ := vals2 r
  have isT : (s.heap.push { cls := .type "tuple", data := .seq #[.str a t, .str b t'] }).IsTuple s.heap.objs.size #[.str a t, .str b t'] := ⟨_, Heap.get?_push_size _ rfl, rfl, 0, rfl⟩
  have sz : (s.heap.push { cls := .type "tuple", data := .seq #[.str a t, .str b t'] }).objs.size = s.heap.objs.size + 1 := Heap.size_push ..
  refine call_min_two (wpAny_pyIter_tuple isT ?_)
  have ne : s.heap.objs.size ≠ (s.heap.push { cls := .type "tuple", data := .seq #[.str a t, .str b t'] }).objs.size := by rw [sz]; exact Nat.ne_of_lt (Nat.lt_succ_self _)
  refine ⟨_, [_, s.heap.objs.size], [_], _, _, _, _, rfl, Walks.tuple (A := X.A.in1) (I.ok.hd hc) _ s.heap.objs.size ne #[.str a t, .str b t'], ⟨⟨_, Heap.get?_push_size _ rfl, rfl, rfl⟩, isT.push _⟩, fun c hc' => ?_, by simp, cmp_texts (two a b) two_at (by show X.A.units + 1 < cLine; omega), fun v h' tk hP hk => ?_⟩
  · rw [Heap.size_push, sz]
    rcases List.mem_cons.mp hc' with e | hc'
    · rw [e, sz]; exact Nat.lt_succ_self _
    · rw [List.mem_singleton.mp hc']; exact Nat.lt_succ_of_lt (Nat.lt_succ_self _)
  · have kept : ∀ c o, s.heap.get? c = some o → h'.get? c = some o := fun c o e => by
      refine hk c o (fun hm => ?_) (Heap.get?_push_of_some _ (Heap.get?_push_of_some _ e))
      have lt := Heap.lt_size e
      rw [List.mem_singleton.mp hm, sz] at lt
      exact absurd lt (Nat.not_lt.mpr (Nat.le_succ _))
    refine ⟨.str (lesserT a b), H, I.kept kept, ?_, q⟩
    have hP2 : (#[Value.str a t, Value.str b t'])[argBest (fun i j => PySem.W.dataLt (.str (two a b i)) (.str (two a b j))) 1]? = some v := hP
    unfold lesserT
    cases hb : PySem.W.dataLt (.str b) (.str a) with
    | true =>
      have e : argBest (fun i j => PySem.W.dataLt (.str (two a b i)) (.str (two a b j))) 1 = 1 := by simp [argBest, two, hb]
      rw [e] at hP2
      exact ⟨t', by simpa using hP2.symm⟩
    | false =>
      have e : argBest (fun i j => PySem.W.dataLt (.str (two a b i)) (.str (two a b j))) 1 = 0 := by simp [argBest, two, hb]
      rw [e] at hP2
      exact ⟨t, by simpa using hP2.symm⟩
theorem call_maxS (hc : X.calm = true) (hu : X.A.units + 64 < cLine) : CallR X (.builtin "max") (fun xs H Q => ∃ a b, xs = [.str a, .str b] ∧ Q (.str (greaterT a b)) H) := by
  intro pins s σ H xs us Q I r h
  obtain ⟨a, b, rfl, q⟩ := h
  obtain ⟨u1, u2, rfl, ⟨t, rfl⟩, ⟨t', rfl⟩⟩ := vals2 r
  have isT : (s.heap.push { cls := .type "tuple", data := .seq #[.str a t, .str b t'] }).IsTuple s.heap.objs.size #[.str a t, .str b t'] := ⟨_, Heap.get?_push_size _ rfl, rfl, 0, rfl⟩
  have sz : (s.heap.push { cls := .type "tuple", data := .seq #[.str a t, .str b t'] }).objs.size = s.heap.objs.size + 1 := Heap.size_push ..
  refine call_max_two (wpAny_pyIter_tuple isT ?_)
  have ne : s.heap.objs.size ≠ (s.heap.push { cls := .type "tuple", data := .seq #[.str a t, .str b t'] }).objs.size := by rw [sz]; exact Nat.ne_of_lt (Nat.lt_succ_self _)
  refine ⟨_, [_, s.heap.objs.size], [_], _, _, _, _, rfl, Walks.tuple (A := X.A.in1) (I.ok.hd hc) _ s.heap.objs.size ne #[.str a t, .str b t'], ⟨⟨_, Heap.get?_push_size _ rfl, rfl, rfl⟩, isT.push _⟩, fun c hc' => ?_, by simp, cmp_textsG (two a b) two_at (by show X.A.units + 1 < cLine; omega), fun v h' tk hP hk => ?_⟩
  · rw [Heap.size_push, sz]
    rcases List.mem_cons.mp hc' with e | hc'
    · rw [e, sz]; exact Nat.lt_succ_self _
    · rw [List.mem_singleton.mp hc']; exact Nat.lt_succ_of_lt (Nat.lt_succ_self _)
  · have kept : ∀ c o, s.heap.get? c = some o → h'.get? c = some o := fun c o e => by
      refine hk c o (fun hm => ?_) (Heap.get?_push_of_some _ (Heap.get?_push_of_some _ e))
      have lt := Heap.lt_size e
      rw [List.mem_singleton.mp hm, sz] at lt
      exact absurd lt (Nat.not_lt.mpr (Nat.le_succ _))
    refine ⟨.str (greaterT a b), H, I.kept kept, ?_, q⟩
    have hP2 : (#[Value.str a t, Value.str b t'])[argBest (fun i j => PySem.W.dataLt (.str (two a b j)) (.str (two a b i))) 1]? = some v := hP
    unfold greaterT
    cases hb : PySem.W.dataLt (.str a) (.str b) with
    | true =>
      have e : argBest (fun i j => PySem.W.dataLt (.str (two a b j)) (.str (two a b i))) 1 = 1 := by simp [argBest, two, hb]
      rw [e] at hP2
      exact ⟨t', by simpa using hP2.symm⟩
    | false =>
      have e : argBest (fun i j => PySem.W.dataLt (.str (two a b j)) (.str (two a b i))) 1 = 0 := by simp [argBest, two, hb]
      rw [e] at hP2
      exact ⟨t, by simpa using hP2.symm⟩
end
end Z
set_option maxRecDepth 100000
set_option maxHeartbeats 4000000
/-! Z6: the same over predicates. Own work. -/
namespace Z
open PySem PySem.Spec L2
section
variable {K : PySem.W.Frag} {G G1 G2 : Gm} {M M1 M2 M3 : OM} {P P1 P2 : Pr}
theorem dp_fr {d : PyData} {v : V} {H : Hp} (h : Sta (Dd K d) v (Frz M H)) : Dp K H v d := dp_mono Frz_le _ _ h.here
theorem ope_eqP {d e : PyData} (pd : d.plain = true) (pe : e.plain = true) (hl : min d.depth e.depth ≤ 60) : OpE M (rEqP K) (Dd K d) (Dd K e) (Dd K (.bool (PyData.eqv d e))) M := fun x y H Q w h1 h2 k =>
  .inl ⟨d, e, dp_fr h1, dp_fr h2, pd, pe, hl, k _ H (.refl w) (dd (.bl _))⟩
theorem ope_neP {d e : PyData} (pd : d.plain = true) (pe : e.plain = true) (hl : min d.depth e.depth ≤ 60) : OpE M (rNeP K) (Dd K d) (Dd K e) (Dd K (.bool (!PyData.eqv d e))) M := fun x y H Q w h1 h2 k =>
  .inl ⟨d, e, dp_fr h1, dp_fr h2, pd, pe, hl, k _ H (.refl w) (dd (.bl _))⟩
theorem ope_eqi {i j : Int} : OpE M (rEqP K) (Dd K (.int i)) (Dd K (.int j)) (Dd K (.bool (decide (i = j)))) M := fun x y H Q w h1 h2 k => by
  have e : PyData.eqv (.int i) (.int j) = decide (i = j) := by simp only [PyData.eqv]; exact Bool.beq_eq_decide_eq ..
  have z := ope_eqP (M := M) (K := K) (d := .int i) (e := .int j) rfl rfl (by simp [PyData.depth])
  rw [e] at z
  exact z x y H Q w h1 h2 k
theorem ope_nei {i j : Int} : OpE M (rNeP K) (Dd K (.int i)) (Dd K (.int j)) (Dd K (.bool (!decide (i = j)))) M := fun x y H Q w h1 h2 k => by
  have e : PyData.eqv (.int i) (.int j) = decide (i = j) := by simp only [PyData.eqv]; exact Bool.beq_eq_decide_eq ..
  have z := ope_neP (M := M) (K := K) (d := .int i) (e := .int j) rfl rfl (by simp [PyData.depth])
  rw [e] at z
  exact z x y H Q w h1 h2 k
theorem str_beq (a b : Str) : (a == b) = decide (a = b) := by
  cases h : decide (a = b) with
  | true => rw [of_decide_eq_true h]; simp
  | false => exact beq_eq_false_iff_ne.mpr (of_decide_eq_false h)
theorem ope_eqs {i j : Str} : OpE M (rEqP K) (Dd K (.str i)) (Dd K (.str j)) (Dd K (.bool (decide (i = j)))) M := fun x y H Q w h1 h2 k => by
  have e : PyData.eqv (.str i) (.str j) = decide (i = j) := by simp only [PyData.eqv]; exact str_beq _ _
  have z := ope_eqP (M := M) (K := K) (d := .str i) (e := .str j) rfl rfl (by simp [PyData.depth])
  rw [e] at z
  exact z x y H Q w h1 h2 k
theorem ope_nes {i j : Str} : OpE M (rNeP K) (Dd K (.str i)) (Dd K (.str j)) (Dd K (.bool (!decide (i = j)))) M := fun x y H Q w h1 h2 k => by
  have e : PyData.eqv (.str i) (.str j) = decide (i = j) := by simp only [PyData.eqv]; exact str_beq _ _
  have z := ope_neP (M := M) (K := K) (d := .str i) (e := .str j) rfl rfl (by simp [PyData.depth])
  rw [e] at z
  exact z x y H Q w h1 h2 k
/-- a list against [] -/
theorem ope_eq0 {ps : List Pr} : OpE M (rEqP K) (Ls K ps) (Dd K (.list [])) (Dd K (.bool ps.isEmpty)) M := fun x y H Q w h1 h2 k => by
  obtain ⟨a, xs, rfl, q, r⟩ := h1.here
  obtain ⟨b, ys, rfl, q2, r2⟩ := dd_lst h2
  cases r2
  have e : xs.isEmpty = ps.isEmpty := by cases r <;> rfl
  exact .inr ⟨a, b, xs, rfl, rfl, Frz_le.seq q, Frz_le.seq q2, by rw [e]; exact k _ H (.refl w) (dd (.bl _))⟩
theorem ope_ne0 {ps : List Pr} : OpE M (rNeP K) (Ls K ps) (Dd K (.list [])) (Dd K (.bool (!ps.isEmpty))) M := fun x y H Q w h1 h2 k => by
  obtain ⟨a, xs, rfl, q, r⟩ := h1.here
  obtain ⟨b, ys, rfl, q2, r2⟩ := dd_lst h2
  cases r2
  have e : xs.isEmpty = ps.isEmpty := by cases r <;> rfl
  exact .inr ⟨a, b, xs, rfl, rfl, Frz_le.seq q, Frz_le.seq q2, by rw [e]; exact k _ H (.refl w) (dd (.bl _))⟩
theorem ope_eq0D {ds : List PyData} : OpE M (rEqP K) (Dd K (.list ds)) (Dd K (.list [])) (Dd K (.bool ds.isEmpty)) M := fun x y H Q w h1 h2 k => by
  have := ope_eq0 (M := M) x y H Q w (ls_dd h1) h2
  rw [show (ds.map (Dd K)).isEmpty = ds.isEmpty by cases ds <;> rfl] at this
  exact this k
theorem ope_ne0D {ds : List PyData} : OpE M (rNeP K) (Dd K (.list ds)) (Dd K (.list [])) (Dd K (.bool (!ds.isEmpty))) M := fun x y H Q w h1 h2 k => by
  have := ope_ne0 (M := M) x y H Q w (ls_dd h1) h2
  rw [show (ds.map (Dd K)).isEmpty = ds.isEmpty by cases ds <;> rfl] at this
  exact this k
theorem ope_eq0O {p : Addr} {ps : List Pr} (hm : M p = some (.lst ps)) : OpE M (rEqP K) (Rf p) (Dd K (.list [])) (Dd K (.bool ps.isEmpty)) M := fun x y H Q w h1 h2 k => by
  cases h1.here
  obtain ⟨o, e1, xs, rfl, r⟩ := w.cell p _ hm
  obtain ⟨b, ys, rfl, q2, r2⟩ := dd_lst h2
  cases r2
  have e : xs.isEmpty = ps.isEmpty := by cases r <;> rfl
  exact .inr ⟨p, b, xs, rfl, rfl, SqL.of e1, Frz_le.seq q2, by rw [e]; exact k _ H (.refl w) (dd (.bl _))⟩
theorem ope_ne0O {p : Addr} {ps : List Pr} (hm : M p = some (.lst ps)) : OpE M (rNeP K) (Rf p) (Dd K (.list [])) (Dd K (.bool (!ps.isEmpty))) M := fun x y H Q w h1 h2 k => by
  cases h1.here
  obtain ⟨o, e1, xs, rfl, r⟩ := w.cell p _ hm
  obtain ⟨b, ys, rfl, q2, r2⟩ := dd_lst h2
  cases r2
  have e : xs.isEmpty = ps.isEmpty := by cases r <;> rfl
  exact .inr ⟨p, b, xs, rfl, rfl, SqL.of e1, Frz_le.seq q2, by rw [e]; exact k _ H (.refl w) (dd (.bl _))⟩
/-- an owned list of data beside data -/
theorem ow_dd {p : Addr} {ds : List PyData} {H : Hp} (w : Own M H) (hm : M p = some (.lst (ds.map (Dd K)))) : Dp K H (.ref p) (.list ds) := by
  obtain ⟨o, e1, xs, rfl, r⟩ := w.cell p _ hm
  exact .lst (SqL.of e1) (dpAll_of (Stas.mono r Frz_le))
theorem ope_nePO {d : PyData} {p : Addr} {ds : List PyData} (hm : M p = some (.lst (ds.map (Dd K)))) (pd : d.plain = true) (pe : PyData.plainAll ds = true) (hl : min d.depth (PyData.depth (.list ds)) ≤ 60) : OpE M (rNeP K) (Dd K d) (Rf p) (Dd K (.bool (!PyData.eqv d (.list ds)))) M := fun x y H Q w h1 h2 k => by
  cases h2.here
  exact .inl ⟨d, .list ds, dp_fr h1, ow_dd w hm, pd, pe, hl, k _ H (.refl w) (dd (.bl _))⟩
theorem ope_ltP {d e : PyData} (al : PySem.W.alike d e = true) (nn : d ≠ .none) (hl : min d.depth e.depth ≤ 60) : OpE M (rLtP K) (Dd K d) (Dd K e) (Dd K (.bool (PySem.W.dataLt d e))) M := fun x y H Q w h1 h2 k =>
  ⟨d, e, dp_fr h1, dp_fr h2, al, nn, hl, k _ H (.refl w) (dd (.bl _))⟩
theorem ope_inP {d : PyData} {ds : List PyData} (pd : d.plain = true) (pe : PyData.plainAll ds = true) (hl : min (PyData.depthAll ds) d.depth ≤ 60) : OpE M (rInP K false) (Dd K d) (Dd K (.list ds)) (Dd K (.bool (ds.any fun z => PyData.eqv z d))) M := fun x y H Q w h1 h2 k =>
  ⟨d, ds, dp_fr h1, dp_fr h2, pd, pe, hl, k _ H (.refl w) (dd (.bl _))⟩
theorem ope_notInP {d : PyData} {ds : List PyData} (pd : d.plain = true) (pe : PyData.plainAll ds = true) (hl : min (PyData.depthAll ds) d.depth ≤ 60) : OpE M (rInP K true) (Dd K d) (Dd K (.list ds)) (Dd K (.bool (!ds.any fun z => PyData.eqv z d))) M := fun x y H Q w h1 h2 k =>
  ⟨d, ds, dp_fr h1, dp_fr h2, pd, pe, hl, k _ H (.refl w) (dd (.bl _))⟩
theorem plain_strs : ∀ l : List Str, PyData.plainAll (l.map .str) = true
  | [] => rfl
  | x :: l => by show (true && PyData.plainAll (l.map .str)) = true; rw [plain_strs l]; rfl
theorem plain_ints : ∀ l : List Int, PyData.plainAll (l.map .int) = true
  | [] => rfl
  | x :: l => by show (true && PyData.plainAll (l.map .int)) = true; rw [plain_ints l]; rfl
theorem any_strs (x : Str) : ∀ l : List Str, ((l.map PyData.str).any fun z => PyData.eqv z (.str x)) = decide (x ∈ l)
  | [] => by simp
  | y :: l => by
    show (PyData.eqv (.str y) (.str x) || (l.map PyData.str).any fun z => PyData.eqv z (.str x)) = _
    rw [any_strs x l]
    have e : PyData.eqv (.str y) (.str x) = decide (y = x) := by simp only [PyData.eqv]; exact str_beq _ _
    rw [e]
    by_cases h : y = x
    · subst h; simp
    · have : ¬ x = y := fun z => h z.symm
      simp [h, this]
theorem any_ints (x : Int) : ∀ l : List Int, ((l.map PyData.int).any fun z => PyData.eqv z (.int x)) = decide (x ∈ l)
  | [] => by simp
  | y :: l => by
    show (PyData.eqv (.int y) (.int x) || (l.map PyData.int).any fun z => PyData.eqv z (.int x)) = _
    rw [any_ints x l]
    have e : PyData.eqv (.int y) (.int x) = decide (y = x) := by simp only [PyData.eqv]; exact Bool.beq_eq_decide_eq ..
    rw [e]
    by_cases h : y = x
    · subst h; simp
    · have : ¬ x = y := fun z => h z.symm
      simp [h, this]
theorem ope_ins {x : Str} {l : List Str} : OpE M (rInP K false) (Dd K (.str x)) (Dd K (.list (l.map .str))) (Dd K (.bool (decide (x ∈ l)))) M := by
  have := ope_inP (K := K) (M := M) (d := .str x) (ds := l.map .str) rfl (plain_strs l) (by simp [PyData.depth])
  rwa [any_strs] at this
theorem ope_notIns {x : Str} {l : List Str} : OpE M (rInP K true) (Dd K (.str x)) (Dd K (.list (l.map .str))) (Dd K (.bool (!decide (x ∈ l)))) M := by
  have := ope_notInP (K := K) (M := M) (d := .str x) (ds := l.map .str) rfl (plain_strs l) (by simp [PyData.depth])
  rwa [any_strs] at this
theorem ope_ini {x : Int} {l : List Int} : OpE M (rInP K false) (Dd K (.int x)) (Dd K (.list (l.map .int))) (Dd K (.bool (decide (x ∈ l)))) M := by
  have := ope_inP (K := K) (M := M) (d := .int x) (ds := l.map .int) rfl (plain_ints l) (by simp [PyData.depth])
  rwa [any_ints] at this
/-! sorted, max with a default, min and max of texts -/
theorem cbe_sortD {β : Type} {enc : β → PyData} {bs : List β} (al : PySem.W.AllAlike (bs.map enc)) (so : PySem.W.Sortable (bs.map enc)) (hz : bs.length ≤ sizeLine) (hd : ∀ b ∈ bs, (enc b).depth ≤ 60) : CbE M (rSortD K) [Dd K (.list (bs.map enc))] (Dd K (.list ((bs.mergeSort (leD enc)).map enc))) M := fun vs H Q w h k => by
  obtain ⟨x, rfl, a⟩ := stas1 h
  obtain ⟨b, xs, rfl, q, r⟩ := dd_lst a
  refine ⟨β, enc, bs, b, Frz M H, rfl, Frz_le, a.here, al, so, hz, hd, fun p ys hp hy => ?_⟩
  obtain ⟨s, e⟩ := Stp.alloc w hp (.lst ys)
  exact k _ _ s (dd (.lst (.of e) (dpAll_mono s.frz _ _ hy)))
end
end Z
set_option maxRecDepth 100000
set_option maxHeartbeats 4000000
/-! Z7: min(d, key=lambda k: d[k]). Own work. -/
namespace Z
open PySem PySem.Spec L2
section
variable {prog : Program} {w : World}
/-- the lambda that reads a dict at its parameter -/
theorem lam_get {KT : Type} [DecidableEq KT] {knd : HeapKind prog w KT} {A : Around} {s : Shared} {f c' d b cl : Addr} {q a y : Str} {params : Arguments} {scope : Scope} {clos : List (Str × Addr)} {pm ctv : Value} {p1 p2 p3 : Pos} {Q : Value → Shared → Prop} {E : Value → Shared → Prop} {xs : List (KT × Addr × Value)} {k : KT} {z : Addr × Value}
    (dp : A.depth < recursionLimit) (lim : s.heap.NoLimit)
    (of1 : s.heap.get? f = some (PySem.W.kla_obj "<lambda>" q params (.Subscript (.Name a p1) (.Name y p2) p3) scope clos pm c' ctv))
    (cr : s.heap.CodeRec (.ref c') q) (co : scope.isCoroutine = false) (gn : scope.isGenerator = false) (kd : scope.kind = .function) (nc : ∀ x ∈ scope.names, x.2 ≠ .cell)
    (hb : bindArgs (PySem.W.kla_fn "<lambda>" q params (.Subscript (.Name a p1) (.Name y p2) p3) scope clos pm (.ref c') ctv) ⟨[.ref b], []⟩ = pure [(y, .ref b)])
    (la : scope.names.lookup a = some .free) (ly : scope.names.lookup y = some .local) (lc : clos.lookup a = some cl) (hcell : s.heap.IsCell cl (some (.ref d)))
    (da : (a == ("__debug__" : Str)) = false) (dy : (y == ("__debug__" : Str)) = false) (dca : (a == ("__classdict__" : Str)) = false)
    (room : ∀ env, knd.room (A.deeper env).in1) (hk : ∀ h', (∀ c o, s.heap.get? c = some o → h'.get? c = some o) → knd.is h' k b ∧ h'.DictOfH knd d xs) (hz : atKey xs k = some z)
    (kQ : ∀ h' t', (∀ c o, s.heap.get? c = some o → h'.get? c = some o) → Q z.2 { s with heap := h', toks := t' }) :
    wpAny (model prog w) A (call (.ref f) [.ref b]) Q E s := by
  refine wpAny_call ?_
  refine PySem.W.kla_callFunE dp of1 rfl co gn rfl cr ?_
  rw [hb]
  refine wpAny_pure (wpAny_newFunctionEnv nc (fun x hx => ?_) (fun h1 hns hsb => ⟨lim.fresh _ hsb, ?_⟩) kd)
  · rw [List.mem_singleton.mp hx]; exact ly
  have kp : ∀ c o, s.heap.get? c = some o → h1.get? c = some o := fun c o e => hsb.extBut c o (Nat.ne_of_lt (Heap.lt_size e)) (Heap.get?_push_of_some _ e)
  refine PySem.W.kla_codeExpr ?_
  refine wpAny_Subscript_Name F.slot_dict_getitem.lookup ?_
  obtain ⟨oc, h2, h3⟩ := hcell
  refine wpAny_Name (wpAny_loadName_free kd la lc ⟨oc, kp _ _ h2, h3⟩ ?_ dca) da
  refine wpAny_Name (wpAny_loadName_local (v := .ref b) kd ly hns (by show List.lookup y [(y, Value.ref b)] = _; rw [List.lookup_cons, str_beq, decide_eq_true rfl]) ?_) dy
  obtain ⟨i1, i2⟩ := hk h1 kp
  refine ⟨i2.typeIs, wpAny_getItem_heap (room _) i1 i2 hz ?_⟩
  exact kQ _ _ kp
/-- the place of the first least -/
def firstLeast (ns : List Int) : Nat := argBest (fun i j => decide (ns.getD i 0 < ns.getD j 0)) (ns.length - 1)
theorem firstLeast_le {ns : List Int} (h : ns ≠ []) : firstLeast ns < ns.length ∧ ∀ j, j < ns.length → ns.getD (firstLeast ns) 0 ≤ ns.getD j 0 := by
  obtain ⟨h1, h2⟩ := argBest_lt (fun i => ns.getD i 0) (ns.length - 1)
  have : 0 < ns.length := List.length_pos_iff.mpr h
  exact ⟨by unfold firstLeast; omega, fun j hj => h2 j (by omega)⟩
end
section
variable {X : Cx}
theorem paired_getR {α β : Type} {G : α → β → Prop} : ∀ {l1 : List α} {l2 : List β} {i : Nat} {b : β}, Paired G l1 l2 → l2[i]? = some b → ∃ a, l1[i]? = some a ∧ G a b
  | _, _, _, _, .nil, e => by simp at e
  | _, _, 0, b, .cons r _, e => by simp at e; subst e; exact ⟨_, rfl, r⟩
  | _, _, i + 1, b, .cons _ t, e => by
    obtain ⟨u, h1, h2⟩ := paired_getR (i := i) (b := b) t (by simpa using e)
    exact ⟨u, by simpa using h1, h2⟩
/-- min(d, key=f) where f reads d -/
theorem call_minL {k0 : Nat} {pins : List (Addr × Obj)} {s : Shared} {σ : L2.St} {H : Hp} {f c' d cl : Addr} {q a y : Str} {params : Arguments} {scope : Scope} {clos : List (Str × Addr)} {pm ctv : Value} {p1 p2 p3 : Pos} {E : Value → Shared → Prop} {kvs : List (List Key × V)} {ns : List Int} {Q : Value → Shared → Prop}
    (I : Inv X pins σ H s) (hc : X.calm = true) (hr : Room (k0 + 2) X.A)
    (of1 : s.heap.get? f = some (PySem.W.kla_obj "<lambda>" q params (.Subscript (.Name a p1) (.Name y p2) p3) scope clos pm c' ctv))
    (cr : s.heap.CodeRec (.ref c') q) (co : scope.isCoroutine = false) (gn : scope.isGenerator = false) (kd : scope.kind = .function) (nc : ∀ x ∈ scope.names, x.2 ≠ .cell)
    (hb : ∀ b, bindArgs (PySem.W.kla_fn "<lambda>" q params (.Subscript (.Name a p1) (.Name y p2) p3) scope clos pm (.ref c') ctv) ⟨[.ref b], []⟩ = pure [(y, .ref b)])
    (la : scope.names.lookup a = some .free) (ly : scope.names.lookup y = some .local) (lc : clos.lookup a = some cl) (hcell : s.heap.IsCell cl (some (.ref d)))
    (da : (a == ("__debug__" : Str)) = false) (dy : (y == ("__debug__" : Str)) = false) (dca : (a == ("__classdict__" : Str)) = false)
    (hd : H d = some (.dT kvs)) (hv : kvs.map (·.2) = ns.map V.int) (hne : kvs ≠ [])
    (kQ : ∀ b k s', Inv X pins σ H s' → kvs[firstLeast ns]?.map (·.1) = some k → H b = some (.tup (k.map kV)) → Q (.ref b) s') :
    wpAny (model X.prog X.w) X.A (call (.builtin "min") [.ref d] [(Str.ofString "key", .ref f)]) Q E s := by
  obtain ⟨z1, z2, xs, kt, dh⟩ := dt_of I.hok hd
  obtain ⟨es, ep, raw, hsz, hes⟩ := Heap.DictOfH.raw dh
  have hlen : kvs.length = xs.length := Paired.length kt
  have hlen2 : kvs.length = ns.length := by have := congrArg List.length hv; simpa using this
  have hn : 0 < es.size := by rw [hsz, ← hlen]; exact List.length_pos_iff.mpr hne
  have lim : s.heap.NoLimit := I.nolimit
  refine call_min_walkK (wpAny_pyIter_dict_raw z2 raw ?_)
  have dlt : d < s.heap.objs.size := by obtain ⟨o, ho, _⟩ := raw; exact Heap.lt_size ho
  have ne : d ≠ s.heap.objs.size := Nat.ne_of_lt dlt
  have W := Walks.toS (Walks.rawKeys (prog := X.prog) (w := X.w) (A := X.A.in1) (I.ok.hd hc) s.heap.objs.size d ne es ep)
  have size2 : (s.heap.push { cls := .type "dict_keyiterator", data := .fields #[.ref d, .int 0 0, .int es.size 0, .int ep 0] }).objs.size = s.heap.objs.size + 1 := Heap.size_push ..
  refine ⟨_, _, _, _, _, _, _, fun s' => ∃ h' t', s' = { s with heap := h', toks := t' } ∧ ∀ c o, s.heap.get? c = some o → h'.get? c = some o, fun i k _ => ∃ n, ns[i]? = some n ∧ RelV (.int n) k, fun i j => decide (ns.getD i 0 < ns.getD j 0), rfl, W, ?_, ?_, hn, ?_, ?_, ?_⟩
  · exact ⟨⟨_, Heap.get?_push_size _ rfl, rfl, rfl⟩, raw.at fun o e => Heap.get?_push_of_some _ e⟩
  · intro b hb
    show b < (s.heap.push _).objs.size
    rw [size2]
    rcases List.mem_cons.mp hb with e | hb
    · rw [e]; exact Nat.lt_succ_self _
    · rw [List.mem_singleton.mp hb]; exact Nat.lt_succ_of_lt dlt
  · have keep : ∀ (s1 s2 : Shared), (∃ h' t', s1 = { s with heap := h', toks := t' } ∧ ∀ c o, s.heap.get? c = some o → h'.get? c = some o) → Moved [s.heap.objs.size + 1, s.heap.objs.size] (fun a b => b = a) s1 s2 → ∃ h' t', s2 = { s with heap := h', toks := t' } ∧ ∀ c o, s.heap.get? c = some o → h'.get? c = some o := by
      rintro s1 s2 ⟨h', t', rfl, k⟩ m
      refine ⟨s2.heap, s2.toks, ?_, fun c o e => m.heap c o ?_ (k c o e)⟩
      · obtain ⟨h2, g2, d2, t2, os2⟩ := s2
        have e1 := m.gens; have e2 := m.drawn; have e3 := m.os
        dsimp only at e1 e2 e3
        subst e1; subst e2; subst e3
        rfl
      · have := Heap.lt_size e
        simp only [List.mem_cons, List.not_mem_nil, or_false, not_or]
        exact ⟨fun z => Nat.lt_irrefl _ (Nat.lt_trans (Nat.lt_succ_self _) (z ▸ this)), fun z => Nat.lt_irrefl _ (z ▸ this)⟩
    refine ⟨?_, fun i k s1 s2 h _ => h, ?_, ?_⟩
    · rw [show (s.heap.push { cls := .type "dict_keyiterator", data := .fields #[.ref d, .int 0 0, .int es.size 0, .int ep 0] }).objs.size = s.heap.objs.size + 1 from size2]
      exact keep
    · rintro i v s1 o Q2 E2 hi ⟨hi2, rfl⟩ ⟨h1, t1, rfl, k1⟩ hst hS hk
      obtain ⟨yy, y1, y2, y3, y4⟩ := hes i hi
      rw [y2]
      have hik : i < kvs.length := by rw [hlen, ← hsz]; exact hi
      have kt' := kt.val yy.1
      obtain ⟨pr, pe1, pe2⟩ : ∃ pr, kvs[i]? = some pr ∧ pr.1 = yy.1 := by
        obtain ⟨b, hb1, hb2, _, _⟩ := paired_get kt (List.getElem?_eq_getElem hik)
        rw [y1] at hb1
        cases hb1
        exact ⟨_, List.getElem?_eq_getElem hik, hb2⟩
      obtain ⟨n, hn1⟩ : ∃ n, ns[i]? = some n := ⟨_, List.getElem?_eq_getElem (by omega)⟩
      obtain ⟨ob, es2, ep2, g1, g2, g3, g4, g5, g6⟩ := id dh
      have hz : atKey xs yy.1 = some yy.2 := by
        exact atKey_of_get g6 (i := i) y1
      have hval : RelV (.int n) yy.2.2 := by
        obtain ⟨b, hb1, hb2, hb3, hb4⟩ := paired_get kt pe1
        rw [y1] at hb1
        cases hb1
        have e2 : (kvs.map (·.2))[i]? = some pr.2 := by rw [List.getElem?_map, pe1]; rfl
        rw [hv, List.getElem?_map, hn1] at e2
        have e3 : V.int n = pr.2 := Option.some.inj e2
        rw [e3]; exact hb4
      refine lam_get (d := d) (knd := tupleKind (mixKind X.prog X.w)) (s := { s with heap := h1, toks := t1 }) (k := yy.1) (z := yy.2) (xs := xs) (hr.in1).depth ?_ (k1 _ _ of1) ?_ co gn kd nc (hb _) la ly lc ?_ da dy dca (fun env => ?_) (fun h' kk => ?_) hz fun h' t' kk => ?_
      · exact lim.keeps k1
      · obtain ⟨c, oc, vs, t, e1, e2, e3, e4⟩ := cr
        exact ⟨c, oc, vs, t, e1, k1 _ _ e2, e3, e4⟩
      · obtain ⟨o, e1, e2⟩ := hcell
        exact ⟨o, k1 _ _ e1, e2⟩
      · exact tupleKind_room_in1 (by have := hr.un; show X.A.units + 1 + 3 + 1 < cLine; omega)
      · have J : Inv X pins σ H { s with heap := h', toks := t1 } := I.kept fun c o e => kk c o (k1 c o e)
        refine ⟨?_, ob, es2, ep2, kk _ _ (k1 _ _ g1), g2, g3, g4, fun x hx => ?_, g6⟩
        · obtain ⟨b, hb1, hb2, hb3, _⟩ := paired_get kt pe1
          rw [y1] at hb1
          cases hb1
          have := key_of J.hok hb3
          rw [← hb2]; exact this
        · obtain ⟨j, hj, hj2⟩ := List.getElem_of_mem hx
          obtain ⟨b, hb1, hb2, hb3, _⟩ := paired_getR kt (List.getElem?_eq_getElem hj)
          rw [hj2] at hb2 hb3
          have := key_of J.hok hb3
          rw [← hb2]; exact this
      · have k2 : ∀ c o, s.heap.get? c = some o → h'.get? c = some o := fun c o e => kk c o (k1 c o e)
        exact hk _ _ ⟨h', t', rfl, k2⟩ ⟨hst.1.at fun o e => kk _ _ e, hst.2.at fun o e => kk _ _ e⟩ (kk _ _ hS) ⟨n, hn1, hval⟩ fun _ _ z => z
    · rintro i j ki kj s1 Q2 E2 hJ ⟨n, hn1, t1, rfl⟩ ⟨m, hm1, t2, rfl⟩ hq
      have e : decide (ns.getD i 0 < ns.getD j 0) = PySem.W.dataLt (.int n) (.int m) := by
        rw [List.getD_eq_getElem?_getD, List.getD_eq_getElem?_getD, hn1, hm1, PySem.W.dataLt_int]; rfl
      rw [e] at hq
      exact PySem.W.lt_data (.int _ _) (.int _ _) rfl (by intro z; cases z) (by have := hr.un; simp only [PyData.depth]; show X.A.units + 1 + _ < _; omega) hq
  · exact ⟨_, s.toks, rfl, fun c o e => Heap.get?_push_of_some _ e⟩
  · rintro v s1 ⟨hi, rfl⟩ ⟨h', t', rfl, kk⟩
    have en : argBest (fun i j => decide (ns.getD i 0 < ns.getD j 0)) (es.size - 1) = firstLeast ns := by unfold firstLeast; rw [hsz, ← hlen, hlen2]
    obtain ⟨yy, y1, y2, y3, y4⟩ := hes _ hi
    rw [y2]
    rw [en] at y1
    have hik : firstLeast ns < kvs.length := by rw [← en, hlen, ← hsz]; exact hi
    obtain ⟨b, hb1, hb2, hb3, _⟩ := paired_get kt (List.getElem?_eq_getElem hik)
    rw [y1] at hb1
    cases hb1
    exact kQ _ _ _ (I.kept kk) (by rw [List.getElem?_eq_getElem hik]; rfl) hb3
/-- a lambda with parameters of its own and captured names -/
structure LamP (sc scope : Scope) : Prop where
  kind : scope.kind = .function
  co : scope.isCoroutine = false
  gen : scope.isGenerator = false
  free : ∀ y ∈ scope.names, y.2 = .free → sc.names.lookup y.1 = some .cell
def lamPB (sc scope : Scope) : Bool := decide (scope.kind = .function) && !scope.isCoroutine && !scope.isGenerator && scope.names.all fun y => !decide (y.2 = .free) || decide (sc.names.lookup y.1 = some .cell)
theorem lamP_by {sc scope : Scope} (h : lamPB sc scope = true) : LamP sc scope := by
  unfold lamPB at h
  simp only [Bool.and_eq_true, Bool.or_eq_true, Bool.not_eq_true', decide_eq_true_eq, decide_eq_false_iff_not, List.all_eq_true] at h
  obtain ⟨⟨⟨h1, h2⟩, h3⟩, h4⟩ := h
  exact ⟨h1, h2, h3, fun y hy e => (h4 y hy).elim (fun z => absurd e z) id⟩
/-- what min over d by a lambda that reads d does: the key that stands first with the least number -/
def tMinL (i : Nat) (P : Addr) (q : Str) : TE := fun σ H Q => ∃ d kvs ns, σ[i]? = some (some (.ref d)) ∧ H d = some (.dT kvs) ∧ kvs.map (·.2) = ns.map V.int ∧ kvs ≠ [] ∧ LamX.TabS H P q ∧
  ∀ b k H1, kvs[firstLeast ns]?.map (·.1) = some k → LamX.ExtN H H1 → LamX.TabS H1 P q → H1 b = some (.tup (k.map kV)) → Q (.ref b) H1
theorem pe_minL {k0 i : Nat} {a y m : Str} {c P : Addr} {params : Arguments} {scope : Scope} {p0 p1 p2 p3 p4 p5 p6 kp : Pos}
    (hc : X.calm = true) (hr : Room (k0 + 2) X.A) (TB : LamX.TabB X.base X.mg c P) (hcode : X.env.code = .ref c) (L : LamP X.env.scope scope) (hdef : defaultsOf params X.env = ([], []))
    (hN : X.N[i]? = some a) (ha : X.env.scope.names.lookup a = some .cell)
    (hb : ∀ q body clos pm c' ctv b, bindArgs (PySem.W.kla_fn "<lambda>" q params body scope clos pm (.ref c') ctv) ⟨[.ref b], []⟩ = pure [(y, .ref b)])
    (la : scope.names.lookup a = some .free) (ly : scope.names.lookup y = some .local) (nc : ∀ x ∈ scope.names, x.2 ≠ .cell)
    (hg : Gl X "min") (hm : X.mg "min" = none)
    (da : (a == ("__debug__" : Str)) = false := by decide) (dy : (y == ("__debug__" : Str)) = false := by decide) (dca : (a == ("__classdict__" : Str)) = false := by decide) :
    PE X (.Call (.Name "min" p0) [.Name a p1] [⟨some "key", .Lambda params (.Subscript (.Name a p2) (.Name y p3) p4) scope p5, kp⟩] p6) (tMinL i P (X.env.qual ++ "<lambda>")) := by
  refine ⟨fun pins s σ H Q I h => ?_⟩
  obtain ⟨d, kvs, ns, h1, h2, h3, h4, h5, h6⟩ := h
  refine wpAny_Call_Name_kw (ld_blt I hg hm rfl ?_ (by decide) (by decide))
  have pa : PA X [.Name a p1] (tCons (tVar i) tNil) := pa_cons (pe_var hN (.inr (.inl ha)) da dca) pa_nil
  refine PyProof.Rows.callWith_kw (thn (pa.run p6 pins s σ H (fun vs H' => vs = [.ref d] ∧ H' = H) I ⟨_, h1, rfl, rfl⟩) fun us s1 ⟨vs, H1, I1, r1, q1⟩ => ?_) rfl rfl rfl rfl
  obtain ⟨rfl, rfl⟩ := q1
  rw [Vals.ref1 r1]
  show wpAny _ _ (evalAll [(do let v ← eval _ X.env; standAt p6; pure v)]) _ _ _
  refine wpAny_evalAll_cons (wpAny_bind ?_)
  refine LamX.lam_make2 (T := [(P, X.env.qual ++ "<lambda>")]) I1 TB hcode (List.mem_singleton.mpr rfl) (fun p hp _ => by rw [List.mem_singleton.mp hp]) (fun p hp => by rw [List.mem_singleton.mp hp]; exact h5) hdef (fun y hy e => I1.ok.has _ (.inl (L.free y hy e))) fun f c' pm ctv H2 s2 I2 e2 t2 of fn fr hco => ?_
  refine wpAny_bind (wpAny_standAt (wpAny_pure (wpAny_evalAll_nil ?_)))
  show wpAny _ _ (call (.builtin "min") [.ref d] [(Str.ofString "key", .ref f)]) _ _ _
  obtain ⟨m, hn, hl⟩ := I2.loc
  obtain ⟨u, ru, lu⟩ := hl i a _ hN h1 (.inr (.inl ha))
  cases ru
  have hcell : ∃ cl, X.env.cells.lookup a = some cl ∧ s2.heap.IsCell cl (some (.ref d)) := by
    rcases lu with ⟨hk, _⟩ | ⟨_, cl, e1, e3⟩
    · have hk : X.env.scope.names.lookup a = some .local := hk
      rw [ha] at hk; cases hk
    · exact ⟨cl, e1, e3⟩
  obtain ⟨cl, lcl, hcl⟩ := hcell
  obtain ⟨c2, hc2⟩ : ∃ c, (cloFrom X.env.cells scope.names []).lookup a = some c := mem_lookup (cloFrom_has (cells := X.env.cells) (acc := []) (PySem.mem_of_lookup la))
  have ec : c2 = cl := by
    rcases cloFrom_mem (PySem.mem_of_lookup hc2) with hm2 | ⟨_, z⟩
    · cases hm2
    · rw [z, lcl]; rfl
  subst ec
  obtain ⟨⟨oc, vs, t, hoc, hdc, hvc⟩, _, _⟩ := I2.hok c' _ hco
  refine call_minL (ns := ns) I2 hc hr of ⟨c', oc, vs, t, rfl, hoc, hdc, hvc⟩ L.co L.gen L.kind nc (hb _ _ _ _ _ _) la ly hc2 hcl da dy dca (e2 _ _ h2 fun ps z => by cases z) h3 h4 fun b k s' I3 e3 hbk => ?_
  exact ⟨.ref b, _, I3, rfl, h6 b k H2 e3 e2 (t2 _ (List.mem_singleton.mpr rfl)) hbk⟩
end
end Z
set_option maxRecDepth 100000
set_option maxHeartbeats 4000000
/-! Z8: dict comprehensions whose keys are tuples; dicts with tuple keys: pop, compared with {}. Own work. -/
namespace Z
open PySem PySem.Spec L2 PyProof.Rows
section
variable {X : Cx}
/-- a comprehension's entry laid into a dict with tuple keys -/
theorem put_entT {pins : List (Addr × Obj)} {σ : L2.St} {H : Hp} {s : Shared} {E : Value → Shared → Prop} {A : Around} {D b : Addr} {kvs : List (List Key × V)} {k : List Key} {v : V} {u r : Value} {Q : Unit → Shared → Prop} (hu : A.units + 1 < cLine) (I : Inv X pins σ H s)
    (hD : H D = some (.dT kvs)) (hb : H b = some (.tup (k.map kV))) (hz : kvs.length < sizeLine) (ry : RelV (.ref b) u) (rv : RelV v r)
    (h : ∀ s2, Inv X pins σ (upd H D (.dT (putK kvs k v))) s2 → Q () s2) : wpAny (model X.prog X.w) A (dictSet D u r) Q E s := by
  cases (show u = Value.ref b from ry)
  obtain ⟨z1, z2, ent, rel, hds⟩ := dt_of I.hok hD
  have le1 : ent.length ≤ sizeLine := (Paired.length rel) ▸ z1
  have le2 : (putK kvs k v).length ≤ sizeLine := Nat.le_trans (length_putK kvs k v) hz
  refine wpAny_dictSet_heap (knd := tupleKind (mixKind X.prog X.w)) (hsz := le1) (show A.units < cLine by omega) (key_of I.hok hb) hds fun g1 hds2 sb => h _ ?_
  obtain ⟨o2, en2, ep2, q1, q2, q3, q4, _, q6⟩ := hds2
  have mu : Mut (H D) := by rw [hD]; exact True.intro
  refine d_write I mu sb ⟨o2, q1⟩ ⟨le2, z2, _, (rel.put k hb rv).keeps (fun c ys ec => ?_), o2, en2, ep2, q1, q2, q3, q4, q6⟩
  have : c ≠ D := ne_of ec hD (fun z => nomatch z)
  rw [upd_ne this]; exact ec
/-- {k: v for target in iter if ..} with keys that are tuples: D is the new dict -/
def tDcT (wi : TI) (g : TG) (tt : TT) (tk tv : TE) (vs : List Nat) : TE := fun σ H Q => wi σ H fun J H1 => ∀ D, H1 D = none → ∃ W : Nat → Nat → Hp → Prop, (∃ m, W 0 m (upd H1 D (.dT []))) ∧ ∀ i m H, W i m H →
  (J.stop i H ∧ Q (.ref D) H) ∨ (J.go i H ∧ ∃ Nx : Hp → Prop, (∀ H', Nx H' → ∃ m', m' < m ∧ W (i + 1) m' H') ∧ ∀ x H', J.yld i H x H' → g x (L2.wipe σ vs) H' fun σ2 H2 => L2.wipe σ2 vs = L2.wipe σ vs ∧ tt σ2 H2 fun b H3 =>
    if b = true then tk σ2 H3 fun y H4 => tv σ2 H4 fun z H5 => ∃ kvs k a, y = .ref a ∧ H5 a = some (.tup (k.map kV)) ∧ H5 D = some (.dT kvs) ∧ kvs.length < sizeLine ∧ Nx (upd H5 D (.dT (putK kvs k z))) else Nx H3)
theorem pe_dcT {kx vx tg iter : Expr} {ifs : List Expr} {sc : Scope} {own : List (Str × Nat)} {pos : Pos} {wi : TI} {g : TG} {tt : TT} {tk tv : TE} (hu : X.A.units + 1 < cLine) (hc : X.calm = true) (nd : X.N.Nodup) (hi : PI X tg iter wi) (ok : BlkOk X.N X.env.scope sc own)
    (hg : ∀ (s : Shared) (H : Hp) (C : Addr) (cl : List (Str × Addr)) (fp : List Addr), PG (X.blk s H sc (compEnvC sc cl C X.env) fp) tg g) (ht : ∀ (s : Shared) (H : Hp) (C : Addr) (cl : List (Str × Addr)) (fp : List Addr), PTs (X.blk s H sc (compEnvC sc cl C X.env) fp) ifs tt)
    (hk : ∀ (s : Shared) (H : Hp) (C : Addr) (cl : List (Str × Addr)) (fp : List Addr), PE (X.blk s H sc (compEnvC sc cl C X.env) fp) kx tk)
    (he : ∀ (s : Shared) (H : Hp) (C : Addr) (cl : List (Str × Addr)) (fp : List Addr), PE (X.blk s H sc (compEnvC sc cl C X.env) fp) vx tv) (hs : ∀ x, foldedSetIterable iter X.env x = pure x := by intro _; rfl) :
    PE X (.DictComp kx vx [⟨tg, iter, ifs, 0⟩] sc pos) (tDcT wi g tt tk tv (own.map (·.2))) := by
  refine ⟨fun pins s σ H Q I h => ?_⟩
  rw [arm_eval_DictComp]
  have hfr : ∀ y ∈ sc.names, y.2 = .free → ∃ c, X.env.cells.lookup y.1 = some c := by
    intro y hy e
    have alt := ok.free y hy e
    exact alt.elim (fun k => I.ok.has _ (.inl k)) fun k => I.ok.has _ (.inr k)
  refine wpAny_comprehension_free (use := none) rfl hs (closure_ok hfr) ok.kind (fun y hy e => by rw [ok.uniq y hy, e]) ?_
  refine thn (hi.run pins s σ H _ I h) fun xv sa ha => thn ha fun itv sb hb => ?_
  obtain ⟨it, fp, tn, J, Hb, rfl, Ib, T, stb, fb, q⟩ := hb
  refine wpAny_newObj_type (newEnv_comp ?_)
  have hDn : Hb sb.heap.objs.size = none := Ib.hok.fresh (Nat.le_refl _)
  obtain ⟨W, ⟨m0, w0⟩, turn⟩ := q _ hDn
  generalize hsc : ({ sb with heap := sb.heap.push { cls := .type "dict", data := .dict #[] } } : Shared) = sc1
  have heq : sc1.heap = sb.heap.push { cls := .type "dict", data := .dict #[] } := by rw [← hsc]
  have Ic : Inv X pins σ (upd Hb sb.heap.objs.size (.dT [])) sc1 := by
    rw [← hsc]
    exact Ib.laid (t' := sb.toks) (fun b o e => Heap.get?_push_of_some _ e) (Nat.le_refl _) (dt_empty sb.heap Ib.big)
  generalize hD : sb.heap.objs.size = D at *
  have fc : ∀ b ∈ fp, FpOk X pins (upd Hb D (.dT [])) b ∧ b < sc1.heap.objs.size := by
    intro b hb
    obtain ⟨o, e, _⟩ := T.obj _ _ stb b hb
    have hlt := Heap.lt_size e
    have nb : b ≠ D := by rw [← hD]; exact Nat.ne_of_lt hlt
    refine ⟨⟨?_, (fb b hb).2⟩, ?_⟩
    · rw [upd_ne nb]; exact (fb b hb).1
    · rw [heq, Heap.size_push]; exact Nat.lt_succ_of_lt hlt
  have stc : tn 0 sc1.heap := T.keep _ _ _ stb fun b _ o e => by rw [heq]; exact Heap.get?_push_of_some _ e
  have Id := block_start Ic ok nd fc
  have pg := hg sc1 (upd Hb D (.dT [])) sc1.heap.objs.size (cellsFrom (sc1.heap.objs.size + 1) sc.names (cloFrom X.env.cells sc.names [])) fp
  have pt := ht sc1 (upd Hb D (.dT [])) sc1.heap.objs.size (cellsFrom (sc1.heap.objs.size + 1) sc.names (cloFrom X.env.cells sc.names [])) fp
  have pk := hk sc1 (upd Hb D (.dT [])) sc1.heap.objs.size (cellsFrom (sc1.heap.objs.size + 1) sc.names (cloFrom X.env.cells sc.names [])) fp
  have pe := he sc1 (upd Hb D (.dT [])) sc1.heap.objs.size (cellsFrom (sc1.heap.objs.size + 1) sc.names (cloFrom X.env.cells sc.names [])) fp
  have nfp : ∀ b ∈ fp, (upd Hb D (.dT [])) b = none := fun b hb => (fc b hb).1.1
  show codeAny _ _ (.compStart _ 0 (.ref it) (.ref D) (compEnvC sc (cellsFrom (sc1.heap.objs.size + 1) sc.names (cloFrom X.env.cells sc.names [])) sc1.heap.objs.size X.env)) (compPost (model X.prog X.w) X.A X.xe none _ (.ref D) sc1.heap.objs.size)
    { sc1 with heap := pushCells (sc1.heap.push { cls := .type "dict", data := .dict #[] }) sc.names }
  generalize hce : compEnvC sc (cellsFrom (sc1.heap.objs.size + 1) sc.names (cloFrom X.env.cells sc.names [])) sc1.heap.objs.size X.env = ce at Id pg pt pk pe ⊢
  have cL : ce.locals = sc1.heap.objs.size := by rw [← hce]; rfl
  generalize hHc : upd Hb D (.dT []) = Hc at Ic Id pg pt pk pe w0 nfp fc
  generalize hsd : ({ sc1 with heap := pushCells (sc1.heap.push { cls := .type "dict", data := .dict #[] }) sc.names } : Shared) = sd at Id ⊢
  have std : tn 0 sd.heap := T.keep _ _ _ stc fun b _ o e => by rw [← hsd]; exact pushCells_keeps _ _ _ _ (Heap.get?_push_of_some _ e)
  have stat : ∀ {σ' : L2.St} {H' : Hp} {s' : Shared}, Inv (X.blk sc1 Hc sc ce fp) [] σ' H' s' → (∀ b ∈ fp, H' b = none) → ∀ b ∈ fp, FpOk (X.blk sc1 Hc sc ce fp) [] H' b := by
    intro σ' H' s' I' hn b hb
    have ef := I'.ok.exf b hb
    exact ⟨hn b hb, ef.1, I'.ok.exfs b hb, .inl hb, fun x c e => ef.2 x c e, fun p hp => absurd (show p ∈ ([] : List (Addr × Obj)) ++ [] from hp) (by simp)⟩
  have loop : codeAny (model X.prog X.w) X.A (.compLoop (.DictComp kx vx [⟨tg, iter, ifs, 0⟩] sc pos) 0 (.ref it) (.ref D) ce) (compPost (model X.prog X.w) X.A X.xe none (EP X pins σ Q) (.ref D) sc1.heap.objs.size) sd := by
    refine compLoop_anyD (fun n s' => ∃ i H', Inv (X.blk sc1 Hc sc ce fp) [] (L2.wipe σ (own.map (·.2))) H' s' ∧ tn i s'.heap ∧ (∀ b ∈ fp, H' b = none) ∧ W i n H') ?_ m0 ⟨0, Hc, Id, std, nfp, w0⟩
    rintro n se ⟨i, He, Ie, ste, ne, we⟩
    rcases turn i n He we with ⟨stop, qq⟩ | ⟨go, Nx, hNx, step⟩
    · have td := T.done (X.blk sc1 Hc sc ce fp) rfl rfl rfl hc i [] se _ He (fun _ _ => False) Ie (stat Ie ne) ste stop
      refine thnF td fun r sf ⟨hr, If⟩ => ?_
      subst hr
      have Ig : Inv X pins σ He sf := Ic.call' (ch := fp) If.os If.base If.hok If.bare fun b hb => let z := (fc b hb).1; ⟨z.2.2.2.1, z.2.1, z.2.2.2.2.1, z.2.2.2.2.2⟩
      have nC : He sc1.heap.objs.size = none := by rw [← cL]; exact If.free
      obtain ⟨m, hn, _⟩ := If.loc
      have hn : sf.heap.Ns ce.locals m := hn
      rw [cL] at hn
      obtain ⟨f0, f1, f2, f3, f4, f5⟩ := Ic.fpOk (Nat.le_refl _) nC
      exact ⟨m, hn, fun g2 sb2 => ⟨.ref D, He, Ig.turned (t' := sf.toks) (fun b o hb e => (sb2.2 b hb).trans e) f0 f1 f3 f4 f5, rfl, qq⟩⟩
    · have ti := T.item (X.blk sc1 Hc sc ce fp) rfl rfl rfl hc i [] se _ He (fun _ _ => False) Ie (stat Ie ne) ste go
      refine thnF ti fun r sf ⟨u, hr, hf⟩ => ?_
      subst hr
      refine thnF hf fun _ sg ⟨x, Hg, Ig, rg, yg, stg, ng⟩ => ?_
      have Ig' := Ig.pinned (stat Ig ng) (T.obj _ _ stg)
      refine thnF (pg.run _ sg _ Hg x u _ Ig' rg (step x Hg yg)) fun _ sh ⟨σh, Hh, Ih, hwh, qh⟩ => ?_
      refine thnF (pt.run _ sh σh Hh _ Ih qh) fun b si ⟨Hi, Ii, qi⟩ => ?_
      have fin : ∀ {s' : Shared} {H' : Hp}, Inv (X.blk sc1 Hc sc ce fp) ([] ++ pinsAt fp sg.heap) σh H' s' → Nx H' → ∃ m, m < n ∧ ∃ i H', Inv (X.blk sc1 Hc sc ce fp) [] (L2.wipe σ (own.map (·.2))) H' s' ∧ tn i s'.heap ∧ (∀ b ∈ fp, H' b = none) ∧ W i m H' := by
        intro s' H' I' nx
        obtain ⟨m', hm, w'⟩ := hNx H' nx
        have pinned : ∀ b ∈ fp, ∀ o, sg.heap.get? b = some o → s'.heap.get? b = some o ∧ H' b = none := by
          intro b hb o e
          obtain ⟨z1, z2, _⟩ := I'.pin (b, o) (List.mem_append_right _ (List.mem_append_right _ (mem_pinsAt hb e)))
          exact ⟨z1, z2⟩
        have hl : (L2.wipe σ (own.map (·.2))).length = σh.length := by rw [← hwh, L2.wipe_length]
        refine ⟨m', hm, i + 1, H', (I'.unpinned (pins := [])).weak hl (fun j v e => ?_), T.keep _ _ _ stg (fun b hb o e => (pinned b hb o e).1), fun b hb => ?_, w'⟩
        · rw [← hwh] at e
          exact (wipe_some e).1
        · obtain ⟨o, e, _⟩ := T.obj _ _ stg b hb
          exact (pinned b hb o e).2
      cases b with
      | false =>
        rw [if_neg Bool.false_ne_true] at qi ⊢
        exact fin Ii qi
      | true =>
        rw [if_pos rfl] at qi ⊢
        refine thnF (pk.run _ si σh Hi _ Ii qi) fun z sj ⟨yk, Hj, Ij, rj, qj⟩ => ?_
        refine thnF (pe.run _ sj σh Hj _ Ij qj) fun z2 sk ⟨yv, Hk, Ik, rk, kvs, k, a, ek, hka, hDk, hzk, nx⟩ => ?_
        subst ek
        exact put_entT (X := X.blk sc1 Hc sc ce fp) hu Ik hDk hka hzk rj rk fun sl Il => fin Il nx
  exact codeAny_compStart_dict loop (T.self X.A 0 _ _ _ std loop)
/-- samePairs against an empty dict -/
theorem pairs0 {prog : Program} {w : World} {A : Around} {s : Shared} {E : Value → Shared → Prop} {nm : String} {a b : Addr} {es : Array DictEntry} {ep ep2 : Nat} {Q : Bool → Shared → Prop} (na : (a == sysModules) = false) (nb : (b == sysModules) = false)
    (ra : s.heap.DictRaw a es ep) (rb : s.heap.DictRaw b #[] ep2) (h : Q es.isEmpty s) : wpAny (model prog w) A (Builtin.Dict.samePairs nm a b) Q E s := by
  obtain ⟨oa, g1, _, g2⟩ := ra
  obtain ⟨ob, g3, _, g4⟩ := rb
  have t1 : ¬ ((a == sysModules) = true) := by rw [na]; decide
  have t2 : ¬ ((b == sysModules) = true) := by rw [nb]; decide
  unfold Builtin.Dict.samePairs Builtin.Dict.showsAll
  rw [if_neg t1, if_neg t2]
  refine wpAny_bind (wpAny_pure (wpAny_bind (wpAny_pure (wpAny_bind (wpAny_dictEntries g1 g2 (wpAny_bind (wpAny_dictEntries g3 g4 ?_)))))))
  cases hz : decide (es.size = 0) with
  | false =>
    have hz := of_decide_eq_false hz
    have hne : es.isEmpty = false := by rw [Array.isEmpty]; simpa using hz
    rw [hne] at h
    rw [if_pos (by simpa using hz)]
    exact wpAny_bind (wpAny_rule (wpAny_pure h))
  | true =>
    have hz := of_decide_eq_true hz
    have hne : es.isEmpty = true := by rw [Array.isEmpty]; simpa using hz
    rw [hne] at h
    rw [if_neg (by simp [hz])]
    refine wpAny_bind (wpAny_dictEpoch g1 g2 ?_)
    rw [Std.Legacy.Range.forIn_eq_forIn_range', Std.Legacy.Range.size, hz]
    exact wpAny_bind (wpAny_pure (wpAny_pure h))
/-- d != {} -/
def rNe0 : R2 := fun x y H Q => ∃ a b kvs, x = .ref a ∧ y = .ref b ∧ H a = some (.dT kvs) ∧ H b = some (.dT []) ∧ Q (.bl (!kvs.isEmpty)) H
theorem op_ne0 (hu : X.A.units < cLine) : OpR X (compareOp .NotEq) rNe0 := by
  intro pins s σ H x y v u Q I rx ry h
  obtain ⟨a, b, kvs, rfl, rfl, ea, eb, q⟩ := h
  cases (show v = Value.ref a from rx)
  cases (show u = Value.ref b from ry)
  obtain ⟨_, na, xa, ka, da⟩ := dt_of I.hok ea
  obtain ⟨_, nb, xb, kb, db⟩ := dt_of I.hok eb
  obtain ⟨es, ep, ra, sa, _⟩ := Heap.DictOfH.raw da
  obtain ⟨es2, ep2, rb, sb, _⟩ := Heap.DictOfH.raw db
  cases kb
  have e0 : es2 = #[] := by simpa using sb
  subst e0
  have hl : es.isEmpty = kvs.isEmpty := by
    have l1 : kvs.length = xa.length := Paired.length ka
    rw [Array.isEmpty, sa, ← l1]
    cases kvs <;> rfl
  refine wpAny_richCompare_same_room (op := .NotEq) da.typeIs db.typeIs PySem.F.slot_dict_ne ?_ hu
  refine wpAny_call_entry PySem.F.slot_dict_ne da.typeIs PySem.F.entry_dict_ne ?_ (PySem.F.args_dict_ne_2 _ _)
  show wpAny _ _ (Builtin.Dict.dictSlotArgs "__ne__" ⟨[.ref a, .ref b], []⟩ >>= _) _ _ s
  unfold Builtin.Dict.dictSlotArgs
  refine wpAny_bind (wpAny_bind (wpAny_notOrdered_dict da.typeIs (wpAny_pure ?_)))
  refine wpAny_bind (wpAny_isInstance (b := true) (T := "dict") db.typeIs PySem.F.sub_dict_dict ?_)
  rw [if_neg (by simp)]
  refine wpAny_bind (wpAny_pure (wpAny_bind (wpAny_pure (wpAny_bind (pairs0 na nb ra rb (wpAny_pure ?_))))))
  refine ⟨_, rfl, (fun x => nomatch x), ?_⟩
  refine ⟨.bl _, H, I, ?_, q⟩
  rw [← hl]
  show Value.bool _ = Value.bool _
  cases es.isEmpty <;> rfl
/-- d.pop(k), the key a tuple that is there -/
def rPopT1 : V → List V → Hp → VK → Prop := fun x xs H Q => ∃ (a : Addr) (kvs : List (List L2.Key × V)) (k : List L2.Key) (b : Addr) (v : V), x = .ref a ∧ xs = [.ref b] ∧ H a = some (.dT kvs) ∧ H b = some (.tup (k.map kV)) ∧ valV kvs k = some v ∧ Q v (upd H a (.dT (dropK kvs k)))
theorem mt_popT1 (hu : X.A.units + 1 < cLine) : MtR X "dict.pop" rPopT1 := by
  intro pins s σ H x xs v us Q I rx rxs h
  obtain ⟨a, kvs, k, b, v0, rfl, rfl, ha, hb, hv, q⟩ := h
  cases (show v = Value.ref a from rx)
  obtain ⟨u1, rfl, r1⟩ := vals1 rxs
  cases (show u1 = Value.ref b from r1)
  obtain ⟨z, nd, ent, rel, dd⟩ := dt_of I.hok ha
  have rr := rel.val k
  rw [hv] at rr
  obtain ⟨val, ev, rv⟩ := RelO.some_of rr
  obtain ⟨pr, e1, e2⟩ := Option.map_eq_some_iff.mp ev
  have hz : ent.length ≤ sizeLine := (Paired.length rel) ▸ z
  refine call_pop_heap (knd := tupleKind (mixKind X.prog X.w)) (hsz := hz) (.inl rfl) (PySem.F.args_dict_pop_2 _ _) (tupleKind_room_in1 hu) (key_of I.hok hb) nd dd e1 fun g1 dd2 sb => ?_
  obtain ⟨o, es, ep, g2, g3, g4, g5, _, g6⟩ := dd2
  have mu : Mut (H a) := by rw [ha]; exact True.intro
  have J : Inv X pins σ (upd H a (.dT (dropK kvs k))) { s with heap := g1, toks := s.toks + (tupleKind (mixKind X.prog X.w)).draws k } := by
    refine d_write I mu sb ⟨o, g2⟩ ⟨Nat.le_trans (dropK_le kvs k) z, nd, _, (show KT H (dropK kvs k) (withoutH ent k) from L2.DX.KT_drop k rel).keeps (fun c ys ec => ?_), o, es, ep, g2, g3, g4, g5, g6⟩
    have : c ≠ a := ne_of ec ha (fun z => nomatch z)
    rw [upd_ne this]; exact ec
  refine ⟨v0, _, J, ?_, q⟩
  rw [e2]; exact rv
end
end Z
set_option maxRecDepth 100000
set_option maxHeartbeats 4000000
/-! Z9: len(set(..)) of texts that are all unlike. Own work. -/
namespace Z
open PySem PySem.Spec L2 PyProof.Rows
section
variable {prog : Program} {w : World} {A : Around} {R : Result → Shared → Prop}
theorem loop_unlike {I : Addr} {fp wr : List Addr} {G : Array GenState → Array GenState → Prop} {n : Nat} {P : Nat → Value → Prop} {St : Nat → Shared → Prop} (W : WalksS prog w A.in1 I fp wr G n P St) (S : Addr) (hSf : S ∉ fp) (xs : List Str) (hsz : xs.length = n) (nd : xs.Nodup) (hb : n + 1 < scanBound)
    (hval : ∀ i v, P i v → ∃ t, v = .str (xs.getD i Str.empty) t) : ∀ (m i : Nat) (s : Shared), i + m = n → St i s → s.heap.SetOf (PySem.strKind prog w) S (fun z => decide (z ∈ xs.take i)) i →
      (∀ s', Moved (S :: wr) G s s' → s'.heap.SetOf (PySem.strKind prog w) S (fun z => decide (z ∈ xs.take n)) n → R (.ok (.ret .none)) s') →
      codeAny (model prog w) A (.builtin "set.update.loop" ⟨[.ref S, .ref I], []⟩) R s := by
  have nw : S ∉ wr := fun h => hSf (W.sub _ h)
  have wide : ∀ b ∈ wr, b ∈ S :: wr := fun b hb => List.mem_cons_of_mem _ hb
  intro m
  induction m with
  | zero =>
    intro i s hi st hS hR
    have e : i = n := hi
    subst e
    refine codeAny_builtin F.entry_set_update_loop ?_
    rw [Around.under_plainId F.plain_set_update_loop _]
    refine (wpAny_bind (W.done s _ _ st fun s2 mv => ?_) : wpAny _ A.in1 (pyNext (.ref I) >>= _) _ _ s)
    show wpAny (model prog w) A.in1 (ret .none) _ _ s2
    refine wpAny_pure (hR s2 (mv.mono wide) ?_)
    obtain ⟨o, es, ep, t, ho, tail⟩ := hS
    exact ⟨o, es, ep, t, mv.heap S _ nw ho, tail⟩
  | succ m ih =>
    intro i s hi st hS hR
    have lt : i < n := by omega
    refine codeAny_builtin F.entry_set_update_loop ?_
    rw [Around.under_plainId F.plain_set_update_loop _]
    refine (wpAny_bind (W.item i s _ _ lt st fun v s2 hP st2 mv => ?_) : wpAny _ A.in1 (pyNext (.ref I) >>= _) _ _ s)
    obtain ⟨t, rfl⟩ := hval i v hP
    have lt2 : i < xs.length := by rw [hsz]; exact lt
    have ex : xs.getD i Str.empty = xs[i] := by rw [List.getD_eq_getElem?_getD, List.getElem?_eq_getElem lt2]; rfl
    rw [ex]
    have hS2 : s2.heap.SetOf (PySem.strKind prog w) S (fun z => decide (z ∈ xs.take i)) i := by
      obtain ⟨o, es, ep, t, ho, tail⟩ := hS
      exact ⟨o, es, ep, t, mv.heap S _ nw ho, tail⟩
    refine (wpAny_bind (wpAny_holding ?_) : wpAny _ A.in1 (holding [Value.str xs[i] t] (setAdd S (.str xs[i] t)) >>= _) _ _ s2)
    unfold setAdd
    refine wpAny_holding (wpAny_bind ((PySem.strKind prog w).pyHash (k := xs[i]) (strKind_is _ _ _ _) ?_))
    have room : i + 1 < scanBound := by omega
    refine wpAny_setAddHashed_of (knd := PySem.strKind prog w) (s := { s2 with toks := s2.toks + 1 }) (strKind_is _ _ _ _) rfl hS2 room fun g sb new => ?_
    have fresh : xs[i] ∉ xs.take i := by
      intro hm
      obtain ⟨j, hj, ej⟩ := List.getElem_of_mem hm
      rw [List.length_take] at hj
      rw [List.getElem_take] at ej
      exact (List.pairwise_iff_getElem.mp nd) j i (by omega) lt2 (by omega) ej
    have new2 : g.SetOf (PySem.strKind prog w) S (fun z => decide (z ∈ xs.take (i + 1))) (i + 1) := by
      refine SetOf_congr new (fun z => ?_) (by rw [decide_eq_false fresh]; rfl)
      have et : xs.take (i + 1) = xs.take i ++ [xs[i]] := by rw [List.take_succ, List.getElem?_eq_getElem lt2]; rfl
      rw [et, ← Bool.decide_or, decide_eq_decide, List.mem_append, List.mem_singleton]
    refine wpAny_pure ⟨plainId_quiet F.plain_set_update_loop _, ih (i + 1) _ (by omega) ?_ new2 fun s3 mv3 hS3 => hR s3 ?_ hS3⟩
    · refine W.frame _ s2 _ _ st2 (Nat.le_succ _) fun b hb o e => ?_
      have nb : b ≠ S := fun z => hSf (z ▸ hb)
      rw [sb.2 b nb]; exact e
    · refine Moved.trans W.gtrans ((mv.mono wide).then_heap (Nat.le_succ _) fun b o hb e => ?_) mv3
      have nb : b ≠ S := fun z => hb (by rw [z]; exact List.mem_cons_self)
      rw [sb.2 b nb]; exact e
theorem text_at : ∀ {us : List Value} {xs : List Str} {i : Nat} {v : Value}, PyProof.Rows.StrsAre us xs → us[i]? = some v → ∃ t, v = .str (xs.getD i Str.empty) t
  | _, _, i, v, .nil, h => by cases h
  | _, _, 0, v, .cons n t _, h => ⟨t, (Option.some.inj h).symm⟩
  | _, _, i + 1, v, .cons n t r, h => text_at (i := i) r (by rw [List.getElem?_cons_succ] at h; exact h)
/-- a set that holds n things -/
def SizedAt (h : Heap) (p : Addr) (n : Nat) : Prop := ∃ o es ep t, h.get? p = some o ∧ o.ExactSet ∧ o.data = .set es ep t ∧ t.fits es.size = true ∧ es.size = n
theorem set_unlike {s : Shared} {E : Value → Shared → Prop} {l : Addr} {items : Array Value} {xs : List Str} {Q : Value → Shared → Prop} (hh : A.handled = none) (hl : s.heap.IsList l items) (hi : PyProof.Rows.StrsAre items.toList xs) (nd : xs.Nodup) (hb : xs.length + 1 < scanBound)
    (h : ∀ (g : Heap) (tk : Nat), SizedAt g s.heap.objs.size xs.length → (∀ b o, s.heap.get? b = some o → g.get? b = some o) → Q (.ref s.heap.objs.size) { s with heap := g, toks := tk }) :
    wpAny (model prog w) A (call (.type "set") [.ref l]) Q E s := by
  have made := PySem.F.called_set.made
  have sub := PySem.F.called_set.sub
  obtain ⟨c, tl, mro⟩ := PySem.F.called_set.mro
  have n1 := PySem.F.called_set.notType
  have n2 := PySem.F.called_set.canCreate
  have n3 := PySem.F.typeCall_set_1 (.ref l)
  refine wpAny_call (codeAny_of_tree ?_)
  show wpAny (model prog w) _ (callAny (.type "set") ⟨[.ref l], []⟩) _ _ s
  refine wpAny_pure ⟨Code.quiet_builtin _ (by decide +kernel), codeAny_builtin PySem.F.entry_type_call ?_⟩
  rw [Around.under_plain (weight_type_call_type "set" [.ref l] []) rfl]
  repeat (any_goals first | assumption | wp_step)
  let emp : Bool → Obj := fun led => { cls := .type "set", dict := none, data := .set #[] 0 (.fresh 0 0 led) }
  refine codeAny_mono (code_set_new_1 (.ref l) (E := E) (Q₁ := fun ob s1 => ∃ led : Bool, ob = .ref s.heap.objs.size ∧ s1 = { s with heap := s.heap.push (emp led) }) fun led => ⟨led, rfl, rfl⟩) fun r s1 hr => ?_
  match r, hr with
  | .error e, hr => exact hr
  | .ok .next, hr => exact hr.elim
  | .ok .brk, hr => exact hr.elim
  | .ok .cont, hr => exact hr.elim
  | .ok (.ret ob), hr =>
    obtain ⟨led, rfl, rfl⟩ := hr
    have hS : (s.heap.push (emp led)).get? s.heap.objs.size = some (emp led) := Heap.get?_push_size _ rfl
    have ty : Shared.TypeIs { s with heap := s.heap.push (emp led) } (.ref s.heap.objs.size) "set" := ⟨_, hS, rfl⟩
    have look := PySem.F.called_set.init.lookup
    have bnd := PySem.F.called_set.init.bind (.ref s.heap.objs.size)
    repeat (any_goals first | assumption | wp_step)
    refine codeAny_mono (codeAny_call_builtin (R := wants (fun r s2 => r = .none ∧ ∃ g tk, s2 = { s with heap := g, toks := tk } ∧ SizedAt g s.heap.objs.size xs.length ∧ ∀ b o, s.heap.get? b = some o → g.get? b = some o) E)
      PySem.F.called_set.init.plain PySem.F.entry_set_init (check_set_init_1 ty ?_)) fun r2 s2 hr2 => ?_
    · obtain ⟨⟨cl0, di0, da0, sl0⟩, g1, g2, ep0, g3⟩ := hl
      dsimp only at g2 g3
      subst g2; subst g3
      have g4 : (s.heap.push (emp led)).get? l = some { cls := .type "list", dict := di0, data := .seq items ep0, slots := sl0 } := Heap.get?_push_of_some _ g1
      have f1 := PySem.F.sub_list_set
      have f2 := PySem.F.sub_list_frozenset
      have f3 : (Value.type "list" == Value.type "dict") = false := by decide
      have isl : (s.heap.push (emp led)).IsList l items := ⟨_, g4, rfl, ep0, rfl⟩
      unfold Builtin.«set.__init__» noKeywords Builtin.Frozenset.updateFrom
      generalize hIt : pyIter = It
      wp_walk
      subst hIt
      have lS : l < s.heap.objs.size := Heap.lt_size g1
      have sz : (s.heap.push (emp led)).objs.size = s.heap.objs.size + 1 := Heap.size_push ..
      have len : xs.length = items.size := by rw [← StrsAre.len_eq hi, Array.length_toList]
      have neI : l ≠ (s.heap.push (emp led)).objs.size := by rw [sz]; exact Nat.ne_of_lt (Nat.lt_succ_of_lt lS)
      have apart : s.heap.objs.size ∉ [(s.heap.push (emp led)).objs.size, l] := by
        rw [sz]
        simp only [List.mem_cons, List.not_mem_nil, or_false, not_or]
        exact ⟨Nat.ne_of_lt (Nat.lt_succ_self _), Nat.ne_of_gt lS⟩
      refine wpAny_pyIter_list isl (wpAny_bind (wpAny_runValue ?_))
      refine loop_unlike ((Walks.list (show A.in1.in1.in1.handled = none from hh) _ l neI items).toS) s.heap.objs.size apart xs len nd (by omega) (fun i v hv => text_at hi (by rw [Array.getElem?_toList]; exact hv)) items.size 0 _ (by omega) ⟨⟨_, Heap.get?_push_size _ rfl, rfl, rfl⟩, isl.push _⟩ ?_ ?_
      · have hS3 := Heap.get?_push_of_some { cls := .type "list_iterator", data := .fields #[.ref l, .int 0 0] } hS
        exact SetOf_congr ((setObjOf_fresh (knd := PySem.strKind prog w) led).setOf hS3 (by unfold scanBound; omega)) (fun _ => by simp) rfl
      · rintro ⟨g, gs, dr, tk, os⟩ mv hS4
        have m1 := mv.gens; have m2 := mv.drawn; have m3 := mv.os
        dsimp only at m1 m2 m3
        subst m1; subst m2; subst m3
        refine wpAny_pure (wpAny_pure ⟨rfl, g, tk, rfl, ?_, fun b o e => ?_⟩)
        · obtain ⟨o, es, ep, t, a1, a2, a3, _, _, _, a5, a6⟩ := hS4
          exact ⟨o, es, ep, t, a1, a2, a3, a5, by rw [len]; exact a6⟩
        · have lb := Heap.lt_size e
          refine mv.heap b o ?_ (Heap.get?_push_of_some _ (Heap.get?_push_of_some _ e))
          rw [sz]
          simp only [List.mem_cons, List.not_mem_nil, or_false, not_or]
          exact ⟨Nat.ne_of_lt lb, Nat.ne_of_lt (Nat.lt_succ_of_lt lb)⟩
    · match r2, hr2 with
      | .error e, hr2 => exact hr2
      | .ok .next, hr2 => exact hr2.elim
      | .ok .brk, hr2 => exact hr2.elim
      | .ok .cont, hr2 => exact hr2.elim
      | .ok (.ret r), hr2 =>
        obtain ⟨rfl, g, tk, rfl, hS', hk'⟩ := hr2
        repeat (any_goals first | assumption | wp_step)
        exact h _ _ hS' hk'
end
end Z
set_option maxRecDepth 100000
set_option maxHeartbeats 4000000
/-! Z10: judgements whose outcome is told by a predicate; loops; dicts; slices; sets. Own work. -/
namespace Z
open PySem PySem.Spec L2
section
variable {K : PySem.W.Frag} {G G1 G2 : Gm} {M M1 M2 M3 : OM} {P P1 P2 : Pr}
/-! ### outcomes by predicates -/
abbrev Pst := Gm → OM → Prop
abbrev PsE := Pr → OM → Prop
def EvlX (G : Gm) (M : OM) (t : TE) (Φ : PsE) : Prop := ∀ σ H Q, At G M σ H → (∀ P M' v H', Φ P M' → Stp M H M' H' → Sta P v (Frz M' H') → Q v H') → t σ H Q
def NrmX (G : Gm) (M : OM) (t : TS) (Φ : Pst) : Prop := ∀ σ H D, At G M σ H → (∀ G' M' σ' H', Φ G' M' → Stp M H M' H' → At G' M' σ' H' → D.nx σ' H') → t D σ H
def RtnX (G : Gm) (M : OM) (t : TS) (Φ : PsE) : Prop := ∀ σ H D, At G M σ H → (∀ P M' v H', Φ P M' → Stp M H M' H' → Sta P v (Frz M' H') → D.rt v H') → t D σ H
abbrev oneE (P : Pr) (M : OM) : PsE := fun p m => p = P ∧ m = M
abbrev oneS (G : Gm) (M : OM) : Pst := fun g m => g = G ∧ m = M
theorem Evl.x {t : TE} (h : Evl G M t P M1) : EvlX G M t (oneE P M1) := fun σ H Q a k => h σ H Q a fun v H' s q => k P M1 v H' ⟨rfl, rfl⟩ s q
theorem Nrm.x {t : TS} (h : Nrm G M t G1 M1) : NrmX G M t (oneS G1 M1) := fun σ H D a k => h σ H D a fun σ' H' s a' => k G1 M1 σ' H' ⟨rfl, rfl⟩ s a'
theorem Rtn.x {t : TS} (h : Rtn G M t P M1) : RtnX G M t (oneE P M1) := fun σ H D a k => h σ H D a fun v H' s q => k P M1 v H' ⟨rfl, rfl⟩ s q
theorem NrmX.n {t : TS} (h : NrmX G M t (oneS G1 M1)) : Nrm G M t G1 M1 := fun σ H D a k => h σ H D a fun G' M' σ' H' e s a' => by
  obtain ⟨e1, e2⟩ := e; subst e1; subst e2; exact k σ' H' s a'
theorem RtnX.r {t : TS} (h : RtnX G M t (oneE P M1)) : Rtn G M t P M1 := fun σ H D a k => h σ H D a fun G' M' σ' H' e s a' => by
  obtain ⟨e1, e2⟩ := e; subst e1; subst e2; exact k σ' H' s a'
theorem EvlX.e {t : TE} (h : EvlX G M t (oneE P M1)) : Evl G M t P M1 := fun σ H D a k => h σ H D a fun G' M' σ' H' e s a' => by
  obtain ⟨e1, e2⟩ := e; subst e1; subst e2; exact k σ' H' s a'
theorem EvlX.imp {t : TE} {Φ Ψ : PsE} (h : EvlX G M t Φ) (f : ∀ P M, Φ P M → Ψ P M) : EvlX G M t Ψ := fun σ H Q a k => h σ H Q a fun P M' v H' e s q => k P M' v H' (f _ _ e) s q
theorem NrmX.imp {t : TS} {Φ Ψ : Pst} (h : NrmX G M t Φ) (f : ∀ P M, Φ P M → Ψ P M) : NrmX G M t Ψ := fun σ H Q a k => h σ H Q a fun P M' v H' e s q => k P M' v H' (f _ _ e) s q
theorem nrmx_seq {t u : TS} {Φ Ψ : Pst} (h1 : NrmX G M t Φ) (h2 : ∀ G' M', Φ G' M' → NrmX G' M' u Ψ) : NrmX G M (tSeq t u) Ψ := fun σ H D a k =>
  h1 σ H _ a fun G' M' σ1 H1 e s1 a1 => h2 G' M' e σ1 H1 D a1 fun G2 M2 σ2 H2 e2 s2 a2 => k G2 M2 σ2 H2 e2 (s1.trans s2) a2
theorem rtnx_seq {t u : TS} {Φ : Pst} {Ψ : PsE} (h1 : NrmX G M t Φ) (h2 : ∀ G' M', Φ G' M' → RtnX G' M' u Ψ) : RtnX G M (tSeq t u) Ψ := fun σ H D a k =>
  h1 σ H _ a fun G' M' σ1 H1 e s1 a1 => h2 G' M' e σ1 H1 D a1 fun P2 M2 v2 H2 e2 s2 q2 => k P2 M2 v2 H2 e2 (s1.trans s2) q2
theorem rtn_seqx {t u : TS} {Φ : Pst} (h1 : NrmX G M t Φ) (h2 : ∀ G' M', Φ G' M' → Rtn G' M' u P M2) : Rtn G M (tSeq t u) P M2 := fun σ H D a k =>
  h1 σ H _ a fun G' M' σ1 H1 e s1 a1 => h2 G' M' e σ1 H1 D a1 fun v2 H2 s2 q2 => k v2 H2 (s1.trans s2) q2
theorem nrm_seqx {t u : TS} {Φ : Pst} (h1 : NrmX G M t Φ) (h2 : ∀ G' M', Φ G' M' → Nrm G' M' u G2 M2) : Nrm G M (tSeq t u) G2 M2 := fun σ H D a k =>
  h1 σ H _ a fun G' M' σ1 H1 e s1 a1 => h2 G' M' e σ1 H1 D a1 fun v2 H2 s2 q2 => k v2 H2 (s1.trans s2) q2
theorem nrmx_set {te : TE} {i : Nat} {Φ : PsE} (h : EvlX G M te Φ) : NrmX G M (tAsg te (gName i)) (fun g m => ∃ P, Φ P m ∧ g = G.set i (some P)) := fun σ H D a k =>
  h σ H _ a fun P M' v H1 e s q => k _ _ _ H1 ⟨P, e, rfl⟩ s ((a.step s).set i q)
theorem nrmx_if {c : TT} {t u : TS} {b : Bool} {Φ : Pst} (h : EvT G M c b M1) (h1 : b = true → NrmX G M1 t Φ) (h2 : b = false → NrmX G M1 u Φ) : NrmX G M (tIfS c t u) Φ := fun σ H D a k => h σ H _ a fun H' s => by
  cases b with
  | true => rw [if_pos rfl]; exact h1 rfl σ H' D (a.step s) fun g m σ2 H2 e s2 q => k g m σ2 H2 e (s.trans s2) q
  | false => rw [if_neg Bool.false_ne_true]; exact h2 rfl σ H' D (a.step s) fun g m σ2 H2 e s2 q => k g m σ2 H2 e (s.trans s2) q
theorem rtnx_if {c : TT} {t u : TS} {b : Bool} {Φ : PsE} (h : EvT G M c b M1) (h1 : b = true → RtnX G M1 t Φ) (h2 : b = false → RtnX G M1 u Φ) : RtnX G M (tIfS c t u) Φ := fun σ H D a k => h σ H _ a fun H' s => by
  cases b with
  | true => rw [if_pos rfl]; exact h1 rfl σ H' D (a.step s) fun g m σ2 H2 e s2 q => k g m σ2 H2 e (s.trans s2) q
  | false => rw [if_neg Bool.false_ne_true]; exact h2 rfl σ H' D (a.step s) fun g m σ2 H2 e s2 q => k g m σ2 H2 e (s.trans s2) q
theorem rtnx_ret {te : TE} {Φ : PsE} (h : EvlX G M te Φ) : RtnX G M (tRet te) Φ := fun σ H D a k => h σ H _ a k
theorem nrmx_drop {te : TE} {Φ : PsE} (h : EvlX G M te Φ) : NrmX G M (tDrop te) (fun g m => g = G ∧ ∃ P, Φ P m) := fun σ H D a k =>
  h σ H _ a fun P M' v H1 e s q => k _ _ _ H1 ⟨rfl, P, e⟩ s (a.step s)
/-- what is owned is let go: no step of the program -/
def Shed (G : Gm) (M : OM) (G' : Gm) (M' : OM) : Prop := ∀ σ H, At G M σ H → Stp M H M' H ∧ At G' M' σ H
theorem rtn_shed {t : TS} (h : Shed G M G1 M1) (r : Rtn G1 M1 t P M2) : Rtn G M t P M2 := fun σ H D a k => by
  obtain ⟨s, a'⟩ := h σ H a
  exact r σ H D a' fun v H' s2 q => k v H' (s.trans s2) q
theorem nrm_shed {t : TS} (h : Nrm G M t G1 M1) (r : Shed G1 M1 G2 M2) : Nrm G M t G2 M2 := fun σ H D a k => h σ H D a fun σ' H' s a' => by
  obtain ⟨s2, a2⟩ := r σ' H' a'
  exact k σ' H' (s.trans s2) a2
theorem nrmx_shed {t : TS} {Φ Ψ : Pst} (h : NrmX G M t Φ) (r : ∀ g m, Φ g m → ∃ g' m', Ψ g' m' ∧ Shed g m g' m') : NrmX G M t Ψ := fun σ H D a k => h σ H D a fun g m σ' H' e s a' => by
  obtain ⟨g', m', e2, r2⟩ := r g m e
  obtain ⟨s2, a2⟩ := r2 σ' H' a'
  exact k g' m' σ' H' e2 (s.trans s2) a2
/-- a new list that is owned -/
theorem evx_lst {t : TA} {ps : List Pr} (h : EvA G M t ps M1) (hl : ps.length ≤ sizeLine) : EvlX G M (tLst t) (fun P m => ∃ p, M1 p = none ∧ P = Rf p ∧ m = M1.set p (.lst ps)) := fun σ H Q a k => h σ H _ a fun vs H' s q =>
  ⟨by rw [← q.len]; exact hl, fun p hp => by
    have s2 := Stp.allocO s.own hp (o := .lst vs) (c := .lst ps) ⟨vs, rfl, q⟩
    exact k _ _ _ _ ⟨p, s.own.free hp, rfl, rfl⟩ (s.trans s2) rf⟩
/-- a new dict with tuple keys -/
theorem evx_dnewT : EvlX G M tDNewT (fun P m => ∃ p, M p = none ∧ P = Rf p ∧ m = M.set p (.dT [])) := fun σ H Q a k p hp => by
  have s2 := Stp.allocO a.own hp (o := .dT []) (c := .dT []) ⟨[], rfl, .nil⟩
  exact k _ _ _ _ ⟨p, a.own.free hp, rfl, rfl⟩ s2 rf

/-! ### loops -/
def BodyX (G : Gm) (M : OM) (P : Pr) (g : TG) (tb : TS) (Φ : Pst) : Prop := ∀ v σ H (D : Ends), At G M σ H → Sta P v (Frz M H) → (∀ G' M' σ' H', Φ G' M' → Stp M H M' H' → At G' M' σ' H' → D.nx σ' H') → g v σ H fun σ2 H2 => tb D σ2 H2
theorem bodyx_of {g : TG} {tb : TS} {Φ : Pst} (h1 : EvG G M P g G1 M1) (h2 : NrmX G1 M1 tb Φ) : BodyX G M P g tb Φ := fun v σ H D a q k =>
  h1 v σ H _ a q fun σ1 H1 s1 a1 => h2 σ1 H1 D a1 fun g m σ2 H2 e s2 a2 => k g m σ2 H2 e (s1.trans s2) a2
theorem nrmx_for {wi : TI} {g : TG} {tb : TS} {n : Nat} {p : Nat → Pr} (Φ : Nat → Pst) (hi : EvI G M wi n p M1) (h0 : Φ 0 G M1) (hb : ∀ i, i < n → ∀ G' M', Φ i G' M' → BodyX G' M' (p i) g tb (Φ (i + 1))) : NrmX G M (tFor wi g tb) (Φ n) := fun σ H D a k => hi σ H _ a fun J H1 s w => by
  refine ⟨fun i m σ' H' => m = n - i ∧ i ≤ n ∧ ∃ G' M', Φ i G' M' ∧ Stp M H M' H' ∧ At G' M' σ' H' ∧ Same (Frz M1 H1) (Frz M' H'), ⟨n, by simp, Nat.zero_le _, G, M1, h0, s, a.step s, Same.refl _⟩, ?_⟩
  rintro i m σ' H' ⟨rfl, hin, G', M', ph, st, at', sm⟩
  obtain ⟨w1, w2⟩ := w M' H' st.own sm
  by_cases hlt : i < n
  · obtain ⟨go, yl⟩ := w1 i hlt
    refine .inr ⟨go, fun σ2 H2 => ∃ G2 M2, Φ (i + 1) G2 M2 ∧ Stp M H M2 H2 ∧ At G2 M2 σ2 H2 ∧ Same (Frz M1 H1) (Frz M2 H2), fun σ2 H2 ⟨G2, M2, q0, q1, q2, q3⟩ => ⟨n - (i + 1), by omega, rfl, hlt, G2, M2, q0, q1, q2, q3⟩, fun x H2 y => ?_⟩
    obtain ⟨y1, y2⟩ := yl x H2 y
    exact hb i hlt G' M' ph x σ' H2 _ (at'.step y1) y2 fun G3 M3 σ3 H3 e3 s3 a3 => ⟨G3, M3, e3, (st.trans y1).trans s3, a3, (sm.trans y1.frz).trans s3.frz⟩
  · have e : i = n := by omega
    subst e
    exact .inl ⟨w2, k G' M' σ' H' ph st at'⟩
/-- while: Φ m says what holds when m is what is left -/
theorem nrmx_while {c : TT} {tb : TS} (Φ : Nat → Pst) {Ψ : Pst} {m0 : Nat} (h0 : Φ m0 G M) (hc : ∀ m G' M', Φ m G' M' → ∃ b, EvT G' M' c b M' ∧ (b = false → Ψ G' M') ∧ (b = true → NrmX G' M' tb (fun g m2 => ∃ j, j < m ∧ Φ j g m2))) : NrmX G M (tWhile c tb) Ψ := fun σ H D a k => by
  refine ⟨fun m σ' H' => ∃ G' M', Φ m G' M' ∧ Stp M H M' H' ∧ At G' M' σ' H', ⟨m0, G, M, h0, .refl a.own, a⟩, ?_⟩
  rintro m σ' H' ⟨G', M', ph, st, at'⟩
  obtain ⟨b, e1, e2, e3⟩ := hc m G' M' ph
  refine e1 σ' H' _ at' fun H2 s2 => ?_
  cases b with
  | false => rw [if_neg Bool.false_ne_true]; exact k G' M' σ' H2 (e2 rfl) (st.trans s2) (at'.step s2)
  | true =>
    rw [if_pos rfl]
    refine ⟨fun σ3 H3 => ∃ j, j < m ∧ ∃ G3 M3, Φ j G3 M3 ∧ Stp M H M3 H3 ∧ At G3 M3 σ3 H3, fun σ3 H3 ⟨j, hj, r⟩ => ⟨j, hj, r⟩, ?_⟩
    exact e3 rfl σ' H2 _ (at'.step s2) fun G3 M3 σ3 H3 ⟨j, hj, e4⟩ s3 a3 => ⟨j, hj, G3, M3, e4, (st.trans s2).trans s3, a3⟩

/-! ### calls of defs whose outcome is told by a predicate -/
abbrev CtrX := OM → List Pr → PsE → Prop
def SpX (R : CtrX) : Sp := fun vs H Q _ => ∃ M ps Φ, R M ps Φ ∧ Own M H ∧ Stas ps vs (Frz M H) ∧ ∀ P M' v H', Φ P M' → Stp M H M' H' → Sta P v (Frz M' H') → Q v H'
theorem evx_call {R : CtrX} {E : XK} {t : TA} {ps : List Pr} {Φ : PsE} (h : EvA G M t ps M1) (r : R M1 ps Φ) : EvlX G M (tCall (SpX R) [] E t) Φ := fun σ H Q a k => h σ H _ a fun vs H' s q =>
  ⟨M1, ps, Φ, r, s.own, by rw [List.append_nil]; exact q, fun P M' v H2 e s2 q2 => k P M' v H2 e (s.trans s2) q2⟩
theorem endx_rtn {N : List Str} {t : TS} {R : CtrX} {vs : List V} {H : Hp} {Q : VK} {E : XK} (h : SpX R vs H Q E) (b : ∀ M ps Φ, R M ps Φ → RtnX (gam N ps) M t Φ) : t { nx := fun _ H' => Q .non H', rt := Q } (L2.start N vs) H := by
  obtain ⟨M, ps, Φ, r, w, q, k⟩ := h
  exact b M ps Φ r _ H _ (at_start w q) fun P M' v H' e s q' => k P M' v H' e s q'
theorem endx_nrm {N : List Str} {t : TS} {R : CtrX} {vs : List V} {H : Hp} {Q : VK} {E : XK} (h : SpX R vs H Q E) (b : ∀ M ps Φ, R M ps Φ → NrmX (gam N ps) M t (fun _ m => Φ (Dd K .none) m)) : t { nx := fun _ H' => Q .non H', rt := Q } (L2.start N vs) H := by
  obtain ⟨M, ps, Φ, r, w, q, k⟩ := h
  exact b M ps Φ r _ H _ (at_start w q) fun G' M' σ' H' e s a' => k _ M' _ H' e s (dd .non)
theorem spx_len {R : CtrX} {n : Nat} (h : ∀ M ps Φ, R M ps Φ → ps.length = n) : ∀ vs H Q E, SpX R vs H Q E → vs.length = n := fun vs H Q E ⟨M, ps, Φ, r, w, q, k⟩ => by
  rw [← q.len]; exact h _ _ _ r

/-! ### owned lists -/
abbrev isLst (M : OM) (p : Addr) (ps : List Pr) : Prop := M p = some (.lst ps)
theorem stas_snoc {ps : List Pr} {vs : List V} {F : Hp} {v : V} (h : Stas ps vs F) (q : Sta P v F) : Stas (ps ++ [P]) (vs ++ [v]) F := Stas.append h (.cons q .nil)
theorem stas_set {F : Hp} {P : Pr} {v : V} (q : Sta P v F) : ∀ {ps : List Pr} {vs : List V} {i : Nat}, Stas ps vs F → Stas (ps.set i P) (vs.set i v) F
  | _, _, _, .nil => .nil
  | _, _, 0, .cons r t => .cons q t
  | _, _, i + 1, .cons r t => .cons r (stas_set q t)
theorem stas_take {F : Hp} : ∀ {ps : List Pr} {vs : List V} (n : Nat), Stas ps vs F → Stas (ps.take n) (vs.take n) F
  | _, _, 0, _ => by simp; exact .nil
  | _, _, n + 1, .nil => by simp; exact .nil
  | _, _, n + 1, .cons r t => .cons r (stas_take n t)
theorem stas_drop {F : Hp} : ∀ {ps : List Pr} {vs : List V} (n : Nat), Stas ps vs F → Stas (ps.drop n) (vs.drop n) F
  | _, _, 0, h => h
  | _, _, n + 1, .nil => by simp; exact .nil
  | _, _, n + 1, .cons r t => stas_drop n t
theorem cell_lst {H : Hp} {p : Addr} {ps : List Pr} (w : Own M H) (hm : M p = some (.lst ps)) : ∃ xs, H p = some (.lst xs) ∧ Stas ps xs (Frz M H) := by
  obtain ⟨o, e1, xs, rfl, r⟩ := w.cell p _ hm
  exact ⟨xs, e1, r⟩
end
end Z
set_option maxRecDepth 100000
set_option maxHeartbeats 4000000
/-! Z11: lists joined, attributes as targets, sized sets, locked dicts. Own work. -/
namespace Z
open PySem PySem.Spec L2
section
variable {X : Cx}
/-- two lists joined, wherever they stand -/
def rCatL (K : PySem.W.Frag) : R2 := fun x y H Q => ∃ l b xs zs, x = .ref l ∧ y = .ref b ∧ SqL K H l xs ∧ SqL K H b zs ∧ xs.length + zs.length ≤ sizeLine ∧ ∀ p, H p = none → Q (.ref p) (upd H p (.lst (xs ++ zs)))
theorem op_catL : OpR X (binaryOp .Add) (rCatL X.K) := by
  intro pins s σ H x y v u Q I rx ry h
  obtain ⟨l, b, xs, zs, rfl, rfl, h1, h2, hz, q⟩ := h
  cases (show v = Value.ref l from rx)
  cases (show u = Value.ref b from ry)
  obtain ⟨its, r1, ⟨o1, n1, g1, c1, _, d1⟩, _⟩ := I.list h1
  obtain ⟨its2, r2, ⟨o2, n2, g2, c2, _, d2⟩, _⟩ := I.list h2
  obtain ⟨cl1, di1, da1, sl1⟩ := o1
  obtain ⟨cl2, di2, da2, sl2⟩ := o2
  dsimp only at c1 d1 c2 d2
  subst c1; subst d1; subst c2; subst d2
  have l1 := r1.length
  have l2 := r2.length
  have fits : its.toArray.size + its2.toArray.size ≤ sizeLine := by rw [List.size_toArray, List.size_toArray]; omega
  refine concat_meets ⟨_, g1, rfl⟩ ⟨_, g2, rfl⟩ noFill_list_add seq_list_add F.slot_list_add F.entry_list_add (F.args_list_add_2 _ _) (PyProof.Rows.list_addW l b its.toArray its2.toArray n1 n2 di1 di2 sl1 sl2 fits) ⟨g1, g2, ?_⟩
  have ej : its.toArray ++ its2.toArray = (its ++ its2).toArray := by simp
  rw [ej]
  exact ⟨.ref _, _, I.lnew (t' := s.toks) (r1.append r2) (by rw [List.length_append]; exact hz), rfl, q _ I.fresh⟩
/-- e.f as a target -/
def gFld (K : PySem.W.Frag) (ta : TE) (f : Str) : TG := fun y σ H Q => ta σ H fun x H2 => ∃ a C dx fs, x = .ref a ∧ H2 a = some (.ins C dx fs) ∧ Cls K C ∧ NoAttr K C f ∧ fs.length < 1000 ∧ Q σ (upd H2 a (.ins C dx (putF f y fs)))
theorem pg_fld {o : Expr} {f : Str} {pos : Pos} {ta : TE} (ha : PE X o ta) : PG X (.Attribute o f pos) (gFld X.K ta f) := by
  refine ⟨fun pins s σ H v u Q I r hw => ?_⟩
  rw [assign_Attribute]
  refine wpAny_bind (wpAny_holding (thn (ha.run pins s σ H _ I hw) fun ov s2 ⟨x, H2, I2, rx, a, C, dx, fs, ex, ea, c, n, l, q2⟩ => ?_))
  subst ex
  obtain rfl : ov = Value.ref a := rx
  refine wpAny_bind (wpAny_standAt (wpAny_bind (wpAny_holding ?_)))
  exact setattr_ok I2 ea c n l r fun s3 I3 => wpAny_release ⟨σ, _, I3, q2⟩
/-- a set that holds n things -/
def SizedO (p : Addr) (n : Nat) : HO := .ext fun h => SizedAt h p n
def rSetS (K : PySem.W.Frag) : List V → Hp → VK → Prop := fun vs H Q => ∃ (a : Addr) (xs : List Str), vs = [.ref a] ∧ SqL K H a (xs.map V.str) ∧ xs.Nodup ∧ xs.length + 1 < scanBound ∧ ∀ p, H p = none → Q (.ref p) (upd H p (SizedO p xs.length))
theorem texts_are {xs : List Str} : ∀ {us : List Value}, Vals (xs.map V.str) us → PyProof.Rows.StrsAre us xs := by
  induction xs with
  | nil => intro us r; cases r; exact .nil
  | cons x xs ih =>
    intro us r
    cases r with
    | cons a t => obtain ⟨tk, rfl⟩ := a; exact .cons x tk (ih t)
theorem cr_setS (hc : X.calm = true) : CallR X (.type "set") (rSetS X.K) := by
  intro pins s σ H vs us Q I r h
  obtain ⟨a, xs, rfl, hs, nd, hb, q⟩ := h
  rw [Vals.ref1 r]
  obtain ⟨its, rv, hl, _⟩ := I.list hs
  refine set_unlike (I.ok.hd hc) hl.isList (texts_are rv) nd hb fun g tk sz kp => ?_
  have new : ObjOk X.prog X.w (upd H s.heap.objs.size (SizedO s.heap.objs.size xs.length)) g s.heap.objs.size (SizedO s.heap.objs.size xs.length) := by
    obtain ⟨o, es, ep, t, h1, h2⟩ := id sz
    exact ⟨sz, ⟨o, h1⟩, fun g1 g2 ⟨o, es, ep, t, h1, h2⟩ k => ⟨o, es, ep, t, k _ h1, h2⟩⟩
  exact ⟨.ref _, _, I.laid (t' := tk) kp (Nat.le_refl _) new, rfl, q _ (I.hok.fresh (Nat.le_refl _))⟩
def rLenS : List V → Hp → VK → Prop := fun vs H Q => ∃ p n, vs = [.ref p] ∧ H p = some (SizedO p n) ∧ (n : Int) < 2 ^ 63 ∧ Q (.int (n : Nat)) H
theorem cr_lenS : CallR X (.builtin "len") rLenS := by
  intro pins s σ H vs us Q I r h
  obtain ⟨p, n, rfl, hp, hn, q⟩ := h
  rw [Vals.ref1 r]
  obtain ⟨⟨o, es, ep, t, h1, h2, h3, h4, h5⟩, _, _⟩ := (show ObjOk X.prog X.w H s.heap p (SizedO p n) from I.hok p _ hp)
  refine call_len_set h1 h2 h3 h4 (by rw [h5]; exact hn) ?_
  refine ⟨.int n, H, I.tok _, ⟨s.toks + 1, ?_⟩, q⟩
  rw [h5]
/-- an expression's dict is locked for ever -/
def tLk (t : TE) : TE := fun σ H Q => t σ H fun v H1 => ∃ d u, H1 d = some u ∧ Mut (some u) ∧ ∀ od, Q v (upd H1 d (.frz od u))
theorem pe_lk {e : Expr} {t : TE} (h : PE X e t) : PE X e (tLk t) := by
  refine ⟨fun pins s σ H Q I hw => ?_⟩
  refine thn (h.run pins s σ H _ I hw) fun v s1 ⟨x, H1, I1, r, d, u, hd, mu, q⟩ => ?_
  obtain ⟨od, I2⟩ := I1.lock hd mu
  exact ⟨x, _, I2, r, q od⟩
end
end Z
set_option maxRecDepth 100000
set_option maxHeartbeats 4000000
/-! Z12: dicts over predicates. Own work. -/
namespace Z
open PySem PySem.Spec L2
/-! ### tables with whole numbers -/
section
variable {κ : Type} [DecidableEq κ]
def getI (l : List (κ × Int)) (k : κ) : Option Int := (l.find? fun x => decide (x.1 = k)).map (·.2)
def putI (l : List (κ × Int)) (k : κ) (n : Int) : List (κ × Int) := if (l.any fun x => decide (x.1 = k)) = true then l.map (fun x => if x.1 = k then (x.1, n) else x) else l ++ [(k, n)]
def dropI (l : List (κ × Int)) (k : κ) : List (κ × Int) := l.filter fun x => decide (x.1 ≠ k)
abbrev vI (x : κ × Int) : κ × V := (x.1, V.int x.2)
theorem valV_I {l : List (κ × Int)} {k : κ} : valV (l.map vI) k = (getI l k).map V.int := by
  induction l with
  | nil => rfl
  | cons x l ih =>
    rw [List.map_cons]
    by_cases e : x.1 = k
    · rw [valV_pos e]; simp [getI, List.find?_cons, e]
    · rw [valV_neg e, ih]; simp [getI, List.find?_cons, e]
theorem putK_I {l : List (κ × Int)} {k : κ} {n : Int} : putK (l.map vI) k (V.int n) = (putI l k n).map vI := by
  unfold putK putI
  have e : ((l.map vI).any fun kv => decide (kv.1 = k)) = (l.any fun x => decide (x.1 = k)) := by rw [List.any_map]; rfl
  rw [e]
  split
  · rw [List.map_map, List.map_map]
    refine List.map_congr_left fun x _ => ?_
    show (if x.1 = k then _ else _) = vI (if x.1 = k then _ else _)
    split <;> rfl
  · rw [List.map_append]; rfl
theorem dropK_I {l : List (κ × Int)} {k : κ} : dropK (l.map vI) k = (dropI l k).map vI := by
  unfold dropK dropI
  rw [List.filter_map]; rfl
theorem putI_len {l : List (κ × Int)} {k : κ} {n : Int} : (putI l k n).length ≤ l.length + 1 := by
  unfold putI
  split
  · rw [List.length_map]; omega
  · rw [List.length_append]; exact Nat.le_refl _
end
section
variable {K : PySem.W.Frag} {G G1 G2 : Gm} {M M1 M2 M3 : OM} {P P1 P2 : Pr}
def intT (K : PySem.W.Frag) (l : List (List Key × Int)) : List (List Key × Pr) := l.map fun x => (x.1, Dd K (.int x.2))
theorem intT_paired {F : Hp} : ∀ {l : List (List Key × Int)} {vs : List (List Key × V)}, Paired (fun (p : List Key × Pr) (q : List Key × V) => p.1 = q.1 ∧ Sta p.2 q.2 F) (intT K l) vs → vs = l.map vI
  | [], _, h => by cases h; rfl
  | x :: l, _, h => by
    cases h with
    | @cons _ b _ _ r t =>
      obtain ⟨e1, e2⟩ := r
      have e3 := dd_int e2
      rw [intT_paired t]
      show b :: _ = vI x :: _
      have : b = vI x := by
        obtain ⟨b1, b2⟩ := b
        dsimp only at e1 e3
        rw [e3, ← e1]
      rw [this]
theorem paired_intT {F : Hp} : ∀ (l : List (List Key × Int)), Paired (fun (p : List Key × Pr) (q : List Key × V) => p.1 = q.1 ∧ Sta p.2 q.2 F) (intT K l) (l.map vI)
  | [] => .nil
  | x :: l => .cons ⟨rfl, dd (.int _)⟩ (paired_intT l)
theorem cell_dT {H : Hp} {p : Addr} {l : List (List Key × Int)} (w : Own M H) (hm : M p = some (.dT (intT K l))) : H p = some (.dT (l.map vI)) := by
  obtain ⟨o, e1, xs, rfl, r⟩ := w.cell p _ hm
  rw [intT_paired r] at e1
  exact e1
/-- a tuple that may be a key -/
def Kt (ks : List Key) : Pr := fun v F => ∃ b, v = .ref b ∧ F b = some (.tup (ks.map kV))
theorem kt_of {ks : List Key} {b : Addr} {F : Hp} (h : F b = some (.tup (ks.map kV))) : Sta (Kt ks) (.ref b) F := fun _ s => ⟨b, rfl, s _ _ h⟩
def keyD : Key → PyData
  | .inl i => .int i
  | .inr x => .str x
theorem dd_key {k : Key} {v : V} {F : Hp} (h : Sta (Dd K (keyD k)) v F) : v = kV k := by
  cases k with
  | inl i => exact dd_int h
  | inr x => exact dd_str h
theorem key_dd {k : Key} {F : Hp} : Sta (Dd K (keyD k)) (kV k) F := by
  cases k with
  | inl i => exact dd (.int _)
  | inr x => exact dd (.str _)
theorem keys_of {F : Hp} : ∀ {ks : List Key} {vs : List V}, Stas (ks.map fun k => Dd K (keyD k)) vs F → vs = ks.map kV
  | [], _, h => by cases h; rfl
  | k :: ks, _, h => by
    cases h with
    | cons a t => rw [dd_key a, keys_of t]; rfl
theorem of_keys {F : Hp} : ∀ (ks : List Key), Stas (ks.map fun k => Dd K (keyD k)) (ks.map kV) F
  | [] => .nil
  | k :: ks => .cons key_dd (of_keys ks)
theorem kt_tp {ks : List Key} {v : V} {F : Hp} (h : Sta (Kt ks) v F) : Sta (Tp K (ks.map fun k => Dd K (keyD k))) v F := fun F' s => by
  obtain ⟨b, rfl, e⟩ := h F' s
  exact ⟨b, _, rfl, .of e, of_keys ks⟩
theorem kt_dd {ks : List Key} {v : V} {F : Hp} (h : Sta (Kt ks) v F) : Sta (Dd K (.tuple (ks.map keyD))) v F := dd_tp (by rw [List.map_map]; exact kt_tp h)
theorem ev_tupK {t : TA} (ks : List Key) (h : EvA G M t (ks.map fun k => Dd K (keyD k)) M1) (hl : ks.length ≤ sizeLine := by decide) : Evl G M (tTup t) (Kt ks) M1 := fun σ H Q a k => h σ H _ a fun vs H' s q => by
  have e := keys_of q
  subst e
  refine ⟨by rw [List.length_map]; exact hl, fun p hp => ?_⟩
  obtain ⟨s2, e⟩ := Stp.alloc s.own hp (.tup (ks.map kV))
  exact k _ _ (s.trans s2) (kt_of e)
/-- d != {} -/
def D0 : Pr := fun v F => ∃ b, v = .ref b ∧ F b = some (.dT [])
theorem ev_dnew0 : Evl G M tDNewT D0 M := fun σ H Q a k p hp => by
  obtain ⟨s2, e⟩ := Stp.alloc a.own hp (.dT [])
  exact k _ _ s2 fun F s => ⟨p, rfl, s _ _ e⟩
theorem ope_ne0T {p : Addr} {l : List (List Key × Int)} (hm : M p = some (.dT (intT K l))) : OpE M rNe0 (Rf p) D0 (Dd K (.bool (!l.isEmpty))) M := fun x y H Q w h1 h2 k => by
  cases h1.here
  obtain ⟨b, rfl, e⟩ := h2.here
  refine ⟨p, b, _, rfl, rfl, cell_dT w hm, Frz_le _ _ e, ?_⟩
  have : (l.map vI).isEmpty = l.isEmpty := by cases l <;> rfl
  rw [this]
  exact k _ H (.refl w) (dd (.bl _))
theorem write_dT {H : Hp} {p : Addr} {l l' : List (List Key × Int)} (w : Own M H) (hm : M p = some (.dT (intT K l))) : Stp M H (M.set p (.dT (intT K l'))) (upd H p (.dT (l'.map vI))) :=
  Stp.write w hm ⟨_, rfl, paired_intT l'⟩
theorem nrm_dputT {td ty tv : TE} {p : Addr} {l : List (List Key × Int)} {k : List Key} {n : Int} (hv : Evl G M tv (Dd K (.int n)) M1) (hd : Evl G M1 td (Rf p) M2) (hk : Evl G M2 ty (Kt k) M3) (hm : M3 p = some (.dT (intT K l))) (hl : l.length < sizeLine) :
    Nrm G M (sDPut td ty tv) G (M3.set p (.dT (intT K (putI l k n)))) := fun σ H D a c =>
  hv σ H _ a fun v H1 s1 q1 => hd σ H1 _ (a.step s1) fun x H2 s2 q2 => hk σ H2 _ ((a.step s1).step s2) fun y H3 s3 q3 => by
    cases q2.here
    obtain ⟨b, rfl, e⟩ := q3.here
    cases dd_int q1
    have e0 := cell_dT s3.own hm
    refine ⟨p, _, rfl, .inr ⟨_, k, b, e0, rfl, Frz_le _ _ e, by rw [List.length_map]; exact hl, rfl⟩, ?_⟩
    rw [putK_I]
    have s4 := write_dT s3.own hm (l' := putI l k n)
    have s := ((s1.trans s2).trans s3).trans s4
    exact c σ _ s (a.step s)
theorem ev_dgetT {td ty : TE} {p : Addr} {l : List (List Key × Int)} {k : List Key} {n : Int} (hd : Evl G M td (Rf p) M1) (hk : Evl G M1 ty (Kt k) M2) (hm : M2 p = some (.dT (intT K l))) (hg : getI l k = some n) : Evl G M (tDGet td ty) (Dd K (.int n)) M2 := fun σ H Q a c =>
  hd σ H _ a fun x H1 s1 q1 => hk σ H1 _ (a.step s1) fun y H2 s2 q2 => by
    cases q1.here
    obtain ⟨b, rfl, e⟩ := q2.here
    refine ⟨p, .int n, rfl, .inr ⟨_, k, b, .inl (cell_dT s2.own hm), rfl, Frz_le _ _ e, by rw [valV_I, hg]; rfl⟩, ?_⟩
    exact c _ H2 (s1.trans s2) (dd (.int _))
theorem ev_dget2T {td ty tx : TE} {p : Addr} {l : List (List Key × Int)} {k : List Key} {n : Int} (hd : Evl G M td (Rf p) M) (hk : Evl G M ty (Kt k) M) (hx : Evl G M tx (Dd K (.int n)) M) (hm : M p = some (.dT (intT K l))) : Evl G M (tDGet2 td ty tx) (Dd K (.int ((getI l k).getD n))) M := fun σ H Q a c =>
  hd σ H _ a fun x H1 s1 q1 => by
    cases q1.here
    refine ⟨p, rfl, .inr ⟨_, .inl (cell_dT s1.own hm)⟩, ?_⟩
    refine hk σ H1 _ (a.step s1) fun y H2 s2 q2 => hx σ H2 _ ((a.step s1).step s2) fun z H3 s3 q3 => ?_
    obtain ⟨b, rfl, e⟩ := q2.here
    cases dd_int q3
    refine ⟨_, .inr ⟨_, k, b, .inl (cell_dT s3.own hm), rfl, Frz_le _ _ (s3.frz _ _ e), rfl⟩, ?_⟩
    rw [valV_I]
    have e1 : ((getI l k).map V.int).getD (V.int n) = V.int ((getI l k).getD n) := by cases getI l k <;> rfl
    rw [e1]
    exact c _ H3 ((s1.trans s2).trans s3) (dd (.int _))
theorem ev_popT {td ty : TE} {p : Addr} {l : List (List Key × Int)} {k : List Key} {n : Int} (hd : Evl G M td (Rf p) M) (hk : Evl G M ty (Kt k) M) (hm : M p = some (.dT (intT K l))) (hg : getI l k = some n) : Evl G M (tBM K "dict" rPopT1 td (tCons ty tNil)) (Dd K (.int n)) (M.set p (.dT (intT K (dropI l k)))) := fun σ H Q a c =>
  hd σ H _ a fun x H1 s1 q1 => by
    cases q1.here
    refine ⟨.inr (.inr (.inl ⟨rfl, .inr ⟨_, cell_dT s1.own hm⟩⟩)), hk σ H1 _ (a.step s1) fun y H2 s2 q2 => ?_⟩
    obtain ⟨b, rfl, e⟩ := q2.here
    refine ⟨p, _, k, b, .int n, rfl, rfl, cell_dT s2.own hm, Frz_le _ _ e, by rw [valV_I, hg]; rfl, ?_⟩
    rw [dropK_I]
    exact c _ _ ((s1.trans s2).trans (write_dT s2.own hm)) (dd (.int _))
/-- min(d, key=lambda k: d[k]) -/
theorem ev_minL {i : Nat} {T p : Addr} {q : Str} {l : List (List Key × Int)} {k : List Key} (hi : G[i]? = some (some (Rf p))) (hm : M p = some (.dT (intT K l))) (hT : M T = some (.tbl q)) (uT : ∀ b q', M b = some (.tbl q') → b = T ∧ q' = q) (hne : l ≠ [])
    (hk : (l[firstLeast (l.map (·.2))]?).map (·.1) = some k) : Evl G M (tMinL i T q) (Kt k) M := fun σ H Q a c => by
  obtain ⟨v, e1, e2⟩ := a.env i _ hi
  cases e2.here
  have e0 := cell_dT a.own hm
  obtain ⟨o, t1, ps, rfl, t2, t3⟩ := a.own.cell T _ hT
  refine ⟨p, _, l.map (·.2), e1, e0, by rw [List.map_map, List.map_map]; rfl, by simpa using hne, ⟨ps, t1, t2, fun pos cv z => ?_⟩, fun b k2 H1 hk2 ext tb e => ?_⟩
  · obtain ⟨c, z1, z2⟩ := t3 pos cv z
    exact ⟨c, z1, Frz_le _ _ z2⟩
  · have ek : k2 = k := by
      rw [List.getElem?_map, Option.map_map] at hk2
      have : ((fun x : List Key × V => x.1) ∘ vI) = (fun x : List Key × Int => x.1) := rfl
      rw [this, hk] at hk2
      exact (Option.some.inj hk2).symm
    subst ek
    have s := Stp.tbl a.own ext hT uT tb
    refine c _ H1 s (kt_of (Frz_of ?_ e (fun ps z => by cases z)))
    cases hb : M b with
    | none => rfl
    | some d =>
      obtain ⟨o2, f1, f2⟩ := s.own.cell b d hb
      rw [e] at f1
      cases f1
      cases d with
      | lst ps => obtain ⟨_, z, _⟩ := f2; cases z
      | ins C dx fs => obtain ⟨_, z, _⟩ := f2; cases z
      | dK kvs => obtain ⟨_, z, _⟩ := f2; cases z
      | dT kvs => obtain ⟨_, z, _⟩ := f2; cases z
      | tbl q2 => obtain ⟨_, z, _⟩ := f2; cases z
end
end Z
set_option maxRecDepth 100000
set_option maxHeartbeats 4000000
/-! Z13: locked dicts: made by a comprehension, read, walked. Own work. -/
namespace Z
open PySem PySem.Spec L2
section
variable {K : PySem.W.Frag} {G G1 G2 : Gm} {M M1 M2 M3 : OM} {P P1 P2 : Pr}
abbrev KPs (kps : List (Key × Pr)) (vs : List (Key × V)) (F : Hp) : Prop := Paired (fun (p : Key × Pr) (q : Key × V) => p.1 = q.1 ∧ Sta p.2 q.2 F) kps vs
theorem KPs.mono {kps : List (Key × Pr)} {vs : List (Key × V)} {F F' : Hp} (h : KPs kps vs F) (s : Same F F') : KPs kps vs F' := Paired.mapP h fun _ _ z => ⟨z.1, z.2.mono s⟩
theorem KPs.keys {kps : List (Key × Pr)} {vs : List (Key × V)} {F : Hp} : KPs kps vs F → vs.map (·.1) = kps.map (·.1) := by
  intro h
  induction h with
  | nil => rfl
  | cons r t ih => rw [List.map_cons, List.map_cons, ih, r.1]
/-- a dict that is locked for ever -/
def Dk (kps : List (Key × Pr)) : Pr := fun v F => ∃ a od vs, v = .ref a ∧ F a = some (.frz od (.dK vs)) ∧ KPs kps vs F
theorem dk_of {kps : List (Key × Pr)} {a : Addr} {od : Obj} {vs : List (Key × V)} {F : Hp} (h : F a = some (.frz od (.dK vs))) (r : KPs kps vs F) : Sta (Dk kps) (.ref a) F := fun _ s => ⟨a, od, vs, rfl, s _ _ h, r.mono s⟩
theorem Stp.lock {H : Hp} {a : Addr} {kps : List (Key × Pr)} {vs : List (Key × V)} {od : Obj} (w : Own (M.set a (.dK kps)) H) (h : H a = some (.dK vs)) (hn : M a = none) : Stp (M.set a (.dK kps)) H M (upd H a (.frz od (.dK vs))) ∧ Sta (Dk kps) (.ref a) (Frz M (upd H a (.frz od (.dK vs)))) := by
  have s : Same (Frz (M.set a (.dK kps)) H) (Frz M (upd H a (.frz od (.dK vs)))) := fun b u e => by
    obtain ⟨e1, e2⟩ := Frz_some e
    have nb : b ≠ a := fun z => by subst z; rw [OM.set_same] at e1; cases e1
    rw [OM.set_ne nb] at e1
    exact Frz_of e1 (by rw [upd_ne nb]; exact e2) (Frz_nt e)
  refine ⟨⟨s, ⟨fun b d e => ?_⟩⟩, ?_⟩
  · have nb : b ≠ a := fun z => by subst z; rw [hn] at e; cases e
    obtain ⟨u, q, r⟩ := w.cell b d (by rw [OM.set_ne nb]; exact e)
    exact ⟨u, by rw [upd_ne nb]; exact q, r.mono s⟩
  · obtain ⟨o, q, vs2, rfl, r⟩ := w.cell a _ OM.set_same
    rw [h] at q
    cases q
    exact dk_of (Frz_of hn upd_same (fun ps z => by cases z)) (KPs.mono r s)
/-- one turn -/
def TurnD (G : Gm) (M : OM) (P : Pr) (g : TG) (tk tv : TE) (vs : List Nat) (k : Key) (Φ : PsE) (K : PySem.W.Frag) : Prop := ∃ G1, EvGw G M P g vs G1 M ∧ Evl G1 M tk (Dd K (keyD k)) M ∧ EvlX G1 M tv Φ
theorem evx_dcL {wi : TI} {g : TG} {tk tv : TE} {vs : List Nat} {n : Nat} {p : Nat → Pr} (Φ : Nat → List (Key × Pr) → OM → Prop) (hi : EvI G M wi n p M1) (hz : n < sizeLine) (h0 : Φ 0 [] M1) (hl : ∀ i kps m, Φ i kps m → kps.length ≤ i)
    (turn : ∀ i, i < n → ∀ kps M', Φ i kps M' → ∀ D, M' D = none → ∃ k, k ∉ kps.map (·.1) ∧ TurnD (wipeG G vs) (M'.set D (.dK kps)) (p i) g tk tv vs k (fun P m => ∃ M2, m = M2.set D (.dK kps) ∧ M2 D = none ∧ Φ (i + 1) (kps ++ [(k, P)]) M2) K) :
    EvlX G M (tLk (tDc wi g tYes tk tv vs)) (fun P m => ∃ kps, Φ n kps m ∧ P = Dk kps) := fun σ H Q a c => hi σ H _ a fun J H1 s w D hD => by
  have s0 := Stp.allocO s.own hD (o := .dK []) (c := .dK []) ⟨[], rfl, .nil⟩
  refine ⟨fun i m H' => m = n - i ∧ i ≤ n ∧ ∃ kps M', Φ i kps M' ∧ M' D = none ∧ Stp M H (M'.set D (.dK kps)) H' ∧ Same (Frz M1 H1) (Frz (M'.set D (.dK kps)) H'), ⟨n, by simp, Nat.zero_le _, [], M1, h0, s.own.free hD, s.trans s0, s0.frz⟩, ?_⟩
  rintro i m H' ⟨rfl, hin, kps, M', ph, hn, st, sm⟩
  obtain ⟨w1, w2⟩ := w _ H' st.own sm
  by_cases hlt : i < n
  · obtain ⟨go, yl⟩ := w1 i hlt
    refine .inr ⟨go, fun H2 => ∃ kps M', Φ (i + 1) kps M' ∧ M' D = none ∧ Stp M H (M'.set D (.dK kps)) H2 ∧ Same (Frz M1 H1) (Frz (M'.set D (.dK kps)) H2), fun H2 q => ⟨n - (i + 1), by omega, rfl, hlt, q⟩, fun x H2 y => ?_⟩
    obtain ⟨y1, y2⟩ := yl x H2 y
    obtain ⟨k, nk, G1, t1, t2, t3⟩ := turn i hlt kps M' ph D hn
    have a2 := ((a.step st).step y1).wipe vs
    refine t1 x (L2.wipe σ vs) H2 _ a2 y2 fun σ3 H3 s3 a3 e3 => ⟨by rw [e3, wipe_wipe], ?_⟩
    simp only [tYes, if_true]
    refine t2 σ3 H3 _ a3 fun ky H4 s4 q4 => t3 σ3 H4 _ (a3.step s4) fun P m z H5 ⟨M2, em, hn2, ph2⟩ s5 q5 => ?_
    subst em
    have e := dd_key q4
    subst e
    obtain ⟨o, f1, vs5, rfl, f2⟩ := s5.own.cell D _ OM.set_same
    have lv : vs5.length = kps.length := (Paired.length f2).symm
    have ll := hl i kps M' ph
    have ep : putK vs5 k z = vs5 ++ [(k, z)] := by
      unfold putK
      rw [if_neg]
      intro ha
      obtain ⟨kv, hm, he⟩ := List.any_eq_true.mp ha
      refine nk ?_
      rw [← KPs.keys f2]
      have : kv.1 = k := of_decide_eq_true he
      rw [← this]
      exact List.mem_map_of_mem hm
    refine ⟨vs5, k, rfl, f1, by omega, kps ++ [(k, P)], M2, ph2, hn2, ?_⟩
    rw [ep]
    have s6 := Stp.write s5.own OM.set_same (c' := .dK (kps ++ [(k, P)])) (o := .dK (vs5 ++ [(k, z)])) ⟨_, rfl, Paired.snoc f2 ⟨rfl, q5⟩⟩
    rw [OM.set_set] at s6
    exact ⟨((((st.trans y1).trans s3).trans s4).trans s5).trans s6, ((((sm.trans y1.frz).trans s3.frz).trans s4.frz).trans s5.frz).trans s6.frz⟩
  · have e : i = n := by omega
    subst e
    refine .inl ⟨w2, ?_⟩
    obtain ⟨o, f1, vs5, rfl, f2⟩ := st.own.cell D _ OM.set_same
    refine ⟨D, _, f1, True.intro, fun od => ?_⟩
    obtain ⟨s5, q5⟩ := Stp.lock (od := od) st.own f1 hn
    exact c _ M' _ _ ⟨kps, ph, rfl⟩ (st.trans s5) q5
theorem kps_val {F : Hp} {k : Key} : ∀ {kps : List (Key × Pr)} {vs : List (Key × V)} {P : Pr}, KPs kps vs F → (kps.find? fun x => decide (x.1 = k)).map (·.2) = some P → ∃ v, valV vs k = some v ∧ Sta P v F
  | _, _, P, .nil, e => by cases e
  | p :: kps, q :: vs, P, .cons r t, e => by
    by_cases h : p.1 = k
    · rw [List.find?_cons, decide_eq_true h] at e
      cases e
      exact ⟨q.2, valV_pos (r.1.symm.trans h), r.2⟩
    · rw [List.find?_cons, decide_eq_false h] at e
      obtain ⟨v, e1, e2⟩ := kps_val t e
      exact ⟨v, by rw [valV_neg (fun z => h (r.1.trans z))]; exact e1, e2⟩
theorem ev_dgetL {td ty : TE} {kps : List (Key × Pr)} {k : Key} (hd : Evl G M td (Dk kps) M1) (hk : Evl G M1 ty (Dd K (keyD k)) M2) (hg : (kps.find? fun x => decide (x.1 = k)).map (·.2) = some P) : Evl G M (tDGet td ty) P M2 := fun σ H Q a c =>
  hd σ H _ a fun x H1 s1 q1 => hk σ H1 _ (a.step s1) fun y H2 s2 q2 => by
    obtain ⟨d, od, vs, rfl, e1, e2⟩ := (q1.mono s2.frz).here
    cases dd_key q2
    obtain ⟨v, e3, e4⟩ := kps_val e2 hg
    exact ⟨d, v, rfl, .inl ⟨vs, k, .inr ⟨od, Frz_le _ _ e1⟩, rfl, e3.symm⟩, c v H2 (s1.trans s2) e4⟩
theorem evi_keysL {td : TE} {kps : List (Key × Pr)} (hd : Evl G M td (Dk kps) M1) : EvI G M (iKeys td) kps.length (at_ (kps.map fun x => Dd K (keyD x.1))) M1 := fun σ H R a k => hd σ H _ a fun v H1 s q => by
  obtain ⟨d, od, vs, rfl, e1, e2⟩ := q.here
  refine ⟨d, od, rfl, .inl ⟨vs, Frz_le _ _ e1, k _ H1 s fun M2 H2 w2 s2 => ?_⟩⟩
  have hh : H2 d = some (.frz od (.dK vs)) := Frz_le _ _ (s2 _ _ e1)
  have ll : kps.length = vs.length := Paired.length e2
  refine ⟨fun i hi => ⟨⟨hh, by omega⟩, fun x H3 y => ?_⟩, hh, by omega⟩
  obtain ⟨rfl, ky, z, y1, rfl⟩ := y
  refine ⟨.refl w2, ?_⟩
  have hk : kps[i]? = some kps[i] := List.getElem?_eq_getElem hi
  rw [at_map hk]
  obtain ⟨b, b1, b2, b3⟩ := paired_get e2 hk
  rw [y1] at b1
  cases b1
  rw [b2]
  exact key_dd
theorem evi_itemsL {td : TE} {kps : List (Key × Pr)} (hd : Evl G M td (Dk kps) M1) : EvI G M (iItems td) kps.length (at_ (kps.map fun x => Tp K [Dd K (keyD x.1), x.2])) M1 := fun σ H R a k => hd σ H _ a fun v H1 s q => by
  obtain ⟨d, od, vs, rfl, e1, e2⟩ := q.here
  refine ⟨d, od, vs, rfl, Frz_le _ _ e1, k _ H1 s fun M2 H2 w2 s2 => ?_⟩
  have hh : H2 d = some (.frz od (.dK vs)) := Frz_le _ _ (s2 _ _ e1)
  have ll : kps.length = vs.length := Paired.length e2
  refine ⟨fun i hi => ⟨⟨hh, by omega⟩, fun x H3 y => ?_⟩, hh, by omega⟩
  obtain ⟨T, ky, z, y1, rfl, y2, rfl⟩ := y
  have hk : kps[i]? = some kps[i] := List.getElem?_eq_getElem hi
  rw [at_map hk]
  obtain ⟨b, b1, b2, b3⟩ := paired_get e2 hk
  rw [y1] at b1
  cases b1
  obtain ⟨s3, e3⟩ := Stp.alloc w2 y2 (.tup [kV ky, z])
  refine ⟨s3, tp_of (.of e3) (.cons ?_ (.cons ((b3.mono s2).mono s3.frz) .nil))⟩
  rw [b2]
  exact key_dd
end
end Z
set_option maxRecDepth 100000
set_option maxHeartbeats 4000000
/-! Z14: dicts with tuple keys by a comprehension; lists: append, pop, store, slices, joined. Own work. -/
namespace Z
open PySem PySem.Spec L2
section
variable {K : PySem.W.Frag} {G G1 G2 : Gm} {M M1 M2 M3 : OM} {P P1 P2 : Pr}
theorem putI_new {κ : Type} [DecidableEq κ] {l : List (κ × Int)} {k : κ} {n : Int} (h : k ∉ l.map (·.1)) : putI l k n = l ++ [(k, n)] := by
  unfold putI
  rw [if_neg]
  intro ha
  obtain ⟨x, hm, he⟩ := List.any_eq_true.mp ha
  have : x.1 = k := of_decide_eq_true he
  exact h (by rw [← this]; exact List.mem_map_of_mem hm)
theorem evx_dcT {α : Type} {wi : TI} {g : TG} {tk tv : TE} {vs : List Nat} (as : List α) (p : α → Pr) (kf : α → List Key) (nf : α → Int) (hi : EvI G M wi as.length (at_ (as.map p)) M1) (hz : as.length < sizeLine) (nd : (as.map kf).Nodup)
    (turn : ∀ a, a ∈ as → ∀ D c, M1 D = none → ∃ G1, EvGw (wipeG G vs) (M1.set D c) (p a) g vs G1 (M1.set D c) ∧ Evl G1 (M1.set D c) tk (Kt (kf a)) (M1.set D c) ∧ Evl G1 (M1.set D c) tv (Dd K (.int (nf a))) (M1.set D c)) :
    EvlX G M (tDcT wi g tYes tk tv vs) (fun P m => ∃ D, M1 D = none ∧ P = Rf D ∧ m = M1.set D (.dT (intT K (as.map fun a => (kf a, nf a))))) := fun σ H Q a c => hi σ H _ a fun J H1 s w D hD => by
  have hm := s.own.free hD
  have s0 := Stp.allocO s.own hD (o := .dT []) (c := .dT (intT K [])) ⟨[], rfl, .nil⟩
  let L : Nat → List (List Key × Int) := fun i => (as.take i).map fun a => (kf a, nf a)
  refine ⟨fun i m H' => m = as.length - i ∧ i ≤ as.length ∧ Stp M H (M1.set D (.dT (intT K (L i)))) H' ∧ Same (Frz M1 H1) (Frz (M1.set D (.dT (intT K (L i)))) H'), ⟨as.length, by simp, Nat.zero_le _, by rw [show L 0 = [] by simp [L]]; exact s.trans s0, by rw [show L 0 = [] by simp [L]]; exact s0.frz⟩, ?_⟩
  rintro i m H' ⟨rfl, hin, st, sm⟩
  obtain ⟨w1, w2⟩ := w _ H' st.own sm
  by_cases hlt : i < as.length
  · obtain ⟨go, yl⟩ := w1 i hlt
    refine .inr ⟨go, fun H2 => Stp M H (M1.set D (.dT (intT K (L (i + 1))))) H2 ∧ Same (Frz M1 H1) (Frz (M1.set D (.dT (intT K (L (i + 1))))) H2), fun H2 q => ⟨as.length - (i + 1), by omega, rfl, hlt, q⟩, fun x H2 y => ?_⟩
    obtain ⟨y1, y2⟩ := yl x H2 y
    have hg := List.getElem?_eq_getElem hlt
    rw [at_map hg] at y2
    obtain ⟨G1, t1, t2, t3⟩ := turn as[i] (List.getElem_mem hlt) D (.dT (intT K (L i))) hm
    have a2 := ((a.step st).step y1).wipe vs
    refine t1 x (L2.wipe σ vs) H2 _ a2 y2 fun σ3 H3 s3 a3 e3 => ⟨by rw [e3, wipe_wipe], ?_⟩
    simp only [tYes, if_true]
    refine t2 σ3 H3 _ a3 fun ky H4 s4 q4 => t3 σ3 H4 _ (a3.step s4) fun z H5 s5 q5 => ?_
    obtain ⟨b, rfl, e4⟩ := (q4.mono s5.frz).here
    cases dd_int q5
    have e5 := cell_dT s5.own OM.set_same
    have eL : L (i + 1) = L i ++ [(kf as[i], nf as[i])] := by
      show (as.take (i + 1)).map _ = (as.take i).map _ ++ _
      rw [List.take_succ, hg, List.map_append]; rfl
    have nk : kf as[i] ∉ (L i).map (·.1) := by
      intro hc
      rw [List.map_map] at hc
      obtain ⟨a2, h2, h3⟩ := List.mem_map.mp hc
      obtain ⟨j, hj, ej⟩ := List.getElem_of_mem h2
      rw [List.length_take] at hj
      rw [List.getElem_take] at ej
      subst ej
      have := (List.pairwise_iff_getElem.mp nd) j i (by rw [List.length_map]; omega) (by rw [List.length_map]; exact hlt) (by omega)
      rw [List.getElem_map, List.getElem_map] at this
      exact this h3
    have ll : (L i).length ≤ i := by show ((as.take i).map _).length ≤ i; rw [List.length_map, List.length_take]; omega
    refine ⟨_, kf as[i], b, rfl, Frz_le _ _ e4, e5, by rw [List.length_map]; omega, ?_⟩
    rw [putK_I, putI_new nk, ← eL]
    have s6 := write_dT s5.own OM.set_same (l' := L (i + 1))
    rw [OM.set_set] at s6
    exact ⟨((((st.trans y1).trans s3).trans s4).trans s5).trans s6, ((((sm.trans y1.frz).trans s3.frz).trans s4.frz).trans s5.frz).trans s6.frz⟩
  · have e : i = as.length := by omega
    subst e
    have eL : L as.length = as.map fun a => (kf a, nf a) := by show (as.take as.length).map _ = _; rw [List.take_length]
    rw [eL] at st
    exact .inl ⟨w2, c _ _ _ _ ⟨D, hm, rfl, rfl⟩ st rf⟩

/-! ### lists that are owned -/
theorem ev_append {to te : TE} {p : Addr} {ps : List Pr} (h1 : Evl G M to (Rf p) M1) (h2 : Evl G M1 te P M2) (hm1 : ∃ ps, M1 p = some (.lst ps)) (hm : M2 p = some (.lst ps)) (hl : ps.length < sizeLine) : Evl G M (tBM K "list" rAppend to (tCons te tNil)) (Dd K .none) (M2.set p (.lst (ps ++ [P]))) := fun σ H Q a c =>
  h1 σ H _ a fun x H1 s1 q1 => by
    cases q1.here
    obtain ⟨ps1, hm1⟩ := hm1
    obtain ⟨xs1, e1, _⟩ := cell_lst s1.own hm1
    refine ⟨.inl ⟨rfl, xs1, .of e1⟩, h2 σ H1 _ (a.step s1) fun v H2 s2 q2 => ?_⟩
    obtain ⟨xs, e2, r⟩ := cell_lst s2.own hm
    refine ⟨p, xs, v, rfl, rfl, e2, by rw [← r.len]; exact hl, ?_⟩
    have s3 := Stp.write s2.own hm (c' := .lst (ps ++ [P])) (o := .lst (xs ++ [v])) ⟨_, rfl, stas_snoc r q2⟩
    exact c _ _ ((s1.trans s2).trans s3) (dd .non)
theorem ev_popL {to : TE} {p : Addr} {ps : List Pr} (h1 : Evl G M to (Rf p) M1) (hm : M1 p = some (.lst (ps ++ [P]))) : Evl G M (tBM0 K "list" rPop to) P (M1.set p (.lst ps)) := fun σ H Q a c =>
  h1 σ H _ a fun x H1 s1 q1 => by
    cases q1.here
    obtain ⟨xs, e1, r⟩ := cell_lst s1.own hm
    have hl := r.len
    rw [List.length_append, List.length_singleton] at hl
    obtain ⟨v, e2, e3⟩ := r.get (i := ps.length) (P := P) (by simp)
    have ed : xs.dropLast = xs.take ps.length := by rw [List.dropLast_eq_take]; congr 1; omega
    refine ⟨.inl ⟨rfl, xs, .of e1⟩, p, xs, v, rfl, rfl, e1, by rw [← hl]; simpa using e2, ?_⟩
    have q := stas_take ps.length r
    rw [List.take_left] at q
    rw [ed]
    have s3 := Stp.write s1.own hm (c' := .lst ps) (o := .lst (xs.take ps.length)) ⟨_, rfl, q⟩
    exact c _ _ (s1.trans s3) (e3.mono s3.frz)
/-- p[i] = v -/
theorem evg_setO {to ti : TE} {p : Addr} {ps : List Pr} {i : Int} {j : Nat} (h1 : Evl G M to (Rf p) M1) (h2 : Evl G M1 ti (Dd K (.int i)) M2) (hm : M2 p = some (.lst ps)) (hj : ixN ps.length i = some j) : EvG G M P (gSub to ti rSetL) G (M2.set p (.lst (ps.set j P))) := fun v σ H Q a q c =>
  h1 σ H _ a fun x H1 s1 q1 => h2 σ H1 _ (a.step s1) fun y H2 s2 q2 => by
    cases q1.here
    cases dd_int q2
    obtain ⟨xs, e1, r⟩ := cell_lst s2.own hm
    refine ⟨p, xs, i, j, rfl, rfl, e1, by rw [← r.len]; exact hj, ?_⟩
    have s3 := Stp.write s2.own hm (c' := .lst (ps.set j P)) (o := .lst (xs.set j v)) ⟨_, rfl, stas_set ((q.mono s1.frz).mono s2.frz) r⟩
    have s := (s1.trans s2).trans s3
    exact c σ _ s (a.step s)
theorem evg_fldO {ta : TE} {C dx p : Addr} {fs : List (Str × Pr)} {f : Str} (cl : Cls K C) (n : NoAttr K C f) (h : Evl G M ta (Rf p) M1) (hm : M1 p = some (.ins C dx fs)) (hl : fs.length < 1000) : EvG G M P (gFld K ta f) G (M1.set p (.ins C dx (putP f P fs))) := fun v σ H Q a q c =>
  h σ H _ a fun x H1 s1 q1 => by
    cases q1.here
    obtain ⟨o, e1, vs, rfl, e2⟩ := s1.own.cell p _ hm
    have s3 := Stp.write s1.own hm (c' := .ins C dx (putP f P fs)) (o := .ins C dx (putF f v vs)) ⟨_, rfl, paired_put (q.mono s1.frz) e2⟩
    exact ⟨p, C, dx, vs, rfl, e1, cl, n, by rw [← Paired.length e2]; exact hl, c σ _ (s1.trans s3) (a.step (s1.trans s3))⟩
/-! ### slices -/
def EvO (G : Gm) (M : OM) (t : TO) (o : Option Int) : Prop := ∀ σ H (Q : Option Int → Hp → Prop), At G M σ H → (∀ H', Stp M H M H' → Q o H') → t σ H Q
theorem evo_no : EvO G M tNoPart none := fun σ H Q a c => c H (.refl a.own)
theorem evo_some {te : TE} {i : Int} (h : Evl G M te (Dd K (.int i)) M) : EvO G M (tPart te) (some i) := fun σ H Q a c => h σ H _ a fun v H' s q => ⟨i, dd_int q, c H' s⟩
def cutP (ps : List Pr) (lo hi : Option Int) : List Pr := (ps.drop (HT.sIx ps.length 0 lo)).take (HT.sIx ps.length ps.length hi - HT.sIx ps.length 0 lo)
theorem stas_cut {F : Hp} {ps : List Pr} {vs : List V} {lo hi : Option Int} (h : Stas ps vs F) : Stas (cutP ps lo hi) (cutV vs lo hi) F := by
  unfold cutP cutV
  rw [← h.len]
  exact stas_take _ (stas_drop _ h)
theorem ev_slL {te : TE} {tl th : TO} {lo hi : Option Int} {ps : List Pr} (h : Evl G M te (Ls K ps) M1) (h1 : EvO G M1 tl lo) (h2 : EvO G M1 th hi) : Evl G M (tSl (rSlL K) te tl th) (Ls K (cutP ps lo hi)) M1 := fun σ H Q a c =>
  h σ H _ a fun x H1 s1 q1 => h1 σ H1 _ (a.step s1) fun H2 s2 => h2 σ H2 _ ((a.step s1).step s2) fun H3 s3 => by
    obtain ⟨b, xs, rfl, e1, e2⟩ := ((q1.mono s2.frz).mono s3.frz).here
    refine ⟨b, xs, rfl, Frz_le.seq e1, fun p hp => ?_⟩
    obtain ⟨s4, e4⟩ := Stp.alloc s3.own hp (.lst (cutV xs lo hi))
    exact c _ _ (((s1.trans s2).trans s3).trans s4) (ls_of (.of e4) (stas_cut (e2.mono s4.frz)))
theorem ev_slO {te : TE} {tl th : TO} {lo hi : Option Int} {ps : List Pr} {p : Addr} (h : Evl G M te (Rf p) M1) (hm : M1 p = some (.lst ps)) (h1 : EvO G M1 tl lo) (h2 : EvO G M1 th hi) : Evl G M (tSl (rSlL K) te tl th) (Ls K (cutP ps lo hi)) M1 := fun σ H Q a c =>
  h σ H _ a fun x H1 s1 q1 => h1 σ H1 _ (a.step s1) fun H2 s2 => h2 σ H2 _ ((a.step s1).step s2) fun H3 s3 => by
    cases q1.here
    obtain ⟨xs, e1, e2⟩ := cell_lst s3.own hm
    refine ⟨p, xs, rfl, .of e1, fun p hp => ?_⟩
    obtain ⟨s4, e4⟩ := Stp.alloc s3.own hp (.lst (cutV xs lo hi))
    exact c _ _ (((s1.trans s2).trans s3).trans s4) (ls_of (.of e4) (stas_cut (e2.mono s4.frz)))
theorem ev_slT {te : TE} {tl th : TO} {lo hi : Option Int} {ps : List Pr} (h : Evl G M te (Tp K ps) M1) (h1 : EvO G M1 tl lo) (h2 : EvO G M1 th hi) (hw : ¬ (HT.sIx ps.length 0 lo = 0 ∧ HT.sIx ps.length ps.length hi = ps.length)) : Evl G M (tSl (rSlT K) te tl th) (Tp K (cutP ps lo hi)) M1 := fun σ H Q a c =>
  h σ H _ a fun x H1 s1 q1 => h1 σ H1 _ (a.step s1) fun H2 s2 => h2 σ H2 _ ((a.step s1).step s2) fun H3 s3 => by
    obtain ⟨b, xs, rfl, e1, e2⟩ := ((q1.mono s2.frz).mono s3.frz).here
    refine ⟨b, xs, rfl, seqT_mono Frz_le e1, by rw [← e2.len]; exact hw, fun p hp => ?_⟩
    obtain ⟨s4, e4⟩ := Stp.alloc s3.own hp (.tup (cutV xs lo hi))
    exact c _ _ (((s1.trans s2).trans s3).trans s4) (tp_of (.of e4) (stas_cut (e2.mono s4.frz)))
theorem ev_slX {te : TE} {tl th : TO} {lo hi : Option Int} {z : Str} (h : Evl G M te (Dd K (.str z)) M1) (h1 : EvO G M1 tl lo) (h2 : EvO G M1 th hi) (hz : z.length ≤ sizeLine) : Evl G M (tSl C8.rSlX te tl th) (Dd K (.str (Txt.slice z lo hi))) M1 := fun σ H Q a c =>
  h σ H _ a fun x H1 s1 q1 => h1 σ H1 _ (a.step s1) fun H2 s2 => h2 σ H2 _ ((a.step s1).step s2) fun H3 s3 =>
    ⟨z, dd_str q1, hz, c _ _ ((s1.trans s2).trans s3) (dd (.str _))⟩
def cutD (ds : List PyData) (lo hi : Option Int) : List PyData := (ds.drop (HT.sIx ds.length 0 lo)).take (HT.sIx ds.length ds.length hi - HT.sIx ds.length 0 lo)
theorem cutP_D {ds : List PyData} {lo hi : Option Int} : cutP (ds.map (Dd K)) lo hi = (cutD ds lo hi).map (Dd K) := by
  unfold cutP cutD
  rw [List.length_map, List.map_take, List.map_drop]
theorem cx_K {CX : CXT} {P : Program} {w : World} {K : PySem.W.Frag} {mg : Str → Option Value} {base : Heap} {N : List Str} {q : Str} {sc : Scope} {f : Addr} {cdv : Value} {A : Around} {outer : List Env} {s : Shared} {H : Hp} {E : XK} : (cxOf CX P w K mg base N q sc f cdv A outer s H E).nox.K = K := rfl
section
variable {X : Cx} {K : PySem.W.Frag}
theorem op_eqK (h : X.K = K) (hu : X.A.units + 64 < cLine) : OpR X (compareOp .Eq) (rEqP K) := by subst h; exact op_eqP hu
theorem op_neK (h : X.K = K) (hu : X.A.units + 64 < cLine) : OpR X (compareOp .NotEq) (rNeP K) := by subst h; exact op_neP hu
theorem op_ltK (h : X.K = K) (hu : X.A.units + 64 < cLine) : OpR X (compareOp .Lt) (rLtP K) := by subst h; exact op_ltP hu
theorem op_inK (h : X.K = K) (hu : X.A.units + 64 < cLine) : OpR X (compareOp .In) (rInP K false) := by subst h; exact op_inP hu
theorem op_notInK (h : X.K = K) (hu : X.A.units + 64 < cLine) : OpR X (compareOp .NotIn) (rInP K true) := by subst h; exact op_notInP hu
theorem op_catLK (h : X.K = K) : OpR X (binaryOp .Add) (rCatL K) := by subst h; exact op_catL
theorem op_catTK (h : X.K = K) : OpR X (binaryOp .Add) (rCatT K) := by subst h; exact op_catT
theorem cr_sortK (h : X.K = K) (hu : X.A.units + 64 < cLine) : CallR X (.builtin "sorted") (rSortD K) := by subst h; exact cr_sortD hu
theorem cr_setK (h : X.K = K) (hc : X.calm = true) : CallR X (.type "set") (rSetS K) := by subst h; exact cr_setS hc
theorem sl_listK (h : X.K = K) : SlR X (rSlL K) := by subst h; exact sl_list
theorem sl_tupK (h : X.K = K) : SlR X (rSlT K) := by subst h; exact sl_tup
theorem call_isiK (h : X.K = K) : CallR X (.builtin "isinstance") (rIsi K) := by subst h; exact call_isi
theorem call_list_ofK (h : X.K = K) : CallR X (.type "list") (rListOf K) := by subst h; exact call_list_of
theorem call_tuple_ofK (h : X.K = K) : CallR X (.type "tuple") (rTupOf K) := by subst h; exact call_tuple_of
theorem call_lenK (h : X.K = K) : CallR X (.builtin "len") (fun xs H Q => ∃ x n, xs = [x] ∧ LenV K x H n ∧ Q (.int n) H) := by subst h; exact call_len
end
theorem pg_tupK {X : Cx} {K : PySem.W.Frag} (hK : X.K = K) {es : List Expr} {k : Nat} {t : TGs} {n : Nat} {pos : Pos} (hc : X.calm = true) (h : PGs X es t) (hn : (assignEach es X.env).length = n := by rfl) (hst : (assignEach es X.env).findIdx? (·.1) = none := by rfl) : PG X (.Tuple es k pos) (gTup K n t) := by
  subst hK; exact pg_tup hc h hn hst
theorem pg_unlK {X : Cx} {K : PySem.W.Frag} (hK : X.K = K) {es : List Expr} {k : Nat} {t : TGs} {n : Nat} {pos : Pos} (hc : X.calm = true) (h : PGs X es t) (hn : (assignEach es X.env).length = n := by rfl) (hst : (assignEach es X.env).findIdx? (·.1) = none := by rfl) : PG X (.Tuple es k pos) (gUnl K n t) := by
  subst hK; exact pg_unl hc h hn hst
theorem pe_fldK {X : Cx} {K : PySem.W.Frag} (hK : X.K = K) {e : Expr} {f : Str} {pos : Pos} {ta : TE} (he : PE X e ta) (hb : attributeBase e f X.env (eval e X.env) = eval e X.env) : PE X (.Attribute e f pos) (tFld K ta f) := by
  subst hK; exact pe_fld he hb
theorem ix_K {X : Cx} {K : PySem.W.Frag} (h : X.K = K) : IxR X (rIx K) := by subst h; exact ix_seq
/-! ### joined -/
theorem ope_catL {ps qs : List Pr} (hl : ps.length + qs.length ≤ sizeLine) : OpE M (rCatL K) (Ls K ps) (Ls K qs) (Ls K (ps ++ qs)) M := fun x y H Q w h1 h2 c => by
  obtain ⟨a, xs, rfl, e1, e2⟩ := h1.here
  obtain ⟨b, ys, rfl, e3, e4⟩ := h2.here
  refine ⟨a, b, xs, ys, rfl, rfl, Frz_le.seq e1, Frz_le.seq e3, by rw [← e2.len, ← e4.len]; exact hl, fun p hp => ?_⟩
  obtain ⟨s, e⟩ := Stp.alloc w hp (.lst (xs ++ ys))
  exact c _ _ s (ls_of (.of e) (Stas.append (e2.mono s.frz) (e4.mono s.frz)))
theorem ope_catLD {ds es : List PyData} (hl : ds.length + es.length ≤ sizeLine) : OpE M (rCatL K) (Dd K (.list ds)) (Dd K (.list es)) (Dd K (.list (ds ++ es))) M := fun x y H Q w h1 h2 c =>
  ope_catL (ps := ds.map (Dd K)) (qs := es.map (Dd K)) (by rw [List.length_map, List.length_map]; exact hl) x y H Q w (ls_dd h1) (ls_dd h2) fun v H' s q => c v H' s (dd_ls (by rw [List.map_append]; exact q))
theorem ope_catT {ps qs : List Pr} (hp : ps ≠ []) (hq : qs ≠ []) (hl : ps.length + qs.length ≤ sizeLine) : OpE M (rCatT K) (Tp K ps) (Tp K qs) (Tp K (ps ++ qs)) M := fun x y H Q w h1 h2 c => by
  obtain ⟨a, xs, rfl, e1, e2⟩ := h1.here
  obtain ⟨b, ys, rfl, e3, e4⟩ := h2.here
  have nx : xs ≠ [] := fun z => by subst z; cases e2; exact hp rfl
  have ny : ys ≠ [] := fun z => by subst z; cases e4; exact hq rfl
  refine ⟨a, b, xs, ys, rfl, rfl, seqT_mono Frz_le e1, seqT_mono Frz_le e3, nx, by rw [← e2.len, ← e4.len]; exact hl, fun z => absurd z ny, fun _ p hp => ?_⟩
  obtain ⟨s, e⟩ := Stp.alloc w hp (.tup (xs ++ ys))
  exact c _ _ s (tp_of (.of e) (Stas.append (e2.mono s.frz) (e4.mono s.frz)))
theorem ope_catTD {ds es : List PyData} (hp : ds ≠ []) (hq : es ≠ []) (hl : ds.length + es.length ≤ sizeLine) : OpE M (rCatT K) (Dd K (.tuple ds)) (Dd K (.tuple es)) (Dd K (.tuple (ds ++ es))) M := fun x y H Q w h1 h2 c =>
  ope_catT (ps := ds.map (Dd K)) (qs := es.map (Dd K)) (by simpa using hp) (by simpa using hq) (by rw [List.length_map, List.length_map]; exact hl) x y H Q w (tp_dd h1) (tp_dd h2) fun v H' s q => c v H' s (dd_tp (by rw [List.map_append]; exact q))
/-! ### sized sets, max with a default, texts -/
def Sz (n : Nat) : Pr := fun v F => ∃ p, v = .ref p ∧ F p = some (SizedO p n)
theorem cbe_setS {xs : List Str} (nd : xs.Nodup) (hb : xs.length + 1 < scanBound) : CbE M (rSetS K) [Dd K (.list (xs.map .str))] (Sz xs.length) M := fun vs H Q w h c => by
  obtain ⟨x, rfl, a⟩ := stas1 h
  obtain ⟨b, ys, rfl, q, r⟩ := dd_lst a
  rw [strs_of r] at q
  refine ⟨b, xs, rfl, Frz_le.seq q, nd, hb, fun p hp => ?_⟩
  obtain ⟨s, e⟩ := Stp.alloc w hp (SizedO p xs.length) (fun ps z => by unfold SizedO at z; cases z)
  exact c _ _ s fun F s2 => ⟨p, rfl, s2 _ _ e⟩
theorem cbe_lenSz {n : Nat} (hn : (n : Int) < 2 ^ 63) : CbE M rLenS [Sz n] (Dd K (.int (n : Nat))) M := fun vs H Q w h c => by
  obtain ⟨x, rfl, a⟩ := stas1 h
  obtain ⟨p, rfl, e⟩ := a.here
  exact ⟨p, n, rfl, Frz_le _ _ e, hn, c _ H (.refl w) (dd (.int _))⟩
theorem ev_cbk {r : List V → List V → Hp → VK → Prop} {t tk : TA} {ps qs : List Pr} (h1 : EvA G M t ps M1) (h2 : EvA G M1 tk qs M2) (h : ∀ vs ws H Q, Own M2 H → Stas ps vs (Frz M2 H) → Stas qs ws (Frz M2 H) → (∀ v H', Stp M2 H M3 H' → Sta P v (Frz M3 H') → Q v H') → r vs ws H Q) : Evl G M (tCKw r t tk) P M3 := fun σ H Q a c =>
  h1 σ H _ a fun vs H1 s1 q1 => h2 σ H1 _ (a.step s1) fun ws H2 s2 q2 => h vs ws H2 Q s2.own (q1.mono s2.frz) q2 fun v H3 s3 q3 => c v H3 ((s1.trans s2).trans s3) q3
def maxOr (n : Int) (ns : List Int) : Int := match ns with
  | [] => n
  | m :: r => r.foldl max m
theorem ev_maxDf {t tk : TA} {ns : List Int} {n : Int} (h1 : EvA G M t [Dd K (.list (ns.map .int))] M1) (h2 : EvA G M1 tk [Dd K (.int n)] M2) : Evl G M (tCKw (rMaxDf K) t tk) (Dd K (.int (maxOr n ns))) M2 := ev_cbk h1 h2 fun vs ws H Q w q1 q2 c => by
  obtain ⟨x, rfl, a⟩ := stas1 q1
  obtain ⟨y, rfl, b⟩ := stas1 q2
  obtain ⟨p, ys, rfl, e1, e2⟩ := dd_lst a
  rw [ints_of e2] at e1
  refine ⟨p, ns, n, rfl, by rw [dd_int b], Frz_le.seq e1, ?_⟩
  cases ns with
  | nil => exact c _ H (.refl w) (dd (.int _))
  | cons m r => exact c _ H (.refl w) (dd (.int _))
theorem cbe_minS {a b : Str} : CbE M (fun xs H Q => ∃ a b, xs = [.str a, .str b] ∧ Q (.str (lesserT a b)) H) [Dd K (.str a), Dd K (.str b)] (Dd K (.str (lesserT a b))) M := fun vs H Q w h c => by
  obtain ⟨x, y, rfl, h1, h2⟩ := stas2 h
  rw [dd_str h1, dd_str h2]
  exact ⟨a, b, rfl, c _ H (.refl w) (dd (.str _))⟩
theorem cbe_maxS {a b : Str} : CbE M (fun xs H Q => ∃ a b, xs = [.str a, .str b] ∧ Q (.str (greaterT a b)) H) [Dd K (.str a), Dd K (.str b)] (Dd K (.str (greaterT a b))) M := fun vs H Q w h c => by
  obtain ⟨x, y, rfl, h1, h2⟩ := stas2 h
  rw [dd_str h1, dd_str h2]
  exact ⟨a, b, rfl, c _ H (.refl w) (dd (.str _))⟩
end
end Z
set_option maxRecDepth 100000
set_option maxHeartbeats 4000000
/-! Z15: a dict's lists that are owned, one for each name. Own work. -/
namespace Z
open PySem PySem.Spec L2
section
variable {K : PySem.W.Frag} {G G1 G2 : Gm} {M M1 M2 M3 : OM} {P P1 P2 : Pr}
abbrev NA := List (Str × Addr)
def owns (M : OM) (L : NA) (cont : Str → List Pr) : OM := fun b => match L.find? fun q => decide (q.2 = b) with
  | some q => some (.lst (cont q.1))
  | none => M b
structure NAok (M : OM) (L : NA) : Prop where
  nn : (L.map (·.1)).Nodup
  na : (L.map (·.2)).Nodup
  fr : ∀ q ∈ L, M q.2 = none
abbrev kR (L : NA) : List (Key × Pr) := L.map fun q => (.inr q.1, Rf q.2)
theorem owns_in {L : NA} {cont : Str → List Pr} {x : Str} {a : Addr} (na : (L.map (·.2)).Nodup) (h : (x, a) ∈ L) : owns M L cont a = some (.lst (cont x)) := by
  unfold owns
  induction L with
  | nil => cases h
  | cons q L ih =>
    rw [List.map_cons, List.nodup_cons] at na
    rw [List.find?_cons]
    by_cases e : q.2 = a
    · rw [decide_eq_true e]
      rcases List.mem_cons.mp h with e2 | h
      · rw [← e2]
      · exact absurd (by rw [e]; exact List.mem_map_of_mem (f := (·.2)) h) na.1
    · rw [decide_eq_false e]
      rcases List.mem_cons.mp h with e2 | h
      · rw [← e2] at e; exact absurd rfl e
      · exact ih na.2 h
theorem owns_out {L : NA} {cont : Str → List Pr} {b : Addr} (h : b ∉ L.map (·.2)) : owns M L cont b = M b := by
  unfold owns
  have : L.find? (fun q => decide (q.2 = b)) = none := by
    rw [List.find?_eq_none]
    intro q hq e
    have e := of_decide_eq_true e
    exact h (by rw [← e]; exact List.mem_map_of_mem hq)
  rw [this]
theorem owns_nil {cont : Str → List Pr} : owns M [] cont = M := rfl
theorem owns_cases {L : NA} {cont : Str → List Pr} (b : Addr) : (∃ x, (x, b) ∈ L ∧ owns M L cont b = some (.lst (cont x))) ∨ (b ∉ L.map (·.2) ∧ owns M L cont b = M b) := by
  unfold owns
  cases h : L.find? fun q => decide (q.2 = b) with
  | some q =>
    left
    have e : q.2 = b := of_decide_eq_true (p := q.2 = b) (List.find?_some (p := fun q : Str × Addr => decide (q.2 = b)) h)
    have m := List.mem_of_find?_eq_some h
    exact ⟨q.1, by rw [← e]; exact m, rfl⟩
  | none =>
    right
    rw [List.find?_eq_none] at h
    refine ⟨fun hm => ?_, rfl⟩
    obtain ⟨q, hq, e⟩ := List.mem_map.mp hm
    exact h q hq (decide_eq_true e)
theorem owns_snoc {L : NA} {cont : Str → List Pr} {x : Str} {p : Addr} (h : p ∉ L.map (·.2)) : owns M (L ++ [(x, p)]) cont = (owns M L cont).set p (.lst (cont x)) := by
  funext b
  show owns M (L ++ [(x, p)]) cont b = if b = p then _ else _
  unfold owns
  rw [List.find?_append]
  by_cases e : b = p
  · rw [if_pos e]
    have : L.find? (fun q => decide (q.2 = b)) = none := by
      rw [List.find?_eq_none]
      intro q hq e2
      have e2 := of_decide_eq_true e2
      exact h (by rw [← e, ← e2]; exact List.mem_map_of_mem hq)
    rw [this, List.find?_cons, decide_eq_true e.symm]; rfl
  · rw [if_neg e, List.find?_cons, decide_eq_false (fun z => e z.symm)]
    cases L.find? fun q => decide (q.2 = b) <;> rfl
def upC (cont : Str → List Pr) (x : Str) (ps : List Pr) : Str → List Pr := fun y => if y = x then ps else cont y
theorem owns_set {L : NA} {cont : Str → List Pr} {x : Str} {a : Addr} {ps : List Pr} (ok : NAok M L) (h : (x, a) ∈ L) : (owns M L cont).set a (.lst ps) = owns M L (upC cont x ps) := by
  funext b
  show (if b = a then _ else _) = _
  rcases owns_cases (M := M) (L := L) (cont := cont) b with ⟨y, hy, e⟩ | ⟨hn, e⟩
  · rw [e, owns_in (M := M) ok.na hy]
    unfold upC
    by_cases eb : b = a
    · subst eb
      rw [if_pos rfl]
      have : y = x := by
        have i1 := List.getElem_of_mem hy
        have i2 := List.getElem_of_mem h
        obtain ⟨i, hi, ei⟩ := i1
        obtain ⟨j, hj, ej⟩ := i2
        have hij : i = j := by
          rcases Nat.lt_trichotomy i j with q | q | q
          · exact absurd (by rw [List.getElem_map, List.getElem_map, ei, ej]) ((List.pairwise_iff_getElem.mp ok.na) i j (by simpa using hi) (by simpa using hj) q)
          · exact q
          · exact absurd (by rw [List.getElem_map, List.getElem_map, ei, ej]) ((List.pairwise_iff_getElem.mp ok.na) j i (by simpa using hj) (by simpa using hi) q)
        subst hij
        rw [ei] at ej
        exact (Prod.mk.inj ej).1
      rw [if_pos this]
    · rw [if_neg eb]
      have : y ≠ x := fun e2 => by
        subst e2
        obtain ⟨i, hi, ei⟩ := List.getElem_of_mem hy
        obtain ⟨j, hj, ej⟩ := List.getElem_of_mem h
        have hij : i = j := by
          rcases Nat.lt_trichotomy i j with q | q | q
          · exact absurd (by rw [List.getElem_map, List.getElem_map, ei, ej]) ((List.pairwise_iff_getElem.mp ok.nn) i j (by simpa using hi) (by simpa using hj) q)
          · exact q
          · exact absurd (by rw [List.getElem_map, List.getElem_map, ei, ej]) ((List.pairwise_iff_getElem.mp ok.nn) j i (by simpa using hj) (by simpa using hi) q)
        subst hij
        rw [ei] at ej
        exact eb (Prod.mk.inj ej).2
      rw [if_neg this]
  · have : b ≠ a := fun e2 => hn (by rw [e2]; exact List.mem_map_of_mem (f := (·.2)) h)
    rw [if_neg this, e, owns_out hn]
theorem owns_base {L : NA} {cont : Str → List Pr} {b : Addr} {c : OC} (h : b ∉ L.map (·.2)) : (owns M L cont).set b c = owns (M.set b c) L cont := by
  funext d
  show (if d = b then _ else _) = _
  rcases owns_cases (M := M) (L := L) (cont := cont) d with ⟨y, hy, e⟩ | ⟨hn, e⟩
  · have : d ≠ b := fun z => h (by rw [← z]; exact List.mem_map_of_mem (f := (·.2)) hy)
    rw [if_neg this, e]
    rcases owns_cases (M := M.set b c) (L := L) (cont := cont) d with ⟨y2, hy2, e2⟩ | ⟨hn2, e2⟩
    · rw [e2]
      unfold owns at e e2
      cases q : L.find? fun q => decide (q.2 = d) with
      | none => exact absurd (decide_eq_true rfl) ((List.find?_eq_none.mp q) _ hy)
      | some r => rw [q] at e e2; rw [← e, ← e2]
    · exact absurd (List.mem_map_of_mem (f := (·.2)) hy) hn2
  · rw [owns_out (M := M.set b c) hn, e]; rfl
theorem kr_get {L : NA} {x : Str} {a : Addr} (nn : (L.map (·.1)).Nodup) (h : (x, a) ∈ L) : ((kR L).find? fun y => decide (y.1 = .inr x)).map (·.2) = some (Rf a) := by
  induction L with
  | nil => cases h
  | cons q L ih =>
    rw [List.map_cons, List.nodup_cons] at nn
    rw [show kR (q :: L) = (.inr q.1, Rf q.2) :: kR L from rfl, List.find?_cons]
    by_cases e : q.1 = x
    · rw [decide_eq_true (show (.inr q.1 : Key) = .inr x by rw [e])]
      rcases List.mem_cons.mp h with e2 | h
      · rw [← e2]; rfl
      · exact absurd (by rw [e]; exact List.mem_map_of_mem (f := (·.1)) h) nn.1
    · rw [decide_eq_false (show ¬ (.inr q.1 : Key) = .inr x from fun z => e (Sum.inr.inj z))]
      rcases List.mem_cons.mp h with e2 | h
      · rw [← e2] at e; exact absurd rfl e
      · exact ih nn.2 h
/-- letting all lists go -/
theorem owns_stp {H : Hp} {L : NA} {cont : Str → List Pr} (ok : NAok M L) (w : Own (owns M L cont) H) : Stp (owns M L cont) H M H := by
  have s : Same (Frz (owns M L cont) H) (Frz M H) := fun b u e => by
    obtain ⟨e1, e2⟩ := Frz_some e
    refine Frz_of ?_ e2 (Frz_nt e)
    rcases owns_cases (M := M) (L := L) (cont := cont) b with ⟨y, hy, e3⟩ | ⟨hn, e3⟩
    · rw [e1] at e3; cases e3
    · rw [e1] at e3; exact e3.symm
  refine ⟨s, ⟨fun b d e => ?_⟩⟩
  have hb : b ∉ L.map (·.2) := fun hm => by
    obtain ⟨q, hq, e2⟩ := List.mem_map.mp hm
    rw [← e2, ok.fr q hq] at e
    cases e
  obtain ⟨u, q, r⟩ := w.cell b d (by rw [owns_out hb]; exact e)
  exact ⟨u, q, r.mono s⟩
/-- the dict's lists as they stand then -/
theorem owns_dk {H : Hp} {L : NA} {cont : Str → List Pr} (ok : NAok M L) (w : Own (owns M L cont) H) {v : V} (h : Sta (Dk (kR L)) v (Frz (owns M L cont) H)) : Sta (Dk (L.map fun q => (.inr q.1, Ls K (cont q.1)))) v (Frz M H) := by
  have st := owns_stp ok w
  obtain ⟨a, od, vs, rfl, e1, e2⟩ := h.here
  refine dk_of (st.frz _ _ e1) ?_
  have key : ∀ (l : NA) (vs : List (Key × V)), (∀ q ∈ l, q ∈ L) → KPs (kR l) vs (Frz (owns M L cont) H) → KPs (l.map fun q => (.inr q.1, Ls K (cont q.1))) vs (Frz M H) := by
    intro l
    induction l with
    | nil => intro vs _ q; cases q; exact .nil
    | cons q l ih =>
      intro vs hs r
      cases r with
      | cons r t =>
        refine .cons ⟨r.1, ?_⟩ (ih _ (fun q hq => hs q (List.mem_cons_of_mem _ hq)) t)
        have hv := r.2.here
        have hq := hs q (List.mem_cons_self ..)
        obtain ⟨o, f1, xs, rfl, f2⟩ := w.cell q.2 _ (owns_in ok.na (x := q.1) hq)
        have hv : _ = V.ref q.2 := hv
        rw [hv]
        have fz : Frz M H q.2 = some (.lst xs) := Frz_of (ok.fr q hq) f1 (fun ps z => by cases z)
        exact ls_of (.of fz) (Stas.mono f2 st.frz)
  exact key L vs (fun q hq => hq) e2
/-- a comprehension that lays a new list at each name -/
theorem evx_lists {wi : TI} {g : TG} {tk tv : TE} {vs : List Nat} (names : List Str) (ps : List Pr) (hi : EvI G M wi names.length (at_ (names.map fun x => Dd K (.str x))) M) (hz : names.length < sizeLine) (nd : names.Nodup) (hp : ps.length ≤ sizeLine)
    (turn : ∀ x M2, (∀ b, M b ≠ none → M2 b = M b) → ∃ G1 tl, tv = tLst tl ∧ EvGw (wipeG G vs) M2 (Dd K (.str x)) g vs G1 M2 ∧ Evl G1 M2 tk (Dd K (.str x)) M2 ∧ EvA G1 M2 tl ps M2) :
    EvlX G M (tLk (tDc wi g tYes tk tv vs)) (fun P m => ∃ L, L.map (·.1) = names ∧ NAok M L ∧ P = Dk (kR L) ∧ m = owns M L (fun _ => ps)) := by
  refine (evx_dcL (K := K) (fun i kps m => ∃ L : NA, L.map (·.1) = names.take i ∧ NAok M L ∧ kps = kR L ∧ m = owns M L (fun _ => ps)) hi hz ⟨[], by simp, ⟨by simp, by simp, fun q h => by cases h⟩, rfl, rfl⟩ (fun i kps m ⟨L, h1, _, h3, _⟩ => ?_) fun i hlt kps M' ⟨L, h1, h2, h3, h4⟩ D hD => ?_).imp fun P m ⟨kps, ⟨L, h1, h2, h3, h4⟩, e⟩ => ?_
  · rw [h3, List.length_map, ← List.length_map (f := (·.1)), h1, List.length_take]; omega
  · subst h3; subst h4
    have hg : names[i]? = some names[i] := List.getElem?_eq_getElem hlt
    rw [at_map hg]
    have nk : names[i] ∉ L.map (·.1) := by
      rw [h1]
      intro hm
      obtain ⟨j, hj, ej⟩ := List.getElem_of_mem hm
      rw [List.length_take] at hj
      rw [List.getElem_take] at ej
      exact (List.pairwise_iff_getElem.mp nd) j i (by omega) hlt (by omega) ej
    refine ⟨.inr names[i], fun hm => ?_, ?_⟩
    · rw [List.map_map] at hm
      obtain ⟨q, hq, e⟩ := List.mem_map.mp hm
      exact nk (by rw [← Sum.inr.inj e]; exact List.mem_map_of_mem hq)
    have hDL : D ∉ L.map (·.2) := fun hm => by
      obtain ⟨q, hq, e⟩ := List.mem_map.mp hm
      have := owns_in (M := M) (cont := fun _ => ps) h2.na (x := q.1) (a := q.2) hq
      rw [e, hD] at this
      cases this
    have hMD : M D = none := by rw [owns_out hDL] at hD; exact hD
    obtain ⟨G1, tl, e0, t1, t2, t3⟩ := turn names[i] ((owns M L fun _ => ps).set D (.dK (kR L))) (fun b hb => by
      have nb : b ≠ D := fun z => hb (by rw [z]; exact hMD)
      rw [OM.set_ne nb]
      refine owns_out fun hm => ?_
      obtain ⟨q, hq, e⟩ := List.mem_map.mp hm
      exact hb (by rw [← e]; exact h2.fr q hq))
    subst e0
    refine ⟨G1, t1, t2, (evx_lst t3 hp).imp fun P m ⟨p, e1, e2, e3⟩ => ?_⟩
    have hpD : p ≠ D := fun z => by rw [z, OM.set_same] at e1; cases e1
    rw [OM.set_ne hpD] at e1
    have hpL : p ∉ L.map (·.2) := fun hm => by
      obtain ⟨q, hq, e⟩ := List.mem_map.mp hm
      have := owns_in (M := M) (cont := fun _ => ps) h2.na (x := q.1) (a := q.2) hq
      rw [e, e1] at this
      cases this
    have hMp : M p = none := by rw [owns_out hpL] at e1; exact e1
    refine ⟨(owns M L fun _ => ps).set p (.lst ps), ?_, ?_, L ++ [(names[i], p)], ?_, ⟨?_, ?_, ?_⟩, ?_, ?_⟩
    · rw [e3]; exact OM.set_comm (fun z => hpD z.symm)
    · rw [OM.set_ne (fun z => hpD z.symm)]; exact hD
    · rw [List.map_append, h1, List.take_succ, hg]; rfl
    · rw [List.map_append]
      exact List.nodup_append.mpr ⟨h2.nn, by simp, fun a ha b hb e => by simp at hb; subst hb; exact nk (e ▸ ha)⟩
    · rw [List.map_append]
      exact List.nodup_append.mpr ⟨h2.na, by simp, fun a ha b hb e => by simp at hb; subst hb; exact hpL (e ▸ ha)⟩
    · intro q hq
      rcases List.mem_append.mp hq with hq | hq
      · exact h2.fr q hq
      · rw [List.mem_singleton.mp hq]; exact hMp
    · rw [e2]; show _ = List.map _ (L ++ [(names[i], p)]); rw [List.map_append]; rfl
    · rw [owns_snoc hpL]
  · subst e; subst h3; subst h4
    rw [List.take_length] at h1
    exact ⟨L, h1, h2, rfl, rfl⟩
end
end Z
set_option maxRecDepth 100000
set_option maxHeartbeats 4000000
/-! Z16: y = {k: v for ..}, locked. Own work. -/
namespace Z
open PySem PySem.Spec L2 PyProof.Rows
section
variable {X : Cx}
theorem sw_dict {kx vx : Expr} {gs : List Comprehension} {sc : Scope} {pos py : Pos} {y : Str} {l : Nat} {env : Env} (hk : env.scope.kind = .function) (hy : env.scope.names.lookup y = some .local) (hl : (py.line == pos.line) = true)
    (ha : (sc.names.any fun (n, k) => n == y && (k == .local || k == .cell)) = false) : swapsWith (.DictComp kx vx gs sc pos) (some (.Name y py)) l env = pure true := by
  have k1 : env.kindOf y = some .local := hy
  have k2 : env.blockKind = .function := by rw [Env.blockKind, hk]; rfl
  unfold swapsWith
  simp only [k2, k1, ha, Expr.pos, hl]
  rfl
theorem ps_setDcL {i : Nat} {y : Str} {py : Pos} {kx vx tg iter : Expr} {ifs : List Expr} {sc : Scope} {own : List (Str × Nat)} {pos spos : Pos} {wi : TI} {g : TG} {tt : TT} {tk tv : TE} (hc : X.calm = true) (nd : X.N.Nodup) (hy : X.N[i]? = some y) (hyl : X.env.scope.names.lookup y = some .local)
    (hsw : swapsWith (.DictComp kx vx [⟨tg, iter, ifs, 0⟩] sc pos) (some (.Name y py)) spos.line X.env = pure true) (hi : PI X tg iter wi) (ok : BlkOk X.N X.env.scope sc own)
    (hg : ∀ (s : Shared) (H : Hp) (C : Addr) (cl : List (Str × Addr)) (fp : List Addr), PG (X.blk s H sc (compEnvC sc cl C X.env) fp) tg g) (ht : ∀ (s : Shared) (H : Hp) (C : Addr) (cl : List (Str × Addr)) (fp : List Addr), PTs (X.blk s H sc (compEnvC sc cl C X.env) fp) ifs tt)
    (hk : ∀ (s : Shared) (H : Hp) (C : Addr) (cl : List (Str × Addr)) (fp : List Addr), PE (X.blk s H sc (compEnvC sc cl C X.env) fp) kx tk)
    (he : ∀ (s : Shared) (H : Hp) (C : Addr) (cl : List (Str × Addr)) (fp : List Addr), PE (X.blk s H sc (compEnvC sc cl C X.env) fp) vx tv) (hs : ∀ x, foldedSetIterable iter X.env x = pure x := by intro _; rfl) :
    PS X (.Assign [.Name y py] (.DictComp kx vx [⟨tg, iter, ifs, 0⟩] sc pos) spos) (tAsg (tLk (tDc wi g tt tk tv (own.map (·.2)))) (gName i)) := by
  refine ⟨fun pins s σ H D I h => ?_⟩
  rw [exec_Assign_Name_used _ _ _ _ hsw]
  refine wpAny_bind (wpAny_standAt (wpAny_bind ?_))
  show wpAny _ X.A (do let _ ← comprehension (.DictComp kx vx [⟨tg, iter, ifs, 0⟩] sc pos) sc X.env (firstIterPos [⟨tg, iter, ifs, 0⟩] pos) newDict false (eval iter X.env) (some (assign (.Name y py) X.env))) _ _ s
  have h : tDc wi g tt tk tv (own.map (·.2)) σ H (fun v H1 => ∃ d u, H1 d = some u ∧ Mut (some u) ∧ ∀ od, D.nx (σ.set i (some v)) (upd H1 d (.frz od u))) := h
  refine wpAny_bind (thn (dc_core (Qf := fun _ s' => SP X pins D .next s') hc nd I hi ok hg ht hk he hs h fun L C s' m H' I' q hn f => ?_) fun _ s' hq => wpAny_pure (wpAny_pure hq))
  obtain ⟨d, u, hd, mu, q⟩ := q
  obtain ⟨od, I2⟩ := I'.lock hd mu
  obtain ⟨f0, f1, f2, f3, f4, f5⟩ := f
  have g0 : upd H' d (.frz od u) C = none := by
    have : C ≠ d := fun z => by rw [z, hd] at f0; cases f0
    rw [upd_ne this]; exact f0
  show wpAny _ _ (assign (.Name y py) X.env (.ref L)) _ _ _
  refine wpAny_assign_Name (store_ok2 (v := V.ref L) I2 nd hy (.inl hyl) rfl (fun s2 I3 ⟨a, sb, ha⟩ => ?_) (.inr hyl))
  have apart : C ≠ a := by
    rcases ha with z | z
    · rw [z]; exact f1
    · exact fun e => f4 y a z e.symm
  exact ⟨m, hn.sameBut sb apart, fun h3 sb3 => ⟨_, _, I3.turned (t' := s2.toks) (fun b o hb e => (sb3.2 b hb).trans e) g0 f1 f3 f4 f5, q od⟩⟩
end
end Z
set_option maxRecDepth 100000
set_option maxHeartbeats 4000000
/-! Z17: comprehensions with two clauses; lists extended in place. Own work. -/
namespace Z
open PySem PySem.Spec L2
section
variable {K : PySem.W.Frag} {G G1 G2 : Gm} {M M1 M2 M3 : OM} {P P1 P2 : Pr}
/-- for a in as for b in bs a -/
theorem ev_lc2 {α β : Type} {wi wi1 : TI} {g g1 : TG} {te : TE} {vs vs1 : List Nat} (as : List α) (bs : α → List β) (p : α → Pr) (p1 : α → β → Pr) (q : α → β → Pr) (hi : EvI G M wi as.length (at_ (as.map p)) M1) (hs : (as.flatMap bs).length ≤ sizeLine)
    (turn : ∀ a, a ∈ as → ∀ D c, M1 D = none → ∃ G1, EvGw (wipeG G vs) (M1.set D (.lst c)) (p a) g vs G1 (M1.set D (.lst c)) ∧ EvI G1 (M1.set D (.lst c)) wi1 (bs a).length (at_ ((bs a).map (p1 a))) (M1.set D (.lst c)) ∧
      ∀ b, b ∈ bs a → ∀ c, ∃ G2, EvGw (wipeG G1 vs1) (M1.set D (.lst c)) (p1 a b) g1 vs1 G2 (M1.set D (.lst c)) ∧ Evl G2 (M1.set D (.lst c)) te (q a b) (M1.set D (.lst c))) :
    Evl G M (tLc2 wi g tYes wi1 g1 tYes te vs vs1) (Ls K (as.flatMap fun a => (bs a).map (q a))) M1 := fun σ H Q a0 k => hi σ H _ a0 fun J H1 s w D hD => by
  have hm := s.own.free hD
  have s0 := Stp.allocO s.own hD (o := .lst []) (c := .lst []) ⟨[], rfl, .nil⟩
  let A : Nat → List Pr := fun i => (as.take i).flatMap fun a => (bs a).map (q a)
  have small : ∀ i j a, as[i]? = some a → j ≤ (bs a).length → (A i).length + j ≤ sizeLine := fun i j a ha hj => by
    refine Nat.le_trans ?_ hs
    obtain ⟨hlt, e⟩ := List.getElem?_eq_some_iff.mp ha
    have e2 : as = as.take i ++ a :: as.drop (i + 1) := by rw [← e]; simp
    have e3 : (A i).length = ((as.take i).flatMap bs).length := by
      show ((as.take i).flatMap fun a => (bs a).map (q a)).length = _
      generalize as.take i = l
      induction l with
      | nil => rfl
      | cons x l ih => rw [List.flatMap_cons, List.flatMap_cons, List.length_append, List.length_append, ih, List.length_map]
    rw [e3]
    conv => rhs; rw [e2, List.flatMap_append, List.flatMap_cons]
    rw [List.length_append, List.length_append]
    omega
  refine ⟨fun i m H' => m = as.length - i ∧ i ≤ as.length ∧ Stp M H (M1.set D (.lst (A i))) H' ∧ Same (Frz M1 H1) (Frz (M1.set D (.lst (A i))) H'), ⟨as.length, by simp, Nat.zero_le _, s.trans s0, s0.frz⟩, ?_⟩
  rintro i m H' ⟨rfl, hin, st, sm⟩
  obtain ⟨w1, w2⟩ := w _ H' st.own sm
  by_cases hlt : i < as.length
  · obtain ⟨go, yl⟩ := w1 i hlt
    refine .inr ⟨go, fun H2 => Stp M H (M1.set D (.lst (A (i + 1)))) H2 ∧ Same (Frz M1 H1) (Frz (M1.set D (.lst (A (i + 1)))) H2), fun H2 q => ⟨as.length - (i + 1), by omega, rfl, hlt, q⟩, fun x H2 y => ?_⟩
    obtain ⟨y1, y2⟩ := yl x H2 y
    have hg := List.getElem?_eq_getElem hlt
    rw [at_map hg] at y2
    obtain ⟨G1, t1, t2, t3⟩ := turn as[i] (List.getElem_mem hlt) D (A i) hm
    generalize as[i] = a at *
    have a2 := ((a0.step st).step y1).wipe vs
    refine t1 x (L2.wipe σ vs) H2 _ a2 y2 fun σ3 H3 s3 a3 e3 => ⟨by rw [e3, wipe_wipe], ?_⟩
    simp only [tYes, if_true]
    have eA : A (i + 1) = A i ++ (bs a).map (q a) := by
      show (as.take (i + 1)).flatMap _ = (as.take i).flatMap _ ++ _
      rw [List.take_succ, hg, List.flatMap_append]
      simp
    refine t2 σ3 H3 _ a3 fun J1 H4 s4 wk => ?_
    have st4 := ((st.trans y1).trans s3).trans s4
    have sm4 := ((sm.trans y1.frz).trans s3.frz).trans s4.frz
    have a4 := a3.step s4
    let B : Nat → List Pr := fun j => A i ++ ((bs a).take j).map (q a)
    have B0 : B 0 = A i := by show A i ++ _ = _; simp
    refine ⟨fun j k2 H' => k2 = (bs a).length - j ∧ j ≤ (bs a).length ∧ Stp (M1.set D (.lst (A i))) H4 (M1.set D (.lst (B j))) H', ⟨(bs a).length, by simp, Nat.zero_le _, by rw [B0]; exact .refl s4.own⟩, ?_⟩
    rintro j k2 H5 ⟨rfl, hjn, st5⟩
    obtain ⟨w3, w4⟩ := wk _ H5 st5.own st5.frz
    by_cases hj : j < (bs a).length
    · obtain ⟨go5, yl5⟩ := w3 j hj
      refine .inr ⟨go5, fun H6 => Stp (M1.set D (.lst (A i))) H4 (M1.set D (.lst (B (j + 1)))) H6, fun H6 q => ⟨(bs a).length - (j + 1), by omega, rfl, hj, q⟩, fun z H6 y => ?_⟩
      obtain ⟨z1, z2⟩ := yl5 z H6 y
      have hb := List.getElem?_eq_getElem hj
      rw [at_map hb] at z2
      obtain ⟨G2, u1, u2⟩ := t3 (bs a)[j] (List.getElem_mem hj) (B j)
      generalize (bs a)[j] = b at *
      have a6 := ((a4.step st5).step z1).wipe vs1
      refine u1 z (L2.wipe σ3 vs1) H6 _ a6 z2 fun σ7 H7 s7 a7 e7 => ⟨by rw [e7, wipe_wipe], ?_⟩
      refine u2 σ7 H7 _ a7 fun r H8 s8 q8 => ?_
      have st8 := ((st5.trans z1).trans s7).trans s8
      obtain ⟨xs, f1, f2⟩ := cell_lst st8.own OM.set_same
      have hlen : (B j).length < sizeLine := by
        have := small i (j + 1) a hg hj
        show (A i ++ ((bs a).take j).map (q a)).length < _
        rw [List.length_append, List.length_map, List.length_take]
        omega
      have eB : B (j + 1) = B j ++ [q a b] := by
        show A i ++ ((bs a).take (j + 1)).map (q a) = (A i ++ ((bs a).take j).map (q a)) ++ _
        rw [List.take_succ, hb, List.map_append, List.append_assoc]; rfl
      have s9 := Stp.write st8.own OM.set_same (c' := .lst (B (j + 1))) (o := .lst (xs ++ [r])) ⟨_, rfl, by rw [eB]; exact stas_snoc f2 q8⟩
      rw [OM.set_set] at s9
      exact ⟨xs, f1, by rw [← f2.len]; exact hlen, st8.trans s9⟩
    · have e : j = (bs a).length := by omega
      subst e
      have eB : B (bs a).length = A (i + 1) := by rw [eA]; show A i ++ ((bs a).take _).map (q a) = _; rw [List.take_length]
      rw [eB] at st5
      exact .inl ⟨w4, st4.trans st5, sm4.trans st5.frz⟩
  · have e : i = as.length := by omega
    subst e
    have eA : A as.length = as.flatMap fun a => (bs a).map (q a) := by show (as.take as.length).flatMap _ = _; rw [List.take_length]
    refine .inl ⟨w2, ?_⟩
    obtain ⟨s5, o, e5, xs, rfl, e6⟩ := Stp.freeze st.own OM.set_same
    rw [OM.del_set hm] at s5 e5 e6
    rw [eA] at e6
    exact k _ H' (st.trans s5) (ls_of (.of e5) e6)
theorem pi_listK {X : Cx} {K : PySem.W.Frag} (h : X.K = K) {tg e : Expr} {te : TE} (he : PE X e te) : PI X tg e (iList K te) := by subst h; exact pi_list he
theorem shed_lst {i : Nat} {p : Addr} {ps : List Pr} (hi : G[i]? = some (some (Rf p))) (hm : M p = some (.lst ps)) : Shed G M (G.set i (some (Ls K ps))) (M.del p) := fun σ H a => by
  obtain ⟨s, o, e1, xs, rfl, e2⟩ := Stp.freeze a.own hm rfl
  obtain ⟨v, v1, v2⟩ := a.env i _ hi
  cases v2.here
  refine ⟨s, ?_⟩
  have := (a.step s).set i (ls_of (K := K) (.of e1) e2)
  have es : ∀ {l : List (Option V)} {i : Nat} {x : Option V}, l[i]? = some x → l.set i x = l := by
    intro l
    induction l with
    | nil => intro i x h; cases h
    | cons y l ih =>
      intro i x h
      cases i with
      | zero => cases h; rfl
      | succ i => rw [List.getElem?_cons_succ] at h; show y :: l.set i x = _; rw [ih h]
  rw [es v1] at this
  exact this
/-- an owned list, longer by a raw one -/
theorem ope_ext {p : Addr} {ps qs : List Pr} (hm : M p = some (.lst ps)) (hl : ps.length + qs.length ≤ sizeLine) : OpE M rExt2 (Rf p) (Lr qs) (Rf p) (M.set p (.lst (ps ++ qs))) := fun x y H Q w h1 h2 c => by
  cases h1.here
  obtain ⟨b, ys, rfl, e3, e4⟩ := h2.here
  obtain ⟨xs, e1, e2⟩ := cell_lst w hm
  refine ⟨p, b, xs, ys, rfl, rfl, e1, Frz_le _ _ e3, by rw [← e2.len, ← e4.len]; exact hl, ?_⟩
  have s := Stp.write w hm (c' := .lst (ps ++ qs)) (o := .lst (xs ++ ys)) ⟨_, rfl, Stas.append e2 e4⟩
  exact c _ _ s rf
theorem nrm_aug {i : Nat} {te : TE} {ti : V → V → Hp → VK → Prop} (hi : G[i]? = some (some P)) (he : Evl G M te P1 M1) (ho : OpE M1 ti P P1 P2 M2) : Nrm G M (tAug i te ti) (G.set i (some P2)) M2 := fun σ H D a k => by
  obtain ⟨x, e1, e2⟩ := a.env i P hi
  refine ⟨x, e1, he σ H _ a fun y H1 s1 q1 => ho x y H1 _ s1.own (e2.mono s1.frz) q1 fun z H2 s2 q2 => ?_⟩
  exact k _ H2 (s1.trans s2) ((a.step (s1.trans s2)).set i q2)
theorem ope_addI {i j : Int} : OpE M (ipI fun i j => i + j) (Dd K (.int i)) (Dd K (.int j)) (Dd K (.int (i + j))) M := fun x y H Q w h1 h2 c =>
  ⟨i, j, dd_int h1, dd_int h2, c _ H (.refl w) (dd (.int _))⟩
end
end Z
set_option maxRecDepth 100000
set_option maxHeartbeats 4000000
/-! Z18: methods that may raise; a walk over an owned list. Own work. -/
namespace Z
open PySem PySem.Spec L2
section
variable {X : Cx} {CX : CXT} {k : Nat} {f C : Addr} {fd : FuncData} {ps : List Str} {sp : Sp} {E : L2.St → XK} {m : Str} {pos apos : Pos} {e o : Expr} {es : List Expr} {ta : TE} {t : TA}
def tMethS (C : Addr) (m : Str) (sp : Sp) (E : L2.St → XK) (ta : TE) (t : TA) : TE := fun σ H Q => ta σ H fun x H1 => ∃ a dx fs, x = .ref a ∧ H1 a = some (.ins C dx fs) ∧ fs.lookup m = none ∧ t σ H1 fun vs H2 => sp (x :: vs) H2 Q (E σ)
theorem pe_methS {pl : Sem Bool} (he : PE X o ta) (c : Cls X.K C) (hm : Meth X.K C m f) (F : FnOk X.prog X.w X.K X.mg X.base CX k f fd ps sp) (hr : Room k X.A) (hb : Binds X.K fd ps []) (hx : ∀ σ, PassesAt CX X σ (E σ)) (ha : PA X (e :: es) t)
    (hst : starEach (e :: es) X.env = (false, eval e X.env) :: starEach es X.env := by rfl) (hpl : (backTo pos (starEach es X.env)).any (·.1) = false := by rfl)
    (ht : eval (.Call (.Attribute o m apos) (e :: es) [] pos) X.env = (do
      let ov ← eval o X.env
      standAt apos.atName
      let (f, first) ← holding [ov] (getMethod ov m pl)
      callWith pos f first (backTo pos (starEach (e :: es) X.env)) (backToKw pos (keywordEach [] X.env))) := by rfl) :
    PE X (.Call (.Attribute o m apos) (e :: es) [] pos) (tMethS C m sp E ta t) := by
  refine ⟨fun pins s σ H Q I h => PySem.W.methodCall_KW (pl := pl) (thn (he.run pins s σ H _ I h) fun u s1 ⟨x, H1, I1, rx, a, dx, fs, ex, ea, l, q⟩ => ?_) ht⟩
  subst ex
  cases (show u = Value.ref a from rx)
  refine getmeth_ok I1 ea c hm l (PySem.W.callWith_K (first := [.ref a]) (h₀ := X.base) I.ok.mod.kin hm.kp ?_ hst hpl)
  refine thn (ha.run pos pins s1 σ H1 _ I1 q) fun us s2 ⟨vs, H2, I2, r, q2⟩ => ⟨I2.kIn, ?_⟩
  exact run_fnS (us := .ref a :: us) (vs := .ref a :: vs) F hr hb (hx σ) I2 (.cons rfl r) q2
end
section
variable {K : PySem.W.Frag} {G G1 G2 : Gm} {M M1 M2 M3 : OM} {P P1 P2 : Pr}
/-- over an owned list that stays as it is -/
theorem ev_lcO {α : Type} {tl te : TE} {tt : TT} {g : TG} {vs : List Nat} {r : Addr} (as : List α) (p q : α → Pr) (f : α → Bool) (hl : Evl G M tl (Rf r) M) (hr : M r = some (.lst (as.map p))) (hs : as.length ≤ sizeLine)
    (turn : ∀ a, a ∈ as → ∀ D c, M D = none → Turn1 (wipeG G vs) (M.set D (.lst c)) (p a) g tt te vs (f a) (q a) (M.set D (.lst c))) : Evl G M (tLc (iList K tl) g tt te vs) (Ls K ((as.filter f).map q)) M := fun σ H Q a0 k => hl σ H _ a0 fun v H1 s qv => by
  cases qv.here
  obtain ⟨xs0, e0, r0⟩ := cell_lst s.own hr
  refine ⟨r, rfl, ⟨xs0, .of e0⟩, fun D hD => ?_⟩
  have hm := s.own.free hD
  have nD : r ≠ D := fun z => by rw [z, hm] at hr; cases hr
  have s0 := Stp.allocO s.own hD (o := .lst []) (c := .lst []) ⟨[], rfl, .nil⟩
  let A : Nat → List Pr := fun i => ((as.take i).filter f).map q
  have A0 : A 0 = [] := by simp [A]
  refine ⟨fun i m H' => m = as.length - i ∧ i ≤ as.length ∧ Stp M H (M.set D (.lst (A i))) H', ⟨as.length, by simp, Nat.zero_le _, by rw [A0]; exact s.trans s0⟩, ?_⟩
  rintro i m H' ⟨rfl, hin, st⟩
  have here : ∃ xs, H' r = some (.lst xs) ∧ Stas (as.map p) xs (Frz (M.set D (.lst (A i))) H') := cell_lst st.own (by rw [OM.set_ne nD]; exact hr)
  obtain ⟨xs, e1, e2⟩ := here
  have hlen : as.length = xs.length := by have := e2.len; rwa [List.length_map] at this
  by_cases hlt : i < as.length
  · have hg := List.getElem?_eq_getElem hlt
    obtain ⟨v, e3, e4⟩ := e2.get (i := i) (P := p as[i]) (by rw [List.getElem?_map, hg]; rfl)
    refine .inr ⟨⟨xs, v, .of e1, e3⟩, fun H2 => Stp M H (M.set D (.lst (A (i + 1)))) H2, fun H2 z => ⟨as.length - (i + 1), by omega, rfl, hlt, z⟩, fun x H2 y => ?_⟩
    obtain ⟨rfl, y⟩ := y
    have hx : x = v := by
      have z := y xs (.of e1)
      rw [e3] at z
      exact (Option.some.inj z).symm
    subst hx
    obtain ⟨G1, M1, M2, t1, t2, t3, t4⟩ := turn as[i] (List.getElem_mem hlt) D (A i) hm
    have eA : A (i + 1) = if f as[i] = true then A i ++ [q as[i]] else A i := by
      show ((as.take (i + 1)).filter f).map q = _
      rw [List.take_succ, hg, List.filter_append, List.map_append]
      cases hf : f as[i] with
      | true => simp [hf, A]
      | false => simp [hf, A]
    have a2 := (a0.step st).wipe vs
    refine t1 x (L2.wipe σ vs) H2 _ a2 e4 fun σ3 H3 s3 a3 e5 => ⟨by rw [e5, wipe_wipe], ?_⟩
    refine t2 σ3 H3 _ a3 fun H4 s4 => ?_
    have st4 := (st.trans s3).trans s4
    cases hb : f as[i] with
    | false =>
      rw [if_neg Bool.false_ne_true]
      have e := t4 hb
      rw [e] at st4
      rw [eA, hb, if_neg Bool.false_ne_true]
      exact st4
    | true =>
      rw [if_pos rfl]
      refine t3 hb σ3 H4 _ (a3.step s4) fun z H5 s5 q5 => ?_
      have st5 := st4.trans s5
      obtain ⟨ys, f1, f2⟩ := cell_lst st5.own OM.set_same
      have hl : (A i).length ≤ i := by
        show (((as.take i).filter f).map q).length ≤ i
        rw [List.length_map]
        exact Nat.le_trans (List.length_filter_le ..) (by rw [List.length_take]; omega)
      have s6 := Stp.write st5.own OM.set_same (c' := .lst (A (i + 1))) (o := .lst (ys ++ [z])) ⟨_, rfl, by rw [eA, hb, if_pos rfl]; exact stas_snoc f2 q5⟩
      rw [OM.set_set] at s6
      exact ⟨ys, f1, by rw [← f2.len]; omega, st5.trans s6⟩
  · have e : i = as.length := by omega
    subst e
    have eA : A as.length = (as.filter f).map q := by show ((as.take as.length).filter f).map q = _; rw [List.take_length]
    refine .inl ⟨⟨xs, .of e1, by omega⟩, ?_⟩
    obtain ⟨s5, o, e5, ys, rfl, e6⟩ := Stp.freeze st.own OM.set_same
    rw [OM.del_set hm] at s5 e5 e6
    rw [eA] at e6
    exact k _ H' (st.trans s5) (ls_of (.of e5) e6)
end
end Z
set_option maxRecDepth 100000
set_option maxHeartbeats 4000000
/-! Z19: methods that may raise: their promise, their bodies, their calls. Own work. -/
namespace Z
open PySem PySem.Spec L2
/-- the night's methods: the state, the arguments, whether it raises, the state behind it -/
abbrev CtrB := OM → List Pr → Bool → OM → Prop
def SpB (c : Value) (R : CtrB) : Sp := fun vs H Q E => ∃ M ps b M', R M ps b M' ∧ Own M H ∧ Stas ps vs (Frz M H) ∧ (b = true → ∀ H', Stp M H M H' → E c none H') ∧ (b = false → ∀ H', Stp M H M' H' → Q .non H')
theorem spb_len {c : Value} {R : CtrB} {n : Nat} (h : ∀ M ps b M', R M ps b M' → ps.length = n) : ∀ vs H Q E, SpB c R vs H Q E → vs.length = n := fun vs H Q E ⟨M, ps, b, M', r, w, q, k⟩ => by
  rw [← q.len]; exact h _ _ _ _ r
section
variable {K : PySem.W.Frag} {G G1 G2 : Gm} {M M1 M2 M3 : OM} {P P1 P2 : Pr}
/-- a block that raises -/
def Lts (G : Gm) (M : OM) (t : TS) (M' : OM) (W : Hp → Prop) : Prop := ∀ σ H D, At G M σ H → (∀ H', Stp M H M' H' → W H') → t D σ H
theorem lts_seq {t u : TS} {W : Hp → Prop} (h1 : Nrm G M t G1 M1) (h2 : Lts G1 M1 u M2 W) : Lts G M (tSeq t u) M2 W := fun σ H D a k =>
  h1 σ H _ a fun σ1 H1 s1 a1 => h2 σ1 H1 D a1 fun H2 s2 => k H2 (s1.trans s2)
theorem lts_seqL {t u : TS} {W : Hp → Prop} (h1 : Lts G M t M2 W) : Lts G M (tSeq t u) M2 W := fun σ H D a k => h1 σ H _ a k
theorem lts_if {c : TT} {t u : TS} {W : Hp → Prop} (h : EvT G M c true M1) (h1 : Lts G M1 t M2 W) : Lts G M (tIfS c t u) M2 W := fun σ H D a k => h σ H _ a fun H' s => by
  rw [if_pos rfl]; exact h1 σ H' D (a.step s) fun H2 s2 => k H2 (s.trans s2)
theorem lts_raise {W : Hp → Prop} : Lts G M (fun _ _ H => W H) M W := fun σ H D a k => k H (.refl a.own)
theorem lts_one {t : TS} {W : Hp → Prop} (h : Lts G M t M1 W) : Lts G M (tSeq t tNext) M1 W := lts_seqL h
structure MetB (P : Program) (w : World) (K : PySem.W.Frag) (mg : Str → Option Value) (base : Heap) (k : Nat) (C : Addr) (m : Str) (sp : Sp) : Prop where
  ex : ∃ (f : Addr) (fd : FuncData) (ps : List Str), Cls K C ∧ Meth K C m f ∧ FnOk P w K mg base (L2.CX P w) k f fd ps sp ∧ Binds K fd ps []
theorem pe_mtB {X : Cx} {j k : Nat} {m : Str} {C : Addr} {sp : Sp} {W : WX} {pos apos : Pos} {e o : Expr} {es : List Expr} {t : TA} {ta : TE} {pl : Sem Bool} (c : MetB X.prog X.w X.K X.mg X.base k C m sp) (hr : Room j X.A) (hk : k ≤ j) (tk : Takes X W) (he : PE X o ta) (ha : PA X (e :: es) t)
    (hst : starEach (e :: es) X.env = (false, eval e X.env) :: starEach es X.env := by rfl) (hpl : (backTo pos (starEach es X.env)).any (·.1) = false := by rfl)
    (ht : eval (.Call (.Attribute o m apos) (e :: es) [] pos) X.env = (do
      let ov ← eval o X.env
      standAt apos.atName
      let (f, first) ← holding [ov] (getMethod ov m pl)
      callWith pos f first (backTo pos (starEach (e :: es) X.env)) (backToKw pos (keywordEach [] X.env))) := by rfl) :
    PE X (.Call (.Attribute o m apos) (e :: es) [] pos) (tMethS C m sp (WE W) ta t) := by
  obtain ⟨f, fd, ps, hc, hm, F, b⟩ := c.ex
  exact pe_methS (CX := L2.CX X.prog X.w) (E := WE W) he hc hm F (hr.mono hk) b (fun σ => passAt tk σ) ha hst hpl ht
/-- it does not raise -/
theorem ev_mtB {R : CtrB} {E : L2.St → XK} {cv : Value} {C p dx : Addr} {m : Str} {ta : TE} {t : TA} {fs : List (Str × Pr)} {ps : List Pr} (h0 : Evl G M ta (Rf p) M1) (hm : M1 p = some (.ins C dx fs)) (hn : fs.lookup m = none) (h : EvA G M1 t ps M2) (r : R M2 (Rf p :: ps) false M3) : Evl G M (tMethS C m (SpB cv R) E ta t) (Dd K .none) M3 := fun σ H Q a k =>
  h0 σ H _ a fun x H1 s1 q1 => by
    cases q1.here
    obtain ⟨o, e1, vs, rfl, e2⟩ := s1.own.cell p _ hm
    refine ⟨p, dx, vs, rfl, e1, paired_none e2 hn, h σ H1 _ (a.step s1) fun us H2 s2 q2 => ?_⟩
    exact ⟨M2, _, false, M3, r, s2.own, .cons rf q2, (fun z => by cases z), fun _ H3 s3 => k _ H3 ((s1.trans s2).trans s3) (dd .non)⟩
/-- it raises -/
theorem lts_mtB {R : CtrB} {W : WX} {D0 : L2.St → Hp → Prop} {cv : Value} {C p dx : Addr} {m : Str} {ta : TE} {t : TA} {fs : List (Str × Pr)} {ps : List Pr} (h0 : Evl G M ta (Rf p) M1) (hm : M1 p = some (.ins C dx fs)) (hn : fs.lookup m = none) (h : EvA G M1 t ps M2) (r : R M2 (Rf p :: ps) true M3)
    (hW : ∀ σ H, At G M2 σ H → D0 σ H → W cv none σ H) : ∀ σ H D, At G M σ H → (∀ H', Stp M H M2 H' → D0 σ H') → tDrop (tMethS C m (SpB cv R) (WE W) ta t) D σ H := fun σ H D a k =>
  h0 σ H _ a fun x H1 s1 q1 => by
    cases q1.here
    obtain ⟨o, e1, vs, rfl, e2⟩ := s1.own.cell p _ hm
    refine ⟨p, dx, vs, rfl, e1, paired_none e2 hn, h σ H1 _ (a.step s1) fun us H2 s2 q2 => ?_⟩
    exact ⟨M2, _, true, M3, r, s2.own, .cons rf q2, fun _ H3 s3 => hW σ H3 (a.step ((s1.trans s2).trans s3)) (k H3 ((s1.trans s2).trans s3)), fun z => by cases z⟩
end
end Z
set_option maxRecDepth 100000
set_option maxHeartbeats 4000000
/-! Z20: ==, != and len of objects of the text. Own work. -/
namespace Z
open PySem PySem.Spec L2
section
variable {prog : Program} {w : World} {A : Around} {E : Value → Shared → Prop} {s : Shared} {K : PySem.W.Frag} {x C L f : Addr} {h₀ : Heap} {m : Str → Option Value} {ox : Obj} {od : Option Obj} {y : Addr}
theorem boundB {M : Model} {self : Value} {name : Str} {id : String} {args : List Value} {Q : Option Value → Shared → Prop} (sp : PySem.W.Looks M s.heap (specialOf self name) (some (.builtin id))) (hb : bindSpecial (.builtin id) self = pure (.builtin id, [self]))
    (h : wpAny M A (call (.builtin id) (self :: args)) (fun v => Q (some v)) E s) : wpAny M A (callSpecialIfBound? self name args) Q E s := by
  simp only [callSpecialIfBound?, bindSpecialIfBound?]
  refine wpAny_holding (wpAny_bind (wpAny_bind (sp.here ?_)))
  simp only [hb]
  refine wpAny_bind (wpAny_askSetting (wpAny_ite ?_))
  have last : wpAny M A (call (.builtin id) ([self] ++ args) >>= fun v => pure (some v)) Q E s := wpAny_bind (wpAny_mono h (fun v s' h' => wpAny_pure h') fun _ _ h' => h')
  split
  · exact wpAny_bind (wpAny_pure (wpAny_pure last))
  · exact wpAny_tryCatch (wpAny_bind (wpAny_pure (wpAny_pure last)))
theorem ne_own {Q : Value → Shared → Prop} (hu : A.units + 1 < cLine) (X : K.In s.heap) (I : PySem.W.InstAt s.heap x ox C od) (hy : PySem.W.Looks (model prog w) s.heap (typeOf (.ref y)) (.ref C))
    (hne : PySem.W.findIn K (.ref C) "__ne__" = some (some (.builtin "object.__ne__"))) (hm : PySem.W.mroIn K C (.type "object") = some true) (hs : PySem.W.findIn K (.ref C) "__eq__" = some (some (.ref f))) (hf : PySem.W.isFn K (.ref f) = true)
    (h : wpAny (model prog w) A.in1 (call (.ref f) [.ref x, .ref y]) (fun v s' => ∃ b, v = .bool b ∧ Q (.bool (!b)) s') E s) : wpAny (model prog w) A (richCompare .NotEq (.ref x) (.ref y)) Q E s := by
  have inst : PySem.W.Looks (model prog w) s.heap (isInstance (.ref x) (.type "object")) true := I.type.andThen (PySem.W.looks_mroIn X hm)
  have sp : PySem.W.Looks (model prog w) s.heap (specialOf (.ref x) "__ne__") (some (.builtin "object.__ne__")) := I.type.andThen (PySem.W.looks_findIn X hne)
  have one : wpAny (model prog w) A (tryCompare (.ref x) "__ne__" (.ref y)) (fun r s' => ∃ v, r = some v ∧ Q v s') E s := by
    unfold tryCompare
    refine wpAny_bind (boundB sp (F.slot_object_ne.bind _) (wpAny_call (codeAny_call_builtin F.slot_object_ne.plain F.cmpEntry_ne
      (@PySem.W.check_slot (model prog w) _ _ _ "object.__ne__" "object" "__ne__" (.ref x) [.ref y] [] _ F.cmpKind_ne F.cmpSplit_ne inst (F.cmpArgs_ne _ _) ?_))))
    unfold Builtin.«object.__ne__»
    repeat (first
      | with_reducible refine wpAny_cRoomFor hu ?_
      | (refine wpAny_bind (m := callSpecialIfBound? (.ref x) (Str.ofString "__eq__") [.ref y])
          (PySem.W.ifBound_K X I hs hf (wpAny_mono h (fun r s' hr => by
            obtain ⟨b, rfl, hq⟩ := hr
            repeat (first | exact hq | exact wpAny_pure hq | exact ⟨_, rfl, wpAny_pure ⟨_, rfl, hq⟩⟩ | exact wpAny_pure ⟨_, rfl, hq⟩ | (refine wpAny_bind (m := truthy (.bool _)) (wpAny_truthy_bool ?_)) | wp_step)) fun _ _ e => e)))
      | wp_step)
  unfold richCompare
  simp only [oneThing_ref]
  refine wpAny_holding (wpAny_bind (wpAny_cRoomFor (Nat.lt_of_succ_lt hu) ?_))
  rw [cmpInfo_NotEq]
  dsimp only
  refine wpAny_bind (I.type.here (wpAny_bind (hy.here ?_)))
  rw [show (Value.ref C != Value.ref C) = false from by simp]
  simp only [Bool.false_eq_true, if_false]
  refine wpAny_bind (wpAny_pure ?_)
  simp only [Bool.false_eq_true, if_false]
  refine wpAny_bind (wpAny_mono one (fun r s' z => ?_) fun _ _ e => e)
  obtain ⟨v, rfl, hq⟩ := z
  exact wpAny_pure hq
end
section
variable {X : Cx} {k j : Nat} {C : Addr} {sp : Sp} {pins : List (Addr × Obj)} {σ : St} {H : Hp} {s : Shared}
/-- a def, called from inside a built-in -/
theorem run_in {A : Around} {f : Addr} {fd : FuncData} {ps : List Str} {Q : VK} {vs : List V} {us : List Value} (F : FnOk X.prog X.w X.K X.mg X.base CX0 k f fd ps sp) (hb : Binds X.K fd ps []) (hr : Room k A) (hfr : A.frames = X.A.frames)
    (I : Inv X pins σ H s) (r : Vals vs us) (h : sp vs H Q E0) : wpAny (model X.prog X.w) A (call (.ref f) us) (EP X pins σ Q) X.xe s := by
  have e0 : Env0 X.prog X.w X.K X.mg X.base A X.stack s H := by
    have e := I.env0
    exact ⟨by rw [hfr]; exact e.frames, e.mod, e.bs, e.bsz, e.funs, e.frf, e.hok, e.bare⟩
  have hl := F.len _ _ _ _ h
  refine wpAny_call (codeAny_mono (F.run A X.stack s H ⟨us, []⟩ us vs Q E0 hr e0 (by
    have := hb s us I.kIn (by rw [List.append_nil, ← r.length]; exact hl)
    simpa using this) r h) fun z s' hq => ?_)
  cases z with
  | error e => exact pass0 pins σ H s e s' I hq
  | ok fl =>
    cases fl with
    | ret w => exact I.after hq
    | next => exact False.elim hq
    | brk => exact False.elim hq
    | cont => exact False.elim hq
abbrev rOwn (C : Addr) (sp : Sp) (g : Bool → Bool) : V → V → Hp → VK → Prop := fun x y H Q => ∃ a b dx dy fs gs, x = .ref a ∧ y = .ref b ∧ H a = some (.ins C dx fs) ∧ H b = some (.ins C dy gs) ∧ sp [x, y] H (fun v H' => ∃ r, v = .bl r ∧ Q (.bl (g r)) H') E0
theorem op_eqOwn (c : Met X.prog X.w X.K X.mg X.base k C "__eq__" sp) (hr : Room j X.A) (hk : k ≤ j) : OpR X (compareOp .Eq) (rOwn C sp id) := by
  intro pins s σ H x y v u Q I rx ry hq
  obtain ⟨a, b, dx, dy, fs, gs, rfl, rfl, ha, hb, q⟩ := hq
  obtain ⟨f, fd, ps, hc, hm, F, bd⟩ := c.ex
  cases rx
  cases ry
  obtain ⟨mA, J, _⟩ := ins_get I.hok ha
  obtain ⟨mB, J', _⟩ := ins_get I.hok hb
  obtain ⟨od, J, _⟩ := J.look
  obtain ⟨od', J', _⟩ := J'.look
  obtain ⟨m, hF⟩ := I.fr
  have r0 := hr.mono hk
  show wpAny (model X.prog X.w) X.A (richCompare .Eq _ _) (EP X pins σ Q) X.xe s
  refine PySem.W.cmp_K (op := .Eq) (tb := .ref C) (by have := r0.un; omega) hF I.ok.mod.kin J J'.type (by simp [PySem.W.notFirst]) hm.at_ hm.fn ?_
  refine wpAny_mono (run_in (vs := [.ref a, .ref b]) F bd r0 rfl I (.cons rfl (.cons rfl .nil)) q) (fun z s' h => ?_) fun _ _ e => e
  obtain ⟨v, H', I', rz, t, rfl, q2⟩ := h
  cases rz
  exact ⟨.bl t, H', I', rfl, q2⟩
theorem op_neOwn (c : Met X.prog X.w X.K X.mg X.base k C "__eq__" sp) (hr : Room j X.A) (hk : k + 1 ≤ j) (hne : PySem.W.findIn X.K (.ref C) "__ne__" = some (some (.builtin "object.__ne__"))) (hmr : PySem.W.mroIn X.K C (.type "object") = some true) : OpR X (compareOp .NotEq) (rOwn C sp not) := by
  intro pins s σ H x y v u Q I rx ry hq
  obtain ⟨a, b, dx, dy, fs, gs, rfl, rfl, ha, hb, q⟩ := hq
  obtain ⟨f, fd, ps, hc, hm, F, bd⟩ := c.ex
  cases rx
  cases ry
  obtain ⟨mA, J, _⟩ := ins_get I.hok ha
  obtain ⟨mB, J', _⟩ := ins_get I.hok hb
  obtain ⟨od, J, _⟩ := J.look
  obtain ⟨od', J', _⟩ := J'.look
  have r0 := (hr.mono hk).in1
  show wpAny (model X.prog X.w) X.A (richCompare .NotEq _ _) (EP X pins σ Q) X.xe s
  refine ne_own (by have := (hr.mono hk).un; omega) I.kIn J J'.type hne hmr hm.at_ hm.fn ?_
  refine wpAny_mono (run_in (vs := [.ref a, .ref b]) F bd r0 rfl I (.cons rfl (.cons rfl .nil)) q) (fun z s' h => ?_) fun _ _ e => e
  obtain ⟨v, H', I', rz, t, rfl, q2⟩ := h
  cases rz
  exact ⟨t, rfl, .bl (!t), H', I', rfl, q2⟩
theorem call_lenOwn (c : Met X.prog X.w X.K X.mg X.base k C "__len__" sp) (hr : Room j X.A) (hk : k + 1 ≤ j) : CallR X (.builtin "len") (fun xs H Q => ∃ a dx fs, xs = [.ref a] ∧ H a = some (.ins C dx fs) ∧ sp xs H (fun v H' => ∃ n : Int, v = .int n ∧ 0 ≤ n ∧ n < 2 ^ 63 ∧ Q (.int n) H') E0) := by
  intro pins s σ H xs us Q I r hq
  obtain ⟨a, dx, fs, rfl, ha, q⟩ := hq
  obtain ⟨f, fd, ps, hc, hm, F, bd⟩ := c.ex
  obtain ⟨u, rfl, ru⟩ := vals1 r
  obtain rfl : u = Value.ref a := ru
  obtain ⟨mA, J, _⟩ := ins_get I.hok ha
  obtain ⟨od, J, _⟩ := J.look
  obtain ⟨m, hF⟩ := I.fr
  have r0 := (hr.mono hk).in1
  refine PySem.W.len_K hF I.ok.mod.kin J hm.at_ hm.fn ?_
  refine wpAny_mono (run_in (vs := [.ref a]) F bd r0 rfl I (.cons rfl .nil) q) (fun z s' h => ?_) fun _ _ e => e
  obtain ⟨v, H', I', rz, t, rfl, h0, h1, q2⟩ := h
  obtain ⟨tk, rfl⟩ := (show ∃ tk, z = Value.int t tk from rz)
  exact ⟨⟨h0, h1⟩, .int t, H', I'.tok _, ⟨_, rfl⟩, q2⟩
end
section
variable {K : PySem.W.Frag} {G G1 G2 : Gm} {M M1 M2 M3 : OM} {P P1 P2 : Pr}
theorem ope_own {R : Ctr} {C a b dx dy : Addr} {fs gs : List (Str × Pr)} {g : Bool → Bool} {t : Bool} (ha : M a = some (.ins C dx fs)) (hb : M b = some (.ins C dy gs)) (r : R M [Rf a, Rf b] (Dd K (.bool t)) M1) : OpE M (rOwn C (SpR R) g) (Rf a) (Rf b) (Dd K (.bool (g t))) M1 := fun x y H Q w q1 q2 k => by
  cases q1.here
  cases q2.here
  obtain ⟨o1, e1, vs1, rfl, f1⟩ := w.cell a _ ha
  obtain ⟨o2, e2, vs2, rfl, f2⟩ := w.cell b _ hb
  refine ⟨a, b, dx, dy, vs1, vs2, rfl, rfl, e1, e2, M, _, _, _, r, w, .cons rf (.cons rf .nil), fun v H' s q => ?_⟩
  cases q.here
  exact ⟨t, rfl, k _ H' s (dd (.bl _))⟩
theorem cbe_lenOwn {R : Ctr} {C a dx : Addr} {fs : List (Str × Pr)} {n : Int} (ha : M a = some (.ins C dx fs)) (h0 : 0 ≤ n) (h1 : n < 2 ^ 63) (r : R M [Rf a] (Dd K (.int n)) M1) :
    CbE M (fun xs H Q => ∃ a dx fs, xs = [.ref a] ∧ H a = some (.ins C dx fs) ∧ SpR R xs H (fun v H' => ∃ n : Int, v = .int n ∧ 0 ≤ n ∧ n < 2 ^ 63 ∧ Q (.int n) H') E0) [Rf a] (Dd K (.int n)) M1 := fun vs H Q w q k => by
  cases q with
  | cons q1 q2 =>
    cases q2
    cases q1.here
    obtain ⟨o1, e1, vs1, rfl, f1⟩ := w.cell a _ ha
    refine ⟨a, dx, vs1, rfl, e1, M, _, _, _, r, w, .cons rf .nil, fun v H' s q => ?_⟩
    have e := dd_int q
    subst e
    exact ⟨n, rfl, h0, h1, k _ H' s (dd (.int _))⟩
end
end Z
set_option maxRecDepth 100000
set_option maxHeartbeats 4000000
/-! Z21: expressions whose parts have outcomes told by predicates. Own work. -/
namespace Z
open PySem PySem.Spec L2
section
variable {K : PySem.W.Frag} {G G1 G2 : Gm} {M M1 M2 M3 : OM} {P P1 P2 : Pr}
def EvAX (G : Gm) (M : OM) (t : TA) (Φ : List Pr → OM → Prop) : Prop := ∀ σ H Q, At G M σ H → (∀ ps M' vs H', Φ ps M' → Stp M H M' H' → Stas ps vs (Frz M' H') → Q vs H') → t σ H Q
def EvTX (G : Gm) (M : OM) (t : TT) (Φ : Bool → OM → Prop) : Prop := ∀ σ H Q, At G M σ H → (∀ b M' H', Φ b M' → Stp M H M' H' → Q b H') → t σ H Q
theorem evax_nil {Φ : List Pr → OM → Prop} (h : Φ [] M) : EvAX G M tNil Φ := fun σ H Q a k => k [] M [] H h (.refl a.own) .nil
theorem evax_cons {t : TE} {u : TA} {Φ : PsE} {Ψ : List Pr → OM → Prop} (h1 : EvlX G M t Φ) (h2 : ∀ P m, Φ P m → EvAX G m u (fun ps m' => Ψ (P :: ps) m')) : EvAX G M (tCons t u) Ψ := fun σ H Q a k =>
  h1 σ H _ a fun P M1 v H1 e s1 q1 => h2 P M1 e σ H1 _ (a.step s1) fun ps M2 vs H2 e2 s2 q2 => k (P :: ps) M2 (v :: vs) H2 e2 (s1.trans s2) (.cons (q1.mono s2.frz) q2)
theorem evax_consP {t : TE} {u : TA} {Ψ : List Pr → OM → Prop} (h1 : Evl G M t P M1) (h2 : EvAX G M1 u (fun ps m' => Ψ (P :: ps) m')) : EvAX G M (tCons t u) Ψ := fun σ H Q a k =>
  h1 σ H _ a fun v H1 s1 q1 => h2 σ H1 _ (a.step s1) fun ps M2 vs H2 e2 s2 q2 => k (P :: ps) M2 (v :: vs) H2 e2 (s1.trans s2) (.cons (q1.mono s2.frz) q2)
theorem evax_last {t : TE} {Φ : PsE} {Ψ : List Pr → OM → Prop} (h1 : EvlX G M t Φ) (h2 : ∀ P m, Φ P m → Ψ [P] m) : EvAX G M (tCons t tNil) Ψ := evax_cons h1 fun P m e => evax_nil (h2 P m e)
theorem EvA.x {t : TA} {ps : List Pr} (h : EvA G M t ps M1) : EvAX G M t (fun qs m => qs = ps ∧ m = M1) := fun σ H Q a k => h σ H Q a fun vs H' s q => k ps M1 vs H' ⟨rfl, rfl⟩ s q
theorem EvT.x {t : TT} {b : Bool} (h : EvT G M t b M1) : EvTX G M t (fun c m => c = b ∧ m = M1) := fun σ H Q a k => h σ H Q a fun H' s => k b M1 H' ⟨rfl, rfl⟩ s
theorem EvAX.imp {t : TA} {Φ Ψ : List Pr → OM → Prop} (h : EvAX G M t Φ) (f : ∀ P M, Φ P M → Ψ P M) : EvAX G M t Ψ := fun σ H Q a k => h σ H Q a fun P M' v H' e s q => k P M' v H' (f _ _ e) s q
theorem EvTX.imp {t : TT} {Φ Ψ : Bool → OM → Prop} (h : EvTX G M t Φ) (f : ∀ P M, Φ P M → Ψ P M) : EvTX G M t Ψ := fun σ H Q a k => h σ H Q a fun P M' H' e s => k P M' H' (f _ _ e) s
theorem evx_op {ta tb : TE} {r : V → V → Hp → VK → Prop} {Φ Ψ : PsE} {Φ2 : Pr → OM → PsE} (h1 : EvlX G M ta Φ) (h2 : ∀ P m, Φ P m → EvlX G m tb (Φ2 P m)) (h : ∀ P m P2 m2, Φ P m → Φ2 P m P2 m2 → ∃ P' m', OpE m2 r P P2 P' m' ∧ Ψ P' m') : EvlX G M (tOp r ta tb) Ψ := fun σ H Q a k =>
  h1 σ H _ a fun P M1 v H1 e1 s1 q1 => h2 P M1 e1 σ H1 _ (a.step s1) fun P2 M2 u H2 e2 s2 q2 => by
    obtain ⟨P', m', o, e3⟩ := h P M1 P2 M2 e1 e2
    exact o v u H2 Q s2.own (q1.mono s2.frz) q2 fun w H3 s3 q3 => k P' m' w H3 e3 ((s1.trans s2).trans s3) q3
/-- the left part is plain -/
theorem evx_opR {ta tb : TE} {r : V → V → Hp → VK → Prop} {Φ Ψ : PsE} (h1 : Evl G M ta P M1) (h2 : EvlX G M1 tb Φ) (h : ∀ P2 m2, Φ P2 m2 → ∃ P' m', OpE m2 r P P2 P' m' ∧ Ψ P' m') : EvlX G M (tOp r ta tb) Ψ :=
  evx_op (Φ2 := fun _ _ => Φ) h1.x (fun P m ⟨e1, e2⟩ => by subst e1; subst e2; exact h2) fun P m P2 m2 ⟨e1, e2⟩ e3 => by subst e1; subst e2; exact h P2 m2 e3
/-- the right part is plain -/
theorem evx_opL {ta tb : TE} {r : V → V → Hp → VK → Prop} {Φ Ψ : PsE} (h1 : EvlX G M ta Φ) (h : ∀ P1 m1, Φ P1 m1 → ∃ P2 m2 P' m', Evl G m1 tb P2 m2 ∧ OpE m2 r P1 P2 P' m' ∧ Ψ P' m') : EvlX G M (tOp r ta tb) Ψ := fun σ H Q a k =>
  h1 σ H _ a fun P1 M1 v H1 e1 s1 q1 => by
    obtain ⟨P2, m2, P', m', h2, o, e3⟩ := h P1 M1 e1
    exact h2 σ H1 _ (a.step s1) fun u H2 s2 q2 => o v u H2 Q s2.own (q1.mono s2.frz) q2 fun w H3 s3 q3 => k P' m' w H3 e3 ((s1.trans s2).trans s3) q3
theorem evx_cb {t : TA} {r : List V → Hp → VK → Prop} {Φ : List Pr → OM → Prop} {Ψ : PsE} (h1 : EvAX G M t Φ) (h : ∀ ps m, Φ ps m → ∃ P m', CbE m r ps P m' ∧ Ψ P m') : EvlX G M (tCB r t) Ψ := fun σ H Q a k =>
  h1 σ H _ a fun ps M1 vs H1 e1 s1 q1 => by
    obtain ⟨P, m', o, e2⟩ := h ps M1 e1
    exact o vs H1 Q s1.own q1 fun w H3 s3 q3 => k P m' w H3 e2 (s1.trans s3) q3
theorem evx_tup {t : TA} {Φ : List Pr → OM → Prop} (h1 : EvAX G M t Φ) (hl : ∀ ps m, Φ ps m → ps.length ≤ sizeLine) : EvlX G M (tTup t) (fun P m => ∃ ps, Φ ps m ∧ P = Tp K ps) := fun σ H Q a k =>
  h1 σ H _ a fun ps M1 vs H1 e1 s1 q1 => ⟨by rw [← q1.len]; exact hl ps M1 e1, fun p hp => by
    obtain ⟨s2, e2⟩ := Stp.alloc s1.own hp (.tup vs)
    exact k _ M1 _ _ ⟨ps, e1, rfl⟩ (s1.trans s2) (tp_of (.of e2) (q1.mono s2.frz))⟩
/-- a call, the arguments told by a predicate -/
theorem evx_callX {R : CtrX} {E : XK} {t : TA} {Φ : List Pr → OM → Prop} {Ψ : PsE} (h : EvAX G M t Φ) (r : ∀ ps m, Φ ps m → ∃ Φ', R m ps Φ' ∧ ∀ P m', Φ' P m' → Ψ P m') : EvlX G M (tCall (SpX R) [] E t) Ψ := fun σ H Q a k => h σ H _ a fun ps m vs H' e s q => by
  obtain ⟨Φ', r1, r2⟩ := r ps m e
  exact ⟨m, ps, Φ', r1, s.own, by rw [List.append_nil]; exact q, fun P M' v H2 e s2 q2 => k P M' v H2 (r2 _ _ e) (s.trans s2) q2⟩
theorem evx_callRX {R : Ctr} {E : XK} {t : TA} {Φ : List Pr → OM → Prop} {Ψ : PsE} (h : EvAX G M t Φ) (r : ∀ ps m, Φ ps m → ∃ P m', R m ps P m' ∧ Ψ P m') : EvlX G M (tCall (SpR R) [] E t) Ψ := fun σ H Q a k => h σ H _ a fun ps m vs H' e s q => by
  obtain ⟨P, m', r1, r2⟩ := r ps m e
  exact ⟨m, ps, P, m', r1, s.own, by rw [List.append_nil]; exact q, fun v H2 s2 q2 => k P m' v H2 r2 (s.trans s2) q2⟩
/-! tests -/
theorem evtx_test {te : TE} {Φ : PsE} {Ψ : Bool → OM → Prop} (h : EvlX G M te Φ) (f : ∀ P m, Φ P m → ∃ b, P = Dd K (.bool b) ∧ Ψ b m) : EvTX G M (tTest te) Ψ := fun σ H Q a k => h σ H _ a fun P m v H' e s q => by
  obtain ⟨b, rfl, e2⟩ := f P m e
  exact ⟨b, dd_bl q, k b m H' e2 s⟩
theorem evtx_B {te : TE} {Φ : PsE} {Ψ : Bool → OM → Prop} (h : EvlX G M te Φ) (f : ∀ P m, Φ P m → ∃ b, P = Dd K (.bool b) ∧ Ψ b m) : EvTX G M (tB te) Ψ := fun σ H Q a k => h σ H _ a fun P m v H' e s q => by
  obtain ⟨b, rfl, e2⟩ := f P m e
  exact ⟨b, dd_bl q, k b m H' e2 s⟩
theorem evtx_not {t : TT} {Φ Ψ : Bool → OM → Prop} (h : EvTX G M t Φ) (f : ∀ b m, Φ b m → Ψ (!b) m) : EvTX G M (tNot t) Ψ := fun σ H Q a k => h σ H _ a fun b m H' e s => k _ m H' (f b m e) s
theorem evtx_and {t u : TT} {Φ Ψ : Bool → OM → Prop} (h : EvTX G M t Φ) (h2 : ∀ m, Φ true m → EvTX G m u Ψ) (h3 : ∀ m, Φ false m → Ψ false m) : EvTX G M (tAnd t u) Ψ := fun σ H Q a k => h σ H _ a fun b m H' e s => by
  cases b with
  | true => rw [if_pos rfl]; exact h2 m e σ H' Q (a.step s) fun c m2 H2 e2 s2 => k c m2 H2 e2 (s.trans s2)
  | false => rw [if_neg Bool.false_ne_true]; exact k false m H' (h3 m e) s
theorem evtx_or {t u : TT} {Φ Ψ : Bool → OM → Prop} (h : EvTX G M t Φ) (h2 : ∀ m, Φ false m → EvTX G m u Ψ) (h3 : ∀ m, Φ true m → Ψ true m) : EvTX G M (tOr t u) Ψ := fun σ H Q a k => h σ H _ a fun b m H' e s => by
  cases b with
  | false => rw [if_neg Bool.false_ne_true]; exact h2 m e σ H' Q (a.step s) fun c m2 H2 e2 s2 => k c m2 H2 e2 (s.trans s2)
  | true => rw [if_pos rfl]; exact k true m H' (h3 m e) s
theorem nrmx_ifX {c : TT} {t u : TS} {Φ : Bool → OM → Prop} {Ψ : Pst} (h : EvTX G M c Φ) (h1 : ∀ m, Φ true m → NrmX G m t Ψ) (h2 : ∀ m, Φ false m → NrmX G m u Ψ) : NrmX G M (tIfS c t u) Ψ := fun σ H D a k => h σ H _ a fun b m H' e s => by
  cases b with
  | true => rw [if_pos rfl]; exact h1 m e σ H' D (a.step s) fun g m2 σ2 H2 e2 s2 q => k g m2 σ2 H2 e2 (s.trans s2) q
  | false => rw [if_neg Bool.false_ne_true]; exact h2 m e σ H' D (a.step s) fun g m2 σ2 H2 e2 s2 q => k g m2 σ2 H2 e2 (s.trans s2) q
theorem rtnx_ifX {c : TT} {t u : TS} {Φ : Bool → OM → Prop} {Ψ : PsE} (h : EvTX G M c Φ) (h1 : ∀ m, Φ true m → RtnX G m t Ψ) (h2 : ∀ m, Φ false m → RtnX G m u Ψ) : RtnX G M (tIfS c t u) Ψ := fun σ H D a k => h σ H _ a fun b m H' e s => by
  cases b with
  | true => rw [if_pos rfl]; exact h1 m e σ H' D (a.step s) fun g m2 v2 H2 e2 s2 q => k g m2 v2 H2 e2 (s.trans s2) q
  | false => rw [if_neg Bool.false_ne_true]; exact h2 m e σ H' D (a.step s) fun g m2 v2 H2 e2 s2 q => k g m2 v2 H2 e2 (s.trans s2) q
theorem evx_ifX {c : TT} {t u : TE} {Φ : Bool → OM → Prop} {Ψ : PsE} (h : EvTX G M c Φ) (h1 : ∀ m, Φ true m → EvlX G m t Ψ) (h2 : ∀ m, Φ false m → EvlX G m u Ψ) : EvlX G M (tIf c t u) Ψ := fun σ H D a k => h σ H _ a fun b m H' e s => by
  cases b with
  | true => rw [if_pos rfl]; exact h1 m e σ H' D (a.step s) fun g m2 v2 H2 e2 s2 q => k g m2 v2 H2 e2 (s.trans s2) q
  | false => rw [if_neg Bool.false_ne_true]; exact h2 m e σ H' D (a.step s) fun g m2 v2 H2 e2 s2 q => k g m2 v2 H2 e2 (s.trans s2) q
/-- a block that either ends or hands back -/
def EndX (G : Gm) (M : OM) (t : TS) (Φ : Pst) (Ψ : PsE) : Prop := ∀ σ H D, At G M σ H → (∀ G' M' σ' H', Φ G' M' → Stp M H M' H' → At G' M' σ' H' → D.nx σ' H') → (∀ P M' v H', Ψ P M' → Stp M H M' H' → Sta P v (Frz M' H') → D.rt v H') → t D σ H
theorem NrmX.end {t : TS} {Φ : Pst} {Ψ : PsE} (h : NrmX G M t Φ) : EndX G M t Φ Ψ := fun σ H D a k _ => h σ H D a k
theorem RtnX.end {t : TS} {Φ : Pst} {Ψ : PsE} (h : RtnX G M t Ψ) : EndX G M t Φ Ψ := fun σ H D a _ k => h σ H D a k
theorem rtnx_seqE {t u : TS} {Φ : Pst} {Ψ : PsE} (h1 : EndX G M t Φ Ψ) (h2 : ∀ G' M', Φ G' M' → RtnX G' M' u Ψ) : RtnX G M (tSeq t u) Ψ := fun σ H D a k =>
  h1 σ H _ a (fun G' M' σ1 H1 e s1 a1 => h2 G' M' e σ1 H1 D a1 fun P2 M2 v2 H2 e2 s2 q2 => k P2 M2 v2 H2 e2 (s1.trans s2) q2) fun P2 M2 v2 H2 e2 s2 q2 => k P2 M2 v2 H2 e2 s2 q2
theorem endx_seq {t u : TS} {Φ Φ2 : Pst} {Ψ : PsE} (h1 : EndX G M t Φ Ψ) (h2 : ∀ G' M', Φ G' M' → EndX G' M' u Φ2 Ψ) : EndX G M (tSeq t u) Φ2 Ψ := fun σ H D a k r =>
  h1 σ H _ a (fun G' M' σ1 H1 e s1 a1 => h2 G' M' e σ1 H1 D a1 (fun G2 M2 σ2 H2 e2 s2 a2 => k G2 M2 σ2 H2 e2 (s1.trans s2) a2) fun P2 M2 v2 H2 e2 s2 q2 => r P2 M2 v2 H2 e2 (s1.trans s2) q2) fun P2 M2 v2 H2 e2 s2 q2 => r P2 M2 v2 H2 e2 s2 q2
theorem endx_ifX {c : TT} {t u : TS} {Φ : Bool → OM → Prop} {Φ2 : Pst} {Ψ : PsE} (h : EvTX G M c Φ) (h1 : ∀ m, Φ true m → EndX G m t Φ2 Ψ) (h2 : ∀ m, Φ false m → EndX G m u Φ2 Ψ) : EndX G M (tIfS c t u) Φ2 Ψ := fun σ H D a k r => h σ H _ a fun b m H' e s => by
  cases b with
  | true => rw [if_pos rfl]; exact h1 m e σ H' D (a.step s) (fun g m2 σ2 H2 e2 s2 q => k g m2 σ2 H2 e2 (s.trans s2) q) fun P2 M2 v2 H2 e2 s2 q2 => r P2 M2 v2 H2 e2 (s.trans s2) q2
  | false => rw [if_neg Bool.false_ne_true]; exact h2 m e σ H' D (a.step s) (fun g m2 σ2 H2 e2 s2 q => k g m2 σ2 H2 e2 (s.trans s2) q) fun P2 M2 v2 H2 e2 s2 q2 => r P2 M2 v2 H2 e2 (s.trans s2) q2
end
end Z
set_option maxRecDepth 100000
set_option maxHeartbeats 4000000
/-! Z22: comprehensions with tests whose outcomes are told by predicates. Own work. -/
namespace Z
open PySem PySem.Spec L2
section
variable {K : PySem.W.Frag} {G G1 G2 : Gm} {M M0 M1 M2 M3 : OM} {P P1 P2 : Pr}
theorem evx_lcX {wi : TI} {g : TG} {tt : TT} {te : TE} {vs : List Nat} {n : Nat} {p : Nat → Pr} (Iv : Nat → List Pr → OM → Prop) (hi : EvI G M wi n p M0) (hs : n ≤ sizeLine) (h0 : Iv 0 [] M0) (hlen : ∀ i l m, Iv i l m → l.length ≤ i)
    (turn : ∀ i, i < n → ∀ l m, Iv i l m → ∀ D, m D = none → ∃ G1 Φ, EvGw (wipeG G vs) (m.set D (.lst l)) (p i) g vs G1 (m.set D (.lst l)) ∧ EvTX G1 (m.set D (.lst l)) tt Φ ∧
      (∀ m', Φ true m' → ∃ q, Evl G1 m' te q m' ∧ ∃ m2, m' = m2.set D (.lst l) ∧ m2 D = none ∧ Iv (i + 1) (l ++ [q]) m2) ∧ (∀ m', Φ false m' → ∃ m2, m' = m2.set D (.lst l) ∧ m2 D = none ∧ Iv (i + 1) l m2)) :
    EvlX G M (tLc wi g tt te vs) (fun P m => ∃ l, Iv n l m ∧ P = Ls K l) := fun σ H Q a k => hi σ H _ a fun J H1 s w D hD => by
  have s0 := Stp.allocO s.own hD (o := .lst []) (c := .lst []) ⟨[], rfl, .nil⟩
  refine ⟨fun i m H' => m = n - i ∧ i ≤ n ∧ ∃ l M', Iv i l M' ∧ M' D = none ∧ Stp M H (M'.set D (.lst l)) H' ∧ Same (Frz M0 H1) (Frz (M'.set D (.lst l)) H'), ⟨n, by simp, Nat.zero_le _, [], M0, h0, s.own.free hD, s.trans s0, s0.frz⟩, ?_⟩
  rintro i m H' ⟨rfl, hin, l, M', iv, dm, st, sm⟩
  obtain ⟨w1, w2⟩ := w _ H' st.own sm
  by_cases hlt : i < n
  · obtain ⟨go, yl⟩ := w1 i hlt
    refine .inr ⟨go, fun H2 => ∃ l M', Iv (i + 1) l M' ∧ M' D = none ∧ Stp M H (M'.set D (.lst l)) H2 ∧ Same (Frz M0 H1) (Frz (M'.set D (.lst l)) H2), fun H2 q => ⟨n - (i + 1), by omega, rfl, hlt, q⟩, fun x H2 y => ?_⟩
    obtain ⟨y1, y2⟩ := yl x H2 y
    obtain ⟨G1, Φ, t1, t2, t3, t4⟩ := turn i hlt l M' iv D dm
    have a2 := ((a.step st).step y1).wipe vs
    refine t1 x (L2.wipe σ vs) H2 _ a2 y2 fun σ3 H3 s3 a3 e3 => ⟨?_, ?_⟩
    · rw [e3, wipe_wipe]
    refine t2 σ3 H3 _ a3 fun b m' H4 ph s4 => ?_
    have st4 := ((st.trans y1).trans s3).trans s4
    have sm4 := ((sm.trans y1.frz).trans s3.frz).trans s4.frz
    cases b with
    | false =>
      rw [if_neg Bool.false_ne_true]
      obtain ⟨m2, rfl, d2, iv2⟩ := t4 m' ph
      exact ⟨l, m2, iv2, d2, st4, sm4⟩
    | true =>
      rw [if_pos rfl]
      obtain ⟨q, te', m2, rfl, d2, iv2⟩ := t3 m' ph
      refine te' σ3 H4 _ (a3.step s4) fun z H5 s5 q5 => ?_
      have st5 := st4.trans s5
      have sm5 := sm4.trans s5.frz
      obtain ⟨o, e1, xs, rfl, r⟩ := st5.own.cell D _ OM.set_same
      have hl := hlen _ _ _ iv
      have s6 := Stp.write st5.own OM.set_same (c' := .lst (l ++ [q])) (o := .lst (xs ++ [z])) ⟨_, rfl, Stas.append r (.cons q5 .nil)⟩
      rw [OM.set_set] at s6
      exact ⟨xs, e1, by rw [← r.len]; omega, l ++ [q], m2, iv2, d2, st5.trans s6, sm5.trans s6.frz⟩
  · have e : i = n := by omega
    subst e
    refine .inl ⟨w2, ?_⟩
    obtain ⟨s5, o, e5, xs, rfl, e6⟩ := Stp.freeze st.own OM.set_same
    rw [OM.del_set dm] at s5 e5 e6
    exact k _ M' _ H' ⟨l, iv, rfl⟩ (st.trans s5) (ls_of (.of e5) e6)
end
end Z
set_option maxRecDepth 100000
set_option maxHeartbeats 4000000
/-! Z23: two names at once, drawn walks, a refusal caught. Own work. -/
namespace Z
open PySem PySem.Spec L2
section
variable {K : PySem.W.Frag} {G G1 G2 : Gm} {M M1 M2 M3 : OM} {P P1 P2 : Pr}
theorem nrmx_par {i j : Nat} {ta : L2.TA} {Φ : List Pr → OM → Prop} {Ψ : Pst} (h : EvAX G M ta Φ) (hl : ∀ ps m, Φ ps m → ∃ P1 P2, ps = [P1, P2] ∧ Ψ ((G.set i (some P1)).set j (some P2)) m) : NrmX G M (tPar i j ta) Ψ := fun σ H D a k => h σ H _ a fun ps m vs H1 e s q => by
  obtain ⟨P1, P2, rfl, e2⟩ := hl ps m e
  obtain ⟨x, y, rfl, q1, q2⟩ := stas2 q
  exact ⟨x, y, rfl, k _ m _ H1 e2 s (((a.step s).set i q1).set j q2)⟩
def EvIX (G : Gm) (M : OM) (wi : TI) (Φ : Nat → (Nat → Pr) → OM → Prop) : Prop := ∀ σ H (R : It → Hp → Prop), At G M σ H → (∀ n p M' J H1, Φ n p M' → Stp M H M' H1 → Walks J (Frz M' H1) n p → R J H1) → wi σ H R
theorem evix_range {ta : L2.TA} {Φ : List Pr → OM → Prop} {Ψ : Nat → OM → Prop} (h : EvAX G M ta Φ) (hn : ∀ ps m, Φ ps m → ∃ n : Nat, ps = [Dd K (.int n)] ∧ (n : Int) < 2 ^ 62 ∧ Ψ n m) : EvIX G M (iRng1 ta) (fun n p m => Ψ n m ∧ p = fun i => Dd K (.int (i : Nat))) := fun σ H R a k =>
  h σ H _ a fun ps m vs H1 e s q => by
    obtain ⟨n, rfl, hb, e2⟩ := hn ps m e
    have h2 := evi_range (K := K) (G := G) (M := m) (M1 := m) (n := n) (ta := fun _ H' Q => Stas [Dd K (.int n)] vs (Frz m H') → Q vs H') (fun _ H' Q a' k' q' => k' vs H' (.refl a'.own) q') hb
    exact h2 σ H1 R (a.step s) (fun J H2 s2 w => k n _ m J H2 ⟨e2, rfl⟩ (s.trans s2) w) q
theorem nrmx_forX {wi : TI} {g : TG} {tb : TS} {Ξ : Nat → (Nat → Pr) → OM → Prop} {Ψ : Pst} (hi : EvIX G M wi Ξ)
    (hb : ∀ n p m, Ξ n p m → ∃ Φ : Nat → Pst, Φ 0 G m ∧ (∀ i, i < n → ∀ G' M', Φ i G' M' → BodyX G' M' (p i) g tb (Φ (i + 1))) ∧ ∀ g' m', Φ n g' m' → Ψ g' m') : NrmX G M (tFor wi g tb) Ψ := fun σ H D a k =>
  hi σ H _ a fun n p m J H1 e s w => by
    obtain ⟨Φ, h0, h1, h2⟩ := hb n p m e
    have h3 := nrmx_for (G := G) (M := m) (M1 := m) (wi := fun _ H' R => Walks J (Frz m H') n p → R J H') (g := g) (tb := tb) (n := n) (p := p) Φ (fun _ H' R a' k' w' => k' J H' (.refl a'.own) w') h0 h1
    exact h3 σ H1 D (a.step s) (fun G' M' σ' H' e' s' a' => k G' M' σ' H' (h2 G' M' e') (s.trans s') a') w
theorem EndX.imp {t : TS} {Φ Φ' : Pst} {Ψ Ψ' : PsE} (h : EndX G M t Φ Ψ) (f : ∀ g m, Φ g m → Φ' g m) (f2 : ∀ P m, Ψ P m → Ψ' P m) : EndX G M t Φ' Ψ' := fun σ H D a k k2 =>
  h σ H D a (fun g m σ' H' e => k g m σ' H' (f g m e)) fun P m v H' e => k2 P m v H' (f2 P m e)
theorem rtnx_end {t : TS} {Φ : Pst} {Ψ : PsE} (h : EndX G M t Φ Ψ) (no : ∀ g m, ¬ Φ g m) : RtnX G M t Ψ := fun σ H D a k => h σ H D a (fun g m σ' H' e => absurd e (no g m)) k
/-- a try whose body ends -/
theorem try_nrm {c : Value} {ts : Addr → Value → Option Addr → TS} {Wout : WX} {tb : WX → TS} {Φ : Pst} (h : ∀ W, NrmX G M (tb W) Φ) : NrmX G M (fun D σ H => tb (wOnly K c ts Wout D) D σ H) Φ := fun σ H D a k => h _ σ H D a k
/-- a try whose body is refused, caught -/
theorem try_caught {c : Value} {ts : Addr → Value → Option Addr → TS} {Wout : WX} {tb : WX → TS} {Ψ : PsE} (hx : PySem.W.exmOne K c c = some true)
    (hb : ∀ (W : WX) σ H (D : Ends), At G M σ H → (∀ H', Stp M H M1 H' → At G M1 σ H' → W c none σ H') → tb W D σ H) (hs : ∀ a, RtnX G M1 (ts a c none) Ψ) : RtnX G M (fun D σ H => tb (wOnly K c ts Wout D) D σ H) Ψ := fun σ H D a k =>
  hb _ σ H D a fun H' s a' => ⟨true, hx, (fun _ b _ => hs b σ H' D a' fun P m v H2 e s2 q => k P m v H2 e (s.trans s2) q), fun z => by cases z⟩
end
end Z
set_option maxRecDepth 100000
set_option maxHeartbeats 4000000
/-! Z24: sorted of a dict with tuples as keys. Own work. -/
namespace Z
open PySem PySem.Spec L2
section
variable {X : Cx}
theorem reads_keys {h : Heap} : ∀ {ks : List Key} {its : List Value}, Vals (ks.map kV) its → ReadsAll h its (ks.map keyD) []
  | [], _, v => by cases v; exact .nil
  | k :: ks, _, v => by
    cases v with
    | cons r t =>
      have q := reads_keys (h := h) t
      cases k with
      | inl i => obtain ⟨t', rfl⟩ := r; exact ReadsAll.cons (as := []) (bs := []) (.int i t') q
      | inr x => obtain ⟨t', rfl⟩ := r; exact ReadsAll.cons (as := []) (bs := []) (.str x t') q
abbrev kD (ks : List Key) : PyData := .tuple (ks.map keyD)
theorem reads_key {P : Program} {w : World} {H : Hp} {h : Heap} {b : Addr} {ks : List Key} (ok : HOk P w H h) (e : H b = some (.tup (ks.map kV))) : Reads h (.ref b) (kD ks) [] := by
  obtain ⟨_, its, r, o, h1, h2, n, h3⟩ := (show ObjOk P w H h b (.tup (ks.map kV)) from ok b _ e)
  exact .tuple h1 h2 h3 (by simpa using reads_keys r)
theorem kdl_raw {prog : Program} {w : World} {d : Addr} {es : Array DictEntry} {ep : Nat} (lo : (d == sysModules) = false) : PySem.W.KdlSrc prog w "dict" d d es.size (fun i v => ∃ hi : i < es.size, v = es[i].key) (fun h => h.DictRaw d es ep) where
  type := fun _ hm => hm.typeIs
  there := fun h ⟨o, ho, _⟩ => ⟨Heap.lt_size ho, Heap.lt_size ho⟩
  keep := fun _ _ hm hk => hm.at fun o e => hk d (.inl rfl) o e
  notList := by decide
  notTuple := by decide
  hint := fun _ _ _ _ hm hq => PySem.W.kdl_hint_dict hm.typeIs hq
  iter := fun _ _ hh hm => ⟨_, _, (fun _ _ hq => wpAny_pyIter_dict_raw lo hm hq), PySem.Walks.rawKeys hh _ d (Nat.ne_of_lt (by obtain ⟨o, ho, _⟩ := hm; exact Heap.lt_size ho)) es ep, ⟨⟨_, Heap.get?_push_size _ rfl, rfl, rfl⟩, hm.at fun o e => Heap.get?_push_of_some _ e⟩⟩
theorem each_of {α β : Type} {R : α → β → Prop} : ∀ {as : List α} {bs : List β}, as.length = bs.length → (∀ (j : Nat) (a : α) (b : β), as[j]? = some a → bs[j]? = some b → R a b) → PySem.W.EachIs R as bs
  | [], [], _, _ => .nil
  | a :: as, b :: bs, hl, h => .cons (h 0 a b rfl rfl) (each_of (by simpa using hl) fun j x y e1 e2 => h (j + 1) x y (by simpa using e1) (by simpa using e2))
  | [], _ :: _, hl, _ => by simp at hl
  | _ :: _, [], hl, _ => by simp at hl
abbrev IsKt (H : Hp) (k : List Key) (y : V) : Prop := ∃ b, y = V.ref b ∧ H b = some (.tup (k.map kV))
theorem each_kt {H : Hp} : ∀ {out : List Value} {ks : List (List Key)}, PySem.W.EachIs (fun v k => ∃ b, v = Value.ref b ∧ H b = some (.tup (k.map kV))) out ks → ∃ ys, Vals ys out ∧ Paired (IsKt H) ks ys
  | _, _, .nil => ⟨[], .nil, .nil⟩
  | _, _, .cons ⟨b, e1, e2⟩ t => by
    obtain ⟨ys, r, q⟩ := each_kt t
    subst e1
    exact ⟨V.ref b :: ys, .cons rfl r, .cons ⟨b, rfl, e2⟩ q⟩
def rSortT : List V → Hp → VK → Prop := fun vs H Q => ∃ (a : Addr) (kvs : List (List Key × V)), vs = [V.ref a] ∧ H a = some (.dT kvs) ∧ PySem.W.AllAlike ((kvs.map (·.1)).map kD) ∧ PySem.W.Sortable ((kvs.map (·.1)).map kD) ∧ (∀ k ∈ kvs.map (·.1), (kD k).depth ≤ 60) ∧
  ∀ (p : Addr) (ys : List V), H p = none → Paired (IsKt H) ((kvs.map (·.1)).mergeSort (leD kD)) ys → Q (.ref p) (upd H p (.lst ys))
theorem cr_sortT (hcalm : X.calm = true) (hu : X.A.units + 64 < cLine) : CallR X (.builtin "sorted") rSortT := by
  intro pins s σ H xs us Q I r q
  obtain ⟨a, kvs, rfl, hd, al, so, hdp, q⟩ := q
  rw [Vals.ref1 r]
  obtain ⟨z, lo, xs, kt, dh⟩ := dt_of I.hok hd
  obtain ⟨es, ep, raw, hsz, hes⟩ := Heap.DictOfH.raw dh
  have hlen : kvs.length = xs.length := Paired.length kt
  have hz : (kvs.map (·.1)).length ≤ sizeLine := by rw [List.length_map]; exact z
  refine Calls.call_function_entry PyProof.Rows.kind_sorted PyProof.Rows.plain_sorted PyProof.Rows.entry_sorted (PyProof.Rows.args_sorted1 _) ?_
  unfold Builtin.«sorted»
  refine wpAny_bind (m := checkCount "sorted" 1 1 _) (wpAny_pure ?_)
  refine wpAny_bind (PySem.W.kdu_collect (A := X.A.in1) (kdl_raw (es := es) (ep := ep) lo) (I.ok.hd hcalm) raw (by rw [hsz, ← hlen]; exact z) fun h' tk acc hk hacc => ?_)
  have I1 : Inv X pins σ H { s with heap := h', toks := tk } := I.kept hk
  have hal : acc.toList.length = (kvs.map (·.1)).length := by rw [Array.length_toList, hacc.1, hsz, List.length_map, hlen]
  have each : PySem.W.EachIs (fun v k => ∃ b, v = Value.ref b ∧ H b = some (.tup (k.map kV))) acc.toList (kvs.map (·.1)) := each_of hal fun j v k e1 e2 => by
    obtain ⟨hi, hv⟩ := hacc.2 j v (by rw [← Array.getElem?_toList]; exact e1)
    obtain ⟨y, y1, y2, _, _⟩ := hes j hi
    rw [List.getElem?_map] at e2
    obtain ⟨p, p1, rfl⟩ := Option.map_eq_some_iff.mp e2
    obtain ⟨b, hb1, hb2, hb3, _⟩ := paired_get kt p1
    rw [y1] at hb1
    cases hb1
    exact ⟨_, by rw [hv, y2], hb3⟩
  refine wpAny_bind (wpAny_newList ?_ (by rw [hal]; exact hz))
  have hoL : (h'.push (PyProof.Rows.seqObj "list" acc.toList.toArray 0)).get? h'.objs.size = some (PyProof.Rows.seqObj "list" acc.toList.toArray 0) := Heap.get?_push_size _ rfl
  show wpAny _ _ _ _ _ { s with heap := h'.push (PyProof.Rows.seqObj "list" acc.toList.toArray 0), toks := tk }
  refine wpAny_bind (wpAny_holding (PySem.W.list_sort_data (enc := kD) (s := { s with heap := h'.push (PyProof.Rows.seqObj "list" acc.toList.toArray 0), toks := tk }) hoL each (each.mono fun v k ⟨b, e1, e2⟩ => ⟨[], by rw [e1]; exact PyProof.Rows.Reads.keeps (fun c o e => Heap.get?_push_of_some _ e) (reads_key I1.hok e2), by simp⟩) al so hz (fun k hk2 => by have := hdp k hk2; show X.A.units + 1 + 1 + _ < cLine; omega) fun out hol he => ?_))
  obtain ⟨ys, r1, pr⟩ := each_kt he
  obtain ⟨e', he'⟩ := PyProof.Rows.sortedHeap_at (vs := acc.toList) (out := List.toArray out) hoL
  have hl2 : ys.length ≤ sizeLine := by rw [r1.length, hol]; exact hz
  refine wpAny_pure ⟨_, rfl, .ref h'.objs.size, upd H h'.objs.size (.lst ys), I1.laid (t' := tk) (fun b u e => ?_) (Nat.le_refl _)
    (show ObjOk X.prog X.w _ _ _ (.lst ys) from ⟨hl2, out, e', r1, he'⟩), rfl, q _ ys (I1.hok.fresh (Nat.le_refl _)) pr⟩
  have hb : b < h'.objs.size := Heap.lt_size e
  rw [PyProof.Rows.sortedHeap_old (Nat.ne_of_lt hb) (by rw [PyProof.Rows.size_push']; exact Nat.lt_succ_of_lt hb)]
  exact Heap.get?_push_of_some _ e
end
section
variable {K : PySem.W.Frag} {G G1 G2 : Gm} {M M1 M2 M3 : OM}
theorem own_tup {H : Hp} {b : Addr} {vs : List V} (w : Own M H) (h : H b = some (.tup vs)) : M b = none := by
  cases e : M b with
  | none => rfl
  | some c =>
    obtain ⟨o, e1, e2⟩ := w.cell b c e
    rw [h] at e1
    cases e1
    cases c with
    | lst ps => obtain ⟨xs, z, _⟩ := e2; cases z
    | ins C dx fs => obtain ⟨xs, z, _⟩ := e2; cases z
    | dK kvs => obtain ⟨xs, z, _⟩ := e2; cases z
    | dT kvs => obtain ⟨xs, z, _⟩ := e2; cases z
    | tbl q => obtain ⟨xs, z, _⟩ := e2; cases z
theorem kts_of {H F : Hp} (hs : ∀ b vs, H b = some (.tup vs) → F b = some (.tup vs)) : ∀ {ks : List (List Key)} {ys : List V}, Paired (IsKt H) ks ys → Stas (ks.map Kt) ys F
  | _, _, .nil => .nil
  | _, _, .cons ⟨b, e1, e2⟩ t => by
    subst e1
    exact .cons (kt_of (hs _ _ e2)) (kts_of hs t)
theorem cbe_sortT {p : Addr} {l : List (List Key × Int)} (hm : M p = some (.dT (intT K l))) (al : PySem.W.AllAlike ((l.map (·.1)).map kD)) (so : PySem.W.Sortable ((l.map (·.1)).map kD)) (hd : ∀ k ∈ l.map (·.1), (kD k).depth ≤ 60) :
    CbE M rSortT [Rf p] (Ls K (((l.map (·.1)).mergeSort (leD kD)).map Kt)) M := fun vs H Q w h k => by
  obtain ⟨x, rfl, a⟩ := stas1 h
  cases a.here
  have e : (l.map vI).map (·.1) = l.map (·.1) := by rw [List.map_map]; rfl
  refine ⟨p, l.map vI, rfl, cell_dT w hm, by rw [e]; exact al, by rw [e]; exact so, by rw [e]; exact hd, fun q ys hq pr => ?_⟩
  rw [e] at pr
  obtain ⟨s, e2⟩ := Stp.alloc w hq (.lst ys)
  refine k _ _ s (ls_of (.of e2) (kts_of (fun b vs hb => Frz_of (own_tup w hb) (by rw [upd_ne (ne_of_none hb hq)]; exact hb) (by intro _ z; cases z)) pr))
end
end Z
set_option maxRecDepth 100000
set_option maxHeartbeats 4000000
/-! Z25: over an owned list that stays, new objects, new lists of new lists. Own work. -/
namespace Z
open PySem PySem.Spec L2
section
variable {K : PySem.W.Frag} {G G1 G2 : Gm} {M M1 M2 M3 : OM} {P P1 P2 : Pr}
theorem nrmx_forO {tl : TE} {g : TG} {tb : TS} {r : Addr} (ps : List Pr) (Φ : Nat → Pst) (hl : Evl G M tl (Rf r) M1) (h0 : Φ 0 G M1) (hr : ∀ i G' M', Φ i G' M' → M' r = some (.lst ps))
    (hb : ∀ (i : Nat) (hi : i < ps.length), ∀ G' M', Φ i G' M' → BodyX G' M' ps[i] g tb (Φ (i + 1))) : NrmX G M (tFor (iList K tl) g tb) (Φ ps.length) := fun σ H D a k => hl σ H _ a fun v H1 s qv => by
  cases qv.here
  obtain ⟨xs0, e0, r0⟩ := cell_lst s.own (hr 0 G M1 h0)
  refine ⟨r, rfl, ⟨xs0, .of e0⟩, ?_⟩
  refine ⟨fun i m σ' H' => m = ps.length - i ∧ i ≤ ps.length ∧ ∃ G' M', Φ i G' M' ∧ Stp M H M' H' ∧ At G' M' σ' H', ⟨ps.length, by simp, Nat.zero_le _, G, M1, h0, s, a.step s⟩, ?_⟩
  rintro i m σ' H' ⟨rfl, hin, G', M', ph, st, at'⟩
  obtain ⟨xs, e1, e2⟩ := cell_lst st.own (hr i G' M' ph)
  by_cases hlt : i < ps.length
  · obtain ⟨v, e3, e4⟩ := e2.get (i := i) (P := ps[i]) (List.getElem?_eq_getElem hlt)
    refine .inr ⟨⟨xs, v, .of e1, e3⟩, fun σ2 H2 => ∃ G2 M2, Φ (i + 1) G2 M2 ∧ Stp M H M2 H2 ∧ At G2 M2 σ2 H2, fun σ2 H2 ⟨G2, M2, q0, q1, q2⟩ => ⟨ps.length - (i + 1), by omega, rfl, hlt, G2, M2, q0, q1, q2⟩, fun x H2 y => ?_⟩
    obtain ⟨rfl, y⟩ := y
    have hx : x = v := by
      have z := y xs (.of e1)
      rw [e3] at z
      exact (Option.some.inj z).symm
    subst hx
    exact hb i hlt G' M' ph x σ' H2 _ at' e4 fun G3 M3 σ3 H3 e3 s3 a3 => ⟨G3, M3, e3, st.trans s3, a3⟩
  · have e : i = ps.length := by omega
    subst e
    exact .inl ⟨⟨xs, .of e1, by have := e2.len; omega⟩, k G' M' σ' H' ph st at'⟩
theorem evx_make {R : CtrX} {E : XK} {C : Addr} {t : L2.TA} {ps : List Pr} {Φ : PsE} (h : EvA G M t ps M1) (r : ∀ x dx, M1 x = none → ∃ Ψ, R (M1.set x (.ins C dx [])) (Rf x :: ps) Ψ ∧ ∀ P m, Ψ P m → P = Dd K .none ∧ Φ (Rf x) m) : EvlX G M (tMake C (SpX R) [] E t) Φ := fun σ H Q a k =>
  h σ H _ a fun us H1 s1 q1 x dx hx hdx ne => by
    obtain ⟨s2, e2⟩ := Stp.alloc s1.own hdx (.own x)
    have hx2 : upd H1 dx (.own x) x = none := by rw [upd_ne (Ne.symm ne)]; exact hx
    have s3 := Stp.allocO s2.own hx2 (o := .ins C dx []) (c := .ins C dx []) ⟨[], rfl, .nil⟩
    have hm := s1.own.free hx
    obtain ⟨Ψ, r1, r2⟩ := r x dx hm
    refine ⟨_, _, _, r1, s3.own, by rw [List.append_nil]; exact .cons rf ((q1.mono s2.frz).mono s3.frz), fun P m v H4 e s4 q4 => ?_⟩
    obtain ⟨rfl, e5⟩ := r2 P m e
    exact ⟨dd_non q4, k _ m _ H4 e5 (((s1.trans s2).trans s3).trans s4) rf⟩
theorem evx_loX {t : L2.TA} {Φ : List Pr → OM → Prop} (h : EvAX G M t Φ) (hl : ∀ ps m, Φ ps m → ps.length ≤ sizeLine) : EvlX G M (tLst t) (fun P m => ∃ ps m1 p, Φ ps m1 ∧ m1 p = none ∧ P = Rf p ∧ m = m1.set p (.lst ps)) := fun σ H Q a k => h σ H _ a fun ps m vs H' e s q =>
  ⟨by rw [← q.len]; exact hl ps m e, fun p hp => by
    have hm := s.own.free hp
    have s2 := Stp.allocO s.own hp (o := .lst vs) (c := .lst ps) ⟨vs, rfl, q⟩
    exact k _ _ _ _ ⟨ps, m, p, e, hm, rfl, rfl⟩ (s.trans s2) rf⟩
end
end Z
/-! P0: the order of data; sorting. Own work. -/
namespace Z
open PySem PySem.Spec PySem.W
theorem dlt_irr (a : PyData) : dataLt a a = false := PyProof.Rows.lex_irrefl _
theorem dlt_trans {a b c : PyData} (h1 : dataLt a b = true) (h2 : dataLt b c = true) : dataLt a c = true := PyProof.Rows.lex_trans _ _ _ h1 h2
theorem dlt_neg {a b c : PyData} (h : dataLt a c = true) : dataLt a b = true ∨ dataLt b c = true := PyProof.Rows.lex_negTrans _ _ _ h
theorem dlt_asym {a b : PyData} (h : dataLt a b = true) : dataLt b a = false := by
  cases q : dataLt b a with
  | false => rfl
  | true => have := dlt_trans h q; rw [dlt_irr] at this; cases this
section
variable {β : Type} {enc : β → PyData}
theorem leD_def {a b : β} : leD enc a b = !dataLt (enc b) (enc a) := rfl
theorem leD_total (a b : β) : (leD enc a b || leD enc b a) = true := by
  rw [leD_def, leD_def]
  cases h : dataLt (enc b) (enc a) with
  | false => rfl
  | true => rw [dlt_asym h]; rfl
theorem leD_trans (a b c : β) (h1 : leD enc a b = true) (h2 : leD enc b c = true) : leD enc a c = true := by
  rw [leD_def] at *
  cases h : dataLt (enc c) (enc a) with
  | false => rfl
  | true =>
    rcases dlt_neg (b := enc b) h with q | q
    · rw [q] at h2; cases h2
    · rw [q] at h1; cases h1
def sortD (enc : β → PyData) (l : List β) : List β := l.mergeSort (leD enc)
theorem sortD_perm (l : List β) : (sortD enc l).Perm l := List.mergeSort_perm _ _
theorem sortD_le (l : List β) : (sortD enc l).Pairwise fun a b => leD enc a b = true := List.pairwise_mergeSort leD_trans leD_total l
theorem sortD_id {l : List β} (h : l.Pairwise fun a b => leD enc a b = true) : sortD enc l = l := List.mergeSort_of_pairwise h
theorem leD_of_lt {a b : β} (h : dataLt (enc a) (enc b) = true) : leD enc a b = true := by rw [leD_def, dlt_asym h]; rfl
theorem sortD_rise {l : List β} (h : l.Pairwise fun a b => dataLt (enc a) (enc b) = true) : sortD enc l = l := sortD_id (h.imp fun q => leD_of_lt q)
end
end Z
set_option maxRecDepth 100000
set_option maxHeartbeats 4000000
/-! F1: small defs. Own work. -/
namespace Z
open PySem PySem.Spec L2
local macro_rules | `(tactic| walk_at "ev") => `(tactic| repeat' (first
  | with_reducible apply eva_nil
  | ((with_reducible apply ev_var); rfl)
  | with_reducible apply ev_int
  | with_reducible apply ev_str
  | with_reducible apply ev_bl
  | with_reducible apply ev_non
  | ((with_reducible show PySem.W.Frag); assumption)
  | with_reducible apply eva_cons
  | with_reducible apply ev_cb
  | with_reducible apply ev_op
  | with_reducible apply cbe_min2
  | with_reducible apply cbe_max2
  | with_reducible apply ope_I
  | with_reducible apply ope_B
  | with_reducible apply ope_isN
  | with_reducible apply ope_notN
  | with_reducible apply ope_eqi
  | with_reducible apply ope_nei
  | with_reducible apply ope_eqs
  | with_reducible apply ope_nes
  | with_reducible apply evt_test
  | with_reducible apply rtn_ret))
section
variable {P : Program} {w : World} {K : PySem.W.Frag} {mg : Str → Option Value} {base : Heap}
def within (n m : Int) : Int := max 0 (min n m)
inductive RWithin (K : PySem.W.Frag) : Ctr
  | mk {M : OM} {i j : Int} : RWithin K M [Dd K (.int i), Dd K (.int j)] (Dd K (.int (within i j))) M
abbrev n_within : List Str := ["number", "most"]
theorem sc_within : FnScope n_within ["number", "most"] (defScope (top 47)) := ⟨rfl, rfl, rfl, by decide +kernel, rfl, by decide +kernel, by decide +kernel⟩
theorem ok_within (T : Tx K mg base) : Cal P w K mg base 1 "within" (SpR (RWithin K)) [] := by
  obtain ⟨fd, F⟩ := T.fd_within
  have nd := sc_within.nd
  let nm := n_within
  let scp := defScope (top 47)
  refine cal_mk T.g_within F (F.bindsN fun _ _ _ _ _ _ us hl => match us, hl with | [_, _], _ => rfl) (fn_ok (k := 0) F sc_within (sp_len fun _ _ _ _ h => by cases h <;> rfl) fun cdv A outer s H E hr => ?_)
  have hu := hu_of hr
  refine ⟨_, (pss_one (ps_ret (pe_callB (call_max2 rfl) (by rfl) T.f_max (by decide +kernel) (pa_cons pe_int (pa_cons (pe_callB (call_min2 rfl) (by rfl) T.f_min (by decide +kernel) (pa_cons (pv 0) (pa_cons (pv 1) pa_nil))) pa_nil))))), fun vs Q h => end_rtn h ?_⟩
  try dsimp only [cx_K]
  rintro _ _ _ _ ⟨⟩
  refine Rtn.c (by walk_at "ev")
/-- a number or None -/
abbrev optD : Option Int → PyData
  | none => .none
  | some i => .int i
inductive RMore (K : PySem.W.Frag) : Ctr
  | mk {M : OM} {o : Option Int} {j : Int} : RMore K M [Dd K (optD o), Dd K (.int j)] (Dd K (optD (o.map (· + j)))) M
abbrev n_more : List Str := ["one", "by"]
theorem sc_more : FnScope n_more ["one", "by"] (defScope (top 4)) := ⟨rfl, rfl, rfl, by decide +kernel, rfl, by decide +kernel, by decide +kernel⟩
theorem ok_more (T : Tx K mg base) : Cal P w K mg base 1 "more" (SpR (RMore K)) [] := by
  obtain ⟨fd, F⟩ := T.fd_more
  have nd := sc_more.nd
  let nm := n_more
  let scp := defScope (top 4)
  refine cal_mk T.g_more F (F.bindsN fun _ _ _ _ _ _ us hl => match us, hl with | [_, _], _ => rfl) (fn_ok (k := 0) F sc_more (sp_len fun _ _ _ _ h => by cases h <;> rfl) fun cdv A outer s H E hr => ?_)
  have hu := hu_of hr
  refine ⟨_, (pss_one (ps_ret (pe_ifExp (pt_cmpR op_isN (pv 0) pe_non (nomark _)) pe_non (pe_op op_add (pv 0) (pv 1))))), fun vs Q h => end_rtn h ?_⟩
  try dsimp only [cx_K]
  rintro _ _ _ _ ⟨⟩
  rename_i o j
  refine rtn_ret (ev_if (by walk_at "ev") (fun e => ?_) (fun e => ?_))
  · cases o with
    | none => exact Evl.c (by walk_at "ev")
    | some i => cases e
  · cases o with
    | none => cases e
    | some i => exact Evl.c (by walk_at "ev")
end
end Z
set_option maxRecDepth 100000
set_option maxHeartbeats 4000000
/-! F2: doubled.py's small defs. Own work. -/
namespace Z
open PySem PySem.Spec L2
local macro_rules | `(tactic| walk_at "ev") => `(tactic| repeat' (first
  | with_reducible apply eva_nil
  | ((with_reducible apply ev_var); rfl)
  | with_reducible apply ev_int
  | with_reducible apply ev_str
  | with_reducible apply ev_bl
  | with_reducible apply ev_non
  | ((with_reducible show PySem.W.Frag); assumption)
  | with_reducible apply eva_cons
  | with_reducible apply ev_cb
  | with_reducible apply ev_op
  | with_reducible apply cbe_min2
  | with_reducible apply cbe_max2
  | with_reducible apply ope_I
  | with_reducible apply ope_B
  | with_reducible apply ope_isN
  | with_reducible apply ope_notN
  | with_reducible apply ope_eqi
  | with_reducible apply ope_nei
  | with_reducible apply ope_eqs
  | with_reducible apply ope_nes
  | with_reducible apply evt_test
  | with_reducible apply rtn_ret))
theorem rtn_ifs {G : Gm} {M M2 : OM} {Q : Pr} {c : TT} {t u : TS} {b : Bool} (h : EvT G M c b M) (h1 : b = true → Rtn G M t Q M2) (h2 : b = false → Rtn G M u Q M2) : Rtn G M (tSeq (tIfS c t tNext) u) Q M2 := fun σ H D a k => h σ H _ a fun H' s => by
  cases b with
  | true => rw [if_pos rfl]; exact h1 rfl σ H' _ (a.step s) fun v H2 s2 q => k v H2 (s.trans s2) q
  | false => rw [if_neg Bool.false_ne_true]; exact h2 rfl σ H' D (a.step s) fun v H2 s2 q => k v H2 (s.trans s2) q
section
variable {P : Program} {w : World} {K : PySem.W.Frag} {mg : Str → Option Value} {base : Heap}
def lesserO : Option Int → Option Int → Option Int
  | none, b => b
  | some a, none => some a
  | some a, some b => some (min a b)
inductive RLesser (K : PySem.W.Frag) : Ctr
  | mk {M : OM} {a b : Option Int} : RLesser K M [Dd K (optD a), Dd K (optD b)] (Dd K (optD (lesserO a b))) M
abbrev n_lesser : List Str := ["one", "other"]
theorem sc_lesser : FnScope n_lesser ["one", "other"] (defScope (top 3)) := ⟨rfl, rfl, rfl, by decide +kernel, rfl, by decide +kernel, by decide +kernel⟩
theorem ok_lesser (T : Tx K mg base) : Cal P w K mg base 1 "lesser" (SpR (RLesser K)) [] := by
  obtain ⟨fd, F⟩ := T.fd_lesser
  have nd := sc_lesser.nd
  let nm := n_lesser
  let scp := defScope (top 3)
  refine cal_mk T.g_lesser F (F.bindsN fun _ _ _ _ _ _ us hl => match us, hl with | [_, _], _ => rfl) (fn_ok (k := 0) F sc_lesser (sp_len fun _ _ _ _ h => by cases h <;> rfl) fun cdv A outer s H E hr => ?_)
  have hu := hu_of hr
  refine ⟨_, (pss_cons (ps_if (PW.pt (pw_or (pt_cmpR op_isN (pv 0) pe_non (nomark _)) (pw_or1 (pt_cmpR op_isN (pv 1) pe_non (nomark _))))) (pss_one (ps_ret (pe_ifExp (pt_cmpR op_isN (pv 0) pe_non (nomark _)) (pv 1) (pv 0)))) pss_nil)
    (pss_one (ps_ret (pe_callB (call_min2 rfl) (by rfl) T.f_min (by decide +kernel) (pa_cons (pv 0) (pa_cons (pv 1) pa_nil)))))), fun vs Q h => end_rtn h ?_⟩
  try dsimp only [cx_K]
  rintro _ _ _ _ ⟨⟩
  rename_i a b
  refine rtn_ifs (b := a.isNone || b.isNone) ?_ (fun e => ?_) (fun e => ?_)
  · refine evt_or' (EvT.c (b := isNon (optD a)) (by walk_at "ev") (by cases a <;> rfl)) (EvT.c (b := isNon (optD b)) (by walk_at "ev") (by cases b <;> rfl))
  · refine rtn_ret (ev_if (b := isNon (optD a)) (M1 := _) (by walk_at "ev") (fun e2 => ?_) (fun e2 => ?_))
    · cases a with
      | none => exact Evl.c (by walk_at "ev")
      | some a => cases e2
    · cases a with
      | none => cases e2
      | some a =>
        cases b with
        | none => exact Evl.c (by walk_at "ev")
        | some b => cases e
  · cases a with
    | none => cases e
    | some a =>
      cases b with
      | none => cases e
      | some b => exact Rtn.c (by walk_at "ev")
/-! ### numbers found -/
abbrev Fnd := List (Str × (Option Int × Option Int))
abbrev prD (x : Option Int × Option Int) : PyData := .list [optD x.1, optD x.2]
def Fd (K : PySem.W.Frag) (F : Fnd) : Pr := Dk (F.map fun x => (.inr x.1, Dd K (prD x.2)))
def fget (F : Fnd) (x : Str) : Option (Option Int × Option Int) := (F.find? fun y => decide (y.1 = x)).map (·.2)
def at2 (e : Option Int × Option Int) (k : Int) : Option Int := if k = 0 then e.1 else e.2
def fnum (F : Fnd) (x : Str) (k : Int) : Option Int := at2 ((fget F x).getD (none, none)) k
theorem fd_get {F : Fnd} {x : Str} {e : Option Int × Option Int} (h : fget F x = some e) : ((F.map fun x => ((.inr x.1 : Key), Dd K (prD x.2))).find? fun y => decide (y.1 = .inr x)).map (·.2) = some (Dd K (prD e)) := by
  rw [List.find?_map]
  unfold fget at h
  have e1 : ((fun y : Key × Pr => decide (y.1 = .inr x)) ∘ fun x : Str × (Option Int × Option Int) => ((.inr x.1 : Key), Dd K (prD x.2))) = fun y => decide (y.1 = x) := by
    funext y
    show decide ((.inr y.1 : Key) = .inr x) = decide (y.1 = x)
    rw [decide_eq_decide]
    exact ⟨fun z => Sum.inr.inj z, fun z => by rw [z]⟩
  rw [e1]
  cases q : F.find? fun y => decide (y.1 = x) with
  | none => rw [q] at h; cases h
  | some y => rw [q] at h; cases h; rfl
theorem ev_num {G : Gm} {M : OM} {td tx tk : TE} {F : Fnd} {x : Str} {k : Int} {e : Option Int × Option Int} (h1 : Evl G M td (Fd K F) M) (h2 : Evl G M tx (Dd K (.str x)) M) (h3 : Evl G M tk (Dd K (.int k)) M) (he : fget F x = some e) (hk : k = 0 ∨ k = 1) : Evl G M (tOp (rIx K) (tDGet td tx) tk) (Dd K (optD (fnum F x k))) M := by
  refine ev_op (ev_dgetL (K := K) (k := .inr x) h1 h2 (fd_get he)) h3 ?_
  refine ope_ixLD ?_
  unfold fnum
  rw [he]
  rcases hk with e | e <;> subst e <;> rfl
theorem mod2 (i : Int) : i % 2 = 0 ∨ i % 2 = 1 := by omega
def spotR (F : Fnd) (w : Str × Str × Int) (n : Int) (k : Int) : Option Int := lesserO ((fnum F w.1 ((k + n) % 2)).map (· + n)) ((fnum F w.2.1 ((k + (w.2.2 - n)) % 2)).map (· + (w.2.2 - n)))
abbrev wayD (w : Str × Str × Int) : PyData := .tuple [.str w.1, .str w.2.1, .int w.2.2]
inductive RSpot (K : PySem.W.Frag) : Ctr
  | mk {M : OM} {F : Fnd} {w : Str × Str × Int} {n : Int} {e1 e2 : Option Int × Option Int} (h1 : fget F w.1 = some e1) (h2 : fget F w.2.1 = some e2) : RSpot K M [Fd K F, Dd K (wayD w), Dd K (.int n)] (Dd K (prD (spotR F w n 0, spotR F w n 1))) M
theorem evi_01 {G : Gm} {M : OM} : EvI G M (iTup K (tTup (tCons (tC (.int 0)) (tCons (tC (.int 1)) tNil)))) 2 (at_ ([(0 : Int), 1].map fun i => Dd K (.int i))) M :=
  evi_tup (K := K) (ps := [Dd K (.int 0), Dd K (.int 1)]) (ev_tup (eva_cons ev_int (eva_cons ev_int eva_nil)) (show 2 ≤ sizeLine by decide))
abbrev n_spot_reaches : List Str := ["found", "way", "number", "one", "other", "beats", "behind", "first", "second", "kind"]
theorem sc_spot_reaches : FnScope n_spot_reaches ["found", "way", "number"] (defScope (top 5)) := ⟨rfl, rfl, rfl, by decide +kernel, rfl, by decide +kernel, by decide +kernel⟩
theorem ok_spot_reaches (T : Tx K mg base) : Cal P w K mg base 2 "spot_reaches" (SpR (RSpot K)) [] := by
  obtain ⟨fd, F⟩ := T.fd_spot_reaches
  have nd := sc_spot_reaches.nd
  let nm := n_spot_reaches
  let scp := defScope (top 5)
  have C_lesser : Cal P w K mg base 1 "lesser" (SpR (RLesser K)) [] := ok_lesser T
  have C_more : Cal P w K mg base 1 "more" (SpR (RMore K)) [] := ok_more T
  refine cal_mk T.g_spot_reaches F (F.bindsN fun _ _ _ _ _ _ us hl => match us, hl with | [_, _, _], _ => rfl) (fn_ok (k := 1) F sc_spot_reaches (sp_len fun _ _ _ _ h => by cases h <;> rfl) fun cdv A outer s H E hr => ?_)
  have hu := hu_of hr
  refine ⟨_, (pss_cons (ps_asg (pv 1) (pg_tupK (K := K) (n := 3) rfl (by rfl) (pgs_cons (pg_name (i := 3) nd rfl (by first | exact Or.inl rfl | exact Or.inr rfl)) (pgs_cons (pg_name (i := 4) nd rfl (by first | exact Or.inl rfl | exact Or.inr rfl)) (pgs_cons (pg_name (i := 5) nd rfl (by first | exact Or.inl rfl | exact Or.inr rfl)) pgs_nil)))))
    (pss_cons (ps_set (i := 6) nd rfl (by first | exact Or.inl rfl | exact Or.inr rfl) (pe_op op_sub (pv 5) (pv 2)))
    (pss_cons (ps_set (i := 7) nd rfl (by first | exact Or.inl rfl | exact Or.inr rfl) (pe_lc (own := [("kind", 9)]) (by rfl) nd (pi_tup (pe_tup (pa_cons pe_int (pa_cons pe_int pa_nil)))) (blkOk_by (own := [("kind", 9)]) (N := nm) (sc := scp) (by decide +kernel)) (fun _ _ _ _ _ => (pg_name (i := 9) nd rfl (by first | exact Or.inl rfl | exact Or.inr rfl))) (fun _ _ _ _ _ => pts_nil) (fun _ _ _ _ _ => (pe_c C_more hr (by decide) (by rfl) (pa_cons (pe_ix (ix_K (K := K) rfl) (pe_dget hu (pv 0) (pv 3) (fun _ _ => rfl)) (pe_op op_mod (pe_op op_add (pv 9) (pv 2)) pe_int) (fun _ _ => rfl)) (pa_cons (pv 2) pa_nil))))))
    (pss_cons (ps_set (i := 8) nd rfl (by first | exact Or.inl rfl | exact Or.inr rfl) (pe_lc (own := [("kind", 9)]) (by rfl) nd (pi_tup (pe_tup (pa_cons pe_int (pa_cons pe_int pa_nil)))) (blkOk_by (own := [("kind", 9)]) (N := nm) (sc := scp) (by decide +kernel)) (fun _ _ _ _ _ => (pg_name (i := 9) nd rfl (by first | exact Or.inl rfl | exact Or.inr rfl))) (fun _ _ _ _ _ => pts_nil) (fun _ _ _ _ _ => (pe_c C_more hr (by decide) (by rfl) (pa_cons (pe_ix (ix_K (K := K) rfl) (pe_dget hu (pv 0) (pv 4) (fun _ _ => rfl)) (pe_op op_mod (pe_op op_add (pv 9) (pv 6)) pe_int) (fun _ _ => rfl)) (pa_cons (pv 6) pa_nil))))))
    (pss_one (ps_ret (pe_lc (own := [("kind", 9)]) (by rfl) nd (pi_tup (pe_tup (pa_cons pe_int (pa_cons pe_int pa_nil)))) (blkOk_by (own := [("kind", 9)]) (N := nm) (sc := scp) (by decide +kernel)) (fun _ _ _ _ _ => (pg_name (i := 9) nd rfl (by first | exact Or.inl rfl | exact Or.inr rfl))) (fun _ _ _ _ _ => pts_nil) (fun _ _ _ _ _ => (pe_c C_lesser hr (by decide) (by rfl) (pa_cons (pe_ix (ix_K (K := K) rfl) (pv 7) (pv 9) (fun _ _ => rfl)) (pa_cons (pe_ix (ix_K (K := K) rfl) (pv 8) (pv 9) (fun _ _ => rfl)) pa_nil))))))))))), fun vs Q h => end_rtn h ?_⟩
  try dsimp only [cx_K]
  rintro _ _ _ _ ⟨h1, h2⟩
  rename_i M F w n e1 e2
  refine rtn_seq (nrm_asg (by walk_at "ev") (evg_tupD (evgs_cons evg_name (evgs_cons evg_name (evgs_cons evg_name evgs_nil))) rfl)) ?_
  refine rtn_seq (nrm_set (P := Dd K (.int (w.2.2 - n))) (by walk_at "ev")) ?_
  refine rtn_seq (nrm_set (ev_lcD (K := K) [(0 : Int), 1] (fun i => Dd K (.int i)) (fun k => optD ((fnum F w.1 ((k + n) % 2)).map (· + n))) (fun _ => true) evi_01 (by decide) fun k _ D c hD => turn_all (evgw_name (by decide)) ?_)) ?_
  · exact ev_call (eva_cons (ev_num (F := F) (x := w.1) (k := (k + n) % 2) (by walk_at "ev") (by walk_at "ev") (ev_op (ev_op (by walk_at "ev") (by walk_at "ev") ope_I) ev_int (ope_IC (by decide))) h1 (mod2 _)) (eva_cons (by walk_at "ev") eva_nil)) .mk
  refine rtn_seq (nrm_set (ev_lcD (K := K) [(0 : Int), 1] (fun i => Dd K (.int i)) (fun k => optD ((fnum F w.2.1 ((k + (w.2.2 - n)) % 2)).map (· + (w.2.2 - n)))) (fun _ => true) evi_01 (by decide) fun k _ D c hD => turn_all (evgw_name (by decide)) ?_)) ?_
  · exact ev_call (eva_cons (ev_num (F := F) (x := w.2.1) (k := (k + (w.2.2 - n)) % 2) (by walk_at "ev") (by walk_at "ev") (ev_op (ev_op (by walk_at "ev") (by walk_at "ev") ope_I) ev_int (ope_IC (by decide))) h2 (mod2 _)) (eva_cons (by walk_at "ev") eva_nil)) .mk
  refine rtn_ret (ev_lcD (K := K) [(0 : Int), 1] (fun i => Dd K (.int i)) (fun k => optD (spotR F w n k)) (fun _ => true) evi_01 (by decide) fun k hk D c hD => turn_all (evgw_name (by decide)) ?_)
  refine ev_call (eva_cons (ev_op (P1 := Dd K (.list [_, _])) (by walk_at "ev") (by walk_at "ev") (ope_ixLD ?_)) (eva_cons (ev_op (P1 := Dd K (.list [_, _])) (by walk_at "ev") (by walk_at "ev") (ope_ixLD ?_)) eva_nil)) .mk
  · simp only [List.mem_cons, List.not_mem_nil, or_false] at hk
    rcases hk with e | e <;> subst e <;> rfl
  · simp only [List.mem_cons, List.not_mem_nil, or_false] at hk
    rcases hk with e | e <;> subst e <;> rfl
def frontK (F : Fnd) (w : Str × Str × Int) (k : Int) : Int × Int × Int :=
  ((fnum F w.1 k).getD 0, (fnum F w.2.1 ((k + w.2.2) % 2)).getD 0, ((fnum F w.2.1 ((k + w.2.2) % 2)).getD 0 + w.2.2 - (fnum F w.1 k).getD 0) / 2)
def frontsF (F : Fnd) (w : Str × Str × Int) : List (Int × Int × Int) := ([(0 : Int), 1].filter fun k => (fnum F w.1 k).isSome).map (frontK F w)
abbrev frD (x : Int × Int × Int) : PyData := .tuple [.int x.1, .int x.2.1, .int x.2.2]
inductive RFronts (K : PySem.W.Frag) : Ctr
  | mk {M : OM} {F : Fnd} {w : Str × Str × Int} {e1 e2 : Option Int × Option Int} (h1 : fget F w.1 = some e1) (h2 : fget F w.2.1 = some e2) (h3 : ∀ k, (k = 0 ∨ k = 1) → (fnum F w.1 k).isSome = true → (fnum F w.2.1 ((k + w.2.2) % 2)).isSome = true) :
    RFronts K M [Fd K F, Dd K (wayD w)] (Dd K (.list ((frontsF F w).map frD))) M
abbrev n_fronts : List Str := ["found", "way", "one", "other", "beats", "some", "kind", "ahead", "behind"]
theorem sc_fronts : FnScope n_fronts ["found", "way"] (defScope (top 6)) := ⟨rfl, rfl, rfl, by decide +kernel, rfl, by decide +kernel, by decide +kernel⟩
theorem ok_fronts (T : Tx K mg base) : Cal P w K mg base 1 "fronts" (SpR (RFronts K)) [] := by
  obtain ⟨fd, F⟩ := T.fd_fronts
  have nd := sc_fronts.nd
  let nm := n_fronts
  let scp := defScope (top 6)
  refine cal_mk T.g_fronts F (F.bindsN fun _ _ _ _ _ _ us hl => match us, hl with | [_, _], _ => rfl) (fn_ok (k := 0) F sc_fronts (sp_len fun _ _ _ _ h => by cases h <;> rfl) fun cdv A outer s H E hr => ?_)
  have hu := hu_of hr
  refine ⟨_, (pss_cons (ps_asg (pv 1) (pg_tupK (K := K) (n := 3) rfl (by rfl) (pgs_cons (pg_name (i := 2) nd rfl (by first | exact Or.inl rfl | exact Or.inr rfl)) (pgs_cons (pg_name (i := 3) nd rfl (by first | exact Or.inl rfl | exact Or.inr rfl)) (pgs_cons (pg_name (i := 4) nd rfl (by first | exact Or.inl rfl | exact Or.inr rfl)) pgs_nil)))))
    (pss_cons (ps_setLc (i := 5) (own := [("kind", 6)]) (by rfl) nd rfl rfl (sw_true rfl rfl rfl (by decide +kernel)) (pi_tup (pe_tup (pa_cons pe_int (pa_cons pe_int pa_nil)))) (blkOk_by (own := [("kind", 6)]) (N := nm) (sc := scp) (by decide +kernel)) (fun _ _ _ _ _ => (pg_name (i := 6) nd rfl (by first | exact Or.inl rfl | exact Or.inr rfl))) (fun _ _ _ _ _ => pts_nil) (fun _ _ _ _ _ => (pe_tup (pa_cons (pe_ix (ix_K (K := K) rfl) (pe_dget hu (pv 0) (pv 2) (fun _ _ => rfl)) (pv 6) (fun _ _ => rfl)) (pa_cons (pe_ix (ix_K (K := K) rfl) (pe_dget hu (pv 0) (pv 3) (fun _ _ => rfl)) (pe_op op_mod (pe_op op_add (pv 6) (pv 4)) pe_int) (fun _ _ => rfl)) pa_nil)))))
    (pss_one (ps_ret (pe_lc (own := [("ahead", 7), ("behind", 8)]) (by rfl) nd (pi_listK (K := K) rfl (pv 5)) (blkOk_by (own := [("ahead", 7), ("behind", 8)]) (N := nm) (sc := scp) (by decide +kernel)) (fun _ _ _ _ _ => (pg_tupK (K := K) (n := 2) rfl (by rfl) (pgs_cons (pg_name (i := 7) nd rfl (by first | exact Or.inl rfl | exact Or.inr rfl)) (pgs_cons (pg_name (i := 8) nd rfl (by first | exact Or.inl rfl | exact Or.inr rfl)) pgs_nil)))) (fun _ _ _ _ _ => pts_one (pt_cmpR op_notN (pv 7) pe_non (nomark _))) (fun _ _ _ _ _ => (pe_tup (pa_cons (pv 7) (pa_cons (pv 8) (pa_cons (pe_op op_fdiv (pe_op op_sub (pe_op op_add (pv 8) (pv 4)) (pv 7)) pe_int) pa_nil)))))))))), fun vs Q h => end_rtn h ?_⟩
  try dsimp only [cx_K]
  rintro _ _ _ _ ⟨h1, h2, h3⟩
  rename_i M F w e1 e2
  refine rtn_seq (nrm_asg (by walk_at "ev") (evg_tupD (evgs_cons evg_name (evgs_cons evg_name (evgs_cons evg_name evgs_nil))) rfl)) ?_
  refine rtn_seq (nrm_set (ev_lcD (K := K) [(0 : Int), 1] (fun i => Dd K (.int i)) (fun k => .tuple [optD (fnum F w.1 k), optD (fnum F w.2.1 ((k + w.2.2) % 2))]) (fun _ => true) evi_01 (by decide) fun k hk D c hD => turn_all (evgw_name (by decide)) ?_)) ?_
  · have hk : k = 0 ∨ k = 1 := by simpa using hk
    exact ev_tupD (evad_cons (ev_num (F := F) (x := w.1) (by walk_at "ev") (by walk_at "ev") (by walk_at "ev") h1 hk) (evad_cons (ev_num (F := F) (x := w.2.1) (k := (k + w.2.2) % 2) (by walk_at "ev") (by walk_at "ev") (ev_op (ev_op (by walk_at "ev") (by walk_at "ev") ope_I) ev_int (ope_IC (by decide))) h2 (mod2 _)) evad_nil))
  refine rtn_ret (Evl.c (ev_lcD (K := K) [(0 : Int), 1] (fun k => Dd K (.tuple [optD (fnum F w.1 k), optD (fnum F w.2.1 ((k + w.2.2) % 2))])) (fun k => frD (frontK F w k)) (fun k => (fnum F w.1 k).isSome) (evi_listD (ds := [.tuple [_, _], .tuple [_, _]]) (by walk_at "ev")) (by decide) fun k hk D c hD => turn_if (evgw_tupD (evgsw_cons (evgw_name (by decide)) (evgsw_cons (evgw_name (by decide)) evgsw_nil)) rfl) (EvT.c (b := !isNon (optD (fnum F w.1 k))) (by walk_at "ev") ?_) fun e => ?_) ?_)
  · cases fnum F w.1 k <;> rfl
  · have hk : k = 0 ∨ k = 1 := by simpa using hk
    obtain ⟨x, hx⟩ := Option.isSome_iff_exists.mp e
    obtain ⟨y, hy⟩ := Option.isSome_iff_exists.mp (h3 k hk e)
    have hf : frontK F w k = (x, y, (y + w.2.2 - x) / 2) := by unfold frontK; rw [hx, hy]; rfl
    rw [hf, hx, hy]
    exact ev_tupD (evad_cons (by walk_at "ev") (evad_cons (by walk_at "ev") (evad_cons (ev_op (ev_op (ev_op (by walk_at "ev") (by walk_at "ev") ope_I) (by walk_at "ev") ope_I) ev_int (ope_IC ⟨by decide, by decide⟩)) evad_nil)))
  · unfold frontsF
    rw [List.map_map]; rfl
end
end Z
set_option maxRecDepth 100000
set_option maxHeartbeats 4000000
/-! F3: webs.py: what is a web, of whole and valid data. Own work. -/
namespace Z
open PySem PySem.Spec L2
local macro_rules | `(tactic| walk_at "ev") => `(tactic| repeat' (first
  | with_reducible apply eva_nil
  | ((with_reducible apply ev_var); rfl)
  | with_reducible apply ev_int
  | with_reducible apply ev_str
  | with_reducible apply ev_bl
  | with_reducible apply ev_non
  | ((with_reducible show PySem.W.Frag); assumption)
  | with_reducible apply eva_cons
  | with_reducible apply ev_cb
  | with_reducible apply ev_op
  | with_reducible apply cbe_min2
  | with_reducible apply cbe_max2
  | with_reducible apply ope_I
  | with_reducible apply ope_B
  | with_reducible apply ope_isN
  | with_reducible apply ope_notN
  | with_reducible apply ope_eqi
  | with_reducible apply ope_nei
  | with_reducible apply ope_eqs
  | with_reducible apply ope_nes
  | with_reducible apply evt_test
  | with_reducible apply rtn_ret))
section
variable {P : Program} {w : World} {K : PySem.W.Frag} {mg : Str → Option Value} {base : Heap}
variable {G G1 G2 : Gm} {M M1 M2 : OM}
theorem ope_sign {c : Nat} {z : Str} : OpE M (fun x y H Q => ∃ (c : Nat) (z : Str), x = .str ⟨#[c]⟩ ∧ y = .str z ∧ Q (.bl (decide (c ∈ z.cps.toList))) H) (Dd K (.str ⟨#[c]⟩)) (Dd K (.str z)) (Dd K (.bool (decide (c ∈ z.cps.toList)))) M := fun x y H Q w h1 h2 k =>
  ⟨c, z, dd_str h1, dd_str h2, k _ H (.refl w) (dd (.bl _))⟩
theorem evi_strL {te : TE} {x : Str} (h : Evl G M te (Dd K (.str x)) M1) : EvI G M (iStr te) x.cps.toList.length (at_ (x.cps.toList.map fun c => Dd K (.str ⟨#[c]⟩))) M1 := by
  rw [Array.length_toList]
  refine (evi_str h).imp fun i hi v F q => ?_
  have e : x.cps.toList[i]? = some (x.cps.getD i 0) := by
    rw [Array.getElem?_toList, Array.getD_eq_getD_getElem?, Array.getElem?_eq_getElem hi]; rfl
  rw [at_map e]
  exact q
def whole (n l : Int) (m : Option Int) : Bool := decide (l ≤ n) && (m.isNone || decide (n ≤ m.getD 0))
inductive RWhole (K : PySem.W.Frag) : Ctr
  | mk {M : OM} {n l : Int} {m : Option Int} : RWhole K M [Dd K (.int n), Dd K (.int l), Dd K (optD m)] (Dd K (.bool (whole n l m))) M
theorem kb_ii : kitB "int" "int" = some true := by decide +kernel
theorem kb_ib : kitB "int" "bool" = some false := by decide +kernel
theorem kb_ss : kitB "str" "str" = some true := by decide +kernel
theorem kb_ll : kitB "list" "list" = some true := by decide +kernel
theorem kb_lt : kitB "list" "tuple" = some false := by decide +kernel
theorem kb_tl : kitB "tuple" "list" = some false := by decide +kernel
theorem kb_tt : kitB "tuple" "tuple" = some true := by decide +kernel
theorem kb_il : kitB "int" "list" = some false := by decide +kernel
theorem kb_sl : kitB "str" "list" = some false := by decide +kernel
theorem evt_isi {d : PyData} {n : String} {b : Bool} {t : TE} (h : Evl G M t (Dd K d) M) (k : kitB (tyD d) n = some b) : EvT G M (tB (tCB (rIsi K) (tCons t (tCons (tC (.ty n)) tNil)))) b M :=
  evt_B (K := K) (ev_cb (eva_cons h (eva_cons ev_val eva_nil)) (cbe_isi k))
theorem ev_isi {d : PyData} {n : String} {b : Bool} {t : TE} (h : Evl G M t (Dd K d) M) (k : kitB (tyD d) n = some b) : Evl G M (tCB (rIsi K) (tCons t (tCons (tC (.ty n)) tNil))) (Dd K (.bool b)) M :=
  ev_cb (eva_cons h (eva_cons ev_val eva_nil)) (cbe_isi k)
abbrev n_is_whole : List Str := ["thing", "least", "most"]
theorem sc_is_whole : FnScope n_is_whole ["thing", "least", "most"] (defScope (top 27)) := ⟨rfl, rfl, rfl, by decide +kernel, rfl, by decide +kernel, by decide +kernel⟩
theorem fo_is_whole (T : Tx K mg base) : ∃ fd, FunD K "is_whole" "is_whole" (defArgs (top 27)) (defBody (top 27)) (defScope (top 27)) [.non] [] (He.ga K "is_whole") fd ∧ FnOk P w K mg base CX0 1 (He.ga K "is_whole") fd ["thing", "least", "most"] (SpR (RWhole K)) := by
  obtain ⟨fd, F⟩ := T.fd_is_whole
  have nd := sc_is_whole.nd
  let nm := n_is_whole
  let scp := defScope (top 27)
  refine ⟨fd, F, (fn_ok (k := 0) F sc_is_whole (sp_len fun _ _ _ _ h => by cases h <;> rfl) fun cdv A outer s H E hr => ?_)⟩
  have hu := hu_of hr
  refine ⟨_, (pss_cons (ps_if (PW.pt (pw_or (pt_not (pt_val (pe_callB (call_isiK (K := K) rfl) (by rfl) T.f_isinstance (by decide +kernel) (pa_cons (pv 0) (pa_cons (pe_bltn (v := .ty "int") (u := .type "int") (by rfl) T.f_int (by decide +kernel) rfl) pa_nil))))) (pw_or1 (pt_val (pe_callB (call_isiK (K := K) rfl) (by rfl) T.f_isinstance (by decide +kernel) (pa_cons (pv 0) (pa_cons (pe_bltn (v := .ty "bool") (u := .type "bool") (by rfl) T.f_bool (by decide +kernel) rfl) pa_nil))))))) (pss_one (ps_ret pe_bl)) pss_nil)
    (pss_one (ps_ret (pe_and (pe_cmpR op_ge (pv 0) (pv 1) (nomark _)) (pe_one (pe_or (pe_cmpR op_isN (pv 2) pe_non (nomark _)) (pe_one (pe_cmpR op_le (pv 0) (pv 2) (nomark _))))))))), fun vs Q h => end_rtn h ?_⟩
  try dsimp only [cx_K]
  rintro _ _ _ _ ⟨⟩
  rename_i n l m
  refine rtn_ifs (b := false) (EvT.c (evt_or' (evt_not (evt_isi (d := .int n) (by walk_at "ev") kb_ii)) (evt_isi (d := .int n) (by walk_at "ev") kb_ib))) (fun e => by cases e) fun _ => rtn_ret ?_
  refine ev_and' (by walk_at "ev") ?_
  cases m with
  | none => exact Evl.c (ev_or (K := K) (b := isNon (optD none)) (c := true) (by walk_at "ev") (fun e => by cases e) fun _ => ⟨rfl, rfl⟩)
  | some m => exact Evl.c (ev_or' (K := K) (b := isNon (optD (some m))) (by walk_at "ev") (by walk_at "ev"))
theorem ok_is_whole (T : Tx K mg base) : Cal P w K mg base 1 "is_whole" (SpR (RWhole K)) [] := by
  obtain ⟨fd, F, ok⟩ := fo_is_whole (P := P) (w := w) T
  obtain ⟨ds, h1, h2⟩ := F.binds1 (ps := ["thing", "least", "most"]) 3 1 (by simp) rfl (fun _ _ _ _ _ _ _ us its hu hi => match us, its, hu, hi with | [_, _, _], [_], _, _ => ⟨_, rfl, rfl⟩)
  exact ⟨_, fd, _, ds, ok, T.g_is_whole, F.kp, h2, h1⟩
theorem ok_is_whole2 (T : Tx K mg base) : Cal P w K mg base 1 "is_whole" (SpR (RWhole K)) [.non] := by
  obtain ⟨fd, F, ok⟩ := fo_is_whole (P := P) (w := w) T
  obtain ⟨ds, h1, h2⟩ := F.binds1 (ps := ["thing", "least", "most"]) 2 0 (by simp) rfl (fun _ _ _ _ _ _ _ us its hu hi => match us, its, hu, hi with | [_, _], [_], _, _ => ⟨_, rfl, rfl⟩)
  exact ⟨_, fd, _, ds, ok, T.g_is_whole, F.kp, h2, h1⟩
def letters : Str := "abcdefghijklmnopqrstuvwxyz"
def okName (x : Str) : Prop := 1 ≤ x.length ∧ x.length ≤ 8 ∧ ∀ c ∈ x.cps.toList, c ∈ letters.cps.toList
inductive RName (K : PySem.W.Frag) : Ctr
  | mk {M : OM} {x : Str} (h : okName x) : RName K M [Dd K (.str x)] (Dd K (.bool true)) M
theorem all_yes {α : Type} {f : α → Bool} {l : List α} (h : ∀ a ∈ l, f a = true) : (l.map f).all id = true := by
  rw [List.all_map, List.all_eq_true]
  exact h
abbrev n_is_name : List Str := ["thing", "sign"]
theorem sc_is_name : FnScope n_is_name ["thing"] (defScope (top 28)) := ⟨rfl, rfl, rfl, by decide +kernel, rfl, by decide +kernel, by decide +kernel⟩
theorem ok_is_name (T : Tx K mg base) : Cal P w K mg base 1 "is_name" (SpR (RName K)) [] := by
  obtain ⟨fd, F⟩ := T.fd_is_name
  have nd := sc_is_name.nd
  let nm := n_is_name
  let scp := defScope (top 28)
  refine cal_mk T.g_is_name F (F.bindsN fun _ _ _ _ _ _ us hl => match us, hl with | [_], _ => rfl) (fn_ok (k := 0) F sc_is_name (sp_len fun _ _ _ _ h => by cases h <;> rfl) fun cdv A outer s H E hr => ?_)
  have hu := hu_of hr
  refine ⟨_, (pss_one (ps_ret (pe_and (pe_callB (call_isiK (K := K) rfl) (by rfl) T.f_isinstance (by decide +kernel) (pa_cons (pv 0) (pa_cons (pe_bltn (v := .ty "str") (u := .type "str") (by rfl) T.f_str (by decide +kernel) rfl) pa_nil))) (pe_and (pe_chain op_le op_le pe_int (pe_callB (call_lenK (K := K) rfl) (by rfl) T.f_len (by decide +kernel) (pa_cons (pv 0) pa_nil)) (pe_gv rfl T.i_MOST_LETTERS)) (pe_one (pe_callB (cr_all rfl) (by rfl) T.f_all (by decide +kernel) (pa_cons (pe_lc (own := [("sign", 1)]) (by rfl) nd (pi_str (pv 0)) (blkOk_by (own := [("sign", 1)]) (N := nm) (sc := scp) (by decide +kernel)) (fun _ _ _ _ _ => (pg_name (i := 1) nd rfl (by first | exact Or.inl rfl | exact Or.inr rfl))) (fun _ _ _ _ _ => pts_nil) (fun _ _ _ _ _ => (pe_cmpR op_in_sign (pv 1) (pe_gv rfl T.s_LETTERS) (by first | exact nomark _ | rfl)))) pa_nil))))))), fun vs Q h => end_rtn h ?_⟩
  try dsimp only [cx_K]
  rintro _ _ _ _ ⟨h⟩
  rename_i x
  obtain ⟨h1, h2, h3⟩ := h
  have hz : x.length ≤ sizeLine := Nat.le_trans h2 (by decide)
  refine rtn_ret (Evl.c (ev_and' (ev_isi (d := .str x) (by walk_at "ev") kb_ss) (ev_and' (ev_chain (P1 := Dd K (.int 1)) (P2 := Dd K (.int (x.length : Nat))) (P3 := Dd K (.int 8)) (by walk_at "ev") (ev_cb (by walk_at "ev") (cbe_lenS hz)) ope_B (by walk_at "ev") ope_B)
    (ev_cb (ps := [Dd K (.list ((x.cps.toList.map fun c => decide (c ∈ letters.cps.toList)).map .bool))]) (eva_cons (Evl.c (ev_lcD (K := K) x.cps.toList (fun c => Dd K (.str ⟨#[c]⟩)) (fun c => .bool (decide (c ∈ letters.cps.toList))) (fun _ => true) (evi_strL (by walk_at "ev")) (by rw [Array.length_toList]; exact hz) fun c _ D e hD => turn_all (evgw_name (by decide)) (ev_op (by walk_at "ev") (ev_str (i := letters)) ope_sign)) ?_) eva_nil) cbe_all))) ?_)
  · rw [List.filter_eq_self.mpr (fun _ _ => rfl), List.map_map]; rfl
  · have e1 : decide ((1 : Int) ≤ (x.length : Nat)) = true := decide_eq_true (by omega)
    have e2 : decide (((x.length : Nat) : Int) ≤ 8) = true := decide_eq_true (by omega)
    have e3 := all_yes (f := fun c => decide (c ∈ letters.cps.toList)) (l := x.cps.toList) fun c hc => by simpa using h3 c hc
    rw [e1, e2, e3]; rfl
/-- a raw tuple of these values -/
def Kr (vs : List V) : Pr := fun v F => ∃ b, v = .ref b ∧ F b = some (.tup vs)
theorem eqv_of {F : Hp} : ∀ {ws vs : List V}, Stas (ws.map Eqv) vs F → vs = ws
  | [], _, h => by cases h; rfl
  | x :: ws, _, h => by
    cases h with
    | cons a t => rw [eqv_of t, show _ = x from a.here]
theorem ev_tupR {t : TA} (ws : List V) (h : EvA G M t (ws.map Eqv) M1) (hl : ws.length ≤ sizeLine) : Evl G M (tTup t) (Kr ws) M1 := fun σ H Q a k => h σ H _ a fun vs H' s q => by
  have e := eqv_of q
  subst e
  refine ⟨hl, fun p hp => ?_⟩
  obtain ⟨s2, e⟩ := Stp.alloc s.own hp (.tup vs)
  exact k _ _ (s.trans s2) fun F s3 => ⟨p, rfl, s3 _ _ e⟩
theorem cbe_isiT {d : PyData} {n1 n2 : String} {b1 b2 : Bool} (h1 : kitB (tyD d) n1 = some b1) (h2 : kitB (tyD d) n2 = some b2) : CbE M (rIsiT K) [Dd K d, Kr [.ty n1, .ty n2]] (Dd K (.bool (b1 || b2))) M := fun vs H Q w q k => by
  obtain ⟨x, y, rfl, a, c⟩ := stas2 q
  obtain ⟨p, rfl, e⟩ := c.here
  refine ⟨x, p, _, _, [.type n1, .type n2], b1 || b2, rfl, Frz_le _ _ e, .cons (.ty _) (.cons (.ty _) .nil), tyx_of Frz_le a.here, ?_, k _ H (.refl w) (dd (.bl _))⟩
  refine kitAny_cons (kit_ty h1) (fun e1 => ?_) (fun e1 => by rw [e1]; rfl)
  refine kitAny_cons (kit_ty h2) (fun e2 => ?_) (fun e2 => by rw [e1, e2]; rfl)
  rw [e1, e2]; exact kitAny_nil
inductive RListed (K : PySem.W.Frag) : Ctr
  | lst {M : OM} {ds : List PyData} : RListed K M [Dd K (.list ds)] (Dd K (.bool true)) M
  | tup {M : OM} {ds : List PyData} : RListed K M [Dd K (.tuple ds)] (Dd K (.bool true)) M
abbrev n_is_listed : List Str := ["thing"]
theorem sc_is_listed : FnScope n_is_listed ["thing"] (defScope (top 29)) := ⟨rfl, rfl, rfl, by decide +kernel, rfl, by decide +kernel, by decide +kernel⟩
theorem ok_is_listed (T : Tx K mg base) : Cal P w K mg base 1 "is_listed" (SpR (RListed K)) [] := by
  obtain ⟨fd, F⟩ := T.fd_is_listed
  have nd := sc_is_listed.nd
  let nm := n_is_listed
  let scp := defScope (top 29)
  refine cal_mk T.g_is_listed F (F.bindsN fun _ _ _ _ _ _ us hl => match us, hl with | [_], _ => rfl) (fn_ok (k := 0) F sc_is_listed (sp_len fun _ _ _ _ h => by cases h <;> rfl) fun cdv A outer s H E hr => ?_)
  have hu := hu_of hr
  refine ⟨_, (pss_one (ps_ret (pe_callB call_isiT (by rfl) T.f_isinstance (by decide +kernel) (pa_cons (pv 0) (pa_cons (pe_tup (pa_cons (pe_bltn (v := .ty "list") (u := .type "list") (by rfl) T.f_list (by decide +kernel) rfl) (pa_cons (pe_bltn (v := .ty "tuple") (u := .type "tuple") (by rfl) T.f_tuple (by decide +kernel) rfl) pa_nil))) pa_nil))))), fun vs Q h => end_rtn h ?_⟩
  try dsimp only [cx_K]
  rintro _ _ _ _ ⟨⟩
  · rename_i ds
    exact rtn_ret (ev_cb (eva_cons (by walk_at "ev") (eva_cons (ev_tupR [.ty "list", .ty "tuple"] (eva_cons ev_val (eva_cons ev_val eva_nil)) (by decide)) eva_nil)) (cbe_isiT (d := .list ds) kb_ll kb_lt))
  · rename_i ds
    exact rtn_ret (ev_cb (eva_cons (by walk_at "ev") (eva_cons (ev_tupR [.ty "list", .ty "tuple"] (eva_cons ev_val (eva_cons ev_val eva_nil)) (by decide)) eva_nil)) (cbe_isiT (d := .tuple ds) kb_tl kb_tt))
theorem ev_all {α : Type} {tl te : TE} {g : TG} {vs : List Nat} (as : List α) (p : α → PyData) (hl : Evl G M tl (Dd K (.list (as.map p))) M) (hz : as.length ≤ sizeLine)
    (turn : ∀ a, a ∈ as → ∀ D c, M D = none → ∃ G1, EvGw (wipeG G vs) (M.set D (.lst c)) (Dd K (p a)) g vs G1 (M.set D (.lst c)) ∧ Evl G1 (M.set D (.lst c)) te (Dd K (.bool true)) (M.set D (.lst c))) :
    Evl G M (tCB (rAll K) (tCons (tLc (iList K tl) g tYes te vs) tNil)) (Dd K (.bool true)) M := by
  have h := evi_listD hl
  rw [List.length_map, List.map_map] at h
  have h2 := ev_lcD (K := K) (te := te) (g := g) (tt := tYes) (vs := vs) as (Dd K ∘ p) (fun _ => .bool true) (fun _ => true) h hz fun a ha D c hD => by
    obtain ⟨G1, h1, h2⟩ := turn a ha D c hD
    exact turn_all h1 h2
  refine Evl.c (ev_cb (ps := [Dd K (.list ((as.map fun _ => true).map .bool))]) (eva_cons (Evl.c h2 ?_) eva_nil) cbe_all) ?_
  · rw [List.filter_eq_self.mpr (fun _ _ => rfl), List.map_map]; rfl
  · rw [all_yes (fun _ _ => rfl)]
theorem ev_lcL {α : Type} {tl te : TE} {tt : TT} {g : TG} {vs : List Nat} (as : List α) (p q : α → PyData) (f : α → Bool) (hl : Evl G M tl (Dd K (.list (as.map p))) M) (hz : as.length ≤ sizeLine)
    (turn : ∀ a, a ∈ as → ∀ D c, M D = none → Turn1 (wipeG G vs) (M.set D (.lst c)) (Dd K (p a)) g tt te vs (f a) (Dd K (q a)) (M.set D (.lst c))) : Evl G M (tLc (iList K tl) g tt te vs) (Dd K (.list ((as.filter f).map q))) M := by
  have h := evi_listD hl
  rw [List.length_map, List.map_map] at h
  exact ev_lcD (K := K) (te := te) (g := g) (tt := tt) (vs := vs) as (Dd K ∘ p) q f h hz turn
theorem ev_lcM {α : Type} {tl te : TE} {g : TG} {vs : List Nat} (as : List α) (p q : α → PyData) (hl : Evl G M tl (Dd K (.list (as.map p))) M) (hz : as.length ≤ sizeLine)
    (turn : ∀ a, a ∈ as → ∀ D c, M D = none → ∃ G1, EvGw (wipeG G vs) (M.set D (.lst c)) (Dd K (p a)) g vs G1 (M.set D (.lst c)) ∧ Evl G1 (M.set D (.lst c)) te (Dd K (q a)) (M.set D (.lst c))) : Evl G M (tLc (iList K tl) g tYes te vs) (Dd K (.list (as.map q))) M := by
  refine Evl.c (ev_lcL as p q (fun _ => true) hl hz fun a ha D c hD => ?_) ?_
  · obtain ⟨G1, h1, h2⟩ := turn a ha D c hD
    exact turn_all h1 h2
  · rw [List.filter_eq_self.mpr (fun _ _ => rfl)]
theorem evi_upto {wi : TI} {n : Nat} {p : Nat → Pr} (h : EvI G M wi n p M1) : EvI G M wi (List.range n).length (at_ ((List.range n).map p)) M1 := by
  rw [List.length_range]
  refine h.imp fun i hi v F q => ?_
  rw [at_map (a := i) (by rw [List.getElem?_range hi])]
  exact q
theorem cutD_from1 {ds : List PyData} : cutD ds (some 1) none = ds.drop 1 := by
  unfold cutD
  have e1 : HT.sIx ds.length 0 (some 1) = min 1 ds.length := by
    rw [show (1 : Int) = ((1 : Nat) : Int) from rfl, HT.sIx_nat]
  rw [e1, HT.sIx_none]
  rcases Nat.lt_or_ge 0 ds.length with h | h
  · rw [Nat.min_eq_left h]; exact List.take_of_length_le (by rw [List.length_drop]; exact Nat.le_refl _)
  · have : ds = [] := List.eq_nil_of_length_eq_zero (by omega)
    subst this; rfl
/-- d stands before e -/
structure Bef (d e : PyData) : Prop where
  al : PySem.W.alike d e = true
  lt : PySem.W.dataLt d e = true
  nn : d ≠ .none
  dp : min d.depth e.depth ≤ 60
inductive RRising (K : PySem.W.Frag) : Ctr
  | mk {M : OM} {ds : List PyData} (h : ∀ i d e, ds[i]? = some d → ds[i + 1]? = some e → Bef d e) (hz : ds.length ≤ sizeLine) : RRising K M [Dd K (.list ds)] (Dd K (.bool true)) M
abbrev n_is_rising : List Str := ["things", "one", "other"]
theorem sc_is_rising : FnScope n_is_rising ["things"] (defScope (top 30)) := ⟨rfl, rfl, rfl, by decide +kernel, rfl, by decide +kernel, by decide +kernel⟩
theorem ok_is_rising (T : Tx K mg base) : Cal P w K mg base 1 "is_rising" (SpR (RRising K)) [] := by
  obtain ⟨fd, F⟩ := T.fd_is_rising
  have nd := sc_is_rising.nd
  let nm := n_is_rising
  let scp := defScope (top 30)
  refine cal_mk T.g_is_rising F (F.bindsN fun _ _ _ _ _ _ us hl => match us, hl with | [_], _ => rfl) (fn_ok (k := 0) F sc_is_rising (sp_len fun _ _ _ _ h => by cases h <;> rfl) fun cdv A outer s H E hr => ?_)
  have hu := hu_of hr
  refine ⟨_, (pss_one (ps_ret (pe_callB (cr_all rfl) (by rfl) T.f_all (by decide +kernel) (pa_cons (pe_lc (own := [("one", 1), ("other", 2)]) (by rfl) nd (pi_zip (by rfl) T.f_zip (pa_cons (pv 0) (pa_cons (pe_slice (sl_listK (K := K) rfl) (pv 0) (po_some pe_int) po_none) pa_nil))) (blkOk_by (own := [("one", 1), ("other", 2)]) (N := nm) (sc := scp) (by decide +kernel)) (fun _ _ _ _ _ => (pg_tupK (K := K) (n := 2) rfl (by rfl) (pgs_cons (pg_name (i := 1) nd rfl (by first | exact Or.inl rfl | exact Or.inr rfl)) (pgs_cons (pg_name (i := 2) nd rfl (by first | exact Or.inl rfl | exact Or.inr rfl)) pgs_nil)))) (fun _ _ _ _ _ => pts_nil) (fun _ _ _ _ _ => (pe_cmpR (op_ltK (K := K) rfl hr.units) (pv 1) (pv 2) (nomark _)))) pa_nil)))), fun vs Q h => end_rtn h ?_⟩
  try dsimp only [cx_K]
  rintro _ _ _ _ ⟨h, hz⟩
  rename_i M ds
  have cut : Evl (gam n_is_rising [Dd K (.list ds)]) M (tSl (rSlL K) (tVar 0) (tPart (tC (.int 1))) tNoPart) (Ls K ((ds.drop 1).map (Dd K))) M := by
    have := ev_slL (K := K) (ls_exp (G := gam n_is_rising [Dd K (.list ds)]) (M := M) (t := tVar 0) (by walk_at "ev")) (evo_some (K := K) (i := 1) (by walk_at "ev")) evo_no
    rwa [cutP_D, cutD_from1] at this
  have hzip := evi_upto (evi_zip (K := K) (G := gam n_is_rising [Dd K (.list ds)]) (M := M) (ps := ds.map (Dd K)) (qs := (ds.drop 1).map (Dd K)) (eva_cons (t := tVar 0) (ls_exp (by walk_at "ev")) (eva_cons cut eva_nil)))
  refine rtn_ret (Evl.c (ev_cb (ps := [Dd K (.list (((List.range (min (ds.map (Dd K)).length ((ds.drop 1).map (Dd K)).length)).map fun _ => true).map .bool))]) (eva_cons (Evl.c (ev_lcD (K := K) _ _ (fun _ => .bool true) (fun _ => true) hzip (by rw [List.length_range, List.length_map]; omega) fun i hi D c hD => ?_) ?_) eva_nil) cbe_all) ?_)
  · rw [List.mem_range, List.length_map, List.length_map, List.length_drop] at hi
    have g1 : ds[i]? = some ds[i] := List.getElem?_eq_getElem (by omega)
    have g2 : ds[i + 1]? = some ds[i + 1] := List.getElem?_eq_getElem (by omega)
    have a1 : at_ (ds.map (Dd K)) i = Dd K ds[i] := at_map g1
    have a2 : at_ ((ds.drop 1).map (Dd K)) i = Dd K ds[i + 1] := at_map (by rw [List.getElem?_drop, Nat.add_comm]; exact g2)
    have b := h i _ _ g1 g2
    rw [a1, a2]
    exact turn_all (evgw_tup (evgsw_cons (evgw_name (by decide)) (evgsw_cons (evgw_name (by decide)) evgsw_nil)) rfl) (Evl.c (ev_op (by walk_at "ev") (by walk_at "ev") (ope_ltP b.al b.nn b.dp)) (by rw [b.lt]))
  · rw [List.filter_eq_self.mpr (fun _ _ => rfl), List.map_map]; rfl
  · rw [all_yes (fun _ _ => rfl)]
end
end Z
set_option maxRecDepth 100000
set_option maxHeartbeats 4000000
/-! F4: webs.py: a valid web, starters, places. Own work. -/
namespace Z
open PySem PySem.Spec L2
local macro_rules | `(tactic| walk_at "ev") => `(tactic| repeat' (first
  | with_reducible apply eva_nil
  | ((with_reducible apply ev_var); rfl)
  | with_reducible apply ev_int
  | with_reducible apply ev_str
  | with_reducible apply ev_bl
  | with_reducible apply ev_non
  | ((with_reducible show PySem.W.Frag); assumption)
  | with_reducible apply eva_cons
  | with_reducible apply ev_cb
  | with_reducible apply ev_op
  | with_reducible apply cbe_min2
  | with_reducible apply cbe_max2
  | with_reducible apply ope_I
  | with_reducible apply ope_B
  | with_reducible apply ope_isN
  | with_reducible apply ope_notN
  | with_reducible apply ope_eqi
  | with_reducible apply ope_nei
  | with_reducible apply ope_eqs
  | with_reducible apply ope_nes
  | with_reducible apply evt_test
  | with_reducible apply rtn_ret))
abbrev Way := Str × Str × Int
structure Web where
  folk : List Str
  ways : List Way
def sl (a b : Str) : Bool := PySem.W.dataLt (.str a) (.str b)
abbrev prS (a b : Str) : PyData := .tuple [.str a, .str b]
def pairLt (v w : Way) : Bool := PySem.W.dataLt (prS v.1 v.2.1) (prS w.1 w.2.1)
abbrev webD (W : Web) : PyData := .tuple [.list (W.folk.map .str), .list (W.ways.map wayD)]
structure OkWay (folk : List Str) (w : Way) : Prop where
  one : w.1 ∈ folk
  two : w.2.1 ∈ folk
  lt : sl w.1 w.2.1 = true
  pos : 1 ≤ w.2.2
  top : w.2.2 ≤ 1000000000000
structure OkWeb (W : Web) : Prop where
  names : ∀ x ∈ W.folk, okName x
  f0 : W.folk ≠ []
  f8 : W.folk.length ≤ 8
  rise : W.folk.Pairwise fun a b => sl a b = true
  ways : ∀ w ∈ W.ways, OkWay W.folk w
  wr : W.ways.Pairwise fun v w => pairLt v w = true
  many : W.ways.length ≤ 64
theorem bef_str {a b : Str} (h : sl a b = true) : Bef (.str a) (.str b) := ⟨rfl, h, (by intro z; cases z), by simp [PyData.depth]⟩
theorem bef_pr {v w : Way} (h : pairLt v w = true) : Bef (prS v.1 v.2.1) (prS w.1 w.2.1) := ⟨rfl, h, (by intro z; cases z), by simp [PyData.depth, PyData.depthAll]⟩
theorem bef_list {α : Type} {f : α → PyData} {r : α → α → Bool} {l : List α} (h : l.Pairwise fun a b => r a b = true) (hb : ∀ a b, r a b = true → Bef (f a) (f b)) : ∀ i d e, (l.map f)[i]? = some d → (l.map f)[i + 1]? = some e → Bef d e := by
  intro i d e h1 h2
  rw [List.getElem?_map] at h1 h2
  obtain ⟨a, ha, rfl⟩ := Option.map_eq_some_iff.mp h1
  obtain ⟨b, hb2, rfl⟩ := Option.map_eq_some_iff.mp h2
  obtain ⟨l1, rfl⟩ := List.getElem?_eq_some_iff.mp ha
  obtain ⟨l2, rfl⟩ := List.getElem?_eq_some_iff.mp hb2
  exact hb _ _ (List.pairwise_iff_getElem.mp h i (i + 1) l1 l2 (by omega))
section
variable {P : Program} {w : World} {K : PySem.W.Frag} {mg : Str → Option Value} {base : Heap}
variable {G G1 G2 : Gm} {M M1 M2 : OM}
structure OkFolk (folk : List Str) : Prop where
  names : ∀ x ∈ folk, okName x
  f0 : folk ≠ []
  f8 : folk.length ≤ 8
  rise : folk.Pairwise fun a b => sl a b = true
theorem OkWeb.fk {W : Web} (h : OkWeb W) : OkFolk W.folk := ⟨h.names, h.f0, h.f8, h.rise⟩
inductive RFolk (K : PySem.W.Frag) : Ctr
  | mk {M : OM} {folk : List Str} (h : OkFolk folk) : RFolk K M [Dd K (.list (folk.map .str))] (Dd K (.bool true)) M
theorem small8 {n : Nat} (h : n ≤ 64) : n ≤ sizeLine := Nat.le_trans h (by decide)
abbrev n_is_folk : List Str := ["thing", "name"]
theorem sc_is_folk : FnScope n_is_folk ["thing"] (defScope (top 31)) := ⟨rfl, rfl, rfl, by decide +kernel, rfl, by decide +kernel, by decide +kernel⟩
theorem ok_is_folk (T : Tx K mg base) : Cal P w K mg base 2 "is_folk" (SpR (RFolk K)) [] := by
  obtain ⟨fd, F⟩ := T.fd_is_folk
  have nd := sc_is_folk.nd
  let nm := n_is_folk
  let scp := defScope (top 31)
  have C_is_listed : Cal P w K mg base 1 "is_listed" (SpR (RListed K)) [] := ok_is_listed T
  have C_is_name : Cal P w K mg base 1 "is_name" (SpR (RName K)) [] := ok_is_name T
  have C_is_rising : Cal P w K mg base 1 "is_rising" (SpR (RRising K)) [] := ok_is_rising T
  refine cal_mk T.g_is_folk F (F.bindsN fun _ _ _ _ _ _ us hl => match us, hl with | [_], _ => rfl) (fn_ok (k := 1) F sc_is_folk (sp_len fun _ _ _ _ h => by cases h <;> rfl) fun cdv A outer s H E hr => ?_)
  have hu := hu_of hr
  refine ⟨_, (pss_cons (ps_if (PW.pt (pw_or (pt_not (pt_val (pe_c C_is_listed hr (by decide) (by rfl) (pa_cons (pv 0) pa_nil)))) (pw_or (pt_not (pt_chain op_le op_le pe_int (pe_callB (call_lenK (K := K) rfl) (by rfl) T.f_len (by decide +kernel) (pa_cons (pv 0) pa_nil)) (pe_gv rfl T.i_MOST_FOLK))) (pw_or1 (pt_not (pt_val (pe_callB (cr_all rfl) (by rfl) T.f_all (by decide +kernel) (pa_cons (pe_lc (own := [("name", 1)]) (by rfl) nd (pi_listK (K := K) rfl (pv 0)) (blkOk_by (own := [("name", 1)]) (N := nm) (sc := scp) (by decide +kernel)) (fun _ _ _ _ _ => (pg_name (i := 1) nd rfl (by first | exact Or.inl rfl | exact Or.inr rfl))) (fun _ _ _ _ _ => pts_nil) (fun _ _ _ _ _ => (pe_c C_is_name hr (by decide) (by rfl) (pa_cons (pv 1) pa_nil)))) pa_nil)))))))) (pss_one (ps_ret pe_bl)) pss_nil)
    (pss_one (ps_ret (pe_c C_is_rising hr (by decide) (by rfl) (pa_cons (pv 0) pa_nil))))), fun vs Q h => end_rtn h ?_⟩
  try dsimp only [cx_K]
  rintro _ _ _ _ ⟨h⟩
  rename_i M folk
  have n0 : 0 < folk.length := List.length_pos_iff.mpr h.f0
  have n8 := h.f8
  refine rtn_ifs (b := false) (EvT.c (evt_or' (evt_not (evt_B (K := K) (ev_call (by walk_at "ev") RListed.lst))) (evt_or' (evt_not (evt_B (K := K) (ev_chain (P1 := Dd K (.int 1)) (P2 := Dd K (.int ((folk.map PyData.str).length : Nat))) (P3 := Dd K (.int 60)) (by walk_at "ev") (ev_cb (by walk_at "ev") cbe_lenLD) ope_B (by walk_at "ev") ope_B))) (evt_not (evt_B (K := K) (ev_all folk .str (by walk_at "ev") (small8 (by omega)) fun x hx D c hD => ⟨_, evgw_name (by decide), ev_call (by walk_at "ev") (.mk (h.names x hx))⟩))))) ?_) (fun e => by cases e) fun _ => ?_
  · have e1 : decide ((1 : Int) ≤ ((folk.map PyData.str).length : Nat)) = true := decide_eq_true (by rw [List.length_map]; omega)
    have e2 : decide ((((folk.map PyData.str).length : Nat) : Int) ≤ 60) = true := decide_eq_true (by rw [List.length_map]; omega)
    rw [e1, e2]; rfl
  · exact rtn_ret (ev_call (by walk_at "ev") (.mk (bef_list h.rise fun a b => bef_str) (by rw [List.length_map]; exact small8 (by omega))))
theorem ev_ixt {t : TE} {ds : List PyData} {i : Int} {d : PyData} (h : Evl G M t (Dd K (.tuple ds)) M1) (e : atI ds i = some d) : Evl G M (tOp (rIx K) t (tC (.int i))) (Dd K d) M1 := ev_op h ev_int (ope_ixTD e)
theorem ev_ixl {t : TE} {ds : List PyData} {i : Int} {d : PyData} (h : Evl G M t (Dd K (.list ds)) M1) (e : atI ds i = some d) : Evl G M (tOp (rIx K) t (tC (.int i))) (Dd K d) M1 := ev_op h ev_int (ope_ixLD e)
theorem ev_inS {t u : TE} {x : Str} {l : List Str} (h1 : Evl G M t (Dd K (.str x)) M1) (h2 : Evl G M1 u (Dd K (.list (l.map .str))) M2) : Evl G M (tOp (rInP K false) t u) (Dd K (.bool (decide (x ∈ l)))) M2 := ev_op h1 h2 ope_ins
theorem ev_ltS {t u : TE} {x y : Str} (h1 : Evl G M t (Dd K (.str x)) M1) (h2 : Evl G M1 u (Dd K (.str y)) M2) : Evl G M (tOp (rLtP K) t u) (Dd K (.bool (sl x y))) M2 := ev_op h1 h2 (ope_ltP rfl (by intro z; cases z) (by simp [PyData.depth]))
inductive RIsWay (K : PySem.W.Frag) : Ctr
  | mk {M : OM} {folk : List Str} {w : Way} (h : OkFolk folk) (hw : OkWay folk w) : RIsWay K M [Dd K (wayD w), Dd K (.list (folk.map .str))] (Dd K (.bool true)) M
abbrev n_is_way : List Str := ["thing", "folk"]
theorem sc_is_way : FnScope n_is_way ["thing", "folk"] (defScope (top 32)) := ⟨rfl, rfl, rfl, by decide +kernel, rfl, by decide +kernel, by decide +kernel⟩
theorem ok_is_way (T : Tx K mg base) : Cal P w K mg base 2 "is_way" (SpR (RIsWay K)) [] := by
  obtain ⟨fd, F⟩ := T.fd_is_way
  have nd := sc_is_way.nd
  let nm := n_is_way
  let scp := defScope (top 32)
  have C_is_listed : Cal P w K mg base 1 "is_listed" (SpR (RListed K)) [] := ok_is_listed T
  have C_is_name : Cal P w K mg base 1 "is_name" (SpR (RName K)) [] := ok_is_name T
  have C_is_whole : Cal P w K mg base 1 "is_whole" (SpR (RWhole K)) [] := ok_is_whole T
  refine cal_mk T.g_is_way F (F.bindsN fun _ _ _ _ _ _ us hl => match us, hl with | [_, _], _ => rfl) (fn_ok (k := 1) F sc_is_way (sp_len fun _ _ _ _ h => by cases h <;> rfl) fun cdv A outer s H E hr => ?_)
  have hu := hu_of hr
  refine ⟨_, (pss_cons (ps_if (PW.pt (pw_or (pt_not (pt_val (pe_c C_is_listed hr (by decide) (by rfl) (pa_cons (pv 0) pa_nil)))) (pw_or (pt_cmpR (op_neK (K := K) rfl hr.units) (pe_callB (call_lenK (K := K) rfl) (by rfl) T.f_len (by decide +kernel) (pa_cons (pv 0) pa_nil)) pe_int (nomark _)) (pw_or (pt_not (pt_val (pe_c C_is_name hr (by decide) (by rfl) (pa_cons (pe_ix (ix_K (K := K) rfl) (pv 0) pe_int (fun _ _ => rfl)) pa_nil)))) (pw_or1 (pt_not (pt_val (pe_c C_is_name hr (by decide) (by rfl) (pa_cons (pe_ix (ix_K (K := K) rfl) (pv 0) pe_int (fun _ _ => rfl)) pa_nil))))))))) (pss_one (ps_ret pe_bl)) pss_nil)
    (pss_one (ps_ret (pe_and (pe_cmpR (op_inK (K := K) rfl hr.units) (pe_ix (ix_K (K := K) rfl) (pv 0) pe_int (fun _ _ => rfl)) (pv 1) (by first | exact nomark _ | rfl)) (pe_and (pe_cmpR (op_inK (K := K) rfl hr.units) (pe_ix (ix_K (K := K) rfl) (pv 0) pe_int (fun _ _ => rfl)) (pv 1) (by first | exact nomark _ | rfl)) (pe_and (pe_cmpR (op_ltK (K := K) rfl hr.units) (pe_ix (ix_K (K := K) rfl) (pv 0) pe_int (fun _ _ => rfl)) (pe_ix (ix_K (K := K) rfl) (pv 0) pe_int (fun _ _ => rfl)) (nomark _)) (pe_one (pe_c C_is_whole hr (by decide) (by rfl) (pa_cons (pe_ix (ix_K (K := K) rfl) (pv 0) pe_int (fun _ _ => rfl)) (pa_cons pe_int (pa_cons (pe_gv rfl T.i_MOST_BEATS) pa_nil))))))))))), fun vs Q h => end_rtn h ?_⟩
  try dsimp only [cx_K]
  rintro _ _ _ _ ⟨h, hw⟩
  rename_i M folk w
  refine rtn_ifs (b := false) (EvT.c (evt_or' (evt_not (evt_B (K := K) (ev_call (by walk_at "ev") RListed.tup))) (evt_or' (evt_test (K := K) (ev_op (ev_cb (by walk_at "ev") cbe_lenTD) (by walk_at "ev") ope_nei)) (evt_or' (evt_not (evt_B (K := K) (ev_call (eva_cons (ev_ixt (by walk_at "ev") rfl) eva_nil) (.mk (h.names _ hw.one))))) (evt_not (evt_B (K := K) (ev_call (eva_cons (ev_ixt (by walk_at "ev") rfl) eva_nil) (.mk (h.names _ hw.two)))))))) ?_) (fun e => by cases e) fun _ => ?_
  · rfl
  · refine rtn_ret (Evl.c (ev_and' (ev_inS (ev_ixt (by walk_at "ev") rfl) (by walk_at "ev")) (ev_and' (ev_inS (ev_ixt (by walk_at "ev") rfl) (by walk_at "ev")) (ev_and' (ev_ltS (ev_ixt (by walk_at "ev") rfl) (ev_ixt (by walk_at "ev") rfl)) (ev_call (eva_cons (ev_ixt (by walk_at "ev") rfl) (eva_cons (by walk_at "ev") (eva_cons (Evl.c (ev_int (K := K) (i := 1000000000000)) (show Dd K (.int 1000000000000) = Dd K (optD (some 1000000000000)) from rfl)) eva_nil))) .mk)))) ?_)
    have e4 : whole w.2.2 1 (some 1000000000000) = true := by
      unfold whole
      rw [decide_eq_true hw.pos]
      show (false || decide (w.2.2 ≤ 1000000000000)) = true
      rw [decide_eq_true hw.top]; rfl
    rw [decide_eq_true hw.one, decide_eq_true hw.two, hw.lt, e4]; rfl
inductive RIsWeb (K : PySem.W.Frag) : Ctr
  | mk {M : OM} {W : Web} (h : OkWeb W) : RIsWeb K M [Dd K (webD W)] (Dd K (.bool true)) M
abbrev n_is_web : List Str := ["thing", "folk", "ways", "way"]
theorem sc_is_web : FnScope n_is_web ["thing"] (defScope (top 33)) := ⟨rfl, rfl, rfl, by decide +kernel, rfl, by decide +kernel, by decide +kernel⟩
theorem ok_is_web (T : Tx K mg base) : Cal P w K mg base 3 "is_web" (SpR (RIsWeb K)) [] := by
  obtain ⟨fd, F⟩ := T.fd_is_web
  have nd := sc_is_web.nd
  let nm := n_is_web
  let scp := defScope (top 33)
  have C_is_folk : Cal P w K mg base 2 "is_folk" (SpR (RFolk K)) [] := ok_is_folk T
  have C_is_listed : Cal P w K mg base 1 "is_listed" (SpR (RListed K)) [] := ok_is_listed T
  have C_is_rising : Cal P w K mg base 1 "is_rising" (SpR (RRising K)) [] := ok_is_rising T
  have C_is_way : Cal P w K mg base 2 "is_way" (SpR (RIsWay K)) [] := ok_is_way T
  refine cal_mk T.g_is_web F (F.bindsN fun _ _ _ _ _ _ us hl => match us, hl with | [_], _ => rfl) (fn_ok (k := 2) F sc_is_web (sp_len fun _ _ _ _ h => by cases h <;> rfl) fun cdv A outer s H E hr => ?_)
  have hu := hu_of hr
  refine ⟨_, (pss_cons (ps_if (PW.pt (pw_or (pt_not (pt_val (pe_c C_is_listed hr (by decide) (by rfl) (pa_cons (pv 0) pa_nil)))) (pw_or (pt_cmpR (op_neK (K := K) rfl hr.units) (pe_callB (call_lenK (K := K) rfl) (by rfl) T.f_len (by decide +kernel) (pa_cons (pv 0) pa_nil)) pe_int (nomark _)) (pw_or1 (pt_not (pt_val (pe_c C_is_folk hr (by decide) (by rfl) (pa_cons (pe_ix (ix_K (K := K) rfl) (pv 0) pe_int (fun _ _ => rfl)) pa_nil)))))))) (pss_one (ps_ret pe_bl)) pss_nil)
    (pss_cons (ps_asg (pv 0) (pg_tupK (K := K) (n := 2) rfl (by rfl) (pgs_cons (pg_name (i := 1) nd rfl (by first | exact Or.inl rfl | exact Or.inr rfl)) (pgs_cons (pg_name (i := 2) nd rfl (by first | exact Or.inl rfl | exact Or.inr rfl)) pgs_nil))))
    (pss_cons (ps_if (PW.pt (pw_or (pt_not (pt_val (pe_c C_is_listed hr (by decide) (by rfl) (pa_cons (pv 2) pa_nil)))) (pw_or (pt_cmpR op_gt (pe_callB (call_lenK (K := K) rfl) (by rfl) T.f_len (by decide +kernel) (pa_cons (pv 2) pa_nil)) (pe_gv rfl T.i_MOST_WAYS) (nomark _)) (pw_or1 (pt_not (pt_val (pe_callB (cr_all rfl) (by rfl) T.f_all (by decide +kernel) (pa_cons (pe_lc (own := [("way", 3)]) (by rfl) nd (pi_listK (K := K) rfl (pv 2)) (blkOk_by (own := [("way", 3)]) (N := nm) (sc := scp) (by decide +kernel)) (fun _ _ _ _ _ => (pg_name (i := 3) nd rfl (by first | exact Or.inl rfl | exact Or.inr rfl))) (fun _ _ _ _ _ => pts_nil) (fun _ _ _ _ _ => (pe_c C_is_way hr (by decide) (by rfl) (pa_cons (pv 3) (pa_cons (pv 1) pa_nil))))) pa_nil)))))))) (pss_one (ps_ret pe_bl)) pss_nil)
    (pss_one (ps_ret (pe_c C_is_rising hr (by decide) (by rfl) (pa_cons (pe_lc (own := [("way", 3)]) (by rfl) nd (pi_listK (K := K) rfl (pv 2)) (blkOk_by (own := [("way", 3)]) (N := nm) (sc := scp) (by decide +kernel)) (fun _ _ _ _ _ => (pg_name (i := 3) nd rfl (by first | exact Or.inl rfl | exact Or.inr rfl))) (fun _ _ _ _ _ => pts_nil) (fun _ _ _ _ _ => (pe_tup (pa_cons (pe_ix (ix_K (K := K) rfl) (pv 3) pe_int (fun _ _ => rfl)) (pa_cons (pe_ix (ix_K (K := K) rfl) (pv 3) pe_int (fun _ _ => rfl)) pa_nil))))) pa_nil))))))), fun vs Q h => end_rtn h ?_⟩
  try dsimp only [cx_K]
  rintro _ _ _ _ ⟨h⟩
  rename_i M W
  refine rtn_ifs (b := false) (EvT.c (evt_or' (evt_not (evt_B (K := K) (ev_call (by walk_at "ev") RListed.tup))) (evt_or' (evt_test (K := K) (ev_op (ev_cb (by walk_at "ev") cbe_lenTD) (by walk_at "ev") ope_nei)) (evt_not (evt_B (K := K) (ev_call (eva_cons (ev_ixt (by walk_at "ev") rfl) eva_nil) (.mk h.fk)))))) ?_) (fun e => by cases e) fun _ => ?_
  · rfl
  refine rtn_seq (nrm_asg (by walk_at "ev") (evg_tupD (evgs_cons evg_name (evgs_cons evg_name evgs_nil)) rfl)) ?_
  have hm := h.many
  refine rtn_ifs (b := false) (EvT.c (evt_or' (evt_not (evt_B (K := K) (ev_call (by walk_at "ev") RListed.lst))) (evt_or' (evt_test (K := K) (ev_op (ev_cb (by walk_at "ev") cbe_lenLD) (by walk_at "ev") ope_B)) (evt_not (evt_B (K := K) (ev_all W.ways wayD (by walk_at "ev") (small8 hm) fun w hw D c hD => ⟨_, evgw_name (by decide), ev_call (by walk_at "ev") (.mk h.fk (h.ways w hw))⟩))))) ?_) (fun e => by cases e) fun _ => ?_
  · have : decide ((150 : Int) < ((W.ways.map wayD).length : Nat)) = false := decide_eq_false (by rw [List.length_map]; omega)
    rw [this]; rfl
  exact rtn_ret (ev_call (eva_cons (ev_lcM W.ways wayD (fun w => prS w.1 w.2.1) (by walk_at "ev") (small8 hm) fun w hw D c hD => ⟨_, evgw_name (by decide), ev_tupD (evad_cons (ev_ixt (by walk_at "ev") rfl) (evad_cons (ev_ixt (by walk_at "ev") rfl) evad_nil))⟩) eva_nil) (.mk (bef_list h.wr fun a b => bef_pr) (by rw [List.length_map]; exact small8 hm)))
inductive RWebOf (K : PySem.W.Frag) : Ctr
  | mk {M : OM} {W : Web} (h : OkWeb W) : RWebOf K M [Dd K (webD W)] (Dd K (webD W)) M
abbrev n_web_of : List Str := ["web", "way"]
theorem sc_web_of : FnScope n_web_of ["web"] (defScope (top 34)) := ⟨rfl, rfl, rfl, by decide +kernel, rfl, by decide +kernel, by decide +kernel⟩
theorem ok_web_of (T : Tx K mg base) : Cal P w K mg base 4 "web_of" (SpR (RWebOf K)) [] := by
  obtain ⟨fd, F⟩ := T.fd_web_of
  have nd := sc_web_of.nd
  let nm := n_web_of
  let scp := defScope (top 34)
  have C_is_web : Cal P w K mg base 3 "is_web" (SpR (RIsWeb K)) [] := ok_is_web T
  refine cal_mk T.g_web_of F (F.bindsN fun _ _ _ _ _ _ us hl => match us, hl with | [_], _ => rfl) (fn_ok (k := 3) F sc_web_of (sp_len fun _ _ _ _ h => by cases h <;> rfl) fun cdv A outer s H E hr => ?_)
  have hu := hu_of hr
  refine ⟨_, (pss_cons (ps_if (pt_not (pt_val (pe_c C_is_web hr (by decide) (by rfl) (pa_cons (pv 0) pa_nil)))) pss_never pss_nil)
    (pss_one (ps_ret (pe_tup (pa_cons (pe_callTy (call_list_ofK (K := K) rfl) (by rfl) T.f_list (by decide +kernel) (pa_cons (pe_ix (ix_K (K := K) rfl) (pv 0) pe_int (fun _ _ => rfl)) pa_nil)) (pa_cons (pe_lc (own := [("way", 1)]) (by rfl) nd (pi_listK (K := K) rfl (pe_ix (ix_K (K := K) rfl) (pv 0) pe_int (fun _ _ => rfl))) (blkOk_by (own := [("way", 1)]) (N := nm) (sc := scp) (by decide +kernel)) (fun _ _ _ _ _ => (pg_name (i := 1) nd rfl (by first | exact Or.inl rfl | exact Or.inr rfl))) (fun _ _ _ _ _ => pts_nil) (fun _ _ _ _ _ => (pe_callTy (call_tuple_ofK (K := K) rfl) (by rfl) T.f_tuple (by decide +kernel) (pa_cons (pv 1) pa_nil)))) pa_nil)))))), fun vs Q h => end_rtn h ?_⟩
  try dsimp only [cx_K]
  rintro _ _ _ _ ⟨h⟩
  rename_i M W
  refine rtn_seq (nrm_if (b := false) (evt_not (evt_B (K := K) (ev_call (by walk_at "ev") (RIsWeb.mk h)))) (fun e => by cases e) fun _ => nrm_next) ?_
  exact rtn_ret (ev_tupD (evad_cons (ev_cb (eva_cons (ev_ixt (by walk_at "ev") rfl) eva_nil) cbe_listLD) (evad_cons (ev_lcM W.ways wayD wayD (ev_ixt (by walk_at "ev") rfl) (small8 h.many) fun w hw D c hD => ⟨_, evgw_name (by decide), ev_cb (by walk_at "ev") cbe_tupTD⟩) evad_nil)))
/-- starters: some of the folk, in their order -/
structure OkLot (folk lot : List Str) : Prop where
  l0 : lot ≠ []
  l8 : lot.length ≤ 8
  sub : ∀ x ∈ lot, x ∈ folk
  rise : lot.Pairwise fun a b => sl a b = true
theorem sl_irr (a : Str) : sl a a = false := dlt_irr _
theorem OkLot.nd {folk lot : List Str} (h : OkLot folk lot) : lot.Nodup := h.rise.imp fun {a b} q e => by subst e; rw [sl_irr] at q; cases q
inductive RStart (K : PySem.W.Frag) : Ctr
  | mk {M : OM} {W : Web} {lot : List Str} (h : OkWeb W) (hl : OkLot W.folk lot) : RStart K M [Dd K (webD W), Dd K (.list (lot.map .str))] (Dd K (.list (lot.map .str))) M
abbrev n_need_starters : List Str := ["own", "starters", "name"]
theorem sc_need_starters : FnScope n_need_starters ["own", "starters"] (defScope (top 35)) := ⟨rfl, rfl, rfl, by decide +kernel, rfl, by decide +kernel, by decide +kernel⟩
theorem ok_need_starters (T : Tx K mg base) : Cal P w K mg base 2 "need_starters" (SpR (RStart K)) [] := by
  obtain ⟨fd, F⟩ := T.fd_need_starters
  have nd := sc_need_starters.nd
  let nm := n_need_starters
  let scp := defScope (top 35)
  have C_is_listed : Cal P w K mg base 1 "is_listed" (SpR (RListed K)) [] := ok_is_listed T
  have C_is_name : Cal P w K mg base 1 "is_name" (SpR (RName K)) [] := ok_is_name T
  refine cal_mk T.g_need_starters F (F.bindsN fun _ _ _ _ _ _ us hl => match us, hl with | [_, _], _ => rfl) (fn_ok (k := 1) F sc_need_starters (sp_len fun _ _ _ _ h => by cases h <;> rfl) fun cdv A outer s H E hr => ?_)
  have hu := hu_of hr
  refine ⟨_, (pss_cons (ps_if (PW.pt (pw_or (pt_not (pt_val (pe_c C_is_listed hr (by decide) (by rfl) (pa_cons (pv 1) pa_nil)))) (pw_or (pt_cmpR (op_eqK (K := K) rfl hr.units) (pe_callB (call_lenK (K := K) rfl) (by rfl) T.f_len (by decide +kernel) (pa_cons (pv 1) pa_nil)) pe_int (nomark _)) (pw_or1 (pt_not (pt_val (pe_callB (cr_all rfl) (by rfl) T.f_all (by decide +kernel) (pa_cons (pe_lc (own := [("name", 2)]) (by rfl) nd (pi_listK (K := K) rfl (pv 1)) (blkOk_by (own := [("name", 2)]) (N := nm) (sc := scp) (by decide +kernel)) (fun _ _ _ _ _ => (pg_name (i := 2) nd rfl (by first | exact Or.inl rfl | exact Or.inr rfl))) (fun _ _ _ _ _ => pts_nil) (fun _ _ _ _ _ => (pe_c C_is_name hr (by decide) (by rfl) (pa_cons (pv 2) pa_nil)))) pa_nil)))))))) pss_never pss_nil)
    (pss_cons (ps_if (PW.pt (pw_or (pt_cmpR op_lt (pe_callB cr_lenS (by rfl) T.f_len (by decide +kernel) (pa_cons (pe_callTy (cr_setK (K := K) rfl rfl) (by rfl) T.f_set (by decide +kernel) (pa_cons (pv 1) pa_nil)) pa_nil)) (pe_callB (call_lenK (K := K) rfl) (by rfl) T.f_len (by decide +kernel) (pa_cons (pv 1) pa_nil)) (nomark _)) (pw_or1 (pt_not (pt_val (pe_callB (cr_all rfl) (by rfl) T.f_all (by decide +kernel) (pa_cons (pe_lc (own := [("name", 2)]) (by rfl) nd (pi_listK (K := K) rfl (pv 1)) (blkOk_by (own := [("name", 2)]) (N := nm) (sc := scp) (by decide +kernel)) (fun _ _ _ _ _ => (pg_name (i := 2) nd rfl (by first | exact Or.inl rfl | exact Or.inr rfl))) (fun _ _ _ _ _ => pts_nil) (fun _ _ _ _ _ => (pe_cmpR (op_inK (K := K) rfl hr.units) (pv 2) (pe_ix (ix_K (K := K) rfl) (pv 0) pe_int (fun _ _ => rfl)) (by first | exact nomark _ | rfl)))) pa_nil))))))) pss_never pss_nil)
    (pss_one (ps_ret (pe_callB (cr_sortK (K := K) rfl hr.units) (by rfl) T.f_sorted (by decide +kernel) (pa_cons (pv 1) pa_nil)))))), fun vs Q h => end_rtn h ?_⟩
  try dsimp only [cx_K]
  rintro _ _ _ _ ⟨h, hl⟩
  rename_i M W lot
  have n0 : 0 < lot.length := List.length_pos_iff.mpr hl.l0
  have n8 := hl.l8
  refine rtn_seq (nrm_if (b := false) (EvT.c (evt_or' (evt_not (evt_B (K := K) (ev_call (by walk_at "ev") RListed.lst))) (evt_or' (evt_test (K := K) (ev_op (ev_cb (by walk_at "ev") cbe_lenLD) (by walk_at "ev") ope_eqi)) (evt_not (evt_B (K := K) (ev_all lot .str (by walk_at "ev") (small8 (by omega)) fun x hx D c hD => ⟨_, evgw_name (by decide), ev_call (by walk_at "ev") (RName.mk (h.names x (hl.sub x hx)))⟩))))) ?_) (fun e => by cases e) fun _ => nrm_next) ?_
  · have : decide ((((lot.map PyData.str).length : Nat) : Int) = 0) = false := decide_eq_false (by rw [List.length_map]; omega)
    rw [this]; rfl
  refine rtn_seq (nrm_if (b := false) (EvT.c (evt_or' (evt_test (K := K) (ev_op (ev_cb (eva_cons (ev_cb (by walk_at "ev") (cbe_setS hl.nd (Nat.lt_of_le_of_lt (Nat.add_le_add_right n8 1) (by decide)))) eva_nil) (cbe_lenSz (by omega))) (ev_cb (by walk_at "ev") cbe_lenLD) ope_B)) (evt_not (evt_B (K := K) (ev_all lot .str (by walk_at "ev") (small8 (by omega)) fun x hx D c hD => ⟨_, evgw_name (by decide), Evl.c (ev_inS (by walk_at "ev") (ev_ixt (by walk_at "ev") rfl)) (by rw [decide_eq_true (hl.sub x hx)])⟩)))) ?_) (fun e => by cases e) fun _ => nrm_next) ?_
  · have : decide (((lot.length : Nat) : Int) < ((lot.map PyData.str).length : Nat)) = false := decide_eq_false (by rw [List.length_map]; omega)
    rw [this]; rfl
  refine rtn_ret (Evl.c (ev_cb (by walk_at "ev") (cbe_sortD (enc := PyData.str) (bs := lot) (PySem.W.AllAlike.of fun _ _ => rfl) (PySem.W.Sortable.others fun _ => ⟨(by intro z; cases z), fun _ z => by cases z⟩) (small8 (by omega)) fun x _ => by simp [PyData.depth])) ?_)
  rw [show lot.mergeSort (leD PyData.str) = lot from sortD_rise hl.rise]
end
end Z
set_option maxRecDepth 100000
set_option maxHeartbeats 4000000
/-! F5: webs.py: beats, places. Own work. -/
namespace Z
open PySem PySem.Spec L2
local macro_rules | `(tactic| walk_at "ev") => `(tactic| repeat' (first
  | with_reducible apply eva_nil
  | ((with_reducible apply ev_var); rfl)
  | with_reducible apply ev_int
  | with_reducible apply ev_str
  | with_reducible apply ev_bl
  | with_reducible apply ev_non
  | ((with_reducible show PySem.W.Frag); assumption)
  | with_reducible apply eva_cons
  | with_reducible apply ev_cb
  | with_reducible apply ev_op
  | with_reducible apply cbe_min2
  | with_reducible apply cbe_max2
  | with_reducible apply ope_I
  | with_reducible apply ope_B
  | with_reducible apply ope_isN
  | with_reducible apply ope_notN
  | with_reducible apply ope_eqi
  | with_reducible apply ope_nei
  | with_reducible apply ope_eqs
  | with_reducible apply ope_nes
  | with_reducible apply evt_test
  | with_reducible apply rtn_ret))
def between (W : Web) (a b : Str) : Option Int := ((W.ways.filter fun w => decide (w.1 = a) && decide (w.2.1 = b)).map (·.2.2)).head?
theorem atI_nat {α : Type} {xs : List α} {i : Nat} (h : i < xs.length) : atI xs (i : Int) = xs[i]? := by
  unfold atI ixN
  rw [if_pos (Int.natCast_nonneg i), if_pos (by omega)]
  rfl
theorem atI_0 {α : Type} {x : α} {l : List α} : atI (x :: l) 0 = some x := atI_nat (i := 0) (by simp)
abbrev Place := Str × Str × Int
structure OkPlace (W : Web) (p : Place) : Prop where
  n1 : okName p.1
  n2 : okName p.2.1
  at_ : (p.1 = p.2.1 ∧ p.1 ∈ W.folk ∧ p.2.2 = 0) ∨ (p.1 ≠ p.2.1 ∧ ∃ m, between W p.1 p.2.1 = some m ∧ 0 < p.2.2 ∧ p.2.2 < m)
section
variable {P : Program} {w : World} {K : PySem.W.Frag} {mg : Str → Option Value} {base : Heap}
variable {G G1 G2 : Gm} {M M1 M2 : OM}
inductive RNeedBeat (K : PySem.W.Frag) : Ctr
  | mk {M : OM} {n : Int} (h : 0 ≤ n) : RNeedBeat K M [Dd K (.int n)] (Dd K .none) M
abbrev n_need_beat : List Str := ["beat"]
theorem sc_need_beat : FnScope n_need_beat ["beat"] (defScope (top 36)) := ⟨rfl, rfl, rfl, by decide +kernel, rfl, by decide +kernel, by decide +kernel⟩
theorem ok_need_beat (T : Tx K mg base) : Cal P w K mg base 2 "need_beat" (SpR (RNeedBeat K)) [] := by
  obtain ⟨fd, F⟩ := T.fd_need_beat
  have nd := sc_need_beat.nd
  let nm := n_need_beat
  let scp := defScope (top 36)
  have C_is_whole2 : Cal P w K mg base 1 "is_whole" (SpR (RWhole K)) [.non] := ok_is_whole2 T
  refine cal_mk T.g_need_beat F (F.bindsN fun _ _ _ _ _ _ us hl => match us, hl with | [_], _ => rfl) (fn_ok (k := 1) F sc_need_beat (sp_len fun _ _ _ _ h => by cases h <;> rfl) fun cdv A outer s H E hr => ?_)
  have hu := hu_of hr
  refine ⟨_, (pss_one (ps_if (pt_not (pt_val (pe_c C_is_whole2 hr (by decide) (by rfl) (pa_cons (pv 0) (pa_cons pe_int pa_nil))))) pss_never pss_nil)), fun vs Q h => end_nrm (K := K) h ?_⟩
  try dsimp only [cx_K]
  rintro _ _ _ _ ⟨h⟩
  rename_i n
  refine ⟨rfl, _, nrm_if (b := false) (EvT.c (evt_not (evt_B (K := K) (ev_callD (qs := [Dd K (optD none)]) (by walk_at "ev") (fun F => .cons (dd .non) .nil) RWhole.mk))) ?_) (fun e => by cases e) fun _ => nrm_next⟩
  unfold whole
  rw [decide_eq_true h]; rfl
inductive RBetween (K : PySem.W.Frag) : Ctr
  | mk {M : OM} {W : Web} {a b : Str} (h : W.ways.length ≤ 64) : RBetween K M [Dd K (webD W), Dd K (.str a), Dd K (.str b)] (Dd K (optD (between W a b))) M
theorem turn_ifD {P P' : Pr} {g : TG} {tt : TT} {te : TE} {vs : List Nat} {q : Pr} {b : Bool} (h1 : EvGw G M P g vs G1 M) (h0 : EvT G1 M tt b M) (h2 : b = true → Evl G1 M te q M) : Turn1 G M P g tt te vs b q M := turn_if h1 h0 h2
abbrev n_beats_between : List Str := ["own", "one", "other", "found", "way"]
theorem sc_beats_between : FnScope n_beats_between ["own", "one", "other"] (defScope (top 37)) := ⟨rfl, rfl, rfl, by decide +kernel, rfl, by decide +kernel, by decide +kernel⟩
theorem ok_beats_between (T : Tx K mg base) : Cal P w K mg base 1 "beats_between" (SpR (RBetween K)) [] := by
  obtain ⟨fd, F⟩ := T.fd_beats_between
  have nd := sc_beats_between.nd
  let nm := n_beats_between
  let scp := defScope (top 37)
  refine cal_mk T.g_beats_between F (F.bindsN fun _ _ _ _ _ _ us hl => match us, hl with | [_, _, _], _ => rfl) (fn_ok (k := 0) F sc_beats_between (sp_len fun _ _ _ _ h => by cases h <;> rfl) fun cdv A outer s H E hr => ?_)
  have hu := hu_of hr
  refine ⟨_, (pss_cons (ps_setLc (i := 3) (own := [("way", 4)]) (by rfl) nd rfl rfl (sw_true rfl rfl rfl (by decide +kernel)) (pi_listK (K := K) rfl (pe_ix (ix_K (K := K) rfl) (pv 0) pe_int (fun _ _ => rfl))) (blkOk_by (own := [("way", 4)]) (N := nm) (sc := scp) (by decide +kernel)) (fun _ _ _ _ _ => (pg_name (i := 4) nd rfl (by first | exact Or.inl rfl | exact Or.inr rfl))) (fun _ _ _ _ _ => pts_one (PW.pt (pw_and (pt_cmpR (op_eqK (K := K) rfl hr.units) (pe_ix (ix_K (K := K) rfl) (pv 4) pe_int (fun _ _ => rfl)) (pv 1) (nomark _)) (pw_and1 (pt_cmpR (op_eqK (K := K) rfl hr.units) (pe_ix (ix_K (K := K) rfl) (pv 4) pe_int (fun _ _ => rfl)) (pv 2) (nomark _)))))) (fun _ _ _ _ _ => (pe_ix (ix_K (K := K) rfl) (pv 4) pe_int (fun _ _ => rfl))))
    (pss_one (ps_ret (pe_ifExp (pt_cmpR (op_neK (K := K) rfl hr.units) (pv 3) (pe_lst pa_nil) (nomark _)) (pe_ix (ix_K (K := K) rfl) (pv 3) pe_int (fun _ _ => rfl)) pe_non)))), fun vs Q h => end_rtn h ?_⟩
  try dsimp only [cx_K]
  rintro _ _ _ _ ⟨h⟩
  rename_i M W a b
  let L := (W.ways.filter fun w => decide (w.1 = a) && decide (w.2.1 = b)).map fun w => PyData.int w.2.2
  refine rtn_seq (nrm_set (P := Dd K (.list L)) (ev_lcL W.ways wayD (fun w => .int w.2.2) (fun w => decide (w.1 = a) && decide (w.2.1 = b)) (ev_ixt (by walk_at "ev") rfl) (small8 h) fun w hw D c hD => turn_if (evgw_name (by decide)) (evt_and' (evt_test (K := K) (ev_op (ev_ixt (by walk_at "ev") rfl) (by walk_at "ev") ope_eqs)) (evt_test (K := K) (ev_op (ev_ixt (by walk_at "ev") rfl) (by walk_at "ev") ope_eqs))) fun _ => ev_ixt (by walk_at "ev") rfl)) ?_
  refine rtn_ret (ev_if (b := !L.isEmpty) (evt_test (K := K) (ev_op (by walk_at "ev") (ev_lstD (K := K) evad_nil) ope_ne0D)) (fun e => ?_) (fun e => ?_))
  · have hb : ∃ m, between W a b = some m ∧ atI L 0 = some (.int m) := by
      unfold between
      cases hq : W.ways.filter fun w => decide (w.1 = a) && decide (w.2.1 = b) with
      | nil => simp [L, hq] at e
      | cons x l =>
        refine ⟨x.2.2, rfl, ?_⟩
        show atI (((W.ways.filter fun w => decide (w.1 = a) && decide (w.2.1 = b))).map fun w => PyData.int w.2.2) 0 = _
        rw [hq]
        exact atI_0
    obtain ⟨m, h1, h2⟩ := hb
    rw [h1]
    exact ev_ixl (by walk_at "ev") h2
  · have hb : between W a b = none := by
      unfold between
      cases hq : W.ways.filter fun w => decide (w.1 = a) && decide (w.2.1 = b) with
      | nil => rfl
      | cons x l => simp [L, hq] at e
    rw [hb]
    exact Evl.c (by walk_at "ev")
inductive RIsPlace (K : PySem.W.Frag) : Ctr
  | mk {M : OM} {W : Web} {p : Place} (h : OkWeb W) (hp : OkPlace W p) : RIsPlace K M [Dd K (webD W), Dd K (wayD p)] (Dd K (.bool true)) M
abbrev n_is_place : List Str := ["own", "thing", "beats"]
theorem sc_is_place : FnScope n_is_place ["own", "thing"] (defScope (top 38)) := ⟨rfl, rfl, rfl, by decide +kernel, rfl, by decide +kernel, by decide +kernel⟩
theorem ok_is_place (T : Tx K mg base) : Cal P w K mg base 2 "is_place" (SpR (RIsPlace K)) [] := by
  obtain ⟨fd, F⟩ := T.fd_is_place
  have nd := sc_is_place.nd
  let nm := n_is_place
  let scp := defScope (top 38)
  have C_beats_between : Cal P w K mg base 1 "beats_between" (SpR (RBetween K)) [] := ok_beats_between T
  have C_is_listed : Cal P w K mg base 1 "is_listed" (SpR (RListed K)) [] := ok_is_listed T
  have C_is_name : Cal P w K mg base 1 "is_name" (SpR (RName K)) [] := ok_is_name T
  have C_is_whole2 : Cal P w K mg base 1 "is_whole" (SpR (RWhole K)) [.non] := ok_is_whole2 T
  refine cal_mk T.g_is_place F (F.bindsN fun _ _ _ _ _ _ us hl => match us, hl with | [_, _], _ => rfl) (fn_ok (k := 1) F sc_is_place (sp_len fun _ _ _ _ h => by cases h <;> rfl) fun cdv A outer s H E hr => ?_)
  have hu := hu_of hr
  refine ⟨_, (pss_cons (ps_if (PW.pt (pw_or (pt_not (pt_val (pe_c C_is_listed hr (by decide) (by rfl) (pa_cons (pv 1) pa_nil)))) (pw_or (pt_cmpR (op_neK (K := K) rfl hr.units) (pe_callB (call_lenK (K := K) rfl) (by rfl) T.f_len (by decide +kernel) (pa_cons (pv 1) pa_nil)) pe_int (nomark _)) (pw_or (pt_not (pt_val (pe_c C_is_name hr (by decide) (by rfl) (pa_cons (pe_ix (ix_K (K := K) rfl) (pv 1) pe_int (fun _ _ => rfl)) pa_nil)))) (pw_or1 (pt_not (pt_val (pe_c C_is_name hr (by decide) (by rfl) (pa_cons (pe_ix (ix_K (K := K) rfl) (pv 1) pe_int (fun _ _ => rfl)) pa_nil))))))))) (pss_one (ps_ret pe_bl)) pss_nil)
    (pss_cons (ps_if (pt_not (pt_val (pe_c C_is_whole2 hr (by decide) (by rfl) (pa_cons (pe_ix (ix_K (K := K) rfl) (pv 1) pe_int (fun _ _ => rfl)) (pa_cons pe_int pa_nil))))) (pss_one (ps_ret pe_bl)) pss_nil)
    (pss_cons (ps_if (pt_cmpR (op_eqK (K := K) rfl hr.units) (pe_ix (ix_K (K := K) rfl) (pv 1) pe_int (fun _ _ => rfl)) (pe_ix (ix_K (K := K) rfl) (pv 1) pe_int (fun _ _ => rfl)) (nomark _)) (pss_one (ps_ret (pe_and (pe_cmpR (op_inK (K := K) rfl hr.units) (pe_ix (ix_K (K := K) rfl) (pv 1) pe_int (fun _ _ => rfl)) (pe_ix (ix_K (K := K) rfl) (pv 0) pe_int (fun _ _ => rfl)) (by first | exact nomark _ | rfl)) (pe_one (pe_cmpR (op_eqK (K := K) rfl hr.units) (pe_ix (ix_K (K := K) rfl) (pv 1) pe_int (fun _ _ => rfl)) pe_int (nomark _)))))) pss_nil)
    (pss_cons (ps_set (i := 2) nd rfl (by first | exact Or.inl rfl | exact Or.inr rfl) (pe_c C_beats_between hr (by decide) (by rfl) (pa_cons (pv 0) (pa_cons (pe_ix (ix_K (K := K) rfl) (pv 1) pe_int (fun _ _ => rfl)) (pa_cons (pe_ix (ix_K (K := K) rfl) (pv 1) pe_int (fun _ _ => rfl)) pa_nil)))))
    (pss_one (ps_ret (pe_and (pe_cmpR op_notN (pv 2) pe_non (nomark _)) (pe_one (pe_chain op_lt op_lt pe_int (pe_ix (ix_K (K := K) rfl) (pv 1) pe_int (fun _ _ => rfl)) (pv 2)))))))))), fun vs Q h => end_rtn h ?_⟩
  try dsimp only [cx_K]
  rintro _ _ _ _ ⟨h, hp⟩
  rename_i M W p
  refine rtn_ifs (b := false) (EvT.c (evt_or' (evt_not (evt_B (K := K) (ev_call (by walk_at "ev") RListed.tup))) (evt_or' (evt_test (K := K) (ev_op (ev_cb (by walk_at "ev") cbe_lenTD) (by walk_at "ev") ope_nei)) (evt_or' (evt_not (evt_B (K := K) (ev_call (eva_cons (ev_ixt (by walk_at "ev") rfl) eva_nil) (RName.mk hp.n1)))) (evt_not (evt_B (K := K) (ev_call (eva_cons (ev_ixt (by walk_at "ev") rfl) eva_nil) (RName.mk hp.n2))))))) ?_) (fun e => by cases e) fun _ => ?_
  · rfl
  have h0 : 0 ≤ p.2.2 := by
    rcases hp.at_ with ⟨_, _, e⟩ | ⟨_, m, _, e, _⟩ <;> omega
  refine rtn_ifs (b := false) (EvT.c (evt_not (evt_B (K := K) (ev_callD (qs := [Dd K (optD none)]) (eva_cons (ev_ixt (by walk_at "ev") rfl) (by walk_at "ev")) (fun F => .cons (dd .non) .nil) RWhole.mk))) ?_) (fun e => by cases e) fun _ => ?_
  · unfold whole
    rw [decide_eq_true h0]; rfl
  refine rtn_ifs (b := decide (p.1 = p.2.1)) (evt_test (K := K) (ev_op (ev_ixt (by walk_at "ev") rfl) (ev_ixt (by walk_at "ev") rfl) ope_eqs)) (fun e => ?_) (fun e => ?_)
  · have e := of_decide_eq_true e
    rcases hp.at_ with ⟨_, e1, e2⟩ | ⟨ne, _⟩
    · refine rtn_ret (Evl.c (ev_and' (ev_inS (ev_ixt (by walk_at "ev") rfl) (ev_ixt (by walk_at "ev") rfl)) (ev_op (ev_ixt (by walk_at "ev") rfl) (by walk_at "ev") ope_eqi)) ?_)
      rw [decide_eq_true e1, decide_eq_true e2]; rfl
    · exact absurd e ne
  · have e := of_decide_eq_false e
    rcases hp.at_ with ⟨e1, _⟩ | ⟨_, m, e1, e2, e3⟩
    · exact absurd e1 e
    · refine rtn_seq (nrm_set (P := Dd K (.int m)) (Evl.c (ev_call (eva_cons (by walk_at "ev") (eva_cons (ev_ixt (by walk_at "ev") rfl) (eva_cons (ev_ixt (by walk_at "ev") rfl) eva_nil))) (RBetween.mk h.many)) (by rw [e1]))) ?_
      refine rtn_ret (Evl.c (ev_and' (K := K) (b := !isNon (.int m)) (by walk_at "ev") (ev_chain (P1 := Dd K (.int 0)) (P2 := Dd K (.int p.2.2)) (P3 := Dd K (.int m)) (by walk_at "ev") (ev_ixt (by walk_at "ev") rfl) ope_B (by walk_at "ev") ope_B)) ?_)
      rw [decide_eq_true e2, decide_eq_true e3]; rfl
inductive RNeedPlace (K : PySem.W.Frag) : Ctr
  | mk {M : OM} {W : Web} {p : Place} (h : OkWeb W) (hp : OkPlace W p) : RNeedPlace K M [Dd K (webD W), Dd K (wayD p)] (Dd K (wayD p)) M
abbrev n_need_place : List Str := ["own", "place"]
theorem sc_need_place : FnScope n_need_place ["own", "place"] (defScope (top 39)) := ⟨rfl, rfl, rfl, by decide +kernel, rfl, by decide +kernel, by decide +kernel⟩
theorem ok_need_place (T : Tx K mg base) : Cal P w K mg base 3 "need_place" (SpR (RNeedPlace K)) [] := by
  obtain ⟨fd, F⟩ := T.fd_need_place
  have nd := sc_need_place.nd
  let nm := n_need_place
  let scp := defScope (top 39)
  have C_is_place : Cal P w K mg base 2 "is_place" (SpR (RIsPlace K)) [] := ok_is_place T
  refine cal_mk T.g_need_place F (F.bindsN fun _ _ _ _ _ _ us hl => match us, hl with | [_, _], _ => rfl) (fn_ok (k := 2) F sc_need_place (sp_len fun _ _ _ _ h => by cases h <;> rfl) fun cdv A outer s H E hr => ?_)
  have hu := hu_of hr
  refine ⟨_, (pss_cons (ps_if (pt_not (pt_val (pe_c C_is_place hr (by decide) (by rfl) (pa_cons (pv 0) (pa_cons (pv 1) pa_nil))))) pss_never pss_nil)
    (pss_one (ps_ret (pe_callTy (call_tuple_ofK (K := K) rfl) (by rfl) T.f_tuple (by decide +kernel) (pa_cons (pv 1) pa_nil))))), fun vs Q h => end_rtn h ?_⟩
  try dsimp only [cx_K]
  rintro _ _ _ _ ⟨h, hp⟩
  refine rtn_seq (nrm_if (b := false) (evt_not (evt_B (K := K) (ev_call (by walk_at "ev") (RIsPlace.mk h hp)))) (fun e => by cases e) fun _ => nrm_next) ?_
  exact rtn_ret (ev_cb (by walk_at "ev") cbe_tupTD)
end
end Z
set_option maxRecDepth 100000
set_option maxHeartbeats 4000000
/-! F6: Doubled: who lies beside whom. Own work. -/
namespace Z
open PySem PySem.Spec L2
local macro_rules | `(tactic| walk_at "ev") => `(tactic| repeat' (first
  | with_reducible apply eva_nil
  | ((with_reducible apply ev_var); rfl)
  | with_reducible apply ev_int
  | with_reducible apply ev_str
  | with_reducible apply ev_bl
  | with_reducible apply ev_non
  | ((with_reducible show PySem.W.Frag); assumption)
  | with_reducible apply eva_cons
  | with_reducible apply ev_cb
  | with_reducible apply ev_op
  | with_reducible apply cbe_min2
  | with_reducible apply cbe_max2
  | with_reducible apply ope_I
  | with_reducible apply ope_B
  | with_reducible apply ope_isN
  | with_reducible apply ope_notN
  | with_reducible apply ope_eqi
  | with_reducible apply ope_nei
  | with_reducible apply ope_eqs
  | with_reducible apply ope_nes
  | with_reducible apply evt_test
  | with_reducible apply rtn_ret))
theorem wk_nil : Wk [] [] := ⟨rfl, fun i P h => by cases h⟩
theorem wk_keep {o : Option Pr} {G G' : Gm} (h : Wk G G') : Wk (o :: G) (o :: G') := ⟨by rw [List.length_cons, List.length_cons, h.1], fun i P e => match i, e with
  | 0, e => e
  | i + 1, e => h.2 i P e⟩
theorem wk_drop {o : Option Pr} {G G' : Gm} (h : Wk G G') : Wk (o :: G) (none :: G') := ⟨by rw [List.length_cons, List.length_cons, h.1], fun i P e => match i, e with
  | 0, e => by cases e
  | i + 1, e => h.2 i P e⟩
theorem nrmx_fld {K : PySem.W.Frag} {G : Gm} {M : OM} {ta tv : TE} {C dx p : Addr} {fs : List (Str × Pr)} {f : Str} {Φ : PsE} (c : Cls K C) (n : NoAttr K C f) (hv : EvlX G M tv Φ) (h : ∀ P m, Φ P m → Evl G m ta (Rf p) m ∧ m p = some (.ins C dx fs)) (hl : fs.length < 1000) :
    NrmX G M (sFld K ta tv f) (fun g m => g = G ∧ ∃ P m1, Φ P m1 ∧ m = m1.set p (.ins C dx (putP f P fs))) := fun σ H D a k =>
  hv σ H _ a fun P m1 y H1 e s1 q1 => by
    obtain ⟨h1, hm⟩ := h P m1 e
    refine h1 σ H1 _ (a.step s1) fun x H2 s2 q2 => ?_
    cases q2.here
    obtain ⟨o, e1, vs, rfl, e2⟩ := s2.own.cell p _ hm
    have s3 := Stp.write s2.own hm (c' := .ins C dx (putP f P fs)) (o := .ins C dx (putF f y vs)) ⟨_, rfl, paired_put (q1.mono s2.frz) e2⟩
    have s := (s1.trans s2).trans s3
    exact ⟨p, C, dx, vs, rfl, e1, c, n, by rw [← Paired.length e2]; exact hl, k _ _ σ _ ⟨rfl, P, m1, e, rfl⟩ s (a.step s)⟩
def adjOne (x : Str) (w : Way) : List (Str × Int) := (if w.1 = x then [(w.2.1, w.2.2)] else []) ++ (if w.2.1 = x then [(w.1, w.2.2)] else [])
def adj (ws : List Way) (x : Str) : List (Str × Int) := ws.flatMap (adjOne x)
abbrev adD (e : Str × Int) : PyData := .tuple [.str e.1, .int e.2]
def Bd (K : PySem.W.Frag) (W : Web) : Pr := Dk (W.folk.map fun x => (.inr x, Ls K ((adj W.ways x).map fun e => Dd K (adD e))))
theorem sl_ne {a b : Str} (h : sl a b = true) : a ≠ b := fun e => by subst e; rw [sl_irr] at h; cases h
theorem OkFolk.nd {folk : List Str} (h : OkFolk folk) : folk.Nodup := h.rise.imp fun {a b} q => sl_ne q
section
variable {P : Program} {w : World} {K : PySem.W.Frag} {mg : Str → Option Value} {base : Heap}
variable {G G1 G2 : Gm} {M M1 M2 : OM}
theorem na_mem {L : NA} {names : List Str} {x : Str} (h : L.map (·.1) = names) (hx : x ∈ names) : ∃ a, (x, a) ∈ L := by
  rw [← h] at hx
  obtain ⟨q, hq, e⟩ := List.mem_map.mp hx
  exact ⟨q.2, by rw [← e]; exact hq⟩
inductive RDoubled (K : PySem.W.Frag) : Ctr
  | mk {M : OM} {x dx : Addr} {W : Web} (hM : M x = some (.ins (He.ga K "Doubled") dx [])) (h : OkWeb W) : RDoubled K M [Rf x, Dd K (webD W)] (Dd K .none) (M.set x (.ins (He.ga K "Doubled") dx [("beside", Bd K W)]))
theorem adj_len (ws : List Way) (x : Str) : (adj ws x).length ≤ 2 * ws.length := by
  unfold adj
  induction ws with
  | nil => simp
  | cons w ws ih =>
    rw [List.flatMap_cons, List.length_append, List.length_cons]
    have : (adjOne x w).length ≤ 2 := by unfold adjOne; split <;> split <;> simp
    omega
abbrev n_Doubled_init : List Str := ["self", "own", "one", "other", "beats", "name"]
theorem sc_Doubled_init : FnScope n_Doubled_init ["self", "own"] (defScope (inClass (top 2) 0)) := ⟨rfl, rfl, rfl, by decide +kernel, rfl, by decide +kernel, by decide +kernel⟩
theorem ok_Doubled_init (T : Tx K mg base) : Mak P w K mg base 1 "Doubled" (He.ga K "Doubled") (SpR (RDoubled K)) := by
  obtain ⟨fd, F⟩ := T.fd_Doubled_init
  have nd := sc_Doubled_init.nd
  let nm := n_Doubled_init
  let scp := defScope (inClass (top 2) 0)
  refine ⟨_, fd, ["self", "own"], T.k_Doubled, (fn_ok (k := 0) F sc_Doubled_init (sp_len fun _ _ _ _ h => by cases h <;> rfl) fun cdv A outer s H E hr => ?_), T.g_Doubled, (F.bindsN fun _ _ _ _ _ _ us hl => match us, hl with | [_, _], _ => rfl)⟩
  have hu := hu_of hr
  refine ⟨_, (pss_cons (ps_fld (pv 0) (pe_lk (pe_dc (own := [("name", 5)]) (by rfl) nd (pi_listK (K := K) rfl (pe_ix (ix_K (K := K) rfl) (pv 1) pe_int (fun _ _ => rfl))) (blkOk_by (own := [("name", 5)]) (N := nm) (sc := scp) (by decide +kernel)) (fun _ _ _ _ _ => (pg_name (i := 5) nd rfl (by first | exact Or.inl rfl | exact Or.inr rfl))) (fun _ _ _ _ _ => pts_nil) (fun _ _ _ _ _ => (pv 5)) (fun _ _ _ _ _ => (pe_lst pa_nil)))) rfl)
    (pss_one (ps_for PassesOwn.never rfl (pi_listK (K := K) rfl (pe_ix (ix_K (K := K) rfl) (pv 1) pe_int (fun _ _ => rfl))) (pg_tupK (K := K) (n := 3) rfl (by rfl) (pgs_cons (pg_name (i := 2) nd rfl (by first | exact Or.inl rfl | exact Or.inr rfl)) (pgs_cons (pg_name (i := 3) nd rfl (by first | exact Or.inl rfl | exact Or.inr rfl)) (pgs_cons (pg_name (i := 4) nd rfl (by first | exact Or.inl rfl | exact Or.inr rfl)) pgs_nil))))
    (pss_cons (ps_expr (pe_bm PySem.F.plainAttrs_list PySem.F.slot_list_append PySem.F.type_list_append mt_append (pe_dget hu (pe_fldK (K := K) rfl (pv 0) rfl) (pv 2) (fun _ _ => rfl)) (pa_cons (pe_tup (pa_cons (pv 3) (pa_cons (pv 4) pa_nil))) pa_nil)))
    (pss_one (ps_expr (pe_bm PySem.F.plainAttrs_list PySem.F.slot_list_append PySem.F.type_list_append mt_append (pe_dget hu (pe_fldK (K := K) rfl (pv 0) rfl) (pv 3) (fun _ _ => rfl)) (pa_cons (pe_tup (pa_cons (pv 2) (pa_cons (pv 4) pa_nil))) pa_nil)))))))), fun vs Q h => end_nrm (K := K) h ?_⟩
  try dsimp only [cx_K]
  rintro _ _ _ _ ⟨hM, h⟩
  rename_i M x dx W
  let G0 : Gm := [some (Rf x), some (Dd K (webD W)), none, none, none, none]
  refine ⟨rfl, G0, ?_⟩
  let C := He.ga K "Doubled"
  have n8 := h.f8
  have nb := T.n_Doubled_beside
  have cl := T.c_Doubled
  have hi : EvI G0 M (iList K (tOp (rIx K) (tVar 1) (tC (.int 0)))) W.folk.length (at_ (W.folk.map fun x => Dd K (.str x))) M := by
    have := evi_listD (K := K) (G := G0) (M := M) (ev_ixt (K := K) (G := G0) (M := M) (t := tVar 1) (ds := [.list (W.folk.map .str), .list (W.ways.map wayD)]) (i := 0) (by walk_at "ev") rfl)
    rwa [List.length_map, List.map_map] at this
  have comp := evx_lists (K := K) (tk := tVar 5) (tv := tLst tNil) (g := gName 5) (vs := [5]) W.folk [] hi (Nat.lt_of_le_of_lt n8 (by decide)) h.fk.nd (by decide) fun y M2 _ => ⟨_, tNil, rfl, evgw_name (by decide), by walk_at "ev", by walk_at "ev"⟩
  refine nrm_seqx (nrmx_fld (C := C) (dx := dx) (p := x) (fs := []) cl nb comp (fun P m ⟨L, h1, h2, h3, h4⟩ => ⟨by walk_at "ev", ?_⟩) (by decide)) ?_
  · subst h4
    rw [owns_out (fun hm => ?_)]
    · exact hM
    · obtain ⟨q, hq, e⟩ := List.mem_map.mp hm
      have := h2.fr q hq
      rw [e, hM] at this; cases this
  rintro _ _ ⟨rfl, _, _, ⟨L, h1, h2, rfl, rfl⟩, rfl⟩
  have hxL : x ∉ L.map (·.2) := fun hm => by
    obtain ⟨q, hq, e⟩ := List.mem_map.mp hm
    have := h2.fr q hq
    rw [e, hM] at this; cases this
  rw [owns_base hxL]
  let Mb := M.set x (.ins C dx [("beside", Dk (kR L))])
  have okb : NAok Mb L := ⟨h2.nn, h2.na, fun q hq => by
    have : q.2 ≠ x := fun z => hxL (by rw [← z]; exact List.mem_map_of_mem (f := (·.2)) hq)
    show M.set x _ q.2 = none
    rw [OM.set_ne this]; exact h2.fr q hq⟩
  let ct : Nat → Str → List Pr := fun i y => (adj (W.ways.take i) y).map fun e => Dd K (adD e)
  have c0 : owns Mb L (fun _ => []) = owns Mb L (ct 0) := by
    congr 1
  show Nrm G0 (owns Mb L fun _ => []) _ _ _
  rw [c0]
  have hin : ∀ (ct : Str → List Pr), owns Mb L ct x = some (.ins C dx [("beside", Dk (kR L))]) := fun ct => by rw [owns_out hxL]; exact OM.set_same
  have small : ∀ i y, (ct i y).length < sizeLine := fun i y => by
    show ((adj (W.ways.take i) y).map _).length < sizeLine
    rw [List.length_map]
    have l1 := adj_len (W.ways.take i) y
    have l2 := h.many
    rw [List.length_take] at l1
    exact Nat.lt_of_le_of_lt (m := 128) (by omega) (by decide)
  refine nrm_shed (nrm_for (n := W.ways.length) (p := at_ (W.ways.map fun w => Dd K (wayD w))) (fun _ => G0) (fun i => owns Mb L (ct i)) ?_ ⟨rfl, fun _ _ e => e⟩ fun i hlt => ?_) ?_
  · have := evi_listD (K := K) (G := G0) (M := owns Mb L (ct 0)) (ev_ixt (K := K) (G := G0) (M := owns Mb L (ct 0)) (t := tVar 1) (ds := [.list (W.folk.map .str), .list (W.ways.map wayD)]) (i := 1) (by walk_at "ev") rfl)
    rwa [List.length_map, List.map_map] at this
  · have hg : W.ways[i]? = some W.ways[i] := List.getElem?_eq_getElem hlt
    rw [at_map hg]
    generalize hw : W.ways[i] = w at hg
    have ow := h.ways w (by rw [← hw]; exact List.getElem_mem hlt)
    obtain ⟨a1, m1⟩ := na_mem h1 ow.one
    obtain ⟨a2, m2⟩ := na_mem h1 ow.two
    let c1 := upC (ct i) w.1 (ct i w.1 ++ [Dd K (adD (w.2.1, w.2.2))])
    let c2 := upC c1 w.2.1 (c1 w.2.1 ++ [Dd K (adD (w.1, w.2.2))])
    have ne : w.1 ≠ w.2.1 := sl_ne ow.lt
    have ec : c2 = ct (i + 1) := by
      funext y
      show upC c1 w.2.1 (c1 w.2.1 ++ [Dd K (adD (w.1, w.2.2))]) y = (adj (W.ways.take (i + 1)) y).map _
      rw [List.take_succ, hg]
      unfold adj
      rw [List.flatMap_append, List.map_append]
      show (if y = w.2.1 then c1 w.2.1 ++ _ else c1 y) = ct i y ++ ((adjOne y w ++ []).map _)
      rw [List.append_nil]
      unfold adjOne
      by_cases e2 : w.2.1 = y
      · have e1 : w.1 ≠ y := fun z => ne (z.trans e2.symm)
        rw [if_pos e2.symm, if_neg e1, if_pos e2]
        show (if w.2.1 = w.1 then _ else ct i w.2.1) ++ _ = _
        rw [if_neg (fun z => ne z.symm), e2]; rfl
      · rw [if_neg (fun z => e2 z.symm), if_neg e2]
        show (if y = w.1 then ct i w.1 ++ _ else ct i y) = _
        by_cases e1 : w.1 = y
        · rw [if_pos e1.symm, if_pos e1, e1]; rfl
        · rw [if_neg (fun z => e1 z.symm), if_neg e1]; simp
    refine Body.weak (body_of (evg_tupD (evgs_cons evg_name (evgs_cons evg_name (evgs_cons evg_name evgs_nil))) rfl) (nrm_seq (M1 := owns Mb L c1) (nrm_drop (Evl.c (ev_append (p := a1) (ps := ct i w.1) (ev_dgetL (K := K) (k := .inr w.1) (ev_fldO cl nb (by walk_at "ev") (hin _) rfl) (by exact ev_var rfl) (kr_get h2.nn m1)) (ev_tupD (evad_cons (by walk_at "ev") (evad_cons (by walk_at "ev") evad_nil))) ⟨_, owns_in okb.na m1⟩ (owns_in okb.na m1) (small _ _)) rfl (owns_set okb m1)))
      (nrm_drop (Evl.c (ev_append (p := a2) (ps := c1 w.2.1) (ev_dgetL (K := K) (k := .inr w.2.1) (ev_fldO cl nb (by walk_at "ev") (hin _) rfl) (by exact ev_var rfl) (kr_get h2.nn m2)) (ev_tupD (evad_cons (by walk_at "ev") (evad_cons (by walk_at "ev") evad_nil))) ⟨_, owns_in okb.na m2⟩ (owns_in okb.na m2) ?_) rfl ((owns_set okb m2).trans (congrArg _ ec)))))) (wk_keep (wk_keep (wk_drop (wk_drop (wk_drop (wk_keep wk_nil))))))
    show (if w.2.1 = w.1 then _ else ct i w.2.1).length < sizeLine
    rw [if_neg (fun z => ne z.symm)]
    exact small _ _
  · intro σ H a
    have st := owns_stp okb a.own
    obtain ⟨o, f1, vs, rfl, f2⟩ := a.own.cell x _ (hin _)
    have tgt : (L.map fun q => ((.inr q.1 : Key), Ls K (ct W.ways.length q.1))) = W.folk.map fun x => (.inr x, Ls K ((adj W.ways x).map fun e => Dd K (adD e))) := by
      rw [← h1, List.map_map]
      refine List.map_congr_left fun q _ => ?_
      show _ = (_, Ls K _)
      simp only [ct, List.take_length]
    have st2 : Stp Mb H (M.set x (.ins C dx [("beside", Bd K W)])) H := by
      have e : M.set x (.ins C dx [("beside", Bd K W)]) = Mb.set x (.ins C dx [("beside", Bd K W)]) := by rw [OM.set_set]
      rw [e]
      have f3 : Paired (fun (p : Str × Pr) (q : Str × V) => p.1 = q.1 ∧ Sta p.2 q.2 (Frz Mb H)) [("beside", Bd K W)] vs := by
        cases f2 with
        | cons r t =>
          cases t
          refine .cons ⟨r.1, ?_⟩ .nil
          have := owns_dk (K := K) okb a.own r.2
          rw [tgt] at this
          exact this
      have s := Stp.write (o := .ins C dx vs) (c' := .ins C dx [("beside", Bd K W)]) st.own (show Mb x = some (.ins C dx [("beside", Dk (kR L))]) from OM.set_same) ⟨vs, rfl, f3⟩
      have eh : upd H x (.ins C dx vs) = H := by
        funext b
        by_cases e : b = x
        · rw [e, upd_same, f1]
        · rw [upd_ne e]
      rw [eh] at s
      exact s
    have s := st.trans st2
    exact ⟨s, a.step s⟩
end
end Z
/-! P1: the reckoning of reaches_of, in plain Lean. Own work. -/
namespace Z
open PySem PySem.Spec L2
/-! ### tables -/
section
variable {κ : Type} [DecidableEq κ]
theorem getI_mem {l : List (κ × Int)} {k : κ} {n : Int} (h : getI l k = some n) : (k, n) ∈ l := by
  unfold getI at h
  obtain ⟨x, hx, rfl⟩ := Option.map_eq_some_iff.mp h
  have e : x.1 = k := of_decide_eq_true (List.find?_some (p := fun x : κ × Int => decide (x.1 = k)) hx)
  rw [← e]
  exact List.mem_of_find?_eq_some hx
theorem getI_of {l : List (κ × Int)} {k : κ} {n : Int} (nd : (l.map (·.1)).Nodup) (h : (k, n) ∈ l) : getI l k = some n := by
  induction l with
  | nil => cases h
  | cons x l ih =>
    rw [List.map_cons, List.nodup_cons] at nd
    unfold getI
    rw [List.find?_cons]
    by_cases e : x.1 = k
    · rw [decide_eq_true e]
      rcases List.mem_cons.mp h with e2 | h
      · rw [← e2]; rfl
      · exact absurd (by rw [e]; exact List.mem_map_of_mem (f := (·.1)) h) nd.1
    · rw [decide_eq_false e]
      rcases List.mem_cons.mp h with e2 | h
      · rw [← e2] at e; exact absurd rfl e
      · exact ih nd.2 h
theorem getI_none {l : List (κ × Int)} {k : κ} (h : getI l k = none) : k ∉ l.map (·.1) := by
  unfold getI at h
  intro hm
  obtain ⟨x, hx, e⟩ := List.mem_map.mp hm
  have : l.find? (fun x => decide (x.1 = k)) = none := by
    cases q : l.find? (fun x => decide (x.1 = k)) with
    | none => rfl
    | some y => rw [q] at h; cases h
  exact (List.find?_eq_none.mp this) x hx (decide_eq_true e)
theorem putI_keys {l : List (κ × Int)} {k : κ} {n : Int} (h : (getI l k).isSome = true) : (putI l k n).map (·.1) = l.map (·.1) := by
  unfold putI
  split
  · rw [List.map_map]
    refine List.map_congr_left fun x _ => ?_
    show (if x.1 = k then (x.1, n) else x).1 = x.1
    split <;> rfl
  · rename_i q
    obtain ⟨m, hm⟩ := Option.isSome_iff_exists.mp h
    exact absurd (List.any_eq_true.mpr ⟨(k, m), getI_mem hm, decide_eq_true rfl⟩) q
theorem putI_nodup {l : List (κ × Int)} {k : κ} {n : Int} (nd : (l.map (·.1)).Nodup) : ((putI l k n).map (·.1)).Nodup := by
  cases h : getI l k with
  | some m => rw [putI_keys (by rw [h]; rfl)]; exact nd
  | none =>
    have := getI_none h
    rw [putI_new this, List.map_append]
    exact List.nodup_append.mpr ⟨nd, by simp, fun a ha b hb e => by simp at hb; subst hb; exact this (e ▸ ha)⟩
theorem putI_mem {l : List (κ × Int)} {k : κ} {n : Int} {x : κ × Int} (h : x ∈ putI l k n) : x = (k, n) ∨ (x ∈ l ∧ x.1 ≠ k) := by
  unfold putI at h
  split at h
  · obtain ⟨y, hy, e⟩ := List.mem_map.mp h
    by_cases q : y.1 = k
    · rw [if_pos q] at e; left; rw [← e, q]
    · rw [if_neg q] at e; right; rw [← e]; exact ⟨hy, q⟩
  · rename_i q
    rcases List.mem_append.mp h with h | h
    · right
      refine ⟨h, fun e => q (List.any_eq_true.mpr ⟨x, h, decide_eq_true e⟩)⟩
    · left; exact List.mem_singleton.mp h
theorem putI_get {l : List (κ × Int)} {k : κ} {n : Int} : getI (putI l k n) k = some n := by
  unfold putI
  split
  · rename_i q
    induction l with
    | nil => cases q
    | cons x l ih =>
      rw [List.map_cons]
      unfold getI
      rw [List.find?_cons]
      by_cases e : x.1 = k
      · rw [if_pos e]
        simp [e]
      · rw [if_neg e, decide_eq_false e]
        refine ih ?_
        rw [List.any_cons, decide_eq_false e] at q
        exact q
  · rename_i q
    unfold getI
    rw [List.find?_append]
    have : l.find? (fun x => decide (x.1 = k)) = none := by
      rw [List.find?_eq_none]
      intro x hx e
      exact q (List.any_eq_true.mpr ⟨x, hx, e⟩)
    rw [this]
    simp
theorem putI_get_ne {l : List (κ × Int)} {k j : κ} {n : Int} (h : j ≠ k) : getI (putI l k n) j = getI l j := by
  unfold putI
  split
  · rename_i hq
    clear hq
    induction l with
    | nil => rfl
    | cons x l ih =>
      rw [List.map_cons]
      unfold getI at ih ⊢
      rw [List.find?_cons, List.find?_cons]
      by_cases e : x.1 = k
      · rw [if_pos e]
        have : ¬ x.1 = j := fun z => h (z.symm.trans e)
        rw [decide_eq_false this]
        exact ih
      · rw [if_neg e]
        cases decide (x.1 = j) with
        | true => rfl
        | false => exact ih
  · unfold getI
    rw [List.find?_append]
    cases l.find? (fun x => decide (x.1 = j)) with
    | some y => rfl
    | none =>
      have : ¬ k = j := fun z => h z.symm
      simp [this]
theorem dropI_mem {l : List (κ × Int)} {k : κ} {x : κ × Int} : x ∈ dropI l k ↔ x ∈ l ∧ x.1 ≠ k := by
  unfold dropI
  rw [List.mem_filter]
  simp
theorem dropI_nodup {l : List (κ × Int)} {k : κ} (nd : (l.map (·.1)).Nodup) : ((dropI l k).map (·.1)).Nodup := by
  unfold dropI
  exact List.Nodup.sublist (List.Sublist.map _ List.filter_sublist) nd
end
/-! ### the steps -/
abbrev Door := Str × Int
abbrev dk (d : Door) : List Key := [.inr d.1, .inl d.2]
theorem dk_inj {a b : Door} (h : dk a = dk b) : a = b := by
  obtain ⟨a1, a2⟩ := a
  obtain ⟨b1, b2⟩ := b
  have h := List.cons.inj h
  have h1 := Sum.inr.inj h.1
  have h2 := Sum.inl.inj (List.cons.inj h.2).1
  dsimp only at h1 h2
  rw [h1, h2]
abbrev LT := List (Door × Int)
def encL (l : LT) : List (List Key × Int) := l.map fun e => (dk e.1, e.2)
theorem encL_get {l : LT} {d : Door} : getI (encL l) (dk d) = getI l d := by
  unfold getI encL
  rw [List.find?_map, Option.map_map]
  have : ((fun x : List Key × Int => decide (x.1 = dk d)) ∘ fun e : Door × Int => (dk e.1, e.2)) = fun x => decide (x.1 = d) := by
    funext e
    show decide (dk e.1 = dk d) = decide (e.1 = d)
    rw [decide_eq_decide]
    exact ⟨dk_inj, fun z => by rw [z]⟩
  rw [this]; rfl
theorem encL_put {l : LT} {d : Door} {n : Int} : putI (encL l) (dk d) n = encL (putI l d n) := by
  unfold putI
  have e1 : ((encL l).any fun x => decide (x.1 = dk d)) = (l.any fun x => decide (x.1 = d)) := by
    unfold encL
    rw [List.any_map]
    congr 1
    funext e
    show decide (dk e.1 = dk d) = decide (e.1 = d)
    rw [decide_eq_decide]
    exact ⟨dk_inj, fun z => by rw [z]⟩
  rw [e1]
  split
  · unfold encL
    rw [List.map_map, List.map_map]
    refine List.map_congr_left fun e _ => ?_
    show (if dk e.1 = dk d then (dk e.1, n) else (dk e.1, e.2)) = (dk (if e.1 = d then (e.1, n) else e).1, (if e.1 = d then (e.1, n) else e).2)
    by_cases q : e.1 = d
    · rw [if_pos q, if_pos (by rw [q])]
    · rw [if_neg q, if_neg (fun z => q (dk_inj z))]
  · unfold encL
    rw [List.map_append]; rfl
theorem encL_drop {l : LT} {d : Door} : dropI (encL l) (dk d) = encL (dropI l d) := by
  unfold dropI encL
  rw [List.filter_map]
  congr 1
  refine List.filter_congr fun e _ => ?_
  show decide (dk e.1 ≠ dk d) = decide (e.1 ≠ d)
  rw [decide_eq_decide]
  exact ⟨fun z q => z (by rw [q]), fun z q => z (dk_inj q)⟩
abbrev Num := Str → Option Int × Option Int
structure DS where
  num : Num
  left : LT
def numAt (num : Num) (d : Door) : Option Int := at2 (num d.1) d.2
def setN (num : Num) (d : Door) (n : Int) : Num := fun y => if y = d.1 then (if d.2 = 0 then (some n, (num y).2) else ((num y).1, some n)) else num y
theorem setN_same {num : Num} {d : Door} {n : Int} (hk : d.2 = 0 ∨ d.2 = 1) : numAt (setN num d n) d = some n := by
  unfold numAt setN at2
  rw [if_pos rfl]
  rcases hk with e | e <;> simp [e]
theorem setN_ne {num : Num} {d e : Door} {n : Int} (hd : d.2 = 0 ∨ d.2 = 1) (he : e.2 = 0 ∨ e.2 = 1) (h : e ≠ d) : numAt (setN num d n) e = numAt num e := by
  obtain ⟨x, i⟩ := d
  obtain ⟨y, j⟩ := e
  unfold numAt setN at2
  dsimp only at *
  by_cases q : y = x
  · subst q
    rw [if_pos rfl]
    rcases hd with e1 | e1 <;> rcases he with e2 | e2 <;> subst e1 <;> subst e2 <;> first | exact absurd rfl h | rfl
  · rw [if_neg q]
def pushOne (num : Num) (here : Int) (left : LT) (e : Str × Int) : LT :=
  if (numAt num (e.1, (here + e.2) % 2)).isNone && decide (here + e.2 < (getI left (e.1, (here + e.2) % 2)).getD (here + e.2 + 1)) then putI left (e.1, (here + e.2) % 2) (here + e.2) else left
def stepD (ws : List Way) (s : DS) : DS := match s.left[firstLeast (s.left.map (·.2))]? with
  | none => s
  | some e => ⟨setN s.num e.1 e.2, (adj ws e.1.1).foldl (pushOne (setN s.num e.1 e.2) e.2) (dropI s.left e.1)⟩
def runD (ws : List Way) : Nat → DS → DS
  | 0, s => s
  | n + 1, s => if s.left = [] then s else runD ws n (stepD ws s)
def nn (p : Option Int × Option Int) : Nat := (if p.1.isNone then 1 else 0) + (if p.2.isNone then 1 else 0)
def nones (folk : List Str) (num : Num) : Nat := (folk.map fun x => nn (num x)).sum
/-- what stands while it goes on -/
structure Good (folk : List Str) (s : DS) : Prop where
  nd : (s.left.map (·.1)).Nodup
  ok : ∀ e ∈ s.left, e.1.1 ∈ folk ∧ (e.1.2 = 0 ∨ e.1.2 = 1) ∧ numAt s.num e.1 = none
theorem nones_drop {folk : List Str} (nd : folk.Nodup) {num : Num} {d : Door} {n : Int} (hm : d.1 ∈ folk) (hk : d.2 = 0 ∨ d.2 = 1) (h : numAt num d = none) : nones folk (setN num d n) + 1 = nones folk num := by
  unfold nones
  induction folk with
  | nil => cases hm
  | cons x l ih =>
    rw [List.nodup_cons] at nd
    rw [List.map_cons, List.map_cons, List.sum_cons, List.sum_cons]
    by_cases e : x = d.1
    · have rest : (l.map fun x => nn (setN num d n x)) = l.map fun x => nn (num x) := List.map_congr_left fun y hy => by
        unfold setN
        rw [if_neg (fun z => nd.1 (by rw [e, ← z]; exact hy))]
      rw [rest]
      have : nn (setN num d n x) + 1 = nn (num x) := by
        unfold setN nn
        unfold numAt at2 at h
        rw [if_pos e]
        rcases hk with k | k
        · rw [if_pos k] at h ⊢
          rw [← e] at h
          rw [h]
          simp
          omega
        · have k0 : ¬ d.2 = 0 := by omega
          rw [if_neg k0] at h ⊢
          rw [← e] at h
          rw [h]
          simp
      omega
    · have hm2 : d.1 ∈ l := by
        rcases List.mem_cons.mp hm with q | q
        · exact absurd q.symm e
        · exact q
      have := ih nd.2 hm2
      have e2 : nn (setN num d n x) = nn (num x) := by unfold setN; rw [if_neg e]
      omega
theorem nones_pos {folk : List Str} {num : Num} {d : Door} (hm : d.1 ∈ folk) (h : numAt num d = none) : 0 < nones folk num := by
  unfold nones
  induction folk with
  | nil => cases hm
  | cons x l ih =>
    rw [List.map_cons, List.sum_cons]
    rcases List.mem_cons.mp hm with q | q
    · have : 0 < nn (num x) := by
        unfold nn
        unfold numAt at2 at h
        rw [q] at h
        split at h
        · rw [h]; simp; omega
        · rw [h]; simp
      omega
    · have := ih q; omega
theorem push_good {folk : List Str} {num : Num} {here : Int} {left : LT} {e : Str × Int} (he : e.1 ∈ folk) (h : Good folk ⟨num, left⟩) : Good folk ⟨num, pushOne num here left e⟩ := by
  unfold pushOne
  split
  · rename_i q
    rw [Bool.and_eq_true] at q
    refine ⟨putI_nodup h.nd, fun x hx => ?_⟩
    rcases putI_mem hx with e1 | ⟨e1, _⟩
    · subst e1
      refine ⟨he, mod2 _, ?_⟩
      exact Option.isNone_iff_eq_none.mp q.1
    · exact h.ok x e1
  · exact h
theorem pushes_good {folk : List Str} {num : Num} {here : Int} : ∀ (es : List (Str × Int)) {left : LT}, (∀ e ∈ es, e.1 ∈ folk) → Good folk ⟨num, left⟩ → Good folk ⟨num, es.foldl (pushOne num here) left⟩
  | [], _, _, h => h
  | e :: es, left, he, h => pushes_good es (fun x hx => he x (List.mem_cons_of_mem _ hx)) (push_good (he e (List.mem_cons_self ..)) h)
theorem least_some {l : LT} (h : l ≠ []) : ∃ e, l[firstLeast (l.map (·.2))]? = some e ∧ e ∈ l ∧ ∀ x ∈ l, e.2 ≤ x.2 := by
  have hn : l.map (·.2) ≠ [] := by simpa using h
  obtain ⟨h1, h2⟩ := firstLeast_le hn
  rw [List.length_map] at h1
  refine ⟨l[firstLeast (l.map (·.2))], List.getElem?_eq_getElem h1, List.getElem_mem h1, fun x hx => ?_⟩
  obtain ⟨j, hj, ej⟩ := List.getElem_of_mem hx
  have := h2 j (by rw [List.length_map]; exact hj)
  rw [List.getD_eq_getElem?_getD, List.getD_eq_getElem?_getD, List.getElem?_map, List.getElem?_map, List.getElem?_eq_getElem h1, List.getElem?_eq_getElem hj] at this
  rw [← ej]
  exact this
theorem adj_folk {W : Web} (h : OkWeb W) {x : Str} : ∀ e ∈ adj W.ways x, e.1 ∈ W.folk := by
  intro e he
  unfold adj at he
  obtain ⟨w, hw, he⟩ := List.mem_flatMap.mp he
  unfold adjOne at he
  rcases List.mem_append.mp he with he | he
  · split at he
    · rw [List.mem_singleton.mp he]; exact (h.ways w hw).two
    · cases he
  · split at he
    · rw [List.mem_singleton.mp he]; exact (h.ways w hw).one
    · cases he
theorem dropped_good {folk : List Str} {s : DS} (g : Good folk s) {e : Door × Int} (he : e ∈ s.left) : Good folk ⟨setN s.num e.1 e.2, dropI s.left e.1⟩ := by
  refine ⟨dropI_nodup g.nd, fun x hx => ?_⟩
  obtain ⟨h1, h2⟩ := dropI_mem.mp hx
  obtain ⟨a1, a2, a3⟩ := g.ok x h1
  obtain ⟨_, b2, _⟩ := g.ok e he
  exact ⟨a1, a2, (setN_ne b2 a2 h2).trans a3⟩
theorem step_good {W : Web} (h : OkWeb W) {s : DS} (g : Good W.folk s) (hl : s.left ≠ []) : Good W.folk (stepD W.ways s) ∧ nones W.folk (stepD W.ways s).num + 1 = nones W.folk s.num := by
  obtain ⟨e, h1, h2, _⟩ := least_some hl
  unfold stepD
  rw [h1]
  obtain ⟨b1, b2, b3⟩ := g.ok e h2
  exact ⟨pushes_good _ (adj_folk h) (dropped_good g h2), nones_drop h.fk.nd b1 b2 b3⟩
def startD (lot : List Str) : DS := ⟨fun _ => (none, none), lot.map fun x => ((x, 0), 0)⟩
theorem start_good {folk lot : List Str} (h : OkLot folk lot) : Good folk (startD lot) := by
  refine ⟨?_, fun e he => ?_⟩
  · show ((lot.map fun x => ((x, 0), 0)).map fun e : Door × Int => e.1).Nodup
    rw [List.map_map]
    refine (List.pairwise_map.mpr (h.nd.imp fun {a b} q e => q ?_))
    exact (Prod.mk.inj e).1
  · obtain ⟨x, hx, rfl⟩ := List.mem_map.mp he
    exact ⟨h.sub x hx, .inl rfl, rfl⟩
/-- the end -/
def finD (W : Web) (s : DS) : DS := runD W.ways (nones W.folk s.num) s
theorem fin_nil {W : Web} {s : DS} (h : s.left = []) : finD W s = s := by
  unfold finD
  cases nones W.folk s.num with
  | zero => rfl
  | succ n => unfold runD; rw [if_pos h]
theorem fin_step {W : Web} (h : OkWeb W) {s : DS} (g : Good W.folk s) (hl : s.left ≠ []) : finD W s = finD W (stepD W.ways s) := by
  obtain ⟨_, e⟩ := step_good h g hl
  unfold finD
  rw [← e]
  show (if s.left = [] then s else _) = _
  rw [if_neg hl]
/-- the numbers that reaches_of finds -/
def reachD (W : Web) (lot : List Str) : DS := finD W (startD lot)
def fndOf (folk : List Str) (num : Num) : Fnd := folk.map fun x => (x, num x)
def reach (W : Web) (lot : List Str) : Fnd := fndOf W.folk (reachD W lot).num
end Z
set_option maxRecDepth 100000
set_option maxHeartbeats 4000000
/-! F7: reaches_of. Own work. -/
namespace Z
open PySem PySem.Spec L2
local macro_rules | `(tactic| walk_at "ev") => `(tactic| repeat' (first
  | with_reducible apply eva_nil
  | ((with_reducible apply ev_var); rfl)
  | with_reducible apply ev_int
  | with_reducible apply ev_str
  | with_reducible apply ev_bl
  | with_reducible apply ev_non
  | ((with_reducible show PySem.W.Frag); assumption)
  | with_reducible apply eva_cons
  | with_reducible apply ev_cb
  | with_reducible apply ev_op
  | with_reducible apply cbe_min2
  | with_reducible apply cbe_max2
  | with_reducible apply ope_I
  | with_reducible apply ope_B
  | with_reducible apply ope_isN
  | with_reducible apply ope_notN
  | with_reducible apply ope_eqi
  | with_reducible apply ope_nei
  | with_reducible apply ope_eqs
  | with_reducible apply ope_nes
  | with_reducible apply evt_test
  | with_reducible apply rtn_ret))
section
variable {P : Program} {w : World} {K : PySem.W.Frag} {mg : Str → Option Value} {base : Heap}
variable {G G1 G2 : Gm} {M M1 M2 : OM}
theorem fn_okC {k : Nat} {x qual : Str} {f : Addr} {fd : FuncData} {sp : Sp} {N ps : List Str} {params : Arguments} {body : List Stmt} {scope : Scope} {dvs : List V} {p : Str × Option Str} (F : FunD K x qual params body scope dvs [] f fd) (S : FnScope N ps scope) (hf : f = He.fAd K p) (len : ∀ vs H Q E, sp vs H Q E → vs.length = ps.length)
    (hbody : ∀ (A : Around) (outer : List Env) (s : Shared) (H : Hp) (E : XK), Room k (A.deeper (PyProof.Rows.envOfC qual scope s.heap.objs.size f (.ref (He.codeOf K p)))) →
      ∃ t, PSs (cxOf CX0 P w K mg base N qual scope f (.ref (He.codeOf K p)) A outer s H E).nox body t ∧ ∀ vs Q, sp vs H Q E → t { nx := fun _ H' => Q .non H', rt := Q } (L2.start N vs) H) : FnOk P w K mg base CX0 (k + 1) f fd ps sp := by
  obtain ⟨oc, od, dV, kV, doc, pm, an, cdv, ct, osl, rfl, lk, hcd, _, _⟩ := F.ex
  obtain ⟨c, rfl⟩ := He.codeIn_ref hcd
  subst hf
  have e := He.codeOf_eq (p := p) (c := c) lk rfl
  subst e
  exact fn_of lk hcd S len fun A outer s H vs Q E hr hsp => by
    obtain ⟨t, h1, h2⟩ := hbody A outer s H E hr
    exact ⟨t, h1.nox, h2 vs Q hsp⟩
abbrev TA (K : PySem.W.Frag) : Addr := He.tabOf K (He.codeOf K ("Doubled", some "reaches_of"))
def lamQ : Str := ("Doubled.reaches_of" : Str) ++ ".<locals>." ++ "<lambda>"
structure Tb (K : PySem.W.Frag) (M : OM) : Prop where
  at_ : M (TA K) = some (.tbl lamQ)
  uq : ∀ b q, M b = some (.tbl q) → b = TA K ∧ q = lamQ
theorem Tb.set {p : Addr} {c : OC} (t : Tb K M) (hp : ∀ q, M p ≠ some (.tbl q)) (hc : isTbl c = false) : Tb K (M.set p c) := by
  refine ⟨?_, fun b q e => ?_⟩
  · rw [OM.set_ne (fun z => hp _ (z ▸ t.at_))]; exact t.at_
  · by_cases e1 : b = p
    · subst e1; rw [OM.set_same] at e; cases e; cases hc
    · rw [OM.set_ne e1] at e; exact t.uq b q e
theorem Tb.new {p : Addr} {c : OC} (t : Tb K M) (hp : M p = none) (hc : isTbl c = false) : Tb K (M.set p c) := t.set (fun q e => by rw [hp] at e; cases e) hc
theorem Tb.owns {L : NA} {cont : Str → List Pr} (t : Tb K M) (ok : NAok M L) : Tb K (owns M L cont) := by
  refine ⟨?_, fun b q e => ?_⟩
  · rw [owns_out fun hm => ?_]
    · exact t.at_
    · obtain ⟨q, hq, e⟩ := List.mem_map.mp hm
      have := ok.fr q hq
      rw [e, t.at_] at this; cases this
  · rcases owns_cases (M := M) (L := L) (cont := cont) b with ⟨x, _, e2⟩ | ⟨_, e2⟩
    · rw [e2] at e; cases e
    · rw [e2] at e; exact t.uq b q e
theorem Evl.st {t : TE} {P P' : Pr} (h : Evl G M t P M1) (f : ∀ v F, Sta P v F → Sta P' v F) : Evl G M t P' M1 := fun σ H Q a k => h σ H Q a fun v H' s q => k v H' s (f _ _ q)
theorem Nrm.c {t : TS} {G2 : Gm} {M2 : OM} (h : Nrm G M t G1 M1) (e : G1 = G2 := by rfl) (e2 : M1 = M2 := by rfl) : Nrm G M t G2 M2 := by subst e; subst e2; exact h
theorem dk_imp {l : List Str} {f g : Str → Pr} {v : V} {F : Hp} (h : Sta (Dk (l.map fun x => (.inr x, f x))) v F) (hf : ∀ x u F, Sta (f x) u F → Sta (g x) u F) : Sta (Dk (l.map fun x => (.inr x, g x))) v F := by
  obtain ⟨a, od, vs, rfl, e1, e2⟩ := h.here
  refine dk_of e1 ?_
  clear e1 h
  induction l generalizing vs with
  | nil => cases e2; exact .nil
  | cons x l ih => cases e2 with
    | cons r t => exact .cons ⟨r.1, hf _ _ _ r.2⟩ (ih _ t)
theorem names_get {f : Str → Pr} {l : List Str} {x : Str} (h : x ∈ l) : ((l.map fun x => ((.inr x : Key), f x)).find? fun y => decide (y.1 = .inr x)).map (·.2) = some (f x) := by
  induction l with
  | nil => cases h
  | cons y l ih =>
    rw [List.map_cons, List.find?_cons]
    by_cases e : y = x
    · rw [decide_eq_true (show (.inr y : Key) = .inr x by rw [e])]
      rw [e]; rfl
    · rw [decide_eq_false (show ¬ (.inr y : Key) = .inr x from fun z => e (Sum.inr.inj z))]
      rcases List.mem_cons.mp h with e2 | h
      · exact absurd e2.symm e
      · exact ih h
/-- no list without doubles is longer than the one that holds it -/
theorem len_sub {α : Type} [DecidableEq α] : ∀ {l m : List α}, l.Nodup → (∀ x ∈ l, x ∈ m) → l.length ≤ m.length
  | [], _, _, _ => Nat.zero_le _
  | x :: l, m, nd, h => by
    rw [List.nodup_cons] at nd
    have hx : x ∈ m := h x (List.mem_cons_self ..)
    have := len_sub (l := l) (m := m.erase x) nd.2 fun y hy => (List.mem_erase_of_ne (fun e : y = x => nd.1 (by rw [← e]; exact hy))).mpr (h y (List.mem_cons_of_mem _ hy))
    rw [List.length_erase_of_mem hx] at this
    have : 0 < m.length := List.length_pos_of_mem hx
    rw [List.length_cons]; omega
theorem good_len {W : Web} (h : OkWeb W) {num : Num} {l : LT} (g : Good W.folk ⟨num, l⟩) : l.length ≤ 100 := by
  have h1 := len_sub (m := W.folk.flatMap fun x => [(x, (0 : Int)), (x, 1)]) g.nd fun d hd => by
    obtain ⟨e, he, rfl⟩ := List.mem_map.mp hd
    obtain ⟨a, b, _⟩ := g.ok e he
    refine List.mem_flatMap.mpr ⟨e.1.1, a, ?_⟩
    rcases b with q | q
    · exact List.mem_cons.mpr (.inl (Prod.ext rfl q))
    · exact List.mem_cons.mpr (.inr (List.mem_singleton.mpr (Prod.ext rfl q)))
  rw [List.length_map] at h1
  have h2 : ∀ l : List Str, (l.flatMap fun x => [(x, (0 : Int)), (x, 1)]).length = 2 * l.length := by
    intro l
    induction l with
    | nil => rfl
    | cons x l ih => rw [List.flatMap_cons, List.length_append, ih, List.length_cons]; simp; omega
  rw [h2] at h1
  have := h.f8
  show l.length ≤ 100
  have h1 : l.length ≤ 2 * W.folk.length := h1
  omega
theorem set_id {α : Type} : ∀ {l : List α} {i : Nat} {x : α}, l[i]? = some x → l.set i x = l
  | [], _, _, h => by cases h
  | y :: l, 0, x, h => by cases h; rfl
  | y :: l, i + 1, x, h => by
    rw [List.getElem?_cons_succ] at h
    show y :: l.set i x = _
    rw [set_id h]
abbrev reachN (folk : List Str) (num : Num) : Fnd := fndOf folk num
abbrev DbP (K : PySem.W.Frag) (W : Web) : Pr := InsP (He.ga K "Doubled") [("beside", Bd K W)]
inductive RReaches (K : PySem.W.Frag) : Ctr
  | mk {M : OM} {W : Web} {lot : List Str} (tb : Tb K M) (h : OkWeb W) (hl : OkLot W.folk lot) : RReaches K M [DbP K W, Dd K (.list (lot.map .str))] (Fd K (reach W lot)) M
abbrev ctN (K : PySem.W.Frag) (num : Num) : Str → List Pr := fun x => [Dd K (optD (num x).1), Dd K (optD (num x).2)]
theorem ctN_set {num : Num} {d : Door} {n : Int} (hk : d.2 = 0 ∨ d.2 = 1) : upC (ctN K num) d.1 ((ctN K num d.1).set d.2.toNat (Dd K (.int n))) = ctN K (setN num d n) := by
  funext y
  unfold upC
  show (if y = d.1 then _ else _) = [_, _]
  unfold setN
  by_cases e : y = d.1
  · rw [if_pos e, if_pos e, e]
    rcases hk with q | q <;> rw [q] <;> rfl
  · rw [if_neg e, if_neg e]
abbrev n_Doubled_reaches_of : List Str := ["self", "starters", "found", "left", "name", "kind", "here", "other", "beats", "then"]
theorem sc_Doubled_reaches_of : FnScope n_Doubled_reaches_of ["self", "starters"] (defScope (inClass (top 2) 1)) := ⟨rfl, rfl, rfl, by decide +kernel, rfl, by decide +kernel, by decide +kernel⟩
theorem ok_Doubled_reaches_of (T : Tx K mg base) : Met P w K mg base 3 (He.ga K "Doubled") "reaches_of" (SpR (RReaches K)) := by
  obtain ⟨fd, F⟩ := T.fd_Doubled_reaches_of
  have nd := sc_Doubled_reaches_of.nd
  let nm := n_Doubled_reaches_of
  let scp := defScope (inClass (top 2) 1)
  refine ⟨_, fd, ["self", "starters"], T.c_Doubled, T.m_Doubled_reaches_of, (fn_okC (k := 2) (p := ("Doubled", some "reaches_of")) F sc_Doubled_reaches_of rfl (sp_len fun _ _ _ _ h => by cases h <;> rfl) fun A outer s H E hr => ?_), (F.bindsN fun _ _ _ _ _ _ us hl => match us, hl with | [_, _], _ => rfl)⟩
  have hu := hu_of hr
  refine ⟨_, (pss_cons (ps_setDcL (i := 2) (own := [("name", 4)]) rfl nd rfl rfl (sw_dict rfl rfl rfl (by decide +kernel)) (pi_keys (pe_fldK (K := K) rfl (pv 0) rfl)) (blkOk_by (own := [("name", 4)]) (N := nm) (sc := scp) (by decide +kernel)) (fun _ _ _ _ _ => (pg_name (i := 4) nd rfl (by first | exact Or.inl rfl | exact Or.inr rfl))) (fun _ _ _ _ _ => pts_nil) (fun _ _ _ _ _ => (pv 4)) (fun _ _ _ _ _ => (pe_lst (pa_cons pe_non (pa_cons pe_non pa_nil)))))
    (pss_cons (ps_set (i := 3) nd rfl (by first | exact Or.inl rfl | exact Or.inr rfl) (pe_dcT (own := [("name", 4)]) hu rfl nd (pi_listK (K := K) rfl (pv 1)) (blkOk_by (own := [("name", 4)]) (N := nm) (sc := scp) (by decide +kernel)) (fun _ _ _ _ _ => (pg_name (i := 4) nd rfl (by first | exact Or.inl rfl | exact Or.inr rfl))) (fun _ _ _ _ _ => pts_nil) (fun _ _ _ _ _ => (pe_tup (pa_cons (pv 4) (pa_cons pe_int pa_nil)))) (fun _ _ _ _ _ => pe_int)))
    (pss_cons (ps_while PassesOwn.never (pt_cmpR (op_ne0 hr.units0) (pv 3) pe_dnewT (nomark _))
    (pss_cons (ps_asg (pe_minL (m := "") (k0 := 0) (i := 3) (c := He.codeOf K ("Doubled", some "reaches_of")) (P := He.tabOf K (He.codeOf K ("Doubled", some "reaches_of"))) rfl hr T.tb rfl (lamP_by (by rfl)) rfl rfl (by rfl) (fun _ _ _ _ _ _ _ => rfl) rfl rfl (by decide) rfl T.f_min) (pg_tupK (K := K) (n := 2) rfl (by rfl) (pgs_cons (pg_name (i := 4) nd rfl (by first | exact Or.inl rfl | exact Or.inr rfl)) (pgs_cons (pg_name (i := 5) nd rfl (by first | exact Or.inl rfl | exact Or.inr rfl)) pgs_nil))))
    (pss_cons (ps_set (i := 6) nd rfl (by first | exact Or.inl rfl | exact Or.inr rfl) (pe_bm PySem.F.plainAttrs_dict PySem.F.slot_dict_pop PySem.F.type_dict_pop (mt_popT1 hu) (pv 3) (pa_cons (pe_tup (pa_cons (pv 4) (pa_cons (pv 5) pa_nil))) pa_nil)))
    (pss_cons (ps_asg (pv 6) (pg_sub (pe_dget hu (pv 2) (pv 4) (fun _ _ => rfl)) (pv 5) set_list))
    (pss_one (ps_for PassesOwn.never rfl (pi_listK (K := K) rfl (pe_dget hu (pe_fldK (K := K) rfl (pv 0) rfl) (pv 4) (fun _ _ => rfl))) (pg_tupK (K := K) (n := 2) rfl (by rfl) (pgs_cons (pg_name (i := 7) nd rfl (by first | exact Or.inl rfl | exact Or.inr rfl)) (pgs_cons (pg_name (i := 8) nd rfl (by first | exact Or.inl rfl | exact Or.inr rfl)) pgs_nil)))
    (pss_cons (ps_set (i := 9) nd rfl (by first | exact Or.inl rfl | exact Or.inr rfl) (pe_tup (pa_cons (pv 7) (pa_cons (pe_op op_mod (pe_op op_add (pv 6) (pv 8)) pe_int) pa_nil))))
    (pss_one (ps_if (PW.pt (pw_and (pt_cmpR op_isN (pe_ix (ix_K (K := K) rfl) (pe_dget hu (pv 2) (pv 7) (fun _ _ => rfl)) (pe_ix (ix_K (K := K) rfl) (pv 9) pe_int (fun _ _ => rfl)) (fun _ _ => rfl)) pe_non (nomark _)) (pw_and1 (pt_cmpR op_lt (pe_op op_add (pv 6) (pv 8)) (pe_dget2 hu (pv 3) (pv 9) (pe_op op_add (pe_op op_add (pv 6) (pv 8)) pe_int) ⟨rfl, rfl, rfl, rfl⟩) (nomark _))))) (pss_one (ps_dput hu (pv 3) (pv 9) (pe_op op_add (pv 6) (pv 8)) rfl)) pss_nil)))))))))
    (pss_one (ps_ret (pv 2)))))), fun vs Q h => end_rtn h ?_⟩
  try dsimp only [cx_K]
  rintro _ _ _ _ ⟨tb, h, hl⟩
  rename_i M W lot
  have n8 := h.f8
  have cl := T.c_Doubled
  have nb := T.n_Doubled_beside
  let G9 : Gm := [some (DbP K W), some (Dd K (.list (lot.map .str))), none, none, none, none, none, none, none, none]
  have hi : EvI G9 M (iKeys (tFld K (tVar 0) "beside")) W.folk.length (at_ (W.folk.map fun x => Dd K (.str x))) M := by
    have := evi_keysL (K := K) (G := G9) (M := M) (ev_fld (K := K) (G := G9) (M := M) (ta := tVar 0) (P := Bd K W) cl nb (by walk_at "ev") rfl)
    rwa [List.length_map, List.map_map] at this
  have comp := evx_lists (K := K) (tk := tVar 4) (tv := tLst (tCons (tC .non) (tCons (tC .non) tNil))) (g := gName 4) (vs := [4]) W.folk [Dd K .none, Dd K .none] hi (Nat.lt_of_le_of_lt n8 (by decide)) h.fk.nd (show 2 ≤ sizeLine by decide) fun y M2 _ => ⟨_, _, rfl, evgw_name (by decide), by walk_at "ev", by walk_at "ev"⟩
  refine rtn_seqx (nrmx_set comp) ?_
  rintro _ _ ⟨_, ⟨L, h1, h2, rfl, rfl⟩, rfl⟩
  let num0 : Num := fun _ => (none, none)
  show Rtn (G9.set 2 (some (Dk (kR L)))) (owns M L (ctN K num0)) _ _ _
  have hi2 := evi_listD (K := K) (G := G9.set 2 (some (Dk (kR L)))) (M := owns M L (ctN K num0)) (tl := tVar 1) (ds := lot.map .str) (by walk_at "ev")
  rw [List.length_map, List.map_map] at hi2
  have nd0 : (lot.map fun x => dk (x, 0)).Nodup := List.pairwise_map.mpr (hl.nd.imp fun {a b} q e => q (Prod.mk.inj (dk_inj e)).1)
  refine rtn_seqx (nrmx_set (evx_dcT (K := K) lot (Dd K ∘ PyData.str) (fun x => dk (x, 0)) (fun _ => 0) hi2 (Nat.lt_of_le_of_lt hl.l8 (by decide)) nd0 fun x hx D c hD => ⟨_, evgw_name (by decide), ev_tupK (dk (x, 0)) (eva_cons (ev_var rfl) (eva_cons ev_int eva_nil)) (show 2 ≤ sizeLine by decide), ev_int⟩)) ?_
  rintro _ _ ⟨_, ⟨d, hd, rfl, rfl⟩, rfl⟩
  have hdL : d ∉ L.map (·.2) := fun hm => by
    obtain ⟨q, hq, e⟩ := List.mem_map.mp hm
    have := owns_in (M := M) (cont := ctN K num0) h2.na (x := q.1) (a := q.2) hq
    rw [e, hd] at this
    cases this
  have hMd : M d = none := by rw [owns_out hdL] at hd; exact hd
  let Md : Num → LT → OM := fun num l => (owns M L (ctN K num)).set d (.dT (intT K (encL l)))
  have hod : ∀ num, owns M L (ctN K num) d = none := fun num => by rw [owns_out hdL]; exact hMd
  have tbd : ∀ num l, Tb K (Md num l) := fun num l => (tb.owns h2).new (hod num) rfl
  have hmd : ∀ num l, Md num l d = some (.dT (intT K (encL l))) := fun num l => OM.set_same
  have hma : ∀ num l x a, (x, a) ∈ L → Md num l a = some (.lst (ctN K num x)) := fun num l x a hm => by
    have : a ≠ d := fun z => hdL (by rw [← z]; exact List.mem_map_of_mem (f := (·.2)) hm)
    show ((owns M L (ctN K num)).set d _) a = _
    rw [OM.set_ne this]; exact owns_in h2.na hm
  have setd : ∀ num l l', (Md num l).set d (.dT (intT K (encL l'))) = Md num l' := fun num l l' => OM.set_set
  have seta : ∀ num l (dr : Door) a n, (dr.1, a) ∈ L → (dr.2 = 0 ∨ dr.2 = 1) → (Md num l).set a (.lst ((ctN K num dr.1).set dr.2.toNat (Dd K (.int n)))) = Md (setN num dr n) l := fun num l dr a n hm hk => by
    have : a ≠ d := fun z => hdL (by rw [← z]; exact List.mem_map_of_mem (f := (·.2)) hm)
    show ((owns M L (ctN K num)).set d _).set a _ = (owns M L (ctN K (setN num dr n))).set d _
    rw [OM.set_comm (fun z => this z.symm), owns_set h2 hm, ctN_set hk]
  let G0 : Gm := [some (DbP K W), some (Dd K (.list (lot.map .str))), some (Dk (kR L)), some (Rf d), none, none, none, none, none, none]
  have e0 : (owns M L (ctN K num0)).set d (.dT (intT K (lot.map fun a => (dk (a, 0), 0)))) = Md (startD lot).num (startD lot).left := by
    show _ = (owns M L (ctN K num0)).set d (.dT (intT K (encL (lot.map fun x => ((x, 0), 0)))))
    unfold encL
    rw [List.map_map]; rfl
  rw [e0]
  show Rtn G0 _ _ _ _
  refine rtn_seqx (nrmx_while (Ψ := oneS G0 (Md (reachD W lot).num (reachD W lot).left)) (fun m g m' => ∃ s, Good W.folk s ∧ nones W.folk s.num = m ∧ finD W s = reachD W lot ∧ g = G0 ∧ m' = Md s.num s.left) ⟨startD lot, start_good hl, rfl, rfl, rfl, rfl⟩ ?_) ?_
  · rintro _ _ _ ⟨s, gd, rfl, fin, rfl, rfl⟩
    refine ⟨!(encL s.left).isEmpty, evt_test (K := K) (ev_op (ev_var rfl) ev_dnew0 (ope_ne0T (hmd _ _))), fun e => ?_, fun e => ?_⟩
    · have : s.left = [] := by
        cases q : s.left with
        | nil => rfl
        | cons x l => rw [q] at e; cases e
      rw [fin_nil this] at fin
      rw [fin]
      exact ⟨rfl, rfl⟩
    · have hne : s.left ≠ [] := fun z => by rw [z] at e; cases e
      obtain ⟨gd2, nn2⟩ := step_good h gd hne
      suffices hb : Nrm G0 (Md s.num s.left) _ G0 (Md (stepD W.ways s).num (stepD W.ways s).left) from hb.x.imp fun g m' ⟨e1, e2⟩ => ⟨_, by omega, _, gd2, rfl, (fin_step h gd hne).symm.trans fin, e1, e2⟩
      obtain ⟨e, s1, s2, _⟩ := least_some hne
      obtain ⟨b1, b2, b3⟩ := gd.ok e s2
      obtain ⟨a, ha⟩ := na_mem h1 b1
      have es : stepD W.ways s = ⟨setN s.num e.1 e.2, (adj W.ways e.1.1).foldl (pushOne (setN s.num e.1 e.2) e.2) (dropI s.left e.1)⟩ := by unfold stepD; rw [s1]
      rw [es]
      generalize hnum : setN s.num e.1 e.2 = num1
      have hlen2 : (encL s.left).map (·.2) = s.left.map (·.2) := by unfold encL; rw [List.map_map]; rfl
      have hk : ((encL s.left)[firstLeast ((encL s.left).map (·.2))]?).map (·.1) = some (dk e.1) := by
        rw [hlen2]
        unfold encL
        rw [List.getElem?_map, s1]; rfl
      have hne2 : encL s.left ≠ [] := by unfold encL; simpa using hne
      refine nrm_seq (nrm_asg (show Evl G0 (Md s.num s.left) _ (Tp K [Dd K (.str e.1.1), Dd K (.int e.1.2)]) (Md s.num s.left) from Evl.st (ev_minL rfl (hmd _ _) (tbd _ _).at_ (tbd _ _).uq hne2 hk) fun v F q => kt_tp q) (evg_tup (evgs_cons evg_name (evgs_cons evg_name evgs_nil)) rfl)) ?_
      have hget : getI (encL s.left) (dk e.1) = some e.2 := by rw [encL_get]; exact getI_of gd.nd s2
      refine nrm_seq (nrm_set (P := Dd K (.int e.2)) (Evl.c (ev_popT (k := dk e.1) (ev_var rfl) (ev_tupK (dk e.1) (eva_cons (ev_var rfl) (eva_cons (ev_var rfl) eva_nil)) (show 2 ≤ sizeLine by decide)) (hmd _ _) hget) rfl (M' := Md s.num (dropI s.left e.1)) (by rw [encL_drop]; exact setd _ _ _))) ?_
      have hix : ixN (ctN K s.num e.1.1).length e.1.2 = some e.1.2.toNat := by
        show ixN 2 e.1.2 = _
        rcases b2 with q | q <;> rw [q] <;> rfl
      refine nrm_seq (Nrm.c (nrm_asg (P := Dd K (.int e.2)) (ev_var rfl) (evg_setO (ev_dgetL (K := K) (k := .inr e.1.1) (ev_var rfl) (ev_var rfl) (kr_get h2.nn ha)) (ev_var rfl) (hma _ _ _ _ ha) hix)) rfl ((seta _ _ _ _ _ ha b2).trans (by rw [hnum]))) ?_
      have hbd : ((W.folk.map fun x => ((.inr x : Key), Ls K ((adj W.ways x).map fun e => Dd K (adD e)))).find? fun y => decide (y.1 = .inr e.1.1)).map (·.2) = some (Ls K ((adj W.ways e.1.1).map fun e => Dd K (adD e))) := names_get b1
      let left1 := dropI s.left e.1
      let G4 : Gm := [some (DbP K W), some (Dd K (.list (lot.map .str))), some (Dk (kR L)), some (Rf d), some (Dd K (.str e.1.1)), some (Dd K (.int e.1.2)), some (Dd K (.int e.2)), none, none, none]
      have wk4 : Wk G4 G0 := wk_keep (wk_keep (wk_keep (wk_keep (wk_drop (wk_drop (wk_drop (wk_keep (wk_keep (wk_keep wk_nil)))))))))
      let lf : Nat → LT := fun i => ((adj W.ways e.1.1).take i).foldl (pushOne num1 e.2) left1
      have elf : lf (adj W.ways e.1.1).length = (adj W.ways e.1.1).foldl (pushOne num1 e.2) left1 := by show ((adj W.ways e.1.1).take _).foldl _ _ = _; rw [List.take_length]
      have gdl : ∀ i, Good W.folk ⟨num1, lf i⟩ := fun i => by
        have := pushes_good (here := e.2) ((adj W.ways e.1.1).take i) (fun x hx => adj_folk h x (List.mem_of_mem_take hx)) (dropped_good gd s2)
        rw [hnum] at this
        exact this
      show Nrm G4 (Md num1 left1) _ G0 (Md num1 ((adj W.ways e.1.1).foldl (pushOne num1 e.2) left1))
      rw [← elf]
      refine Nrm.weak (nrm_for (n := (adj W.ways e.1.1).length) (p := at_ ((adj W.ways e.1.1).map fun e => Dd K (adD e))) (fun _ => G4) (fun i => Md num1 (lf i)) ?_ ⟨rfl, fun _ _ q => q⟩ fun i hlt => ?_) wk4
      · have := evi_list (K := K) (G := G4) (M := Md num1 (lf 0)) (ev_dgetL (K := K) (k := .inr e.1.1) (ev_fld (K := K) (G := G4) (M := Md num1 (lf 0)) (ta := tVar 0) (P := Bd K W) cl nb (ev_var rfl) rfl) (ev_var (i := 4) rfl) hbd)
        rwa [List.length_map] at this
      · have hg : (adj W.ways e.1.1)[i]? = some (adj W.ways e.1.1)[i] := List.getElem?_eq_getElem hlt
        rw [at_map hg]
        have hmem : (adj W.ways e.1.1)[i] ∈ adj W.ways e.1.1 := List.getElem_mem hlt
        have eli : lf (i + 1) = pushOne num1 e.2 (lf i) (adj W.ways e.1.1)[i] := by
          show ((adj W.ways e.1.1).take (i + 1)).foldl _ _ = _
          rw [List.take_succ, hg, List.foldl_append]; rfl
        rw [eli]
        generalize (adj W.ways e.1.1)[i] = e2 at hmem
        have gl := gdl i
        generalize lf i = l at gl
        obtain ⟨a2, ha2⟩ := na_mem h1 (adj_folk h e2 hmem)
        have hll : l.length ≤ 100 := good_len h gl
        let k2 : Int := (e.2 + e2.2) % 2
        have hk2 : k2 = 0 ∨ k2 = 1 := mod2 _
        have add : ∀ {G : Gm} {M : OM}, G[6]? = some (some (Dd K (.int e.2))) → G[8]? = some (some (Dd K (.int e2.2))) → Evl G M (tOp (rI0 fun i j => .int (i + j)) (tVar 6) (tVar 8)) (Dd K (.int (e.2 + e2.2))) M := fun q1 q2 => ev_op (ev_var q1) (ev_var q2) ope_I
        let G8 : Gm := [some (DbP K W), some (Dd K (.list (lot.map .str))), some (Dk (kR L)), some (Rf d), some (Dd K (.str e.1.1)), some (Dd K (.int e.1.2)), some (Dd K (.int e.2)), some (Dd K (.str e2.1)), some (Dd K (.int e2.2)), some (Kt (dk (e2.1, k2)))]
        refine Body.weak (G1 := G8) (body_of (evg_tupD (evgs_cons evg_name (evgs_cons evg_name evgs_nil)) rfl) (nrm_seq (nrm_set (P := Kt (dk (e2.1, k2))) (ev_tupK (dk (e2.1, k2)) (eva_cons (ev_var rfl) (eva_cons (ev_op (add rfl rfl) ev_int (ope_IC (by decide))) eva_nil)) (show 2 ≤ sizeLine by decide))) (nrm_if (G2 := G8) (b := (numAt num1 (e2.1, k2)).isNone && decide (e.2 + e2.2 < (getI l (e2.1, k2)).getD (e.2 + e2.2 + 1))) (evt_and' ?_ ?_) (fun q => ?_) (fun q => ?_)))) (wk_keep (wk_keep (wk_keep (wk_keep (wk_keep (wk_keep (wk_keep (wk_drop (wk_drop (wk_drop wk_nil))))))))))
        · have hat : atI (ctN K num1 e2.1) k2 = some (Dd K (optD (numAt num1 (e2.1, k2)))) := by
            rcases hk2 with q | q <;> rw [q] <;> rfl
          refine EvT.c (b := isNon (optD (numAt num1 (e2.1, k2)))) (evt_test (K := K) (ev_op (ev_op (P1 := Rf a2) (P2 := Dd K (.int k2)) (ev_dgetL (K := K) (k := .inr e2.1) (ev_var rfl) (ev_var rfl) (kr_get h2.nn ha2)) (ev_op (P1 := Tp K [Dd K (.str e2.1), Dd K (.int k2)]) (Evl.st (ev_var rfl) fun v F q => kt_tp q) ev_int (ope_ixT rfl)) (ope_ixO (hma _ _ _ _ ha2) hat)) ev_non ope_isN)) ?_
          cases numAt num1 (e2.1, k2) <;> rfl
        · refine EvT.c (evt_test (K := K) (ev_op (add rfl rfl) (ev_dget2T (k := dk (e2.1, k2)) (ev_var rfl) (ev_var rfl) (ev_op (add rfl rfl) ev_int ope_I) (hmd _ _)) ope_B)) ?_
          rw [encL_get]
        · have ep : pushOne num1 e.2 l e2 = putI l (e2.1, k2) (e.2 + e2.2) := by unfold pushOne; rw [if_pos q]
          rw [ep]
          refine Nrm.c (nrm_dputT (k := dk (e2.1, k2)) (add rfl rfl) (ev_var rfl) (ev_var rfl) (hmd _ _) ?_) rfl ?_
          · unfold encL; rw [List.length_map]; exact Nat.lt_of_le_of_lt hll (by decide)
          · rw [encL_put]; exact setd _ _ _
        · have ep : pushOne num1 e.2 l e2 = l := by unfold pushOne; rw [if_neg (by rw [q]; exact Bool.false_ne_true)]
          rw [ep]
          exact nrm_next
  · rintro _ _ ⟨rfl, rfl⟩
    show Rtn G0 (Md (reachD W lot).num (reachD W lot).left) _ (Fd K (fndOf W.folk (reachD W lot).num)) _
    generalize reachD W lot = s at *
    have eF : Fd K (reachN W.folk s.num) = Dk (W.folk.map fun x => (.inr x, Dd K (prD (s.num x)))) := by
      unfold Fd reachN fndOf
      rw [List.map_map]; rfl
    refine rtn_shed (G1 := G0.set 2 (some (Fd K (reachN W.folk s.num)))) (M1 := M) (fun σ H a => ?_) (rtn_ret (ev_var rfl))
    obtain ⟨f1, _⟩ := Stp.freeze a.own (hmd s.num s.left) rfl
    rw [show (Md s.num s.left).del d = owns M L (ctN K s.num) from OM.del_set (hod _)] at f1
    have f2 := owns_stp h2 f1.own
    have st := f1.trans f2
    obtain ⟨v, v1, v2⟩ := a.env 2 (Dk (kR L)) rfl
    have v3 := owns_dk (K := K) h2 f1.own (v2.mono f1.frz)
    have eL : (L.map fun q => ((.inr q.1 : Key), Ls K (ctN K s.num q.1))) = W.folk.map fun x => (.inr x, Ls K (ctN K s.num x)) := by rw [← h1, List.map_map]; rfl
    rw [eL] at v3
    have v4 : Sta (Fd K (reachN W.folk s.num)) v (Frz M H) := by
      rw [eF]
      exact dk_imp v3 fun x u F q => dd_ls (ds := [optD (s.num x).1, optD (s.num x).2]) q
    have := (a.step st).set 2 v4
    rw [set_id v1] at this
    exact ⟨st, this⟩
end
end Z
/-! P2: what is true of the numbers that reaches_of finds. Own work. -/
namespace Z
open PySem PySem.Spec L2
theorem fget_of {folk : List Str} {num : Num} {x : Str} (h : x ∈ folk) : fget (fndOf folk num) x = some (num x) := by
  unfold fget fndOf
  rw [List.find?_map, Option.map_map]
  have : ((fun y : Str × (Option Int × Option Int) => decide (y.1 = x)) ∘ fun x => (x, num x)) = fun y => decide (y = x) := rfl
  rw [this]
  cases q : folk.find? fun y => decide (y = x) with
  | none => exact absurd (decide_eq_true rfl) ((List.find?_eq_none.mp q) x h)
  | some y =>
    have e : y = x := of_decide_eq_true (List.find?_some (p := fun y => decide (y = x)) q)
    rw [← e]; rfl
theorem fnum_of {folk : List Str} {num : Num} {x : Str} {k : Int} (h : x ∈ folk) : fnum (fndOf folk num) x k = numAt num (x, k) := by
  unfold fnum
  rw [fget_of h]; rfl
/-- what stands while it goes on; least is the last number that was taken -/
structure Inv2 (W : Web) (lot : List Str) (s : DS) (i : Int) : Prop where
  good : Good W.folk s
  ord : ∀ d a, d.1 ∈ W.folk → (d.2 = 0 ∨ d.2 = 1) → numAt s.num d = some a → ∀ e ∈ s.left, a ≤ e.2
  par : (∀ d a, (d.2 = 0 ∨ d.2 = 1) → numAt s.num d = some a → a % 2 = d.2 ∧ 0 ≤ a ∧ a ≤ i * 1000000000000) ∧ ∀ e ∈ s.left, e.2 % 2 = e.1.2 ∧ 0 ≤ e.2 ∧ e.2 ≤ i * 1000000000000
  rel : ∀ d a, d.1 ∈ W.folk → (d.2 = 0 ∨ d.2 = 1) → numAt s.num d = some a → ∀ e ∈ adj W.ways d.1, (∃ b, numAt s.num (e.1, (a + e.2) % 2) = some b ∧ b ≤ a + e.2) ∨ ∃ b, getI s.left (e.1, (a + e.2) % 2) = some b ∧ b ≤ a + e.2
  pre : (∀ d a, (d.2 = 0 ∨ d.2 = 1) → numAt s.num d = some a → 0 < a → ∃ e ∈ adj W.ways d.1, numAt s.num (e.1, (a - e.2) % 2) = some (a - e.2)) ∧
    ∀ x ∈ s.left, 0 < x.2 → ∃ e ∈ adj W.ways x.1.1, numAt s.num (e.1, (x.2 - e.2) % 2) = some (x.2 - e.2)
theorem adj_sym {ws : List Way} {x : Str} {e : Str × Int} (h : e ∈ adj ws x) : (x, e.2) ∈ adj ws e.1 := by
  unfold adj at *
  obtain ⟨w, hw, he⟩ := List.mem_flatMap.mp h
  refine List.mem_flatMap.mpr ⟨w, hw, ?_⟩
  unfold adjOne at *
  rcases List.mem_append.mp he with he | he
  · split at he
    · rename_i q
      have := List.mem_singleton.mp he
      subst this
      refine List.mem_append.mpr (.inr ?_)
      rw [if_pos rfl, q]; exact List.mem_singleton.mpr rfl
    · cases he
  · split at he
    · rename_i q
      have := List.mem_singleton.mp he
      subst this
      refine List.mem_append.mpr (.inl ?_)
      rw [if_pos rfl, q]; exact List.mem_singleton.mpr rfl
    · cases he
theorem adj_pos {W : Web} (h : OkWeb W) {x : Str} {e : Str × Int} (he : e ∈ adj W.ways x) : 1 ≤ e.2 ∧ e.2 ≤ 1000000000000 := by
  unfold adj at he
  obtain ⟨w, hw, he⟩ := List.mem_flatMap.mp he
  have := h.ways w hw
  unfold adjOne at he
  rcases List.mem_append.mp he with he | he
  · split at he
    · rw [List.mem_singleton.mp he]; exact ⟨this.pos, this.top⟩
    · cases he
  · split at he
    · rw [List.mem_singleton.mp he]; exact ⟨this.pos, this.top⟩
    · cases he
theorem adj_of {W : Web} {w : Way} (hw : w ∈ W.ways) : (w.2.1, w.2.2) ∈ adj W.ways w.1 := by
  unfold adj
  refine List.mem_flatMap.mpr ⟨w, hw, List.mem_append.mpr (.inl ?_)⟩
  rw [if_pos rfl]; exact List.mem_singleton.mpr rfl
/-! one push -/
theorem push_mem {num : Num} {here : Int} {l : LT} {e : Str × Int} {x : Door × Int} (h : x ∈ pushOne num here l e) : x ∈ l ∨ (x = ((e.1, (here + e.2) % 2), here + e.2)) := by
  unfold pushOne at h
  split at h
  · rcases putI_mem h with q | q
    · exact .inr q
    · exact .inl q.1
  · exact .inl h
theorem pushes_mem {num : Num} {here : Int} : ∀ {es : List (Str × Int)} {l : LT} {x : Door × Int}, x ∈ es.foldl (pushOne num here) l → x ∈ l ∨ ∃ e ∈ es, x = ((e.1, (here + e.2) % 2), here + e.2)
  | [], _, _, h => .inl h
  | e :: es, l, x, h => by
    rcases pushes_mem (es := es) h with q | ⟨e2, h2, q⟩
    · rcases push_mem q with q | q
      · exact .inl q
      · exact .inr ⟨e, List.mem_cons_self .., q⟩
    · exact .inr ⟨e2, List.mem_cons_of_mem _ h2, q⟩
theorem push_get {num : Num} {here : Int} {l : LT} {e : Str × Int} {d : Door} {n : Int} (h : getI l d = some n) : ∃ m, getI (pushOne num here l e) d = some m ∧ m ≤ n := by
  unfold pushOne
  split
  · rename_i q
    rw [Bool.and_eq_true] at q
    by_cases e1 : d = (e.1, (here + e.2) % 2)
    · subst e1
      refine ⟨_, putI_get, ?_⟩
      have := of_decide_eq_true q.2
      rw [h] at this
      have : here + e.2 < n := this
      omega
    · exact ⟨n, by rw [putI_get_ne e1]; exact h, Int.le_refl _⟩
  · exact ⟨n, h, Int.le_refl _⟩
theorem pushes_get {num : Num} {here : Int} : ∀ {es : List (Str × Int)} {l : LT} {d : Door} {n : Int}, getI l d = some n → ∃ m, getI (es.foldl (pushOne num here) l) d = some m ∧ m ≤ n
  | [], _, _, n, h => ⟨n, h, Int.le_refl _⟩
  | e :: es, l, d, n, h => by
    obtain ⟨m, h1, h2⟩ := push_get (num := num) (here := here) (e := e) h
    obtain ⟨m2, h3, h4⟩ := pushes_get (es := es) h1
    exact ⟨m2, h3, by omega⟩
theorem push_new {num : Num} {here : Int} {l : LT} {e : Str × Int} (h : numAt num (e.1, (here + e.2) % 2) = none) : ∃ m, getI (pushOne num here l e) (e.1, (here + e.2) % 2) = some m ∧ m ≤ here + e.2 := by
  unfold pushOne
  rw [h]
  cases q : getI l (e.1, (here + e.2) % 2) with
  | none =>
    rw [if_pos (by simp; omega)]
    exact ⟨_, putI_get, Int.le_refl _⟩
  | some n =>
    by_cases c : here + e.2 < n
    · rw [if_pos (by simp [c])]
      exact ⟨_, putI_get, Int.le_refl _⟩
    · rw [if_neg (by simp [c])]
      exact ⟨n, q, by omega⟩
theorem pushes_new {num : Num} {here : Int} : ∀ {es : List (Str × Int)} {l : LT} {e : Str × Int}, e ∈ es → numAt num (e.1, (here + e.2) % 2) = none → ∃ m, getI (es.foldl (pushOne num here) l) (e.1, (here + e.2) % 2) = some m ∧ m ≤ here + e.2
  | e1 :: es, l, e, he, h => by
    rcases List.mem_cons.mp he with q | q
    · subst q
      obtain ⟨m, h1, h2⟩ := push_new (num := num) (here := here) (l := l) h
      obtain ⟨m2, h3, h4⟩ := pushes_get (num := num) (here := here) (es := es) h1
      exact ⟨m2, h3, by omega⟩
    · exact pushes_new (es := es) q h
theorem dropI_get {κ : Type} [DecidableEq κ] {l : List (κ × Int)} {k j : κ} (h : j ≠ k) : getI (dropI l k) j = getI l j := by
  unfold getI dropI
  rw [List.find?_filter]
  congr 1
  congr 1
  funext x
  by_cases e : x.1 = j
  · have : x.1 ≠ k := fun z => h (e.symm.trans z)
    simp [e, h]
  · simp [e]
theorem step_inv {W : Web} {lot : List Str} (h : OkWeb W) {s : DS} {i : Int} (v : Inv2 W lot s i) (hne : s.left ≠ []) : Inv2 W lot (stepD W.ways s) (i + 1) := by
  obtain ⟨e, s1, s2, s3⟩ := least_some hne
  obtain ⟨b1, b2, b3⟩ := v.good.ok e s2
  have es : stepD W.ways s = ⟨setN s.num e.1 e.2, (adj W.ways e.1.1).foldl (pushOne (setN s.num e.1 e.2) e.2) (dropI s.left e.1)⟩ := by unfold stepD; rw [s1]
  have sg := (step_good h v.good hne).1
  rw [es] at sg ⊢
  obtain ⟨p1, p2⟩ := v.par
  obtain ⟨q1, q2, q3⟩ := p2 e s2
  have same : numAt (setN s.num e.1 e.2) e.1 = some e.2 := setN_same b2
  have other : ∀ d : Door, (d.2 = 0 ∨ d.2 = 1) → d ≠ e.1 → numAt (setN s.num e.1 e.2) d = numAt s.num d := fun d hd hn => setN_ne b2 hd hn
  have grow : ∀ d a, (d.2 = 0 ∨ d.2 = 1) → numAt s.num d = some a → numAt (setN s.num e.1 e.2) d = some a := fun d a hd ha => by
    have : d ≠ e.1 := fun z => by rw [z, b3] at ha; cases ha
    rw [other d hd this]; exact ha
  have back : ∀ d a, (d.2 = 0 ∨ d.2 = 1) → numAt (setN s.num e.1 e.2) d = some a → (d = e.1 ∧ a = e.2) ∨ (d ≠ e.1 ∧ numAt s.num d = some a) := fun d a hd ha => by
    by_cases z : d = e.1
    · left; rw [z, same] at ha; exact ⟨z, (Option.some.inj ha).symm⟩
    · right; rw [other d hd z] at ha; exact ⟨z, ha⟩
  refine ⟨sg, fun d a hd hk ha x hx => ?_, ⟨fun d a hk ha => ?_, fun x hx => ?_⟩, fun d a hd hk ha x hx => ?_, ⟨fun d a hk ha pos => ?_, fun x hx pos => ?_⟩⟩
  · -- order
    have ae : a ≤ e.2 := by
      rcases back d a hk ha with ⟨_, z⟩ | ⟨_, z⟩
      · omega
      · exact v.ord d a hd hk z e s2
    rcases pushes_mem hx with z | ⟨y, hy, z⟩
    · have := s3 x (dropI_mem.mp z).1; omega
    · have := adj_pos h hy
      rw [z]
      show a ≤ e.2 + y.2
      omega
  · rcases back d a hk ha with ⟨z1, z2⟩ | ⟨_, z⟩
    · subst z1; subst z2; exact ⟨q1, q2, by omega⟩
    · obtain ⟨r1, r2, r3⟩ := p1 d a hk z; exact ⟨r1, r2, by omega⟩
  · rcases pushes_mem hx with z | ⟨y, hy, z⟩
    · obtain ⟨r1, r2, r3⟩ := p2 x (dropI_mem.mp z).1; exact ⟨r1, r2, by omega⟩
    · have := adj_pos h hy
      rw [z]
      show (e.2 + y.2) % 2 = (e.2 + y.2) % 2 ∧ 0 ≤ e.2 + y.2 ∧ e.2 + y.2 ≤ (i + 1) * 1000000000000
      exact ⟨rfl, by omega, by omega⟩
  · -- relaxed
    rcases back d a hk ha with ⟨z1, z2⟩ | ⟨z0, z⟩
    · subst z1; subst z2
      cases q : numAt (setN s.num e.1 e.2) (x.1, (e.2 + x.2) % 2) with
      | none => right; exact pushes_new hx q
      | some b =>
        left
        refine ⟨b, rfl, ?_⟩
        have xp := adj_pos h hx
        have bb := back (x.1, (e.2 + x.2) % 2) b (mod2 _) q
        rcases bb with ⟨_, z⟩ | ⟨_, z⟩
        · omega
        · have := v.ord (x.1, (e.2 + x.2) % 2) b (adj_folk h x hx) (mod2 _) z e s2
          omega
    · rcases v.rel d a hd hk z x hx with ⟨b, h1, h2⟩ | ⟨b, h1, h2⟩
      · exact .inl ⟨b, grow _ b (mod2 _) h1, h2⟩
      · by_cases z2 : (x.1, (a + x.2) % 2) = e.1
        · left
          refine ⟨e.2, by rw [z2]; exact same, ?_⟩
          have hb : b = e.2 := by
            have m1 := getI_mem h1
            have g1 := getI_of v.good.nd s2
            rw [z2, g1] at h1
            exact (Option.some.inj h1).symm
          omega
        · right
          obtain ⟨m, h3, h4⟩ := pushes_get (num := setN s.num e.1 e.2) (here := e.2) (es := adj W.ways e.1.1) (l := dropI s.left e.1) (d := (x.1, (a + x.2) % 2)) (n := b) (by rw [dropI_get z2]; exact h1)
          exact ⟨m, h3, by omega⟩
  · -- predecessors
    rcases back d a hk ha with ⟨z1, z2⟩ | ⟨_, z⟩
    · subst z1; subst z2
      obtain ⟨y, hy, h1⟩ := v.pre.2 e s2 pos
      exact ⟨y, hy, grow _ _ (mod2 _) h1⟩
    · obtain ⟨y, hy, h1⟩ := v.pre.1 d a hk z pos
      exact ⟨y, hy, grow _ _ (mod2 _) h1⟩
  · rcases pushes_mem hx with z | ⟨y, hy, z⟩
    · obtain ⟨y, hy, h1⟩ := v.pre.2 x (dropI_mem.mp z).1 pos
      exact ⟨y, hy, grow _ _ (mod2 _) h1⟩
    · subst z
      refine ⟨(e.1.1, y.2), adj_sym hy, ?_⟩
      show numAt _ (e.1.1, (e.2 + y.2 - y.2) % 2) = some (e.2 + y.2 - y.2)
      rw [Int.add_sub_cancel, q1]
      exact same
theorem start_inv {W : Web} {lot : List Str} (hl : OkLot W.folk lot) : Inv2 W lot (startD lot) 0 := by
  have hn : ∀ d : Door, numAt (startD lot).num d = none := fun d => by
    show at2 (none, none) d.2 = none
    unfold at2; split <;> rfl
  refine ⟨start_good hl, fun d a _ _ ha => ?_, ⟨fun d a _ ha => ?_, fun e he => ?_⟩, fun d a _ _ ha => ?_, ⟨fun d a _ ha => ?_, fun e he pos => ?_⟩⟩
  · rw [hn] at ha; cases ha
  · rw [hn] at ha; cases ha
  · obtain ⟨x, _, rfl⟩ := List.mem_map.mp he
    exact ⟨rfl, Int.le_refl _, Int.le_refl _⟩
  · rw [hn] at ha; cases ha
  · rw [hn] at ha; cases ha
  · obtain ⟨x, _, rfl⟩ := List.mem_map.mp he
    exact absurd pos (Int.lt_irrefl _)
theorem run_inv {W : Web} {lot : List Str} (h : OkWeb W) : ∀ (m : Nat) {s : DS} {i : Int}, nones W.folk s.num = m → Inv2 W lot s i → ∃ j : Int, j ≤ i + m ∧ Inv2 W lot (finD W s) j ∧ (finD W s).left = [] := by
  intro m
  induction m with
  | zero =>
    intro s i hm v
    have : s.left = [] := by
      cases q : s.left with
      | nil => rfl
      | cons e l =>
        obtain ⟨a, b, c⟩ := v.good.ok e (by rw [q]; exact List.mem_cons_self ..)
        have := nones_pos a c
        omega
    rw [fin_nil this]
    exact ⟨i, by omega, v, this⟩
  | succ m ih =>
    intro s i hm v
    by_cases q : s.left = []
    · rw [fin_nil q]; exact ⟨i, by omega, v, q⟩
    · obtain ⟨g, e⟩ := step_good h v.good q
      rw [fin_step h v.good q]
      obtain ⟨j, h1, h2, h3⟩ := ih (s := stepD W.ways s) (i := i + 1) (by omega) (step_inv h v q)
      exact ⟨j, by omega, h2, h3⟩
/-- the numbers' facts -/
structure Facts (W : Web) (num : Num) : Prop where
  par : ∀ d a, (d.2 = 0 ∨ d.2 = 1) → numAt num d = some a → a % 2 = d.2 ∧ 0 ≤ a ∧ a ≤ 16000000000000
  rel : ∀ d a, d.1 ∈ W.folk → (d.2 = 0 ∨ d.2 = 1) → numAt num d = some a → ∀ e ∈ adj W.ways d.1, ∃ b, numAt num (e.1, (a + e.2) % 2) = some b ∧ b ≤ a + e.2
  pre : ∀ d a, (d.2 = 0 ∨ d.2 = 1) → numAt num d = some a → 0 < a → ∃ e ∈ adj W.ways d.1, numAt num (e.1, (a - e.2) % 2) = some (a - e.2)
theorem nones_start (folk : List Str) : nones folk (fun _ => (none, none)) = 2 * folk.length := by
  unfold nones
  induction folk with
  | nil => rfl
  | cons x l ih =>
    rw [List.map_cons, List.sum_cons, ih, List.length_cons]
    show nn (none, none) + _ = _
    unfold nn
    simp
    omega
theorem reach_facts {W : Web} {lot : List Str} (h : OkWeb W) (hl : OkLot W.folk lot) : Facts W (reachD W lot).num := by
  obtain ⟨j, h1, v, h3⟩ := run_inv h _ (s := startD lot) rfl (start_inv hl)
  have e1 : nones W.folk (startD lot).num = 2 * W.folk.length := nones_start _
  rw [e1] at h1
  have := h.f8
  have hj : j ≤ 16 := by omega
  refine ⟨fun d a hk ha => ?_, fun d a hd hk ha e he => ?_, v.pre.1⟩
  · obtain ⟨a1, a2, a3⟩ := v.par.1 d a hk ha
    exact ⟨a1, a2, by omega⟩
  · rcases v.rel d a hd hk ha e he with q | ⟨b, q, _⟩
    · exact q
    · have q : getI (finD W (startD lot)).left (e.1, (a + e.2) % 2) = some b := q
      rw [h3] at q; cases q
end Z
/-! P3: when a cry is quiet. Own work. -/
namespace Z
open PySem PySem.Spec L2
abbrev Fr := Way × Int × Int × Int
def allFr (W : Web) (num : Num) : List Fr := W.ways.flatMap fun w => (frontsF (fndOf W.folk num) w).map fun f => (w, f)
def hp : Option Int → Bool
  | none => false
  | some n => decide (0 < n)
def heardOf (e : Option Int × Option Int) : List Int := ([e.1, e.2].filter hp).map (·.getD 0)
abbrev nhD (x : Int × Str) : PyData := .tuple [.int x.1, .str x.2]
def nhL (W : Web) (num : Num) : List (Int × Str) := W.folk.flatMap fun x => (heardOf (num x)).map fun n => (n, x)
def numsHeard (W : Web) (num : Num) : List (Int × Str) := sortD nhD (nhL W num)
def spans2 (x : Fr) : List (Int × Int) := [(x.2.1 + 1, x.2.1 + min x.2.2.2 (x.1.2.2 - 1)), (x.2.2.1 + 1, x.2.2.1 + x.1.2.2 - max (x.2.2.2 + 1) 1)]
def spansHeard (W : Web) (num : Num) : List (Int × Int) := ((allFr W num).flatMap spans2).filter fun s => decide (s.1 ≤ s.2)
def spansAll (W : Web) (num : Num) : List (Int × Int) := spansHeard W num ++ (numsHeard W num).map fun x => (x.1, x.1)
def lastOf (W : Web) (num : Num) : Int := maxOr 0 ((spansAll W num).map (·.2))
def tell (W : Web) (num : Num) : Int := ((allFr W num).map fun x => x.1.2.2).sum
def tellOne (d : Int) (x : Fr) : Int := within (d + 1 - x.2.1) x.2.2.2 + within (d + 1 - x.2.2.1) (x.1.2.2 - x.2.2.2)
def tellBy (W : Web) (num : Num) (d : Int) : Int := ((allFr W num).map (tellOne d)).sum
structure FrOk (x : Fr) : Prop where
  n : 1 ≤ x.1.2.2
  a : 0 ≤ x.2.1
  b : 0 ≤ x.2.2.1
  m : 2 * x.2.2.2 = x.2.2.1 + x.1.2.2 - x.2.1
  m0 : 0 ≤ x.2.2.2
  m1 : x.2.2.2 ≤ x.1.2.2
section
variable {W : Web} {num : Num}
theorem way_pair (h : OkWeb W) (f : Facts W num) {w : Way} (hw : w ∈ W.ways) {k a : Int} (hk : k = 0 ∨ k = 1) (ha : numAt num (w.1, k) = some a) : ∃ b, numAt num (w.2.1, (k + w.2.2) % 2) = some b ∧ b ≤ a + w.2.2 ∧ a ≤ b + w.2.2 ∧ (b + w.2.2 - a) % 2 = 0 ∧ 0 ≤ a ∧ 0 ≤ b := by
  have ok := h.ways w hw
  obtain ⟨a1, a2, _⟩ := f.par (w.1, k) a hk ha
  obtain ⟨b, b1, b2⟩ := f.rel (w.1, k) a ok.one hk ha (w.2.1, w.2.2) (adj_of hw)
  have a1 : a % 2 = k := a1
  have b1 : numAt num (w.2.1, (a + w.2.2) % 2) = some b := b1
  have b2 : b ≤ a + w.2.2 := b2
  have e : (a + w.2.2) % 2 = (k + w.2.2) % 2 := by omega
  rw [e] at b1
  obtain ⟨c1, c2, _⟩ := f.par (w.2.1, (k + w.2.2) % 2) b (mod2 _) b1
  have c1 : b % 2 = (k + w.2.2) % 2 := c1
  obtain ⟨a', d1, d2⟩ := f.rel (w.2.1, (k + w.2.2) % 2) b ok.two (mod2 _) b1 (w.1, w.2.2) (adj_sym (adj_of hw))
  have d1 : numAt num (w.1, (b + w.2.2) % 2) = some a' := d1
  have d2 : a' ≤ b + w.2.2 := d2
  have e2 : (b + w.2.2) % 2 = k := by omega
  rw [e2, ha] at d1
  have d1 : a = a' := Option.some.inj d1
  exact ⟨b, b1, b2, by omega, by omega, a2, c2⟩
theorem fr_of (h : OkWeb W) (f : Facts W num) {w : Way} (hw : w ∈ W.ways) {k a : Int} (hk : k = 0 ∨ k = 1) (ha : numAt num (w.1, k) = some a) : ∃ b, numAt num (w.2.1, (k + w.2.2) % 2) = some b ∧ (w, a, b, (b + w.2.2 - a) / 2) ∈ allFr W num := by
  obtain ⟨b, h1, _⟩ := way_pair h f hw hk ha
  have ok := h.ways w hw
  refine ⟨b, h1, ?_⟩
  unfold allFr
  refine List.mem_flatMap.mpr ⟨w, hw, List.mem_map.mpr ⟨(a, b, (b + w.2.2 - a) / 2), ?_, rfl⟩⟩
  unfold frontsF
  refine List.mem_map.mpr ⟨k, List.mem_filter.mpr ⟨by rcases hk with e | e <;> rw [e] <;> simp, ?_⟩, ?_⟩
  · rw [fnum_of ok.one, ha]; rfl
  · unfold frontK
    rw [fnum_of ok.one, fnum_of ok.two, ha, h1]; rfl
theorem of_fr (h : OkWeb W) (f : Facts W num) {x : Fr} (hx : x ∈ allFr W num) : x.1 ∈ W.ways ∧ ∃ k, (k = 0 ∨ k = 1) ∧ numAt num (x.1.1, k) = some x.2.1 ∧ numAt num (x.1.2.1, (k + x.1.2.2) % 2) = some x.2.2.1 ∧ x.2.2.2 = (x.2.2.1 + x.1.2.2 - x.2.1) / 2 := by
  unfold allFr at hx
  obtain ⟨w, hw, hx⟩ := List.mem_flatMap.mp hx
  obtain ⟨fr, hf, rfl⟩ := List.mem_map.mp hx
  unfold frontsF at hf
  obtain ⟨k, hk, rfl⟩ := List.mem_map.mp hf
  obtain ⟨k1, k2⟩ := List.mem_filter.mp hk
  have ok := h.ways w hw
  have hk : k = 0 ∨ k = 1 := by simpa using k1
  rw [fnum_of ok.one] at k2
  obtain ⟨a, ha⟩ := Option.isSome_iff_exists.mp k2
  obtain ⟨b, hb, _⟩ := way_pair h f hw hk ha
  refine ⟨hw, k, hk, ?_⟩
  show numAt num (w.1, k) = some (frontK _ w k).1 ∧ numAt num (w.2.1, (k + w.2.2) % 2) = some (frontK _ w k).2.1 ∧ _
  unfold frontK
  rw [fnum_of ok.one, fnum_of ok.two, ha, hb]
  exact ⟨rfl, rfl, rfl⟩
theorem fr_ok (h : OkWeb W) (f : Facts W num) {x : Fr} (hx : x ∈ allFr W num) : FrOk x := by
  obtain ⟨hw, k, hk, h1, h2, h3⟩ := of_fr h f hx
  obtain ⟨b, b1, b2, b3, b4, b5, b6⟩ := way_pair h f hw hk h1
  rw [h2] at b1
  cases b1
  have ok := h.ways _ hw
  exact ⟨ok.pos, b5, b6, by omega, by omega, by omega⟩
theorem maxOr_le {l : List Int} {d : Int} (hd : 0 ≤ d) : maxOr 0 l ≤ d ↔ ∀ x ∈ l, x ≤ d := by
  unfold maxOr
  cases l with
  | nil => simp [hd]
  | cons m r =>
    have key : ∀ (r : List Int) (m : Int), r.foldl max m ≤ d ↔ m ≤ d ∧ ∀ x ∈ r, x ≤ d := by
      intro r
      induction r with
      | nil => intro m; simp
      | cons y r ih =>
        intro m
        rw [List.foldl_cons, ih]
        simp only [List.mem_cons, forall_eq_or_imp]
        constructor
        · rintro ⟨h1, h2⟩; exact ⟨by omega, by omega, h2⟩
        · rintro ⟨h1, h2, h3⟩; exact ⟨by omega, h3⟩
    rw [key]
    simp
theorem heard_mem {e : Option Int × Option Int} {n : Int} : n ∈ heardOf e ↔ 0 < n ∧ (e.1 = some n ∨ e.2 = some n) := by
  unfold heardOf
  rw [List.mem_map]
  constructor
  · rintro ⟨o, ho, rfl⟩
    obtain ⟨h1, h2⟩ := List.mem_filter.mp ho
    cases o with
    | none => cases h2
    | some n =>
      refine ⟨of_decide_eq_true h2, ?_⟩
      simp only [List.mem_cons, List.not_mem_nil, or_false] at h1
      rcases h1 with q | q
      · exact .inl q.symm
      · exact .inr q.symm
  · rintro ⟨h1, h2⟩
    refine ⟨some n, List.mem_filter.mpr ⟨?_, decide_eq_true h1⟩, rfl⟩
    rcases h2 with q | q <;> simp [q]
theorem nh_mem {x : Str} {n : Int} : (n, x) ∈ nhL W num ↔ x ∈ W.folk ∧ 0 < n ∧ ∃ k, (k = 0 ∨ k = 1) ∧ numAt num (x, k) = some n := by
  unfold nhL
  rw [List.mem_flatMap]
  constructor
  · rintro ⟨y, hy, hn⟩
    obtain ⟨m, hm, e⟩ := List.mem_map.mp hn
    cases e
    obtain ⟨h1, h2⟩ := heard_mem.mp hm
    refine ⟨hy, h1, ?_⟩
    rcases h2 with q | q
    · exact ⟨0, .inl rfl, q⟩
    · exact ⟨1, .inr rfl, q⟩
  · rintro ⟨h1, h2, k, hk, h3⟩
    refine ⟨x, h1, List.mem_map.mpr ⟨n, heard_mem.mpr ⟨h2, ?_⟩, rfl⟩⟩
    rcases hk with q | q
    · subst q; exact .inl h3
    · subst q; exact .inr h3
theorem last_le (h : OkWeb W) (f : Facts W num) {d : Int} (hd : 0 ≤ d) : lastOf W num ≤ d ↔ ∀ x ∈ allFr W num, x.2.1 + x.2.2.2 ≤ d := by
  unfold lastOf
  rw [maxOr_le hd]
  constructor
  · intro q x hx
    have ok := fr_ok h f hx
    obtain ⟨hw, k, hk, h1, h2, h3⟩ := of_fr h f hx
    have o1 := ok.n; have o2 := ok.a; have o3 := ok.b; have o4 := ok.m; have o5 := ok.m0; have o6 := ok.m1
    have heard : ∀ y k n, y ∈ W.folk → (k = 0 ∨ k = 1) → numAt num (y, k) = some n → 0 < n → n ≤ d := fun y k n hy hk hn pos => by
      refine q n (List.mem_map.mpr ⟨(n, n), ?_, rfl⟩)
      unfold spansAll
      refine List.mem_append.mpr (.inr (List.mem_map.mpr ⟨(n, y), ?_, rfl⟩))
      exact (sortD_perm _).mem_iff.mpr (nh_mem.mpr ⟨hy, pos, k, hk, hn⟩)
    have okw := h.ways _ hw
    by_cases c0 : x.2.2.2 = 0
    · have := heard _ k _ okw.one hk h1 (by omega)
      omega
    · by_cases c1 : x.2.2.2 = x.1.2.2
      · have := heard _ _ _ okw.two (mod2 _) h2 (by omega)
        omega
      · have hs : (x.2.1 + 1, x.2.1 + min x.2.2.2 (x.1.2.2 - 1)) ∈ spansHeard W num := by
          unfold spansHeard
          refine List.mem_filter.mpr ⟨List.mem_flatMap.mpr ⟨x, hx, List.mem_cons_self ..⟩, decide_eq_true ?_⟩
          show x.2.1 + 1 ≤ x.2.1 + min x.2.2.2 (x.1.2.2 - 1)
          omega
        have := q _ (List.mem_map.mpr ⟨_, List.mem_append.mpr (.inl hs), rfl⟩)
        have : x.2.1 + min x.2.2.2 (x.1.2.2 - 1) ≤ d := this
        omega
  · intro q y hy
    obtain ⟨s, hs, rfl⟩ := List.mem_map.mp hy
    unfold spansAll at hs
    rcases List.mem_append.mp hs with hs | hs
    · unfold spansHeard at hs
      obtain ⟨h1, h2⟩ := List.mem_filter.mp hs
      obtain ⟨x, hx, h1⟩ := List.mem_flatMap.mp h1
      have := q x hx
      have ok := fr_ok h f hx
      have o1 := ok.n; have o2 := ok.a; have o3 := ok.b; have o4 := ok.m; have o5 := ok.m0; have o6 := ok.m1
      unfold spans2 at h1
      simp only [List.mem_cons, List.not_mem_nil, or_false] at h1
      rcases h1 with e | e
      · rw [e]; show x.2.1 + min x.2.2.2 (x.1.2.2 - 1) ≤ d; omega
      · rw [e]; show x.2.2.1 + x.1.2.2 - max (x.2.2.2 + 1) 1 ≤ d; omega
    · obtain ⟨z, hz, rfl⟩ := List.mem_map.mp hs
      obtain ⟨n, x⟩ := z
      have hz := (sortD_perm (enc := nhD) _).mem_iff.mp hz
      obtain ⟨hx, pos, k, hk, hn⟩ := nh_mem.mp hz
      show n ≤ d
      obtain ⟨e, he, h1⟩ := f.pre (x, k) n hk hn pos
      have pk := (f.par (x, k) n hk hn).1
      have pk : n % 2 = k := pk
      unfold adj at he
      obtain ⟨w, hw, he⟩ := List.mem_flatMap.mp he
      unfold adjOne at he
      rcases List.mem_append.mp he with he | he
      · split at he
        · rename_i ew
          have := List.mem_singleton.mp he
          subst this
          have ew : w.1 = x := ew
          obtain ⟨b, b1, b2⟩ := fr_of h f hw hk (by rw [ew]; exact hn)
          have h1 : numAt num (w.2.1, (n - w.2.2) % 2) = some (n - w.2.2) := h1
          have e2 : (n - w.2.2) % 2 = (k + w.2.2) % 2 := by omega
          rw [e2, b1] at h1
          have h1 : b = n - w.2.2 := Option.some.inj h1
          have := q _ b2
          have : n + (b + w.2.2 - n) / 2 ≤ d := this
          omega
        · cases he
      · split at he
        · rename_i ew
          have := List.mem_singleton.mp he
          subst this
          have ew : w.2.1 = x := ew
          have h1 : numAt num (w.1, (n - w.2.2) % 2) = some (n - w.2.2) := h1
          obtain ⟨b, b1, b2⟩ := fr_of h f hw (mod2 _) h1
          have e2 : ((n - w.2.2) % 2 + w.2.2) % 2 = k := by omega
          rw [e2, ew, hn] at b1
          have b1 : n = b := Option.some.inj b1
          have := q _ b2
          have : (n - w.2.2) + (b + w.2.2 - (n - w.2.2)) / 2 ≤ d := this
          omega
        · cases he
theorem sum_eq_iff {α : Type} {f g : α → Int} : ∀ {l : List α}, (∀ x ∈ l, f x ≤ g x) → ((l.map f).sum = (l.map g).sum ↔ ∀ x ∈ l, f x = g x) ∧ (l.map f).sum ≤ (l.map g).sum
  | [], _ => by simp
  | y :: l, h => by
    obtain ⟨h1, h2⟩ := sum_eq_iff (l := l) fun x hx => h x (List.mem_cons_of_mem _ hx)
    have h3 := h y (List.mem_cons_self ..)
    rw [List.map_cons, List.map_cons, List.sum_cons, List.sum_cons]
    refine ⟨⟨fun e => ?_, fun e => ?_⟩, by omega⟩
    · have e1 : (l.map f).sum = (l.map g).sum := by omega
      intro x hx
      rcases List.mem_cons.mp hx with q | q
      · subst q; omega
      · exact h1.mp e1 x q
    · rw [e y (List.mem_cons_self ..), h1.mpr fun x hx => e x (List.mem_cons_of_mem _ hx)]
theorem quiet_iff (h : OkWeb W) (f : Facts W num) {d : Int} (hd : 0 ≤ d) : lastOf W num ≤ d ↔ if d = 0 then tell W num = 0 else tellBy W num (d - 1) = tell W num := by
  rw [last_le h f hd]
  by_cases e : d = 0
  · rw [if_pos e]
    subst e
    have key := (sum_eq_iff (f := fun _ => (0 : Int)) (g := fun x : Fr => x.1.2.2) (l := allFr W num) fun x hx => by have := (fr_ok h f hx).n; omega).1
    have z : ((allFr W num).map fun _ => (0 : Int)).sum = 0 := by
      generalize allFr W num = l
      induction l with
      | nil => rfl
      | cons x l ih => rw [List.map_cons, List.sum_cons, ih]; rfl
    rw [z] at key
    unfold tell
    constructor
    · intro q
      refine (key.mpr fun x hx => ?_).symm
      have := q x hx
      have ok := fr_ok h f hx
      have o1 := ok.n; have o2 := ok.a; have o3 := ok.b; have o4 := ok.m; have o5 := ok.m0; have o6 := ok.m1
      omega
    · intro q x hx
      have := key.mp q.symm x hx
      have := (fr_ok h f hx).n
      omega
  · rw [if_neg e]
    unfold tellBy tell
    have le : ∀ x ∈ allFr W num, tellOne (d - 1) x ≤ x.1.2.2 ∧ (tellOne (d - 1) x = x.1.2.2 ↔ x.2.1 + x.2.2.2 ≤ d) := fun x hx => by
      have ok := fr_ok h f hx
      have o1 := ok.n; have o2 := ok.a; have o3 := ok.b; have o4 := ok.m; have o5 := ok.m0; have o6 := ok.m1
      unfold tellOne within
      omega
    rw [(sum_eq_iff fun x hx => (le x hx).1).1]
    exact ⟨fun q x hx => (le x hx).2.mpr (q x hx), fun q x hx => (le x hx).2.mp (q x hx)⟩
end
end Z
set_option maxRecDepth 100000
set_option maxHeartbeats 4000000
/-! F8: reaches.py: a cry, hearings. Own work. -/
namespace Z
open PySem PySem.Spec L2
local macro_rules | `(tactic| walk_at "ev") => `(tactic| repeat' (first
  | with_reducible apply eva_nil
  | ((with_reducible apply ev_var); rfl)
  | with_reducible apply ev_int
  | with_reducible apply ev_str
  | with_reducible apply ev_bl
  | with_reducible apply ev_non
  | ((with_reducible show PySem.W.Frag); assumption)
  | with_reducible apply eva_cons
  | with_reducible apply ev_cb
  | with_reducible apply ev_op
  | with_reducible apply cbe_min2
  | with_reducible apply cbe_max2
  | with_reducible apply ope_I
  | with_reducible apply ope_B
  | with_reducible apply ope_isN
  | with_reducible apply ope_notN
  | with_reducible apply ope_eqi
  | with_reducible apply ope_nei
  | with_reducible apply ope_eqs
  | with_reducible apply ope_nes
  | with_reducible apply evt_test
  | with_reducible apply rtn_ret))
section
variable {P : Program} {w : World} {K : PySem.W.Frag} {mg : Str → Option Value} {base : Heap}
variable {G G1 G2 : Gm} {M M1 M2 : OM}
abbrev crF (K : PySem.W.Frag) (W : Web) (lot : List Str) : List (Str × Pr) := [("own", Dd K (webD W)), ("begun_by", Dd K (.list (lot.map .str))), ("by_folk", Fd K (reach W lot))]
abbrev CrP (K : PySem.W.Frag) (W : Web) (lot : List Str) : Pr := InsP (He.ga K "Cry") (crF K W lot)
inductive RCry (K : PySem.W.Frag) : Ctr
  | mk {M : OM} {x dx : Addr} {W : Web} {lot : List Str} (tb : Tb K M) (hM : M x = some (.ins (He.ga K "Cry") dx [])) (h : OkWeb W) (hl : OkLot W.folk lot) :
    RCry K M [Rf x, Dd K (webD W), Dd K (.list (lot.map .str))] (Dd K .none) (M.set x (.ins (He.ga K "Cry") dx (crF K W lot)))
theorem Tb.ins {M : OM} {x C dx : Addr} {fs fs' : List (Str × Pr)} (tb : Tb K M) (hM : M x = some (.ins C dx fs)) : Tb K (M.set x (.ins C dx fs')) := tb.set (fun q e => by rw [hM] at e; cases e) rfl
abbrev n_Cry_init : List Str := ["self", "web", "starters"]
theorem sc_Cry_init : FnScope n_Cry_init ["self", "web", "starters"] (defScope (inClass (top 43) 0)) := ⟨rfl, rfl, rfl, by decide +kernel, rfl, by decide +kernel, by decide +kernel⟩
theorem ok_Cry_init (T : Tx K mg base) : Mak P w K mg base 6 "Cry" (He.ga K "Cry") (SpR (RCry K)) := by
  obtain ⟨fd, F⟩ := T.fd_Cry_init
  have nd := sc_Cry_init.nd
  let nm := n_Cry_init
  let scp := defScope (inClass (top 43) 0)
  have C_Doubled : Mak P w K mg base 1 "Doubled" (He.ga K "Doubled") (SpR (RDoubled K)) := ok_Doubled_init T
  have C_Doubled_reaches_of : Met P w K mg base 3 (He.ga K "Doubled") "reaches_of" (SpR (RReaches K)) := ok_Doubled_reaches_of T
  have C_need_starters : Cal P w K mg base 2 "need_starters" (SpR (RStart K)) [] := ok_need_starters T
  have C_web_of : Cal P w K mg base 4 "web_of" (SpR (RWebOf K)) [] := ok_web_of T
  refine ⟨_, fd, ["self", "web", "starters"], T.k_Cry, (fn_ok (k := 5) F sc_Cry_init (sp_len fun _ _ _ _ h => by cases h <;> rfl) fun cdv A outer s H E hr => ?_), T.g_Cry, (F.bindsN fun _ _ _ _ _ _ us hl => match us, hl with | [_, _, _], _ => rfl)⟩
  have hu := hu_of hr
  refine ⟨_, (pss_cons (ps_fld (pv 0) (pe_c C_web_of hr (by decide) (by rfl) (pa_cons (pv 1) pa_nil)) rfl)
    (pss_cons (ps_fld (pv 0) (pe_c C_need_starters hr (by decide) (by rfl) (pa_cons (pe_fldK (K := K) rfl (pv 0) rfl) (pa_cons (pv 2) pa_nil))) rfl)
    (pss_one (ps_fld (pv 0) (pe_mt C_Doubled_reaches_of hr (by decide) (pe_mk C_Doubled hr (by decide) (by rfl) (pa_cons (pe_fldK (K := K) rfl (pv 0) rfl) pa_nil)) (pa_cons (pe_fldK (K := K) rfl (pv 0) rfl) pa_nil)) rfl)))), fun vs Q h => end_nrm (K := K) h ?_⟩
  try dsimp only [cx_K]
  rintro _ _ _ _ ⟨tb, hM, h, hl⟩
  rename_i M x dx W lot
  let C := He.ga K "Cry"
  have cl := T.c_Cry
  let G0 : Gm := [some (Rf x), some (Dd K (webD W)), some (Dd K (.list (lot.map .str)))]
  refine ⟨rfl, G0, ?_⟩
  have n1 := T.n_Cry_own
  have n2 := T.n_Cry_begun_by
  have n3 := T.n_Cry_by_folk
  let f1 : List (Str × Pr) := [("own", Dd K (webD W))]
  let f2 : List (Str × Pr) := [("own", Dd K (webD W)), ("begun_by", Dd K (.list (lot.map .str)))]
  let Ma := M.set x (.ins C dx f1)
  let Mb := Ma.set x (.ins C dx f2)
  have ha : Ma x = some (.ins C dx f1) := OM.set_same
  have hb : Mb x = some (.ins C dx f2) := OM.set_same
  have tb2 : Tb K Mb := (tb.ins (fs' := f1) hM).ins (fs' := f2) ha
  refine nrm_seq (M1 := Ma) (nrm_fld (C := C) (dx := dx) (p := x) (fs := []) cl n1 (P := Dd K (webD W)) (ev_call (by walk_at "ev") (RWebOf.mk h)) (by walk_at "ev") hM (by decide)) ?_
  refine nrm_seq (M1 := Mb) (nrm_fld (C := C) (dx := dx) (p := x) (fs := f1) cl n2 (P := Dd K (.list (lot.map .str))) (ev_call (eva_cons (ev_fldO cl n1 (ev_var rfl) ha rfl) (eva_cons (ev_var rfl) eva_nil)) (RStart.mk h hl)) (ev_var rfl) ha (show 1 < 1000 by decide)) ?_
  refine Nrm.c (nrm_fld (C := C) (dx := dx) (p := x) (fs := f2) cl n3 (P := Fd K (reach W lot)) (ev_meth (C := He.ga K "Doubled") (fs := [("beside", Bd K W)]) (ev_make (K := K) (eva_cons (ev_fldO cl n1 (ev_var rfl) hb rfl) eva_nil) fun y dy hy => ?_) rfl (eva_cons (ev_fldO cl n2 (ev_var rfl) hb rfl) eva_nil) (RReaches.mk tb2 h hl)) (ev_var rfl) hb (show 2 < 1000 by decide)) rfl ?_
  · have := RDoubled.mk (K := K) (M := OM.set Mb y (.ins (He.ga K "Doubled") dy [])) (x := y) (dx := dy) OM.set_same h
    rwa [OM.set_set] at this
  · show ((M.set x _).set x _).set x _ = _
    rw [OM.set_set, OM.set_set]; rfl
def numsAt (W : Web) (num : Num) (p : Place) : Option Int × Option Int := if p.2.2 = 0 then num p.1 else
  (spotR (fndOf W.folk num) (p.1, p.2.1, (between W p.1 p.2.1).getD 0) p.2.2 0, spotR (fndOf W.folk num) (p.1, p.2.1, (between W p.1 p.2.1).getD 0) p.2.2 1)
theorem between_folk {W : Web} (h : OkWeb W) {a b : Str} {m : Int} (e : between W a b = some m) : a ∈ W.folk ∧ b ∈ W.folk := by
  unfold between at e
  have hm := List.mem_of_mem_head? (Option.mem_def.mpr e)
  obtain ⟨w, hw, _⟩ := List.mem_map.mp hm
  obtain ⟨h1, h2⟩ := List.mem_filter.mp hw
  rw [Bool.and_eq_true] at h2
  have e1 := of_decide_eq_true h2.1
  have e2 := of_decide_eq_true h2.2
  have := h.ways w h1
  exact ⟨e1 ▸ this.one, e2 ▸ this.two⟩
inductive RNumsAt (K : PySem.W.Frag) : Ctr
  | mk {M : OM} {W : Web} {lot : List Str} {p : Place} (h : OkWeb W) (hp : OkPlace W p) : RNumsAt K M [CrP K W lot, Dd K (wayD p)] (Dd K (prD (numsAt W (reachD W lot).num p))) M
abbrev n_Cry_numbers_at : List Str := ["self", "place", "way"]
theorem sc_Cry_numbers_at : FnScope n_Cry_numbers_at ["self", "place"] (defScope (inClass (top 43) 1)) := ⟨rfl, rfl, rfl, by decide +kernel, rfl, by decide +kernel, by decide +kernel⟩
theorem ok_Cry_numbers_at (T : Tx K mg base) : Met P w K mg base 3 (He.ga K "Cry") "numbers_at" (SpR (RNumsAt K)) := by
  obtain ⟨fd, F⟩ := T.fd_Cry_numbers_at
  have nd := sc_Cry_numbers_at.nd
  let nm := n_Cry_numbers_at
  let scp := defScope (inClass (top 43) 1)
  have C_beats_between : Cal P w K mg base 1 "beats_between" (SpR (RBetween K)) [] := ok_beats_between T
  have C_spot_reaches : Cal P w K mg base 2 "spot_reaches" (SpR (RSpot K)) [] := ok_spot_reaches T
  refine ⟨_, fd, ["self", "place"], T.c_Cry, T.m_Cry_numbers_at, (fn_ok (k := 2) F sc_Cry_numbers_at (sp_len fun _ _ _ _ h => by cases h <;> rfl) fun cdv A outer s H E hr => ?_), (F.bindsN fun _ _ _ _ _ _ us hl => match us, hl with | [_, _], _ => rfl)⟩
  have hu := hu_of hr
  refine ⟨_, (pss_cons (ps_if (pt_cmpR (op_eqK (K := K) rfl hr.units) (pe_ix (ix_K (K := K) rfl) (pv 1) pe_int (fun _ _ => rfl)) pe_int (nomark _)) (pss_one (ps_ret (pe_dget hu (pe_fldK (K := K) rfl (pv 0) rfl) (pe_ix (ix_K (K := K) rfl) (pv 1) pe_int (fun _ _ => rfl)) (fun _ _ => rfl)))) pss_nil)
    (pss_cons (ps_set (i := 2) nd rfl (by first | exact Or.inl rfl | exact Or.inr rfl) (pe_tup (pa_cons (pe_ix (ix_K (K := K) rfl) (pv 1) pe_int (fun _ _ => rfl)) (pa_cons (pe_ix (ix_K (K := K) rfl) (pv 1) pe_int (fun _ _ => rfl)) (pa_cons (pe_c C_beats_between hr (by decide) (by rfl) (pa_cons (pe_fldK (K := K) rfl (pv 0) rfl) (pa_cons (pe_ix (ix_K (K := K) rfl) (pv 1) pe_int (fun _ _ => rfl)) (pa_cons (pe_ix (ix_K (K := K) rfl) (pv 1) pe_int (fun _ _ => rfl)) pa_nil)))) pa_nil)))))
    (pss_one (ps_ret (pe_c C_spot_reaches hr (by decide) (by rfl) (pa_cons (pe_fldK (K := K) rfl (pv 0) rfl) (pa_cons (pv 2) (pa_cons (pe_ix (ix_K (K := K) rfl) (pv 1) pe_int (fun _ _ => rfl)) pa_nil)))))))), fun vs Q h => end_rtn h ?_⟩
  try dsimp only [cx_K]
  rintro _ _ _ _ ⟨h, hp⟩
  rename_i M W lot p
  have cl := T.c_Cry
  have n1 := T.n_Cry_own
  have n3 := T.n_Cry_by_folk
  refine rtn_ifs (b := decide (p.2.2 = 0)) (evt_test (K := K) (ev_op (ev_ixt (by walk_at "ev") rfl) (by walk_at "ev") ope_eqi)) (fun e => ?_) (fun e => ?_)
  · have e := of_decide_eq_true e
    rcases hp.at_ with ⟨_, hf, _⟩ | ⟨_, m, _, q, _⟩
    · refine rtn_ret (Evl.c (ev_dgetL (K := K) (k := .inr p.1) (ev_fld cl n3 (by walk_at "ev") rfl) (ev_ixt (by walk_at "ev") rfl) (fd_get (fget_of hf))) ?_)
      unfold numsAt
      rw [if_pos e]
    · omega
  · have e := of_decide_eq_false e
    rcases hp.at_ with ⟨_, _, q⟩ | ⟨_, m, hm, q1, q2⟩
    · exact absurd q e
    · obtain ⟨f1, f2⟩ := between_folk h hm
      have es : numsAt W (reachD W lot).num p = (spotR (fndOf W.folk (reachD W lot).num) (p.1, p.2.1, m) p.2.2 0, spotR (fndOf W.folk (reachD W lot).num) (p.1, p.2.1, m) p.2.2 1) := by
        unfold numsAt
        rw [if_neg e, hm]; rfl
      rw [es]
      refine rtn_seq (nrm_set (P := Dd K (wayD (p.1, p.2.1, m))) (ev_tupD (evad_cons (ev_ixt (by walk_at "ev") rfl) (evad_cons (ev_ixt (by walk_at "ev") rfl) (evad_cons (Evl.c (ev_call (eva_cons (ev_fld cl n1 (by walk_at "ev") rfl) (eva_cons (ev_ixt (by walk_at "ev") rfl) (eva_cons (ev_ixt (by walk_at "ev") rfl) eva_nil))) (RBetween.mk h.many)) (by rw [hm])) evad_nil))))) ?_
      exact rtn_ret (ev_call (eva_cons (ev_fld cl n3 (by walk_at "ev") rfl) (eva_cons (by walk_at "ev") (eva_cons (ev_ixt (by walk_at "ev") rfl) eva_nil))) (RSpot.mk (F := fndOf W.folk (reachD W lot).num) (w := (p.1, p.2.1, m)) (n := p.2.2) (fget_of f1) (fget_of f2)))
theorem evt_hp {G : Gm} {M : OM} {t : TE} {o : Option Int} (h : Evl G M t (Dd K (optD o)) M) : EvT G M (tAnd (tTest (tOp (fun x y H Q => y = .non ∧ Q (.bl (!decide (x = .non))) H) t (tC .non))) (tTest (tOp (rI0 fun i j => .bl (decide (j < i))) t (tC (.int 0))))) (hp o) M := by
  cases o with
  | none => exact evt_and (b := !isNon (optD none)) (M1 := M) (evt_test (K := K) (ev_op h ev_non ope_notN)) (fun e => by cases e) fun _ => ⟨rfl, rfl⟩
  | some n => exact evt_and (b := !isNon (optD (some n))) (M1 := M) (evt_test (K := K) (ev_op h ev_non ope_notN)) (fun _ => evt_test (K := K) (ev_op h ev_int ope_B)) fun e => by cases e
def hear (W : Web) (lot : List Str) (p : Place) : List Int := sortD PyData.int (heardOf (numsAt W (reachD W lot).num p))
inductive RHear (K : PySem.W.Frag) : Ctr
  | mk {M : OM} {W : Web} {lot : List Str} {p : Place} (tb : Tb K M) (h : OkWeb W) (hl : OkLot W.folk lot) (hp : OkPlace W p) : RHear K M [Dd K (webD W), Dd K (.list (lot.map .str)), Dd K (wayD p)] (Dd K (.list ((hear W lot p).map .int))) M
theorem ev_cry {G : Gm} {M : OM} {E : XK} {ta tl : TE} {W : Web} {lot : List Str} (tb : Tb K M) (h : OkWeb W) (hl : OkLot W.folk lot) (h1 : Evl G M ta (Dd K (webD W)) M) (h2 : Evl G M tl (Dd K (.list (lot.map .str))) M) : Evl G M (tMake (He.ga K "Cry") (SpR (RCry K)) [] E (tCons ta (tCons tl tNil))) (CrP K W lot) M :=
  ev_make (K := K) (eva_cons h1 (eva_cons h2 eva_nil)) fun y dy hy => by
    have := RCry.mk (K := K) (M := M.set y (.ins (He.ga K "Cry") dy [])) (x := y) (dx := dy) (tb.new hy rfl) OM.set_same h hl
    rwa [OM.set_set] at this
abbrev n_hearings : List Str := ["web", "starters", "place", "cry", "numbers", "number"]
theorem sc_hearings : FnScope n_hearings ["web", "starters", "place"] (defScope (top 44)) := ⟨rfl, rfl, rfl, by decide +kernel, rfl, by decide +kernel, by decide +kernel⟩
theorem ok_hearings (T : Tx K mg base) : Cal P w K mg base 8 "hearings" (SpR (RHear K)) [] := by
  obtain ⟨fd, F⟩ := T.fd_hearings
  have nd := sc_hearings.nd
  let nm := n_hearings
  let scp := defScope (top 44)
  have C_Cry : Mak P w K mg base 6 "Cry" (He.ga K "Cry") (SpR (RCry K)) := ok_Cry_init T
  have C_Cry_numbers_at : Met P w K mg base 3 (He.ga K "Cry") "numbers_at" (SpR (RNumsAt K)) := ok_Cry_numbers_at T
  have C_need_place : Cal P w K mg base 3 "need_place" (SpR (RNeedPlace K)) [] := ok_need_place T
  refine cal_mk T.g_hearings F (F.bindsN fun _ _ _ _ _ _ us hl => match us, hl with | [_, _, _], _ => rfl) (fn_ok (k := 7) F sc_hearings (sp_len fun _ _ _ _ h => by cases h <;> rfl) fun cdv A outer s H E hr => ?_)
  have hu := hu_of hr
  refine ⟨_, (pss_cons (ps_set (i := 3) nd rfl (by first | exact Or.inl rfl | exact Or.inr rfl) (pe_mk C_Cry hr (by decide) (by rfl) (pa_cons (pv 0) (pa_cons (pv 1) pa_nil))))
    (pss_cons (ps_set (i := 4) nd rfl (by first | exact Or.inl rfl | exact Or.inr rfl) (pe_mt C_Cry_numbers_at hr (by decide) (pv 3) (pa_cons (pe_c C_need_place hr (by decide) (by rfl) (pa_cons (pe_fldK (K := K) rfl (pv 3) rfl) (pa_cons (pv 2) pa_nil))) pa_nil)))
    (pss_one (ps_ret (pe_callB (cr_sortK (K := K) rfl hr.units) (by rfl) T.f_sorted (by decide +kernel) (pa_cons (pe_lc (own := [("number", 5)]) (by rfl) nd (pi_listK (K := K) rfl (pv 4)) (blkOk_by (own := [("number", 5)]) (N := nm) (sc := scp) (by decide +kernel)) (fun _ _ _ _ _ => (pg_name (i := 5) nd rfl (by first | exact Or.inl rfl | exact Or.inr rfl))) (fun _ _ _ _ _ => pts_one (PW.pt (pw_and (pt_cmpR op_notN (pv 5) pe_non (nomark _)) (pw_and1 (pt_cmpR op_gt (pv 5) pe_int (nomark _)))))) (fun _ _ _ _ _ => (pv 5))) pa_nil)))))), fun vs Q h => end_rtn h ?_⟩
  try dsimp only [cx_K]
  rintro _ _ _ _ ⟨tb, h, hl, hp⟩
  rename_i M W lot p
  have cl := T.c_Cry
  have n1 := T.n_Cry_own
  refine rtn_seq (nrm_set (ev_cry tb h hl (ev_var rfl) (ev_var rfl))) ?_
  refine rtn_seq (nrm_set (P := Dd K (prD (numsAt W (reachD W lot).num p))) (ev_meth (C := He.ga K "Cry") (fs := crF K W lot) (ev_var rfl) rfl (eva_cons (ev_call (eva_cons (ev_fld cl n1 (ev_var rfl) rfl) (eva_cons (ev_var rfl) eva_nil)) (RNeedPlace.mk h hp)) eva_nil) (RNumsAt.mk h hp))) ?_
  let e := numsAt W (reachD W lot).num p
  have comp := ev_lcL (K := K) (M := M) (tl := tVar 4) (te := tVar 5) (g := gName 5) (vs := [5]) (G := [some (Dd K (webD W)), some (Dd K (.list (lot.map .str))), some (Dd K (wayD p)), some (CrP K W lot), some (Dd K (prD e)), none]) [e.1, e.2] optD (fun o => .int (o.getD 0)) Z.hp (ev_var rfl) (show 2 ≤ sizeLine by decide) fun o _ D c hD => turn_if (evgw_name (by decide)) (evt_hp (K := K) (t := tVar 5) (o := o) (ev_var rfl)) fun q => Evl.c (ev_var rfl) (by cases o with | none => cases q | some n => rfl)
  refine rtn_ret (Evl.c (ev_cb (eva_cons comp eva_nil) ?_) rfl)
  have e1 : ((List.filter Z.hp [e.1, e.2]).map fun o : Option Int => PyData.int (o.getD 0)) = (heardOf e).map PyData.int := by unfold heardOf; rw [List.map_map]; rfl
  rw [e1]
  refine cbe_sortD (K := K) (enc := PyData.int) (bs := heardOf e) (PySem.W.AllAlike.of fun _ _ => rfl) (PySem.W.Sortable.others fun _ => ⟨(by intro z; cases z), fun _ z => by cases z⟩) ?_ fun x _ => by simp [PyData.depth]
  unfold heardOf
  rw [List.length_map]
  exact Nat.le_trans (List.length_filter_le ..) (show 2 ≤ sizeLine by decide)
end
end Z
set_option maxRecDepth 100000
set_option maxHeartbeats 4000000
/-! F9: counts.py. Own work. -/
namespace Z
open PySem PySem.Spec L2
local macro_rules | `(tactic| walk_at "ev") => `(tactic| repeat' (first
  | with_reducible apply eva_nil
  | ((with_reducible apply ev_var); rfl)
  | with_reducible apply ev_int
  | with_reducible apply ev_str
  | with_reducible apply ev_bl
  | with_reducible apply ev_non
  | ((with_reducible show PySem.W.Frag); assumption)
  | with_reducible apply eva_cons
  | with_reducible apply ev_cb
  | with_reducible apply ev_op
  | with_reducible apply cbe_min2
  | with_reducible apply cbe_max2
  | with_reducible apply ope_I
  | with_reducible apply ope_B
  | with_reducible apply ope_isN
  | with_reducible apply ope_notN
  | with_reducible apply ope_eqi
  | with_reducible apply ope_nei
  | with_reducible apply ope_eqs
  | with_reducible apply ope_nes
  | with_reducible apply evt_test
  | with_reducible apply rtn_ret))
section
variable {P : Program} {w : World} {K : PySem.W.Frag} {mg : Str → Option Value} {base : Heap}
variable {G G1 G2 : Gm} {M M1 M2 : OM}
abbrev frwD (x : Fr) : PyData := .tuple [wayD x.1, .int x.2.1, .int x.2.2.1, .int x.2.2.2]
theorem fr_len {F : Fnd} {w : Way} : (frontsF F w).length ≤ 2 := by
  unfold frontsF
  rw [List.length_map]
  exact List.length_filter_le ..
theorem flat_len {α β : Type} {f : α → List β} {n : Nat} : ∀ {l : List α}, (∀ a ∈ l, (f a).length ≤ n) → (l.flatMap f).length ≤ l.length * n
  | [], _ => by simp
  | a :: l, h => by
    have := flat_len (l := l) fun x hx => h x (List.mem_cons_of_mem _ hx)
    have h2 := h a (List.mem_cons_self ..)
    rw [List.flatMap_cons, List.length_append, List.length_cons, Nat.add_mul]
    omega
theorem allFr_len {W : Web} (h : OkWeb W) {num : Num} : (allFr W num).length ≤ 128 := by
  have := flat_len (f := fun w => (frontsF (fndOf W.folk num) w).map fun f => (w, f)) (n := 2) (l := W.ways) fun w _ => by rw [List.length_map]; exact fr_len
  have h2 := h.many
  unfold allFr
  omega
abbrev spD (x : Int × Int) : PyData := .tuple [.int x.1, .int x.2]
inductive RAllFr (K : PySem.W.Frag) : Ctr
  | mk {M : OM} {W : Web} {lot : List Str} (h : OkWeb W) (hl : OkLot W.folk lot) : RAllFr K M [CrP K W lot] (Dd K (.list ((allFr W (reachD W lot).num).map frwD))) M
abbrev n_all_fronts : List Str := ["cry", "way", "front"]
theorem sc_all_fronts : FnScope n_all_fronts ["cry"] (defScope (top 46)) := ⟨rfl, rfl, rfl, by decide +kernel, rfl, by decide +kernel, by decide +kernel⟩
theorem ok_all_fronts (T : Tx K mg base) : Cal P w K mg base 2 "all_fronts" (SpR (RAllFr K)) [] := by
  obtain ⟨fd, F⟩ := T.fd_all_fronts
  have nd := sc_all_fronts.nd
  let nm := n_all_fronts
  let scp := defScope (top 46)
  have C_fronts : Cal P w K mg base 1 "fronts" (SpR (RFronts K)) [] := ok_fronts T
  refine cal_mk T.g_all_fronts F (F.bindsN fun _ _ _ _ _ _ us hl => match us, hl with | [_], _ => rfl) (fn_ok (k := 1) F sc_all_fronts (sp_len fun _ _ _ _ h => by cases h <;> rfl) fun cdv A outer s H E hr => ?_)
  have hu := hu_of hr
  refine ⟨_, (pss_one (ps_ret (pe_lc2 (own := [("way", 1), ("front", 2)]) (vs1 := [2]) (by rfl) nd (pi_listK (K := K) rfl (pe_ix (ix_K (K := K) rfl) (pe_fldK (K := K) rfl (pv 0) rfl) pe_int (fun _ _ => rfl))) (blkOk_by (own := [("way", 1), ("front", 2)]) (N := nm) (sc := scp) (by decide +kernel)) (by decide) (fun _ _ _ _ _ => (pg_name (i := 1) nd rfl (by first | exact Or.inl rfl | exact Or.inr rfl))) (fun _ _ _ _ _ => pts_nil) (fun _ _ _ _ _ => (pi_listK (K := K) rfl (pe_c C_fronts hr (by decide) (by rfl) (pa_cons (pe_fldK (K := K) rfl (pv 0) rfl) (pa_cons (pv 1) pa_nil))))) (fun _ _ _ _ _ => (pg_name (i := 2) nd rfl (by first | exact Or.inl rfl | exact Or.inr rfl))) (fun _ _ _ _ _ => pts_nil) (fun _ _ _ _ _ => (pe_op (op_catTK (K := K) rfl) (pe_tup (pa_cons (pv 1) pa_nil)) (pv 2)))))), fun vs Q h => end_rtn h ?_⟩
  try dsimp only [cx_K]
  rintro _ _ _ _ ⟨h, hl⟩
  rename_i M W lot
  have cl := T.c_Cry
  have n1 := T.n_Cry_own
  have n3 := T.n_Cry_by_folk
  have fa := reach_facts h hl
  let F := fndOf W.folk (reachD W lot).num
  have hi : EvI (gam n_all_fronts [CrP K W lot]) M (iList K (tOp (rIx K) (tFld K (tVar 0) "own") (tC (.int 1)))) W.ways.length (at_ (W.ways.map fun w => Dd K (wayD w))) M := by
    have := evi_listD (K := K) (G := gam n_all_fronts [CrP K W lot]) (M := M) (ev_ixt (K := K) (G := gam n_all_fronts [CrP K W lot]) (M := M) (t := tFld K (tVar 0) "own") (ds := [.list (W.folk.map .str), .list (W.ways.map wayD)]) (i := 1) (ev_fld (P := Dd K (webD W)) cl n1 (ev_var (i := 0) rfl) rfl) rfl)
    rwa [List.length_map, List.map_map] at this
  have comp := ev_lc2 (K := K) (G := gam n_all_fronts [CrP K W lot]) (M := M) (g := gName 1) (g1 := gName 2) (te := tOp (rCatT K) (tTup (tCons (tVar 1) tNil)) (tVar 2)) (wi1 := iList K (tCall (SpR (RFronts K)) [] E0 (tCons (tFld K (tVar 0) "by_folk") (tCons (tVar 1) tNil)))) (vs := [1, 2]) (vs1 := [2]) W.ways (frontsF F) (fun w => Dd K (wayD w)) (fun _ f => Dd K (frD f)) (fun w f => Dd K (frwD (w, f))) hi
    (by
      have := flat_len (f := frontsF F) (n := 2) (l := W.ways) fun w _ => fr_len
      have := h.many
      exact Nat.le_trans (m := 128) (by omega) (by decide)) fun w hw D c hD => by
    have ok := h.ways w hw
    refine ⟨_, evgw_name (by decide), ?_, fun f hf c => ⟨_, evgw_name (by decide), ?_⟩⟩
    · have e3 : ∀ k, (k = 0 ∨ k = 1) → (fnum F w.1 k).isSome = true → (fnum F w.2.1 ((k + w.2.2) % 2)).isSome = true := fun k hk q => by
        rw [fnum_of ok.one] at q
        obtain ⟨a, ha⟩ := Option.isSome_iff_exists.mp q
        obtain ⟨b, hb, _⟩ := way_pair h fa hw hk ha
        rw [fnum_of ok.two, hb]; rfl
      have := evi_listD (K := K) (ev_call (E := E0) (M1 := M.set D (.lst c)) (G := (wipeG (gam n_all_fronts [CrP K W lot]) [1, 2]).set 1 (some (Dd K (wayD w)))) (M := M.set D (.lst c)) (t := tCons (tFld K (tVar 0) "by_folk") (tCons (tVar 1) tNil)) (eva_cons (ev_fld (P := Fd K F) cl n3 (ev_var (i := 0) rfl) rfl) (eva_cons (ev_var rfl) eva_nil)) (RFronts.mk (F := F) (w := w) (fget_of ok.one) (fget_of ok.two) e3))
      rwa [List.length_map, List.map_map] at this
    · exact Evl.c (ev_op (ev_tupD (evad_cons (ev_var rfl) evad_nil)) (ev_var rfl) (ope_catTD (by simp) (by simp) (show 4 ≤ sizeLine by decide))) rfl
  refine rtn_ret (Evl.c (ls_imp (ds := (allFr W (reachD W lot).num).map frwD) (Evl.c comp ?_)) rfl)
  unfold allFr
  rw [List.map_map, List.map_flatMap]
  refine congrArg _ ?_
  refine congrArg (fun g => List.flatMap g W.ways) ?_
  funext w
  rw [List.map_map]; rfl
inductive RNumsH (K : PySem.W.Frag) : Ctr
  | mk {M : OM} {W : Web} {lot : List Str} (h : OkWeb W) (hl : OkLot W.folk lot) : RNumsH K M [CrP K W lot] (Dd K (.list ((numsHeard W (reachD W lot).num).map nhD))) M
theorem heard_len {e : Option Int × Option Int} : (heardOf e).length ≤ 2 := by
  unfold heardOf
  rw [List.length_map]
  exact List.length_filter_le ..
abbrev n_numbers_heard : List Str := ["cry", "found", "name", "numbers", "number"]
theorem sc_numbers_heard : FnScope n_numbers_heard ["cry"] (defScope (top 48)) := ⟨rfl, rfl, rfl, by decide +kernel, rfl, by decide +kernel, by decide +kernel⟩
theorem ok_numbers_heard (T : Tx K mg base) : Cal P w K mg base 1 "numbers_heard" (SpR (RNumsH K)) [] := by
  obtain ⟨fd, F⟩ := T.fd_numbers_heard
  have nd := sc_numbers_heard.nd
  let nm := n_numbers_heard
  let scp := defScope (top 48)
  refine cal_mk T.g_numbers_heard F (F.bindsN fun _ _ _ _ _ _ us hl => match us, hl with | [_], _ => rfl) (fn_ok (k := 0) F sc_numbers_heard (sp_len fun _ _ _ _ h => by cases h <;> rfl) fun cdv A outer s H E hr => ?_)
  have hu := hu_of hr
  refine ⟨_, (pss_cons (ps_set (i := 1) nd rfl (by first | exact Or.inl rfl | exact Or.inr rfl) (pe_lst pa_nil))
    (pss_cons (ps_for PassesOwn.never rfl (pi_items (pe_fldK (K := K) rfl (pv 0) rfl)) (pg_tupK (K := K) (n := 2) rfl (by rfl) (pgs_cons (pg_name (i := 2) nd rfl (by first | exact Or.inl rfl | exact Or.inr rfl)) (pgs_cons (pg_name (i := 3) nd rfl (by first | exact Or.inl rfl | exact Or.inr rfl)) pgs_nil)))
    (pss_one (ps_aug (i := 1) nd rfl (by first | exact Or.inl rfl | exact Or.inr rfl) (pe_lc (own := [("number", 4)]) (by rfl) nd (pi_listK (K := K) rfl (pv 3)) (blkOk_by (own := [("number", 4)]) (N := nm) (sc := scp) (by decide +kernel)) (fun _ _ _ _ _ => (pg_name (i := 4) nd rfl (by first | exact Or.inl rfl | exact Or.inr rfl))) (fun _ _ _ _ _ => pts_one (PW.pt (pw_and (pt_cmpR op_notN (pv 4) pe_non (nomark _)) (pw_and1 (pt_cmpR op_gt (pv 4) pe_int (nomark _)))))) (fun _ _ _ _ _ => (pe_tup (pa_cons (pv 4) (pa_cons (pv 2) pa_nil))))) iop_ext)))
    (pss_one (ps_ret (pe_callB (cr_sortK (K := K) rfl hr.units) (by rfl) T.f_sorted (by decide +kernel) (pa_cons (pv 1) pa_nil)))))), fun vs Q h => end_rtn h ?_⟩
  try dsimp only [cx_K]
  rintro _ _ _ _ ⟨h, hl⟩
  rename_i M W lot
  have cl := T.c_Cry
  have n3 := T.n_Cry_by_folk
  let num := (reachD W lot).num
  refine rtn_seqx (nrmx_set (evx_lst eva_nil (by decide))) ?_
  rintro _ _ ⟨_, ⟨p, hp, rfl, rfl⟩, rfl⟩
  let G0 : Gm := [some (CrP K W lot), some (Rf p), none, none, none]
  let acc : Nat → List (Int × Str) := fun i => (W.folk.take i).flatMap fun x => (heardOf (num x)).map fun n => (n, x)
  let Mi : Nat → OM := fun i => M.set p (.lst ((acc i).map fun x => Dd K (nhD x)))
  have n8 := h.f8
  have alen : ∀ i, (acc i).length ≤ 16 := fun i => by
    have := flat_len (f := fun x => (heardOf (num x)).map fun n => (n, x)) (n := 2) (l := W.folk.take i) fun x _ => by rw [List.length_map]; exact heard_len
    rw [List.length_take] at this
    show ((W.folk.take i).flatMap _).length ≤ 16
    omega
  have hi : EvI G0 (Mi 0) (iItems (tFld K (tVar 0) "by_folk")) W.folk.length (at_ (W.folk.map fun x => Tp K [Dd K (.str x), Dd K (prD (num x))])) (Mi 0) := by
    have := evi_itemsL (K := K) (G := G0) (M := Mi 0) (M1 := Mi 0) (kps := (fndOf W.folk num).map fun x => (.inr x.1, Dd K (prD x.2))) (ev_fld (P := Fd K (fndOf W.folk num)) cl n3 (ev_var (i := 0) rfl) rfl)
    unfold fndOf at this
    rwa [List.map_map, List.map_map, List.length_map] at this
  show Rtn G0 (Mi 0) _ _ _
  refine rtn_seq (nrm_for (n := W.folk.length) (fun _ => G0) Mi hi ⟨rfl, fun _ _ q => q⟩ fun i hlt => ?_) ?_
  · have hg : W.folk[i]? = some W.folk[i] := List.getElem?_eq_getElem hlt
    rw [at_map hg]
    have ea : acc (i + 1) = acc i ++ (heardOf (num W.folk[i])).map fun n => (n, W.folk[i]) := by
      show (W.folk.take (i + 1)).flatMap _ = (W.folk.take i).flatMap _ ++ _
      rw [List.take_succ, hg, List.flatMap_append]
      simp
    generalize W.folk[i] = x at *
    let e := num x
    have hl2 : EvI [some (CrP K W lot), some (Rf p), some (Dd K (.str x)), some (Dd K (prD e)), none] (Mi i) (iList K (tVar 3)) [e.1, e.2].length (at_ ([e.1, e.2].map fun o => Dd K (optD o))) (Mi i) := evi_listD (K := K) (ds := [optD e.1, optD e.2]) (ev_var rfl)
    have comp := ev_lcR (tt := tAnd (tTest (tOp (fun x y H Q => y = .non ∧ Q (.bl (!decide (x = .non))) H) (tVar 4) (tC .non))) (tTest (tOp (rI0 fun i j => .bl (decide (j < i))) (tVar 4) (tC (.int 0))))) (te := tTup (tCons (tVar 4) (tCons (tVar 2) tNil))) (g := gName 4) (vs := [4]) [e.1, e.2] (fun o => Dd K (optD o)) (fun o => Dd K (nhD (o.getD 0, x))) Z.hp hl2 (show 2 ≤ sizeLine by decide) fun o _ D c hD =>
      turn_if (evgw_name (by decide)) (evt_hp (K := K) (o := o) (ev_var rfl)) fun q => by
        cases o with
        | none => cases q
        | some n => exact ev_tupD (evad_cons (ev_var rfl) (evad_cons (ev_var rfl) evad_nil))
    refine Body.weak (body_of (evg_tup (evgs_cons evg_name (evgs_cons evg_name evgs_nil)) rfl) (Nrm.c (nrm_aug (P := Rf p) rfl comp (ope_ext OM.set_same ?_)) rfl ?_)) (wk_keep (wk_keep (wk_drop (wk_drop (wk_keep wk_nil)))))
    · rw [List.length_map, List.length_map]
      have h1 := alen i
      have h2 : (List.filter Z.hp [e.1, e.2]).length ≤ 2 := List.length_filter_le ..
      exact Nat.le_trans (m := 18) (by omega) (by decide)
    · show (M.set p _).set p _ = M.set p _
      rw [OM.set_set, ea, List.map_append]
      congr 3
      show _ = ((heardOf e).map fun n => (n, x)).map _
      unfold heardOf
      rw [List.map_map, List.map_map]; rfl
  · have eacc : acc W.folk.length = nhL W num := by show (W.folk.take _).flatMap _ = _; rw [List.take_length]; rfl
    refine rtn_shed (shed_lst (K := K) (i := 1) (p := p) (ps := (acc W.folk.length).map fun x => Dd K (nhD x)) rfl OM.set_same) ?_
    rw [show (Mi W.folk.length).del p = M from OM.del_set hp]
    refine rtn_ret (Evl.c (ev_cb (eva_cons (ls_imp (ds := (acc W.folk.length).map nhD) (Evl.c (ev_var (i := 1) rfl) (by rw [List.map_map]; rfl))) eva_nil) (cbe_sortD (K := K) (enc := nhD) (PySem.W.AllAlike.of fun _ _ => rfl) (PySem.W.Sortable.tuples fun x => ⟨_, _, rfl⟩) (Nat.le_trans (alen _) (by decide)) fun x _ => by simp [PyData.depth, PyData.depthAll])) ?_)
    rw [eacc]; rfl
inductive RSpansH (K : PySem.W.Frag) : Ctr
  | mk {M : OM} {W : Web} {lot : List Str} (h : OkWeb W) (hl : OkLot W.folk lot) : RSpansH K M [CrP K W lot] (Dd K (.list ((spansHeard W (reachD W lot).num).map spD))) M
abbrev n_spans_heard : List Str := ["cry", "found", "way", "ahead", "behind", "met", "span"]
theorem sc_spans_heard : FnScope n_spans_heard ["cry"] (defScope (top 49)) := ⟨rfl, rfl, rfl, by decide +kernel, rfl, by decide +kernel, by decide +kernel⟩
theorem ok_spans_heard (T : Tx K mg base) : Cal P w K mg base 3 "spans_heard" (SpR (RSpansH K)) [] := by
  obtain ⟨fd, F⟩ := T.fd_spans_heard
  have nd := sc_spans_heard.nd
  let nm := n_spans_heard
  let scp := defScope (top 49)
  have C_all_fronts : Cal P w K mg base 2 "all_fronts" (SpR (RAllFr K)) [] := ok_all_fronts T
  refine cal_mk T.g_spans_heard F (F.bindsN fun _ _ _ _ _ _ us hl => match us, hl with | [_], _ => rfl) (fn_ok (k := 2) F sc_spans_heard (sp_len fun _ _ _ _ h => by cases h <;> rfl) fun cdv A outer s H E hr => ?_)
  have hu := hu_of hr
  refine ⟨_, (pss_cons (ps_set (i := 1) nd rfl (by first | exact Or.inl rfl | exact Or.inr rfl) (pe_lst pa_nil))
    (pss_cons (ps_for PassesOwn.never rfl (pi_listK (K := K) rfl (pe_c C_all_fronts hr (by decide) (by rfl) (pa_cons (pv 0) pa_nil))) (pg_tupK (K := K) (n := 4) rfl (by rfl) (pgs_cons (pg_name (i := 2) nd rfl (by first | exact Or.inl rfl | exact Or.inr rfl)) (pgs_cons (pg_name (i := 3) nd rfl (by first | exact Or.inl rfl | exact Or.inr rfl)) (pgs_cons (pg_name (i := 4) nd rfl (by first | exact Or.inl rfl | exact Or.inr rfl)) (pgs_cons (pg_name (i := 5) nd rfl (by first | exact Or.inl rfl | exact Or.inr rfl)) pgs_nil)))))
    (pss_cons (ps_expr (pe_bm PySem.F.plainAttrs_list PySem.F.slot_list_append PySem.F.type_list_append mt_append (pv 1) (pa_cons (pe_tup (pa_cons (pe_op op_add (pv 3) pe_int) (pa_cons (pe_op op_add (pv 3) (pe_callB (call_min2 rfl) (by rfl) T.f_min (by decide +kernel) (pa_cons (pv 5) (pa_cons (pe_op op_sub (pe_ix (ix_K (K := K) rfl) (pv 2) pe_int (fun _ _ => rfl)) pe_int) pa_nil)))) pa_nil))) pa_nil)))
    (pss_one (ps_expr (pe_bm PySem.F.plainAttrs_list PySem.F.slot_list_append PySem.F.type_list_append mt_append (pv 1) (pa_cons (pe_tup (pa_cons (pe_op op_add (pv 4) pe_int) (pa_cons (pe_op op_sub (pe_op op_add (pv 4) (pe_ix (ix_K (K := K) rfl) (pv 2) pe_int (fun _ _ => rfl))) (pe_callB (call_max2 rfl) (by rfl) T.f_max (by decide +kernel) (pa_cons (pe_op op_add (pv 5) pe_int) (pa_cons pe_int pa_nil)))) pa_nil))) pa_nil))))))
    (pss_one (ps_ret (pe_lc (own := [("span", 6)]) (by rfl) nd (pi_listK (K := K) rfl (pv 1)) (blkOk_by (own := [("span", 6)]) (N := nm) (sc := scp) (by decide +kernel)) (fun _ _ _ _ _ => (pg_name (i := 6) nd rfl (by first | exact Or.inl rfl | exact Or.inr rfl))) (fun _ _ _ _ _ => pts_one (pt_cmpR op_le (pe_ix (ix_K (K := K) rfl) (pv 6) pe_int (fun _ _ => rfl)) (pe_ix (ix_K (K := K) rfl) (pv 6) pe_int (fun _ _ => rfl)) (nomark _))) (fun _ _ _ _ _ => (pv 6))))))), fun vs Q h => end_rtn h ?_⟩
  try dsimp only [cx_K]
  rintro _ _ _ _ ⟨h, hl⟩
  rename_i M W lot
  let num := (reachD W lot).num
  refine rtn_seqx (nrmx_set (evx_lst eva_nil (by decide))) ?_
  rintro _ _ ⟨_, ⟨p, hp, rfl, rfl⟩, rfl⟩
  let G0 : Gm := [some (CrP K W lot), some (Rf p), none, none, none, none, none]
  let acc : Nat → List (Int × Int) := fun i => ((allFr W num).take i).flatMap spans2
  let Ms : List (Int × Int) → OM := fun l => M.set p (.lst (l.map fun x => Dd K (spD x)))
  have nlen := allFr_len h (num := num)
  have alen : ∀ i, (acc i).length ≤ 256 := fun i => by
    have := flat_len (f := spans2) (n := 2) (l := (allFr W num).take i) fun x _ => Nat.le_refl 2
    rw [List.length_take] at this
    show (((allFr W num).take i).flatMap spans2).length ≤ 256
    omega
  have hi : EvI G0 (Ms (acc 0)) (iList K (tCall (SpR (RAllFr K)) [] E0 (tCons (tVar 0) tNil))) (allFr W num).length (at_ ((allFr W num).map fun x => Dd K (frwD x))) (Ms (acc 0)) := by
    have := evi_listD (K := K) (ev_call (E := E0) (G := G0) (M := Ms (acc 0)) (M1 := Ms (acc 0)) (t := tCons (tVar 0) tNil) (eva_cons (ev_var (i := 0) rfl) eva_nil) (RAllFr.mk h hl))
    rwa [List.length_map, List.map_map] at this
  show Rtn G0 (Ms (acc 0)) _ _ _
  refine rtn_seq (nrm_for (n := (allFr W num).length) (fun _ => G0) (fun i => Ms (acc i)) hi ⟨rfl, fun _ _ q => q⟩ fun i hlt => ?_) ?_
  · have hg : (allFr W num)[i]? = some (allFr W num)[i] := List.getElem?_eq_getElem hlt
    rw [at_map hg]
    have ea : acc (i + 1) = acc i ++ spans2 (allFr W num)[i] := by
      show ((allFr W num).take (i + 1)).flatMap _ = ((allFr W num).take i).flatMap _ ++ _
      rw [List.take_succ, hg, List.flatMap_append]
      simp
    generalize (allFr W num)[i] = x at *
    have al := alen i
    generalize acc i = l at *
    rw [ea]
    have e1 : l ++ spans2 x = (l ++ [(x.2.1 + 1, x.2.1 + min x.2.2.2 (x.1.2.2 - 1))]) ++ [(x.2.2.1 + 1, x.2.2.1 + x.1.2.2 - max (x.2.2.2 + 1) 1)] := by unfold spans2; simp
    have push : ∀ (l : List (Int × Int)) (y : Int × Int), (Ms l).set p (.lst ((l.map fun x => Dd K (spD x)) ++ [Dd K (spD y)])) = Ms (l ++ [y]) := fun l y => by
      show (M.set p _).set p _ = M.set p _
      rw [OM.set_set, List.map_append]; rfl
    rw [e1]
    let y1 : Int × Int := (x.2.1 + 1, x.2.1 + min x.2.2.2 (x.1.2.2 - 1))
    refine Body.weak (body_of (evg_tupD (evgs_cons evg_name (evgs_cons evg_name (evgs_cons evg_name (evgs_cons evg_name evgs_nil)))) rfl)
      (nrm_seq (M1 := Ms (l ++ [y1])) (nrm_drop (Evl.c (ev_append (ev_var rfl) (ev_tupD (evad_cons (ev_op (ev_var rfl) ev_int ope_I) (evad_cons (ev_op (ev_var rfl) (ev_cb (eva_cons (ev_var rfl) (eva_cons (ev_op (ev_ixt (ev_var rfl) rfl) ev_int ope_I) eva_nil)) cbe_min2) ope_I) evad_nil))) ⟨_, OM.set_same⟩ OM.set_same ?_) rfl (push l y1)))
      (nrm_drop (Evl.c (ev_append (ev_var rfl) (ev_tupD (evad_cons (ev_op (ev_var rfl) ev_int ope_I) (evad_cons (ev_op (ev_op (ev_var rfl) (ev_ixt (ev_var rfl) rfl) ope_I) (ev_cb (eva_cons (ev_op (ev_var rfl) ev_int ope_I) (eva_cons ev_int eva_nil)) cbe_max2) ope_I) evad_nil))) ⟨_, OM.set_same⟩ OM.set_same ?_) rfl (push (l ++ [y1]) (x.2.2.1 + 1, x.2.2.1 + x.1.2.2 - max (x.2.2.2 + 1) 1)))))) (wk_keep (wk_keep (wk_drop (wk_drop (wk_drop (wk_drop (wk_keep wk_nil)))))))
    · rw [List.length_map]; exact Nat.lt_of_le_of_lt al (by decide)
    · rw [List.length_map, List.length_append, List.length_singleton]; exact Nat.lt_of_le_of_lt (Nat.add_le_add_right al 1) (by decide)
  · have eacc : acc (allFr W num).length = (allFr W num).flatMap spans2 := by show ((allFr W num).take _).flatMap _ = _; rw [List.take_length]
    refine rtn_shed (shed_lst (K := K) (i := 1) (p := p) (ps := (acc (allFr W num).length).map fun x => Dd K (spD x)) rfl OM.set_same) ?_
    rw [show (Ms (acc (allFr W num).length)).del p = M from OM.del_set hp]
    have v : Evl (G0.set 1 (some (Ls K ((acc (allFr W num).length).map fun x => Dd K (spD x))))) M (tVar 1) (Dd K (.list ((acc (allFr W num).length).map spD))) M := ls_imp (Evl.c (ev_var (i := 1) rfl) (by rw [List.map_map]; rfl))
    refine rtn_ret (Evl.c (ev_lcL (K := K) (acc (allFr W num).length) spD spD (fun s => decide (s.1 ≤ s.2)) v (Nat.le_trans (alen _) (by decide)) fun s _ D c hD => turn_if (evgw_name (by decide)) (evt_test (K := K) (ev_op (ev_ixt (ev_var rfl) rfl) (ev_ixt (ev_var rfl) rfl) ope_B)) fun _ => ev_var rfl) ?_)
    rw [eacc]; rfl
inductive RSpansAll (K : PySem.W.Frag) : Ctr
  | mk {M : OM} {W : Web} {lot : List Str} (h : OkWeb W) (hl : OkLot W.folk lot) : RSpansAll K M [CrP K W lot] (Dd K (.list ((spansAll W (reachD W lot).num).map spD))) M
theorem spans_len {W : Web} (h : OkWeb W) {num : Num} : (spansHeard W num).length ≤ 256 := by
  have h1 := allFr_len h (num := num)
  have := flat_len (f := spans2) (n := 2) (l := allFr W num) fun x _ => Nat.le_refl 2
  unfold spansHeard
  exact Nat.le_trans (List.length_filter_le ..) (by omega)
theorem nums_len {W : Web} (h : OkWeb W) {num : Num} : (numsHeard W num).length ≤ 16 := by
  have := flat_len (f := fun x => (heardOf (num x)).map fun n => (n, x)) (n := 2) (l := W.folk) fun x _ => by rw [List.length_map]; exact heard_len
  have h8 := h.f8
  unfold numsHeard
  rw [(sortD_perm _).length_eq]
  unfold nhL
  omega
abbrev n_spans_of_all : List Str := ["cry", "beat", "name"]
theorem sc_spans_of_all : FnScope n_spans_of_all ["cry"] (defScope (top 50)) := ⟨rfl, rfl, rfl, by decide +kernel, rfl, by decide +kernel, by decide +kernel⟩
theorem ok_spans_of_all (T : Tx K mg base) : Cal P w K mg base 4 "spans_of_all" (SpR (RSpansAll K)) [] := by
  obtain ⟨fd, F⟩ := T.fd_spans_of_all
  have nd := sc_spans_of_all.nd
  let nm := n_spans_of_all
  let scp := defScope (top 50)
  have C_numbers_heard : Cal P w K mg base 1 "numbers_heard" (SpR (RNumsH K)) [] := ok_numbers_heard T
  have C_spans_heard : Cal P w K mg base 3 "spans_heard" (SpR (RSpansH K)) [] := ok_spans_heard T
  refine cal_mk T.g_spans_of_all F (F.bindsN fun _ _ _ _ _ _ us hl => match us, hl with | [_], _ => rfl) (fn_ok (k := 3) F sc_spans_of_all (sp_len fun _ _ _ _ h => by cases h <;> rfl) fun cdv A outer s H E hr => ?_)
  have hu := hu_of hr
  refine ⟨_, (pss_one (ps_ret (pe_op (op_catLK (K := K) rfl) (pe_c C_spans_heard hr (by decide) (by rfl) (pa_cons (pv 0) pa_nil)) (pe_lc (own := [("beat", 1), ("name", 2)]) (by rfl) nd (pi_listK (K := K) rfl (pe_c C_numbers_heard hr (by decide) (by rfl) (pa_cons (pv 0) pa_nil))) (blkOk_by (own := [("beat", 1), ("name", 2)]) (N := nm) (sc := scp) (by decide +kernel)) (fun _ _ _ _ _ => (pg_tupK (K := K) (n := 2) rfl (by rfl) (pgs_cons (pg_name (i := 1) nd rfl (by first | exact Or.inl rfl | exact Or.inr rfl)) (pgs_cons (pg_name (i := 2) nd rfl (by first | exact Or.inl rfl | exact Or.inr rfl)) pgs_nil)))) (fun _ _ _ _ _ => pts_nil) (fun _ _ _ _ _ => (pe_tup (pa_cons (pv 1) (pa_cons (pv 1) pa_nil)))))))), fun vs Q h => end_rtn h ?_⟩
  try dsimp only [cx_K]
  rintro _ _ _ _ ⟨h, hl⟩
  rename_i M W lot
  let num := (reachD W lot).num
  have l1 : (spansHeard W (reachD W lot).num).length ≤ 256 := spans_len h
  have l2 : (numsHeard W (reachD W lot).num).length ≤ 16 := nums_len h
  refine rtn_ret (Evl.c (ev_op (ev_call (eva_cons (ev_var rfl) eva_nil) (RSpansH.mk h hl)) (ev_lcM (K := K) (numsHeard W (reachD W lot).num) nhD (fun x => spD (x.1, x.1)) (ev_call (eva_cons (ev_var rfl) eva_nil) (RNumsH.mk h hl)) (Nat.le_trans l2 (by decide)) fun x _ D c hD => ⟨_, evgw_tupD (evgsw_cons (evgw_name (by decide)) (evgsw_cons (evgw_name (by decide)) evgsw_nil)) rfl, ev_tupD (evad_cons (ev_var rfl) (evad_cons (ev_var rfl) evad_nil))⟩) (ope_catLD ?_)) ?_)
  · rw [List.length_map, List.length_map]; exact Nat.le_trans (m := 300) (by omega) (by decide)
  · unfold spansAll
    rw [List.map_append, List.map_map]; rfl
inductive RTell (K : PySem.W.Frag) : Ctr
  | mk {M : OM} {W : Web} {lot : List Str} (tb : Tb K M) (h : OkWeb W) (hl : OkLot W.folk lot) : RTell K M [Dd K (webD W), Dd K (.list (lot.map .str))] (Dd K (.int (tell W (reachD W lot).num))) M
abbrev n_tellings : List Str := ["web", "starters", "way", "ahead", "behind", "met"]
theorem sc_tellings : FnScope n_tellings ["web", "starters"] (defScope (top 51)) := ⟨rfl, rfl, rfl, by decide +kernel, rfl, by decide +kernel, by decide +kernel⟩
theorem ok_tellings (T : Tx K mg base) : Cal P w K mg base 8 "tellings" (SpR (RTell K)) [] := by
  obtain ⟨fd, F⟩ := T.fd_tellings
  have nd := sc_tellings.nd
  let nm := n_tellings
  let scp := defScope (top 51)
  have C_Cry : Mak P w K mg base 6 "Cry" (He.ga K "Cry") (SpR (RCry K)) := ok_Cry_init T
  have C_all_fronts : Cal P w K mg base 2 "all_fronts" (SpR (RAllFr K)) [] := ok_all_fronts T
  refine cal_mk T.g_tellings F (F.bindsN fun _ _ _ _ _ _ us hl => match us, hl with | [_, _], _ => rfl) (fn_ok (k := 7) F sc_tellings (sp_len fun _ _ _ _ h => by cases h <;> rfl) fun cdv A outer s H E hr => ?_)
  have hu := hu_of hr
  refine ⟨_, (pss_one (ps_ret (pe_callB (cr_sum rfl) (by rfl) T.f_sum (by decide +kernel) (pa_cons (pe_lc (own := [("way", 2), ("ahead", 3), ("behind", 4), ("met", 5)]) (by rfl) nd (pi_listK (K := K) rfl (pe_c C_all_fronts hr (by decide) (by rfl) (pa_cons (pe_mk C_Cry hr (by decide) (by rfl) (pa_cons (pv 0) (pa_cons (pv 1) pa_nil))) pa_nil))) (blkOk_by (own := [("way", 2), ("ahead", 3), ("behind", 4), ("met", 5)]) (N := nm) (sc := scp) (by decide +kernel)) (fun _ _ _ _ _ => (pg_tupK (K := K) (n := 4) rfl (by rfl) (pgs_cons (pg_name (i := 2) nd rfl (by first | exact Or.inl rfl | exact Or.inr rfl)) (pgs_cons (pg_name (i := 3) nd rfl (by first | exact Or.inl rfl | exact Or.inr rfl)) (pgs_cons (pg_name (i := 4) nd rfl (by first | exact Or.inl rfl | exact Or.inr rfl)) (pgs_cons (pg_name (i := 5) nd rfl (by first | exact Or.inl rfl | exact Or.inr rfl)) pgs_nil)))))) (fun _ _ _ _ _ => pts_nil) (fun _ _ _ _ _ => (pe_ix (ix_K (K := K) rfl) (pv 2) pe_int (fun _ _ => rfl)))) pa_nil)))), fun vs Q h => end_rtn h ?_⟩
  try dsimp only [cx_K]
  rintro _ _ _ _ ⟨tb, h, hl⟩
  rename_i M W lot
  let num := (reachD W lot).num
  have comp := ev_lcM (K := K) (G := gam n_tellings [Dd K (webD W), Dd K (.list (lot.map .str))]) (M := M) (g := gTup K 4 (gCons (gName 2) (gCons (gName 3) (gCons (gName 4) (gCons (gName 5) gNil))))) (te := tOp (rIx K) (tVar 2) (tC (.int 2))) (vs := [2, 3, 4, 5]) (allFr W num) frwD (fun x => .int x.1.2.2) (ev_call (E := E0) (eva_cons (ev_cry (E := E0) tb h hl (ev_var (i := 0) rfl) (ev_var (i := 1) rfl)) eva_nil) (RAllFr.mk h hl)) (Nat.le_trans (allFr_len h) (by decide)) fun x _ D c hD => ⟨_, evgw_tupD (evgsw_cons (evgw_name (by decide)) (evgsw_cons (evgw_name (by decide)) (evgsw_cons (evgw_name (by decide)) (evgsw_cons (evgw_name (by decide)) evgsw_nil)))) rfl, ev_ixt (ev_var rfl) rfl⟩
  exact rtn_ret (ev_cb (ps := [Dd K (.list (((allFr W num).map fun x => x.1.2.2).map .int))]) (eva_cons (Evl.c comp (by rw [List.map_map]; rfl)) eva_nil) cbe_sum)
inductive RTellBy (K : PySem.W.Frag) : Ctr
  | mk {M : OM} {W : Web} {lot : List Str} {d : Int} (tb : Tb K M) (h : OkWeb W) (hl : OkLot W.folk lot) (hd : 0 ≤ d) : RTellBy K M [Dd K (webD W), Dd K (.list (lot.map .str)), Dd K (.int d)] (Dd K (.int (tellBy W (reachD W lot).num d))) M
abbrev n_tellings_by : List Str := ["web", "starters", "beat", "cry", "found", "way", "ahead", "behind", "met"]
theorem sc_tellings_by : FnScope n_tellings_by ["web", "starters", "beat"] (defScope (top 52)) := ⟨rfl, rfl, rfl, by decide +kernel, rfl, by decide +kernel, by decide +kernel⟩
theorem ok_tellings_by (T : Tx K mg base) : Cal P w K mg base 8 "tellings_by" (SpR (RTellBy K)) [] := by
  obtain ⟨fd, F⟩ := T.fd_tellings_by
  have nd := sc_tellings_by.nd
  let nm := n_tellings_by
  let scp := defScope (top 52)
  have C_Cry : Mak P w K mg base 6 "Cry" (He.ga K "Cry") (SpR (RCry K)) := ok_Cry_init T
  have C_all_fronts : Cal P w K mg base 2 "all_fronts" (SpR (RAllFr K)) [] := ok_all_fronts T
  have C_need_beat : Cal P w K mg base 2 "need_beat" (SpR (RNeedBeat K)) [] := ok_need_beat T
  have C_within : Cal P w K mg base 1 "within" (SpR (RWithin K)) [] := ok_within T
  refine cal_mk T.g_tellings_by F (F.bindsN fun _ _ _ _ _ _ us hl => match us, hl with | [_, _, _], _ => rfl) (fn_ok (k := 7) F sc_tellings_by (sp_len fun _ _ _ _ h => by cases h <;> rfl) fun cdv A outer s H E hr => ?_)
  have hu := hu_of hr
  refine ⟨_, (pss_cons (ps_set (i := 3) nd rfl (by first | exact Or.inl rfl | exact Or.inr rfl) (pe_mk C_Cry hr (by decide) (by rfl) (pa_cons (pv 0) (pa_cons (pv 1) pa_nil))))
    (pss_cons (ps_expr (pe_c C_need_beat hr (by decide) (by rfl) (pa_cons (pv 2) pa_nil)))
    (pss_cons (ps_set (i := 4) nd rfl (by first | exact Or.inl rfl | exact Or.inr rfl) pe_int)
    (pss_cons (ps_for PassesOwn.never rfl (pi_listK (K := K) rfl (pe_c C_all_fronts hr (by decide) (by rfl) (pa_cons (pv 3) pa_nil))) (pg_tupK (K := K) (n := 4) rfl (by rfl) (pgs_cons (pg_name (i := 5) nd rfl (by first | exact Or.inl rfl | exact Or.inr rfl)) (pgs_cons (pg_name (i := 6) nd rfl (by first | exact Or.inl rfl | exact Or.inr rfl)) (pgs_cons (pg_name (i := 7) nd rfl (by first | exact Or.inl rfl | exact Or.inr rfl)) (pgs_cons (pg_name (i := 8) nd rfl (by first | exact Or.inl rfl | exact Or.inr rfl)) pgs_nil)))))
    (pss_one (ps_aug (i := 4) nd rfl (by first | exact Or.inl rfl | exact Or.inr rfl) (pe_op op_add (pe_c C_within hr (by decide) (by rfl) (pa_cons (pe_op op_sub (pe_op op_add (pv 2) pe_int) (pv 6)) (pa_cons (pv 8) pa_nil))) (pe_c C_within hr (by decide) (by rfl) (pa_cons (pe_op op_sub (pe_op op_add (pv 2) pe_int) (pv 7)) (pa_cons (pe_op op_sub (pe_ix (ix_K (K := K) rfl) (pv 5) pe_int (fun _ _ => rfl)) (pv 8)) pa_nil)))) ip_add)))
    (pss_one (ps_ret (pv 4))))))), fun vs Q h => end_rtn h ?_⟩
  try dsimp only [cx_K]
  rintro _ _ _ _ ⟨tb, h, hl, hd⟩
  rename_i M W lot d
  let num := (reachD W lot).num
  refine rtn_seq (nrm_set (ev_cry tb h hl (ev_var rfl) (ev_var rfl))) ?_
  refine rtn_seq (nrm_drop (ev_call (eva_cons (ev_var rfl) eva_nil) (RNeedBeat.mk hd))) ?_
  refine rtn_seq (nrm_set (ev_int (K := K) (i := 0))) ?_
  let Gi : Nat → Gm := fun i => [some (Dd K (webD W)), some (Dd K (.list (lot.map .str))), some (Dd K (.int d)), some (CrP K W lot), some (Dd K (.int ((((allFr W num).take i).map (tellOne d)).sum))), none, none, none, none]
  have hi : EvI (Gi 0) M (iList K (tCall (SpR (RAllFr K)) [] E0 (tCons (tVar 3) tNil))) (allFr W num).length (at_ ((allFr W num).map fun x => Dd K (frwD x))) M := by
    have := evi_listD (K := K) (ev_call (E := E0) (G := Gi 0) (M := M) (M1 := M) (t := tCons (tVar 3) tNil) (eva_cons (ev_var (i := 3) rfl) eva_nil) (RAllFr.mk h hl))
    rwa [List.length_map, List.map_map] at this
  refine rtn_seq (G1 := Gi (allFr W num).length) (M1 := M) (nrm_for (n := (allFr W num).length) Gi (fun _ => M) hi ⟨rfl, fun _ _ q => q⟩ fun i hlt => ?_) ?_
  · have hg : (allFr W num)[i]? = some (allFr W num)[i] := List.getElem?_eq_getElem hlt
    rw [at_map hg]
    have ea : (((allFr W num).take (i + 1)).map (tellOne d)).sum = (((allFr W num).take i).map (tellOne d)).sum + tellOne d (allFr W num)[i] := by
      rw [List.take_succ, hg, List.map_append, List.sum_append]
      simp
    have eG : Gi (i + 1) = [some (Dd K (webD W)), some (Dd K (.list (lot.map .str))), some (Dd K (.int d)), some (CrP K W lot), some (Dd K (.int ((((allFr W num).take i).map (tellOne d)).sum + tellOne d (allFr W num)[i]))), none, none, none, none] := by
      show [_, _, _, _, _, _, _, _, _] = _
      rw [ea]
    rw [eG]
    generalize (allFr W num)[i] = x at *
    exact Body.weak (body_of (evg_tupD (evgs_cons evg_name (evgs_cons evg_name (evgs_cons evg_name (evgs_cons evg_name evgs_nil)))) rfl)
      (nrm_aug (P := Dd K (.int ((((allFr W num).take i).map (tellOne d)).sum))) (P1 := Dd K (.int (tellOne d x))) rfl (ev_op (ev_call (eva_cons (ev_op (ev_op (ev_var rfl) ev_int ope_I) (ev_var rfl) ope_I) (eva_cons (ev_var rfl) eva_nil)) RWithin.mk) (ev_call (eva_cons (ev_op (ev_op (ev_var rfl) ev_int ope_I) (ev_var rfl) ope_I) (eva_cons (ev_op (ev_ixt (ev_var rfl) rfl) (ev_var rfl) ope_I) eva_nil)) RWithin.mk) ope_I) ope_addI)) (wk_keep (wk_keep (wk_keep (wk_keep (wk_keep (wk_drop (wk_drop (wk_drop (wk_drop wk_nil)))))))))
  · refine rtn_ret (Evl.c (ev_var (i := 4) rfl) ?_)
    unfold tellBy
    rw [List.take_length]
inductive RLast (K : PySem.W.Frag) : Ctr
  | mk {M : OM} {W : Web} {lot : List Str} (tb : Tb K M) (h : OkWeb W) (hl : OkLot W.folk lot) : RLast K M [Dd K (webD W), Dd K (.list (lot.map .str))] (Dd K (.int (lastOf W (reachD W lot).num))) M
abbrev n_last_beat : List Str := ["web", "starters", "span"]
theorem sc_last_beat : FnScope n_last_beat ["web", "starters"] (defScope (top 53)) := ⟨rfl, rfl, rfl, by decide +kernel, rfl, by decide +kernel, by decide +kernel⟩
theorem ok_last_beat (T : Tx K mg base) : Cal P w K mg base 8 "last_beat" (SpR (RLast K)) [] := by
  obtain ⟨fd, F⟩ := T.fd_last_beat
  have nd := sc_last_beat.nd
  let nm := n_last_beat
  let scp := defScope (top 53)
  have C_Cry : Mak P w K mg base 6 "Cry" (He.ga K "Cry") (SpR (RCry K)) := ok_Cry_init T
  have C_spans_of_all : Cal P w K mg base 4 "spans_of_all" (SpR (RSpansAll K)) [] := ok_spans_of_all T
  refine cal_mk T.g_last_beat F (F.bindsN fun _ _ _ _ _ _ us hl => match us, hl with | [_, _], _ => rfl) (fn_ok (k := 7) F sc_last_beat (sp_len fun _ _ _ _ h => by cases h <;> rfl) fun cdv A outer s H E hr => ?_)
  have hu := hu_of hr
  refine ⟨_, (pss_one (ps_ret (pe_callBK (ks := [Str.ofString "default"]) (cr_maxDf rfl hr.units) (by rfl) T.f_max (by decide +kernel) (pa_cons (pe_lc (own := [("span", 2)]) (by rfl) nd (pi_listK (K := K) rfl (pe_c C_spans_of_all hr (by decide) (by rfl) (pa_cons (pe_mk C_Cry hr (by decide) (by rfl) (pa_cons (pv 0) (pa_cons (pv 1) pa_nil))) pa_nil))) (blkOk_by (own := [("span", 2)]) (N := nm) (sc := scp) (by decide +kernel)) (fun _ _ _ _ _ => (pg_name (i := 2) nd rfl (by first | exact Or.inl rfl | exact Or.inr rfl))) (fun _ _ _ _ _ => pts_nil) (fun _ _ _ _ _ => (pe_ix (ix_K (K := K) rfl) (pv 2) pe_int (fun _ _ => rfl)))) pa_nil) (pk_cons pe_int pk_nil)))), fun vs Q h => end_rtn h ?_⟩
  try dsimp only [cx_K]
  rintro _ _ _ _ ⟨tb, h, hl⟩
  rename_i M W lot
  let num := (reachD W lot).num
  have sl : (spansAll W num).length ≤ 300 := by
    have l1 := spans_len h (num := num)
    have l2 := nums_len h (num := num)
    unfold spansAll
    rw [List.length_append, List.length_map]; omega
  have comp := ev_lcM (K := K) (G := gam n_last_beat [Dd K (webD W), Dd K (.list (lot.map .str))]) (M := M) (g := gName 2) (te := tOp (rIx K) (tVar 2) (tC (.int 1))) (vs := [2]) (spansAll W num) spD (fun x => .int x.2) (ev_call (E := E0) (eva_cons (ev_cry (E := E0) tb h hl (ev_var (i := 0) rfl) (ev_var (i := 1) rfl)) eva_nil) (RSpansAll.mk h hl)) (Nat.le_trans sl (by decide)) fun x _ D c hD => ⟨_, evgw_name (by decide), ev_ixt (ev_var rfl) rfl⟩
  exact rtn_ret (ev_maxDf (ns := (spansAll W num).map (·.2)) (n := 0) (eva_cons (Evl.c comp (by rw [List.map_map]; rfl)) eva_nil) (eva_cons ev_int eva_nil))
end
end Z
set_option maxRecDepth 100000
set_option maxHeartbeats 4000000
/-! F10: ways.py; a cry that was begun. Own work. -/
namespace Z
open PySem PySem.Spec L2
local macro_rules | `(tactic| walk_at "ev") => `(tactic| repeat' (first
  | with_reducible apply eva_nil
  | ((with_reducible apply ev_var); rfl)
  | with_reducible apply ev_int
  | with_reducible apply ev_str
  | with_reducible apply ev_bl
  | with_reducible apply ev_non
  | ((with_reducible show PySem.W.Frag); assumption)
  | with_reducible apply eva_cons
  | with_reducible apply ev_cb
  | with_reducible apply ev_op
  | with_reducible apply cbe_min2
  | with_reducible apply cbe_max2
  | with_reducible apply ope_I
  | with_reducible apply ope_B
  | with_reducible apply ope_isN
  | with_reducible apply ope_notN
  | with_reducible apply ope_eqi
  | with_reducible apply ope_nei
  | with_reducible apply ope_eqs
  | with_reducible apply ope_nes
  | with_reducible apply evt_test
  | with_reducible apply rtn_ret))
section
variable {P : Program} {w : World} {K : PySem.W.Frag} {mg : Str → Option Value} {base : Heap}
variable {G G1 G2 : Gm} {M M1 M2 : OM}
theorem sl_asym {a b : Str} (h : sl a b = true) : sl b a = false := dlt_asym h
theorem sl_tot {a b : Str} (h : a ≠ b) : sl a b = true ∨ sl b a = true := by
  cases h1 : sl a b with
  | true => exact .inl rfl
  | false =>
    cases h2 : sl b a with
    | true => exact .inr rfl
    | false =>
      unfold sl at h1 h2
      rw [PySem.W.dataLt_str] at h1 h2
      have h1 := of_decide_eq_false h1
      have h2 := of_decide_eq_false h2
      exfalso
      refine h (PySem.W.str_of_cps ?_)
      exact List.le_antisymm (List.not_lt.mp h2) (List.not_lt.mp h1)
inductive RNeedTwo (K : PySem.W.Frag) : Ctr
  | mk {M : OM} {folk : List Str} {a b : Str} (h : OkFolk folk) (ha : a ∈ folk) (hb : b ∈ folk) (hs : sl a b = true) : RNeedTwo K M [Dd K (.list (folk.map .str)), Dd K (.str a), Dd K (.str b)] (Dd K (prS a b)) M
abbrev n_need_two : List Str := ["folk", "one", "other", "thing"]
theorem sc_need_two : FnScope n_need_two ["folk", "one", "other"] (defScope (top 55)) := ⟨rfl, rfl, rfl, by decide +kernel, rfl, by decide +kernel, by decide +kernel⟩
theorem ok_need_two (T : Tx K mg base) : Cal P w K mg base 2 "need_two" (SpR (RNeedTwo K)) [] := by
  obtain ⟨fd, F⟩ := T.fd_need_two
  have nd := sc_need_two.nd
  let nm := n_need_two
  let scp := defScope (top 55)
  have C_is_name : Cal P w K mg base 1 "is_name" (SpR (RName K)) [] := ok_is_name T
  refine cal_mk T.g_need_two F (F.bindsN fun _ _ _ _ _ _ us hl => match us, hl with | [_, _, _], _ => rfl) (fn_ok (k := 1) F sc_need_two (sp_len fun _ _ _ _ h => by cases h <;> rfl) fun cdv A outer s H E hr => ?_)
  have hu := hu_of hr
  refine ⟨_, (pss_cons (ps_for PassesOwn.never rfl (pi_tup (pe_tup (pa_cons (pv 1) (pa_cons (pv 2) pa_nil)))) (pg_name (i := 3) nd rfl (by first | exact Or.inl rfl | exact Or.inr rfl))
    (pss_one (ps_if (PW.pt (pw_or (pt_not (pt_val (pe_c C_is_name hr (by decide) (by rfl) (pa_cons (pv 3) pa_nil)))) (pw_or1 (pt_cmpR (op_notInK (K := K) rfl hr.units) (pv 3) (pv 0) (by first | exact nomark _ | rfl))))) pss_never pss_nil)))
    (pss_cons (ps_if (pt_cmpR (op_eqK (K := K) rfl hr.units) (pv 1) (pv 2) (nomark _)) pss_never pss_nil)
    (pss_one (ps_ret (pe_tup (pa_cons (pe_callB (call_minS rfl hr.units) (by rfl) T.f_min (by decide +kernel) (pa_cons (pv 1) (pa_cons (pv 2) pa_nil))) (pa_cons (pe_callB (call_maxS rfl hr.units) (by rfl) T.f_max (by decide +kernel) (pa_cons (pv 1) (pa_cons (pv 2) pa_nil))) pa_nil))))))), fun vs Q h => end_rtn h ?_⟩
  try dsimp only [cx_K]
  rintro _ _ _ _ ⟨h, ha, hb, hs⟩
  rename_i M folk a b
  let G0 : Gm := [some (Dd K (.list (folk.map .str))), some (Dd K (.str a)), some (Dd K (.str b)), none]
  have hi : EvI G0 M (iTup K (tTup (tCons (tVar 1) (tCons (tVar 2) tNil)))) 2 (at_ ([a, b].map fun x => Dd K (.str x))) M := evi_tup (K := K) (ps := [Dd K (.str a), Dd K (.str b)]) (ev_tup (eva_cons (ev_var rfl) (eva_cons (ev_var rfl) eva_nil)) (show 2 ≤ sizeLine by decide))
  refine rtn_seq (G1 := G0) (M1 := M) (nrm_for (n := 2) (fun _ => G0) (fun _ => M) hi ⟨rfl, fun _ _ q => q⟩ fun i hlt => ?_) ?_
  · have hm : ∃ x, at_ ([a, b].map fun x => Dd K (.str x)) i = Dd K (.str x) ∧ x ∈ folk := by
      match i, hlt with
      | 0, _ => exact ⟨a, rfl, ha⟩
      | 1, _ => exact ⟨b, rfl, hb⟩
    obtain ⟨x, e1, hx⟩ := hm
    rw [e1]
    refine Body.weak (body_of (M2 := M) evg_name (nrm_if (b := false) (EvT.c (evt_or' (evt_not (evt_B (K := K) (ev_call (eva_cons (ev_var rfl) eva_nil) (RName.mk (h.names x hx))))) (evt_test (K := K) (ev_op (ev_var rfl) (ev_var rfl) ope_notIns))) ?_) (fun e => by cases e) fun _ => nrm_next)) (wk_keep (wk_keep (wk_keep (wk_drop wk_nil))))
    rw [decide_eq_true hx]; rfl
  refine rtn_seq (nrm_if (b := decide (a = b)) (evt_test (K := K) (ev_op (ev_var rfl) (ev_var rfl) ope_eqs)) (fun e => absurd (of_decide_eq_true e) (sl_ne hs)) fun _ => nrm_next) ?_
  refine rtn_ret (Evl.c (ev_tupD (evad_cons (ev_cb (eva_cons (ev_var rfl) (eva_cons (ev_var rfl) eva_nil)) cbe_minS) (evad_cons (ev_cb (eva_cons (ev_var rfl) (eva_cons (ev_var rfl) eva_nil)) cbe_maxS) evad_nil))) ?_)
  have e1 : lesserT a b = a := by unfold lesserT; rw [if_neg]; rw [show PySem.W.dataLt (.str b) (.str a) = sl b a from rfl, sl_asym hs]; exact Bool.false_ne_true
  have e2 : greaterT a b = b := by unfold greaterT; exact if_pos hs
  rw [e1, e2]
def addWay (W : Web) (w : Way) : Web := ⟨W.folk, sortD wayD (W.ways ++ [w])⟩
def cutWay (W : Web) (w : Way) : Web := ⟨W.folk, W.ways.filter fun v => !decide (v = w)⟩
theorem eqv_pr {a b c d : Str} : PyData.eqv (prS a b) (prS c d) = (decide (a = c) && decide (b = d)) := by
  simp only [PyData.eqv, PyData.eqvAll, str_beq, Bool.and_true]
theorem eqv_way {v w : Way} : PyData.eqv (wayD v) (wayD w) = decide (v = w) := by
  obtain ⟨a, b, n⟩ := v
  obtain ⟨c, d, m⟩ := w
  simp only [PyData.eqv, PyData.eqvAll, str_beq, Bool.and_true]
  rw [Bool.beq_eq_decide_eq]
  by_cases h1 : a = c <;> by_cases h2 : b = d <;> by_cases h3 : n = m <;> simp [h1, h2, h3]
inductive RWithWay (K : PySem.W.Frag) : Ctr
  | mk {M : OM} {W : Web} {v : Way} (h : OkWeb W) (hv : OkWay W.folk v) (hn : ∀ u ∈ W.ways, ¬ (u.1 = v.1 ∧ u.2.1 = v.2.1)) : RWithWay K M [Dd K (webD W), Dd K (.str v.1), Dd K (.str v.2.1), Dd K (.int v.2.2)] (Dd K (webD (addWay W v))) M
theorem ev_way2 {t : TE} {v : Way} (h : Evl G M t (Dd K (wayD v)) M) : Evl G M (tSl (rSlT K) t tNoPart (tPart (tC (.int 2)))) (Dd K (prS v.1 v.2.1)) M := by
  have := ev_slT (K := K) (ps := [Dd K (.str v.1), Dd K (.str v.2.1), Dd K (.int v.2.2)]) (lo := none) (hi := some 2) (Evl.st h fun u F q => tp_dd (ds := [.str v.1, .str v.2.1, .int v.2.2]) q) evo_no (evo_some (K := K) ev_int) (show ¬ (HT.sIx 3 0 none = 0 ∧ HT.sIx 3 3 (some 2) = 3) by decide)
  exact Evl.st this fun u F q => dd_tp (ds := [.str v.1, .str v.2.1]) q
abbrev n_with_way : List Str := ["web", "one", "other", "beats", "folk", "ways", "pair", "way"]
theorem sc_with_way : FnScope n_with_way ["web", "one", "other", "beats"] (defScope (top 56)) := ⟨rfl, rfl, rfl, by decide +kernel, rfl, by decide +kernel, by decide +kernel⟩
theorem ok_with_way (T : Tx K mg base) : Cal P w K mg base 5 "with_way" (SpR (RWithWay K)) [] := by
  obtain ⟨fd, F⟩ := T.fd_with_way
  have nd := sc_with_way.nd
  let nm := n_with_way
  let scp := defScope (top 56)
  have C_is_whole : Cal P w K mg base 1 "is_whole" (SpR (RWhole K)) [] := ok_is_whole T
  have C_need_two : Cal P w K mg base 2 "need_two" (SpR (RNeedTwo K)) [] := ok_need_two T
  have C_web_of : Cal P w K mg base 4 "web_of" (SpR (RWebOf K)) [] := ok_web_of T
  refine cal_mk T.g_with_way F (F.bindsN fun _ _ _ _ _ _ us hl => match us, hl with | [_, _, _, _], _ => rfl) (fn_ok (k := 4) F sc_with_way (sp_len fun _ _ _ _ h => by cases h <;> rfl) fun cdv A outer s H E hr => ?_)
  have hu := hu_of hr
  refine ⟨_, (pss_cons (ps_asg (pe_c C_web_of hr (by decide) (by rfl) (pa_cons (pv 0) pa_nil)) (pg_tupK (K := K) (n := 2) rfl (by rfl) (pgs_cons (pg_name (i := 4) nd rfl (by first | exact Or.inl rfl | exact Or.inr rfl)) (pgs_cons (pg_name (i := 5) nd rfl (by first | exact Or.inl rfl | exact Or.inr rfl)) pgs_nil))))
    (pss_cons (ps_set (i := 6) nd rfl (by first | exact Or.inl rfl | exact Or.inr rfl) (pe_c C_need_two hr (by decide) (by rfl) (pa_cons (pv 4) (pa_cons (pv 1) (pa_cons (pv 2) pa_nil)))))
    (pss_cons (ps_if (pt_not (pt_val (pe_c C_is_whole hr (by decide) (by rfl) (pa_cons (pv 3) (pa_cons pe_int (pa_cons (pe_gv rfl T.i_MOST_BEATS) pa_nil)))))) pss_never pss_nil)
    (pss_cons (ps_if (pt_cmpR (op_inK (K := K) rfl hr.units) (pv 6) (pe_lc (own := [("way", 7)]) (by rfl) nd (pi_listK (K := K) rfl (pv 5)) (blkOk_by (own := [("way", 7)]) (N := nm) (sc := scp) (by decide +kernel)) (fun _ _ _ _ _ => (pg_name (i := 7) nd rfl (by first | exact Or.inl rfl | exact Or.inr rfl))) (fun _ _ _ _ _ => pts_nil) (fun _ _ _ _ _ => (pe_slice (sl_tupK (K := K) rfl) (pv 7) po_none (po_some pe_int)))) (by first | exact nomark _ | rfl)) pss_never pss_nil)
    (pss_cons (ps_if (pt_cmpR (op_eqK (K := K) rfl hr.units) (pe_callB (call_lenK (K := K) rfl) (by rfl) T.f_len (by decide +kernel) (pa_cons (pv 5) pa_nil)) (pe_gv rfl T.i_MOST_WAYS) (nomark _)) pss_never pss_nil)
    (pss_one (ps_ret (pe_tup (pa_cons (pv 4) (pa_cons (pe_callB (cr_sortK (K := K) rfl hr.units) (by rfl) T.f_sorted (by decide +kernel) (pa_cons (pe_op (op_catLK (K := K) rfl) (pv 5) (pe_lst (pa_cons (pe_op (op_catTK (K := K) rfl) (pv 6) (pe_tup (pa_cons (pv 3) pa_nil))) pa_nil))) pa_nil)) pa_nil)))))))))), fun vs Q h => end_rtn h ?_⟩
  try dsimp only [cx_K]
  rintro _ _ _ _ ⟨h, hv, hn⟩
  rename_i M W v
  refine rtn_seq (nrm_asg (P := Dd K (webD W)) (ev_call (eva_cons (ev_var rfl) eva_nil) (RWebOf.mk h)) (evg_tupD (evgs_cons evg_name (evgs_cons evg_name evgs_nil)) rfl)) ?_
  refine rtn_seq (nrm_set (P := Dd K (prS v.1 v.2.1)) (ev_call (eva_cons (ev_var rfl) (eva_cons (ev_var rfl) (eva_cons (ev_var rfl) eva_nil))) (RNeedTwo.mk h.fk hv.one hv.two hv.lt))) ?_
  refine rtn_seq (nrm_if (b := false) (EvT.c (evt_not (evt_B (K := K) (ev_call (eva_cons (ev_var rfl) (eva_cons ev_int (eva_cons (Evl.c (ev_int (K := K) (i := 1000000000000)) (show Dd K (.int 1000000000000) = Dd K (optD (some 1000000000000)) from rfl)) eva_nil))) RWhole.mk))) ?_) (fun e => by cases e) fun _ => nrm_next) ?_
  · unfold whole
    rw [decide_eq_true hv.pos]
    show (!(true && (false || decide (v.2.2 ≤ 1000000000000)))) = false
    rw [decide_eq_true hv.top]; rfl
  have hl : W.ways.length ≤ sizeLine := small8 h.many
  have hpl : PyData.plainAll (W.ways.map fun w => prS w.1 w.2.1) = true := by
    generalize W.ways = l
    induction l with
    | nil => rfl
    | cons x l ih => show (PyData.plain _ && PyData.plainAll _) = true; rw [ih]; rfl
  refine rtn_seq (nrm_if (b := false) (EvT.c (evt_test (K := K) (ev_op (ev_var rfl) (ev_lcM (K := K) W.ways wayD (fun w => prS w.1 w.2.1) (ev_var rfl) hl fun w hw D c hD => ⟨_, evgw_name (by decide), ev_way2 (ev_var rfl)⟩) (ope_inP (d := prS v.1 v.2.1) rfl hpl (by simp [PyData.depth, PyData.depthAll]; omega)))) ?_) (fun e => by cases e) fun _ => nrm_next) ?_
  · rw [List.any_map, List.any_eq_false]
    intro u hu
    show ¬ (PyData.eqv (prS u.1 u.2.1) (prS v.1 v.2.1) = true)
    rw [eqv_pr, Bool.and_eq_true]
    rintro ⟨q1, q2⟩
    exact hn u hu ⟨of_decide_eq_true q1, of_decide_eq_true q2⟩
  have hm := h.many
  refine rtn_seq (nrm_if (b := false) (EvT.c (evt_test (K := K) (ev_op (ev_cb (eva_cons (ev_var rfl) eva_nil) cbe_lenLD) (ev_int (i := 150)) ope_eqi)) (decide_eq_false (by rw [List.length_map]; omega))) (fun e => by cases e) fun _ => nrm_next) ?_
  refine rtn_ret (ev_tupD (evad_cons (ev_var rfl) (evad_cons (Evl.c (ev_cb (eva_cons (ev_op (ev_var rfl) (ev_lstD (evad_cons (ev_op (ev_var rfl) (ev_tupD (evad_cons (ev_var rfl) evad_nil)) (ope_catTD (by simp) (by simp) (show 3 ≤ sizeLine by decide))) evad_nil)) (ope_catLD (by rw [List.length_map]; exact Nat.le_trans (Nat.add_le_add_right hm 1) (by decide)))) eva_nil) (P := Dd K (.list ((sortD wayD (W.ways ++ [v])).map wayD))) ?_) rfl) evad_nil)))
  have e : (W.ways.map wayD ++ [.tuple ([.str v.1, .str v.2.1] ++ [.int v.2.2])]) = (W.ways ++ [v]).map wayD := by rw [List.map_append]; rfl
  rw [e]
  exact cbe_sortD (K := K) (enc := wayD) (PySem.W.AllAlike.of fun _ _ => rfl) (PySem.W.Sortable.tuples fun x => ⟨_, _, rfl⟩) (by rw [List.length_append]; exact Nat.le_trans (Nat.add_le_add_right hm 1) (by decide)) fun x _ => by simp [PyData.depth, PyData.depthAll]
inductive RWithout (K : PySem.W.Frag) : Ctr
  | mk {M : OM} {W : Web} {v : Way} (h : W.ways.length ≤ 64) : RWithout K M [Dd K (.list (W.folk.map .str)), Dd K (.list (W.ways.map wayD)), Dd K (wayD v)] (Dd K (webD (cutWay W v))) M
theorem ope_neWay {v u : Way} : OpE M (rNeP K) (Dd K (wayD v)) (Dd K (wayD u)) (Dd K (.bool (!decide (v = u)))) M := by
  have := ope_neP (K := K) (M := M) (d := wayD v) (e := wayD u) rfl rfl (by simp [PyData.depth, PyData.depthAll])
  rwa [eqv_way] at this
abbrev n_without : List Str := ["folk", "ways", "way", "one"]
theorem sc_without : FnScope n_without ["folk", "ways", "way"] (defScope (top 57)) := ⟨rfl, rfl, rfl, by decide +kernel, rfl, by decide +kernel, by decide +kernel⟩
theorem ok_without (T : Tx K mg base) : Cal P w K mg base 1 "without" (SpR (RWithout K)) [] := by
  obtain ⟨fd, F⟩ := T.fd_without
  have nd := sc_without.nd
  let nm := n_without
  let scp := defScope (top 57)
  refine cal_mk T.g_without F (F.bindsN fun _ _ _ _ _ _ us hl => match us, hl with | [_, _, _], _ => rfl) (fn_ok (k := 0) F sc_without (sp_len fun _ _ _ _ h => by cases h <;> rfl) fun cdv A outer s H E hr => ?_)
  have hu := hu_of hr
  refine ⟨_, (pss_one (ps_ret (pe_tup (pa_cons (pe_callTy (call_list_ofK (K := K) rfl) (by rfl) T.f_list (by decide +kernel) (pa_cons (pv 0) pa_nil)) (pa_cons (pe_lc (own := [("one", 3)]) (by rfl) nd (pi_listK (K := K) rfl (pv 1)) (blkOk_by (own := [("one", 3)]) (N := nm) (sc := scp) (by decide +kernel)) (fun _ _ _ _ _ => (pg_name (i := 3) nd rfl (by first | exact Or.inl rfl | exact Or.inr rfl))) (fun _ _ _ _ _ => pts_one (pt_cmpR (op_neK (K := K) rfl hr.units) (pv 3) (pv 2) (nomark _))) (fun _ _ _ _ _ => (pv 3))) pa_nil))))), fun vs Q h => end_rtn h ?_⟩
  try dsimp only [cx_K]
  rintro _ _ _ _ ⟨h⟩
  rename_i M W v
  exact rtn_ret (ev_tupD (evad_cons (ev_cb (eva_cons (ev_var rfl) eva_nil) cbe_listLD) (evad_cons (ev_lcL (K := K) W.ways wayD wayD (fun u => !decide (u = v)) (ev_var rfl) (small8 h) fun u hu D c hD => turn_if (evgw_name (by decide)) (evt_test (K := K) (ev_op (ev_var rfl) (ev_var rfl) ope_neWay)) fun _ => ev_var rfl) evad_nil)))
theorem pair_uniq {W : Web} (h : OkWeb W) {u v : Way} (hu : u ∈ W.ways) (hv : v ∈ W.ways) (e : u.1 = v.1 ∧ u.2.1 = v.2.1) : u = v := by
  obtain ⟨i, hi, ei⟩ := List.getElem_of_mem hu
  obtain ⟨j, hj, ej⟩ := List.getElem_of_mem hv
  have irr : ∀ a b : Way, pairLt a b = true → ¬ (a.1 = b.1 ∧ a.2.1 = b.2.1) := fun a b q ⟨z1, z2⟩ => by
    unfold pairLt at q
    rw [z1, z2, dlt_irr] at q
    cases q
  rcases Nat.lt_trichotomy i j with q | q | q
  · exact absurd (by rw [ei, ej]; exact e) (irr _ _ ((List.pairwise_iff_getElem.mp h.wr) i j hi hj q))
  · subst q; rw [← ei, ← ej]
  · exact absurd (by rw [ei, ej]; exact ⟨e.1.symm, e.2.symm⟩) (irr _ _ ((List.pairwise_iff_getElem.mp h.wr) j i hj hi q))
theorem filter_one {α : Type} [DecidableEq α] {l : List α} {v : α} {f : α → Bool} (nd : l.Nodup) (hv : v ∈ l) (hf : f v = true) (hu : ∀ u ∈ l, f u = true → u = v) : l.filter f = [v] := by
  induction l with
  | nil => cases hv
  | cons x l ih =>
    rw [List.nodup_cons] at nd
    rcases List.mem_cons.mp hv with e | hv
    · subst e
      rw [List.filter_cons_of_pos hf]
      have : l.filter f = [] := by
        rw [List.filter_eq_nil_iff]
        intro u q q2
        have := hu u (List.mem_cons_of_mem _ q) q2
        subst this
        exact nd.1 q
      rw [this]
    · have nx : ¬ f x = true := fun q => nd.1 (by rw [hu x (List.mem_cons_self ..) q]; exact hv)
      rw [List.filter_cons_of_neg nx]
      exact ih nd.2 hv fun u q => hu u (List.mem_cons_of_mem _ q)
theorem OkWeb.wnd {W : Web} (h : OkWeb W) : W.ways.Nodup := h.wr.imp fun {a b} q e => by
  subst e
  unfold pairLt at q
  rw [dlt_irr] at q; cases q
inductive RWithoutWay (K : PySem.W.Frag) : Ctr
  | mk {M : OM} {W : Web} {v : Way} (h : OkWeb W) (hv : v ∈ W.ways) : RWithoutWay K M [Dd K (webD W), Dd K (.str v.1), Dd K (.str v.2.1)] (Dd K (webD (cutWay W v))) M
abbrev n_without_way : List Str := ["web", "one", "other", "folk", "ways", "pair", "found", "way"]
theorem sc_without_way : FnScope n_without_way ["web", "one", "other"] (defScope (top 58)) := ⟨rfl, rfl, rfl, by decide +kernel, rfl, by decide +kernel, by decide +kernel⟩
theorem ok_without_way (T : Tx K mg base) : Cal P w K mg base 5 "without_way" (SpR (RWithoutWay K)) [] := by
  obtain ⟨fd, F⟩ := T.fd_without_way
  have nd := sc_without_way.nd
  let nm := n_without_way
  let scp := defScope (top 58)
  have C_need_two : Cal P w K mg base 2 "need_two" (SpR (RNeedTwo K)) [] := ok_need_two T
  have C_web_of : Cal P w K mg base 4 "web_of" (SpR (RWebOf K)) [] := ok_web_of T
  have C_without : Cal P w K mg base 1 "without" (SpR (RWithout K)) [] := ok_without T
  refine cal_mk T.g_without_way F (F.bindsN fun _ _ _ _ _ _ us hl => match us, hl with | [_, _, _], _ => rfl) (fn_ok (k := 4) F sc_without_way (sp_len fun _ _ _ _ h => by cases h <;> rfl) fun cdv A outer s H E hr => ?_)
  have hu := hu_of hr
  refine ⟨_, (pss_cons (ps_asg (pe_c C_web_of hr (by decide) (by rfl) (pa_cons (pv 0) pa_nil)) (pg_tupK (K := K) (n := 2) rfl (by rfl) (pgs_cons (pg_name (i := 3) nd rfl (by first | exact Or.inl rfl | exact Or.inr rfl)) (pgs_cons (pg_name (i := 4) nd rfl (by first | exact Or.inl rfl | exact Or.inr rfl)) pgs_nil))))
    (pss_cons (ps_set (i := 5) nd rfl (by first | exact Or.inl rfl | exact Or.inr rfl) (pe_c C_need_two hr (by decide) (by rfl) (pa_cons (pv 3) (pa_cons (pv 1) (pa_cons (pv 2) pa_nil)))))
    (pss_cons (ps_setLc (i := 6) (own := [("way", 7)]) (by rfl) nd rfl rfl (sw_true rfl rfl rfl (by decide +kernel)) (pi_listK (K := K) rfl (pv 4)) (blkOk_by (own := [("way", 7)]) (N := nm) (sc := scp) (by decide +kernel)) (fun _ _ _ _ _ => (pg_name (i := 7) nd rfl (by first | exact Or.inl rfl | exact Or.inr rfl))) (fun _ _ _ _ _ => pts_one (pt_cmpR (op_eqK (K := K) rfl hr.units) (pe_slice (sl_tupK (K := K) rfl) (pv 7) po_none (po_some pe_int)) (pv 5) (nomark _))) (fun _ _ _ _ _ => (pv 7)))
    (pss_cons (ps_if (pt_cmpR (op_eqK (K := K) rfl hr.units) (pv 6) (pe_lst pa_nil) (nomark _)) pss_never pss_nil)
    (pss_one (ps_ret (pe_c C_without hr (by decide) (by rfl) (pa_cons (pv 3) (pa_cons (pv 4) (pa_cons (pe_ix (ix_K (K := K) rfl) (pv 6) pe_int (fun _ _ => rfl)) pa_nil)))))))))), fun vs Q h => end_rtn h ?_⟩
  try dsimp only [cx_K]
  rintro _ _ _ _ ⟨h, hv⟩
  rename_i M W v
  have ok := h.ways v hv
  refine rtn_seq (nrm_asg (P := Dd K (webD W)) (ev_call (eva_cons (ev_var rfl) eva_nil) (RWebOf.mk h)) (evg_tupD (evgs_cons evg_name (evgs_cons evg_name evgs_nil)) rfl)) ?_
  refine rtn_seq (nrm_set (P := Dd K (prS v.1 v.2.1)) (ev_call (eva_cons (ev_var rfl) (eva_cons (ev_var rfl) (eva_cons (ev_var rfl) eva_nil))) (RNeedTwo.mk h.fk ok.one ok.two ok.lt))) ?_
  have ef : W.ways.filter (fun u => decide (u.1 = v.1) && decide (u.2.1 = v.2.1)) = [v] := filter_one h.wnd hv (by simp) fun u hu q => by
    rw [Bool.and_eq_true] at q
    exact pair_uniq h hu hv ⟨of_decide_eq_true q.1, of_decide_eq_true q.2⟩
  refine rtn_seq (nrm_set (P := Dd K (.list [wayD v])) (Evl.c (ev_lcL (K := K) W.ways wayD wayD (fun u => decide (u.1 = v.1) && decide (u.2.1 = v.2.1)) (ev_var rfl) (small8 h.many) fun u hu D c hD => turn_if (evgw_name (by decide)) (EvT.c (evt_test (K := K) (ev_op (ev_way2 (ev_var rfl)) (ev_var rfl) (ope_eqP (d := prS u.1 u.2.1) (e := prS v.1 v.2.1) rfl rfl (by simp [PyData.depth, PyData.depthAll])))) eqv_pr) fun _ => ev_var rfl) (by rw [ef]; rfl))) ?_
  refine rtn_seq (nrm_if (b := false) (evt_test (K := K) (ev_op (ev_var rfl) (ev_lstD evad_nil) ope_eq0D)) (fun e => by cases e) fun _ => nrm_next) ?_
  exact rtn_ret (ev_call (eva_cons (ev_var rfl) (eva_cons (ev_var rfl) (eva_cons (ev_ixl (ev_var rfl) rfl) eva_nil))) (RWithout.mk h.many))
/-! ### a cry that was begun -/
structure Cr where
  nm : Str
  since : Int
  web : Web
  lot : List Str
structure OkCr (c : Cr) : Prop where
  web : OkWeb c.web
  lot : OkLot c.web.folk c.lot
abbrev bgF (K : PySem.W.Frag) (c : Cr) : List (Str × Pr) := [("name", Dd K (.str c.nm)), ("since", Dd K (.int c.since)), ("lot", Dd K (.list (c.lot.map .str))), ("in_web", Dd K (webD c.web))]
abbrev BgP (K : PySem.W.Frag) (c : Cr) : Pr := InsP (He.ga K "Begun") (bgF K c)
inductive RBegun (K : PySem.W.Frag) : Ctr
  | mk {M : OM} {x dx : Addr} {c : Cr} (hM : M x = some (.ins (He.ga K "Begun") dx [])) : RBegun K M [Rf x, Dd K (.str c.nm), Dd K (.int c.since), Dd K (.list (c.lot.map .str)), Dd K (webD c.web)] (Dd K .none) (M.set x (.ins (He.ga K "Begun") dx (bgF K c)))
abbrev n_Begun_init : List Str := ["self", "name", "since", "lot", "own"]
theorem sc_Begun_init : FnScope n_Begun_init ["self", "name", "since", "lot", "own"] (defScope (inClass (top 61) 0)) := ⟨rfl, rfl, rfl, by decide +kernel, rfl, by decide +kernel, by decide +kernel⟩
theorem ok_Begun_init (T : Tx K mg base) : Mak P w K mg base 1 "Begun" (He.ga K "Begun") (SpR (RBegun K)) := by
  obtain ⟨fd, F⟩ := T.fd_Begun_init
  have nd := sc_Begun_init.nd
  let nm := n_Begun_init
  let scp := defScope (inClass (top 61) 0)
  refine ⟨_, fd, ["self", "name", "since", "lot", "own"], T.k_Begun, (fn_ok (k := 0) F sc_Begun_init (sp_len fun _ _ _ _ h => by cases h <;> rfl) fun cdv A outer s H E hr => ?_), T.g_Begun, (F.bindsN fun _ _ _ _ _ _ us hl => match us, hl with | [_, _, _, _, _], _ => rfl)⟩
  have hu := hu_of hr
  refine ⟨_, (pss_cons (ps_fld (pv 0) (pv 1) rfl)
    (pss_cons (ps_fld (pv 0) (pv 2) rfl)
    (pss_cons (ps_fld (pv 0) (pv 3) rfl)
    (pss_one (ps_fld (pv 0) (pv 4) rfl))))), fun vs Q h => end_nrm (K := K) h ?_⟩
  try dsimp only [cx_K]
  rintro _ _ _ _ ⟨hM⟩
  rename_i M x dx c
  let C := He.ga K "Begun"
  have cl := T.c_Begun
  let f1 : List (Str × Pr) := [("name", Dd K (.str c.nm))]
  let f2 : List (Str × Pr) := [("name", Dd K (.str c.nm)), ("since", Dd K (.int c.since))]
  let f3 : List (Str × Pr) := [("name", Dd K (.str c.nm)), ("since", Dd K (.int c.since)), ("lot", Dd K (.list (c.lot.map .str)))]
  let Ma := M.set x (.ins C dx f1)
  let Mb := Ma.set x (.ins C dx f2)
  let Mc := Mb.set x (.ins C dx f3)
  refine ⟨rfl, gam n_Begun_init [Rf x, Dd K (.str c.nm), Dd K (.int c.since), Dd K (.list (c.lot.map .str)), Dd K (webD c.web)], nrm_seq (M1 := Ma) (nrm_fld (C := C) (dx := dx) (p := x) (fs := []) cl T.n_Begun_name (ev_var (i := 1) rfl) (ev_var (i := 0) rfl) hM (by decide)) (nrm_seq (M1 := Mb) (nrm_fld (C := C) (dx := dx) (p := x) (fs := f1) cl T.n_Begun_since (ev_var (i := 2) rfl) (ev_var (i := 0) rfl) OM.set_same (show 1 < 1000 by decide)) (nrm_seq (M1 := Mc) (nrm_fld (C := C) (dx := dx) (p := x) (fs := f2) cl T.n_Begun_lot (ev_var (i := 3) rfl) (ev_var (i := 0) rfl) OM.set_same (show 2 < 1000 by decide))
    (Nrm.c (nrm_fld (C := C) (dx := dx) (p := x) (fs := f3) cl T.n_Begun_in_web (ev_var (i := 4) rfl) (ev_var (i := 0) rfl) (show Mc x = some (.ins C dx f3) from OM.set_same) (show 3 < 1000 by decide)) rfl ?_)))⟩
  show (((M.set x _).set x _).set x _).set x _ = _
  rw [OM.set_set, OM.set_set, OM.set_set]; rfl
def plainD (c : Cr) : PyData := .tuple [.str c.nm, .int c.since, .list (c.lot.map .str), webD c.web]
inductive RPlain (K : PySem.W.Frag) : Ctr
  | mk {M : OM} {c : Cr} (h : OkCr c) : RPlain K M [BgP K c] (Dd K (plainD c)) M
abbrev n_Begun_plain : List Str := ["self"]
theorem sc_Begun_plain : FnScope n_Begun_plain ["self"] (defScope (inClass (top 61) 1)) := ⟨rfl, rfl, rfl, by decide +kernel, rfl, by decide +kernel, by decide +kernel⟩
theorem ok_Begun_plain (T : Tx K mg base) : Met P w K mg base 1 (He.ga K "Begun") "plain" (SpR (RPlain K)) := by
  obtain ⟨fd, F⟩ := T.fd_Begun_plain
  have nd := sc_Begun_plain.nd
  let nm := n_Begun_plain
  let scp := defScope (inClass (top 61) 1)
  refine ⟨_, fd, ["self"], T.c_Begun, T.m_Begun_plain, (fn_ok (k := 0) F sc_Begun_plain (sp_len fun _ _ _ _ h => by cases h <;> rfl) fun cdv A outer s H E hr => ?_), (F.bindsN fun _ _ _ _ _ _ us hl => match us, hl with | [_], _ => rfl)⟩
  have hu := hu_of hr
  refine ⟨_, (pss_one (ps_ret (pe_tup (pa_cons (pe_fldK (K := K) rfl (pv 0) rfl) (pa_cons (pe_fldK (K := K) rfl (pv 0) rfl) (pa_cons (pe_callB (cr_sortK (K := K) rfl hr.units) (by rfl) T.f_sorted (by decide +kernel) (pa_cons (pe_fldK (K := K) rfl (pv 0) rfl) pa_nil)) (pa_cons (pe_fldK (K := K) rfl (pv 0) rfl) pa_nil))))))), fun vs Q h => end_rtn h ?_⟩
  try dsimp only [cx_K]
  rintro _ _ _ _ ⟨h⟩
  rename_i M c
  have cl := T.c_Begun
  refine rtn_ret (ev_tupD (evad_cons (ev_fld cl T.n_Begun_name (ev_var rfl) rfl) (evad_cons (ev_fld cl T.n_Begun_since (ev_var rfl) rfl) (evad_cons (Evl.c (ev_cb (eva_cons (ev_fld cl T.n_Begun_lot (ev_var rfl) rfl) eva_nil) (cbe_sortD (enc := PyData.str) (bs := c.lot) (PySem.W.AllAlike.of fun _ _ => rfl) (PySem.W.Sortable.others fun _ => ⟨(by intro z; cases z), fun _ z => by cases z⟩) (small8 (Nat.le_trans h.lot.l8 (by decide))) fun x _ => by simp [PyData.depth])) ?_) (evad_cons (ev_fld cl T.n_Begun_in_web (ev_var rfl) rfl) evad_nil)))))
  rw [show c.lot.mergeSort (leD PyData.str) = c.lot from sortD_rise h.lot.rise]
def lastC (c : Cr) : Int := c.since + lastOf c.web (reachD c.web c.lot).num
inductive RBLast (K : PySem.W.Frag) : Ctr
  | mk {M : OM} {c : Cr} (tb : Tb K M) (h : OkCr c) : RBLast K M [BgP K c] (Dd K (.int (lastC c))) M
abbrev n_Begun_last : List Str := ["self"]
theorem sc_Begun_last : FnScope n_Begun_last ["self"] (defScope (inClass (top 61) 2)) := ⟨rfl, rfl, rfl, by decide +kernel, rfl, by decide +kernel, by decide +kernel⟩
theorem ok_Begun_last (T : Tx K mg base) : Met P w K mg base 9 (He.ga K "Begun") "last" (SpR (RBLast K)) := by
  obtain ⟨fd, F⟩ := T.fd_Begun_last
  have nd := sc_Begun_last.nd
  let nm := n_Begun_last
  let scp := defScope (inClass (top 61) 2)
  have C_last_beat : Cal P w K mg base 8 "last_beat" (SpR (RLast K)) [] := ok_last_beat T
  refine ⟨_, fd, ["self"], T.c_Begun, T.m_Begun_last, (fn_ok (k := 8) F sc_Begun_last (sp_len fun _ _ _ _ h => by cases h <;> rfl) fun cdv A outer s H E hr => ?_), (F.bindsN fun _ _ _ _ _ _ us hl => match us, hl with | [_], _ => rfl)⟩
  have hu := hu_of hr
  refine ⟨_, (pss_one (ps_ret (pe_op op_add (pe_fldK (K := K) rfl (pv 0) rfl) (pe_c C_last_beat hr (by decide) (by rfl) (pa_cons (pe_fldK (K := K) rfl (pv 0) rfl) (pa_cons (pe_fldK (K := K) rfl (pv 0) rfl) pa_nil)))))), fun vs Q h => end_rtn h ?_⟩
  try dsimp only [cx_K]
  rintro _ _ _ _ ⟨tb, h⟩
  have cl := T.c_Begun
  exact rtn_ret (ev_op (ev_fld cl T.n_Begun_since (ev_var rfl) rfl) (ev_call (eva_cons (ev_fld cl T.n_Begun_in_web (ev_var rfl) rfl) (eva_cons (ev_fld cl T.n_Begun_lot (ev_var rfl) rfl) eva_nil)) (RLast.mk tb h.web h.lot)) ope_I)
theorem hear_len {W : Web} {lot : List Str} {p : Place} : (hear W lot p).length ≤ 2 := by
  unfold hear
  rw [(sortD_perm _).length_eq]
  exact heard_len
inductive RBAt (K : PySem.W.Frag) : Ctr
  | mk {M : OM} {c : Cr} {p : Place} (tb : Tb K M) (h : OkCr c) (hp : OkPlace c.web p) : RBAt K M [BgP K c, Dd K (wayD p)] (Dd K (.list (((hear c.web c.lot p).map (c.since + ·)).map .int))) M
abbrev n_Begun_beats_at : List Str := ["self", "place", "beat"]
theorem sc_Begun_beats_at : FnScope n_Begun_beats_at ["self", "place"] (defScope (inClass (top 61) 3)) := ⟨rfl, rfl, rfl, by decide +kernel, rfl, by decide +kernel, by decide +kernel⟩
theorem ok_Begun_beats_at (T : Tx K mg base) : Met P w K mg base 9 (He.ga K "Begun") "beats_at" (SpR (RBAt K)) := by
  obtain ⟨fd, F⟩ := T.fd_Begun_beats_at
  have nd := sc_Begun_beats_at.nd
  let nm := n_Begun_beats_at
  let scp := defScope (inClass (top 61) 3)
  have C_hearings : Cal P w K mg base 8 "hearings" (SpR (RHear K)) [] := ok_hearings T
  refine ⟨_, fd, ["self", "place"], T.c_Begun, T.m_Begun_beats_at, (fn_ok (k := 8) F sc_Begun_beats_at (sp_len fun _ _ _ _ h => by cases h <;> rfl) fun cdv A outer s H E hr => ?_), (F.bindsN fun _ _ _ _ _ _ us hl => match us, hl with | [_, _], _ => rfl)⟩
  have hu := hu_of hr
  refine ⟨_, (pss_one (ps_ret (pe_lc (own := [("beat", 2)]) (by rfl) nd (pi_listK (K := K) rfl (pe_c C_hearings hr (by decide) (by rfl) (pa_cons (pe_fldK (K := K) rfl (pv 0) rfl) (pa_cons (pe_fldK (K := K) rfl (pv 0) rfl) (pa_cons (pv 1) pa_nil))))) (blkOk_by (own := [("beat", 2)]) (N := nm) (sc := scp) (by decide +kernel)) (fun _ _ _ _ _ => (pg_name (i := 2) nd rfl (by first | exact Or.inl rfl | exact Or.inr rfl))) (fun _ _ _ _ _ => pts_nil) (fun _ _ _ _ _ => (pe_op op_add (pe_fldK (K := K) rfl (pv 0) rfl) (pv 2)))))), fun vs Q h => end_rtn h ?_⟩
  try dsimp only [cx_K]
  rintro _ _ _ _ ⟨tb, h, hp⟩
  rename_i M c p
  have cl := T.c_Begun
  refine rtn_ret (Evl.c (ev_lcM (K := K) (hear c.web c.lot p) .int (fun n => .int (c.since + n)) (ev_call (eva_cons (ev_fld cl T.n_Begun_in_web (ev_var rfl) rfl) (eva_cons (ev_fld cl T.n_Begun_lot (ev_var rfl) rfl) (eva_cons (ev_var rfl) eva_nil))) (RHear.mk tb h.web h.lot hp)) (Nat.le_trans hear_len (by decide)) fun n _ D cc hD => ⟨_, evgw_name (by decide), ev_op (ev_fld cl T.n_Begun_since (ev_var rfl) rfl) (ev_var rfl) ope_I⟩) ?_)
  rw [List.map_map]; rfl
inductive RCopy (K : PySem.W.Frag) : Ctr
  | mk {M : OM} {W : Web} : RCopy K M [Dd K (webD W)] (Dd K (webD W)) M
abbrev n_copy_of : List Str := ["own"]
theorem sc_copy_of : FnScope n_copy_of ["own"] (defScope (top 62)) := ⟨rfl, rfl, rfl, by decide +kernel, rfl, by decide +kernel, by decide +kernel⟩
theorem ok_copy_of (T : Tx K mg base) : Cal P w K mg base 1 "copy_of" (SpR (RCopy K)) [] := by
  obtain ⟨fd, F⟩ := T.fd_copy_of
  have nd := sc_copy_of.nd
  let nm := n_copy_of
  let scp := defScope (top 62)
  refine cal_mk T.g_copy_of F (F.bindsN fun _ _ _ _ _ _ us hl => match us, hl with | [_], _ => rfl) (fn_ok (k := 0) F sc_copy_of (sp_len fun _ _ _ _ h => by cases h <;> rfl) fun cdv A outer s H E hr => ?_)
  have hu := hu_of hr
  refine ⟨_, (pss_one (ps_ret (pe_tup (pa_cons (pe_callTy (call_list_ofK (K := K) rfl) (by rfl) T.f_list (by decide +kernel) (pa_cons (pe_ix (ix_K (K := K) rfl) (pv 0) pe_int (fun _ _ => rfl)) pa_nil)) (pa_cons (pe_callTy (call_list_ofK (K := K) rfl) (by rfl) T.f_list (by decide +kernel) (pa_cons (pe_ix (ix_K (K := K) rfl) (pv 0) pe_int (fun _ _ => rfl)) pa_nil)) pa_nil))))), fun vs Q h => end_rtn h ?_⟩
  try dsimp only [cx_K]
  rintro _ _ _ _ ⟨⟩
  exact rtn_ret (ev_tupD (evad_cons (ev_cb (eva_cons (ev_ixt (ev_var rfl) rfl) eva_nil) cbe_listLD) (evad_cons (ev_cb (eva_cons (ev_ixt (ev_var rfl) rfl) eva_nil) cbe_listLD) evad_nil)))
end
end Z
set_option maxRecDepth 100000
set_option maxHeartbeats 4000000
/-! F11: a Night: what it tells. Own work. -/
namespace Z
open PySem PySem.Spec L2
local macro_rules | `(tactic| walk_at "ev") => `(tactic| repeat' (first
  | with_reducible apply eva_nil
  | ((with_reducible apply ev_var); rfl)
  | with_reducible apply ev_int
  | with_reducible apply ev_str
  | with_reducible apply ev_bl
  | with_reducible apply ev_non
  | ((with_reducible show PySem.W.Frag); assumption)
  | with_reducible apply eva_cons
  | with_reducible apply ev_cb
  | with_reducible apply ev_op
  | with_reducible apply cbe_min2
  | with_reducible apply cbe_max2
  | with_reducible apply ope_I
  | with_reducible apply ope_B
  | with_reducible apply ope_isN
  | with_reducible apply ope_notN
  | with_reducible apply ope_eqi
  | with_reducible apply ope_nei
  | with_reducible apply ope_eqs
  | with_reducible apply ope_nes
  | with_reducible apply evt_test
  | with_reducible apply rtn_ret))
structure Snap where
  web : Web
  at_ : Int
  cries : List Cr
inductive Deed where
  | begin (nm : Str) (lot : List Str)
  | go (n : Int)
  | add (w : Way)
  | lose (a b : Str)
def deedD : Deed → PyData
  | .begin nm lot => .tuple [.str "begin", .str nm, .list (lot.map .str)]
  | .go n => .tuple [.str "go_on", .int n]
  | .add w => .tuple [.str "add", .str w.1, .str w.2.1, .int w.2.2]
  | .lose a b => .tuple [.str "lose", .str a, .str b]
section
variable {P : Program} {w : World} {K : PySem.W.Frag} {mg : Str → Option Value} {base : Heap}
variable {G G1 G2 : Gm} {M M1 M2 : OM}
abbrev crsP (K : PySem.W.Frag) (cs : List Cr) : Pr := Ls K (cs.map (BgP K))
abbrev ntF (K : PySem.W.Frag) (s : Snap) (p q : Addr) : List (Str × Pr) := [("own", Dd K (webD s.web)), ("at", Dd K (.int s.at_)), ("begun_cries", crsP K s.cries), ("past", Rf p), ("deeds_done", Rf q)]
abbrev snapP (K : PySem.W.Frag) (s : Snap) : Pr := Tp K [Dd K (webD s.web), Dd K (.int s.at_), crsP K s.cries]
/-- where a night stands -/
structure NA3 where
  x : Addr
  dx : Addr
  p : Addr
  q : Addr
abbrev NC (K : PySem.W.Frag) : Addr := He.ga K "Night"
def ntM (K : PySem.W.Frag) (M : OM) (a : NA3) (s : Snap) (past : List Snap) (ds : List Deed) : OM := ((M.set a.x (.ins (NC K) a.dx (ntF K s a.p a.q))).set a.p (.lst (past.map (snapP K)))).set a.q (.lst (ds.map fun d => Dd K (deedD d)))
structure NtOk (K : PySem.W.Frag) (M : OM) (a : NA3) : Prop where
  tb : Tb K M
  xp : a.x ≠ a.p
  xq : a.x ≠ a.q
  pq : a.p ≠ a.q
  x : M a.x = none
  p : M a.p = none
  q : M a.q = none
section
variable {a : NA3} {s s' : Snap} {past : List Snap} {ds : List Deed} (ok : NtOk K M a)
include ok
theorem ntM_x : ntM K M a s past ds a.x = some (.ins (NC K) a.dx (ntF K s a.p a.q)) := by
  unfold ntM
  rw [OM.set_ne ok.xq, OM.set_ne ok.xp, OM.set_same]
theorem ntM_p : ntM K M a s past ds a.p = some (.lst (past.map (snapP K))) := by
  unfold ntM
  rw [OM.set_ne ok.pq, OM.set_same]
theorem ntM_q : ntM K M a s past ds a.q = some (.lst (ds.map fun d => Dd K (deedD d))) := OM.set_same
theorem ntM_tb : Tb K (ntM K M a s past ds) := by
  unfold ntM
  have h1 := ok.tb.new (c := .ins (NC K) a.dx (ntF K s a.p a.q)) ok.x rfl
  have h2 : Tb K ((M.set a.x (.ins (NC K) a.dx (ntF K s a.p a.q))).set a.p (.lst (past.map (snapP K)))) := h1.new (by rw [OM.set_ne ok.xp.symm]; exact ok.p) rfl
  exact h2.new (by rw [OM.set_ne ok.pq.symm, OM.set_ne ok.xq.symm]; exact ok.q) rfl
theorem ntM_setx : (ntM K M a s past ds).set a.x (.ins (NC K) a.dx (ntF K s' a.p a.q)) = ntM K M a s' past ds := by
  unfold ntM
  rw [OM.set_comm ok.xq.symm, OM.set_comm ok.xp.symm, OM.set_set]
theorem ntM_setp {past' : List Snap} : (ntM K M a s past ds).set a.p (.lst (past'.map (snapP K))) = ntM K M a s past' ds := by
  unfold ntM
  rw [OM.set_comm ok.pq.symm, OM.set_set]
theorem ntM_setq {ds' : List Deed} : (ntM K M a s past ds).set a.q (.lst (ds'.map fun d => Dd K (deedD d))) = ntM K M a s past ds' := by
  unfold ntM
  rw [OM.set_set]
end
theorem hset {D x : Addr} {c c' : OC} (hD : M D = none) (hx : M x = some c) : (M.set D c') x = some c := by
  rw [OM.set_ne (fun z => by rw [z, hD] at hx; cases hx)]; exact hx
theorem evi_crs {t : TE} {cs : List Cr} (h : Evl G M t (crsP K cs) M1) : EvI G M (iList K t) cs.length (at_ (cs.map (BgP K))) M1 := by
  have := evi_list h
  rwa [List.length_map] at this
inductive RWebNow (K : PySem.W.Frag) : Ctr
  | mk {M : OM} {a : NA3} {s : Snap} {past : List Snap} {ds : List Deed} (ok : NtOk K M a) : RWebNow K (ntM K M a s past ds) [Rf a.x] (Dd K (webD s.web)) (ntM K M a s past ds)
abbrev n_Night_web_now : List Str := ["self"]
theorem sc_Night_web_now : FnScope n_Night_web_now ["self"] (defScope (inClass (top 63) 9)) := ⟨rfl, rfl, rfl, by decide +kernel, rfl, by decide +kernel, by decide +kernel⟩
theorem ok_Night_web_now (T : Tx K mg base) : Met P w K mg base 2 (He.ga K "Night") "web_now" (SpR (RWebNow K)) := by
  obtain ⟨fd, F⟩ := T.fd_Night_web_now
  have nd := sc_Night_web_now.nd
  let nm := n_Night_web_now
  let scp := defScope (inClass (top 63) 9)
  have C_copy_of : Cal P w K mg base 1 "copy_of" (SpR (RCopy K)) [] := ok_copy_of T
  refine ⟨_, fd, ["self"], T.c_Night, T.m_Night_web_now, (fn_ok (k := 1) F sc_Night_web_now (sp_len fun _ _ _ _ h => by cases h <;> rfl) fun cdv A outer s H E hr => ?_), (F.bindsN fun _ _ _ _ _ _ us hl => match us, hl with | [_], _ => rfl)⟩
  have hu := hu_of hr
  refine ⟨_, (pss_one (ps_ret (pe_c C_copy_of hr (by decide) (by rfl) (pa_cons (pe_fldK (K := K) rfl (pv 0) rfl) pa_nil)))), fun vs Q h => end_rtn h ?_⟩
  try dsimp only [cx_K]
  rintro _ _ _ _ ⟨ok⟩
  exact rtn_ret (ev_call (eva_cons (ev_fldO T.c_Night T.n_Night_own (ev_var rfl) (ntM_x ok) rfl) eva_nil) RCopy.mk)
inductive RBeatNow (K : PySem.W.Frag) : Ctr
  | mk {M : OM} {a : NA3} {s : Snap} {past : List Snap} {ds : List Deed} (ok : NtOk K M a) : RBeatNow K (ntM K M a s past ds) [Rf a.x] (Dd K (.int s.at_)) (ntM K M a s past ds)
abbrev n_Night_beat_now : List Str := ["self"]
theorem sc_Night_beat_now : FnScope n_Night_beat_now ["self"] (defScope (inClass (top 63) 10)) := ⟨rfl, rfl, rfl, by decide +kernel, rfl, by decide +kernel, by decide +kernel⟩
theorem ok_Night_beat_now (T : Tx K mg base) : Met P w K mg base 1 (He.ga K "Night") "beat_now" (SpR (RBeatNow K)) := by
  obtain ⟨fd, F⟩ := T.fd_Night_beat_now
  have nd := sc_Night_beat_now.nd
  let nm := n_Night_beat_now
  let scp := defScope (inClass (top 63) 10)
  refine ⟨_, fd, ["self"], T.c_Night, T.m_Night_beat_now, (fn_ok (k := 0) F sc_Night_beat_now (sp_len fun _ _ _ _ h => by cases h <;> rfl) fun cdv A outer s H E hr => ?_), (F.bindsN fun _ _ _ _ _ _ us hl => match us, hl with | [_], _ => rfl)⟩
  have hu := hu_of hr
  refine ⟨_, (pss_one (ps_ret (pe_fldK (K := K) rfl (pv 0) rfl))), fun vs Q h => end_rtn h ?_⟩
  try dsimp only [cx_K]
  rintro _ _ _ _ ⟨ok⟩
  exact rtn_ret (ev_fldO T.c_Night T.n_Night_at (ev_var rfl) (ntM_x ok) rfl)
inductive RCries (K : PySem.W.Frag) : Ctr
  | mk {M : OM} {a : NA3} {s : Snap} {past : List Snap} {ds : List Deed} (ok : NtOk K M a) (hl : s.cries.length ≤ 100) : RCries K (ntM K M a s past ds) [Rf a.x] (Dd K (.list ((s.cries.map (·.nm)).map .str))) (ntM K M a s past ds)
abbrev n_Night_cries : List Str := ["self", "one"]
theorem sc_Night_cries : FnScope n_Night_cries ["self"] (defScope (inClass (top 63) 11)) := ⟨rfl, rfl, rfl, by decide +kernel, rfl, by decide +kernel, by decide +kernel⟩
theorem ok_Night_cries (T : Tx K mg base) : Met P w K mg base 1 (He.ga K "Night") "cries" (SpR (RCries K)) := by
  obtain ⟨fd, F⟩ := T.fd_Night_cries
  have nd := sc_Night_cries.nd
  let nm := n_Night_cries
  let scp := defScope (inClass (top 63) 11)
  refine ⟨_, fd, ["self"], T.c_Night, T.m_Night_cries, (fn_ok (k := 0) F sc_Night_cries (sp_len fun _ _ _ _ h => by cases h <;> rfl) fun cdv A outer s H E hr => ?_), (F.bindsN fun _ _ _ _ _ _ us hl => match us, hl with | [_], _ => rfl)⟩
  have hu := hu_of hr
  refine ⟨_, (pss_one (ps_ret (pe_lc (own := [("one", 1)]) (by rfl) nd (pi_listK (K := K) rfl (pe_fldK (K := K) rfl (pv 0) rfl)) (blkOk_by (own := [("one", 1)]) (N := nm) (sc := scp) (by decide +kernel)) (fun _ _ _ _ _ => (pg_name (i := 1) nd rfl (by first | exact Or.inl rfl | exact Or.inr rfl))) (fun _ _ _ _ _ => pts_nil) (fun _ _ _ _ _ => (pe_fldK (K := K) rfl (pv 1) rfl))))), fun vs Q h => end_rtn h ?_⟩
  try dsimp only [cx_K]
  rintro _ _ _ _ ⟨ok, hl⟩
  rename_i M a s past ds
  refine rtn_ret (Evl.c (ev_lcD (K := K) s.cries (BgP K) (fun c => .str c.nm) (fun _ => true) (evi_crs (ev_fldO T.c_Night T.n_Night_begun_cries (ev_var rfl) (ntM_x ok) rfl)) (Nat.le_trans hl (by decide)) fun c _ D cc hD => turn_all (evgw_name (by decide)) (ev_fld T.c_Begun T.n_Begun_name (ev_var rfl) rfl)) ?_)
  rw [List.filter_eq_self.mpr (fun _ _ => rfl), List.map_map]; rfl
inductive RQuiet (K : PySem.W.Frag) : Ctr
  | mk {M : OM} {a : NA3} {s : Snap} {past : List Snap} {ds : List Deed} (ok : NtOk K M a) (hl : s.cries.length ≤ 100) (hc : ∀ c ∈ s.cries, OkCr c) : RQuiet K (ntM K M a s past ds) [Rf a.x] (Dd K (.list (((s.cries.filter fun c => decide (lastC c ≤ s.at_)).map (·.nm)).map .str))) (ntM K M a s past ds)
abbrev n_Night_quiet_cries : List Str := ["self", "one"]
theorem sc_Night_quiet_cries : FnScope n_Night_quiet_cries ["self"] (defScope (inClass (top 63) 16)) := ⟨rfl, rfl, rfl, by decide +kernel, rfl, by decide +kernel, by decide +kernel⟩
theorem ok_Night_quiet_cries (T : Tx K mg base) : Met P w K mg base 10 (He.ga K "Night") "quiet_cries" (SpR (RQuiet K)) := by
  obtain ⟨fd, F⟩ := T.fd_Night_quiet_cries
  have nd := sc_Night_quiet_cries.nd
  let nm := n_Night_quiet_cries
  let scp := defScope (inClass (top 63) 16)
  have C_Begun_last : Met P w K mg base 9 (He.ga K "Begun") "last" (SpR (RBLast K)) := ok_Begun_last T
  refine ⟨_, fd, ["self"], T.c_Night, T.m_Night_quiet_cries, (fn_ok (k := 9) F sc_Night_quiet_cries (sp_len fun _ _ _ _ h => by cases h <;> rfl) fun cdv A outer s H E hr => ?_), (F.bindsN fun _ _ _ _ _ _ us hl => match us, hl with | [_], _ => rfl)⟩
  have hu := hu_of hr
  refine ⟨_, (pss_one (ps_ret (pe_lc (own := [("one", 1)]) (by rfl) nd (pi_listK (K := K) rfl (pe_fldK (K := K) rfl (pv 0) rfl)) (blkOk_by (own := [("one", 1)]) (N := nm) (sc := scp) (by decide +kernel)) (fun _ _ _ _ _ => (pg_name (i := 1) nd rfl (by first | exact Or.inl rfl | exact Or.inr rfl))) (fun _ _ _ _ _ => pts_one (pt_cmpR op_le (pe_mt0 C_Begun_last hr (by decide) (pv 1)) (pe_fldK (K := K) rfl (pv 0) rfl) (nomark _))) (fun _ _ _ _ _ => (pe_fldK (K := K) rfl (pv 1) rfl))))), fun vs Q h => end_rtn h ?_⟩
  try dsimp only [cx_K]
  rintro _ _ _ _ ⟨ok, hl, hc⟩
  rename_i M a s past ds
  refine rtn_ret (Evl.c (ev_lcD (K := K) s.cries (BgP K) (fun c => .str c.nm) (fun c => decide (lastC c ≤ s.at_)) (evi_crs (ev_fldO T.c_Night T.n_Night_begun_cries (ev_var rfl) (ntM_x ok) rfl)) (Nat.le_trans hl (by decide)) fun c h D cc hD => turn_if (evgw_name (by decide)) (evt_test (K := K) (ev_op (ev_meth (C := He.ga K "Begun") (fs := bgF K c) (ev_var rfl) rfl eva_nil (RBLast.mk ((ntM_tb ok).new hD rfl) (hc c h))) (ev_fldO T.c_Night T.n_Night_at (ev_var rfl) (hset hD (ntM_x ok)) rfl) ope_B)) fun _ => ev_fld T.c_Begun T.n_Begun_name (ev_var rfl) rfl) ?_)
  rw [List.map_map]; rfl
def busy (s : Snap) : Bool := decide (((s.cries.filter fun c => decide (lastC c ≤ s.at_)).length : Int) < (s.cries.length : Nat))
inductive RBusy (K : PySem.W.Frag) : Ctr
  | mk {M : OM} {a : NA3} {s : Snap} {past : List Snap} {ds : List Deed} (ok : NtOk K M a) (hl : s.cries.length ≤ 100) (hc : ∀ c ∈ s.cries, OkCr c) : RBusy K (ntM K M a s past ds) [Rf a.x] (Dd K (.bool (busy s))) (ntM K M a s past ds)
abbrev n_Night_is_busy : List Str := ["self"]
theorem sc_Night_is_busy : FnScope n_Night_is_busy ["self"] (defScope (inClass (top 63) 5)) := ⟨rfl, rfl, rfl, by decide +kernel, rfl, by decide +kernel, by decide +kernel⟩
theorem ok_Night_is_busy (T : Tx K mg base) : Met P w K mg base 11 (He.ga K "Night") "is_busy" (SpR (RBusy K)) := by
  obtain ⟨fd, F⟩ := T.fd_Night_is_busy
  have nd := sc_Night_is_busy.nd
  let nm := n_Night_is_busy
  let scp := defScope (inClass (top 63) 5)
  have C_Night_quiet_cries : Met P w K mg base 10 (He.ga K "Night") "quiet_cries" (SpR (RQuiet K)) := ok_Night_quiet_cries T
  refine ⟨_, fd, ["self"], T.c_Night, T.m_Night_is_busy, (fn_ok (k := 10) F sc_Night_is_busy (sp_len fun _ _ _ _ h => by cases h <;> rfl) fun cdv A outer s H E hr => ?_), (F.bindsN fun _ _ _ _ _ _ us hl => match us, hl with | [_], _ => rfl)⟩
  have hu := hu_of hr
  refine ⟨_, (pss_one (ps_ret (pe_cmpR op_lt (pe_callB (call_lenK (K := K) rfl) (by rfl) T.f_len (by decide +kernel) (pa_cons (pe_mt0 C_Night_quiet_cries hr (by decide) (pv 0)) pa_nil)) (pe_callB (call_lenK (K := K) rfl) (by rfl) T.f_len (by decide +kernel) (pa_cons (pe_fldK (K := K) rfl (pv 0) rfl) pa_nil)) (nomark _)))), fun vs Q h => end_rtn h ?_⟩
  try dsimp only [cx_K]
  rintro _ _ _ _ ⟨ok, hl, hc⟩
  rename_i M a s past ds
  refine rtn_ret (Evl.c (ev_op (ev_cb (eva_cons (ev_methO (C := NC K) (dx := a.dx) (fs := ntF K s a.p a.q) (ev_var rfl) (ntM_x ok) rfl eva_nil (RQuiet.mk ok hl hc)) eva_nil) cbe_lenLD) (ev_cb (eva_cons (ev_fldO T.c_Night T.n_Night_begun_cries (ev_var rfl) (ntM_x ok) rfl) eva_nil) cbe_lenL) ope_B) ?_)
  unfold busy
  rw [List.length_map, List.length_map, List.length_map]
inductive RLen (K : PySem.W.Frag) : Ctr
  | mk {M : OM} {a : NA3} {s : Snap} {past : List Snap} {ds : List Deed} (ok : NtOk K M a) : RLen K (ntM K M a s past ds) [Rf a.x] (Dd K (.int (ds.length : Nat))) (ntM K M a s past ds)
abbrev n_Night_len : List Str := ["self"]
theorem sc_Night_len : FnScope n_Night_len ["self"] (defScope (inClass (top 63) 20)) := ⟨rfl, rfl, rfl, by decide +kernel, rfl, by decide +kernel, by decide +kernel⟩
theorem ok_Night_len (T : Tx K mg base) : Met P w K mg base 1 (He.ga K "Night") "__len__" (SpR (RLen K)) := by
  obtain ⟨fd, F⟩ := T.fd_Night_len
  have nd := sc_Night_len.nd
  let nm := n_Night_len
  let scp := defScope (inClass (top 63) 20)
  refine ⟨_, fd, ["self"], T.c_Night, T.m_Night_len, (fn_ok (k := 0) F sc_Night_len (sp_len fun _ _ _ _ h => by cases h <;> rfl) fun cdv A outer s H E hr => ?_), (F.bindsN fun _ _ _ _ _ _ us hl => match us, hl with | [_], _ => rfl)⟩
  have hu := hu_of hr
  refine ⟨_, (pss_one (ps_ret (pe_callB (call_lenK (K := K) rfl) (by rfl) T.f_len (by decide +kernel) (pa_cons (pe_fldK (K := K) rfl (pv 0) rfl) pa_nil)))), fun vs Q h => end_rtn h ?_⟩
  try dsimp only [cx_K]
  rintro _ _ _ _ ⟨ok⟩
  rename_i M a s past ds
  refine rtn_ret (Evl.c (ev_cb (eva_cons (ev_fldO T.c_Night T.n_Night_deeds_done (ev_var rfl) (ntM_x ok) rfl) eva_nil) (cbe_lenO (ntM_q ok))) ?_)
  rw [List.length_map]
end
end Z
set_option maxRecDepth 100000
set_option maxHeartbeats 4000000
/-! F12: a Night: cries by name, deeds. Own work. -/
namespace Z
open PySem PySem.Spec L2
local macro_rules | `(tactic| walk_at "ev") => `(tactic| repeat' (first
  | with_reducible apply eva_nil
  | ((with_reducible apply ev_var); rfl)
  | with_reducible apply ev_int
  | with_reducible apply ev_str
  | with_reducible apply ev_bl
  | with_reducible apply ev_non
  | ((with_reducible show PySem.W.Frag); assumption)
  | with_reducible apply eva_cons
  | with_reducible apply ev_cb
  | with_reducible apply ev_op
  | with_reducible apply cbe_min2
  | with_reducible apply cbe_max2
  | with_reducible apply ope_I
  | with_reducible apply ope_B
  | with_reducible apply ope_isN
  | with_reducible apply ope_notN
  | with_reducible apply ope_eqi
  | with_reducible apply ope_nei
  | with_reducible apply ope_eqs
  | with_reducible apply ope_nes
  | with_reducible apply evt_test
  | with_reducible apply rtn_ret))
section
variable {P : Program} {w : World} {K : PySem.W.Frag} {mg : Str → Option Value} {base : Heap}
variable {G G1 G2 : Gm} {M M1 M2 : OM}
theorem nrm_fldaug {P P1 P2 : Pr} {ta tv : TE} {rd : V → V → Hp → VK → Prop} {C dx p : Addr} {fs : List (Str × Pr)} {f : Str} (c : Cls K C) (n : NoAttr K C f) (h : Evl G M ta (Rf p) M) (hm : M p = some (.ins C dx fs)) (e : fs.lookup f = some P) (hv : Evl G M tv P1 M) (ho : OpE M rd P P1 P2 M) (hl : fs.length < 1000) :
    Nrm G M (sFldAug K ta tv rd f) G (M.set p (.ins C dx (putP f P2 fs))) := fun σ H D a k => h σ H _ a fun v H1 s1 q1 => by
  cases q1.here
  obtain ⟨o, f1, vs, rfl, f2⟩ := s1.own.cell p _ hm
  obtain ⟨x, e1, e2⟩ := paired_lookup f2 e
  refine ⟨p, C, dx, vs, x, rfl, f1, c, n, e1, hv σ H1 _ (a.step s1) fun y H2 s2 q2 => ho x y H2 _ s2.own (e2.mono s2.frz) q2 fun z H3 s3 q3 => ?_⟩
  obtain ⟨o3, g1, vs3, rfl, g2⟩ := s3.own.cell p _ hm
  have s4 := Stp.write s3.own hm (c' := .ins C dx (putP f P2 fs)) (o := .ins C dx (putF f z vs3)) ⟨_, rfl, paired_put q3 g2⟩
  have s := ((s1.trans s2).trans s3).trans s4
  exact ⟨dx, vs3, g1, by rw [← Paired.length g2]; exact hl, k σ _ s (a.step s)⟩
theorem EvG.c {P : Pr} {g : TG} {M2 : OM} (h : EvG G M P g G1 M1) (e2 : M1 = M2) : EvG G M P g G1 M2 := by subst e2; exact h
inductive RNeedCry (K : PySem.W.Frag) : Ctr
  | mk {M : OM} {a : NA3} {s : Snap} {past : List Snap} {ds : List Deed} {c : Cr} (ok : NtOk K M a) (hl : s.cries.length ≤ 100) (hu : s.cries.filter (fun d => decide (d.nm = c.nm)) = [c]) : RNeedCry K (ntM K M a s past ds) [Rf a.x, Dd K (.str c.nm)] (BgP K c) (ntM K M a s past ds)
abbrev n_Night_need_cry : List Str := ["self", "cry", "found", "one"]
theorem sc_Night_need_cry : FnScope n_Night_need_cry ["self", "cry"] (defScope (inClass (top 63) 1)) := ⟨rfl, rfl, rfl, by decide +kernel, rfl, by decide +kernel, by decide +kernel⟩
theorem ok_Night_need_cry (T : Tx K mg base) : Met P w K mg base 1 (He.ga K "Night") "need_cry" (SpR (RNeedCry K)) := by
  obtain ⟨fd, F⟩ := T.fd_Night_need_cry
  have nd := sc_Night_need_cry.nd
  let nm := n_Night_need_cry
  let scp := defScope (inClass (top 63) 1)
  refine ⟨_, fd, ["self", "cry"], T.c_Night, T.m_Night_need_cry, (fn_ok (k := 0) F sc_Night_need_cry (sp_len fun _ _ _ _ h => by cases h <;> rfl) fun cdv A outer s H E hr => ?_), (F.bindsN fun _ _ _ _ _ _ us hl => match us, hl with | [_, _], _ => rfl)⟩
  have hu := hu_of hr
  refine ⟨_, (pss_cons (ps_setLc (i := 2) (own := [("one", 3)]) (by rfl) nd rfl rfl (sw_true rfl rfl rfl (by decide +kernel)) (pi_listK (K := K) rfl (pe_fldK (K := K) rfl (pv 0) rfl)) (blkOk_by (own := [("one", 3)]) (N := nm) (sc := scp) (by decide +kernel)) (fun _ _ _ _ _ => (pg_name (i := 3) nd rfl (by first | exact Or.inl rfl | exact Or.inr rfl))) (fun _ _ _ _ _ => pts_one (PW.pt (pw_and (pt_val (pe_callB (call_isiK (K := K) rfl) (by rfl) T.f_isinstance (by decide +kernel) (pa_cons (pv 1) (pa_cons (pe_bltn (v := .ty "str") (u := .type "str") (by rfl) T.f_str (by decide +kernel) rfl) pa_nil)))) (pw_and1 (pt_cmpR (op_eqK (K := K) rfl hr.units) (pe_fldK (K := K) rfl (pv 3) rfl) (pv 1) (nomark _)))))) (fun _ _ _ _ _ => (pv 3)))
    (pss_cons (ps_if (pt_cmpR (op_eqK (K := K) rfl hr.units) (pv 2) (pe_lst pa_nil) (nomark _)) pss_never pss_nil)
    (pss_one (ps_ret (pe_ix (ix_K (K := K) rfl) (pv 2) pe_int (fun _ _ => rfl)))))), fun vs Q h => end_rtn h ?_⟩
  try dsimp only [cx_K]
  rintro _ _ _ _ ⟨ok, hl, hu⟩
  rename_i M a s past ds c
  refine rtn_seq (nrm_set (P := Ls K [BgP K c]) (Evl.c (ev_lc (K := K) s.cries (BgP K) (BgP K) (fun d => true && decide (d.nm = c.nm)) (evi_crs (ev_fldO T.c_Night T.n_Night_begun_cries (ev_var rfl) (ntM_x ok) rfl)) (Nat.le_trans hl (by decide)) fun d _ D cc hD => turn_if (evgw_name (by decide)) (evt_and' (evt_isi (d := .str c.nm) (ev_var rfl) kb_ss) (evt_test (K := K) (ev_op (ev_fld T.c_Begun T.n_Begun_name (ev_var rfl) rfl) (ev_var rfl) ope_eqs))) fun _ => ev_var rfl) ?_)) ?_
  · have : (fun d : Cr => true && decide (d.nm = c.nm)) = fun d => decide (d.nm = c.nm) := by funext d; simp
    rw [this, hu]; rfl
  refine rtn_seq (nrm_if (b := false) (evt_test (K := K) (ev_op (ev_var rfl) (ev_lstD evad_nil) ope_eq0)) (fun e => by cases e) fun _ => nrm_next) ?_
  exact rtn_ret (ev_op (ev_var rfl) ev_int (ope_ixL rfl))
inductive RKeep (K : PySem.W.Frag) : Ctr
  | mk {M : OM} {a : NA3} {s : Snap} {past : List Snap} {ds : List Deed} {d : Deed} (ok : NtOk K M a) (hl : past.length ≤ 100) (hd : ds.length ≤ 100) : RKeep K (ntM K M a s past ds) [Rf a.x, Dd K (deedD d)] (Dd K .none) (ntM K M a s (past ++ [s]) (ds ++ [d]))
abbrev n_Night_keep : List Str := ["self", "deed"]
theorem sc_Night_keep : FnScope n_Night_keep ["self", "deed"] (defScope (inClass (top 63) 2)) := ⟨rfl, rfl, rfl, by decide +kernel, rfl, by decide +kernel, by decide +kernel⟩
theorem ok_Night_keep (T : Tx K mg base) : Met P w K mg base 1 (He.ga K "Night") "keep" (SpR (RKeep K)) := by
  obtain ⟨fd, F⟩ := T.fd_Night_keep
  have nd := sc_Night_keep.nd
  let nm := n_Night_keep
  let scp := defScope (inClass (top 63) 2)
  refine ⟨_, fd, ["self", "deed"], T.c_Night, T.m_Night_keep, (fn_ok (k := 0) F sc_Night_keep (sp_len fun _ _ _ _ h => by cases h <;> rfl) fun cdv A outer s H E hr => ?_), (F.bindsN fun _ _ _ _ _ _ us hl => match us, hl with | [_, _], _ => rfl)⟩
  have hu := hu_of hr
  refine ⟨_, (pss_cons (ps_expr (pe_bm PySem.F.plainAttrs_list PySem.F.slot_list_append PySem.F.type_list_append mt_append (pe_fldK (K := K) rfl (pv 0) rfl) (pa_cons (pe_tup (pa_cons (pe_fldK (K := K) rfl (pv 0) rfl) (pa_cons (pe_fldK (K := K) rfl (pv 0) rfl) (pa_cons (pe_fldK (K := K) rfl (pv 0) rfl) pa_nil)))) pa_nil)))
    (pss_one (ps_expr (pe_bm PySem.F.plainAttrs_list PySem.F.slot_list_append PySem.F.type_list_append mt_append (pe_fldK (K := K) rfl (pv 0) rfl) (pa_cons (pv 1) pa_nil))))), fun vs Q h => end_nrm (K := K) h ?_⟩
  try dsimp only [cx_K]
  rintro _ _ _ _ ⟨ok, hl, hd⟩
  rename_i M a s past ds d
  have cl := T.c_Night
  have e1 : (ntM K M a s past ds).set a.p (.lst (past.map (snapP K) ++ [snapP K s])) = ntM K M a s (past ++ [s]) ds := by
    rw [← ntM_setp (s := s) (past := past) (ds := ds) (past' := past ++ [s]) ok, List.map_append]; rfl
  have e2 : (ntM K M a s (past ++ [s]) ds).set a.q (.lst ((ds.map fun d => Dd K (deedD d)) ++ [Dd K (deedD d)])) = ntM K M a s (past ++ [s]) (ds ++ [d]) := by
    rw [← ntM_setq (s := s) (past := past ++ [s]) (ds := ds) (ds' := ds ++ [d]) ok, List.map_append]; rfl
  refine ⟨rfl, gam n_Night_keep [Rf a.x, Dd K (deedD d)], nrm_seq (M1 := ntM K M a s (past ++ [s]) ds) (nrm_drop (Evl.c (ev_append (ev_fldO cl T.n_Night_past (ev_var rfl) (ntM_x ok) rfl) (ev_tup (eva_cons (ev_fldO cl T.n_Night_own (ev_var rfl) (ntM_x ok) rfl) (eva_cons (ev_fldO cl T.n_Night_at (ev_var rfl) (ntM_x ok) rfl) (eva_cons (ev_fldO cl T.n_Night_begun_cries (ev_var rfl) (ntM_x ok) rfl) eva_nil))) (show 3 ≤ sizeLine by decide)) ⟨_, ntM_p ok⟩ (ntM_p ok) ?_) rfl e1)) (nrm_drop (Evl.c (ev_append (ev_fldO cl T.n_Night_deeds_done (ev_var rfl) (ntM_x ok) rfl) (ev_var rfl) ⟨_, ntM_q ok⟩ (ntM_q ok) ?_) rfl e2))⟩
  · rw [List.length_map]; exact Nat.lt_of_le_of_lt hl (by decide)
  · rw [List.length_map]; exact Nat.lt_of_le_of_lt hd (by decide)
inductive RGoOn (K : PySem.W.Frag) : Ctr
  | mk {M : OM} {a : NA3} {s : Snap} {past : List Snap} {ds : List Deed} {n : Int} (ok : NtOk K M a) (hl : past.length ≤ 100) (hd : ds.length ≤ 100) (h0 : 0 ≤ n) (h1 : n ≤ 1000000000000000000000000000000) :
    RGoOn K (ntM K M a s past ds) [Rf a.x, Dd K (.int n)] (Dd K .none) (ntM K M a { s with at_ := s.at_ + n } (past ++ [s]) (ds ++ [.go n]))
abbrev n_Night_go_on : List Str := ["self", "beats"]
theorem sc_Night_go_on : FnScope n_Night_go_on ["self", "beats"] (defScope (inClass (top 63) 4)) := ⟨rfl, rfl, rfl, by decide +kernel, rfl, by decide +kernel, by decide +kernel⟩
theorem ok_Night_go_on (T : Tx K mg base) : Met P w K mg base 2 (He.ga K "Night") "go_on" (SpR (RGoOn K)) := by
  obtain ⟨fd, F⟩ := T.fd_Night_go_on
  have nd := sc_Night_go_on.nd
  let nm := n_Night_go_on
  let scp := defScope (inClass (top 63) 4)
  have C_Night_keep : Met P w K mg base 1 (He.ga K "Night") "keep" (SpR (RKeep K)) := ok_Night_keep T
  have C_is_whole : Cal P w K mg base 1 "is_whole" (SpR (RWhole K)) [] := ok_is_whole T
  refine ⟨_, fd, ["self", "beats"], T.c_Night, T.m_Night_go_on, (fn_ok (k := 1) F sc_Night_go_on (sp_len fun _ _ _ _ h => by cases h <;> rfl) fun cdv A outer s H E hr => ?_), (F.bindsN fun _ _ _ _ _ _ us hl => match us, hl with | [_, _], _ => rfl)⟩
  have hu := hu_of hr
  refine ⟨_, (pss_cons (ps_if (pt_not (pt_val (pe_c C_is_whole hr (by decide) (by rfl) (pa_cons (pv 1) (pa_cons pe_int (pa_cons (pe_gv rfl T.i_MOST_GONE) pa_nil)))))) pss_never pss_nil)
    (pss_cons (ps_expr (pe_mt C_Night_keep hr (by decide) (pv 0) (pa_cons (pe_tup (pa_cons pe_str (pa_cons (pv 1) pa_nil))) pa_nil)))
    (pss_one (ps_fldaug (pv 0) (pv 1) in_add)))), fun vs Q h => end_nrm (K := K) h ?_⟩
  try dsimp only [cx_K]
  rintro _ _ _ _ ⟨ok, hl, hd, h0, h1⟩
  rename_i M a s past ds n
  have cl := T.c_Night
  have na := T.n_Night_at
  refine ⟨rfl, gam n_Night_go_on [Rf a.x, Dd K (.int n)], nrm_seq (nrm_if (b := false) (EvT.c (evt_not (evt_B (K := K) (ev_call (eva_cons (ev_var rfl) (eva_cons ev_int (eva_cons (Evl.c (ev_int (K := K) (i := 1000000000000000000000000000000)) (show Dd K (.int 1000000000000000000000000000000) = Dd K (optD (some 1000000000000000000000000000000)) from rfl)) eva_nil))) RWhole.mk))) ?_) (fun e => by cases e) fun _ => nrm_next) (nrm_seq (M1 := ntM K M a s (past ++ [s]) (ds ++ [.go n])) (nrm_drop (ev_methO (C := NC K) (dx := a.dx) (fs := ntF K s a.p a.q) (ev_var rfl) (ntM_x ok) rfl (eva_cons (ev_tupD (evad_cons ev_str (evad_cons (ev_var rfl) evad_nil))) eva_nil) (RKeep.mk (d := .go n) ok hl hd))) ?_)⟩
  · unfold whole
    rw [decide_eq_true h0]
    show (!(true && (false || decide (n ≤ 1000000000000000000000000000000)))) = false
    rw [decide_eq_true h1]; rfl
  · refine Nrm.c (nrm_fldaug (P := Dd K (.int s.at_)) (P1 := Dd K (.int n)) (P2 := Dd K (.int (s.at_ + n))) cl na (ev_var rfl) (ntM_x ok) rfl (ev_var rfl) (fun x y H Q w q1 q2 k => ⟨s.at_, n, dd_int q1, dd_int q2, k _ H (.refl w) (dd (.int _))⟩) (show 5 < 1000 by decide)) rfl ?_
    exact ntM_setx (s' := { s with at_ := s.at_ + n }) ok
inductive RBegin (K : PySem.W.Frag) : Ctr
  | mk {M : OM} {a : NA3} {s : Snap} {past : List Snap} {ds : List Deed} {nm : Str} {lot : List Str} (ok : NtOk K M a) (hl : past.length ≤ 100) (hd : ds.length ≤ 100) (hc : s.cries.length ≤ 100) (hw : OkWeb s.web) (ho : OkLot s.web.folk lot) (hn : okName nm) (hf : ∀ c ∈ s.cries, c.nm ≠ nm) :
    RBegin K (ntM K M a s past ds) [Rf a.x, Dd K (.str nm), Dd K (.list (lot.map .str))] (Dd K .none) (ntM K M a { s with cries := s.cries ++ [⟨nm, s.at_, s.web, lot⟩] } (past ++ [s]) (ds ++ [.begin nm lot]))
abbrev n_Night_begin : List Str := ["self", "cry", "starters", "one"]
theorem sc_Night_begin : FnScope n_Night_begin ["self", "cry", "starters"] (defScope (inClass (top 63) 3)) := ⟨rfl, rfl, rfl, by decide +kernel, rfl, by decide +kernel, by decide +kernel⟩
theorem ok_Night_begin (T : Tx K mg base) : Met P w K mg base 3 (He.ga K "Night") "begin" (SpR (RBegin K)) := by
  obtain ⟨fd, F⟩ := T.fd_Night_begin
  have nd := sc_Night_begin.nd
  let nm := n_Night_begin
  let scp := defScope (inClass (top 63) 3)
  have C_Begun : Mak P w K mg base 1 "Begun" (He.ga K "Begun") (SpR (RBegun K)) := ok_Begun_init T
  have C_Night_keep : Met P w K mg base 1 (He.ga K "Night") "keep" (SpR (RKeep K)) := ok_Night_keep T
  have C_is_name : Cal P w K mg base 1 "is_name" (SpR (RName K)) [] := ok_is_name T
  have C_need_starters : Cal P w K mg base 2 "need_starters" (SpR (RStart K)) [] := ok_need_starters T
  refine ⟨_, fd, ["self", "cry", "starters"], T.c_Night, T.m_Night_begin, (fn_ok (k := 2) F sc_Night_begin (sp_len fun _ _ _ _ h => by cases h <;> rfl) fun cdv A outer s H E hr => ?_), (F.bindsN fun _ _ _ _ _ _ us hl => match us, hl with | [_, _, _], _ => rfl)⟩
  have hu := hu_of hr
  refine ⟨_, (pss_cons (ps_if (pt_not (pt_val (pe_c C_is_name hr (by decide) (by rfl) (pa_cons (pv 1) pa_nil)))) pss_never pss_nil)
    (pss_cons (ps_if (pt_val (pe_callB (cr_any rfl) (by rfl) T.f_any (by decide +kernel) (pa_cons (pe_lc (own := [("one", 3)]) (by rfl) nd (pi_listK (K := K) rfl (pe_fldK (K := K) rfl (pv 0) rfl)) (blkOk_by (own := [("one", 3)]) (N := nm) (sc := scp) (by decide +kernel)) (fun _ _ _ _ _ => (pg_name (i := 3) nd rfl (by first | exact Or.inl rfl | exact Or.inr rfl))) (fun _ _ _ _ _ => pts_nil) (fun _ _ _ _ _ => (pe_cmpR (op_eqK (K := K) rfl hr.units) (pe_fldK (K := K) rfl (pv 3) rfl) (pv 1) (nomark _)))) pa_nil))) pss_never pss_nil)
    (pss_cons (ps_expr (pe_c C_need_starters hr (by decide) (by rfl) (pa_cons (pe_fldK (K := K) rfl (pv 0) rfl) (pa_cons (pv 2) pa_nil))))
    (pss_cons (ps_expr (pe_mt C_Night_keep hr (by decide) (pv 0) (pa_cons (pe_tup (pa_cons pe_str (pa_cons (pv 1) (pa_cons (pe_callTy (call_list_ofK (K := K) rfl) (by rfl) T.f_list (by decide +kernel) (pa_cons (pv 2) pa_nil)) pa_nil)))) pa_nil)))
    (pss_one (ps_fld (pv 0) (pe_op (op_catLK (K := K) rfl) (pe_fldK (K := K) rfl (pv 0) rfl) (pe_lst (pa_cons (pe_mk C_Begun hr (by decide) (by rfl) (pa_cons (pv 1) (pa_cons (pe_fldK (K := K) rfl (pv 0) rfl) (pa_cons (pe_callTy (call_list_ofK (K := K) rfl) (by rfl) T.f_list (by decide +kernel) (pa_cons (pv 2) pa_nil)) (pa_cons (pe_fldK (K := K) rfl (pv 0) rfl) pa_nil))))) pa_nil))) rfl)))))), fun vs Q h => end_nrm (K := K) h ?_⟩
  try dsimp only [cx_K]
  rintro _ _ _ _ ⟨ok, hl, hd, hc, hw, ho, hn, hf⟩
  rename_i M a s past ds nm lot
  have cl := T.c_Night
  let G0 := gam n_Night_begin [Rf a.x, Dd K (.str nm), Dd K (.list (lot.map .str))]
  let s2 : Snap := { s with cries := s.cries ++ [⟨nm, s.at_, s.web, lot⟩] }
  refine ⟨rfl, G0, nrm_seq (nrm_if (b := false) (EvT.c (evt_not (evt_B (K := K) (ev_call (eva_cons (ev_var rfl) eva_nil) (RName.mk hn))))) (fun e => by cases e) fun _ => nrm_next) (nrm_seq (nrm_if (b := false) (EvT.c (evt_B (K := K) (ev_cb (ps := [Dd K (.list ((s.cries.map fun c => decide (c.nm = nm)).map .bool))]) (eva_cons (Evl.c (ev_lcD (K := K) s.cries (BgP K) (fun c => .bool (decide (c.nm = nm))) (fun _ => true) (evi_crs (ev_fldO cl T.n_Night_begun_cries (ev_var rfl) (ntM_x ok) rfl)) (Nat.le_trans hc (by decide)) fun c _ D cc hD => turn_all (evgw_name (by decide)) (ev_op (ev_fld T.c_Begun T.n_Begun_name (ev_var rfl) rfl) (ev_var rfl) ope_eqs)) ?_) eva_nil) cbe_any)) ?_) (fun e => by cases e) fun _ => nrm_next) (nrm_seq (nrm_drop (ev_call (eva_cons (ev_fldO cl T.n_Night_own (ev_var rfl) (ntM_x ok) rfl) (eva_cons (ev_var rfl) eva_nil)) (RStart.mk hw ho))) (nrm_seq (M1 := ntM K M a s (past ++ [s]) (ds ++ [.begin nm lot])) (nrm_drop (ev_methO (C := NC K) (dx := a.dx) (fs := ntF K s a.p a.q) (ev_var rfl) (ntM_x ok) rfl (eva_cons (ev_tupD (evad_cons ev_str (evad_cons (ev_var rfl) (evad_cons (ev_cb (eva_cons (ev_var rfl) eva_nil) cbe_listLD) evad_nil)))) eva_nil) (RKeep.mk (d := .begin nm lot) ok hl hd))) ?_)))⟩
  · rw [List.filter_eq_self.mpr (fun _ _ => rfl), List.map_map]; rfl
  · rw [List.any_map, List.any_eq_false]
    intro c h
    simpa using hf c h
  · have bg : Evl G0 (ntM K M a s (past ++ [s]) (ds ++ [.begin nm lot])) (tMake (He.ga K "Begun") (SpR (RBegun K)) [] E0 (tCons (tVar 1) (tCons (tFld K (tVar 0) "at") (tCons (tCB (rListOf K) (tCons (tVar 2) tNil)) (tCons (tFld K (tVar 0) "own") tNil))))) (BgP K ⟨nm, s.at_, s.web, lot⟩) (ntM K M a s (past ++ [s]) (ds ++ [.begin nm lot])) :=
      ev_make (K := K) (eva_cons (ev_var rfl) (eva_cons (ev_fldO cl T.n_Night_at (ev_var rfl) (ntM_x ok) rfl) (eva_cons (ev_cb (eva_cons (ev_var rfl) eva_nil) cbe_listLD) (eva_cons (ev_fldO cl T.n_Night_own (ev_var rfl) (ntM_x ok) rfl) eva_nil)))) fun y dy hy => by
        have := RBegun.mk (K := K) (M := (ntM K M a s (past ++ [s]) (ds ++ [.begin nm lot])).set y (.ins (He.ga K "Begun") dy [])) (x := y) (dx := dy) (c := ⟨nm, s.at_, s.web, lot⟩) OM.set_same
        rwa [OM.set_set] at this
    refine Nrm.c (nrm_fld (P := crsP K s2.cries) (C := NC K) (dx := a.dx) (p := a.x) (fs := ntF K s a.p a.q) cl T.n_Night_begun_cries (Evl.c (ev_op (ev_fldO cl T.n_Night_begun_cries (ev_var rfl) (ntM_x ok) rfl) (ev_lst (eva_cons bg eva_nil) (show 1 ≤ sizeLine by decide)) (ope_catL ?_)) ?_) (ev_var rfl) (ntM_x ok) (show 5 < 1000 by decide)) rfl ?_
    · rw [List.length_map]; exact Nat.le_trans (Nat.add_le_add_right hc 1) (by decide)
    · show Ls K (s.cries.map (BgP K) ++ [_]) = Ls K ((s.cries ++ [_]).map (BgP K))
      rw [List.map_append]; rfl
    · exact ntM_setx (s' := s2) ok
inductive RBack (K : PySem.W.Frag) : Ctr
  | mk {M : OM} {a : NA3} {s s' : Snap} {past : List Snap} {ds : List Deed} {d : Deed} (ok : NtOk K M a) : RBack K (ntM K M a s (past ++ [s']) (ds ++ [d])) [Rf a.x] (Dd K .none) (ntM K M a s' past ds)
abbrev n_Night_back : List Str := ["self"]
theorem sc_Night_back : FnScope n_Night_back ["self"] (defScope (inClass (top 63) 8)) := ⟨rfl, rfl, rfl, by decide +kernel, rfl, by decide +kernel, by decide +kernel⟩
theorem ok_Night_back (T : Tx K mg base) : Met P w K mg base 1 (He.ga K "Night") "back" (SpR (RBack K)) := by
  obtain ⟨fd, F⟩ := T.fd_Night_back
  have nd := sc_Night_back.nd
  let nm := n_Night_back
  let scp := defScope (inClass (top 63) 8)
  refine ⟨_, fd, ["self"], T.c_Night, T.m_Night_back, (fn_ok (k := 0) F sc_Night_back (sp_len fun _ _ _ _ h => by cases h <;> rfl) fun cdv A outer s H E hr => ?_), (F.bindsN fun _ _ _ _ _ _ us hl => match us, hl with | [_], _ => rfl)⟩
  have hu := hu_of hr
  refine ⟨_, (pss_cons (ps_if (pt_cmpR (op_eqK (K := K) rfl hr.units) (pe_fldK (K := K) rfl (pv 0) rfl) (pe_lst pa_nil) (nomark _)) pss_never pss_nil)
    (pss_cons (ps_asg (pe_bm0 PySem.F.plainAttrs_list PySem.F.slot_list_pop PySem.F.type_list_pop mt_pop (pe_fldK (K := K) rfl (pv 0) rfl)) (pg_tupK (K := K) (n := 3) rfl (by rfl) (pgs_cons (pg_fld (pv 0)) (pgs_cons (pg_fld (pv 0)) (pgs_cons (pg_fld (pv 0)) pgs_nil)))))
    (pss_one (ps_expr (pe_bm0 PySem.F.plainAttrs_list PySem.F.slot_list_pop PySem.F.type_list_pop mt_pop (pe_fldK (K := K) rfl (pv 0) rfl)))))), fun vs Q h => end_nrm (K := K) h ?_⟩
  try dsimp only [cx_K]
  rintro _ _ _ _ ⟨ok⟩
  rename_i M a s s' past ds d
  have cl := T.c_Night
  let G0 := gam n_Night_back [Rf a.x]
  let s1 : Snap := { s with web := s'.web }
  let s2 : Snap := { s1 with at_ := s'.at_ }
  have e0 : (ntM K M a s (past ++ [s']) (ds ++ [d])).set a.p (.lst (past.map (snapP K))) = ntM K M a s past (ds ++ [d]) := ntM_setp ok
  have hp : ntM K M a s (past ++ [s']) (ds ++ [d]) a.p = some (.lst (past.map (snapP K) ++ [snapP K s'])) := by rw [ntM_p ok, List.map_append]; rfl
  have hq : ntM K M a s' past (ds ++ [d]) a.q = some (.lst ((ds.map fun d => Dd K (deedD d)) ++ [Dd K (deedD d)])) := by rw [ntM_q ok, List.map_append]; rfl
  refine ⟨rfl, G0, nrm_seq (nrm_if (b := false) (EvT.c (evt_test (K := K) (ev_op (ev_fldO cl T.n_Night_past (ev_var rfl) (ntM_x ok) rfl) (ev_lstD evad_nil) (ope_eq0O hp))) ?_) (fun e => by cases e) fun _ => nrm_next) (nrm_seq (G1 := G0) (M1 := ntM K M a s' past (ds ++ [d])) (nrm_asg (Evl.c (ev_popL (ev_fldO cl T.n_Night_past (ev_var rfl) (ntM_x ok) rfl) hp) rfl e0) (evg_tup (evgs_cons (M1 := ntM K M a s1 past (ds ++ [d])) (EvG.c (evg_fldO cl T.n_Night_own (ev_var rfl) (ntM_x ok) (show 5 < 1000 by decide)) (ntM_setx (s' := s1) ok)) (evgs_cons (M1 := ntM K M a s2 past (ds ++ [d])) (EvG.c (evg_fldO cl T.n_Night_at (ev_var rfl) (ntM_x ok) (show 5 < 1000 by decide)) (ntM_setx (s' := s2) ok)) (evgs_cons (EvG.c (evg_fldO cl T.n_Night_begun_cries (ev_var rfl) (ntM_x ok) (show 5 < 1000 by decide)) (ntM_setx (s' := s') ok)) evgs_nil))) rfl)) (nrm_drop (Evl.c (ev_popL (ev_fldO cl T.n_Night_deeds_done (ev_var rfl) (ntM_x ok) rfl) hq) rfl (ntM_setq ok))))⟩
  cases past <;> rfl
inductive RHeardAt (K : PySem.W.Frag) : Ctr
  | mk {M : OM} {a : NA3} {s : Snap} {past : List Snap} {ds : List Deed} {c : Cr} {p : Place} (ok : NtOk K M a) (hl : s.cries.length ≤ 100) (hu : s.cries.filter (fun d => decide (d.nm = c.nm)) = [c]) (hc : OkCr c) (hp : OkPlace c.web p) :
    RHeardAt K (ntM K M a s past ds) [Rf a.x, Dd K (.str c.nm), Dd K (wayD p)] (Dd K (.list ((((hear c.web c.lot p).map (c.since + ·)).filter fun n => decide (n ≤ s.at_)).map .int))) (ntM K M a s past ds)
abbrev n_Night_heard_at : List Str := ["self", "cry", "place", "found", "there", "beat"]
theorem sc_Night_heard_at : FnScope n_Night_heard_at ["self", "cry", "place"] (defScope (inClass (top 63) 12)) := ⟨rfl, rfl, rfl, by decide +kernel, rfl, by decide +kernel, by decide +kernel⟩
theorem ok_Night_heard_at (T : Tx K mg base) : Met P w K mg base 10 (He.ga K "Night") "heard_at" (SpR (RHeardAt K)) := by
  obtain ⟨fd, F⟩ := T.fd_Night_heard_at
  have nd := sc_Night_heard_at.nd
  let nm := n_Night_heard_at
  let scp := defScope (inClass (top 63) 12)
  have C_Begun_beats_at : Met P w K mg base 9 (He.ga K "Begun") "beats_at" (SpR (RBAt K)) := ok_Begun_beats_at T
  have C_Night_need_cry : Met P w K mg base 1 (He.ga K "Night") "need_cry" (SpR (RNeedCry K)) := ok_Night_need_cry T
  have C_need_place : Cal P w K mg base 3 "need_place" (SpR (RNeedPlace K)) [] := ok_need_place T
  refine ⟨_, fd, ["self", "cry", "place"], T.c_Night, T.m_Night_heard_at, (fn_ok (k := 9) F sc_Night_heard_at (sp_len fun _ _ _ _ h => by cases h <;> rfl) fun cdv A outer s H E hr => ?_), (F.bindsN fun _ _ _ _ _ _ us hl => match us, hl with | [_, _, _], _ => rfl)⟩
  have hu := hu_of hr
  refine ⟨_, (pss_cons (ps_set (i := 3) nd rfl (by first | exact Or.inl rfl | exact Or.inr rfl) (pe_mt C_Night_need_cry hr (by decide) (pv 0) (pa_cons (pv 1) pa_nil)))
    (pss_cons (ps_set (i := 4) nd rfl (by first | exact Or.inl rfl | exact Or.inr rfl) (pe_c C_need_place hr (by decide) (by rfl) (pa_cons (pe_fldK (K := K) rfl (pv 3) rfl) (pa_cons (pv 2) pa_nil))))
    (pss_one (ps_ret (pe_lc (own := [("beat", 5)]) (by rfl) nd (pi_listK (K := K) rfl (pe_mt C_Begun_beats_at hr (by decide) (pv 3) (pa_cons (pv 4) pa_nil))) (blkOk_by (own := [("beat", 5)]) (N := nm) (sc := scp) (by decide +kernel)) (fun _ _ _ _ _ => (pg_name (i := 5) nd rfl (by first | exact Or.inl rfl | exact Or.inr rfl))) (fun _ _ _ _ _ => pts_one (pt_cmpR op_le (pv 5) (pe_fldK (K := K) rfl (pv 0) rfl) (nomark _))) (fun _ _ _ _ _ => (pv 5))))))), fun vs Q h => end_rtn h ?_⟩
  try dsimp only [cx_K]
  rintro _ _ _ _ ⟨ok, hl, hu, hc, hp⟩
  rename_i M a s past ds c p
  have cl := T.c_Night
  refine rtn_seq (nrm_set (P := BgP K c) (ev_methO (C := NC K) (dx := a.dx) (fs := ntF K s a.p a.q) (ev_var rfl) (ntM_x ok) rfl (eva_cons (ev_var rfl) eva_nil) (RNeedCry.mk ok hl hu))) ?_
  refine rtn_seq (nrm_set (P := Dd K (wayD p)) (ev_call (eva_cons (ev_fld T.c_Begun T.n_Begun_in_web (ev_var rfl) rfl) (eva_cons (ev_var rfl) eva_nil)) (RNeedPlace.mk hc.web hp))) ?_
  exact rtn_ret (ev_lcL (K := K) ((hear c.web c.lot p).map (c.since + ·)) .int .int (fun n => decide (n ≤ s.at_)) (ev_meth (C := He.ga K "Begun") (fs := bgF K c) (ev_var rfl) rfl (eva_cons (ev_var rfl) eva_nil) (RBAt.mk (ntM_tb ok) hc hp)) (by rw [List.length_map]; exact Nat.le_trans hear_len (by decide)) fun n _ D cc hD => turn_if (evgw_name (by decide)) (evt_test (K := K) (ev_op (ev_var rfl) (ev_fldO cl T.n_Night_at (ev_var rfl) (hset hD (ntM_x ok)) rfl) ope_B)) fun _ => ev_var rfl)
inductive RCHeard (K : PySem.W.Frag) : Ctr
  | mk {M : OM} {a : NA3} {s : Snap} {past : List Snap} {ds : List Deed} {p : Place} (ok : NtOk K M a) (hl : s.cries.length ≤ 100) (hw : OkWeb s.web) (hp : OkPlace s.web p) (hc : ∀ c ∈ s.cries, OkCr c ∧ OkPlace c.web p) :
    RCHeard K (ntM K M a s past ds) [Rf a.x, Dd K (wayD p)] (Dd K (.list (((s.cries.filter fun c => decide (s.at_ ∈ (hear c.web c.lot p).map (c.since + ·))).map (·.nm)).map .str))) (ntM K M a s past ds)
abbrev n_Night_cries_heard : List Str := ["self", "place", "there", "some", "one"]
theorem sc_Night_cries_heard : FnScope n_Night_cries_heard ["self", "place"] (defScope (inClass (top 63) 13)) := ⟨rfl, rfl, rfl, by decide +kernel, rfl, by decide +kernel, by decide +kernel⟩
theorem ok_Night_cries_heard (T : Tx K mg base) : Met P w K mg base 10 (He.ga K "Night") "cries_heard" (SpR (RCHeard K)) := by
  obtain ⟨fd, F⟩ := T.fd_Night_cries_heard
  have nd := sc_Night_cries_heard.nd
  let nm := n_Night_cries_heard
  let scp := defScope (inClass (top 63) 13)
  have C_Begun_beats_at : Met P w K mg base 9 (He.ga K "Begun") "beats_at" (SpR (RBAt K)) := ok_Begun_beats_at T
  have C_is_place : Cal P w K mg base 2 "is_place" (SpR (RIsPlace K)) [] := ok_is_place T
  have C_need_place : Cal P w K mg base 3 "need_place" (SpR (RNeedPlace K)) [] := ok_need_place T
  refine ⟨_, fd, ["self", "place"], T.c_Night, T.m_Night_cries_heard, (fn_ok (k := 9) F sc_Night_cries_heard (sp_len fun _ _ _ _ h => by cases h <;> rfl) fun cdv A outer s H E hr => ?_), (F.bindsN fun _ _ _ _ _ _ us hl => match us, hl with | [_, _], _ => rfl)⟩
  have hu := hu_of hr
  refine ⟨_, (pss_cons (ps_set (i := 2) nd rfl (by first | exact Or.inl rfl | exact Or.inr rfl) (pe_c C_need_place hr (by decide) (by rfl) (pa_cons (pe_fldK (K := K) rfl (pv 0) rfl) (pa_cons (pv 1) pa_nil))))
    (pss_cons (ps_setLc (i := 3) (own := [("one", 4)]) (by rfl) nd rfl rfl (sw_true rfl rfl rfl (by decide +kernel)) (pi_listK (K := K) rfl (pe_fldK (K := K) rfl (pv 0) rfl)) (blkOk_by (own := [("one", 4)]) (N := nm) (sc := scp) (by decide +kernel)) (fun _ _ _ _ _ => (pg_name (i := 4) nd rfl (by first | exact Or.inl rfl | exact Or.inr rfl))) (fun _ _ _ _ _ => pts_one (pt_val (pe_c C_is_place hr (by decide) (by rfl) (pa_cons (pe_fldK (K := K) rfl (pv 4) rfl) (pa_cons (pv 2) pa_nil))))) (fun _ _ _ _ _ => (pv 4)))
    (pss_one (ps_ret (pe_lc (own := [("one", 4)]) (by rfl) nd (pi_listK (K := K) rfl (pv 3)) (blkOk_by (own := [("one", 4)]) (N := nm) (sc := scp) (by decide +kernel)) (fun _ _ _ _ _ => (pg_name (i := 4) nd rfl (by first | exact Or.inl rfl | exact Or.inr rfl))) (fun _ _ _ _ _ => pts_one (pt_cmpR (op_inK (K := K) rfl hr.units) (pe_fldK (K := K) rfl (pv 0) rfl) (pe_mt C_Begun_beats_at hr (by decide) (pv 4) (pa_cons (pv 2) pa_nil)) (by first | exact nomark _ | rfl))) (fun _ _ _ _ _ => (pe_fldK (K := K) rfl (pv 4) rfl))))))), fun vs Q h => end_rtn h ?_⟩
  try dsimp only [cx_K]
  rintro _ _ _ _ ⟨ok, hl, hw, hp, hc⟩
  rename_i M a s past ds p
  have cl := T.c_Night
  refine rtn_seq (nrm_set (P := Dd K (wayD p)) (ev_call (eva_cons (ev_fldO cl T.n_Night_own (ev_var rfl) (ntM_x ok) rfl) (eva_cons (ev_var rfl) eva_nil)) (RNeedPlace.mk hw hp))) ?_
  refine rtn_seq (nrm_set (P := crsP K s.cries) (Evl.c (ev_lc (K := K) s.cries (BgP K) (BgP K) (fun _ => true) (evi_crs (ev_fldO cl T.n_Night_begun_cries (ev_var rfl) (ntM_x ok) rfl)) (Nat.le_trans hl (by decide)) fun c h D cc hD => turn_if (evgw_name (by decide)) (evt_B (K := K) (ev_call (eva_cons (ev_fld T.c_Begun T.n_Begun_in_web (ev_var rfl) rfl) (eva_cons (ev_var rfl) eva_nil)) (RIsPlace.mk (hc c h).1.web (hc c h).2))) fun _ => ev_var rfl) ?_)) ?_
  · rw [List.filter_eq_self.mpr (fun _ _ => rfl)]
  · refine rtn_ret (Evl.c (ev_lcD (K := K) s.cries (BgP K) (fun c => .str c.nm) (fun c => decide (s.at_ ∈ (hear c.web c.lot p).map (c.since + ·))) (evi_crs (ev_var rfl)) (Nat.le_trans hl (by decide)) fun c h D cc hD => turn_if (evgw_name (by decide)) (evt_test (K := K) (ev_op (ev_fldO cl T.n_Night_at (ev_var rfl) (hset hD (ntM_x ok)) rfl) (ev_meth (C := He.ga K "Begun") (fs := bgF K c) (ev_var rfl) rfl (eva_cons (ev_var rfl) eva_nil) (RBAt.mk ((ntM_tb ok).new hD rfl) (hc c h).1 (hc c h).2)) ope_ini)) fun _ => ev_fld T.c_Begun T.n_Begun_name (ev_var rfl) rfl) ?_)
    rw [List.map_map]; rfl
inductive RTold (K : PySem.W.Frag) : Ctr
  | mk {M : OM} {a : NA3} {s : Snap} {past : List Snap} {ds : List Deed} {c : Cr} (ok : NtOk K M a) (hl : s.cries.length ≤ 100) (hu : s.cries.filter (fun d => decide (d.nm = c.nm)) = [c]) (hc : OkCr c) (h0 : 0 ≤ s.at_ - c.since) :
    RTold K (ntM K M a s past ds) [Rf a.x, Dd K (.str c.nm)] (Dd K (.int (tellBy c.web (reachD c.web c.lot).num (s.at_ - c.since)))) (ntM K M a s past ds)
abbrev n_Night_told : List Str := ["self", "cry", "found"]
theorem sc_Night_told : FnScope n_Night_told ["self", "cry"] (defScope (inClass (top 63) 14)) := ⟨rfl, rfl, rfl, by decide +kernel, rfl, by decide +kernel, by decide +kernel⟩
theorem ok_Night_told (T : Tx K mg base) : Met P w K mg base 9 (He.ga K "Night") "told" (SpR (RTold K)) := by
  obtain ⟨fd, F⟩ := T.fd_Night_told
  have nd := sc_Night_told.nd
  let nm := n_Night_told
  let scp := defScope (inClass (top 63) 14)
  have C_Night_need_cry : Met P w K mg base 1 (He.ga K "Night") "need_cry" (SpR (RNeedCry K)) := ok_Night_need_cry T
  have C_tellings_by : Cal P w K mg base 8 "tellings_by" (SpR (RTellBy K)) [] := ok_tellings_by T
  refine ⟨_, fd, ["self", "cry"], T.c_Night, T.m_Night_told, (fn_ok (k := 8) F sc_Night_told (sp_len fun _ _ _ _ h => by cases h <;> rfl) fun cdv A outer s H E hr => ?_), (F.bindsN fun _ _ _ _ _ _ us hl => match us, hl with | [_, _], _ => rfl)⟩
  have hu := hu_of hr
  refine ⟨_, (pss_cons (ps_set (i := 2) nd rfl (by first | exact Or.inl rfl | exact Or.inr rfl) (pe_mt C_Night_need_cry hr (by decide) (pv 0) (pa_cons (pv 1) pa_nil)))
    (pss_one (ps_ret (pe_c C_tellings_by hr (by decide) (by rfl) (pa_cons (pe_fldK (K := K) rfl (pv 2) rfl) (pa_cons (pe_fldK (K := K) rfl (pv 2) rfl) (pa_cons (pe_op op_sub (pe_fldK (K := K) rfl (pv 0) rfl) (pe_fldK (K := K) rfl (pv 2) rfl)) pa_nil))))))), fun vs Q h => end_rtn h ?_⟩
  try dsimp only [cx_K]
  rintro _ _ _ _ ⟨ok, hl, hu, hc, h0⟩
  rename_i M a s past ds c
  have cl := T.c_Night
  refine rtn_seq (nrm_set (P := BgP K c) (ev_methO (C := NC K) (dx := a.dx) (fs := ntF K s a.p a.q) (ev_var rfl) (ntM_x ok) rfl (eva_cons (ev_var rfl) eva_nil) (RNeedCry.mk ok hl hu))) ?_
  exact rtn_ret (ev_call (eva_cons (ev_fld T.c_Begun T.n_Begun_in_web (ev_var rfl) rfl) (eva_cons (ev_fld T.c_Begun T.n_Begun_lot (ev_var rfl) rfl) (eva_cons (ev_op (ev_fldO cl T.n_Night_at (ev_var rfl) (ntM_x ok) rfl) (ev_fld T.c_Begun T.n_Begun_since (ev_var rfl) rfl) ope_I) eva_nil))) (RTellBy.mk (ntM_tb ok) hc.web hc.lot h0))
end
end Z
set_option maxRecDepth 100000
set_option maxHeartbeats 4000000
/-! F13: a Night: made, its history. Own work. -/
namespace Z
open PySem PySem.Spec L2
local macro_rules | `(tactic| walk_at "ev") => `(tactic| repeat' (first
  | with_reducible apply eva_nil
  | ((with_reducible apply ev_var); rfl)
  | with_reducible apply ev_int
  | with_reducible apply ev_str
  | with_reducible apply ev_bl
  | with_reducible apply ev_non
  | ((with_reducible show PySem.W.Frag); assumption)
  | with_reducible apply eva_cons
  | with_reducible apply ev_cb
  | with_reducible apply ev_op
  | with_reducible apply cbe_min2
  | with_reducible apply cbe_max2
  | with_reducible apply ope_I
  | with_reducible apply ope_B
  | with_reducible apply ope_isN
  | with_reducible apply ope_notN
  | with_reducible apply ope_eqi
  | with_reducible apply ope_nei
  | with_reducible apply ope_eqs
  | with_reducible apply ope_nes
  | with_reducible apply evt_test
  | with_reducible apply rtn_ret))
section
variable {P : Program} {w : World} {K : PySem.W.Frag} {mg : Str → Option Value} {base : Heap}
variable {G G1 G2 : Gm} {M M1 M2 : OM}
abbrev nt0 (K : PySem.W.Frag) (W : Web) (p q : Addr) : List (Str × Pr) := ntF K ⟨W, 0, []⟩ p q
inductive RNInit (K : PySem.W.Frag) : CtrX
  | mk {M : OM} {x dx : Addr} {W : Web} (hx : M x = none) (h : OkWeb W) : RNInit K (M.set x (.ins (NC K) dx [])) [Rf x, Dd K (webD W)] (fun P m => P = Dd K .none ∧ ∃ p q, x ≠ p ∧ x ≠ q ∧ p ≠ q ∧ M p = none ∧ M q = none ∧ m = ntM K M ⟨x, dx, p, q⟩ ⟨W, 0, []⟩ [] [])
abbrev n_Night_init : List Str := ["self", "web"]
theorem sc_Night_init : FnScope n_Night_init ["self", "web"] (defScope (inClass (top 63) 0)) := ⟨rfl, rfl, rfl, by decide +kernel, rfl, by decide +kernel, by decide +kernel⟩
theorem ok_Night_init (T : Tx K mg base) : Mak P w K mg base 5 "Night" (He.ga K "Night") (SpX (RNInit K)) := by
  obtain ⟨fd, F⟩ := T.fd_Night_init
  have nd := sc_Night_init.nd
  let nm := n_Night_init
  let scp := defScope (inClass (top 63) 0)
  have C_web_of : Cal P w K mg base 4 "web_of" (SpR (RWebOf K)) [] := ok_web_of T
  refine ⟨_, fd, ["self", "web"], T.k_Night, (fn_ok (k := 4) F sc_Night_init (spx_len fun _ _ _ h => by cases h <;> rfl) fun cdv A outer s H E hr => ?_), T.g_Night, (F.bindsN fun _ _ _ _ _ _ us hl => match us, hl with | [_, _], _ => rfl)⟩
  have hu := hu_of hr
  refine ⟨_, (pss_cons (ps_fld (pv 0) (pe_c C_web_of hr (by decide) (by rfl) (pa_cons (pv 1) pa_nil)) rfl)
    (pss_cons (ps_fld (pv 0) pe_int rfl)
    (pss_cons (ps_fld (pv 0) (pe_lst pa_nil) rfl)
    (pss_cons (ps_fld (pv 0) (pe_lst pa_nil) rfl)
    (pss_one (ps_fld (pv 0) (pe_lst pa_nil) rfl)))))), fun vs Q h => endx_nrm (K := K) h ?_⟩
  try dsimp only [cx_K]
  rintro _ _ _ ⟨hx, h⟩
  rename_i M x dx W
  have cl := T.c_Night
  let C := NC K
  let f1 : List (Str × Pr) := [("own", Dd K (webD W))]
  let f2 : List (Str × Pr) := [("own", Dd K (webD W)), ("at", Dd K (.int 0))]
  let f3 : List (Str × Pr) := [("own", Dd K (webD W)), ("at", Dd K (.int 0)), ("begun_cries", crsP K [])]
  let G0 := gam n_Night_init [Rf x, Dd K (webD W)]
  let Mi : List (Str × Pr) → OM := fun fs => M.set x (.ins C dx fs)
  have hm : ∀ fs, Mi fs x = some (.ins C dx fs) := fun fs => OM.set_same
  have sw : ∀ fs fs', (Mi fs).set x (.ins C dx fs') = Mi fs' := fun fs fs' => OM.set_set
  refine nrmx_seq (Φ := oneS G0 (Mi f1)) (Nrm.c (nrm_fld (C := C) (dx := dx) (p := x) (fs := []) cl T.n_Night_own (P := Dd K (webD W)) (ev_call (eva_cons (ev_var rfl) eva_nil) (RWebOf.mk h)) (ev_var (i := 0) rfl) (hm []) (by decide)) rfl (sw _ _)).x ?_
  rintro _ _ ⟨rfl, rfl⟩
  refine nrmx_seq (Φ := oneS G0 (Mi f2)) (Nrm.c (nrm_fld (C := C) (dx := dx) (p := x) (fs := f1) cl T.n_Night_at (P := Dd K (.int 0)) ev_int (ev_var (i := 0) rfl) (hm f1) (show 1 < 1000 by decide)) rfl (sw _ _)).x ?_
  rintro _ _ ⟨rfl, rfl⟩
  refine nrmx_seq (Φ := oneS G0 (Mi f3)) (Nrm.c (nrm_fld (C := C) (dx := dx) (p := x) (fs := f2) cl T.n_Night_begun_cries (P := crsP K []) (ev_lst eva_nil (show 0 ≤ sizeLine by decide)) (ev_var (i := 0) rfl) (hm f2) (show 2 < 1000 by decide)) rfl (sw _ _)).x ?_
  rintro _ _ ⟨rfl, rfl⟩
  refine nrmx_seq (nrmx_fld (C := C) (dx := dx) (p := x) (fs := f3) cl T.n_Night_past (evx_lst eva_nil (by decide)) (fun P m ⟨p, h1, h2, h3⟩ => ⟨ev_var (i := 0) rfl, by rw [h3, OM.set_ne (fun z => by rw [← z, hm] at h1; cases h1)]; exact hm f3⟩) (show 3 < 1000 by decide)) ?_
  rintro _ _ ⟨rfl, _, _, ⟨p, hp, rfl, rfl⟩, rfl⟩
  have xp : x ≠ p := fun z => by rw [← z, hm] at hp; cases hp
  have hMp : M p = none := by have : (M.set x (.ins C dx f3)) p = none := hp; rwa [OM.set_ne xp.symm] at this
  let f4 : List (Str × Pr) := [("own", Dd K (webD W)), ("at", Dd K (.int 0)), ("begun_cries", crsP K []), ("past", Rf p)]
  let Mp : List (Str × Pr) → OM := fun fs => (M.set x (.ins C dx fs)).set p (.lst [])
  have e4 : ((Mi f3).set p (.lst [])).set x (.ins C dx (putP "past" (Rf p) f3)) = Mp f4 := by
    show ((M.set x _).set p _).set x _ = (M.set x _).set p _
    rw [OM.set_comm xp.symm, OM.set_set]; rfl
  rw [e4]
  have hmp : ∀ fs, Mp fs x = some (.ins C dx fs) := fun fs => by show ((M.set x _).set p _) x = _; rw [OM.set_ne xp]; exact OM.set_same
  refine (nrmx_fld (G := G0) (C := C) (dx := dx) (p := x) (fs := f4) cl T.n_Night_deeds_done (evx_lst eva_nil (by decide)) (fun P m ⟨q, h1, h2, h3⟩ => ⟨ev_var (i := 0) rfl, by rw [h3, OM.set_ne (fun z => by rw [← z, hmp] at h1; cases h1)]; exact hmp f4⟩) (show 4 < 1000 by decide)).imp ?_
  rintro _ _ ⟨rfl, _, _, ⟨q, hq, rfl, rfl⟩, rfl⟩
  have xq : x ≠ q := fun z => by rw [← z, hmp] at hq; cases hq
  have hq2 : (M.set x (.ins C dx f4)).set p (.lst []) q = none := hq
  have pq : p ≠ q := fun z => by rw [← z, OM.set_same] at hq2; cases hq2
  have hMq : M q = none := by rwa [OM.set_ne pq.symm, OM.set_ne xq.symm] at hq2
  refine ⟨rfl, p, q, xp, xq, pq, hMp, hMq, ?_⟩
  show (((M.set x _).set p _).set q _).set x _ = ((M.set x _).set p _).set q _
  rw [OM.set_comm xq.symm, OM.set_comm xp.symm, OM.set_set]; rfl
theorem pi_tupK {X : Cx} {K : PySem.W.Frag} (h : X.K = K) {tg e : Expr} {te : TE} (he : PE X e te) : PI X tg e (iTup K te) := by subst h; exact pi_tup he
def partsD : Deed → List PyData
  | .begin nm lot => [.str "begin", .str nm, .list (lot.map .str)]
  | .go n => [.str "go_on", .int n]
  | .add w => [.str "add", .str w.1, .str w.2.1, .int w.2.2]
  | .lose a b => [.str "lose", .str a, .str b]
theorem deedD_parts (d : Deed) : deedD d = .tuple (partsD d) := by cases d <;> rfl
theorem part_kind {d : Deed} {e : PyData} (h : e ∈ partsD d) : (∃ i, e = .int i) ∨ (∃ x, e = .str x) ∨ ∃ l, e = .list l := by
  cases d <;> simp only [partsD, List.mem_cons, List.not_mem_nil, or_false] at h
  · rcases h with q | q | q
    · exact .inr (.inl ⟨_, q⟩)
    · exact .inr (.inl ⟨_, q⟩)
    · exact .inr (.inr ⟨_, q⟩)
  · rcases h with q | q
    · exact .inr (.inl ⟨_, q⟩)
    · exact .inl ⟨_, q⟩
  · rcases h with q | q | q | q
    · exact .inr (.inl ⟨_, q⟩)
    · exact .inr (.inl ⟨_, q⟩)
    · exact .inr (.inl ⟨_, q⟩)
    · exact .inl ⟨_, q⟩
  · rcases h with q | q | q
    · exact .inr (.inl ⟨_, q⟩)
    · exact .inr (.inl ⟨_, q⟩)
    · exact .inr (.inl ⟨_, q⟩)
theorem parts_len (d : Deed) : (partsD d).length ≤ 4 := by cases d <;> simp [partsD]
def histSc : Scope := { kind := .function, names := [(".0", .local), ("deed", .local), ("tuple", .globalImplicit)], isGenerator := false, isCoroutine := false }
inductive RHist (K : PySem.W.Frag) : Ctr
  | mk {M : OM} {a : NA3} {s : Snap} {past : List Snap} {ds : List Deed} (ok : NtOk K M a) (hd : ds.length ≤ 100) : RHist K (ntM K M a s past ds) [Rf a.x] (Dd K (.list (ds.map deedD))) (ntM K M a s past ds)
abbrev n_Night_history : List Str := ["self", "deed", "part"]
theorem sc_Night_history : FnScope n_Night_history ["self"] (defScope (inClass (top 63) 17)) := ⟨rfl, rfl, rfl, by decide +kernel, rfl, by decide +kernel, by decide +kernel⟩
theorem ok_Night_history (T : Tx K mg base) : Met P w K mg base 1 (He.ga K "Night") "history" (SpR (RHist K)) := by
  obtain ⟨fd, F⟩ := T.fd_Night_history
  have nd := sc_Night_history.nd
  let nm := n_Night_history
  let scp := defScope (inClass (top 63) 17)
  refine ⟨_, fd, ["self"], T.c_Night, T.m_Night_history, (fn_ok (k := 0) F sc_Night_history (sp_len fun _ _ _ _ h => by cases h <;> rfl) fun cdv A outer s H E hr => ?_), (F.bindsN fun _ _ _ _ _ _ us hl => match us, hl with | [_], _ => rfl)⟩
  have hu := hu_of hr
  refine ⟨_, (pss_one (ps_ret (pe_lc (own := [("deed", 1)]) (by rfl) nd (pi_listK (K := K) rfl (pe_fldK (K := K) rfl (pv 0) rfl)) (blkOk_by (own := [("deed", 1)]) (N := nm) (sc := scp) (by decide +kernel)) (fun _ _ _ _ _ => (pg_name (i := 1) nd rfl (by first | exact Or.inl rfl | exact Or.inr rfl))) (fun _ _ _ _ _ => pts_nil) (fun _ _ _ _ _ => (pe_callTy (call_tuple_ofK (K := K) rfl) (by rfl) T.f_tuple (by decide +kernel) (pa_cons (pe_lc (own := [("part", 2)]) (by rfl) nd (pi_tupK (K := K) rfl (pv 1)) (blkOk_by (own := [("part", 2)]) (N := nm) (sc := histSc) (by decide +kernel)) (fun _ _ _ _ _ => (pg_name (i := 2) nd rfl (by first | exact Or.inl rfl | exact Or.inr rfl))) (fun _ _ _ _ _ => pts_nil) (fun _ _ _ _ _ => (pe_ifExp (pt_val (pe_callB (call_isiK (K := K) rfl) (by rfl) T.f_isinstance (by decide +kernel) (pa_cons (pv 2) (pa_cons (pe_bltn (v := .ty "list") (u := .type "list") (by rfl) T.f_list (by decide +kernel) rfl) pa_nil)))) (pe_callTy (call_list_ofK (K := K) rfl) (by rfl) T.f_list (by decide +kernel) (pa_cons (pv 2) pa_nil)) (pv 2)))) pa_nil)))))), fun vs Q h => end_rtn h ?_⟩
  try dsimp only [cx_K]
  rintro _ _ _ _ ⟨ok, hd⟩
  rename_i M a s past ds
  refine rtn_ret (Evl.c (ls_imp (ds := ds.map deedD) (Evl.c (ev_lcO (K := K) ds (fun d => Dd K (deedD d)) (fun d => Dd K (deedD d)) (fun _ => true) (ev_fldO T.c_Night T.n_Night_deeds_done (ev_var rfl) (ntM_x ok) rfl) (ntM_q ok) (Nat.le_trans hd (by decide)) fun d _ D c hD => turn_all (evgw_name (by decide)) (ev_cb (M1 := (ntM K M a s past ds).set D (.lst c)) (ps := [Dd K (.list (partsD d))]) (eva_cons ?_ eva_nil) ?_)) ?_)) rfl)
  · have hi := evi_tup (K := K) (G := (wipeG (gam n_Night_history [Rf a.x]) [1]).set 1 (some (Dd K (deedD d)))) (M := (ntM K M a s past ds).set D (.lst c)) (M1 := (ntM K M a s past ds).set D (.lst c)) (tl := tVar 1) (ps := (partsD d).map (Dd K)) (Evl.st (ev_var (P := Dd K (deedD d)) rfl) fun v F q => by rw [deedD_parts] at q; exact tp_dd q)
    rw [List.length_map] at hi
    refine Evl.c (ev_lcD (K := K) (partsD d) (Dd K) (fun e => e) (fun _ => true) hi (Nat.le_trans (parts_len d) (by decide)) fun e he D2 c2 hD2 => turn_all (evgw_name (by decide)) ?_) ?_
    · rcases part_kind he with ⟨i, rfl⟩ | ⟨x, rfl⟩ | ⟨l, rfl⟩
      · exact ev_if (b := false) (M1 := _) (evt_isi (d := .int i) (ev_var rfl) kb_il) (fun q => by cases q) fun _ => ev_var rfl
      · exact ev_if (b := false) (M1 := _) (evt_isi (d := .str x) (ev_var rfl) kb_sl) (fun q => by cases q) fun _ => ev_var rfl
      · exact ev_if (b := true) (M1 := _) (evt_isi (d := .list l) (ev_var rfl) kb_ll) (fun _ => ev_cb (eva_cons (ev_var rfl) eva_nil) cbe_listLD) fun q => by cases q
    · rw [List.filter_eq_self.mpr (fun _ _ => rfl), List.map_id']
  · have := cbe_tupLD (K := K) (M := (ntM K M a s past ds).set D (.lst c)) (ds := partsD d)
    rwa [← deedD_parts] at this
  · rw [List.filter_eq_self.mpr (fun _ _ => rfl), List.map_map]; rfl
end
end Z
set_option maxRecDepth 100000
set_option maxHeartbeats 4000000
/-! F14: a Night: ways added and lost. Own work. -/
namespace Z
open PySem PySem.Spec L2
local macro_rules | `(tactic| walk_at "ev") => `(tactic| repeat' (first
  | with_reducible apply eva_nil
  | ((with_reducible apply ev_var); rfl)
  | with_reducible apply ev_int
  | with_reducible apply ev_str
  | with_reducible apply ev_bl
  | with_reducible apply ev_non
  | ((with_reducible show PySem.W.Frag); assumption)
  | with_reducible apply eva_cons
  | with_reducible apply ev_cb
  | with_reducible apply ev_op
  | with_reducible apply cbe_min2
  | with_reducible apply cbe_max2
  | with_reducible apply ope_I
  | with_reducible apply ope_B
  | with_reducible apply ope_isN
  | with_reducible apply ope_notN
  | with_reducible apply ope_eqi
  | with_reducible apply ope_nei
  | with_reducible apply ope_eqs
  | with_reducible apply ope_nes
  | with_reducible apply evt_test
  | with_reducible apply rtn_ret))
section
variable {P : Program} {w : World} {K : PySem.W.Frag} {mg : Str → Option Value} {base : Heap}
variable {G G1 G2 : Gm} {M M1 M2 : OM}
inductive RAdd (K : PySem.W.Frag) : CtrB
  | mk {M : OM} {a : NA3} {s : Snap} {past : List Snap} {ds : List Deed} {v : Way} (ok : NtOk K M a) (hl : past.length ≤ 100) (hd : ds.length ≤ 100) (hc : s.cries.length ≤ 100) (hk : ∀ c ∈ s.cries, OkCr c) (h : OkWeb s.web) (hv : OkWay s.web.folk v) (hn : ∀ u ∈ s.web.ways, ¬ (u.1 = v.1 ∧ u.2.1 = v.2.1)) :
    RAdd K (ntM K M a s past ds) [Rf a.x, Dd K (.str v.1), Dd K (.str v.2.1), Dd K (.int v.2.2)] (busy s) (ntM K M a { s with web := addWay s.web v } (past ++ [s]) (ds ++ [.add v]))
inductive RLose (K : PySem.W.Frag) : CtrB
  | mk {M : OM} {a : NA3} {s : Snap} {past : List Snap} {ds : List Deed} {v : Way} (ok : NtOk K M a) (hl : past.length ≤ 100) (hd : ds.length ≤ 100) (hc : s.cries.length ≤ 100) (hk : ∀ c ∈ s.cries, OkCr c) (h : OkWeb s.web) (hv : v ∈ s.web.ways) :
    RLose K (ntM K M a s past ds) [Rf a.x, Dd K (.str v.1), Dd K (.str v.2.1)] (busy s) (ntM K M a { s with web := cutWay s.web v } (past ++ [s]) (ds ++ [.lose v.1 v.2.1]))
abbrev busyV (K : PySem.W.Frag) : Value := .ref (He.ga K "Busy")
abbrev n_Night_add : List Str := ["self", "one", "other", "beats", "later"]
theorem sc_Night_add : FnScope n_Night_add ["self", "one", "other", "beats"] (defScope (inClass (top 63) 6)) := ⟨rfl, rfl, rfl, by decide +kernel, rfl, by decide +kernel, by decide +kernel⟩
theorem ok_Night_add (T : Tx K mg base) : MetB P w K mg base 12 (He.ga K "Night") "add" (SpB (busyV K) (RAdd K)) := by
  obtain ⟨fd, F⟩ := T.fd_Night_add
  have nd := sc_Night_add.nd
  have C_with_way : Cal P w K mg base 5 "with_way" (SpR (RWithWay K)) [] := ok_with_way T
  have C_Night_is_busy : Met P w K mg base 11 (He.ga K "Night") "is_busy" (SpR (RBusy K)) := ok_Night_is_busy T
  have C_Night_keep : Met P w K mg base 1 (He.ga K "Night") "keep" (SpR (RKeep K)) := ok_Night_keep T
  obtain ⟨xP, kP, bP, tP⟩ := He.exc_ok T.exc_Busy
  refine ⟨_, fd, ["self", "one", "other", "beats"], T.c_Night, T.m_Night_add, F.ok (k := 11) sc_Night_add (spb_len fun _ _ _ _ h => by cases h <;> rfl) fun cdv A outer s H vs Q E hr h => ?_, F.bindsN fun _ _ _ _ _ _ us hl => match us, hl with | [_, _, _, _], _ => rfl⟩
  refine ⟨_, pss_cons (ps_set (i := 4) nd rfl (by first | exact Or.inl rfl | exact Or.inr rfl) (PE.nox (pe_c C_with_way hr (by decide) (by rfl) (pa_cons (pe_fldK (K := K) rfl (pv 0) rfl) (pa_cons (pv 1) (pa_cons (pv 2) (pa_cons (pv 3) pa_nil)))))))
    (pss_cons (ps_if (PT.nox (pt_val (pe_mt0 C_Night_is_busy hr (by decide) (pv 0)))) (pss_one (ps_raise rfl (takes_of rfl rfl rfl rfl) (pmk_own PySem.F.excBase_ValueError xP T.g_Busy kP (raises_own bP tP) rfl))) pss_nil)
    (pss_cons (ps_expr (PE.nox (pe_mt C_Night_keep hr (by decide) (pv 0) (pa_cons (pe_tup (pa_cons pe_str (pa_cons (pv 1) (pa_cons (pv 2) (pa_cons (pv 3) pa_nil))))) pa_nil))))
    (pss_one (ps_fld (PE.nox (pv 0)) (PE.nox (pv 4)) rfl)))), ?_⟩
  try dsimp only [cx_K]
  obtain ⟨M, ps, b, M', r, w, q, ky, kn⟩ := h
  have at0 := at_start (N := n_Night_add) w q
  cases r
  rename_i M a s past ds v ok hl hd hc hk h hv hn
  have cl := T.c_Night
  let G0 := gam n_Night_add [Rf a.x, Dd K (.str v.1), Dd K (.str v.2.1), Dd K (.int v.2.2)]
  let G1 := G0.set 4 (some (Dd K (webD (addWay s.web v))))
  have e1 := nrm_set (i := 4) (G := G0) (M := ntM K M a s past ds) (ev_call (E := E0) (eva_cons (ev_fldO cl T.n_Night_own (ev_var (i := 0) rfl) (ntM_x ok) rfl) (eva_cons (ev_var (i := 1) rfl) (eva_cons (ev_var (i := 2) rfl) (eva_cons (ev_var (i := 3) rfl) eva_nil)))) (RWithWay.mk h hv hn))
  have e2 := evt_B (K := K) (ev_methO (E := E0) (C := NC K) (dx := a.dx) (fs := ntF K s a.p a.q) (m := "is_busy") (ev_var (G := G1) (i := 0) rfl) (ntM_x ok) rfl eva_nil (RBusy.mk (past := past) (ds := ds) ok hc hk))
  cases hb : busy s with
  | true =>
    rw [hb] at e2
    exact lts_seq e1 (lts_seqL (lts_if e2 (lts_one lts_raise))) _ _ _ at0 fun H' s' => ky hb H' s'
  | false =>
    rw [hb] at e2
    refine nrm_seq e1 (nrm_seq (nrm_if e2 (fun e => by cases e) fun _ => nrm_next) (nrm_seq (M1 := ntM K M a s (past ++ [s]) (ds ++ [.add v])) (nrm_drop (ev_methO (C := NC K) (dx := a.dx) (fs := ntF K s a.p a.q) (ev_var rfl) (ntM_x ok) rfl (eva_cons (ev_tupD (evad_cons ev_str (evad_cons (ev_var (i := 1) rfl) (evad_cons (ev_var (i := 2) rfl) (evad_cons (ev_var (i := 3) rfl) evad_nil))))) eva_nil) (RKeep.mk (d := .add v) ok hl hd))) (nrm_seq (Nrm.c (nrm_fld (P := Dd K (webD (addWay s.web v))) (C := NC K) (dx := a.dx) (p := a.x) (fs := ntF K s a.p a.q) cl T.n_Night_own (ev_var (i := 4) rfl) (ev_var (i := 0) rfl) (ntM_x ok) (show 5 < 1000 by decide)) rfl (ntM_setx (s' := { s with web := addWay s.web v }) ok)) nrm_next))) _ _ _ at0 fun σ' H' s' _ => kn hb H' s'
abbrev n_Night_lose : List Str := ["self", "one", "other", "later"]
theorem sc_Night_lose : FnScope n_Night_lose ["self", "one", "other"] (defScope (inClass (top 63) 7)) := ⟨rfl, rfl, rfl, by decide +kernel, rfl, by decide +kernel, by decide +kernel⟩
theorem ok_Night_lose (T : Tx K mg base) : MetB P w K mg base 12 (He.ga K "Night") "lose" (SpB (busyV K) (RLose K)) := by
  obtain ⟨fd, F⟩ := T.fd_Night_lose
  have nd := sc_Night_lose.nd
  have C_without_way : Cal P w K mg base 5 "without_way" (SpR (RWithoutWay K)) [] := ok_without_way T
  have C_Night_is_busy : Met P w K mg base 11 (He.ga K "Night") "is_busy" (SpR (RBusy K)) := ok_Night_is_busy T
  have C_Night_keep : Met P w K mg base 1 (He.ga K "Night") "keep" (SpR (RKeep K)) := ok_Night_keep T
  obtain ⟨xP, kP, bP, tP⟩ := He.exc_ok T.exc_Busy
  refine ⟨_, fd, ["self", "one", "other"], T.c_Night, T.m_Night_lose, F.ok (k := 11) sc_Night_lose (spb_len fun _ _ _ _ h => by cases h <;> rfl) fun cdv A outer s H vs Q E hr h => ?_, F.bindsN fun _ _ _ _ _ _ us hl => match us, hl with | [_, _, _], _ => rfl⟩
  refine ⟨_, pss_cons (ps_set (i := 3) nd rfl (by first | exact Or.inl rfl | exact Or.inr rfl) (PE.nox (pe_c C_without_way hr (by decide) (by rfl) (pa_cons (pe_fldK (K := K) rfl (pv 0) rfl) (pa_cons (pv 1) (pa_cons (pv 2) pa_nil))))))
    (pss_cons (ps_if (PT.nox (pt_val (pe_mt0 C_Night_is_busy hr (by decide) (pv 0)))) (pss_one (ps_raise rfl (takes_of rfl rfl rfl rfl) (pmk_own PySem.F.excBase_ValueError xP T.g_Busy kP (raises_own bP tP) rfl))) pss_nil)
    (pss_cons (ps_expr (PE.nox (pe_mt C_Night_keep hr (by decide) (pv 0) (pa_cons (pe_tup (pa_cons pe_str (pa_cons (pv 1) (pa_cons (pv 2) pa_nil)))) pa_nil))))
    (pss_one (ps_fld (PE.nox (pv 0)) (PE.nox (pv 3)) rfl)))), ?_⟩
  try dsimp only [cx_K]
  obtain ⟨M, ps, b, M', r, w, q, ky, kn⟩ := h
  have at0 := at_start (N := n_Night_lose) w q
  cases r
  rename_i M a s past ds v ok hl hd hc hk h hv
  have cl := T.c_Night
  let G0 := gam n_Night_lose [Rf a.x, Dd K (.str v.1), Dd K (.str v.2.1)]
  let G1 := G0.set 3 (some (Dd K (webD (cutWay s.web v))))
  have e1 := nrm_set (i := 3) (G := G0) (M := ntM K M a s past ds) (ev_call (E := E0) (eva_cons (ev_fldO cl T.n_Night_own (ev_var (i := 0) rfl) (ntM_x ok) rfl) (eva_cons (ev_var (i := 1) rfl) (eva_cons (ev_var (i := 2) rfl) eva_nil))) (RWithoutWay.mk h hv))
  have e2 := evt_B (K := K) (ev_methO (E := E0) (C := NC K) (dx := a.dx) (fs := ntF K s a.p a.q) (m := "is_busy") (ev_var (G := G1) (i := 0) rfl) (ntM_x ok) rfl eva_nil (RBusy.mk (past := past) (ds := ds) ok hc hk))
  cases hb : busy s with
  | true =>
    rw [hb] at e2
    exact lts_seq e1 (lts_seqL (lts_if e2 (lts_one lts_raise))) _ _ _ at0 fun H' s' => ky hb H' s'
  | false =>
    rw [hb] at e2
    refine nrm_seq e1 (nrm_seq (nrm_if e2 (fun e => by cases e) fun _ => nrm_next) (nrm_seq (M1 := ntM K M a s (past ++ [s]) (ds ++ [.lose v.1 v.2.1])) (nrm_drop (ev_methO (C := NC K) (dx := a.dx) (fs := ntF K s a.p a.q) (ev_var rfl) (ntM_x ok) rfl (eva_cons (ev_tupD (evad_cons ev_str (evad_cons (ev_var (i := 1) rfl) (evad_cons (ev_var (i := 2) rfl) evad_nil)))) eva_nil) (RKeep.mk (d := .lose v.1 v.2.1) ok hl hd))) (nrm_seq (Nrm.c (nrm_fld (P := Dd K (webD (cutWay s.web v))) (C := NC K) (dx := a.dx) (p := a.x) (fs := ntF K s a.p a.q) cl T.n_Night_own (ev_var (i := 3) rfl) (ev_var (i := 0) rfl) (ntM_x ok) (show 5 < 1000 by decide)) rfl (ntM_setx (s' := { s with web := cutWay s.web v }) ok)) nrm_next))) _ _ _ at0 fun σ' H' s' _ => kn hb H' s'
end
end Z
set_option maxRecDepth 100000
set_option maxHeartbeats 4000000
/-! F15: a Night: its ==. Own work. -/
namespace Z
open PySem PySem.Spec L2
local macro_rules | `(tactic| walk_at "ev") => `(tactic| repeat' (first
  | with_reducible apply eva_nil
  | ((with_reducible apply ev_var); rfl)
  | with_reducible apply ev_int
  | with_reducible apply ev_str
  | with_reducible apply ev_bl
  | with_reducible apply ev_non
  | ((with_reducible show PySem.W.Frag); assumption)
  | with_reducible apply eva_cons
  | with_reducible apply ev_cb
  | with_reducible apply ev_op
  | with_reducible apply cbe_min2
  | with_reducible apply cbe_max2
  | with_reducible apply ope_I
  | with_reducible apply ope_B
  | with_reducible apply ope_isN
  | with_reducible apply ope_notN
  | with_reducible apply ope_eqi
  | with_reducible apply ope_nei
  | with_reducible apply ope_eqs
  | with_reducible apply ope_nes
  | with_reducible apply evt_test
  | with_reducible apply rtn_ret))
section
theorem plain_map {α : Type} {f : α → PyData} (h : ∀ a, (f a).plain = true) : ∀ l : List α, PyData.plainAll (l.map f) = true
  | [] => rfl
  | x :: l => by show ((f x).plain && PyData.plainAll (l.map f)) = true; rw [plain_map h l, h x]; rfl
theorem depth_map {α : Type} {f : α → PyData} {n : Nat} (h : ∀ a, (f a).depth ≤ n) : ∀ l : List α, PyData.depthAll (l.map f) ≤ n
  | [] => Nat.zero_le _
  | x :: l => by show max (f x).depth (PyData.depthAll (l.map f)) ≤ n; exact Nat.max_le.mpr ⟨h x, depth_map h l⟩
theorem depth_strs (l : List Str) : PyData.depthAll (l.map .str) ≤ 0 := depth_map (fun _ => Nat.le_refl 0) l
theorem depth_way (v : Way) : (wayD v).depth ≤ 1 := by simp [wayD, PyData.depth, PyData.depthAll]
theorem plain_web (W : Web) : (webD W).plain = true := by
  show (PyData.plainAll (W.folk.map .str) && (PyData.plainAll (W.ways.map wayD) && true)) = true
  rw [plain_strs, plain_map (fun _ => rfl)]; rfl
theorem depth_web (W : Web) : (webD W).depth ≤ 3 := by
  show max (PyData.depthAll (W.folk.map .str) + 1) (max (PyData.depthAll (W.ways.map wayD) + 1) 0) + 1 ≤ 3
  have h1 := depth_strs W.folk
  have h2 := depth_map (f := wayD) (n := 1) depth_way W.ways
  omega
theorem plain_cr (c : Cr) : (plainD c).plain = true := by
  show (true && (true && (PyData.plainAll (c.lot.map .str) && ((webD c.web).plain && true)))) = true
  rw [plain_strs, plain_web]; rfl
theorem depth_cr (c : Cr) : (plainD c).depth ≤ 4 := by
  show max 0 (max 0 (max (PyData.depthAll (c.lot.map .str) + 1) (max (webD c.web).depth 0))) + 1 ≤ 4
  have h1 := depth_strs c.lot
  have h2 := depth_web c.web
  omega
theorem eqvAll_len : ∀ {xs ys : List PyData}, PyData.eqvAll xs ys = true → xs.length = ys.length
  | [], [], _ => rfl
  | [], _ :: _, h => by simp [PyData.eqvAll] at h
  | _ :: _, [], h => by simp [PyData.eqvAll] at h
  | x :: xs, y :: ys, h => by
    simp only [PyData.eqvAll, Bool.and_eq_true] at h
    exact congrArg (· + 1) (eqvAll_len h.2)
def crsEq (a b : List Cr) : Bool := PyData.eqv (.list (a.map plainD)) (.list (b.map plainD))
theorem crsEq_refl (a : List Cr) : crsEq a a = true := PySem.SeqAt.eqv_refl_plain _ (plain_map plain_cr a)
theorem crsEq_len {a b : List Cr} (h : a.length ≠ b.length) : crsEq a b = false := by
  cases e : crsEq a b with
  | false => rfl
  | true =>
    have e : PyData.eqvAll (a.map plainD) (b.map plainD) = true := e
    exact absurd (by simpa using eqvAll_len e) h
end
section
variable {P : Program} {w : World} {K : PySem.W.Frag} {mg : Str → Option Value} {base : Heap}
variable {G G1 G2 : Gm} {M M1 M2 : OM}
theorem cbe_isiN (T : Tx K mg base) {y dy : Addr} {fs : List (Str × Pr)} (hy : M y = some (.ins (NC K) dy fs)) : CbE M (rIsi K) [Rf y, Rf (NC K)] (Dd K (.bool true)) M := fun vs H Q w q k => by
  cases q with
  | cons q1 q2 =>
    cases q2 with
    | cons q2 q3 =>
      cases q3
      cases q1.here
      cases q2.here
      obtain ⟨o, e1, vs1, rfl, f1⟩ := w.cell y _ hy
      have F := T.own T.c_Night
      refine ⟨.ref y, .ref (NC K), .ref (NC K), .ref (NC K), true, rfl, .own _, .base (.ins e1 T.c_Night F.cls (by first | rfl | kernel_rfl) (by first | rfl | kernel_rfl) F.mro), ?_, k _ H (.refl w) (dd (.bl _))⟩
      unfold PySem.W.kitOne; simp
inductive RNEq (K : PySem.W.Frag) : Ctr
  | mk {M : OM} {x y dx dy p q p' q' : Addr} {s s' : Snap} (hx : M x = some (.ins (NC K) dx (ntF K s p q))) (hy : M y = some (.ins (NC K) dy (ntF K s' p' q'))) (hat : s.at_ = s'.at_) (hw : s.web = s'.web) (hl : s.cries.length ≤ 100) (hl' : s'.cries.length ≤ 100)
    (hc : ∀ c ∈ s.cries, OkCr c) (hc' : ∀ c ∈ s'.cries, OkCr c) : RNEq K M [Rf x, Rf y] (Dd K (.bool (crsEq s.cries s'.cries))) M
abbrev n_Night_eq : List Str := ["self", "other", "one"]
theorem sc_Night_eq : FnScope n_Night_eq ["self", "other"] (defScope (inClass (top 63) 19)) := ⟨rfl, rfl, rfl, by decide +kernel, rfl, by decide +kernel, by decide +kernel⟩
theorem ok_Night_eq (T : Tx K mg base) : Met P w K mg base 2 (He.ga K "Night") "__eq__" (SpR (RNEq K)) := by
  obtain ⟨fd, F⟩ := T.fd_Night_eq
  have nd := sc_Night_eq.nd
  let nm := n_Night_eq
  let scp := defScope (inClass (top 63) 19)
  have C_Begun_plain : Met P w K mg base 1 (He.ga K "Begun") "plain" (SpR (RPlain K)) := ok_Begun_plain T
  refine ⟨_, fd, ["self", "other"], T.c_Night, T.m_Night_eq, (fn_ok (k := 1) F sc_Night_eq (sp_len fun _ _ _ _ h => by cases h <;> rfl) fun cdv A outer s H E hr => ?_), (F.bindsN fun _ _ _ _ _ _ us hl => match us, hl with | [_, _], _ => rfl)⟩
  have hu := hu_of hr
  refine ⟨_, (pss_cons (ps_if (PW.pt (pw_or (pt_not (pt_val (pe_callB (call_isiK (K := K) rfl) (by rfl) T.f_isinstance (by decide +kernel) (pa_cons (pv 1) (pa_cons (pe_glob (v := .ref (He.ga K "Night")) rfl T.g_Night rfl) pa_nil))))) (pw_or (pt_cmpR (op_neK (K := K) rfl hr.units) (pe_fldK (K := K) rfl (pv 0) rfl) (pe_fldK (K := K) rfl (pv 1) rfl) (nomark _)) (pw_or1 (pt_cmpR (op_neK (K := K) rfl hr.units) (pe_fldK (K := K) rfl (pv 0) rfl) (pe_fldK (K := K) rfl (pv 1) rfl) (nomark _)))))) (pss_one (ps_ret pe_bl)) pss_nil)
    (pss_one (ps_ret (pe_cmpR (op_eqK (K := K) rfl hr.units) (pe_lc (own := [("one", 2)]) (by rfl) nd (pi_listK (K := K) rfl (pe_fldK (K := K) rfl (pv 0) rfl)) (blkOk_by (own := [("one", 2)]) (N := nm) (sc := scp) (by decide +kernel)) (fun _ _ _ _ _ => (pg_name (i := 2) nd rfl (by first | exact Or.inl rfl | exact Or.inr rfl))) (fun _ _ _ _ _ => pts_nil) (fun _ _ _ _ _ => (pe_mt0 C_Begun_plain hr (by decide) (pv 2)))) (pe_lc (own := [("one", 2)]) (by rfl) nd (pi_listK (K := K) rfl (pe_fldK (K := K) rfl (pv 1) rfl)) (blkOk_by (own := [("one", 2)]) (N := nm) (sc := scp) (by decide +kernel)) (fun _ _ _ _ _ => (pg_name (i := 2) nd rfl (by first | exact Or.inl rfl | exact Or.inr rfl))) (fun _ _ _ _ _ => pts_nil) (fun _ _ _ _ _ => (pe_mt0 C_Begun_plain hr (by decide) (pv 2)))) (nomark _))))), fun vs Q h => end_rtn h ?_⟩
  try dsimp only [cx_K]
  rintro _ _ _ _ ⟨hx, hy, hat, hw, hl, hl', hc, hc'⟩
  rename_i M x y dx dy p q p' q' s s'
  have cl := T.c_Night
  refine rtn_seq (nrm_if (b := false) (M1 := M) (EvT.c (evt_or' (evt_not (evt_B (K := K) (b := true) (ev_cb (ps := [Rf y, Rf (NC K)]) (eva_cons (ev_var rfl) (eva_cons (ev_c (P := Rf (NC K)) fun _ => rfl) eva_nil)) (cbe_isiN T hy)))) (evt_or' (b := false) (c := false) (EvT.c (evt_test (K := K) (ev_op (ev_fldO cl T.n_Night_at (ev_var rfl) hx rfl) (ev_fldO cl T.n_Night_at (ev_var rfl) hy rfl) ope_nei)) ?_) (EvT.c (evt_test (K := K) (ev_op (ev_fldO cl T.n_Night_own (ev_var rfl) hx rfl) (ev_fldO cl T.n_Night_own (ev_var rfl) hy rfl) (ope_neP (plain_web _) (plain_web _) ?_))) ?_))) rfl) (fun e => by cases e) fun _ => nrm_next) ?_
  · simp [hat]
  · have := depth_web s.web; omega
  · rw [hw, PySem.SeqAt.eqv_refl_plain _ (plain_web _)]; rfl
  · refine rtn_ret (ev_op (M1 := M) (M2 := M) (P1 := Dd K (.list (s.cries.map plainD))) (P2 := Dd K (.list (s'.cries.map plainD))) (Evl.c (ev_lcD (K := K) s.cries (BgP K) plainD (fun _ => true) (evi_crs (ev_fldO cl T.n_Night_begun_cries (ev_var rfl) hx rfl)) (Nat.le_trans hl (by decide)) fun c h D cc hD => turn_all (evgw_name (by decide)) (ev_meth (C := He.ga K "Begun") (fs := bgF K c) (ev_var rfl) rfl eva_nil (RPlain.mk (hc c h)))) ?_) (Evl.c (ev_lcD (K := K) s'.cries (BgP K) plainD (fun _ => true) (evi_crs (ev_fldO cl T.n_Night_begun_cries (ev_var rfl) hy rfl)) (Nat.le_trans hl' (by decide)) fun c h D cc hD => turn_all (evgw_name (by decide)) (ev_meth (C := He.ga K "Begun") (fs := bgF K c) (ev_var rfl) rfl eva_nil (RPlain.mk (hc' c h)))) ?_) (ope_eqP (plain_map plain_cr _) (plain_map plain_cr _) ?_))
    · rw [List.filter_eq_self.mpr (fun _ _ => rfl)]
    · rw [List.filter_eq_self.mpr (fun _ _ => rfl)]
    · have := depth_map (f := plainD) (n := 4) depth_cr s.cries
      show min (PyData.depthAll (s.cries.map plainD) + 1) _ ≤ 60
      omega
end
end Z
set_option maxRecDepth 100000
set_option maxHeartbeats 4000000
/-! R1: webs with a way more and less; runs of deeds. Own work. -/
namespace Z
open PySem PySem.Spec L2
open PySem.W (dataLt keyToks keyToksAll str_of_cps)
open PyProof.Rows (lexLt lex_self lex_diff lex_total)
theorem toks_way (w : Way) : keyToks (wayD w) = [.inl 1, .inr w.1.cps.toList, .inl 1, .inr w.2.1.cps.toList, .inl 1, .inl w.2.2, .inl 0] := by
  simp [wayD, keyToks, keyToksAll]
theorem toks_pr (a b : Str) : keyToks (prS a b) = [.inl 1, .inr a.cps.toList, .inl 1, .inr b.cps.toList, .inl 0] := by
  simp [keyToks, keyToksAll]
abbrev SameP (v w : Way) : Prop := v.1 = w.1 ∧ v.2.1 = w.2.1
theorem inr_ne {a b : Str} (h : a ≠ b) : (Sum.inr a.cps.toList : Int ⊕ List Nat) ≠ Sum.inr b.cps.toList := fun e => h (str_of_cps (Sum.inr.inj e))
theorem way_lt {v w : Way} (h : ¬ SameP v w) : dataLt (wayD v) (wayD w) = pairLt v w := by
  unfold pairLt dataLt
  rw [toks_way, toks_way, toks_pr, toks_pr, lex_self, lex_self]
  by_cases e : v.1 = w.1
  · have e2 : v.2.1 ≠ w.2.1 := fun q => h ⟨e, q⟩
    rw [e, lex_self, lex_self, lex_self, lex_self, lex_diff (inr_ne e2), lex_diff (inr_ne e2)]
  · rw [lex_diff (inr_ne e), lex_diff (inr_ne e)]
theorem pair_irr {v w : Way} (h : pairLt v w = true) : ¬ SameP v w := fun e => by
  unfold pairLt at h
  rw [e.1, e.2, dlt_irr] at h; cases h
theorem pair_tot {v w : Way} (h : ¬ SameP v w) (h2 : pairLt w v = false) : pairLt v w = true := by
  cases e : pairLt v w with
  | true => rfl
  | false =>
    exfalso
    unfold pairLt dataLt at e h2
    have q := lex_total _ _ e h2
    rw [toks_pr, toks_pr] at q
    simp only [List.cons.injEq, Sum.inr.injEq, and_true, true_and] at q
    exact h ⟨str_of_cps q.1, str_of_cps q.2⟩
theorem way_anti {v w : Way} (h1 : leD wayD v w = true) (h2 : leD wayD w v = true) : v = w := by
  rw [leD_def, Bool.not_eq_true'] at h1 h2
  have q := lex_total _ _ h2 h1
  rw [toks_way, toks_way] at q
  simp only [List.cons.injEq, Sum.inr.injEq, Sum.inl.injEq, and_true, true_and] at q
  obtain ⟨a, b, c⟩ := v
  obtain ⟨a', b', c'⟩ := w
  simp only at q
  rw [str_of_cps q.1, str_of_cps q.2.1, q.2.2]
theorem wr_le {l : List Way} (h : l.Pairwise fun v w => pairLt v w = true) : l.Pairwise fun v w => leD wayD v w = true :=
  h.imp fun {v w} q => leD_of_lt (by rw [way_lt (pair_irr q)]; exact q)
theorem le_wr {l : List Way} (h : l.Pairwise fun v w => leD wayD v w = true) (d : l.Pairwise fun v w => ¬ SameP v w) : l.Pairwise fun v w => pairLt v w = true :=
  (h.and d).imp fun {v w} q => by
    have q1 := q.1
    rw [leD_def, Bool.not_eq_true', way_lt (fun e => q.2 ⟨e.1.symm, e.2.symm⟩)] at q1
    exact pair_tot q.2 q1
theorem many_pairs {folk : List Str} {l : List Way} (h8 : folk.length ≤ 8) (h : ∀ w ∈ l, w.1 ∈ folk ∧ w.2.1 ∈ folk) (d : l.Pairwise fun v w => ¬ SameP v w) : l.length ≤ 64 := by
  have nd : (l.map fun w : Way => (w.1, w.2.1)).Nodup := by
    unfold List.Nodup
    rw [List.pairwise_map]
    exact d.imp fun {v w} q e => q ⟨(Prod.mk.inj e).1, (Prod.mk.inj e).2⟩
  have sub : (l.map fun w : Way => (w.1, w.2.1)) ⊆ folk.flatMap fun a => folk.map fun b => (a, b) := fun x hx => by
    obtain ⟨w, hw, rfl⟩ := List.mem_map.mp hx
    exact List.mem_flatMap.mpr ⟨w.1, (h w hw).1, List.mem_map.mpr ⟨w.2.1, (h w hw).2, rfl⟩⟩
  have h1 := List.Nodup.length_le_of_subset nd sub
  have h2 := flat_len (l := folk) (f := fun a => folk.map fun b => (a, b)) (n := folk.length) fun a _ => by rw [List.length_map]; exact Nat.le_refl _
  rw [List.length_map] at h1
  have h3 : folk.length * folk.length ≤ 8 * 8 := Nat.mul_le_mul h8 h8
  omega
theorem OkWeb.add {W : Web} {v : Way} (h : OkWeb W) (hv : OkWay W.folk v) (hn : ∀ u ∈ W.ways, ¬ (u.1 = v.1 ∧ u.2.1 = v.2.1)) : OkWeb (addWay W v) := by
  have pm : (sortD wayD (W.ways ++ [v])).Perm (W.ways ++ [v]) := sortD_perm _
  have d0 : (W.ways ++ [v]).Pairwise fun v w => ¬ SameP v w := by
    rw [List.pairwise_append]
    refine ⟨h.wr.imp fun q => pair_irr q, List.pairwise_singleton _ _, fun a ha b hb => ?_⟩
    rw [List.mem_singleton.mp hb]
    exact hn a ha
  have d : (sortD wayD (W.ways ++ [v])).Pairwise fun v w => ¬ SameP v w := (pm.pairwise_iff (R := fun v w => ¬ SameP v w) (fun {a b} q e => q ⟨e.1.symm, e.2.symm⟩)).mpr d0
  have ok : ∀ w ∈ sortD wayD (W.ways ++ [v]), OkWay W.folk w := fun w hw => by
    rcases List.mem_append.mp (pm.mem_iff.mp hw) with q | q
    · exact h.ways w q
    · rw [List.mem_singleton.mp q]; exact hv
  exact ⟨h.names, h.f0, h.f8, h.rise, ok, le_wr (sortD_le _) d, many_pairs h.f8 (fun w hw => ⟨(ok w hw).one, (ok w hw).two⟩) d⟩
theorem OkWeb.cut {W : Web} {v : Way} (h : OkWeb W) : OkWeb (cutWay W v) :=
  ⟨h.names, h.f0, h.f8, h.rise, fun w hw => h.ways w (List.mem_filter.mp hw).1, h.wr.filter _, Nat.le_trans (List.length_filter_le _ _) h.many⟩
theorem cut_add {W : Web} {v : Way} (h : OkWeb W) (hn : ∀ u ∈ W.ways, ¬ (u.1 = v.1 ∧ u.2.1 = v.2.1)) : cutWay (addWay W v) v = W := by
  have e0 : (W.ways ++ [v]).filter (fun u => !decide (u = v)) = W.ways := by
    rw [List.filter_append, List.filter_cons_of_neg (by simp), List.filter_nil, List.append_nil]
    exact List.filter_eq_self.mpr fun u hu => by
      have : u ≠ v := fun e => hn u hu ⟨by rw [e], by rw [e]⟩
      simp [this]
  have e : (sortD wayD (W.ways ++ [v])).filter (fun u => !decide (u = v)) = W.ways := by
    refine List.Perm.eq_of_pairwise (le := fun v w => leD wayD v w = true) (fun a b _ _ h1 h2 => way_anti h1 h2) ((sortD_le _).filter _) (wr_le h.wr) ?_
    have := (sortD_perm (enc := wayD) (W.ways ++ [v])).filter (fun u => !decide (u = v))
    rwa [e0] at this
  unfold cutWay addWay
  rw [e]
/-! ### runs -/
def nmK (k : Nat) : Str := ⟨#[97 + k % 8, 120 + k / 8]⟩
inductive StepD : Snap → Deed → Snap → Prop
  | begin {s : Snap} {nm : Str} {lot : List Str} (ho : OkLot s.web.folk lot) (hn : okName nm) (hf : ∀ c ∈ s.cries, c.nm ≠ nm) : StepD s (.begin nm lot) { s with cries := s.cries ++ [⟨nm, s.at_, s.web, lot⟩] }
  | go {s : Snap} {n : Int} (h0 : 0 ≤ n) (h1 : n ≤ 1000000000000000000000000000000) : StepD s (.go n) { s with at_ := s.at_ + n }
  | add {s : Snap} {v : Way} (hv : OkWay s.web.folk v) (hn : ∀ u ∈ s.web.ways, ¬ (u.1 = v.1 ∧ u.2.1 = v.2.1)) (hb : busy s = false) : StepD s (.add v) { s with web := addWay s.web v }
  | lose {s : Snap} {v : Way} (hv : v ∈ s.web.ways) (hb : busy s = false) : StepD s (.lose v.1 v.2.1) { s with web := cutWay s.web v }
def websOf (s : Snap) : Deed → List Web
  | .lose _ _ => [s.web]
  | _ => []
inductive Run (s0 : Snap) : Nat → Snap → List Snap → List Deed → List Web → Prop
  | nil {k : Nat} : Run s0 k s0 [] [] []
  | snoc {j k : Nat} {s s' : Snap} {past : List Snap} {ds : List Deed} {webs : List Web} {d : Deed} (r : Run s0 j s past ds webs) (t : StepD s d s') (hd : ∀ nm lot, d = .begin nm lot → nm = nmK j) (hk : j < k) : Run s0 k s' (past ++ [s]) (ds ++ [d]) (webs ++ websOf s d)
structure Fine (s : Snap) : Prop where
  web : OkWeb s.web
  cries : ∀ c ∈ s.cries, OkCr c ∧ c.web.folk = s.web.folk ∧ c.since ≤ s.at_
  nd : (s.cries.map (·.nm)).Nodup
  at0 : 0 ≤ s.at_
theorem StepD.fine {s s' : Snap} {d : Deed} (t : StepD s d s') (f : Fine s) : Fine s' := by
  cases t with
  | @begin nm lot ho hn hf =>
    refine ⟨f.web, fun c hc => ?_, ?_, f.at0⟩
    · rcases List.mem_append.mp hc with q | q
      · exact f.cries c q
      · rw [List.mem_singleton.mp q]
        exact ⟨⟨f.web, ho⟩, rfl, Int.le_refl _⟩
    · show ((s.cries ++ [_]).map _).Nodup
      rw [List.map_append]
      unfold List.Nodup
      rw [List.pairwise_append]
      refine ⟨f.nd, List.pairwise_singleton _ _, fun a ha b hb e => ?_⟩
      obtain ⟨c, hc, rfl⟩ := List.mem_map.mp ha
      have hb : b = nm := List.mem_singleton.mp hb
      exact hf c hc (e.trans hb)
  | @go n h0 h1 =>
    refine ⟨f.web, fun c hc => ⟨(f.cries c hc).1, (f.cries c hc).2.1, ?_⟩, f.nd, ?_⟩
    · have := (f.cries c hc).2.2; show c.since ≤ s.at_ + n; omega
    · have := f.at0; show 0 ≤ s.at_ + n; omega
  | @add v hv hn hb => exact ⟨f.web.add hv hn, f.cries, f.nd, f.at0⟩
  | @lose v hv hb => exact ⟨f.web.cut, f.cries, f.nd, f.at0⟩
section
variable {s0 s s' : Snap} {k k' : Nat} {past : List Snap} {ds : List Deed} {webs : List Web}
theorem Run.mono (r : Run s0 k s past ds webs) (h : k ≤ k') : Run s0 k' s past ds webs := by
  cases r with
  | nil => exact .nil
  | snoc r t hd hk => exact .snoc r t hd (Nat.lt_of_lt_of_le hk h)
theorem Run.fine (r : Run s0 k s past ds webs) (f0 : Fine s0) : Fine s := by
  induction r with
  | nil => exact f0
  | snoc r t hd hk ih => exact t.fine ih
theorem Run.fines (r : Run s0 k s past ds webs) (f0 : Fine s0) : ∀ p ∈ past, Fine p := by
  induction r with
  | nil => intro p hp; cases hp
  | snoc r t hd hk ih => intro p hp; rcases List.mem_append.mp hp with q | q; exact ih p q; rw [List.mem_singleton.mp q]; exact r.fine f0
theorem Run.folk (r : Run s0 k s past ds webs) : s.web.folk = s0.web.folk := by
  induction r with
  | nil => rfl
  | snoc r t hd hk ih => rw [← ih]; cases t <;> rfl
theorem Run.len (r : Run s0 k s past ds webs) : past.length ≤ k ∧ ds.length = past.length ∧ s.cries.length ≤ s0.cries.length + past.length ∧ webs.length ≤ past.length := by
  induction r with
  | nil => exact ⟨Nat.zero_le _, rfl, Nat.le_refl _, Nat.le_refl _⟩
  | @snoc j k s s' past ds webs d r t hd hk ih =>
    simp only [List.length_append, List.length_cons, List.length_nil]
    refine ⟨by omega, by omega, ?_, ?_⟩
    · cases t <;> simp <;> omega
    · cases d <;> simp [websOf] <;> omega
theorem Run.names (r : Run s0 k s past ds webs) (h0 : s0.cries = []) : ∀ c ∈ s.cries, ∃ j, j < k ∧ c.nm = nmK j := by
  induction r with
  | nil => intro c hc; rw [h0] at hc; cases hc
  | @snoc j k s s' past ds webs d r t hd hk ih =>
    have old : ∀ c ∈ s.cries, ∃ j, j < k ∧ c.nm = nmK j := fun c hc => by
      obtain ⟨i, h1, h2⟩ := ih c hc
      exact ⟨i, by omega, h2⟩
    cases t with
    | begin ho hn hf =>
      intro c hc
      rcases List.mem_append.mp hc with q | q
      · exact old c q
      · rw [List.mem_singleton.mp q]
        exact ⟨j, hk, hd _ _ rfl⟩
    | go h0 h1 => exact old
    | add hv hn hb => exact old
    | lose hv hb => exact old
theorem Run.back (r : Run s0 k s' past ds webs) (h : ds ≠ []) : ∃ s p e d W, past = p ++ [s] ∧ ds = e ++ [d] ∧ webs = W ++ websOf s d ∧ StepD s d s' ∧ Run s0 k s p e W := by
  cases r with
  | nil => exact absurd rfl h
  | snoc r t hd hk => exact ⟨_, _, _, _, _, rfl, rfl, rfl, t, r.mono (Nat.le_of_lt hk)⟩
end
theorem nmK_inj : ∀ i j : Fin 24, nmK i = nmK j → i = j := by decide +kernel
theorem nmK_ok : ∀ i : Fin 24, okName (nmK i) := fun i => by
  have h : ∀ i : Fin 24, ∀ c ∈ (nmK i).cps.toList, c ∈ letters.cps.toList := by decide +kernel
  have h1 : ∀ i : Fin 24, 1 ≤ (nmK i).length ∧ (nmK i).length ≤ 8 := by decide +kernel
  exact ⟨(h1 i).1, (h1 i).2, h i⟩
end Z
set_option maxRecDepth 100000
set_option maxHeartbeats 4000000
/-! L1: the law's reel and draws. Own work. -/
namespace Z
open PySem PySem.Spec L2
local macro_rules | `(tactic| walk_at "ev") => `(tactic| repeat' (first
  | with_reducible apply eva_nil
  | ((with_reducible apply ev_var); rfl)
  | with_reducible apply ev_int
  | with_reducible apply ev_str
  | with_reducible apply ev_bl
  | with_reducible apply ev_non
  | ((with_reducible show PySem.W.Frag); assumption)
  | with_reducible apply eva_cons
  | with_reducible apply ev_cb
  | with_reducible apply ev_op
  | with_reducible apply cbe_min2
  | with_reducible apply cbe_max2
  | with_reducible apply ope_I
  | with_reducible apply ope_B
  | with_reducible apply ope_isN
  | with_reducible apply ope_notN
  | with_reducible apply ope_eqi
  | with_reducible apply ope_nei
  | with_reducible apply ope_eqs
  | with_reducible apply ope_nes
  | with_reducible apply evt_test
  | with_reducible apply rtn_ret))
section
variable {P : Program} {w : World} {K : PySem.W.Frag} {mg : Str → Option Value} {base : Heap}
variable {G G1 G2 : Gm} {M M1 M2 M3 : OM}
theorem RtnX.imp {t : TS} {Φ Ψ : PsE} (h : RtnX G M t Φ) (f : ∀ P M, Φ P M → Ψ P M) : RtnX G M t Ψ := fun σ H Q a k => h σ H Q a fun P M' v H' e s q => k P M' v H' (f _ _ e) s q
abbrev reelC (K : PySem.W.Frag) (a b : Int) : OC := .lst [Dd K (.int a), Dd K (.int b)]
def GoodB (b : Int) : Prop := 0 ≤ b ∧ b < 2147483647
/-- m is M with the reel turned -/
def Drawn (K : PySem.W.Frag) (r : Addr) (M m : OM) : Prop := ∃ a b, GoodB b ∧ m = M.set r (reelC K a b)
def IsReel (K : PySem.W.Frag) (r : Addr) (M : OM) : Prop := ∃ a b, GoodB b ∧ M r = some (reelC K a b)
theorem Drawn.reel {r : Addr} (h : Drawn K r M M1) : IsReel K r M1 := by
  obtain ⟨a, b, g, rfl⟩ := h
  exact ⟨a, b, g, OM.set_same⟩
theorem Drawn.trans {r : Addr} (h : Drawn K r M M1) (h2 : Drawn K r M1 M2) : Drawn K r M M2 := by
  obtain ⟨a, b, g, rfl⟩ := h
  obtain ⟨c, d, g2, rfl⟩ := h2
  exact ⟨c, d, g2, OM.set_set⟩
theorem Drawn.refl {r : Addr} (h : IsReel K r M) : Drawn K r M M := by
  obtain ⟨a, b, g, e⟩ := h
  refine ⟨a, b, g, ?_⟩
  funext x
  unfold OM.set
  by_cases z : x = r
  · subst z; simp [e]
  · simp [z]
inductive RReel (K : PySem.W.Frag) : CtrX
  | mk {M : OM} {cell : Int} {k : Nat} (hk : k < 8) : RReel K M [Dd K (.int cell), Dd K (.int k)] (fun P m => ∃ r a b, M r = none ∧ GoodB b ∧ P = Rf r ∧ m = M.set r (reelC K a b))
abbrev n_law_reel : List Str := ["_law_cell_here", "_law_k"]
theorem sc_law_reel : FnScope n_law_reel ["_law_cell_here", "_law_k"] (defScope (top 65)) := ⟨rfl, rfl, rfl, by decide +kernel, rfl, by decide +kernel, by decide +kernel⟩
theorem ok_law_reel (T : Tx K mg base) : Cal P w K mg base 1 "_law_reel" (SpX (RReel K)) [] := by
  obtain ⟨fd, F⟩ := T.fd_law_reel
  have nd := sc_law_reel.nd
  let nm := n_law_reel
  let scp := defScope (top 65)
  refine cal_mk T.g__law_reel F (F.bindsN fun _ _ _ _ _ _ us hl => match us, hl with | [_, _], _ => rfl) (fn_ok (k := 0) F sc_law_reel (spx_len fun _ _ _ h => by cases h <;> rfl) fun cdv A outer s H E hr => ?_)
  have hu := hu_of hr
  refine ⟨_, (pss_one (ps_ret (pe_lst (pa_cons (pe_callB call_abs (by rfl) T.f_abs (by decide +kernel) (pa_cons (pv 0) pa_nil)) (pa_cons (pe_op op_mod (pe_op op_mul (pe_op op_add (pe_op op_mod (pe_callB call_abs (by rfl) T.f_abs (by decide +kernel) (pa_cons (pv 0) pa_nil)) pe_int) pe_int) (pe_op op_add (pe_op op_mul pe_int (pv 1)) pe_int)) pe_int) pa_nil))))), fun vs Q h => endx_rtn h ?_⟩
  try dsimp only [cx_K]
  rintro _ _ _ ⟨hk⟩
  rename_i M cell k
  have h1 : (0:Int) ≤ ((cell.natAbs : Int) % 2147483629 + 1) := by omega
  refine rtnx_ret (EvlX.imp (evx_lst (eva_cons (ev_cb (eva_cons (ev_var rfl) eva_nil) cbe_abs) (eva_cons (ev_op (ev_op (ev_op (ev_op (ev_cb (eva_cons (ev_var rfl) eva_nil) cbe_abs) ev_int (ope_IC (show (0:Int) < 2147483629 by decide))) ev_int ope_I) (ev_op (ev_op ev_int (ev_var rfl) (ope_IC (.inl ⟨by decide, by decide⟩))) ev_int ope_I) (ope_IC (.inl ⟨by omega, by omega⟩))) ev_int (ope_IC (show (0:Int) < 2147483647 by decide))) eva_nil)) (show 2 ≤ sizeLine by decide)) ?_)
  rintro _ _ ⟨p, hp, rfl, rfl⟩
  exact ⟨p, _, _, hp, ⟨Int.emod_nonneg _ (by decide), Int.emod_lt_of_pos _ (by decide)⟩, rfl, rfl⟩
inductive RDraw (K : PySem.W.Frag) : CtrX
  | mk {M : OM} {r : Addr} {many : Int} (hr : IsReel K r M) (h0 : 0 < many) (h1 : many ≤ 100000000000000) : RDraw K M [Rf r, Dd K (.int many)] (fun P m => ∃ n, 0 ≤ n ∧ n < many ∧ P = Dd K (.int n) ∧ Drawn K r M m)
abbrev n_law_draw : List Str := ["_law_reel_here", "_law_many", "_law_found", "_law_stirred"]
theorem sc_law_draw : FnScope n_law_draw ["_law_reel_here", "_law_many"] (defScope (top 66)) := ⟨rfl, rfl, rfl, by decide +kernel, rfl, by decide +kernel, by decide +kernel⟩
theorem ok_law_draw (T : Tx K mg base) : Cal P w K mg base 1 "_law_draw" (SpX (RDraw K)) [] := by
  obtain ⟨fd, F⟩ := T.fd_law_draw
  have nd := sc_law_draw.nd
  let nm := n_law_draw
  let scp := defScope (top 66)
  refine cal_mk T.g__law_draw F (F.bindsN fun _ _ _ _ _ _ us hl => match us, hl with | [_, _], _ => rfl) (fn_ok (k := 0) F sc_law_draw (spx_len fun _ _ _ h => by cases h <;> rfl) fun cdv A outer s H E hr => ?_)
  have hu := hu_of hr
  refine ⟨_, (pss_cons (ps_if (pt_cmpR op_ge (pe_ix (ix_K (K := K) rfl) (pv 0) pe_int (fun _ _ => rfl)) (pe_op op_pow pe_int pe_int) (nomark _)) (pss_cons (ps_set (i := 2) nd rfl (by first | exact Or.inl rfl | exact Or.inr rfl) (pe_op op_mod (pe_ix (ix_K (K := K) rfl) (pv 0) pe_int (fun _ _ => rfl)) (pv 1)))
    (pss_cons (ps_asg (pe_op op_fdivW (pe_ix (ix_K (K := K) rfl) (pv 0) pe_int (fun _ _ => rfl)) (pv 1)) (pg_sub (pv 0) pe_int set_list))
    (pss_one (ps_ret (pv 2))))) pss_nil)
    (pss_cons (ps_asg (pe_op op_mod (pe_op op_mul (pe_op op_add (pe_ix (ix_K (K := K) rfl) (pv 0) pe_int (fun _ _ => rfl)) pe_int) pe_int) pe_int) (pg_sub (pv 0) pe_int set_list))
    (pss_cons (ps_set (i := 3) nd rfl (by first | exact Or.inl rfl | exact Or.inr rfl) (pe_op op_mod (pe_op op_mul (pe_ix (ix_K (K := K) rfl) (pv 0) pe_int (fun _ _ => rfl)) (pe_ix (ix_K (K := K) rfl) (pv 0) pe_int (fun _ _ => rfl))) pe_int))
    (pss_one (ps_ret (pe_op op_mod (pe_op op_fdiv (pe_op op_mod (pe_op op_mul (pv 3) pe_int) pe_int) pe_int) (pv 1))))))), fun vs Q h => endx_rtn h ?_⟩
  try dsimp only [cx_K]
  rintro _ _ _ ⟨hr, h0, h1⟩
  rename_i M r many
  obtain ⟨a, b, g, e⟩ := hr
  have hlog : many.natAbs.log2 < 9000 := by
    have h2 : many.natAbs < 2 ^ 60 := by omega
    have h3 : many.natAbs ≠ 0 := by omega
    have := (Nat.log2_lt h3).mpr h2
    omega
  let G0 := gam n_law_draw [Rf r, Dd K (.int many)]
  have ix0 : ∀ {G : Gm} {M : OM} {a b : Int}, G[0]? = some (some (Rf r)) → M r = some (reelC K a b) → Evl G M (tOp (rIx K) (tVar 0) (tC (.int 0))) (Dd K (.int a)) M := fun hg e => ev_op (ev_var hg) ev_int (ope_ixO e rfl)
  have ix1 : ∀ {G : Gm} {M : OM} {a b : Int}, G[0]? = some (some (Rf r)) → M r = some (reelC K a b) → Evl G M (tOp (rIx K) (tVar 0) (tC (.int 1))) (Dd K (.int b)) M := fun hg e => ev_op (ev_var hg) ev_int (ope_ixO e rfl)
  obtain ⟨g0, g1⟩ := g
  by_cases hb : a ≥ 1000000000000000000
  · refine RtnX.imp (Rtn.x (P := Dd K (.int (a % many))) (M1 := M.set r (reelC K (a / many) b)) (rtn_seqR (rtn_if (b := true) (EvT.c (evt_test (K := K) (ev_op (ix0 rfl e) (ev_op ev_int ev_int (ope_IC ⟨by decide, by decide, by decide⟩)) ope_B)) ?_) (fun _ => rtn_seq (nrm_set (ev_op (ix0 rfl e) (ev_var rfl) (ope_IC h0))) (rtn_seq (nrm_asg (ev_op (ix0 rfl e) (ev_var rfl) (ope_IC ⟨h0, hlog⟩)) (evg_setO (K := K) (ev_var rfl) ev_int e rfl)) (rtn_ret (ev_var rfl)))) (fun z => by cases z)))) ?_
    · exact decide_eq_true hb
    · rintro _ _ ⟨rfl, rfl⟩
      exact ⟨_, Int.emod_nonneg _ (by omega), Int.emod_lt_of_pos _ h0, rfl, _, _, ⟨g0, g1⟩, rfl⟩
  · let b2 := (b + 1) * 48271 % 2147483647
    have c0 : 0 ≤ b2 := Int.emod_nonneg _ (by decide)
    have c1 : b2 < 2147483647 := Int.emod_lt_of_pos _ (by decide)
    have e2 : M.set r (reelC K a b2) r = some (reelC K a b2) := OM.set_same
    let st := b2 * b2 % 2147483629
    have s0 : 0 ≤ st := Int.emod_nonneg _ (by decide)
    have s1 : st < 2147483629 := Int.emod_lt_of_pos _ (by decide)
    refine RtnX.imp (Rtn.x (P := Dd K (.int (st * 69621 % 2147483587 / 8 % many))) (M1 := M.set r (reelC K a b2)) (rtn_seq (nrm_if (b := false) (EvT.c (evt_test (K := K) (ev_op (ix0 rfl e) (ev_op ev_int ev_int (ope_IC ⟨by decide, by decide, by decide⟩)) ope_B)) ?_) (fun z => by cases z) fun _ => nrm_next) (rtn_seq (nrm_asg (P := Dd K (.int b2)) (ev_op (ev_op (ev_op (ix1 rfl e) ev_int ope_I) ev_int (ope_IC (.inl ⟨by omega, by omega⟩))) ev_int (ope_IC (show (0:Int) < 2147483647 by decide))) (evg_setO (K := K) (ev_var rfl) ev_int e rfl)) (rtn_seq (nrm_set (P := Dd K (.int st)) (ev_op (ev_op (ix1 rfl e2) (ix1 rfl e2) (ope_IC (.inl ⟨by omega, by omega⟩))) ev_int (ope_IC (show (0:Int) < 2147483629 by decide)))) (rtn_ret (ev_op (ev_op (ev_op (ev_op (ev_var rfl) ev_int (ope_IC (.inl ⟨by omega, by omega⟩))) ev_int (ope_IC (show (0:Int) < 2147483587 by decide))) ev_int (ope_IC ⟨by decide, by decide⟩)) (ev_var rfl) (ope_IC h0))))))) ?_
    · exact decide_eq_false hb
    · rintro _ _ ⟨rfl, rfl⟩
      exact ⟨_, Int.emod_nonneg _ (by omega), Int.emod_lt_of_pos _ h0, rfl, _, _, ⟨c0, c1⟩, rfl⟩
end
end Z
set_option maxRecDepth 100000
set_option maxHeartbeats 4000000
/-! L2: the law's names, beats, spots. Own work. -/
namespace Z
open PySem PySem.Spec L2
local macro_rules | `(tactic| walk_at "ev") => `(tactic| repeat' (first
  | with_reducible apply eva_nil
  | ((with_reducible apply ev_var); rfl)
  | with_reducible apply ev_int
  | with_reducible apply ev_str
  | with_reducible apply ev_bl
  | with_reducible apply ev_non
  | ((with_reducible show PySem.W.Frag); assumption)
  | with_reducible apply eva_cons
  | with_reducible apply ev_cb
  | with_reducible apply ev_op
  | with_reducible apply cbe_min2
  | with_reducible apply cbe_max2
  | with_reducible apply ope_I
  | with_reducible apply ope_B
  | with_reducible apply ope_isN
  | with_reducible apply ope_notN
  | with_reducible apply ope_eqi
  | with_reducible apply ope_nei
  | with_reducible apply ope_eqs
  | with_reducible apply ope_nes
  | with_reducible apply evt_test
  | with_reducible apply rtn_ret))
section
variable {P : Program} {w : World} {K : PySem.W.Frag} {mg : Str → Option Value} {base : Heap}
variable {G G1 G2 : Gm} {M M1 M2 M3 : OM}
theorem evx_draw {E : XK} {t : L2.TA} {r : Addr} {many : Int} (h : EvA G M t [Rf r, Dd K (.int many)] M1) (hr : IsReel K r M1) (h0 : 0 < many) (h1 : many ≤ 100000000000000) : EvlX G M (tCall (SpX (RDraw K)) [] E t) (fun P m => ∃ n, 0 ≤ n ∧ n < many ∧ P = Dd K (.int n) ∧ Drawn K r M1 m) := evx_call h (RDraw.mk hr h0 h1)
theorem nrmx_asg {te : TE} {g : TG} {Φ : PsE} {Ψ : Pst} (h : EvlX G M te Φ) (h2 : ∀ P m, Φ P m → ∃ G' M', EvG G m P g G' M' ∧ Ψ G' M') : NrmX G M (tAsg te g) Ψ := fun σ H D a k => h σ H _ a fun P m v H' e s q => by
  obtain ⟨G', M', t, e2⟩ := h2 P m e
  exact t v σ H' _ (a.step s) q fun σ' H2 s2 a2 => k G' M' σ' H2 e2 (s.trans s2) a2
def lett (n : Nat) : Str := ⟨#[97 + n]⟩
abbrev abcS : Str := "abcdefghijklmnopqrstuvwxyz"
theorem abc_at : ∀ n : Fin 26, atI abcS.cps.toList ((n.val : Int) % 26) = some (97 + n.val) := by decide +kernel
inductive RLName (K : PySem.W.Frag) : Ctr
  | mk {M : OM} {n : Nat} (h : n < 26) : RLName K M [Dd K (.int n)] (Dd K (.str (lett n))) M
abbrev n_law_name : List Str := ["_law_number", "_law_letters"]
theorem sc_law_name : FnScope n_law_name ["_law_number"] (defScope (top 68)) := ⟨rfl, rfl, rfl, by decide +kernel, rfl, by decide +kernel, by decide +kernel⟩
theorem ok_law_name (T : Tx K mg base) : Cal P w K mg base 1 "_law_name" (SpR (RLName K)) [] := by
  obtain ⟨fd, F⟩ := T.fd_law_name
  have nd := sc_law_name.nd
  let nm := n_law_name
  let scp := defScope (top 68)
  refine cal_mk T.g__law_name F (F.bindsN fun _ _ _ _ _ _ us hl => match us, hl with | [_], _ => rfl) (fn_ok (k := 0) F sc_law_name (sp_len fun _ _ _ _ h => by cases h <;> rfl) fun cdv A outer s H E hr => ?_)
  have hu := hu_of hr
  refine ⟨_, (pss_cons (ps_set (i := 1) nd rfl (by first | exact Or.inl rfl | exact Or.inr rfl) pe_str)
    (pss_one (ps_ret (pe_op op_add_str (pe_ix (ix_K (K := K) rfl) (pv 1) (pe_op op_mod (pv 0) pe_int) (fun _ _ => rfl)) (pe_slice C8.sl_txt pe_str po_none (po_some (pe_op op_mod (pe_op op_fdiv (pv 0) pe_int) pe_int))))))), fun vs Q h => end_rtn h ?_⟩
  try dsimp only [cx_K]
  rintro _ _ _ _ ⟨h⟩
  rename_i M n
  have hq : ((n : Int) / 26 % 4) = 0 := by omega
  refine rtn_seq (nrm_set (P := Dd K (.str abcS)) ev_str) (rtn_ret (Evl.c (ev_op (ev_op (P := Dd K (.str (lett n))) (ev_var rfl) (ev_op (ev_var rfl) ev_int (ope_IC (show (0:Int) < 26 by decide))) (ope_ixS (by decide) (abc_at ⟨n, h⟩))) (ev_slX (K := K) (lo := none) (hi := some ((n : Int) / 26 % 4)) ev_str evo_no (evo_some (ev_op (ev_op (ev_var rfl) ev_int (ope_IC ⟨by decide, by decide⟩)) ev_int (ope_IC (show (0:Int) < 4 by decide)))) (by decide)) (ope_cat ?_)) ?_))
  · rw [hq]; decide +revert
  · rw [hq]; rfl
inductive RLBeats (K : PySem.W.Frag) : CtrX
  | mk {M : OM} {r : Addr} (hr : IsReel K r M) : RLBeats K M [Rf r, Dd K (.int 1000000000000)] (fun P m => ∃ n, 1 ≤ n ∧ n ≤ 1000000000000 ∧ P = Dd K (.int n) ∧ Drawn K r M m)
abbrev n_law_beats : List Str := ["_law_reel_here", "_law_most"]
theorem sc_law_beats : FnScope n_law_beats ["_law_reel_here", "_law_most"] (defScope (top 69)) := ⟨rfl, rfl, rfl, by decide +kernel, rfl, by decide +kernel, by decide +kernel⟩
theorem ok_law_beats (T : Tx K mg base) : Cal P w K mg base 2 "_law_beats" (SpX (RLBeats K)) [] := by
  obtain ⟨fd, F⟩ := T.fd_law_beats
  have nd := sc_law_beats.nd
  let nm := n_law_beats
  let scp := defScope (top 69)
  have C_law_draw : Cal P w K mg base 1 "_law_draw" (SpX (RDraw K)) [] := ok_law_draw T
  refine cal_mk T.g__law_beats F (F.bindsN fun _ _ _ _ _ _ us hl => match us, hl with | [_, _], _ => rfl) (fn_ok (k := 1) F sc_law_beats (spx_len fun _ _ _ h => by cases h <;> rfl) fun cdv A outer s H E hr => ?_)
  have hu := hu_of hr
  refine ⟨_, (pss_one (ps_ret (pe_callB (call_min2 rfl) (by rfl) T.f_min (by decide +kernel) (pa_cons (pv 1) (pa_cons (pe_op op_add pe_int (pe_c C_law_draw hr (by decide) (by rfl) (pa_cons (pv 0) (pa_cons (pe_ix (ix_K (K := K) rfl) (pe_lst (pa_cons pe_int (pa_cons pe_int (pa_cons pe_int (pa_cons (pe_op op_pow pe_int pe_int) pa_nil))))) (pe_c C_law_draw hr (by decide) (by rfl) (pa_cons (pv 0) (pa_cons pe_int pa_nil))) (fun _ _ => rfl)) pa_nil)))) pa_nil))))), fun vs Q h => endx_rtn h ?_⟩
  try dsimp only [cx_K]
  rintro _ _ _ ⟨hr⟩
  rename_i M r
  refine rtnx_ret (evx_cb (Φ := fun ps m => ∃ n, 1 ≤ n ∧ ps = [Dd K (.int 1000000000000), Dd K (.int n)] ∧ Drawn K r M m) (evax_consP (ev_var rfl) (evax_last (Φ := fun P m => ∃ n, 1 ≤ n ∧ P = Dd K (.int n) ∧ Drawn K r M m) (evx_opR (P := Dd K (.int 1)) ev_int (evx_callX (Φ := fun ps m => ∃ many, 0 < many ∧ many ≤ 100000000000000 ∧ ps = [Rf r, Dd K (.int many)] ∧ Drawn K r M m) (Ψ := fun P m => ∃ n, 0 ≤ n ∧ P = Dd K (.int n) ∧ Drawn K r M m) (evax_consP (ev_var rfl) (evax_last (Φ := fun P m => ∃ many, 0 < many ∧ many ≤ 100000000000000 ∧ P = Dd K (.int many) ∧ Drawn K r M m) (evx_opR (P := Dd K (.list [.int 1, .int 4, .int 40, .int (10 ^ 12)])) (ev_lstD (evad_cons ev_int (evad_cons ev_int (evad_cons ev_int (evad_cons (ev_op ev_int ev_int (ope_IC ⟨by decide, by decide, by decide⟩)) evad_nil))))) (evx_draw (eva_cons (ev_var rfl) (eva_cons ev_int eva_nil)) hr (by decide) (by decide)) ?_) ?_)) ?_) ?_) ?_)) ?_)
  · rintro _ m ⟨n, h0, h1, rfl, d⟩
    have : n = 0 ∨ n = 1 ∨ n = 2 ∨ n = 3 := by omega
    rcases this with rfl | rfl | rfl | rfl
    · exact ⟨_, m, ope_ixLD rfl, 1, by decide, by decide, rfl, d⟩
    · exact ⟨_, m, ope_ixLD rfl, 4, by decide, by decide, rfl, d⟩
    · exact ⟨_, m, ope_ixLD rfl, 40, by decide, by decide, rfl, d⟩
    · exact ⟨_, m, ope_ixLD rfl, 10 ^ 12, by decide, by decide, rfl, d⟩
  · rintro _ m ⟨many, h0, h1, rfl, d⟩
    exact ⟨many, h0, h1, rfl, d⟩
  · rintro _ m ⟨many, h0, h1, rfl, d⟩
    refine ⟨_, RDraw.mk d.reel h0 h1, ?_⟩
    rintro _ m' ⟨n, g0, g1, rfl, d'⟩
    exact ⟨n, g0, rfl, d.trans d'⟩
  · rintro _ m ⟨n, h0, rfl, d⟩
    exact ⟨_, m, ope_I, _, by omega, rfl, d⟩
  · rintro _ m ⟨n, h0, rfl, d⟩
    exact ⟨n, h0, rfl, d⟩
  · rintro _ m ⟨n, h0, rfl, d⟩
    exact ⟨_, m, cbe_min2, _, by omega, by omega, rfl, d⟩
end
end Z
set_option maxRecDepth 100000
set_option maxHeartbeats 4000000
/-! L3: the law's lots. Own work. -/
namespace Z
open PySem PySem.Spec L2
local macro_rules | `(tactic| walk_at "ev") => `(tactic| repeat' (first
  | with_reducible apply eva_nil
  | ((with_reducible apply ev_var); rfl)
  | with_reducible apply ev_int
  | with_reducible apply ev_str
  | with_reducible apply ev_bl
  | with_reducible apply ev_non
  | ((with_reducible show PySem.W.Frag); assumption)
  | with_reducible apply eva_cons
  | with_reducible apply ev_cb
  | with_reducible apply ev_op
  | with_reducible apply cbe_min2
  | with_reducible apply cbe_max2
  | with_reducible apply ope_I
  | with_reducible apply ope_B
  | with_reducible apply ope_isN
  | with_reducible apply ope_notN
  | with_reducible apply ope_eqi
  | with_reducible apply ope_nei
  | with_reducible apply ope_eqs
  | with_reducible apply ope_nes
  | with_reducible apply evt_test
  | with_reducible apply rtn_ret))
section
variable {P : Program} {w : World} {K : PySem.W.Frag} {mg : Str → Option Value} {base : Heap}
variable {G G1 G2 : Gm} {M M1 M2 M3 : OM}
theorem evx_weak {t : TE} {Φ Ψ : PsE} (h : EvlX G M t Φ) (f : ∀ P m, Φ P m → ∃ P', Ψ P' m ∧ ∀ v F, Sta P v F → Sta P' v F) : EvlX G M t Ψ := fun σ H Q a k => h σ H Q a fun P m v H' e s q => by
  obtain ⟨P', e2, e3⟩ := f P m e
  exact k P' m v H' e2 s (e3 _ _ q)
theorem IsReel.new {r D : Addr} {c : OC} (h : IsReel K r M) (hD : M D = none) : r ≠ D ∧ IsReel K r (M.set D c) := by
  obtain ⟨a, b, g, e⟩ := h
  have n : r ≠ D := fun z => by rw [z, hD] at e; cases e
  exact ⟨n, a, b, g, by rw [OM.set_ne n]; exact e⟩
theorem drawn_in {r D : Addr} {c : OC} {m m' : OM} (h : IsReel K r m) (hD : m D = none) (d : Drawn K r (m.set D c) m') : ∃ m2, m' = m2.set D c ∧ m2 D = none ∧ Drawn K r m m2 := by
  obtain ⟨n, _⟩ := h.new (c := c) hD
  obtain ⟨a, b, g, rfl⟩ := d
  exact ⟨m.set r (reelC K a b), OM.set_comm (Ne.symm n), by rw [OM.set_ne (Ne.symm n)]; exact hD, a, b, g, rfl⟩
theorem evx_lsX {t : L2.TA} {Φ : List Pr → OM → Prop} (h1 : EvAX G M t Φ) (hl : ∀ ps m, Φ ps m → ps.length ≤ sizeLine) : EvlX G M (tLst t) (fun P m => ∃ ps, Φ ps m ∧ P = Ls K ps) := fun σ H Q a k =>
  h1 σ H _ a fun ps M1 vs H1 e1 s1 q1 => ⟨by rw [← q1.len]; exact hl ps M1 e1, fun p hp => by
    obtain ⟨s2, e2⟩ := Stp.alloc s1.own hp (.lst vs)
    exact k _ M1 _ _ ⟨ps, e1, rfl⟩ (s1.trans s2) (ls_of (.of e2) (q1.mono s2.frz))⟩
/-- one of a list -/
theorem evx_pick {α : Type} {f : α → PyData} {te : TE} {t : L2.TA} {E : XK} {r : Addr} {l : List α} (h : Evl G M te (Dd K (.list (l.map f))) M) (ha : EvA G M t [Rf r, Dd K (.int (l.length : Nat))] M) (hr : IsReel K r M) (hn : l ≠ []) (hl : l.length ≤ 1000) : EvlX G M (tOp (rIx K) te (tCall (SpX (RDraw K)) [] E t)) (fun P m => ∃ x, x ∈ l ∧ P = Dd K (f x) ∧ Drawn K r M m) := by
  have : 0 < l.length := List.length_pos_iff.mpr hn
  refine evx_opR h (evx_draw ha hr (by omega) (by omega)) ?_
  rintro _ m ⟨n, h0, h1, rfl, d⟩
  obtain ⟨i, rfl⟩ := Int.eq_ofNat_of_zero_le h0
  have hi : i < l.length := by omega
  exact ⟨_, m, ope_ixLD (d := f l[i]) (by rw [atI_nat (by rw [List.length_map]; exact hi), List.getElem?_map, List.getElem?_eq_getElem hi]; rfl), l[i], List.getElem_mem hi, rfl, d⟩
theorem ev_lenF {α : Type} {f : α → PyData} {te : TE} {l : List α} (h : Evl G M te (Dd K (.list (l.map f))) M) : Evl G M (tCB (fun xs H Q => ∃ x n, xs = [x] ∧ LenV K x H n ∧ Q (.int n) H) (tCons te tNil)) (Dd K (.int (l.length : Nat))) M := by
  have := ev_cb (eva_cons h eva_nil) (cbe_lenLD (K := K) (M := M) (ds := l.map f))
  rwa [List.length_map] at this
inductive RLot (K : PySem.W.Frag) : CtrX
  | mk {M : OM} {r : Addr} {W : Web} (hr : IsReel K r M) (h : OkWeb W) : RLot K M [Rf r, Dd K (.list (W.folk.map .str))] (fun P m => ∃ lot, OkLot W.folk lot ∧ P = Dd K (.list (lot.map .str)) ∧ Drawn K r M m)
abbrev n_law_lot : List Str := ["_law_reel_here", "_law_names", "_law_found", "_law_name_here"]
theorem sc_law_lot : FnScope n_law_lot ["_law_reel_here", "_law_names"] (defScope (top 71)) := ⟨rfl, rfl, rfl, by decide +kernel, rfl, by decide +kernel, by decide +kernel⟩
theorem ok_law_lot (T : Tx K mg base) : Cal P w K mg base 2 "_law_lot" (SpX (RLot K)) [] := by
  obtain ⟨fd, F⟩ := T.fd_law_lot
  have nd := sc_law_lot.nd
  let nm := n_law_lot
  let scp := defScope (top 71)
  have C_law_draw : Cal P w K mg base 1 "_law_draw" (SpX (RDraw K)) [] := ok_law_draw T
  refine cal_mk T.g__law_lot F (F.bindsN fun _ _ _ _ _ _ us hl => match us, hl with | [_, _], _ => rfl) (fn_ok (k := 1) F sc_law_lot (spx_len fun _ _ _ h => by cases h <;> rfl) fun cdv A outer s H E hr => ?_)
  have hu := hu_of hr
  refine ⟨_, (pss_cons (ps_setLc (i := 2) (own := [("_law_name_here", 3)]) (by rfl) nd rfl rfl (sw_true rfl rfl rfl (by decide +kernel)) (pi_listK (K := K) rfl (pv 1)) (blkOk_by (own := [("_law_name_here", 3)]) (N := nm) (sc := scp) (by decide +kernel)) (fun _ _ _ _ _ => (pg_name (i := 3) nd rfl (by first | exact Or.inl rfl | exact Or.inr rfl))) (fun _ _ _ _ _ => pts_one (pt_cmpR (op_eqK (K := K) rfl hr.units) (pe_c C_law_draw hr (by decide) (by rfl) (pa_cons (pv 0) (pa_cons pe_int pa_nil))) pe_int (nomark _))) (fun _ _ _ _ _ => (pv 3)))
    (pss_one (ps_ret (pe_ifExp (pt_cmpR (op_neK (K := K) rfl hr.units) (pv 2) (pe_lst pa_nil) (nomark _)) (pv 2) (pe_lst (pa_cons (pe_ix (ix_K (K := K) rfl) (pv 1) (pe_c C_law_draw hr (by decide) (by rfl) (pa_cons (pv 0) (pa_cons (pe_callB (call_lenK (K := K) rfl) (by rfl) T.f_len (by decide +kernel) (pa_cons (pv 1) pa_nil)) pa_nil))) (fun _ _ => rfl)) pa_nil)))))), fun vs Q h => endx_rtn h ?_⟩
  try dsimp only [cx_K]
  rintro _ _ _ ⟨hr, h⟩
  rename_i M r W
  let G0 := gam n_law_lot [Rf r, Dd K (.list (W.folk.map .str))]
  have hf8 := h.f8
  refine rtnx_seq (Φ := fun g m => ∃ lot : List Str, lot.Sublist W.folk ∧ g = G0.set 2 (some (Dd K (.list (lot.map .str)))) ∧ Drawn K r M m) ((nrmx_set (i := 2) (Φ := fun P m => ∃ lot : List Str, lot.Sublist W.folk ∧ P = Dd K (.list (lot.map .str)) ∧ Drawn K r M m) (evx_weak (evx_lcX (K := K) (n := W.folk.length) (p := fun i => at_ (W.folk.map fun x => Dd K (.str x)) i) (M0 := M) (Iv := fun i l m => ∃ lot : List Str, l = lot.map (fun x => Dd K (.str x)) ∧ lot.Sublist (W.folk.take i) ∧ Drawn K r M m) ?_ (Nat.le_trans hf8 (by decide)) ⟨[], rfl, List.nil_sublist _, Drawn.refl hr⟩ ?_ ?_) ?_)).imp ?_) ?_
  · have := evi_list (K := K) (G := G0) (M := M) (M1 := M) (tl := tVar 1) (ps := (W.folk.map PyData.str).map (Dd K)) (Evl.st (ev_var (P := Dd K (.list (W.folk.map .str))) rfl) fun v F q => ls_dd q)
    rw [List.map_map, List.length_map] at this
    exact this
  · rintro i l m ⟨lot, rfl, hs, d⟩
    rw [List.length_map]
    exact Nat.le_trans hs.length_le (by rw [List.length_take]; omega)
  · rintro i hi l m ⟨lot, rfl, hs, d⟩ D hD
    have hx : at_ (W.folk.map fun x => Dd K (.str x)) i = Dd K (.str W.folk[i]) := by
      unfold at_
      rw [List.getD_eq_getElem?_getD, List.getElem?_map, List.getElem?_eq_getElem hi]; rfl
    have ht : W.folk.take (i + 1) = W.folk.take i ++ [W.folk[i]] := by rw [List.take_succ, List.getElem?_eq_getElem hi]; rfl
    have rr := d.reel.new (c := .lst (lot.map fun x => Dd K (.str x))) hD
    refine ⟨_, fun _ m' => Drawn K r (m.set D (.lst (lot.map fun x => Dd K (.str x)))) m', by rw [hx]; exact evgw_name (by decide), ?_, ?_, ?_⟩
    · refine evtx_test (K := K) (evx_opL (Ψ := fun P m' => ∃ b, P = Dd K (.bool b) ∧ Drawn K r (m.set D (.lst (lot.map fun x => Dd K (.str x)))) m') (evx_draw (eva_cons (ev_var rfl) (eva_cons ev_int eva_nil)) rr.2 (by decide) (by decide)) ?_) fun _ _ ⟨b, e, d'⟩ => ⟨b, e, d'⟩
      rintro _ m1 ⟨n, h0, h1, rfl, d'⟩
      exact ⟨_, m1, _, m1, ev_int, ope_eqi, _, rfl, d'⟩
    · rintro m' d'
      refine ⟨Dd K (.str W.folk[i]), ev_var rfl, ?_⟩
      obtain ⟨m2, rfl, e2, d2⟩ := drawn_in d.reel hD d'
      exact ⟨m2, rfl, e2, lot ++ [W.folk[i]], by rw [List.map_append]; rfl, by rw [ht]; exact List.Sublist.append hs (List.Sublist.refl _), d.trans d2⟩
    · rintro m' d'
      obtain ⟨m2, rfl, e2, d2⟩ := drawn_in d.reel hD d'
      exact ⟨m2, rfl, e2, lot, rfl, hs.trans (by rw [ht]; exact List.sublist_append_left _ _), d.trans d2⟩
  · rintro _ m ⟨l, ⟨lot, rfl, hs, d⟩, rfl⟩
    rw [List.take_length] at hs
    exact ⟨_, ⟨lot, hs, rfl, d⟩, fun v F q => dd_ls (by rw [List.map_map]; exact q)⟩
  · rintro _ m ⟨_, ⟨lot, hs, rfl, d⟩, rfl⟩
    exact ⟨lot, hs, rfl, d⟩
  · rintro _ m ⟨lot, hs, rfl, d⟩
    refine rtnx_ret (evx_ifX (Φ := fun b m' => b = !(lot.map PyData.str).isEmpty ∧ m' = m) (EvTX.imp (evt_test (K := K) (ev_op (ev_var rfl) (ev_lstD evad_nil) ope_ne0D)).x fun _ _ e => e) ?_ ?_)
    · rintro _ ⟨hb, rfl⟩
      refine (ev_var rfl).x.imp ?_
      rintro _ _ ⟨rfl, rfl⟩
      have hne : lot ≠ [] := fun e => by subst e; cases hb
      exact ⟨lot, ⟨hne, Nat.le_trans hs.length_le hf8, fun x hx => hs.subset hx, h.rise.sublist hs⟩, rfl, d⟩
    · rintro _ ⟨hb, rfl⟩
      refine evx_weak (evx_lsX (K := K) (Φ := fun ps m' => ∃ x ∈ W.folk, ps = [Dd K (.str x)] ∧ Drawn K r M m') (evax_last (evx_pick (f := PyData.str) (l := W.folk) (ev_var rfl) (eva_cons (ev_var rfl) (eva_cons (ev_lenF (ev_var rfl)) eva_nil)) d.reel h.f0 (by omega)) ?_) ?_) ?_
      · rintro _ m ⟨x, hx, rfl, d'⟩
        exact ⟨x, hx, rfl, d.trans d'⟩
      · rintro _ m ⟨x, hx, rfl, d'⟩
        exact (show 1 ≤ sizeLine by decide)
      · rintro _ m ⟨_, ⟨x, hx, rfl, d'⟩, rfl⟩
        exact ⟨_, ⟨[x], ⟨by simp, by simp, fun y hy => by rw [List.mem_singleton.mp hy]; exact hx, List.pairwise_singleton _ _⟩, rfl, d'⟩, fun v F q => dd_ls (ds := [.str x]) q⟩
end
end Z
set_option maxRecDepth 100000
set_option maxHeartbeats 4000000
/-! L4: the law's spots, and when a cry is quiet. Own work. -/
namespace Z
open PySem PySem.Spec L2
local macro_rules | `(tactic| walk_at "ev") => `(tactic| repeat' (first
  | with_reducible apply eva_nil
  | ((with_reducible apply ev_var); rfl)
  | with_reducible apply ev_int
  | with_reducible apply ev_str
  | with_reducible apply ev_bl
  | with_reducible apply ev_non
  | ((with_reducible show PySem.W.Frag); assumption)
  | with_reducible apply eva_cons
  | with_reducible apply ev_cb
  | with_reducible apply ev_op
  | with_reducible apply cbe_min2
  | with_reducible apply cbe_max2
  | with_reducible apply ope_I
  | with_reducible apply ope_B
  | with_reducible apply ope_isN
  | with_reducible apply ope_notN
  | with_reducible apply ope_eqi
  | with_reducible apply ope_nei
  | with_reducible apply ope_eqs
  | with_reducible apply ope_nes
  | with_reducible apply evt_test
  | with_reducible apply rtn_ret))
section
variable {P : Program} {w : World} {K : PySem.W.Frag} {mg : Str → Option Value} {base : Heap}
variable {G G1 G2 : Gm} {M M1 M2 M3 : OM}
inductive RLQuiet (K : PySem.W.Frag) : Ctr
  | mk {M : OM} {c : Cr} {now : Int} (tb : Tb K M) (h : OkCr c) (hs : c.since ≤ now) : RLQuiet K M [Dd K (.int c.since), Dd K (webD c.web), Dd K (.list (c.lot.map .str)), Dd K (.int now)] (Dd K (.bool (decide (lastC c ≤ now)))) M
abbrev n_law_quiet : List Str := ["_law_begun", "_law_web_here", "_law_lot_here", "_law_now"]
theorem sc_law_quiet : FnScope n_law_quiet ["_law_begun", "_law_web_here", "_law_lot_here", "_law_now"] (defScope (top 73)) := ⟨rfl, rfl, rfl, by decide +kernel, rfl, by decide +kernel, by decide +kernel⟩
theorem ok_law_quiet (T : Tx K mg base) : Cal P w K mg base 9 "_law_quiet" (SpR (RLQuiet K)) [] := by
  obtain ⟨fd, F⟩ := T.fd_law_quiet
  have nd := sc_law_quiet.nd
  let nm := n_law_quiet
  let scp := defScope (top 73)
  have C_tellings : Cal P w K mg base 8 "tellings" (SpR (RTell K)) [] := ok_tellings T
  have C_tellings_by : Cal P w K mg base 8 "tellings_by" (SpR (RTellBy K)) [] := ok_tellings_by T
  refine cal_mk T.g__law_quiet F (F.bindsN fun _ _ _ _ _ _ us hl => match us, hl with | [_, _, _, _], _ => rfl) (fn_ok (k := 8) F sc_law_quiet (sp_len fun _ _ _ _ h => by cases h <;> rfl) fun cdv A outer s H E hr => ?_)
  have hu := hu_of hr
  refine ⟨_, (pss_cons (ps_if (pt_cmpR (op_eqK (K := K) rfl hr.units) (pv 3) (pv 0) (nomark _)) (pss_one (ps_ret (pe_cmpR (op_eqK (K := K) rfl hr.units) (pe_c C_tellings hr (by decide) (by rfl) (pa_cons (pv 1) (pa_cons (pv 2) pa_nil))) pe_int (nomark _)))) pss_nil)
    (pss_one (ps_ret (pe_cmpR (op_eqK (K := K) rfl hr.units) (pe_c C_tellings_by hr (by decide) (by rfl) (pa_cons (pv 1) (pa_cons (pv 2) (pa_cons (pe_op op_sub (pe_op op_sub (pv 3) (pv 0)) pe_int) pa_nil)))) (pe_c C_tellings hr (by decide) (by rfl) (pa_cons (pv 1) (pa_cons (pv 2) pa_nil))) (nomark _))))), fun vs Q h => end_rtn h ?_⟩
  try dsimp only [cx_K]
  rintro _ _ _ _ ⟨tb, h, hs⟩
  rename_i M c now
  have F := reach_facts h.web h.lot
  have Q := quiet_iff h.web F (d := now - c.since) (by omega)
  by_cases e : now = c.since
  · refine rtn_seqR (rtn_if (b := true) (EvT.c (evt_test (K := K) (ev_op (ev_var rfl) (ev_var rfl) ope_eqi)) (decide_eq_true e)) (fun _ => rtn_ret (Evl.c (ev_op (ev_call (eva_cons (ev_var rfl) (eva_cons (ev_var rfl) eva_nil)) (RTell.mk tb h.web h.lot)) ev_int ope_eqi) ?_)) (fun z => by cases z))
    have z : now - c.since = 0 := by omega
    rw [z, if_pos rfl] at Q
    have e3 : (lastC c ≤ now) ↔ tell c.web (reachD c.web c.lot).num = 0 := by
      rw [← Q]; unfold lastC; omega
    rw [decide_eq_decide.mpr e3]
  · refine rtn_seq (nrm_if (b := false) (EvT.c (evt_test (K := K) (ev_op (ev_var rfl) (ev_var rfl) ope_eqi)) (decide_eq_false e)) (fun z => by cases z) fun _ => nrm_next) (rtn_ret (Evl.c (ev_op (ev_call (eva_cons (ev_var rfl) (eva_cons (ev_var rfl) (eva_cons (ev_op (ev_op (ev_var rfl) (ev_var rfl) ope_I) ev_int ope_I) eva_nil))) (RTellBy.mk tb h.web h.lot (by omega))) (ev_call (eva_cons (ev_var rfl) (eva_cons (ev_var rfl) eva_nil)) (RTell.mk tb h.web h.lot)) ope_eqi) ?_))
    have z : ¬ (now - c.since = 0) := by omega
    rw [if_neg z] at Q
    have e3 : (lastC c ≤ now) ↔ tellBy c.web (reachD c.web c.lot).num (now - c.since - 1) = tell c.web (reachD c.web c.lot).num := by
      rw [← Q]; unfold lastC; omega
    rw [decide_eq_decide.mpr e3]
theorem between_way {W : Web} (h : OkWeb W) {v : Way} (hv : v ∈ W.ways) : between W v.1 v.2.1 = some v.2.2 := by
  have ef : W.ways.filter (fun u => decide (u.1 = v.1) && decide (u.2.1 = v.2.1)) = [v] := filter_one h.wnd hv (by simp) fun u hu q => by
    rw [Bool.and_eq_true] at q
    exact pair_uniq h hu hv ⟨of_decide_eq_true q.1, of_decide_eq_true q.2⟩
  unfold between
  rw [ef]; rfl
inductive RLSpot (K : PySem.W.Frag) : CtrX
  | mk {M : OM} {r : Addr} {W : Web} (hr : IsReel K r M) (h : OkWeb W) : RLSpot K M [Rf r, Dd K (webD W)] (fun P m => ∃ p, OkPlace W p ∧ P = Dd K (wayD p) ∧ Drawn K r M m)
abbrev n_law_spot : List Str := ["_law_reel_here", "_law_web_here", "_law_one", "_law_other", "_law_beats_here", "_law_name_here"]
theorem sc_law_spot : FnScope n_law_spot ["_law_reel_here", "_law_web_here"] (defScope (top 72)) := ⟨rfl, rfl, rfl, by decide +kernel, rfl, by decide +kernel, by decide +kernel⟩
theorem ok_law_spot (T : Tx K mg base) : Cal P w K mg base 2 "_law_spot" (SpX (RLSpot K)) [] := by
  obtain ⟨fd, F⟩ := T.fd_law_spot
  have nd := sc_law_spot.nd
  let nm := n_law_spot
  let scp := defScope (top 72)
  have C_law_draw : Cal P w K mg base 1 "_law_draw" (SpX (RDraw K)) [] := ok_law_draw T
  refine cal_mk T.g__law_spot F (F.bindsN fun _ _ _ _ _ _ us hl => match us, hl with | [_, _], _ => rfl) (fn_ok (k := 1) F sc_law_spot (spx_len fun _ _ _ h => by cases h <;> rfl) fun cdv A outer s H E hr => ?_)
  have hu := hu_of hr
  refine ⟨_, (pss_cons (ps_if (PW.pt (pw_and (pt_cmpR (op_neK (K := K) rfl hr.units) (pe_ix (ix_K (K := K) rfl) (pv 1) pe_int (fun _ _ => rfl)) (pe_lst pa_nil) (nomark _)) (pw_and1 (pt_cmpR (op_eqK (K := K) rfl hr.units) (pe_c C_law_draw hr (by decide) (by rfl) (pa_cons (pv 0) (pa_cons pe_int pa_nil))) pe_int (nomark _))))) (pss_cons (ps_asg (pe_ix (ix_K (K := K) rfl) (pe_ix (ix_K (K := K) rfl) (pv 1) pe_int (fun _ _ => rfl)) (pe_c C_law_draw hr (by decide) (by rfl) (pa_cons (pv 0) (pa_cons (pe_callB (call_lenK (K := K) rfl) (by rfl) T.f_len (by decide +kernel) (pa_cons (pe_ix (ix_K (K := K) rfl) (pv 1) pe_int (fun _ _ => rfl)) pa_nil)) pa_nil))) (fun _ _ => rfl)) (pg_tupK (K := K) (n := 3) rfl (by rfl) (pgs_cons (pg_name (i := 2) nd rfl (by first | exact Or.inl rfl | exact Or.inr rfl)) (pgs_cons (pg_name (i := 3) nd rfl (by first | exact Or.inl rfl | exact Or.inr rfl)) (pgs_cons (pg_name (i := 4) nd rfl (by first | exact Or.inl rfl | exact Or.inr rfl)) pgs_nil)))))
    (pss_one (ps_if (pt_cmpR op_gt (pv 4) pe_int (nomark _)) (pss_one (ps_ret (pe_tup (pa_cons (pv 2) (pa_cons (pv 3) (pa_cons (pe_op op_add pe_int (pe_c C_law_draw hr (by decide) (by rfl) (pa_cons (pv 0) (pa_cons (pe_op op_sub (pv 4) pe_int) pa_nil)))) pa_nil)))))) pss_nil))) pss_nil)
    (pss_cons (ps_set (i := 5) nd rfl (by first | exact Or.inl rfl | exact Or.inr rfl) (pe_ix (ix_K (K := K) rfl) (pe_ix (ix_K (K := K) rfl) (pv 1) pe_int (fun _ _ => rfl)) (pe_c C_law_draw hr (by decide) (by rfl) (pa_cons (pv 0) (pa_cons (pe_callB (call_lenK (K := K) rfl) (by rfl) T.f_len (by decide +kernel) (pa_cons (pe_ix (ix_K (K := K) rfl) (pv 1) pe_int (fun _ _ => rfl)) pa_nil)) pa_nil))) (fun _ _ => rfl)))
    (pss_one (ps_ret (pe_tup (pa_cons (pv 5) (pa_cons (pv 5) (pa_cons pe_int pa_nil)))))))), fun vs Q h => endx_rtn h ?_⟩
  try dsimp only [cx_K]
  rintro _ _ _ ⟨hr, h⟩
  rename_i M r W
  let G0 := gam n_law_spot [Rf r, Dd K (webD W)]
  have hf8 := h.f8
  have hw := h.many
  refine rtnx_seqE (Φ := fun g m => g.length = 6 ∧ g[0]? = some (some (Rf r)) ∧ g[1]? = some (some (Dd K (webD W))) ∧ Drawn K r M m) (endx_ifX (Φ := fun b m => (b = true → W.ways ≠ []) ∧ Drawn K r M m) (evtx_and (Φ := fun b m => b = (!(W.ways.map wayD).isEmpty) ∧ m = M) (EvTX.imp (evt_test (K := K) (ev_op (ev_ixt (ev_var rfl) rfl) (ev_lstD evad_nil) ope_ne0D)).x fun _ _ e => e) ?_ ?_) ?_ ?_) ?_
  · rintro m ⟨e, rfl⟩
    refine evtx_test (K := K) (evx_opL (Ψ := fun P m' => ∃ b, P = Dd K (.bool b) ∧ Drawn K r m m') (evx_draw (eva_cons (ev_var rfl) (eva_cons ev_int eva_nil)) hr (by decide) (by decide)) ?_) ?_
    · rintro _ m1 ⟨n, h0, h1, rfl, d'⟩
      exact ⟨_, m1, _, m1, ev_int, ope_eqi, _, rfl, d'⟩
    · rintro _ m1 ⟨b, rfl, d'⟩
      exact ⟨b, rfl, (fun _ z => by rw [z] at e; cases e), d'⟩
  · rintro m ⟨e, rfl⟩
    exact ⟨fun z => (by cases z), Drawn.refl hr⟩
  · rintro m ⟨hne, d⟩
    refine endx_seq (Φ := fun g m => ∃ v ∈ W.ways, g = ((G0.set 2 (some (Dd K (.str v.1)))).set 3 (some (Dd K (.str v.2.1)))).set 4 (some (Dd K (.int v.2.2))) ∧ Drawn K r M m) (NrmX.end (nrmx_asg (evx_pick (f := wayD) (l := W.ways) (ev_ixt (ev_var rfl) rfl) (eva_cons (ev_var rfl) (eva_cons (ev_lenF (ev_ixt (ev_var rfl) rfl)) eva_nil)) d.reel (hne rfl) (by omega)) ?_)) ?_
    · rintro _ m' ⟨v, hv, rfl, d'⟩
      exact ⟨_, m', evg_tupD (evgs_cons evg_name (evgs_cons evg_name (evgs_cons evg_name evgs_nil))) rfl, v, hv, rfl, d.trans d'⟩
    · rintro _ m' ⟨v, hv, rfl, d'⟩
      have ok := h.ways v hv
      refine endx_ifX (EvT.x (b := decide (v.2.2 > 1)) (evt_test (K := K) (ev_op (ev_var rfl) ev_int ope_B))) ?_ ?_
      · rintro _ ⟨e, rfl⟩
        have e := of_decide_eq_true e.symm
        refine RtnX.end (rtnx_ret (evx_weak (evx_tup (K := K) (Φ := fun ps m => ∃ n, 0 < n ∧ n < v.2.2 ∧ ps = [Dd K (.str v.1), Dd K (.str v.2.1), Dd K (.int n)] ∧ Drawn K r M m) (evax_consP (ev_var rfl) (evax_consP (ev_var rfl) (evax_last (Φ := fun P m => ∃ n, 0 < n ∧ n < v.2.2 ∧ P = Dd K (.int n) ∧ Drawn K r M m) (evx_opR (P := Dd K (.int 1)) ev_int (evx_draw (many := v.2.2 - 1) (eva_cons (ev_var rfl) (eva_cons (ev_op (ev_var rfl) ev_int ope_I) eva_nil)) d'.reel (by omega) (by have := ok.top; omega)) ?_) ?_))) ?_) ?_))
        · rintro _ m2 ⟨n, h0, h1, rfl, d2⟩
          exact ⟨_, m2, ope_I, 1 + n, by omega, by omega, rfl, d'.trans d2⟩
        · rintro _ m2 ⟨n, h0, h1, rfl, d2⟩
          exact ⟨n, h0, h1, rfl, d2⟩
        · rintro _ m2 ⟨n, h0, h1, rfl, d2⟩
          exact (show 3 ≤ sizeLine by decide)
        · rintro _ m2 ⟨_, ⟨n, h0, h1, rfl, d2⟩, rfl⟩
          exact ⟨Dd K (wayD (v.1, v.2.1, n)), ⟨(v.1, v.2.1, n), ⟨h.names _ ok.one, h.names _ ok.two, .inr ⟨(fun z => by have := ok.lt; rw [z, sl_irr] at this; cases this), v.2.2, (show between W v.1 v.2.1 = some v.2.2 from between_way h hv), h0, h1⟩⟩, rfl, d2⟩, fun u F q => (show Sta (Dd K (.tuple [.str v.1, .str v.2.1, .int n])) u F from dd_tp q)⟩
      · rintro _ ⟨e, rfl⟩
        refine NrmX.end (nrm_next.x.imp ?_)
        rintro _ _ ⟨rfl, rfl⟩
        exact ⟨rfl, rfl, rfl, d'⟩
  · rintro m ⟨_, d⟩
    refine NrmX.end (nrm_next.x.imp ?_)
    rintro _ _ ⟨rfl, rfl⟩
    exact ⟨rfl, rfl, rfl, d⟩
  · rintro g m ⟨gl, g0, g1, d⟩
    refine rtnx_seq (Φ := fun g' m' => ∃ x ∈ W.folk, g' = g.set 5 (some (Dd K (.str x))) ∧ Drawn K r M m') (NrmX.imp (nrmx_set (i := 5) (evx_pick (f := PyData.str) (l := W.folk) (ev_ixt (ev_var g1) rfl) (eva_cons (ev_var g0) (eva_cons (ev_lenF (ev_ixt (ev_var g1) rfl)) eva_nil)) d.reel h.f0 (by omega))) ?_) ?_
    · rintro _ m' ⟨_, ⟨x, hx, rfl, d'⟩, rfl⟩
      exact ⟨x, hx, rfl, d.trans d'⟩
    · rintro _ m' ⟨x, hx, rfl, d'⟩
      have e5 : (g.set 5 (some (Dd K (.str x))))[5]? = some (some (Dd K (.str x))) := List.getElem?_set_self (by omega)
      refine rtnx_ret ((Evl.x (P := Dd K (wayD (x, x, 0))) (ev_tupD (evad_cons (ev_var e5) (evad_cons (ev_var e5) (evad_cons ev_int evad_nil))))).imp ?_)
      rintro _ _ ⟨rfl, rfl⟩
      exact ⟨_, ⟨h.names _ hx, h.names _ hx, .inl ⟨rfl, hx, rfl⟩⟩, rfl, d'⟩
end
end Z
set_option maxRecDepth 100000
set_option maxHeartbeats 4000000
/-! L5: the law's changed webs. Own work. -/
namespace Z
open PySem PySem.Spec L2
local macro_rules | `(tactic| walk_at "ev") => `(tactic| repeat' (first
  | with_reducible apply eva_nil
  | ((with_reducible apply ev_var); rfl)
  | with_reducible apply ev_int
  | with_reducible apply ev_str
  | with_reducible apply ev_bl
  | with_reducible apply ev_non
  | ((with_reducible show PySem.W.Frag); assumption)
  | with_reducible apply eva_cons
  | with_reducible apply ev_cb
  | with_reducible apply ev_op
  | with_reducible apply cbe_min2
  | with_reducible apply cbe_max2
  | with_reducible apply ope_I
  | with_reducible apply ope_B
  | with_reducible apply ope_isN
  | with_reducible apply ope_notN
  | with_reducible apply ope_eqi
  | with_reducible apply ope_nei
  | with_reducible apply ope_eqs
  | with_reducible apply ope_nes
  | with_reducible apply evt_test
  | with_reducible apply rtn_ret))
section
variable {P : Program} {w : World} {K : PySem.W.Frag} {mg : Str → Option Value} {base : Heap}
variable {G G1 G2 : Gm} {M M1 M2 M3 : OM}
inductive RChanged (K : PySem.W.Frag) : Ctr
  | add {M : OM} {W : Web} {v : Way} (h : W.ways.length ≤ 64) : RChanged K M [Dd K (webD W), Dd K (.int 0), Dd K (wayD v)] (Dd K (webD (addWay W v))) M
  | cut {M : OM} {W : Web} {v : Way} (h : W.ways.length ≤ 64) : RChanged K M [Dd K (webD W), Dd K (.int 1), Dd K (wayD v)] (Dd K (webD (cutWay W v))) M
abbrev n_law_changed : List Str := ["_law_web_here", "_law_kind", "_law_way", "_law_one"]
theorem sc_law_changed : FnScope n_law_changed ["_law_web_here", "_law_kind", "_law_way"] (defScope (top 75)) := ⟨rfl, rfl, rfl, by decide +kernel, rfl, by decide +kernel, by decide +kernel⟩
theorem ok_law_changed (T : Tx K mg base) : Cal P w K mg base 1 "_law_changed" (SpR (RChanged K)) [] := by
  obtain ⟨fd, F⟩ := T.fd_law_changed
  have nd := sc_law_changed.nd
  let nm := n_law_changed
  let scp := defScope (top 75)
  refine cal_mk T.g__law_changed F (F.bindsN fun _ _ _ _ _ _ us hl => match us, hl with | [_, _, _], _ => rfl) (fn_ok (k := 0) F sc_law_changed (sp_len fun _ _ _ _ h => by cases h <;> rfl) fun cdv A outer s H E hr => ?_)
  have hu := hu_of hr
  refine ⟨_, (pss_cons (ps_if (pt_cmpR (op_eqK (K := K) rfl hr.units) (pv 1) pe_int (nomark _)) (pss_one (ps_ret (pe_tup (pa_cons (pe_ix (ix_K (K := K) rfl) (pv 0) pe_int (fun _ _ => rfl)) (pa_cons (pe_callB (cr_sortK (K := K) rfl hr.units) (by rfl) T.f_sorted (by decide +kernel) (pa_cons (pe_op (op_catLK (K := K) rfl) (pe_ix (ix_K (K := K) rfl) (pv 0) pe_int (fun _ _ => rfl)) (pe_lst (pa_cons (pv 2) pa_nil))) pa_nil)) pa_nil))))) pss_nil)
    (pss_one (ps_ret (pe_tup (pa_cons (pe_ix (ix_K (K := K) rfl) (pv 0) pe_int (fun _ _ => rfl)) (pa_cons (pe_lc (own := [("_law_one", 3)]) (by rfl) nd (pi_listK (K := K) rfl (pe_ix (ix_K (K := K) rfl) (pv 0) pe_int (fun _ _ => rfl))) (blkOk_by (own := [("_law_one", 3)]) (N := nm) (sc := scp) (by decide +kernel)) (fun _ _ _ _ _ => (pg_name (i := 3) nd rfl (by first | exact Or.inl rfl | exact Or.inr rfl))) (fun _ _ _ _ _ => pts_one (pt_cmpR (op_neK (K := K) rfl hr.units) (pv 3) (pv 2) (nomark _))) (fun _ _ _ _ _ => (pv 3))) pa_nil)))))), fun vs Q h => end_rtn h ?_⟩
  try dsimp only [cx_K]
  rintro _ _ _ _ (⟨hm⟩ | ⟨hm⟩)
  · rename_i M W v
    refine rtn_seqR (rtn_if (b := true) (EvT.c (evt_test (K := K) (ev_op (ev_var rfl) ev_int ope_eqi)) rfl) (fun _ => rtn_ret (ev_tupD (evad_cons (ev_ixt (ev_var rfl) rfl) (evad_cons (Evl.c (ev_cb (eva_cons (ev_op (ev_ixt (ev_var rfl) rfl) (ev_lstD (evad_cons (ev_var rfl) evad_nil)) (ope_catLD (by rw [List.length_map]; exact Nat.le_trans (Nat.add_le_add_right hm 1) (by decide)))) eva_nil) (P := Dd K (.list ((sortD wayD (W.ways ++ [v])).map wayD))) ?_) rfl) evad_nil)))) (fun z => by cases z))
    have e : (W.ways.map wayD ++ [wayD v]) = (W.ways ++ [v]).map wayD := by rw [List.map_append]; rfl
    rw [e]
    exact cbe_sortD (K := K) (enc := wayD) (PySem.W.AllAlike.of fun _ _ => rfl) (PySem.W.Sortable.tuples fun x => ⟨_, _, rfl⟩) (by rw [List.length_append]; exact Nat.le_trans (Nat.add_le_add_right hm 1) (by decide)) fun x _ => by simp [PyData.depth, PyData.depthAll]
  · rename_i M W v
    exact rtn_seq (nrm_if (b := false) (EvT.c (evt_test (K := K) (ev_op (ev_var rfl) ev_int ope_eqi)) rfl) (fun z => by cases z) fun _ => nrm_next) (rtn_ret (ev_tupD (evad_cons (ev_ixt (ev_var rfl) rfl) (evad_cons (ev_lcL (K := K) W.ways wayD wayD (fun u => !decide (u = v)) (ev_ixt (ev_var rfl) rfl) (small8 hm) fun u hu D c hD => turn_if (evgw_name (by decide)) (evt_test (K := K) (ev_op (ev_var rfl) (ev_var rfl) ope_neWay)) fun _ => ev_var rfl) evad_nil))))
end
end Z
set_option maxRecDepth 100000
set_option maxHeartbeats 4000000
/-! L6: what the law keeps: its state, the night, the reel. Own work. -/
namespace Z
open PySem PySem.Spec L2
local macro_rules | `(tactic| walk_at "ev") => `(tactic| repeat' (first
  | with_reducible apply eva_nil
  | ((with_reducible apply ev_var); rfl)
  | with_reducible apply ev_int
  | with_reducible apply ev_str
  | with_reducible apply ev_bl
  | with_reducible apply ev_non
  | ((with_reducible show PySem.W.Frag); assumption)
  | with_reducible apply eva_cons
  | with_reducible apply ev_cb
  | with_reducible apply ev_op
  | with_reducible apply cbe_min2
  | with_reducible apply cbe_max2
  | with_reducible apply ope_I
  | with_reducible apply ope_B
  | with_reducible apply ope_isN
  | with_reducible apply ope_notN
  | with_reducible apply ope_eqi
  | with_reducible apply ope_nei
  | with_reducible apply ope_eqs
  | with_reducible apply ope_nes
  | with_reducible apply evt_test
  | with_reducible apply rtn_ret))
section
variable {P : Program} {w : World} {K : PySem.W.Frag} {mg : Str → Option Value} {base : Heap}
variable {G G1 G2 : Gm} {M M1 M2 M3 : OM}
/-- what the law notes -/
structure LV where
  web : Web
  now : Int
  cries : List Cr
  ds : List Deed
  webs : List Web
/-- where it stands -/
structure LA where
  r : Addr
  t : Addr
  c : Addr
  p : Addr
  w : Addr
  a : NA3
def rowD (c : Cr) : PyData := .tuple [.str c.nm, .int c.since, webD c.web, .list (c.lot.map .str)]
abbrev tCell (K : PySem.W.Frag) (l : LA) (v : LV) : OC := .lst [Dd K (webD v.web), Dd K (.int v.now), Rf l.c, Rf l.p, Rf l.w]
abbrev cCell (K : PySem.W.Frag) (v : LV) : OC := .lst (v.cries.map fun c => Dd K (rowD c))
abbrev pCell (K : PySem.W.Frag) (v : LV) : OC := .lst (v.ds.map fun d => Dd K (deedD d))
abbrev wCell (K : PySem.W.Frag) (v : LV) : OC := .lst (v.webs.map fun W => Dd K (webD W))
def stM (K : PySem.W.Frag) (M : OM) (l : LA) (v : LV) : OM := (((M.set l.t (tCell K l v)).set l.c (cCell K v)).set l.p (pCell K v)).set l.w (wCell K v)
def lwM (K : PySem.W.Frag) (M : OM) (l : LA) (v : LV) (s : Snap) (past : List Snap) (ds : List Deed) : OM := ntM K (stM K M l v) l.a s past ds
structure LwOk (K : PySem.W.Frag) (M : OM) (l : LA) : Prop where
  tb : Tb K M
  reel : IsReel K l.r M
  nd : [l.t, l.c, l.p, l.w, l.a.x, l.a.p, l.a.q].Nodup
  fr : ∀ b ∈ [l.t, l.c, l.p, l.w, l.a.x, l.a.p, l.a.q], M b = none
section
variable {l : LA} {v v' : LV} {s s' : Snap} {past : List Snap} {ds : List Deed} (ok : LwOk K M l)
include ok
theorem LwOk.rne {b : Addr} (h : b ∈ [l.t, l.c, l.p, l.w, l.a.x, l.a.p, l.a.q]) : l.r ≠ b := fun z => by
  obtain ⟨x, y, g, e⟩ := ok.reel
  rw [z, ok.fr b h] at e; cases e
theorem lw_t : lwM K M l v s past ds l.t = some (tCell K l v) := by
  have nd := ok.nd
  simp only [List.nodup_cons, List.mem_cons, List.not_mem_nil, not_or, or_false] at nd
  unfold lwM ntM stM OM.set
  simp [nd]
theorem lw_c : lwM K M l v s past ds l.c = some (cCell K v) := by
  have nd := ok.nd
  simp only [List.nodup_cons, List.mem_cons, List.not_mem_nil, not_or, or_false] at nd
  unfold lwM ntM stM OM.set
  simp [nd]
theorem lw_p : lwM K M l v s past ds l.p = some (pCell K v) := by
  have nd := ok.nd
  simp only [List.nodup_cons, List.mem_cons, List.not_mem_nil, not_or, or_false] at nd
  unfold lwM ntM stM OM.set
  simp [nd]
theorem lw_w : lwM K M l v s past ds l.w = some (wCell K v) := by
  have nd := ok.nd
  simp only [List.nodup_cons, List.mem_cons, List.not_mem_nil, not_or, or_false] at nd
  unfold lwM ntM stM OM.set
  simp [nd]
theorem lw_o {b : Addr} (h : b ∉ [l.t, l.c, l.p, l.w, l.a.x, l.a.p, l.a.q]) : lwM K M l v s past ds b = M b := by
  simp only [List.mem_cons, List.not_mem_nil, not_or, or_false] at h
  unfold lwM ntM stM OM.set
  simp [h]
theorem lw_r : IsReel K l.r (lwM K M l v s past ds) := by
  obtain ⟨x, y, g, e⟩ := ok.reel
  refine ⟨x, y, g, ?_⟩
  rw [lw_o ok (fun h => ok.rne h rfl)]; exact e
theorem lw_nt : NtOk K (stM K M l v) l.a := by
  have nd := ok.nd
  have nr : [l.t, l.c, l.p, l.w, l.a.x, l.a.p, l.a.q].reverse.Nodup := List.pairwise_reverse.mpr (ok.nd.imp fun h => Ne.symm h)
  have fr := ok.fr
  simp only [List.nodup_cons, List.mem_cons, List.not_mem_nil, not_or, or_false, List.reverse_cons, List.reverse_nil, List.nil_append, List.cons_append] at nd nr
  have ft := fr l.t (by simp)
  have fc := fr l.c (by simp)
  have fp := fr l.p (by simp)
  have fw := fr l.w (by simp)
  have fx := fr l.a.x (by simp)
  have fy := fr l.a.p (by simp)
  have fz := fr l.a.q (by simp)
  refine ⟨?_, by simp [nd], by simp [nd], by simp [nd], ?_, ?_, ?_⟩
  · have h1 := ok.tb.new (c := tCell K l v) ft rfl
    have h2 := h1.new (p := l.c) (c := cCell K v) (by unfold OM.set; simp [nr, fc]) rfl
    have h3 := h2.new (p := l.p) (c := pCell K v) (by unfold OM.set; simp [nr, fp]) rfl
    exact h3.new (p := l.w) (c := wCell K v) (by unfold OM.set; simp [nr, fw]) rfl
  · unfold stM OM.set; simp [nr, fx]
  · unfold stM OM.set; simp [nr, fy]
  · unfold stM OM.set; simp [nr, fz]
theorem lw_setr {a b : Int} (g : GoodB b) : (lwM K M l v s past ds).set l.r (reelC K a b) = lwM K (M.set l.r (reelC K a b)) l v s past ds := by
  have n := @LwOk.rne K M l ok
  have n1 := n (b := l.t) (by simp)
  have n2 := n (b := l.c) (by simp)
  have n3 := n (b := l.p) (by simp)
  have n4 := n (b := l.w) (by simp)
  have n5 := n (b := l.a.x) (by simp)
  have n6 := n (b := l.a.p) (by simp)
  have n7 := n (b := l.a.q) (by simp)
  unfold lwM ntM stM
  rw [OM.set_comm n1, OM.set_comm n2, OM.set_comm n3, OM.set_comm n4, OM.set_comm n5, OM.set_comm n6, OM.set_comm n7]
theorem LwOk.drawn {m : OM} (d : Drawn K l.r M m) : LwOk K m l := by
  have n := @LwOk.rne K M l ok
  have rl := ok.reel
  obtain ⟨a, b, g, rfl⟩ := d
  refine ⟨?_, ⟨a, b, g, OM.set_same⟩, ok.nd, fun x hx => by rw [OM.set_ne (Ne.symm (n hx))]; exact ok.fr x hx⟩
  obtain ⟨x, y, _, e⟩ := rl
  exact ok.tb.set (fun q z => by rw [e] at z; cases z) rfl
theorem lw_drawn {m : OM} (d : Drawn K l.r (lwM K M l v s past ds) m) : ∃ M', Drawn K l.r M M' ∧ LwOk K M' l ∧ m = lwM K M' l v s past ds := by
  obtain ⟨a, b, g, rfl⟩ := d
  have d' : Drawn K l.r M (M.set l.r (reelC K a b)) := ⟨a, b, g, rfl⟩
  exact ⟨_, d', ok.drawn d', lw_setr ok g⟩
theorem lw_sett {web : Web} {now : Int} : (lwM K M l v s past ds).set l.t (tCell K l { v with web := web, now := now }) = lwM K M l { v with web := web, now := now } s past ds := by
  funext x
  unfold lwM ntM stM OM.set
  by_cases e : x = l.t
  · subst e
    have nd := ok.nd
    simp only [List.nodup_cons, List.mem_cons, List.not_mem_nil, not_or, or_false] at nd
    simp [nd]
  · simp [e]
theorem lw_setc {cries : List Cr} : (lwM K M l v s past ds).set l.c (cCell K { v with cries := cries }) = lwM K M l { v with cries := cries } s past ds := by
  have nd := ok.nd
  simp only [List.nodup_cons, List.mem_cons, List.not_mem_nil, not_or, or_false] at nd
  funext x
  unfold lwM ntM stM OM.set
  by_cases e : x = l.c
  · subst e; simp [nd]
  · simp [e]
theorem lw_setp {es : List Deed} : (lwM K M l v s past ds).set l.p (pCell K { v with ds := es }) = lwM K M l { v with ds := es } s past ds := by
  have nd := ok.nd
  simp only [List.nodup_cons, List.mem_cons, List.not_mem_nil, not_or, or_false] at nd
  funext x
  unfold lwM ntM stM OM.set
  by_cases e : x = l.p
  · subst e; simp [nd]
  · simp [e]
theorem lw_setw {webs : List Web} : (lwM K M l v s past ds).set l.w (wCell K { v with webs := webs }) = lwM K M l { v with webs := webs } s past ds := by
  have nd := ok.nd
  simp only [List.nodup_cons, List.mem_cons, List.not_mem_nil, not_or, or_false] at nd
  funext x
  unfold lwM ntM stM OM.set
  by_cases e : x = l.w
  · subst e; simp [nd]
  · simp [e]
end
end
end Z
set_option maxRecDepth 100000
set_option maxHeartbeats 4000000
/-! L8: a deed undone. Own work. -/
namespace Z
open PySem PySem.Spec L2
local macro_rules | `(tactic| walk_at "ev") => `(tactic| repeat' (first
  | with_reducible apply eva_nil
  | ((with_reducible apply ev_var); rfl)
  | with_reducible apply ev_int
  | with_reducible apply ev_str
  | with_reducible apply ev_bl
  | with_reducible apply ev_non
  | ((with_reducible show PySem.W.Frag); assumption)
  | with_reducible apply eva_cons
  | with_reducible apply ev_cb
  | with_reducible apply ev_op
  | with_reducible apply cbe_min2
  | with_reducible apply cbe_max2
  | with_reducible apply ope_I
  | with_reducible apply ope_B
  | with_reducible apply ope_isN
  | with_reducible apply ope_notN
  | with_reducible apply ope_eqi
  | with_reducible apply ope_nei
  | with_reducible apply ope_eqs
  | with_reducible apply ope_nes
  | with_reducible apply evt_test
  | with_reducible apply rtn_ret))
section
variable {P : Program} {w : World} {K : PySem.W.Frag} {mg : Str → Option Value} {base : Heap}
variable {G G1 G2 : Gm} {M M1 M2 M3 : OM}
theorem pg_lstK {X : Cx} {K : PySem.W.Frag} {es : List Expr} {k : Nat} {t : TGs} {n : Nat} {pos : Pos} (hK : X.K = K) (hc : X.calm = true) (h : PGs X es t)
    (hn : (assignEach es X.env).length = n := by rfl) (hst : (assignEach es X.env).findIdx? (·.1) = none := by rfl) : PG X (.Tuple es k pos) (gLst K n t) := by subst hK; exact pg_lst hc h hn hst
theorem evg_lst {g : TGs} {ps : List Pr} {n : Nat} (h : EvGs G M ps g G1 M1) (hl : ps.length = n) : EvG G M (Ls K ps) (gLst K n g) G1 M1 := fun v σ H Q a q k => by
  obtain ⟨b, xs, rfl, h1, h2⟩ := q.here
  exact ⟨b, xs, rfl, Frz_le.seq h1, by rw [← h2.len]; exact hl, h xs σ H Q a h2 k⟩
abbrev noted (s : Snap) (ds : List Deed) (webs : List Web) : LV := ⟨s.web, s.at_, s.cries, ds, webs⟩
/-- the state's first four -/
theorem nrm_four {l : LA} {v : LV} {s : Snap} {past : List Snap} {ds : List Deed} (ok : LwOk K M l) {i a b c d : Nat} (hi : G[i]? = some (some (Rf l.t))) :
    Nrm G (lwM K M l v s past ds) (tAsg (tSl (rSlL K) (tVar i) tNoPart (tPart (tC (.int 4)))) (gLst K 4 (gCons (gName a) (gCons (gName b) (gCons (gName c) (gCons (gName d) gNil))))))
      ((((G.set a (some (Dd K (webD v.web)))).set b (some (Dd K (.int v.now)))).set c (some (Rf l.c))).set d (some (Rf l.p))) (lwM K M l v s past ds) :=
  nrm_asg (P := Ls K [Dd K (webD v.web), Dd K (.int v.now), Rf l.c, Rf l.p]) (Evl.c (ev_slO (lo := none) (hi := some 4) (ev_var hi) (lw_t ok) evo_no (evo_some (K := K) ev_int)) rfl) (evg_lst (evgs_cons evg_name (evgs_cons evg_name (evgs_cons evg_name (evgs_cons evg_name evgs_nil)))) rfl)
inductive RUndone (K : PySem.W.Frag) : Ctr
  | mk {M : OM} {l : LA} {s s' : Snap} {p : List Snap} {e : List Deed} {d : Deed} {W : List Web} (ok : LwOk K M l) (t : StepD s d s') (hw : OkWeb s'.web) (hw0 : OkWeb s.web) :
    RUndone K (lwM K M l (noted s' (e ++ [d]) (W ++ websOf s d)) s p e) [Rf l.t] (Dd K (.bool true)) (lwM K M l (noted s e W) s p e)
abbrev n_law_undone : List Str := ["_law_state", "_law_web_here", "_law_now", "_law_cries", "_law_past", "_law_deed"]
theorem sc_law_undone : FnScope n_law_undone ["_law_state"] (defScope (top 78)) := ⟨rfl, rfl, rfl, by decide +kernel, rfl, by decide +kernel, by decide +kernel⟩
theorem ok_law_undone (T : Tx K mg base) : Cal P w K mg base 2 "_law_undone" (SpR (RUndone K)) [] := by
  obtain ⟨fd, F⟩ := T.fd_law_undone
  have nd := sc_law_undone.nd
  let nm := n_law_undone
  let scp := defScope (top 78)
  have C_law_changed : Cal P w K mg base 1 "_law_changed" (SpR (RChanged K)) [] := ok_law_changed T
  refine cal_mk T.g__law_undone F (F.bindsN fun _ _ _ _ _ _ us hl => match us, hl with | [_], _ => rfl) (fn_ok (k := 1) F sc_law_undone (sp_len fun _ _ _ _ h => by cases h <;> rfl) fun cdv A outer s H E hr => ?_)
  have hu := hu_of hr
  refine ⟨_, (pss_cons (ps_asg (pe_slice (sl_listK (K := K) rfl) (pv 0) po_none (po_some pe_int)) (pg_lstK (K := K) (n := 4) rfl (by rfl) (pgs_cons (pg_name (i := 1) nd rfl (by first | exact Or.inl rfl | exact Or.inr rfl)) (pgs_cons (pg_name (i := 2) nd rfl (by first | exact Or.inl rfl | exact Or.inr rfl)) (pgs_cons (pg_name (i := 3) nd rfl (by first | exact Or.inl rfl | exact Or.inr rfl)) (pgs_cons (pg_name (i := 4) nd rfl (by first | exact Or.inl rfl | exact Or.inr rfl)) pgs_nil))))))
    (pss_cons (ps_set (i := 5) nd rfl (by first | exact Or.inl rfl | exact Or.inr rfl) (pe_bm0 PySem.F.plainAttrs_list PySem.F.slot_list_pop PySem.F.type_list_pop mt_pop (pv 4)))
    (pss_cons (ps_if (pt_cmpR (op_eqK (K := K) rfl hr.units) (pe_ix (ix_K (K := K) rfl) (pv 5) pe_int (fun _ _ => rfl)) pe_str (nomark _)) (pss_one (ps_expr (pe_bm0 PySem.F.plainAttrs_list PySem.F.slot_list_pop PySem.F.type_list_pop mt_pop (pv 3)))) (pss_one (ps_if (pt_cmpR (op_eqK (K := K) rfl hr.units) (pe_ix (ix_K (K := K) rfl) (pv 5) pe_int (fun _ _ => rfl)) pe_str (nomark _)) (pss_one (ps_asg (pe_op op_sub (pv 2) (pe_ix (ix_K (K := K) rfl) (pv 5) pe_int (fun _ _ => rfl))) (pg_sub (pv 0) pe_int set_list))) (pss_one (ps_if (pt_cmpR (op_eqK (K := K) rfl hr.units) (pe_ix (ix_K (K := K) rfl) (pv 5) pe_int (fun _ _ => rfl)) pe_str (nomark _)) (pss_one (ps_asg (pe_c C_law_changed hr (by decide) (by rfl) (pa_cons (pv 1) (pa_cons pe_int (pa_cons (pe_callTy (call_tuple_ofK (K := K) rfl) (by rfl) T.f_tuple (by decide +kernel) (pa_cons (pe_slice (sl_tupK (K := K) rfl) (pv 5) (po_some pe_int) po_none) pa_nil)) pa_nil)))) (pg_sub (pv 0) pe_int set_list))) (pss_one (ps_asg (pe_bm0 PySem.F.plainAttrs_list PySem.F.slot_list_pop PySem.F.type_list_pop mt_pop (pe_ix (ix_K (K := K) rfl) (pv 0) pe_int (fun _ _ => rfl))) (pg_sub (pv 0) pe_int set_list))))))))
    (pss_one (ps_ret pe_bl))))), fun vs Q h => end_rtn h ?_⟩
  try dsimp only [cx_K]
  rintro _ _ _ _ ⟨ok, t, hw, hw0⟩
  rename_i M l s s' p e d W
  let G0 := gam n_law_undone [Rf l.t]
  let v0 := noted s' (e ++ [d]) (W ++ websOf s d)
  let v1 := noted s' e (W ++ websOf s d)
  refine rtn_seq (nrm_four ok rfl) ?_
  have hp : lwM K M l v0 s p e l.p = some (.lst ((e.map fun d => Dd K (deedD d)) ++ [Dd K (deedD d)])) := by
    rw [lw_p ok]
    show some (OC.lst ((e ++ [d]).map _)) = _
    rw [List.map_append]; rfl
  refine rtn_seq (M1 := lwM K M l v1 s p e) (nrm_set (P := Dd K (deedD d)) (Evl.c (ev_popL (ev_var rfl) hp) rfl (lw_setp ok (v := v0) (es := e)))) ?_
  cases t with
  | begin ho hn hf =>
    rename_i nm lot
    refine rtn_seq (M1 := lwM K M l (noted s e W) s p e) (nrm_if (b := true) (EvT.c (evt_test (K := K) (ev_op (ev_op (ev_var rfl) ev_int (ope_ixTD rfl)) ev_str ope_eqs)) (by decide)) (fun _ => nrm_drop (Evl.c (ev_popL (ev_var rfl) (P := Dd K (rowD ⟨nm, s.at_, s.web, lot⟩)) (ps := s.cries.map fun c => Dd K (rowD c)) ?_) rfl ?_)) (fun z => by cases z)) (rtn_ret ev_bl)
    · rw [lw_c ok]
      show some (OC.lst ((s.cries ++ [_]).map _)) = _
      rw [List.map_append]; rfl
    · have := lw_setc (K := K) (M := M) (s := s) (past := p) (ds := e) ok (v := v1) (cries := s.cries)
      refine this.trans ?_
      show lwM K M l (noted s e (W ++ [])) s p e = _
      rw [List.append_nil]
  | go h0 h1 =>
    rename_i n
    refine rtn_seq (M1 := lwM K M l (noted s e W) s p e) (nrm_if (b := false) (EvT.c (evt_test (K := K) (ev_op (ev_op (ev_var rfl) ev_int (ope_ixTD rfl)) ev_str ope_eqs)) (by decide)) (fun z => by cases z) fun _ => nrm_if (b := true) (EvT.c (evt_test (K := K) (ev_op (ev_op (ev_var rfl) ev_int (ope_ixTD rfl)) ev_str ope_eqs)) (by decide)) (fun _ => nrm_asg (P := Dd K (.int s.at_)) (Evl.c (ev_op (ev_var rfl) (ev_op (ev_var rfl) ev_int (ope_ixTD rfl)) ope_I) ?_) (EvG.c (evg_setO (K := K) (ev_var rfl) ev_int (lw_t ok) rfl) ?_)) (fun z => by cases z)) (rtn_ret ev_bl)
    · show Dd K (.int (s.at_ + n - n)) = _
      rw [Int.add_sub_cancel]
    · have := lw_sett (K := K) (M := M) (s := s) (past := p) (ds := e) ok (v := v1) (web := s.web) (now := s.at_)
      refine Eq.trans ?_ (this.trans ?_)
      · rfl
      · show lwM K M l (noted s e (W ++ [])) s p e = _
        rw [List.append_nil]
  | add hv hn hb =>
    rename_i v
    refine rtn_seq (M1 := lwM K M l (noted s e W) s p e) (nrm_if (b := false) (EvT.c (evt_test (K := K) (ev_op (ev_op (ev_var rfl) ev_int (ope_ixTD rfl)) ev_str ope_eqs)) (by decide)) (fun z => by cases z) fun _ => nrm_if (b := false) (EvT.c (evt_test (K := K) (ev_op (ev_op (ev_var rfl) ev_int (ope_ixTD rfl)) ev_str ope_eqs)) (by decide)) (fun z => by cases z) fun _ => nrm_if (b := true) (EvT.c (evt_test (K := K) (ev_op (ev_op (ev_var rfl) ev_int (ope_ixTD rfl)) ev_str ope_eqs)) (by decide)) (fun _ => nrm_asg (M1 := lwM K M l v1 s p e) (P := Dd K (webD s.web)) (Evl.c (ev_call (eva_cons (ev_var rfl) (eva_cons ev_int (eva_cons (ev_cb (P := Dd K (wayD v)) (eva_cons (ev_slT (K := K) (lo := some 1) (hi := none) (ps := [Dd K (.str "add"), Dd K (.str v.1), Dd K (.str v.2.1), Dd K (.int v.2.2)]) (Evl.st (ev_var (P := Dd K (deedD (.add v))) rfl) fun u F q => tp_dd q) (evo_some (K := K) ev_int) evo_no (show ¬ (HT.sIx 4 0 (some 1) = 0 ∧ HT.sIx 4 4 none = 4) by decide)) eva_nil) ?_) eva_nil))) (RChanged.cut (W := addWay s.web v) (v := v) hw.many)) (by rw [cut_add hw0 hn])) (EvG.c (evg_setO (K := K) (ev_var rfl) ev_int (lw_t ok) rfl) ?_)) (fun z => by cases z)) (rtn_ret ev_bl)
    · intro vs H Q w h k
      refine cbe_tupT (K := K) (ps := [Dd K (.str v.1), Dd K (.str v.2.1), Dd K (.int v.2.2)]) vs H Q w h fun u H' s q => k u H' s (dd_tp q)
    · have := lw_sett (K := K) (M := M) (s := s) (past := p) (ds := e) ok (v := v1) (web := s.web) (now := s.at_)
      refine Eq.trans ?_ (this.trans ?_)
      · rfl
      · show lwM K M l (noted s e (W ++ [])) s p e = _
        rw [List.append_nil]
  | lose hv hb =>
    rename_i v
    have hw1 : lwM K M l v1 s p e l.w = some (.lst ((W.map fun W => Dd K (webD W)) ++ [Dd K (webD s.web)])) := by
      rw [lw_w ok]
      show some (OC.lst ((W ++ [s.web]).map _)) = _
      rw [List.map_append]; rfl
    have ew : (lwM K M l v1 s p e).set l.w (.lst (W.map fun W => Dd K (webD W))) = lwM K M l { v1 with webs := W } s p e := lw_setw ok (v := v1) (webs := W)
    refine rtn_seq (M1 := lwM K M l (noted s e W) s p e) (nrm_if (b := false) (EvT.c (evt_test (K := K) (ev_op (ev_op (ev_var rfl) ev_int (ope_ixTD rfl)) ev_str ope_eqs)) (by decide)) (fun z => by cases z) fun _ => nrm_if (b := false) (EvT.c (evt_test (K := K) (ev_op (ev_op (ev_var rfl) ev_int (ope_ixTD rfl)) ev_str ope_eqs)) (by decide)) (fun z => by cases z) fun _ => nrm_if (b := false) (EvT.c (evt_test (K := K) (ev_op (ev_op (ev_var rfl) ev_int (ope_ixTD rfl)) ev_str ope_eqs)) (by decide)) (fun z => by cases z) fun _ => nrm_asg (P := Dd K (webD s.web)) (Evl.c (ev_popL (ev_op (ev_var rfl) ev_int (ope_ixO (P := Rf l.w) (lw_t ok) rfl)) hw1) rfl ew) (EvG.c (evg_setO (K := K) (ev_var rfl) ev_int (lw_t ok) rfl) ?_)) (rtn_ret ev_bl)
    exact lw_sett (K := K) (M := M) (s := s) (past := p) (ds := e) ok (v := { v1 with webs := W }) (web := s.web) (now := s.at_)
end
end Z
set_option maxRecDepth 100000
set_option maxHeartbeats 4000000
/-! L7: does the night tell what the law says. Own work. -/
namespace Z
open PySem PySem.Spec L2
local macro_rules | `(tactic| walk_at "ev") => `(tactic| repeat' (first
  | with_reducible apply eva_nil
  | ((with_reducible apply ev_var); rfl)
  | with_reducible apply ev_int
  | with_reducible apply ev_str
  | with_reducible apply ev_bl
  | with_reducible apply ev_non
  | ((with_reducible show PySem.W.Frag); assumption)
  | with_reducible apply eva_cons
  | with_reducible apply ev_cb
  | with_reducible apply ev_op
  | with_reducible apply cbe_min2
  | with_reducible apply cbe_max2
  | with_reducible apply ope_I
  | with_reducible apply ope_B
  | with_reducible apply ope_isN
  | with_reducible apply ope_notN
  | with_reducible apply ope_eqi
  | with_reducible apply ope_nei
  | with_reducible apply ope_eqs
  | with_reducible apply ope_nes
  | with_reducible apply evt_test
  | with_reducible apply rtn_ret))
section
variable {P : Program} {w : World} {K : PySem.W.Frag} {mg : Str → Option Value} {base : Heap}
variable {G G1 G2 : Gm} {M M1 M2 M3 : OM}
theorem ev_at {i : Nat} (P : Pr) (h : G[i]? = some (some P) := by kernel_rfl) : Evl G M (tVar i) P M := ev_var h
theorem evgw_tup4 {a b c d : Nat} {vs : List Nat} {d1 d2 d3 d4 : PyData} (ha : a ∈ vs) (hb : b ∈ vs) (hc : c ∈ vs) (hd : d ∈ vs) : EvGw G M (Dd K (.tuple [d1, d2, d3, d4])) (gTup K 4 (gCons (gName a) (gCons (gName b) (gCons (gName c) (gCons (gName d) gNil))))) vs
    ((((G.set a (some (Dd K d1))).set b (some (Dd K d2))).set c (some (Dd K d3))).set d (some (Dd K d4))) M :=
  evgw_tupD (ds := [d1, d2, d3, d4]) (evgsw_cons (evgw_name ha) (evgsw_cons (evgw_name hb) (evgsw_cons (evgw_name hc) (evgsw_cons (evgw_name hd) evgsw_nil)))) rfl
theorem evg_tup4 {a b c d : Nat} {d1 d2 d3 d4 : PyData} : EvG G M (Dd K (.tuple [d1, d2, d3, d4])) (gTup K 4 (gCons (gName a) (gCons (gName b) (gCons (gName c) (gCons (gName d) gNil)))))
    ((((G.set a (some (Dd K d1))).set b (some (Dd K d2))).set c (some (Dd K d3))).set d (some (Dd K d4))) M :=
  evg_tupD (ds := [d1, d2, d3, d4]) (evgs_cons evg_name (evgs_cons evg_name (evgs_cons evg_name (evgs_cons evg_name evgs_nil)))) rfl
theorem ev_lenOF {α : Type} {f : α → Pr} {te : TE} {p : Addr} {l : List α} (h : Evl G M te (Rf p) M) (hp : M p = some (.lst (l.map f))) : Evl G M (tCB (fun xs H Q => ∃ x n, xs = [x] ∧ LenV K x H n ∧ Q (.int n) H) (tCons te tNil)) (Dd K (.int (l.length : Nat))) M := by
  have := ev_cb (eva_cons h eva_nil) (cbe_lenO (K := K) hp)
  rwa [List.length_map] at this
/-- one of an owned list -/
theorem evx_pickO {α : Type} {f : α → Pr} {te : TE} {t : L2.TA} {E : XK} {r p : Addr} {l : List α} (h : Evl G M te (Rf p) M) (hp : M p = some (.lst (l.map f))) (ha : EvA G M t [Rf r, Dd K (.int (l.length : Nat))] M) (hr : IsReel K r M) (hpr : p ≠ r) (hn : l ≠ []) (hl : l.length ≤ 1000) : EvlX G M (tOp (rIx K) te (tCall (SpX (RDraw K)) [] E t)) (fun P m => ∃ x, x ∈ l ∧ P = f x ∧ Drawn K r M m) := by
  have : 0 < l.length := List.length_pos_iff.mpr hn
  refine evx_opR h (evx_draw ha hr (by omega) (by omega)) ?_
  rintro _ m ⟨n, h0, h1, rfl, d⟩
  obtain ⟨i, rfl⟩ := Int.eq_ofNat_of_zero_le h0
  have hi : i < l.length := by omega
  obtain ⟨a, b, g, rfl⟩ := d
  have hp' : (M.set r (reelC K a b)) p = some (.lst (l.map f)) := by rw [OM.set_ne hpr]; exact hp
  exact ⟨_, _, ope_ixO (P := f l[i]) hp' (by rw [atI_nat (by rw [List.length_map]; exact hi), List.getElem?_map, List.getElem?_eq_getElem hi]; rfl), l[i], List.getElem_mem hi, rfl, a, b, g, rfl⟩
theorem rtnx_seqN {t u : TS} {Ψ : PsE} (h1 : Nrm G M t G1 M1) (h2 : RtnX G1 M1 u Ψ) : RtnX G M (tSeq t u) Ψ := fun σ H D a k =>
  h1 σ H _ a fun σ1 H1 s1 a1 => h2 σ1 H1 D a1 fun P2 M2 v2 H2 e2 s2 q2 => k P2 M2 v2 H2 e2 (s1.trans s2) q2
theorem rtnx_seqR {t u : TS} {Ψ : PsE} (h1 : RtnX G M t Ψ) : RtnX G M (tSeq t u) Ψ := fun σ H D a k => h1 σ H _ a k
theorem plain_row (c : Cr) : (rowD c).plain = true := by
  show (true && (true && ((webD c.web).plain && (PyData.plainAll (c.lot.map .str) && true)))) = true
  rw [plain_strs, plain_web]; rfl
theorem uniq_name {l : List Cr} (nd : (l.map (·.nm)).Nodup) {c : Cr} (h : c ∈ l) : l.filter (fun d => decide (d.nm = c.nm)) = [c] := by
  induction l with
  | nil => cases h
  | cons x l ih =>
    rw [List.map_cons, List.nodup_cons] at nd
    rcases List.mem_cons.mp h with e | hc
    · subst e
      rw [List.filter_cons_of_pos (by simp)]
      have : l.filter (fun d => decide (d.nm = c.nm)) = [] := by
        rw [List.filter_eq_nil_iff]
        intro u q q2
        exact nd.1 (List.mem_map.mpr ⟨u, q, of_decide_eq_true q2⟩)
      rw [this]
    · have nx : ¬ (decide (x.nm = c.nm) = true) := fun q => nd.1 (by rw [of_decide_eq_true q]; exact List.mem_map.mpr ⟨c, hc, rfl⟩)
      rw [List.filter_cons_of_neg (p := fun d : Cr => decide (d.nm = c.nm)) nx]
      exact ih nd.2 hc
inductive RLTold (K : PySem.W.Frag) : CtrX
  | mk {M : OM} {l : LA} {s : Snap} {past : List Snap} {ds : List Deed} {webs : List Web} (ok : LwOk K M l) (f : Fine s) (hl : s.cries.length ≤ 60) (hd : ds.length ≤ 60) :
    RLTold K (lwM K M l (noted s ds webs) s past ds) [Rf l.r, Rf l.a.x, Rf l.t] (fun P m => P = Dd K (.bool true) ∧ ∃ M', LwOk K M' l ∧ m = lwM K M' l (noted s ds webs) s past ds)
abbrev n_law_told_right : List Str := ["_law_reel_here", "_law_some", "_law_state", "_law_web_here", "_law_now", "_law_cries", "_law_past", "_law_quiet_here", "_law_name_here", "_law_there", "_law_due", "_law_cry", "_law_begun", "_law_own", "_law_lot_here", "_law_spot_here", "_law_beats_here", "_law_row", "_law_beat"]
theorem sc_law_told_right : FnScope n_law_told_right ["_law_reel_here", "_law_some", "_law_state"] (defScope (top 74)) := ⟨rfl, rfl, rfl, by decide +kernel, rfl, by decide +kernel, by decide +kernel⟩
theorem ok_law_told_right (T : Tx K mg base) : Cal P w K mg base 12 "_law_told_right" (SpX (RLTold K)) [] := by
  obtain ⟨fd, F⟩ := T.fd_law_told_right
  have nd := sc_law_told_right.nd
  let nm := n_law_told_right
  let scp := defScope (top 74)
  have C_Night_beat_now : Met P w K mg base 1 (He.ga K "Night") "beat_now" (SpR (RBeatNow K)) := ok_Night_beat_now T
  have C_Night_cries : Met P w K mg base 1 (He.ga K "Night") "cries" (SpR (RCries K)) := ok_Night_cries T
  have C_Night_cries_heard : Met P w K mg base 10 (He.ga K "Night") "cries_heard" (SpR (RCHeard K)) := ok_Night_cries_heard T
  have C_Night_heard_at : Met P w K mg base 10 (He.ga K "Night") "heard_at" (SpR (RHeardAt K)) := ok_Night_heard_at T
  have C_Night_history : Met P w K mg base 1 (He.ga K "Night") "history" (SpR (RHist K)) := ok_Night_history T
  have C_Night_len : Met P w K mg base 1 (He.ga K "Night") "__len__" (SpR (RLen K)) := ok_Night_len T
  have C_Night_quiet_cries : Met P w K mg base 10 (He.ga K "Night") "quiet_cries" (SpR (RQuiet K)) := ok_Night_quiet_cries T
  have C_Night_told : Met P w K mg base 9 (He.ga K "Night") "told" (SpR (RTold K)) := ok_Night_told T
  have C_Night_web_now : Met P w K mg base 2 (He.ga K "Night") "web_now" (SpR (RWebNow K)) := ok_Night_web_now T
  have C_hearings : Cal P w K mg base 8 "hearings" (SpR (RHear K)) [] := ok_hearings T
  have C_law_draw : Cal P w K mg base 1 "_law_draw" (SpX (RDraw K)) [] := ok_law_draw T
  have C_law_quiet : Cal P w K mg base 9 "_law_quiet" (SpR (RLQuiet K)) [] := ok_law_quiet T
  have C_law_spot : Cal P w K mg base 2 "_law_spot" (SpX (RLSpot K)) [] := ok_law_spot T
  have C_tellings_by : Cal P w K mg base 8 "tellings_by" (SpR (RTellBy K)) [] := ok_tellings_by T
  refine cal_mk T.g__law_told_right F (F.bindsN fun _ _ _ _ _ _ us hl => match us, hl with | [_, _, _], _ => rfl) (fn_ok (k := 11) F sc_law_told_right (spx_len fun _ _ _ h => by cases h <;> rfl) fun cdv A outer s H E hr => ?_)
  have hu := hu_of hr
  refine ⟨_, (pss_cons (ps_asg (pe_slice (sl_listK (K := K) rfl) (pv 2) po_none (po_some pe_int)) (pg_lstK (K := K) (n := 4) rfl (by rfl) (pgs_cons (pg_name (i := 3) nd rfl (by first | exact Or.inl rfl | exact Or.inr rfl)) (pgs_cons (pg_name (i := 4) nd rfl (by first | exact Or.inl rfl | exact Or.inr rfl)) (pgs_cons (pg_name (i := 5) nd rfl (by first | exact Or.inl rfl | exact Or.inr rfl)) (pgs_cons (pg_name (i := 6) nd rfl (by first | exact Or.inl rfl | exact Or.inr rfl)) pgs_nil))))))
    (pss_cons (ps_if (PW.pt (pw_or (pt_cmpR (op_neK (K := K) rfl hr.units) (pe_mt0 C_Night_beat_now hr (by decide) (pv 1)) (pv 4) (nomark _)) (pw_or (pt_cmpR (op_neK (K := K) rfl hr.units) (pe_mt0 C_Night_web_now hr (by decide) (pv 1)) (pv 3) (nomark _)) (pw_or1 (pt_cmpR (op_neK (K := K) rfl hr.units) (pe_mt0 C_Night_cries hr (by decide) (pv 1)) (pe_lc (own := [("_law_row", 17)]) (by rfl) nd (pi_listK (K := K) rfl (pv 5)) (blkOk_by (own := [("_law_row", 17)]) (N := nm) (sc := scp) (by decide +kernel)) (fun _ _ _ _ _ => (pg_name (i := 17) nd rfl (by first | exact Or.inl rfl | exact Or.inr rfl))) (fun _ _ _ _ _ => pts_nil) (fun _ _ _ _ _ => (pe_ix (ix_K (K := K) rfl) (pv 17) pe_int (fun _ _ => rfl)))) (nomark _)))))) (pss_one (ps_ret pe_bl)) pss_nil)
    (pss_cons (ps_if (PW.pt (pw_or (pt_cmpR (op_neK (K := K) rfl hr.units) (pe_mt0 C_Night_history hr (by decide) (pv 1)) (pv 6) (nomark _)) (pw_or1 (pt_cmpR (op_neK (K := K) rfl hr.units) (pe_callB (call_lenOwn C_Night_len hr (by decide)) (by rfl) T.f_len (by decide +kernel) (pa_cons (pv 1) pa_nil)) (pe_callB (call_lenK (K := K) rfl) (by rfl) T.f_len (by decide +kernel) (pa_cons (pv 6) pa_nil)) (nomark _))))) (pss_one (ps_ret pe_bl)) pss_nil)
    (pss_cons (ps_setLc (i := 7) (own := [("_law_cry", 11), ("_law_begun", 12), ("_law_own", 13), ("_law_lot_here", 14)]) (by rfl) nd rfl rfl (sw_true rfl rfl rfl (by decide +kernel)) (pi_listK (K := K) rfl (pv 5)) (blkOk_by (own := [("_law_cry", 11), ("_law_begun", 12), ("_law_own", 13), ("_law_lot_here", 14)]) (N := nm) (sc := scp) (by decide +kernel)) (fun _ _ _ _ _ => (pg_tupK (K := K) (n := 4) rfl (by rfl) (pgs_cons (pg_name (i := 11) nd rfl (by first | exact Or.inl rfl | exact Or.inr rfl)) (pgs_cons (pg_name (i := 12) nd rfl (by first | exact Or.inl rfl | exact Or.inr rfl)) (pgs_cons (pg_name (i := 13) nd rfl (by first | exact Or.inl rfl | exact Or.inr rfl)) (pgs_cons (pg_name (i := 14) nd rfl (by first | exact Or.inl rfl | exact Or.inr rfl)) pgs_nil)))))) (fun _ _ _ _ _ => pts_one (pt_val (pe_c C_law_quiet hr (by decide) (by rfl) (pa_cons (pv 12) (pa_cons (pv 13) (pa_cons (pv 14) (pa_cons (pv 4) pa_nil))))))) (fun _ _ _ _ _ => (pv 11)))
    (pss_cons (ps_if (pt_cmpR (op_neK (K := K) rfl hr.units) (pe_mt0 C_Night_quiet_cries hr (by decide) (pv 1)) (pv 7) (nomark _)) (pss_one (ps_ret pe_bl)) pss_nil)
    (pss_cons (ps_set (i := 8) nd rfl (by first | exact Or.inl rfl | exact Or.inr rfl) (pe_ix (ix_K (K := K) rfl) (pe_ix (ix_K (K := K) rfl) (pv 3) pe_int (fun _ _ => rfl)) (pe_c C_law_draw hr (by decide) (by rfl) (pa_cons (pv 0) (pa_cons (pe_callB (call_lenK (K := K) rfl) (by rfl) T.f_len (by decide +kernel) (pa_cons (pe_ix (ix_K (K := K) rfl) (pv 3) pe_int (fun _ _ => rfl)) pa_nil)) pa_nil))) (fun _ _ => rfl)))
    (pss_cons (ps_set (i := 9) nd rfl (by first | exact Or.inl rfl | exact Or.inr rfl) (pe_tup (pa_cons (pv 8) (pa_cons (pv 8) (pa_cons pe_int pa_nil)))))
    (pss_cons (ps_setLc (i := 10) (own := [("_law_cry", 11), ("_law_begun", 12), ("_law_own", 13), ("_law_lot_here", 14)]) (by rfl) nd rfl rfl (sw_true rfl rfl rfl (by decide +kernel)) (pi_listK (K := K) rfl (pv 5)) (blkOk_by (own := [("_law_cry", 11), ("_law_begun", 12), ("_law_own", 13), ("_law_lot_here", 14)]) (N := nm) (sc := scp) (by decide +kernel)) (fun _ _ _ _ _ => (pg_tupK (K := K) (n := 4) rfl (by rfl) (pgs_cons (pg_name (i := 11) nd rfl (by first | exact Or.inl rfl | exact Or.inr rfl)) (pgs_cons (pg_name (i := 12) nd rfl (by first | exact Or.inl rfl | exact Or.inr rfl)) (pgs_cons (pg_name (i := 13) nd rfl (by first | exact Or.inl rfl | exact Or.inr rfl)) (pgs_cons (pg_name (i := 14) nd rfl (by first | exact Or.inl rfl | exact Or.inr rfl)) pgs_nil)))))) (fun _ _ _ _ _ => pts_one (pt_cmpR (op_inK (K := K) rfl hr.units) (pe_op op_sub (pv 4) (pv 12)) (pe_c C_hearings hr (by decide) (by rfl) (pa_cons (pv 13) (pa_cons (pv 14) (pa_cons (pv 9) pa_nil)))) (by first | exact nomark _ | rfl))) (fun _ _ _ _ _ => (pv 11)))
    (pss_cons (ps_if (pt_cmpR (op_neK (K := K) rfl hr.units) (pe_mt C_Night_cries_heard hr (by decide) (pv 1) (pa_cons (pv 9) pa_nil)) (pv 10) (nomark _)) (pss_one (ps_ret pe_bl)) pss_nil)
    (pss_cons (ps_if (pt_cmpR (op_eqK (K := K) rfl hr.units) (pv 5) (pe_lst pa_nil) (nomark _)) (pss_one (ps_ret pe_bl)) pss_nil)
    (pss_cons (ps_asg (pe_ix (ix_K (K := K) rfl) (pv 5) (pe_c C_law_draw hr (by decide) (by rfl) (pa_cons (pv 0) (pa_cons (pe_callB (call_lenK (K := K) rfl) (by rfl) T.f_len (by decide +kernel) (pa_cons (pv 5) pa_nil)) pa_nil))) (fun _ _ => rfl)) (pg_tupK (K := K) (n := 4) rfl (by rfl) (pgs_cons (pg_name (i := 11) nd rfl (by first | exact Or.inl rfl | exact Or.inr rfl)) (pgs_cons (pg_name (i := 12) nd rfl (by first | exact Or.inl rfl | exact Or.inr rfl)) (pgs_cons (pg_name (i := 13) nd rfl (by first | exact Or.inl rfl | exact Or.inr rfl)) (pgs_cons (pg_name (i := 14) nd rfl (by first | exact Or.inl rfl | exact Or.inr rfl)) pgs_nil))))))
    (pss_cons (ps_set (i := 15) nd rfl (by first | exact Or.inl rfl | exact Or.inr rfl) (pe_c C_law_spot hr (by decide) (by rfl) (pa_cons (pv 0) (pa_cons (pv 13) pa_nil))))
    (pss_cons (ps_setLc (i := 16) (own := [("_law_beat", 18)]) (by rfl) nd rfl rfl (sw_true rfl rfl rfl (by decide +kernel)) (pi_listK (K := K) rfl (pe_c C_hearings hr (by decide) (by rfl) (pa_cons (pv 13) (pa_cons (pv 14) (pa_cons (pv 15) pa_nil))))) (blkOk_by (own := [("_law_beat", 18)]) (N := nm) (sc := scp) (by decide +kernel)) (fun _ _ _ _ _ => (pg_name (i := 18) nd rfl (by first | exact Or.inl rfl | exact Or.inr rfl))) (fun _ _ _ _ _ => pts_one (pt_cmpR op_le (pe_op op_add (pv 12) (pv 18)) (pv 4) (nomark _))) (fun _ _ _ _ _ => (pe_op op_add (pv 12) (pv 18))))
    (pss_one (ps_ret (pe_and (pe_cmpR (op_eqK (K := K) rfl hr.units) (pe_mt C_Night_told hr (by decide) (pv 1) (pa_cons (pv 11) pa_nil)) (pe_c C_tellings_by hr (by decide) (by rfl) (pa_cons (pv 13) (pa_cons (pv 14) (pa_cons (pe_op op_sub (pv 4) (pv 12)) pa_nil)))) (nomark _)) (pe_one (pe_cmpR (op_eqK (K := K) rfl hr.units) (pe_mt C_Night_heard_at hr (by decide) (pv 1) (pa_cons (pv 11) (pa_cons (pv 15) pa_nil))) (pv 16) (nomark _))))))))))))))))))), fun vs Q h => endx_rtn h ?_⟩
  try dsimp only [cx_K]
  rintro _ _ _ ⟨ok, f, hl, hd⟩
  rename_i M l s past ds webs
  let v : LV := noted s ds webs
  let m0 := lwM K M l v s past ds
  have nt := lw_nt (v := v) ok
  have hc : ∀ c ∈ s.cries, OkCr c := fun c h => (f.cries c h).1
  let G0 := gam n_law_told_right [Rf l.r, Rf l.a.x, Rf l.t]
  let G1 : Gm := (((G0.set 3 (some (Dd K (webD s.web)))).set 4 (some (Dd K (.int s.at_)))).set 5 (some (Rf l.c))).set 6 (some (Rf l.p))
  have tb : Tb K m0 := ntM_tb nt
  refine rtnx_seqN (G1 := G1) (M1 := m0) (nrm_asg (P := Ls K [Dd K (webD s.web), Dd K (.int s.at_), Rf l.c, Rf l.p]) (Evl.c (ev_slO (lo := none) (hi := some 4) (ev_var rfl) (lw_t ok) evo_no (evo_some (K := K) ev_int)) rfl) (evg_lst (evgs_cons evg_name (evgs_cons evg_name (evgs_cons evg_name (evgs_cons evg_name evgs_nil)))) rfl)) ?_
  refine rtnx_seqN (G1 := G1) (M1 := m0) (nrm_if (b := false) (evt_or' (b := false) (c := false) (EvT.c (evt_test (K := K) (ev_op (ev_methO (C := NC K) (dx := l.a.dx) (fs := ntF K s l.a.p l.a.q) (ev_var rfl) (ntM_x nt) rfl eva_nil (RBeatNow.mk nt)) (ev_var rfl) ope_nei)) (by simp)) (evt_or' (b := false) (c := false) (EvT.c (evt_test (K := K) (ev_op (ev_methO (C := NC K) (dx := l.a.dx) (fs := ntF K s l.a.p l.a.q) (ev_var rfl) (ntM_x nt) rfl eva_nil (RWebNow.mk nt)) (ev_var rfl) (ope_neP (plain_web _) (plain_web _) (by have := depth_web s.web; omega)))) (by rw [PySem.SeqAt.eqv_refl_plain _ (plain_web _)]; rfl)) (EvT.c (evt_test (K := K) (ev_op (ev_methO (C := NC K) (dx := l.a.dx) (fs := ntF K s l.a.p l.a.q) (ev_var rfl) (ntM_x nt) rfl eva_nil (RCries.mk nt (by omega))) (ls_imp (ds := (s.cries.map (·.nm)).map PyData.str) (Evl.c (ev_lcO (K := K) s.cries (fun c => Dd K (rowD c)) (fun c => Dd K (.str c.nm)) (fun _ => true) (ev_var rfl) (lw_c ok) (Nat.le_trans hl (by decide)) fun c h D cc hD => turn_all (evgw_name (by decide)) (ev_ixt (ev_var rfl) rfl)) ?_)) (ope_neP (plain_strs _) (plain_strs _) (by have := depth_strs (s.cries.map (·.nm)); simp only [PyData.depth]; omega)))) (by rw [PySem.SeqAt.eqv_refl_plain (.list (_ : List PyData)) (plain_strs _)]; rfl)))) (fun z => by cases z) fun _ => nrm_next) ?_
  · rw [List.filter_eq_self.mpr (fun _ _ => rfl), List.map_map, List.map_map]; rfl
  have pds : PyData.plainAll (ds.map deedD) = true := plain_map (fun d => by cases d with
    | begin nm lot => show (true && (true && (PyData.plainAll (lot.map .str) && true))) = true; rw [plain_strs]; rfl
    | go n => rfl
    | add v => rfl
    | lose a b => rfl) ds
  have dds : PyData.depthAll (ds.map deedD) ≤ 2 := depth_map (fun d => by cases d with
    | begin nm lot =>
      have := depth_strs lot
      show max 0 (max 0 (max (PyData.depthAll (lot.map .str) + 1) 0)) + 1 ≤ 2
      omega
    | go n => simp [deedD, PyData.depth, PyData.depthAll]
    | add v => simp [deedD, PyData.depth, PyData.depthAll]
    | lose a b => simp [deedD, PyData.depth, PyData.depthAll]) ds
  refine rtnx_seqN (G1 := G1) (M1 := m0) (nrm_if (b := false) (evt_or' (b := false) (c := false) (EvT.c (evt_test (K := K) (ev_op (ev_methO (C := NC K) (dx := l.a.dx) (fs := ntF K s l.a.p l.a.q) (ev_var rfl) (ntM_x nt) rfl eva_nil (RHist.mk nt (by omega))) (ev_var rfl) (ope_nePO (d := .list (ds.map deedD)) (ds := ds.map deedD) (by rw [List.map_map]; exact lw_p ok) pds pds (by simp only [PyData.depth]; omega)))) (by rw [PySem.SeqAt.eqv_refl_plain (.list (ds.map deedD)) pds]; rfl)) (EvT.c (evt_test (K := K) (ev_op (ev_cb (ps := [Rf l.a.x]) (eva_cons (ev_var rfl) eva_nil) (cbe_lenOwn (n := (ds.length : Nat)) (ntM_x nt) (by omega) (by omega) (RLen.mk nt))) (ev_cb (ps := [Rf l.p]) (eva_cons (ev_var rfl) eva_nil) (cbe_lenO (lw_p ok))) ope_nei)) (by rw [List.length_map]; show (!decide ((ds.length : Int) = (ds.length : Nat))) = false; simp))) (fun z => by cases z) fun _ => nrm_next) ?_
  let qs := (s.cries.filter fun c => decide (lastC c ≤ s.at_)).map (·.nm)
  let G2 := G1.set 7 (some (Dd K (.list (qs.map .str))))
  refine rtnx_seqN (G1 := G2) (M1 := m0) (nrm_set (ls_imp (ds := qs.map PyData.str) (Evl.c (ev_lcO (K := K) s.cries (fun c => Dd K (rowD c)) (fun c => Dd K (.str c.nm)) (fun c => decide (lastC c ≤ s.at_)) (ev_var rfl) (lw_c ok) (Nat.le_trans hl (by decide)) fun c h D cc hD => turn_if (evgw_tup4 (by decide) (by decide) (by decide) (by decide)) (evt_B (K := K) (ev_call (eva_cons (ev_at (Dd K (.int c.since))) (eva_cons (ev_at (Dd K (webD c.web))) (eva_cons (ev_at (Dd K (.list (c.lot.map .str)))) (eva_cons (ev_at (Dd K (.int s.at_))) eva_nil)))) (RLQuiet.mk (c := c) (now := s.at_) (tb.new hD rfl) (hc c h) (f.cries c h).2.2))) fun _ => ev_at (Dd K (.str c.nm))) (by rw [List.map_map, List.map_map]; rfl)))) ?_
  refine rtnx_seqN (G1 := G2) (M1 := m0) (nrm_if (b := false) (EvT.c (evt_test (K := K) (ev_op (ev_methO (C := NC K) (dx := l.a.dx) (fs := ntF K s l.a.p l.a.q) (ev_var rfl) (ntM_x nt) rfl eva_nil (RQuiet.mk nt (by omega) hc)) (ev_var rfl) (ope_neP (plain_strs _) (plain_strs _) (by have := depth_strs qs; simp only [PyData.depth]; omega)))) (by rw [PySem.SeqAt.eqv_refl_plain (.list (_ : List PyData)) (plain_strs _)]; rfl)) (fun z => by cases z) fun _ => nrm_next) ?_
  refine rtnx_seq (Φ := fun g m => ∃ x ∈ s.web.folk, ∃ M', LwOk K M' l ∧ g = G2.set 8 (some (Dd K (.str x))) ∧ m = lwM K M' l v s past ds) (NrmX.imp (nrmx_set (i := 8) (evx_pick (f := PyData.str) (l := s.web.folk) (ev_ixt (ev_at (Dd K (webD s.web))) rfl) (eva_cons (ev_at (Rf l.r)) (eva_cons (ev_lenF (ev_ixt (ev_at (Dd K (webD s.web))) rfl)) eva_nil)) (lw_r ok) f.web.f0 (by have := f.web.f8; omega))) ?_) ?_
  · rintro _ m ⟨_, ⟨x, hx, rfl, d⟩, rfl⟩
    obtain ⟨M', _, ok', rfl⟩ := lw_drawn ok d
    exact ⟨x, hx, M', ok', rfl, rfl⟩
  rintro _ _ ⟨x, hx, M', ok', rfl, rfl⟩
  clear tb nt ok
  have nt := lw_nt (v := v) ok'
  let m1 := lwM K M' l v s past ds
  have tb : Tb K m1 := ntM_tb nt
  let p : Place := (x, x, 0)
  have hp : OkPlace s.web p := ⟨f.web.names _ hx, f.web.names _ hx, .inl ⟨rfl, hx, rfl⟩⟩
  have hpc : ∀ c ∈ s.cries, OkCr c ∧ OkPlace c.web p := fun c h => ⟨hc c h, f.web.names _ hx, f.web.names _ hx, .inl ⟨rfl, by rw [(f.cries c h).2.1]; exact hx, rfl⟩⟩
  let G3 := (G2.set 8 (some (Dd K (.str x)))).set 9 (some (Dd K (wayD p)))
  refine rtnx_seqN (G1 := G3) (M1 := m1) (nrm_set (P := Dd K (wayD p)) (ev_tupD (evad_cons (ev_at (Dd K (.str x))) (evad_cons (ev_at (Dd K (.str x))) (evad_cons ev_int evad_nil))))) ?_
  let dn := (s.cries.filter fun c => decide (s.at_ - c.since ∈ hear c.web c.lot p)).map (·.nm)
  let G4 := G3.set 10 (some (Dd K (.list (dn.map .str))))
  refine rtnx_seqN (G1 := G4) (M1 := m1) (nrm_set (ls_imp (ds := dn.map PyData.str) (Evl.c (ev_lcO (K := K) s.cries (fun c => Dd K (rowD c)) (fun c => Dd K (.str c.nm)) (fun c => decide (s.at_ - c.since ∈ hear c.web c.lot p)) (ev_at (Rf l.c)) (lw_c ok') (Nat.le_trans hl (by decide)) fun c h D cc hD => turn_if (evgw_tup4 (by decide) (by decide) (by decide) (by decide)) (evt_test (K := K) (ev_op (ev_op (ev_at (Dd K (.int s.at_))) (ev_at (Dd K (.int c.since))) ope_I) (ev_call (eva_cons (ev_at (Dd K (webD c.web))) (eva_cons (ev_at (Dd K (.list (c.lot.map .str)))) (eva_cons (ev_at (Dd K (wayD p))) eva_nil))) (RHear.mk (tb.new hD rfl) (hc c h).web (hc c h).lot (hpc c h).2)) ope_ini)) fun _ => ev_at (Dd K (.str c.nm))) (by rw [List.map_map, List.map_map]; rfl)))) ?_
  have edn : (s.cries.filter fun c => decide (s.at_ ∈ (hear c.web c.lot p).map (c.since + ·))).map (·.nm) = dn := by
    have : (s.cries.filter fun c => decide (s.at_ ∈ (hear c.web c.lot p).map (c.since + ·))) = s.cries.filter fun c => decide (s.at_ - c.since ∈ hear c.web c.lot p) := List.filter_congr fun c _ => by
      rw [decide_eq_decide, List.mem_map]
      constructor
      · rintro ⟨n, h1, h2⟩
        have : s.at_ - c.since = n := by omega
        rw [this]; exact h1
      · intro h
        exact ⟨_, h, by omega⟩
    rw [this]
  refine rtnx_seqN (G1 := G4) (M1 := m1) (nrm_if (b := false) (EvT.c (evt_test (K := K) (ev_op (ev_methO (C := NC K) (dx := l.a.dx) (fs := ntF K s l.a.p l.a.q) (ev_at (Rf l.a.x)) (ntM_x nt) rfl (eva_cons (ev_at (Dd K (wayD p))) eva_nil) (RCHeard.mk nt (by omega) f.web hp hpc)) (ev_at (Dd K (.list (dn.map .str)))) (ope_neP (plain_strs _) (plain_strs _) (by have := depth_strs dn; simp only [PyData.depth]; omega)))) (by rw [edn, PySem.SeqAt.eqv_refl_plain (.list (_ : List PyData)) (plain_strs _)]; rfl)) (fun z => by cases z) fun _ => nrm_next) ?_
  have fin : (∃ M', LwOk K M' l ∧ lwM K M' l v s past ds = m1) := ⟨M', ok', rfl⟩
  by_cases hne : s.cries = []
  · refine rtnx_seqR (rtnx_if (b := true) (M1 := m1) (EvT.c (evt_test (K := K) (ev_op (ev_at (Rf l.c)) (ev_lstD evad_nil) (ope_eq0O (lw_c ok')))) ?_) (fun _ => rtnx_seqR (rtnx_ret ((Evl.x (ev_bl (K := K))).imp ?_))) fun z => by cases z)
    · show (s.cries.map _).isEmpty = true
      rw [hne]; rfl
    · rintro _ _ ⟨rfl, rfl⟩
      exact ⟨rfl, M', ok', rfl⟩
  refine rtnx_seqN (G1 := G4) (M1 := m1) (nrm_if (b := false) (EvT.c (evt_test (K := K) (ev_op (ev_at (Rf l.c)) (ev_lstD evad_nil) (ope_eq0O (lw_c ok')))) ?_) (fun z => by cases z) fun _ => nrm_next) ?_
  · show (s.cries.map _).isEmpty = false
    cases e : s.cries with
    | nil => exact absurd e hne
    | cons a b => rfl
  refine rtnx_seq (Φ := fun g m => ∃ c ∈ s.cries, ∃ M2, LwOk K M2 l ∧ g = ((((G4.set 11 (some (Dd K (.str c.nm)))).set 12 (some (Dd K (.int c.since)))).set 13 (some (Dd K (webD c.web)))).set 14 (some (Dd K (.list (c.lot.map .str))))) ∧ m = lwM K M2 l v s past ds) (nrmx_asg (evx_pickO (f := fun c => Dd K (rowD c)) (l := s.cries) (p := l.c) (ev_at (Rf l.c)) (lw_c ok') (eva_cons (ev_at (Rf l.r)) (eva_cons (ev_lenOF (f := fun c => Dd K (rowD c)) (l := s.cries) (ev_at (Rf l.c)) (lw_c ok')) eva_nil)) (lw_r ok') (Ne.symm (ok'.rne (by simp))) hne (by omega)) ?_) ?_
  · rintro _ m ⟨c, hcm, rfl, d⟩
    obtain ⟨M2, _, ok2, rfl⟩ := lw_drawn ok' d
    exact ⟨_, _, evg_tup4, c, hcm, M2, ok2, rfl, rfl⟩
  rintro _ _ ⟨c, hcm, M2, ok2, rfl, rfl⟩
  clear tb nt ok' fin
  obtain ⟨hcr, hcf, hcs⟩ := f.cries c hcm
  let G5 := ((((G4.set 11 (some (Dd K (.str c.nm)))).set 12 (some (Dd K (.int c.since)))).set 13 (some (Dd K (webD c.web)))).set 14 (some (Dd K (.list (c.lot.map .str)))))
  refine rtnx_seq (Φ := fun g m => ∃ q, OkPlace c.web q ∧ ∃ M3, LwOk K M3 l ∧ g = G5.set 15 (some (Dd K (wayD q))) ∧ m = lwM K M3 l v s past ds) (NrmX.imp (nrmx_set (i := 15) (evx_call (eva_cons (ev_at (Rf l.r)) (eva_cons (ev_at (Dd K (webD c.web))) eva_nil)) (RLSpot.mk (lw_r ok2) hcr.web))) ?_) ?_
  · rintro _ m ⟨_, ⟨q, hq, rfl, d⟩, rfl⟩
    obtain ⟨M3, _, ok3, rfl⟩ := lw_drawn ok2 d
    exact ⟨q, hq, M3, ok3, rfl, rfl⟩
  rintro _ _ ⟨q, hq, M3, ok3, rfl, rfl⟩
  have nt := lw_nt (v := v) ok3
  let m3 := lwM K M3 l v s past ds
  have tb : Tb K m3 := ntM_tb nt
  let bs := ((hear c.web c.lot q).map (c.since + ·)).filter fun n => decide (n ≤ s.at_)
  let G6 := (G5.set 15 (some (Dd K (wayD q)))).set 16 (some (Dd K (.list (bs.map .int))))
  refine rtnx_seqN (G1 := G6) (M1 := m3) (nrm_set (P := Dd K (.list (bs.map .int))) (Evl.c (ev_lcL (K := K) (hear c.web c.lot q) .int (fun n => .int (c.since + n)) (fun n => decide (c.since + n ≤ s.at_)) (ev_call (eva_cons (ev_at (Dd K (webD c.web))) (eva_cons (ev_at (Dd K (.list (c.lot.map .str)))) (eva_cons (ev_at (Dd K (wayD q))) eva_nil))) (RHear.mk tb hcr.web hcr.lot hq)) (Nat.le_trans hear_len (by decide)) fun n _ D cc hD => turn_if (evgw_name (by decide)) (evt_test (K := K) (ev_op (ev_op (ev_at (Dd K (.int c.since))) (ev_at (Dd K (.int n))) ope_I) (ev_at (Dd K (.int s.at_))) ope_B)) fun _ => ev_op (ev_at (Dd K (.int c.since))) (ev_at (Dd K (.int n))) ope_I) ?_)) ?_
  · show _ = Dd K (.list ((((hear c.web c.lot q).map (c.since + ·)).filter _).map .int))
    rw [List.filter_map, List.map_map]; rfl
  refine rtnx_ret ((Evl.x (Evl.c (ev_and' (ev_op (ev_methO (C := NC K) (dx := l.a.dx) (fs := ntF K s l.a.p l.a.q) (ev_at (Rf l.a.x)) (ntM_x nt) rfl (eva_cons (ev_at (Dd K (.str c.nm))) eva_nil) (RTold.mk nt (by omega) (uniq_name f.nd hcm) hcr (by omega))) (ev_call (eva_cons (ev_at (Dd K (webD c.web))) (eva_cons (ev_at (Dd K (.list (c.lot.map .str)))) (eva_cons (ev_op (ev_at (Dd K (.int s.at_))) (ev_at (Dd K (.int c.since))) ope_I) eva_nil))) (RTellBy.mk tb hcr.web hcr.lot (by omega))) ope_eqi) (ev_op (ev_methO (C := NC K) (dx := l.a.dx) (fs := ntF K s l.a.p l.a.q) (ev_at (Rf l.a.x)) (ntM_x nt) rfl (eva_cons (ev_at (Dd K (.str c.nm))) (eva_cons (ev_at (Dd K (wayD q))) eva_nil)) (RHeardAt.mk nt (by omega) (uniq_name f.nd hcm) hcr hq)) (ev_at (Dd K (.list (bs.map .int)))) (ope_eqP (plain_ints _) (plain_ints _) (by have := depth_ints bs; simp only [PyData.depth]; omega)))) (P' := Dd K (.bool true)) ?_)).imp ?_)
  · rw [decide_eq_true rfl, PySem.SeqAt.eqv_refl_plain (.list (_ : List PyData)) (plain_ints _)]; rfl
  · rintro _ _ ⟨rfl, rfl⟩
    exact ⟨rfl, M3, ok3, rfl⟩
end
end Z
set_option maxRecDepth 100000
set_option maxHeartbeats 4000000
/-! L9: a way more or less, or Busy. Own work. -/
namespace Z
open PySem PySem.Spec L2
local macro_rules | `(tactic| walk_at "ev") => `(tactic| repeat' (first
  | with_reducible apply eva_nil
  | ((with_reducible apply ev_var); rfl)
  | with_reducible apply ev_int
  | with_reducible apply ev_str
  | with_reducible apply ev_bl
  | with_reducible apply ev_non
  | ((with_reducible show PySem.W.Frag); assumption)
  | with_reducible apply eva_cons
  | with_reducible apply ev_cb
  | with_reducible apply ev_op
  | with_reducible apply cbe_min2
  | with_reducible apply cbe_max2
  | with_reducible apply ope_I
  | with_reducible apply ope_B
  | with_reducible apply ope_isN
  | with_reducible apply ope_notN
  | with_reducible apply ope_eqi
  | with_reducible apply ope_nei
  | with_reducible apply ope_eqs
  | with_reducible apply ope_nes
  | with_reducible apply evt_test
  | with_reducible apply rtn_ret))
section
variable {P : Program} {w : World} {K : PySem.W.Frag} {mg : Str → Option Value} {base : Heap}
variable {G G1 G2 : Gm} {M M1 M2 M3 : OM}
def Stood (K : PySem.W.Frag) (l : LA) (s0 : Snap) (k : Nat) (m : OM) : Prop := ∃ M s past ds webs, LwOk K M l ∧ Run s0 k s past ds webs ∧ m = lwM K M l (noted s ds webs) s past ds
theorem two_names {a b : Str} (h : a ≠ b) : sl (lesserT a b) (greaterT a b) = true ∧ (lesserT a b = a ∨ lesserT a b = b) ∧ (greaterT a b = a ∨ greaterT a b = b) := by
  unfold lesserT greaterT
  rcases sl_tot h with q | q
  · have q2 : PySem.W.dataLt (.str b) (.str a) = false := sl_asym q
    rw [q2, if_neg Bool.false_ne_true, if_pos (show PySem.W.dataLt (.str a) (.str b) = true from q)]
    exact ⟨q, .inl rfl, .inr rfl⟩
  · have q2 : PySem.W.dataLt (.str a) (.str b) = false := sl_asym q
    rw [q2, if_neg Bool.false_ne_true, if_pos (show PySem.W.dataLt (.str b) (.str a) = true from q)]
    exact ⟨q, .inr rfl, .inl rfl⟩
theorem len_split {α : Type} (p : α → Bool) : ∀ l : List α, (l.filter p).length + (l.filter fun a => !p a).length = l.length
  | [] => rfl
  | x :: l => by
    have := len_split p l
    cases e : p x with
    | true => rw [List.filter_cons_of_pos e, List.filter_cons_of_neg (by simp [e]), List.length_cons, List.length_cons]; omega
    | false => rw [List.filter_cons_of_neg (by simp [e]), List.filter_cons_of_pos (by simp [e]), List.length_cons, List.length_cons]; omega
theorem rtnx_stop {c : TT} {t u : TS} {b : Bool} {Ψ : PsE} (h : EvT G M c b M1) (h1 : b = true → RtnX G M1 t Ψ) (h2 : b = false → RtnX G M1 u Ψ) : RtnX G M (tSeq (tIfS c t tNext) u) Ψ := by
  cases b with
  | true => exact rtnx_seqR (rtnx_if h (fun _ => h1 rfl) fun z => by cases z)
  | false => exact rtnx_seqN (nrm_if h (fun z => by cases z) fun _ => nrm_next) (h2 rfl)
theorem calm_busy {α : Type} {f : Cr → α} {s : Snap} : ((s.cries.filter fun c => !decide (lastC c ≤ s.at_)).map f).isEmpty = !busy s := by
  have h := len_split (fun c => decide (lastC c ≤ s.at_)) s.cries
  unfold busy
  cases e : s.cries.filter fun c => !decide (lastC c ≤ s.at_) with
  | nil =>
    rw [e] at h
    have : ¬ (((s.cries.filter fun c => decide (lastC c ≤ s.at_)).length : Int) < (s.cries.length : Nat)) := by
      simp only [List.length_nil] at h; omega
    rw [decide_eq_false this]; rfl
  | cons x l =>
    rw [e] at h
    have : (((s.cries.filter fun c => decide (lastC c ≤ s.at_)).length : Int) < (s.cries.length : Nat)) := by
      simp only [List.length_cons] at h; omega
    rw [decide_eq_true this]; rfl
theorem any_pair {ws : List Way} {a b : Str} (h : ((ws.map fun u => prS u.1 u.2.1).any fun z => PyData.eqv z (prS a b)) = false) : ∀ u ∈ ws, ¬ (u.1 = a ∧ u.2.1 = b) := fun u hu e => by
  rw [List.any_eq_false] at h
  have := h (prS u.1 u.2.1) (List.mem_map.mpr ⟨u, hu, rfl⟩)
  rw [eqv_pr, decide_eq_true e.1, decide_eq_true e.2] at this
  exact this rfl
theorem ev_way2b {t : TE} {v : Way} (h : Evl G M t (Dd K (wayD v)) M) : Evl G M (tSl (rSlT K) t tNoPart (tPart (tC (.int 2)))) (Dd K (.tuple [.str v.1, .str v.2.1])) M := ev_way2 h
theorem pick_way (K : PySem.W.Frag) (v : Way) (kd : Int) (h : kd = 0 ∨ kd = 1) : ∃ d : Deed, (kd = 0 → d = .add v) ∧ (kd = 1 → d = .lose v.1 v.2.1) ∧ atI [PyData.tuple [.str "add", .str v.1, .str v.2.1, .int v.2.2], .tuple [.str "lose", .str v.1, .str v.2.1]] kd = some (deedD d) := by
  rcases h with rfl | rfl
  · exact ⟨.add v, fun _ => rfl, (fun z => by cases z), rfl⟩
  · exact ⟨.lose v.1 v.2.1, (fun z => by cases z), fun _ => rfl, rfl⟩
theorem exm_busy (T : Tx K mg base) : PySem.W.exmOne K (busyV K) (busyV K) = some true := He.exm_ok T.exm_Busy
abbrev tbA (K : PySem.W.Frag) (W : WX) : TS := tIfS (tTest (tOp (rEqP K) (tVar 7) (tC (V.int 0))))
  (tDrop (tMethS (NC K) "add" (SpB (busyV K) (RAdd K)) (WE W) (tVar 1) (tCons (tOp (rIx K) (tVar 11) (tC (V.int 0))) (tCons (tOp (rIx K) (tVar 11) (tC (V.int 1))) (tCons (tOp (rIx K) (tVar 11) (tC (V.int 2))) tNil)))))
  (tDrop (tMethS (NC K) "lose" (SpB (busyV K) (RLose K)) (WE W) (tVar 1) (tCons (tOp (rIx K) (tVar 11) (tC (V.int 0))) (tCons (tOp (rIx K) (tVar 11) (tC (V.int 1))) tNil))))
inductive RWayDone (K : PySem.W.Frag) : CtrX
  | mk {M : OM} {l : LA} {s0 s : Snap} {k : Nat} {past : List Snap} {ds : List Deed} {webs : List Web} (ok : LwOk K M l) (r : Run s0 k s past ds webs) (f0 : Fine s0) (h0 : s0.cries = []) (hk : k < 24) :
    RWayDone K (lwM K M l (noted s ds webs) s past ds) [Rf l.r, Rf l.a.x, Rf l.t] (fun P m => P = Dd K (.bool true) ∧ Stood K l s0 (k + 1) m)
abbrev n_law_way_done : List Str := ["_law_reel_here", "_law_some", "_law_state", "_law_web_here", "_law_now", "_law_cries", "_law_past", "_law_kind", "_law_one", "_law_other", "_law_pair", "_law_way", "_law_calm", "_law_row", "_law_cry", "_law_begun", "_law_own", "_law_lot_here"]
theorem sc_law_way_done : FnScope n_law_way_done ["_law_reel_here", "_law_some", "_law_state"] (defScope (top 76)) := ⟨rfl, rfl, rfl, by decide +kernel, rfl, by decide +kernel, by decide +kernel⟩
theorem ok_law_way_done (T : Tx K mg base) : Cal P w K mg base 13 "_law_way_done" (SpX (RWayDone K)) [] := by
  obtain ⟨fd, F⟩ := T.fd_law_way_done
  have nd := sc_law_way_done.nd
  let nm := n_law_way_done
  let scp := defScope (top 76)
  have C_Night_add : MetB P w K mg base 12 (He.ga K "Night") "add" (SpB (busyV K) (RAdd K)) := ok_Night_add T
  have C_Night_lose : MetB P w K mg base 12 (He.ga K "Night") "lose" (SpB (busyV K) (RLose K)) := ok_Night_lose T
  have C_law_beats : Cal P w K mg base 2 "_law_beats" (SpX (RLBeats K)) [] := ok_law_beats T
  have C_law_changed : Cal P w K mg base 1 "_law_changed" (SpR (RChanged K)) [] := ok_law_changed T
  have C_law_draw : Cal P w K mg base 1 "_law_draw" (SpX (RDraw K)) [] := ok_law_draw T
  have C_law_quiet : Cal P w K mg base 9 "_law_quiet" (SpR (RLQuiet K)) [] := ok_law_quiet T
  refine cal_mk T.g__law_way_done F (F.bindsN fun _ _ _ _ _ _ us hl => match us, hl with | [_, _, _], _ => rfl) (fn_ok (k := 12) F sc_law_way_done (spx_len fun _ _ _ h => by cases h <;> rfl) fun cdv A outer s H E hr => ?_)
  have hu := hu_of hr
  refine ⟨_, (pss_cons (ps_asg (pe_slice (sl_listK (K := K) rfl) (pv 2) po_none (po_some pe_int)) (pg_lstK (K := K) (n := 4) rfl (by rfl) (pgs_cons (pg_name (i := 3) nd rfl (by first | exact Or.inl rfl | exact Or.inr rfl)) (pgs_cons (pg_name (i := 4) nd rfl (by first | exact Or.inl rfl | exact Or.inr rfl)) (pgs_cons (pg_name (i := 5) nd rfl (by first | exact Or.inl rfl | exact Or.inr rfl)) (pgs_cons (pg_name (i := 6) nd rfl (by first | exact Or.inl rfl | exact Or.inr rfl)) pgs_nil))))))
    (pss_cons (ps_set (i := 7) nd rfl (by first | exact Or.inl rfl | exact Or.inr rfl) (pe_c C_law_draw hr (by decide) (by rfl) (pa_cons (pv 0) (pa_cons pe_int pa_nil))))
    (pss_cons (ps_par (i := 8) (j := 9) (by rfl) nd rfl rfl (by decide) rfl rfl (pa_cons (pe_ix (ix_K (K := K) rfl) (pe_ix (ix_K (K := K) rfl) (pv 3) pe_int (fun _ _ => rfl)) (pe_c C_law_draw hr (by decide) (by rfl) (pa_cons (pv 0) (pa_cons (pe_callB (call_lenK (K := K) rfl) (by rfl) T.f_len (by decide +kernel) (pa_cons (pe_ix (ix_K (K := K) rfl) (pv 3) pe_int (fun _ _ => rfl)) pa_nil)) pa_nil))) (fun _ _ => rfl)) (pa_cons (pe_ix (ix_K (K := K) rfl) (pe_ix (ix_K (K := K) rfl) (pv 3) pe_int (fun _ _ => rfl)) (pe_c C_law_draw hr (by decide) (by rfl) (pa_cons (pv 0) (pa_cons (pe_callB (call_lenK (K := K) rfl) (by rfl) T.f_len (by decide +kernel) (pa_cons (pe_ix (ix_K (K := K) rfl) (pv 3) pe_int (fun _ _ => rfl)) pa_nil)) pa_nil))) (fun _ _ => rfl)) pa_nil)) (by rfl))
    (pss_cons (ps_set (i := 10) nd rfl (by first | exact Or.inl rfl | exact Or.inr rfl) (pe_tup (pa_cons (pe_callB (call_minS rfl hr.units) (by rfl) T.f_min (by decide +kernel) (pa_cons (pv 8) (pa_cons (pv 9) pa_nil))) (pa_cons (pe_callB (call_maxS rfl hr.units) (by rfl) T.f_max (by decide +kernel) (pa_cons (pv 8) (pa_cons (pv 9) pa_nil))) pa_nil))))
    (pss_cons (ps_if (PW.pt (pw_or (pt_cmpR (op_eqK (K := K) rfl hr.units) (pv 8) (pv 9) (nomark _)) (pw_or1 (PW.pt (pw_and (pt_cmpR (op_eqK (K := K) rfl hr.units) (pv 7) pe_int (nomark _)) (pw_and1 (pt_cmpR (op_eqK (K := K) rfl hr.units) (pe_ix (ix_K (K := K) rfl) (pv 3) pe_int (fun _ _ => rfl)) (pe_lst pa_nil) (nomark _)))))))) (pss_one (ps_ret pe_bl)) pss_nil)
    (pss_cons (ps_set (i := 11) nd rfl (by first | exact Or.inl rfl | exact Or.inr rfl) (pe_op (op_catTK (K := K) rfl) (pv 10) (pe_tup (pa_cons (pe_c C_law_beats hr (by decide) (by rfl) (pa_cons (pv 0) (pa_cons (pe_op op_pow pe_int pe_int) pa_nil))) pa_nil))))
    (pss_cons (ps_if (pt_cmpR (op_eqK (K := K) rfl hr.units) (pv 7) pe_int (nomark _)) (pss_one (ps_set (i := 11) nd rfl (by first | exact Or.inl rfl | exact Or.inr rfl) (pe_ix (ix_K (K := K) rfl) (pe_ix (ix_K (K := K) rfl) (pv 3) pe_int (fun _ _ => rfl)) (pe_c C_law_draw hr (by decide) (by rfl) (pa_cons (pv 0) (pa_cons (pe_callB (call_lenK (K := K) rfl) (by rfl) T.f_len (by decide +kernel) (pa_cons (pe_ix (ix_K (K := K) rfl) (pv 3) pe_int (fun _ _ => rfl)) pa_nil)) pa_nil))) (fun _ _ => rfl)))) pss_nil)
    (pss_cons (ps_if (PW.pt (pw_and (pt_cmpR (op_eqK (K := K) rfl hr.units) (pv 7) pe_int (nomark _)) (pw_and1 (pt_cmpR (op_inK (K := K) rfl hr.units) (pv 10) (pe_lc (own := [("_law_row", 13)]) (by rfl) nd (pi_listK (K := K) rfl (pe_ix (ix_K (K := K) rfl) (pv 3) pe_int (fun _ _ => rfl))) (blkOk_by (own := [("_law_row", 13)]) (N := nm) (sc := scp) (by decide +kernel)) (fun _ _ _ _ _ => (pg_name (i := 13) nd rfl (by first | exact Or.inl rfl | exact Or.inr rfl))) (fun _ _ _ _ _ => pts_nil) (fun _ _ _ _ _ => (pe_slice (sl_tupK (K := K) rfl) (pv 13) po_none (po_some pe_int)))) (by first | exact nomark _ | rfl))))) (pss_one (ps_ret pe_bl)) pss_nil)
    (pss_cons (ps_set (i := 12) nd rfl (by first | exact Or.inl rfl | exact Or.inr rfl) (pe_cmpR (op_eqK (K := K) rfl hr.units) (pe_lc (own := [("_law_cry", 14), ("_law_begun", 15), ("_law_own", 16), ("_law_lot_here", 17)]) (by rfl) nd (pi_listK (K := K) rfl (pv 5)) (blkOk_by (own := [("_law_cry", 14), ("_law_begun", 15), ("_law_own", 16), ("_law_lot_here", 17)]) (N := nm) (sc := scp) (by decide +kernel)) (fun _ _ _ _ _ => (pg_tupK (K := K) (n := 4) rfl (by rfl) (pgs_cons (pg_name (i := 14) nd rfl (by first | exact Or.inl rfl | exact Or.inr rfl)) (pgs_cons (pg_name (i := 15) nd rfl (by first | exact Or.inl rfl | exact Or.inr rfl)) (pgs_cons (pg_name (i := 16) nd rfl (by first | exact Or.inl rfl | exact Or.inr rfl)) (pgs_cons (pg_name (i := 17) nd rfl (by first | exact Or.inl rfl | exact Or.inr rfl)) pgs_nil)))))) (fun _ _ _ _ _ => pts_one (pt_not (pt_val (pe_c C_law_quiet hr (by decide) (by rfl) (pa_cons (pv 15) (pa_cons (pv 16) (pa_cons (pv 17) (pa_cons (pv 4) pa_nil)))))))) (fun _ _ _ _ _ => (pv 14))) (pe_lst pa_nil) (nomark _)))
    (pss_cons (ps_try_only (c := busyV K) (Wout := fun _ _ _ _ => False) rfl rfl ⟨by rfl, by decide, .inl T.g_Busy⟩ LamX.takes0 (fun W pn xe tk _ => pss_one (ps_if (pt_cmpR (op_eqK (K := K) rfl hr.units) (pv 7) pe_int (nomark _)) (pss_one (ps_expr (pe_mtB C_Night_add hr (by decide) tk (pv 1) (pa_cons (pe_ix (ix_K (K := K) rfl) (pv 11) pe_int (fun _ _ => rfl)) (pa_cons (pe_ix (ix_K (K := K) rfl) (pv 11) pe_int (fun _ _ => rfl)) (pa_cons (pe_ix (ix_K (K := K) rfl) (pv 11) pe_int (fun _ _ => rfl)) pa_nil)))))) (pss_one (ps_expr (pe_mtB C_Night_lose hr (by decide) tk (pv 1) (pa_cons (pe_ix (ix_K (K := K) rfl) (pv 11) pe_int (fun _ _ => rfl)) (pa_cons (pe_ix (ix_K (K := K) rfl) (pv 11) pe_int (fun _ _ => rfl)) pa_nil))))))) (fun a oe cls d pn _ _ => pss_one (ps_ret (pe_not (pv 12)))))
    (pss_cons (ps_if (pt_not (pt_val (pv 12))) (pss_one (ps_ret pe_bl)) pss_nil)
    (pss_cons (ps_if (pt_cmpR (op_eqK (K := K) rfl hr.units) (pv 7) pe_int (nomark _)) (pss_one (ps_expr (pe_bm PySem.F.plainAttrs_list PySem.F.slot_list_append PySem.F.type_list_append mt_append (pe_ix (ix_K (K := K) rfl) (pv 2) pe_int (fun _ _ => rfl)) (pa_cons (pv 3) pa_nil)))) pss_nil)
    (pss_cons (ps_asg (pe_c C_law_changed hr (by decide) (by rfl) (pa_cons (pv 3) (pa_cons (pv 7) (pa_cons (pv 11) pa_nil)))) (pg_sub (pv 2) pe_int set_list))
    (pss_cons (ps_expr (pe_bm PySem.F.plainAttrs_list PySem.F.slot_list_append PySem.F.type_list_append mt_append (pv 6) (pa_cons (pe_ix (ix_K (K := K) rfl) (pe_lst (pa_cons (pe_op (op_catTK (K := K) rfl) (pe_tup (pa_cons pe_str pa_nil)) (pv 11)) (pa_cons (pe_op (op_catTK (K := K) rfl) (pe_tup (pa_cons pe_str pa_nil)) (pe_slice (sl_tupK (K := K) rfl) (pv 11) po_none (po_some pe_int))) pa_nil))) (pv 7) (fun _ _ => rfl)) pa_nil)))
    (pss_one (ps_ret pe_bl)))))))))))))))), fun vs Q h => endx_rtn h ?_⟩
  try dsimp only [cx_K]
  rintro _ _ _ ⟨ok, r, f0, h0, hk⟩
  rename_i M l s0 s k past ds webs
  let v : LV := noted s ds webs
  have f := r.fine f0
  obtain ⟨ln1, ln2, ln3, ln4⟩ := r.len
  rw [h0] at ln3
  simp only [List.length_nil, Nat.zero_add] at ln3
  have hf8 := f.web.f8
  have hw64 := f.web.many
  have hc : ∀ c ∈ s.cries, OkCr c := fun c h => (f.cries c h).1
  let G0 := gam n_law_way_done [Rf l.r, Rf l.a.x, Rf l.t]
  let G1 : Gm := (((G0.set 3 (some (Dd K (webD s.web)))).set 4 (some (Dd K (.int s.at_)))).set 5 (some (Rf l.c))).set 6 (some (Rf l.p))
  refine rtnx_seqN (nrm_four ok rfl) ?_
  refine rtnx_seq (Φ := fun g m => ∃ kd : Int, (kd = 0 ∨ kd = 1) ∧ ∃ M', LwOk K M' l ∧ g = G1.set 7 (some (Dd K (.int kd))) ∧ m = lwM K M' l v s past ds) (NrmX.imp (nrmx_set (i := 7) (evx_draw (eva_cons (ev_at (Rf l.r)) (eva_cons ev_int eva_nil)) (lw_r ok) (by decide) (by decide))) ?_) ?_
  · rintro _ m ⟨_, ⟨n, hn0, hn1, rfl, d⟩, rfl⟩
    obtain ⟨M', _, ok', rfl⟩ := lw_drawn ok d
    exact ⟨n, by omega, M', ok', rfl, rfl⟩
  rintro _ _ ⟨kd, hkd, M1, ok1, rfl, rfl⟩
  clear ok
  let G2 := G1.set 7 (some (Dd K (.int kd)))
  refine rtnx_seq (Φ := fun g m => ∃ a ∈ s.web.folk, ∃ b ∈ s.web.folk, ∃ M', LwOk K M' l ∧ g = (G2.set 8 (some (Dd K (.str a)))).set 9 (some (Dd K (.str b))) ∧ m = lwM K M' l v s past ds) (nrmx_par (Φ := fun ps m => ∃ a ∈ s.web.folk, ∃ b ∈ s.web.folk, ps = [Dd K (.str a), Dd K (.str b)] ∧ ∃ M', LwOk K M' l ∧ m = lwM K M' l v s past ds) (evax_cons (evx_pick (f := PyData.str) (l := s.web.folk) (ev_ixt (ev_at (Dd K (webD s.web))) rfl) (eva_cons (ev_at (Rf l.r)) (eva_cons (ev_lenF (ev_ixt (ev_at (Dd K (webD s.web))) rfl)) eva_nil)) (lw_r ok1) f.web.f0 (by omega)) ?_) ?_) ?_
  · rintro _ m ⟨a, ha, rfl, d⟩
    obtain ⟨M2, _, ok2, rfl⟩ := lw_drawn ok1 d
    refine evax_last (evx_pick (f := PyData.str) (l := s.web.folk) (ev_ixt (ev_at (Dd K (webD s.web))) rfl) (eva_cons (ev_at (Rf l.r)) (eva_cons (ev_lenF (ev_ixt (ev_at (Dd K (webD s.web))) rfl)) eva_nil)) (lw_r ok2) f.web.f0 (by omega)) ?_
    rintro _ m ⟨b, hb, rfl, d⟩
    obtain ⟨M3, _, ok3, rfl⟩ := lw_drawn ok2 d
    exact ⟨a, ha, b, hb, rfl, M3, ok3, rfl⟩
  · rintro _ m ⟨a, ha, b, hb, rfl, M', ok', rfl⟩
    exact ⟨_, _, rfl, a, ha, b, hb, M', ok', rfl, rfl⟩
  rintro _ _ ⟨a, ha, b, hb, M2, ok2, rfl, rfl⟩
  clear ok1
  let G3 := ((G2.set 8 (some (Dd K (.str a)))).set 9 (some (Dd K (.str b)))).set 10 (some (Dd K (prS (lesserT a b) (greaterT a b))))
  let m2 := lwM K M2 l v s past ds
  have back : ∀ (M' : OM), LwOk K M' l → ∀ P m, oneE (Dd K (.bool true)) (lwM K M' l v s past ds) P m → (P = Dd K (.bool true) ∧ Stood K l s0 (k + 1) m) := fun M' ok' P m e => ⟨e.1, M', s, past, ds, webs, ok', r.mono (Nat.le_succ _), e.2⟩
  refine rtnx_seqN (G1 := G3) (M1 := m2) (nrm_set (P := Dd K (prS (lesserT a b) (greaterT a b))) (ev_tupD (evad_cons (ev_cb (eva_cons (ev_at (Dd K (.str a))) (eva_cons (ev_at (Dd K (.str b))) eva_nil)) cbe_minS) (evad_cons (ev_cb (eva_cons (ev_at (Dd K (.str a))) (eva_cons (ev_at (Dd K (.str b))) eva_nil)) cbe_maxS) evad_nil)))) ?_
  refine rtnx_stop (M1 := m2) (evt_or' (evt_test (K := K) (ev_op (ev_at (Dd K (.str a))) (ev_at (Dd K (.str b))) ope_eqs)) (evt_and' (evt_test (K := K) (ev_op (ev_at (Dd K (.int kd))) ev_int ope_eqi)) (evt_test (K := K) (ev_op (ev_ixt (ev_at (Dd K (webD s.web))) rfl) (ev_lstD evad_nil) ope_eq0D)))) (fun _ => rtnx_seqR (rtnx_ret ((Evl.x (ev_bl (K := K))).imp (back M2 ok2)))) fun e4 => ?_
  rw [Bool.or_eq_false_iff] at e4
  have hab : a ≠ b := of_decide_eq_false e4.1
  obtain ⟨q1, q2, q3⟩ := two_names hab
  have hlo : lesserT a b ∈ s.web.folk := by rcases q2 with q | q <;> rw [q] <;> assumption
  have hhi : greaterT a b ∈ s.web.folk := by rcases q3 with q | q <;> rw [q] <;> assumption
  have hww : kd = 1 → s.web.ways ≠ [] := fun e z => by
    have := e4.2
    rw [e, z] at this; cases this
  refine rtnx_seq (Φ := fun g m => ∃ n, 1 ≤ n ∧ n ≤ 1000000000000 ∧ ∃ M', LwOk K M' l ∧ g = G3.set 11 (some (Dd K (wayD (lesserT a b, greaterT a b, n)))) ∧ m = lwM K M' l v s past ds) (NrmX.imp (nrmx_set (i := 11) (evx_opR (ev_at (Dd K (prS (lesserT a b) (greaterT a b)))) (evx_weak (evx_tup (K := K) (evax_last (Ψ := fun ps m => ∃ n, 1 ≤ n ∧ n ≤ 1000000000000 ∧ ps = [Dd K (.int n)] ∧ Drawn K l.r m2 m) (evx_call (eva_cons (ev_at (Rf l.r)) (eva_cons (Evl.c (P' := Dd K (.int 1000000000000)) (ev_op ev_int ev_int (ope_IC ⟨by decide, by decide, by decide⟩)) rfl) eva_nil)) (RLBeats.mk (lw_r ok2))) ?_) ?_) (Ψ := fun P m => ∃ n, 1 ≤ n ∧ n ≤ 1000000000000 ∧ P = Dd K (.tuple [.int n]) ∧ Drawn K l.r m2 m) ?_) (Ψ := fun P m => ∃ n, 1 ≤ n ∧ n ≤ 1000000000000 ∧ P = Dd K (wayD (lesserT a b, greaterT a b, n)) ∧ Drawn K l.r m2 m) ?_)) ?_) ?_
  · rintro _ m ⟨n, h1, h2, rfl, d⟩
    exact ⟨n, h1, h2, rfl, d⟩
  · rintro _ m ⟨n, h1, h2, rfl, d⟩
    exact (show 1 ≤ sizeLine by decide)
  · rintro _ m ⟨_, ⟨n, h1, h2, rfl, d⟩, rfl⟩
    exact ⟨_, ⟨n, h1, h2, rfl, d⟩, fun u F q => dd_tp (ds := [.int n]) q⟩
  · rintro _ m ⟨n, h1, h2, rfl, d⟩
    exact ⟨_, m, ope_catTD (by simp) (by simp) (show 3 ≤ sizeLine by decide), n, h1, h2, rfl, d⟩
  · rintro _ m ⟨_, ⟨n, h1, h2, rfl, d⟩, rfl⟩
    obtain ⟨M', _, ok', rfl⟩ := lw_drawn ok2 d
    exact ⟨n, h1, h2, M', ok', rfl, rfl⟩
  rintro _ _ ⟨n, hn1, hn2, M3, ok3, rfl, rfl⟩
  clear ok2
  refine rtnx_seq (Φ := fun g m => ∃ u : Way, (kd = 0 → OkWay s.web.folk u ∧ u.1 = lesserT a b ∧ u.2.1 = greaterT a b) ∧ (kd = 1 → u ∈ s.web.ways) ∧ ∃ M', LwOk K M' l ∧ g = G3.set 11 (some (Dd K (wayD u))) ∧ m = lwM K M' l v s past ds) (nrmx_ifX (Φ := fun c m => c = decide (kd = 1) ∧ m = lwM K M3 l v s past ds) (EvTX.imp (EvT.x (evt_test (K := K) (ev_op (ev_at (Dd K (.int kd))) ev_int ope_eqi))) fun _ _ e => e) ?_ ?_) ?_
  · rintro _ ⟨e, rfl⟩
    have e := of_decide_eq_true e.symm
    refine nrmx_seq (Φ := fun g m => ∃ u ∈ s.web.ways, ∃ M', LwOk K M' l ∧ g = G3.set 11 (some (Dd K (wayD u))) ∧ m = lwM K M' l v s past ds) (NrmX.imp (nrmx_set (i := 11) (evx_pick (f := wayD) (l := s.web.ways) (ev_ixt (ev_at (Dd K (webD s.web))) rfl) (eva_cons (ev_at (Rf l.r)) (eva_cons (ev_lenF (ev_ixt (ev_at (Dd K (webD s.web))) rfl)) eva_nil)) (lw_r ok3) (hww e) (by omega))) ?_) (fun g m h => ((nrm_next).x.imp ?_))
    · rintro _ m ⟨_, ⟨u, hu, rfl, d⟩, rfl⟩
      obtain ⟨M', _, ok', rfl⟩ := lw_drawn ok3 d
      exact ⟨u, hu, M', ok', List.set_set _, rfl⟩
    · rintro _ _ ⟨rfl, rfl⟩
      obtain ⟨u, hu, M', ok', e1, e2⟩ := h
      exact ⟨u, (fun z => by omega), fun _ => hu, M', ok', e1, e2⟩
  · rintro _ ⟨e, rfl⟩
    have e := of_decide_eq_false e.symm
    refine nrm_next.x.imp ?_
    rintro _ _ ⟨rfl, rfl⟩
    exact ⟨_, fun _ => ⟨⟨hlo, hhi, q1, hn1, hn2⟩, rfl, rfl⟩, (fun z => absurd z e), M3, ok3, rfl, rfl⟩
  rintro _ _ ⟨u, hu0, hu1, M4, ok4, rfl, rfl⟩
  clear ok3 M3
  let G4 := G3.set 11 (some (Dd K (wayD u)))
  let m4 := lwM K M4 l v s past ds
  have pl : PyData.plainAll (s.web.ways.map fun u => prS u.1 u.2.1) = true := plain_map (fun _ => rfl) _
  refine rtnx_stop (M1 := m4) (evt_and' (evt_test (K := K) (ev_op (ev_at (G := G4) (Dd K (.int kd))) ev_int ope_eqi)) (evt_test (K := K) (ev_op (ev_at (G := G4) (Dd K (prS (lesserT a b) (greaterT a b)))) (ev_lcL (K := K) s.web.ways wayD (fun u => prS u.1 u.2.1) (fun _ => true) (ev_ixt (ev_at (G := G4) (Dd K (webD s.web))) rfl) (small8 hw64) fun x hx D c hD => turn_all (evgw_name (by decide)) (ev_way2b (v := x) (ev_at (Dd K (wayD x))))) (ope_inP rfl (by rw [List.filter_eq_self.mpr (fun _ _ => rfl)]; exact pl) (Nat.le_trans (Nat.min_le_right _ _) (by simp [PyData.depth, PyData.depthAll])))))) (fun _ => rtnx_seqR (rtnx_ret ((Evl.x (ev_bl (K := K))).imp (back M4 ok4)))) fun e7 => ?_
  have hn7 : kd = 0 → ∀ w ∈ s.web.ways, ¬ (w.1 = u.1 ∧ w.2.1 = u.2.1) := fun e => by
    obtain ⟨_, e1, e2⟩ := hu0 e
    rw [e1, e2]
    rw [e, List.filter_eq_self.mpr (fun _ _ => rfl)] at e7
    exact any_pair e7
  clear e7 e4
  have nt := lw_nt (v := v) ok4
  have tb : Tb K m4 := ntM_tb nt
  let G5 := G4.set 12 (some (Dd K (.bool (!busy s))))
  refine rtnx_seqN (G1 := G5) (M1 := m4) (nrm_set (P := Dd K (.bool (!busy s))) (Evl.c (ev_op (ev_lcO (K := K) s.cries (fun c => Dd K (rowD c)) (fun c => Dd K (.str c.nm)) (fun c => !decide (lastC c ≤ s.at_)) (ev_at (G := G4) (Rf l.c)) (lw_c ok4) (Nat.le_trans (Nat.le_trans ln3 ln1) (Nat.le_trans (Nat.le_of_lt hk) (by decide))) fun c h D cc hD => turn_if (evgw_tup4 (by decide) (by decide) (by decide) (by decide)) (evt_not (evt_B (K := K) (ev_call (eva_cons (ev_at (Dd K (.int c.since))) (eva_cons (ev_at (Dd K (webD c.web))) (eva_cons (ev_at (Dd K (.list (c.lot.map .str)))) (eva_cons (ev_at (Dd K (.int s.at_))) eva_nil)))) (RLQuiet.mk (c := c) (now := s.at_) (tb.new hD rfl) (hc c h) (f.cries c h).2.2)))) fun _ => ev_at (Dd K (.str c.nm))) (ev_lstD (K := K) evad_nil) ope_eq0) (by rw [calm_busy]))) ?_
  have hl100 : s.cries.length ≤ 100 := by omega
  cases hb : busy s with
  | true =>
    have hv12 : G5 = G4.set 12 (some (Dd K (.bool false))) := by show G4.set 12 (some (Dd K (.bool (!busy s)))) = _; rw [hb]; rfl
    rw [hv12]
    refine rtnx_seqR (try_caught (M1 := m4) (tb := tbA K) (ts := fun _ _ _ => tRet (tNotV (tVar 12))) (Wout := fun _ _ _ _ => False) (exm_busy T) (fun W σ H D at0 kk => ?_) fun _ => (rtnx_ret ((Evl.x (ev_not (K := K) (ev_at (G := G4.set 12 (some (Dd K (.bool false)))) (Dd K (.bool false))))).imp (back M4 ok4))))
    refine (evt_test (K := K) (ev_op (ev_at (G := G4.set 12 (some (Dd K (.bool false)))) (Dd K (.int kd))) ev_int ope_eqi) : EvT (G4.set 12 (some (Dd K (.bool false)))) m4 _ _ m4) σ H _ at0 fun H' s' => ?_
    rcases hkd with e | e
    · rw [if_pos (decide_eq_true e)]
      exact lts_mtB (C := NC K) (dx := l.a.dx) (p := l.a.x) (fs := ntF K s l.a.p l.a.q) (D0 := fun σ H => W (busyV K) none σ H) (G := G4.set 12 (some (Dd K (.bool false)))) (M := m4) (M1 := m4) (M2 := m4) (ev_at (Rf l.a.x)) (ntM_x nt) rfl (eva_cons (ev_ixt (ev_at (Dd K (wayD u))) rfl) (eva_cons (ev_ixt (ev_at (Dd K (wayD u))) rfl) (eva_cons (ev_ixt (ev_at (Dd K (wayD u))) rfl) eva_nil))) (hb ▸ RAdd.mk nt (by omega) (by omega) hl100 hc f.web (hu0 e).1 (hn7 e)) (fun _ _ _ d => d) σ H' _ (at0.step s') fun H2 s2 => kk H2 (s'.trans s2) (at0.step (s'.trans s2))
    · rw [if_neg (by simp; omega)]
      exact lts_mtB (C := NC K) (dx := l.a.dx) (p := l.a.x) (fs := ntF K s l.a.p l.a.q) (D0 := fun σ H => W (busyV K) none σ H) (G := G4.set 12 (some (Dd K (.bool false)))) (M := m4) (M1 := m4) (M2 := m4) (ev_at (Rf l.a.x)) (ntM_x nt) rfl (eva_cons (ev_ixt (ev_at (Dd K (wayD u))) rfl) (eva_cons (ev_ixt (ev_at (Dd K (wayD u))) rfl) eva_nil)) (hb ▸ RLose.mk nt (by omega) (by omega) hl100 hc f.web (hu1 e)) (fun _ _ _ d => d) σ H' _ (at0.step s') fun H2 s2 => kk H2 (s'.trans s2) (at0.step (s'.trans s2))
  | false =>
    have hv12 : G5 = G4.set 12 (some (Dd K (.bool true))) := by show G4.set 12 (some (Dd K (.bool (!busy s)))) = _; rw [hb]; rfl
    rw [hv12]
    let G6 := G4.set 12 (some (Dd K (.bool true)))
    have key : ∃ (d : Deed) (W' : Web), StepD s d { s with web := W' } ∧ (∀ W, Nrm G6 m4 (tbA K W) G6 (lwM K M4 l v { s with web := W' } (past ++ [s]) (ds ++ [d]))) ∧ (∀ M, RChanged K M [Dd K (webD s.web), Dd K (.int kd), Dd K (wayD u)] (Dd K (webD W')) M) ∧ atI [PyData.tuple [.str "add", .str u.1, .str u.2.1, .int u.2.2], .tuple [.str "lose", .str u.1, .str u.2.1]] kd = some (deedD d) ∧ websOf s d = (if kd = 1 then [s.web] else []) ∧ ∀ nm lot, d ≠ .begin nm lot := by
      rcases hkd with e | e
      · subst e
        refine ⟨.add u, addWay s.web u, .add (hu0 rfl).1 (hn7 rfl) hb, fun W => ?_, fun M => .add hw64, rfl, rfl, fun _ _ z => by cases z⟩
        exact nrm_if (b := true) (M1 := m4) (EvT.c (evt_test (K := K) (ev_op (ev_at (G := G6) (Dd K (.int 0))) ev_int ope_eqi)) rfl) (fun _ => nrm_drop (ev_mtB (K := K) (C := NC K) (dx := l.a.dx) (p := l.a.x) (fs := ntF K s l.a.p l.a.q) (ev_at (Rf l.a.x)) (ntM_x nt) rfl (eva_cons (ev_ixt (ev_at (Dd K (wayD u))) rfl) (eva_cons (ev_ixt (ev_at (Dd K (wayD u))) rfl) (eva_cons (ev_ixt (ev_at (Dd K (wayD u))) rfl) eva_nil))) (hb ▸ RAdd.mk nt (by omega) (by omega) hl100 hc f.web (hu0 rfl).1 (hn7 rfl)))) fun z => by cases z
      · subst e
        refine ⟨.lose u.1 u.2.1, cutWay s.web u, .lose (hu1 rfl) hb, fun W => ?_, fun M => .cut hw64, rfl, rfl, fun _ _ z => by cases z⟩
        exact nrm_if (b := false) (M1 := m4) (EvT.c (evt_test (K := K) (ev_op (ev_at (G := G6) (Dd K (.int 1))) ev_int ope_eqi)) rfl) (fun z => by cases z) fun _ => nrm_drop (ev_mtB (K := K) (C := NC K) (dx := l.a.dx) (p := l.a.x) (fs := ntF K s l.a.p l.a.q) (ev_at (Rf l.a.x)) (ntM_x nt) rfl (eva_cons (ev_ixt (ev_at (Dd K (wayD u))) rfl) (eva_cons (ev_ixt (ev_at (Dd K (wayD u))) rfl) eva_nil)) (hb ▸ RLose.mk nt (by omega) (by omega) hl100 hc f.web (hu1 rfl)))
    obtain ⟨d, W', st, k1, k2, k3, k4, k5⟩ := key
    let s' : Snap := { s with web := W' }
    let m5 := lwM K M4 l v s' (past ++ [s]) (ds ++ [d])
    refine rtnx_seqN (G1 := G6) (M1 := m5) (NrmX.n (try_nrm (tb := tbA K) (ts := fun _ _ _ => tRet (tNotV (tVar 12))) (Wout := fun _ _ _ _ => False) fun W => (k1 W).x)) ?_
    refine rtnx_stop (M1 := m5) (evt_not (evt_B (K := K) (ev_at (G := G6) (Dd K (.bool true))))) (fun z => by cases z) fun _ => ?_
    let v1 := noted s ds (webs ++ websOf s d)
    let m6 := lwM K M4 l v1 s' (past ++ [s]) (ds ++ [d])
    refine rtnx_seqN (G1 := G6) (M1 := m6) (nrm_if (b := decide (kd = 1)) (M1 := m5) (evt_test (K := K) (ev_op (ev_at (G := G6) (Dd K (.int kd))) ev_int ope_eqi)) (fun e => ?_) fun e => ?_) ?_
    · have e := of_decide_eq_true e
      refine nrm_drop (Evl.c (ev_append (ev_op (ev_at (G := G6) (Rf l.t)) ev_int (ope_ixO (P := Rf l.w) (lw_t ok4) rfl)) (ev_at (G := G6) (Dd K (webD s.web))) ⟨_, lw_w ok4⟩ (lw_w ok4) (by rw [List.length_map]; exact Nat.lt_of_le_of_lt (Nat.le_trans ln4 ln1) (Nat.lt_trans hk (by decide)))) rfl ?_)
      have := lw_setw (K := K) (M := M4) (s := s') (past := past ++ [s]) (ds := ds ++ [d]) ok4 (v := v) (webs := webs ++ websOf s d)
      refine Eq.trans ?_ this
      show m5.set l.w (.lst ((webs.map fun W => Dd K (webD W)) ++ [Dd K (webD s.web)])) = m5.set l.w (.lst ((webs ++ websOf s d).map fun W => Dd K (webD W)))
      rw [k4, if_pos e, List.map_append]; rfl
    · have e := of_decide_eq_false e
      have e2 : m5 = m6 := by
        show lwM K M4 l (noted s ds webs) s' (past ++ [s]) (ds ++ [d]) = lwM K M4 l (noted s ds (webs ++ websOf s d)) s' (past ++ [s]) (ds ++ [d])
        rw [k4, if_neg e, List.append_nil]
      rw [e2]
      exact nrm_next
    let v2 : LV := { v1 with web := W', now := s.at_ }
    let m7 := lwM K M4 l v2 s' (past ++ [s]) (ds ++ [d])
    refine rtnx_seqN (G1 := G6) (M1 := m7) (nrm_asg (M1 := m6) (P := Dd K (webD W')) (ev_call (eva_cons (ev_at (G := G6) (Dd K (webD s.web))) (eva_cons (ev_at (G := G6) (Dd K (.int kd))) (eva_cons (ev_at (G := G6) (Dd K (wayD u))) eva_nil))) (k2 m6)) (EvG.c (evg_setO (K := K) (ev_at (G := G6) (Rf l.t)) ev_int (lw_t ok4) rfl) (lw_sett (K := K) (M := M4) (s := s') (past := past ++ [s]) (ds := ds ++ [d]) ok4 (v := v1) (web := W') (now := s.at_)))) ?_
    let v3 := noted s' (ds ++ [d]) (webs ++ websOf s d)
    let m8 := lwM K M4 l v3 s' (past ++ [s]) (ds ++ [d])
    refine rtnx_seqN (G1 := G6) (M1 := m8) (nrm_drop (Evl.c (ev_append (P := Dd K (deedD d)) (ps := v2.ds.map fun d => Dd K (deedD d)) (ev_at (G := G6) (Rf l.p)) (ev_op (ev_lstD (evad_cons (ev_op (ev_tupD (evad_cons ev_str evad_nil)) (ev_at (G := G6) (Dd K (wayD u))) (ope_catTD (by simp) (by simp) (show 4 ≤ sizeLine by decide))) (evad_cons (ev_op (ev_tupD (evad_cons ev_str evad_nil)) (ev_way2b (v := u) (ev_at (G := G6) (Dd K (wayD u)))) (ope_catTD (by simp) (by simp) (show 3 ≤ sizeLine by decide))) evad_nil))) (ev_at (G := G6) (Dd K (.int kd))) (ope_ixLD k3)) ⟨_, lw_p ok4⟩ (lw_p ok4) (by rw [List.length_map]; show ds.length < sizeLine; exact Nat.lt_of_le_of_lt (Nat.le_trans (Nat.le_of_eq ln2) ln1) (Nat.lt_trans hk (by decide)))) rfl ?_)) ?_
    · have := lw_setp (K := K) (M := M4) (s := s') (past := past ++ [s]) (ds := ds ++ [d]) ok4 (v := v2) (es := ds ++ [d])
      refine Eq.trans ?_ this
      show m7.set l.p (.lst ((ds.map fun d => Dd K (deedD d)) ++ [Dd K (deedD d)])) = m7.set l.p (.lst ((ds ++ [d]).map fun d => Dd K (deedD d)))
      rw [List.map_append]; rfl
    · refine rtnx_ret ((Evl.x (ev_bl (K := K))).imp ?_)
      rintro _ _ ⟨rfl, rfl⟩
      exact ⟨rfl, M4, s', past ++ [s], ds ++ [d], webs ++ websOf s d, ok4, .snoc r st (fun nm lot e => absurd e (k5 nm lot)) (Nat.lt_succ_self _), rfl⟩
end
end Z
set_option maxRecDepth 100000
set_option maxHeartbeats 4000000
/-! L10: a deed, done and kept. Own work. -/
namespace Z
open PySem PySem.Spec L2
local macro_rules | `(tactic| walk_at "ev") => `(tactic| repeat' (first
  | with_reducible apply eva_nil
  | ((with_reducible apply ev_var); rfl)
  | with_reducible apply ev_int
  | with_reducible apply ev_str
  | with_reducible apply ev_bl
  | with_reducible apply ev_non
  | ((with_reducible show PySem.W.Frag); assumption)
  | with_reducible apply eva_cons
  | with_reducible apply ev_cb
  | with_reducible apply ev_op
  | with_reducible apply cbe_min2
  | with_reducible apply cbe_max2
  | with_reducible apply ope_I
  | with_reducible apply ope_B
  | with_reducible apply ope_isN
  | with_reducible apply ope_notN
  | with_reducible apply ope_eqi
  | with_reducible apply ope_nei
  | with_reducible apply ope_eqs
  | with_reducible apply ope_nes
  | with_reducible apply evt_test
  | with_reducible apply rtn_ret))
section
variable {P : Program} {w : World} {K : PySem.W.Frag} {mg : Str → Option Value} {base : Heap}
variable {G G1 G2 : Gm} {M M1 M2 M3 : OM}
theorem nrmx_seqN {t u : TS} {Ψ : Pst} (h1 : Nrm G M t G1 M1) (h2 : NrmX G1 M1 u Ψ) : NrmX G M (tSeq t u) Ψ := fun σ H D a k =>
  h1 σ H _ a fun σ1 H1 s1 a1 => h2 σ1 H1 D a1 fun G2 M2 σ2 H2 e2 s2 q2 => k G2 M2 σ2 H2 e2 (s1.trans s2) q2
theorem hear_le {W : Web} {lot : List Str} (h : OkWeb W) (hl : OkLot W.folk lot) {x : Str} {n : Int} (hn : n ∈ hear W lot (x, x, 0)) : 0 < n ∧ n ≤ 16000000000000 := by
  have F := reach_facts h hl
  unfold hear at hn
  have hn := (sortD_perm (enc := PyData.int) _).mem_iff.mp hn
  obtain ⟨h0, hk⟩ := heard_mem.mp hn
  have e : numsAt W (reachD W lot).num (x, x, 0) = (reachD W lot).num x := if_pos rfl
  rw [e] at hk
  refine ⟨h0, ?_⟩
  rcases hk with q | q
  · exact (F.par (x, 0) n (.inl rfl) (by unfold numAt at2; rw [if_pos rfl]; exact q)).2.2
  · exact (F.par (x, 1) n (.inr rfl) (by unfold numAt at2; rw [if_neg (show ¬ ((1:Int) = 0) by decide)]; exact q)).2.2
abbrev eight : Str := "abcdefgh"
abbrev three : Str := "xyz"
theorem eight_at : ∀ k : Fin 24, atI eight.cps.toList ((k.val : Int) % 8) = some (97 + k.val % 8) := by decide +kernel
theorem three_at : ∀ k : Fin 24, atI three.cps.toList ((k.val : Int) / 8) = some (120 + k.val / 8) := by decide +kernel
theorem first_of {es : List Int} {n : Int} {p : Int → Prop} (h : ∀ e ∈ es, p e) (hn : p n) : ∃ m, p m ∧ atI (es.map PyData.int ++ [PyData.int n]) 0 = some (.int m) := by
  cases es with
  | nil => exact ⟨n, hn, rfl⟩
  | cons e es => exact ⟨e, h e (by simp), by show atI (PyData.int e :: (es.map PyData.int ++ [PyData.int n])) 0 = _; exact atI_0⟩
inductive RDeed (K : PySem.W.Frag) : CtrX
  | mk {M : OM} {l : LA} {s0 s : Snap} {k : Nat} {past : List Snap} {ds : List Deed} {webs : List Web} (ok : LwOk K M l) (r : Run s0 k s past ds webs) (f0 : Fine s0) (h0 : s0.cries = []) (hk : k < 24) :
    RDeed K (lwM K M l (noted s ds webs) s past ds) [Rf l.r, Rf l.a.x, Rf l.t, Dd K (.int (k : Nat))] (fun P m => P = Dd K (.bool true) ∧ Stood K l s0 (k + 1) m)
abbrev n_law_deed_right : List Str := ["_law_reel_here", "_law_some", "_law_state", "_law_k", "_law_web_here", "_law_now", "_law_cries", "_law_past", "_law_kind", "_law_cry", "_law_lot_here", "_law_further", "_law_begun", "_law_own", "_law_name_here", "_law_ends", "_law_beat"]
theorem sc_law_deed_right : FnScope n_law_deed_right ["_law_reel_here", "_law_some", "_law_state", "_law_k"] (defScope (top 77)) := ⟨rfl, rfl, rfl, by decide +kernel, rfl, by decide +kernel, by decide +kernel⟩
theorem ok_law_deed_right (T : Tx K mg base) : Cal P w K mg base 14 "_law_deed_right" (SpX (RDeed K)) [] := by
  obtain ⟨fd, F⟩ := T.fd_law_deed_right
  have nd := sc_law_deed_right.nd
  let nm := n_law_deed_right
  let scp := defScope (top 77)
  have C_Night_back : Met P w K mg base 1 (He.ga K "Night") "back" (SpR (RBack K)) := ok_Night_back T
  have C_Night_begin : Met P w K mg base 3 (He.ga K "Night") "begin" (SpR (RBegin K)) := ok_Night_begin T
  have C_Night_go_on : Met P w K mg base 2 (He.ga K "Night") "go_on" (SpR (RGoOn K)) := ok_Night_go_on T
  have C_hearings : Cal P w K mg base 8 "hearings" (SpR (RHear K)) [] := ok_hearings T
  have C_law_draw : Cal P w K mg base 1 "_law_draw" (SpX (RDraw K)) [] := ok_law_draw T
  have C_law_lot : Cal P w K mg base 2 "_law_lot" (SpX (RLot K)) [] := ok_law_lot T
  have C_law_undone : Cal P w K mg base 2 "_law_undone" (SpR (RUndone K)) [] := ok_law_undone T
  have C_law_way_done : Cal P w K mg base 13 "_law_way_done" (SpX (RWayDone K)) [] := ok_law_way_done T
  refine cal_mk T.g__law_deed_right F (F.bindsN fun _ _ _ _ _ _ us hl => match us, hl with | [_, _, _, _], _ => rfl) (fn_ok (k := 13) F sc_law_deed_right (spx_len fun _ _ _ h => by cases h <;> rfl) fun cdv A outer s H E hr => ?_)
  have hu := hu_of hr
  refine ⟨_, (pss_cons (ps_asg (pe_slice (sl_listK (K := K) rfl) (pv 2) po_none (po_some pe_int)) (pg_lstK (K := K) (n := 4) rfl (by rfl) (pgs_cons (pg_name (i := 4) nd rfl (by first | exact Or.inl rfl | exact Or.inr rfl)) (pgs_cons (pg_name (i := 5) nd rfl (by first | exact Or.inl rfl | exact Or.inr rfl)) (pgs_cons (pg_name (i := 6) nd rfl (by first | exact Or.inl rfl | exact Or.inr rfl)) (pgs_cons (pg_name (i := 7) nd rfl (by first | exact Or.inl rfl | exact Or.inr rfl)) pgs_nil))))))
    (pss_cons (ps_set (i := 8) nd rfl (by first | exact Or.inl rfl | exact Or.inr rfl) (pe_c C_law_draw hr (by decide) (by rfl) (pa_cons (pv 0) (pa_cons pe_int pa_nil))))
    (pss_cons (ps_if (pt_cmpR op_lt (pv 8) pe_int (nomark _)) (pss_cons (ps_set (i := 9) nd rfl (by first | exact Or.inl rfl | exact Or.inr rfl) (pe_op op_add_str (pe_ix (ix_K (K := K) rfl) pe_str (pe_op op_mod (pv 3) pe_int) (fun _ _ => rfl)) (pe_ix (ix_K (K := K) rfl) pe_str (pe_op op_fdiv (pv 3) pe_int) (fun _ _ => rfl))))
    (pss_cons (ps_set (i := 10) nd rfl (by first | exact Or.inl rfl | exact Or.inr rfl) (pe_c C_law_lot hr (by decide) (by rfl) (pa_cons (pv 0) (pa_cons (pe_ix (ix_K (K := K) rfl) (pv 4) pe_int (fun _ _ => rfl)) pa_nil))))
    (pss_cons (ps_expr (pe_mt C_Night_begin hr (by decide) (pv 1) (pa_cons (pv 9) (pa_cons (pv 10) pa_nil))))
    (pss_cons (ps_expr (pe_bm PySem.F.plainAttrs_list PySem.F.slot_list_append PySem.F.type_list_append mt_append (pv 6) (pa_cons (pe_tup (pa_cons (pv 9) (pa_cons (pv 5) (pa_cons (pv 4) (pa_cons (pv 10) pa_nil))))) pa_nil)))
    (pss_one (ps_expr (pe_bm PySem.F.plainAttrs_list PySem.F.slot_list_append PySem.F.type_list_append mt_append (pv 7) (pa_cons (pe_tup (pa_cons pe_str (pa_cons (pv 9) (pa_cons (pv 10) pa_nil)))) pa_nil)))))))) (pss_one (ps_if (pt_cmpR (op_eqK (K := K) rfl hr.units) (pv 8) pe_int (nomark _)) (pss_cons (ps_set (i := 11) nd rfl (by first | exact Or.inl rfl | exact Or.inr rfl) (pe_ix (ix_K (K := K) rfl) (pe_lst (pa_cons (pe_c C_law_draw hr (by decide) (by rfl) (pa_cons (pv 0) (pa_cons pe_int pa_nil))) (pa_cons (pe_c C_law_draw hr (by decide) (by rfl) (pa_cons (pv 0) (pa_cons (pe_op op_pow pe_int pe_int) pa_nil))) pa_nil))) (pe_c C_law_draw hr (by decide) (by rfl) (pa_cons (pv 0) (pa_cons pe_int pa_nil))) (fun _ _ => rfl)))
    (pss_cons (ps_if (PW.pt (pw_and (pt_cmpR (op_neK (K := K) rfl hr.units) (pv 6) (pe_lst pa_nil) (nomark _)) (pw_and1 (pt_cmpR (op_eqK (K := K) rfl hr.units) (pe_c C_law_draw hr (by decide) (by rfl) (pa_cons (pv 0) (pa_cons pe_int pa_nil))) pe_int (nomark _))))) (pss_cons (ps_asg (pe_ix (ix_K (K := K) rfl) (pv 6) (pe_c C_law_draw hr (by decide) (by rfl) (pa_cons (pv 0) (pa_cons (pe_callB (call_lenK (K := K) rfl) (by rfl) T.f_len (by decide +kernel) (pa_cons (pv 6) pa_nil)) pa_nil))) (fun _ _ => rfl)) (pg_tupK (K := K) (n := 4) rfl (by rfl) (pgs_cons (pg_name (i := 9) nd rfl (by first | exact Or.inl rfl | exact Or.inr rfl)) (pgs_cons (pg_name (i := 12) nd rfl (by first | exact Or.inl rfl | exact Or.inr rfl)) (pgs_cons (pg_name (i := 13) nd rfl (by first | exact Or.inl rfl | exact Or.inr rfl)) (pgs_cons (pg_name (i := 10) nd rfl (by first | exact Or.inl rfl | exact Or.inr rfl)) pgs_nil))))))
    (pss_cons (ps_set (i := 14) nd rfl (by first | exact Or.inl rfl | exact Or.inr rfl) (pe_ix (ix_K (K := K) rfl) (pe_ix (ix_K (K := K) rfl) (pv 13) pe_int (fun _ _ => rfl)) (pe_c C_law_draw hr (by decide) (by rfl) (pa_cons (pv 0) (pa_cons (pe_callB (call_lenK (K := K) rfl) (by rfl) T.f_len (by decide +kernel) (pa_cons (pe_ix (ix_K (K := K) rfl) (pv 13) pe_int (fun _ _ => rfl)) pa_nil)) pa_nil))) (fun _ _ => rfl)))
    (pss_cons (ps_setLc (i := 15) (own := [("_law_beat", 16)]) (by rfl) nd rfl rfl (sw_true rfl rfl rfl (by decide +kernel)) (pi_listK (K := K) rfl (pe_c C_hearings hr (by decide) (by rfl) (pa_cons (pv 13) (pa_cons (pv 10) (pa_cons (pe_tup (pa_cons (pv 14) (pa_cons (pv 14) (pa_cons pe_int pa_nil)))) pa_nil))))) (blkOk_by (own := [("_law_beat", 16)]) (N := nm) (sc := scp) (by decide +kernel)) (fun _ _ _ _ _ => (pg_name (i := 16) nd rfl (by first | exact Or.inl rfl | exact Or.inr rfl))) (fun _ _ _ _ _ => pts_one (pt_cmpR op_ge (pe_op op_add (pv 12) (pv 16)) (pv 5) (nomark _))) (fun _ _ _ _ _ => (pe_op op_sub (pe_op op_add (pv 12) (pv 16)) (pv 5))))
    (pss_one (ps_set (i := 11) nd rfl (by first | exact Or.inl rfl | exact Or.inr rfl) (pe_ix (ix_K (K := K) rfl) (pe_op (op_catLK (K := K) rfl) (pv 15) (pe_lst (pa_cons (pv 11) pa_nil))) pe_int (fun _ _ => rfl))))))) pss_nil)
    (pss_cons (ps_expr (pe_mt C_Night_go_on hr (by decide) (pv 1) (pa_cons (pv 11) pa_nil)))
    (pss_cons (ps_asg (pe_op op_add (pv 5) (pv 11)) (pg_sub (pv 2) pe_int set_list))
    (pss_one (ps_expr (pe_bm PySem.F.plainAttrs_list PySem.F.slot_list_append PySem.F.type_list_append mt_append (pv 7) (pa_cons (pe_tup (pa_cons pe_str (pa_cons (pv 11) pa_nil))) pa_nil)))))))) (pss_one (ps_if (pt_cmpR (op_eqK (K := K) rfl hr.units) (pv 8) pe_int (nomark _)) (pss_one (ps_ret (pe_c C_law_way_done hr (by decide) (by rfl) (pa_cons (pv 0) (pa_cons (pv 1) (pa_cons (pv 2) pa_nil)))))) (pss_one (ps_if (pt_cmpR (op_neK (K := K) rfl hr.units) (pv 7) (pe_lst pa_nil) (nomark _)) (pss_cons (ps_expr (pe_mt0 C_Night_back hr (by decide) (pv 1)))
    (pss_one (ps_ret (pe_c C_law_undone hr (by decide) (by rfl) (pa_cons (pv 2) pa_nil))))) pss_nil)))))))
    (pss_one (ps_ret pe_bl))))), fun vs Q h => endx_rtn h ?_⟩
  try dsimp only [cx_K]
  rintro _ _ _ ⟨ok, r, f0, h0, hk⟩
  rename_i M l s0 s k past ds webs
  let v : LV := noted s ds webs
  have f := r.fine f0
  obtain ⟨ln1, ln2, ln3, ln4⟩ := r.len
  rw [h0] at ln3
  simp only [List.length_nil, Nat.zero_add] at ln3
  have hf8 := f.web.f8
  have hc : ∀ c ∈ s.cries, OkCr c := fun c h => (f.cries c h).1
  have hl100 : s.cries.length ≤ 100 := by omega
  have hsz : 24 < sizeLine := by decide
  let G0 := gam n_law_deed_right [Rf l.r, Rf l.a.x, Rf l.t, Dd K (.int (k : Nat))]
  let G1 : Gm := (((G0.set 4 (some (Dd K (webD s.web)))).set 5 (some (Dd K (.int s.at_)))).set 6 (some (Rf l.c))).set 7 (some (Rf l.p))
  refine rtnx_seqN (nrm_four ok rfl) ?_
  refine rtnx_seq (Φ := fun g m => ∃ kd : Int, 0 ≤ kd ∧ kd < 5 ∧ ∃ M', LwOk K M' l ∧ g = G1.set 8 (some (Dd K (.int kd))) ∧ m = lwM K M' l v s past ds) (NrmX.imp (nrmx_set (i := 8) (evx_draw (eva_cons (ev_at (Rf l.r)) (eva_cons ev_int eva_nil)) (lw_r ok) (by decide) (by decide))) ?_) ?_
  · rintro _ m ⟨_, ⟨n, hn0, hn1, rfl, d⟩, rfl⟩
    obtain ⟨M', _, ok', rfl⟩ := lw_drawn ok d
    exact ⟨n, hn0, hn1, M', ok', rfl, rfl⟩
  rintro _ _ ⟨kd, hk0, hk5, M1, ok1, rfl, rfl⟩
  clear ok
  let G2 := G1.set 8 (some (Dd K (.int kd)))
  let m1 := lwM K M1 l v s past ds
  have last : ∀ g m, Stood K l s0 (k + 1) m → RtnX g m (tRet (tC (V.bl true))) (fun P m => P = Dd K (.bool true) ∧ Stood K l s0 (k + 1) m) := fun g m h => rtnx_ret ((Evl.x (ev_bl (K := K))).imp fun P m' e => ⟨e.1, by rw [e.2]; exact h⟩)
  by_cases c1 : kd < 2
  · refine rtnx_seq (Φ := fun _ m => Stood K l s0 (k + 1) m) (nrmx_if (b := true) (M1 := m1) (EvT.c (evt_test (K := K) (ev_op (ev_at (G := G2) (Dd K (.int kd))) ev_int ope_B)) (decide_eq_true c1)) (fun _ => ?_) (fun z => by cases z)) (fun g m h => last g m h)
    let G3 := G2.set 9 (some (Dd K (.str (nmK k))))
    refine nrmx_seqN (G1 := G3) (M1 := m1) (nrm_set (P := Dd K (.str (nmK k))) (Evl.c (ev_op (ev_op (P := Dd K (.str ⟨#[97 + k % 8]⟩)) ev_str (ev_op (ev_at (G := G2) (Dd K (.int (k : Nat)))) ev_int (ope_IC (show (0:Int) < 8 by decide))) (ope_ixS (by decide) (eight_at ⟨k, hk⟩))) (ev_op (P := Dd K (.str ⟨#[120 + k / 8]⟩)) ev_str (ev_op (ev_at (G := G2) (Dd K (.int (k : Nat)))) ev_int (ope_IC ⟨by decide, by decide⟩)) (ope_ixS (by decide) (three_at ⟨k, hk⟩))) (ope_cat (show 2 ≤ sizeLine by decide))) rfl)) ?_
    refine nrmx_seq (Φ := fun g m => ∃ lot, OkLot s.web.folk lot ∧ ∃ M', LwOk K M' l ∧ g = G3.set 10 (some (Dd K (.list (lot.map .str)))) ∧ m = lwM K M' l v s past ds) (NrmX.imp (nrmx_set (i := 10) (evx_call (eva_cons (ev_at (G := G3) (Rf l.r)) (eva_cons (ev_ixt (ev_at (G := G3) (Dd K (webD s.web))) rfl) eva_nil)) (RLot.mk (lw_r ok1) f.web))) ?_) ?_
    · rintro _ m ⟨_, ⟨lot, ho, rfl, d⟩, rfl⟩
      obtain ⟨M', _, ok', rfl⟩ := lw_drawn ok1 d
      exact ⟨lot, ho, M', ok', rfl, rfl⟩
    rintro _ _ ⟨lot, ho, M2, ok2, rfl, rfl⟩
    clear ok1
    have nt := lw_nt (v := v) ok2
    let G4 := G3.set 10 (some (Dd K (.list (lot.map .str))))
    let c : Cr := ⟨nmK k, s.at_, s.web, lot⟩
    have fresh : ∀ d ∈ s.cries, d.nm ≠ nmK k := fun d hd e => by
      obtain ⟨j, hj, e2⟩ := r.names h0 d hd
      have := congrArg Fin.val (nmK_inj ⟨j, by omega⟩ ⟨k, hk⟩ (e2.symm.trans e))
      simp only at this
      omega
    let s' : Snap := { s with cries := s.cries ++ [c] }
    let d : Deed := .begin (nmK k) lot
    have st : StepD s d s' := .begin ho (nmK_ok ⟨k, hk⟩) fresh
    let m3 := lwM K M2 l v s' (past ++ [s]) (ds ++ [d])
    refine nrmx_seqN (G1 := G4) (M1 := m3) (nrm_drop (ev_methO (C := NC K) (dx := l.a.dx) (p := l.a.x) (fs := ntF K s l.a.p l.a.q) (ev_at (G := G4) (Rf l.a.x)) (ntM_x nt) rfl (eva_cons (ev_at (G := G4) (Dd K (.str (nmK k)))) (eva_cons (ev_at (G := G4) (Dd K (.list (lot.map .str)))) eva_nil)) (RBegin.mk nt (by omega) (by omega) hl100 f.web ho (nmK_ok ⟨k, hk⟩) fresh))) ?_
    let v4 : LV := { v with cries := s.cries ++ [c] }
    let m4 := lwM K M2 l v4 s' (past ++ [s]) (ds ++ [d])
    refine nrmx_seqN (G1 := G4) (M1 := m4) (nrm_drop (Evl.c (ev_append (P := Dd K (rowD c)) (ps := v.cries.map fun c => Dd K (rowD c)) (ev_at (G := G4) (Rf l.c)) (ev_tupD (evad_cons (ev_at (G := G4) (Dd K (.str (nmK k)))) (evad_cons (ev_at (G := G4) (Dd K (.int s.at_))) (evad_cons (ev_at (G := G4) (Dd K (webD s.web))) (evad_cons (ev_at (G := G4) (Dd K (.list (lot.map .str)))) evad_nil))))) ⟨_, lw_c ok2⟩ (lw_c ok2) (by rw [List.length_map]; show s.cries.length < sizeLine; omega)) rfl ?_)) ?_
    · have := lw_setc (K := K) (M := M2) (s := s') (past := past ++ [s]) (ds := ds ++ [d]) ok2 (v := v) (cries := s.cries ++ [c])
      refine Eq.trans ?_ this
      show m3.set l.c (.lst ((s.cries.map fun c => Dd K (rowD c)) ++ [Dd K (rowD c)])) = m3.set l.c (.lst ((s.cries ++ [c]).map fun c => Dd K (rowD c)))
      rw [List.map_append]; rfl
    refine NrmX.imp (Nrm.x (M1 := lwM K M2 l (noted s' (ds ++ [d]) webs) s' (past ++ [s]) (ds ++ [d])) (nrm_drop (Evl.c (ev_append (P := Dd K (deedD d)) (ps := v4.ds.map fun d => Dd K (deedD d)) (ev_at (G := G4) (Rf l.p)) (ev_tupD (evad_cons ev_str (evad_cons (ev_at (G := G4) (Dd K (.str (nmK k)))) (evad_cons (ev_at (G := G4) (Dd K (.list (lot.map .str)))) evad_nil)))) ⟨_, lw_p ok2⟩ (lw_p ok2) (by rw [List.length_map]; show ds.length < sizeLine; omega)) rfl ?_))) ?_
    · have := lw_setp (K := K) (M := M2) (s := s') (past := past ++ [s]) (ds := ds ++ [d]) ok2 (v := v4) (es := ds ++ [d])
      refine Eq.trans ?_ this
      show m4.set l.p (.lst ((ds.map fun d => Dd K (deedD d)) ++ [Dd K (deedD d)])) = m4.set l.p (.lst ((ds ++ [d]).map fun d => Dd K (deedD d)))
      rw [List.map_append]; rfl
    · rintro _ _ ⟨rfl, rfl⟩
      have r2 := Run.snoc r st (k := k + 1) (fun nm lot e => (Deed.begin.inj e).1.symm) (Nat.lt_succ_self _)
      exact ⟨M2, s', past ++ [s], ds ++ [d], webs ++ websOf s d, ok2, r2, by show _ = lwM K M2 l (noted s' (ds ++ [d]) (webs ++ [])) s' (past ++ [s]) (ds ++ [d]); rw [List.append_nil]⟩
  by_cases c2 : kd = 2
  · subst c2
    refine rtnx_seq (Φ := fun _ m => Stood K l s0 (k + 1) m) (nrmx_if (b := false) (M1 := m1) (EvT.c (evt_test (K := K) (ev_op (ev_at (G := G2) (Dd K (.int 2))) ev_int ope_B)) rfl) (fun z => by cases z) fun _ => nrmx_if (b := true) (M1 := m1) (EvT.c (evt_test (K := K) (ev_op (ev_at (G := G2) (Dd K (.int 2))) ev_int ope_eqi)) rfl) (fun _ => ?_) (fun z => by cases z)) (fun g m h => last g m h)
    refine nrmx_seq (Φ := fun g m => ∃ n : Int, 0 ≤ n ∧ n ≤ 10000000000000 ∧ ∃ M', LwOk K M' l ∧ g = G2.set 11 (some (Dd K (.int n))) ∧ m = lwM K M' l v s past ds) (NrmX.imp (nrmx_set (i := 11) (evx_op (Φ := fun P m => ∃ a b : Int, 0 ≤ a ∧ a ≤ 10000000000000 ∧ 0 ≤ b ∧ b ≤ 10000000000000 ∧ P = Ls K [Dd K (.int a), Dd K (.int b)] ∧ ∃ M', LwOk K M' l ∧ m = lwM K M' l v s past ds) (Φ2 := fun _ _ P m => ∃ n : Int, 0 ≤ n ∧ n < 2 ∧ P = Dd K (.int n) ∧ ∃ M', LwOk K M' l ∧ m = lwM K M' l v s past ds) (Ψ := fun P m => ∃ n : Int, 0 ≤ n ∧ n ≤ 10000000000000 ∧ P = Dd K (.int n) ∧ ∃ M', LwOk K M' l ∧ m = lwM K M' l v s past ds) (EvlX.imp (evx_lsX (K := K) (Φ := fun ps m => ∃ a b : Int, 0 ≤ a ∧ a ≤ 10000000000000 ∧ 0 ≤ b ∧ b ≤ 10000000000000 ∧ ps = [Dd K (.int a), Dd K (.int b)] ∧ ∃ M', LwOk K M' l ∧ m = lwM K M' l v s past ds) (evax_cons (evx_draw (eva_cons (ev_at (G := G2) (Rf l.r)) (eva_cons ev_int eva_nil)) (lw_r ok1) (by decide) (by decide)) ?_) ?_) ?_) ?_ ?_)) ?_) ?_
    · rintro _ m ⟨a, ha0, ha1, rfl, d⟩
      obtain ⟨M2, _, ok2, rfl⟩ := lw_drawn ok1 d
      refine evax_last (evx_draw (many := 10000000000000) (eva_cons (ev_at (G := G2) (Rf l.r)) (eva_cons (Evl.c (ev_op ev_int ev_int (ope_IC ⟨by decide, by decide, by decide⟩)) rfl) eva_nil)) (lw_r ok2) (by decide) (by decide)) ?_
      rintro _ m ⟨b, hb0, hb1, rfl, d⟩
      obtain ⟨M3, _, ok3, rfl⟩ := lw_drawn ok2 d
      exact ⟨a, b, ha0, by omega, hb0, by omega, rfl, M3, ok3, rfl⟩
    · rintro _ m ⟨a, b, _, _, _, _, rfl, _⟩
      exact (show 2 ≤ sizeLine by decide)
    · rintro _ m ⟨_, ⟨a, b, h1, h2, h3, h4, rfl, h5⟩, rfl⟩
      exact ⟨a, b, h1, h2, h3, h4, rfl, h5⟩
    · rintro _ m ⟨a, b, h1, h2, h3, h4, rfl, M2, ok2, rfl⟩
      refine (evx_draw (many := 2) (eva_cons (ev_at (G := G2) (Rf l.r)) (eva_cons ev_int eva_nil)) (lw_r ok2) (by decide) (by decide)).imp ?_
      rintro _ m ⟨n, hn0, hn1, rfl, d⟩
      obtain ⟨M3, _, ok3, rfl⟩ := lw_drawn ok2 d
      exact ⟨n, hn0, hn1, rfl, M3, ok3, rfl⟩
    · rintro _ _ _ m ⟨a, b, h1, h2, h3, h4, rfl, _⟩ ⟨n, hn0, hn1, rfl, hm⟩
      have : n = 0 ∨ n = 1 := by omega
      rcases this with rfl | rfl
      · exact ⟨_, m, ope_ixL rfl, a, h1, h2, rfl, hm⟩
      · exact ⟨_, m, ope_ixL rfl, b, h3, h4, rfl, hm⟩
    · rintro _ m ⟨_, ⟨n, h1, h2, rfl, M', ok', rfl⟩, rfl⟩
      exact ⟨n, h1, h2, M', ok', rfl, rfl⟩
    rintro _ _ ⟨n0, hn0, hn1, M2, ok2, rfl, rfl⟩
    clear ok1
    let G3 := G2.set 11 (some (Dd K (.int n0)))
    let m2 := lwM K M2 l v s past ds
    refine nrmx_seq (Φ := fun g m => ∃ n : Int, 0 ≤ n ∧ n ≤ 1000000000000000000000000000000 ∧ (g[1]? = some (some (Rf l.a.x)) ∧ g[2]? = some (some (Rf l.t)) ∧ g[5]? = some (some (Dd K (.int s.at_))) ∧ g[7]? = some (some (Rf l.p)) ∧ g[11]? = some (some (Dd K (.int n)))) ∧ ∃ M', LwOk K M' l ∧ m = lwM K M' l v s past ds) (nrmx_ifX (Φ := fun b m => (b = true → s.cries ≠ []) ∧ ∃ M', LwOk K M' l ∧ m = lwM K M' l v s past ds) (evtx_and (Φ := fun b m => b = (!(s.cries.map fun c => Dd K (rowD c)).isEmpty) ∧ m = m2) (EvTX.imp (EvT.x (evt_test (K := K) (ev_op (ev_at (G := G3) (Rf l.c)) (ev_lstD evad_nil) (ope_ne0O (lw_c ok2))))) fun _ _ e => e) ?_ ?_) ?_ ?_) ?_
    · rintro _ ⟨e, rfl⟩
      refine evtx_test (K := K) (evx_opL (Ψ := fun P m => ∃ b, P = Dd K (.bool b) ∧ ∃ M', LwOk K M' l ∧ m = lwM K M' l v s past ds) (evx_draw (eva_cons (ev_at (G := G3) (Rf l.r)) (eva_cons ev_int eva_nil)) (lw_r ok2) (by decide) (by decide)) ?_) ?_
      · rintro _ m ⟨n, h1, h2, rfl, d⟩
        obtain ⟨M3, _, ok3, rfl⟩ := lw_drawn ok2 d
        exact ⟨_, _, _, _, ev_int, ope_eqi, _, rfl, M3, ok3, rfl⟩
      · rintro _ m ⟨b, rfl, M3, ok3, rfl⟩
        exact ⟨b, rfl, (fun _ z => by rw [z] at e; cases e), M3, ok3, rfl⟩
    · rintro _ ⟨e, rfl⟩
      exact ⟨fun z => (by cases z), M2, ok2, rfl⟩
    · rintro _ ⟨hne, M3, ok3, rfl⟩
      have hne := hne rfl
      refine nrmx_seq (Φ := fun g m => ∃ c ∈ s.cries, ∃ M', LwOk K M' l ∧ g = ((((G3.set 9 (some (Dd K (.str c.nm)))).set 12 (some (Dd K (.int c.since)))).set 13 (some (Dd K (webD c.web)))).set 10 (some (Dd K (.list (c.lot.map .str))))) ∧ m = lwM K M' l v s past ds) (nrmx_asg (evx_pickO (f := fun c => Dd K (rowD c)) (l := s.cries) (p := l.c) (ev_at (G := G3) (Rf l.c)) (lw_c ok3) (eva_cons (ev_at (G := G3) (Rf l.r)) (eva_cons (ev_lenOF (f := fun c => Dd K (rowD c)) (l := s.cries) (ev_at (G := G3) (Rf l.c)) (lw_c ok3)) eva_nil)) (lw_r ok3) (Ne.symm (ok3.rne (by simp))) hne (by omega)) ?_) ?_
      · rintro _ m ⟨c, hcm, rfl, d⟩
        obtain ⟨M4, _, ok4, rfl⟩ := lw_drawn ok3 d
        exact ⟨_, _, evg_tup4, c, hcm, M4, ok4, rfl, rfl⟩
      rintro _ _ ⟨c, hcm, M4, ok4, rfl, rfl⟩
      clear ok3
      obtain ⟨hcr, hcf, hcs⟩ := f.cries c hcm
      have hcf8 := hcr.web.f8
      let G4 := ((((G3.set 9 (some (Dd K (.str c.nm)))).set 12 (some (Dd K (.int c.since)))).set 13 (some (Dd K (webD c.web)))).set 10 (some (Dd K (.list (c.lot.map .str)))))
      refine nrmx_seq (Φ := fun g m => ∃ x ∈ c.web.folk, ∃ M', LwOk K M' l ∧ g = G4.set 14 (some (Dd K (.str x))) ∧ m = lwM K M' l v s past ds) (NrmX.imp (nrmx_set (i := 14) (evx_pick (f := PyData.str) (l := c.web.folk) (ev_ixt (ev_at (G := G4) (Dd K (webD c.web))) rfl) (eva_cons (ev_at (G := G4) (Rf l.r)) (eva_cons (ev_lenF (ev_ixt (ev_at (G := G4) (Dd K (webD c.web))) rfl)) eva_nil)) (lw_r ok4) hcr.web.f0 (by omega))) ?_) ?_
      · rintro _ m ⟨_, ⟨x, hx, rfl, d⟩, rfl⟩
        obtain ⟨M5, _, ok5, rfl⟩ := lw_drawn ok4 d
        exact ⟨x, hx, M5, ok5, rfl, rfl⟩
      rintro _ _ ⟨x, hx, M5, ok5, rfl, rfl⟩
      clear ok4
      have nt := lw_nt (v := v) ok5
      let m5 := lwM K M5 l v s past ds
      have tb : Tb K m5 := ntM_tb nt
      let G5 := G4.set 14 (some (Dd K (.str x)))
      have hp : OkPlace c.web (x, x, 0) := ⟨hcr.web.names _ hx, hcr.web.names _ hx, .inl ⟨rfl, hx, rfl⟩⟩
      let es : List Int := ((hear c.web c.lot (x, x, 0)).filter fun n => decide (c.since + n ≥ s.at_)).map fun n => c.since + n - s.at_
      let G6 := G5.set 15 (some (Dd K (.list (es.map .int))))
      refine nrmx_seqN (G1 := G6) (M1 := m5) (nrm_set (P := Dd K (.list (es.map .int))) (Evl.c (ev_lcL (K := K) (hear c.web c.lot (x, x, 0)) .int (fun n => .int (c.since + n - s.at_)) (fun n => decide (c.since + n ≥ s.at_)) (ev_call (eva_cons (ev_at (G := G5) (Dd K (webD c.web))) (eva_cons (ev_at (G := G5) (Dd K (.list (c.lot.map .str)))) (eva_cons (Evl.c (P' := Dd K (wayD (x, x, 0))) (ev_tupD (evad_cons (ev_at (G := G5) (Dd K (.str x))) (evad_cons (ev_at (G := G5) (Dd K (.str x))) (evad_cons ev_int evad_nil)))) rfl) eva_nil))) (RHear.mk tb hcr.web hcr.lot hp)) (Nat.le_trans hear_len (by decide)) fun n _ D cc hD => turn_if (evgw_name (by decide)) (evt_test (K := K) (ev_op (ev_op (ev_at (Dd K (.int c.since))) (ev_at (Dd K (.int n))) ope_I) (ev_at (Dd K (.int s.at_))) ope_B)) fun _ => ev_op (ev_op (ev_at (Dd K (.int c.since))) (ev_at (Dd K (.int n))) ope_I) (ev_at (Dd K (.int s.at_))) ope_I) (by show _ = Dd K (.list ((List.map _ _).map PyData.int)); rw [List.map_map]; rfl))) ?_
      have hes : ∀ e ∈ es, 0 ≤ e ∧ e ≤ 1000000000000000000000000000000 := fun e he => by
        obtain ⟨n, hn, rfl⟩ := List.mem_map.mp he
        obtain ⟨q1, q2⟩ := List.mem_filter.mp hn
        have q2 := of_decide_eq_true q2
        have := hear_le hcr.web hcr.lot q1
        omega
      obtain ⟨n, hn, en⟩ := first_of (p := fun e => 0 ≤ e ∧ e ≤ 1000000000000000000000000000000) hes (n := n0) ⟨hn0, by omega⟩
      have hel : es.length ≤ 2 := by
        show (List.map _ (List.filter _ _)).length ≤ 2
        rw [List.length_map]
        exact Nat.le_trans (List.length_filter_le _ _) hear_len
      refine NrmX.imp (Nrm.x (nrm_set (i := 11) (P := Dd K (.int n)) (ev_op (ev_op (ev_at (G := G6) (Dd K (.list (es.map .int)))) (ev_lstD (evad_cons (ev_at (G := G6) (Dd K (.int n0))) evad_nil)) (ope_catLD (Nat.le_trans (show (es.map PyData.int).length + 1 ≤ 3 by rw [List.length_map]; omega) (by decide)))) ev_int (ope_ixLD en)))) ?_
      rintro _ _ ⟨rfl, rfl⟩
      exact ⟨n, hn.1, hn.2, ⟨by kernel_rfl, by kernel_rfl, by kernel_rfl, by kernel_rfl, by kernel_rfl⟩, M5, ok5, rfl⟩
    · rintro _ ⟨_, M3, ok3, rfl⟩
      refine nrm_next.x.imp ?_
      rintro _ _ ⟨rfl, rfl⟩
      exact ⟨n0, hn0, by omega, ⟨by kernel_rfl, by kernel_rfl, by kernel_rfl, by kernel_rfl, by kernel_rfl⟩, M3, ok3, rfl⟩
    rintro g _ ⟨n, h1, h2, ⟨g1, g2, g5, g7, g11⟩, M3, ok3, rfl⟩
    clear ok2
    have nt := lw_nt (v := v) ok3
    let s' : Snap := { s with at_ := s.at_ + n }
    let d : Deed := .go n
    have st : StepD s d s' := .go h1 h2
    let m3 := lwM K M3 l v s' (past ++ [s]) (ds ++ [d])
    refine nrmx_seqN (G1 := g) (M1 := m3) (nrm_drop (ev_methO (C := NC K) (dx := l.a.dx) (p := l.a.x) (fs := ntF K s l.a.p l.a.q) (ev_var g1) (ntM_x nt) rfl (eva_cons (ev_var g11) eva_nil) (RGoOn.mk nt (by omega) (by omega) h1 h2))) ?_
    let v4 : LV := { v with web := s.web, now := s.at_ + n }
    let m4 := lwM K M3 l v4 s' (past ++ [s]) (ds ++ [d])
    refine nrmx_seqN (G1 := g) (M1 := m4) (nrm_asg (M1 := m3) (P := Dd K (.int (s.at_ + n))) (ev_op (ev_var g5) (ev_var g11) ope_I) (EvG.c (evg_setO (K := K) (ev_var g2) ev_int (lw_t ok3) rfl) (lw_sett (K := K) (M := M3) (s := s') (past := past ++ [s]) (ds := ds ++ [d]) ok3 (v := v) (web := s.web) (now := s.at_ + n)))) ?_
    refine NrmX.imp (Nrm.x (M1 := lwM K M3 l (noted s' (ds ++ [d]) webs) s' (past ++ [s]) (ds ++ [d])) (nrm_drop (Evl.c (ev_append (P := Dd K (deedD d)) (ps := v4.ds.map fun d => Dd K (deedD d)) (ev_var g7) (ev_tupD (evad_cons ev_str (evad_cons (ev_var g11) evad_nil))) ⟨_, lw_p ok3⟩ (lw_p ok3) (by rw [List.length_map]; show ds.length < sizeLine; omega)) rfl ?_))) ?_
    · have := lw_setp (K := K) (M := M3) (s := s') (past := past ++ [s]) (ds := ds ++ [d]) ok3 (v := v4) (es := ds ++ [d])
      refine Eq.trans ?_ this
      show m4.set l.p (.lst ((ds.map fun d => Dd K (deedD d)) ++ [Dd K (deedD d)])) = m4.set l.p (.lst ((ds ++ [d]).map fun d => Dd K (deedD d)))
      rw [List.map_append]; rfl
    · rintro _ _ ⟨rfl, rfl⟩
      have r2 := Run.snoc r st (k := k + 1) (fun nm lot e => Deed.noConfusion (show Deed.go n = Deed.begin nm lot from e)) (Nat.lt_succ_self _)
      exact ⟨M3, s', past ++ [s], ds ++ [d], webs ++ websOf s d, ok3, r2, by show _ = lwM K M3 l (noted s' (ds ++ [d]) (webs ++ [])) s' (past ++ [s]) (ds ++ [d]); rw [List.append_nil]⟩
  by_cases c3 : kd = 3
  · subst c3
    exact rtnx_seqR (rtnx_if (b := false) (M1 := m1) (EvT.c (evt_test (K := K) (ev_op (ev_at (G := G2) (Dd K (.int 3))) ev_int ope_B)) rfl) (fun z => by cases z) fun _ => rtnx_if (b := false) (M1 := m1) (EvT.c (evt_test (K := K) (ev_op (ev_at (G := G2) (Dd K (.int 3))) ev_int ope_eqi)) rfl) (fun z => by cases z) fun _ => rtnx_if (b := true) (M1 := m1) (EvT.c (evt_test (K := K) (ev_op (ev_at (G := G2) (Dd K (.int 3))) ev_int ope_eqi)) rfl) (fun _ => rtnx_ret (evx_call (eva_cons (ev_at (G := G2) (Rf l.r)) (eva_cons (ev_at (G := G2) (Rf l.a.x)) (eva_cons (ev_at (G := G2) (Rf l.t)) eva_nil))) (RWayDone.mk ok1 r f0 h0 hk))) (fun z => by cases z))
  have c4 : kd = 4 := by omega
  subst c4
  by_cases hne : ds = []
  · refine rtnx_seq (Φ := fun _ m => Stood K l s0 (k + 1) m) (nrmx_if (b := false) (M1 := m1) (EvT.c (evt_test (K := K) (ev_op (ev_at (G := G2) (Dd K (.int 4))) ev_int ope_B)) rfl) (fun z => by cases z) fun _ => nrmx_if (b := false) (M1 := m1) (EvT.c (evt_test (K := K) (ev_op (ev_at (G := G2) (Dd K (.int 4))) ev_int ope_eqi)) rfl) (fun z => by cases z) fun _ => nrmx_if (b := false) (M1 := m1) (EvT.c (evt_test (K := K) (ev_op (ev_at (G := G2) (Dd K (.int 4))) ev_int ope_eqi)) rfl) (fun z => by cases z) fun _ => nrmx_if (b := false) (M1 := m1) (EvT.c (evt_test (K := K) (ev_op (ev_at (G := G2) (Rf l.p)) (ev_lstD evad_nil) (ope_ne0O (lw_p ok1)))) ?_) (fun z => by cases z) fun _ => nrm_next.x.imp ?_) (fun g m h => last g m h)
    · show (!(ds.map fun d => Dd K (deedD d)).isEmpty) = false
      rw [hne]; rfl
    · rintro _ _ ⟨rfl, rfl⟩
      exact ⟨M1, s, past, ds, webs, ok1, r.mono (Nat.le_succ _), rfl⟩
  have hb : (!(ds.map fun d => Dd K (deedD d)).isEmpty) = true := by
    cases ds with
    | nil => exact absurd rfl hne
    | cons a b => rfl
  obtain ⟨s1, p, e, d, W, e1, e2, e3, st, r1⟩ := r.back hne
  have nt := lw_nt (v := v) ok1
  have hback : RBack K m1 [Rf l.a.x] (Dd K .none) (lwM K M1 l v s1 p e) := by
    show RBack K (ntM K (stM K M1 l v) l.a s past ds) _ _ _
    rw [e1, e2]
    exact RBack.mk nt
  have hund : RUndone K (lwM K M1 l v s1 p e) [Rf l.t] (Dd K (.bool true)) (lwM K M1 l (noted s1 e W) s1 p e) := by
    show RUndone K (lwM K M1 l (noted s ds webs) s1 p e) _ _ _
    rw [e2, e3]
    exact RUndone.mk ok1 st f.web (r1.fine f0).web
  refine rtnx_seqR (rtnx_if (b := false) (M1 := m1) (EvT.c (evt_test (K := K) (ev_op (ev_at (G := G2) (Dd K (.int 4))) ev_int ope_B)) rfl) (fun z => by cases z) fun _ => rtnx_if (b := false) (M1 := m1) (EvT.c (evt_test (K := K) (ev_op (ev_at (G := G2) (Dd K (.int 4))) ev_int ope_eqi)) rfl) (fun z => by cases z) fun _ => rtnx_if (b := false) (M1 := m1) (EvT.c (evt_test (K := K) (ev_op (ev_at (G := G2) (Dd K (.int 4))) ev_int ope_eqi)) rfl) (fun z => by cases z) fun _ => rtnx_if (b := true) (M1 := m1) (EvT.c (evt_test (K := K) (ev_op (ev_at (G := G2) (Rf l.p)) (ev_lstD evad_nil) (ope_ne0O (lw_p ok1)))) hb) (fun _ => rtnx_seqN (G1 := G2) (M1 := lwM K M1 l v s1 p e) (nrm_drop (ev_methO (C := NC K) (dx := l.a.dx) (p := l.a.x) (fs := ntF K s l.a.p l.a.q) (ev_at (G := G2) (Rf l.a.x)) (ntM_x nt) rfl eva_nil hback)) (rtnx_ret ((Evl.x (ev_call (eva_cons (ev_at (G := G2) (Rf l.t)) eva_nil) hund)).imp ?_))) (fun z => by cases z))
  rintro _ _ ⟨rfl, rfl⟩
  exact ⟨rfl, M1, s1, p, e, W, ok1, r1.mono (Nat.le_succ _), rfl⟩
end
end Z
set_option maxRecDepth 100000
set_option maxHeartbeats 4000000
/-! L11: the law's webs. Own work. -/
namespace Z
open PySem PySem.Spec L2
local macro_rules | `(tactic| walk_at "ev") => `(tactic| repeat' (first
  | with_reducible apply eva_nil
  | ((with_reducible apply ev_var); rfl)
  | with_reducible apply ev_int
  | with_reducible apply ev_str
  | with_reducible apply ev_bl
  | with_reducible apply ev_non
  | ((with_reducible show PySem.W.Frag); assumption)
  | with_reducible apply eva_cons
  | with_reducible apply ev_cb
  | with_reducible apply ev_op
  | with_reducible apply cbe_min2
  | with_reducible apply cbe_max2
  | with_reducible apply ope_I
  | with_reducible apply ope_B
  | with_reducible apply ope_isN
  | with_reducible apply ope_notN
  | with_reducible apply ope_eqi
  | with_reducible apply ope_nei
  | with_reducible apply ope_eqs
  | with_reducible apply ope_nes
  | with_reducible apply evt_test
  | with_reducible apply rtn_ret))
section
variable {P : Program} {w : World} {K : PySem.W.Frag} {mg : Str → Option Value} {base : Heap}
variable {G G1 G2 : Gm} {M M1 M2 M3 : OM}
theorem nrmx_dputT {td ty tv : TE} {Φ : PsE} {Ψ : Pst} (hv : EvlX G M tv Φ) (h : ∀ P m, Φ P m → ∃ (n : Int) (m2 m3 : OM) (p : Addr) (l : List (List Key × Int)) (k : List Key), P = Dd K (.int n) ∧ Evl G m td (Rf p) m2 ∧ Evl G m2 ty (Kt k) m3 ∧ m3 p = some (.dT (intT K l)) ∧ l.length < sizeLine ∧ Ψ G (m3.set p (.dT (intT K (putI l k n))))) :
    NrmX G M (sDPut td ty tv) Ψ := fun σ H D a c => hv σ H _ a fun P m v H1 e s1 q1 => by
  obtain ⟨n, m2, m3, p, l, k, rfl, hd, hk, hm, hl, hψ⟩ := h P m e
  have := nrm_dputT (G := G) (M := m) (M1 := m) (tv := fun _ H' Q => Same (Frz m H1) (Frz m H') → Q v H') (fun _ H' Q a' k' s' => k' v H' (.refl a'.own) (q1.mono s')) hd hk hm hl
  exact this σ H1 D (a.step s1) (fun σ2 H2 s2 a2 => c _ _ σ2 H2 hψ (s1.trans s2) a2) (Same.refl _)
theorem rtnx_drop {t : TS} {Φ Ψ : PsE} (h : RtnX G M t Φ) (f : ∀ P m, Φ P m → ∃ m', Ψ P m' ∧ ∀ H, Own m H → Stp m H m' H) : RtnX G M t Ψ := fun σ H D a k => h σ H D a fun P m v H' e s q => by
  obtain ⟨m', e2, d⟩ := f P m e
  have s2 := d H' s.own
  exact k P m' v H' e2 (s.trans s2) (q.mono s2.frz)
theorem del_stp {M' : OM} {D : Addr} {c : OC} (hD : M' D = none) (hc : isTbl c = false) (H : Hp) (w : Own (M'.set D c) H) : Stp (M'.set D c) H M' H := by
  have := (Stp.freeze w OM.set_same hc).1
  rwa [OM.del_set hD] at this
/-! ### the names -/
def rawNames (n : Nat) : List Str := (List.range n).map fun k => lett (k * (1 + n % 3))
def theNames (n : Nat) : List Str := sortD PyData.str (rawNames n)
theorem lett_inj {a b : Nat} (h : lett a = lett b) : a = b := by
  unfold lett at h
  have := congrArg (fun x : Str => x.cps.toList) h
  simp at this
  omega
theorem lett_ok : ∀ n : Fin 26, okName (lett n) := fun n => by
  have h : ∀ i : Fin 26, ∀ c ∈ (lett i).cps.toList, c ∈ letters.cps.toList := by decide +kernel
  exact ⟨by show 1 ≤ 1; omega, by show 1 ≤ 8; omega, h n⟩
theorem small_k {n k : Nat} (hn : n ≤ 8) (hk : k < n) : k * (1 + n % 3) < 26 := by
  have h3 : n % 3 ≤ 2 := by omega
  have : k * (1 + n % 3) ≤ 7 * 3 := Nat.mul_le_mul (by omega) (by omega)
  omega
theorem raw_nd {n : Nat} : (rawNames n).Nodup := by
  unfold rawNames List.Nodup
  rw [List.pairwise_map]
  refine List.nodup_range.imp fun {a b} h e => h ?_
  have := lett_inj e
  exact Nat.eq_of_mul_eq_mul_right (by omega) this
theorem names_rise {n : Nat} : (theNames n).Pairwise fun a b => sl a b = true := by
  have nd : (theNames n).Nodup := (sortD_perm (enc := PyData.str) (rawNames n)).symm.nodup raw_nd
  exact ((sortD_le (enc := PyData.str) (rawNames n)).and nd).imp fun {a b} q => by
    rcases sl_tot q.2 with e | e
    · exact e
    · exfalso
      have := q.1
      rw [leD_def, show PySem.W.dataLt (.str b) (.str a) = true from e] at this
      cases this
theorem names_ok {n : Nat} (h1 : 1 ≤ n) (h8 : n ≤ 8) : OkFolk (theNames n) := by
  have pm := sortD_perm (enc := PyData.str) (rawNames n)
  have len : (theNames n).length = n := by
    have := pm.length_eq
    unfold rawNames at this
    rw [List.length_map, List.length_range] at this
    exact this
  refine ⟨fun x hx => ?_, fun e => ?_, by omega, names_rise⟩
  · obtain ⟨k, hk, rfl⟩ := List.mem_map.mp (pm.mem_iff.mp hx)
    exact lett_ok ⟨_, small_k h8 (List.mem_range.mp hk)⟩
  · rw [e] at len; simp at len; omega
theorem names_len {n : Nat} : (theNames n).length = n := by
  have := (sortD_perm (enc := PyData.str) (rawNames n)).length_eq
  unfold rawNames at this
  rw [List.length_map, List.length_range] at this
  exact this
/-! ### the ways -/
abbrev pkW (v : Way) : List Key := [.inr v.1, .inr v.2.1]
structure GoodL (folk : List Str) (l : List (List Key × Int)) : Prop where
  nd : (l.map (·.1)).Nodup
  ok : ∀ e ∈ l, ∃ v : Way, e = (pkW v, v.2.2) ∧ OkWay folk v
theorem GoodL.put {folk : List Str} {l : List (List Key × Int)} (g : GoodL folk l) {v : Way} (hv : OkWay folk v) : GoodL folk (putI l (pkW v) v.2.2) :=
  ⟨putI_nodup g.nd, fun e he => by
    rcases putI_mem he with rfl | ⟨h, _⟩
    · exact ⟨v, rfl, hv⟩
    · exact g.ok e h⟩
theorem choose_all {α β : Type} {f : β → α} {p : β → Prop} : ∀ {l : List α}, (∀ a ∈ l, ∃ b, a = f b ∧ p b) → ∃ bs : List β, l = bs.map f ∧ ∀ b ∈ bs, p b
  | [], _ => ⟨[], rfl, fun _ h => by cases h⟩
  | a :: l, h => by
    obtain ⟨b, e, hp⟩ := h a (by simp)
    obtain ⟨bs, e2, h2⟩ := choose_all (l := l) fun x hx => h x (by simp [hx])
    exact ⟨b :: bs, by rw [e, e2]; rfl, fun c hc => by rcases List.mem_cons.mp hc with q | q; rw [q]; exact hp; exact h2 c q⟩
theorem GoodL.sorted {folk : List Str} {l : List (List Key × Int)} (g : GoodL folk l) : ∃ ws : List Way, (l.map (·.1)).mergeSort (leD kD) = ws.map pkW ∧ (∀ v ∈ ws, OkWay folk v ∧ getI l (pkW v) = some v.2.2) ∧ (ws.Pairwise fun v w => pairLt v w = true) ∧ ws.length = l.length := by
  have pm : ((l.map (·.1)).mergeSort (leD kD)).Perm (l.map (·.1)) := List.mergeSort_perm _ _
  obtain ⟨ws, e1, e2⟩ := choose_all (l := (l.map (·.1)).mergeSort (leD kD)) (f := pkW) (p := fun v => OkWay folk v ∧ getI l (pkW v) = some v.2.2) fun a ha => by
    obtain ⟨e, he, rfl⟩ := List.mem_map.mp (pm.mem_iff.mp ha)
    obtain ⟨v, q1, q2⟩ := g.ok e he
    exact ⟨v, by rw [q1], q2, getI_of g.nd (by rw [← q1]; exact he)⟩
  refine ⟨ws, e1, e2, ?_, ?_⟩
  · have h1 := sortD_le (enc := kD) (l.map (·.1))
    have h2 : ((l.map (·.1)).mergeSort (leD kD)).Nodup := pm.symm.nodup g.nd
    have h3 := h1.and h2
    have h3 : ((l.map (·.1)).mergeSort (leD kD)).Pairwise fun a b => leD kD a b = true ∧ a ≠ b := h3
    rw [e1, List.pairwise_map] at h3
    refine h3.imp fun {v w} q => ?_
    have q1 := q.1
    rw [leD_def, Bool.not_eq_true'] at q1
    exact pair_tot (fun e => q.2 (by unfold pkW; rw [e.1, e.2])) q1
  · have := pm.length_eq
    rw [e1, List.length_map, List.length_map] at this
    exact this
inductive RWeb (K : PySem.W.Frag) : CtrX
  | mk {M : OM} {r : Addr} (hr : IsReel K r M) : RWeb K M [Rf r, Dd K (.int 8), Dd K (.int 1000000000000)] (fun P m => ∃ W, OkWeb W ∧ P = Dd K (webD W) ∧ Drawn K r M m)
abbrev n_law_web : List Str := ["_law_reel_here", "_law_folk", "_law_most", "_law_many", "_law_names", "_law_ways", "_law_turn", "_law_one", "_law_other", "_law_k", "_law_pair"]
theorem sc_law_web : FnScope n_law_web ["_law_reel_here", "_law_folk", "_law_most"] (defScope (top 70)) := ⟨rfl, rfl, rfl, by decide +kernel, rfl, by decide +kernel, by decide +kernel⟩
theorem ok_law_web (T : Tx K mg base) : Cal P w K mg base 3 "_law_web" (SpX (RWeb K)) [] := by
  obtain ⟨fd, F⟩ := T.fd_law_web
  have nd := sc_law_web.nd
  let nm := n_law_web
  let scp := defScope (top 70)
  have C_law_beats : Cal P w K mg base 2 "_law_beats" (SpX (RLBeats K)) [] := ok_law_beats T
  have C_law_draw : Cal P w K mg base 1 "_law_draw" (SpX (RDraw K)) [] := ok_law_draw T
  have C_law_name : Cal P w K mg base 1 "_law_name" (SpR (RLName K)) [] := ok_law_name T
  refine cal_mk T.g__law_web F (F.bindsN fun _ _ _ _ _ _ us hl => match us, hl with | [_, _, _], _ => rfl) (fn_ok (k := 2) F sc_law_web (spx_len fun _ _ _ h => by cases h <;> rfl) fun cdv A outer s H E hr => ?_)
  have hu := hu_of hr
  refine ⟨_, (pss_cons (ps_set (i := 3) nd rfl (by first | exact Or.inl rfl | exact Or.inr rfl) (pe_op op_add pe_int (pe_c C_law_draw hr (by decide) (by rfl) (pa_cons (pv 0) (pa_cons (pv 1) pa_nil)))))
    (pss_cons (ps_set (i := 4) nd rfl (by first | exact Or.inl rfl | exact Or.inr rfl) (pe_callB (cr_sortK (K := K) rfl hr.units) (by rfl) T.f_sorted (by decide +kernel) (pa_cons (pe_lc (own := [("_law_k", 9)]) (by rfl) nd (pi_range1 (by rfl) T.f_range (pa_cons (pv 3) pa_nil)) (blkOk_by (own := [("_law_k", 9)]) (N := nm) (sc := scp) (by decide +kernel)) (fun _ _ _ _ _ => (pg_name (i := 9) nd rfl (by first | exact Or.inl rfl | exact Or.inr rfl))) (fun _ _ _ _ _ => pts_nil) (fun _ _ _ _ _ => (pe_c C_law_name hr (by decide) (by rfl) (pa_cons (pe_op op_mul (pv 9) (pe_op op_add pe_int (pe_op op_mod (pv 3) pe_int))) pa_nil)))) pa_nil)))
    (pss_cons (ps_set (i := 5) nd rfl (by first | exact Or.inl rfl | exact Or.inr rfl) pe_dnewT)
    (pss_cons (ps_for PassesOwn.never rfl (pi_range1 (by rfl) T.f_range (pa_cons (pe_c C_law_draw hr (by decide) (by rfl) (pa_cons (pv 0) (pa_cons (pe_op op_add (pe_op op_mul pe_int (pv 3)) pe_int) pa_nil))) pa_nil)) (pg_name (i := 6) nd rfl (by first | exact Or.inl rfl | exact Or.inr rfl))
    (pss_cons (ps_par (i := 7) (j := 8) (by rfl) nd rfl rfl (by decide) rfl rfl (pa_cons (pe_c C_law_draw hr (by decide) (by rfl) (pa_cons (pv 0) (pa_cons (pv 3) pa_nil))) (pa_cons (pe_c C_law_draw hr (by decide) (by rfl) (pa_cons (pv 0) (pa_cons (pv 3) pa_nil))) pa_nil)) (by rfl))
    (pss_one (ps_if (pt_cmpR (op_neK (K := K) rfl hr.units) (pv 7) (pv 8) (nomark _)) (pss_one (ps_dput hu (pv 5) (pe_tup (pa_cons (pe_ix (ix_K (K := K) rfl) (pv 4) (pe_callB (call_min2 rfl) (by rfl) T.f_min (by decide +kernel) (pa_cons (pv 7) (pa_cons (pv 8) pa_nil))) (fun _ _ => rfl)) (pa_cons (pe_ix (ix_K (K := K) rfl) (pv 4) (pe_callB (call_max2 rfl) (by rfl) T.f_max (by decide +kernel) (pa_cons (pv 7) (pa_cons (pv 8) pa_nil))) (fun _ _ => rfl)) pa_nil))) (pe_c C_law_beats hr (by decide) (by rfl) (pa_cons (pv 0) (pa_cons (pv 2) pa_nil))) rfl)) pss_nil))))
    (pss_one (ps_ret (pe_tup (pa_cons (pv 4) (pa_cons (pe_lc (own := [("_law_pair", 10)]) (by rfl) nd (pi_listK (K := K) rfl (pe_callB (cr_sortT rfl hr.units) (by rfl) T.f_sorted (by decide +kernel) (pa_cons (pv 5) pa_nil))) (blkOk_by (own := [("_law_pair", 10)]) (N := nm) (sc := scp) (by decide +kernel)) (fun _ _ _ _ _ => (pg_name (i := 10) nd rfl (by first | exact Or.inl rfl | exact Or.inr rfl))) (fun _ _ _ _ _ => pts_nil) (fun _ _ _ _ _ => (pe_op (op_catTK (K := K) rfl) (pv 10) (pe_tup (pa_cons (pe_dget hu (pv 5) (pv 10) (fun _ _ => rfl)) pa_nil))))) pa_nil))))))))), fun vs Q h => endx_rtn h ?_⟩
  try dsimp only [cx_K]
  rintro _ _ _ ⟨hrl⟩
  rename_i M r
  let G0 := gam n_law_web [Rf r, Dd K (.int 8), Dd K (.int 1000000000000)]
  refine rtnx_seq (Φ := fun g m => ∃ n : Nat, 1 ≤ n ∧ n ≤ 8 ∧ g = G0.set 3 (some (Dd K (.int (n : Nat)))) ∧ Drawn K r M m) (NrmX.imp (nrmx_set (i := 3) (evx_opR (P := Dd K (.int 1)) (Ψ := fun P m => ∃ n : Nat, 1 ≤ n ∧ n ≤ 8 ∧ P = Dd K (.int (n : Nat)) ∧ Drawn K r M m) ev_int (evx_draw (eva_cons (ev_at (G := G0) (Rf r)) (eva_cons (ev_at (G := G0) (Dd K (.int 8))) eva_nil)) hrl (by decide) (by decide)) ?_)) ?_) ?_
  · rintro _ m ⟨i, h0, h1, rfl, d⟩
    obtain ⟨n, rfl⟩ := Int.eq_ofNat_of_zero_le h0
    exact ⟨Dd K (.int ((1 + n : Nat) : Int)), m, by rw [show ((1 + n : Nat) : Int) = 1 + (n : Int) by omega]; exact ope_I, 1 + n, by omega, by omega, rfl, d⟩
  · rintro _ m ⟨_, ⟨n, h1, h2, rfl, d⟩, rfl⟩
    exact ⟨n, h1, h2, rfl, d⟩
  rintro _ M1 ⟨n, hn1, hn8, rfl, d1⟩
  have rl1 := d1.reel
  let G1 := G0.set 3 (some (Dd K (.int (n : Nat))))
  let folk := theNames n
  have fk : OkFolk folk := names_ok hn1 hn8
  have fl : folk.length = n := names_len
  let G2 := G1.set 4 (some (Dd K (.list (folk.map .str))))
  have hi : EvI G1 M1 (iRng1 (tCons (tVar 3) tNil)) (List.range n).length (at_ ((List.range n).map fun k => Dd K (.int (k : Nat)))) M1 := by
    rw [List.length_range]
    refine (evi_range (K := K) (n := n) (eva_cons (ev_at (G := G1) (Dd K (.int (n : Nat)))) eva_nil) (by omega)).imp fun i hi v F q => ?_
    rw [at_map (p := fun k : Nat => Dd K (.int (k : Nat))) (as := List.range n) (i := i) (a := i) (by rw [List.getElem?_range hi])]
    exact q
  refine rtnx_seqN (G1 := G2) (M1 := M1) (nrm_set (P := Dd K (.list (folk.map .str))) (ev_cb (ps := [Dd K (.list ((rawNames n).map .str))]) (eva_cons (Evl.c (ev_lcD (K := K) (List.range n) (fun k => Dd K (.int (k : Nat))) (fun k => .str (lett (k * (1 + n % 3)))) (fun _ => true) hi (by rw [List.length_range]; exact Nat.le_trans hn8 (by decide)) fun k hk D c hD => turn_all (evgw_name (by decide)) (ev_call (eva_cons (Evl.c (P' := Dd K (.int ((k * (1 + n % 3) : Nat) : Int))) (ev_op (ev_at (Dd K (.int (k : Nat)))) (ev_op ev_int (ev_op (ev_at (Dd K (.int (n : Nat)))) ev_int (ope_IC (show (0:Int) < 3 by decide))) ope_I) (ope_IC (.inl ⟨by have := List.mem_range.mp hk; omega, by have := List.mem_range.mp hk; omega⟩))) (by simp)) eva_nil) (.mk (small_k hn8 (List.mem_range.mp hk))))) ?_) eva_nil) (cbe_sortD (K := K) (enc := PyData.str) (bs := rawNames n) (PySem.W.AllAlike.of fun _ _ => rfl) (PySem.W.Sortable.others fun _ => ⟨(by intro z; cases z), fun _ z => by cases z⟩) ?_ fun x _ => by simp [PyData.depth]))) ?_
  · rw [List.filter_eq_self.mpr (fun _ _ => rfl)]
    unfold rawNames
    rw [List.map_map]; rfl
  · unfold rawNames
    rw [List.length_map, List.length_range]; exact Nat.le_trans hn8 (by decide)
  refine rtnx_seq (Φ := fun g m => ∃ D, M1 D = none ∧ g = G2.set 5 (some (Rf D)) ∧ m = M1.set D (.dT (intT K []))) (NrmX.imp (nrmx_set (i := 5) evx_dnewT) ?_) ?_
  · rintro _ m ⟨_, ⟨D, hD, rfl, rfl⟩, rfl⟩
    exact ⟨D, hD, rfl, rfl⟩
  rintro _ _ ⟨D, hD, rfl, rfl⟩
  let G3 := G2.set 5 (some (Rf D))
  have rn : r ≠ D := (rl1.new (c := .dT []) hD).1
  let Inv : Nat → Pst := fun i g m => g.length = 11 ∧ (g[0]? = some (some (Rf r)) ∧ g[2]? = some (some (Dd K (.int 1000000000000))) ∧ g[3]? = some (some (Dd K (.int (n : Nat)))) ∧ g[4]? = some (some (Dd K (.list (folk.map .str)))) ∧ g[5]? = some (some (Rf D))) ∧ ∃ M' l, Drawn K r M M' ∧ M' D = none ∧ GoodL folk l ∧ l.length ≤ i ∧ m = M'.set D (.dT (intT K l))
  refine rtnx_seq (Φ := fun g m => ∃ i, i ≤ 17 ∧ Inv i g m) (nrmx_forX (Ξ := fun n' p m => (n' ≤ 17 ∧ ∃ M', Drawn K r M M' ∧ M' D = none ∧ m = M'.set D (.dT (intT K []))) ∧ p = fun i => Dd K (.int (i : Nat))) (evix_range (K := K) (Φ := fun ps m => ∃ n' : Nat, n' ≤ 17 ∧ ps = [Dd K (.int (n' : Nat))] ∧ ∃ M', Drawn K r M M' ∧ M' D = none ∧ m = M'.set D (.dT (intT K []))) (Ψ := fun n' m => n' ≤ 17 ∧ ∃ M', Drawn K r M M' ∧ M' D = none ∧ m = M'.set D (.dT (intT K []))) (evax_last (evx_draw (many := 2 * (n : Int) + 1) (eva_cons (ev_at (G := G3) (Rf r)) (eva_cons (ev_op (ev_op ev_int (ev_at (G := G3) (Dd K (.int (n : Nat)))) (ope_IC (.inl ⟨by omega, by omega⟩))) ev_int ope_I) eva_nil)) (rl1.new hD).2 (by omega) (by omega)) ?_) ?_) ?_) ?_
  · rintro _ m ⟨i, h0, h1, rfl, d⟩
    obtain ⟨n', rfl⟩ := Int.eq_ofNat_of_zero_le h0
    obtain ⟨m2, rfl, e2, d2⟩ := drawn_in rl1 hD d
    exact ⟨n', by omega, rfl, m2, d1.trans d2, e2, rfl⟩
  · rintro _ m ⟨n', h1, rfl, h2⟩
    exact ⟨n', rfl, by omega, h1, h2⟩
  · rintro n' _ _ ⟨⟨h17, M2, d2, hD2, rfl⟩, rfl⟩
    refine ⟨Inv, ⟨by kernel_rfl, ⟨by kernel_rfl, by kernel_rfl, by kernel_rfl, by kernel_rfl, by kernel_rfl⟩, M2, [], d2, hD2, ⟨List.nodup_nil, fun _ h => by cases h⟩, Nat.le_refl _, rfl⟩, ?_, fun g m h => ⟨n', h17, h⟩⟩
    rintro i hi g _ ⟨gl, ⟨g0, g2, g3, g4, g5⟩, M3, l, d3, hD3, good, hl, rfl⟩
    have sl3 : ∀ {j : Nat} {x y z X : Option Pr}, g[j]? = some X → j ≠ 6 → j ≠ 7 → j ≠ 8 → (((g.set 6 x).set 7 y).set 8 z)[j]? = some X := fun h n6 n7 n8 => by
      rw [List.getElem?_set_ne (Ne.symm n8), List.getElem?_set_ne (Ne.symm n7), List.getElem?_set_ne (Ne.symm n6)]; exact h
    have sl1 : ∀ {j : Nat} {x X : Option Pr}, g[j]? = some X → j ≠ 6 → (g.set 6 x)[j]? = some X := fun h n6 => by rw [List.getElem?_set_ne (Ne.symm n6)]; exact h
    let gi := g.set 6 (some (Dd K (.int (i : Nat))))
    have rl3 := d3.reel
    refine bodyx_of (G1 := gi) (M1 := M3.set D (.dT (intT K l))) evg_name ?_
    refine nrmx_seq (Φ := fun g' m => ∃ a b : Nat, a < n ∧ b < n ∧ g' = (gi.set 7 (some (Dd K (.int (a : Nat))))).set 8 (some (Dd K (.int (b : Nat)))) ∧ ∃ M4, Drawn K r M M4 ∧ M4 D = none ∧ m = M4.set D (.dT (intT K l))) (nrmx_par (Φ := fun ps m => ∃ a b : Nat, a < n ∧ b < n ∧ ps = [Dd K (.int (a : Nat)), Dd K (.int (b : Nat))] ∧ ∃ M4, Drawn K r M M4 ∧ M4 D = none ∧ m = M4.set D (.dT (intT K l))) (evax_cons (evx_draw (many := (n : Nat)) (eva_cons (ev_var (sl1 g0 (by decide))) (eva_cons (ev_var (sl1 g3 (by decide))) eva_nil)) (rl3.new hD3).2 (by omega) (by omega)) ?_) ?_) ?_
    · rintro _ m ⟨a, h0, h1, rfl, d⟩
      obtain ⟨a, rfl⟩ := Int.eq_ofNat_of_zero_le h0
      obtain ⟨M4, rfl, hD4, d4⟩ := drawn_in rl3 hD3 d
      refine evax_last (evx_draw (many := (n : Nat)) (eva_cons (ev_var (sl1 g0 (by decide))) (eva_cons (ev_var (sl1 g3 (by decide))) eva_nil)) (d4.reel.new hD4).2 (by omega) (by omega)) ?_
      rintro _ m ⟨b, h2, h3, rfl, d⟩
      obtain ⟨b, rfl⟩ := Int.eq_ofNat_of_zero_le h2
      obtain ⟨M5, rfl, hD5, d5⟩ := drawn_in d4.reel hD4 d
      exact ⟨a, b, by omega, by omega, rfl, M5, (d3.trans d4).trans d5, hD5, rfl⟩
    · rintro _ m ⟨a, b, ha, hb, rfl, h⟩
      exact ⟨_, _, rfl, a, b, ha, hb, rfl, h⟩
    rintro _ _ ⟨a, b, ha, hb, rfl, M4, d4, hD4, rfl⟩
    let g8 := (gi.set 7 (some (Dd K (.int (a : Nat))))).set 8 (some (Dd K (.int (b : Nat))))
    have gl8 : g8.length = 11 := by show ((((g.set 6 _).set 7 _).set 8 _)).length = 11; rw [List.length_set, List.length_set, List.length_set]; exact gl
    have e7 : g8[7]? = some (some (Dd K (.int (a : Nat)))) := by
      show (((g.set 6 _).set 7 _).set 8 _)[7]? = _
      rw [List.getElem?_set_ne (by decide), List.getElem?_set_self (by rw [List.length_set, gl]; decide)]
    have e8 : g8[8]? = some (some (Dd K (.int (b : Nat)))) := by
      show (((g.set 6 _).set 7 _).set 8 _)[8]? = _
      rw [List.getElem?_set_self (by rw [List.length_set, List.length_set, gl]; decide)]
    have same : (g8[0]? = some (some (Rf r)) ∧ g8[2]? = some (some (Dd K (.int 1000000000000))) ∧ g8[3]? = some (some (Dd K (.int (n : Nat)))) ∧ g8[4]? = some (some (Dd K (.list (folk.map .str)))) ∧ g8[5]? = some (some (Rf D))) := ⟨sl3 g0 (by decide) (by decide) (by decide), sl3 g2 (by decide) (by decide) (by decide), sl3 g3 (by decide) (by decide) (by decide), sl3 g4 (by decide) (by decide) (by decide), sl3 g5 (by decide) (by decide) (by decide)⟩
    have hz : l.length < sizeLine := Nat.lt_of_le_of_lt (Nat.le_trans hl (Nat.le_trans (Nat.le_of_lt hi) h17)) (by decide)
    refine nrmx_if (b := !decide ((a : Int) = (b : Int))) (M1 := M4.set D (.dT (intT K l))) (evt_test (K := K) (ev_op (ev_var e7) (ev_var e8) ope_nei)) (fun hne => ?_) fun _ => nrm_next.x.imp ?_
    · have hne : a ≠ b := fun e => by subst e; simp at hne
      have hlo : min a b < folk.length := by omega
      have hhi : max a b < folk.length := by omega
      have hlt : sl folk[min a b] folk[max a b] = true := List.pairwise_iff_getElem.mp fk.rise _ _ hlo hhi (by omega)
      refine nrmx_dputT (K := K) (evx_call (eva_cons (ev_var same.1) (eva_cons (ev_var same.2.1) eva_nil)) (RLBeats.mk (d4.reel.new hD4).2)) ?_
      rintro _ m ⟨q, hq1, hq2, rfl, d⟩
      obtain ⟨M5, rfl, hD5, d5⟩ := drawn_in d4.reel hD4 d
      let v : Way := (folk[min a b], folk[max a b], q)
      refine ⟨q, M5.set D (.dT (intT K l)), M5.set D (.dT (intT K l)), D, l, pkW v, rfl, ev_var same.2.2.2.2, ev_tupK (pkW v) (eva_cons (ev_op (ev_var same.2.2.2.1) (ev_cb (eva_cons (ev_var e7) (eva_cons (ev_var e8) eva_nil)) cbe_min2) (ope_ixLD (d := .str folk[min a b]) ?_)) (eva_cons (ev_op (ev_var same.2.2.2.1) (ev_cb (eva_cons (ev_var e7) (eva_cons (ev_var e8) eva_nil)) cbe_max2) (ope_ixLD (d := .str folk[max a b]) ?_)) eva_nil)) (show 2 ≤ sizeLine by decide), OM.set_same, hz, gl8, same, M5, putI l (pkW v) q, d4.trans d5, hD5, good.put (v := v) ⟨List.getElem_mem _, List.getElem_mem _, hlt, hq1, hq2⟩, Nat.le_trans putI_len (by omega), OM.set_set⟩
      · rw [show min (a : Int) (b : Int) = ((min a b : Nat) : Int) by omega, atI_nat (by rw [List.length_map]; exact hlo), List.getElem?_map, List.getElem?_eq_getElem hlo]; rfl
      · rw [show max (a : Int) (b : Int) = ((max a b : Nat) : Int) by omega, atI_nat (by rw [List.length_map]; exact hhi), List.getElem?_map, List.getElem?_eq_getElem hhi]; rfl
    · rintro _ _ ⟨rfl, rfl⟩
      exact ⟨gl8, same, M4, l, d4, hD4, good, by omega, rfl⟩
  rintro g _ ⟨i, h17, gl, ⟨g0, g2, g3, g4, g5⟩, M3, l, d3, hD3, good, hl, rfl⟩
  obtain ⟨ws, w1, w2, w3, w4⟩ := good.sorted
  obtain ⟨vs2, x1, _⟩ := choose_all (l := l.map (·.1)) (f := pkW) (p := fun _ => True) fun k hk => by
    obtain ⟨e, he, rfl⟩ := List.mem_map.mp hk
    obtain ⟨v, q1, _⟩ := good.ok e he
    exact ⟨v, by rw [q1], trivial⟩
  have al : PySem.W.AllAlike ((l.map (·.1)).map kD) := by
    rw [x1, List.map_map]; exact PySem.W.AllAlike.of fun _ _ => rfl
  have so : PySem.W.Sortable ((l.map (·.1)).map kD) := by
    rw [x1, List.map_map]; exact PySem.W.Sortable.tuples fun x => ⟨_, _, rfl⟩
  have hdp : ∀ k ∈ l.map (·.1), (kD k).depth ≤ 60 := fun k hk => by
    rw [x1] at hk
    obtain ⟨v, _, rfl⟩ := List.mem_map.mp hk
    simp [keyD, PyData.depth, PyData.depthAll]
  let m := M3.set D (.dT (intT K l))
  have hs : Evl g m (tCB rSortT (tCons (tVar 5) tNil)) (Ls K (ws.map fun v => Kt (pkW v))) m := Evl.c (ev_cb (eva_cons (ev_var g5) eva_nil) (cbe_sortT OM.set_same al so hdp)) (by rw [w1, List.map_map]; rfl)
  have hi := evi_list hs
  rw [List.length_map] at hi
  have hwz : ws.length ≤ sizeLine := Nat.le_trans (by omega : ws.length ≤ 17) (by decide)
  refine rtnx_drop (rtnx_ret (Evl.x (P := Dd K (webD ⟨folk, ws⟩)) (M1 := m) (ev_tupD (evad_cons (ev_var g4) (evad_cons (Evl.c (ev_lcD (K := K) ws (fun v => Kt (pkW v)) wayD (fun _ => true) hi hwz fun v hv D2 c hD2 => turn_all (evgw_name (by decide)) (Evl.c (ev_op (Evl.st (ev_var (P := Kt (pkW v)) ?_) fun u F q => kt_dd q) (ev_tupD (evad_cons (ev_dgetT (p := D) (l := l) (k := pkW v) (ev_var ?_) (ev_var (P := Kt (pkW v)) ?_) ?_ (w2 v hv).2) evad_nil)) (ope_catTD (by simp) (by simp) (show 3 ≤ sizeLine by decide))) rfl)) ?_) evad_nil))))) ?_
  · show ((g.set 10 none).set 10 _)[10]? = _
    rw [List.getElem?_set_self (by rw [List.length_set, gl]; decide)]
  · show ((g.set 10 none).set 10 _)[5]? = _
    rw [List.getElem?_set_ne (by decide), List.getElem?_set_ne (by decide)]; exact g5
  · show ((g.set 10 none).set 10 _)[10]? = _
    rw [List.getElem?_set_self (by rw [List.length_set, gl]; decide)]
  · exact hset hD2 OM.set_same
  · rw [List.filter_eq_self.mpr (fun _ _ => rfl)]
  · rintro _ _ ⟨rfl, rfl⟩
    exact ⟨M3, ⟨⟨folk, ws⟩, ⟨fk.names, fk.f0, fk.f8, fk.rise, fun v hv => (w2 v hv).1, w3, by show ws.length ≤ 64; omega⟩, rfl, d3⟩, del_stp hD3 rfl⟩
end
end Z
set_option maxRecDepth 100000
set_option maxHeartbeats 4000000
/-! L12: one night of the law. Own work. -/
namespace Z
open PySem PySem.Spec L2
local macro_rules | `(tactic| walk_at "ev") => `(tactic| repeat' (first
  | with_reducible apply eva_nil
  | ((with_reducible apply ev_var); rfl)
  | with_reducible apply ev_int
  | with_reducible apply ev_str
  | with_reducible apply ev_bl
  | with_reducible apply ev_non
  | ((with_reducible show PySem.W.Frag); assumption)
  | with_reducible apply eva_cons
  | with_reducible apply ev_cb
  | with_reducible apply ev_op
  | with_reducible apply cbe_min2
  | with_reducible apply cbe_max2
  | with_reducible apply ope_I
  | with_reducible apply ope_B
  | with_reducible apply ope_isN
  | with_reducible apply ope_notN
  | with_reducible apply ope_eqi
  | with_reducible apply ope_nei
  | with_reducible apply ope_eqs
  | with_reducible apply ope_nes
  | with_reducible apply evt_test
  | with_reducible apply rtn_ret))
theorem Run.at {s0 s : Snap} {k : Nat} {past : List Snap} {ds : List Deed} {webs : List Web} (r : Run s0 k s past ds webs) : ∃ f : Nat → Snap, f 0 = s0 ∧ f ds.length = s ∧ ∀ (i : Nat) (hi : i < ds.length), StepD (f i) ds[i] (f (i + 1)) := by
  induction r with
  | nil => exact ⟨fun _ => s0, rfl, rfl, fun i hi => absurd hi (Nat.not_lt_zero _)⟩
  | @snoc j k s s' past ds webs d r t hd hk ih =>
    obtain ⟨f, f0, f1, f2⟩ := ih
    refine ⟨fun i => if i ≤ ds.length then f i else s', by simp [f0], ?_, fun i hi => ?_⟩
    · have : ¬ ((ds ++ [d]).length ≤ ds.length) := by simp
      exact if_neg this
    · have hi2 : i < ds.length + 1 := by simpa using hi
      show StepD (if i ≤ ds.length then f i else s') _ (if i + 1 ≤ ds.length then f (i + 1) else s')
      rw [if_pos (by omega)]
      by_cases e : i = ds.length
      · subst e
        rw [if_neg (by omega), f1]
        have : (ds ++ [d])[ds.length] = d := by simp
        rw [this]; exact t
      · have hlt : i < ds.length := by omega
        rw [if_pos (by omega)]
        have : (ds ++ [d])[i] = ds[i] := List.getElem_append_left hlt
        rw [this]; exact f2 i hlt
theorem fines_at {s0 : Snap} {ds : List Deed} {f : Nat → Snap} (f0 : f 0 = s0) (h0 : Fine s0) (hc : s0.cries = []) (st : ∀ (i : Nat) (hi : i < ds.length), StepD (f i) ds[i] (f (i + 1))) : ∀ i, i ≤ ds.length → Fine (f i) ∧ (f i).cries.length ≤ i := by
  intro i
  induction i with
  | zero => intro _; rw [f0]; exact ⟨h0, by rw [hc]; exact Nat.le_refl _⟩
  | succ i ih =>
    intro hi
    obtain ⟨g1, g2⟩ := ih (by omega)
    refine ⟨(st i (by omega)).fine g1, ?_⟩
    have t := st i (by omega)
    generalize f (i + 1) = y at t
    generalize ds[i] = d at t
    cases t with
    | begin ho hn hf => show ((f i).cries ++ [_]).length ≤ i + 1; simp; omega
    | go h0 h1 => show (f i).cries.length ≤ i + 1; omega
    | add hv hn hb => show (f i).cries.length ≤ i + 1; omega
    | lose hv hb => show (f i).cries.length ≤ i + 1; omega
section
variable {P : Program} {w : World} {K : PySem.W.Frag} {mg : Str → Option Value} {base : Heap}
variable {G G1 G2 : Gm} {M M1 M2 M3 : OM}
theorem set_none {a b : Addr} {c : OC} (h : (M.set a c) b = none) : b ≠ a ∧ M b = none := by
  by_cases e : b = a
  · subst e; rw [OM.set_same] at h; cases h
  · rw [OM.set_ne e] at h; exact ⟨e, h⟩
theorem ntM_none {a : NA3} {s : Snap} {past : List Snap} {ds : List Deed} {b : Addr} (h : ntM K M a s past ds b = none) : b ≠ a.x ∧ b ≠ a.p ∧ b ≠ a.q ∧ M b = none := by
  unfold ntM at h
  obtain ⟨h1, h⟩ := set_none h
  obtain ⟨h2, h⟩ := set_none h
  obtain ⟨h3, h⟩ := set_none h
  exact ⟨h3, h2, h1, h⟩
theorem ntM_o {a : NA3} {s : Snap} {past : List Snap} {ds : List Deed} {b : Addr} (h : b ≠ a.x ∧ b ≠ a.p ∧ b ≠ a.q) : ntM K M a s past ds b = M b := by
  unfold ntM
  rw [OM.set_ne h.2.2, OM.set_ne h.2.1, OM.set_ne h.1]
theorem lw_begin {l : LA} {W : Web} (nd : [l.t, l.c, l.p, l.w, l.a.x, l.a.p, l.a.q].Nodup) :
    ((((ntM K M l.a ⟨W, 0, []⟩ [] []).set l.c (.lst [])).set l.p (.lst [])).set l.w (.lst [])).set l.t (.lst [Dd K (webD W), Dd K (.int 0), Rf l.c, Rf l.p, Rf l.w]) = lwM K M l (noted ⟨W, 0, []⟩ [] []) ⟨W, 0, []⟩ [] [] := by
  simp only [List.nodup_cons, List.mem_cons, List.not_mem_nil, not_or, or_false] at nd
  funext z
  unfold lwM ntM stM OM.set
  by_cases e1 : z = l.t
  · subst e1; simp [nd]
  by_cases e2 : z = l.c
  · subst e2; simp [nd, e1]
  by_cases e3 : z = l.p
  · subst e3; simp [nd, e1, e2]
  by_cases e4 : z = l.w
  · subst e4; simp [nd, e1, e2, e3]
  simp [e1, e2, e3, e4]
inductive RRight (K : PySem.W.Frag) : CtrX
  | mk {M : OM} {r : Addr} {most : Int} (hr : IsReel K r M) (tb : Tb K M) (h1 : 1 ≤ most) (h2 : most ≤ 21) : RRight K M [Rf r, Dd K (.int most)] (fun P m => P = Dd K (.bool true) ∧ Tb K m)
abbrev n_law_right : List Str := ["_law_reel_here", "_law_most", "_law_web_here", "_law_some", "_law_state", "_law_k", "_law_other", "_law_deed"]
theorem sc_law_right : FnScope n_law_right ["_law_reel_here", "_law_most"] (defScope (top 79)) := ⟨rfl, rfl, rfl, by decide +kernel, rfl, by decide +kernel, by decide +kernel⟩
theorem ok_law_right (T : Tx K mg base) : Cal P w K mg base 15 "_law_right" (SpX (RRight K)) [] := by
  obtain ⟨fd, F⟩ := T.fd_law_right
  have nd := sc_law_right.nd
  let nm := n_law_right
  let scp := defScope (top 79)
  have C_Night : Mak P w K mg base 5 "Night" (He.ga K "Night") (SpX (RNInit K)) := ok_Night_init T
  have C_Night_add : MetB P w K mg base 12 (He.ga K "Night") "add" (SpB (busyV K) (RAdd K)) := ok_Night_add T
  have C_Night_begin : Met P w K mg base 3 (He.ga K "Night") "begin" (SpR (RBegin K)) := ok_Night_begin T
  have C_Night_eq : Met P w K mg base 2 (He.ga K "Night") "__eq__" (SpR (RNEq K)) := ok_Night_eq T
  have C_Night_go_on : Met P w K mg base 2 (He.ga K "Night") "go_on" (SpR (RGoOn K)) := ok_Night_go_on T
  have C_Night_lose : MetB P w K mg base 12 (He.ga K "Night") "lose" (SpB (busyV K) (RLose K)) := ok_Night_lose T
  have C_law_deed_right : Cal P w K mg base 14 "_law_deed_right" (SpX (RDeed K)) [] := ok_law_deed_right T
  have C_law_draw : Cal P w K mg base 1 "_law_draw" (SpX (RDraw K)) [] := ok_law_draw T
  have C_law_told_right : Cal P w K mg base 12 "_law_told_right" (SpX (RLTold K)) [] := ok_law_told_right T
  have C_law_web : Cal P w K mg base 3 "_law_web" (SpX (RWeb K)) [] := ok_law_web T
  refine cal_mk T.g__law_right F (F.bindsN fun _ _ _ _ _ _ us hl => match us, hl with | [_, _], _ => rfl) (fn_ok (k := 14) F sc_law_right (spx_len fun _ _ _ h => by cases h <;> rfl) fun cdv A outer s H E hr => ?_)
  have hu := hu_of hr
  refine ⟨_, (pss_cons (ps_set (i := 2) nd rfl (by first | exact Or.inl rfl | exact Or.inr rfl) (pe_c C_law_web hr (by decide) (by rfl) (pa_cons (pv 0) (pa_cons pe_int (pa_cons (pe_op op_pow pe_int pe_int) pa_nil)))))
    (pss_cons (ps_set (i := 3) nd rfl (by first | exact Or.inl rfl | exact Or.inr rfl) (pe_mk C_Night hr (by decide) (by rfl) (pa_cons (pv 2) pa_nil)))
    (pss_cons (ps_set (i := 4) nd rfl (by first | exact Or.inl rfl | exact Or.inr rfl) (pe_lst (pa_cons (pv 2) (pa_cons pe_int (pa_cons (pe_lst pa_nil) (pa_cons (pe_lst pa_nil) (pa_cons (pe_lst pa_nil) pa_nil)))))))
    (pss_cons (ps_for PassesOwn.never rfl (pi_range1 (by rfl) T.f_range (pa_cons (pe_c C_law_draw hr (by decide) (by rfl) (pa_cons (pv 0) (pa_cons (pv 1) pa_nil))) pa_nil)) (pg_name (i := 5) nd rfl (by first | exact Or.inl rfl | exact Or.inr rfl))
    (pss_one (ps_if (PW.pt (pw_or (pt_not (pt_val (pe_c C_law_deed_right hr (by decide) (by rfl) (pa_cons (pv 0) (pa_cons (pv 3) (pa_cons (pv 4) (pa_cons (pv 5) pa_nil))))))) (pw_or1 (pt_not (pt_val (pe_c C_law_told_right hr (by decide) (by rfl) (pa_cons (pv 0) (pa_cons (pv 3) (pa_cons (pv 4) pa_nil))))))))) (pss_one (ps_ret pe_bl)) pss_nil)))
    (pss_cons (ps_set (i := 6) nd rfl (by first | exact Or.inl rfl | exact Or.inr rfl) (pe_mk C_Night hr (by decide) (by rfl) (pa_cons (pv 2) pa_nil)))
    (pss_cons (ps_for PassesOwn.never rfl (pi_listK (K := K) rfl (pe_ix (ix_K (K := K) rfl) (pv 4) pe_int (fun _ _ => rfl))) (pg_name (i := 7) nd rfl (by first | exact Or.inl rfl | exact Or.inr rfl))
    (pss_one (ps_if (pt_cmpR (op_eqK (K := K) rfl hr.units) (pe_ix (ix_K (K := K) rfl) (pv 7) pe_int (fun _ _ => rfl)) pe_str (nomark _)) (pss_one (ps_expr (pe_mt C_Night_begin hr (by decide) (pv 6) (pa_cons (pe_ix (ix_K (K := K) rfl) (pv 7) pe_int (fun _ _ => rfl)) (pa_cons (pe_ix (ix_K (K := K) rfl) (pv 7) pe_int (fun _ _ => rfl)) pa_nil))))) (pss_one (ps_if (pt_cmpR (op_eqK (K := K) rfl hr.units) (pe_ix (ix_K (K := K) rfl) (pv 7) pe_int (fun _ _ => rfl)) pe_str (nomark _)) (pss_one (ps_expr (pe_mt C_Night_go_on hr (by decide) (pv 6) (pa_cons (pe_ix (ix_K (K := K) rfl) (pv 7) pe_int (fun _ _ => rfl)) pa_nil)))) (pss_one (ps_if (pt_cmpR (op_eqK (K := K) rfl hr.units) (pe_ix (ix_K (K := K) rfl) (pv 7) pe_int (fun _ _ => rfl)) pe_str (nomark _)) (pss_one (ps_expr (pe_mtB C_Night_add hr (by decide) LamX.takes0 (pv 6) (pa_cons (pe_ix (ix_K (K := K) rfl) (pv 7) pe_int (fun _ _ => rfl)) (pa_cons (pe_ix (ix_K (K := K) rfl) (pv 7) pe_int (fun _ _ => rfl)) (pa_cons (pe_ix (ix_K (K := K) rfl) (pv 7) pe_int (fun _ _ => rfl)) pa_nil)))))) (pss_one (ps_expr (pe_mtB C_Night_lose hr (by decide) LamX.takes0 (pv 6) (pa_cons (pe_ix (ix_K (K := K) rfl) (pv 7) pe_int (fun _ _ => rfl)) (pa_cons (pe_ix (ix_K (K := K) rfl) (pv 7) pe_int (fun _ _ => rfl)) pa_nil))))))))))))
    (pss_cons (ps_if (pt_not (pt_cmpR (op_eqOwn C_Night_eq hr (by decide)) (pv 6) (pv 3) (nomark _))) (pss_one (ps_ret pe_bl)) pss_nil)
    (pss_cons (ps_expr (pe_mt C_Night_begin hr (by decide) (pv 6) (pa_cons pe_str (pa_cons (pe_slice (sl_listK (K := K) rfl) (pe_ix (ix_K (K := K) rfl) (pe_ix (ix_K (K := K) rfl) (pv 4) pe_int (fun _ _ => rfl)) pe_int (fun _ _ => rfl)) po_none (po_some pe_int)) pa_nil))))
    (pss_one (ps_ret (pe_cmpR (op_neOwn C_Night_eq hr (by decide) (T.own T.c_Night).ne (T.own T.c_Night).mro) (pv 6) (pv 3) (nomark _)))))))))))), fun vs Q h => endx_rtn h ?_⟩
  try dsimp only [cx_K]
  rintro _ _ _ ⟨hrl, tb, hm1, hm2⟩
  rename_i M r most
  let G0 := gam n_law_right [Rf r, Dd K (.int most)]
  have tbd : ∀ {m}, Drawn K r M m → Tb K m := fun {m} d => by
    obtain ⟨x, y, _, e⟩ := hrl
    obtain ⟨a, b, g, rfl⟩ := d
    exact tb.set (fun q z => by rw [e] at z; cases z) rfl
  refine rtnx_seq (Φ := fun g m => ∃ W, OkWeb W ∧ g = G0.set 2 (some (Dd K (webD W))) ∧ Drawn K r M m) (NrmX.imp (nrmx_set (i := 2) (evx_call (eva_cons (ev_at (G := G0) (Rf r)) (eva_cons ev_int (eva_cons (Evl.c (P' := Dd K (.int 1000000000000)) (ev_op ev_int ev_int (ope_IC ⟨by decide, by decide, by decide⟩)) rfl) eva_nil))) (RWeb.mk hrl))) ?_) ?_
  · rintro _ m ⟨_, ⟨W, hW, rfl, d⟩, rfl⟩
    exact ⟨W, hW, rfl, d⟩
  rintro _ M1 ⟨W, hW, rfl, d1⟩
  have tb1 := tbd d1
  have rl1 := d1.reel
  let s0 : Snap := ⟨W, 0, []⟩
  have f0 : Fine s0 := ⟨hW, (fun _ h => nomatch h), List.nodup_nil, Int.le_refl _⟩
  let G1 := G0.set 2 (some (Dd K (webD W)))
  refine rtnx_seq (Φ := fun g m => ∃ a : NA3, NtOk K M1 a ∧ g = G1.set 3 (some (Rf a.x)) ∧ m = ntM K M1 a s0 [] []) (NrmX.imp (nrmx_set (i := 3) (evx_make (K := K) (Φ := fun P m => ∃ a : NA3, NtOk K M1 a ∧ P = Rf a.x ∧ m = ntM K M1 a s0 [] []) (eva_cons (ev_at (G := G1) (Dd K (webD W))) eva_nil) fun x dx hx => ⟨_, RNInit.mk hx hW, ?_⟩)) ?_) ?_
  · rintro _ m ⟨rfl, p, q, h1, h2, h3, h4, h5, rfl⟩
    exact ⟨rfl, ⟨x, dx, p, q⟩, ⟨tb1, h1, h2, h3, hx, h4, h5⟩, rfl, rfl⟩
  · rintro _ m ⟨_, ⟨a, h1, rfl, h2⟩, rfl⟩
    exact ⟨a, h1, rfl, h2⟩
  rintro _ _ ⟨a, na, rfl, rfl⟩
  let G2 := G1.set 3 (some (Rf a.x))
  refine rtnx_seq (Φ := fun g m => ∃ l : LA, l.r = r ∧ l.a = a ∧ LwOk K M1 l ∧ g = G2.set 4 (some (Rf l.t)) ∧ m = lwM K M1 l (noted s0 [] []) s0 [] []) (NrmX.imp (nrmx_set (i := 4) (evx_loX (Φ := fun ps m => ∃ c p w', ps = [Dd K (webD W), Dd K (.int 0), Rf c, Rf p, Rf w'] ∧ (ntM K M1 a s0 [] []) c = none ∧ ((ntM K M1 a s0 [] []).set c (.lst [])) p = none ∧ (((ntM K M1 a s0 [] []).set c (.lst [])).set p (.lst [])) w' = none ∧ m = ((((ntM K M1 a s0 [] []).set c (.lst [])).set p (.lst [])).set w' (.lst []))) (evax_consP (ev_at (G := G2) (Dd K (webD W))) (evax_consP (ev_int (K := K)) (evax_cons (evx_lst eva_nil (by decide)) ?_))) ?_)) ?_) ?_
  · rintro _ m ⟨c, hc, rfl, rfl⟩
    refine evax_cons (evx_lst eva_nil (by decide)) ?_
    rintro _ m ⟨p, hp, rfl, rfl⟩
    refine evax_last (evx_lst eva_nil (by decide)) ?_
    rintro _ m ⟨w', hw, rfl, rfl⟩
    exact ⟨c, p, w', rfl, hc, hp, hw, rfl⟩
  · rintro _ m ⟨c, p, w', rfl, _⟩
    exact (show 5 ≤ sizeLine by decide)
  · rintro _ m ⟨_, ⟨_, m1, t, ⟨c, p, w', rfl, hc, hp, hw, rfl⟩, ht, rfl, rfl⟩, rfl⟩
    obtain ⟨c1, c2, c3, c4⟩ := ntM_none hc
    obtain ⟨p0, hp⟩ := set_none hp
    obtain ⟨p1, p2, p3, p4⟩ := ntM_none hp
    obtain ⟨w0, hw⟩ := set_none hw
    obtain ⟨w9, hw⟩ := set_none hw
    obtain ⟨w1, w2, w3, w4⟩ := ntM_none hw
    obtain ⟨t0, ht⟩ := set_none ht
    obtain ⟨t9, ht⟩ := set_none ht
    obtain ⟨t8, ht⟩ := set_none ht
    obtain ⟨t1, t2, t3, t4⟩ := ntM_none ht
    have nd : [t, c, p, w', a.x, a.p, a.q].Nodup := by
      simp only [List.nodup_cons, List.mem_cons, List.not_mem_nil, not_or, or_false, List.nodup_nil, and_true, not_false_iff]
      exact ⟨⟨t8, t9, t0, t1, t2, t3⟩, ⟨Ne.symm p0, Ne.symm w9, c1, c2, c3⟩, ⟨Ne.symm w0, p1, p2, p3⟩, ⟨w1, w2, w3⟩, ⟨na.xp, na.xq⟩, na.pq⟩
    refine ⟨⟨r, t, c, p, w', a⟩, rfl, rfl, ⟨tb1, rl1, nd, ?_⟩, rfl, lw_begin (l := ⟨r, t, c, p, w', a⟩) nd⟩
    intro b hb
    simp only [List.mem_cons, List.not_mem_nil, or_false] at hb
    rcases hb with rfl | rfl | rfl | rfl | rfl | rfl | rfl
    · exact t4
    · exact c4
    · exact p4
    · exact w4
    · exact na.x
    · exact na.p
    · exact na.q
  rintro _ _ ⟨l, lr, la, ok, rfl, rfl⟩
  subst la
  subst lr
  let G3 := G2.set 4 (some (Rf l.t))
  let Inv : Nat → Pst := fun i g m => g.length = 8 ∧ (g[0]? = some (some (Rf l.r)) ∧ g[2]? = some (some (Dd K (webD W))) ∧ g[3]? = some (some (Rf l.a.x)) ∧ g[4]? = some (some (Rf l.t))) ∧ Stood K l s0 i m
  refine rtnx_seq (Φ := fun g m => ∃ i, i ≤ 21 ∧ Inv i g m) (nrmx_forX (Ξ := fun n p m => (n ≤ 21 ∧ ∃ M', LwOk K M' l ∧ m = lwM K M' l (noted s0 [] []) s0 [] []) ∧ p = fun i => Dd K (.int (i : Nat))) (evix_range (K := K) (Φ := fun ps m => ∃ n : Nat, n ≤ 21 ∧ ps = [Dd K (.int (n : Nat))] ∧ ∃ M', LwOk K M' l ∧ m = lwM K M' l (noted s0 [] []) s0 [] []) (Ψ := fun n m => n ≤ 21 ∧ ∃ M', LwOk K M' l ∧ m = lwM K M' l (noted s0 [] []) s0 [] []) (evax_last (evx_draw (many := most) (eva_cons (ev_at (G := G3) (Rf l.r)) (eva_cons (ev_at (G := G3) (Dd K (.int most))) eva_nil)) (lw_r ok) (by omega) (by omega)) ?_) ?_) ?_) ?_
  · rintro _ m ⟨i, i0, i1, rfl, d⟩
    obtain ⟨n, rfl⟩ := Int.eq_ofNat_of_zero_le i0
    obtain ⟨M2, _, ok2, rfl⟩ := lw_drawn ok d
    exact ⟨n, by omega, rfl, M2, ok2, rfl⟩
  · rintro _ m ⟨n, n1, rfl, h⟩
    exact ⟨n, rfl, by omega, n1, h⟩
  · rintro n _ _ ⟨⟨n21, M2, ok2, rfl⟩, rfl⟩
    refine ⟨Inv, ⟨by kernel_rfl, ⟨by kernel_rfl, by kernel_rfl, by kernel_rfl, by kernel_rfl⟩, M2, s0, [], [], [], ok2, .nil, rfl⟩, ?_, fun g m h => ⟨n, n21, h⟩⟩
    rintro i hi g m ⟨gl, ⟨g0, g2, g3, g4⟩, M3, s, past, ds, webs, ok3, r, rfl⟩
    have sl : ∀ {j : Nat} {x X : Option Pr}, g[j]? = some X → j ≠ 5 → (g.set 5 x)[j]? = some X := fun h n5 => by rw [List.getElem?_set_ne (Ne.symm n5)]; exact h
    refine bodyx_of (G1 := g.set 5 (some (Dd K (.int (i : Nat))))) evg_name ?_
    have gs : (g.set 5 (some (Dd K (.int (i : Nat))))).length = 8 ∧ ((g.set 5 (some (Dd K (.int (i : Nat)))))[0]? = some (some (Rf l.r)) ∧ (g.set 5 (some (Dd K (.int (i : Nat)))))[2]? = some (some (Dd K (webD W))) ∧ (g.set 5 (some (Dd K (.int (i : Nat)))))[3]? = some (some (Rf l.a.x)) ∧ (g.set 5 (some (Dd K (.int (i : Nat)))))[4]? = some (some (Rf l.t))) := ⟨by rw [List.length_set]; exact gl, sl g0 (by decide), sl g2 (by decide), sl g3 (by decide), sl g4 (by decide)⟩
    refine nrmx_ifX (Φ := fun b m => b = false ∧ Stood K l s0 (i + 1) m) (evtx_or (Φ := fun b m => b = false ∧ Stood K l s0 (i + 1) m) (evtx_not (Φ := fun b m => b = true ∧ Stood K l s0 (i + 1) m) (evtx_B (K := K) (evx_call (eva_cons (ev_var (sl g0 (by decide))) (eva_cons (ev_var (sl g3 (by decide))) (eva_cons (ev_var (sl g4 (by decide))) (eva_cons (ev_var (P := Dd K (.int (i : Nat))) ?_) eva_nil)))) (RDeed.mk ok3 r f0 rfl (by omega))) ?_) ?_) ?_ ?_) ?_ ?_
    · rw [List.getElem?_set_self (by rw [gl]; decide)]
    · rintro _ m ⟨rfl, h⟩
      exact ⟨true, rfl, rfl, h⟩
    · rintro b m ⟨rfl, h⟩
      exact ⟨rfl, h⟩
    · rintro m ⟨_, M4, s, past, ds, webs, ok4, r4, rfl⟩
      have l4 := r4.len
      refine evtx_not (Φ := fun b m => b = true ∧ Stood K l s0 (i + 1) m) (evtx_B (K := K) (evx_call (eva_cons (ev_var (sl g0 (by decide))) (eva_cons (ev_var (sl g3 (by decide))) (eva_cons (ev_var (sl g4 (by decide))) eva_nil))) (RLTold.mk ok4 (r4.fine f0) (by have : s0.cries.length = 0 := rfl; omega) (by omega))) ?_) ?_
      · rintro _ m ⟨rfl, M5, ok5, rfl⟩
        exact ⟨true, rfl, rfl, M5, s, past, ds, webs, ok5, r4, rfl⟩
      · rintro b m ⟨rfl, h⟩
        exact ⟨rfl, h⟩
    · rintro m ⟨e, _⟩
      cases e
    · rintro m ⟨e, _⟩
      cases e
    · rintro m ⟨_, h⟩
      refine nrm_next.x.imp ?_
      rintro _ _ ⟨rfl, rfl⟩
      exact ⟨gs.1, gs.2, h⟩
  rintro g _ ⟨n, n21, gl, ⟨g0, g2, g3, g4⟩, M2, s, past, ds, webs, ok2, r, rfl⟩
  clear ok
  obtain ⟨ln1, ln2, ln3, ln4⟩ := r.len
  have ln3 : s.cries.length ≤ past.length := by have : s0.cries.length = 0 := rfl; omega
  have f := r.fine f0
  obtain ⟨fs, fs0, fs1, fs2⟩ := r.at
  have fin := fines_at fs0 f0 rfl fs2
  let v := noted s ds webs
  let m0 := lwM K M2 l v s past ds
  have tb0 : Tb K m0 := ntM_tb (lw_nt (v := v) ok2)
  refine rtnx_seq (Φ := fun g' m => ∃ b : NA3, NtOk K m0 b ∧ g' = g.set 6 (some (Rf b.x)) ∧ m = ntM K m0 b s0 [] []) (NrmX.imp (nrmx_set (i := 6) (evx_make (K := K) (Φ := fun P m => ∃ b : NA3, NtOk K m0 b ∧ P = Rf b.x ∧ m = ntM K m0 b s0 [] []) (eva_cons (ev_var g2) eva_nil) fun x dx hx => ⟨_, RNInit.mk hx hW, ?_⟩)) ?_) ?_
  · rintro _ m ⟨rfl, p, q, h1, h2, h3, h4, h5, rfl⟩
    exact ⟨rfl, ⟨x, dx, p, q⟩, ⟨tb0, h1, h2, h3, hx, h4, h5⟩, rfl, rfl⟩
  · rintro _ m ⟨_, ⟨b, h1, rfl, h2⟩, rfl⟩
    exact ⟨b, h1, rfl, h2⟩
  rintro _ _ ⟨b, nb, rfl, rfl⟩
  have off : ∀ {z : Addr} {c : OC}, m0 z = some c → z ≠ b.x ∧ z ≠ b.p ∧ z ≠ b.q := fun {z c} h => ⟨(fun e => by rw [e, nb.x] at h; cases h), (fun e => by rw [e, nb.p] at h; cases h), (fun e => by rw [e, nb.q] at h; cases h)⟩
  have keep : ∀ {z : Addr} {c : OC} (s' : Snap) (past' : List Snap) (ds' : List Deed), m0 z = some c → ntM K m0 b s' past' ds' z = some c := fun s' past' ds' h => by rw [ntM_o (off h)]; exact h
  let ps := ds.map fun d => Dd K (deedD d)
  let Inv2 : Nat → Pst := fun i g' m => (g'.length = 8 ∧ g'[3]? = some (some (Rf l.a.x)) ∧ g'[4]? = some (some (Rf l.t)) ∧ g'[6]? = some (some (Rf b.x))) ∧ ∃ past' ds', past'.length ≤ i ∧ ds'.length ≤ i ∧ m = ntM K m0 b (fs i) past' ds'
  have gl6 : (g.set 6 (some (Rf b.x))).length = 8 := by rw [List.length_set]; exact gl
  have g36 : (g.set 6 (some (Rf b.x)))[3]? = some (some (Rf l.a.x)) := by rw [List.getElem?_set_ne (by decide)]; exact g3
  have g46 : (g.set 6 (some (Rf b.x)))[4]? = some (some (Rf l.t)) := by rw [List.getElem?_set_ne (by decide)]; exact g4
  have g66 : (g.set 6 (some (Rf b.x)))[6]? = some (some (Rf b.x)) := by rw [List.getElem?_set_self (by rw [gl]; decide)]
  have pl : ps.length = ds.length := List.length_map _
  refine rtnx_seq (Φ := Inv2 ps.length) (nrmx_forO (K := K) (r := l.p) ps Inv2 (ev_op (ev_var g46) ev_int (ope_ixO (P := Rf l.p) (keep s0 [] [] (lw_t ok2)) rfl)) ⟨⟨gl6, g36, g46, g66⟩, [], [], Nat.le_refl _, Nat.le_refl _, by rw [fs0]⟩ (fun i g' m ⟨_, past', ds', _, _, e⟩ => by rw [e]; exact keep _ _ _ (lw_p ok2)) ?_) ?_
  · rintro i hi g' _ ⟨⟨hl8, h3, h4, h6⟩, past', ds', pl1, dl1, rfl⟩
    have hi' : i < ds.length := by rw [← pl]; exact hi
    obtain ⟨f1, f2⟩ := fin i (by omega)
    have st := fs2 i hi'
    have hps : ps[i] = Dd K (deedD ds[i]) := by show (ds.map _)[i] = _; rw [List.getElem_map]
    rw [hps]
    have sl : ∀ {j : Nat} {x X : Option Pr}, g'[j]? = some X → j ≠ 7 → (g'.set 7 x)[j]? = some X := fun h n5 => by rw [List.getElem?_set_ne (Ne.symm n5)]; exact h
    generalize ds[i] = d at st
    generalize hs1 : fs (i + 1) = s1 at st
    let g7 := g'.set 7 (some (Dd K (deedD d)))
    have e7 : g7[7]? = some (some (Dd K (deedD d))) := by show (g'.set 7 _)[7]? = _; rw [List.getElem?_set_self (by rw [hl8]; decide)]
    have e6 : g7[6]? = some (some (Rf b.x)) := sl h6 (by decide)
    have done : ∀ g m past2 ds2, past2.length ≤ i + 1 → ds2.length ≤ i + 1 → oneS g7 (ntM K m0 b s1 past2 ds2) g m → Inv2 (i + 1) g m := fun g m past2 ds2 q1 q2 e => by
      obtain ⟨rfl, rfl⟩ := e
      exact ⟨⟨by show (g'.set 7 _).length = 8; rw [List.length_set]; exact hl8, sl h3 (by decide), sl h4 (by decide), e6⟩, past2, ds2, q1, q2, by rw [hs1]⟩
    have hc : ∀ c ∈ (fs i).cries, OkCr c := fun c h => (f1.cries c h).1
    refine bodyx_of (G1 := g7) (M1 := ntM K m0 b (fs i) past' ds') evg_name ?_
    cases st with
    | begin ho hn hf =>
      exact (Nrm.x (nrm_if (b := true) (M1 := ntM K m0 b (fs i) past' ds') (EvT.c (evt_test (K := K) (ev_op (ev_op (ev_var e7) ev_int (ope_ixTD rfl)) ev_str ope_eqs)) (by decide)) (fun _ => nrm_drop (ev_methO (C := NC K) (dx := b.dx) (p := b.x) (fs := ntF K (fs i) b.p b.q) (ev_var e6) (ntM_x nb) rfl (eva_cons (ev_op (ev_var e7) ev_int (ope_ixTD rfl)) (eva_cons (ev_op (ev_var e7) ev_int (ope_ixTD rfl)) eva_nil)) (RBegin.mk nb (by omega) (by omega) (by omega) f1.web ho hn hf))) (fun z => by cases z))).imp fun g m e => done g m _ _ (by simp; omega) (by simp; omega) e
    | go q0 q1 =>
      exact (Nrm.x (nrm_if (b := false) (M1 := ntM K m0 b (fs i) past' ds') (EvT.c (evt_test (K := K) (ev_op (ev_op (ev_var e7) ev_int (ope_ixTD rfl)) ev_str ope_eqs)) (by decide)) (fun z => by cases z) fun _ => nrm_if (b := true) (M1 := ntM K m0 b (fs i) past' ds') (EvT.c (evt_test (K := K) (ev_op (ev_op (ev_var e7) ev_int (ope_ixTD rfl)) ev_str ope_eqs)) (by decide)) (fun _ => nrm_drop (ev_methO (C := NC K) (dx := b.dx) (p := b.x) (fs := ntF K (fs i) b.p b.q) (ev_var e6) (ntM_x nb) rfl (eva_cons (ev_op (ev_var e7) ev_int (ope_ixTD rfl)) eva_nil) (RGoOn.mk nb (by omega) (by omega) q0 q1))) (fun z => by cases z))).imp fun g m e => done g m _ _ (by simp; omega) (by simp; omega) e
    | add hv hn hb =>
      exact (Nrm.x (nrm_if (b := false) (M1 := ntM K m0 b (fs i) past' ds') (EvT.c (evt_test (K := K) (ev_op (ev_op (ev_var e7) ev_int (ope_ixTD rfl)) ev_str ope_eqs)) (by decide)) (fun z => by cases z) fun _ => nrm_if (b := false) (M1 := ntM K m0 b (fs i) past' ds') (EvT.c (evt_test (K := K) (ev_op (ev_op (ev_var e7) ev_int (ope_ixTD rfl)) ev_str ope_eqs)) (by decide)) (fun z => by cases z) fun _ => nrm_if (b := true) (M1 := ntM K m0 b (fs i) past' ds') (EvT.c (evt_test (K := K) (ev_op (ev_op (ev_var e7) ev_int (ope_ixTD rfl)) ev_str ope_eqs)) (by decide)) (fun _ => nrm_drop (ev_mtB (K := K) (C := NC K) (dx := b.dx) (p := b.x) (fs := ntF K (fs i) b.p b.q) (ev_var e6) (ntM_x nb) rfl (eva_cons (ev_op (ev_var e7) ev_int (ope_ixTD rfl)) (eva_cons (ev_op (ev_var e7) ev_int (ope_ixTD rfl)) (eva_cons (ev_op (ev_var e7) ev_int (ope_ixTD rfl)) eva_nil))) (hb ▸ RAdd.mk nb (by omega) (by omega) (by omega) hc f1.web hv hn))) (fun z => by cases z))).imp fun g m e => done g m _ _ (by simp; omega) (by simp; omega) e
    | lose hv hb =>
      exact (Nrm.x (nrm_if (b := false) (M1 := ntM K m0 b (fs i) past' ds') (EvT.c (evt_test (K := K) (ev_op (ev_op (ev_var e7) ev_int (ope_ixTD rfl)) ev_str ope_eqs)) (by decide)) (fun z => by cases z) fun _ => nrm_if (b := false) (M1 := ntM K m0 b (fs i) past' ds') (EvT.c (evt_test (K := K) (ev_op (ev_op (ev_var e7) ev_int (ope_ixTD rfl)) ev_str ope_eqs)) (by decide)) (fun z => by cases z) fun _ => nrm_if (b := false) (M1 := ntM K m0 b (fs i) past' ds') (EvT.c (evt_test (K := K) (ev_op (ev_op (ev_var e7) ev_int (ope_ixTD rfl)) ev_str ope_eqs)) (by decide)) (fun z => by cases z) fun _ => nrm_drop (ev_mtB (K := K) (C := NC K) (dx := b.dx) (p := b.x) (fs := ntF K (fs i) b.p b.q) (ev_var e6) (ntM_x nb) rfl (eva_cons (ev_op (ev_var e7) ev_int (ope_ixTD rfl)) (eva_cons (ev_op (ev_var e7) ev_int (ope_ixTD rfl)) eva_nil)) (hb ▸ RLose.mk nb (by omega) (by omega) (by omega) hc f1.web hv)))).imp fun g m e => done g m _ _ (by simp; omega) (by simp; omega) e
  rw [pl]
  rintro g' _ ⟨⟨hl8, h3, h4, h6⟩, past', ds', pl1, dl1, rfl⟩
  rw [fs1]
  have nt := lw_nt (v := v) ok2
  have hcs : ∀ c ∈ s.cries, OkCr c := fun c h => (f.cries c h).1
  have hy : ∀ (s' : Snap) (p' : List Snap) (d' : List Deed), ntM K m0 b s' p' d' l.a.x = some (.ins (NC K) l.a.dx (ntF K s l.a.p l.a.q)) := fun s' p' d' => keep s' p' d' (ntM_x nt)
  let m1 := ntM K m0 b s past' ds'
  refine rtnx_seqN (G1 := g') (M1 := m1) (nrm_if (b := false) (M1 := m1) (EvT.c (evt_not (evt_test (K := K) (ev_op (ev_var h6) (ev_var h3) (ope_own (C := NC K) (ntM_x nb) (hy _ _ _) (RNEq.mk (ntM_x nb) (hy _ _ _) rfl rfl (by omega) (by omega) hcs hcs))))) (by rw [crsEq_refl]; rfl)) (fun z => by cases z) fun _ => nrm_next) ?_
  have hz : okName "zzzz" := ⟨by decide, by decide, by decide +kernel⟩
  have hf : ∀ c ∈ s.cries, c.nm ≠ "zzzz" := fun c h e => by
    obtain ⟨j, hj, e2⟩ := r.names rfl c h
    have : ∀ j : Fin 24, nmK j ≠ "zzzz" := by decide +kernel
    exact this ⟨j, by omega⟩ (e2.symm.trans e)
  let lot := s.web.folk.take 1
  have hlot : lot ≠ [] := by
    show s.web.folk.take 1 ≠ []
    have := f.web.f0
    cases e : s.web.folk with
    | nil => exact absurd e this
    | cons x y => simp
  have ho : OkLot s.web.folk lot := ⟨hlot, by show (s.web.folk.take 1).length ≤ 8; rw [List.length_take]; omega, fun x hx => List.mem_of_mem_take hx, f.web.rise.sublist (List.take_sublist _ _)⟩
  let c : Cr := ⟨"zzzz", s.at_, s.web, lot⟩
  let s' : Snap := { s with cries := s.cries ++ [c] }
  let m2 := ntM K m0 b s' (past' ++ [s]) (ds' ++ [.begin "zzzz" lot])
  have hcut : cutP ((s.web.folk.map PyData.str).map (Dd K)) none (some 1) = (lot.map PyData.str).map (Dd K) := by
    rw [cutP_D]
    show (cutD (s.web.folk.map PyData.str) none (some 1)).map (Dd K) = ((s.web.folk.take 1).map PyData.str).map (Dd K)
    have := f.web.f0
    cases e : s.web.folk with
    | nil => exact absurd e this
    | cons x y =>
      unfold cutD
      rw [HT.sIx_none, show (some (1 : Int)) = some ((1 : Nat) : Int) from rfl, HT.sIx_nat]
      have : min 1 ((x :: y).map PyData.str).length - 0 = 1 := by simp
      rw [this]; rfl
  refine rtnx_seqN (G1 := g') (M1 := m2) (nrm_drop (ev_methO (C := NC K) (dx := b.dx) (p := b.x) (fs := ntF K s b.p b.q) (ev_var h6) (ntM_x nb) rfl (eva_cons ev_str (eva_cons (ls_imp (ds := lot.map PyData.str) (Evl.c (ev_slL (lo := none) (hi := some 1) (ls_exp (ev_ixt (ev_op (ev_var h4) ev_int (ope_ixO (P := Dd K (webD s.web)) (keep _ _ _ (lw_t ok2)) rfl)) rfl)) evo_no (evo_some (K := K) ev_int)) (congrArg (Ls K) hcut))) eva_nil)) (RBegin.mk nb (by omega) (by omega) (by omega) f.web ho hz hf))) ?_
  have hcs' : ∀ d ∈ s'.cries, OkCr d := fun d h => by
    rcases List.mem_append.mp h with q | q
    · exact hcs d q
    · rw [List.mem_singleton.mp q]; exact ⟨f.web, ho⟩
  refine rtnx_ret ((Evl.x (Evl.c (ev_op (ev_var h6) (ev_var h3) (ope_own (C := NC K) (g := not) (ntM_x (s := s') nb) (hy _ _ _) (RNEq.mk (ntM_x (s := s') nb) (hy _ _ _) rfl rfl (by show (s.cries ++ [c]).length ≤ 100; simp; omega) (by omega) hcs' hcs))) (P' := Dd K (.bool true)) ?_)).imp ?_)
  · rw [crsEq_len (by show (s.cries ++ [c]).length ≠ _; simp)]; rfl
  · rintro _ _ ⟨rfl, rfl⟩
    exact ⟨rfl, ntM_tb nb⟩
end
end Z
set_option maxRecDepth 100000
set_option maxHeartbeats 4000000
/-! L13: the law. Own work. -/
namespace Z
open PySem PySem.Spec L2
local macro_rules | `(tactic| walk_at "ev") => `(tactic| repeat' (first
  | with_reducible apply eva_nil
  | ((with_reducible apply ev_var); rfl)
  | with_reducible apply ev_int
  | with_reducible apply ev_str
  | with_reducible apply ev_bl
  | with_reducible apply ev_non
  | ((with_reducible show PySem.W.Frag); assumption)
  | with_reducible apply eva_cons
  | with_reducible apply ev_cb
  | with_reducible apply ev_op
  | with_reducible apply cbe_min2
  | with_reducible apply cbe_max2
  | with_reducible apply ope_I
  | with_reducible apply ope_B
  | with_reducible apply ope_isN
  | with_reducible apply ope_notN
  | with_reducible apply ope_eqi
  | with_reducible apply ope_nei
  | with_reducible apply ope_eqs
  | with_reducible apply ope_nes
  | with_reducible apply evt_test
  | with_reducible apply rtn_ret))
section
variable {P : Program} {w : World} {K : PySem.W.Frag} {mg : Str → Option Value} {base : Heap}
variable {G G1 G2 : Gm} {M M1 M2 M3 : OM}
def cutI (ds : List Int) (lo hi : Option Int) : List Int := (ds.drop (HT.sIx ds.length 0 lo)).take (HT.sIx ds.length ds.length hi - HT.sIx ds.length 0 lo)
theorem cutD_I {ns : List Int} {lo hi : Option Int} : cutD (ns.map .int) lo hi = (cutI ns lo hi).map .int := by
  unfold cutD cutI
  rw [List.length_map, List.map_take, List.map_drop]
theorem cutI_le {ns : List Int} {lo hi : Option Int} : (cutI ns lo hi).length ≤ ns.length := by
  unfold cutI
  rw [List.length_take, List.length_drop]
  omega
theorem cutI_four {ns : List Int} : (cutI ns none (some 4)).length ≤ 4 := by
  unfold cutI
  rw [HT.sIx_none, show (some (4 : Int)) = some ((4 : Nat) : Int) from rfl, HT.sIx_nat, List.length_take]
  omega
theorem ev_slD {te : TE} {tl th : TO} {lo hi : Option Int} {ds : List PyData} (h : Evl G M te (Dd K (.list ds)) M1) (h1 : EvO G M1 tl lo) (h2 : EvO G M1 th hi) : Evl G M (tSl (rSlL K) te tl th) (Dd K (.list (cutD ds lo hi))) M1 :=
  ls_imp (Evl.c (ev_slL (ls_exp h) h1 h2) (by rw [cutP_D]))
theorem EvT_e {t : TE} {b c : Bool} (h : Evl G M t (Dd K (.bool b)) M1) (e : b = c) : Evl G M t (Dd K (.bool c)) M1 := e ▸ h
inductive RLaw (K : PySem.W.Frag) : CtrX
  | mk {M : OM} {ns : List Int} (tb : Tb K M) (hl : ns.length ≤ 63) : RLaw K M [Dd K (.list (ns.map .int))] (fun P _ => P = Dd K (.bool true))
abbrev n_law : List Str := ["_law_script", "_law_cells", "_law_k", "_law_cell_here"]
theorem sc_law : FnScope n_law ["_law_script"] (defScope (top 80)) := ⟨rfl, rfl, rfl, by decide +kernel, rfl, by decide +kernel, by decide +kernel⟩
theorem fo_law (T : Tx K mg base) : ∃ fd, FunD K "law" "law" (defArgs (top 80)) (defBody (top 80)) (defScope (top 80)) [] [] (He.ga K "law") fd ∧ FnOk P w K mg base CX0 16 (He.ga K "law") fd ["_law_script"] (SpX (RLaw K)) := by
  obtain ⟨fd, F⟩ := T.fd_law
  have nd := sc_law.nd
  let nm := n_law
  let scp := defScope (top 80)
  have C_law_reel : Cal P w K mg base 1 "_law_reel" (SpX (RReel K)) [] := ok_law_reel T
  have C_law_right : Cal P w K mg base 15 "_law_right" (SpX (RRight K)) [] := ok_law_right T
  refine ⟨fd, F, (fn_ok (k := 15) F sc_law (spx_len fun _ _ _ h => by cases h <;> rfl) fun cdv A outer s H E hr => ?_)⟩
  have hu := hu_of hr
  refine ⟨_, (pss_cons (ps_set (i := 1) nd rfl (by first | exact Or.inl rfl | exact Or.inr rfl) (pe_slice (sl_listK (K := K) rfl) (pe_op (op_catLK (K := K) rfl) (pe_slice (sl_listK (K := K) rfl) (pv 0) po_none (po_some pe_int)) (pe_lst (pa_cons pe_int pa_nil))) po_none (po_some (pe_callB (call_max2 rfl) (by rfl) T.f_max (by decide +kernel) (pa_cons pe_int (pa_cons (pe_callB (call_min2 rfl) (by rfl) T.f_min (by decide +kernel) (pa_cons pe_int (pa_cons (pe_callB (call_lenK (K := K) rfl) (by rfl) T.f_len (by decide +kernel) (pa_cons (pv 0) pa_nil)) pa_nil))) pa_nil))))))
    (pss_cons (ps_for PassesOwn.never rfl (pi_enum (by rfl) T.f_enumerate (pa_cons (pv 1) pa_nil)) (pg_tupK (K := K) (n := 2) rfl (by rfl) (pgs_cons (pg_name (i := 2) nd rfl (by first | exact Or.inl rfl | exact Or.inr rfl)) (pgs_cons (pg_name (i := 3) nd rfl (by first | exact Or.inl rfl | exact Or.inr rfl)) pgs_nil)))
    (pss_one (ps_if (pt_not (pt_val (pe_c C_law_right hr (by decide) (by rfl) (pa_cons (pe_c C_law_reel hr (by decide) (by rfl) (pa_cons (pv 3) (pa_cons (pv 2) pa_nil))) (pa_cons (pe_ix (ix_K (K := K) rfl) (pe_lst (pa_cons pe_int (pa_cons pe_int pa_nil))) (pe_callTy call_int1 (by rfl) T.f_int (by decide +kernel) (pa_cons (pe_cmpR op_gt (pv 2) pe_int (nomark _)) pa_nil)) (fun _ _ => rfl)) pa_nil))))) (pss_one (ps_ret pe_bl)) pss_nil)))
    (pss_one (ps_ret pe_bl)))), fun vs Q h => endx_rtn h ?_⟩
  try dsimp only [cx_K]
  rintro _ _ _ ⟨tb, hl⟩
  rename_i M ns
  let G0 := gam n_law [Dd K (.list (ns.map .int))]
  let n1 : Int := max 1 (min 4 (((ns.map PyData.int).length : Nat) : Int))
  let cs := cutI (cutI ns none (some 4) ++ [0]) none (some n1)
  have c5 : cs.length ≤ 5 := by
    have h1 := cutI_le (ns := cutI ns none (some 4) ++ [0]) (lo := none) (hi := some n1)
    have h2 := cutI_four (ns := ns)
    rw [List.length_append] at h1
    have : cs.length ≤ (cutI ns none (some 4)).length + [(0 : Int)].length := h1
    simp only [List.length_cons, List.length_nil] at this
    omega
  let G1 := G0.set 1 (some (Dd K (.list (cs.map .int))))
  refine rtnx_seqN (G1 := G1) (M1 := M) (nrm_set (P := Dd K (.list (cs.map .int))) (Evl.c (ev_slD (lo := none) (hi := some n1) (ev_op (ev_slD (K := K) (lo := none) (hi := some 4) (ev_at (G := G0) (Dd K (.list (ns.map .int)))) evo_no (evo_some (K := K) ev_int)) (ev_lstD (evad_cons ev_int evad_nil)) (ope_catLD ?_)) evo_no (evo_some (K := K) (ev_cb (eva_cons ev_int (eva_cons (ev_cb (eva_cons ev_int (eva_cons (ev_cb (eva_cons (ev_at (G := G0) (Dd K (.list (ns.map .int)))) eva_nil) cbe_lenLD) eva_nil)) cbe_min2) eva_nil)) cbe_max2))) ?_)) ?_
  · rw [cutD_I, List.length_map]
    have := cutI_four (ns := ns)
    exact Nat.le_trans (Nat.add_le_add_right this 1) (by decide)
  · rw [cutD_I, show [PyData.int 0] = [(0 : Int)].map PyData.int from rfl, ← List.map_append, cutD_I]
  let Inv : Nat → Pst := fun i g m => g.length = 4 ∧ Tb K m
  have hi := evi_enum (K := K) (G := G1) (M := M) (ps := (cs.map PyData.int).map (Dd K)) (eva_cons (ls_exp (ev_at (G := G1) (i := 1) (Dd K (.list (cs.map .int))))) eva_nil)
  rw [List.length_map, List.length_map] at hi
  refine rtnx_seq (nrmx_for Inv hi ⟨by kernel_rfl, tb⟩ ?_) ?_
  · rintro i hlt g m ⟨gl, tbm⟩
    have hx : at_ ((cs.map PyData.int).map (Dd K)) i = Dd K (.int cs[i]) := at_get (by rw [List.getElem?_map, List.getElem?_map, List.getElem?_eq_getElem hlt]; rfl)
    let g3 := (g.set 2 (some (Dd K (.int (i : Nat))))).set 3 (some (Dd K (.int cs[i])))
    have e2 : g3[2]? = some (some (Dd K (.int (i : Nat)))) := by
      show ((g.set 2 _).set 3 _)[2]? = _
      rw [List.getElem?_set_ne (by decide), List.getElem?_set_self (by rw [gl]; decide)]
    have e3 : g3[3]? = some (some (Dd K (.int cs[i]))) := by
      show ((g.set 2 _).set 3 _)[3]? = _
      rw [List.getElem?_set_self (by rw [List.length_set, gl]; decide)]
    show BodyX g m (Tp K [Dd K (.int (i : Nat)), at_ ((cs.map PyData.int).map (Dd K)) i]) _ _ _
    rw [hx]
    refine bodyx_of (G1 := g3) (M1 := m) (evg_tup (evgs_cons evg_name (evgs_cons evg_name evgs_nil)) rfl) ?_
    refine nrmx_ifX (Φ := fun b m => b = false ∧ Tb K m) (evtx_not (Φ := fun b m => b = true ∧ Tb K m) (evtx_B (K := K) (evx_callX (Φ := fun ps m' => ∃ r a b most, m r = none ∧ GoodB b ∧ m' = m.set r (reelC K a b) ∧ ps = [Rf r, Dd K (.int most)] ∧ 1 ≤ most ∧ most ≤ 21) (Ψ := fun P m => P = Dd K (.bool true) ∧ Tb K m) (evax_cons (evx_call (eva_cons (ev_var e3) (eva_cons (ev_var e2) eva_nil)) (RReel.mk (by omega))) ?_) ?_) ?_) ?_) ?_ ?_
    · rintro _ _ ⟨r, a, b, hr, gb, rfl, rfl⟩
      by_cases hk : (i : Int) > 0
      · refine evax_last (Evl.x (P := Dd K (.int 9)) (ev_op (ev_lstD (evad_cons ev_int (evad_cons ev_int evad_nil))) (ev_cb (eva_cons (EvT_e (ev_op (ev_var e2) ev_int ope_B) (decide_eq_true hk)) eva_nil) cbe_intB) (ope_ixLD rfl))) ?_
        rintro _ _ ⟨rfl, rfl⟩
        exact ⟨r, a, b, 9, hr, gb, rfl, rfl, by decide, by decide⟩
      · refine evax_last (Evl.x (P := Dd K (.int 21)) (ev_op (ev_lstD (evad_cons ev_int (evad_cons ev_int evad_nil))) (ev_cb (eva_cons (EvT_e (ev_op (ev_var e2) ev_int ope_B) (decide_eq_false hk)) eva_nil) cbe_intB) (ope_ixLD rfl))) ?_
        rintro _ _ ⟨rfl, rfl⟩
        exact ⟨r, a, b, 21, hr, gb, rfl, rfl, by decide, by decide⟩
    · rintro _ _ ⟨r, a, b, most, hr, gb, rfl, rfl, h1, h2⟩
      exact ⟨_, RRight.mk ⟨a, b, gb, OM.set_same⟩ (tbm.new hr rfl) h1 h2, fun P m h => h⟩
    · rintro _ m ⟨rfl, h⟩
      exact ⟨true, rfl, rfl, h⟩
    · rintro b m ⟨rfl, h⟩
      exact ⟨rfl, h⟩
    · rintro m ⟨e, _⟩
      cases e
    · rintro m ⟨_, h⟩
      refine nrm_next.x.imp ?_
      rintro _ _ ⟨rfl, rfl⟩
      exact ⟨by show ((g.set 2 _).set 3 _).length = 4; rw [List.length_set, List.length_set]; exact gl, h⟩
  · rintro g m _
    exact rtnx_ret ((Evl.x (ev_bl (K := K))).imp fun P m e => e.1)
end
end Z
set_option maxRecDepth 100000
set_option maxHeartbeats 4000000
/-! E0: what the head's facts give the law. Own work. -/
namespace Z
open PySem PySem.Spec L2
theorem dp_ints {K : PySem.W.Frag} {H : Hp} : ∀ ns : List Int, DpAll K H (ns.map V.int) (ns.map PyData.int)
  | [] => .nil
  | i :: ns => .cons (.int i) (dp_ints ns)
theorem law_sp {K : PySem.W.Frag} {H : Hp} {a : Addr} {ns : List Int} (hl : ns.length ≤ 63) (hH : H (TA K) = some (.tbl #[])) (hS : SqL K H a (ns.map V.int)) : SpX (RLaw K) [.ref a] H (fun v _ => v = .bl true) (fun _ _ _ => False) := by
  let M : OM := fun b => if b = TA K then some (.tbl lamQ) else none
  have tb : Tb K M := ⟨if_pos rfl, fun b q e => by
    have e : (if b = TA K then some (OC.tbl lamQ) else none) = some (OC.tbl q) := e
    by_cases z : b = TA K
    · rw [if_pos z] at e; cases e; exact ⟨z, rfl⟩
    · rw [if_neg z] at e; cases e⟩
  have own : Own M H := ⟨fun b c e => by
    have e : (if b = TA K then some (OC.tbl lamQ) else none) = some c := e
    by_cases z : b = TA K
    · rw [if_pos z] at e
      cases e
      rw [z]
      exact ⟨_, hH, #[], rfl, trivial, fun pos cv hc => by
        have hc : codeAmong pos [] = some cv := hc
        unfold codeAmong at hc
        cases hc⟩
    · rw [if_neg z] at e; cases e⟩
  have hd : Sta (Dd K (.list (ns.map .int))) (.ref a) (Frz M H) := fun G' s => by
    refine Dp.lst (xs := ns.map V.int) ?_ (dp_ints ns)
    rcases hS with (h | ⟨o, h⟩) | h
    · refine .inl (.inl (s _ _ (Frz_of (if_neg fun z => ?_) h (by intro _ z; cases z))))
      rw [z, hH] at h; cases h
    · refine .inl (.inr ⟨o, s _ _ (Frz_of (if_neg fun z => ?_) h (by intro _ z; cases z))⟩)
      rw [z, hH] at h; cases h
    · exact .inr h
  refine ⟨M, [Dd K (.list (ns.map .int))], _, RLaw.mk tb hl, own, .cons hd .nil, fun P m v H' e s q => ?_⟩
  subst e
  exact dd_bl q
theorem night_of {K : PySem.W.Frag} (h : exN K = true) : NightF K := by
  obtain ⟨h1, h2⟩ := He.ba h
  obtain ⟨h3, h4⟩ := He.ba h2
  exact ⟨He.eqO_ok h1, of_decide_eq_true h3, He.eqO_ok h4⟩
theorem law_at {l : PySem.W.OpenLaw} {w : World} {K : PySem.W.Frag} {mg : Str → Option Value} {fa1 : Addr} {h : Heap} (X : K.In h) (G : h.Ns mainGlobals mg) (hmg : mg "law" = some (.ref fa1)) (c : He.SaysX fa fn [] [tf1] exN w h K) : LamX.LawAtS l w K CX0 16 63 "_law_script" mg fa1 h := by
  obtain ⟨fd, F⟩ := c.t.d.def_ 72 (d := d_law) rfl
  have e := hmg.symm.trans (He.glo_ok X G (c.t.d.fact 84 (f := .glo "law") rfl))
  cases e
  have inT : ∀ p ∈ [He.cT K tf1], p = He.cT K tf1 := fun p hp => List.mem_singleton.mp hp
  refine ⟨fd, [He.cT K tf1], SpX (RLaw K), fun p hp => by rw [inT p hp]; exact c.empty tf1 (List.mem_singleton.mpr rfl), fun p hp => by rw [inT p hp]; exact c.out tf1 (List.mem_singleton.mpr rfl), fun p hp => by rw [inT p hp]; exact PySem.W.codeHd_of_K X (c.hd tf1 (List.mem_singleton.mpr rfl)), ?_, ?_, ?_⟩
  · exact fun s u => (FunD.bindsA (ps := ["_law_script"]) F fun _ _ _ _ _ _ us hl => match us, hl with | [_], _ => rfl) s [u] rfl
  · exact fun H a ns hl _ hH hS => law_sp hl (hH _ (List.mem_singleton.mpr rfl)) hS
  · intro base X2 G2 TB
    have T : Tx K mg base := ⟨⟨h, X, G⟩, c.t.d, TB _ (List.mem_singleton.mpr rfl), fun _ => night_of c.more⟩
    obtain ⟨fd', F', ok⟩ := fo_law (P := l.prog) (w := w) T
    have e : fd' = fd := by
      obtain ⟨oc, od, dV, kV, doc, pm, an, cdv, ct, osl, _, lk, _⟩ := F.ex
      obtain ⟨oc', od', dV', kV', doc', pm', an', cdv', ct', osl', _, lk', _⟩ := F'.ex
      have q := lk'.symm.trans lk
      have q2 := Option.some.inj q
      have q3 : Data.func fd' = Data.func fd := congrArg Obj.data q2
      exact Data.func.inj q3
    rw [← e]
    exact ok
end Z
set_option maxRecDepth 100000
set_option maxHeartbeats 0
/-! E1: the end. Own work. -/
open PySem PySem.W PySem.Calls PyProof.Rows
theorem PySem.Challenge.cw_elsetold_k74_whole_nights_far_holds : PySem.Challenge.rw_elsetold_k74_whole_nights_far.Holds := by
  w_on; o_law
  refine HandSHeadRun.head_any (r := OpenLaw.row PySem.Challenge.rw_elsetold_k74_whole_nights_far) (q := view (OpenLaw.row PySem.Challenge.rw_elsetold_k74_whole_nights_far).prog [80]) (H := Z.hk) (ob := Z.ob) (M := 20000) (loose := Z.loose) (d := HandSHeadRun.topDef (OpenLaw.row PySem.Challenge.rw_elsetold_k74_whole_nights_far).prog 80) (kwd := []) Z.ob_eq
    (by kernel_rfl) (fun s => by kernel_rfl) Z.run (by kernel_rfl) (by kernel_rfl) (by kernel_rfl) (by rfl) (by first | assumption | decide +kernel) (by decide +kernel) ⟨rfl, rfl, rfl, rfl, rfl, by decide +kernel⟩ ?hw ?hc
  case hw => w_witness2
  case hc =>
    refine LamX.walk_ofTsE (l := PySem.Challenge.rw_elsetold_k74_whole_nights_far) (n := 63) (k := 16) (x := "_law_script") (CX := fun _ => L2.CX0) rfl (by decide) (by kernel_rfl) ⟨rfl, by decide, by decide⟩ ?F (fun _ _ _ _ _ z => z)
    intro w mg fa h Y G hmg0
    obtain ⟨K, KX, c⟩ := Y
    have hmg : mg ("law" : PySem.Str) = some (.ref fa) := by
      have e : (HandSHeadRun.topDef (OpenLaw.row PySem.Challenge.rw_elsetold_k74_whole_nights_far).prog 80).name = ("law" : PySem.Str) := by kernel_rfl
      rw [← e]
      exact hmg0
    exact ⟨K, KX, Z.law_at KX G hmg c⟩
