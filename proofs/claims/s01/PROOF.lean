import PyProof.Rows.All
import Wide.All
import OpenK.AllK
import Wide.FinOn
import KE.KStateDown
import KE.OsGo
import HandS.ForSpec
import HandS.Defaults
import HandS.ExcInit
import HandS.ExcField
import HandS.HeadHook4
import PySem.Challenge.RW_layerpaint_s01_answers
import HandS.Head0
import HandS.Head1
import HandS.Head2
import HandS.ForMost
import HandS.Evl
import HandS.SortInts
import HandS.Wide
import HandS.TupAny
import HandS.ListEq
import HandS.TryMany
import HandS.CallSlots
import HandS.ReSub
import HandS.WordsDict
import HandS.Lambda
import HandS.CallLocal
import HandS.ExcOwn
import Open.SpecLaws
import HandS.Spec
import HandS.EndTab
set_option Elab.async false
set_option linter.all false
set_option maxRecDepth 100000
set_option maxHeartbeats 4000000
/-! The program's defs by their places, the facts of the top that are leaned on. Printed by gentext.py. -/
namespace Lp
open PySem PySem.Spec PyProof.Rows L2
def top (i : Nat) : Stmt := PySem.Challenge.pw_layerpaint_s01_answers.main.body.getD i (.Pass ⟨0, 0, 0, 0⟩)
def s_is_joined : Stmt := top 8
def s_joined : Stmt := top 9
def s_rectangle : Stmt := top 10
def s_beside : Stmt := top 11
def s_flood : Stmt := top 12
def s_squared : Stmt := top 13
def s_near : Stmt := top 14
def s_grown : Stmt := top 15
def s_shrunk : Stmt := top 16
def s_bounds : Stmt := top 17
def s_Layer_init : Stmt := inClass (top 21) 0
def s_Layer_with_dots : Stmt := inClass (top 21) 1
def s_Picture_init : Stmt := inClass (top 22) 0
def s_Picture_size : Stmt := inClass (top 22) 1
def s_Picture_has : Stmt := inClass (top 22) 2
def s_Picture_place : Stmt := inClass (top 22) 3
def s_Picture_across : Stmt := inClass (top 22) 4
def s_Picture_down : Stmt := inClass (top 22) 5
def s_Picture_numbers : Stmt := inClass (top 22) 6
def s_Picture_worked_on : Stmt := inClass (top 22) 7
def s_Picture_is_chosen_some : Stmt := inClass (top 22) 8
def s_Picture_may_change : Stmt := inClass (top 22) 9
def s_Picture_with_layers : Stmt := inClass (top 22) 10
def s_Picture_with_chosen : Stmt := inClass (top 22) 11
def s_Picture_with_dots : Stmt := inClass (top 22) 12
def s_Picture_with_new_layer : Stmt := inClass (top 22) 13
def s_Picture_rearranged : Stmt := inClass (top 22) 14
def s_new_picture : Stmt := top 23
def s_many_unlike : Stmt := top 24
def s_cost : Stmt := top 25
def s_common : Stmt := top 29
def s_lowest : Stmt := top 30
def s_plus : Stmt := top 31
def s_apart : Stmt := top 32
def s_times : Stmt := top 33
def s_by : Stmt := top 34
def s_is_more : Stmt := top 35
def s_either : Stmt := top 36
def s_both_ways : Stmt := top 37
def s_put_upon : Stmt := top 38
def s_layer_upon : Stmt := top 39
def s_rounded : Stmt := top 40
def s_dot_of : Stmt := top 41
def s_changed : Stmt := top 46
def s_filled : Stmt := top 47
def s_nearest : Stmt := top 48
def s_window : Stmt := top 49
def s_mean : Stmt := top 50
def s_by_windows : Stmt := top 51
def s_smoothed : Stmt := top 52
def s_ranked : Stmt := top 53
def s_moved_to : Stmt := top 54
def s_moved : Stmt := top 55
def s_taken_aside : Stmt := top 56
def s_pasted : Stmt := top 57
def s_put_together : Stmt := top 58
def s_cropped : Stmt := top 59
def s_turned : Stmt := top 60
def s_Refused_init : Stmt := inClass (top 76) 0
def s_want : Stmt := top 77
def s_place_of : Stmt := top 78
def s_want_room : Stmt := top 79
def s_layer_gone : Stmt := top 80
def s_layer_up : Stmt := top 81
def s_layer_so : Stmt := top 82
def s_layer_worked_on : Stmt := top 83
def s_flooded : Stmt := top 84
def s_of_layers : Stmt := top 85
def s_of_choice : Stmt := top 86
def s_of_dots : Stmt := top 87
def s_of_pictures : Stmt := top 88
def s_want_deed : Stmt := top 89
def s_made : Stmt := top 90
def s_aside_behind : Stmt := top 91
def s_History_init : Stmt := inClass (top 93) 0
def s_History_total : Stmt := inClass (top 93) 1
def s_History_keep : Stmt := inClass (top 93) 2
def s_History_do : Stmt := inClass (top 93) 3
def s_History_undo : Stmt := inClass (top 93) 4
def s_History_redo : Stmt := inClass (top 93) 5
def s_Editor_init : Stmt := inClass (top 100) 0
def s_Editor_put : Stmt := inClass (top 100) 1
def s_Editor_begin : Stmt := inClass (top 100) 2
def s_Editor_do : Stmt := inClass (top 100) 3
def s_Editor_act : Stmt := inClass (top 100) 4
def s_Editor_told_history : Stmt := inClass (top 100) 5
def s_Editor_undo : Stmt := inClass (top 100) 6
def s_Editor_redo : Stmt := inClass (top 100) 7
def s_Editor_row_places : Stmt := inClass (top 100) 8
def s_Editor_row : Stmt := inClass (top 100) 9
def s_Editor_own_row : Stmt := inClass (top 100) 10
def s_Editor_chosen_row : Stmt := inClass (top 100) 11
def s_Editor_listed : Stmt := inClass (top 100) 12
def s_Editor_history : Stmt := inClass (top 100) 13
def s_Editor_copy : Stmt := inClass (top 100) 14
def s_Editor_record : Stmt := inClass (top 100) 15
def s_Editor_stop : Stmt := inClass (top 100) 16
def s_Editor_play : Stmt := inClass (top 100) 17
def s_Editor_of_deeds : Stmt := inClass (top 100) 18
def s_Editor_of_looks : Stmt := inClass (top 100) 19
def s_Editor_of_records : Stmt := inClass (top 100) 20
def s_Editor_answer : Stmt := inClass (top 100) 21
def s_answers : Stmt := top 104
def mkD (p : Str × Option Str) (x q : Str) (s : Stmt) : He.DefD := ⟨p, x, q, defArgs s, defBody s, defScope s, [], []⟩
def fn0 : List He.DefD := [mkD ("is_joined", none) "is_joined" "is_joined" s_is_joined,
  mkD ("joined", none) "joined" "joined" s_joined,
  mkD ("rectangle", none) "rectangle" "rectangle" s_rectangle,
  mkD ("beside", none) "beside" "beside" s_beside,
  mkD ("flood", none) "flood" "flood" s_flood,
  mkD ("squared", none) "squared" "squared" s_squared,
  mkD ("near", none) "near" "near" s_near,
  mkD ("grown", none) "grown" "grown" s_grown,
  mkD ("shrunk", none) "shrunk" "shrunk" s_shrunk,
  mkD ("bounds", none) "bounds" "bounds" s_bounds,
  mkD ("Layer", some "__init__") "__init__" "Layer.__init__" s_Layer_init,
  mkD ("Layer", some "with_dots") "with_dots" "Layer.with_dots" s_Layer_with_dots,
  mkD ("Picture", some "__init__") "__init__" "Picture.__init__" s_Picture_init,
  mkD ("Picture", some "size") "size" "Picture.size" s_Picture_size,
  mkD ("Picture", some "has") "has" "Picture.has" s_Picture_has,
  mkD ("Picture", some "place") "place" "Picture.place" s_Picture_place,
  mkD ("Picture", some "across") "across" "Picture.across" s_Picture_across,
  mkD ("Picture", some "down") "down" "Picture.down" s_Picture_down,
  mkD ("Picture", some "numbers") "numbers" "Picture.numbers" s_Picture_numbers,
  mkD ("Picture", some "worked_on") "worked_on" "Picture.worked_on" s_Picture_worked_on,
  mkD ("Picture", some "is_chosen_some") "is_chosen_some" "Picture.is_chosen_some" s_Picture_is_chosen_some,
  mkD ("Picture", some "may_change") "may_change" "Picture.may_change" s_Picture_may_change,
  mkD ("Picture", some "with_layers") "with_layers" "Picture.with_layers" s_Picture_with_layers,
  mkD ("Picture", some "with_chosen") "with_chosen" "Picture.with_chosen" s_Picture_with_chosen,
  mkD ("Picture", some "with_dots") "with_dots" "Picture.with_dots" s_Picture_with_dots]
def fn1 : List He.DefD := [mkD ("Picture", some "with_new_layer") "with_new_layer" "Picture.with_new_layer" s_Picture_with_new_layer,
  mkD ("Picture", some "rearranged") "rearranged" "Picture.rearranged" s_Picture_rearranged,
  mkD ("new_picture", none) "new_picture" "new_picture" s_new_picture,
  mkD ("many_unlike", none) "many_unlike" "many_unlike" s_many_unlike,
  mkD ("cost", none) "cost" "cost" s_cost,
  mkD ("common", none) "common" "common" s_common,
  mkD ("lowest", none) "lowest" "lowest" s_lowest,
  mkD ("plus", none) "plus" "plus" s_plus,
  mkD ("apart", none) "apart" "apart" s_apart,
  mkD ("times", none) "times" "times" s_times,
  mkD ("by", none) "by" "by" s_by,
  mkD ("is_more", none) "is_more" "is_more" s_is_more,
  mkD ("either", none) "either" "either" s_either,
  mkD ("both_ways", none) "both_ways" "both_ways" s_both_ways,
  mkD ("put_upon", none) "put_upon" "put_upon" s_put_upon,
  mkD ("layer_upon", none) "layer_upon" "layer_upon" s_layer_upon,
  mkD ("rounded", none) "rounded" "rounded" s_rounded,
  mkD ("dot_of", none) "dot_of" "dot_of" s_dot_of,
  mkD ("changed", none) "changed" "changed" s_changed,
  mkD ("filled", none) "filled" "filled" s_filled,
  mkD ("nearest", none) "nearest" "nearest" s_nearest,
  mkD ("window", none) "window" "window" s_window,
  mkD ("mean", none) "mean" "mean" s_mean,
  mkD ("by_windows", none) "by_windows" "by_windows" s_by_windows,
  mkD ("smoothed", none) "smoothed" "smoothed" s_smoothed]
def fn2 : List He.DefD := [mkD ("ranked", none) "ranked" "ranked" s_ranked,
  mkD ("moved_to", none) "moved_to" "moved_to" s_moved_to,
  mkD ("moved", none) "moved" "moved" s_moved,
  mkD ("taken_aside", none) "taken_aside" "taken_aside" s_taken_aside,
  mkD ("pasted", none) "pasted" "pasted" s_pasted,
  mkD ("put_together", none) "put_together" "put_together" s_put_together,
  mkD ("cropped", none) "cropped" "cropped" s_cropped,
  mkD ("turned", none) "turned" "turned" s_turned,
  mkD ("Refused", some "__init__") "__init__" "Refused.__init__" s_Refused_init,
  mkD ("want", none) "want" "want" s_want,
  mkD ("place_of", none) "place_of" "place_of" s_place_of,
  mkD ("want_room", none) "want_room" "want_room" s_want_room,
  mkD ("layer_gone", none) "layer_gone" "layer_gone" s_layer_gone,
  mkD ("layer_up", none) "layer_up" "layer_up" s_layer_up,
  mkD ("layer_so", none) "layer_so" "layer_so" s_layer_so,
  mkD ("layer_worked_on", none) "layer_worked_on" "layer_worked_on" s_layer_worked_on,
  mkD ("flooded", none) "flooded" "flooded" s_flooded,
  mkD ("of_layers", none) "of_layers" "of_layers" s_of_layers,
  mkD ("of_choice", none) "of_choice" "of_choice" s_of_choice,
  mkD ("of_dots", none) "of_dots" "of_dots" s_of_dots,
  mkD ("of_pictures", none) "of_pictures" "of_pictures" s_of_pictures,
  mkD ("want_deed", none) "want_deed" "want_deed" s_want_deed,
  mkD ("made", none) "made" "made" s_made,
  mkD ("aside_behind", none) "aside_behind" "aside_behind" s_aside_behind,
  mkD ("History", some "__init__") "__init__" "History.__init__" s_History_init]
def fn3 : List He.DefD := [mkD ("History", some "total") "total" "History.total" s_History_total,
  mkD ("History", some "keep") "keep" "History.keep" s_History_keep,
  mkD ("History", some "do") "do" "History.do" s_History_do,
  mkD ("History", some "undo") "undo" "History.undo" s_History_undo,
  mkD ("History", some "redo") "redo" "History.redo" s_History_redo,
  mkD ("Editor", some "__init__") "__init__" "Editor.__init__" s_Editor_init,
  mkD ("Editor", some "put") "put" "Editor.put" s_Editor_put,
  mkD ("Editor", some "begin") "begin" "Editor.begin" s_Editor_begin,
  mkD ("Editor", some "do") "do" "Editor.do" s_Editor_do,
  mkD ("Editor", some "act") "act" "Editor.act" s_Editor_act,
  mkD ("Editor", some "told_history") "told_history" "Editor.told_history" s_Editor_told_history,
  mkD ("Editor", some "undo") "undo" "Editor.undo" s_Editor_undo,
  mkD ("Editor", some "redo") "redo" "Editor.redo" s_Editor_redo,
  mkD ("Editor", some "row_places") "row_places" "Editor.row_places" s_Editor_row_places,
  mkD ("Editor", some "row") "row" "Editor.row" s_Editor_row,
  mkD ("Editor", some "own_row") "own_row" "Editor.own_row" s_Editor_own_row,
  mkD ("Editor", some "chosen_row") "chosen_row" "Editor.chosen_row" s_Editor_chosen_row,
  mkD ("Editor", some "listed") "listed" "Editor.listed" s_Editor_listed,
  mkD ("Editor", some "history") "history" "Editor.history" s_Editor_history,
  mkD ("Editor", some "copy") "copy" "Editor.copy" s_Editor_copy,
  mkD ("Editor", some "record") "record" "Editor.record" s_Editor_record,
  mkD ("Editor", some "stop") "stop" "Editor.stop" s_Editor_stop,
  mkD ("Editor", some "play") "play" "Editor.play" s_Editor_play,
  mkD ("Editor", some "of_deeds") "of_deeds" "Editor.of_deeds" s_Editor_of_deeds,
  mkD ("Editor", some "of_looks") "of_looks" "Editor.of_looks" s_Editor_of_looks]
def fn4 : List He.DefD := [mkD ("Editor", some "of_records") "of_records" "Editor.of_records" s_Editor_of_records,
  mkD ("Editor", some "answer") "answer" "Editor.answer" s_Editor_answer,
  mkD ("answers", none) "answers" "answers" s_answers]
def fn : List He.DefD := fn0 ++ (fn1 ++ (fn2 ++ (fn3 ++ (fn4))))
def fa0 : List He.Fa := [.glo "is_joined",
  .glo "joined",
  .glo "rectangle",
  .glo "beside",
  .glo "flood",
  .glo "squared",
  .glo "near",
  .glo "grown",
  .glo "shrunk",
  .glo "bounds",
  .glo "Layer",
  .glo "Picture",
  .glo "new_picture",
  .glo "many_unlike",
  .glo "cost",
  .glo "common",
  .glo "lowest",
  .glo "plus",
  .glo "apart",
  .glo "times",
  .glo "by",
  .glo "is_more",
  .glo "either",
  .glo "both_ways",
  .glo "put_upon"]
def fa1 : List He.Fa := [.glo "layer_upon",
  .glo "rounded",
  .glo "dot_of",
  .glo "changed",
  .glo "filled",
  .glo "nearest",
  .glo "window",
  .glo "mean",
  .glo "by_windows",
  .glo "smoothed",
  .glo "ranked",
  .glo "moved_to",
  .glo "moved",
  .glo "taken_aside",
  .glo "pasted",
  .glo "put_together",
  .glo "cropped",
  .glo "turned",
  .glo "Refused",
  .glo "want",
  .glo "place_of",
  .glo "want_room",
  .glo "layer_gone",
  .glo "layer_up",
  .glo "layer_so"]
def fa2 : List He.Fa := [.glo "layer_worked_on",
  .glo "flooded",
  .glo "of_layers",
  .glo "of_choice",
  .glo "of_dots",
  .glo "of_pictures",
  .glo "want_deed",
  .glo "made",
  .glo "aside_behind",
  .glo "History",
  .glo "Editor",
  .glo "answers",
  .free "range",
  .free "zip",
  .free "enumerate",
  .free "any",
  .free "all",
  .free "len",
  .free "min",
  .free "max",
  .free "abs",
  .free "sum",
  .free "sorted",
  .free "list",
  .free "dict"]
def fa3 : List He.Fa := [.free "int",
  .free "ValueError",
  .int "ALONE" (0),
  .int "THESE_TOO" (1),
  .int "WITHOUT" (2),
  .int "IN_BOTH" (3),
  .int "BY_FIRST" (0),
  .int "GREATEST" (255),
  .int "MIDDLE" (16),
  .int "UPRIGHT" (0),
  .int "OVER" (1),
  .int "NOT_SO" (-1),
  .int "NO_LAYER" (-2),
  .int "NO_DEED" (-3),
  .int "TOO_MANY" (-5),
  .int "CAN_NOT" (-6),
  .int "CUT" (14),
  .int "MOST_LAYERS" (5),
  .int "LAST_WAY" (6),
  .int "LAST_HOW" (4),
  .int "MOST_FAR" (1000),
  .int "MOST_REACH" (4),
  .int "MOST_MOVE" (32),
  .int "LAST_TURN" (2),
  .int "NOT_AS_MANY" (-3)]
def fa4 : List He.Fa := [.int "MOST_SIDE" (12),
  .int "MOST_BUDGET" (1000000),
  .int "MOST_RECORDED" (40),
  .int "BUDGET_AT_FIRST" (100),
  .glo "BESIDE",
  .glo "ASLANT",
  .glo "EMPTY",
  .glo "NOUGHT",
  .glo "ONE",
  .glo "SIZES_deeds",
  .glo "SIZES_editor",
  .glo "WITH_ROW",
  .cls "Layer",
  .noat "Layer" "number",
  .noat "Layer" "seen",
  .noat "Layer" "strong",
  .noat "Layer" "way",
  .noat "Layer" "dots",
  .mkr "Layer",
  .cls "Picture",
  .noat "Picture" "wide",
  .noat "Picture" "high",
  .noat "Picture" "layers",
  .noat "Picture" "working",
  .noat "Picture" "chosen"]
def fa5 : List He.Fa := [.noat "Picture" "following",
  .mkr "Picture",
  .cls "History",
  .noat "History" "budget",
  .noat "History" "kept",
  .noat "History" "undone",
  .mkr "History",
  .cls "Editor",
  .noat "Editor" "picture",
  .noat "Editor" "past",
  .noat "Editor" "aside",
  .noat "Editor" "recorded",
  .noat "Editor" "is_recording",
  .mkr "Editor",
  .meth "Layer" "with_dots",
  .meth "Picture" "size",
  .meth "Picture" "has",
  .meth "Picture" "place",
  .meth "Picture" "across",
  .meth "Picture" "down",
  .meth "Picture" "numbers",
  .meth "Picture" "worked_on",
  .meth "Picture" "is_chosen_some",
  .meth "Picture" "may_change",
  .meth "Picture" "with_layers"]
def fa6 : List He.Fa := [.meth "Picture" "with_chosen",
  .meth "Picture" "with_dots",
  .meth "Picture" "with_new_layer",
  .meth "Picture" "rearranged",
  .meth "History" "total",
  .meth "History" "keep",
  .meth "History" "do",
  .meth "History" "undo",
  .meth "History" "redo",
  .meth "Editor" "put",
  .meth "Editor" "begin",
  .meth "Editor" "do",
  .meth "Editor" "act",
  .meth "Editor" "told_history",
  .meth "Editor" "undo",
  .meth "Editor" "redo",
  .meth "Editor" "row_places",
  .meth "Editor" "row",
  .meth "Editor" "own_row",
  .meth "Editor" "chosen_row",
  .meth "Editor" "listed",
  .meth "Editor" "history",
  .meth "Editor" "copy",
  .meth "Editor" "record",
  .meth "Editor" "stop"]
def fa7 : List He.Fa := [.meth "Editor" "play",
  .meth "Editor" "of_deeds",
  .meth "Editor" "of_looks",
  .meth "Editor" "of_records",
  .meth "Editor" "answer",
  .noat "Refused" "code",
  .exm "Refused" "Refused" true,
  .keep "Refused"]
def fa : List He.Fa := fa0 ++ (fa1 ++ (fa2 ++ (fa3 ++ (fa4 ++ (fa5 ++ (fa6 ++ (fa7)))))))
/-! ### tuples of the top -/
def ints1 (K : PySem.W.Frag) (a : Addr) (ns : List Int) : Bool := match K.lookup a with
  | some ⟨.type c, _, .seq its _, _⟩ => decide (c = "tuple") && (decide (its.size ≤ sizeLine) && He.relAll (ns.map V.int) its.toList)
  | _ => false
theorem ints1_ok {K : PySem.W.Frag} {a : Addr} {ns : List Int} (h : ints1 K a ns = true) (H : Hp) : SqT K H a (ns.map V.int) := by
  unfold ints1 at h
  cases q : K.lookup a with
  | none => rw [q] at h; cases h
  | some o =>
    obtain ⟨oc, od, dt, osl⟩ := o
    rw [q] at h
    cases oc with
    | type c =>
      cases dt with
      | seq its n =>
        obtain ⟨h1, h2⟩ := He.ba (show (decide (c = "tuple") && (decide (its.size ≤ sizeLine) && He.relAll (ns.map V.int) its.toList)) = true from h)
        obtain ⟨h3, h4⟩ := He.ba h2
        exact .inr ⟨_, its, n, q, congrArg Value.type (of_decide_eq_true h1), rfl, of_decide_eq_true h3, He.relAll_ok h4⟩
      | _ => cases h
    | _ => cases dt <;> cases h
def refAll (K : PySem.W.Frag) : List Value → List (List Int) → Bool
  | [], [] => true
  | .ref a :: us, d :: ds => ints1 K a d && refAll K us ds
  | _, _ => false
def ints2 (K : PySem.W.Frag) (a : Addr) (ds : List (List Int)) : Bool := match K.lookup a with
  | some ⟨.type c, _, .seq its _, _⟩ => decide (c = "tuple") && (decide (its.size ≤ sizeLine) && refAll K its.toList ds)
  | _ => false
theorem refAll_ok {K : PySem.W.Frag} : ∀ {us : List Value} {ds : List (List Int)}, refAll K us ds = true → ∃ as : List Addr, Vals (as.map V.ref) us ∧ ∀ H : Hp, Paired (fun a d => SqT K H a (List.map V.int d)) as ds
  | [], [], _ => ⟨[], .nil, fun _ => .nil⟩
  | [], _ :: _, h => by cases h
  | u :: us, [], h => by cases u <;> cases h
  | u :: us, d :: ds, h => by
    cases u with
    | ref a =>
      obtain ⟨h1, h2⟩ := He.ba (show (ints1 K a d && refAll K us ds) = true from h)
      obtain ⟨as, e1, e2⟩ := refAll_ok h2
      exact ⟨a :: as, .cons rfl e1, fun H => .cons (ints1_ok h1 H) (e2 H)⟩
    | _ => cases h
theorem ints2_ok {K : PySem.W.Frag} {a : Addr} {ds : List (List Int)} (h : ints2 K a ds = true) : ∃ as : List Addr, ∀ H : Hp, SqT K H a (as.map V.ref) ∧ Paired (fun a d => SqT K H a (List.map V.int d)) as ds := by
  unfold ints2 at h
  cases q : K.lookup a with
  | none => rw [q] at h; cases h
  | some o =>
    obtain ⟨oc, od, dt, osl⟩ := o
    rw [q] at h
    cases oc with
    | type c =>
      cases dt with
      | seq its n =>
        obtain ⟨h1, h2⟩ := He.ba (show (decide (c = "tuple") && (decide (its.size ≤ sizeLine) && refAll K its.toList ds)) = true from h)
        obtain ⟨h3, h4⟩ := He.ba h2
        obtain ⟨as, e1, e2⟩ := refAll_ok h4
        exact ⟨as, fun H => ⟨.inr ⟨_, its, n, q, congrArg Value.type (of_decide_eq_true h1), rfl, of_decide_eq_true h3, e1⟩, e2 H⟩⟩
      | _ => cases h
    | _ => cases dt <;> cases h
/-! ### the error's class -/
def excB (K : PySem.W.Frag) (a : Addr) : Bool := match K.lookup a with
  | some ⟨.type t, dd, .cls cd, sl⟩ => decide (t = "type") && ((match cd.mro with
    | .ref b :: bm => decide (b = a) && PySem.HandSPX.refsVE bm
    | _ => false) && (cd.hasDict && (!cd.hasDel && (match sl.toList with
    | [_, _, _, _, some (.builtin n), _] => decide (n = "ValueError.__new__")
    | _ => false))))
  | _ => false
theorem excB_ok {K : PySem.W.Frag} {C : Addr} (h : excB K C = true) : ∃ nm q N bs bm sn sub ab col dd k0 k1 k2 k3 k5, K.lookup C = some (excClassObj nm q C N bs bm true sn sub ab col dd k0 k1 k2 k3 k5 "ValueError.__new__") ∧ PySem.HandSPX.refsVE bm = true := by
  unfold excB at h
  cases q : K.lookup C with
  | none => rw [q] at h; cases h
  | some o =>
    obtain ⟨oc, od, dt, osl⟩ := o
    rw [q] at h
    cases oc with
    | type t =>
      cases dt with
      | cls cd =>
        obtain ⟨nm, bs, mro, ns, qn, hd, sn, sb, ab, col, del⟩ := cd
        obtain ⟨h1, h2⟩ := He.ba h
        obtain ⟨h3, h4⟩ := He.ba h2
        obtain ⟨h5, h6⟩ := He.ba h4
        obtain ⟨h7, h8⟩ := He.ba h6
        have e1 : t = "type" := of_decide_eq_true h1
        dsimp only at h3 h5 h7
        cases del with
        | true => cases h7
        | false =>
          cases hd with
          | false => cases h5
          | true =>
            cases mro with
            | nil => cases h3
            | cons b bm =>
              cases b with
              | ref b =>
                obtain ⟨h9, h10⟩ := He.ba h3
                have e2 : b = C := of_decide_eq_true h9
                obtain ⟨sl⟩ := osl
                match sl, h8 with
                | [k0, k1, k2, k3, some (.builtin n), k5], h8 =>
                  have e3 : n = "ValueError.__new__" := of_decide_eq_true h8
                  subst e1 e2 e3
                  exact ⟨nm, qn, ns, bs, bm, sn, sb, ab, col, od, k0, k1, k2, k3, k5, rfl, h10⟩
              | _ => cases h3
      | _ => cases h
    | _ => cases dt <;> cases h
/-! ### what is looked at besides -/
def exL (K : PySem.W.Frag) : List Bool := [ints2 K (He.ga K "BESIDE") [[1, 0], [0, 1], [-1, 0], [0, -1]],
  ints2 K (He.ga K "ASLANT") [[1, 1], [-1, 1], [-1, -1], [1, -1]],
  ints1 K (He.ga K "EMPTY") [0, 0],
  ints1 K (He.ga K "NOUGHT") [0, 1],
  ints1 K (He.ga K "ONE") [1, 1],
  ints1 K (He.ga K "SIZES_deeds") [0, 1, 1, 4, 1, 5, 6, 1, 1, 1, 2, 1, 3, 2, 0, 0, 0, 0, 1],
  ints1 K (He.ga K "SIZES_editor") [0, 3, 1, 0, 0, 1, 1, 1, 0, 0, 0, 0, 0, 0],
  ints1 K (He.ga K "WITH_ROW") [1, 2],
  excB K (He.ga K "Refused"),
  xfB K (He.ga K "Refused"),
  decide (PySem.W.findIn K (.ref (He.ga K "Refused")) "__setattr__" = some (some (.builtin "object.__setattr__"))),
  decide (PySem.W.subIn K (.ref (He.ga K "Refused")) (.type "BaseException") = some true),
  decide (PySem.W.typeIn K (.ref (He.ga K "Refused")) = some (.type "type")),
  decide (PySem.W.findIn K (.ref (He.ga K "Refused")) "__init__" = some (some (.ref (He.ma K (He.ga K "Refused") "__init__")))),
  decide (PySem.W.typeIn K (.ref (He.ma K (He.ga K "Refused") "__init__")) = some (.type "function"))]
def exB (K : PySem.W.Frag) : Bool := (exL K).all id
/-- what is known of the written part -/
structure Tx (K : PySem.W.Frag) (mg : Str → Option Value) : Prop where
  d : He.SaysD fa fn K
  ex : exB K = true
  mg_of : ∀ {x : Str} {v : Value}, PySem.W.nsIn K mainGlobals x = some (some v) → mg x = some v
  mg_none : ∀ {x : Str}, PySem.W.nsIn K mainGlobals x = some none → mg x = none
section
variable {K : PySem.W.Frag} {mg : Str → Option Value} (T : Tx K mg)
include T
theorem Tx.exi (i : Nat) {b : Bool} (h : (exL K)[i]? = some b) : b = true := List.all_eq_true.mp T.ex b (List.mem_of_getElem? h)
theorem Tx.fact (i : Nat) {f : He.Fa} (h : fa[i]? = some f) : f.ok K = true := T.d.fact i h
theorem Tx.glo (i : Nat) {x : Str} (h : fa[i]? = some (.glo x)) : mg x = some (.ref (He.ga K x)) := T.mg_of (He.eqO_ok (T.fact i h))
theorem Tx.fre (i : Nat) {x : Str} (h : fa[i]? = some (.free x)) : mg x = none := T.mg_none (He.eqO_ok (T.fact i h))
theorem Tx.int (j : Nat) {x : Str} {i : Int} (h : fa[j]? = some (.int x i)) : ∃ u, mg x = some u ∧ RelV (.int i) u := by
  have c2 : (match PySem.W.nsIn K mainGlobals x with
    | some (some (.int j _)) => decide (j = i)
    | _ => false) = true := T.fact j h
  cases e : PySem.W.nsIn K mainGlobals x with
  | none => rw [e] at c2; cases c2
  | some o =>
    rw [e] at c2
    cases o with
    | none => cases c2
    | some v =>
      cases v with
      | int j t =>
        have ej : j = i := of_decide_eq_true c2
        rw [ej] at e
        exact ⟨_, T.mg_of e, t, rfl⟩
      | _ => cases c2
theorem Tx.cls (i : Nat) {x : Str} (h : fa[i]? = some (.cls x)) : Cls K (He.ga K x) := He.cls_ok (T.fact i h)
theorem Tx.noat (i : Nat) {x f : Str} (h : fa[i]? = some (.noat x f)) : NoAttr K (He.ga K x) f := He.noat_ok (T.fact i h)
theorem Tx.meth (i : Nat) {x m : Str} (h : fa[i]? = some (.meth x m)) : Meth K (He.ga K x) m (He.ma K (He.ga K x) m) := He.meth_ok (T.fact i h)
theorem Tx.mkr (i : Nat) {x : Str} (h : fa[i]? = some (.mkr x)) : Mk K (He.ga K x) (He.ma K (He.ga K x) "__init__") := He.mkr_ok (T.fact i h)
theorem Tx.fn (i : Nat) {p : Str × Option Str} {x q : Str} {s : Stmt} (h : fn[i]? = some (mkD p x q s)) : ∃ fd, FunD K x q (defArgs s) (defBody s) (defScope s) [] [] (He.fAd K p) fd := T.d.def_ i h
theorem Tx.f_is_joined : ∃ fd, FunD K "is_joined" "is_joined" (defArgs s_is_joined) (defBody s_is_joined) (defScope s_is_joined) [] [] (He.ga K "is_joined") fd := T.fn 0 (p := ("is_joined", none)) rfl
theorem Tx.f_joined : ∃ fd, FunD K "joined" "joined" (defArgs s_joined) (defBody s_joined) (defScope s_joined) [] [] (He.ga K "joined") fd := T.fn 1 (p := ("joined", none)) rfl
theorem Tx.f_rectangle : ∃ fd, FunD K "rectangle" "rectangle" (defArgs s_rectangle) (defBody s_rectangle) (defScope s_rectangle) [] [] (He.ga K "rectangle") fd := T.fn 2 (p := ("rectangle", none)) rfl
theorem Tx.f_beside : ∃ fd, FunD K "beside" "beside" (defArgs s_beside) (defBody s_beside) (defScope s_beside) [] [] (He.ga K "beside") fd := T.fn 3 (p := ("beside", none)) rfl
theorem Tx.f_flood : ∃ fd, FunD K "flood" "flood" (defArgs s_flood) (defBody s_flood) (defScope s_flood) [] [] (He.ga K "flood") fd := T.fn 4 (p := ("flood", none)) rfl
theorem Tx.f_squared : ∃ fd, FunD K "squared" "squared" (defArgs s_squared) (defBody s_squared) (defScope s_squared) [] [] (He.ga K "squared") fd := T.fn 5 (p := ("squared", none)) rfl
theorem Tx.f_near : ∃ fd, FunD K "near" "near" (defArgs s_near) (defBody s_near) (defScope s_near) [] [] (He.ga K "near") fd := T.fn 6 (p := ("near", none)) rfl
theorem Tx.f_grown : ∃ fd, FunD K "grown" "grown" (defArgs s_grown) (defBody s_grown) (defScope s_grown) [] [] (He.ga K "grown") fd := T.fn 7 (p := ("grown", none)) rfl
theorem Tx.f_shrunk : ∃ fd, FunD K "shrunk" "shrunk" (defArgs s_shrunk) (defBody s_shrunk) (defScope s_shrunk) [] [] (He.ga K "shrunk") fd := T.fn 8 (p := ("shrunk", none)) rfl
theorem Tx.f_bounds : ∃ fd, FunD K "bounds" "bounds" (defArgs s_bounds) (defBody s_bounds) (defScope s_bounds) [] [] (He.ga K "bounds") fd := T.fn 9 (p := ("bounds", none)) rfl
theorem Tx.f_Layer_init : ∃ fd, FunD K "__init__" "Layer.__init__" (defArgs s_Layer_init) (defBody s_Layer_init) (defScope s_Layer_init) [] [] (He.ma K (He.ga K "Layer") "__init__") fd := T.fn 10 (p := ("Layer", some "__init__")) rfl
theorem Tx.f_Layer_with_dots : ∃ fd, FunD K "with_dots" "Layer.with_dots" (defArgs s_Layer_with_dots) (defBody s_Layer_with_dots) (defScope s_Layer_with_dots) [] [] (He.ma K (He.ga K "Layer") "with_dots") fd := T.fn 11 (p := ("Layer", some "with_dots")) rfl
theorem Tx.f_Picture_init : ∃ fd, FunD K "__init__" "Picture.__init__" (defArgs s_Picture_init) (defBody s_Picture_init) (defScope s_Picture_init) [] [] (He.ma K (He.ga K "Picture") "__init__") fd := T.fn 12 (p := ("Picture", some "__init__")) rfl
theorem Tx.f_Picture_size : ∃ fd, FunD K "size" "Picture.size" (defArgs s_Picture_size) (defBody s_Picture_size) (defScope s_Picture_size) [] [] (He.ma K (He.ga K "Picture") "size") fd := T.fn 13 (p := ("Picture", some "size")) rfl
theorem Tx.f_Picture_has : ∃ fd, FunD K "has" "Picture.has" (defArgs s_Picture_has) (defBody s_Picture_has) (defScope s_Picture_has) [] [] (He.ma K (He.ga K "Picture") "has") fd := T.fn 14 (p := ("Picture", some "has")) rfl
theorem Tx.f_Picture_place : ∃ fd, FunD K "place" "Picture.place" (defArgs s_Picture_place) (defBody s_Picture_place) (defScope s_Picture_place) [] [] (He.ma K (He.ga K "Picture") "place") fd := T.fn 15 (p := ("Picture", some "place")) rfl
theorem Tx.f_Picture_across : ∃ fd, FunD K "across" "Picture.across" (defArgs s_Picture_across) (defBody s_Picture_across) (defScope s_Picture_across) [] [] (He.ma K (He.ga K "Picture") "across") fd := T.fn 16 (p := ("Picture", some "across")) rfl
theorem Tx.f_Picture_down : ∃ fd, FunD K "down" "Picture.down" (defArgs s_Picture_down) (defBody s_Picture_down) (defScope s_Picture_down) [] [] (He.ma K (He.ga K "Picture") "down") fd := T.fn 17 (p := ("Picture", some "down")) rfl
theorem Tx.f_Picture_numbers : ∃ fd, FunD K "numbers" "Picture.numbers" (defArgs s_Picture_numbers) (defBody s_Picture_numbers) (defScope s_Picture_numbers) [] [] (He.ma K (He.ga K "Picture") "numbers") fd := T.fn 18 (p := ("Picture", some "numbers")) rfl
theorem Tx.f_Picture_worked_on : ∃ fd, FunD K "worked_on" "Picture.worked_on" (defArgs s_Picture_worked_on) (defBody s_Picture_worked_on) (defScope s_Picture_worked_on) [] [] (He.ma K (He.ga K "Picture") "worked_on") fd := T.fn 19 (p := ("Picture", some "worked_on")) rfl
theorem Tx.f_Picture_is_chosen_some : ∃ fd, FunD K "is_chosen_some" "Picture.is_chosen_some" (defArgs s_Picture_is_chosen_some) (defBody s_Picture_is_chosen_some) (defScope s_Picture_is_chosen_some) [] [] (He.ma K (He.ga K "Picture") "is_chosen_some") fd := T.fn 20 (p := ("Picture", some "is_chosen_some")) rfl
theorem Tx.f_Picture_may_change : ∃ fd, FunD K "may_change" "Picture.may_change" (defArgs s_Picture_may_change) (defBody s_Picture_may_change) (defScope s_Picture_may_change) [] [] (He.ma K (He.ga K "Picture") "may_change") fd := T.fn 21 (p := ("Picture", some "may_change")) rfl
theorem Tx.f_Picture_with_layers : ∃ fd, FunD K "with_layers" "Picture.with_layers" (defArgs s_Picture_with_layers) (defBody s_Picture_with_layers) (defScope s_Picture_with_layers) [] [] (He.ma K (He.ga K "Picture") "with_layers") fd := T.fn 22 (p := ("Picture", some "with_layers")) rfl
theorem Tx.f_Picture_with_chosen : ∃ fd, FunD K "with_chosen" "Picture.with_chosen" (defArgs s_Picture_with_chosen) (defBody s_Picture_with_chosen) (defScope s_Picture_with_chosen) [] [] (He.ma K (He.ga K "Picture") "with_chosen") fd := T.fn 23 (p := ("Picture", some "with_chosen")) rfl
theorem Tx.f_Picture_with_dots : ∃ fd, FunD K "with_dots" "Picture.with_dots" (defArgs s_Picture_with_dots) (defBody s_Picture_with_dots) (defScope s_Picture_with_dots) [] [] (He.ma K (He.ga K "Picture") "with_dots") fd := T.fn 24 (p := ("Picture", some "with_dots")) rfl
theorem Tx.f_Picture_with_new_layer : ∃ fd, FunD K "with_new_layer" "Picture.with_new_layer" (defArgs s_Picture_with_new_layer) (defBody s_Picture_with_new_layer) (defScope s_Picture_with_new_layer) [] [] (He.ma K (He.ga K "Picture") "with_new_layer") fd := T.fn 25 (p := ("Picture", some "with_new_layer")) rfl
theorem Tx.f_Picture_rearranged : ∃ fd, FunD K "rearranged" "Picture.rearranged" (defArgs s_Picture_rearranged) (defBody s_Picture_rearranged) (defScope s_Picture_rearranged) [] [] (He.ma K (He.ga K "Picture") "rearranged") fd := T.fn 26 (p := ("Picture", some "rearranged")) rfl
theorem Tx.f_new_picture : ∃ fd, FunD K "new_picture" "new_picture" (defArgs s_new_picture) (defBody s_new_picture) (defScope s_new_picture) [] [] (He.ga K "new_picture") fd := T.fn 27 (p := ("new_picture", none)) rfl
theorem Tx.f_many_unlike : ∃ fd, FunD K "many_unlike" "many_unlike" (defArgs s_many_unlike) (defBody s_many_unlike) (defScope s_many_unlike) [] [] (He.ga K "many_unlike") fd := T.fn 28 (p := ("many_unlike", none)) rfl
theorem Tx.f_cost : ∃ fd, FunD K "cost" "cost" (defArgs s_cost) (defBody s_cost) (defScope s_cost) [] [] (He.ga K "cost") fd := T.fn 29 (p := ("cost", none)) rfl
theorem Tx.f_common : ∃ fd, FunD K "common" "common" (defArgs s_common) (defBody s_common) (defScope s_common) [] [] (He.ga K "common") fd := T.fn 30 (p := ("common", none)) rfl
theorem Tx.f_lowest : ∃ fd, FunD K "lowest" "lowest" (defArgs s_lowest) (defBody s_lowest) (defScope s_lowest) [] [] (He.ga K "lowest") fd := T.fn 31 (p := ("lowest", none)) rfl
theorem Tx.f_plus : ∃ fd, FunD K "plus" "plus" (defArgs s_plus) (defBody s_plus) (defScope s_plus) [] [] (He.ga K "plus") fd := T.fn 32 (p := ("plus", none)) rfl
theorem Tx.f_apart : ∃ fd, FunD K "apart" "apart" (defArgs s_apart) (defBody s_apart) (defScope s_apart) [] [] (He.ga K "apart") fd := T.fn 33 (p := ("apart", none)) rfl
theorem Tx.f_times : ∃ fd, FunD K "times" "times" (defArgs s_times) (defBody s_times) (defScope s_times) [] [] (He.ga K "times") fd := T.fn 34 (p := ("times", none)) rfl
theorem Tx.f_by : ∃ fd, FunD K "by" "by" (defArgs s_by) (defBody s_by) (defScope s_by) [] [] (He.ga K "by") fd := T.fn 35 (p := ("by", none)) rfl
theorem Tx.f_is_more : ∃ fd, FunD K "is_more" "is_more" (defArgs s_is_more) (defBody s_is_more) (defScope s_is_more) [] [] (He.ga K "is_more") fd := T.fn 36 (p := ("is_more", none)) rfl
theorem Tx.f_either : ∃ fd, FunD K "either" "either" (defArgs s_either) (defBody s_either) (defScope s_either) [] [] (He.ga K "either") fd := T.fn 37 (p := ("either", none)) rfl
theorem Tx.f_both_ways : ∃ fd, FunD K "both_ways" "both_ways" (defArgs s_both_ways) (defBody s_both_ways) (defScope s_both_ways) [] [] (He.ga K "both_ways") fd := T.fn 38 (p := ("both_ways", none)) rfl
theorem Tx.f_put_upon : ∃ fd, FunD K "put_upon" "put_upon" (defArgs s_put_upon) (defBody s_put_upon) (defScope s_put_upon) [] [] (He.ga K "put_upon") fd := T.fn 39 (p := ("put_upon", none)) rfl
theorem Tx.f_layer_upon : ∃ fd, FunD K "layer_upon" "layer_upon" (defArgs s_layer_upon) (defBody s_layer_upon) (defScope s_layer_upon) [] [] (He.ga K "layer_upon") fd := T.fn 40 (p := ("layer_upon", none)) rfl
theorem Tx.f_rounded : ∃ fd, FunD K "rounded" "rounded" (defArgs s_rounded) (defBody s_rounded) (defScope s_rounded) [] [] (He.ga K "rounded") fd := T.fn 41 (p := ("rounded", none)) rfl
theorem Tx.f_dot_of : ∃ fd, FunD K "dot_of" "dot_of" (defArgs s_dot_of) (defBody s_dot_of) (defScope s_dot_of) [] [] (He.ga K "dot_of") fd := T.fn 42 (p := ("dot_of", none)) rfl
theorem Tx.f_changed : ∃ fd, FunD K "changed" "changed" (defArgs s_changed) (defBody s_changed) (defScope s_changed) [] [] (He.ga K "changed") fd := T.fn 43 (p := ("changed", none)) rfl
theorem Tx.f_filled : ∃ fd, FunD K "filled" "filled" (defArgs s_filled) (defBody s_filled) (defScope s_filled) [] [] (He.ga K "filled") fd := T.fn 44 (p := ("filled", none)) rfl
theorem Tx.f_nearest : ∃ fd, FunD K "nearest" "nearest" (defArgs s_nearest) (defBody s_nearest) (defScope s_nearest) [] [] (He.ga K "nearest") fd := T.fn 45 (p := ("nearest", none)) rfl
theorem Tx.f_window : ∃ fd, FunD K "window" "window" (defArgs s_window) (defBody s_window) (defScope s_window) [] [] (He.ga K "window") fd := T.fn 46 (p := ("window", none)) rfl
theorem Tx.f_mean : ∃ fd, FunD K "mean" "mean" (defArgs s_mean) (defBody s_mean) (defScope s_mean) [] [] (He.ga K "mean") fd := T.fn 47 (p := ("mean", none)) rfl
theorem Tx.f_by_windows : ∃ fd, FunD K "by_windows" "by_windows" (defArgs s_by_windows) (defBody s_by_windows) (defScope s_by_windows) [] [] (He.ga K "by_windows") fd := T.fn 48 (p := ("by_windows", none)) rfl
theorem Tx.f_smoothed : ∃ fd, FunD K "smoothed" "smoothed" (defArgs s_smoothed) (defBody s_smoothed) (defScope s_smoothed) [] [] (He.ga K "smoothed") fd := T.fn 49 (p := ("smoothed", none)) rfl
theorem Tx.f_ranked : ∃ fd, FunD K "ranked" "ranked" (defArgs s_ranked) (defBody s_ranked) (defScope s_ranked) [] [] (He.ga K "ranked") fd := T.fn 50 (p := ("ranked", none)) rfl
theorem Tx.f_moved_to : ∃ fd, FunD K "moved_to" "moved_to" (defArgs s_moved_to) (defBody s_moved_to) (defScope s_moved_to) [] [] (He.ga K "moved_to") fd := T.fn 51 (p := ("moved_to", none)) rfl
theorem Tx.f_moved : ∃ fd, FunD K "moved" "moved" (defArgs s_moved) (defBody s_moved) (defScope s_moved) [] [] (He.ga K "moved") fd := T.fn 52 (p := ("moved", none)) rfl
theorem Tx.f_taken_aside : ∃ fd, FunD K "taken_aside" "taken_aside" (defArgs s_taken_aside) (defBody s_taken_aside) (defScope s_taken_aside) [] [] (He.ga K "taken_aside") fd := T.fn 53 (p := ("taken_aside", none)) rfl
theorem Tx.f_pasted : ∃ fd, FunD K "pasted" "pasted" (defArgs s_pasted) (defBody s_pasted) (defScope s_pasted) [] [] (He.ga K "pasted") fd := T.fn 54 (p := ("pasted", none)) rfl
theorem Tx.f_put_together : ∃ fd, FunD K "put_together" "put_together" (defArgs s_put_together) (defBody s_put_together) (defScope s_put_together) [] [] (He.ga K "put_together") fd := T.fn 55 (p := ("put_together", none)) rfl
theorem Tx.f_cropped : ∃ fd, FunD K "cropped" "cropped" (defArgs s_cropped) (defBody s_cropped) (defScope s_cropped) [] [] (He.ga K "cropped") fd := T.fn 56 (p := ("cropped", none)) rfl
theorem Tx.f_turned : ∃ fd, FunD K "turned" "turned" (defArgs s_turned) (defBody s_turned) (defScope s_turned) [] [] (He.ga K "turned") fd := T.fn 57 (p := ("turned", none)) rfl
theorem Tx.f_Refused_init : ∃ fd, FunD K "__init__" "Refused.__init__" (defArgs s_Refused_init) (defBody s_Refused_init) (defScope s_Refused_init) [] [] (He.ma K (He.ga K "Refused") "__init__") fd := T.fn 58 (p := ("Refused", some "__init__")) rfl
theorem Tx.f_want : ∃ fd, FunD K "want" "want" (defArgs s_want) (defBody s_want) (defScope s_want) [] [] (He.ga K "want") fd := T.fn 59 (p := ("want", none)) rfl
theorem Tx.f_place_of : ∃ fd, FunD K "place_of" "place_of" (defArgs s_place_of) (defBody s_place_of) (defScope s_place_of) [] [] (He.ga K "place_of") fd := T.fn 60 (p := ("place_of", none)) rfl
theorem Tx.f_want_room : ∃ fd, FunD K "want_room" "want_room" (defArgs s_want_room) (defBody s_want_room) (defScope s_want_room) [] [] (He.ga K "want_room") fd := T.fn 61 (p := ("want_room", none)) rfl
theorem Tx.f_layer_gone : ∃ fd, FunD K "layer_gone" "layer_gone" (defArgs s_layer_gone) (defBody s_layer_gone) (defScope s_layer_gone) [] [] (He.ga K "layer_gone") fd := T.fn 62 (p := ("layer_gone", none)) rfl
theorem Tx.f_layer_up : ∃ fd, FunD K "layer_up" "layer_up" (defArgs s_layer_up) (defBody s_layer_up) (defScope s_layer_up) [] [] (He.ga K "layer_up") fd := T.fn 63 (p := ("layer_up", none)) rfl
theorem Tx.f_layer_so : ∃ fd, FunD K "layer_so" "layer_so" (defArgs s_layer_so) (defBody s_layer_so) (defScope s_layer_so) [] [] (He.ga K "layer_so") fd := T.fn 64 (p := ("layer_so", none)) rfl
theorem Tx.f_layer_worked_on : ∃ fd, FunD K "layer_worked_on" "layer_worked_on" (defArgs s_layer_worked_on) (defBody s_layer_worked_on) (defScope s_layer_worked_on) [] [] (He.ga K "layer_worked_on") fd := T.fn 65 (p := ("layer_worked_on", none)) rfl
theorem Tx.f_flooded : ∃ fd, FunD K "flooded" "flooded" (defArgs s_flooded) (defBody s_flooded) (defScope s_flooded) [] [] (He.ga K "flooded") fd := T.fn 66 (p := ("flooded", none)) rfl
theorem Tx.f_of_layers : ∃ fd, FunD K "of_layers" "of_layers" (defArgs s_of_layers) (defBody s_of_layers) (defScope s_of_layers) [] [] (He.ga K "of_layers") fd := T.fn 67 (p := ("of_layers", none)) rfl
theorem Tx.f_of_choice : ∃ fd, FunD K "of_choice" "of_choice" (defArgs s_of_choice) (defBody s_of_choice) (defScope s_of_choice) [] [] (He.ga K "of_choice") fd := T.fn 68 (p := ("of_choice", none)) rfl
theorem Tx.f_of_dots : ∃ fd, FunD K "of_dots" "of_dots" (defArgs s_of_dots) (defBody s_of_dots) (defScope s_of_dots) [] [] (He.ga K "of_dots") fd := T.fn 69 (p := ("of_dots", none)) rfl
theorem Tx.f_of_pictures : ∃ fd, FunD K "of_pictures" "of_pictures" (defArgs s_of_pictures) (defBody s_of_pictures) (defScope s_of_pictures) [] [] (He.ga K "of_pictures") fd := T.fn 70 (p := ("of_pictures", none)) rfl
theorem Tx.f_want_deed : ∃ fd, FunD K "want_deed" "want_deed" (defArgs s_want_deed) (defBody s_want_deed) (defScope s_want_deed) [] [] (He.ga K "want_deed") fd := T.fn 71 (p := ("want_deed", none)) rfl
theorem Tx.f_made : ∃ fd, FunD K "made" "made" (defArgs s_made) (defBody s_made) (defScope s_made) [] [] (He.ga K "made") fd := T.fn 72 (p := ("made", none)) rfl
theorem Tx.f_aside_behind : ∃ fd, FunD K "aside_behind" "aside_behind" (defArgs s_aside_behind) (defBody s_aside_behind) (defScope s_aside_behind) [] [] (He.ga K "aside_behind") fd := T.fn 73 (p := ("aside_behind", none)) rfl
theorem Tx.f_History_init : ∃ fd, FunD K "__init__" "History.__init__" (defArgs s_History_init) (defBody s_History_init) (defScope s_History_init) [] [] (He.ma K (He.ga K "History") "__init__") fd := T.fn 74 (p := ("History", some "__init__")) rfl
theorem Tx.f_History_total : ∃ fd, FunD K "total" "History.total" (defArgs s_History_total) (defBody s_History_total) (defScope s_History_total) [] [] (He.ma K (He.ga K "History") "total") fd := T.fn 75 (p := ("History", some "total")) rfl
theorem Tx.f_History_keep : ∃ fd, FunD K "keep" "History.keep" (defArgs s_History_keep) (defBody s_History_keep) (defScope s_History_keep) [] [] (He.ma K (He.ga K "History") "keep") fd := T.fn 76 (p := ("History", some "keep")) rfl
theorem Tx.f_History_do : ∃ fd, FunD K "do" "History.do" (defArgs s_History_do) (defBody s_History_do) (defScope s_History_do) [] [] (He.ma K (He.ga K "History") "do") fd := T.fn 77 (p := ("History", some "do")) rfl
theorem Tx.f_History_undo : ∃ fd, FunD K "undo" "History.undo" (defArgs s_History_undo) (defBody s_History_undo) (defScope s_History_undo) [] [] (He.ma K (He.ga K "History") "undo") fd := T.fn 78 (p := ("History", some "undo")) rfl
theorem Tx.f_History_redo : ∃ fd, FunD K "redo" "History.redo" (defArgs s_History_redo) (defBody s_History_redo) (defScope s_History_redo) [] [] (He.ma K (He.ga K "History") "redo") fd := T.fn 79 (p := ("History", some "redo")) rfl
theorem Tx.f_Editor_init : ∃ fd, FunD K "__init__" "Editor.__init__" (defArgs s_Editor_init) (defBody s_Editor_init) (defScope s_Editor_init) [] [] (He.ma K (He.ga K "Editor") "__init__") fd := T.fn 80 (p := ("Editor", some "__init__")) rfl
theorem Tx.f_Editor_put : ∃ fd, FunD K "put" "Editor.put" (defArgs s_Editor_put) (defBody s_Editor_put) (defScope s_Editor_put) [] [] (He.ma K (He.ga K "Editor") "put") fd := T.fn 81 (p := ("Editor", some "put")) rfl
theorem Tx.f_Editor_begin : ∃ fd, FunD K "begin" "Editor.begin" (defArgs s_Editor_begin) (defBody s_Editor_begin) (defScope s_Editor_begin) [] [] (He.ma K (He.ga K "Editor") "begin") fd := T.fn 82 (p := ("Editor", some "begin")) rfl
theorem Tx.f_Editor_do : ∃ fd, FunD K "do" "Editor.do" (defArgs s_Editor_do) (defBody s_Editor_do) (defScope s_Editor_do) [] [] (He.ma K (He.ga K "Editor") "do") fd := T.fn 83 (p := ("Editor", some "do")) rfl
theorem Tx.f_Editor_act : ∃ fd, FunD K "act" "Editor.act" (defArgs s_Editor_act) (defBody s_Editor_act) (defScope s_Editor_act) [] [] (He.ma K (He.ga K "Editor") "act") fd := T.fn 84 (p := ("Editor", some "act")) rfl
theorem Tx.f_Editor_told_history : ∃ fd, FunD K "told_history" "Editor.told_history" (defArgs s_Editor_told_history) (defBody s_Editor_told_history) (defScope s_Editor_told_history) [] [] (He.ma K (He.ga K "Editor") "told_history") fd := T.fn 85 (p := ("Editor", some "told_history")) rfl
theorem Tx.f_Editor_undo : ∃ fd, FunD K "undo" "Editor.undo" (defArgs s_Editor_undo) (defBody s_Editor_undo) (defScope s_Editor_undo) [] [] (He.ma K (He.ga K "Editor") "undo") fd := T.fn 86 (p := ("Editor", some "undo")) rfl
theorem Tx.f_Editor_redo : ∃ fd, FunD K "redo" "Editor.redo" (defArgs s_Editor_redo) (defBody s_Editor_redo) (defScope s_Editor_redo) [] [] (He.ma K (He.ga K "Editor") "redo") fd := T.fn 87 (p := ("Editor", some "redo")) rfl
theorem Tx.f_Editor_row_places : ∃ fd, FunD K "row_places" "Editor.row_places" (defArgs s_Editor_row_places) (defBody s_Editor_row_places) (defScope s_Editor_row_places) [] [] (He.ma K (He.ga K "Editor") "row_places") fd := T.fn 88 (p := ("Editor", some "row_places")) rfl
theorem Tx.f_Editor_row : ∃ fd, FunD K "row" "Editor.row" (defArgs s_Editor_row) (defBody s_Editor_row) (defScope s_Editor_row) [] [] (He.ma K (He.ga K "Editor") "row") fd := T.fn 89 (p := ("Editor", some "row")) rfl
theorem Tx.f_Editor_own_row : ∃ fd, FunD K "own_row" "Editor.own_row" (defArgs s_Editor_own_row) (defBody s_Editor_own_row) (defScope s_Editor_own_row) [] [] (He.ma K (He.ga K "Editor") "own_row") fd := T.fn 90 (p := ("Editor", some "own_row")) rfl
theorem Tx.f_Editor_chosen_row : ∃ fd, FunD K "chosen_row" "Editor.chosen_row" (defArgs s_Editor_chosen_row) (defBody s_Editor_chosen_row) (defScope s_Editor_chosen_row) [] [] (He.ma K (He.ga K "Editor") "chosen_row") fd := T.fn 91 (p := ("Editor", some "chosen_row")) rfl
theorem Tx.f_Editor_listed : ∃ fd, FunD K "listed" "Editor.listed" (defArgs s_Editor_listed) (defBody s_Editor_listed) (defScope s_Editor_listed) [] [] (He.ma K (He.ga K "Editor") "listed") fd := T.fn 92 (p := ("Editor", some "listed")) rfl
theorem Tx.f_Editor_history : ∃ fd, FunD K "history" "Editor.history" (defArgs s_Editor_history) (defBody s_Editor_history) (defScope s_Editor_history) [] [] (He.ma K (He.ga K "Editor") "history") fd := T.fn 93 (p := ("Editor", some "history")) rfl
theorem Tx.f_Editor_copy : ∃ fd, FunD K "copy" "Editor.copy" (defArgs s_Editor_copy) (defBody s_Editor_copy) (defScope s_Editor_copy) [] [] (He.ma K (He.ga K "Editor") "copy") fd := T.fn 94 (p := ("Editor", some "copy")) rfl
theorem Tx.f_Editor_record : ∃ fd, FunD K "record" "Editor.record" (defArgs s_Editor_record) (defBody s_Editor_record) (defScope s_Editor_record) [] [] (He.ma K (He.ga K "Editor") "record") fd := T.fn 95 (p := ("Editor", some "record")) rfl
theorem Tx.f_Editor_stop : ∃ fd, FunD K "stop" "Editor.stop" (defArgs s_Editor_stop) (defBody s_Editor_stop) (defScope s_Editor_stop) [] [] (He.ma K (He.ga K "Editor") "stop") fd := T.fn 96 (p := ("Editor", some "stop")) rfl
theorem Tx.f_Editor_play : ∃ fd, FunD K "play" "Editor.play" (defArgs s_Editor_play) (defBody s_Editor_play) (defScope s_Editor_play) [] [] (He.ma K (He.ga K "Editor") "play") fd := T.fn 97 (p := ("Editor", some "play")) rfl
theorem Tx.f_Editor_of_deeds : ∃ fd, FunD K "of_deeds" "Editor.of_deeds" (defArgs s_Editor_of_deeds) (defBody s_Editor_of_deeds) (defScope s_Editor_of_deeds) [] [] (He.ma K (He.ga K "Editor") "of_deeds") fd := T.fn 98 (p := ("Editor", some "of_deeds")) rfl
theorem Tx.f_Editor_of_looks : ∃ fd, FunD K "of_looks" "Editor.of_looks" (defArgs s_Editor_of_looks) (defBody s_Editor_of_looks) (defScope s_Editor_of_looks) [] [] (He.ma K (He.ga K "Editor") "of_looks") fd := T.fn 99 (p := ("Editor", some "of_looks")) rfl
theorem Tx.f_Editor_of_records : ∃ fd, FunD K "of_records" "Editor.of_records" (defArgs s_Editor_of_records) (defBody s_Editor_of_records) (defScope s_Editor_of_records) [] [] (He.ma K (He.ga K "Editor") "of_records") fd := T.fn 100 (p := ("Editor", some "of_records")) rfl
theorem Tx.f_Editor_answer : ∃ fd, FunD K "answer" "Editor.answer" (defArgs s_Editor_answer) (defBody s_Editor_answer) (defScope s_Editor_answer) [] [] (He.ma K (He.ga K "Editor") "answer") fd := T.fn 101 (p := ("Editor", some "answer")) rfl
theorem Tx.f_answers : ∃ fd, FunD K "answers" "answers" (defArgs s_answers) (defBody s_answers) (defScope s_answers) [] [] (He.ga K "answers") fd := T.fn 102 (p := ("answers", none)) rfl
theorem Tx.g_is_joined : mg "is_joined" = some (.ref (He.ga K "is_joined")) := T.glo 0 rfl
theorem Tx.g_joined : mg "joined" = some (.ref (He.ga K "joined")) := T.glo 1 rfl
theorem Tx.g_rectangle : mg "rectangle" = some (.ref (He.ga K "rectangle")) := T.glo 2 rfl
theorem Tx.g_beside : mg "beside" = some (.ref (He.ga K "beside")) := T.glo 3 rfl
theorem Tx.g_flood : mg "flood" = some (.ref (He.ga K "flood")) := T.glo 4 rfl
theorem Tx.g_squared : mg "squared" = some (.ref (He.ga K "squared")) := T.glo 5 rfl
theorem Tx.g_near : mg "near" = some (.ref (He.ga K "near")) := T.glo 6 rfl
theorem Tx.g_grown : mg "grown" = some (.ref (He.ga K "grown")) := T.glo 7 rfl
theorem Tx.g_shrunk : mg "shrunk" = some (.ref (He.ga K "shrunk")) := T.glo 8 rfl
theorem Tx.g_bounds : mg "bounds" = some (.ref (He.ga K "bounds")) := T.glo 9 rfl
theorem Tx.g_Layer : mg "Layer" = some (.ref (He.ga K "Layer")) := T.glo 10 rfl
theorem Tx.g_Picture : mg "Picture" = some (.ref (He.ga K "Picture")) := T.glo 11 rfl
theorem Tx.g_new_picture : mg "new_picture" = some (.ref (He.ga K "new_picture")) := T.glo 12 rfl
theorem Tx.g_many_unlike : mg "many_unlike" = some (.ref (He.ga K "many_unlike")) := T.glo 13 rfl
theorem Tx.g_cost : mg "cost" = some (.ref (He.ga K "cost")) := T.glo 14 rfl
theorem Tx.g_common : mg "common" = some (.ref (He.ga K "common")) := T.glo 15 rfl
theorem Tx.g_lowest : mg "lowest" = some (.ref (He.ga K "lowest")) := T.glo 16 rfl
theorem Tx.g_plus : mg "plus" = some (.ref (He.ga K "plus")) := T.glo 17 rfl
theorem Tx.g_apart : mg "apart" = some (.ref (He.ga K "apart")) := T.glo 18 rfl
theorem Tx.g_times : mg "times" = some (.ref (He.ga K "times")) := T.glo 19 rfl
theorem Tx.g_by : mg "by" = some (.ref (He.ga K "by")) := T.glo 20 rfl
theorem Tx.g_is_more : mg "is_more" = some (.ref (He.ga K "is_more")) := T.glo 21 rfl
theorem Tx.g_either : mg "either" = some (.ref (He.ga K "either")) := T.glo 22 rfl
theorem Tx.g_both_ways : mg "both_ways" = some (.ref (He.ga K "both_ways")) := T.glo 23 rfl
theorem Tx.g_put_upon : mg "put_upon" = some (.ref (He.ga K "put_upon")) := T.glo 24 rfl
theorem Tx.g_layer_upon : mg "layer_upon" = some (.ref (He.ga K "layer_upon")) := T.glo 25 rfl
theorem Tx.g_rounded : mg "rounded" = some (.ref (He.ga K "rounded")) := T.glo 26 rfl
theorem Tx.g_dot_of : mg "dot_of" = some (.ref (He.ga K "dot_of")) := T.glo 27 rfl
theorem Tx.g_changed : mg "changed" = some (.ref (He.ga K "changed")) := T.glo 28 rfl
theorem Tx.g_filled : mg "filled" = some (.ref (He.ga K "filled")) := T.glo 29 rfl
theorem Tx.g_nearest : mg "nearest" = some (.ref (He.ga K "nearest")) := T.glo 30 rfl
theorem Tx.g_window : mg "window" = some (.ref (He.ga K "window")) := T.glo 31 rfl
theorem Tx.g_mean : mg "mean" = some (.ref (He.ga K "mean")) := T.glo 32 rfl
theorem Tx.g_by_windows : mg "by_windows" = some (.ref (He.ga K "by_windows")) := T.glo 33 rfl
theorem Tx.g_smoothed : mg "smoothed" = some (.ref (He.ga K "smoothed")) := T.glo 34 rfl
theorem Tx.g_ranked : mg "ranked" = some (.ref (He.ga K "ranked")) := T.glo 35 rfl
theorem Tx.g_moved_to : mg "moved_to" = some (.ref (He.ga K "moved_to")) := T.glo 36 rfl
theorem Tx.g_moved : mg "moved" = some (.ref (He.ga K "moved")) := T.glo 37 rfl
theorem Tx.g_taken_aside : mg "taken_aside" = some (.ref (He.ga K "taken_aside")) := T.glo 38 rfl
theorem Tx.g_pasted : mg "pasted" = some (.ref (He.ga K "pasted")) := T.glo 39 rfl
theorem Tx.g_put_together : mg "put_together" = some (.ref (He.ga K "put_together")) := T.glo 40 rfl
theorem Tx.g_cropped : mg "cropped" = some (.ref (He.ga K "cropped")) := T.glo 41 rfl
theorem Tx.g_turned : mg "turned" = some (.ref (He.ga K "turned")) := T.glo 42 rfl
theorem Tx.g_Refused : mg "Refused" = some (.ref (He.ga K "Refused")) := T.glo 43 rfl
theorem Tx.g_want : mg "want" = some (.ref (He.ga K "want")) := T.glo 44 rfl
theorem Tx.g_place_of : mg "place_of" = some (.ref (He.ga K "place_of")) := T.glo 45 rfl
theorem Tx.g_want_room : mg "want_room" = some (.ref (He.ga K "want_room")) := T.glo 46 rfl
theorem Tx.g_layer_gone : mg "layer_gone" = some (.ref (He.ga K "layer_gone")) := T.glo 47 rfl
theorem Tx.g_layer_up : mg "layer_up" = some (.ref (He.ga K "layer_up")) := T.glo 48 rfl
theorem Tx.g_layer_so : mg "layer_so" = some (.ref (He.ga K "layer_so")) := T.glo 49 rfl
theorem Tx.g_layer_worked_on : mg "layer_worked_on" = some (.ref (He.ga K "layer_worked_on")) := T.glo 50 rfl
theorem Tx.g_flooded : mg "flooded" = some (.ref (He.ga K "flooded")) := T.glo 51 rfl
theorem Tx.g_of_layers : mg "of_layers" = some (.ref (He.ga K "of_layers")) := T.glo 52 rfl
theorem Tx.g_of_choice : mg "of_choice" = some (.ref (He.ga K "of_choice")) := T.glo 53 rfl
theorem Tx.g_of_dots : mg "of_dots" = some (.ref (He.ga K "of_dots")) := T.glo 54 rfl
theorem Tx.g_of_pictures : mg "of_pictures" = some (.ref (He.ga K "of_pictures")) := T.glo 55 rfl
theorem Tx.g_want_deed : mg "want_deed" = some (.ref (He.ga K "want_deed")) := T.glo 56 rfl
theorem Tx.g_made : mg "made" = some (.ref (He.ga K "made")) := T.glo 57 rfl
theorem Tx.g_aside_behind : mg "aside_behind" = some (.ref (He.ga K "aside_behind")) := T.glo 58 rfl
theorem Tx.g_History : mg "History" = some (.ref (He.ga K "History")) := T.glo 59 rfl
theorem Tx.g_Editor : mg "Editor" = some (.ref (He.ga K "Editor")) := T.glo 60 rfl
theorem Tx.g_answers : mg "answers" = some (.ref (He.ga K "answers")) := T.glo 61 rfl
theorem Tx.b_range : mg "range" = none := T.fre 62 rfl
theorem Tx.b_zip : mg "zip" = none := T.fre 63 rfl
theorem Tx.b_enumerate : mg "enumerate" = none := T.fre 64 rfl
theorem Tx.b_any : mg "any" = none := T.fre 65 rfl
theorem Tx.b_all : mg "all" = none := T.fre 66 rfl
theorem Tx.b_len : mg "len" = none := T.fre 67 rfl
theorem Tx.b_min : mg "min" = none := T.fre 68 rfl
theorem Tx.b_max : mg "max" = none := T.fre 69 rfl
theorem Tx.b_abs : mg "abs" = none := T.fre 70 rfl
theorem Tx.b_sum : mg "sum" = none := T.fre 71 rfl
theorem Tx.b_sorted : mg "sorted" = none := T.fre 72 rfl
theorem Tx.b_list : mg "list" = none := T.fre 73 rfl
theorem Tx.b_dict : mg "dict" = none := T.fre 74 rfl
theorem Tx.b_int : mg "int" = none := T.fre 75 rfl
theorem Tx.b_ValueError : mg "ValueError" = none := T.fre 76 rfl
theorem Tx.i_ALONE : ∃ u, mg "ALONE" = some u ∧ RelV (.int (0)) u := T.int 77 rfl
theorem Tx.i_THESE_TOO : ∃ u, mg "THESE_TOO" = some u ∧ RelV (.int (1)) u := T.int 78 rfl
theorem Tx.i_WITHOUT : ∃ u, mg "WITHOUT" = some u ∧ RelV (.int (2)) u := T.int 79 rfl
theorem Tx.i_IN_BOTH : ∃ u, mg "IN_BOTH" = some u ∧ RelV (.int (3)) u := T.int 80 rfl
theorem Tx.i_BY_FIRST : ∃ u, mg "BY_FIRST" = some u ∧ RelV (.int (0)) u := T.int 81 rfl
theorem Tx.i_GREATEST : ∃ u, mg "GREATEST" = some u ∧ RelV (.int (255)) u := T.int 82 rfl
theorem Tx.i_MIDDLE : ∃ u, mg "MIDDLE" = some u ∧ RelV (.int (16)) u := T.int 83 rfl
theorem Tx.i_UPRIGHT : ∃ u, mg "UPRIGHT" = some u ∧ RelV (.int (0)) u := T.int 84 rfl
theorem Tx.i_OVER : ∃ u, mg "OVER" = some u ∧ RelV (.int (1)) u := T.int 85 rfl
theorem Tx.i_NOT_SO : ∃ u, mg "NOT_SO" = some u ∧ RelV (.int (-1)) u := T.int 86 rfl
theorem Tx.i_NO_LAYER : ∃ u, mg "NO_LAYER" = some u ∧ RelV (.int (-2)) u := T.int 87 rfl
theorem Tx.i_NO_DEED : ∃ u, mg "NO_DEED" = some u ∧ RelV (.int (-3)) u := T.int 88 rfl
theorem Tx.i_TOO_MANY : ∃ u, mg "TOO_MANY" = some u ∧ RelV (.int (-5)) u := T.int 89 rfl
theorem Tx.i_CAN_NOT : ∃ u, mg "CAN_NOT" = some u ∧ RelV (.int (-6)) u := T.int 90 rfl
theorem Tx.i_CUT : ∃ u, mg "CUT" = some u ∧ RelV (.int (14)) u := T.int 91 rfl
theorem Tx.i_MOST_LAYERS : ∃ u, mg "MOST_LAYERS" = some u ∧ RelV (.int (5)) u := T.int 92 rfl
theorem Tx.i_LAST_WAY : ∃ u, mg "LAST_WAY" = some u ∧ RelV (.int (6)) u := T.int 93 rfl
theorem Tx.i_LAST_HOW : ∃ u, mg "LAST_HOW" = some u ∧ RelV (.int (4)) u := T.int 94 rfl
theorem Tx.i_MOST_FAR : ∃ u, mg "MOST_FAR" = some u ∧ RelV (.int (1000)) u := T.int 95 rfl
theorem Tx.i_MOST_REACH : ∃ u, mg "MOST_REACH" = some u ∧ RelV (.int (4)) u := T.int 96 rfl
theorem Tx.i_MOST_MOVE : ∃ u, mg "MOST_MOVE" = some u ∧ RelV (.int (32)) u := T.int 97 rfl
theorem Tx.i_LAST_TURN : ∃ u, mg "LAST_TURN" = some u ∧ RelV (.int (2)) u := T.int 98 rfl
theorem Tx.i_NOT_AS_MANY : ∃ u, mg "NOT_AS_MANY" = some u ∧ RelV (.int (-3)) u := T.int 99 rfl
theorem Tx.i_MOST_SIDE : ∃ u, mg "MOST_SIDE" = some u ∧ RelV (.int (12)) u := T.int 100 rfl
theorem Tx.i_MOST_BUDGET : ∃ u, mg "MOST_BUDGET" = some u ∧ RelV (.int (1000000)) u := T.int 101 rfl
theorem Tx.i_MOST_RECORDED : ∃ u, mg "MOST_RECORDED" = some u ∧ RelV (.int (40)) u := T.int 102 rfl
theorem Tx.i_BUDGET_AT_FIRST : ∃ u, mg "BUDGET_AT_FIRST" = some u ∧ RelV (.int (100)) u := T.int 103 rfl
theorem Tx.g_BESIDE : mg "BESIDE" = some (.ref (He.ga K "BESIDE")) := T.glo 104 rfl
theorem Tx.g_ASLANT : mg "ASLANT" = some (.ref (He.ga K "ASLANT")) := T.glo 105 rfl
theorem Tx.g_EMPTY : mg "EMPTY" = some (.ref (He.ga K "EMPTY")) := T.glo 106 rfl
theorem Tx.g_NOUGHT : mg "NOUGHT" = some (.ref (He.ga K "NOUGHT")) := T.glo 107 rfl
theorem Tx.g_ONE : mg "ONE" = some (.ref (He.ga K "ONE")) := T.glo 108 rfl
theorem Tx.g_SIZES_deeds : mg "SIZES_deeds" = some (.ref (He.ga K "SIZES_deeds")) := T.glo 109 rfl
theorem Tx.g_SIZES_editor : mg "SIZES_editor" = some (.ref (He.ga K "SIZES_editor")) := T.glo 110 rfl
theorem Tx.g_WITH_ROW : mg "WITH_ROW" = some (.ref (He.ga K "WITH_ROW")) := T.glo 111 rfl
theorem Tx.c_Layer : Cls K (He.ga K "Layer") := T.cls 112 rfl
theorem Tx.n_Layer_number : NoAttr K (He.ga K "Layer") "number" := T.noat 113 rfl
theorem Tx.n_Layer_seen : NoAttr K (He.ga K "Layer") "seen" := T.noat 114 rfl
theorem Tx.n_Layer_strong : NoAttr K (He.ga K "Layer") "strong" := T.noat 115 rfl
theorem Tx.n_Layer_way : NoAttr K (He.ga K "Layer") "way" := T.noat 116 rfl
theorem Tx.n_Layer_dots : NoAttr K (He.ga K "Layer") "dots" := T.noat 117 rfl
theorem Tx.k_Layer : Mk K (He.ga K "Layer") (He.ma K (He.ga K "Layer") "__init__") := T.mkr 118 rfl
theorem Tx.c_Picture : Cls K (He.ga K "Picture") := T.cls 119 rfl
theorem Tx.n_Picture_wide : NoAttr K (He.ga K "Picture") "wide" := T.noat 120 rfl
theorem Tx.n_Picture_high : NoAttr K (He.ga K "Picture") "high" := T.noat 121 rfl
theorem Tx.n_Picture_layers : NoAttr K (He.ga K "Picture") "layers" := T.noat 122 rfl
theorem Tx.n_Picture_working : NoAttr K (He.ga K "Picture") "working" := T.noat 123 rfl
theorem Tx.n_Picture_chosen : NoAttr K (He.ga K "Picture") "chosen" := T.noat 124 rfl
theorem Tx.n_Picture_following : NoAttr K (He.ga K "Picture") "following" := T.noat 125 rfl
theorem Tx.k_Picture : Mk K (He.ga K "Picture") (He.ma K (He.ga K "Picture") "__init__") := T.mkr 126 rfl
theorem Tx.c_History : Cls K (He.ga K "History") := T.cls 127 rfl
theorem Tx.n_History_budget : NoAttr K (He.ga K "History") "budget" := T.noat 128 rfl
theorem Tx.n_History_kept : NoAttr K (He.ga K "History") "kept" := T.noat 129 rfl
theorem Tx.n_History_undone : NoAttr K (He.ga K "History") "undone" := T.noat 130 rfl
theorem Tx.k_History : Mk K (He.ga K "History") (He.ma K (He.ga K "History") "__init__") := T.mkr 131 rfl
theorem Tx.c_Editor : Cls K (He.ga K "Editor") := T.cls 132 rfl
theorem Tx.n_Editor_picture : NoAttr K (He.ga K "Editor") "picture" := T.noat 133 rfl
theorem Tx.n_Editor_past : NoAttr K (He.ga K "Editor") "past" := T.noat 134 rfl
theorem Tx.n_Editor_aside : NoAttr K (He.ga K "Editor") "aside" := T.noat 135 rfl
theorem Tx.n_Editor_recorded : NoAttr K (He.ga K "Editor") "recorded" := T.noat 136 rfl
theorem Tx.n_Editor_is_recording : NoAttr K (He.ga K "Editor") "is_recording" := T.noat 137 rfl
theorem Tx.k_Editor : Mk K (He.ga K "Editor") (He.ma K (He.ga K "Editor") "__init__") := T.mkr 138 rfl
theorem Tx.m_Layer_with_dots : Meth K (He.ga K "Layer") "with_dots" (He.ma K (He.ga K "Layer") "with_dots") := T.meth 139 rfl
theorem Tx.m_Picture_size : Meth K (He.ga K "Picture") "size" (He.ma K (He.ga K "Picture") "size") := T.meth 140 rfl
theorem Tx.m_Picture_has : Meth K (He.ga K "Picture") "has" (He.ma K (He.ga K "Picture") "has") := T.meth 141 rfl
theorem Tx.m_Picture_place : Meth K (He.ga K "Picture") "place" (He.ma K (He.ga K "Picture") "place") := T.meth 142 rfl
theorem Tx.m_Picture_across : Meth K (He.ga K "Picture") "across" (He.ma K (He.ga K "Picture") "across") := T.meth 143 rfl
theorem Tx.m_Picture_down : Meth K (He.ga K "Picture") "down" (He.ma K (He.ga K "Picture") "down") := T.meth 144 rfl
theorem Tx.m_Picture_numbers : Meth K (He.ga K "Picture") "numbers" (He.ma K (He.ga K "Picture") "numbers") := T.meth 145 rfl
theorem Tx.m_Picture_worked_on : Meth K (He.ga K "Picture") "worked_on" (He.ma K (He.ga K "Picture") "worked_on") := T.meth 146 rfl
theorem Tx.m_Picture_is_chosen_some : Meth K (He.ga K "Picture") "is_chosen_some" (He.ma K (He.ga K "Picture") "is_chosen_some") := T.meth 147 rfl
theorem Tx.m_Picture_may_change : Meth K (He.ga K "Picture") "may_change" (He.ma K (He.ga K "Picture") "may_change") := T.meth 148 rfl
theorem Tx.m_Picture_with_layers : Meth K (He.ga K "Picture") "with_layers" (He.ma K (He.ga K "Picture") "with_layers") := T.meth 149 rfl
theorem Tx.m_Picture_with_chosen : Meth K (He.ga K "Picture") "with_chosen" (He.ma K (He.ga K "Picture") "with_chosen") := T.meth 150 rfl
theorem Tx.m_Picture_with_dots : Meth K (He.ga K "Picture") "with_dots" (He.ma K (He.ga K "Picture") "with_dots") := T.meth 151 rfl
theorem Tx.m_Picture_with_new_layer : Meth K (He.ga K "Picture") "with_new_layer" (He.ma K (He.ga K "Picture") "with_new_layer") := T.meth 152 rfl
theorem Tx.m_Picture_rearranged : Meth K (He.ga K "Picture") "rearranged" (He.ma K (He.ga K "Picture") "rearranged") := T.meth 153 rfl
theorem Tx.m_History_total : Meth K (He.ga K "History") "total" (He.ma K (He.ga K "History") "total") := T.meth 154 rfl
theorem Tx.m_History_keep : Meth K (He.ga K "History") "keep" (He.ma K (He.ga K "History") "keep") := T.meth 155 rfl
theorem Tx.m_History_do : Meth K (He.ga K "History") "do" (He.ma K (He.ga K "History") "do") := T.meth 156 rfl
theorem Tx.m_History_undo : Meth K (He.ga K "History") "undo" (He.ma K (He.ga K "History") "undo") := T.meth 157 rfl
theorem Tx.m_History_redo : Meth K (He.ga K "History") "redo" (He.ma K (He.ga K "History") "redo") := T.meth 158 rfl
theorem Tx.m_Editor_put : Meth K (He.ga K "Editor") "put" (He.ma K (He.ga K "Editor") "put") := T.meth 159 rfl
theorem Tx.m_Editor_begin : Meth K (He.ga K "Editor") "begin" (He.ma K (He.ga K "Editor") "begin") := T.meth 160 rfl
theorem Tx.m_Editor_do : Meth K (He.ga K "Editor") "do" (He.ma K (He.ga K "Editor") "do") := T.meth 161 rfl
theorem Tx.m_Editor_act : Meth K (He.ga K "Editor") "act" (He.ma K (He.ga K "Editor") "act") := T.meth 162 rfl
theorem Tx.m_Editor_told_history : Meth K (He.ga K "Editor") "told_history" (He.ma K (He.ga K "Editor") "told_history") := T.meth 163 rfl
theorem Tx.m_Editor_undo : Meth K (He.ga K "Editor") "undo" (He.ma K (He.ga K "Editor") "undo") := T.meth 164 rfl
theorem Tx.m_Editor_redo : Meth K (He.ga K "Editor") "redo" (He.ma K (He.ga K "Editor") "redo") := T.meth 165 rfl
theorem Tx.m_Editor_row_places : Meth K (He.ga K "Editor") "row_places" (He.ma K (He.ga K "Editor") "row_places") := T.meth 166 rfl
theorem Tx.m_Editor_row : Meth K (He.ga K "Editor") "row" (He.ma K (He.ga K "Editor") "row") := T.meth 167 rfl
theorem Tx.m_Editor_own_row : Meth K (He.ga K "Editor") "own_row" (He.ma K (He.ga K "Editor") "own_row") := T.meth 168 rfl
theorem Tx.m_Editor_chosen_row : Meth K (He.ga K "Editor") "chosen_row" (He.ma K (He.ga K "Editor") "chosen_row") := T.meth 169 rfl
theorem Tx.m_Editor_listed : Meth K (He.ga K "Editor") "listed" (He.ma K (He.ga K "Editor") "listed") := T.meth 170 rfl
theorem Tx.m_Editor_history : Meth K (He.ga K "Editor") "history" (He.ma K (He.ga K "Editor") "history") := T.meth 171 rfl
theorem Tx.m_Editor_copy : Meth K (He.ga K "Editor") "copy" (He.ma K (He.ga K "Editor") "copy") := T.meth 172 rfl
theorem Tx.m_Editor_record : Meth K (He.ga K "Editor") "record" (He.ma K (He.ga K "Editor") "record") := T.meth 173 rfl
theorem Tx.m_Editor_stop : Meth K (He.ga K "Editor") "stop" (He.ma K (He.ga K "Editor") "stop") := T.meth 174 rfl
theorem Tx.m_Editor_play : Meth K (He.ga K "Editor") "play" (He.ma K (He.ga K "Editor") "play") := T.meth 175 rfl
theorem Tx.m_Editor_of_deeds : Meth K (He.ga K "Editor") "of_deeds" (He.ma K (He.ga K "Editor") "of_deeds") := T.meth 176 rfl
theorem Tx.m_Editor_of_looks : Meth K (He.ga K "Editor") "of_looks" (He.ma K (He.ga K "Editor") "of_looks") := T.meth 177 rfl
theorem Tx.m_Editor_of_records : Meth K (He.ga K "Editor") "of_records" (He.ma K (He.ga K "Editor") "of_records") := T.meth 178 rfl
theorem Tx.m_Editor_answer : Meth K (He.ga K "Editor") "answer" (He.ma K (He.ga K "Editor") "answer") := T.meth 179 rfl
theorem Tx.n_Refused_code : NoAttr K (He.ga K "Refused") "code" := T.noat 180 rfl
theorem Tx.t_BESIDE : ∃ as : List Addr, ∀ H : Hp, SqT K H (He.ga K "BESIDE") (as.map V.ref) ∧ Paired (fun a d => SqT K H a (List.map V.int d)) as [[1, 0], [0, 1], [-1, 0], [0, -1]] := ints2_ok (T.exi 0 rfl)
theorem Tx.t_ASLANT : ∃ as : List Addr, ∀ H : Hp, SqT K H (He.ga K "ASLANT") (as.map V.ref) ∧ Paired (fun a d => SqT K H a (List.map V.int d)) as [[1, 1], [-1, 1], [-1, -1], [1, -1]] := ints2_ok (T.exi 1 rfl)
theorem Tx.t_EMPTY (H : Hp) : SqT K H (He.ga K "EMPTY") [.int (0), .int (0)] := ints1_ok (T.exi 2 rfl) H
theorem Tx.t_NOUGHT (H : Hp) : SqT K H (He.ga K "NOUGHT") [.int (0), .int (1)] := ints1_ok (T.exi 3 rfl) H
theorem Tx.t_ONE (H : Hp) : SqT K H (He.ga K "ONE") [.int (1), .int (1)] := ints1_ok (T.exi 4 rfl) H
theorem Tx.t_SIZES_deeds (H : Hp) : SqT K H (He.ga K "SIZES_deeds") [.int (0), .int (1), .int (1), .int (4), .int (1), .int (5), .int (6), .int (1), .int (1), .int (1), .int (2), .int (1), .int (3), .int (2), .int (0), .int (0), .int (0), .int (0), .int (1)] := ints1_ok (T.exi 5 rfl) H
theorem Tx.t_SIZES_editor (H : Hp) : SqT K H (He.ga K "SIZES_editor") [.int (0), .int (3), .int (1), .int (0), .int (0), .int (1), .int (1), .int (1), .int (0), .int (0), .int (0), .int (0), .int (0), .int (0)] := ints1_ok (T.exi 6 rfl) H
theorem Tx.t_WITH_ROW (H : Hp) : SqT K H (He.ga K "WITH_ROW") [.int (1), .int (2)] := ints1_ok (T.exi 7 rfl) H
theorem Tx.oex : OexC K (He.ga K "Refused") := ⟨excB_ok (T.exi 8 rfl), of_decide_eq_true (T.exi 10 rfl), of_decide_eq_true (T.exi 11 rfl), of_decide_eq_true (T.exi 12 rfl), T.fact 182 rfl⟩
theorem Tx.xf : XfC K (He.ga K "Refused") := xfB_ok (T.exi 9 rfl)
theorem Tx.rin : PySem.W.findIn K (.ref (He.ga K "Refused")) "__init__" = some (some (.ref (He.ma K (He.ga K "Refused") "__init__"))) := of_decide_eq_true (T.exi 13 rfl)
theorem Tx.rty : PySem.W.typeIn K (.ref (He.ma K (He.ga K "Refused") "__init__")) = some (.type "function") := of_decide_eq_true (T.exi 14 rfl)
theorem Tx.rno : PySem.W.findIn K (.ref (He.ga K "Refused")) "code" = some none := He.eqO_ok (T.fact 180 rfl)
theorem Tx.rem : PySem.W.exmOne K (.ref (He.ga K "Refused")) (.ref (He.ga K "Refused")) = some true := of_decide_eq_true (T.fact 181 rfl)
end
end Lp
set_option Elab.async false
set_option linter.all false
set_option maxRecDepth 100000
set_option maxHeartbeats 4000000
/-! The Hook: what the top has written, reached layer by layer; forced once. -/
namespace LpK
open PySem PySem.Spec PyProof.Rows L2 He
def lay (g : Addr → Option Obj) (l : List Addr) : List Addr := l.flatMap fun a => match g a with
  | some o => refsO o
  | none => []
def frN {α : Type} (n : Nat) (k : Nat → α) : α := match n with
  | 0 => k 0
  | m + 1 => k (m + 1)
theorem frN_eq {α : Type} (n : Nat) (k : Nat → α) : frN n k = k n := by
  cases n <;> rfl
def frA {α : Type} : List Nat → (List Nat → α) → α
  | [], k => k []
  | x :: r, k => frN x fun y => frA r fun s => k (y :: s)
theorem frA_eq {α : Type} : ∀ (l : List Nat) (k : List Nat → α), frA l k = k l
  | [], _ => rfl
  | x :: r, k => by
    show (frN x fun y => frA r fun s => k (y :: s)) = k (x :: r)
    rw [frN_eq, frA_eq]
def frK {α : Type} : PySem.W.Frag → (PySem.W.Frag → α) → α
  | [], k => k []
  | (a, o) :: r, k => frN a fun b => frK r fun s => k ((b, o) :: s)
theorem frK_eq {α : Type} : ∀ (l : PySem.W.Frag) (k : PySem.W.Frag → α), frK l k = k l
  | [], _ => rfl
  | (a, o) :: r, k => by
    show (frN a fun b => frK r fun s => k ((b, o) :: s)) = k ((a, o) :: r)
    rw [frN_eq, frK_eq]
/-- what is reached: the module's names, what these name, and so on, five layers -/
def reach {α : Type} (g : Addr → Option Obj) (k : List Addr → α) : α :=
  frA (lay g [mainGlobals]) fun l1 => frA (lay g l1) fun l2 => frA (lay g l2) fun l3 => frA (lay g l3) fun l4 => k (mainGlobals :: (l1 ++ (l2 ++ (l3 ++ l4))))
theorem reach_eq {α : Type} (g : Addr → Option Obj) (k : List Addr → α) : reach g k = k (reach g id) := by
  unfold reach
  simp only [frA_eq, id]
abbrev rk : Defn := ("ranked", none)
def tabOk (g : Addr → Option Obj) (K : PySem.W.Frag) : Bool := PySem.W.codeHdIn K (cT K rk).1 (cT K rk).2 && (match g (cT K rk).2 with
  | some o => emptyTab o
  | none => false)
abbrev Al : Type := Bool × List FnW
def look (g : Addr → Option Obj) (K : PySem.W.Frag) : Al := ((Lp.fa.all fun f => f.ok K) && ((Lp.fn.all fun d => d.ok K) && (Lp.exB K && tabOk g K)), Lp.fn.map fun d => fnW K d.at_)
def obs (g : Addr → Option Obj) : Al := reach g fun as => frK (frT g as) (look g)
def val : Al := (true, Lp.fn.map DefD.val)
structure Says (h : Heap) (K : PySem.W.Frag) : Prop where
  d : SaysD Lp.fa Lp.fn K
  ex : Lp.exB K = true
  hd : PySem.W.codeHdIn K (cT K rk).1 (cT K rk).2 = true
  out : K.lookup (cT K rk).2 = none
  empty : h.get? (cT K rk).2 = some { cls := .none, data := .fields #[] }
theorem says_of {h : Heap} (e : obs h.get? = val) : ∃ K : PySem.W.Frag, K.In h ∧ Says h K := by
  unfold obs at e
  rw [reach_eq, frK_eq] at e
  generalize reach h.get? id = as at e
  have e1 : ((Lp.fa.all fun f => f.ok (frT h.get? as)) && ((Lp.fn.all fun d => d.ok (frT h.get? as)) && (Lp.exB (frT h.get? as) && tabOk h.get? (frT h.get? as)))) = true := congrArg (fun z : Al => z.1) e
  have e2 : (Lp.fn.map fun d => fnW (frT h.get? as) d.at_) = Lp.fn.map DefD.val := congrArg (fun z : Al => z.2) e
  obtain ⟨h1, e1⟩ := ba e1
  obtain ⟨h2, e1⟩ := ba e1
  obtain ⟨h3, e1⟩ := ba e1
  obtain ⟨h4, h5⟩ := ba e1
  refine ⟨_, frT_in, ⟨?_, h3, h4, ?_, ?_⟩⟩
  · show ((Lp.fa.all fun f => f.ok (frT h.get? as)) && Lp.fn.all fun d => d.ok (frT h.get? as), Lp.fn.map fun d => fnW (frT h.get? as) d.at_) = (true, Lp.fn.map DefD.val)
    rw [h1, h2, e2] <;> rfl
  all_goals
    cases q : h.get? (cT (frT h.get? as) rk).2 with
    | none =>
      rw [q] at h5
      cases h5
    | some o =>
      rw [q] at h5
      first
        | exact frT_none q h5
        | rw [emptyTab_eq h5]
def hook : PySem.W.Hook where
  α := Al
  obs := fun s => obs s.heap.get?
  val := fun _ => val
  says := fun _ h => ∃ K : PySem.W.Frag, K.In h ∧ Says h K
  of := fun _ _ e => says_of e
  keeps := fun _ _ _ ⟨K, hK, c⟩ k => ⟨K, PySem.W.Frag.In.keeps hK k, ⟨c.d, c.ex, c.hd, c.out, k _ _ c.empty⟩⟩
theorem obs_eq {g : Addr → Option Obj} {s : Shared} (h : ∀ a, g a = s.heap.get? a) : obs g = hook.obs s := by
  have e : g = s.heap.get? := funext h
  rw [e] <;> rfl
end LpK
set_option Elab.async false
set_option linter.all false
set_option maxRecDepth 100000
set_option maxHeartbeats 0
namespace LpHead
open PySem PySem.W PySem.Calls PyProof.Rows
abbrev P : Program := PySem.Challenge.rw_layerpaint_s01_answers.prog
abbrev qv : Program := view P [104]
def n1 : List PySem.Str := List.map PySem.Str.ofString ["ALONE", "THESE_TOO", "WITHOUT", "IN_BOTH", "BY_FIRST", "BESIDE", "ASLANT", "is_joined", "joined", "rectangle", "beside", "flood", "squared", "near", "grown", "shrunk", "bounds", "EMPTY", "GREATEST", "Layer", "Picture", "new_picture", "many_unlike", "cost", "NOUGHT", "ONE", "common", "lowest", "plus", "apart", "times", "by", "is_more", "either", "both_ways", "put_upon", "layer_upon", "rounded", "dot_of"]
def n2 : List PySem.Str := List.map PySem.Str.ofString ["MIDDLE", "UPRIGHT", "OVER", "changed", "filled", "nearest", "window", "mean", "by_windows", "smoothed", "ranked", "moved_to", "moved", "taken_aside", "pasted", "put_together", "cropped", "turned", "NOT_SO", "NO_LAYER", "NO_DEED", "TOO_MANY", "CAN_NOT", "SIZES_deeds", "CUT", "MOST_LAYERS", "LAST_WAY", "LAST_HOW", "MOST_FAR", "MOST_REACH", "MOST_MOVE", "LAST_TURN", "Refused"]
def n3 : List PySem.Str := List.map PySem.Str.ofString ["want", "place_of", "want_room", "layer_gone", "layer_up", "layer_so", "layer_worked_on", "flooded", "of_layers", "of_choice", "of_dots", "of_pictures", "want_deed", "made", "aside_behind", "History", "NOT_AS_MANY", "MOST_SIDE", "MOST_BUDGET", "MOST_RECORDED", "BUDGET_AT_FIRST", "Editor", "SIZES_editor", "WITH_ROW"]
def names : List PySem.Str := n1 ++ n2 ++ n3
noncomputable abbrev runs (w : World) (os : OsState) : Option PySem.W.SharedT := HandSHeadRun.endF (HandSHeadRun.stepQ (HandSHeadRun.denQ HandSHeadRun.tabQ) P w) 9000 P w os
end LpHead
set_option Elab.async false
set_option linter.all false
set_option maxRecDepth 100000
set_option maxHeartbeats 0
/-! What the kernel is asked of the row besides the top's run. -/
namespace LpHead
open PySem PySem.W PySem.Calls PyProof.Rows
theorem said : PySem.Challenge.rw_layerpaint_s01_answers.wellSaid = true := by decide +kernel
theorem okc : (chainsOk qv && opensWell P) = true := by decide +kernel
theorem bare : P.bare := ⟨rfl, rfl, rfl, rfl, rfl, by decide +kernel⟩
theorem one : ∃ args, PySem.Challenge.rw_layerpaint_s01_answers.pre args = true ∧ WData.layableAll args = true := ⟨[.list [.int 8]], by decide +kernel, by decide +kernel⟩
theorem def1 : defOf qv PySem.Challenge.rw_layerpaint_s01_answers.name = some (HandSHeadRun.topDef P 104, []) := by kernel_rfl
theorem def2 : P.theDef PySem.Challenge.rw_layerpaint_s01_answers.name = some ((HandSHeadRun.topDef P 104).params, (HandSHeadRun.topDef P 104).body, (HandSHeadRun.topDef P 104).scope) := by kernel_rfl
theorem def3 : kwWritten? (HandSHeadRun.topDef P 104).params.kwonlyargs (HandSHeadRun.topDef P 104).params.kw_defaults = some [] := by kernel_rfl
theorem opens : opening P = plainProg P.main.scope.names := by kernel_rfl
end LpHead
set_option Elab.async false
set_option linter.all false
set_option maxRecDepth 100000
set_option maxHeartbeats 0
namespace LpHead
open PySem PySem.W PySem.Calls PyProof.Rows
theorem runK (w : World) (os : OsState) : (runs w os).map (fun s => LpK.obs (HandSHeadRun.getT s)) = some LpK.val := by
  kernel_rfl
end LpHead
set_option Elab.async false
set_option linter.all false
set_option maxRecDepth 100000
set_option maxHeartbeats 0
namespace LpHead
open PySem PySem.W PySem.Calls PyProof.Rows
theorem runB (w : World) (os : OsState) : (runs w os).map (fun s => HandSHeadRun.looksF P (boot_heap w.params) s.abs) = some true := by
  kernel_rfl
end LpHead
set_option Elab.async false
set_option linter.all false
set_option maxRecDepth 100000
set_option maxHeartbeats 0
namespace LpHead
open PySem PySem.W PySem.Calls PyProof.Rows
theorem runC (w : World) (os : OsState) : (runs w os).map (fun s => HandSHeadRun.seenQ qv names (importedModules P.main.body) (fun s => xlAt qv [] s && recOk [] s) s.abs) = some (openGood qv names) := by
  kernel_rfl
end LpHead
set_option Elab.async false
set_option linter.all false
set_option maxRecDepth 100000
set_option maxHeartbeats 4000000
/-! Rules by what a def keeps (Ok); readings that evaluate to something of which R holds (EvP). -/
namespace Lp
open PySem PySem.Spec PyProof.Rows L2 Evl
/-! ### a def keeps a promise -/
structure Ok (P : Program) (w : World) (K : PySem.W.Frag) (mg : Str → Option Value) (base : Heap) (CX : CXT) (k : Nat) (f : Addr) (ps : List Str) (sp : Sp) : Prop where
  ex : ∃ fd, FnOk P w K mg base CX k f fd ps sp ∧ Binds K fd ps []
  kp : PySem.W.keepIn K (.ref f) = true
section
variable {P : Program} {w : World} {K : PySem.W.Frag} {mg : Str → Option Value} {base : Heap} {x qual : Str} {params : Arguments} {body : List Stmt} {scope : Scope} {f : Addr} {N ps : List Str} {k : Nat} {sp : Sp}
theorem Ok.mono {CX : CXT} {j : Nat} (o : Ok P w K mg base CX j f ps sp) (h : j ≤ k) : Ok P w K mg base CX k f ps sp := by
  obtain ⟨⟨fd, F, b⟩, kp⟩ := o
  exact ⟨⟨fd, F.mono h, b⟩, kp⟩
theorem Ok.imp {CX : CXT} {sp' : Sp} (o : Ok P w K mg base CX k f ps sp) (h : ∀ vs H Q E, sp' vs H Q E → sp vs H Q E) : Ok P w K mg base CX k f ps sp' := by
  obtain ⟨⟨fd, F, b⟩, kp⟩ := o
  exact ⟨⟨fd, F.imp h, b⟩, kp⟩
abbrev Bnd (x qual : Str) (params : Arguments) (body : List Stmt) (scope : Scope) (ps : List Str) : Prop :=
  ∀ (kV doc pm : Value) (an : Option Addr) (cdv ct : Value) (us : List Value), us.length = ps.length → bindArgs (PySem.W.fnOf x qual params body scope .none kV doc pm an cdv ct) ⟨us, []⟩ = pure (ps.zip us)
/-- a def that lets no error out -/
theorem mk0 (F : ∃ fd, FunD K x qual params body scope [] [] f fd) (S : FnScope N ps scope) (hb : Bnd x qual params body scope ps) (len : ∀ vs H Q E, sp vs H Q E → vs.length = ps.length)
    (h : ∀ (cdv : Value) (A : Around) (outer : List Env) (s : Shared) (H : Hp) (vs : List V) (Q : VK) (E : XK), Room k (A.deeper (envOfC qual scope s.heap.objs.size f cdv)) → sp vs H Q E →
      ∃ t, PSs (cxOf CX0 P w K mg base N qual scope f cdv A outer s H E).nox body t ∧ t { nx := fun _ H' => Q .non H', rt := Q } (start N vs) H) : Ok P w K mg base CX0 (k + 1) f ps sp := by
  obtain ⟨fd, F⟩ := F
  refine ⟨⟨fd, F.ok S len fun cdv A outer s H vs Q E hr hs => ?_, F.bindsN hb⟩, F.kp⟩
  obtain ⟨t, h1, h2⟩ := h cdv A outer s H vs Q E hr hs
  exact ⟨t, h1.nox, h2⟩
/-- a def that may let one out -/
theorem mkX (F : ∃ fd, FunD K x qual params body scope [] [] f fd) (S : FnScope N ps scope) (hb : Bnd x qual params body scope ps) (len : ∀ vs H Q E, sp vs H Q E → vs.length = ps.length)
    (h : ∀ (cdv : Value) (A : Around) (outer : List Env) (s : Shared) (H : Hp) (vs : List V) (Q : VK) (E : XK), Room k (A.deeper (envOfC qual scope s.heap.objs.size f cdv)) → sp vs H Q E →
      ∃ t, PSs (cxOf (L2.CX P w) P w K mg base N qual scope f cdv A outer s H E) body t ∧ t { nx := fun _ H' => Q .non H', rt := Q } (start N vs) H) : Ok P w K mg base (L2.CX P w) (k + 1) f ps sp := by
  obtain ⟨fd, F⟩ := F
  exact ⟨⟨fd, F.ok S len h, F.bindsN hb⟩, F.kp⟩
end
/-! ### calls -/
section
variable {X : Cx} {CX : CXT} {j k : Nat} {f C : Addr} {ps : List Str} {sp : Sp} {E : XK} {x m : Str} {p pos apos : Pos} {e o : Expr} {es : List Expr} {ta : TE} {t : TA}
theorem oc (O : Ok X.prog X.w X.K X.mg X.base CX k f ps sp) (hr : Room j X.A) (hk : k ≤ j) (hm : X.mg x = some (.ref f)) (hx : Passes CX X E) (ha : PA X (e :: es) t) (hg : Gl X x := by rfl)
    (hdb : (x == ("__debug__" : Str)) = false := by decide) (he : starEach (e :: es) X.env = (false, eval e X.env) :: starEach es X.env := by rfl) (hpl : (backTo pos (starEach es X.env)).any (·.1) = false := by rfl) : PE X (.Call (.Name x p) (e :: es) [] pos) (tCall sp [] E t) := by
  obtain ⟨⟨fd, F, b⟩, kp⟩ := O
  exact pe_call F (hr.mono hk) hg hm kp b .nil hx ha hdb he hpl
theorem oc0 (O : Ok X.prog X.w X.K X.mg X.base CX k f ps sp) (hr : Room j X.A) (hk : k ≤ j) (hm : X.mg x = some (.ref f)) (hx : Passes CX X E) (hg : Gl X x := by rfl)
    (hdb : (x == ("__debug__" : Str)) = false := by decide) : PE X (.Call (.Name x p) [] [] pos) (tCall sp [] E tNil) := by
  obtain ⟨⟨fd, F, b⟩, kp⟩ := O
  exact pe_call0 F (hr.mono hk) hg hm kp b .nil hx hdb
end
section
variable {X : Cx} {CX : CXT} {j k : Nat} {f C : Addr} {ps : List Str} {sp : Sp} {E : XK} {x m : Str} {p pos apos : Pos} {e o : Expr} {es : List Expr} {ta : TE} {t : TA} {pl : Sem Bool}
theorem om (O : Ok X.prog X.w X.K X.mg X.base CX k f ps sp) (c : Cls X.K C) (hm : Meth X.K C m f) (hr : Room j X.A) (hk : k ≤ j) (hx : Passes CX X E) (ho : PE X o ta) (ha : PA X (e :: es) t)
    (hst : starEach (e :: es) X.env = (false, eval e X.env) :: starEach es X.env := by rfl) (hpl : (backTo pos (starEach es X.env)).any (·.1) = false := by rfl)
    (ht : eval (.Call (.Attribute o m apos) (e :: es) [] pos) X.env = (do
      let ov ← eval o X.env
      standAt apos.atName
      let (g, first) ← holding [ov] (getMethod ov m pl)
      callWith pos g first (backTo pos (starEach (e :: es) X.env)) (backToKw pos (keywordEach [] X.env))) := by rfl) :
    PE X (.Call (.Attribute o m apos) (e :: es) [] pos) (tMeth C m sp [] E ta t) := by
  obtain ⟨⟨fd, F, b⟩, kp⟩ := O
  exact pe_meth ho c hm F (hr.mono hk) b .nil hx ha hst hpl ht
theorem om0 (O : Ok X.prog X.w X.K X.mg X.base CX k f ps sp) (c : Cls X.K C) (hm : Meth X.K C m f) (hr : Room j X.A) (hk : k ≤ j) (hx : Passes CX X E) (ho : PE X o ta)
    (ht : eval (.Call (.Attribute o m apos) [] [] pos) X.env = (do
      let ov ← eval o X.env
      standAt apos.atName
      let (g, first) ← holding [ov] (getMethod ov m pl)
      callWith pos g first (backTo pos (starEach [] X.env)) (backToKw pos (keywordEach [] X.env))) := by rfl) :
    PE X (.Call (.Attribute o m apos) [] [] pos) (tMeth C m sp [] E ta tNil) := by
  obtain ⟨⟨fd, F, b⟩, kp⟩ := O
  exact pe_meth0 ho c hm F (hr.mono hk) b .nil hx ht
theorem ok_new (O : Ok X.prog X.w X.K X.mg X.base CX k f ps sp) (M : Mk X.K C f) (hr : Room j X.A) (hk : k + 1 ≤ j) (hm : X.mg x = some (.ref C)) (hx : Passes CX X E) (ha : PA X (e :: es) t) (hg : Gl X x := by rfl)
    (hdb : (x == ("__debug__" : Str)) = false := by decide) (he : starEach (e :: es) X.env = (false, eval e X.env) :: starEach es X.env := by rfl) (hpl : (backTo pos (starEach es X.env)).any (·.1) = false := by rfl) :
    PE X (.Call (.Name x p) (e :: es) [] pos) (tMake C sp [] E t) := by
  obtain ⟨⟨fd, F, b⟩, kp⟩ := O
  exact pe_make M F (hr.mono hk) hg hm b .nil hx ha hdb he hpl
theorem ok_new0 (O : Ok X.prog X.w X.K X.mg X.base CX k f ps sp) (M : Mk X.K C f) (hr : Room j X.A) (hk : k + 1 ≤ j) (hm : X.mg x = some (.ref C)) (hx : Passes CX X E) (hg : Gl X x := by rfl)
    (hdb : (x == ("__debug__" : Str)) = false := by decide) : PE X (.Call (.Name x p) [] [] pos) (tMake C sp [] E tNil) := by
  obtain ⟨⟨fd, F, b⟩, kp⟩ := O
  exact pe_make0 M F (hr.mono hk) hg hm b .nil hx hdb
/-- a module's number -/
theorem pgi {v : V} (h : ∃ u, X.mg x = some u ∧ RelV v u) (hg : Gl X x := by rfl) (hd : (x == ("__debug__" : Str)) = false := by decide) : PE X (.Name x pos) (tC v) := by
  obtain ⟨u, hm, r⟩ := h
  exact pe_glob hg hm r hd
/-- a module's object -/
theorem pgr {a : Addr} (h : X.mg x = some (.ref a)) (hg : Gl X x := by rfl) (hd : (x == ("__debug__" : Str)) = false := by decide) : PE X (.Name x pos) (tC (.ref a)) := pe_glob hg h rfl hd
/-- what a def that may raise lets through -/
theorem passE {CX : CXT} {P : Program} {w : World} {K : PySem.W.Frag} {mg : Str → Option Value} {base : Heap} {N : List Str} {qual : Str} {scope : Scope} {f : Addr} {cd : Value} {A : Around} {outer : List Env} {s : Shared} {H : Hp} {E : XK} :
    Passes (L2.CX P w) (cxOf (L2.CX P w) P w K mg base N qual scope f cd A outer s H E) E :=
  passes_call (X := cxOf (L2.CX P w) P w K mg base N qual scope f cd A outer s H E) (W := fun cls d _ H => E cls d H) (takes_of rfl rfl rfl rfl) fun _ _ _ _ h => h
end
/-! ### what a reading evaluates to: something of which R holds -/
def EvP (te : TE) (σ : L2.St) (H : Hp) (R : V → Hp → Prop) : Prop := ∀ H1, Ex H H1 → ∀ Q : VK, (∀ v H2, Ex H1 H2 → R v H2 → Q v H2) → te σ H1 Q
def EvAP (ta : TA) (σ : L2.St) (H : Hp) (R : List V → Hp → Prop) : Prop := ∀ H1, Ex H H1 → ∀ Q : List V → Hp → Prop, (∀ v H2, Ex H1 H2 → R v H2 → Q v H2) → ta σ H1 Q
def Mono (R : V → Hp → Prop) : Prop := ∀ v H H', Ex H H' → R v H → R v H'
/-- at this heap a call by sp gives something of which R holds -/
def SpR (sp : Sp) (vs : List V) (H : Hp) (R : V → Hp → Prop) : Prop := ∀ (Q : VK) (E : XK), (∀ v H2, Ex H H2 → R v H2 → Q v H2) → sp vs H Q E
section
variable {K : PySem.W.Frag} {σ : L2.St} {H H' : Hp} {ta tb te tx : TE} {t u : TT} {x y z v : V} {r : R2} {R R' S : V → Hp → Prop} {D : Ends} {tu tw tz : TS}
theorem EvP.mono (e : Ex H H') (h : EvP te σ H R) : EvP te σ H' R := fun H1 a Q q => h H1 (e.trans a) Q q
theorem EvP.imp (h : EvP te σ H R) (i : ∀ v H1, Ex H H1 → R v H1 → R' v H1) : EvP te σ H R' := fun H1 a Q q => h H1 a Q fun v H2 e r => q v H2 e (i v H2 (a.trans e) r)
theorem EvP.of (h : Ev te σ H v) : EvP te σ H (fun x _ => x = v) := fun H1 a Q q => h H1 a Q fun H2 e => q v H2 e rfl
theorem EvP.to (h : EvP te σ H (fun x _ => x = v)) : Ev te σ H v := fun H1 a Q q => h H1 a Q fun w H2 e r => by
  subst r
  exact q H2 e
theorem EvP.ofL {xs : List V} (h : EvL te σ H xs) : EvP te σ H (fun x H' => ∃ p, x = .ref p ∧ H' p = some (.lst xs)) := fun H1 a Q q => h H1 a Q fun p H2 _ e r => q _ H2 e ⟨p, rfl, r⟩
theorem EvP.ofU {xs : List V} (h : EvU te σ H xs) : EvP te σ H (fun x H' => ∃ p, x = .ref p ∧ H' p = some (.tup xs)) := fun H1 a Q q => h H1 a Q fun p H2 _ e r => q _ H2 e ⟨p, rfl, r⟩
theorem EvAP.of {ta : TA} {vs : List V} (h : EvA ta σ H vs) : EvAP ta σ H (fun xs _ => xs = vs) := fun H1 a Q q => h H1 a Q fun H2 e => q vs H2 e rfl
theorem EvAP.mono {ta : TA} {R : List V → Hp → Prop} (e : Ex H H') (h : EvAP ta σ H R) : EvAP ta σ H' R := fun H1 a Q q => h H1 (e.trans a) Q q
theorem evap_nil : EvAP tNil σ H (fun vs _ => vs = []) := .of ea_nil
theorem evap_cons {tr : TA} {S : List V → Hp → Prop} (h : EvP te σ H R) (m : Mono R) (ht : EvAP tr σ H S) : EvAP (tCons te tr) σ H (fun vs H1 => ∃ x xs, vs = x :: xs ∧ R x H1 ∧ S xs H1) := fun H1 e Q q =>
  h H1 e _ fun x H2 e2 r => ht H2 (e.trans e2) _ fun xs H3 e3 s => q _ H3 (e2.trans e3) ⟨x, xs, rfl, m _ _ _ e3 r, s⟩
theorem evp_bind {k : V → Hp → VK → Prop} (h : EvP te σ H R) (hk : ∀ v H1, Ex H H1 → R v H1 → ∀ Q : VK, (∀ w H2, Ex H1 H2 → S w H2 → Q w H2) → k v H1 Q) : EvP (fun σ H Q => te σ H fun v H1 => k v H1 Q) σ H S := fun H1 e Q q =>
  h H1 e _ fun v H2 e2 r => hk v H2 (e.trans e2) r Q fun w H3 e3 s => q w H3 (e2.trans e3) s
theorem evp_call {sp : Sp} {E : XK} {ta : TA} {S : List V → Hp → Prop} (h : EvAP ta σ H S) (hs : ∀ vs H1, Ex H H1 → S vs H1 → SpR sp vs H1 R) : EvP (tCall sp [] E ta) σ H R := fun H1 e Q q =>
  h H1 e _ fun vs H2 e2 s => by
    show sp (vs ++ []) H2 Q E
    rw [List.append_nil]
    exact hs vs H2 (e.trans e2) s Q E fun v H3 e3 r => q v H3 (e2.trans e3) r
theorem evp_callA {sp : Sp} {E : XK} {ta : TA} {vs : List V} (h : EvA ta σ H vs) (hs : ∀ H1, Ex H H1 → SpR sp vs H1 R) : EvP (tCall sp [] E ta) σ H R := evp_call (.of h) fun ws H1 e q => by
  subst q
  exact hs H1 e
theorem evp_meth {sp : Sp} {E : XK} {ta : TA} {a C dx : Addr} {fs : List (Str × V)} {m : Str} {S : List V → Hp → Prop} (ho : Ev te σ H (.ref a)) (hi : H a = some (.ins C dx fs)) (hm : fs.lookup m = none) (h : EvAP ta σ H S)
    (hs : ∀ vs H1, Ex H H1 → S vs H1 → SpR sp (.ref a :: vs) H1 R) : EvP (tMeth C m sp [] E te ta) σ H R := fun H1 e Q q =>
  ho H1 e _ fun H2 e2 => ⟨a, dx, fs, rfl, (e.trans e2) _ _ hi, hm, h H2 (e.trans e2) _ fun vs H3 e3 s => by
    show sp (V.ref a :: (vs ++ [])) H3 Q E
    rw [List.append_nil]
    exact hs vs H3 ((e.trans e2).trans e3) s Q E fun v H4 e4 r => q v H4 ((e2.trans e3).trans e4) r⟩
theorem evp_methA {sp : Sp} {E : XK} {ta : TA} {a C dx : Addr} {fs : List (Str × V)} {m : Str} {vs : List V} (ho : Ev te σ H (.ref a)) (hi : H a = some (.ins C dx fs)) (hm : fs.lookup m = none) (h : EvA ta σ H vs)
    (hs : ∀ H1, Ex H H1 → SpR sp (.ref a :: vs) H1 R) : EvP (tMeth C m sp [] E te ta) σ H R := evp_meth ho hi hm (.of h) fun ws H1 e q => by
  subst q
  exact hs H1 e
/-- a call whose receiver is itself evaluated to something -/
theorem evp_methR {sp : Sp} {E : XK} {ta : TA} {C : Addr} {m : Str} {vs : List V} (ho : EvP te σ H S) (h : EvA ta σ H vs)
    (hs : ∀ x H1, Ex H H1 → S x H1 → ∃ a dx fs, x = .ref a ∧ H1 a = some (.ins C dx fs) ∧ fs.lookup m = none ∧ ∀ H2, Ex H1 H2 → SpR sp (.ref a :: vs) H2 R) : EvP (tMeth C m sp [] E te ta) σ H R := fun H1 e Q q =>
  ho H1 e _ fun x H2 e2 s => by
    obtain ⟨a, dx, fs, rfl, h1, h2, h3⟩ := hs x H2 (e.trans e2) s
    exact ⟨a, dx, fs, rfl, h1, h2, h H2 (e.trans e2) _ fun H3 e3 => by
      show sp (V.ref a :: (vs ++ [])) H3 Q E
      rw [List.append_nil]
      exact h3 H3 e3 Q E fun v H4 e4 r => q v H4 ((e2.trans e3).trans e4) r⟩
theorem ev_fld {a C dx : Addr} {fs : List (Str × V)} {f : Str} (ho : Ev te σ H (.ref a)) (hi : H a = some (.ins C dx fs)) (c : Cls K C) (n : NoAttr K C f) (hl : fs.lookup f = some v) : Ev (tFld K te f) σ H v := fun H1 e Q q =>
  ho H1 e _ fun H2 e2 => ⟨a, C, dx, fs, v, rfl, (e.trans e2) _ _ hi, c, n, hl, q H2 e2⟩
/-- a field of something that R tells of -/
theorem evp_fld {f : Str} (ho : EvP te σ H R) (h : ∀ x H1, Ex H H1 → R x H1 → ∃ a C dx fs v, x = .ref a ∧ H1 a = some (.ins C dx fs) ∧ Cls K C ∧ NoAttr K C f ∧ fs.lookup f = some v ∧ S v H1) : EvP (tFld K te f) σ H S := fun H1 e Q q =>
  ho H1 e _ fun x H2 e2 r => by
    obtain ⟨a, C, dx, fs, v, h1, h2, h3, h4, h5, h6⟩ := h x H2 (e.trans e2) r
    exact ⟨a, C, dx, fs, v, h1, h2, h3, h4, h5, q v H2 e2 h6⟩
theorem evp_op (ha : EvP ta σ H R) (m : Mono R) (hb : EvP tb σ H R') (hr : ∀ x y H1, Ex H H1 → R x H1 → R' y H1 → ∀ Q : VK, (∀ z H2, Ex H1 H2 → S z H2 → Q z H2) → r x y H1 Q) : EvP (tOp r ta tb) σ H S := fun H1 e Q q =>
  ha H1 e _ fun x H2 e2 r1 => hb H2 (e.trans e2) _ fun y H3 e3 r2 => hr x y H3 ((e.trans e2).trans e3) (m _ _ _ e3 r1) r2 Q fun z H4 e4 s => q z H4 ((e2.trans e3).trans e4) s
theorem evp_if {b : Bool} (h : EvT t σ H b) (h1 : b = true → EvP ta σ H R) (h2 : b = false → EvP tb σ H R) : EvP (tIf t ta tb) σ H R := fun H1 e Q q => h H1 e _ fun H2 e2 => by
  cases b with
  | true =>
    show ta σ H2 Q
    exact h1 rfl H2 (e.trans e2) Q fun v H3 e3 r => q v H3 (e2.trans e3) r
  | false =>
    show tb σ H2 Q
    exact h2 rfl H2 (e.trans e2) Q fun v H3 e3 r => q v H3 (e2.trans e3) r
theorem evp_tup {ta : TA} {S : List V → Hp → Prop} (h : EvAP ta σ H S) (hm : ∀ vs H H', Ex H H' → S vs H → S vs H') (hl : ∀ vs H1, S vs H1 → vs.length ≤ 100000) : EvP (tTup ta) σ H (fun v H' => ∃ p vs, v = .ref p ∧ H' p = some (.tup vs) ∧ S vs H') := fun H1 e _ q =>
  h H1 e _ fun vs H2 e2 s => ⟨sz_of (hl vs H2 s), fun p hp => q _ _ (e2.trans (Ex.new hp)) ⟨p, vs, rfl, upd_same, hm _ _ _ (Ex.new hp) s⟩⟩
theorem evp_lst {ta : TA} {S : List V → Hp → Prop} (h : EvAP ta σ H S) (hm : ∀ vs H H', Ex H H' → S vs H → S vs H') (hl : ∀ vs H1, S vs H1 → vs.length ≤ 100000) : EvP (tLst ta) σ H (fun v H' => ∃ p vs, v = .ref p ∧ H' p = some (.lst vs) ∧ S vs H') := fun H1 e _ q =>
  h H1 e _ fun vs H2 e2 s => ⟨sz_of (hl vs H2 s), fun p hp => q _ _ (e2.trans (Ex.new hp)) ⟨p, vs, rfl, upd_same, hm _ _ _ (Ex.new hp) s⟩⟩
/-! ### statements -/
theorem s_asgP {i : Nat} (h : EvP te σ H R) (k : ∀ v H1, Ex H H1 → R v H1 → D.nx (σ.set i (some v)) H1) : tAsg te (gName i) D σ H := h H (Ex.refl H) _ fun v H1 e r => k v H1 e r
theorem q_asgP {i : Nat} (h : EvP te σ H R) (k : ∀ v H1, Ex H H1 → R v H1 → tz D (σ.set i (some v)) H1) : tSeq (tAsg te (gName i)) tz D σ H := h H (Ex.refl H) _ fun v H1 e r => k v H1 e r
theorem s_retP (h : EvP te σ H R) (k : ∀ v H1, Ex H H1 → R v H1 → D.rt v H1) : tRet te D σ H := h H (Ex.refl H) _ fun v H1 e r => k v H1 e r
theorem q_dropP (h : EvP te σ H R) (k : ∀ v H1, Ex H H1 → R v H1 → tz D σ H1) : tSeq (tDrop te) tz D σ H := h H (Ex.refl H) _ fun v H1 e r => k v H1 e r
theorem s_dropP (h : EvP te σ H R) (k : ∀ v H1, Ex H H1 → R v H1 → D.nx σ H1) : tDrop te D σ H := h H (Ex.refl H) _ fun v H1 e r => k v H1 e r
/-- if .. return, then the rest -/
theorem q_ifR {b : Bool} (h : EvT t σ H b) (h1 : b = true → ∀ H1, Ex H H1 → tu { D with nx := tz D } σ H1) (h2 : b = false → ∀ H1, Ex H H1 → tz D σ H1) : tSeq (tIfS t tu tNext) tz D σ H := q_when h h1 h2
end
/-! ### walks -/
structure Src (J : It) (n : Nat) (H : Hp) (Y : Nat → V → Hp → Prop) : Prop where
  go : ∀ i H1, Ex H H1 → i < n → J.go i H1
  yld : ∀ i H1 x H2, Ex H H1 → i < n → J.yld i H1 x H2 → Ex H1 H2 ∧ Y i x H2
  stop : ∀ H1, Ex H H1 → J.stop n H1
section
variable {K : PySem.W.Frag} {H : Hp} {a b : Addr} {xs ys : List V}
theorem src_list (h : SqL K H a xs) : Src (Itl K a) xs.length H (fun i x _ => xs[i]? = some x) where
  go i H1 e hi := ⟨xs, xs[i], ex_l e h, by simp [hi]⟩
  yld i H1 x H2 e hi y := by
    obtain ⟨e1, y⟩ := y
    subst e1
    exact ⟨Ex.refl _, y xs (ex_l e h)⟩
  stop H1 e := ⟨xs, ex_l e h, Nat.le_refl _⟩
theorem src_tup (h : SqT K H a xs) : Src (Itt K a) xs.length H (fun i x _ => xs[i]? = some x) where
  go i H1 e hi := ⟨xs, xs[i], ex_t e h, by simp [hi]⟩
  yld i H1 x H2 e hi y := by
    obtain ⟨e1, y⟩ := y
    subst e1
    exact ⟨Ex.refl _, y xs (ex_t e h)⟩
  stop H1 e := ⟨xs, ex_t e h, Nat.le_refl _⟩
theorem src_range {lo : Int} {n : Nat} : Src (Itr lo n) n H (fun i x _ => x = .int (lo + i)) where
  go i H1 e hi := hi
  yld i H1 x H2 e hi y := by
    obtain ⟨e1, y⟩ := y
    subst e1
    exact ⟨Ex.refl _, y⟩
  stop H1 e := Nat.le_refl _
theorem src_enum (h : SqL K H a xs) : Src (Ite K a) xs.length H (fun i v H' => ∃ T x, v = .ref T ∧ H' T = some (.tup [.int (i : Nat), x]) ∧ xs[i]? = some x) where
  go i H1 e hi := ⟨xs, xs[i], ex_l e h, by simp [hi]⟩
  yld i H1 x H2 e hi y := by
    obtain ⟨T, x, rfl, n, rfl, y⟩ := y
    exact ⟨Ex.new n, T, x, rfl, upd_same, y xs (ex_l e h)⟩
  stop H1 e := ⟨xs, ex_l e h, Nat.le_refl _⟩
end
section
variable {K : PySem.W.Frag} {σ : L2.St} {H : Hp} {te tl : TE} {t : TT} {wi : TI} {g : TG} {vs : List Nat} {n : Nat}
/-- a comprehension over what Y tells, its elements known values -/
theorem el_lc (Y : Nat → V → Hp → Prop) (f : Nat → Bool) (val : Nat → V) (hn : n ≤ 40000)
    (hw : ∀ H1, Ex H H1 → ∀ W : It → Hp → Prop, (∀ J H2, Ex H1 H2 → Src J n H2 Y → W J H2) → wi σ H1 W)
    (turn : ∀ i x H1, Ex H H1 → i < n → Y i x H1 → ∀ Q : L2.St → Hp → Prop, (∀ σ2 H2, Ex H1 H2 → wipe σ2 vs = wipe σ vs → EvT t σ2 H2 (f i) → (f i = true → Ev te σ2 H2 (val i)) → Q σ2 H2) → g x (wipe σ vs) H1 Q) :
    EvL (tLc wi g t te vs) σ H (given n f val) := fun H0 e0 Q q =>
  hw H0 e0 _ fun J H1 e1 S D hD => by
    refine ⟨fun i m H' => m = n - i ∧ i ≤ n ∧ Cw H1 f val D i H', ⟨n, rfl, Nat.zero_le _, hD, Ex.new hD, upd_same⟩, ?_⟩
    rintro i m H2 ⟨rfl, hi, c⟩
    have e2 : Ex H1 H2 := c.2.1
    by_cases hlt : i < n
    · refine .inr ⟨S.go i H2 e2 hlt, fun H' => i + 1 ≤ n ∧ Cw H1 f val D (i + 1) H', fun H' h => ⟨n - (i + 1), by omega, rfl, h⟩, fun x H3 y3 => ?_⟩
      obtain ⟨e3, y3⟩ := S.yld i H2 x H3 e2 hlt y3
      refine turn i x H3 (((e0.trans e1).trans e2).trans e3) hlt y3 _ fun σ2 H4 e4 hw2 ht he => ⟨hw2, ?_⟩
      have c4 : Cw H1 f val D i H4 := ⟨c.1, (e2.trans e3).trans e4, (e3.trans e4) _ _ c.2.2⟩
      refine ht H4 (Ex.refl _) _ fun H5 e5 => ?_
      cases hf : f i with
      | true =>
        show te σ2 H5 _
        refine he hf H5 e5 _ fun H6 e6 => ⟨given i f val, (e5.trans e6) D _ c4.2.2, sz_lt (by have := given_len i f val; omega), hlt, c.1, Ex.mut ((c4.2.1.trans e5).trans e6) c.1, ?_⟩
        rw [given_yes hf]
        exact upd_same
      | false =>
        show _ ∧ _
        refine ⟨hlt, c.1, c4.2.1.trans e5, ?_⟩
        rw [given_no hf]
        exact e5 D _ c4.2.2
    · have e : i = n := by omega
      subst e
      exact .inl ⟨S.stop H2 e2, q D H2 (fresh_back e1 c.1) (e1.trans e2) c.2.2⟩
/-- .. its elements made on the way: R D i tells of the i-th, D being the list that grows -/
theorem evp_lcF (Y : Nat → V → Hp → Prop) (R : Addr → Nat → V → Hp → Prop) (hm : ∀ D i, Mono (R D i)) (hu : ∀ D i v H o, R D i v H → R D i v (upd H D o)) (hn : n ≤ 40000)
    (hw : ∀ H1, Ex H H1 → ∀ W : It → Hp → Prop, (∀ J H2, Ex H1 H2 → Src J n H2 Y → W J H2) → wi σ H1 W)
    (turn : ∀ D i x H1, Ex H H1 → H D = none → H1 D ≠ none → i < n → Y i x H1 → ∀ Q : L2.St → Hp → Prop, (∀ σ2 H2, Ex H1 H2 → wipe σ2 vs = wipe σ vs → (∀ Q' : VK, (∀ v H3, Ex H2 H3 → R D i v H3 → Q' v H3) → te σ2 H2 Q') → Q σ2 H2) → g x (wipe σ vs) H1 Q) :
    EvP (tLc wi g tYes te vs) σ H (fun v H' => ∃ p ys, v = .ref p ∧ H p = none ∧ H' p = some (.lst ys) ∧ ys.length = n ∧ ∀ i y, ys[i]? = some y → R p i y H') := fun H0 e0 Q q =>
  hw H0 e0 _ fun J H1 e1 S D hD => by
    refine ⟨fun i m H' => m = n - i ∧ i ≤ n ∧ Ex H1 H' ∧ ∃ ys, H' D = some (.lst ys) ∧ ys.length = i ∧ ∀ j y, ys[j]? = some y → R D j y H', ⟨n, rfl, Nat.zero_le _, Ex.new hD, [], upd_same, rfl, fun j y h => by simp at h⟩, ?_⟩
    rintro i m H2 ⟨rfl, hi, e2, ys, hys, hl, hR⟩
    have hD0 : H D = none := fresh_back (e0.trans e1) hD
    by_cases hlt : i < n
    · refine .inr ⟨S.go i H2 e2 hlt, fun H' => i + 1 ≤ n ∧ Ex H1 H' ∧ ∃ ys, H' D = some (.lst ys) ∧ ys.length = i + 1 ∧ ∀ j y, ys[j]? = some y → R D j y H', fun H' h => ⟨n - (i + 1), by omega, rfl, h⟩, fun x H3 y3 => ?_⟩
      obtain ⟨e3, y3⟩ := S.yld i H2 x H3 e2 hlt y3
      have h3 : H3 D ≠ none := by
        rw [e3 _ _ hys]
        simp
      refine turn D i x H3 (((e0.trans e1).trans e2).trans e3) hD0 h3 hlt y3 _ fun σ2 H4 e4 hw2 he => ⟨hw2, ?_⟩
      show te σ2 H4 _
      refine he _ fun v H5 e5 r => ?_
      have e25 : Ex H2 H5 := (e3.trans e4).trans e5
      refine ⟨ys, e25 _ _ hys, sz_lt (by omega), hlt, Ex.mut (e2.trans e25) hD, ys ++ [v], upd_same, by simp [hl], fun j y h => ?_⟩
      by_cases hj : j < ys.length
      · rw [List.getElem?_append_left hj] at h
        exact hu _ _ _ _ _ (hm _ _ _ _ _ e25 (hR j y h))
      · rw [List.getElem?_append_right (by omega)] at h
        have ej : j - ys.length = 0 := by
          cases hh : j - ys.length with
          | zero => rfl
          | succ z =>
            rw [hh] at h
            simp at h
        rw [ej] at h
        have ey : v = y := by simpa using h
        have ejj : j = i := by omega
        subst ey ejj
        exact hu _ _ _ _ _ r
    · have e : i = n := by omega
      subst e
      exact .inl ⟨S.stop H2 e2, q _ H2 (e1.trans e2) ⟨D, ys, rfl, fresh_back (e0.trans e1) hD, hys, hl, hR⟩⟩
theorem iw_list {K : PySem.W.Frag} {a : Addr} {xs : List V} (h : Ev tl σ H (.ref a)) (hx : SqL K H a xs) : ∀ H1, Ex H H1 → ∀ W : It → Hp → Prop, (∀ J H2, Ex H1 H2 → Src J xs.length H2 (fun i x _ => xs[i]? = some x) → W J H2) → iList K tl σ H1 W := fun H1 e W q =>
  h H1 e _ fun H2 e2 => ⟨a, rfl, ⟨xs, ex_l (e.trans e2) hx⟩, q _ H2 e2 (src_list (ex_l (e.trans e2) hx))⟩
theorem iw_listN {K : PySem.W.Frag} {xs : List V} (h : EvL tl σ H xs) : ∀ H1, Ex H H1 → ∀ W : It → Hp → Prop, (∀ J H2, Ex H1 H2 → Src J xs.length H2 (fun i x _ => xs[i]? = some x) → W J H2) → iList K tl σ H1 W := fun H1 e W q =>
  h H1 e _ fun p H2 _ e2 hp => ⟨p, rfl, ⟨xs, sq_of hp⟩, q _ H2 e2 (src_list (sq_of hp))⟩
theorem iw_range1 {ta : TA} {m : Nat} (h : EvA ta σ H [.int (m : Int)]) (hm : m ≤ 40000) : ∀ H1, Ex H H1 → ∀ W : It → Hp → Prop, (∀ J H2, Ex H1 H2 → Src J m H2 (fun i x _ => x = .int (i : Int)) → W J H2) → iRng1 ta σ H1 W := fun H1 e W q =>
  h H1 e _ fun H2 e2 => ⟨(m : Int), rfl, by omega, by omega, by
    have em : ((m : Int)).toNat = m := by omega
    rw [em]
    refine q _ H2 e2 ?_
    have s := src_range (H := H2) (lo := 0) (n := m)
    simp only [Int.zero_add] at s
    exact s⟩
theorem iw_range2 {ta : TA} {lo hi : Int} (h : EvA ta σ H [.int lo, .int hi]) (h1 : -40000 ≤ lo ∧ lo ≤ 40000 ∧ -40000 ≤ hi ∧ hi ≤ 40000) : ∀ H1, Ex H H1 → ∀ W : It → Hp → Prop, (∀ J H2, Ex H1 H2 → Src J (hi - lo).toNat H2 (fun i x _ => x = .int (lo + (i : Int))) → W J H2) → iRng2 ta σ H1 W := fun H1 e W q =>
  h H1 e _ fun H2 e2 => ⟨lo, hi, rfl, ⟨by omega, by omega, by omega, by omega⟩, q _ H2 e2 src_range⟩
theorem iw_enum {K : PySem.W.Frag} {ta : TA} {a : Addr} {xs : List V} (h : EvA ta σ H [.ref a]) (hx : SqL K H a xs) : ∀ H1, Ex H H1 → ∀ W : It → Hp → Prop, (∀ J H2, Ex H1 H2 → Src J xs.length H2 (fun i v H' => ∃ T x, v = .ref T ∧ H' T = some (.tup [.int (i : Nat), x]) ∧ xs[i]? = some x) → W J H2) → iEnum K ta σ H1 W := fun H1 e W q =>
  h H1 e _ fun H2 e2 => ⟨a, xs, rfl, ex_l (e.trans e2) hx, q _ H2 e2 (src_enum (ex_l (e.trans e2) hx))⟩
end
end Lp
set_option Elab.async false
set_option linter.all false
set_option maxRecDepth 100000
set_option maxHeartbeats 4000000
namespace Lp
open PySem PySem.Spec PyProof.Rows L2 Evl
def fnScB (N P : List Str) (sc : Scope) : Bool :=
  decide (sc.kind = .function) && (!sc.isCoroutine && (!sc.isGenerator && (decide N.Nodup && (decide (N.take P.length = P) && (P.all (fun x => decide (sc.names.lookup x = some .local) || decide (sc.names.lookup x = some .cell)) && sc.names.all fun y => !decide (y.2 = .free))))))
theorem fnSc_of {N P : List Str} {sc : Scope} (h : fnScB N P sc = true) : FnScope N P sc := by
  unfold fnScB at h
  simp only [Bool.and_eq_true, Bool.or_eq_true, Bool.not_eq_true', decide_eq_true_eq, decide_eq_false_iff_not, List.all_eq_true] at h
  obtain ⟨h1, h2, h3, h4, h5, h6, h7⟩ := h
  exact ⟨h1, h2, h3, h4, h5, h6, h7⟩
theorem sc_is_joined : FnScope ["how", "was", "is_told"] ["how", "was", "is_told"] (defScope s_is_joined) := fnSc_of (by decide +kernel)
theorem bd_is_joined : Bnd "is_joined" "is_joined" (defArgs s_is_joined) (defBody s_is_joined) (defScope s_is_joined) ["how", "was", "is_told"] := fun _ _ _ _ _ _ us hl => match us, hl with | [_, _, _], _ => by kernel_rfl
theorem sc_joined : FnScope ["picture", "how", "told", "was", "own"] ["picture", "how", "told"] (defScope s_joined) := fnSc_of (by decide +kernel)
theorem bd_joined : Bnd "joined" "joined" (defArgs s_joined) (defBody s_joined) (defScope s_joined) ["picture", "how", "told"] := fun _ _ _ _ _ _ us hl => match us, hl with | [_, _, _], _ => by kernel_rfl
theorem sc_rectangle : FnScope ["picture", "x", "y", "wide", "high", "found", "place", "own_x", "own_y"] ["picture", "x", "y", "wide", "high"] (defScope s_rectangle) := fnSc_of (by decide +kernel)
theorem bd_rectangle : Bnd "rectangle" "rectangle" (defArgs s_rectangle) (defBody s_rectangle) (defScope s_rectangle) ["picture", "x", "y", "wide", "high"] := fun _ _ _ _ _ _ us hl => match us, hl with | [_, _, _, _, _], _ => by kernel_rfl
theorem sc_beside : FnScope ["picture", "place", "corners", "ways", "found", "across", "down", "x", "y"] ["picture", "place", "corners"] (defScope s_beside) := fnSc_of (by decide +kernel)
theorem bd_beside : Bnd "beside" "beside" (defArgs s_beside) (defBody s_beside) (defScope s_beside) ["picture", "place", "corners"] := fun _ _ _ _ _ _ us hl => match us, hl with | [_, _, _], _ => by kernel_rfl
theorem sc_flood : FnScope ["picture", "first", "tolerance", "kind", "corners", "colours", "found", "waiting", "at", "here", "other", "colour", "cover"] ["picture", "first", "tolerance", "kind", "corners"] (defScope s_flood) := fnSc_of (by decide +kernel)
theorem bd_flood : Bnd "flood" "flood" (defArgs s_flood) (defBody s_flood) (defScope s_flood) ["picture", "first", "tolerance", "kind", "corners"] := fun _ _ _ _ _ _ us hl => match us, hl with | [_, _, _, _, _], _ => by kernel_rfl
theorem sc_squared : FnScope ["picture", "one", "other", "across", "down"] ["picture", "one", "other"] (defScope s_squared) := fnSc_of (by decide +kernel)
theorem bd_squared : Bnd "squared" "squared" (defArgs s_squared) (defBody s_squared) (defScope s_squared) ["picture", "one", "other"] := fun _ _ _ _ _ _ us hl => match us, hl with | [_, _, _], _ => by kernel_rfl
theorem sc_near : FnScope ["picture", "r", "goals", "found", "place", "goal"] ["picture", "r", "goals"] (defScope s_near) := fnSc_of (by decide +kernel)
theorem bd_near : Bnd "near" "near" (defArgs s_near) (defBody s_near) (defScope s_near) ["picture", "r", "goals"] := fun _ _ _ _ _ _ us hl => match us, hl with | [_, _, _], _ => by kernel_rfl
theorem sc_grown : FnScope ["picture", "r", "place", "own"] ["picture", "r"] (defScope s_grown) := fnSc_of (by decide +kernel)
theorem bd_grown : Bnd "grown" "grown" (defArgs s_grown) (defBody s_grown) (defScope s_grown) ["picture", "r"] := fun _ _ _ _ _ _ us hl => match us, hl with | [_, _], _ => by kernel_rfl
theorem sc_shrunk : FnScope ["picture", "r", "others", "place", "own", "is_near"] ["picture", "r"] (defScope s_shrunk) := fnSc_of (by decide +kernel)
theorem bd_shrunk : Bnd "shrunk" "shrunk" (defArgs s_shrunk) (defBody s_shrunk) (defScope s_shrunk) ["picture", "r"] := fun _ _ _ _ _ _ us hl => match us, hl with | [_, _], _ => by kernel_rfl
theorem sc_bounds : FnScope ["picture", "some", "across", "down", "place", "own"] ["picture"] (defScope s_bounds) := fnSc_of (by decide +kernel)
theorem bd_bounds : Bnd "bounds" "bounds" (defArgs s_bounds) (defBody s_bounds) (defScope s_bounds) ["picture"] := fun _ _ _ _ _ _ us hl => match us, hl with | [_], _ => by kernel_rfl
theorem sc_Layer_init : FnScope ["self", "number", "seen", "strong", "way", "dots"] ["self", "number", "seen", "strong", "way", "dots"] (defScope s_Layer_init) := fnSc_of (by decide +kernel)
theorem bd_Layer_init : Bnd "__init__" "Layer.__init__" (defArgs s_Layer_init) (defBody s_Layer_init) (defScope s_Layer_init) ["self", "number", "seen", "strong", "way", "dots"] := fun _ _ _ _ _ _ us hl => match us, hl with | [_, _, _, _, _, _], _ => by kernel_rfl
theorem sc_Layer_with_dots : FnScope ["self", "dots"] ["self", "dots"] (defScope s_Layer_with_dots) := fnSc_of (by decide +kernel)
theorem bd_Layer_with_dots : Bnd "with_dots" "Layer.with_dots" (defArgs s_Layer_with_dots) (defBody s_Layer_with_dots) (defScope s_Layer_with_dots) ["self", "dots"] := fun _ _ _ _ _ _ us hl => match us, hl with | [_, _], _ => by kernel_rfl
theorem sc_Picture_init : FnScope ["self", "wide", "high", "layers", "working", "chosen", "following"] ["self", "wide", "high", "layers", "working", "chosen", "following"] (defScope s_Picture_init) := fnSc_of (by decide +kernel)
theorem bd_Picture_init : Bnd "__init__" "Picture.__init__" (defArgs s_Picture_init) (defBody s_Picture_init) (defScope s_Picture_init) ["self", "wide", "high", "layers", "working", "chosen", "following"] := fun _ _ _ _ _ _ us hl => match us, hl with | [_, _, _, _, _, _, _], _ => by kernel_rfl
theorem sc_Picture_size : FnScope ["self"] ["self"] (defScope s_Picture_size) := fnSc_of (by decide +kernel)
theorem bd_Picture_size : Bnd "size" "Picture.size" (defArgs s_Picture_size) (defBody s_Picture_size) (defScope s_Picture_size) ["self"] := fun _ _ _ _ _ _ us hl => match us, hl with | [_], _ => by kernel_rfl
theorem sc_Picture_has : FnScope ["self", "x", "y"] ["self", "x", "y"] (defScope s_Picture_has) := fnSc_of (by decide +kernel)
theorem bd_Picture_has : Bnd "has" "Picture.has" (defArgs s_Picture_has) (defBody s_Picture_has) (defScope s_Picture_has) ["self", "x", "y"] := fun _ _ _ _ _ _ us hl => match us, hl with | [_, _, _], _ => by kernel_rfl
theorem sc_Picture_place : FnScope ["self", "x", "y"] ["self", "x", "y"] (defScope s_Picture_place) := fnSc_of (by decide +kernel)
theorem bd_Picture_place : Bnd "place" "Picture.place" (defArgs s_Picture_place) (defBody s_Picture_place) (defScope s_Picture_place) ["self", "x", "y"] := fun _ _ _ _ _ _ us hl => match us, hl with | [_, _, _], _ => by kernel_rfl
theorem sc_Picture_across : FnScope ["self", "place"] ["self", "place"] (defScope s_Picture_across) := fnSc_of (by decide +kernel)
theorem bd_Picture_across : Bnd "across" "Picture.across" (defArgs s_Picture_across) (defBody s_Picture_across) (defScope s_Picture_across) ["self", "place"] := fun _ _ _ _ _ _ us hl => match us, hl with | [_, _], _ => by kernel_rfl
theorem sc_Picture_down : FnScope ["self", "place"] ["self", "place"] (defScope s_Picture_down) := fnSc_of (by decide +kernel)
theorem bd_Picture_down : Bnd "down" "Picture.down" (defArgs s_Picture_down) (defBody s_Picture_down) (defScope s_Picture_down) ["self", "place"] := fun _ _ _ _ _ _ us hl => match us, hl with | [_, _], _ => by kernel_rfl
theorem sc_Picture_numbers : FnScope ["self", "layer"] ["self"] (defScope s_Picture_numbers) := fnSc_of (by decide +kernel)
theorem bd_Picture_numbers : Bnd "numbers" "Picture.numbers" (defArgs s_Picture_numbers) (defBody s_Picture_numbers) (defScope s_Picture_numbers) ["self"] := fun _ _ _ _ _ _ us hl => match us, hl with | [_], _ => by kernel_rfl
theorem sc_Picture_worked_on : FnScope ["self"] ["self"] (defScope s_Picture_worked_on) := fnSc_of (by decide +kernel)
theorem bd_Picture_worked_on : Bnd "worked_on" "Picture.worked_on" (defArgs s_Picture_worked_on) (defBody s_Picture_worked_on) (defScope s_Picture_worked_on) ["self"] := fun _ _ _ _ _ _ us hl => match us, hl with | [_], _ => by kernel_rfl
theorem sc_Picture_is_chosen_some : FnScope ["self"] ["self"] (defScope s_Picture_is_chosen_some) := fnSc_of (by decide +kernel)
theorem bd_Picture_is_chosen_some : Bnd "is_chosen_some" "Picture.is_chosen_some" (defArgs s_Picture_is_chosen_some) (defBody s_Picture_is_chosen_some) (defScope s_Picture_is_chosen_some) ["self"] := fun _ _ _ _ _ _ us hl => match us, hl with | [_], _ => by kernel_rfl
theorem sc_Picture_may_change : FnScope ["self", "place"] ["self"] (defScope s_Picture_may_change) := fnSc_of (by decide +kernel)
theorem bd_Picture_may_change : Bnd "may_change" "Picture.may_change" (defArgs s_Picture_may_change) (defBody s_Picture_may_change) (defScope s_Picture_may_change) ["self"] := fun _ _ _ _ _ _ us hl => match us, hl with | [_], _ => by kernel_rfl
theorem sc_Picture_with_layers : FnScope ["self", "layers", "working"] ["self", "layers", "working"] (defScope s_Picture_with_layers) := fnSc_of (by decide +kernel)
theorem bd_Picture_with_layers : Bnd "with_layers" "Picture.with_layers" (defArgs s_Picture_with_layers) (defBody s_Picture_with_layers) (defScope s_Picture_with_layers) ["self", "layers", "working"] := fun _ _ _ _ _ _ us hl => match us, hl with | [_, _, _], _ => by kernel_rfl
theorem sc_Picture_with_chosen : FnScope ["self", "chosen"] ["self", "chosen"] (defScope s_Picture_with_chosen) := fnSc_of (by decide +kernel)
theorem bd_Picture_with_chosen : Bnd "with_chosen" "Picture.with_chosen" (defArgs s_Picture_with_chosen) (defBody s_Picture_with_chosen) (defScope s_Picture_with_chosen) ["self", "chosen"] := fun _ _ _ _ _ _ us hl => match us, hl with | [_, _], _ => by kernel_rfl
theorem sc_Picture_with_dots : FnScope ["self", "dots", "at", "layers"] ["self", "dots"] (defScope s_Picture_with_dots) := fnSc_of (by decide +kernel)
theorem bd_Picture_with_dots : Bnd "with_dots" "Picture.with_dots" (defArgs s_Picture_with_dots) (defBody s_Picture_with_dots) (defScope s_Picture_with_dots) ["self", "dots"] := fun _ _ _ _ _ _ us hl => match us, hl with | [_, _], _ => by kernel_rfl
theorem sc_Picture_with_new_layer : FnScope ["self", "dots", "at", "layer", "layers"] ["self", "dots"] (defScope s_Picture_with_new_layer) := fnSc_of (by decide +kernel)
theorem bd_Picture_with_new_layer : Bnd "with_new_layer" "Picture.with_new_layer" (defArgs s_Picture_with_new_layer) (defBody s_Picture_with_new_layer) (defScope s_Picture_with_new_layer) ["self", "dots"] := fun _ _ _ _ _ _ us hl => match us, hl with | [_, _], _ => by kernel_rfl
theorem sc_Picture_rearranged : FnScope ["self", "wide", "high", "places", "layers", "chosen", "layer", "place"] ["self", "wide", "high", "places"] (defScope s_Picture_rearranged) := fnSc_of (by decide +kernel)
theorem bd_Picture_rearranged : Bnd "rearranged" "Picture.rearranged" (defArgs s_Picture_rearranged) (defBody s_Picture_rearranged) (defScope s_Picture_rearranged) ["self", "wide", "high", "places"] := fun _ _ _ _ _ _ us hl => match us, hl with | [_, _, _, _], _ => by kernel_rfl
theorem sc_new_picture : FnScope ["wide", "high", "colours", "dots", "colour"] ["wide", "high", "colours"] (defScope s_new_picture) := fnSc_of (by decide +kernel)
theorem bd_new_picture : Bnd "new_picture" "new_picture" (defArgs s_new_picture) (defBody s_new_picture) (defScope s_new_picture) ["wide", "high", "colours"] := fun _ _ _ _ _ _ us hl => match us, hl with | [_, _, _], _ => by kernel_rfl
theorem sc_many_unlike : FnScope ["row", "other", "place"] ["row", "other"] (defScope s_many_unlike) := fnSc_of (by decide +kernel)
theorem bd_many_unlike : Bnd "many_unlike" "many_unlike" (defArgs s_many_unlike) (defBody s_many_unlike) (defScope s_many_unlike) ["row", "other"] := fun _ _ _ _ _ _ us hl => match us, hl with | [_, _], _ => by kernel_rfl
theorem sc_cost : FnScope ["before", "after", "found", "elder", "layer", "gone", "number"] ["before", "after"] (defScope s_cost) := fnSc_of (by decide +kernel)
theorem bd_cost : Bnd "cost" "cost" (defArgs s_cost) (defBody s_cost) (defScope s_cost) ["before", "after"] := fun _ _ _ _ _ _ us hl => match us, hl with | [_, _], _ => by kernel_rfl
theorem sc_common : FnScope ["one", "other"] ["one", "other"] (defScope s_common) := fnSc_of (by decide +kernel)
theorem bd_common : Bnd "common" "common" (defArgs s_common) (defBody s_common) (defScope s_common) ["one", "other"] := fun _ _ _ _ _ _ us hl => match us, hl with | [_, _], _ => by kernel_rfl
theorem sc_lowest : FnScope ["above", "below", "by"] ["above", "below"] (defScope s_lowest) := fnSc_of (by decide +kernel)
theorem bd_lowest : Bnd "lowest" "lowest" (defArgs s_lowest) (defBody s_lowest) (defScope s_lowest) ["above", "below"] := fun _ _ _ _ _ _ us hl => match us, hl with | [_, _], _ => by kernel_rfl
theorem sc_plus : FnScope ["one", "other"] ["one", "other"] (defScope s_plus) := fnSc_of (by decide +kernel)
theorem bd_plus : Bnd "plus" "plus" (defArgs s_plus) (defBody s_plus) (defScope s_plus) ["one", "other"] := fun _ _ _ _ _ _ us hl => match us, hl with | [_, _], _ => by kernel_rfl
theorem sc_apart : FnScope ["one", "other"] ["one", "other"] (defScope s_apart) := fnSc_of (by decide +kernel)
theorem bd_apart : Bnd "apart" "apart" (defArgs s_apart) (defBody s_apart) (defScope s_apart) ["one", "other"] := fun _ _ _ _ _ _ us hl => match us, hl with | [_, _], _ => by kernel_rfl
theorem sc_times : FnScope ["one", "other"] ["one", "other"] (defScope s_times) := fnSc_of (by decide +kernel)
theorem bd_times : Bnd "times" "times" (defArgs s_times) (defBody s_times) (defScope s_times) ["one", "other"] := fun _ _ _ _ _ _ us hl => match us, hl with | [_, _], _ => by kernel_rfl
theorem sc_by : FnScope ["one", "other"] ["one", "other"] (defScope s_by) := fnSc_of (by decide +kernel)
theorem bd_by : Bnd "by" "by" (defArgs s_by) (defBody s_by) (defScope s_by) ["one", "other"] := fun _ _ _ _ _ _ us hl => match us, hl with | [_, _], _ => by kernel_rfl
theorem sc_is_more : FnScope ["one", "other"] ["one", "other"] (defScope s_is_more) := fnSc_of (by decide +kernel)
theorem bd_is_more : Bnd "is_more" "is_more" (defArgs s_is_more) (defBody s_is_more) (defScope s_is_more) ["one", "other"] := fun _ _ _ _ _ _ us hl => match us, hl with | [_, _], _ => by kernel_rfl
theorem sc_either : FnScope ["one", "other"] ["one", "other"] (defScope s_either) := fnSc_of (by decide +kernel)
theorem bd_either : Bnd "either" "either" (defArgs s_either) (defBody s_either) (defScope s_either) ["one", "other"] := fun _ _ _ _ _ _ us hl => match us, hl with | [_, _], _ => by kernel_rfl
theorem sc_both_ways : FnScope ["way", "upper", "lower", "whole"] ["way", "upper", "lower"] (defScope s_both_ways) := fnSc_of (by decide +kernel)
theorem bd_both_ways : Bnd "both_ways" "both_ways" (defArgs s_both_ways) (defBody s_both_ways) (defScope s_both_ways) ["way", "upper", "lower"] := fun _ _ _ _ _ _ us hl => match us, hl with | [_, _, _], _ => by kernel_rfl
theorem sc_put_upon : FnScope ["way", "covers", "colour", "below", "other_covers", "other", "whole", "found"] ["way", "covers", "colour", "below"] (defScope s_put_upon) := fnSc_of (by decide +kernel)
theorem bd_put_upon : Bnd "put_upon" "put_upon" (defArgs s_put_upon) (defBody s_put_upon) (defScope s_put_upon) ["way", "covers", "colour", "below"] := fun _ _ _ _ _ _ us hl => match us, hl with | [_, _, _, _], _ => by kernel_rfl
theorem sc_layer_upon : FnScope ["layer", "place", "below", "colour", "cover", "covers"] ["layer", "place", "below"] (defScope s_layer_upon) := fnSc_of (by decide +kernel)
theorem bd_layer_upon : Bnd "layer_upon" "layer_upon" (defArgs s_layer_upon) (defBody s_layer_upon) (defScope s_layer_upon) ["layer", "place", "below"] := fun _ _ _ _ _ _ us hl => match us, hl with | [_, _, _], _ => by kernel_rfl
theorem sc_rounded : FnScope ["part"] ["part"] (defScope s_rounded) := fnSc_of (by decide +kernel)
theorem bd_rounded : Bnd "rounded" "rounded" (defArgs s_rounded) (defBody s_rounded) (defScope s_rounded) ["part"] := fun _ _ _ _ _ _ us hl => match us, hl with | [_], _ => by kernel_rfl
theorem sc_dot_of : FnScope ["layers", "place", "found", "layer", "cover"] ["layers", "place"] (defScope s_dot_of) := fnSc_of (by decide +kernel)
theorem bd_dot_of : Bnd "dot_of" "dot_of" (defArgs s_dot_of) (defBody s_dot_of) (defScope s_dot_of) ["layers", "place"] := fun _ _ _ _ _ _ us hl => match us, hl with | [_, _], _ => by kernel_rfl
theorem sc_changed : FnScope ["picture", "dots", "elder", "place"] ["picture", "dots"] (defScope s_changed) := fnSc_of (by decide +kernel)
theorem bd_changed : Bnd "changed" "changed" (defArgs s_changed) (defBody s_changed) (defScope s_changed) ["picture", "dots"] := fun _ _ _ _ _ _ us hl => match us, hl with | [_, _], _ => by kernel_rfl
theorem sc_filled : FnScope ["picture", "dot", "place"] ["picture", "dot"] (defScope s_filled) := fnSc_of (by decide +kernel)
theorem bd_filled : Bnd "filled" "filled" (defArgs s_filled) (defBody s_filled) (defScope s_filled) ["picture", "dot"] := fun _ _ _ _ _ _ us hl => match us, hl with | [_, _], _ => by kernel_rfl
theorem sc_nearest : FnScope ["number", "many"] ["number", "many"] (defScope s_nearest) := fnSc_of (by decide +kernel)
theorem bd_nearest : Bnd "nearest" "nearest" (defArgs s_nearest) (defBody s_nearest) (defScope s_nearest) ["number", "many"] := fun _ _ _ _ _ _ us hl => match us, hl with | [_, _], _ => by kernel_rfl
theorem sc_window : FnScope ["picture", "place", "r", "dots", "found", "down", "y", "across", "x"] ["picture", "place", "r"] (defScope s_window) := fnSc_of (by decide +kernel)
theorem bd_window : Bnd "window" "window" (defArgs s_window) (defBody s_window) (defScope s_window) ["picture", "place", "r"] := fun _ _ _ _ _ _ us hl => match us, hl with | [_, _, _], _ => by kernel_rfl
theorem sc_mean : FnScope ["colours"] ["colours"] (defScope s_mean) := fnSc_of (by decide +kernel)
theorem bd_mean : Bnd "mean" "mean" (defArgs s_mean) (defBody s_mean) (defScope s_mean) ["colours"] := fun _ _ _ _ _ _ us hl => match us, hl with | [_], _ => by kernel_rfl
theorem sc_by_windows : FnScope ["picture", "r", "colour_of", "dots", "found", "place"] ["picture", "r", "colour_of"] (defScope s_by_windows) := fnSc_of (by decide +kernel)
theorem bd_by_windows : Bnd "by_windows" "by_windows" (defArgs s_by_windows) (defBody s_by_windows) (defScope s_by_windows) ["picture", "r", "colour_of"] := fun _ _ _ _ _ _ us hl => match us, hl with | [_, _, _], _ => by kernel_rfl
theorem sc_smoothed : FnScope ["picture", "r"] ["picture", "r"] (defScope s_smoothed) := fnSc_of (by decide +kernel)
theorem bd_smoothed : Bnd "smoothed" "smoothed" (defArgs s_smoothed) (defBody s_smoothed) (defScope s_smoothed) ["picture", "r"] := fun _ _ _ _ _ _ us hl => match us, hl with | [_, _], _ => by kernel_rfl
theorem sc_ranked : FnScope ["picture", "r", "p", "q"] ["picture", "r", "p", "q"] (defScope s_ranked) := fnSc_of (by decide +kernel)
theorem bd_ranked : Bnd "ranked" "ranked" (defArgs s_ranked) (defBody s_ranked) (defScope s_ranked) ["picture", "r", "p", "q"] := fun _ _ _ _ _ _ us hl => match us, hl with | [_, _, _, _], _ => by kernel_rfl
theorem sc_moved_to : FnScope ["picture", "place", "across", "down", "x", "y"] ["picture", "place", "across", "down"] (defScope s_moved_to) := fnSc_of (by decide +kernel)
theorem bd_moved_to : Bnd "moved_to" "moved_to" (defArgs s_moved_to) (defBody s_moved_to) (defScope s_moved_to) ["picture", "place", "across", "down"] := fun _ _ _ _ _ _ us hl => match us, hl with | [_, _, _, _], _ => by kernel_rfl
theorem sc_moved : FnScope ["picture", "across", "down", "dots", "some", "found", "place", "chosen", "other"] ["picture", "across", "down"] (defScope s_moved) := fnSc_of (by decide +kernel)
theorem bd_moved : Bnd "moved" "moved" (defArgs s_moved) (defBody s_moved) (defScope s_moved) ["picture", "across", "down"] := fun _ _ _ _ _ _ us hl => match us, hl with | [_, _, _], _ => by kernel_rfl
theorem sc_taken_aside : FnScope ["picture", "dots", "place"] ["picture"] (defScope s_taken_aside) := fnSc_of (by decide +kernel)
theorem bd_taken_aside : Bnd "taken_aside" "taken_aside" (defArgs s_taken_aside) (defBody s_taken_aside) (defScope s_taken_aside) ["picture"] := fun _ _ _ _ _ _ us hl => match us, hl with | [_], _ => by kernel_rfl
theorem sc_pasted : FnScope ["picture", "aside", "dots", "x", "y", "dot"] ["picture", "aside"] (defScope s_pasted) := fnSc_of (by decide +kernel)
theorem bd_pasted : Bnd "pasted" "pasted" (defArgs s_pasted) (defBody s_pasted) (defScope s_pasted) ["picture", "aside"] := fun _ _ _ _ _ _ us hl => match us, hl with | [_, _], _ => by kernel_rfl
theorem sc_put_together : FnScope ["picture", "at", "lower", "upper", "plain", "dots", "layer", "place"] ["picture"] (defScope s_put_together) := fnSc_of (by decide +kernel)
theorem bd_put_together : Bnd "put_together" "put_together" (defArgs s_put_together) (defBody s_put_together) (defScope s_put_together) ["picture"] := fun _ _ _ _ _ _ us hl => match us, hl with | [_], _ => by kernel_rfl
theorem sc_cropped : FnScope ["picture", "left", "top", "right", "bottom", "places", "y", "x"] ["picture"] (defScope s_cropped) := fnSc_of (by decide +kernel)
theorem bd_cropped : Bnd "cropped" "cropped" (defArgs s_cropped) (defBody s_cropped) (defScope s_cropped) ["picture"] := fun _ _ _ _ _ _ us hl => match us, hl with | [_], _ => by kernel_rfl
theorem sc_turned : FnScope ["picture", "way", "wide", "high", "places", "y", "x"] ["picture", "way"] (defScope s_turned) := fnSc_of (by decide +kernel)
theorem bd_turned : Bnd "turned" "turned" (defArgs s_turned) (defBody s_turned) (defScope s_turned) ["picture", "way"] := fun _ _ _ _ _ _ us hl => match us, hl with | [_, _], _ => by kernel_rfl
theorem sc_Refused_init : FnScope ["self", "number"] ["self", "number"] (defScope s_Refused_init) := fnSc_of (by decide +kernel)
theorem bd_Refused_init : Bnd "__init__" "Refused.__init__" (defArgs s_Refused_init) (defBody s_Refused_init) (defScope s_Refused_init) ["self", "number"] := fun _ _ _ _ _ _ us hl => match us, hl with | [_, _], _ => by kernel_rfl
theorem sc_want : FnScope ["good", "number"] ["good", "number"] (defScope s_want) := fnSc_of (by decide +kernel)
theorem bd_want : Bnd "want" "want" (defArgs s_want) (defBody s_want) (defScope s_want) ["good", "number"] := fun _ _ _ _ _ _ us hl => match us, hl with | [_, _], _ => by kernel_rfl
theorem sc_place_of : FnScope ["picture", "number"] ["picture", "number"] (defScope s_place_of) := fnSc_of (by decide +kernel)
theorem bd_place_of : Bnd "place_of" "place_of" (defArgs s_place_of) (defBody s_place_of) (defScope s_place_of) ["picture", "number"] := fun _ _ _ _ _ _ us hl => match us, hl with | [_, _], _ => by kernel_rfl
theorem sc_want_room : FnScope ["picture"] ["picture"] (defScope s_want_room) := fnSc_of (by decide +kernel)
theorem bd_want_room : Bnd "want_room" "want_room" (defArgs s_want_room) (defBody s_want_room) (defScope s_want_room) ["picture"] := fun _ _ _ _ _ _ us hl => match us, hl with | [_], _ => by kernel_rfl
theorem sc_layer_gone : FnScope ["picture", "number", "at", "layers", "working"] ["picture", "number"] (defScope s_layer_gone) := fnSc_of (by decide +kernel)
theorem bd_layer_gone : Bnd "layer_gone" "layer_gone" (defArgs s_layer_gone) (defBody s_layer_gone) (defScope s_layer_gone) ["picture", "number"] := fun _ _ _ _ _ _ us hl => match us, hl with | [_, _], _ => by kernel_rfl
theorem sc_layer_up : FnScope ["picture", "number", "at", "layers"] ["picture", "number"] (defScope s_layer_up) := fnSc_of (by decide +kernel)
theorem bd_layer_up : Bnd "layer_up" "layer_up" (defArgs s_layer_up) (defBody s_layer_up) (defScope s_layer_up) ["picture", "number"] := fun _ _ _ _ _ _ us hl => match us, hl with | [_, _], _ => by kernel_rfl
theorem sc_layer_so : FnScope ["picture", "number", "seen", "strong", "way", "at", "layer"] ["picture", "number", "seen", "strong", "way"] (defScope s_layer_so) := fnSc_of (by decide +kernel)
theorem bd_layer_so : Bnd "layer_so" "layer_so" (defArgs s_layer_so) (defBody s_layer_so) (defScope s_layer_so) ["picture", "number", "seen", "strong", "way"] := fun _ _ _ _ _ _ us hl => match us, hl with | [_, _, _, _, _], _ => by kernel_rfl
theorem sc_layer_worked_on : FnScope ["picture", "number"] ["picture", "number"] (defScope s_layer_worked_on) := fnSc_of (by decide +kernel)
theorem bd_layer_worked_on : Bnd "layer_worked_on" "layer_worked_on" (defArgs s_layer_worked_on) (defBody s_layer_worked_on) (defScope s_layer_worked_on) ["picture", "number"] := fun _ _ _ _ _ _ us hl => match us, hl with | [_, _], _ => by kernel_rfl
theorem sc_flooded : FnScope ["picture", "how", "x", "y", "tolerance", "kind", "corners"] ["picture", "how", "x", "y", "tolerance", "kind", "corners"] (defScope s_flooded) := fnSc_of (by decide +kernel)
theorem bd_flooded : Bnd "flooded" "flooded" (defArgs s_flooded) (defBody s_flooded) (defScope s_flooded) ["picture", "how", "x", "y", "tolerance", "kind", "corners"] := fun _ _ _ _ _ _ us hl => match us, hl with | [_, _, _, _, _, _, _], _ => by kernel_rfl
theorem sc_of_layers : FnScope ["picture", "deed", "n"] ["picture", "deed", "n"] (defScope s_of_layers) := fnSc_of (by decide +kernel)
theorem bd_of_layers : Bnd "of_layers" "of_layers" (defArgs s_of_layers) (defBody s_of_layers) (defScope s_of_layers) ["picture", "deed", "n"] := fun _ _ _ _ _ _ us hl => match us, hl with | [_, _, _], _ => by kernel_rfl
theorem sc_of_choice : FnScope ["picture", "deed", "n"] ["picture", "deed", "n"] (defScope s_of_choice) := fnSc_of (by decide +kernel)
theorem bd_of_choice : Bnd "of_choice" "of_choice" (defArgs s_of_choice) (defBody s_of_choice) (defScope s_of_choice) ["picture", "deed", "n"] := fun _ _ _ _ _ _ us hl => match us, hl with | [_, _, _], _ => by kernel_rfl
theorem sc_of_dots : FnScope ["picture", "deed", "n"] ["picture", "deed", "n"] (defScope s_of_dots) := fnSc_of (by decide +kernel)
theorem bd_of_dots : Bnd "of_dots" "of_dots" (defArgs s_of_dots) (defBody s_of_dots) (defScope s_of_dots) ["picture", "deed", "n"] := fun _ _ _ _ _ _ us hl => match us, hl with | [_, _, _], _ => by kernel_rfl
theorem sc_of_pictures : FnScope ["picture", "aside", "deed", "n"] ["picture", "aside", "deed", "n"] (defScope s_of_pictures) := fnSc_of (by decide +kernel)
theorem bd_of_pictures : Bnd "of_pictures" "of_pictures" (defArgs s_of_pictures) (defBody s_of_pictures) (defScope s_of_pictures) ["picture", "aside", "deed", "n"] := fun _ _ _ _ _ _ us hl => match us, hl with | [_, _, _, _], _ => by kernel_rfl
theorem sc_want_deed : FnScope ["deed", "more"] ["deed", "more"] (defScope s_want_deed) := fnSc_of (by decide +kernel)
theorem bd_want_deed : Bnd "want_deed" "want_deed" (defArgs s_want_deed) (defBody s_want_deed) (defScope s_want_deed) ["deed", "more"] := fun _ _ _ _ _ _ us hl => match us, hl with | [_, _], _ => by kernel_rfl
theorem sc_made : FnScope ["picture", "aside", "deed", "n"] ["picture", "aside", "deed", "n"] (defScope s_made) := fnSc_of (by decide +kernel)
theorem bd_made : Bnd "made" "made" (defArgs s_made) (defBody s_made) (defScope s_made) ["picture", "aside", "deed", "n"] := fun _ _ _ _ _ _ us hl => match us, hl with | [_, _, _, _], _ => by kernel_rfl
theorem sc_aside_behind : FnScope ["picture", "aside", "deed"] ["picture", "aside", "deed"] (defScope s_aside_behind) := fnSc_of (by decide +kernel)
theorem bd_aside_behind : Bnd "aside_behind" "aside_behind" (defArgs s_aside_behind) (defBody s_aside_behind) (defScope s_aside_behind) ["picture", "aside", "deed"] := fun _ _ _ _ _ _ us hl => match us, hl with | [_, _, _], _ => by kernel_rfl
theorem sc_History_init : FnScope ["self", "budget"] ["self", "budget"] (defScope s_History_init) := fnSc_of (by decide +kernel)
theorem bd_History_init : Bnd "__init__" "History.__init__" (defArgs s_History_init) (defBody s_History_init) (defScope s_History_init) ["self", "budget"] := fun _ _ _ _ _ _ us hl => match us, hl with | [_, _], _ => by kernel_rfl
theorem sc_History_total : FnScope ["self", "picture", "cost"] ["self"] (defScope s_History_total) := fnSc_of (by decide +kernel)
theorem bd_History_total : Bnd "total" "History.total" (defArgs s_History_total) (defBody s_History_total) (defScope s_History_total) ["self"] := fun _ _ _ _ _ _ us hl => match us, hl with | [_], _ => by kernel_rfl
theorem sc_History_keep : FnScope ["self", "picture", "cost", "left", "found", "state"] ["self", "picture", "cost"] (defScope s_History_keep) := fnSc_of (by decide +kernel)
theorem bd_History_keep : Bnd "keep" "History.keep" (defArgs s_History_keep) (defBody s_History_keep) (defScope s_History_keep) ["self", "picture", "cost"] := fun _ _ _ _ _ _ us hl => match us, hl with | [_, _, _], _ => by kernel_rfl
theorem sc_History_do : FnScope ["self", "picture", "cost"] ["self", "picture", "cost"] (defScope s_History_do) := fnSc_of (by decide +kernel)
theorem bd_History_do : Bnd "do" "History.do" (defArgs s_History_do) (defBody s_History_do) (defScope s_History_do) ["self", "picture", "cost"] := fun _ _ _ _ _ _ us hl => match us, hl with | [_, _, _], _ => by kernel_rfl
theorem sc_History_undo : FnScope ["self", "picture", "elder", "cost"] ["self", "picture"] (defScope s_History_undo) := fnSc_of (by decide +kernel)
theorem bd_History_undo : Bnd "undo" "History.undo" (defArgs s_History_undo) (defBody s_History_undo) (defScope s_History_undo) ["self", "picture"] := fun _ _ _ _ _ _ us hl => match us, hl with | [_, _], _ => by kernel_rfl
theorem sc_History_redo : FnScope ["self", "picture", "other", "cost"] ["self", "picture"] (defScope s_History_redo) := fnSc_of (by decide +kernel)
theorem bd_History_redo : Bnd "redo" "History.redo" (defArgs s_History_redo) (defBody s_History_redo) (defScope s_History_redo) ["self", "picture"] := fun _ _ _ _ _ _ us hl => match us, hl with | [_, _], _ => by kernel_rfl
theorem sc_Editor_init : FnScope ["self"] ["self"] (defScope s_Editor_init) := fnSc_of (by decide +kernel)
theorem bd_Editor_init : Bnd "__init__" "Editor.__init__" (defArgs s_Editor_init) (defBody s_Editor_init) (defScope s_Editor_init) ["self"] := fun _ _ _ _ _ _ us hl => match us, hl with | [_], _ => by kernel_rfl
theorem sc_Editor_put : FnScope ["self", "wide", "high", "budget", "colours"] ["self", "wide", "high", "budget", "colours"] (defScope s_Editor_put) := fnSc_of (by decide +kernel)
theorem bd_Editor_put : Bnd "put" "Editor.put" (defArgs s_Editor_put) (defBody s_Editor_put) (defScope s_Editor_put) ["self", "wide", "high", "budget", "colours"] := fun _ _ _ _ _ _ us hl => match us, hl with | [_, _, _, _, _], _ => by kernel_rfl
theorem sc_Editor_begin : FnScope ["self", "wide", "high", "budget", "colours", "colour"] ["self", "wide", "high", "budget", "colours"] (defScope s_Editor_begin) := fnSc_of (by decide +kernel)
theorem bd_Editor_begin : Bnd "begin" "Editor.begin" (defArgs s_Editor_begin) (defBody s_Editor_begin) (defScope s_Editor_begin) ["self", "wide", "high", "budget", "colours"] := fun _ _ _ _ _ _ us hl => match us, hl with | [_, _, _, _, _], _ => by kernel_rfl
theorem sc_Editor_do : FnScope ["self", "deed", "more", "elder", "other", "price"] ["self", "deed", "more"] (defScope s_Editor_do) := fnSc_of (by decide +kernel)
theorem bd_Editor_do : Bnd "do" "Editor.do" (defArgs s_Editor_do) (defBody s_Editor_do) (defScope s_Editor_do) ["self", "deed", "more"] := fun _ _ _ _ _ _ us hl => match us, hl with | [_, _, _], _ => by kernel_rfl
theorem sc_Editor_act : FnScope ["self", "deed", "more", "price"] ["self", "deed", "more"] (defScope s_Editor_act) := fnSc_of (by decide +kernel)
theorem bd_Editor_act : Bnd "act" "Editor.act" (defArgs s_Editor_act) (defBody s_Editor_act) (defScope s_Editor_act) ["self", "deed", "more"] := fun _ _ _ _ _ _ us hl => match us, hl with | [_, _, _], _ => by kernel_rfl
theorem sc_Editor_told_history : FnScope ["self"] ["self"] (defScope s_Editor_told_history) := fnSc_of (by decide +kernel)
theorem bd_Editor_told_history : Bnd "told_history" "Editor.told_history" (defArgs s_Editor_told_history) (defBody s_Editor_told_history) (defScope s_Editor_told_history) ["self"] := fun _ _ _ _ _ _ us hl => match us, hl with | [_], _ => by kernel_rfl
theorem sc_Editor_undo : FnScope ["self"] ["self"] (defScope s_Editor_undo) := fnSc_of (by decide +kernel)
theorem bd_Editor_undo : Bnd "undo" "Editor.undo" (defArgs s_Editor_undo) (defBody s_Editor_undo) (defScope s_Editor_undo) ["self"] := fun _ _ _ _ _ _ us hl => match us, hl with | [_], _ => by kernel_rfl
theorem sc_Editor_redo : FnScope ["self"] ["self"] (defScope s_Editor_redo) := fnSc_of (by decide +kernel)
theorem bd_Editor_redo : Bnd "redo" "Editor.redo" (defArgs s_Editor_redo) (defBody s_Editor_redo) (defScope s_Editor_redo) ["self"] := fun _ _ _ _ _ _ us hl => match us, hl with | [_], _ => by kernel_rfl
theorem sc_Editor_row_places : FnScope ["self", "y", "x"] ["self", "y"] (defScope s_Editor_row_places) := fnSc_of (by decide +kernel)
theorem bd_Editor_row_places : Bnd "row_places" "Editor.row_places" (defArgs s_Editor_row_places) (defBody s_Editor_row_places) (defScope s_Editor_row_places) ["self", "y"] := fun _ _ _ _ _ _ us hl => match us, hl with | [_, _], _ => by kernel_rfl
theorem sc_Editor_row : FnScope ["self", "y", "places", "found", "place"] ["self", "y"] (defScope s_Editor_row) := fnSc_of (by decide +kernel)
theorem bd_Editor_row : Bnd "row" "Editor.row" (defArgs s_Editor_row) (defBody s_Editor_row) (defScope s_Editor_row) ["self", "y"] := fun _ _ _ _ _ _ us hl => match us, hl with | [_, _], _ => by kernel_rfl
theorem sc_Editor_own_row : FnScope ["self", "y", "places", "found", "place"] ["self", "y"] (defScope s_Editor_own_row) := fnSc_of (by decide +kernel)
theorem bd_Editor_own_row : Bnd "own_row" "Editor.own_row" (defArgs s_Editor_own_row) (defBody s_Editor_own_row) (defScope s_Editor_own_row) ["self", "y"] := fun _ _ _ _ _ _ us hl => match us, hl with | [_, _], _ => by kernel_rfl
theorem sc_Editor_chosen_row : FnScope ["self", "y", "places", "place"] ["self", "y"] (defScope s_Editor_chosen_row) := fnSc_of (by decide +kernel)
theorem bd_Editor_chosen_row : Bnd "chosen_row" "Editor.chosen_row" (defArgs s_Editor_chosen_row) (defBody s_Editor_chosen_row) (defScope s_Editor_chosen_row) ["self", "y"] := fun _ _ _ _ _ _ us hl => match us, hl with | [_, _], _ => by kernel_rfl
theorem sc_Editor_listed : FnScope ["self", "found", "layer"] ["self"] (defScope s_Editor_listed) := fnSc_of (by decide +kernel)
theorem bd_Editor_listed : Bnd "listed" "Editor.listed" (defArgs s_Editor_listed) (defBody s_Editor_listed) (defScope s_Editor_listed) ["self"] := fun _ _ _ _ _ _ us hl => match us, hl with | [_], _ => by kernel_rfl
theorem sc_Editor_history : FnScope ["self"] ["self"] (defScope s_Editor_history) := fnSc_of (by decide +kernel)
theorem bd_Editor_history : Bnd "history" "Editor.history" (defArgs s_Editor_history) (defBody s_Editor_history) (defScope s_Editor_history) ["self"] := fun _ _ _ _ _ _ us hl => match us, hl with | [_], _ => by kernel_rfl
theorem sc_Editor_copy : FnScope ["self"] ["self"] (defScope s_Editor_copy) := fnSc_of (by decide +kernel)
theorem bd_Editor_copy : Bnd "copy" "Editor.copy" (defArgs s_Editor_copy) (defBody s_Editor_copy) (defScope s_Editor_copy) ["self"] := fun _ _ _ _ _ _ us hl => match us, hl with | [_], _ => by kernel_rfl
theorem sc_Editor_record : FnScope ["self"] ["self"] (defScope s_Editor_record) := fnSc_of (by decide +kernel)
theorem bd_Editor_record : Bnd "record" "Editor.record" (defArgs s_Editor_record) (defBody s_Editor_record) (defScope s_Editor_record) ["self"] := fun _ _ _ _ _ _ us hl => match us, hl with | [_], _ => by kernel_rfl
theorem sc_Editor_stop : FnScope ["self"] ["self"] (defScope s_Editor_stop) := fnSc_of (by decide +kernel)
theorem bd_Editor_stop : Bnd "stop" "Editor.stop" (defArgs s_Editor_stop) (defBody s_Editor_stop) (defScope s_Editor_stop) ["self"] := fun _ _ _ _ _ _ us hl => match us, hl with | [_], _ => by kernel_rfl
theorem sc_Editor_play : FnScope ["self", "many", "deed", "more"] ["self"] (defScope s_Editor_play) := fnSc_of (by decide +kernel)
theorem bd_Editor_play : Bnd "play" "Editor.play" (defArgs s_Editor_play) (defBody s_Editor_play) (defScope s_Editor_play) ["self"] := fun _ _ _ _ _ _ us hl => match us, hl with | [_], _ => by kernel_rfl
theorem sc_Editor_of_deeds : FnScope ["self", "call", "n", "row"] ["self", "call", "n", "row"] (defScope s_Editor_of_deeds) := fnSc_of (by decide +kernel)
theorem bd_Editor_of_deeds : Bnd "of_deeds" "Editor.of_deeds" (defArgs s_Editor_of_deeds) (defBody s_Editor_of_deeds) (defScope s_Editor_of_deeds) ["self", "call", "n", "row"] := fun _ _ _ _ _ _ us hl => match us, hl with | [_, _, _, _], _ => by kernel_rfl
theorem sc_Editor_of_looks : FnScope ["self", "call", "n"] ["self", "call", "n"] (defScope s_Editor_of_looks) := fnSc_of (by decide +kernel)
theorem bd_Editor_of_looks : Bnd "of_looks" "Editor.of_looks" (defArgs s_Editor_of_looks) (defBody s_Editor_of_looks) (defScope s_Editor_of_looks) ["self", "call", "n"] := fun _ _ _ _ _ _ us hl => match us, hl with | [_, _, _], _ => by kernel_rfl
theorem sc_Editor_of_records : FnScope ["self", "call"] ["self", "call"] (defScope s_Editor_of_records) := fnSc_of (by decide +kernel)
theorem bd_Editor_of_records : Bnd "of_records" "Editor.of_records" (defArgs s_Editor_of_records) (defBody s_Editor_of_records) (defScope s_Editor_of_records) ["self", "call"] := fun _ _ _ _ _ _ us hl => match us, hl with | [_, _], _ => by kernel_rfl
theorem sc_Editor_answer : FnScope ["self", "call", "numbers", "row", "e"] ["self", "call", "numbers", "row"] (defScope s_Editor_answer) := fnSc_of (by decide +kernel)
theorem bd_Editor_answer : Bnd "answer" "Editor.answer" (defArgs s_Editor_answer) (defBody s_Editor_answer) (defScope s_Editor_answer) ["self", "call", "numbers", "row"] := fun _ _ _ _ _ _ us hl => match us, hl with | [_, _, _, _], _ => by kernel_rfl
theorem sc_answers : FnScope ["calls", "editor", "found", "at", "call", "end", "numbers", "row", "told"] ["calls"] (defScope s_answers) := fnSc_of (by decide +kernel)
theorem bd_answers : Bnd "answers" "answers" (defArgs s_answers) (defBody s_answers) (defScope s_answers) ["calls"] := fun _ _ _ _ _ _ us hl => match us, hl with | [_], _ => by kernel_rfl
end Lp
set_option Elab.async false
set_option linter.all false
set_option maxRecDepth 100000
set_option maxHeartbeats 4000000
/-! How pictures, layers, dots, fractions lie in the heap. -/
namespace Lp
open PySem PySem.Spec PyProof.Rows L2 Evl
theorem lk_here {k : Str} {v : V} {r : List (Str × V)} : List.lookup k ((k, v) :: r) = some v := by
  have e : (k == k) = true := beq_self_eq_true k
  simp only [List.lookup, e]
theorem lk_past {k g : Str} {v : V} {r : List (Str × V)} (h : (k == g) = false) : List.lookup k ((g, v) :: r) = List.lookup k r := by
  simp only [List.lookup, h]
abbrev CL (K : PySem.W.Frag) : Addr := He.ga K "Layer"
abbrev CP (K : PySem.W.Frag) : Addr := He.ga K "Picture"
abbrev CH (K : PySem.W.Frag) : Addr := He.ga K "History"
abbrev CE (K : PySem.W.Frag) : Addr := He.ga K "Editor"
abbrev CR (K : PySem.W.Frag) : Addr := He.ga K "Refused"
/-! ### promises by the number of arguments -/
def P1 (f : V → Hp → VK → XK → Prop) : Sp := fun vs H Q E => ∃ a, vs = [a] ∧ f a H Q E
def P2 (f : V → V → Hp → VK → XK → Prop) : Sp := fun vs H Q E => ∃ a b, vs = [a, b] ∧ f a b H Q E
def P3 (f : V → V → V → Hp → VK → XK → Prop) : Sp := fun vs H Q E => ∃ a b c, vs = [a, b, c] ∧ f a b c H Q E
def P4 (f : V → V → V → V → Hp → VK → XK → Prop) : Sp := fun vs H Q E => ∃ a b c d, vs = [a, b, c, d] ∧ f a b c d H Q E
def P5 (f : V → V → V → V → V → Hp → VK → XK → Prop) : Sp := fun vs H Q E => ∃ a b c d e, vs = [a, b, c, d, e] ∧ f a b c d e H Q E
def P6 (f : V → V → V → V → V → V → Hp → VK → XK → Prop) : Sp := fun vs H Q E => ∃ a b c d e g, vs = [a, b, c, d, e, g] ∧ f a b c d e g H Q E
def P7 (f : V → V → V → V → V → V → V → Hp → VK → XK → Prop) : Sp := fun vs H Q E => ∃ a b c d e g i, vs = [a, b, c, d, e, g, i] ∧ f a b c d e g i H Q E
theorem P1.len {f} : ∀ vs H Q E, P1 f vs H Q E → vs.length = 1 := fun _ _ _ _ ⟨_, e, _⟩ => by rw [e] <;> rfl
theorem P2.len {f} : ∀ vs H Q E, P2 f vs H Q E → vs.length = 2 := fun _ _ _ _ ⟨_, _, e, _⟩ => by rw [e] <;> rfl
theorem P3.len {f} : ∀ vs H Q E, P3 f vs H Q E → vs.length = 3 := fun _ _ _ _ ⟨_, _, _, e, _⟩ => by rw [e] <;> rfl
theorem P4.len {f} : ∀ vs H Q E, P4 f vs H Q E → vs.length = 4 := fun _ _ _ _ ⟨_, _, _, _, e, _⟩ => by rw [e] <;> rfl
theorem P5.len {f} : ∀ vs H Q E, P5 f vs H Q E → vs.length = 5 := fun _ _ _ _ ⟨_, _, _, _, _, e, _⟩ => by rw [e] <;> rfl
theorem P6.len {f} : ∀ vs H Q E, P6 f vs H Q E → vs.length = 6 := fun _ _ _ _ ⟨_, _, _, _, _, _, e, _⟩ => by rw [e] <;> rfl
theorem P7.len {f} : ∀ vs H Q E, P7 f vs H Q E → vs.length = 7 := fun _ _ _ _ ⟨_, _, _, _, _, _, _, e, _⟩ => by rw [e] <;> rfl
/-- hands back something of which R holds; nothing that was tracked changes -/
def Gives (R : V → Hp → Prop) (H : Hp) (Q : VK) : Prop := ∀ v H', Ex H H' → R v H' → Q v H'
/-! ### dots -/
section
variable (K : PySem.W.Frag)
def DotAt (H : Hp) (v : V) (d : Nat × Nat) : Prop := ∃ r, v = .ref r ∧ SqT K H r [.int (d.1 : Int), .int (d.2 : Int)]
def FrAt (H : Hp) (v : V) (f : Sq49.Frac) : Prop := ∃ r, v = .ref r ∧ SqT K H r [.int (f.n : Int), .int (f.d : Int)]
def DotsAt (H : Hp) (a : Addr) (ds : List (Nat × Nat)) : Prop := ∃ vs, H a = some (.lst vs) ∧ Paired (DotAt K H) vs ds
def lF (l : Sq50.Layer) (aD : Addr) : List (Str × V) := [("number", .int (l.id : Int)), ("seen", .int (if l.seen = true then 1 else 0)), ("strong", .int (l.strong : Int)), ("way", .int (l.way : Int)), ("dots", .ref aD)]
structure LayA (H : Hp) (a : Addr) (l : Sq50.Layer) (aD : Addr) : Prop where
  obj : ∃ dx, H a = some (.ins (CL K) dx (lF l aD))
  dots : DotsAt K H aD l.dots
def LayAt (H : Hp) (v : V) (l : Sq50.Layer) : Prop := ∃ a aD, v = .ref a ∧ LayA K H a l aD
def LaysAt (H : Hp) (a : Addr) (ls : List Sq50.Layer) : Prop := ∃ vs, H a = some (.lst vs) ∧ Paired (LayAt K H) vs ls
def pF (s : Sq50.State) (aL aC : Addr) : List (Str × V) := [("wide", .int (s.w : Int)), ("high", .int (s.h : Int)), ("layers", .ref aL), ("working", .int (s.on : Int)), ("chosen", .ref aC), ("following", .int (s.next : Int))]
structure PicA (H : Hp) (a : Addr) (s : Sq50.State) (aL aC : Addr) : Prop where
  obj : ∃ dx, H a = some (.ins (CP K) dx (pF s aL aC))
  lay : LaysAt K H aL s.layers
  cho : H aC = some (.lst (s.chosen.map V.bl))
def PicAt (H : Hp) (v : V) (s : Sq50.State) : Prop := ∃ a aL aC, v = .ref a ∧ PicA K H a s aL aC
end
section
variable {K : PySem.W.Frag} {H H' : Hp} {v : V} {a aL aC aD : Addr} {s : Sq50.State} {l : Sq50.Layer}
theorem DotAt.ex {d : Nat × Nat} (h : DotAt K H v d) (e : Ex H H') : DotAt K H' v d := by
  obtain ⟨r, h1, h2⟩ := h
  exact ⟨r, h1, ex_t e h2⟩
theorem FrAt.ex {f : Sq49.Frac} (h : FrAt K H v f) (e : Ex H H') : FrAt K H' v f := by
  obtain ⟨r, h1, h2⟩ := h
  exact ⟨r, h1, ex_t e h2⟩
theorem DotsAt.ex {ds : List (Nat × Nat)} (h : DotsAt K H a ds) (e : Ex H H') : DotsAt K H' a ds := by
  obtain ⟨vs, h1, h2⟩ := h
  exact ⟨vs, e _ _ h1, L2.Paired.mapP h2 fun _ _ z => z.ex e⟩
theorem LayA.ex (h : LayA K H a l aD) (e : Ex H H') : LayA K H' a l aD := by
  obtain ⟨⟨dx, h1⟩, h2⟩ := h
  exact ⟨⟨dx, e _ _ h1⟩, h2.ex e⟩
theorem LayAt.ex (h : LayAt K H v l) (e : Ex H H') : LayAt K H' v l := by
  obtain ⟨a, aD, h1, h2⟩ := h
  exact ⟨a, aD, h1, h2.ex e⟩
theorem LaysAt.ex {ls : List Sq50.Layer} (h : LaysAt K H a ls) (e : Ex H H') : LaysAt K H' a ls := by
  obtain ⟨vs, h1, h2⟩ := h
  exact ⟨vs, e _ _ h1, L2.Paired.mapP h2 fun _ _ z => z.ex e⟩
theorem PicA.ex (h : PicA K H a s aL aC) (e : Ex H H') : PicA K H' a s aL aC := by
  obtain ⟨⟨dx, h1⟩, h2, h3⟩ := h
  exact ⟨⟨dx, e _ _ h1⟩, h2.ex e, e _ _ h3⟩
theorem PicAt.ex (h : PicAt K H v s) (e : Ex H H') : PicAt K H' v s := by
  obtain ⟨a, aL, aC, h1, h2⟩ := h
  exact ⟨a, aL, aC, h1, h2.ex e⟩
theorem FrAt.mono {f : Sq49.Frac} : Mono (fun v H => FrAt K H v f) := fun _ _ _ e h => h.ex e
theorem PicAt.mono : Mono (fun v H => PicAt K H v s) := fun _ _ _ e h => h.ex e
theorem LayAt.mono : Mono (fun v H => LayAt K H v l) := fun _ _ _ e h => h.ex e
theorem DotAt.mono {d : Nat × Nat} : Mono (fun v H => DotAt K H v d) := fun _ _ _ e h => h.ex e
end
/-! ### fields -/
section
variable {K : PySem.W.Frag} {mg : Str → Option Value} (T : Tx K mg) {H : Hp} {a aL aC aD : Addr} {s : Sq50.State} {l : Sq50.Layer} {σ : L2.St} {te : TE}
theorem pF_wide : (pF s aL aC).lookup ("wide" : Str) = some (.int (s.w : Int)) := lk_here
theorem pF_high : (pF s aL aC).lookup ("high" : Str) = some (.int (s.h : Int)) := (lk_past (by decide +kernel)).trans lk_here
theorem pF_layers : (pF s aL aC).lookup ("layers" : Str) = some (.ref aL) := (lk_past (by decide +kernel)).trans ((lk_past (by decide +kernel)).trans lk_here)
theorem pF_working : (pF s aL aC).lookup ("working" : Str) = some (.int (s.on : Int)) := (lk_past (by decide +kernel)).trans ((lk_past (by decide +kernel)).trans ((lk_past (by decide +kernel)).trans lk_here))
theorem pF_chosen : (pF s aL aC).lookup ("chosen" : Str) = some (.ref aC) := (lk_past (by decide +kernel)).trans ((lk_past (by decide +kernel)).trans ((lk_past (by decide +kernel)).trans ((lk_past (by decide +kernel)).trans lk_here)))
theorem pF_following : (pF s aL aC).lookup ("following" : Str) = some (.int (s.next : Int)) := (lk_past (by decide +kernel)).trans ((lk_past (by decide +kernel)).trans ((lk_past (by decide +kernel)).trans ((lk_past (by decide +kernel)).trans ((lk_past (by decide +kernel)).trans lk_here))))
/-- no field bears a method's name -/
theorem pF_no {m : Str} (h : ((m == ("wide" : Str)) || ((m == ("high" : Str)) || ((m == ("layers" : Str)) || ((m == ("working" : Str)) || ((m == ("chosen" : Str)) || (m == ("following" : Str))))))) = false) : (pF s aL aC).lookup m = none := by
  simp only [Bool.or_eq_false_iff] at h
  obtain ⟨h1, h2, h3, h4, h5, h6⟩ := h
  exact (lk_past h1).trans ((lk_past h2).trans ((lk_past h3).trans ((lk_past h4).trans ((lk_past h5).trans ((lk_past h6).trans rfl)))))
theorem lF_number : (lF l aD).lookup ("number" : Str) = some (.int (l.id : Int)) := lk_here
theorem lF_seen : (lF l aD).lookup ("seen" : Str) = some (.int (if l.seen = true then 1 else 0)) := (lk_past (by decide +kernel)).trans lk_here
theorem lF_strong : (lF l aD).lookup ("strong" : Str) = some (.int (l.strong : Int)) := (lk_past (by decide +kernel)).trans ((lk_past (by decide +kernel)).trans lk_here)
theorem lF_way : (lF l aD).lookup ("way" : Str) = some (.int (l.way : Int)) := (lk_past (by decide +kernel)).trans ((lk_past (by decide +kernel)).trans ((lk_past (by decide +kernel)).trans lk_here))
theorem lF_dots : (lF l aD).lookup ("dots" : Str) = some (.ref aD) := (lk_past (by decide +kernel)).trans ((lk_past (by decide +kernel)).trans ((lk_past (by decide +kernel)).trans ((lk_past (by decide +kernel)).trans lk_here)))
theorem lF_with : (lF l aD).lookup ("with_dots" : Str) = none := (lk_past (by decide +kernel)).trans ((lk_past (by decide +kernel)).trans ((lk_past (by decide +kernel)).trans ((lk_past (by decide +kernel)).trans ((lk_past (by decide +kernel)).trans rfl))))
include T
theorem ev_wide (ho : Ev te σ H (.ref a)) (h : PicA K H a s aL aC) : Ev (tFld K te "wide") σ H (.int (s.w : Int)) := by
  obtain ⟨⟨dx, h1⟩, _⟩ := h
  exact ev_fld ho h1 T.c_Picture T.n_Picture_wide pF_wide
theorem ev_high (ho : Ev te σ H (.ref a)) (h : PicA K H a s aL aC) : Ev (tFld K te "high") σ H (.int (s.h : Int)) := by
  obtain ⟨⟨dx, h1⟩, _⟩ := h
  exact ev_fld ho h1 T.c_Picture T.n_Picture_high pF_high
theorem ev_layers (ho : Ev te σ H (.ref a)) (h : PicA K H a s aL aC) : Ev (tFld K te "layers") σ H (.ref aL) := by
  obtain ⟨⟨dx, h1⟩, _⟩ := h
  exact ev_fld ho h1 T.c_Picture T.n_Picture_layers pF_layers
theorem ev_working (ho : Ev te σ H (.ref a)) (h : PicA K H a s aL aC) : Ev (tFld K te "working") σ H (.int (s.on : Int)) := by
  obtain ⟨⟨dx, h1⟩, _⟩ := h
  exact ev_fld ho h1 T.c_Picture T.n_Picture_working pF_working
theorem ev_chosen (ho : Ev te σ H (.ref a)) (h : PicA K H a s aL aC) : Ev (tFld K te "chosen") σ H (.ref aC) := by
  obtain ⟨⟨dx, h1⟩, _⟩ := h
  exact ev_fld ho h1 T.c_Picture T.n_Picture_chosen pF_chosen
theorem ev_following (ho : Ev te σ H (.ref a)) (h : PicA K H a s aL aC) : Ev (tFld K te "following") σ H (.int (s.next : Int)) := by
  obtain ⟨⟨dx, h1⟩, _⟩ := h
  exact ev_fld ho h1 T.c_Picture T.n_Picture_following pF_following
theorem ev_number (ho : Ev te σ H (.ref a)) (h : LayA K H a l aD) : Ev (tFld K te "number") σ H (.int (l.id : Int)) := by
  obtain ⟨⟨dx, h1⟩, _⟩ := h
  exact ev_fld ho h1 T.c_Layer T.n_Layer_number lF_number
theorem ev_seen (ho : Ev te σ H (.ref a)) (h : LayA K H a l aD) : Ev (tFld K te "seen") σ H (.int (if l.seen = true then 1 else 0)) := by
  obtain ⟨⟨dx, h1⟩, _⟩ := h
  exact ev_fld ho h1 T.c_Layer T.n_Layer_seen lF_seen
theorem ev_strong (ho : Ev te σ H (.ref a)) (h : LayA K H a l aD) : Ev (tFld K te "strong") σ H (.int (l.strong : Int)) := by
  obtain ⟨⟨dx, h1⟩, _⟩ := h
  exact ev_fld ho h1 T.c_Layer T.n_Layer_strong lF_strong
theorem ev_way (ho : Ev te σ H (.ref a)) (h : LayA K H a l aD) : Ev (tFld K te "way") σ H (.int (l.way : Int)) := by
  obtain ⟨⟨dx, h1⟩, _⟩ := h
  exact ev_fld ho h1 T.c_Layer T.n_Layer_way lF_way
theorem ev_dots (ho : Ev te σ H (.ref a)) (h : LayA K H a l aD) : Ev (tFld K te "dots") σ H (.ref aD) := by
  obtain ⟨⟨dx, h1⟩, _⟩ := h
  exact ev_fld ho h1 T.c_Layer T.n_Layer_dots lF_dots
/-- a method of a picture -/
theorem evp_pm {ta : TA} {sp : Sp} {E : XK} {m : Str} {vs : List V} {R : V → Hp → Prop} (ho : Ev te σ H (.ref a)) (h : PicA K H a s aL aC) (ha : EvA ta σ H vs) (hs : ∀ H1, Ex H H1 → SpR sp (.ref a :: vs) H1 R)
    (hm : ((m == ("wide" : Str)) || ((m == ("high" : Str)) || ((m == ("layers" : Str)) || ((m == ("working" : Str)) || ((m == ("chosen" : Str)) || (m == ("following" : Str))))))) = false := by decide +kernel) : EvP (tMeth (CP K) m sp [] E te ta) σ H R := by
  obtain ⟨⟨dx, h1⟩, _⟩ := h
  exact evp_methA ho h1 (pF_no hm) ha hs
end
end Lp
set_option Elab.async false
set_option linter.all false
/-! Fractions: plain Lean. -/
namespace Lp
open Sq49 (Frac frac)
structure Bd (m : Nat) (f : Frac) : Prop where
  n : f.n < 2 ^ m
  d : f.d < 2 ^ m
  p : 0 < f.d
theorem Bd.le {m k : Nat} {f : Frac} (h : Bd m f) (e : m ≤ k) : Bd k f := ⟨Nat.lt_of_lt_of_le h.n (Nat.pow_le_pow_right (by decide) e), Nat.lt_of_lt_of_le h.d (Nat.pow_le_pow_right (by decide) e), h.p⟩
theorem frac_gcd (n d : Nat) (hd : 0 < d) : frac n d = ⟨n / Nat.gcd n d, d / Nat.gcd n d⟩ := by
  unfold frac
  split
  · rename_i h
    subst h
    rw [Nat.gcd_zero_left, Nat.div_self hd, Nat.zero_div]
  · rfl
theorem gcd_pos_r {n d : Nat} (hd : 0 < d) : 0 < Nat.gcd n d := Nat.gcd_pos_of_pos_right _ hd
theorem frac_bd {n d m : Nat} (hn : n < 2 ^ m) (hd : d < 2 ^ m) (hp : 0 < d) : Bd m (frac n d) := by
  rw [frac_gcd n d hp]
  have g := gcd_pos_r (n := n) hp
  exact ⟨Nat.lt_of_le_of_lt (Nat.div_le_self _ _) hn, Nat.lt_of_le_of_lt (Nat.div_le_self _ _) hd, Nat.div_pos (Nat.le_of_dvd hp (Nat.gcd_dvd_right _ _)) g⟩
theorem mul_lt2 {a b m n : Nat} (ha : a < 2 ^ m) (hb : b < 2 ^ n) : a * b < 2 ^ (m + n) := by
  rw [Nat.pow_add]
  exact Nat.mul_lt_mul'' ha hb
theorem add_lt2 {a b m : Nat} (ha : a < 2 ^ m) (hb : b < 2 ^ m) : a + b < 2 ^ (m + 1) := by
  rw [Nat.pow_succ]
  omega
theorem lt_up {a m k : Nat} (h : a < 2 ^ m) (e : m ≤ k) : a < 2 ^ k := Nat.lt_of_lt_of_le h (Nat.pow_le_pow_right (by decide) e)
theorem Bd.add {m k : Nat} {x y : Frac} (a : Bd m x) (b : Bd k y) : Bd (m + k + 1) (x.add y) :=
  frac_bd (add_lt2 (mul_lt2 a.n b.d) (by rw [Nat.add_comm m k]; exact mul_lt2 b.n a.d)) (lt_up (mul_lt2 a.d b.d) (by omega)) (Nat.mul_pos a.p b.p)
theorem Bd.mul {m k : Nat} {x y : Frac} (a : Bd m x) (b : Bd k y) : Bd (m + k) (x.mul y) := frac_bd (mul_lt2 a.n b.n) (mul_lt2 a.d b.d) (Nat.mul_pos a.p b.p)
theorem Bd.by_ {m k : Nat} {x y : Frac} (a : Bd m x) (b : Bd k y) (hy : 0 < y.n) : Bd (m + k) (x.by_ y) := frac_bd (mul_lt2 a.n b.d) (mul_lt2 a.d b.n) (Nat.mul_pos a.p hy)
/-- how far apart -/
def fApart (a b : Frac) : Frac := frac ((a.n * b.d - b.n * a.d) + (b.n * a.d - a.n * b.d)) (a.d * b.d)
theorem dist_le {a b M : Nat} (ha : a < M) (hb : b < M) : (a - b) + (b - a) < M := by omega
theorem Bd.apart {m k : Nat} {x y : Frac} (a : Bd m x) (b : Bd k y) : Bd (m + k) (fApart x y) :=
  frac_bd (dist_le (mul_lt2 a.n b.d) (by rw [Nat.add_comm m k]; exact mul_lt2 b.n a.d)) (mul_lt2 a.d b.d) (Nat.mul_pos a.p b.p)
/-- together, less the product -/
def fEither (a b : Frac) : Frac := fApart (a.add b) (a.mul b)
theorem Bd.either {m k : Nat} {x y : Frac} (a : Bd m x) (b : Bd k y) : Bd (2 * m + 2 * k + 1) (fEither x y) := ((a.add b).apart (a.mul b)).le (by omega)
def fMore (a b : Frac) : Bool := decide (b.n * a.d < a.n * b.d)
/-- what two colours make -/
def fMix (way : Nat) (u l : Frac) : Frac := if way = 0 then u else if way = 1 then l.mul u else if way = 2 then fEither l u else if way = 3 then (if fMore u l = true then l else u) else if way = 4 then (if fMore u l = true then u else l) else
  if way = 5 then fApart l u else (if fMore (l.add u) Sq49.one = true then Sq49.one else l.add u)
theorem bd_one : Bd 1 Sq49.one := ⟨by decide, by decide, by decide⟩
theorem bd_zero : Bd 1 Sq49.zero := ⟨by decide, by decide, by decide⟩
theorem Bd.mix {m k way : Nat} {u l : Frac} (a : Bd m u) (b : Bd k l) : Bd (2 * m + 2 * k + 1) (fMix way u l) := by
  unfold fMix
  split
  · exact a.le (by omega)
  split
  · exact (b.mul a).le (by omega)
  split
  · exact (b.either a).le (by omega)
  split
  · split
    · exact b.le (by omega)
    · exact a.le (by omega)
  split
  · split
    · exact a.le (by omega)
    · exact b.le (by omega)
  split
  · exact (b.apart a).le (by omega)
  split
  · exact bd_one.le (by omega)
  · exact (b.add a).le (by omega)
/-- s (covers), S upon b, B -/
def fPut (way : Nat) (s S : Frac) (below : Frac × Frac) : Frac × Frac :=
  let whole := fEither s below.1
  if whole = Sq49.zero then (Sq49.zero, Sq49.zero) else
  (whole, ((((S.mul s).mul (fApart Sq49.one below.1)).add ((below.2.mul below.1).mul (fApart Sq49.one s))).add ((s.mul below.1).mul (fMix way S below.2))).by_ whole)
def fLayer (l : Sq50.Layer) (p : Nat) (below : Frac × Frac) : Frac × Frac :=
  let d := (l.dots[p]?).getD (0, 0)
  fPut l.way (frac (d.2 * l.strong * (if l.seen = true then 1 else 0)) 65025) (frac d.1 255) below
def fPile (ls : List Sq50.Layer) (p : Nat) : Frac × Frac := ls.foldl (fun b l => fLayer l p b) (Sq49.zero, Sq49.zero)
def fDot (ls : List Sq50.Layer) (p : Nat) : Nat × Nat := if Sq49.rounded (fPile ls p).1 = 0 then (0, 0) else (Sq49.rounded (fPile ls p).2, Sq49.rounded (fPile ls p).1)
/-! ### sizes: the cover's stays small -/
theorem frac_dvd {a b N D : Nat} (hb : 0 < b) (h : a * D = N * b) : (frac a b).d ∣ D := by
  rw [frac_gcd a b hb]
  show b / Nat.gcd a b ∣ D
  have g := gcd_pos_r (n := a) hb
  have cop : Nat.Coprime (b / Nat.gcd a b) (a / Nat.gcd a b) := (Nat.coprime_div_gcd_div_gcd g).symm
  refine Nat.Coprime.dvd_of_dvd_mul_left cop ?_
  have e1 : a = Nat.gcd a b * (a / Nat.gcd a b) := (Nat.mul_div_cancel' (Nat.gcd_dvd_left _ _)).symm
  have e2 : b = Nat.gcd a b * (b / Nat.gcd a b) := (Nat.mul_div_cancel' (Nat.gcd_dvd_right _ _)).symm
  have h2 : Nat.gcd a b * (a / Nat.gcd a b * D) = Nat.gcd a b * (b / Nat.gcd a b * N) := by
    rw [← Nat.mul_assoc, ← e1, ← Nat.mul_assoc, ← e2, h, Nat.mul_comm]
  exact ⟨N, Nat.eq_of_mul_eq_mul_left g h2⟩
/-- a fraction hangs on the ratio alone -/
theorem frac_eq {a b N D : Nat} (hb : 0 < b) (hD : 0 < D) (h : a * D = N * b) : frac a b = frac N D := by
  have d1 := frac_dvd hb h
  have d2 := frac_dvd hD h.symm
  rw [frac_gcd a b hb, frac_gcd N D hD] at *
  have g1 := gcd_pos_r (n := a) hb
  have g2 := gcd_pos_r (n := N) hD
  have key : ∀ {x y X Y : Nat}, 0 < y → 0 < Y → Nat.Coprime x y → Nat.Coprime X Y → x * Y = X * y → x = X ∧ y = Y := by
    intro x y X Y hy hY c1 c2 e
    have e1 : y ∣ Y := Nat.Coprime.dvd_of_dvd_mul_left c1.symm ⟨X, by rw [e, Nat.mul_comm]⟩
    have e2 : Y ∣ y := Nat.Coprime.dvd_of_dvd_mul_left c2.symm ⟨x, by rw [← e, Nat.mul_comm]⟩
    have e3 := Nat.dvd_antisymm e1 e2
    subst e3
    exact ⟨Nat.eq_of_mul_eq_mul_right hy e, rfl⟩
  have c1 : Nat.Coprime (a / Nat.gcd a b) (b / Nat.gcd a b) := Nat.coprime_div_gcd_div_gcd g1
  have c2 : Nat.Coprime (N / Nat.gcd N D) (D / Nat.gcd N D) := Nat.coprime_div_gcd_div_gcd g2
  have p1 : 0 < b / Nat.gcd a b := Nat.div_pos (Nat.le_of_dvd hb (Nat.gcd_dvd_right _ _)) g1
  have p2 : 0 < D / Nat.gcd N D := Nat.div_pos (Nat.le_of_dvd hD (Nat.gcd_dvd_right _ _)) g2
  have e1 : a = Nat.gcd a b * (a / Nat.gcd a b) := (Nat.mul_div_cancel' (Nat.gcd_dvd_left _ _)).symm
  have e2 : b = Nat.gcd a b * (b / Nat.gcd a b) := (Nat.mul_div_cancel' (Nat.gcd_dvd_right _ _)).symm
  have e3 : N = Nat.gcd N D * (N / Nat.gcd N D) := (Nat.mul_div_cancel' (Nat.gcd_dvd_left _ _)).symm
  have e4 : D = Nat.gcd N D * (D / Nat.gcd N D) := (Nat.mul_div_cancel' (Nat.gcd_dvd_right _ _)).symm
  generalize Nat.gcd a b = g at *
  generalize Nat.gcd N D = G at *
  generalize a / g = x at *
  generalize b / g = y at *
  generalize N / G = X at *
  generalize D / G = Y at *
  have h2 : (g * G) * (x * Y) = (g * G) * (X * y) := by
    have h3 : (g * x) * (G * Y) = (G * X) * (g * y) := by rw [← e1, ← e2, ← e3, ← e4, h]
    calc (g * G) * (x * Y) = (g * x) * (G * Y) := by ac_rfl
      _ = (G * X) * (g * y) := h3
      _ = (g * G) * (X * y) := by ac_rfl
  obtain ⟨q1, q2⟩ := key p1 p2 c1 c2 (Nat.eq_of_mul_eq_mul_left (Nat.mul_pos g1 g2) h2)
  rw [q1, q2]
theorem frac_d_pos {n d : Nat} (hd : 0 < d) : 0 < (frac n d).d := by
  rw [frac_gcd n d hd]
  exact Nat.div_pos (Nat.le_of_dvd hd (Nat.gcd_dvd_right _ _)) (gcd_pos_r hd)
/-- the ratio -/
theorem frac_cross {n d : Nat} (hd : 0 < d) : (frac n d).n * d = n * (frac n d).d := by
  rw [frac_gcd n d hd]
  have g := gcd_pos_r (n := n) hd
  have e1 : n = Nat.gcd n d * (n / Nat.gcd n d) := (Nat.mul_div_cancel' (Nat.gcd_dvd_left _ _)).symm
  have e2 : d = Nat.gcd n d * (d / Nat.gcd n d) := (Nat.mul_div_cancel' (Nat.gcd_dvd_right _ _)).symm
  show n / Nat.gcd n d * d = n * (d / Nat.gcd n d)
  generalize Nat.gcd n d = G at *
  generalize n / G = x at *
  generalize d / G = y at *
  rw [e1, e2]
  ac_rfl
/-- a reduced fraction -/
def Red (f : Frac) : Prop := 0 < f.d ∧ frac f.n f.d = f
theorem red_frac {n d : Nat} (hd : 0 < d) : Red (frac n d) := ⟨frac_d_pos hd, (frac_eq hd (frac_d_pos hd) (frac_cross hd).symm).symm⟩
theorem red_zero : Red Sq49.zero := ⟨by decide, by decide⟩
theorem red_one : Red Sq49.one := ⟨by decide, by decide⟩
theorem red_ext {x y : Frac} (hx : Red x) (hy : Red y) (h : x.n * y.d = y.n * x.d) : x = y := by
  rw [← hx.2, ← hy.2]
  exact frac_eq hx.1 hy.1 h
section
variable {a b c d : Nat}
theorem add_frac (hb : 0 < b) (hd : 0 < d) : (frac a b).add (frac c d) = frac (a * d + c * b) (b * d) := by
  have h1 := frac_cross (n := a) hb
  have h2 := frac_cross (n := c) hd
  have p1 := frac_d_pos (n := a) hb
  have p2 := frac_d_pos (n := c) hd
  unfold Sq49.Frac.add
  refine frac_eq (Nat.mul_pos p1 p2) (Nat.mul_pos hb hd) ?_
  generalize (frac a b).n = x at *
  generalize (frac a b).d = y at *
  generalize (frac c d).n = u at *
  generalize (frac c d).d = v at *
  calc (x * v + u * y) * (b * d) = (x * b) * (v * d) + (u * d) * (y * b) := by rw [Nat.add_mul]; ac_rfl
    _ = (a * y) * (v * d) + (c * v) * (y * b) := by rw [h1, h2]
    _ = (a * d + c * b) * (y * v) := by rw [Nat.add_mul]; ac_rfl
theorem mul_frac (hb : 0 < b) (hd : 0 < d) : (frac a b).mul (frac c d) = frac (a * c) (b * d) := by
  have h1 := frac_cross (n := a) hb
  have h2 := frac_cross (n := c) hd
  have p1 := frac_d_pos (n := a) hb
  have p2 := frac_d_pos (n := c) hd
  unfold Sq49.Frac.mul
  refine frac_eq (Nat.mul_pos p1 p2) (Nat.mul_pos hb hd) ?_
  generalize (frac a b).n = x at *
  generalize (frac a b).d = y at *
  generalize (frac c d).n = u at *
  generalize (frac c d).d = v at *
  calc (x * u) * (b * d) = (x * b) * (u * d) := by ac_rfl
    _ = (a * y) * (c * v) := by rw [h1, h2]
    _ = (a * c) * (y * v) := by ac_rfl
theorem by_frac (hb : 0 < b) (hd : 0 < d) (hc : 0 < c) : (frac a b).by_ (frac c d) = frac (a * d) (b * c) := by
  have h1 := frac_cross (n := a) hb
  have h2 := frac_cross (n := c) hd
  have p1 := frac_d_pos (n := a) hb
  have p2 := frac_d_pos (n := c) hd
  have p3 : 0 < (frac c d).n := by
    refine Nat.pos_of_ne_zero fun z => ?_
    rw [z, Nat.zero_mul] at h2
    have := Nat.mul_pos hc p2
    omega
  unfold Sq49.Frac.by_
  refine frac_eq (Nat.mul_pos p1 p3) (Nat.mul_pos hb hc) ?_
  generalize (frac a b).n = x at *
  generalize (frac a b).d = y at *
  generalize (frac c d).n = u at *
  generalize (frac c d).d = v at *
  calc (x * v) * (b * c) = (x * b) * (c * v) := by ac_rfl
    _ = (a * y) * (u * d) := by rw [h1, h2]
    _ = (a * d) * (y * u) := by ac_rfl
theorem less_frac (hb : 0 < b) (hd : 0 < d) : (frac a b).less (frac c d) = frac (a * d - c * b) (b * d) := by
  have h1 := frac_cross (n := a) hb
  have h2 := frac_cross (n := c) hd
  have p1 := frac_d_pos (n := a) hb
  have p2 := frac_d_pos (n := c) hd
  unfold Sq49.Frac.less
  refine frac_eq (Nat.mul_pos p1 p2) (Nat.mul_pos hb hd) ?_
  generalize (frac a b).n = x at *
  generalize (frac a b).d = y at *
  generalize (frac c d).n = u at *
  generalize (frac c d).d = v at *
  calc (x * v - u * y) * (b * d) = (x * b) * (v * d) - (u * d) * (y * b) := by rw [Nat.sub_mul]; congr 1 <;> ac_rfl
    _ = (a * y) * (v * d) - (c * v) * (y * b) := by rw [h1, h2]
    _ = (a * d - c * b) * (y * v) := by rw [Nat.sub_mul]; congr 1 <;> ac_rfl
theorem apart_frac (hb : 0 < b) (hd : 0 < d) : fApart (frac a b) (frac c d) = frac ((a * d - c * b) + (c * b - a * d)) (b * d) := by
  have h1 := frac_cross (n := a) hb
  have h2 := frac_cross (n := c) hd
  have p1 := frac_d_pos (n := a) hb
  have p2 := frac_d_pos (n := c) hd
  unfold fApart
  refine frac_eq (Nat.mul_pos p1 p2) (Nat.mul_pos hb hd) ?_
  generalize (frac a b).n = x at *
  generalize (frac a b).d = y at *
  generalize (frac c d).n = u at *
  generalize (frac c d).d = v at *
  calc ((x * v - u * y) + (u * y - x * v)) * (b * d) = ((x * b) * (v * d) - (u * d) * (y * b)) + ((u * d) * (y * b) - (x * b) * (v * d)) := by rw [Nat.add_mul, Nat.sub_mul, Nat.sub_mul]; congr 1 <;> congr 1 <;> ac_rfl
    _ = ((a * y) * (v * d) - (c * v) * (y * b)) + ((c * v) * (y * b) - (a * y) * (v * d)) := by rw [h1, h2]
    _ = ((a * d - c * b) + (c * b - a * d)) * (y * v) := by rw [Nat.add_mul, Nat.sub_mul, Nat.sub_mul]; congr 1 <;> congr 1 <;> ac_rfl
/-- together less the product, in one -/
theorem either_frac (hb : 0 < b) (hd : 0 < d) : fEither (frac a b) (frac c d) = frac ((a * d + c * b - a * c) + (a * c - (a * d + c * b))) (b * d) := by
  unfold fEither
  rw [add_frac hb hd, mul_frac hb hd, apart_frac (Nat.mul_pos hb hd) (Nat.mul_pos hb hd)]
  refine frac_eq (Nat.mul_pos (Nat.mul_pos hb hd) (Nat.mul_pos hb hd)) (Nat.mul_pos hb hd) ?_
  rw [← Nat.sub_mul, ← Nat.sub_mul, ← Nat.add_mul]
  ac_rfl
end
theorem Bd.either2 {m k : Nat} {x y : Frac} (hx : Red x) (hy : Red y) (a : Bd m x) (b : Bd k y) : Bd (m + k + 1) (fEither x y) := by
  rw [← hx.2, ← hy.2, either_frac hx.1 hy.1]
  refine frac_bd ?_ (lt_up (mul_lt2 a.d b.d) (by omega)) (Nat.mul_pos a.p b.p)
  have h1 := mul_lt2 a.n b.d
  have h2 := mul_lt2 b.n a.d
  have h3 := mul_lt2 a.n b.n
  rw [Nat.add_comm k m] at h2
  rw [Nat.pow_succ]
  omega
theorem Bd.mix2 {m k way : Nat} {u l : Frac} (hu : Red u) (hl : Red l) (a : Bd m u) (b : Bd k l) : Bd (m + k + 1) (fMix way u l) := by
  unfold fMix
  split
  · exact a.le (by omega)
  split
  · exact (b.mul a).le (by omega)
  split
  · exact (Bd.either2 hl hu b a).le (by omega)
  split
  · split
    · exact b.le (by omega)
    · exact a.le (by omega)
  split
  · split
    · exact a.le (by omega)
    · exact b.le (by omega)
  split
  · exact (b.apart a).le (by omega)
  split
  · exact bd_one.le (by omega)
  · exact (b.add a).le (by omega)
theorem Red.zero_of {f : Frac} (h : Red f) (z : f.n = 0) : f = Sq49.zero := by
  rw [← h.2, z]
  rfl
theorem red_apart {x y : Frac} (hx : Red x) (hy : Red y) : Red (fApart x y) := red_frac (Nat.mul_pos hx.1 hy.1)
theorem red_add {x y : Frac} (hx : Red x) (hy : Red y) : Red (x.add y) := red_frac (Nat.mul_pos hx.1 hy.1)
theorem red_mul {x y : Frac} (hx : Red x) (hy : Red y) : Red (x.mul y) := red_frac (Nat.mul_pos hx.1 hy.1)
theorem red_less {x y : Frac} (hx : Red x) (hy : Red y) : Red (x.less y) := red_frac (Nat.mul_pos hx.1 hy.1)
theorem red_by {x y : Frac} (hx : Red x) (hy : 0 < y.n) : Red (x.by_ y) := red_frac (Nat.mul_pos hx.1 hy)
theorem red_either {x y : Frac} (hx : Red x) (hy : Red y) : Red (fEither x y) := red_apart (red_add hx hy) (red_mul hx hy)
theorem red_mix {way : Nat} {u l : Frac} (hu : Red u) (hl : Red l) : Red (fMix way u l) := by
  unfold fMix
  repeat' split
  all_goals first | assumption | exact red_mul hl hu | exact red_either hl hu | exact red_apart hl hu | exact red_one | exact red_add hl hu
/-- what a layer more gives stays reduced and small -/
theorem put_ok {way : Nat} {s S : Frac} {p : Frac × Frac} {ms mS mb mB : Nat} (b1 : Bd ms s) (d1 : Red s) (b2 : Bd mS S) (d2 : Red S) (b3 : Bd mb p.1) (d3 : Red p.1) (b4 : Bd mB p.2) (d4 : Red p.2) :
    (Bd (ms + mb + 1) (fPut way s S p).1 ∧ Red (fPut way s S p).1) ∧ (Bd (2 * mS + 2 * mB + 4 * ms + 4 * mb + 6) (fPut way s S p).2 ∧ Red (fPut way s S p).2) := by
  have c1 := (b2.mul b1).mul (bd_one.apart b3)
  have c2 := (b4.mul b3).mul (bd_one.apart b1)
  have c4 := (b1.mul b3).mul (Bd.mix2 (way := way) d2 d4 b2 b4)
  have r1 := red_mul (red_mul d2 d1) (red_apart red_one d3)
  have r2 := red_mul (red_mul d4 d3) (red_apart red_one d1)
  have r4 := red_mul (red_mul d1 d3) (red_mix (way := way) d2 d4)
  unfold fPut
  dsimp only
  split
  · exact ⟨⟨bd_zero.le (by omega), red_zero⟩, bd_zero.le (by omega), red_zero⟩
  · rename_i hz
    have hp : 0 < (fEither s p.1).n := Nat.pos_of_ne_zero fun z => hz (Red.zero_of (red_either d1 d3) z)
    exact ⟨⟨Bd.either2 d1 d3 b1 b3, red_either d1 d3⟩, (((c1.add c2).add c4).by_ (Bd.either2 d1 d3 b1 b3) hp).le (by omega), red_by (red_add (red_add r1 r2) r4) hp⟩
/-- the sizes behind so many layers -/
def mBn : Nat → Nat
  | 0 => 1
  | i + 1 => 2 * 8 + 2 * mBn i + 4 * 16 + 4 * (1 + 17 * i) + 6
theorem mBn_lt : ∀ i, i ≤ 5 → mBn i < 8000 := by decide
structure LOk (l : Sq50.Layer) (n : Nat) : Prop where
  len : l.dots.length = n
  dots : ∀ d ∈ l.dots, d.1 ≤ 255 ∧ d.2 ≤ 255
  strong : l.strong ≤ 255
  way : l.way ≤ 6
theorem lcov_bd {l : Sq50.Layer} {n : Nat} (h : LOk l n) {d : Nat × Nat} (hd : d ∈ l.dots) : d.2 * l.strong * (if l.seen = true then 1 else 0) < 2 ^ 16 := by
  have h1 := (h.dots d hd).2
  have h2 := h.strong
  have h3 : d.2 * l.strong ≤ 255 * 255 := Nat.mul_le_mul h1 h2
  split <;> omega
structure PileOk (i : Nat) (p : Frac × Frac) : Prop where
  b1 : Bd (1 + 17 * i) p.1
  d1 : Red p.1
  b2 : Bd (mBn i) p.2
  d2 : Red p.2
theorem pile_zero : PileOk 0 (Sq49.zero, Sq49.zero) := ⟨bd_zero, red_zero, bd_zero, red_zero⟩
theorem pile_step {i : Nat} {p : Frac × Frac} {l : Sq50.Layer} {n q : Nat} (h : PileOk i p) (hl : LOk l n) (hq : q < n) : PileOk (i + 1) (fLayer l q p) := by
  have hm : l.dots[q]'(by rw [hl.len]; exact hq) ∈ l.dots := List.getElem_mem _
  have e : (l.dots[q]?).getD (0, 0) = l.dots[q]'(by rw [hl.len]; exact hq) := by
    rw [List.getElem?_eq_getElem (by rw [hl.len]; exact hq)]
    rfl
  unfold fLayer
  rw [e]
  have c := put_ok (way := l.way) (frac_bd (lcov_bd hl hm) (by decide : 65025 < 2 ^ 16) (by decide)) (red_frac (by decide)) (frac_bd (show (l.dots[q]'(by rw [hl.len]; exact hq)).1 < 2 ^ 8 from Nat.lt_of_le_of_lt (hl.dots _ hm).1 (by decide)) (by decide : 255 < 2 ^ 8) (by decide)) (red_frac (by decide)) h.b1 h.d1 h.b2 h.d2
  exact ⟨c.1.1.le (by omega), c.1.2, c.2.1.le (by show _ ≤ 2 * 8 + 2 * mBn i + 4 * 16 + 4 * (1 + 17 * i) + 6; omega), c.2.2⟩
theorem pile_ok {n q : Nat} (hq : q < n) : ∀ (ls : List Sq50.Layer) (i : Nat) (p : Frac × Frac), (∀ l ∈ ls, LOk l n) → PileOk i p → PileOk (i + ls.length) (ls.foldl (fun b l => fLayer l q b) p)
  | [], i, p, _, h => h
  | l :: r, i, p, hl, h => by
    have z := pile_ok hq r (i + 1) (fLayer l q p) (fun m hm => hl m (List.mem_cons_of_mem _ hm)) (pile_step h (hl l List.mem_cons_self) hq)
    rw [List.length_cons, show i + (r.length + 1) = i + 1 + r.length by omega]
    exact z
end Lp
set_option Elab.async false
set_option linter.all false
set_option maxRecDepth 100000
set_option maxHeartbeats 4000000
/-! The rules whose readings name the program's constants, K given by name (so that they serve within a comprehension). -/
namespace Lp
open PySem PySem.Spec PyProof.Rows L2 Evl
section
variable {X : Cx} {K : PySem.W.Frag}
theorem kfld {e : Expr} {f : Str} {pos : Pos} {ta : TE} (he : PE X e ta) (hb : attributeBase e f X.env (eval e X.env) = eval e X.env) (hK : X.K = K := by rfl) : PE X (.Attribute e f pos) (tFld K ta f) := hK ▸ pe_fld he hb
theorem kix_list (hK : X.K = K := by rfl) : IxR X (rIxL K) := hK ▸ ix_list
theorem kix_tup (hK : X.K = K := by rfl) : IxR X (rIxT K) := hK ▸ ix_tup
theorem ksl_list (hK : X.K = K := by rfl) : SlR X (rSlL K) := hK ▸ sl_list
theorem k_in (hK : X.K = K := by rfl) : OpR X (compareOp .In) (rIn K false) := hK ▸ op_in_seq
theorem k_notIn (hK : X.K = K := by rfl) : OpR X (compareOp .NotIn) (rIn K true) := hK ▸ op_notIn_seq
theorem k_eqD (hu : X.A.units + 64 < cLine) (hK : X.K = K := by rfl) : OpR X (compareOp .Eq) (rEqD K) := hK ▸ op_eqD hu
theorem k_neD (hu : X.A.units + 64 < cLine) (hK : X.K = K := by rfl) : OpR X (compareOp .NotEq) (rNeD K) := hK ▸ op_neD hu
theorem k_len (hK : X.K = K := by rfl) : CallR X (.builtin "len") (rLenS K) := hK ▸ call_len_seq
theorem k_list (hK : X.K = K := by rfl) : CallR X (.type "list") (rListS K) := hK ▸ call_list_of
theorem k_sum (hc : X.calm = true) (hK : X.K = K := by rfl) : CallR X (.builtin "sum") (rSum K) := hK ▸ cr_sum hc
theorem k_max (hc : X.calm = true) (hK : X.K = K := by rfl) : CallR X (.builtin "max") (rMax K) := hK ▸ cr_max hc
theorem k_min (hc : X.calm = true) (hK : X.K = K := by rfl) : CallR X (.builtin "min") (rMin K) := hK ▸ cr_min hc
theorem k_any (hc : X.calm = true) (hK : X.K = K := by rfl) : CallR X (.builtin "any") (rAny K) := hK ▸ cr_any hc
theorem k_all (hc : X.calm = true) (hK : X.K = K := by rfl) : CallR X (.builtin "all") (rAll K) := hK ▸ cr_all hc
theorem k_sorted (hK : X.K = K := by rfl) : CallR X (.builtin "sorted") (rSortedI K) := hK ▸ cr_sortedI
theorem k_index (hK : X.K = K := by rfl) : MtR X "list.index" (rIndex K) := hK ▸ mt_index
variable {tg : Expr}
theorem kpi_list {l : Expr} {tl : TE} (hl : PE X l tl) (hK : X.K = K := by rfl) : PI X tg l (iList K tl) := hK ▸ pi_list hl
theorem kpi_tup {l : Expr} {tl : TE} (hl : PE X l tl) (hK : X.K = K := by rfl) : PI X tg l (iTup K tl) := hK ▸ pi_tup hl
theorem kpi_enum {e : Expr} {ta : TA} {p pos tpos : Pos} {elts : List Expr} {kk : Nat} (hg : Gl X "enumerate") (hm : X.mg "enumerate" = none) (ha : PA X [e] ta) (hs : starEach [e] X.env = [(false, eval e X.env)] := by rfl) (hK : X.K = K := by rfl) :
    PI X (.Tuple elts kk tpos) (.Call (.Name "enumerate" p) [e] [] pos) (iEnum K ta) := hK ▸ pi_enum hg hm ha hs
theorem kpi_zip {e e2 : Expr} {ta : TA} {p pos tpos : Pos} {elts : List Expr} {kk : Nat} (hg : Gl X "zip") (hm : X.mg "zip" = none) (ha : PA X [e, e2] ta)
    (hs : starEach [e, e2] X.env = (false, eval e X.env) :: starEach [e2] X.env := by rfl) (hpl : (backTo pos (starEach [e2] X.env)).any (·.1) = false := by rfl) (hK : X.K = K := by rfl) :
    PI X (.Tuple elts kk tpos) (.Call (.Name "zip" p) [e, e2] [] pos) (iZip K ta) := hK ▸ pi_zip hg hm ha hs hpl
theorem kpg_tup {es : List Expr} {k : Nat} {t : TGs} {n : Nat} {pos : Pos} (hc : X.calm = true) (h : PGs X es t)
    (hn : (assignEach es X.env).length = n := by rfl) (hst : (assignEach es X.env).findIdx? (·.1) = none := by rfl) (hK : X.K = K := by rfl) : PG X (.Tuple es k pos) (gTup K n t) := hK ▸ pg_tup hc h hn hst
theorem kbm {o e : Expr} {es : List Expr} {to : TE} {t : TA} {name : Str} {apos cpos : Pos} {U id : String} {r : V → List V → Hp → VK → Prop} (pa : PlainAttrs U) (slot : Slot U name id) (hty : typeOf (.builtin id) = pure (.type "method_descriptor")) (hm : MtR X id r) (ho : PE X o to) (ha : PA X (e :: es) t)
    (hbase : attributeBase o name X.env (eval o X.env) = eval o X.env := by rfl)
    (hfew : ((backTo cpos (starEach (e :: es) X.env)).all (fun x => !x.1) && (backToKw cpos (keywordEach [] X.env)).all (fun x => x.1.isSome)
      && decide ((e :: es).length + ([] : List Keyword).length + (if ([] : List Keyword).isEmpty then 0 else 1) < 30)) = true := by rfl)
    (hline : (apos.endLine == cpos.line) = true := by rfl) (hs : starEach (e :: es) X.env = (false, eval e X.env) :: starEach es X.env := by rfl) (hplain : (backTo cpos (starEach es X.env)).any (·.1) = false := by rfl) (hK : X.K = K := by rfl) :
    PE X (.Call (.Attribute o name apos) (e :: es) [] cpos) (tBM K U r to t) := hK ▸ pe_bm pa slot hty hm ho ha hbase hfew hline hs hplain
theorem kps_fld {o value : Expr} {f : Str} {pos pos' : Pos} {ta tv : TE} (ha : PE X o ta) (hv : PE X value tv) (hs : swapsWith value (some (.Attribute o f pos')) pos.line X.env = pure false) (hK : X.K = K := by rfl) : PS X (.Assign [.Attribute o f pos'] value pos) (sFld K ta tv f) := hK ▸ ps_fld ha hv hs
theorem k_catA (hK : X.K = K := by rfl) : OpR X (binaryOp .Add) (rCatA K) := hK ▸ op_catA
/-- dict(pairs) -/
def rDictP (K : PySem.W.Frag) : List V → Hp → VK → Prop := fun xs H Q => ∃ (a : Addr) (ps : List Addr) (kvs : List (Key × V)), xs = [.ref a] ∧ SqL K H a (ps.map V.ref) ∧ Paired (fun p kv => SqT K H p [kV kv.1, kv.2]) ps kvs ∧ ∀ p, H p = none → Q (.ref p) (upd H p (.dK (mergeK [] kvs)))
theorem k_dictP (hc : X.calm = true) (hK : X.K = K := by rfl) : CallR X (.type "dict") (rDictP K) := hK ▸ call_dictP hc
/-- xs != [] -/
def rNeE (K : PySem.W.Frag) : R2 := fun x y H Q => ∃ (p q : Addr) (xs : List V), x = .ref p ∧ y = .ref q ∧ SqL K H p xs ∧ SqL K H q [] ∧ Q (.bl (!xs.isEmpty)) H
theorem op_neNil (hu : X.A.units + 64 < cLine) : OpR X (compareOp .NotEq) (rNeE X.K) := by
  intro pins s σ H x y v u Q I rx ry h
  obtain ⟨p, q, xs, rfl, rfl, hx, hy, k⟩ := h
  cases rx
  cases ry
  obtain ⟨its, rv, hl, hz⟩ := I.list hx
  obtain ⟨its2, rv2, hl2, hz2⟩ := I.list hy
  cases rv2
  have hu1 : X.A.units < cLine := Nat.lt_of_le_of_lt (Nat.le_add_right _ _) hu
  have go : ∀ b, SeqAt.RcNeAt X.A s (.ref p) (.ref q) b → b = !xs.isEmpty → wpAny (model X.prog X.w) X.A (compareOp .NotEq (.ref p) (.ref q)) (EP X pins σ Q) X.xe s := fun b r e => by
    rw [← e] at k
    exact r X.prog X.w X.xe _ ⟨.bl b, H, I, rfl, k⟩
  cases xs with
  | nil =>
    cases rv
    exact go _ (SeqAt.RcNeAt.lists (e := fun _ => true) hl.isList hl2.isList rfl hu1 fun j h1 h2 => absurd h1 (by simp)) rfl
  | cons x xs =>
    cases rv with
    | cons r1 r2 => exact go true (SeqAt.RcNeAt.lists_lengths hl.isList hl2.isList (by simp) hu1) rfl
theorem k_neNil (hu : X.A.units + 64 < cLine) (hK : X.K = K := by rfl) : OpR X (compareOp .NotEq) (rNeE K) := hK ▸ op_neNil hu
theorem extend_tuple (l : Addr) (items : Array Value) (n : Nat) (b : Addr) (o2 : Obj) (items2 : Array Value) (n2 : Nat) (hc : o2.cls = .type "tuple") (hd : o2.data = .seq items2 n2) (hs0 : ¬(!items.isEmpty && Builtin.List.listTooLong (items.size + items2.size)) = true) (hs1 : items.size ≤ sizeLine) (hs2 : items.size + items2.size ≤ sizeLine + 1) :
    Meets (Builtin.«list.extend» ⟨[.ref l, .ref b], []⟩) (fun _ R s => s.heap.get? l = some { cls := .type "list", dict := none, data := .seq items n, slots := #[] } ∧ s.heap.get? b = some o2 ∧ R (.ok (.ret Value.none)) { s with heap := s.heap.update l (Obj.mapSeq fun x => x ++ items2), toks := s.toks }) :=
  .of_wp fun prog w A R s h => by
    obtain ⟨c2, dd2, da2, sl2⟩ := o2
    simp only at hc hd
    subst hc hd
    obtain ⟨hp, g, d, tk, os⟩ := s; obtain ⟨hl, hb, h⟩ := h; have f1 := AutoSeq1.idx_int; have f2 := AutoSeq1.sub_tuple_tuple; have f3 := AutoSeq1.sub_list_list; have f4 := AutoSeq1.sub_tuple_list; have f5 := AutoSeq1.sub_list_tuple
    have hz' : (items ++ items2).size ≤ sizeLine + 1 := by rw [Array.size_append]; exact hs2
    wp_walk using (wpAny_updateSeq hl rfl (hz := hs1) (_hz' := hz')), AutoSeq1.wpAny_loadPart' hl, AutoSeq1.wpAny_loadPart' hb; exact ⟨_, rfl, h⟩
/-- xs.extend(ys), ys a list or a tuple -/
def rExt2 (K : PySem.W.Frag) : V → List V → Hp → VK → Prop := fun x vs H Q => ∃ l b xs zs, x = .ref l ∧ vs = [.ref b] ∧ H l = some (.lst xs) ∧ (H b = some (.lst zs) ∨ SqT K H b zs) ∧ xs.length + zs.length ≤ sizeLine ∧ Q .non (upd H l (.lst (xs ++ zs)))
theorem mt_ext2 : MtM X "list.extend" (rExt2 X.K) := by
  intro pins s σ H x vs v us Q I rx rv h
  obtain ⟨l, b, xs, zs, rfl, rfl, hH, hB, hz, q⟩ := h
  rcases hB with hB | hB
  · exact mt_extend pins s σ H (.ref l) [.ref b] v us Q I rx rv ⟨l, b, xs, zs, rfl, rfl, hH, hB, hz, q⟩
  cases rx
  obtain ⟨u, rfl, ru⟩ := rv.one
  cases ru
  obtain ⟨z, its, n, r, hl, e⟩ := I.lstM hH
  obtain ⟨its2, r2, ⟨o, ho, hc2, n2, hd2⟩, hl2⟩ := I.tuple hB
  have hlx := r.length
  have hly := r2.length
  have hsz : its.toArray.size + its2.toArray.size ≤ sizeLine := by rw [List.size_toArray, List.size_toArray]; omega
  have hlong : ¬ (!its.toArray.isEmpty && Builtin.List.listTooLong (its.toArray.size + its2.toArray.size)) = true := by
    rw [notLongL hsz, Bool.and_false]
    exact Bool.false_ne_true
  refine call_meets F.slot_list_extend ⟨_, e, rfl⟩ F.entry_list_extend (F.args_list_extend_2 _ _)
    (extend_tuple l its.toArray n b o its2.toArray n2 hc2 hd2 hlong (by rw [List.size_toArray]; omega) (by omega)) ⟨e, ho, ?_⟩
  refine ⟨.non, _, I.lset (its' := its ++ its2) hH e (by simp) (r.append r2) ?_, rfl, q⟩
  rw [List.length_append]
  omega
theorem k_ext2 (hK : X.K = K := by rfl) : MtM X "list.extend" (rExt2 K) := hK ▸ mt_ext2
end
end Lp
set_option Elab.async false
set_option linter.all false
set_option maxRecDepth 100000
set_option maxHeartbeats 4000000
namespace Lp
open PySem PySem.Spec PyProof.Rows L2 Evl
variable {P : Program} {w : World} {K : PySem.W.Frag} {mg : Str → Option Value} {base : Heap}
/-! ### Picture's small methods -/
def sp_size (K : PySem.W.Frag) : Sp := P1 fun a H Q _ => ∃ (s : Sq50.State) (aL aC p : Addr), a = .ref p ∧ PicA K H p s aL aC ∧ s.w ≤ 1000 ∧ Gives (fun v _ => v = .int ((s.w * s.h : Nat) : Int)) H Q
theorem ok_Picture_size (T : Tx K mg) : Ok P w K mg base CX0 (0 + 1) (He.ma K (He.ga K "Picture") "size") ["self"] (sp_size K) := by
  refine mk0 T.f_Picture_size sc_Picture_size bd_Picture_size P1.len (fun cdv A outer s H vs Q E hr h => ⟨_, (pss_one (ps_ret (pe_op op_mul (kfld (K := K) (pv 0) rfl) (kfld (K := K) (pv 0) rfl)))), ?_⟩)
  obtain ⟨_, rfl, s, aL, aC, p, rfl, h, hw, k⟩ := h
  refine s_ret (ev_op (ev_wide T (ev_var rfl) h) (ev_high T (ev_var rfl) h) (rv_I (.inl ⟨by omega, by omega⟩))) fun H1 e => k _ _ e ?_
  rw [Int.natCast_mul]
def sp_place (K : PySem.W.Frag) : Sp := P3 fun a x y H Q _ => ∃ (s : Sq50.State) (aL aC p : Addr) (i j : Int), a = .ref p ∧ x = .int i ∧ y = .int j ∧ PicA K H p s aL aC ∧ s.w ≤ 1000 ∧ Gives (fun v _ => v = .int (j * s.w + i)) H Q
theorem ok_Picture_place (T : Tx K mg) : Ok P w K mg base CX0 (0 + 1) (He.ma K (He.ga K "Picture") "place") ["self", "x", "y"] (sp_place K) := by
  refine mk0 T.f_Picture_place sc_Picture_place bd_Picture_place P3.len (fun cdv A outer s H vs Q E hr h => ⟨_, (pss_one (ps_ret (pe_op op_add (pe_op op_mul (pv 2) (kfld (K := K) (pv 0) rfl)) (pv 1)))), ?_⟩)
  obtain ⟨_, _, _, rfl, s, aL, aC, p, i, j, rfl, rfl, rfl, h, hw, k⟩ := h
  exact s_ret (ev_op (ev_op (ev_var rfl) (ev_wide T (ev_var rfl) h) (rv_I (.inr ⟨by omega, by omega⟩))) (ev_var rfl) rv_I0) fun H1 e => k _ _ e rfl
def sp_across (K : PySem.W.Frag) : Sp := P2 fun a x H Q _ => ∃ (s : Sq50.State) (aL aC p : Addr) (n : Nat), a = .ref p ∧ x = .int (n : Int) ∧ PicA K H p s aL aC ∧ 0 < s.w ∧ Gives (fun v _ => v = .int ((n % s.w : Nat) : Int)) H Q
theorem ok_Picture_across (T : Tx K mg) : Ok P w K mg base CX0 (0 + 1) (He.ma K (He.ga K "Picture") "across") ["self", "place"] (sp_across K) := by
  refine mk0 T.f_Picture_across sc_Picture_across bd_Picture_across P2.len (fun cdv A outer s H vs Q E hr h => ⟨_, (pss_one (ps_ret (pe_op op_mod (pv 1) (kfld (K := K) (pv 0) rfl)))), ?_⟩)
  obtain ⟨_, _, rfl, s, aL, aC, p, n, rfl, rfl, h, hw, k⟩ := h
  exact s_ret (ev_op (ev_var rfl) (ev_wide T (ev_var rfl) h) (rv_I (by omega))) fun H1 e => k _ _ e rfl
def sp_down (K : PySem.W.Frag) : Sp := P2 fun a x H Q _ => ∃ (s : Sq50.State) (aL aC p : Addr) (n : Nat), a = .ref p ∧ x = .int (n : Int) ∧ PicA K H p s aL aC ∧ 0 < s.w ∧ s.w ≤ 1000 ∧ Gives (fun v _ => v = .int ((n / s.w : Nat) : Int)) H Q
theorem ok_Picture_down (T : Tx K mg) : Ok P w K mg base CX0 (0 + 1) (He.ma K (He.ga K "Picture") "down") ["self", "place"] (sp_down K) := by
  refine mk0 T.f_Picture_down sc_Picture_down bd_Picture_down P2.len (fun cdv A outer s H vs Q E hr h => ⟨_, (pss_one (ps_ret (pe_op op_fdiv (pv 1) (kfld (K := K) (pv 0) rfl)))), ?_⟩)
  obtain ⟨_, _, rfl, s, aL, aC, p, n, rfl, rfl, h, hw, hw2, k⟩ := h
  exact s_ret (ev_op (ev_var rfl) (ev_wide T (ev_var rfl) h) (rv_I ⟨by omega, by omega⟩)) fun H1 e => k _ _ e rfl
end Lp
set_option Elab.async false
set_option linter.all false
set_option maxRecDepth 100000
set_option maxHeartbeats 4000000
namespace Lp
open PySem PySem.Spec PyProof.Rows L2 Evl
open Sq49 (Frac frac)
variable {P : Program} {w : World} {K : PySem.W.Frag} {mg : Str → Option Value} {base : Heap}
/-! ### fractions -/
theorem natAbs_lt {n m : Nat} (h : n < 2 ^ m) : ((n : Int)).natAbs < 2 ^ m := by rwa [Int.natAbs_natCast]
theorem w_mul {a b m k : Nat} (ha : a < 2 ^ m) (hb : b < 2 ^ k) (hm : m ≤ 9000) (hk : k ≤ 9000) : CMulW (a : Int) (b : Int) := by
  refine wide_mul (a := m + 1) (b := k + 1) (natAbs_lt (lt_up ha (by omega))) (natAbs_lt (lt_up hb (by omega))) (by omega) (by omega) (by omega)
theorem w_div {a b m : Nat} (hb : b < 2 ^ m) (h0 : 0 < b) (hm : m < 9000) : CDivW (a : Int) (b : Int) := wide_div (b := m + 1) (by omega) (natAbs_lt (lt_up hb (by omega))) (by omega) (by omega)
def sp_common : Sp := P2 fun a b H Q _ => ∃ (m n : Nat), a = .int (m : Int) ∧ b = .int (n : Int) ∧ Gives (fun v _ => v = .int ((Nat.gcd m n : Nat) : Int)) H Q
theorem ok_common (T : Tx K mg) : Ok P w K mg base CX0 (0 + 1) (He.ga K "common") ["one", "other"] (sp_common) := by
  refine mk0 T.f_common sc_common bd_common P2.len (fun cdv A outer s H vs Q E hr h => ⟨_, (pss_cons (ps_while PassesOwn.never (pt_cmpR op_gt (pv 1) pe_int (nomark _)) (pss_one (ps_par (i := 0) (j := 1) rfl sc_common.nd rfl rfl (by decide) rfl rfl (pa_cons (pv 1) (pa_cons (pe_op op_mod (pv 0) (pv 1)) pa_nil)) (by rfl))))
    (pss_one (ps_ret (pv 0)))), ?_⟩)
  obtain ⟨_, _, rfl, m, n, rfl, rfl, k⟩ := h
  refine q_while (fun i σ' H' => ∃ (x y : Nat), σ' = [some (.int (x : Int)), some (.int (y : Int))] ∧ i = y ∧ Nat.gcd x y = Nat.gcd m n ∧ Ex H H') n ⟨m, n, rfl, rfl, rfl, Ex.refl _⟩ ?_
  rintro y σ' H' ⟨x, _, rfl, rfl, hg, e⟩
  refine ⟨decide ((0 : Int) < (y : Int)), et_test (ev_op (ev_var rfl) ev_c rv_I0), fun hb H1 e1 => ?_, fun hb H1 e1 => ?_⟩
  · have hy : 0 < y := by
      have := of_decide_eq_true hb
      omega
    refine ⟨fun σ2 H2 => ∃ (x' y' : Nat), σ2 = [some (.int (x' : Int)), some (.int (y' : Int))] ∧ y' < y ∧ Nat.gcd x' y' = Nat.gcd m n ∧ Ex H H2, fun σ2 H2 ⟨x', y', e1, e2, e3, e4⟩ => ⟨y', e2, x', y', e1, rfl, e3, e4⟩, ?_⟩
    refine ea_cons (ev_var rfl) (ea_cons (ev_op (ev_var rfl) (ev_var rfl) (rv_I (by omega))) ea_nil) H1 (Ex.refl _) _ fun H2 e2 => ⟨_, _, rfl, y, x % y, rfl, Nat.mod_lt _ hy, ?_, (e.trans e1).trans e2⟩
    rw [← hg, Nat.gcd_comm y, ← Nat.gcd_rec, Nat.gcd_comm]
  · have hy : y = 0 := by
      have := of_decide_eq_false hb
      omega
    subst hy
    rw [Nat.gcd_zero_right] at hg
    subst hg
    exact s_ret (ev_var rfl) fun H2 e2 => k _ _ ((e.trans e1).trans e2) rfl
def sp_lowest (K : PySem.W.Frag) : Sp := P2 fun a b H Q _ => ∃ (i j : Int) (n d m : Nat), a = .int i ∧ b = .int j ∧ i = n ∧ j = d ∧ 0 < d ∧ d < 2 ^ m ∧ m < 9000 ∧ Gives (fun v H' => FrAt K H' v (frac n d)) H Q
theorem ok_lowest (T : Tx K mg) : Ok P w K mg base CX0 (1 + 1) (He.ga K "lowest") ["above", "below"] (sp_lowest K) := by
  refine mk0 T.f_lowest sc_lowest bd_lowest P2.len (fun cdv A outer s H vs Q E hr h => ⟨_, (pss_cons (ps_set (i := 2) sc_lowest.nd rfl (Or.inl rfl) (oc (ok_common T) hr (by decide) T.g_common ((pass0 : Passes CX0 _ E0)) (pa_cons (pv 0) (pa_cons (pv 1) pa_nil))))
    (pss_one (ps_ret (pe_tup (pa_cons (pe_op op_fdivW (pv 0) (pv 2)) (pa_cons (pe_op op_fdivW (pv 1) (pv 2)) pa_nil)))))), ?_⟩)
  obtain ⟨_, _, rfl, _, _, n, d, m, rfl, rfl, rfl, rfl, hp, hd, hm, k⟩ := h
  refine q_asgP (evp_callA (R := fun v _ => v = .int ((Nat.gcd n d : Nat) : Int)) (ea_cons (ev_var rfl) (ea_cons (ev_var rfl) ea_nil)) fun H1 e Q E q => ⟨_, _, rfl, n, d, rfl, rfl, q⟩) fun v H1 e r => ?_
  subst r
  have g := gcd_pos_r (n := n) hp
  have hg : Nat.gcd n d < 2 ^ m := Nat.lt_of_le_of_lt (Nat.le_of_dvd hp (Nat.gcd_dvd_right _ _)) hd
  refine s_retU (eu_tup (ea_cons (ev_op (ev_var rfl) (ev_var rfl) (rv_I (w_div hg g hm))) (ea_cons (ev_op (ev_var rfl) (ev_var rfl) (rv_I (w_div hg g hm))) ea_nil)) (by show 2 ≤ 100000; decide)) fun p H2 hn e2 h2 => k _ _ (e.trans e2) ⟨p, rfl, st_of ?_⟩
  rw [h2, frac_gcd n d hp]
  rfl
/-- reading a fraction's parts -/
theorem ev_fn {σ : L2.St} {H : Hp} {te : TE} {r : Addr} {f : Frac} (ho : Ev te σ H (.ref r)) (h : SqT K H r [.int (f.n : Int), .int (f.d : Int)]) : Ev (tOp (rIxT K) te (tC (.int 0))) σ H (.int (f.n : Int)) := ev_op ho ev_c (rv_ixT h rfl)
theorem ev_fd {σ : L2.St} {H : Hp} {te : TE} {r : Addr} {f : Frac} (ho : Ev te σ H (.ref r)) (h : SqT K H r [.int (f.n : Int), .int (f.d : Int)]) : Ev (tOp (rIxT K) te (tC (.int 1))) σ H (.int (f.d : Int)) := ev_op ho ev_c (rv_ixT h rfl)
/-- a call of lowest -/
theorem evp_low {σ : L2.St} {H : Hp} {E : XK} {ta : TA} {i j : Int} (n d m : Nat) (h : EvA ta σ H [.int i, .int j]) (hi : i = n) (hj : j = d) (hp : 0 < d) (hd : d < 2 ^ m) (hm : m < 9000) : EvP (tCall (sp_lowest K) [] E ta) σ H (fun v H' => FrAt K H' v (frac n d)) :=
  evp_callA h fun H1 e Q E q => ⟨_, _, rfl, i, j, n, d, m, rfl, rfl, hi, hj, hp, hd, hm, q⟩
def sp_f2 (K : PySem.W.Frag) (c : Nat) (op : Frac → Frac → Frac) (ok : Frac → Frac → Prop) : Sp := P2 fun a b H Q _ => ∃ (x y : Frac) (m n : Nat), FrAt K H a x ∧ FrAt K H b y ∧ Bd m x ∧ Bd n y ∧ m + n + c < 9000 ∧ ok x y ∧ Gives (fun v H' => FrAt K H' v (op x y)) H Q
abbrev sp_plus (K : PySem.W.Frag) : Sp := sp_f2 K 1 Frac.add fun _ _ => True
abbrev sp_apart (K : PySem.W.Frag) : Sp := sp_f2 K 0 fApart fun _ _ => True
abbrev sp_times (K : PySem.W.Frag) : Sp := sp_f2 K 0 Frac.mul fun _ _ => True
abbrev sp_by (K : PySem.W.Frag) : Sp := sp_f2 K 0 Frac.by_ fun _ y => 0 < y.n
theorem ok_plus (T : Tx K mg) : Ok P w K mg base CX0 (2 + 1) (He.ga K "plus") ["one", "other"] (sp_plus K) := by
  refine mk0 T.f_plus sc_plus bd_plus P2.len (fun cdv A outer s H vs Q E hr h => ⟨_, (pss_one (ps_ret (oc (ok_lowest T) hr (by decide) T.g_lowest ((pass0 : Passes CX0 _ E0)) (pa_cons (pe_op op_add (pe_op op_mulW (pe_ix (kix_tup (K := K)) (pv 0) pe_int (fun _ _ => rfl)) (pe_ix (kix_tup (K := K)) (pv 1) pe_int (fun _ _ => rfl))) (pe_op op_mulW (pe_ix (kix_tup (K := K)) (pv 1) pe_int (fun _ _ => rfl)) (pe_ix (kix_tup (K := K)) (pv 0) pe_int (fun _ _ => rfl)))) (pa_cons (pe_op op_mulW (pe_ix (kix_tup (K := K)) (pv 0) pe_int (fun _ _ => rfl)) (pe_ix (kix_tup (K := K)) (pv 1) pe_int (fun _ _ => rfl))) pa_nil))))), ?_⟩)
  obtain ⟨_, _, rfl, x, y, m, n, ⟨r1, rfl, h1⟩, ⟨r2, rfl, h2⟩, b1, b2, hs, _, k⟩ := h
  refine s_retP (evp_low (x.n * y.d + y.n * x.d) (x.d * y.d) (m + n) (ea_cons (ev_op (ev_op (ev_fn (ev_var rfl) h1) (ev_fd (ev_var rfl) h2) (rv_I (w_mul b1.n b2.d (by omega) (by omega)))) (ev_op (ev_fn (ev_var rfl) h2) (ev_fd (ev_var rfl) h1) (rv_I (w_mul b2.n b1.d (by omega) (by omega)))) rv_I0) (ea_cons (ev_op (ev_fd (ev_var rfl) h1) (ev_fd (ev_var rfl) h2) (rv_I (w_mul b1.d b2.d (by omega) (by omega)))) ea_nil)) ?_ ?_ (Nat.mul_pos b1.p b2.p) (mul_lt2 b1.d b2.d) (by omega)) fun v H1 e r => k _ _ e r
  · push_cast; rfl
  · push_cast; rfl
theorem ok_times (T : Tx K mg) : Ok P w K mg base CX0 (2 + 1) (He.ga K "times") ["one", "other"] (sp_times K) := by
  refine mk0 T.f_times sc_times bd_times P2.len (fun cdv A outer s H vs Q E hr h => ⟨_, (pss_one (ps_ret (oc (ok_lowest T) hr (by decide) T.g_lowest ((pass0 : Passes CX0 _ E0)) (pa_cons (pe_op op_mulW (pe_ix (kix_tup (K := K)) (pv 0) pe_int (fun _ _ => rfl)) (pe_ix (kix_tup (K := K)) (pv 1) pe_int (fun _ _ => rfl))) (pa_cons (pe_op op_mulW (pe_ix (kix_tup (K := K)) (pv 0) pe_int (fun _ _ => rfl)) (pe_ix (kix_tup (K := K)) (pv 1) pe_int (fun _ _ => rfl))) pa_nil))))), ?_⟩)
  obtain ⟨_, _, rfl, x, y, m, n, ⟨r1, rfl, h1⟩, ⟨r2, rfl, h2⟩, b1, b2, hs, _, k⟩ := h
  refine s_retP (evp_low (x.n * y.n) (x.d * y.d) (m + n) (ea_cons (ev_op (ev_fn (ev_var rfl) h1) (ev_fn (ev_var rfl) h2) (rv_I (w_mul b1.n b2.n (by omega) (by omega)))) (ea_cons (ev_op (ev_fd (ev_var rfl) h1) (ev_fd (ev_var rfl) h2) (rv_I (w_mul b1.d b2.d (by omega) (by omega)))) ea_nil)) ?_ ?_ (Nat.mul_pos b1.p b2.p) (mul_lt2 b1.d b2.d) (by omega)) fun v H1 e r => k _ _ e r
  · push_cast; rfl
  · push_cast; rfl
theorem ok_by (T : Tx K mg) : Ok P w K mg base CX0 (2 + 1) (He.ga K "by") ["one", "other"] (sp_by K) := by
  refine mk0 T.f_by sc_by bd_by P2.len (fun cdv A outer s H vs Q E hr h => ⟨_, (pss_one (ps_ret (oc (ok_lowest T) hr (by decide) T.g_lowest ((pass0 : Passes CX0 _ E0)) (pa_cons (pe_op op_mulW (pe_ix (kix_tup (K := K)) (pv 0) pe_int (fun _ _ => rfl)) (pe_ix (kix_tup (K := K)) (pv 1) pe_int (fun _ _ => rfl))) (pa_cons (pe_op op_mulW (pe_ix (kix_tup (K := K)) (pv 0) pe_int (fun _ _ => rfl)) (pe_ix (kix_tup (K := K)) (pv 1) pe_int (fun _ _ => rfl))) pa_nil))))), ?_⟩)
  obtain ⟨_, _, rfl, x, y, m, n, ⟨r1, rfl, h1⟩, ⟨r2, rfl, h2⟩, b1, b2, hs, hy, k⟩ := h
  refine s_retP (evp_low (x.n * y.d) (x.d * y.n) (m + n) (ea_cons (ev_op (ev_fn (ev_var rfl) h1) (ev_fd (ev_var rfl) h2) (rv_I (w_mul b1.n b2.d (by omega) (by omega)))) (ea_cons (ev_op (ev_fd (ev_var rfl) h1) (ev_fn (ev_var rfl) h2) (rv_I (w_mul b1.d b2.n (by omega) (by omega)))) ea_nil)) ?_ ?_ (Nat.mul_pos b1.p hy) (mul_lt2 b1.d b2.n) (by omega)) fun v H1 e r => k _ _ e r
  · push_cast; rfl
  · push_cast; rfl
theorem abs_is (a b : Nat) : (if ((a : Int) - (b : Int)) < 0 then -((a : Int) - (b : Int)) else ((a : Int) - (b : Int))) = (((a - b) + (b - a) : Nat) : Int) := by
  split <;> omega
def rAbs : List V → Hp → VK → Prop := fun xs H Q => ∃ i, xs = [.int i] ∧ Q (.int (if i < 0 then -i else i)) H
theorem ev_abs {σ : L2.St} {H : Hp} {ta : TA} {i : Int} (h : EvA ta σ H [.int i]) : Ev (tCB rAbs ta) σ H (.int (if i < 0 then -i else i)) := ev_cb h fun H1 e Q q => ⟨i, rfl, q H1 (Ex.refl _)⟩
theorem ok_apart (T : Tx K mg) : Ok P w K mg base CX0 (2 + 1) (He.ga K "apart") ["one", "other"] (sp_apart K) := by
  refine mk0 T.f_apart sc_apart bd_apart P2.len (fun cdv A outer s H vs Q E hr h => ⟨_, (pss_one (ps_ret (oc (ok_lowest T) hr (by decide) T.g_lowest ((pass0 : Passes CX0 _ E0)) (pa_cons (pe_callB call_abs (by rfl) T.b_abs (by decide +kernel) (pa_cons (pe_op op_sub (pe_op op_mulW (pe_ix (kix_tup (K := K)) (pv 0) pe_int (fun _ _ => rfl)) (pe_ix (kix_tup (K := K)) (pv 1) pe_int (fun _ _ => rfl))) (pe_op op_mulW (pe_ix (kix_tup (K := K)) (pv 1) pe_int (fun _ _ => rfl)) (pe_ix (kix_tup (K := K)) (pv 0) pe_int (fun _ _ => rfl)))) pa_nil)) (pa_cons (pe_op op_mulW (pe_ix (kix_tup (K := K)) (pv 0) pe_int (fun _ _ => rfl)) (pe_ix (kix_tup (K := K)) (pv 1) pe_int (fun _ _ => rfl))) pa_nil))))), ?_⟩)
  obtain ⟨_, _, rfl, x, y, m, n, ⟨r1, rfl, h1⟩, ⟨r2, rfl, h2⟩, b1, b2, hs, _, k⟩ := h
  refine s_retP (evp_low ((x.n * y.d - y.n * x.d) + (y.n * x.d - x.n * y.d)) (x.d * y.d) (m + n) (ea_cons (ev_abs (ea_cons (ev_op (ev_op (ev_fn (ev_var rfl) h1) (ev_fd (ev_var rfl) h2) (rv_I (w_mul b1.n b2.d (by omega) (by omega)))) (ev_op (ev_fn (ev_var rfl) h2) (ev_fd (ev_var rfl) h1) (rv_I (w_mul b2.n b1.d (by omega) (by omega)))) rv_I0) ea_nil)) (ea_cons (ev_op (ev_fd (ev_var rfl) h1) (ev_fd (ev_var rfl) h2) (rv_I (w_mul b1.d b2.d (by omega) (by omega)))) ea_nil)) ?_ ?_ (Nat.mul_pos b1.p b2.p) (mul_lt2 b1.d b2.d) (by omega)) fun v H1 e r => k _ _ e r
  · rw [← Int.natCast_mul, ← Int.natCast_mul]
    exact abs_is _ _
  · push_cast; rfl
def sp_is_more (K : PySem.W.Frag) : Sp := P2 fun a b H Q _ => ∃ (x y : Frac) (m n : Nat), FrAt K H a x ∧ FrAt K H b y ∧ Bd m x ∧ Bd n y ∧ m + n < 9000 ∧ Gives (fun v _ => v = .bl (fMore x y)) H Q
theorem ok_is_more (T : Tx K mg) : Ok P w K mg base CX0 (0 + 1) (He.ga K "is_more") ["one", "other"] (sp_is_more K) := by
  refine mk0 T.f_is_more sc_is_more bd_is_more P2.len (fun cdv A outer s H vs Q E hr h => ⟨_, (pss_one (ps_ret (pe_cmpR op_gt (pe_op op_mulW (pe_ix (kix_tup (K := K)) (pv 0) pe_int (fun _ _ => rfl)) (pe_ix (kix_tup (K := K)) (pv 1) pe_int (fun _ _ => rfl))) (pe_op op_mulW (pe_ix (kix_tup (K := K)) (pv 1) pe_int (fun _ _ => rfl)) (pe_ix (kix_tup (K := K)) (pv 0) pe_int (fun _ _ => rfl))) (nomark _)))), ?_⟩)
  obtain ⟨_, _, rfl, x, y, m, n, ⟨r1, rfl, h1⟩, ⟨r2, rfl, h2⟩, b1, b2, hs, k⟩ := h
  refine s_ret (ev_op (ev_op (ev_fn (ev_var rfl) h1) (ev_fd (ev_var rfl) h2) (rv_I (w_mul b1.n b2.d (by omega) (by omega)))) (ev_op (ev_fn (ev_var rfl) h2) (ev_fd (ev_var rfl) h1) (rv_I (w_mul b2.n b1.d (by omega) (by omega)))) rv_I0) fun H1 e => k _ _ e ?_
  show V.bl (decide ((y.n : Int) * (x.d : Int) < (x.n : Int) * (y.d : Int))) = V.bl (decide (y.n * x.d < x.n * y.d))
  congr 1
  refine decide_eq_decide.mpr ?_
  rw [← Int.natCast_mul, ← Int.natCast_mul]
  omega
/-- a call of two fractions -/
theorem evp_f2 {σ : L2.St} {H : Hp} {E : XK} {ta tb : TE} {c : Nat} {op : Frac → Frac → Frac} {ok : Frac → Frac → Prop} {x y : Frac} (m n : Nat) (h1 : EvP ta σ H (fun v H' => FrAt K H' v x)) (h2 : EvP tb σ H (fun v H' => FrAt K H' v y)) (b1 : Bd m x) (b2 : Bd n y) (hs : m + n + c < 9000) (ho : ok x y) :
    EvP (tCall (sp_f2 K c op ok) [] E (tCons ta (tCons tb tNil))) σ H (fun v H' => FrAt K H' v (op x y)) :=
  evp_call (evap_cons h1 FrAt.mono (evap_cons h2 FrAt.mono evap_nil)) fun vs H1 e ⟨a, xs, e1, r1, b, ys, e2, r2, e3⟩ Q E q => by
    subst e3 e2 e1
    exact ⟨a, b, rfl, x, y, m, n, r1, r2, b1, b2, hs, ho, q⟩
theorem evp_fvar {σ : L2.St} {H : Hp} {i : Nat} {v : V} {x : Frac} (hv : σ[i]? = some (some v)) (h : FrAt K H v x) : EvP (tVar i) σ H (fun v H' => FrAt K H' v x) := (EvP.of (ev_var hv)).imp fun w H1 e r => by
  subst r
  exact h.ex e
theorem evp_fc {σ : L2.St} {H : Hp} {v : V} {x : Frac} (h : FrAt K H v x) : EvP (tC v) σ H (fun v H' => FrAt K H' v x) := (EvP.of ev_c).imp fun w H1 e r => by
  subst r
  exact h.ex e
theorem one_at (T : Tx K mg) (H : Hp) : FrAt K H (.ref (He.ga K "ONE")) Sq49.one := ⟨_, rfl, T.t_ONE H⟩
theorem nought_at (T : Tx K mg) (H : Hp) : FrAt K H (.ref (He.ga K "NOUGHT")) Sq49.zero := ⟨_, rfl, T.t_NOUGHT H⟩
abbrev sp_either (K : PySem.W.Frag) : Sp := P2 fun a b H Q _ => ∃ (x y : Frac) (m n : Nat), FrAt K H a x ∧ FrAt K H b y ∧ Bd m x ∧ Bd n y ∧ 2 * m + 2 * n + 1 < 9000 ∧ Gives (fun v H' => FrAt K H' v (fEither x y)) H Q
theorem ok_either (T : Tx K mg) : Ok P w K mg base CX0 (3 + 1) (He.ga K "either") ["one", "other"] (sp_either K) := by
  refine mk0 T.f_either sc_either bd_either P2.len (fun cdv A outer s H vs Q E hr h => ⟨_, (pss_one (ps_ret (oc (ok_apart T) hr (by decide) T.g_apart ((pass0 : Passes CX0 _ E0)) (pa_cons (oc (ok_plus T) hr (by decide) T.g_plus ((pass0 : Passes CX0 _ E0)) (pa_cons (pv 0) (pa_cons (pv 1) pa_nil))) (pa_cons (oc (ok_times T) hr (by decide) T.g_times ((pass0 : Passes CX0 _ E0)) (pa_cons (pv 0) (pa_cons (pv 1) pa_nil))) pa_nil))))), ?_⟩)
  obtain ⟨_, _, rfl, x, y, m, n, h1, h2, b1, b2, hs, k⟩ := h
  exact s_retP (evp_f2 (m + n + 1) (m + n) (evp_f2 m n (evp_fvar rfl h1) (evp_fvar rfl h2) b1 b2 (by omega) trivial) (evp_f2 m n (evp_fvar rfl h1) (evp_fvar rfl h2) b1 b2 (by omega) trivial) (b1.add b2) (b1.mul b2) (by omega) trivial) fun v H1 e r => k _ _ e r
end Lp
set_option Elab.async false
set_option linter.all false
set_option maxRecDepth 100000
set_option maxHeartbeats 4000000
namespace Lp
open PySem PySem.Spec PyProof.Rows L2 Evl
open Sq49 (Frac frac)
variable {P : Program} {w : World} {K : PySem.W.Frag} {mg : Str → Option Value} {base : Heap}
theorem Gives.ex {R : V → Hp → Prop} {H H1 : Hp} {Q : VK} (k : Gives R H Q) (e : Ex H H1) : Gives R H1 Q := fun v H' e1 r => k v H' (e.trans e1) r
/-- a test of a number that isn't negative against a written one -/
theorem et_eqn {σ : L2.St} {H : Hp} {te : TE} {n : Nat} (c : Nat) {z : Int} (h : Ev te σ H (.int (n : Int))) (hz : z = (c : Int) := by rfl) : EvT (tTest (tOp rEq te (tC (.int z)))) σ H (decide (n = c)) := by
  subst hz
  refine et_is (et_test (ev_op h ev_c (rv_eq rfl))) ?_
  refine decide_eq_decide.mpr ⟨fun q => ?_, fun q => by rw [q]⟩
  have q2 : ((n : Int)) = (c : Int) := by injection q
  omega
def sp_both (K : PySem.W.Frag) : Sp := P3 fun a b c H Q _ => ∃ (way : Nat) (u l : Frac) (m n : Nat), a = .int (way : Int) ∧ FrAt K H b u ∧ FrAt K H c l ∧ Bd m u ∧ Bd n l ∧ 2 * m + 2 * n + 2 < 9000 ∧ Gives (fun v H' => FrAt K H' v (fMix way u l)) H Q
theorem ok_both_ways (T : Tx K mg) : Ok P w K mg base CX0 (4 + 1) (He.ga K "both_ways") ["way", "upper", "lower"] (sp_both K) := by
  refine mk0 T.f_both_ways sc_both_ways bd_both_ways P3.len (fun cdv A outer s H vs Q E hr h => ⟨_, (pss_cons (ps_if (pt_cmpR op_eq (pv 0) pe_int (nomark _)) (pss_one (ps_ret (pv 1))) pss_nil)
    (pss_cons (ps_if (pt_cmpR op_eq (pv 0) pe_int (nomark _)) (pss_one (ps_ret (oc (ok_times T) hr (by decide) T.g_times ((pass0 : Passes CX0 _ E0)) (pa_cons (pv 2) (pa_cons (pv 1) pa_nil))))) pss_nil)
    (pss_cons (ps_if (pt_cmpR op_eq (pv 0) pe_int (nomark _)) (pss_one (ps_ret (oc (ok_either T) hr (by decide) T.g_either ((pass0 : Passes CX0 _ E0)) (pa_cons (pv 2) (pa_cons (pv 1) pa_nil))))) pss_nil)
    (pss_cons (ps_if (pt_cmpR op_eq (pv 0) pe_int (nomark _)) (pss_one (ps_ret (pe_ifExp (pt_val (oc (ok_is_more T) hr (by decide) T.g_is_more ((pass0 : Passes CX0 _ E0)) (pa_cons (pv 1) (pa_cons (pv 2) pa_nil)))) (pv 2) (pv 1)))) pss_nil)
    (pss_cons (ps_if (pt_cmpR op_eq (pv 0) pe_int (nomark _)) (pss_one (ps_ret (pe_ifExp (pt_val (oc (ok_is_more T) hr (by decide) T.g_is_more ((pass0 : Passes CX0 _ E0)) (pa_cons (pv 1) (pa_cons (pv 2) pa_nil)))) (pv 1) (pv 2)))) pss_nil)
    (pss_cons (ps_if (pt_cmpR op_eq (pv 0) pe_int (nomark _)) (pss_one (ps_ret (oc (ok_apart T) hr (by decide) T.g_apart ((pass0 : Passes CX0 _ E0)) (pa_cons (pv 2) (pa_cons (pv 1) pa_nil))))) pss_nil)
    (pss_cons (ps_set (i := 3) sc_both_ways.nd rfl (Or.inl rfl) (oc (ok_plus T) hr (by decide) T.g_plus ((pass0 : Passes CX0 _ E0)) (pa_cons (pv 2) (pa_cons (pv 1) pa_nil))))
    (pss_one (ps_ret (pe_ifExp (pt_val (oc (ok_is_more T) hr (by decide) T.g_is_more ((pass0 : Passes CX0 _ E0)) (pa_cons (pv 3) (pa_cons (pgr T.g_ONE) pa_nil)))) (pgr T.g_ONE) (pv 3))))))))))), ?_⟩)
  obtain ⟨_, _, _, rfl, way, u, l, m, n, rfl, h1, h2, b1, b2, hs, k⟩ := h
  refine q_when (et_eqn 0 (ev_var rfl)) (fun hb H1 e1 => ?_) (fun hb H1 e1 => ?_)
  all_goals
    replace h1 := h1.ex e1
    replace h2 := h2.ex e1
    replace k := k.ex e1
    clear e1
    simp only [decide_eq_true_eq, decide_eq_false_iff_not] at hb
  · exact s_retP (evp_fvar rfl h1) fun v H2 e r => k _ _ e (by rw [fMix, if_pos hb]; exact r)
  refine q_when (et_eqn 1 (ev_var rfl)) (fun hb H1 e1 => ?_) (fun hb H1 e1 => ?_)
  all_goals
    replace h1 := h1.ex e1
    replace h2 := h2.ex e1
    replace k := k.ex e1
    clear e1
    simp only [decide_eq_true_eq, decide_eq_false_iff_not] at hb
  · exact s_retP (evp_f2 n m (evp_fvar rfl h2) (evp_fvar rfl h1) b2 b1 (by omega) trivial) fun v H2 e r => k _ _ e (by rw [fMix, if_neg ‹_›, if_pos hb]; exact r)
  refine q_when (et_eqn 2 (ev_var rfl)) (fun hb H1 e1 => ?_) (fun hb H1 e1 => ?_)
  all_goals
    replace h1 := h1.ex e1
    replace h2 := h2.ex e1
    replace k := k.ex e1
    clear e1
    simp only [decide_eq_true_eq, decide_eq_false_iff_not] at hb
  · refine s_retP (R := fun v H' => FrAt K H' v (fEither l u)) (evp_call (evap_cons (evp_fvar rfl h2) FrAt.mono (evap_cons (evp_fvar rfl h1) FrAt.mono evap_nil)) fun vs H1 e ⟨a, xs, e1, r1, b, ys, e2, r2, e3⟩ Q E q => ?_) fun v H2 e r => k _ _ e (by rw [fMix, if_neg ‹_›, if_neg ‹_›, if_pos hb]; exact r)
    subst e3 e2 e1
    exact ⟨a, b, rfl, l, u, n, m, r1, r2, b2, b1, by omega, q⟩
  refine q_when (et_eqn 3 (ev_var rfl)) (fun hb H1 e1 => ?_) (fun hb H1 e1 => ?_)
  all_goals
    replace h1 := h1.ex e1
    replace h2 := h2.ex e1
    replace k := k.ex e1
    clear e1
    simp only [decide_eq_true_eq, decide_eq_false_iff_not] at hb
  · refine s_retP (R := fun v H' => FrAt K H' v (if fMore u l = true then l else u)) (evp_if (b := fMore u l) (et_B (EvP.to (evp_call (evap_cons (evp_fvar rfl h1) FrAt.mono (evap_cons (evp_fvar rfl h2) FrAt.mono evap_nil)) fun vs H1 e ⟨a, xs, e1, r1, b, ys, e2, r2, e3⟩ Q E q => ?_))) (fun z => (evp_fvar rfl h2).imp fun v H1 e r => by rw [if_pos z]; exact r) (fun z => (evp_fvar rfl h1).imp fun v H1 e r => by rw [if_neg (by rw [z]; decide)]; exact r)) fun v H2 e r => k _ _ e (by rw [fMix, if_neg ‹_›, if_neg ‹_›, if_neg ‹_›, if_pos hb]; exact r)
    subst e3 e2 e1
    exact ⟨a, b, rfl, u, l, m, n, r1, r2, b1, b2, by omega, q⟩
  refine q_when (et_eqn 4 (ev_var rfl)) (fun hb H1 e1 => ?_) (fun hb H1 e1 => ?_)
  all_goals
    replace h1 := h1.ex e1
    replace h2 := h2.ex e1
    replace k := k.ex e1
    clear e1
    simp only [decide_eq_true_eq, decide_eq_false_iff_not] at hb
  · refine s_retP (R := fun v H' => FrAt K H' v (if fMore u l = true then u else l)) (evp_if (b := fMore u l) (et_B (EvP.to (evp_call (evap_cons (evp_fvar rfl h1) FrAt.mono (evap_cons (evp_fvar rfl h2) FrAt.mono evap_nil)) fun vs H1 e ⟨a, xs, e1, r1, b, ys, e2, r2, e3⟩ Q E q => ?_))) (fun z => (evp_fvar rfl h1).imp fun v H1 e r => by rw [if_pos z]; exact r) (fun z => (evp_fvar rfl h2).imp fun v H1 e r => by rw [if_neg (by rw [z]; decide)]; exact r)) fun v H2 e r => k _ _ e (by rw [fMix, if_neg ‹_›, if_neg ‹_›, if_neg ‹_›, if_neg ‹_›, if_pos hb]; exact r)
    subst e3 e2 e1
    exact ⟨a, b, rfl, u, l, m, n, r1, r2, b1, b2, by omega, q⟩
  refine q_when (et_eqn 5 (ev_var rfl)) (fun hb H1 e1 => ?_) (fun hb H1 e1 => ?_)
  all_goals
    replace h1 := h1.ex e1
    replace h2 := h2.ex e1
    replace k := k.ex e1
    clear e1
    simp only [decide_eq_true_eq, decide_eq_false_iff_not] at hb
  · exact s_retP (evp_f2 n m (evp_fvar rfl h2) (evp_fvar rfl h1) b2 b1 (by omega) trivial) fun v H2 e r => k _ _ e (by rw [fMix, if_neg ‹_›, if_neg ‹_›, if_neg ‹_›, if_neg ‹_›, if_neg ‹_›, if_pos hb]; exact r)
  refine q_asgP (evp_f2 n m (evp_fvar rfl h2) (evp_fvar rfl h1) b2 b1 (by omega) trivial) fun v H1 e1 r => ?_
  refine s_retP (R := fun v H' => FrAt K H' v (if fMore (l.add u) Sq49.one = true then Sq49.one else l.add u)) (evp_if (b := fMore (l.add u) Sq49.one) (et_B (EvP.to (evp_call (evap_cons (evp_fvar rfl r) FrAt.mono (evap_cons (evp_fc (one_at T _)) FrAt.mono evap_nil)) fun vs H1 e ⟨a, xs, e1, r1, b, ys, e2, r2, e3⟩ Q E q => ?_))) (fun z => (evp_fc (one_at T _)).imp fun v H1 e r => by rw [if_pos z]; exact r) (fun z => (evp_fvar rfl r).imp fun v H1 e r => by rw [if_neg (by rw [z]; decide)]; exact r)) fun v H2 e r => k _ _ (e1.trans e) (by rw [fMix, if_neg ‹_›, if_neg ‹_›, if_neg ‹_›, if_neg ‹_›, if_neg ‹_›, if_neg ‹_›]; exact r)
  subst e3 e2 e1
  exact ⟨a, b, rfl, _, _, n + m + 1, 1, r1, r2, b2.add b1, bd_one, by omega, q⟩
/-- the equality of two fractions -/
theorem et_feq {σ : L2.St} {H : Hp} {ta tb : TE} {r1 r2 : Addr} {x y : Frac} (ha : Ev ta σ H (.ref r1)) (hb : Ev tb σ H (.ref r2)) (h1 : SqT K H r1 [.int (x.n : Int), .int (x.d : Int)]) (h2 : SqT K H r2 [.int (y.n : Int), .int (y.d : Int)]) : EvT (tTest (tOp (rEqD K) ta tb)) σ H (decide (x = y)) := by
  refine et_is (et_test (ev_op ha hb (z := .bl (PyData.eqv (.tuple [.int (x.n : Int), .int (x.d : Int)]) (.tuple [.int (y.n : Int), .int (y.d : Int)]))) fun H1 e Q q => ⟨_, _, .tup (ex_t e h1) (.cons (.int _) (.cons (.int _) .nil)), .tup (ex_t e h2) (.cons (.int _) (.cons (.int _) .nil)), rfl, rfl, q H1 (Ex.refl _)⟩)) ?_
  have e : PyData.eqv (.tuple [.int (x.n : Int), .int (x.d : Int)]) (.tuple [.int (y.n : Int), .int (y.d : Int)]) = (((x.n : Int) == (y.n : Int)) && ((x.d : Int) == (y.d : Int))) := by
    simp [PyData.eqv, PyData.eqvAll]
  rw [e]
  obtain ⟨a, b⟩ := x
  obtain ⟨c, d⟩ := y
  by_cases h3 : a = c <;> by_cases h4 : b = d <;> simp [h3, h4, Int.ofNat_inj]
/-- a, b = a pair -/
theorem q_unp2 {σ : L2.St} {H : Hp} {D : Ends} {tz : TS} {te : TE} {r : Addr} {v1 v2 : V} {j k : Nat} (hv : Ev te σ H (.ref r)) (hS : SqT K H r [v1, v2]) (q : ∀ H1, Ex H H1 → tz D ((σ.set j (some v1)).set k (some v2)) H1) : tSeq (tAsg te (gTup K 2 (gCons (gName j) (gCons (gName k) gNil)))) tz D σ H :=
  hv H (Ex.refl _) _ fun H1 e => ⟨r, [v1, v2], rfl, ex_t e hS, rfl, v1, [v2], rfl, v2, [], rfl, rfl, q H1 e⟩
def PairAt (K : PySem.W.Frag) (H : Hp) (v : V) (p : Frac × Frac) : Prop := ∃ r v1 v2, v = .ref r ∧ SqT K H r [v1, v2] ∧ FrAt K H v1 p.1 ∧ FrAt K H v2 p.2
theorem PairAt.ex {H H' : Hp} {v : V} {p : Frac × Frac} (h : PairAt K H v p) (e : Ex H H') : PairAt K H' v p := by
  obtain ⟨r, v1, v2, h1, h2, h3, h4⟩ := h
  exact ⟨r, v1, v2, h1, ex_t e h2, h3.ex e, h4.ex e⟩
theorem PairAt.mono {p : Frac × Frac} : Mono (fun v H => PairAt K H v p) := fun _ _ _ e h => h.ex e
/-- (a, b), two fractions -/
theorem evp_pair {σ : L2.St} {H : Hp} {ta tb : TE} {x y : Frac} (h1 : EvP ta σ H (fun v H' => FrAt K H' v x)) (h2 : EvP tb σ H (fun v H' => FrAt K H' v y)) : EvP (tTup (tCons ta (tCons tb tNil))) σ H (fun v H' => PairAt K H' v (x, y)) :=
  (evp_tup (evap_cons h1 FrAt.mono (evap_cons h2 FrAt.mono evap_nil)) (fun vs H H' e ⟨a, xs, e1, r1, b, ys, e2, r2, e3⟩ => ⟨a, xs, e1, r1.ex e, b, ys, e2, r2.ex e, e3⟩) (fun vs H1 ⟨a, xs, e1, r1, b, ys, e2, r2, e3⟩ => by subst e3 e2 e1; show 2 ≤ 100000; decide)).imp fun v H1 e ⟨p, vs, e0, h0, a, xs, e1, r1, b, ys, e2, r2, e3⟩ => by
    subst e3 e2 e1
    exact ⟨p, a, b, e0, st_of h0, r1, r2⟩
def sp_put (K : PySem.W.Frag) : Sp := P4 fun a b c d H Q _ => ∃ (way : Nat) (s S : Frac) (p : Frac × Frac) (ms mS mb mB : Nat), a = .int (way : Int) ∧ FrAt K H b s ∧ FrAt K H c S ∧ PairAt K H d p ∧ (Bd ms s ∧ Red s) ∧ (Bd mS S ∧ Red S) ∧ (Bd mb p.1 ∧ Red p.1) ∧ (Bd mB p.2 ∧ Red p.2) ∧ 2 * mS + 2 * mB + 4 * ms + 4 * mb + 6 < 9000 ∧ Gives (fun v H' => PairAt K H' v (fPut way s S p)) H Q
theorem evp_either {σ : L2.St} {H : Hp} {E : XK} {ta tb : TE} {x y : Frac} (m n : Nat) (h1 : EvP ta σ H (fun v H' => FrAt K H' v x)) (h2 : EvP tb σ H (fun v H' => FrAt K H' v y)) (b1 : Bd m x) (b2 : Bd n y) (hs : 2 * m + 2 * n + 1 < 9000) :
    EvP (tCall (sp_either K) [] E (tCons ta (tCons tb tNil))) σ H (fun v H' => FrAt K H' v (fEither x y)) :=
  evp_call (evap_cons h1 FrAt.mono (evap_cons h2 FrAt.mono evap_nil)) fun vs H1 e ⟨a, xs, e1, r1, b, ys, e2, r2, e3⟩ Q E q => by
    subst e3 e2 e1
    exact ⟨a, b, rfl, x, y, m, n, r1, r2, b1, b2, hs, q⟩
theorem evp_both {σ : L2.St} {H : Hp} {E : XK} {t0 ta tb : TE} {way : Nat} {x y : Frac} (m n : Nat) (h0 : Ev t0 σ H (.int (way : Int))) (h1 : EvP ta σ H (fun v H' => FrAt K H' v x)) (h2 : EvP tb σ H (fun v H' => FrAt K H' v y)) (b1 : Bd m x) (b2 : Bd n y) (hs : 2 * m + 2 * n + 2 < 9000) :
    EvP (tCall (sp_both K) [] E (tCons t0 (tCons ta (tCons tb tNil)))) σ H (fun v H' => FrAt K H' v (fMix way x y)) :=
  evp_call (evap_cons (.of h0) (fun _ _ _ _ h => h) (evap_cons h1 FrAt.mono (evap_cons h2 FrAt.mono evap_nil))) fun vs H1 e ⟨z, zs, e4, e5, a, xs, e1, r1, b, ys, e2, r2, e3⟩ Q E q => by
    subst e3 e2 e1 e4 e5
    exact ⟨_, a, b, rfl, way, x, y, m, n, rfl, r1, r2, b1, b2, hs, q⟩
theorem ok_put_upon (T : Tx K mg) : Ok P w K mg base CX0 (5 + 1) (He.ga K "put_upon") ["way", "covers", "colour", "below"] (sp_put K) := by
  refine mk0 T.f_put_upon sc_put_upon bd_put_upon P4.len (fun cdv A outer s H vs Q E hr h => ⟨_, (pss_cons (ps_asg (pv 3) (kpg_tup (K := K) (n := 2) (by rfl) (pgs_cons (pg_name (i := 4) sc_put_upon.nd rfl (Or.inl rfl)) (pgs_cons (pg_name (i := 5) sc_put_upon.nd rfl (Or.inl rfl)) pgs_nil))))
    (pss_cons (ps_set (i := 6) sc_put_upon.nd rfl (Or.inl rfl) (oc (ok_either T) hr (by decide) T.g_either ((pass0 : Passes CX0 _ E0)) (pa_cons (pv 1) (pa_cons (pv 4) pa_nil))))
    (pss_cons (ps_if (pt_cmpR (k_eqD (K := K) (by exact hr.units)) (pv 6) (pgr T.g_NOUGHT) (nomark _)) (pss_one (ps_ret (pe_tup (pa_cons (pgr T.g_NOUGHT) (pa_cons (pgr T.g_NOUGHT) pa_nil))))) pss_nil)
    (pss_cons (ps_set (i := 7) sc_put_upon.nd rfl (Or.inl rfl) (oc (ok_times T) hr (by decide) T.g_times ((pass0 : Passes CX0 _ E0)) (pa_cons (oc (ok_times T) hr (by decide) T.g_times ((pass0 : Passes CX0 _ E0)) (pa_cons (pv 2) (pa_cons (pv 1) pa_nil))) (pa_cons (oc (ok_apart T) hr (by decide) T.g_apart ((pass0 : Passes CX0 _ E0)) (pa_cons (pgr T.g_ONE) (pa_cons (pv 4) pa_nil))) pa_nil))))
    (pss_cons (ps_set (i := 7) sc_put_upon.nd rfl (Or.inl rfl) (oc (ok_plus T) hr (by decide) T.g_plus ((pass0 : Passes CX0 _ E0)) (pa_cons (pv 7) (pa_cons (oc (ok_times T) hr (by decide) T.g_times ((pass0 : Passes CX0 _ E0)) (pa_cons (oc (ok_times T) hr (by decide) T.g_times ((pass0 : Passes CX0 _ E0)) (pa_cons (pv 5) (pa_cons (pv 4) pa_nil))) (pa_cons (oc (ok_apart T) hr (by decide) T.g_apart ((pass0 : Passes CX0 _ E0)) (pa_cons (pgr T.g_ONE) (pa_cons (pv 1) pa_nil))) pa_nil))) pa_nil))))
    (pss_cons (ps_set (i := 7) sc_put_upon.nd rfl (Or.inl rfl) (oc (ok_plus T) hr (by decide) T.g_plus ((pass0 : Passes CX0 _ E0)) (pa_cons (pv 7) (pa_cons (oc (ok_times T) hr (by decide) T.g_times ((pass0 : Passes CX0 _ E0)) (pa_cons (oc (ok_times T) hr (by decide) T.g_times ((pass0 : Passes CX0 _ E0)) (pa_cons (pv 1) (pa_cons (pv 4) pa_nil))) (pa_cons (oc (ok_both_ways T) hr (by decide) T.g_both_ways ((pass0 : Passes CX0 _ E0)) (pa_cons (pv 0) (pa_cons (pv 2) (pa_cons (pv 5) pa_nil)))) pa_nil))) pa_nil))))
    (pss_one (ps_ret (pe_tup (pa_cons (pv 6) (pa_cons (oc (ok_by T) hr (by decide) T.g_by ((pass0 : Passes CX0 _ E0)) (pa_cons (pv 7) (pa_cons (pv 6) pa_nil))) pa_nil))))))))))), ?_⟩)
  obtain ⟨_, _, _, _, rfl, way, s, S, ⟨b, B⟩, ms, mS, mb, mB, rfl, h1, h2, ⟨r, vb, vB, rfl, hr2, h3, h4⟩, ⟨b1, d1⟩, ⟨b2, d2⟩, ⟨b3, d3⟩, ⟨b4, d4⟩, hs, k⟩ := h
  dsimp only at h3 h4 b3 b4 d3 d4
  refine q_unp2 (ev_var rfl) hr2 fun H1 e1 => ?_
  replace h1 := h1.ex e1
  replace h2 := h2.ex e1
  replace h3 := h3.ex e1
  replace h4 := h4.ex e1
  replace k := k.ex e1
  clear e1
  refine q_asgP (evp_either ms mb (evp_fvar rfl h1) (evp_fvar rfl h3) b1 b3 (by omega)) fun vw H2 e1 r => ?_
  obtain ⟨rw_, rfl, hw⟩ := r
  replace h1 := h1.ex e1
  replace h2 := h2.ex e1
  replace h3 := h3.ex e1
  replace h4 := h4.ex e1
  replace k := k.ex e1
  clear e1
  have bw := Bd.either2 d1 d3 b1 b3
  refine q_when (et_feq (x := fEither s b) (y := Sq49.zero) (ev_var rfl) ev_c hw (T.t_NOUGHT _)) (fun hb H3 e1 => ?_) (fun hb H3 e1 => ?_)
  · refine s_retP (evp_pair (evp_fc (nought_at T _)) (evp_fc (nought_at T _))) fun v H4 e2 r => k _ _ (e1.trans e2) ?_
    rw [show fPut way s S (b, B) = (Sq49.zero, Sq49.zero) from if_pos (of_decide_eq_true hb)]
    exact r
  have hz : ¬ fEither s b = Sq49.zero := of_decide_eq_false hb
  replace h1 := h1.ex e1
  replace h2 := h2.ex e1
  replace h3 := h3.ex e1
  replace h4 := h4.ex e1
  replace k := k.ex e1
  replace hw := ex_t e1 hw
  clear e1
  refine q_asgP (evp_f2 (mS + ms) (1 + mb) (evp_f2 mS ms (evp_fvar rfl h2) (evp_fvar rfl h1) b2 b1 (by omega) trivial) (evp_f2 1 mb (evp_fc (one_at T _)) (evp_fvar rfl h3) bd_one b3 (by omega) trivial) (b2.mul b1) (bd_one.apart b3) (by omega) trivial) fun v1 H4 e1 r1 => ?_
  replace h1 := h1.ex e1
  replace h2 := h2.ex e1
  replace h3 := h3.ex e1
  replace h4 := h4.ex e1
  replace k := k.ex e1
  replace hw := ex_t e1 hw
  clear e1
  have c1 := (b2.mul b1).mul (bd_one.apart b3)
  have c2 := (b4.mul b3).mul (bd_one.apart b1)
  refine q_asgP (evp_f2 (mS + ms + (1 + mb)) (mB + mb + (1 + ms)) (evp_fvar rfl r1) (evp_f2 (mB + mb) (1 + ms) (evp_f2 mB mb (evp_fvar rfl h4) (evp_fvar rfl h3) b4 b3 (by omega) trivial) (evp_f2 1 ms (evp_fc (one_at T _)) (evp_fvar rfl h1) bd_one b1 (by omega) trivial) (b4.mul b3) (bd_one.apart b1) (by omega) trivial) c1 c2 (by omega) trivial) fun v2 H5 e1 r2 => ?_
  replace h1 := h1.ex e1
  replace h2 := h2.ex e1
  replace h3 := h3.ex e1
  replace h4 := h4.ex e1
  replace k := k.ex e1
  replace hw := ex_t e1 hw
  clear e1
  have c3 := c1.add c2
  have c4 := (b1.mul b3).mul (Bd.mix2 (way := way) d2 d4 b2 b4)
  refine q_asgP (evp_f2 _ (ms + mb + (mS + mB + 1)) (evp_fvar rfl r2) (evp_f2 (ms + mb) (mS + mB + 1) (evp_f2 ms mb (evp_fvar rfl h1) (evp_fvar rfl h3) b1 b3 (by omega) trivial) (evp_both mS mB (ev_var rfl) (evp_fvar rfl h2) (evp_fvar rfl h4) b2 b4 (by omega)) (b1.mul b3) (Bd.mix2 d2 d4 b2 b4) (by omega) trivial) c3 c4 (by omega) trivial) fun v3 H6 e1 r3 => ?_
  replace k := k.ex e1
  replace hw := ex_t e1 hw
  clear e1
  have c5 := c3.add c4
  have hp : 0 < (fEither s b).n := by
    refine Nat.pos_of_ne_zero fun z => hz ?_
    have q := Red.zero_of (red_either d1 d3) z
    exact q
  refine s_retP (evp_pair (evp_fvar rfl ⟨rw_, rfl, hw⟩) (evp_f2 _ (ms + mb + 1) (evp_fvar rfl r3) (evp_fvar rfl ⟨rw_, rfl, hw⟩) c5 bw (by omega) hp)) fun v H7 e1 r => k _ _ e1 ?_
  rw [show fPut way s S (b, B) = (fEither s b, ((((S.mul s).mul (fApart Sq49.one b)).add ((B.mul b).mul (fApart Sq49.one s))).add ((s.mul b).mul (fMix way S B))).by_ (fEither s b)) from if_neg hz]
  exact r
end Lp
set_option Elab.async false
set_option linter.all false
set_option maxRecDepth 100000
set_option maxHeartbeats 4000000
namespace Lp
open PySem PySem.Spec PyProof.Rows L2 Evl
open Sq49 (Frac frac)
variable {P : Program} {w : World} {K : PySem.W.Frag} {mg : Str → Option Value} {base : Heap}
theorem pair_len {α β : Type} {F : α → β → Prop} : ∀ {xs : List α} {ys : List β}, Paired F xs ys → xs.length = ys.length
  | _, _, .nil => rfl
  | _, _, .cons _ t => by rw [List.length_cons, List.length_cons, pair_len t]
theorem pair_get {α β : Type} {F : α → β → Prop} : ∀ {xs : List α} {ys : List β} {i : Nat} {y : β}, Paired F xs ys → ys[i]? = some y → ∃ x, xs[i]? = some x ∧ F x y
  | _, _, _, _, .nil, e => by simp at e
  | _, _, 0, y, .cons r _, e => by
    simp at e
    subst e
    exact ⟨_, rfl, r⟩
  | _, _, i + 1, y, .cons _ t, e => by
    obtain ⟨x, h1, h2⟩ := pair_get (i := i) t (by simpa using e)
    exact ⟨x, by simpa using h1, h2⟩
theorem pair_get' {α β : Type} {F : α → β → Prop} : ∀ {xs : List α} {ys : List β} {i : Nat} {x : α}, Paired F xs ys → xs[i]? = some x → ∃ y, ys[i]? = some y ∧ F x y
  | _, _, _, _, .nil, e => by simp at e
  | _, _, 0, y, .cons r _, e => by
    simp at e
    subst e
    exact ⟨_, rfl, r⟩
  | _, _, i + 1, y, .cons _ t, e => by
    obtain ⟨x, h1, h2⟩ := pair_get' (i := i) t (by simpa using e)
    exact ⟨x, by simpa using h1, h2⟩
/-- an item of a layer's dots -/
theorem ev_dot {σ : L2.St} {H : Hp} {ta tb : TE} {aD : Addr} {ds : List (Nat × Nat)} {p : Nat} {d : Nat × Nat} (ha : Ev ta σ H (.ref aD)) (hb : Ev tb σ H (.int (p : Int))) (h : DotsAt K H aD ds) (hd : ds[p]? = some d) :
    ∃ r, Ev (tOp (rIxL K) ta tb) σ H (.ref r) ∧ SqT K H r [.int (d.1 : Int), .int (d.2 : Int)] := by
  obtain ⟨vs, h1, h2⟩ := h
  obtain ⟨v, h3, r, rfl, h4⟩ := pair_get h2 hd
  exact ⟨r, ev_op ha hb (rv_ixL (sq_of h1) (atI_nat h3)), h4⟩
def sp_layer_upon (K : PySem.W.Frag) : Sp := P3 fun a b c H Q _ => ∃ (l : Sq50.Layer) (r aD : Addr) (p n i : Nat) (q : Frac × Frac), a = .ref r ∧ LayA K H r l aD ∧ b = .int (p : Int) ∧ LOk l n ∧ p < n ∧ PairAt K H c q ∧ PileOk i q ∧ i < 5 ∧ Gives (fun v H' => PairAt K H' v (fLayer l p q)) H Q
theorem ok_layer_upon (T : Tx K mg) : Ok P w K mg base CX0 (6 + 1) (He.ga K "layer_upon") ["layer", "place", "below"] (sp_layer_upon K) := by
  refine mk0 T.f_layer_upon sc_layer_upon bd_layer_upon P3.len (fun cdv A outer s H vs Q E hr h => ⟨_, (pss_cons (ps_asg (pe_ix (kix_list (K := K)) (kfld (K := K) (pv 0) rfl) (pv 1) (fun _ _ => rfl)) (kpg_tup (K := K) (n := 2) (by rfl) (pgs_cons (pg_name (i := 3) sc_layer_upon.nd rfl (Or.inl rfl)) (pgs_cons (pg_name (i := 4) sc_layer_upon.nd rfl (Or.inl rfl)) pgs_nil))))
    (pss_cons (ps_set (i := 5) sc_layer_upon.nd rfl (Or.inl rfl) (oc (ok_lowest T) hr (by decide) T.g_lowest ((pass0 : Passes CX0 _ E0)) (pa_cons (pe_op op_mul (pe_op op_mul (pv 4) (kfld (K := K) (pv 0) rfl)) (kfld (K := K) (pv 0) rfl)) (pa_cons (pe_op op_mul (pgi T.i_GREATEST) (pgi T.i_GREATEST)) pa_nil))))
    (pss_one (ps_ret (oc (ok_put_upon T) hr (by decide) T.g_put_upon ((pass0 : Passes CX0 _ E0)) (pa_cons (kfld (K := K) (pv 0) rfl) (pa_cons (pv 5) (pa_cons (oc (ok_lowest T) hr (by decide) T.g_lowest ((pass0 : Passes CX0 _ E0)) (pa_cons (pv 3) (pa_cons (pgi T.i_GREATEST) pa_nil))) (pa_cons (pv 2) pa_nil))))))))), ?_⟩)
  obtain ⟨_, _, c, rfl, l, r, aD, p, n, i, q, rfl, hL, rfl, ok, hp, hc, pk, hi, k⟩ := h
  have hlt : p < l.dots.length := by rw [ok.len]; exact hp
  have hm : l.dots[p] ∈ l.dots := List.getElem_mem hlt
  obtain ⟨r1, h1, h2⟩ := ev_dot (σ := start ["layer", "place", "below", "colour", "cover", "covers"] [.ref r, .int (p : Int), c]) (H := H) (ev_dots T (ev_var (i := 0) rfl) hL) (ev_var (i := 1) rfl) hL.dots (List.getElem?_eq_getElem hlt)
  refine q_unp2 h1 h2 fun H1 e1 => ?_
  replace hL := hL.ex e1
  replace hc := hc.ex e1
  replace k := k.ex e1
  clear e1 h1 h2
  refine q_asgP (evp_low (l.dots[p].2 * l.strong * (if l.seen = true then 1 else 0)) 65025 16 (ea_cons (ev_op (ev_op (ev_var rfl) (ev_strong T (ev_var rfl) hL) (rv_I (.inl ⟨by have := (ok.dots _ hm).2; omega, by have := (ok.dots _ hm).2; omega⟩))) (ev_seen T (ev_var rfl) hL) (rv_I (.inr (by split <;> decide)))) (ea_cons (ev_op ev_c ev_c (rv_I (.inl (by decide)))) ea_nil)) (by split <;> push_cast <;> rfl) rfl (by decide) (by decide) (by decide)) fun v H2 e1 hv => ?_
  replace hL := hL.ex e1
  replace hc := hc.ex e1
  replace k := k.ex e1
  clear e1
  refine s_retP (R := fun v H' => PairAt K H' v (fLayer l p q)) (evp_call (evap_cons (.of (ev_way T (ev_var rfl) hL)) (fun _ _ _ _ h => h) (evap_cons (evp_fvar rfl hv) FrAt.mono (evap_cons (evp_low l.dots[p].1 255 8 (ea_cons (ev_var rfl) (ea_cons ev_c ea_nil)) rfl rfl (by decide) (by decide) (by decide)) FrAt.mono (evap_cons (S := fun vs _ => vs = []) (.of (ev_var rfl)) (fun _ _ _ _ h => h) evap_nil)))) fun vs H1 e ⟨x1, xs1, q1, e1, x2, xs2, q2, e2, x3, xs3, q3, e3, x4, xs4, q4, e4, q5⟩ Q E qq => ?_) fun v H3 e r => k _ _ e r
  subst q5 q4 q3 q2 q1 e1 e4
  have e0 : (l.dots[p]?).getD (0, 0) = l.dots[p] := by
    rw [List.getElem?_eq_getElem hlt]
    rfl
  refine ⟨_, x2, x3, _, rfl, l.way, _, _, q, 16, 8, 1 + 17 * i, mBn i, rfl, e2, e3, hc.ex e, ⟨frac_bd (lcov_bd ok hm) (by decide) (by decide), red_frac (by decide)⟩, ⟨frac_bd (Nat.lt_of_le_of_lt (ok.dots _ hm).1 (by decide)) (by decide) (by decide), red_frac (by decide)⟩, ⟨pk.b1, pk.d1⟩, ⟨pk.b2, pk.d2⟩, ?_, fun v H' ex r => qq v H' ex ?_⟩
  · have := mBn_lt (i + 1) (by omega)
    unfold mBn at this
    omega
  · unfold fLayer
    rw [e0]
    exact r
def sp_rounded (K : PySem.W.Frag) : Sp := P1 fun a H Q _ => ∃ (x : Frac) (m : Nat), FrAt K H a x ∧ Bd m x ∧ m < 8000 ∧ Gives (fun v _ => v = .int ((Sq49.rounded x : Nat) : Int)) H Q
theorem ok_rounded (T : Tx K mg) : Ok P w K mg base CX0 (0 + 1) (He.ga K "rounded") ["part"] (sp_rounded K) := by
  refine mk0 T.f_rounded sc_rounded bd_rounded P1.len (fun cdv A outer s H vs Q E hr h => ⟨_, (pss_one (ps_ret (pe_op op_fdivW (pe_op op_add (pe_op op_mul (pe_op op_mul pe_int (pgi T.i_GREATEST)) (pe_ix (kix_tup (K := K)) (pv 0) pe_int (fun _ _ => rfl))) (pe_ix (kix_tup (K := K)) (pv 0) pe_int (fun _ _ => rfl))) (pe_op op_mul pe_int (pe_ix (kix_tup (K := K)) (pv 0) pe_int (fun _ _ => rfl)))))), ?_⟩)
  obtain ⟨_, rfl, x, m, ⟨r, rfl, h1⟩, b, hm, k⟩ := h
  have h2 : 2 * x.d < 2 ^ (m + 1) := by
    have := b.d
    rw [Nat.pow_succ]
    omega
  refine s_ret (ev_op (ev_op (ev_op (ev_op ev_c ev_c (rv_I (.inl (by decide)))) (ev_fn (ev_var rfl) h1) (rv_I (.inl (by decide)))) (ev_fd (ev_var rfl) h1) rv_I0) (ev_op ev_c (ev_fd (ev_var rfl) h1) (rv_I (.inl (by decide)))) (rv_I (by have z := w_div (a := 2 * 255 * x.n + x.d) h2 (by have := b.p; omega) (by omega); push_cast at z; exact z))) fun H1 e => k _ _ e ?_
  unfold Sq49.rounded
  push_cast
  rfl
/-- a new dot -/
def GivesDot (d : Nat × Nat) (H : Hp) (Q : VK) : Prop := ∀ r H', H r = none → Ex H H' → H' r = some (.tup [.int (d.1 : Int), .int (d.2 : Int)]) → Q (.ref r) H'
def sp_dot_of (K : PySem.W.Frag) : Sp := P2 fun a b H Q _ => ∃ (ls : List Sq50.Layer) (aL : Addr) (p n : Nat), a = .ref aL ∧ LaysAt K H aL ls ∧ b = .int (p : Int) ∧ (∀ l ∈ ls, LOk l n) ∧ p < n ∧ ls.length ≤ 5 ∧ GivesDot (fDot ls p) H Q
theorem take_snoc {α : Type} {l : List α} {i : Nat} {x : α} (h : l[i]? = some x) : l.take (i + 1) = l.take i ++ [x] := by
  rw [List.take_add_one, h]
  rfl
theorem fPile_snoc {ls : List Sq50.Layer} {i p : Nat} {l : Sq50.Layer} (h : ls[i]? = some l) : fPile (ls.take (i + 1)) p = fLayer l p (fPile (ls.take i) p) := by
  unfold fPile
  rw [take_snoc h, List.foldl_append]
  rfl
theorem ok_dot_of (T : Tx K mg) : Ok P w K mg base CX0 (7 + 1) (He.ga K "dot_of") ["layers", "place"] (sp_dot_of K) := by
  refine mk0 T.f_dot_of sc_dot_of bd_dot_of P2.len (fun cdv A outer s H vs Q E hr h => ⟨_, (pss_cons (ps_set (i := 2) sc_dot_of.nd rfl (Or.inl rfl) (pe_tup (pa_cons (pgr T.g_NOUGHT) (pa_cons (pgr T.g_NOUGHT) pa_nil))))
    (pss_cons (ps_for PassesOwn.never rfl (kpi_list (K := K) (pv 0)) (pg_name (i := 3) sc_dot_of.nd rfl (Or.inl rfl)) (pss_one (ps_set (i := 2) sc_dot_of.nd rfl (Or.inl rfl) (oc (ok_layer_upon T) hr (by decide) T.g_layer_upon ((pass0 : Passes CX0 _ E0)) (pa_cons (pv 3) (pa_cons (pv 1) (pa_cons (pv 2) pa_nil)))))))
    (pss_cons (ps_set (i := 4) sc_dot_of.nd rfl (Or.inl rfl) (oc (ok_rounded T) hr (by decide) T.g_rounded ((pass0 : Passes CX0 _ E0)) (pa_cons (pe_ix (kix_tup (K := K)) (pv 2) pe_int (fun _ _ => rfl)) pa_nil)))
    (pss_cons (ps_if (pt_cmpR op_eq (pv 4) pe_int (nomark _)) (pss_one (ps_ret (pe_tup (pa_cons pe_int (pa_cons pe_int pa_nil))))) pss_nil)
    (pss_one (ps_ret (pe_tup (pa_cons (oc (ok_rounded T) hr (by decide) T.g_rounded ((pass0 : Passes CX0 _ E0)) (pa_cons (pe_ix (kix_tup (K := K)) (pv 2) pe_int (fun _ _ => rfl)) pa_nil)) (pa_cons (pv 4) pa_nil))))))))), ?_⟩)
  obtain ⟨_, _, rfl, ls, aL, p, n, rfl, ⟨vs, hvs, hpr⟩, rfl, ok, hp, h5, k⟩ := h
  have hlen := pair_len hpr
  have pok : ∀ i, i ≤ ls.length → PileOk i (fPile (ls.take i) p) := fun i hi => by
    have z := pile_ok hp (ls.take i) 0 _ (fun l hl => ok l (List.mem_of_mem_take hl)) pile_zero
    rw [List.length_take, Nat.min_eq_left hi, Nat.zero_add] at z
    exact z
  refine q_asgP (evp_pair (evp_fc (nought_at T _)) (evp_fc (nought_at T _))) fun v0 H1 e1 r1 => ?_
  refine q_forLn (a := aL) (xs := vs) (ev_var rfl) (sq_of (e1 _ _ hvs)) (fun i σ' H' => ∃ v lv, σ' = [some (.ref aL), some (.int (p : Int)), some v, lv, none] ∧ Ex H H' ∧ PairAt K H' v (fPile (ls.take i) p)) (fun H2 e2 => ⟨v0, none, rfl, e1.trans e2, r1.ex e2⟩) (fun i σ' H' _ ⟨_, _, _, e, _⟩ => sq_of (e _ _ hvs)) ?_ ?_
  · rintro i x σ' H' hx ⟨v, lv, rfl, e, r⟩
    obtain ⟨l, hl, a, aD, rfl, hA⟩ := pair_get' hpr hx
    have hi : i < ls.length := (List.getElem?_eq_some_iff.mp hl).1
    refine s_asgP (R := fun w H' => PairAt K H' w (fLayer l p (fPile (ls.take i) p))) (evp_callA (ea_cons (ev_var rfl) (ea_cons (ev_var rfl) (ea_cons (ev_var rfl) ea_nil))) fun H2 e2 Q E q => ?_) fun w H2 e2 r2 => ⟨w, some (.ref a), rfl, e.trans e2, by rw [fPile_snoc hl]; exact r2⟩
    exact ⟨_, _, _, rfl, l, a, aD, p, n, i, _, rfl, hA.ex (e.trans e2), rfl, ok l (List.mem_of_getElem? hl), hp, r.ex e2, pok i (Nat.le_of_lt hi), by omega, q⟩
  · rintro σ' H' ⟨v, lv, rfl, e, r⟩
    rw [hlen, List.take_length] at r
    have pk := pok ls.length (Nat.le_refl _)
    rw [List.take_length] at pk
    obtain ⟨r0, v1, v2, rfl, s0, f1, f2⟩ := r
    have m1 := mBn_lt ls.length h5
    refine q_asgP (R := fun w _ => w = .int ((Sq49.rounded (fPile ls p).1 : Nat) : Int)) (evp_callA (ea_cons (ev_op (ev_var rfl) ev_c (rv_ixT s0 rfl)) ea_nil) fun H2 e2 Q E q => ⟨_, rfl, _, _, f1.ex e2, pk.b1, by omega, q⟩) fun w H2 e2 q2 => ?_
    subst q2
    refine q_when (et_eqn 0 (ev_var rfl)) (fun hb H3 e3 => ?_) (fun hb H3 e3 => ?_)
    · have hz : Sq49.rounded (fPile ls p).1 = 0 := of_decide_eq_true hb
      refine s_retU (eu_tup (ea_cons ev_c (ea_cons ev_c ea_nil)) (by show 2 ≤ 100000; decide)) fun q H4 hn e4 h4 => k q H4 (fresh_back ((e.trans e2).trans e3) hn) (((e.trans e2).trans e3).trans e4) ?_
      rw [h4, show fDot ls p = (0, 0) from if_pos hz]
      rfl
    · have hz : ¬ Sq49.rounded (fPile ls p).1 = 0 := of_decide_eq_false hb
      refine s_retU (eu_tup (ea_cons (EvP.to (evp_callA (R := fun w _ => w = .int ((Sq49.rounded (fPile ls p).2 : Nat) : Int)) (ea_cons (ev_op (ev_var rfl) ev_c (rv_ixT (ex_t (e2.trans e3) s0) rfl)) ea_nil) fun H5 e5 Q E q => ⟨_, rfl, _, _, f2.ex ((e2.trans e3).trans e5), pk.b2, m1, q⟩)) (ea_cons (ev_var rfl) ea_nil)) (by show 2 ≤ 100000; decide)) fun q H4 hn e4 h4 => k q H4 (fresh_back ((e.trans e2).trans e3) hn) (((e.trans e2).trans e3).trans e4) ?_
      rw [h4, show fDot ls p = (Sq49.rounded (fPile ls p).2, Sq49.rounded (fPile ls p).1) from if_neg hz]
end Lp
set_option Elab.async false
set_option linter.all false
set_option maxRecDepth 100000
set_option maxHeartbeats 4000000
namespace Lp
open PySem PySem.Spec PyProof.Rows L2 Evl
variable {P : Program} {w : World} {K : PySem.W.Frag} {mg : Str → Option Value} {base : Heap}
/-! ### new things -/
def EvN (te : TE) (σ : L2.St) (H : Hp) (R : Addr → Hp → Prop) : Prop := ∀ H1, Ex H H1 → ∀ Q : VK, (∀ x H2, H1 x = none → Ex H1 H2 → R x H2 → Q (.ref x) H2) → te σ H1 Q
def GivesN (R : Addr → Hp → Prop) (H : Hp) (Q : VK) : Prop := ∀ x H', H x = none → Ex H H' → R x H' → Q (.ref x) H'
theorem GivesN.ex {R : Addr → Hp → Prop} {H H1 : Hp} {Q : VK} (k : GivesN R H Q) (e : Ex H H1) : GivesN R H1 Q := fun x H' n e1 r => k x H' (fresh_back e n) (e.trans e1) r
section
variable {σ : L2.St} {H H' : Hp} {te : TE} {R R' : Addr → Hp → Prop} {D : Ends} {tz : TS}
theorem EvN.p (h : EvN te σ H R) : EvP te σ H (fun v H' => ∃ x, v = .ref x ∧ R x H') := fun H1 e Q q => h H1 e Q fun x H2 n e2 r => q _ H2 e2 ⟨x, rfl, r⟩
theorem EvN.mono (e : Ex H H') (h : EvN te σ H R) : EvN te σ H' R := fun H1 a Q q => h H1 (e.trans a) Q q
theorem EvN.imp (h : EvN te σ H R) (i : ∀ x H1, Ex H H1 → R x H1 → R' x H1) : EvN te σ H R' := fun H1 a Q q => h H1 a Q fun x H2 n e r => q x H2 n e (i x H2 (a.trans e) r)
theorem s_retN (h : EvN te σ H R) (k : ∀ x H1, H x = none → Ex H H1 → R x H1 → D.rt (.ref x) H1) : tRet te D σ H := h H (Ex.refl _) _ fun x H1 n e r => k x H1 n e r
theorem q_asgN {i : Nat} (h : EvN te σ H R) (k : ∀ x H1, H x = none → Ex H H1 → R x H1 → tz D (σ.set i (some (.ref x))) H1) : tSeq (tAsg te (gName i)) tz D σ H := h H (Ex.refl _) _ fun x H1 n e r => k x H1 n e r
theorem evn_list {xs : List V} (h : EvL te σ H xs) : EvN te σ H (fun x H' => H' x = some (.lst xs)) := fun H1 e Q q => h H1 e Q fun p H2 n e2 r => q p H2 n e2 r
theorem evn_call {sp : Sp} {E : XK} {ta : TA} {vs : List V} (h : EvA ta σ H vs) (hs : ∀ H1, Ex H H1 → ∀ (Q : VK) (E : XK), GivesN R H1 Q → sp vs H1 Q E) : EvN (tCall sp [] E ta) σ H R := fun H1 e Q q =>
  h H1 e _ fun H2 e2 => by
    show sp (vs ++ []) H2 Q E
    rw [List.append_nil]
    exact hs H2 (e.trans e2) Q E fun x H3 n e3 r => q x H3 (fresh_back e2 n) (e2.trans e3) r
theorem evn_meth {sp : Sp} {E : XK} {ta : TA} {a C dx : Addr} {fs : List (Str × V)} {m : Str} {vs : List V} (ho : Ev te σ H (.ref a)) (hi : H a = some (.ins C dx fs)) (hm : fs.lookup m = none) (h : EvA ta σ H vs)
    (hs : ∀ H1, Ex H H1 → ∀ (Q : VK) (E : XK), GivesN R H1 Q → sp (.ref a :: vs) H1 Q E) : EvN (tMeth C m sp [] E te ta) σ H R := fun H1 e Q q =>
  ho H1 e _ fun H2 e2 => ⟨a, dx, fs, rfl, (e.trans e2) _ _ hi, hm, h H2 (e.trans e2) _ fun H3 e3 => by
    show sp (V.ref a :: (vs ++ [])) H3 Q E
    rw [List.append_nil]
    exact hs H3 ((e.trans e2).trans e3) Q E fun x H4 n e4 r => q x H4 (fresh_back (e2.trans e3) n) ((e2.trans e3).trans e4) r⟩
theorem evn_pm {ta : TA} {sp : Sp} {E : XK} {m : Str} {vs : List V} {a aL aC : Addr} {s : Sq50.State} (ho : Ev te σ H (.ref a)) (h : PicA K H a s aL aC) (ha : EvA ta σ H vs) (hs : ∀ H1, Ex H H1 → ∀ (Q : VK) (E : XK), GivesN R H1 Q → sp (.ref a :: vs) H1 Q E)
    (hm : ((m == ("wide" : Str)) || ((m == ("high" : Str)) || ((m == ("layers" : Str)) || ((m == ("working" : Str)) || ((m == ("chosen" : Str)) || (m == ("following" : Str))))))) = false := by decide +kernel) : EvN (tMeth (CP K) m sp [] E te ta) σ H R := by
  obtain ⟨⟨dx, h1⟩, _⟩ := h
  exact evn_meth ho h1 (pF_no hm) ha hs
end
/-! ### Layer(..), Picture(..) -/
def sp_linit (K : PySem.W.Frag) : Sp := P6 fun a b c d e f H Q _ => ∃ (x dx : Addr), a = .ref x ∧ H x = some (.ins (CL K) dx []) ∧ Q .non (upd H x (.ins (CL K) dx [("number", b), ("seen", c), ("strong", d), ("way", e), ("dots", f)]))
theorem pn {f g : Str} {v x : V} {r : List (Str × V)} (h : (g == f) = false) : putF f v ((g, x) :: r) = (g, x) :: putF f v r := if_neg (by simpa using h)
theorem p0 {f : Str} {v : V} : putF f v [] = [(f, v)] := rfl
theorem ok_Layer_init (T : Tx K mg) : Ok P w K mg base CX0 (0 + 1) (He.ma K (He.ga K "Layer") "__init__") ["self", "number", "seen", "strong", "way", "dots"] (sp_linit K) := by
  refine mk0 T.f_Layer_init sc_Layer_init bd_Layer_init P6.len (fun cdv A outer s H vs Q E hr h => ⟨_, (pss_cons (kps_fld (K := K) (pv 0) (pv 1) rfl)
    (pss_cons (kps_fld (K := K) (pv 0) (pv 2) rfl)
    (pss_cons (kps_fld (K := K) (pv 0) (pv 3) rfl)
    (pss_cons (kps_fld (K := K) (pv 0) (pv 4) rfl)
    (pss_one (kps_fld (K := K) (pv 0) (pv 5) rfl)))))), ?_⟩)
  obtain ⟨_, b, c, d, e, f, rfl, x, dx, rfl, hx, k⟩ := h
  refine ⟨_, rfl, _, rfl, x, CL K, dx, _, rfl, hx, T.c_Layer, T.n_Layer_number, (by show 0 < 1000; decide), ?_⟩
  refine ⟨_, rfl, _, rfl, x, CL K, dx, _, rfl, upd_same, T.c_Layer, T.n_Layer_seen, (by show 1 < 1000; decide), ?_⟩
  refine ⟨_, rfl, _, rfl, x, CL K, dx, _, rfl, upd_same, T.c_Layer, T.n_Layer_strong, (by show 2 < 1000; decide), ?_⟩
  refine ⟨_, rfl, _, rfl, x, CL K, dx, _, rfl, upd_same, T.c_Layer, T.n_Layer_way, (by show 3 < 1000; decide), ?_⟩
  refine ⟨_, rfl, _, rfl, x, CL K, dx, _, rfl, upd_same, T.c_Layer, T.n_Layer_dots, (by show 4 < 1000; decide), ?_⟩
  show Q .non _
  rw [upd_upd, upd_upd, upd_upd, upd_upd]
  rw [p0]
  repeat rw [pn (by decide +kernel)]
  exact k
def sp_pinit (K : PySem.W.Frag) : Sp := P7 fun a b c d e f g H Q _ => ∃ (x dx : Addr), a = .ref x ∧ H x = some (.ins (CP K) dx []) ∧ Q .non (upd H x (.ins (CP K) dx [("wide", b), ("high", c), ("layers", d), ("working", e), ("chosen", f), ("following", g)]))
theorem ok_Picture_init (T : Tx K mg) : Ok P w K mg base CX0 (0 + 1) (He.ma K (He.ga K "Picture") "__init__") ["self", "wide", "high", "layers", "working", "chosen", "following"] (sp_pinit K) := by
  refine mk0 T.f_Picture_init sc_Picture_init bd_Picture_init P7.len (fun cdv A outer s H vs Q E hr h => ⟨_, (pss_cons (kps_fld (K := K) (pv 0) (pv 1) rfl)
    (pss_cons (kps_fld (K := K) (pv 0) (pv 2) rfl)
    (pss_cons (kps_fld (K := K) (pv 0) (pv 3) rfl)
    (pss_cons (kps_fld (K := K) (pv 0) (pv 4) rfl)
    (pss_cons (kps_fld (K := K) (pv 0) (pv 5) rfl)
    (pss_one (kps_fld (K := K) (pv 0) (pv 6) rfl))))))), ?_⟩)
  obtain ⟨_, b, c, d, e, f, g, rfl, x, dx, rfl, hx, k⟩ := h
  refine ⟨_, rfl, _, rfl, x, CP K, dx, _, rfl, hx, T.c_Picture, T.n_Picture_wide, (by show 0 < 1000; decide), ?_⟩
  refine ⟨_, rfl, _, rfl, x, CP K, dx, _, rfl, upd_same, T.c_Picture, T.n_Picture_high, (by show 1 < 1000; decide), ?_⟩
  refine ⟨_, rfl, _, rfl, x, CP K, dx, _, rfl, upd_same, T.c_Picture, T.n_Picture_layers, (by show 2 < 1000; decide), ?_⟩
  refine ⟨_, rfl, _, rfl, x, CP K, dx, _, rfl, upd_same, T.c_Picture, T.n_Picture_working, (by show 3 < 1000; decide), ?_⟩
  refine ⟨_, rfl, _, rfl, x, CP K, dx, _, rfl, upd_same, T.c_Picture, T.n_Picture_chosen, (by show 4 < 1000; decide), ?_⟩
  refine ⟨_, rfl, _, rfl, x, CP K, dx, _, rfl, upd_same, T.c_Picture, T.n_Picture_following, (by show 5 < 1000; decide), ?_⟩
  show Q .non _
  rw [upd_upd, upd_upd, upd_upd, upd_upd, upd_upd]
  rw [p0]
  repeat rw [pn (by decide +kernel)]
  exact k
section
variable {σ : L2.St} {H H' : Hp} {E : XK} {ta : TA}
theorem new_ex {C x dx : Addr} {o : HO} (hx : H x = none) (hd : H dx = none) (nd : dx ≠ x) : Ex H (upd (upd H dx (.own x)) x o) := fun a u e => by
  rw [upd_ne (ne_of_none e hx), upd_ne (ne_of_none e hd)]
  exact e
/-- a new layer -/
theorem evn_layer {l : Sq50.Layer} {aD : Addr} (h : EvA ta σ H [.int (l.id : Int), .int (if l.seen = true then 1 else 0), .int (l.strong : Int), .int (l.way : Int), .ref aD]) (hd : DotsAt K H aD l.dots) : EvN (tMake (CL K) (sp_linit K) [] E ta) σ H (fun x H' => LayA K H' x l aD) := fun H1 e Q q =>
  h H1 e _ fun H2 e2 x dx hx hd2 nd => ⟨_, _, _, _, _, _, rfl, x, dx, rfl, upd_same, rfl, by
    rw [upd_upd]
    have e3 : Ex H2 (upd (upd H2 dx (.own x)) x (.ins (CL K) dx (lF l aD))) := new_ex (C := CL K) hx hd2 nd
    exact q x _ (fresh_back e2 hx) (e2.trans e3) ⟨⟨dx, upd_same⟩, hd.ex ((e.trans e2).trans e3)⟩⟩
theorem evn_pic {s : Sq50.State} {aL aC : Addr} (h : EvA ta σ H [.int (s.w : Int), .int (s.h : Int), .ref aL, .int (s.on : Int), .ref aC, .int (s.next : Int)]) (hl : LaysAt K H aL s.layers) (hc : H aC = some (.lst (s.chosen.map V.bl))) : EvN (tMake (CP K) (sp_pinit K) [] E ta) σ H (fun x H' => PicA K H' x s aL aC) := fun H1 e Q q =>
  h H1 e _ fun H2 e2 x dx hx hd2 nd => ⟨_, _, _, _, _, _, _, rfl, x, dx, rfl, upd_same, rfl, by
    rw [upd_upd]
    have e3 : Ex H2 (upd (upd H2 dx (.own x)) x (.ins (CP K) dx (pF s aL aC))) := new_ex (C := CP K) hx hd2 nd
    exact q x _ (fresh_back e2 hx) (e2.trans e3) ⟨⟨dx, upd_same⟩, hl.ex ((e.trans e2).trans e3), ((e.trans e2).trans e3) _ _ hc⟩⟩
end
def sp_lwith (K : PySem.W.Frag) : Sp := P2 fun a b H Q _ => ∃ (l : Sq50.Layer) (x aD0 aD : Addr) (ds : List (Nat × Nat)), a = .ref x ∧ LayA K H x l aD0 ∧ b = .ref aD ∧ DotsAt K H aD ds ∧ GivesN (fun y H' => LayA K H' y { l with dots := ds } aD) H Q
theorem ok_Layer_with_dots (T : Tx K mg) : Ok P w K mg base CX0 (2 + 1) (He.ma K (He.ga K "Layer") "with_dots") ["self", "dots"] (sp_lwith K) := by
  refine mk0 T.f_Layer_with_dots sc_Layer_with_dots bd_Layer_with_dots P2.len (fun cdv A outer s H vs Q E hr h => ⟨_, (pss_one (ps_ret (ok_new (ok_Layer_init T) T.k_Layer hr (by decide) T.g_Layer ((pass0 : Passes CX0 _ E0)) (pa_cons (kfld (K := K) (pv 0) rfl) (pa_cons (kfld (K := K) (pv 0) rfl) (pa_cons (kfld (K := K) (pv 0) rfl) (pa_cons (kfld (K := K) (pv 0) rfl) (pa_cons (pv 1) pa_nil)))))))), ?_⟩)
  obtain ⟨_, _, rfl, l, x, aD0, aD, ds, rfl, hL, rfl, hd, k⟩ := h
  exact s_retN (evn_layer (l := { l with dots := ds }) (ea_cons (ev_number (l := l) T (ev_var rfl) hL) (ea_cons (ev_seen (l := l) T (ev_var rfl) hL) (ea_cons (ev_strong (l := l) T (ev_var rfl) hL) (ea_cons (ev_way (l := l) T (ev_var rfl) hL) (ea_cons (ev_var rfl) ea_nil))))) hd) fun y H1 n e r => k y H1 n e r
def sp_withL (K : PySem.W.Frag) : Sp := P3 fun a b c H Q _ => ∃ (s : Sq50.State) (p aL aC aL' : Addr) (ls : List Sq50.Layer) (n : Nat), a = .ref p ∧ PicA K H p s aL aC ∧ b = .ref aL' ∧ LaysAt K H aL' ls ∧ c = .int (n : Int) ∧ GivesN (fun y H' => PicA K H' y { s with layers := ls, on := n } aL' aC) H Q
theorem ok_Picture_with_layers (T : Tx K mg) : Ok P w K mg base CX0 (2 + 1) (He.ma K (He.ga K "Picture") "with_layers") ["self", "layers", "working"] (sp_withL K) := by
  refine mk0 T.f_Picture_with_layers sc_Picture_with_layers bd_Picture_with_layers P3.len (fun cdv A outer s H vs Q E hr h => ⟨_, (pss_one (ps_ret (ok_new (ok_Picture_init T) T.k_Picture hr (by decide) T.g_Picture ((pass0 : Passes CX0 _ E0)) (pa_cons (kfld (K := K) (pv 0) rfl) (pa_cons (kfld (K := K) (pv 0) rfl) (pa_cons (pv 1) (pa_cons (pv 2) (pa_cons (kfld (K := K) (pv 0) rfl) (pa_cons (kfld (K := K) (pv 0) rfl) pa_nil))))))))), ?_⟩)
  obtain ⟨_, _, _, rfl, s, p, aL, aC, aL', ls, n, rfl, hP, rfl, hl, rfl, k⟩ := h
  exact s_retN (evn_pic (s := { s with layers := ls, on := n }) (ea_cons (ev_wide (s := s) T (ev_var rfl) hP) (ea_cons (ev_high (s := s) T (ev_var rfl) hP) (ea_cons (ev_var rfl) (ea_cons (ev_var rfl) (ea_cons (ev_chosen (s := s) T (ev_var rfl) hP) (ea_cons (ev_following (s := s) T (ev_var rfl) hP) ea_nil)))))) hl hP.cho) fun y H1 n e r => k y H1 n e r
def sp_withC (K : PySem.W.Frag) : Sp := P2 fun a b H Q _ => ∃ (s : Sq50.State) (p aL aC aC' : Addr) (bs : List Bool), a = .ref p ∧ PicA K H p s aL aC ∧ b = .ref aC' ∧ H aC' = some (.lst (bs.map V.bl)) ∧ GivesN (fun y H' => PicA K H' y { s with chosen := bs } aL aC') H Q
theorem ok_Picture_with_chosen (T : Tx K mg) : Ok P w K mg base CX0 (2 + 1) (He.ma K (He.ga K "Picture") "with_chosen") ["self", "chosen"] (sp_withC K) := by
  refine mk0 T.f_Picture_with_chosen sc_Picture_with_chosen bd_Picture_with_chosen P2.len (fun cdv A outer s H vs Q E hr h => ⟨_, (pss_one (ps_ret (ok_new (ok_Picture_init T) T.k_Picture hr (by decide) T.g_Picture ((pass0 : Passes CX0 _ E0)) (pa_cons (kfld (K := K) (pv 0) rfl) (pa_cons (kfld (K := K) (pv 0) rfl) (pa_cons (kfld (K := K) (pv 0) rfl) (pa_cons (kfld (K := K) (pv 0) rfl) (pa_cons (pv 1) (pa_cons (kfld (K := K) (pv 0) rfl) pa_nil))))))))), ?_⟩)
  obtain ⟨_, _, rfl, s, p, aL, aC, aC', bs, rfl, hP, rfl, hc, k⟩ := h
  exact s_retN (evn_pic (s := { s with chosen := bs }) (ea_cons (ev_wide (s := s) T (ev_var rfl) hP) (ea_cons (ev_high (s := s) T (ev_var rfl) hP) (ea_cons (ev_layers (s := s) T (ev_var rfl) hP) (ea_cons (ev_working (s := s) T (ev_var rfl) hP) (ea_cons (ev_var rfl) (ea_cons (ev_following (s := s) T (ev_var rfl) hP) ea_nil)))))) hP.lay hc) fun y H1 n e r => k y H1 n e r
end Lp
set_option Elab.async false
set_option linter.all false
set_option maxRecDepth 100000
set_option maxHeartbeats 4000000
namespace Lp
open PySem PySem.Spec PyProof.Rows L2 Evl
variable {P : Program} {w : World} {K : PySem.W.Frag} {mg : Str → Option Value} {base : Heap}
/-- a method of a picture -/
theorem evp_pq {σ : L2.St} {H : Hp} {te : TE} {a aL aC : Addr} {s : Sq50.State} {ta : TA} {sp : Sp} {E : XK} {m : Str} {vs : List V} {R : V → Hp → Prop} (ho : Ev te σ H (.ref a)) (h : PicA K H a s aL aC) (ha : EvA ta σ H vs) (hs : ∀ H1, Ex H H1 → SpR sp (.ref a :: vs) H1 R)
    (hm : ((m == ("wide" : Str)) || ((m == ("high" : Str)) || ((m == ("layers" : Str)) || ((m == ("working" : Str)) || ((m == ("chosen" : Str)) || (m == ("following" : Str))))))) = false := by decide +kernel) : EvP (tMeth (CP K) m sp [] E te ta) σ H R := by
  obtain ⟨⟨dx, h1⟩, _⟩ := h
  exact evp_methA ho h1 (pF_no hm) ha hs
/-- a < b < c -/
theorem ev_chain {σ : L2.St} {H : Hp} {ta tb tc : TE} {x y z : V} {r r' : R2} {b c : Bool} (ha : Ev ta σ H x) (hb : Ev tb σ H y) (hc : b = true → Ev tc σ H z) (h1 : RV r x y H (.bl b)) (h2 : b = true → RV r' y z H (.bl c)) : Ev (tChain r r' ta tb tc) σ H (.bl (b && c)) := fun H1 e Q q =>
  ha H1 e _ fun H2 e2 => hb H2 (e.trans e2) _ fun H3 e3 => h1 H3 ((e.trans e2).trans e3) _ fun H4 e4 => ⟨b, rfl, by
    have e14 := (e2.trans e3).trans e4
    cases b with
    | false =>
      rw [if_neg (by simp)]
      exact q H4 e14
    | true =>
      rw [if_pos rfl]
      exact hc rfl H4 (e.trans e14) _ fun H5 e5 => h2 rfl H5 (e.trans (e14.trans e5)) Q fun H6 e6 => q H6 ((e14.trans e5).trans e6)⟩
/-! ### plain lists -/
theorem range_get {α β : Type} (l : List α) (d : α) (f : α → β) : (List.range l.length).map (fun i => f ((l[i]?).getD d)) = l.map f := by
  refine List.ext_getElem (by simp) fun i h1 h2 => ?_
  have hi : i < l.length := by simpa using h2
  simp [hi]
theorem given_all {n : Nat} {v : Nat → V} : given n (fun _ => true) v = (List.range n).map v := by
  unfold given
  rw [List.filter_eq_self.mpr fun _ _ => rfl]
theorem given_get {α : Type} (l : List α) (d : α) (f : α → V) : given l.length (fun _ => true) (fun i => f ((l[i]?).getD d)) = l.map f := by rw [given_all, range_get]
def lay0 : Sq50.Layer := ⟨0, false, 0, 0, []⟩
/-- where a layer stands -/
def ix (ls : List Sq50.Layer) (n : Nat) : Nat := ls.findIdx fun l => l.id == n
abbrev pl (s : Sq50.State) : Nat := ix s.layers s.on
theorem ix_lt {ls : List Sq50.Layer} {n : Nat} (h : n ∈ ls.map (·.id)) : ix ls n < ls.length := by
  obtain ⟨l, hl, e⟩ := List.mem_map.mp h
  exact List.findIdx_lt_length_of_exists ⟨l, hl, by simp [e]⟩
theorem ix_get {ls : List Sq50.Layer} {n : Nat} (h : n ∈ ls.map (·.id)) : (ls[ix ls n]'(ix_lt h)).id = n := by
  have e := List.findIdx_getElem (p := fun (l : Sq50.Layer) => l.id == n) (xs := ls) (w := ix_lt h)
  exact eq_of_beq e
theorem ix_first {ls : List Sq50.Layer} {n m : Nat} (h : m < ix ls n) (hm : m < ls.length) : (ls[m]).id ≠ n := by
  have e := List.not_of_lt_findIdx h
  exact fun z => by rw [z, beq_self_eq_true] at e; cases e
/-! ### the layers' numbers -/
def sp_numbers (K : PySem.W.Frag) : Sp := P1 fun a H Q _ => ∃ (s : Sq50.State) (p aL aC : Addr), a = .ref p ∧ PicA K H p s aL aC ∧ s.layers.length ≤ 100 ∧ GivesN (fun y H' => H' y = some (.lst (s.layers.map fun l => .int (l.id : Int)))) H Q
theorem ok_Picture_numbers (T : Tx K mg) : Ok P w K mg base CX0 (0 + 1) (He.ma K (He.ga K "Picture") "numbers") ["self"] (sp_numbers K) := by
  refine mk0 T.f_Picture_numbers sc_Picture_numbers bd_Picture_numbers P1.len (fun cdv A outer s H vs Q E hr h => ⟨_, (pss_one (ps_ret (pe_lc (own := [("layer", 1)]) rfl sc_Picture_numbers.nd (kpi_list (K := K) (kfld (K := K) (pv 0) rfl)) (blkOk_by (by kernel_rfl)) (fun _ _ _ _ _ => by exact (pg_name (i := 1) sc_Picture_numbers.nd rfl (Or.inl rfl))) (fun _ _ _ _ _ => by exact pts_nil) (fun _ _ _ _ _ => by exact (kfld (K := K) (pv 1) rfl))))), ?_⟩)
  obtain ⟨_, rfl, s, p, aL, aC, rfl, hP, h5, k⟩ := h
  obtain ⟨vs, hvs, hpr⟩ := hP.lay
  have hlen := pair_len hpr
  refine s_retN (evn_list (el_lc (n := vs.length) (fun i x _ => vs[i]? = some x) (fun _ => true) (fun i => .int (((s.layers[i]?).getD lay0).id : Int)) (by omega) (iw_list (ev_layers T (ev_var rfl) hP) (sq_of hvs)) ?_)) fun x H1 n e r => k x H1 n e ?_
  · intro i x H1 e hi hx Q' q
    obtain ⟨l, hl, a, aD, rfl, hA⟩ := pair_get' hpr hx
    refine q _ H1 (Ex.refl _) rfl (fun _ _ _ z => z _ (Ex.refl _)) fun _ => ?_
    rw [hl]
    exact ev_number T (ev_var rfl) (hA.ex e)
  · show H1 x = _
    rw [r, hlen, given_get s.layers lay0 fun l => V.int (l.id : Int)]
theorem evn_numbers {σ : L2.St} {H : Hp} {te : TE} {E : XK} {s : Sq50.State} {p aL aC : Addr} (ho : Ev te σ H (.ref p)) (h : PicA K H p s aL aC) (h5 : s.layers.length ≤ 100) : EvN (tMeth (CP K) "numbers" (sp_numbers K) [] E te tNil) σ H (fun y H' => H' y = some (.lst (s.layers.map fun l => .int (l.id : Int)))) :=
  evn_pm ho h ea_nil fun H1 e Q E q => ⟨_, rfl, s, p, aL, aC, rfl, h.ex e, h5, q⟩
theorem flat_ids (ls : List Sq50.Layer) : (ls.map fun l => V.int (l.id : Int)).all flatV = true := by
  rw [List.all_eq_true]
  intro v hv
  obtain ⟨l, _, rfl⟩ := List.mem_map.mp hv
  rfl
/-- the place of a number among them -/
theorem ev_ix {σ : L2.St} {H : Hp} {te tx : TE} {E : XK} {s : Sq50.State} {p aL aC : Addr} {n : Nat} (ho : Ev te σ H (.ref p)) (h : PicA K H p s aL aC) (h5 : s.layers.length ≤ 100) (hx : Ev tx σ H (.int (n : Int))) (hn : n ∈ s.layers.map (·.id)) :
    Ev (tBM K "list" (rIndex K) (tMeth (CP K) "numbers" (sp_numbers K) [] E te tNil) (tCons tx tNil)) σ H (.int ((ix s.layers n : Nat) : Int)) := fun H1 e Q q =>
  evn_numbers ho h h5 H1 e _ fun y H2 n2 e2 hy => ⟨.inl ⟨rfl, _, sq_of hy⟩, hx H2 (e.trans e2) _ fun H3 e3 => by
    have hlt := ix_lt hn
    refine ⟨y, _, .int (n : Int), ix s.layers n, .int (n : Int), rfl, rfl, sq_of (e3 _ _ hy), rfl, flat_ids _, ?_, ?_, fun m z hm hz => ?_, q H3 (e2.trans e3)⟩
    · rw [List.getElem?_map, List.getElem?_eq_getElem hlt]
      show some (V.int _) = _
      rw [ix_get hn]
    · show ((n : Int) == (n : Int)) = true
      exact beq_self_eq_true _
    · have hml : m < s.layers.length := by omega
      rw [List.getElem?_map, List.getElem?_eq_getElem hml] at hz
      have ez : z = .int ((s.layers[m]).id : Int) := (Option.some.inj hz).symm
      subst ez
      have ne := ix_first hm hml
      show (((s.layers[m]).id : Int) == (n : Int)) = false
      simpa [Int.ofNat_inj] using ne⟩
/-- a number is among them -/
theorem ev_inIds {σ : L2.St} {H : Hp} {te tx : TE} {E : XK} {s : Sq50.State} {p aL aC : Addr} {n : Nat} {neg : Bool} (ho : Ev te σ H (.ref p)) (h : PicA K H p s aL aC) (h5 : s.layers.length ≤ 100) (hx : Ev tx σ H (.int (n : Int))) :
    Ev (tOp (rIn K neg) tx (tMeth (CP K) "numbers" (sp_numbers K) [] E te tNil)) σ H (.bl (if neg then !(s.layers.any fun l => l.id == n) else s.layers.any fun l => l.id == n)) := fun H1 e Q q =>
  hx H1 e _ fun H2 e2 => evn_numbers ho h h5 H2 (e.trans e2) _ fun y H3 n3 e3 hy => ⟨y, _, rfl, .inl (sq_of hy), rfl, flat_ids _, by
    have e4 : inV (.int (n : Int)) (s.layers.map fun l => V.int (l.id : Int)) = s.layers.any fun l => l.id == n := by
      unfold inV
      rw [List.any_map]
      refine congrArg (fun f => s.layers.any f) (funext fun l => ?_)
      rw [Bool.eq_iff_iff, beq_iff_eq]
      show ((l.id : Int) == (n : Int)) = true ↔ _
      rw [beq_iff_eq]
      omega
    rw [e4]
    exact q H3 (e2.trans e3)⟩
/-- a layer by its place -/
theorem ev_layAt {σ : L2.St} {H : Hp} {ta tb : TE} {aL : Addr} {ls : List Sq50.Layer} {i : Nat} {l : Sq50.Layer} (ha : Ev ta σ H (.ref aL)) (hb : Ev tb σ H (.int (i : Int))) (h : LaysAt K H aL ls) (hl : ls[i]? = some l) :
    ∃ r aD, Ev (tOp (rIxL K) ta tb) σ H (.ref r) ∧ LayA K H r l aD := by
  obtain ⟨vs, h1, h2⟩ := h
  obtain ⟨v, h3, r, aD, rfl, h4⟩ := pair_get h2 hl
  exact ⟨r, aD, ev_op ha hb (rv_ixL (sq_of h1) (atI_nat h3)), h4⟩
theorem layer_eq {s : Sq50.State} (h : s.on ∈ s.layers.map (·.id)) : s.layers[pl s]? = some s.layer := by
  have e : s.layers.find? (fun l => l.id == s.on) = some (s.layers[pl s]'(ix_lt h)) := by
    rw [List.find?_eq_some_iff_getElem]
    refine ⟨beq_iff_eq.mpr (ix_get h), pl s, ix_lt h, rfl, fun j hj => ?_⟩
    have := ix_first (ls := s.layers) (n := s.on) hj (Nat.lt_trans hj (ix_lt h))
    rw [Bool.not_eq_true']
    exact beq_eq_false_iff_ne.mpr this
  unfold Sq50.State.layer
  rw [e, List.getElem?_eq_getElem (ix_lt h)]
  rfl
/-- what a picture keeps -/
structure WF (s : Sq50.State) : Prop where
  w1 : 1 ≤ s.w
  w2 : s.w ≤ 12
  h1 : 1 ≤ s.h
  h2 : s.h ≤ 12
  le : s.layers.length ≤ 5
  nd : (s.layers.map (·.id)).Nodup
  on : s.on ∈ s.layers.map (·.id)
  nx : ∀ l ∈ s.layers, l.id < s.next
  lok : ∀ l ∈ s.layers, LOk l (s.w * s.h)
  cho : s.chosen.length = s.w * s.h
theorem WF.sz {s : Sq50.State} (W : WF s) : s.w * s.h ≤ 144 := Nat.mul_le_mul W.w2 W.h2
theorem WF.le' {s : Sq50.State} (W : WF s) : s.layers.length ≤ 100 := Nat.le_trans W.le (by decide)
theorem WF.layer_mem {s : Sq50.State} (W : WF s) : s.layer ∈ s.layers := List.mem_of_getElem? (layer_eq W.on)
theorem WF.lay_ok {s : Sq50.State} (W : WF s) : LOk s.layer (s.w * s.h) := W.lok _ W.layer_mem
def sp_worked (K : PySem.W.Frag) : Sp := P1 fun a H Q _ => ∃ (s : Sq50.State) (p aL aC : Addr), a = .ref p ∧ PicA K H p s aL aC ∧ WF s ∧ Gives (fun v H' => LayAt K H' v s.layer) H Q
theorem evp_layAt {σ : L2.St} {H : Hp} {ta tb : TE} {aL : Addr} {ls : List Sq50.Layer} {i : Nat} {l : Sq50.Layer} (ha : Ev ta σ H (.ref aL)) (hb : Ev tb σ H (.int (i : Int))) (h : LaysAt K H aL ls) (hl : ls[i]? = some l) :
    EvP (tOp (rIxL K) ta tb) σ H (fun v H' => LayAt K H' v l) := by
  obtain ⟨r, aD, h1, h2⟩ := ev_layAt ha hb h hl
  exact (EvP.of h1).imp fun v H1 e q => ⟨r, aD, q, h2.ex e⟩
theorem ok_Picture_worked_on (T : Tx K mg) : Ok P w K mg base CX0 (1 + 1) (He.ma K (He.ga K "Picture") "worked_on") ["self"] (sp_worked K) := by
  refine mk0 T.f_Picture_worked_on sc_Picture_worked_on bd_Picture_worked_on P1.len (fun cdv A outer s H vs Q E hr h => ⟨_, (pss_one (ps_ret (pe_ix (kix_list (K := K)) (kfld (K := K) (pv 0) rfl) (kbm (K := K) PySem.F.plainAttrs_list PySem.F.slot_list_index PySem.F.type_list_index (k_index (K := K)) (om0 (ok_Picture_numbers T) T.c_Picture T.m_Picture_numbers hr (by decide) ((pass0 : Passes CX0 _ E0)) (pv 0)) (pa_cons (kfld (K := K) (pv 0) rfl) pa_nil)) (fun _ _ => rfl)))), ?_⟩)
  obtain ⟨_, rfl, s, p, aL, aC, rfl, hP, W, k⟩ := h
  exact s_retP (evp_layAt (ev_layers T (ev_var rfl) hP) (ev_ix (ev_var rfl) hP W.le' (ev_working T (ev_var rfl) hP) W.on) hP.lay (layer_eq W.on)) fun v H1 e r => k v H1 e r
section
variable {σ : L2.St} {H : Hp} {te ta : TE} {E : XK} {s : Sq50.State} {p aL aC : Addr}
theorem evp_worked (ho : Ev te σ H (.ref p)) (h : PicA K H p s aL aC) (W : WF s) : EvP (tMeth (CP K) "worked_on" (sp_worked K) [] E te tNil) σ H (fun v H' => LayAt K H' v s.layer) :=
  evp_pq ho h ea_nil fun H1 e Q E q => ⟨_, rfl, s, p, aL, aC, rfl, h.ex e, W, fun v H2 e2 r => q v H2 e2 r⟩
/-- the dots of the layer worked on -/
theorem evp_workdots (T : Tx K mg) (ho : Ev te σ H (.ref p)) (h : PicA K H p s aL aC) (W : WF s) : EvP (tFld K (tMeth (CP K) "worked_on" (sp_worked K) [] E te tNil) "dots") σ H (fun v H' => ∃ aD, v = .ref aD ∧ DotsAt K H' aD s.layer.dots) :=
  evp_fld (evp_worked ho h W) fun x H1 e ⟨a, aD, q, hL⟩ => by
    obtain ⟨⟨dx, h1⟩, h2⟩ := hL
    exact ⟨a, _, dx, _, _, q, h1, T.c_Layer, T.n_Layer_dots, lF_dots, aD, rfl, h2⟩
end
/-! ### what is chosen -/
theorem inV_bl (bs : List Bool) : inV (.bl true) (bs.map V.bl) = bs.any fun b => b := by
  unfold inV
  rw [List.any_map]
  refine congrArg (fun f => bs.any f) (funext fun b => ?_)
  cases b <;> rfl
theorem flat_bl (bs : List Bool) : (bs.map V.bl).all flatV = true := by
  rw [List.all_eq_true]
  intro v hv
  obtain ⟨l, _, rfl⟩ := List.mem_map.mp hv
  rfl
def sp_some (K : PySem.W.Frag) : Sp := P1 fun a H Q _ => ∃ (s : Sq50.State) (p aL aC : Addr), a = .ref p ∧ PicA K H p s aL aC ∧ Gives (fun v _ => v = .bl (s.chosen.any fun b => b)) H Q
theorem ok_Picture_is_chosen_some (T : Tx K mg) : Ok P w K mg base CX0 (0 + 1) (He.ma K (He.ga K "Picture") "is_chosen_some") ["self"] (sp_some K) := by
  refine mk0 T.f_Picture_is_chosen_some sc_Picture_is_chosen_some bd_Picture_is_chosen_some P1.len (fun cdv A outer s H vs Q E hr h => ⟨_, (pss_one (ps_ret (pe_cmpR (k_in (K := K)) pe_bl (kfld (K := K) (pv 0) rfl) (by rfl)))), ?_⟩)
  obtain ⟨_, rfl, s, p, aL, aC, rfl, hP, k⟩ := h
  refine s_ret (ev_op ev_c (ev_chosen T (ev_var rfl) hP) (rv_inL (sq_of hP.cho) rfl (flat_bl _))) fun H1 e => k _ _ e ?_
  rw [inV_bl]
  rfl
def sp_has (K : PySem.W.Frag) : Sp := P3 fun a b c H Q _ => ∃ (s : Sq50.State) (p aL aC : Addr) (x y : Int), a = .ref p ∧ b = .int x ∧ c = .int y ∧ PicA K H p s aL aC ∧ Gives (fun v _ => v = .bl (decide (0 ≤ x ∧ x < s.w ∧ 0 ≤ y ∧ y < s.h))) H Q
section
variable {σ : L2.St} {H : Hp} {te ta tb : TE} {E : XK} {s : Sq50.State} {p aL aC : Addr}
theorem ev_size (ho : Ev te σ H (.ref p)) (h : PicA K H p s aL aC) (hw : s.w ≤ 1000) : Ev (tMeth (CP K) "size" (sp_size K) [] E te tNil) σ H (.int ((s.w * s.h : Nat) : Int)) :=
  (evp_pq ho h ea_nil fun H1 e Q E q => ⟨_, rfl, s, aL, aC, p, rfl, h.ex e, hw, fun v H2 e2 r => q v H2 e2 r⟩ : EvP _ _ _ _).to
theorem ev_some (ho : Ev te σ H (.ref p)) (h : PicA K H p s aL aC) : Ev (tMeth (CP K) "is_chosen_some" (sp_some K) [] E te tNil) σ H (.bl (s.chosen.any fun b => b)) :=
  (evp_pq ho h ea_nil fun H1 e Q E q => ⟨_, rfl, s, p, aL, aC, rfl, h.ex e, fun v H2 e2 r => q v H2 e2 r⟩ : EvP _ _ _ _).to
theorem ev_place {i j : Int} (ho : Ev te σ H (.ref p)) (h : PicA K H p s aL aC) (hw : s.w ≤ 1000) (ha : Ev ta σ H (.int i)) (hb : Ev tb σ H (.int j)) : Ev (tMeth (CP K) "place" (sp_place K) [] E te (tCons ta (tCons tb tNil))) σ H (.int (j * s.w + i)) :=
  (evp_pq ho h (ea_cons ha (ea_cons hb ea_nil)) fun H1 e Q E q => ⟨_, _, _, rfl, s, aL, aC, p, i, j, rfl, rfl, rfl, h.ex e, hw, fun v H2 e2 r => q v H2 e2 r⟩ : EvP _ _ _ _).to
theorem ev_across {n : Nat} (ho : Ev te σ H (.ref p)) (h : PicA K H p s aL aC) (hw : 0 < s.w) (ha : Ev ta σ H (.int (n : Int))) : Ev (tMeth (CP K) "across" (sp_across K) [] E te (tCons ta tNil)) σ H (.int ((n % s.w : Nat) : Int)) :=
  (evp_pq ho h (ea_cons ha ea_nil) fun H1 e Q E q => ⟨_, _, rfl, s, aL, aC, p, n, rfl, rfl, h.ex e, hw, fun v H2 e2 r => q v H2 e2 r⟩ : EvP _ _ _ _).to
theorem ev_down {n : Nat} (ho : Ev te σ H (.ref p)) (h : PicA K H p s aL aC) (hw : 0 < s.w) (hw2 : s.w ≤ 1000) (ha : Ev ta σ H (.int (n : Int))) : Ev (tMeth (CP K) "down" (sp_down K) [] E te (tCons ta tNil)) σ H (.int ((n / s.w : Nat) : Int)) :=
  (evp_pq ho h (ea_cons ha ea_nil) fun H1 e Q E q => ⟨_, _, rfl, s, aL, aC, p, n, rfl, rfl, h.ex e, hw, hw2, fun v H2 e2 r => q v H2 e2 r⟩ : EvP _ _ _ _).to
theorem ev_has {i j : Int} (ho : Ev te σ H (.ref p)) (h : PicA K H p s aL aC) (ha : Ev ta σ H (.int i)) (hb : Ev tb σ H (.int j)) : Ev (tMeth (CP K) "has" (sp_has K) [] E te (tCons ta (tCons tb tNil))) σ H (.bl (decide (0 ≤ i ∧ i < s.w ∧ 0 ≤ j ∧ j < s.h))) :=
  (evp_pq ho h (ea_cons ha (ea_cons hb ea_nil)) fun H1 e Q E q => ⟨_, _, _, rfl, s, p, aL, aC, i, j, rfl, rfl, rfl, h.ex e, fun v H2 e2 r => q v H2 e2 r⟩ : EvP _ _ _ _).to
end
theorem ok_Picture_has (T : Tx K mg) : Ok P w K mg base CX0 (0 + 1) (He.ma K (He.ga K "Picture") "has") ["self", "x", "y"] (sp_has K) := by
  refine mk0 T.f_Picture_has sc_Picture_has bd_Picture_has P3.len (fun cdv A outer s H vs Q E hr h => ⟨_, (pss_one (ps_ret (pe_and (pe_chain op_le op_lt pe_int (pv 1) (kfld (K := K) (pv 0) rfl)) (pe_one (pe_chain op_le op_lt pe_int (pv 2) (kfld (K := K) (pv 0) rfl)))))), ?_⟩)
  obtain ⟨_, _, _, rfl, s, p, aL, aC, x, y, rfl, rfl, rfl, hP, k⟩ := h
  refine s_ret (v := .bl ((decide ((0 : Int) ≤ x) && decide (x < s.w)) && (decide ((0 : Int) ≤ y) && decide (y < s.h)))) (ev_andV (ev_chain ev_c (ev_var rfl) (fun _ => ev_wide T (ev_var rfl) hP) rv_I0 fun _ => rv_I0) fun _ => ev_chain ev_c (ev_var rfl) (fun _ => ev_high T (ev_var rfl) hP) rv_I0 fun _ => rv_I0) fun H1 e => k _ _ e ?_
  simp only [Bool.decide_and, Bool.and_assoc]
/-- a pixel may change -/
def mayB (s : Sq50.State) (i : Nat) : Bool := (s.chosen[i]?).getD false || !(s.chosen.any fun b => b)
def mayL (s : Sq50.State) : List Nat := (List.range (s.w * s.h)).filter (mayB s)
def sp_may (K : PySem.W.Frag) : Sp := P1 fun a H Q _ => ∃ (s : Sq50.State) (p aL aC : Addr), a = .ref p ∧ PicA K H p s aL aC ∧ WF s ∧ GivesN (fun y H' => H' y = some (.lst ((mayL s).map fun (i : Nat) => V.int (i : Int)))) H Q
theorem ok_Picture_may_change (T : Tx K mg) : Ok P w K mg base CX0 (1 + 1) (He.ma K (He.ga K "Picture") "may_change") ["self"] (sp_may K) := by
  refine mk0 T.f_Picture_may_change sc_Picture_may_change bd_Picture_may_change P1.len (fun cdv A outer s H vs Q E hr h => ⟨_, (pss_one (ps_ret (pe_lc (own := [("place", 1)]) rfl sc_Picture_may_change.nd (pi_range1 (by rfl) T.b_range (pa_cons (om0 (ok_Picture_size T) T.c_Picture T.m_Picture_size hr (by decide) ((pass0 : Passes CX0 _ E0)) (pv 0)) pa_nil)) (blkOk_by (by kernel_rfl)) (fun _ _ _ _ _ => by exact (pg_name (i := 1) sc_Picture_may_change.nd rfl (Or.inl rfl))) (fun _ _ _ _ _ => by exact (pts_one (PW.pt (pw_or (pt_val (pe_ix (kix_list (K := K)) (kfld (K := K) (pv 0) rfl) (pv 1) (fun _ _ => rfl))) (pw_or1 (pt_not (pt_val (om0 (ok_Picture_is_chosen_some T) T.c_Picture T.m_Picture_is_chosen_some hr (by decide) ((pass0 : Passes CX0 _ E0)) (pv 0))))))))) (fun _ _ _ _ _ => by exact (pv 1))))), ?_⟩)
  obtain ⟨_, rfl, s, p, aL, aC, rfl, hP, W, k⟩ := h
  have hsz := W.sz
  refine s_retN (evn_list (el_lc (n := s.w * s.h) (fun i x _ => x = .int (i : Int)) (mayB s) (fun i => .int (i : Int)) (by omega) (iw_range1 (ea_cons (ev_size (ev_var rfl) hP (by have := W.w2; omega)) ea_nil) (by omega)) ?_)) fun x H1 n e r => k x H1 n e r
  intro i x H1 e hi hx Q' q
  subst hx
  have hP1 := hP.ex e
  refine q _ H1 (Ex.refl _) rfl (et_or (et_test (ev_op (ev_chosen T (ev_var rfl) hP1) (ev_var rfl) (rv_ixL (sq_of hP1.cho) (atI_nat ?_)))) fun _ => et_not (et_test (ev_some (ev_var rfl) hP1))) fun _ => ev_var rfl
  have hc : i < s.chosen.length := by rw [W.cho]; exact hi
  rw [List.getElem?_map, List.getElem?_eq_getElem hc]
  rfl
theorem evn_may {σ : L2.St} {H : Hp} {te : TE} {E : XK} {s : Sq50.State} {p aL aC : Addr} (ho : Ev te σ H (.ref p)) (h : PicA K H p s aL aC) (W : WF s) : EvN (tMeth (CP K) "may_change" (sp_may K) [] E te tNil) σ H (fun y H' => H' y = some (.lst ((mayL s).map fun (i : Nat) => V.int (i : Int)))) :=
  evn_pm ho h ea_nil fun H1 e Q E q => ⟨_, rfl, s, p, aL, aC, rfl, h.ex e, W, q⟩
end Lp
set_option Elab.async false
set_option linter.all false
set_option maxRecDepth 100000
set_option maxHeartbeats 4000000
namespace Lp
open PySem PySem.Spec PyProof.Rows L2 Evl
variable {P : Program} {w : World} {K : PySem.W.Frag} {mg : Str → Option Value} {base : Heap}
/-! ### parts of lists -/
theorem cut_take (xs : List V) (k : Nat) : cutV xs none (some (k : Int)) = xs.take k := by
  unfold cutV
  rw [HT.sIx_none, HT.sIx_nat, List.drop_zero, Nat.sub_zero]
  exact List.take_eq_take_min.symm
theorem cut_drop (xs : List V) (k : Nat) : cutV xs (some (k : Int)) none = xs.drop k := by
  unfold cutV
  rw [HT.sIx_none, HT.sIx_nat, List.take_of_length_le (by rw [List.length_drop]; omega)]
  by_cases h : k ≤ xs.length
  · rw [Nat.min_eq_left h]
  · rw [Nat.min_eq_right (by omega), List.drop_length, List.drop_eq_nil_of_le (by omega)]
theorem cut_mid (xs : List V) (a b : Nat) : cutV xs (some (a : Int)) (some (b : Int)) = (xs.drop a).take (b - a) := by
  unfold cutV
  rw [HT.sIx_nat, HT.sIx_nat]
  by_cases h : a ≤ xs.length
  · rw [Nat.min_eq_left h]
    refine (List.take_eq_take_iff).mpr ?_
    rw [List.length_drop]
    omega
  · rw [show min a xs.length = xs.length by omega, List.drop_length, List.drop_eq_nil_of_le (by omega), List.take_nil, List.take_nil]
section
variable {α β : Type} {F : α → β → Prop}
theorem pair_app : ∀ {a c : List α} {b d : List β}, Paired F a b → Paired F c d → Paired F (a ++ c) (b ++ d)
  | _, _, _, _, .nil, h => h
  | _, _, _, _, .cons r t, h => .cons r (pair_app t h)
theorem pair_take : ∀ {a : List α} {b : List β} (k : Nat), Paired F a b → Paired F (a.take k) (b.take k)
  | _, _, 0, _ => by rw [List.take_zero, List.take_zero]; exact .nil
  | _, _, k + 1, .nil => by rw [List.take_nil, List.take_nil]; exact .nil
  | _, _, k + 1, .cons r t => .cons r (pair_take k t)
theorem pair_drop : ∀ {a : List α} {b : List β} (k : Nat), Paired F a b → Paired F (a.drop k) (b.drop k)
  | _, _, 0, h => h
  | _, _, k + 1, .nil => by rw [List.drop_nil, List.drop_nil]; exact .nil
  | _, _, k + 1, .cons r t => pair_drop k t
theorem pair_of : ∀ {a : List α} {b : List β}, a.length = b.length → (∀ (i : Nat) (x : α) (y : β), a[i]? = some x → b[i]? = some y → F x y) → Paired F a b
  | [], [], _, _ => .nil
  | [], _ :: _, h, _ => by simp at h
  | _ :: _, [], h, _ => by simp at h
  | x :: a, y :: b, h, f => .cons (f 0 x y rfl rfl) (pair_of (by simpa using h) fun i u v h1 h2 => f (i + 1) u v (by simpa using h1) (by simpa using h2))
end
section
variable {σ : L2.St} {H : Hp} {te ta tb td : TE} {tl th : TO} {a : Addr} {ls ms : List Sq50.Layer} {l : Sq50.Layer} {k : Nat} {E : XK}
abbrev EvLy (K : PySem.W.Frag) (te : TE) (σ : L2.St) (H : Hp) (ls : List Sq50.Layer) : Prop := EvN te σ H (fun a H' => LaysAt K H' a ls)
theorem evly_take (h : Ev te σ H (.ref a)) (h2 : EvO th σ H (some (k : Int))) (hl : LaysAt K H a ls) : EvLy K (tSl (rSlL K) te tNoPart th) σ H (ls.take k) := by
  obtain ⟨vs, h3, h4⟩ := hl
  refine (evn_list (el_sl h eo_none h2 (sq_of h3))).imp fun x H1 e r => ?_
  rw [cut_take] at r
  exact ⟨_, r, L2.Paired.mapP (pair_take k h4) fun _ _ z => z.ex e⟩
theorem evly_drop (h : Ev te σ H (.ref a)) (h2 : EvO tl σ H (some (k : Int))) (hl : LaysAt K H a ls) : EvLy K (tSl (rSlL K) te tl tNoPart) σ H (ls.drop k) := by
  obtain ⟨vs, h3, h4⟩ := hl
  refine (evn_list (el_sl h h2 eo_none (sq_of h3))).imp fun x H1 e r => ?_
  rw [cut_drop] at r
  exact ⟨_, r, L2.Paired.mapP (pair_drop k h4) fun _ _ z => z.ex e⟩
theorem evly_cat (h1 : EvLy K ta σ H ls) (h2 : EvLy K tb σ H ms) (hz : ls.length + ms.length ≤ 100) : EvLy K (tOp rCat ta tb) σ H (ls ++ ms) := fun H1 e Q q =>
  h1 H1 e _ fun a H2 n2 e2 r1 => h2 H2 (e.trans e2) _ fun b H3 n3 e3 r2 => by
    obtain ⟨vs, v1, v2⟩ := r1.ex e3
    obtain ⟨ws, w1, w2⟩ := r2
    refine ⟨a, b, vs, ws, rfl, rfl, v1, w1, sz_of (by rw [pair_len v2, pair_len w2]; omega), fun p hp => q p _ (fresh_back (e2.trans e3) hp) ((e2.trans e3).trans (Ex.new hp)) ⟨vs ++ ws, upd_same, ?_⟩⟩
    exact pair_app (L2.Paired.mapP v2 fun _ _ z => z.ex (Ex.new hp)) (L2.Paired.mapP w2 fun _ _ z => z.ex (Ex.new hp))
/-- a list of one layer, of two -/
theorem evly_one (h : EvP te σ H (fun v H' => LayAt K H' v l)) : EvLy K (tLst (tCons te tNil)) σ H [l] := fun H1 e Q q =>
  h H1 e _ fun v H2 e2 r => ⟨sz_of (by show 1 ≤ 100000; decide), fun p hp => q p _ (fresh_back e2 hp) (e2.trans (Ex.new hp)) ⟨[v], upd_same, .cons (r.ex (Ex.new hp)) .nil⟩⟩
theorem evly_two {m : Sq50.Layer} (h : EvP ta σ H (fun v H' => LayAt K H' v l)) (h2 : EvP tb σ H (fun v H' => LayAt K H' v m)) : EvLy K (tLst (tCons ta (tCons tb tNil))) σ H [l, m] := fun H1 e Q q =>
  h H1 e _ fun v H2 e2 r => h2 H2 (e.trans e2) _ fun u H3 e3 r2 => ⟨sz_of (by show 2 ≤ 100000; decide), fun p hp => q p _ (fresh_back (e2.trans e3) hp) ((e2.trans e3).trans (Ex.new hp)) ⟨[v, u], upd_same, .cons (r.ex (e3.trans (Ex.new hp))) (.cons (r2.ex (Ex.new hp)) .nil)⟩⟩
theorem EvN.lay (h : EvN te σ H (fun x H' => LayA K H' x l a)) : EvP te σ H (fun v H' => LayAt K H' v l) := h.p.imp fun v H1 e ⟨x, r, z⟩ => ⟨x, a, r, z⟩
/-- layer.with_dots(dots) -/
theorem evp_lwith {aD : Addr} {ds : List (Nat × Nat)} (ho : EvP te σ H (fun v H' => LayAt K H' v l)) (hd : Ev td σ H (.ref aD)) (hD : DotsAt K H aD ds) : EvP (tMeth (CL K) "with_dots" (sp_lwith K) [] E te (tCons td tNil)) σ H (fun v H' => LayAt K H' v { l with dots := ds }) :=
  evp_methR ho (ea_cons hd ea_nil) fun x H1 e ⟨a, aD0, ea, hL⟩ => by
    obtain ⟨dx, h1⟩ := hL.obj
    exact ⟨a, dx, _, ea, h1, lF_with, fun H2 e2 Q E q => ⟨_, _, rfl, l, a, aD0, aD, ds, rfl, hL.ex e2, rfl, hD.ex (e.trans e2), fun y H3 n e3 r => q _ H3 e3 ⟨y, aD, rfl, r⟩⟩⟩
end
/-! ### the layer worked on, with other dots -/
def setD (s : Sq50.State) (ds : List (Nat × Nat)) : Sq50.State := { s with layers := s.layers.take (pl s) ++ [{ s.layer with dots := ds }] ++ s.layers.drop (pl s + 1) }
def sp_withD (K : PySem.W.Frag) : Sp := P2 fun a b H Q _ => ∃ (s : Sq50.State) (p aL aC aD : Addr) (ds : List (Nat × Nat)), a = .ref p ∧ PicA K H p s aL aC ∧ WF s ∧ b = .ref aD ∧ DotsAt K H aD ds ∧ GivesN (fun y H' => ∃ aL', PicA K H' y (setD s ds) aL' aC) H Q
theorem ok_Picture_with_dots (T : Tx K mg) : Ok P w K mg base CX0 (3 + 1) (He.ma K (He.ga K "Picture") "with_dots") ["self", "dots"] (sp_withD K) := by
  refine mk0 T.f_Picture_with_dots sc_Picture_with_dots bd_Picture_with_dots P2.len (fun cdv A outer s H vs Q E hr h => ⟨_, (pss_cons (ps_set (i := 2) sc_Picture_with_dots.nd rfl (Or.inl rfl) (kbm (K := K) PySem.F.plainAttrs_list PySem.F.slot_list_index PySem.F.type_list_index (k_index (K := K)) (om0 (ok_Picture_numbers T) T.c_Picture T.m_Picture_numbers hr (by decide) ((pass0 : Passes CX0 _ E0)) (pv 0)) (pa_cons (kfld (K := K) (pv 0) rfl) pa_nil)))
    (pss_cons (ps_set (i := 3) sc_Picture_with_dots.nd rfl (Or.inl rfl) (pe_op op_cat (pe_op op_cat (pe_slice (ksl_list (K := K)) (kfld (K := K) (pv 0) rfl) po_none (po_some (pv 2))) (pe_lst (pa_cons (om (ok_Layer_with_dots T) T.c_Layer T.m_Layer_with_dots hr (by decide) ((pass0 : Passes CX0 _ E0)) (pe_ix (kix_list (K := K)) (kfld (K := K) (pv 0) rfl) (pv 2) (fun _ _ => rfl)) (pa_cons (pv 1) pa_nil)) pa_nil))) (pe_slice (ksl_list (K := K)) (kfld (K := K) (pv 0) rfl) (po_some (pe_op op_add (pv 2) pe_int)) po_none)))
    (pss_one (ps_ret (om (ok_Picture_with_layers T) T.c_Picture T.m_Picture_with_layers hr (by decide) ((pass0 : Passes CX0 _ E0)) (pv 0) (pa_cons (pv 3) (pa_cons (kfld (K := K) (pv 0) rfl) pa_nil))))))), ?_⟩)
  obtain ⟨_, _, rfl, s, p, aL, aC, aD, ds, rfl, hP, W, rfl, hD, k⟩ := h
  have hw := W.le
  have hix := ix_lt W.on
  refine q_asg (ev_ix (ev_var rfl) hP W.le' (ev_working T (ev_var rfl) hP) W.on) fun H1 e1 => ?_
  replace hP := hP.ex e1
  replace hD := hD.ex e1
  replace k := k.ex e1
  refine q_asgN (evly_cat (evly_cat (evly_take (k := pl s) (ev_layers T (ev_var rfl) hP) (eo_some (ev_var rfl)) hP.lay) (evly_one (evp_lwith (evp_layAt (ev_layers T (ev_var rfl) hP) (ev_var rfl) hP.lay (layer_eq W.on)) (ev_var rfl) hD)) ?_)
    (evly_drop (k := pl s + 1) (ev_layers T (ev_var rfl) hP) (eo_some (ev_is (ev_op (ev_var rfl) ev_c rv_I0) rfl)) hP.lay) ?_) fun aL' H2 n e2 hL' => ?_
  · simp only [List.length_take, List.length_singleton]; omega
  · simp only [List.length_append, List.length_take, List.length_drop, List.length_singleton]; omega
  replace hP := hP.ex e2
  replace hD := hD.ex e2
  replace k := k.ex e2
  exact s_retN (evn_pm (ev_var rfl) hP (ea_cons (ev_var rfl) (ea_cons (ev_working T (ev_var rfl) hP) ea_nil)) fun H3 e3 Q E q => ⟨_, _, _, rfl, s, p, aL, aC, aL', _, s.on, rfl, hP.ex e3, rfl, hL'.ex e3, rfl, q⟩) fun y H3 n e r => k y H3 n e ⟨aL', r⟩
/-! ### a new layer ahead of the one worked on -/
def newL (s : Sq50.State) (ds : List (Nat × Nat)) : Sq50.State := { s with layers := s.layers.take (pl s + 1) ++ [⟨s.next, true, 255, 0, ds⟩] ++ s.layers.drop (pl s + 1), on := s.next, next := s.next + 1 }
def sp_withN (K : PySem.W.Frag) : Sp := P2 fun a b H Q _ => ∃ (s : Sq50.State) (p aL aC aD : Addr) (ds : List (Nat × Nat)), a = .ref p ∧ PicA K H p s aL aC ∧ WF s ∧ b = .ref aD ∧ DotsAt K H aD ds ∧ GivesN (fun y H' => ∃ aL', PicA K H' y (newL s ds) aL' aC) H Q
theorem ok_Picture_with_new_layer (T : Tx K mg) : Ok P w K mg base CX0 (2 + 1) (He.ma K (He.ga K "Picture") "with_new_layer") ["self", "dots"] (sp_withN K) := by
  refine mk0 T.f_Picture_with_new_layer sc_Picture_with_new_layer bd_Picture_with_new_layer P2.len (fun cdv A outer s H vs Q E hr h => ⟨_, (pss_cons (ps_set (i := 2) sc_Picture_with_new_layer.nd rfl (Or.inl rfl) (pe_op op_add (kbm (K := K) PySem.F.plainAttrs_list PySem.F.slot_list_index PySem.F.type_list_index (k_index (K := K)) (om0 (ok_Picture_numbers T) T.c_Picture T.m_Picture_numbers hr (by decide) ((pass0 : Passes CX0 _ E0)) (pv 0)) (pa_cons (kfld (K := K) (pv 0) rfl) pa_nil)) pe_int))
    (pss_cons (ps_set (i := 3) sc_Picture_with_new_layer.nd rfl (Or.inl rfl) (ok_new (ok_Layer_init T) T.k_Layer hr (by decide) T.g_Layer ((pass0 : Passes CX0 _ E0)) (pa_cons (kfld (K := K) (pv 0) rfl) (pa_cons pe_int (pa_cons (pgi T.i_GREATEST) (pa_cons pe_int (pa_cons (pv 1) pa_nil)))))))
    (pss_cons (ps_set (i := 4) sc_Picture_with_new_layer.nd rfl (Or.inl rfl) (pe_op op_cat (pe_op op_cat (pe_slice (ksl_list (K := K)) (kfld (K := K) (pv 0) rfl) po_none (po_some (pv 2))) (pe_lst (pa_cons (pv 3) pa_nil))) (pe_slice (ksl_list (K := K)) (kfld (K := K) (pv 0) rfl) (po_some (pv 2)) po_none)))
    (pss_one (ps_ret (ok_new (ok_Picture_init T) T.k_Picture hr (by decide) T.g_Picture ((pass0 : Passes CX0 _ E0)) (pa_cons (kfld (K := K) (pv 0) rfl) (pa_cons (kfld (K := K) (pv 0) rfl) (pa_cons (pv 4) (pa_cons (kfld (K := K) (pv 0) rfl) (pa_cons (kfld (K := K) (pv 0) rfl) (pa_cons (pe_op op_add (kfld (K := K) (pv 0) rfl) pe_int) pa_nil)))))))))))), ?_⟩)
  obtain ⟨_, _, rfl, s, p, aL, aC, aD, ds, rfl, hP, W, rfl, hD, k⟩ := h
  have hw := W.le
  have hix := ix_lt W.on
  refine q_asg (ev_op (ev_ix (ev_var rfl) hP W.le' (ev_working T (ev_var rfl) hP) W.on) ev_c rv_I0) fun H1 e1 => ?_
  replace hP := hP.ex e1
  replace hD := hD.ex e1
  replace k := k.ex e1
  refine q_asgN (evn_layer (l := ⟨s.next, true, 255, 0, ds⟩) (aD := aD) (ea_cons (ev_following T (ev_var rfl) hP) (ea_cons ev_c (ea_cons ev_c (ea_cons ev_c (ea_cons (ev_var rfl) ea_nil))))) hD) fun aN H2 n e2 hN => ?_
  replace hP := hP.ex e2
  replace hD := hD.ex e2
  replace k := k.ex e2
  refine q_asgN (evly_cat (evly_cat (evly_take (k := pl s + 1) (ev_layers T (ev_var rfl) hP) (eo_some (ev_var rfl)) hP.lay) (evly_one (l := ⟨s.next, true, 255, 0, ds⟩) ((EvP.of (ev_var (v := .ref aN) rfl)).imp fun v H e q => ⟨aN, aD, q, hN.ex e⟩)) ?_)
    (evly_drop (k := pl s + 1) (ev_layers T (ev_var rfl) hP) (eo_some (ev_var rfl)) hP.lay) ?_) fun aL' H3 n e3 hL' => ?_
  · simp only [List.length_take, List.length_singleton]; omega
  · simp only [List.length_append, List.length_take, List.length_drop, List.length_singleton]; omega
  replace hP := hP.ex e3
  replace k := k.ex e3
  exact s_retN (evn_pic (s := newL s ds) (ea_cons (ev_wide (s := s) T (ev_var rfl) hP) (ea_cons (ev_high (s := s) T (ev_var rfl) hP) (ea_cons (ev_var rfl) (ea_cons (ev_following (s := s) T (ev_var rfl) hP) (ea_cons (ev_chosen (s := s) T (ev_var rfl) hP) (ea_cons (ev_is (ev_op (ev_following (s := s) T (ev_var rfl) hP) ev_c rv_I0) rfl) ea_nil)))))) hL' hP.cho) fun y H4 n e r => k y H4 n e ⟨aL', r⟩
end Lp
set_option Elab.async false
set_option linter.all false
set_option maxRecDepth 100000
set_option maxHeartbeats 4000000
namespace Lp
open PySem PySem.Spec PyProof.Rows L2 Evl
variable {P : Program} {w : World} {K : PySem.W.Frag} {mg : Str → Option Value} {base : Heap}
theorem new_ne {H : Hp} {p D : Addr} (h : H p = none) (h2 : H D ≠ none) : p ≠ D := fun e => h2 (e ▸ h)
theorem ex_upd {H H' : Hp} {D : Addr} {o : HO} (e : Ex H H') : Ex (upd H D o) (upd H' D o) := fun a u h => by
  by_cases ha : a = D
  · subst ha
    rw [upd_same] at h ⊢
    exact h
  · rw [upd_ne ha] at h ⊢
    exact e a u h
section
variable {σ : L2.St} {H : Hp} {te : TE} {wi : TI} {g : TG} {vs : List Nat} {n : Nat}
/-- a comprehension whose elements are made on the way; they don't lean on the list that grows -/
theorem evn_lcR (Y : Nat → V → Hp → Prop) (R : Nat → V → Hp → Prop) (hm : ∀ i, Mono (R i)) (hn : n ≤ 40000)
    (hw : ∀ H1, Ex H H1 → ∀ W : It → Hp → Prop, (∀ J H2, Ex H1 H2 → Src J n H2 Y → W J H2) → wi σ H1 W)
    (turn : ∀ D i x H1, Ex H H1 → H D = none → H1 D ≠ none → i < n → Y i x H1 → ∀ Q : L2.St → Hp → Prop, (∀ σ2 H2, Ex H1 H2 → wipe σ2 vs = wipe σ vs → (∀ Q' : VK, (∀ v H3, Ex H2 H3 → (∀ o, R i v (upd H3 D o)) → Q' v H3) → te σ2 H2 Q') → Q σ2 H2) → g x (wipe σ vs) H1 Q) :
    EvN (tLc wi g tYes te vs) σ H (fun p H' => ∃ ys, H' p = some (.lst ys) ∧ ys.length = n ∧ ∀ i y, ys[i]? = some y → R i y H') := fun H1 e Q q =>
  (evp_lcF (H := H1) Y (fun D i v H => ∀ o, R i v (upd H D o)) (fun D i v H H' e h o => hm i _ _ _ (ex_upd e) (h o)) (fun D i v H o h o' => by rw [upd_upd]; exact h o') hn (fun H2 e2 => hw H2 (e.trans e2))
    (fun D i x H2 e2 h1 h2 => turn D i x H2 (e.trans e2) (fresh_back e h1) h2)) H1 (Ex.refl _) Q fun v H2 e2 ⟨p, ys, ev, h1, h2, h3, h4⟩ => by
    subst ev
    refine q p H2 h1 e2 ⟨ys, h2, h3, fun i y hy => ?_⟩
    have z := h4 i y hy (.lst ys)
    rw [upd_self h2] at z
    exact z
end
theorem rep_one {α : Type} (x : α) : ∀ n : Nat, (List.replicate n [x]).flatten = List.replicate n x
  | 0 => rfl
  | n + 1 => by rw [List.replicate_succ, List.replicate_succ, List.flatten_cons, rep_one x n]; rfl
section
variable {σ : L2.St} {H : Hp} {te ta tb : TE} {tA : TA} {v : V}
/-- [x] * n -/
theorem evn_rep {n : Nat} (h : Ev ta σ H v) (h2 : Ev tb σ H (.int (n : Int))) (hn : n ≤ 1000) : EvN (tOp rRep (tLst (tCons ta tNil)) tb) σ H (fun x H' => H' x = some (.lst (List.replicate n v))) := fun H1 e Q q =>
  el_lst (ea_cons h ea_nil) (by show 1 ≤ 100000; decide) H1 e _ fun p H2 n2 e2 hp => h2 H2 (e.trans e2) _ fun H3 e3 => ⟨p, n, [v], rfl, rfl, e3 _ _ hp, by omega, by omega, sz_of (by rw [Int.toNat_natCast]; show 1 * n ≤ 100000; omega), fun p' hp' => by
    refine q p' _ (fresh_back (e2.trans e3) hp') ((e2.trans e3).trans (Ex.new hp')) ?_
    show upd _ _ _ _ = _
    rw [upd_same, Int.toNat_natCast, rep_one]⟩
/-- Picture(..), its lists made on the way -/
theorem evn_picP {s : Sq50.State} {S : List V → Hp → Prop} (h : EvAP tA σ H S) (hs : ∀ vs H1, Ex H H1 → S vs H1 → ∃ aL aC, vs = [.int (s.w : Int), .int (s.h : Int), .ref aL, .int (s.on : Int), .ref aC, .int (s.next : Int)] ∧ LaysAt K H1 aL s.layers ∧ H1 aC = some (.lst (s.chosen.map V.bl))) :
    EvN (tMake (CP K) (sp_pinit K) [] E0 tA) σ H (fun x H' => ∃ aL aC, PicA K H' x s aL aC) := fun H1 e Q q =>
  h H1 e _ fun vs H2 e2 z => by
    obtain ⟨aL, aC, ev, hl, hc⟩ := hs vs H2 (e.trans e2) z
    subst ev
    exact fun x dx hx hd2 nd => ⟨_, _, _, _, _, _, _, rfl, x, dx, rfl, upd_same, rfl, by
      rw [upd_upd]
      have e3 : Ex H2 (upd (upd H2 dx (.own x)) x (.ins (CP K) dx (pF s aL aC))) := new_ex (C := CP K) hx hd2 nd
      exact q x _ (fresh_back e2 hx) (e2.trans e3) ⟨aL, aC, ⟨dx, upd_same⟩, hl.ex e3, e3 _ _ hc⟩⟩
end
/-- a dot made new: apart from the list that grows -/
theorem dot_new {H3 : Hp} {p D : Addr} {d : Nat × Nat} (h : H3 p = some (.tup [.int (d.1 : Int), .int (d.2 : Int)])) (n : p ≠ D) (o : HO) : DotAt K (upd H3 D o) (.ref p) d := ⟨p, rfl, st_of (by rw [upd_ne n]; exact h)⟩
def newPic (w h : Nat) (cs : List Nat) : Sq50.State := ⟨w, h, [⟨0, true, 255, 0, cs.map fun c => (c, 255)⟩], 0, List.replicate (w * h) false, 1⟩
def sp_newpic (K : PySem.W.Frag) : Sp := P3 fun a b c H Q _ => ∃ (w h : Nat) (cs : List Nat) (aC : Addr), a = .int (w : Int) ∧ b = .int (h : Int) ∧ c = .ref aC ∧ H aC = some (.lst (cs.map fun (i : Nat) => V.int (i : Int))) ∧ w ≤ 12 ∧ h ≤ 12 ∧ cs.length ≤ 1000 ∧
  GivesN (fun y H' => ∃ aL aC, PicA K H' y (newPic w h cs) aL aC) H Q
theorem ok_new_picture (T : Tx K mg) : Ok P w K mg base CX0 (2 + 1) (He.ga K "new_picture") ["wide", "high", "colours"] (sp_newpic K) := by
  refine mk0 T.f_new_picture sc_new_picture bd_new_picture P3.len (fun cdv A outer s H vs Q E hr h => ⟨_, (pss_cons (ps_setLc (i := 3) (own := [("colour", 4)]) rfl sc_new_picture.nd rfl rfl (sw_true rfl rfl rfl (by decide +kernel)) (kpi_list (K := K) (pv 2)) (blkOk_by (by kernel_rfl)) (fun _ _ _ _ _ => by exact (pg_name (i := 4) sc_new_picture.nd rfl (Or.inl rfl))) (fun _ _ _ _ _ => by exact pts_nil) (fun _ _ _ _ _ => by exact (pe_tup (pa_cons (pv 4) (pa_cons (pgi T.i_GREATEST) pa_nil)))))
    (pss_one (ps_ret (ok_new (ok_Picture_init T) T.k_Picture hr (by decide) T.g_Picture ((pass0 : Passes CX0 _ E0)) (pa_cons (pv 0) (pa_cons (pv 1) (pa_cons (pe_lst (pa_cons (ok_new (ok_Layer_init T) T.k_Layer hr (by decide) T.g_Layer ((pass0 : Passes CX0 _ E0)) (pa_cons pe_int (pa_cons pe_int (pa_cons (pgi T.i_GREATEST) (pa_cons pe_int (pa_cons (pv 3) pa_nil)))))) pa_nil)) (pa_cons pe_int (pa_cons (pe_op op_rep (pe_lst (pa_cons pe_bl pa_nil)) (pe_op op_mul (pv 0) (pv 1))) (pa_cons pe_int pa_nil)))))))))), ?_⟩)
  obtain ⟨_, _, _, rfl, w, h, cs, aC, rfl, rfl, rfl, hC, hw, hh, hz, k⟩ := h
  refine q_asgN (evn_lcR (n := cs.length) (fun i x _ => (cs.map fun (i : Nat) => V.int (i : Int))[i]? = some x) (fun i v H => DotAt K H v ((cs[i]?).getD 0, 255)) (fun i => DotAt.mono) (by omega) ?_ ?_) fun aD H1 n e1 hD => ?_
  · have z := iw_list (K := K) (σ := start ["wide", "high", "colours", "dots", "colour"] [.int (w : Int), .int (h : Int), .ref aC]) (H := H) (tl := tVar 2) (ev_var rfl) (sq_of hC)
    rw [List.length_map] at z
    exact z
  · intro D i x H1 e hD0 hD1 hi hx Q' q
    have ex : x = .int ((cs[i]?).getD 0 : Nat) := by
      rw [List.getElem?_map, List.getElem?_eq_getElem hi] at hx
      rw [List.getElem?_eq_getElem hi]
      exact (Option.some.inj hx).symm
    subst ex
    refine q _ H1 (Ex.refl _) rfl fun Q2 q2 => eu_tup (ea_cons (ev_var rfl) (ea_cons ev_c ea_nil)) (by show 2 ≤ 100000; decide) H1 (Ex.refl _) _ fun p H3 n3 e3 hp => q2 _ H3 e3 (dot_new (d := ((cs[i]?).getD 0, 255)) hp (new_ne n3 hD1))
  obtain ⟨ys, h1, h2, h3⟩ := hD
  have hD : DotsAt K H1 aD (cs.map fun c => (c, 255)) := ⟨ys, h1, pair_of (by rw [h2, List.length_map]) fun i x y hx hy => by
    have z := h3 i x hx
    rw [List.getElem?_map] at hy
    cases hc : cs[i]? with
    | none =>
      rw [hc] at hy
      cases hy
    | some c =>
      rw [hc] at hy z
      cases hy
      exact z⟩
  clear h1 h2 h3
  replace k := k.ex e1
  have hwh : w * h ≤ 12 * 12 := Nat.mul_le_mul hw hh
  refine s_retN (evn_picP (s := newPic w h cs) (evap_cons (.of (ev_var rfl)) (fun _ _ _ _ h => h) (evap_cons (.of (ev_var rfl)) (fun _ _ _ _ h => h) (evap_cons (evly_one (EvN.lay (evn_layer (l := ⟨0, true, 255, 0, cs.map fun c => (c, 255)⟩) (ea_cons ev_c (ea_cons ev_c (ea_cons ev_c (ea_cons ev_c (ea_cons (ev_var rfl) ea_nil))))) hD))).p ?_
    (evap_cons (.of ev_c) (fun _ _ _ _ h => h) (evap_cons (evn_rep (n := w * h) ev_c (ev_is (ev_op (ev_var rfl) (ev_var rfl) (rv_I (.inl ⟨by omega, by omega⟩))) (by rw [Int.natCast_mul])) (by omega)).p ?_ (evap_cons (.of ev_c) (fun _ _ _ _ h => h) evap_nil)))))) fun vs H2 e2 hs => ?_) fun y H3 n3 e3 r => k y H3 n3 e3 r
  · exact fun v H H' e ⟨x, q, z⟩ => ⟨x, q, z.ex e⟩
  · exact fun v H H' e ⟨x, q, z⟩ => ⟨x, q, e _ _ z⟩
  · obtain ⟨_, _, rfl, rfl, _, _, rfl, rfl, _, _, rfl, ⟨aL, rfl, hL⟩, _, _, rfl, rfl, _, _, rfl, ⟨aC, rfl, hC⟩, _, _, rfl, rfl, rfl⟩ := hs
    exact ⟨aL, aC, rfl, hL, by rw [hC]; exact congrArg (fun l => some (HO.lst l)) (by show _ = (List.replicate (w * h) false).map V.bl; rw [List.map_replicate])⟩
/-! ### places taken elsewhere -/
theorem pair_map {α β γ : Type} {F : α → β → Prop} {f : γ → α} {g : γ → β} : ∀ {l : List γ}, (∀ x ∈ l, F (f x) (g x)) → Paired F (l.map f) (l.map g)
  | [], _ => .nil
  | x :: l, h => .cons (h x List.mem_cons_self) (pair_map fun y hy => h y (List.mem_cons_of_mem _ hy))
/-- a walk over numbers -/
theorem iw_nums {σ : L2.St} {H : Hp} {tl : TE} {a : Addr} {ps : List Nat} (h : Ev tl σ H (.ref a)) (hx : H a = some (.lst (ps.map fun (i : Nat) => V.int (i : Int)))) : ∀ H1, Ex H H1 → ∀ W : It → Hp → Prop, (∀ J H2, Ex H1 H2 → Src J ps.length H2 (fun i x _ => ∃ h : i < ps.length, x = .int ((ps[i] : Nat) : Int)) → W J H2) → iList K tl σ H1 W := fun H1 e W q =>
  iw_list (K := K) h (sq_of hx) H1 e W fun J H2 e2 S => q J H2 e2 (by
    rw [List.length_map] at S
    exact ⟨S.go, fun i H3 x H4 e3 hi y => by
      obtain ⟨z1, z2⟩ := S.yld i H3 x H4 e3 hi y
      rw [List.getElem?_map, List.getElem?_eq_getElem hi] at z2
      exact ⟨z1, hi, (Option.some.inj z2).symm⟩, S.stop⟩)
def rearr (s : Sq50.State) (w h : Nat) (ps : List Nat) : Sq50.State :=
  { s with w := w, h := h, layers := s.layers.map fun l => { l with dots := ps.map fun i => (l.dots[i]?).getD (0, 0) }, chosen := ps.map fun i => (s.chosen[i]?).getD false }
theorem given_at {α : Type} (l : List α) (d : α) (f : α → V) (g : Nat → V) (hg : ∀ i (h : i < l.length), g i = f l[i]) : given l.length (fun _ => true) g = l.map f := by
  rw [given_all]
  refine List.ext_getElem (by simp) fun i h1 h2 => ?_
  rw [List.getElem_map, List.getElem_map, List.getElem_range]
  exact hg i (by simpa using h1)
theorem EvN.imp' {σ : L2.St} {H : Hp} {te : TE} {R R' : Addr → Hp → Prop} (h : EvN te σ H R) (i : ∀ x H1 H2, Ex H H1 → H1 x = none → Ex H1 H2 → R x H2 → R' x H2) : EvN te σ H R' := fun H1 a Q q => h H1 a Q fun x H2 n e r => q x H2 n e (i x H1 H2 a n e r)
theorem tracked {H H' : Hp} {D : Addr} (h : H D ≠ none) (e : Ex H H') : ∃ o, H' D = some o := by
  cases z : H D with
  | none => exact absurd z h
  | some o => exact ⟨o, e _ _ z⟩
/-- layer.with_dots([..]), apart from the list that grows -/
theorem evn_lwithN {σ : L2.St} {H : Hp} {te td : TE} {E : XK} {a aD0 D : Addr} {l : Sq50.Layer} {ds : List (Nat × Nat)} (hD1 : H D ≠ none) (ho : Ev te σ H (.ref a)) (hL : LayA K H a l aD0) (hd : EvN td σ H (fun aD H' => ∀ o, DotsAt K (upd H' D o) aD ds)) :
    EvN (tMeth (CL K) "with_dots" (sp_lwith K) [] E te (tCons td tNil)) σ H (fun y H' => ∀ o, LayAt K (upd H' D o) (.ref y) { l with dots := ds }) := fun H1 e Q q =>
  ho H1 e _ fun H2 e2 => by
    obtain ⟨dx, h1⟩ := hL.obj
    refine ⟨a, dx, _, rfl, (e.trans e2) _ _ h1, lF_with, hd H2 (e.trans e2) _ fun aD H3 n3 e3 hds => ?_⟩
    obtain ⟨o0, ho0⟩ := tracked hD1 ((e.trans e2).trans e3)
    have h3 : DotsAt K H3 aD ds := by
      have z := hds o0
      rw [upd_self ho0] at z
      exact z
    refine ⟨_, _, rfl, l, a, aD0, aD, ds, rfl, hL.ex ((e.trans e2).trans e3), rfl, h3, fun y H4 n4 e4 r => q y H4 (fresh_back (e2.trans e3) n4) ((e2.trans e3).trans e4) fun o => ?_⟩
    obtain ⟨dy, r1⟩ := r.obj
    exact ⟨y, aD, rfl, ⟨dy, by rw [upd_ne (new_ne n4 (by rw [ho0]; simp))]; exact r1⟩, (hds o).ex (ex_upd e4)⟩
def sp_rearr (K : PySem.W.Frag) : Sp := P4 fun a b c d H Q _ => ∃ (s : Sq50.State) (p aL aC : Addr) (w h : Nat) (ps : List Nat) (aP : Addr), a = .ref p ∧ PicA K H p s aL aC ∧ WF s ∧ b = .int (w : Int) ∧ c = .int (h : Int) ∧ d = .ref aP ∧ H aP = some (.lst (ps.map fun (i : Nat) => V.int (i : Int))) ∧ ps.length ≤ 1000 ∧ (∀ i ∈ ps, i < s.w * s.h) ∧
  GivesN (fun y H' => ∃ aL aC, PicA K H' y (rearr s w h ps) aL aC) H Q
theorem ok_Picture_rearranged (T : Tx K mg) : Ok P w K mg base CX0 (3 + 1) (He.ma K (He.ga K "Picture") "rearranged") ["self", "wide", "high", "places"] (sp_rearr K) := by
  refine mk0 T.f_Picture_rearranged sc_Picture_rearranged bd_Picture_rearranged P4.len (fun cdv A outer s H vs Q E hr h => ⟨_, (pss_cons (ps_setLc (i := 4) (own := [("layer", 6)]) rfl sc_Picture_rearranged.nd rfl rfl (sw_true rfl rfl rfl (by decide +kernel)) (kpi_list (K := K) (kfld (K := K) (pv 0) rfl)) (blkOk_by (by kernel_rfl)) (fun _ _ _ _ _ => by exact (pg_name (i := 6) sc_Picture_rearranged.nd rfl (Or.inr rfl))) (fun _ _ _ _ _ => by exact pts_nil) (fun _ _ _ _ _ => by exact (om (ok_Layer_with_dots T) T.c_Layer T.m_Layer_with_dots hr (by decide) ((pass0 : Passes CX0 _ E0)) (pv 6) (pa_cons (pe_lc (own := [("place", 7)]) rfl sc_Picture_rearranged.nd (kpi_list (K := K) (pv 3)) (blkOk_by (by kernel_rfl)) (fun _ _ _ _ _ => by exact (pg_name (i := 7) sc_Picture_rearranged.nd rfl (Or.inl rfl))) (fun _ _ _ _ _ => by exact pts_nil) (fun _ _ _ _ _ => by exact (pe_ix (kix_list (K := K)) (kfld (K := K) (pv 6) rfl) (pv 7) (fun _ _ => rfl)))) pa_nil))))
    (pss_cons (ps_setLc (i := 5) (own := [("place", 7)]) rfl sc_Picture_rearranged.nd rfl rfl (sw_true rfl rfl rfl (by decide +kernel)) (kpi_list (K := K) (pv 3)) (blkOk_by (by kernel_rfl)) (fun _ _ _ _ _ => by exact (pg_name (i := 7) sc_Picture_rearranged.nd rfl (Or.inl rfl))) (fun _ _ _ _ _ => by exact pts_nil) (fun _ _ _ _ _ => by exact (pe_ix (kix_list (K := K)) (kfld (K := K) (pv 0) rfl) (pv 7) (fun _ _ => rfl))))
    (pss_one (ps_ret (ok_new (ok_Picture_init T) T.k_Picture hr (by decide) T.g_Picture ((pass0 : Passes CX0 _ E0)) (pa_cons (pv 1) (pa_cons (pv 2) (pa_cons (pv 4) (pa_cons (kfld (K := K) (pv 0) rfl) (pa_cons (pv 5) (pa_cons (kfld (K := K) (pv 0) rfl) pa_nil))))))))))), ?_⟩)
  obtain ⟨_, _, _, _, rfl, s, p, aL, aC, w, h, ps, aP, rfl, hP, W, rfl, rfl, rfl, hps, hz, hin, k⟩ := h
  obtain ⟨vs, hvs, hpr⟩ := hP.lay
  have hlen := pair_len hpr
  have hW := W.le
  refine q_asgN (evn_lcR (n := vs.length) (fun i x _ => vs[i]? = some x) (fun i v H => ∀ l, s.layers[i]? = some l → LayAt K H v { l with dots := ps.map fun i => (l.dots[i]?).getD (0, 0) }) (fun i v H H' e h l hl => (h l hl).ex e) (by omega) (iw_list (ev_layers T (ev_var rfl) hP) (sq_of hvs)) ?_) fun aL' H1 n e1 hL => ?_
  · intro D i x H1 e hD0 hD1 hi hx Q' q
    obtain ⟨l, hl, a, aD, rfl, hA⟩ := pair_get' hpr hx
    have ok := W.lok l (List.mem_of_getElem? hl)
    have hA0 := hA
    replace hA := hA.ex e
    have hq1 := e _ _ hps
    obtain ⟨dvs, hdv, hpd⟩ := hA0.dots
    refine q _ H1 (Ex.refl _) rfl fun Q2 q2 => evn_lwithN (l := l) (ds := ps.map fun i => (l.dots[i]?).getD (0, 0)) hD1 (ev_var rfl) hA (EvN.imp' (evn_list (el_lc (n := ps.length) (fun i x _ => ∃ h : i < ps.length, x = .int ((ps[i] : Nat) : Int)) (fun _ => true) (fun i => (dvs[(ps[i]?).getD 0]?).getD .non) (by omega) (iw_nums (ev_var rfl) hq1) ?_)) ?_) H1 (Ex.refl _) _ fun y H3 n3 e3 r => q2 _ H3 e3 fun o l' hl' => ?_
    · intro j y H2 e2 hj hy Q3 q3
      obtain ⟨hj', rfl⟩ := hy
      refine q3 _ H2 (Ex.refl _) rfl (fun _ _ _ z => z _ (Ex.refl _)) fun _ => ev_op (ev_dots (l := l) T (ev_var rfl) (hA.ex e2)) (ev_var rfl) (rv_ixL (sq_of (e2 _ _ (e _ _ hdv))) (atI_nat ?_))
      have hlt : ps[j] < dvs.length := by
        rw [pair_len hpd, ok.len]
        exact hin _ (List.getElem_mem hj)
      rw [List.getElem?_eq_getElem hj]
      show _ = some ((dvs[ps[j]]?).getD .non)
      rw [List.getElem?_eq_getElem hlt]
      rfl
    · intro y H2 H3 e2 n2 e3 r o
      have hyD : y ≠ D := new_ne n2 (by obtain ⟨z, hz⟩ := tracked hD1 e2; rw [hz]; simp)
      refine ⟨ps.map fun i => (dvs[i]?).getD .non, ?_, pair_map fun i hi => ?_⟩
      · rw [upd_ne hyD, r, given_at ps 0 (fun i => (dvs[i]?).getD .non) _ fun i h => by rw [List.getElem?_eq_getElem h]; rfl]
      · have hlt : i < l.dots.length := by
          rw [ok.len]
          exact hin _ hi
        obtain ⟨v, hv, hd⟩ := pair_get hpd (List.getElem?_eq_getElem hlt)
        rw [hv, List.getElem?_eq_getElem hlt]
        exact hd.ex (Ex.mut (((e.trans e2).trans e3)) hD0)
    · rw [hl] at hl'
      cases hl'
      exact r o
  obtain ⟨ys, y1, y2, y3⟩ := hL
  have hL : LaysAt K H1 aL' (s.layers.map fun l => { l with dots := ps.map fun i => (l.dots[i]?).getD (0, 0) }) := ⟨ys, y1, pair_of (by rw [y2, List.length_map, hlen]) fun i x y hx hy => by
    rw [List.getElem?_map] at hy
    cases hl : s.layers[i]? with
    | none =>
      rw [hl] at hy
      cases hy
    | some l =>
      rw [hl] at hy
      cases hy
      exact y3 i x hx l hl⟩
  have hps1 := e1 _ _ hps
  replace hP := hP.ex e1
  replace k := k.ex e1
  refine q_asgN (evn_list (el_lc (n := ps.length) (fun i x _ => ∃ h : i < ps.length, x = .int ((ps[i] : Nat) : Int)) (fun _ => true) (fun i => .bl ((s.chosen[(ps[i]?).getD 0]?).getD false)) (by omega) (iw_nums (ev_var rfl) hps1) ?_)) fun aC' H2 n2 e2 hC => ?_
  · intro j y H2 e2 hj hy Q3 q3
    obtain ⟨hj', rfl⟩ := hy
    have hP2 := hP.ex e2
    refine q3 _ H2 (Ex.refl _) rfl (fun _ _ _ z => z _ (Ex.refl _)) fun _ => ev_op (ev_chosen (s := s) T (ev_var rfl) hP2) (ev_var rfl) (rv_ixL (sq_of hP2.cho) (atI_nat ?_))
    have hlt : ps[j] < s.chosen.length := by
      rw [W.cho]
      exact hin _ (List.getElem_mem hj)
    rw [List.getElem?_map, List.getElem?_eq_getElem hj]
    show Option.map V.bl s.chosen[ps[j]]? = some (.bl ((s.chosen[ps[j]]?).getD false))
    rw [List.getElem?_eq_getElem hlt]
    rfl
  replace hP := hP.ex e2
  replace hL := hL.ex e2
  replace k := k.ex e2
  refine s_retN (evn_pic (s := rearr s w h ps) (aL := aL') (aC := aC') (ea_cons (ev_var rfl) (ea_cons (ev_var rfl) (ea_cons (ev_var rfl) (ea_cons (ev_working (s := s) T (ev_var rfl) hP) (ea_cons (ev_var rfl) (ea_cons (ev_following (s := s) T (ev_var rfl) hP) ea_nil)))))) hL ?_) fun y H3 n e r => k y H3 n e ⟨aL', aC', r⟩
  have hC : H2 aC' = _ := hC
  rw [hC, given_at ps 0 (fun i => V.bl ((s.chosen[i]?).getD false)) _ fun i h => by rw [List.getElem?_eq_getElem h]; rfl]
  exact congrArg (fun l => some (HO.lst l)) (by show _ = (ps.map _).map V.bl; rw [List.map_map]; rfl)
end Lp
set_option Elab.async false
set_option linter.all false
set_option maxRecDepth 100000
set_option maxHeartbeats 4000000
namespace Lp
open PySem PySem.Spec PyProof.Rows L2 Evl
variable {P : Program} {w : World} {K : PySem.W.Frag} {mg : Str → Option Value} {base : Heap}
theorem hu_of {k : Nat} {A : Around} (r : Room k A) : A.units + 1 < cLine := Nat.lt_of_le_of_lt (by omega) r.units
/-! ### how many stand otherwise -/
def unl {α : Type} [DecidableEq α] (xs ys : List α) : Nat := ((List.range xs.length).filter fun i => !decide (xs[i]? = ys[i]?)).length
def rNe2 (K : PySem.W.Frag) : R2 := fun x y H Q => rNe x y H Q ∨ rNeD K x y H Q
def sp_unlike (K : PySem.W.Frag) : Sp := P2 fun a b H Q _ => ∃ (ra rb : Addr) (vs ws : List V) (f : Nat → Bool), a = .ref ra ∧ b = .ref rb ∧ H ra = some (.lst vs) ∧ H rb = some (.lst ws) ∧ vs.length ≤ 1000 ∧
  (∀ i, i < vs.length → ∃ x y, vs[i]? = some x ∧ ws[i]? = some y ∧ RV (rNe2 K) x y H (.bl (f i))) ∧ Gives (fun v _ => v = .int ((((List.range vs.length).filter f).length : Nat) : Int)) H Q
theorem rv_ex {r : R2} {x y z : V} {H H' : Hp} (h : RV r x y H z) (e : Ex H H') : RV r x y H' z := fun H1 e1 Q q => h H1 (e.trans e1) Q q
theorem ok_many_unlike (T : Tx K mg) : Ok P w K mg base CX0 (0 + 1) (He.ga K "many_unlike") ["row", "other"] (sp_unlike K) := by
  refine mk0 T.f_many_unlike sc_many_unlike bd_many_unlike P2.len (fun cdv A outer s H vs Q E hr h => ⟨_, (pss_one (ps_ret (pe_callB (k_len (K := K)) (by rfl) T.b_len (by decide +kernel) (pa_cons (pe_lc (own := [("place", 2)]) rfl sc_many_unlike.nd (pi_range1 (by rfl) T.b_range (pa_cons (pe_callB (k_len (K := K)) (by rfl) T.b_len (by decide +kernel) (pa_cons (pv 0) pa_nil)) pa_nil)) (blkOk_by (by kernel_rfl)) (fun _ _ _ _ _ => by exact (pg_name (i := 2) sc_many_unlike.nd rfl (Or.inl rfl))) (fun _ _ _ _ _ => by exact (pts_one (pt_cmpR (OpR.or op_ne (k_neD (K := K) (by exact hr.units))) (pe_ix (kix_list (K := K)) (pv 0) (pv 2) (fun _ _ => rfl)) (pe_ix (kix_list (K := K)) (pv 1) (pv 2) (fun _ _ => rfl)) (nomark _)))) (fun _ _ _ _ _ => by exact (pv 2))) pa_nil)))), ?_⟩)
  obtain ⟨_, _, rfl, ra, rb, vs, ws, f, rfl, rfl, ha, hb, hz, hf, k⟩ := h
  refine s_ret (ev_lenN (el_lc (n := vs.length) (fun i x _ => x = .int (i : Int)) f (fun i => .int (i : Int)) (by omega) (iw_range1 (ea_cons (ev_len (ev_var rfl) (sq_of ha)) ea_nil) (by omega)) ?_)) fun H1 e => k _ _ e ?_
  · intro i x H1 e hi hx Q' q
    subst hx
    obtain ⟨x, y, hx, hy, hr⟩ := hf i hi
    exact q _ H1 (Ex.refl _) rfl (et_test (ev_op (ev_op (ev_var rfl) (ev_var rfl) (rv_ixL (sq_of (e _ _ ha)) (atI_nat hx))) (ev_op (ev_var rfl) (ev_var rfl) (rv_ixL (sq_of (e _ _ hb)) (atI_nat hy))) (rv_ex hr e))) fun _ => ev_var rfl
  · unfold given
    rw [List.length_map]
/-- two rows of truths -/
theorem rv_bls {x y : Bool} {H : Hp} : RV (rNe2 K) (.bl x) (.bl y) H (.bl (!decide (x = y))) := fun H1 _ Q q => .inl ⟨rfl, by
  have e : decide (V.bl x = V.bl y) = decide (x = y) := by
    rw [Bool.eq_iff_iff, decide_eq_true_iff, decide_eq_true_iff]
    exact ⟨fun h => by cases h; rfl, fun h => by rw [h]⟩
  rw [e]
  exact q H1 (Ex.refl _)⟩
/-- two dots -/
theorem dp_dot {H : Hp} {v : V} {d : Nat × Nat} (h : DotAt K H v d) : Dp K H v (.tuple [.int (d.1 : Int), .int (d.2 : Int)]) := by
  obtain ⟨r, rfl, h⟩ := h
  exact .tup h (.cons (.int _) (.cons (.int _) .nil))
theorem rv_dots {x y : V} {d e : Nat × Nat} {H : Hp} (hx : DotAt K H x d) (hy : DotAt K H y e) : RV (rNe2 K) x y H (.bl (!decide (d = e))) := fun H1 ex Q q => .inr ⟨_, _, dp_dot (hx.ex ex), dp_dot (hy.ex ex), rfl, rfl, by
  have e0 : PyData.eqv (.tuple [.int (d.1 : Int), .int (d.2 : Int)]) (.tuple [.int (e.1 : Int), .int (e.2 : Int)]) = decide (d = e) := by
    show (((d.1 : Int) == (e.1 : Int)) && (((d.2 : Int) == (e.2 : Int)) && true)) = _
    rw [Bool.eq_iff_iff, decide_eq_true_iff, Bool.and_eq_true, Bool.and_eq_true, beq_iff_eq, beq_iff_eq]
    obtain ⟨d1, d2⟩ := d
    obtain ⟨e1, e2⟩ := e
    rw [Prod.mk.injEq]
    show (d1 : Int) = (e1 : Int) ∧ (d2 : Int) = (e2 : Int) ∧ true = true ↔ _
    constructor
    · rintro ⟨a, b, _⟩
      exact ⟨by omega, by omega⟩
    · rintro ⟨a, b⟩
      exact ⟨by omega, by omega, rfl⟩
  rw [e0]
  exact q H1 (Ex.refl _)⟩
section
variable {σ : L2.St} {H : Hp} {ta tb : TE} {E : XK} {a b : Addr}
theorem ev_unlikeB {bs cs : List Bool} (ha : Ev ta σ H (.ref a)) (hb : Ev tb σ H (.ref b)) (h1 : H a = some (.lst (bs.map V.bl))) (h2 : H b = some (.lst (cs.map V.bl))) (hl : bs.length = cs.length) (hz : bs.length ≤ 1000) :
    Ev (tCall (sp_unlike K) [] E (tCons ta (tCons tb tNil))) σ H (.int ((unl bs cs : Nat) : Int)) :=
  (evp_callA (ea_cons ha (ea_cons hb ea_nil)) fun H1 e Q E q => ⟨_, _, rfl, a, b, _, _, fun i => !decide (bs[i]? = cs[i]?), rfl, rfl, e _ _ h1, e _ _ h2, by rw [List.length_map]; exact hz, fun i hi => by
    rw [List.length_map] at hi
    refine ⟨.bl bs[i], .bl (cs[i]'(hl ▸ hi)), by rw [List.getElem?_map, List.getElem?_eq_getElem hi]; rfl, by rw [List.getElem?_map, List.getElem?_eq_getElem (hl ▸ hi)]; rfl, ?_⟩
    show RV _ _ _ _ (.bl (!decide (bs[i]? = cs[i]?)))
    rw [List.getElem?_eq_getElem hi, List.getElem?_eq_getElem (hl ▸ hi)]
    have z := rv_bls (K := K) (x := bs[i]) (y := cs[i]'(hl ▸ hi)) (H := H1)
    simp only [Option.some.injEq]
    exact z, fun v H2 e2 r => q v H2 e2 (by rw [r, List.length_map]; rfl)⟩ : EvP _ _ _ _).to
theorem ev_unlikeD {bs cs : List (Nat × Nat)} (ha : Ev ta σ H (.ref a)) (hb : Ev tb σ H (.ref b)) (h1 : DotsAt K H a bs) (h2 : DotsAt K H b cs) (hl : bs.length = cs.length) (hz : bs.length ≤ 1000) :
    Ev (tCall (sp_unlike K) [] E (tCons ta (tCons tb tNil))) σ H (.int ((unl bs cs : Nat) : Int)) := by
  obtain ⟨vs, v1, v2⟩ := h1
  obtain ⟨ws, w1, w2⟩ := h2
  exact (evp_callA (ea_cons ha (ea_cons hb ea_nil)) fun H1 e Q E q => ⟨_, _, rfl, a, b, _, _, fun i => !decide (bs[i]? = cs[i]?), rfl, rfl, e _ _ v1, e _ _ w1, by rw [pair_len v2]; exact hz, fun i hi => by
    rw [pair_len v2] at hi
    obtain ⟨x, hx, dx⟩ := pair_get v2 (List.getElem?_eq_getElem hi)
    obtain ⟨y, hy, dy⟩ := pair_get w2 (List.getElem?_eq_getElem (hl ▸ hi))
    refine ⟨x, y, hx, hy, ?_⟩
    show RV _ _ _ _ (.bl (!decide (bs[i]? = cs[i]?)))
    rw [List.getElem?_eq_getElem hi, List.getElem?_eq_getElem (hl ▸ hi)]
    have z := rv_dots (dx.ex e) (dy.ex e)
    simp only [Option.some.injEq]
    exact z, fun v H2 e2 r => q v H2 e2 (by rw [r, pair_len v2]; rfl)⟩ : EvP _ _ _ _).to
end
/-! ### a dict of layers -/
theorem mergeK_nd : ∀ (more kvs : List (Key × V)), (kvs.map (·.1) ++ more.map (·.1)).Nodup → mergeK kvs more = kvs ++ more
  | [], kvs, _ => by rw [List.append_nil]; rfl
  | p :: more, kvs, h => by
    have hn : valV kvs p.1 = none := by
      cases z : valV kvs p.1 with
      | none => rfl
      | some v =>
        have m := valV_in z
        rw [List.nodup_append] at h
        exact absurd rfl (h.2.2 p.1 m p.1 (by simp))
    show mergeK (putK kvs p.1 p.2) more = _
    rw [putK_new _ hn, mergeK_nd more (kvs ++ [p]) (by simpa using h)]
    simp
def layK (vs : List V) (ls : List Sq50.Layer) : List (Key × V) := List.zipWith (fun v (l : Sq50.Layer) => (.inl (l.id : Int), v)) vs ls
theorem layK_keys : ∀ (vs : List V) (ls : List Sq50.Layer), vs.length = ls.length → (layK vs ls).map (·.1) = ls.map fun l => (.inl (l.id : Int) : Key)
  | [], [], _ => rfl
  | [], _ :: _, h => by simp at h
  | _ :: _, [], h => by simp at h
  | v :: vs, l :: ls, h => by
    show _ :: (layK vs ls).map (·.1) = _ :: _
    rw [layK_keys vs ls (by simpa using h)]
theorem keys_nd {ls : List Sq50.Layer} (h : (ls.map (·.id)).Nodup) : (ls.map fun l => (.inl (l.id : Int) : Key)).Nodup := by
  have e : (ls.map fun l => (.inl (l.id : Int) : Key)) = (ls.map (·.id)).map fun (n : Nat) => (.inl (n : Int) : Key) := by rw [List.map_map]; rfl
  rw [e]
  refine List.Pairwise.map _ (fun a b hab => ?_) h
  intro z
  apply hab
  have z2 : (a : Int) = (b : Int) := Sum.inl.inj z
  omega
theorem valV_lay {H : Hp} : ∀ {vs : List V} {ls : List Sq50.Layer}, Paired (LayAt K H) vs ls → ∀ n : Nat,
    (∃ l v, ls.find? (fun l => l.id == n) = some l ∧ LayAt K H v l ∧ valV (layK vs ls) (.inl (n : Int)) = some v) ∨ (ls.find? (fun l => l.id == n) = none ∧ valV (layK vs ls) (.inl (n : Int)) = none)
  | _, _, .nil, n => .inr ⟨rfl, rfl⟩
  | _, _, .cons (a := v) (b := l) (l₁ := vs) (l₂ := ls) r t, n => by
    show (∃ l' v', (l :: ls).find? _ = some l' ∧ _ ∧ valV ((.inl (l.id : Int), v) :: layK vs ls) _ = some v') ∨ ((l :: ls).find? _ = none ∧ valV ((.inl (l.id : Int), v) :: layK vs ls) _ = none)
    by_cases h : l.id = n
    · refine .inl ⟨l, v, ?_, r, valV_pos (by rw [h])⟩
      rw [List.find?_cons_of_pos (by simp [h])]
    · have h2 : ¬ ((.inl (l.id : Int) : Key) = .inl (n : Int)) := fun z => h (by have := Sum.inl.inj z; omega)
      rw [List.find?_cons_of_neg (by simp [h]), valV_neg h2]
      exact valV_lay t n
end Lp
set_option Elab.async false
set_option linter.all false
set_option maxRecDepth 100000
set_option maxHeartbeats 4000000
namespace Lp
open PySem PySem.Spec PyProof.Rows L2 Evl
variable {P : Program} {w : World} {K : PySem.W.Frag} {mg : Str → Option Value} {base : Heap}
section
variable {σ : L2.St} {H : Hp} {ty td tl : TE} {d : Addr} {kvs : List (Key × V)} {k : Key} {v : V}
theorem ev_dget (hd : Ev td σ H (.ref d)) (hy : Ev ty σ H (kV k)) (h : H d = some (.dK kvs)) (hv : valV kvs k = some v) : Ev (tDGet td ty) σ H v := fun H1 e Q q =>
  hd H1 e _ fun H2 e2 => hy H2 (e.trans e2) _ fun H3 e3 => ⟨d, v, rfl, by
    have z := DGet.k (k := k) (((e.trans e2).trans e3) _ _ h)
    rw [hv] at z
    exact z, q H3 (e2.trans e3)⟩
theorem et_din (hy : Ev ty σ H (kV k)) (hd : Ev td σ H (.ref d)) (h : H d = some (.dK kvs)) : EvT (tB (tDIn ty td)) σ H (valV kvs k).isSome := fun H1 e Q q =>
  hy H1 e _ fun H2 e2 => hd H2 (e.trans e2) _ fun H3 e3 => ⟨d, _, rfl, DGet.k (((e.trans e2).trans e3) _ _ h), _, rfl, q H3 (e2.trans e3)⟩
theorem evn_dict (h : EvN tl σ H (fun a H' => ∃ ps : List Addr, H' a = some (.lst (ps.map V.ref)) ∧ Paired (fun p kv => SqT K H' p [kV kv.1, kv.2]) ps kvs)) : EvN (tCB (rDictP K) (tCons tl tNil)) σ H (fun d H' => H' d = some (.dK (mergeK [] kvs))) := fun H1 e Q q =>
  h H1 e _ fun a H2 n2 e2 ⟨ps, h1, h2⟩ => ⟨a, ps, kvs, rfl, sq_of h1, h2, fun p hp => q p _ (fresh_back e2 hp) (e2.trans (Ex.new hp)) upd_same⟩
theorem src_keys {o : Obj} (h : H d = some (.frz o (.dK kvs))) : Src (Itk d o kvs) kvs.length H (fun i x _ => ∃ k v, kvs[i]? = some (k, v) ∧ x = kV k) where
  go i H1 e hi := ⟨e _ _ h, hi⟩
  yld i H1 x H2 e hi y := by
    obtain ⟨e1, y⟩ := y
    subst e1
    exact ⟨Ex.refl _, y⟩
  stop H1 e := ⟨e _ _ h, Nat.le_refl _⟩
theorem iw_keys {o : Obj} (h : Ev td σ H (.ref d)) (hd : H d = some (.frz o (.dK kvs))) : ∀ H1, Ex H H1 → ∀ W : It → Hp → Prop, (∀ J H2, Ex H1 H2 → Src J kvs.length H2 (fun i x _ => ∃ k v, kvs[i]? = some (k, v) ∧ x = kV k) → W J H2) → iKeys td σ H1 W := fun H1 e W q =>
  h H1 e _ fun H2 e2 => ⟨d, o, rfl, .inl ⟨kvs, (e.trans e2) _ _ hd, q _ H2 e2 (src_keys ((e.trans e2) _ _ hd))⟩⟩
end
theorem filter_at {α : Type} (l : List α) (d : α) (p : α → Bool) : ((List.range l.length).filter fun i => p ((l[i]?).getD d)).length = (l.filter p).length := by
  have e : l = (List.range l.length).map fun i => (l[i]?).getD d := by
    have z := range_get l d (fun x => x)
    rw [List.map_id'] at z
    exact z.symm
  conv => rhs; rw [e]
  rw [List.filter_map, List.length_map]
  rfl
def pGain (s t : Sq50.State) (l : Sq50.Layer) : Nat := match s.layers.find? (fun m => m.id == l.id) with
  | some m => unl m.dots l.dots
  | none => t.w * t.h
def pCost (s t : Sq50.State) : Nat :=
  if s.w ≠ t.w ∨ s.h ≠ t.h then 1 + s.w * s.h * (s.layers.length + 1) + t.w * t.h * (t.layers.length + 1)
  else 1 + unl s.chosen t.chosen + (t.layers.map (pGain s t)).sum + (s.layers.filter fun l => !(t.layers.any fun m => m.id == l.id)).length * (s.w * s.h)
def sp_cost (K : PySem.W.Frag) : Sp := P2 fun a b H Q _ => ∃ (s t : Sq50.State) (p aL aC q bL bC : Addr), a = .ref p ∧ b = .ref q ∧ PicA K H p s aL aC ∧ PicA K H q t bL bC ∧ WF s ∧ WF t ∧ Gives (fun v _ => v = .int ((pCost s t : Nat) : Int)) H Q
theorem ok_cost (T : Tx K mg) : Ok P w K mg base CX0 (1 + 1) (He.ga K "cost") ["before", "after"] (sp_cost K) := by
  refine mk0 T.f_cost sc_cost bd_cost P2.len (fun cdv A outer s H vs Q E hr h => ⟨_, (pss_cons (ps_if (PW.pt (pw_or (pt_cmpR op_ne (kfld (K := K) (pv 0) rfl) (kfld (K := K) (pv 1) rfl) (nomark _)) (pw_or1 (pt_cmpR op_ne (kfld (K := K) (pv 0) rfl) (kfld (K := K) (pv 1) rfl) (nomark _))))) (pss_one (ps_ret (pe_op op_add (pe_op op_add pe_int (pe_op op_mul (om0 (ok_Picture_size T) T.c_Picture T.m_Picture_size hr (by decide) ((pass0 : Passes CX0 _ E0)) (pv 0)) (pe_op op_add (pe_callB (k_len (K := K)) (by rfl) T.b_len (by decide +kernel) (pa_cons (kfld (K := K) (pv 0) rfl) pa_nil)) pe_int))) (pe_op op_mul (om0 (ok_Picture_size T) T.c_Picture T.m_Picture_size hr (by decide) ((pass0 : Passes CX0 _ E0)) (pv 1)) (pe_op op_add (pe_callB (k_len (K := K)) (by rfl) T.b_len (by decide +kernel) (pa_cons (kfld (K := K) (pv 1) rfl) pa_nil)) pe_int))))) pss_nil)
    (pss_cons (ps_set (i := 2) sc_cost.nd rfl (Or.inl rfl) (pe_op op_add pe_int (oc (ok_many_unlike T) hr (by decide) T.g_many_unlike ((pass0 : Passes CX0 _ E0)) (pa_cons (kfld (K := K) (pv 0) rfl) (pa_cons (kfld (K := K) (pv 1) rfl) pa_nil)))))
    (pss_cons (ps_set (i := 3) sc_cost.nd rfl (Or.inl rfl) (pe_callTy (k_dictP (K := K) (by rfl)) (by rfl) T.b_dict (by decide +kernel) (pa_cons (pe_lc (own := [("layer", 4)]) rfl sc_cost.nd (kpi_list (K := K) (kfld (K := K) (pv 0) rfl)) (blkOk_by (by kernel_rfl)) (fun _ _ _ _ _ => by exact (pg_name (i := 4) sc_cost.nd rfl (Or.inl rfl))) (fun _ _ _ _ _ => by exact pts_nil) (fun _ _ _ _ _ => by exact (pe_tup (pa_cons (kfld (K := K) (pv 4) rfl) (pa_cons (pv 4) pa_nil))))) pa_nil)))
    (pss_cons (ps_for PassesOwn.never rfl (kpi_list (K := K) (kfld (K := K) (pv 1) rfl)) (pg_name (i := 4) sc_cost.nd rfl (Or.inl rfl)) (pss_one (ps_if (pt_cmp (pc_din (by exact hu_of hr) (kfld (K := K) (pv 4) rfl) (pv 3)) rfl) (pss_one (ps_set (i := 2) sc_cost.nd rfl (Or.inl rfl) (pe_op op_add (pv 2) (oc (ok_many_unlike T) hr (by decide) T.g_many_unlike ((pass0 : Passes CX0 _ E0)) (pa_cons (kfld (K := K) (pe_dget (by exact hu_of hr) (pv 3) (kfld (K := K) (pv 4) rfl) (fun _ _ => rfl)) rfl) (pa_cons (kfld (K := K) (pv 4) rfl) pa_nil)))))) (pss_one (ps_set (i := 2) sc_cost.nd rfl (Or.inl rfl) (pe_op op_add (pv 2) (om0 (ok_Picture_size T) T.c_Picture T.m_Picture_size hr (by decide) ((pass0 : Passes CX0 _ E0)) (pv 1))))))))
    (pss_cons (ps_lock (ps_setLc (i := 5) (own := [("number", 6)]) rfl sc_cost.nd rfl rfl (sw_true rfl rfl rfl (by decide +kernel)) (pi_keys (pv 3)) (blkOk_by (by kernel_rfl)) (fun _ _ _ _ _ => by exact (pg_name (i := 6) sc_cost.nd rfl (Or.inl rfl))) (fun _ _ _ _ _ => by exact (pts_one (pt_cmpR (k_notIn (K := K)) (pv 6) (om0 (ok_Picture_numbers T) T.c_Picture T.m_Picture_numbers hr (by decide) ((pass0 : Passes CX0 _ E0)) (pv 1)) (by rfl)))) (fun _ _ _ _ _ => by exact (pv 6))))
    (pss_one (ps_ret (pe_op op_add (pv 2) (pe_op op_mul (pe_callB (k_len (K := K)) (by rfl) T.b_len (by decide +kernel) (pa_cons (pv 5) pa_nil)) (om0 (ok_Picture_size T) T.c_Picture T.m_Picture_size hr (by decide) ((pass0 : Passes CX0 _ E0)) (pv 0))))))))))), ?_⟩)
  obtain ⟨_, _, rfl, s, t, p, aL, aC, q, bL, bC, rfl, rfl, hP, hR, W, Y, k⟩ := h
  obtain ⟨vs, hvs, hpr⟩ := hP.lay
  obtain ⟨ws, hws, hpw⟩ := hR.lay
  have lv := pair_len hpr
  have lw := pair_len hpw
  have z1 := W.le
  have z2 := Y.le
  have z3 := W.sz
  have z4 := Y.sz
  have z5 := W.w2
  have z6 := Y.w2
  refine q_when (b := decide (s.w ≠ t.w ∨ s.h ≠ t.h)) (et_is (et_or (et_test (ev_op (ev_wide T (ev_var rfl) hP) (ev_wide T (ev_var rfl) hR) (rv_ne rfl))) fun _ => et_test (ev_op (ev_high T (ev_var rfl) hP) (ev_high T (ev_var rfl) hR) (rv_ne rfl))) ?_) (fun hb H1 e1 => ?_) (fun hb H1 e1 => ?_)
  · rw [dec_int, dec_int, Bool.eq_iff_iff, decide_eq_true_iff, Bool.or_eq_true, Bool.not_eq_true', Bool.not_eq_true', beq_eq_false_iff_ne, beq_eq_false_iff_ne]
    omega
  · have hb := of_decide_eq_true hb
    replace hP := hP.ex e1
    replace hR := hR.ex e1
    refine s_ret (v := .int ((pCost s t : Nat) : Int)) (ev_is (ev_op (ev_op ev_c (ev_op (ev_size (ev_var rfl) hP (by omega)) (ev_op (ev_len (ev_layers T (ev_var rfl) hP) (sq_of (e1 _ _ hvs))) ev_c rv_I0) (rv_I (.inl ⟨by omega, by omega⟩))) rv_I0) (ev_op (ev_size (ev_var rfl) hR (by omega)) (ev_op (ev_len (ev_layers T (ev_var rfl) hR) (sq_of (e1 _ _ hws))) ev_c rv_I0) (rv_I (.inl ⟨by omega, by omega⟩))) rv_I0) ?_) fun H2 e2 => k _ _ (e1.trans e2) rfl
    unfold pCost
    rw [if_pos hb, lv, lw]
    push_cast
    rfl
  · have hb := of_decide_eq_false hb
    have hs : s.w * s.h = t.w * t.h := by
      rw [show s.w = t.w by omega, show s.h = t.h by omega]
    have hcost : pCost s t = 1 + unl s.chosen t.chosen + (t.layers.map (pGain s t)).sum + (s.layers.filter fun l => !(t.layers.any fun m => m.id == l.id)).length * (s.w * s.h) := if_neg hb
    replace hP := hP.ex e1
    replace hR := hR.ex e1
    refine q_asg (ev_op ev_c (ev_unlikeB (ev_chosen T (ev_var rfl) hP) (ev_chosen T (ev_var rfl) hR) hP.cho hR.cho (by rw [W.cho, Y.cho]; exact hs) (by rw [W.cho]; omega)) rv_I0) fun H2 e2 => ?_
    have e12 := e1.trans e2
    replace hP := hP.ex e2
    replace hR := hR.ex e2
    replace hvs := e12 _ _ hvs
    replace hws := e12 _ _ hws
    replace hpr := L2.Paired.mapP hpr fun _ _ z => LayAt.ex z e12
    replace hpw := L2.Paired.mapP hpw fun _ _ z => LayAt.ex z e12
    have k2 : Gives (fun v _ => v = .int ((pCost s t : Nat) : Int)) H2 Q := fun v H' e => k v H' (e12.trans e)
    clear k e2 e12 e1
    -- the dict
    have hkd : (layK vs s.layers).map (·.1) = s.layers.map fun l => (.inl (l.id : Int) : Key) := layK_keys vs s.layers lv
    refine q_asgN (evn_dict (kvs := layK vs s.layers) ((evn_lcR (n := vs.length) (fun i x _ => vs[i]? = some x) (fun i v H => ∀ (l : Sq50.Layer) (u : V), s.layers[i]? = some l → vs[i]? = some u → ∃ b, v = .ref b ∧ SqT K H b [.int (l.id : Int), u]) (fun i v H H' e h l u hl hu => ?_) (by omega) (iw_list (ev_layers T (ev_var rfl) hP) (sq_of hvs)) ?_).imp fun a H3 e3 hy => ?_)) fun d H3 n3 e3 hd => ?_
    · obtain ⟨b, h1, h2⟩ := h l u hl hu
      exact ⟨b, h1, ex_t e h2⟩
    · intro D i x H3 e3 hD0 hD1 hi hx Q2 q2
      obtain ⟨l, hl, a, aD, rfl, hA⟩ := pair_get' hpr hx
      refine q2 _ H3 (Ex.refl _) rfl fun Q3 q3 => eu_tup (ea_cons (ev_number (l := l) T (ev_var rfl) (hA.ex e3)) (ea_cons (ev_var rfl) ea_nil)) (by show 2 ≤ 100000; decide) H3 (Ex.refl _) _ fun b H4 n4 e4 hb4 => q3 _ H4 e4 fun o l' u' hl' hu' => ?_
      rw [hl] at hl'
      rw [hx] at hu'
      cases hl'
      cases hu'
      exact ⟨b, rfl, st_of (by rw [upd_ne (new_ne n4 hD1)]; exact hb4)⟩
    · obtain ⟨ys, y1, y2, y3⟩ := hy
      have href : ∀ y ∈ ys, ∃ b : Addr, y = .ref b := fun y hy => by
        obtain ⟨i, hi, e⟩ := List.getElem_of_mem hy
        have hi2 : i < s.layers.length := by omega
        have hi3 : i < vs.length := by omega
        obtain ⟨b, h1, _⟩ := y3 i y (by rw [List.getElem?_eq_getElem hi, e]) _ _ (List.getElem?_eq_getElem hi2) (List.getElem?_eq_getElem hi3)
        exact ⟨b, h1⟩
      have hall : ∃ ps : List Addr, ys = ps.map V.ref := by
        clear y1 y2 y3
        induction ys with
        | nil => exact ⟨[], rfl⟩
        | cons y ys ih =>
          obtain ⟨ps, e⟩ := ih fun y hy => href y (List.mem_cons_of_mem _ hy)
          obtain ⟨b, e2⟩ := href y List.mem_cons_self
          exact ⟨b :: ps, by rw [e, e2]; rfl⟩
      obtain ⟨ps, rfl⟩ := hall
      refine ⟨ps, y1, pair_of (by rw [← List.length_map (f := V.ref), y2]; unfold layK; rw [List.length_zipWith]; omega) fun i b kv hb4 hkv => ?_⟩
      unfold layK at hkv
      rw [List.getElem?_zipWith] at hkv
      cases hv : vs[i]? with
      | none =>
        rw [hv] at hkv
        cases hkv
      | some u =>
        cases hl : s.layers[i]? with
        | none =>
          rw [hv, hl] at hkv
          cases hkv
        | some l =>
          rw [hv, hl] at hkv
          cases hkv
          obtain ⟨b', e1, e2⟩ := y3 i (.ref b) (by rw [List.getElem?_map, hb4]; rfl) l u hl hv
          cases e1
          exact e2
    replace hd : H3 d = some (.dK (layK vs s.layers)) := by
      rw [mergeK_nd _ [] (by show (_ ++ _ : List Key).Nodup; rw [List.map_nil, List.nil_append, hkd]; exact keys_nd W.nd)] at hd
      exact hd
    -- the loop
    have hP3 := hP.ex e3
    have hR3 := hR.ex e3
    have hpr3 := L2.Paired.mapP hpr fun _ _ z => LayAt.ex z e3
    have hpw3 := L2.Paired.mapP hpw fun _ _ z => LayAt.ex z e3
    have hws3 := e3 _ _ hws
    refine q_forLn (ev_layers T (ev_var rfl) hR3) (sq_of hws3) (fun i σ' H' => Ex H3 H' ∧ ∃ x4, σ' = [some (.ref p), some (.ref q), some (.int ((1 + unl s.chosen t.chosen + ((t.layers.take i).map (pGain s t)).sum : Nat) : Int)), some (.ref d), x4, none, none]) (fun H4 e4 => ⟨e4, none, ?_⟩) (fun i σ' H' hi ⟨e4, _⟩ => sq_of (e4 _ _ hws3)) ?_ ?_
    · rw [List.take_zero]
      rfl
    · rintro i x σ' H4 hx ⟨e4, x4, rfl⟩
      obtain ⟨l, hl, a, aD, rfl, hA⟩ := pair_get' hpw3 hx
      replace hA := hA.ex e4
      have okl := Y.lok l (List.mem_of_getElem? hl)
      have hd4 := e4 _ _ hd
      have hsum : ((t.layers.take (i + 1)).map (pGain s t)).sum = ((t.layers.take i).map (pGain s t)).sum + pGain s t l := by
        rw [take_snoc hl, List.map_append, List.sum_append]
        simp
      refine s_if (et_din (k := .inl (l.id : Int)) (ev_number (l := l) T (ev_var rfl) hA) (ev_var rfl) hd4) (fun hb H5 e5 => ?_) (fun hb H5 e5 => ?_)
      · rcases valV_lay hpr3 l.id with ⟨m, u, hm, hu, hv⟩ | ⟨_, hv⟩
        · obtain ⟨a2, aD2, rfl, hA2⟩ := hu
          have okm := W.lok m (List.mem_of_find?_eq_some hm)
          replace hA2 := hA2.ex (e4.trans e5)
          replace hA := hA.ex e5
          refine s_asg (ev_op (ev_var rfl) (ev_unlikeD (bs := m.dots) (cs := l.dots) (ev_dots (l := m) T (ev_dget (k := .inl (l.id : Int)) (ev_var rfl) (ev_number (l := l) T (ev_var rfl) hA) (e5 _ _ hd4) hv) hA2) (ev_dots (l := l) T (ev_var rfl) hA) hA2.dots hA.dots (by rw [okm.len, okl.len]; exact hs) (by rw [okm.len]; omega)) rv_I0) fun H6 e6 => ⟨(e4.trans e5).trans e6, some (.ref a), ?_⟩
          rw [hsum, show pGain s t l = unl m.dots l.dots by unfold pGain; rw [hm]]
          simp [List.set]
          omega
        · rw [hv] at hb
          cases hb
      · rcases valV_lay hpr3 l.id with ⟨m, u, hm, hu, hv⟩ | ⟨hm, hv⟩
        · rw [hv] at hb
          cases hb
        · refine s_asg (ev_op (ev_var rfl) (ev_size (ev_var rfl) (hR3.ex (e4.trans e5)) (by omega)) rv_I0) fun H6 e6 => ⟨(e4.trans e5).trans e6, some (.ref a), ?_⟩
          rw [hsum, show pGain s t l = t.w * t.h by unfold pGain; rw [hm]]
          simp [List.set]
          omega
    · rintro σ' H4 ⟨e4, x4, rfl⟩
      rw [show ws.length = t.layers.length from lw, List.take_length]
      have hd4 := e4 _ _ hd
      have hnd : H2 d = none := n3
      refine ⟨d, _, hd4, trivial, fun od => ?_⟩
      have eF : Ex H2 (upd H4 d (.frz od (.dK (layK vs s.layers)))) := Ex.mut (e3.trans e4) hnd
      have hPF := hP.ex eF
      have hRF := hR.ex eF
      refine (evn_list (el_lc (n := (layK vs s.layers).length) (fun i x _ => ∃ k v, (layK vs s.layers)[i]? = some (k, v) ∧ x = kV k) (fun i => !(t.layers.any fun m => m.id == ((s.layers[i]?).getD lay0).id)) (fun i => .int (((s.layers[i]?).getD lay0).id : Int)) ?_ (iw_keys (ev_var rfl) upd_same) ?_)) _ (Ex.refl _) _ fun p5 H5 n5 e5 h5 => ⟨e5 _ _ upd_same, ?_⟩
      · unfold layK
        rw [List.length_zipWith]
        omega
      · rintro i x H5 e5 hi ⟨ky, v, hkv, rfl⟩ Q2 q2
        have hl : ∃ l, s.layers[i]? = some l ∧ ky = .inl (l.id : Int) := by
          have hm : ((layK vs s.layers).map (·.1))[i]? = some ky := by
            rw [List.getElem?_map, hkv]
            rfl
          rw [hkd, List.getElem?_map] at hm
          cases hl : s.layers[i]? with
          | none =>
            rw [hl] at hm
            cases hm
          | some l =>
            rw [hl] at hm
            exact ⟨l, rfl, (Option.some.inj hm).symm⟩
        obtain ⟨l, hl, rfl⟩ := hl
        rw [hl] at q2
        exact q2 _ H5 (Ex.refl _) rfl (et_test (ev_inIds (neg := true) (n := l.id) (ev_var rfl) (hRF.ex e5) Y.le' (ev_var rfl))) fun _ => ev_var rfl
      have e45 : Ex H4 (upd H5 d (.dK (layK vs s.layers))) := fun b o hb4 => by
        by_cases hbd : b = d
        · subst hbd
          rw [hd4] at hb4
          rw [upd_same]
          exact hb4
        · rw [upd_ne hbd]
          exact e5 _ _ (by rw [upd_ne hbd]; exact hb4)
      have e25 := (e3.trans e4).trans e45
      have np5 : p5 ≠ d := fun z => by
        rw [z, upd_same] at n5
        cases n5
      have h5' : (upd H5 d (.dK (layK vs s.layers))) p5 = _ := (upd_ne np5).trans h5
      refine s_ret (v := .int ((pCost s t : Nat) : Int)) (ev_is (ev_op (ev_var rfl) (ev_op (ev_len (ev_var rfl) (sq_of h5')) (ev_size (ev_var rfl) (hP.ex e25) (by omega)) (rv_I (.inr ⟨by omega, by omega⟩))) rv_I0) ?_) fun H6 e6 => k2 _ _ (e25.trans e6) rfl
      have hgl : (given (layK vs s.layers).length (fun i => !(t.layers.any fun m => m.id == ((s.layers[i]?).getD lay0).id)) (fun i => V.int (((s.layers[i]?).getD lay0).id : Int))).length = (s.layers.filter fun l => !(t.layers.any fun m => m.id == l.id)).length := by
        unfold given
        rw [List.length_map, show (layK vs s.layers).length = s.layers.length by unfold layK; rw [List.length_zipWith]; omega]
        exact filter_at s.layers lay0 fun l => !(t.layers.any fun m => m.id == l.id)
      rw [hgl, hcost]
      push_cast
      rfl
end Lp
set_option Elab.async false
set_option linter.all false
set_option maxRecDepth 100000
set_option maxHeartbeats 4000000
namespace Lp
open PySem PySem.Spec PyProof.Rows L2 Evl
variable {P : Program} {w : World} {K : PySem.W.Frag} {mg : Str → Option Value} {base : Heap}
abbrev nums (l : List Nat) : List V := l.map fun (i : Nat) => V.int (i : Int)
section
variable {σ : L2.St} {H : Hp} {te ta tb td : TE} {tA : TA} {E : XK} {a b : Addr} {D : Ends} {tz : TS} {v u : V} {R S : Addr → Hp → Prop}
theorem q_par {i j : Nat} (ha : Ev ta σ H v) (hb : Ev tb σ H u) (k : ∀ H1, Ex H H1 → tz D ((σ.set i (some v)).set j (some u)) H1) : tSeq (tPar i j (tCons ta (tCons tb tNil))) tz D σ H :=
  ea_cons ha (ea_cons hb ea_nil) H (Ex.refl _) (fun vs H1 => ∃ v u, vs = [v, u] ∧ tz D ((σ.set i (some v)).set j (some u)) H1) fun H1 e => ⟨v, u, rfl, k H1 e⟩
theorem g_tup2 {r : Addr} {v1 v2 : V} {j k : Nat} {Q : L2.St → Hp → Prop} (h : SqT K H r [v1, v2]) (q : Q ((σ.set j (some v1)).set k (some v2)) H) : gTup K 2 (gCons (gName j) (gCons (gName k) gNil)) (.ref r) σ H Q := ⟨r, [v1, v2], rfl, h, rfl, v1, [v2], rfl, v2, [], rfl, rfl, q⟩
theorem EvN.l {xs : List V} (h : EvN te σ H (fun y H' => H' y = some (.lst xs))) : EvL te σ H xs := fun H1 e Q q => h H1 e Q fun x H2 n e2 r => q x H2 n e2 r
/-- a method of a picture, its argument made on the way -/
theorem evn_pm1 {sp : Sp} {m : Str} {aL aC : Addr} {s : Sq50.State} (ho : Ev te σ H (.ref a)) (h : PicA K H a s aL aC) (hd : EvN td σ H R) (hs : ∀ x H1, Ex H H1 → R x H1 → ∀ (Q : VK) (E : XK), GivesN S H1 Q → sp [.ref a, .ref x] H1 Q E)
    (hm : ((m == ("wide" : Str)) || ((m == ("high" : Str)) || ((m == ("layers" : Str)) || ((m == ("working" : Str)) || ((m == ("chosen" : Str)) || (m == ("following" : Str))))))) = false := by decide +kernel) : EvN (tMeth (CP K) m sp [] E te (tCons td tNil)) σ H S := fun H1 e Q q => by
  obtain ⟨⟨dx, h1⟩, _⟩ := h
  exact ho H1 e _ fun H2 e2 => ⟨a, dx, _, rfl, (e.trans e2) _ _ h1, pF_no hm, hd H2 (e.trans e2) _ fun x H3 n3 e3 r => hs x H3 ((e.trans e2).trans e3) r Q E fun y H4 n4 e4 r4 => q y H4 (fresh_back (e2.trans e3) n4) ((e2.trans e3).trans e4) r4⟩
theorem evn_callP {sp : Sp} {S : List V → Hp → Prop} {R : Addr → Hp → Prop} (h : EvAP tA σ H S) (hs : ∀ vs H1, Ex H H1 → S vs H1 → ∀ (Q : VK) (E : XK), GivesN R H1 Q → sp vs H1 Q E) : EvN (tCall sp [] E tA) σ H R := fun H1 e Q q =>
  h H1 e _ fun vs H2 e2 s => by
    show sp (vs ++ []) H2 Q E
    rw [List.append_nil]
    exact hs vs H2 (e.trans e2) s Q E fun x H3 n e3 r => q x H3 (fresh_back e2 n) (e2.trans e3) r
theorem ev_any {bs : List Bool} (h : EvL td σ H (bs.map V.bl)) : Ev (tCB (rAny K) (tCons td tNil)) σ H (.bl (bs.any id)) := fun H1 e Q q => h H1 e _ fun p H2 _ e2 hp => ⟨p, bs, rfl, sq_of hp, q H2 e2⟩
theorem ev_all {bs : List Bool} (h : EvL td σ H (bs.map V.bl)) : Ev (tCB (rAll K) (tCons td tNil)) σ H (.bl (bs.all id)) := fun H1 e Q q => h H1 e _ fun p H2 _ e2 hp => ⟨p, bs, rfl, sq_of hp, q H2 e2⟩
/-- if c: x = e, x known only by what holds of it -/
theorem q_ifAsgP {t : TT} {b : Bool} {i : Nat} {R : V → Hp → Prop} (h : EvT t σ H b) (h1 : b = true → EvP te σ H R) (h2 : b = false → R v H) (hs : σ.set i (some v) = σ) (hm : Mono R) (k : ∀ v H1, Ex H H1 → R v H1 → tz D (σ.set i (some v)) H1) : tSeq (tIfS t (tAsg te (gName i)) tNext) tz D σ H :=
  q_when h (fun hb H1 e1 => s_asgP (D := { D with nx := tz D }) ((h1 hb).mono e1) fun v H2 e2 r => k v H2 (e1.trans e2) r) (fun hb H1 e1 => by
    have g := k v H1 e1 (hm _ _ _ e1 (h2 hb))
    rw [hs] at g
    exact g)
end
/-! ### a choice joined to another -/
def sp_isj : Sp := P3 fun a b c H Q _ => ∃ (how : Nat) (x y : Bool), a = .int (how : Int) ∧ b = .bl x ∧ c = .bl y ∧ Gives (fun v _ => v = .bl (Sq44.joined how x y)) H Q
theorem ok_is_joined (T : Tx K mg) : Ok P w K mg base CX0 (0 + 1) (He.ga K "is_joined") ["how", "was", "is_told"] (sp_isj) := by
  refine mk0 T.f_is_joined sc_is_joined bd_is_joined P3.len (fun cdv A outer s H vs Q E hr h => ⟨_, (pss_cons (ps_if (pt_cmpR op_eq (pv 0) (pgi T.i_ALONE) (nomark _)) (pss_one (ps_ret (pv 2))) pss_nil)
    (pss_cons (ps_if (pt_cmpR op_eq (pv 0) (pgi T.i_THESE_TOO) (nomark _)) (pss_one (ps_ret (pe_or (pv 1) (pe_one (pv 2))))) pss_nil)
    (pss_cons (ps_if (pt_cmpR op_eq (pv 0) (pgi T.i_WITHOUT) (nomark _)) (pss_one (ps_ret (pe_and (pv 1) (pe_one (pe_not (pv 2)))))) pss_nil)
    (pss_cons (ps_if (pt_cmpR op_eq (pv 0) (pgi T.i_IN_BOTH) (nomark _)) (pss_one (ps_ret (pe_and (pv 1) (pe_one (pv 2))))) pss_nil)
    (pss_one (ps_ret (pe_cmpR op_ne (pv 1) (pv 2) (nomark _)))))))), ?_⟩)
  obtain ⟨_, _, _, rfl, how, x, y, rfl, rfl, rfl, k⟩ := h
  refine q_when (et_eqn 0 (ev_var rfl)) (fun hb H1 e1 => s_ret (ev_var rfl) fun H2 e2 => k _ _ (e1.trans e2) ?_) (fun h0 H1 e1 => ?_)
  · rw [of_decide_eq_true hb]
    rfl
  refine q_when (et_eqn 1 (ev_var rfl)) (fun hb H2 e2 => s_ret (ev_orV (ev_var rfl) fun _ => ev_var rfl) fun H3 e3 => k _ _ ((e1.trans e2).trans e3) ?_) (fun h1 H2 e2 => ?_)
  · rw [of_decide_eq_true hb]
    rfl
  refine q_when (et_eqn 2 (ev_var rfl)) (fun hb H3 e3 => s_ret (ev_andV (ev_var rfl) fun _ => ev_notV (ev_var rfl)) fun H4 e4 => k _ _ (((e1.trans e2).trans e3).trans e4) ?_) (fun h2 H3 e3 => ?_)
  · rw [of_decide_eq_true hb]
    rfl
  refine q_when (et_eqn 3 (ev_var rfl)) (fun hb H4 e4 => s_ret (ev_andV (ev_var rfl) fun _ => ev_var rfl) fun H5 e5 => k _ _ ((((e1.trans e2).trans e3).trans e4).trans e5) ?_) (fun h3 H4 e4 => ?_)
  · rw [of_decide_eq_true hb]
    rfl
  refine s_ret (ev_op (ev_var rfl) (ev_var rfl) (rv_ne rfl)) fun H5 e5 => k _ _ ((((e1.trans e2).trans e3).trans e4).trans e5) ?_
  have h0 := of_decide_eq_false h0
  have h1 := of_decide_eq_false h1
  have h2 := of_decide_eq_false h2
  have h3 := of_decide_eq_false h3
  match how, h0, h1, h2, h3 with
  | n + 4, _, _, _, _ => cases x <;> cases y <;> rfl
theorem src_zip {H : Hp} {a b : Addr} {xs ys : List V} (h1 : SqL K H a xs) (h2 : SqL K H b ys) (hl : xs.length = ys.length) : Src (Itz K a b) xs.length H (fun i v H' => ∃ T x y, v = .ref T ∧ H' T = some (.tup [x, y]) ∧ xs[i]? = some x ∧ ys[i]? = some y) where
  go i H1 e hi := ⟨xs, ys, xs[i], ys[i]'(hl ▸ hi), ex_l e h1, ex_l e h2, by simp [hi], by simp [hl ▸ hi]⟩
  yld i H1 x H2 e hi y := by
    obtain ⟨T, x, z, rfl, n, rfl, y1, y2⟩ := y
    exact ⟨Ex.new n, T, x, z, rfl, upd_same, y1 xs (ex_l e h1), y2 ys (ex_l e h2)⟩
  stop H1 e := ⟨xs, ys, ex_l e h1, ex_l e h2, .inl (Nat.le_refl _)⟩
theorem iw_zip {σ : L2.St} {H : Hp} {ta : TA} {a b : Addr} {xs ys : List V} (h : EvA ta σ H [.ref a, .ref b]) (h1 : SqL K H a xs) (h2 : SqL K H b ys) (hl : xs.length = ys.length) : ∀ H1, Ex H H1 → ∀ W : It → Hp → Prop,
    (∀ J H2, Ex H1 H2 → Src J xs.length H2 (fun i v H' => ∃ T x y, v = .ref T ∧ H' T = some (.tup [x, y]) ∧ xs[i]? = some x ∧ ys[i]? = some y) → W J H2) → iZip K ta σ H1 W := fun H1 e W q =>
  h H1 e _ fun H2 e2 => ⟨a, b, xs, ys, rfl, ex_l (e.trans e2) h1, ex_l (e.trans e2) h2, q _ H2 e2 (src_zip (ex_l (e.trans e2) h1) (ex_l (e.trans e2) h2) hl)⟩
def sp_joined (K : PySem.W.Frag) : Sp := P3 fun a b c H Q _ => ∃ (s : Sq50.State) (p aL aC : Addr) (how : Nat) (aT : Addr) (bs : List Bool), a = .ref p ∧ PicA K H p s aL aC ∧ b = .int (how : Int) ∧ c = .ref aT ∧ H aT = some (.lst (bs.map V.bl)) ∧ bs.length = s.chosen.length ∧ bs.length ≤ 1000 ∧
  GivesN (fun y H' => ∃ aC', PicA K H' y { s with chosen := List.zipWith (Sq44.joined how) s.chosen bs } aL aC') H Q
theorem ok_joined (T : Tx K mg) : Ok P w K mg base CX0 (3 + 1) (He.ga K "joined") ["picture", "how", "told"] (sp_joined K) := by
  refine mk0 T.f_joined sc_joined bd_joined P3.len (fun cdv A outer s H vs Q E hr h => ⟨_, (pss_one (ps_ret (om (ok_Picture_with_chosen T) T.c_Picture T.m_Picture_with_chosen hr (by decide) ((pass0 : Passes CX0 _ E0)) (pv 0) (pa_cons (pe_lc (own := [("was", 3), ("own", 4)]) rfl sc_joined.nd (kpi_zip (K := K) (by rfl) T.b_zip (pa_cons (kfld (K := K) (pv 0) rfl) (pa_cons (pv 2) pa_nil))) (blkOk_by (by kernel_rfl)) (fun _ _ _ _ _ => by exact (kpg_tup (K := K) (n := 2) (by rfl) (pgs_cons (pg_name (i := 3) sc_joined.nd rfl (Or.inl rfl)) (pgs_cons (pg_name (i := 4) sc_joined.nd rfl (Or.inl rfl)) pgs_nil)))) (fun _ _ _ _ _ => by exact pts_nil) (fun _ _ _ _ _ => by exact (oc (ok_is_joined T) hr (by decide) T.g_is_joined ((pass0 : Passes CX0 _ E0)) (pa_cons (pv 1) (pa_cons (pv 3) (pa_cons (pv 4) pa_nil)))))) pa_nil)))), ?_⟩)
  obtain ⟨_, _, _, rfl, s, p, aL, aC, how, aT, bs, rfl, hP, rfl, rfl, hT, hl, hz, k⟩ := h
  refine s_retN (evn_pm1 (R := fun x H' => H' x = some (.lst ((List.zipWith (Sq44.joined how) s.chosen bs).map V.bl))) (ev_var rfl) hP ((evn_list (el_lc (n := (s.chosen.map V.bl).length) _ (fun _ => true) (fun i => .bl (Sq44.joined how ((s.chosen[i]?).getD false) ((bs[i]?).getD false))) (by rw [List.length_map]; omega)
    (iw_zip (xs := s.chosen.map V.bl) (ys := bs.map V.bl) (ea_cons (ev_chosen T (ev_var rfl) hP) (ea_cons (ev_var rfl) ea_nil)) (sq_of hP.cho) (sq_of hT) (by rw [List.length_map, List.length_map, hl])) ?_)).imp fun x H1 e r => ?_) (S := fun y H' => ∃ aC', PicA K H' y { s with chosen := List.zipWith (Sq44.joined how) s.chosen bs } aL aC') fun x H1 e r Q E q => ⟨_, _, rfl, s, p, aL, aC, x, _, rfl, hP.ex e, rfl, r, fun y H2 n e2 r => q y H2 n e2 ⟨_, r⟩⟩) fun y H1 n e r => k y H1 n e r
  · rintro i x H1 e hi ⟨t, u, v, rfl, hU, hx, hy⟩ Q2 q2
    have hi1 : i < s.chosen.length := by rw [List.length_map] at hi; exact hi
    have hi2 : i < bs.length := hl ▸ hi1
    rw [List.getElem?_map, List.getElem?_eq_getElem hi1] at hx
    rw [List.getElem?_map, List.getElem?_eq_getElem hi2] at hy
    cases hx
    cases hy
    refine g_tup2 (st_of hU) (q2 _ H1 (Ex.refl _) rfl (fun _ _ _ z => z _ (Ex.refl _)) fun _ => EvP.to (evp_callA (ea_cons (ev_var rfl) (ea_cons (ev_var rfl) (ea_cons (ev_var rfl) ea_nil))) fun H2 e2 Q E q => ⟨_, _, _, rfl, how, s.chosen[i], bs[i], rfl, rfl, rfl, fun v H3 e3 r => q v H3 e3 ?_⟩))
    rw [List.getElem?_eq_getElem hi1, List.getElem?_eq_getElem hi2]
    exact r
  · rw [r, given_all]
    refine congrArg (fun l => some (HO.lst l)) (List.ext_getElem (by simp [hl]) fun i h1 h2 => ?_)
    have hi1 : i < s.chosen.length := by simpa using h1
    have hi2 : i < bs.length := hl ▸ hi1
    simp [hi1, hi2]
/-! ### distances -/
def sqd (s : Sq50.State) (i g : Nat) : Int := ((i % s.w : Nat) - (g % s.w : Nat) : Int) * ((i % s.w : Nat) - (g % s.w : Nat) : Int) + ((i / s.w : Nat) - (g / s.w : Nat) : Int) * ((i / s.w : Nat) - (g / s.w : Nat) : Int)
def sp_squared (K : PySem.W.Frag) : Sp := P3 fun a b c H Q _ => ∃ (s : Sq50.State) (p aL aC : Addr) (i g : Nat), a = .ref p ∧ PicA K H p s aL aC ∧ WF s ∧ b = .int (i : Int) ∧ c = .int (g : Int) ∧ i < s.w * s.h ∧ g < s.w * s.h ∧ Gives (fun v _ => v = .int (sqd s i g)) H Q
theorem WF.mod {s : Sq50.State} (W : WF s) (i : Nat) : i % s.w < 12 := Nat.lt_of_lt_of_le (Nat.mod_lt _ W.w1) W.w2
theorem WF.div {s : Sq50.State} (W : WF s) {i : Nat} (h : i < s.w * s.h) : i / s.w < 12 := Nat.lt_of_lt_of_le (Nat.div_lt_of_lt_mul h) W.h2
theorem ok_squared (T : Tx K mg) : Ok P w K mg base CX0 (1 + 1) (He.ga K "squared") ["picture", "one", "other"] (sp_squared K) := by
  refine mk0 T.f_squared sc_squared bd_squared P3.len (fun cdv A outer s H vs Q E hr h => ⟨_, (pss_cons (ps_set (i := 3) sc_squared.nd rfl (Or.inl rfl) (pe_op op_sub (om (ok_Picture_across T) T.c_Picture T.m_Picture_across hr (by decide) ((pass0 : Passes CX0 _ E0)) (pv 0) (pa_cons (pv 1) pa_nil)) (om (ok_Picture_across T) T.c_Picture T.m_Picture_across hr (by decide) ((pass0 : Passes CX0 _ E0)) (pv 0) (pa_cons (pv 2) pa_nil))))
    (pss_cons (ps_set (i := 4) sc_squared.nd rfl (Or.inl rfl) (pe_op op_sub (om (ok_Picture_down T) T.c_Picture T.m_Picture_down hr (by decide) ((pass0 : Passes CX0 _ E0)) (pv 0) (pa_cons (pv 1) pa_nil)) (om (ok_Picture_down T) T.c_Picture T.m_Picture_down hr (by decide) ((pass0 : Passes CX0 _ E0)) (pv 0) (pa_cons (pv 2) pa_nil))))
    (pss_one (ps_ret (pe_op op_add (pe_op op_mul (pv 3) (pv 3)) (pe_op op_mul (pv 4) (pv 4))))))), ?_⟩)
  obtain ⟨_, _, _, rfl, s, p, aL, aC, i, g, rfl, hP, W, rfl, rfl, hi, hg, k⟩ := h
  have w1 := W.w1
  have w2 := W.w2
  have m1 := W.mod i
  have m2 := W.mod g
  have d1 := W.div hi
  have d2 := W.div hg
  have n1 := Int.natCast_nonneg (i / s.w)
  have n2 := Int.natCast_nonneg (g / s.w)
  refine q_asg (ev_op (ev_across (ev_var rfl) hP (by omega) (ev_var rfl)) (ev_across (ev_var rfl) hP (by omega) (ev_var rfl)) rv_I0) fun H1 e1 => ?_
  replace hP := hP.ex e1
  refine q_asg (ev_op (ev_down (ev_var rfl) hP (by omega) (by omega) (ev_var rfl)) (ev_down (ev_var rfl) hP (by omega) (by omega) (ev_var rfl)) rv_I0) fun H2 e2 => ?_
  exact s_ret (ev_op (ev_op (ev_var rfl) (ev_var rfl) (rv_I (.inl ⟨by omega, by omega⟩))) (ev_op (ev_var rfl) (ev_var rfl) (rv_I (.inl ⟨by omega, by omega⟩))) rv_I0) fun H3 e3 => k _ _ ((e1.trans e2).trans e3) rfl
/-! ### near something -/
theorem ev_squared {σ : L2.St} {H : Hp} {t0 t1 t2 : TE} {E : XK} {s : Sq50.State} {p aL aC : Addr} {i g : Nat} (ho : Ev t0 σ H (.ref p)) (h : PicA K H p s aL aC) (W : WF s) (h1 : Ev t1 σ H (.int (i : Int))) (h2 : Ev t2 σ H (.int (g : Int))) (hi : i < s.w * s.h) (hg : g < s.w * s.h) :
    Ev (tCall (sp_squared K) [] E (tCons t0 (tCons t1 (tCons t2 tNil)))) σ H (.int (sqd s i g)) :=
  (evp_callA (ea_cons ho (ea_cons h1 (ea_cons h2 ea_nil))) fun H1 e Q E q => ⟨_, _, _, rfl, s, p, aL, aC, i, g, rfl, h.ex e, W, rfl, rfl, hi, hg, fun v H2 e2 r => q v H2 e2 r⟩ : EvP _ _ _ _).to
def pNear (s : Sq50.State) (r : Nat) (gs : List Nat) : List Bool := (List.range (s.w * s.h)).map fun i => gs.any fun g => decide (sqd s i g ≤ r)
def sp_near (K : PySem.W.Frag) : Sp := P3 fun a b c H Q _ => ∃ (s : Sq50.State) (p aL aC : Addr) (r : Nat) (aG : Addr) (gs : List Nat), a = .ref p ∧ PicA K H p s aL aC ∧ WF s ∧ b = .int (r : Int) ∧ c = .ref aG ∧ H aG = some (.lst (nums gs)) ∧ gs.length ≤ 1000 ∧ (∀ g ∈ gs, g < s.w * s.h) ∧
  GivesN (fun y H' => H' y = some (.lst ((pNear s r gs).map V.bl))) H Q
theorem ok_near (T : Tx K mg) : Ok P w K mg base CX0 (2 + 1) (He.ga K "near") ["picture", "r", "goals"] (sp_near K) := by
  refine mk0 T.f_near sc_near bd_near P3.len (fun cdv A outer s H vs Q E hr h => ⟨_, (pss_cons (ps_set (i := 3) sc_near.nd rfl (Or.inl rfl) (pe_lst pa_nil))
    (pss_cons (ps_for PassesOwn.never rfl (pi_range1 (by rfl) T.b_range (pa_cons (om0 (ok_Picture_size T) T.c_Picture T.m_Picture_size hr (by decide) ((pass0 : Passes CX0 _ E0)) (pv 0)) pa_nil)) (pg_name (i := 4) sc_near.nd rfl (Or.inr rfl)) (pss_one (ps_expr (kbm (K := K) PySem.F.plainAttrs_list PySem.F.slot_list_append PySem.F.type_list_append mt_append (pv 3) (pa_cons (pe_callB (k_any (K := K) (by rfl)) (by rfl) T.b_any (by decide +kernel) (pa_cons (pe_lc (own := [("goal", 5)]) rfl sc_near.nd (kpi_list (K := K) (pv 2)) (blkOk_by (by kernel_rfl)) (fun _ _ _ _ _ => by exact (pg_name (i := 5) sc_near.nd rfl (Or.inl rfl))) (fun _ _ _ _ _ => by exact pts_nil) (fun _ _ _ _ _ => by exact (pe_cmpR op_le (oc (ok_squared T) hr (by decide) T.g_squared ((pass0 : Passes CX0 _ E0)) (pa_cons (pv 0) (pa_cons (pv 4) (pa_cons (pv 5) pa_nil)))) (pv 1) (nomark _)))) pa_nil)) pa_nil)))))
    (pss_one (ps_ret (pv 3))))), ?_⟩)
  obtain ⟨_, _, _, rfl, s, p, aL, aC, r, aG, gs, rfl, hP, W, rfl, rfl, hG, hz, hin, k⟩ := h
  have w2 := W.w2
  have hsz := W.sz
  refine q_asgL (el_lst ea_nil (by show 0 ≤ 100000; decide)) fun f H1 n1 e1 hf => ?_
  refine q_forR1 (ea_cons (ev_size (ev_var rfl) (hP.ex e1) (by omega)) ea_nil) (by omega) (fun i σ' H' => Ex H H' ∧ H' f = some (.lst (((List.range i).map fun i => gs.any fun g => decide (sqd s i g ≤ r)).map V.bl)) ∧ ∃ x4, σ' = [some (.ref p), some (.int (r : Int)), some (.ref aG), some (.ref f), x4, none]) (fun H2 e2 => ⟨e1.trans e2, e2 _ _ hf, none, rfl⟩) ?_ ?_
  · rintro i σ' H2 hi ⟨e2, hf2, x4, rfl⟩
    have hi : i < s.w * s.h := by omega
    refine s_app hf2 (ev_var rfl) (ev_any (bs := gs.map fun g => decide (sqd s i g ≤ r)) ?_) (by simp; omega) fun H3 e3 => ⟨Ex.mut (e2.trans e3) n1, ?_, _, rfl⟩
    · have z := el_lc (n := gs.length) (σ := [some (.ref p), some (.int (r : Int)), some (.ref aG), some (.ref f), some (.int (i : Int)), none]) (H := H2) (te := tOp (rI0 fun i j => .bl (decide (i ≤ j))) (tCall (sp_squared K) [] E0 (tCons (tVar 0) (tCons (tVar 4) (tCons (tVar 5) tNil)))) (tVar 1)) (t := tYes) (wi := iList K (tVar 2)) (g := gName 5) (vs := [5]) (fun i x _ => ∃ h : i < gs.length, x = .int ((gs[i] : Nat) : Int)) (fun _ => true) (fun j => .bl (decide (sqd s i ((gs[j]?).getD 0) ≤ r))) (by omega) (iw_nums (ev_var rfl) (e2 _ _ hG)) ?_
      · rw [given_at gs 0 (fun g => V.bl (decide (sqd s i g ≤ r))) _ fun i h => by rw [List.getElem?_eq_getElem h]; rfl] at z
        rw [List.map_map]
        exact z
      · rintro j x H3 e3 hj ⟨hj', rfl⟩ Q2 q2
        refine q2 _ H3 (Ex.refl _) rfl (fun _ _ _ z => z _ (Ex.refl _)) fun _ => ?_
        rw [List.getElem?_eq_getElem hj]
        exact ev_op (ev_squared (ev_var rfl) (hP.ex (e2.trans e3)) W (ev_var rfl) (ev_var rfl) hi (hin _ (List.getElem_mem hj))) (ev_var rfl) rv_I0
    · rw [upd_same, List.range_succ, List.map_append, List.map_append, List.map_singleton, List.map_singleton, List.any_map]
      rfl
  · rintro σ' H2 ⟨e2, hf2, x4, rfl⟩
    refine s_ret (ev_var rfl) fun H3 e3 => k f H3 n1 (e2.trans e3) ?_
    have hf2 := e3 _ _ hf2
    rw [Int.toNat_natCast] at hf2
    exact hf2
end Lp
set_option Elab.async false
set_option linter.all false
set_option maxRecDepth 100000
set_option maxHeartbeats 4000000
namespace Lp
open PySem PySem.Spec PyProof.Rows L2 Evl
variable {P : Program} {w : World} {K : PySem.W.Frag} {mg : Str → Option Value} {base : Heap}
def onB (s : Sq50.State) (i : Nat) : Bool := (s.chosen[i]?).getD false
def onL (s : Sq50.State) : List Nat := (List.range (s.w * s.h)).filter (onB s)
def offL (s : Sq50.State) : List Nat := (List.range (s.w * s.h)).filter fun i => !onB s i
theorem onL_lt {s : Sq50.State} {g : Nat} (h : g ∈ onL s) : g < s.w * s.h := List.mem_range.mp (List.mem_filter.mp h).1
theorem offL_lt {s : Sq50.State} {g : Nat} (h : g ∈ offL s) : g < s.w * s.h := List.mem_range.mp (List.mem_filter.mp h).1
theorem onL_len {s : Sq50.State} (W : WF s) : (onL s).length ≤ 144 := Nat.le_trans (List.length_filter_le _ _) (by rw [List.length_range]; exact W.sz)
theorem offL_len {s : Sq50.State} (W : WF s) : (offL s).length ≤ 144 := Nat.le_trans (List.length_filter_le _ _) (by rw [List.length_range]; exact W.sz)
/-- [place for place, own in enumerate(picture.chosen) if (not) own] -/
theorem el_chosen {σ : L2.St} {H : Hp} {tp : TE} {tt : TT} {s : Sq50.State} {p aL aC : Addr} {j k : Nat} (neg : Bool) (T : Tx K mg) (ho : Ev tp σ H (.ref p)) (h : PicA K H p s aL aC) (W : WF s) (hjk : ∀ σ : L2.St, j < σ.length → k < σ.length → (((σ.set j (some (.int 0))).set k (some (.int 0))).length = σ.length))
    (hw : ∀ i b, wipe (((wipe σ [j, k]).set j (some (.int i))).set k (some (.bl b))) [j, k] = wipe σ [j, k]) (he : ∀ (i : Int) (b : Bool), ((((wipe σ [j, k]).set j (some (.int i))).set k (some (.bl b))))[j]? = some (some (.int i)))
    (ht : ∀ (i : Int) (b : Bool) H, EvT tt (((wipe σ [j, k]).set j (some (.int i))).set k (some (.bl b))) H (if neg then !b else b)) :
    EvL (tLc (iEnum K (tCons (tFld K tp "chosen") tNil)) (gTup K 2 (gCons (gName j) (gCons (gName k) gNil))) tt (tVar j) [j, k]) σ H (nums (if neg then offL s else onL s)) := by
  have hl : (s.chosen.map V.bl).length = s.w * s.h := by rw [List.length_map]; exact W.cho
  have z := el_lc (n := s.w * s.h) (σ := σ) (H := H) (te := tVar j) (t := tt) (wi := iEnum K (tCons (tFld K tp "chosen") tNil)) (g := gTup K 2 (gCons (gName j) (gCons (gName k) gNil))) (vs := [j, k]) _ (fun i => if neg then !onB s i else onB s i) (fun i => .int (i : Int)) (by have := W.sz; omega) (by
    have q := iw_enum (K := K) (ea_cons (ev_chosen T ho h) ea_nil) (sq_of h.cho)
    rw [hl] at q
    exact q) ?_
  · unfold given at z
    have e : nums (if neg then offL s else onL s) = ((List.range (s.w * s.h)).filter fun i => if neg then !onB s i else onB s i).map fun (i : Nat) => V.int (i : Int) := by
      cases neg <;> rfl
    rw [e]
    exact z
  · rintro i x H1 e hi ⟨t, u, rfl, hU, hx⟩ Q2 q2
    have hi1 : i < s.chosen.length := by rw [W.cho]; exact hi
    rw [List.getElem?_map, List.getElem?_eq_getElem hi1] at hx
    cases hx
    refine g_tup2 (st_of hU) (q2 _ H1 (Ex.refl _) (hw _ _) ?_ fun _ => ev_var (he _ _))
    have z := ht i s.chosen[i] H1
    unfold onB
    rw [List.getElem?_eq_getElem hi1]
    exact z
theorem nums_len (l : List Nat) : (nums l).length = l.length := List.length_map _
def sp_grow (K : PySem.W.Frag) : Sp := P2 fun a b H Q _ => ∃ (s : Sq50.State) (p aL aC : Addr) (r : Nat), a = .ref p ∧ PicA K H p s aL aC ∧ WF s ∧ b = .int (r : Int) ∧ GivesN (fun y H' => H' y = some (.lst ((pNear s r (onL s)).map V.bl))) H Q
theorem ok_grown (T : Tx K mg) : Ok P w K mg base CX0 (3 + 1) (He.ga K "grown") ["picture", "r"] (sp_grow K) := by
  refine mk0 T.f_grown sc_grown bd_grown P2.len (fun cdv A outer s H vs Q E hr h => ⟨_, (pss_one (ps_ret (oc (ok_near T) hr (by decide) T.g_near ((pass0 : Passes CX0 _ E0)) (pa_cons (pv 0) (pa_cons (pv 1) (pa_cons (pe_lc (own := [("place", 2), ("own", 3)]) rfl sc_grown.nd (kpi_enum (K := K) (by rfl) T.b_enumerate (pa_cons (kfld (K := K) (pv 0) rfl) pa_nil)) (blkOk_by (by kernel_rfl)) (fun _ _ _ _ _ => by exact (kpg_tup (K := K) (n := 2) (by rfl) (pgs_cons (pg_name (i := 2) sc_grown.nd rfl (Or.inl rfl)) (pgs_cons (pg_name (i := 3) sc_grown.nd rfl (Or.inl rfl)) pgs_nil)))) (fun _ _ _ _ _ => by exact (pts_one (pt_val (pv 3)))) (fun _ _ _ _ _ => by exact (pv 2))) pa_nil)))))), ?_⟩)
  obtain ⟨_, _, rfl, s, p, aL, aC, r, rfl, hP, W, rfl, k⟩ := h
  have hz := onL_len W
  refine s_retN (evn_callP (evap_cons (.of (ev_var rfl)) (fun _ _ _ _ h => h) (evap_cons (.of (ev_var rfl)) (fun _ _ _ _ h => h) (evap_cons (EvP.ofL (el_chosen (s := s) false T (ev_var rfl) hP W (fun _ _ _ => by simp) (fun _ _ => rfl) (fun _ _ => rfl) fun _ _ _ => et_test (ev_var rfl))) (fun v H H' e ⟨p, q, z⟩ => ⟨p, q, e _ _ z⟩) evap_nil))) ?_) fun y H1 n e r => k y H1 n e r
  rintro vs H1 e ⟨_, _, rfl, rfl, _, _, rfl, rfl, _, _, rfl, ⟨g, rfl, hg⟩, rfl⟩ Q E q
  exact ⟨_, _, _, rfl, s, p, aL, aC, r, g, onL s, rfl, hP.ex e, W, rfl, rfl, hg, by omega, fun _ => onL_lt, q⟩
def sp_shrink (K : PySem.W.Frag) : Sp := P2 fun a b H Q _ => ∃ (s : Sq50.State) (p aL aC : Addr) (r : Nat), a = .ref p ∧ PicA K H p s aL aC ∧ WF s ∧ b = .int (r : Int) ∧ GivesN (fun y H' => H' y = some (.lst (((pNear s r (offL s)).map fun b => !b).map V.bl))) H Q
theorem ok_shrunk (T : Tx K mg) : Ok P w K mg base CX0 (3 + 1) (He.ga K "shrunk") ["picture", "r"] (sp_shrink K) := by
  refine mk0 T.f_shrunk sc_shrunk bd_shrunk P2.len (fun cdv A outer s H vs Q E hr h => ⟨_, (pss_cons (ps_setLc (i := 2) (own := [("place", 3), ("own", 4)]) rfl sc_shrunk.nd rfl rfl (sw_true rfl rfl rfl (by decide +kernel)) (kpi_enum (K := K) (by rfl) T.b_enumerate (pa_cons (kfld (K := K) (pv 0) rfl) pa_nil)) (blkOk_by (by kernel_rfl)) (fun _ _ _ _ _ => by exact (kpg_tup (K := K) (n := 2) (by rfl) (pgs_cons (pg_name (i := 3) sc_shrunk.nd rfl (Or.inl rfl)) (pgs_cons (pg_name (i := 4) sc_shrunk.nd rfl (Or.inl rfl)) pgs_nil)))) (fun _ _ _ _ _ => by exact (pts_one (pt_not (pt_val (pv 4))))) (fun _ _ _ _ _ => by exact (pv 3)))
    (pss_one (ps_ret (pe_lc (own := [("is_near", 5)]) rfl sc_shrunk.nd (kpi_list (K := K) (oc (ok_near T) hr (by decide) T.g_near ((pass0 : Passes CX0 _ E0)) (pa_cons (pv 0) (pa_cons (pv 1) (pa_cons (pv 2) pa_nil))))) (blkOk_by (by kernel_rfl)) (fun _ _ _ _ _ => by exact (pg_name (i := 5) sc_shrunk.nd rfl (Or.inl rfl))) (fun _ _ _ _ _ => by exact pts_nil) (fun _ _ _ _ _ => by exact (pe_not (pv 5))))))), ?_⟩)
  obtain ⟨_, _, rfl, s, p, aL, aC, r, rfl, hP, W, rfl, k⟩ := h
  have hz := offL_len W
  refine q_asgL (el_chosen (s := s) true T (ev_var rfl) hP W (fun _ _ _ => by simp) (fun _ _ => rfl) (fun _ _ => rfl) fun _ _ _ => et_not (et_test (ev_var rfl))) fun g H1 n1 e1 hg => ?_
  have hn : (pNear s r (offL s)).length = s.w * s.h := by unfold pNear; simp
  have hsz := W.sz
  refine s_retN (evn_list (el_lc (n := ((pNear s r (offL s)).map V.bl).length) _ (fun _ => true) (fun i => .bl (!((pNear s r (offL s))[i]?).getD false)) (by rw [List.length_map]; omega) (iw_listN (xs := (pNear s r (offL s)).map V.bl) (EvN.l (evn_call (ea_cons (ev_var rfl) (ea_cons (ev_var rfl) (ea_cons (ev_var rfl) ea_nil))) fun H2 e2 Q E q => ⟨_, _, _, rfl, s, p, aL, aC, r, g, offL s, rfl, hP.ex (e1.trans e2), W, rfl, rfl, e2 _ _ hg, by omega, fun _ => offL_lt, q⟩))) ?_)) fun y H2 n e rr => k y H2 (fresh_back e1 n) (e1.trans e) ?_
  · intro i x H2 e2 hi hx Q2 q2
    have hi1 : i < (pNear s r (offL s)).length := by rw [List.length_map] at hi; exact hi
    rw [List.getElem?_map, List.getElem?_eq_getElem hi1] at hx
    cases hx
    refine q2 _ H2 (Ex.refl _) rfl (fun _ _ _ z => z _ (Ex.refl _)) fun _ => ?_
    rw [List.getElem?_eq_getElem hi1]
    exact ev_notV (ev_var rfl)
  · show H2 y = _
    rw [rr, List.length_map, given_at (pNear s r _) false (fun b => V.bl (!b)) _ fun i h => by rw [List.getElem?_eq_getElem h]; rfl, List.map_map]
    rfl
/-! ### the edges of what is chosen -/
def minL (l : List Nat) : Nat := (l.min?).getD 0
def maxL (l : List Nat) : Nat := (l.max?).getD 0
theorem rmin_nums {σ : L2.St} {H : Hp} {te : TE} {a : Addr} {l : List Nat} (h : Ev te σ H (.ref a)) (hx : H a = some (.lst (nums l))) (hl : l ≠ []) : Ev (tCB (rMin K) (tCons te tNil)) σ H (.int (minL l : Nat)) := fun H1 e Q q =>
  h H1 e _ fun H2 e2 => ⟨a, l.map fun (i : Nat) => (i : Int), rfl, sq_of (by rw [List.map_map]; exact (e.trans e2) _ _ hx), by
    rw [List.length_map]
    exact List.length_pos_iff.mpr hl, fun m hm hall => by
    obtain ⟨n, hn, rfl⟩ := List.mem_map.mp hm
    have z : l.min? = some n := List.min?_eq_some_iff.mpr ⟨hn, fun b hb => by have := hall b (List.mem_map.mpr ⟨b, hb, rfl⟩); omega⟩
    have z2 : minL l = n := by unfold minL; rw [z]; rfl
    rw [← z2]
    exact q H2 e2⟩
theorem rmax_nums {σ : L2.St} {H : Hp} {te : TE} {a : Addr} {l : List Nat} (h : Ev te σ H (.ref a)) (hx : H a = some (.lst (nums l))) (hl : l ≠ []) : Ev (tCB (rMax K) (tCons te tNil)) σ H (.int (maxL l : Nat)) := fun H1 e Q q =>
  h H1 e _ fun H2 e2 => ⟨a, l.map fun (i : Nat) => (i : Int), rfl, sq_of (by rw [List.map_map]; exact (e.trans e2) _ _ hx), by
    rw [List.length_map]
    exact List.length_pos_iff.mpr hl, fun m hm hall => by
    obtain ⟨n, hn, rfl⟩ := List.mem_map.mp hm
    have z : l.max? = some n := List.max?_eq_some_iff.mpr ⟨hn, fun b hb => by have := hall b (List.mem_map.mpr ⟨b, hb, rfl⟩); omega⟩
    have z2 : maxL l = n := by unfold maxL; rw [z]; rfl
    rw [← z2]
    exact q H2 e2⟩
def sp_bounds (K : PySem.W.Frag) : Sp := P1 fun a H Q _ => ∃ (s : Sq50.State) (p aL aC : Addr), a = .ref p ∧ PicA K H p s aL aC ∧ WF s ∧ onL s ≠ [] ∧
  GivesN (fun y H' => H' y = some (.tup (nums [minL ((onL s).map (· % s.w)), minL ((onL s).map (· / s.w)), maxL ((onL s).map (· % s.w)), maxL ((onL s).map (· / s.w))]))) H Q
theorem ok_bounds (T : Tx K mg) : Ok P w K mg base CX0 (1 + 1) (He.ga K "bounds") ["picture"] (sp_bounds K) := by
  refine mk0 T.f_bounds sc_bounds bd_bounds P1.len (fun cdv A outer s H vs Q E hr h => ⟨_, (pss_cons (ps_setLc (i := 1) (own := [("place", 4), ("own", 5)]) rfl sc_bounds.nd rfl rfl (sw_true rfl rfl rfl (by decide +kernel)) (kpi_enum (K := K) (by rfl) T.b_enumerate (pa_cons (kfld (K := K) (pv 0) rfl) pa_nil)) (blkOk_by (by kernel_rfl)) (fun _ _ _ _ _ => by exact (kpg_tup (K := K) (n := 2) (by rfl) (pgs_cons (pg_name (i := 4) sc_bounds.nd rfl (Or.inl rfl)) (pgs_cons (pg_name (i := 5) sc_bounds.nd rfl (Or.inl rfl)) pgs_nil)))) (fun _ _ _ _ _ => by exact (pts_one (pt_val (pv 5)))) (fun _ _ _ _ _ => by exact (pv 4)))
    (pss_cons (ps_setLc (i := 2) (own := [("place", 4)]) rfl sc_bounds.nd rfl rfl (sw_true rfl rfl rfl (by decide +kernel)) (kpi_list (K := K) (pv 1)) (blkOk_by (by kernel_rfl)) (fun _ _ _ _ _ => by exact (pg_name (i := 4) sc_bounds.nd rfl (Or.inl rfl))) (fun _ _ _ _ _ => by exact pts_nil) (fun _ _ _ _ _ => by exact (om (ok_Picture_across T) T.c_Picture T.m_Picture_across hr (by decide) ((pass0 : Passes CX0 _ E0)) (pv 0) (pa_cons (pv 4) pa_nil))))
    (pss_cons (ps_setLc (i := 3) (own := [("place", 4)]) rfl sc_bounds.nd rfl rfl (sw_true rfl rfl rfl (by decide +kernel)) (kpi_list (K := K) (pv 1)) (blkOk_by (by kernel_rfl)) (fun _ _ _ _ _ => by exact (pg_name (i := 4) sc_bounds.nd rfl (Or.inl rfl))) (fun _ _ _ _ _ => by exact pts_nil) (fun _ _ _ _ _ => by exact (om (ok_Picture_down T) T.c_Picture T.m_Picture_down hr (by decide) ((pass0 : Passes CX0 _ E0)) (pv 0) (pa_cons (pv 4) pa_nil))))
    (pss_one (ps_ret (pe_tup (pa_cons (pe_callB (k_min (K := K) (by rfl)) (by rfl) T.b_min (by decide +kernel) (pa_cons (pv 2) pa_nil)) (pa_cons (pe_callB (k_min (K := K) (by rfl)) (by rfl) T.b_min (by decide +kernel) (pa_cons (pv 3) pa_nil)) (pa_cons (pe_callB (k_max (K := K) (by rfl)) (by rfl) T.b_max (by decide +kernel) (pa_cons (pv 2) pa_nil)) (pa_cons (pe_callB (k_max (K := K) (by rfl)) (by rfl) T.b_max (by decide +kernel) (pa_cons (pv 3) pa_nil)) pa_nil)))))))))), ?_⟩)
  obtain ⟨_, rfl, s, p, aL, aC, rfl, hP, W, hne, k⟩ := h
  have hz := onL_len W
  have w1 := W.w1
  have w2 := W.w2
  refine q_asgL (el_chosen (s := s) false T (ev_var rfl) hP W (fun _ _ _ => by simp) (fun _ _ => rfl) (fun _ _ => rfl) fun _ _ _ => et_test (ev_var rfl)) fun g H1 n1 e1 hg => ?_
  refine q_asgL (el_lc (n := (onL s).length) (fun i x _ => ∃ h : i < (onL s).length, x = .int (((onL s)[i] : Nat) : Int)) (fun _ => true) (fun j => .int ((((onL s)[j]?).getD 0 % s.w : Nat) : Int)) (by omega) (iw_nums (ev_var rfl) hg) ?_) fun gx H2 n2 e2 hx => ?_
  · rintro j x H2 e2 hj ⟨hj', rfl⟩ Q2 q2
    refine q2 _ H2 (Ex.refl _) rfl (fun _ _ _ z => z _ (Ex.refl _)) fun _ => ?_
    rw [List.getElem?_eq_getElem hj]
    exact ev_across (ev_var rfl) (hP.ex (e1.trans e2)) (by omega) (ev_var rfl)
  have hg2 := e2 _ _ hg
  refine q_asgL (el_lc (n := (onL s).length) (fun i x _ => ∃ h : i < (onL s).length, x = .int (((onL s)[i] : Nat) : Int)) (fun _ => true) (fun j => .int ((((onL s)[j]?).getD 0 / s.w : Nat) : Int)) (by omega) (iw_nums (ev_var rfl) hg2) ?_) fun gy H3 n3 e3 hy => ?_
  · rintro j x H3 e3 hj ⟨hj', rfl⟩ Q2 q2
    refine q2 _ H3 (Ex.refl _) rfl (fun _ _ _ z => z _ (Ex.refl _)) fun _ => ?_
    rw [List.getElem?_eq_getElem hj]
    exact ev_down (ev_var rfl) (hP.ex ((e1.trans e2).trans e3)) (by omega) (by omega) (ev_var rfl)
  rw [given_at (onL s) 0 (fun g => V.int ((g % s.w : Nat) : Int)) _ fun i h => by rw [List.getElem?_eq_getElem h]; rfl] at hx
  rw [given_at (onL s) 0 (fun g => V.int ((g / s.w : Nat) : Int)) _ fun i h => by rw [List.getElem?_eq_getElem h]; rfl] at hy
  replace hx := e3 _ _ hx
  have hx' : H3 gx = some (.lst (nums ((onL s).map (· % s.w)))) := by rw [hx]; exact congrArg (fun l => some (HO.lst l)) (by show _ = List.map _ (List.map _ _); rw [List.map_map]; rfl)
  have hy' : H3 gy = some (.lst (nums ((onL s).map (· / s.w)))) := by rw [hy]; exact congrArg (fun l => some (HO.lst l)) (by show _ = List.map _ (List.map _ _); rw [List.map_map]; rfl)
  have n1 : (onL s).map (· % s.w) ≠ [] := fun z => hne (List.map_eq_nil_iff.mp z)
  have n2 : (onL s).map (· / s.w) ≠ [] := fun z => hne (List.map_eq_nil_iff.mp z)
  exact s_retU (eu_tup (ea_cons (rmin_nums (ev_var rfl) hx' n1) (ea_cons (rmin_nums (ev_var rfl) hy' n2) (ea_cons (rmax_nums (ev_var rfl) hx' n1) (ea_cons (rmax_nums (ev_var rfl) hy' n2) ea_nil)))) (by show 4 ≤ 100000; decide)) fun q H4 n e r => k q H4 (fresh_back ((e1.trans e2).trans e3) n) (((e1.trans e2).trans e3).trans e) r
end Lp
set_option Elab.async false
set_option linter.all false
set_option maxRecDepth 100000
set_option maxHeartbeats 4000000
namespace Lp
open PySem PySem.Spec PyProof.Rows L2 Evl
variable {P : Program} {w : World} {K : PySem.W.Frag} {mg : Str → Option Value} {base : Heap}
/-! ### a rectangle -/
def rectB (s : Sq50.State) (x y wd hg i : Nat) : Bool := (decide (x ≤ i % s.w) && decide (i % s.w < x + wd)) && (decide (y ≤ i / s.w) && decide (i / s.w < y + hg))
def sp_rect (K : PySem.W.Frag) : Sp := P5 fun a b c d e H Q _ => ∃ (s : Sq50.State) (p aL aC : Addr) (x y wd hg : Nat), a = .ref p ∧ PicA K H p s aL aC ∧ WF s ∧ b = .int (x : Int) ∧ c = .int (y : Int) ∧ d = .int (wd : Int) ∧ e = .int (hg : Int) ∧
  GivesN (fun z H' => H' z = some (.lst (((List.range (s.w * s.h)).map (rectB s x y wd hg)).map V.bl))) H Q
theorem ok_rectangle (T : Tx K mg) : Ok P w K mg base CX0 (1 + 1) (He.ga K "rectangle") ["picture", "x", "y", "wide", "high"] (sp_rect K) := by
  refine mk0 T.f_rectangle sc_rectangle bd_rectangle P5.len (fun cdv A outer s H vs Q E hr h => ⟨_, (pss_cons (ps_set (i := 5) sc_rectangle.nd rfl (Or.inl rfl) (pe_lst pa_nil))
    (pss_cons (ps_for PassesOwn.never rfl (pi_range1 (by rfl) T.b_range (pa_cons (om0 (ok_Picture_size T) T.c_Picture T.m_Picture_size hr (by decide) ((pass0 : Passes CX0 _ E0)) (pv 0)) pa_nil)) (pg_name (i := 6) sc_rectangle.nd rfl (Or.inl rfl)) (pss_cons (ps_par (i := 7) (j := 8) rfl sc_rectangle.nd rfl rfl (by decide) rfl rfl (pa_cons (om (ok_Picture_across T) T.c_Picture T.m_Picture_across hr (by decide) ((pass0 : Passes CX0 _ E0)) (pv 0) (pa_cons (pv 6) pa_nil)) (pa_cons (om (ok_Picture_down T) T.c_Picture T.m_Picture_down hr (by decide) ((pass0 : Passes CX0 _ E0)) (pv 0) (pa_cons (pv 6) pa_nil)) pa_nil)) (by rfl))
    (pss_one (ps_expr (kbm (K := K) PySem.F.plainAttrs_list PySem.F.slot_list_append PySem.F.type_list_append mt_append (pv 5) (pa_cons (pe_and (pe_chain op_le op_lt (pv 1) (pv 7) (pe_op op_add (pv 1) (pv 3))) (pe_one (pe_chain op_le op_lt (pv 2) (pv 8) (pe_op op_add (pv 2) (pv 4))))) pa_nil))))))
    (pss_one (ps_ret (pv 5))))), ?_⟩)
  obtain ⟨_, _, _, _, _, rfl, s, p, aL, aC, x, y, wd, hg, rfl, hP, W, rfl, rfl, rfl, rfl, k⟩ := h
  have w1 := W.w1
  have w2 := W.w2
  have hsz := W.sz
  refine q_asgL (el_lst ea_nil (by show 0 ≤ 100000; decide)) fun f H1 n1 e1 hf => ?_
  refine q_forR1 (ea_cons (ev_size (ev_var rfl) (hP.ex e1) (by omega)) ea_nil) (by omega) (fun i σ' H' => Ex H H' ∧ H' f = some (.lst (((List.range i).map (rectB s x y wd hg)).map V.bl)) ∧ ∃ x6 x7 x8, σ' = [some (.ref p), some (.int (x : Int)), some (.int (y : Int)), some (.int (wd : Int)), some (.int (hg : Int)), some (.ref f), x6, x7, x8]) (fun H2 e2 => ⟨e1.trans e2, e2 _ _ hf, none, none, none, rfl⟩) ?_ ?_
  · rintro i σ' H2 hi ⟨e2, hf2, x6, x7, x8, rfl⟩
    have hi : i < s.w * s.h := by omega
    have hP2 := hP.ex e2
    refine q_par (ev_across (ev_var rfl) hP2 (by omega) (ev_var rfl)) (ev_down (ev_var rfl) hP2 (by omega) (by omega) (ev_var rfl)) fun H3 e3 => ?_
    refine s_app (e3 _ _ hf2) (ev_var rfl) (v := .bl (rectB s x y wd hg i)) (ev_is (ev_andV (ev_chain (ev_var rfl) (ev_var rfl) (fun _ => ev_op (ev_var rfl) (ev_var rfl) rv_I0) rv_I0 fun _ => rv_I0) fun _ => ev_chain (ev_var rfl) (ev_var rfl) (fun _ => ev_op (ev_var rfl) (ev_var rfl) rv_I0) rv_I0 fun _ => rv_I0) ?_) (by simp; omega) fun H4 e4 => ⟨Ex.mut ((e2.trans e3).trans e4) n1, ?_, _, _, _, rfl⟩
    · unfold rectB
      refine congrArg V.bl ?_
      congr 2 <;> exact decide_eq_decide.mpr (by omega)
    · rw [upd_same, List.range_succ, List.map_append, List.map_append, List.map_singleton, List.map_singleton]
  · rintro σ' H2 ⟨e2, hf2, x6, x7, x8, rfl⟩
    refine s_ret (ev_var rfl) fun H3 e3 => k f H3 n1 (e2.trans e3) ?_
    have hf2 := e3 _ _ hf2
    rw [Int.toNat_natCast] at hf2
    exact hf2
/-! ### what lies beside a place -/
def ways4 : List (Int × Int) := [(1, 0), (0, 1), (-1, 0), (0, -1)]
def ways8 : List (Int × Int) := [(1, 1), (-1, 1), (-1, -1), (1, -1)]
def waysOf (c : Bool) : List (Int × Int) := if c = true then ways4 ++ ways8 else ways4
def stepTo (s : Sq50.State) (i : Nat) (d : Int × Int) : Option Nat :=
  if 0 ≤ ((i % s.w : Nat) : Int) + d.1 ∧ ((i % s.w : Nat) : Int) + d.1 < s.w ∧ 0 ≤ ((i / s.w : Nat) : Int) + d.2 ∧ ((i / s.w : Nat) : Int) + d.2 < s.h then
    some ((((i / s.w : Nat) : Int) + d.2) * s.w + (((i % s.w : Nat) : Int) + d.1)).toNat else none
def pBeside (s : Sq50.State) (i : Nat) (c : Bool) : List Nat := (waysOf c).filterMap (stepTo s i)
def WaysAt (K : PySem.W.Frag) (H : Hp) (v : V) (ws : List (Int × Int)) : Prop := ∃ (a : Addr) (as : List Addr), v = .ref a ∧ SqT K H a (as.map V.ref) ∧ Paired (fun b d => SqT K H b [.int d.1, .int d.2]) as ws
theorem WaysAt.ex {H H' : Hp} {v : V} {ws : List (Int × Int)} (h : WaysAt K H v ws) (e : Ex H H') : WaysAt K H' v ws := by
  obtain ⟨a, as, h1, h2, h3⟩ := h
  exact ⟨a, as, h1, ex_t e h2, L2.Paired.mapP h3 fun _ _ z => ex_t e z⟩
theorem ways4_at (T : Tx K mg) (H : Hp) : WaysAt K H (.ref (He.ga K "BESIDE")) ways4 := by
  obtain ⟨as, h⟩ := T.t_BESIDE
  obtain ⟨h1, h2⟩ := h H
  cases h2 with | cons r1 t1 => cases t1 with | cons r2 t2 => cases t2 with | cons r3 t3 => cases t3 with | cons r4 t4 => cases t4 with | nil => exact ⟨_, _, rfl, h1, .cons r1 (.cons r2 (.cons r3 (.cons r4 .nil)))⟩
theorem ways8_at (T : Tx K mg) (H : Hp) : WaysAt K H (.ref (He.ga K "ASLANT")) ways8 := by
  obtain ⟨as, h⟩ := T.t_ASLANT
  obtain ⟨h1, h2⟩ := h H
  cases h2 with | cons r1 t1 => cases t1 with | cons r2 t2 => cases t2 with | cons r3 t3 => cases t3 with | cons r4 t4 => cases t4 with | nil => exact ⟨_, _, rfl, h1, .cons r1 (.cons r2 (.cons r3 (.cons r4 .nil)))⟩
/-- both joined -/
theorem evp_ways {σ : L2.St} {H : Hp} {ta tb : TE} {a b : Addr} {u v : List (Int × Int)} (h1 : Ev ta σ H (.ref a)) (h2 : Ev tb σ H (.ref b)) (w1 : WaysAt K H (.ref a) u) (w2 : WaysAt K H (.ref b) v) (hu : u ≠ []) (hv : v ≠ []) (hz : u.length + v.length ≤ 1000) :
    EvP (tOp (rCatA K) ta tb) σ H (fun x H' => WaysAt K H' x (u ++ v)) := fun H1 e Q q =>
  h1 H1 e _ fun H2 e2 => h2 H2 (e.trans e2) _ fun H3 e3 => by
    have e13 := (e.trans e2).trans e3
    obtain ⟨_, as, q1, a1, a2⟩ := w1.ex e13
    obtain ⟨_, bs, q2, b1, b2⟩ := w2.ex e13
    cases q1
    cases q2
    have l1 := pair_len a2
    have l2 := pair_len b2
    have z1 : as.map V.ref ≠ [] := fun z => hu (by have := congrArg List.length z; rw [List.length_map, l1] at this; exact List.length_eq_zero_iff.mp this)
    have z2 : bs.map V.ref ≠ [] := fun z => hv (by have := congrArg List.length z; rw [List.length_map, l2] at this; exact List.length_eq_zero_iff.mp this)
    refine ⟨a, b, _, _, rfl, rfl, a1, b1, sz_of (by rw [List.length_map, List.length_map]; omega), fun z => absurd z z1, fun _ z => absurd z z2, fun _ _ p hp => q _ _ ((e2.trans e3).trans (Ex.new hp)) ⟨p, as ++ bs, rfl, st_of (by rw [upd_same, List.map_append]), ?_⟩⟩
    exact pair_app (L2.Paired.mapP a2 fun _ _ z => ex_t (Ex.new hp) z) (L2.Paired.mapP b2 fun _ _ z => ex_t (Ex.new hp) z)
def sp_beside (K : PySem.W.Frag) : Sp := P3 fun a b c H Q _ => ∃ (s : Sq50.State) (p aL aC : Addr) (i : Nat) (cn : Bool), a = .ref p ∧ PicA K H p s aL aC ∧ WF s ∧ b = .int (i : Int) ∧ c = .bl cn ∧ i < s.w * s.h ∧
  GivesN (fun z H' => H' z = some (.lst (nums (pBeside s i cn)))) H Q
theorem waysOf_len (c : Bool) : (waysOf c).length ≤ 8 := by cases c <;> decide
theorem ok_beside (T : Tx K mg) : Ok P w K mg base CX0 (1 + 1) (He.ga K "beside") ["picture", "place", "corners"] (sp_beside K) := by
  refine mk0 T.f_beside sc_beside bd_beside P3.len (fun cdv A outer s H vs Q E hr h => ⟨_, (pss_cons (ps_set (i := 3) sc_beside.nd rfl (Or.inl rfl) (pgr T.g_BESIDE))
    (pss_cons (ps_if (pt_val (pv 2)) (pss_one (ps_set (i := 3) sc_beside.nd rfl (Or.inl rfl) (pe_op (k_catA (K := K)) (pgr T.g_BESIDE) (pgr T.g_ASLANT)))) pss_nil)
    (pss_cons (ps_set (i := 4) sc_beside.nd rfl (Or.inl rfl) (pe_lst pa_nil))
    (pss_cons (ps_for PassesOwn.never rfl (kpi_tup (K := K) (pv 3)) (kpg_tup (K := K) (n := 2) (by rfl) (pgs_cons (pg_name (i := 5) sc_beside.nd rfl (Or.inl rfl)) (pgs_cons (pg_name (i := 6) sc_beside.nd rfl (Or.inl rfl)) pgs_nil))) (pss_cons (ps_par (i := 7) (j := 8) rfl sc_beside.nd rfl rfl (by decide) rfl rfl (pa_cons (pe_op op_add (om (ok_Picture_across T) T.c_Picture T.m_Picture_across hr (by decide) ((pass0 : Passes CX0 _ E0)) (pv 0) (pa_cons (pv 1) pa_nil)) (pv 5)) (pa_cons (pe_op op_add (om (ok_Picture_down T) T.c_Picture T.m_Picture_down hr (by decide) ((pass0 : Passes CX0 _ E0)) (pv 0) (pa_cons (pv 1) pa_nil)) (pv 6)) pa_nil)) (by rfl))
    (pss_one (ps_if (pt_val (om (ok_Picture_has T) T.c_Picture T.m_Picture_has hr (by decide) ((pass0 : Passes CX0 _ E0)) (pv 0) (pa_cons (pv 7) (pa_cons (pv 8) pa_nil)))) (pss_one (ps_expr (kbm (K := K) PySem.F.plainAttrs_list PySem.F.slot_list_append PySem.F.type_list_append mt_append (pv 4) (pa_cons (om (ok_Picture_place T) T.c_Picture T.m_Picture_place hr (by decide) ((pass0 : Passes CX0 _ E0)) (pv 0) (pa_cons (pv 7) (pa_cons (pv 8) pa_nil))) pa_nil)))) pss_nil))))
    (pss_one (ps_ret (pv 4))))))), ?_⟩)
  obtain ⟨_, _, _, rfl, s, p, aL, aC, i, cn, rfl, hP, W, rfl, rfl, hi, k⟩ := h
  have w1 := W.w1
  have w2 := W.w2
  refine q_asg ev_c fun H1 e1 => ?_
  refine q_ifAsgP (v := .ref (He.ga K "BESIDE")) (R := fun v H' => WaysAt K H' v (waysOf cn)) (et_test (ev_var rfl)) (fun hc => ?_) (fun hc => ?_) rfl (fun _ _ _ e h => h.ex e) fun v H2 e2 hw => ?_
  · rw [hc]
    exact evp_ways ev_c ev_c (ways4_at T H1) (ways8_at T H1) (by simp [ways4]) (by simp [ways8]) (by decide)
  · rw [hc]
    exact ways4_at T H1
  obtain ⟨a, as, rfl, h1, h2⟩ := hw
  have hl := pair_len h2
  have hl8 := waysOf_len cn
  refine q_asgL (el_lst ea_nil (by show 0 ≤ 100000; decide)) fun f H3 n3 e3 hf => ?_
  have e13 := (e1.trans e2).trans e3
  have hf0 : H f = none := fresh_back (e1.trans e2) n3
  refine q_forT (ev_var rfl) (ex_t e3 h1) (fun j σ' H' => Ex H2 H' ∧ H' f = some (.lst (nums (((waysOf cn).take j).filterMap (stepTo s i)))) ∧ ∃ x5 x6 x7 x8, σ' = [some (.ref p), some (.int (i : Int)), some (.bl cn), some (.ref a), some (.ref f), x5, x6, x7, x8]) (fun H4 e4 => ⟨e3.trans e4, e4 _ _ hf, none, none, none, none, rfl⟩) (fun j σ' H' _ ⟨z, _⟩ => ex_t z h1) ?_ ?_
  · rintro j x σ' H4 hx ⟨e4, hf4, x5, x6, x7, x8, rfl⟩
    have hj : ∃ b, as[j]? = some b ∧ x = .ref b := by
      rw [List.getElem?_map] at hx
      cases hb : as[j]? with
      | none =>
        rw [hb] at hx
        cases hx
      | some b =>
        rw [hb] at hx
        exact ⟨b, rfl, (Option.some.inj hx).symm⟩
    obtain ⟨b, hb, rfl⟩ := hj
    obtain ⟨d, hd, hT⟩ := pair_get' h2 hb
    have hP4 := hP.ex ((e1.trans e2).trans e4)
    have hlen : (nums (((waysOf cn).take j).filterMap (stepTo s i))).length ≤ 8 := by
      rw [List.length_map]
      refine Nat.le_trans (List.length_filterMap_le _ _) ?_
      rw [List.length_take]
      omega
    refine g_tup2 (ex_t e4 hT) ?_
    refine q_par (ev_op (ev_across (ev_var rfl) hP4 (by omega) (ev_var rfl)) (ev_var rfl) rv_I0) (ev_op (ev_down (ev_var rfl) hP4 (by omega) (by omega) (ev_var rfl)) (ev_var rfl) rv_I0) fun H5 e5 => ?_
    have hP5 := hP4.ex e5
    refine s_when (et_test (ev_has (ev_var rfl) hP5 (ev_var rfl) (ev_var rfl))) (fun hb H6 e6 => ?_) (fun hb H6 e6 => ?_)
    · have hb := of_decide_eq_true hb
      refine s_app (e6 _ _ (e5 _ _ hf4)) (ev_var rfl) (ev_place (ev_var rfl) (hP5.ex e6) (by omega) (ev_var rfl) (ev_var rfl)) (by omega) fun H7 e7 => ⟨Ex.mut (((e4.trans e5).trans e6).trans e7) n3, ?_, _, _, _, _, rfl⟩
      rw [upd_same, take_snoc hd, List.filterMap_append]
      have hs : stepTo s i d = some ((((i / s.w : Nat) : Int) + d.2) * s.w + (((i % s.w : Nat) : Int) + d.1)).toNat := by
        unfold stepTo
        rw [if_pos (by omega)]
      rw [show List.filterMap (stepTo s i) [d] = [((((i / s.w : Nat) : Int) + d.2) * s.w + (((i % s.w : Nat) : Int) + d.1)).toNat] by rw [List.filterMap_cons, hs]; rfl]
      refine congrArg (fun l => some (HO.lst l)) ?_
      show _ = List.map _ _
      rw [List.map_append, List.map_singleton, Int.toNat_of_nonneg]
      have : 0 ≤ (((i / s.w : Nat) : Int) + d.2) * (s.w : Int) := Int.mul_nonneg (by omega) (by omega)
      omega
    · have hb := of_decide_eq_false hb
      refine ⟨(e4.trans e5).trans e6, ?_, _, _, _, _, rfl⟩
      rw [e6 _ _ (e5 _ _ hf4), take_snoc hd, List.filterMap_append]
      have hs : stepTo s i d = none := by
        unfold stepTo
        rw [if_neg (by omega)]
      rw [show List.filterMap (stepTo s i) [d] = [] by rw [List.filterMap_cons, hs]; rfl, List.append_nil]
  · rintro σ' H4 ⟨e4, hf4, x5, x6, x7, x8, rfl⟩
    refine s_ret (ev_var rfl) fun H5 e5 => k f H5 hf0 (((e1.trans e2).trans e4).trans e5) ?_
    have z := e5 _ _ hf4
    rw [List.length_map, hl, List.take_length] at z
    exact z
end Lp
set_option Elab.async false
set_option linter.all false
set_option maxRecDepth 100000
set_option maxHeartbeats 4000000
namespace Lp
open PySem PySem.Spec PyProof.Rows L2 Evl
variable {P : Program} {w : World} {K : PySem.W.Frag} {mg : Str → Option Value} {base : Heap}
/-! ### a flood -/
def flTry (ok : Nat → Bool) (st : List Bool × List Nat) (o : Nat) : List Bool × List Nat := if (!((st.1[o]?).getD false) && ok o) = true then (st.1.set o true, st.2 ++ [o]) else st
def flVisit (nb : Nat → List Nat) (ok : Nat → Nat → Bool) (st : List Bool × List Nat) (p : Nat) : List Bool × List Nat := (nb p).foldl (flTry (ok p)) st
def flRun (nb : Nat → List Nat) (ok : Nat → Nat → Bool) : Nat → Nat → List Bool × List Nat → List Bool × List Nat
  | 0, _, st => st
  | f + 1, a, st => match st.2[a]? with
    | none => st
    | some p => flRun nb ok f (a + 1) (flVisit nb ok st p)
theorem flRun_some {nb : Nat → List Nat} {ok : Nat → Nat → Bool} {m a p : Nat} {st : List Bool × List Nat} (h : st.2[a]? = some p) : flRun nb ok (m + 1) a st = flRun nb ok m (a + 1) (flVisit nb ok st p) := by
  rw [flRun, h]
theorem flRun_none {nb : Nat → List Nat} {ok : Nat → Nat → Bool} {m a : Nat} {st : List Bool × List Nat} (h : st.2[a]? = none) : flRun nb ok m a st = st := by
  cases m with
  | zero => rfl
  | succ m => rw [flRun, h]
def colL (s : Sq50.State) : List Nat := s.layer.dots.map (·.1)
def colN (s : Sq50.State) (i : Nat) : Nat := ((colL s)[i]?).getD 0
def flOk (s : Sq50.State) (first tol kind : Nat) (p o : Nat) : Bool := decide (((colN s o : Int) - (colN s (if kind = 0 then first else p) : Int)).natAbs ≤ tol)
def flStart (s : Sq50.State) (first : Nat) : List Bool × List Nat := ((List.replicate (s.w * s.h) false).set first true, [first])
def pFlood (s : Sq50.State) (first tol kind : Nat) (cn : Bool) : List Bool := (flRun (fun p => pBeside s p cn) (flOk s first tol kind) (s.w * s.h + 1) 0 (flStart s first)).1
structure FlInv (n : Nat) (st : List Bool × List Nat) : Prop where
  len : st.1.length = n
  cnt : st.1.count true = st.2.length
  lt : ∀ p ∈ st.2, p < n
theorem count_set : ∀ (l : List Bool) (i : Nat), l[i]? = some false → (l.set i true).count true = l.count true + 1
  | [], _, h => by simp at h
  | b :: l, 0, h => by
    simp at h
    subst h
    simp
  | b :: l, i + 1, h => by
    have z := count_set l i (by simpa using h)
    rw [List.set_cons_succ, List.count_cons, List.count_cons, z]
    omega
theorem FlInv.try {n o : Nat} {ok : Nat → Bool} {st : List Bool × List Nat} (h : FlInv n st) (ho : o < n) : FlInv n (flTry ok st o) := by
  unfold flTry
  split
  · rename_i hc
    rw [Bool.and_eq_true, Bool.not_eq_true'] at hc
    have hlt : o < st.1.length := by rw [h.len]; exact ho
    refine ⟨by rw [List.length_set]; exact h.len, ?_, fun p hp => ?_⟩
    · show (st.1.set o true).count true = (st.2 ++ [o]).length
      rw [count_set st.1 o (by have := hc.1; rw [List.getElem?_eq_getElem hlt] at this ⊢; exact congrArg some this), h.cnt, List.length_append]
      rfl
    · rcases List.mem_append.mp hp with z | z
      · exact h.lt p z
      · rw [List.mem_singleton] at z
        rw [z]
        exact ho
  · exact h
theorem FlInv.le {n : Nat} {st : List Bool × List Nat} (h : FlInv n st) : st.2.length ≤ n := by
  rw [← h.cnt, ← h.len]
  exact List.count_le_length
theorem FlInv.fold {n : Nat} {ok : Nat → Bool} : ∀ (l : List Nat) {st : List Bool × List Nat}, FlInv n st → (∀ o ∈ l, o < n) → FlInv n (l.foldl (flTry ok) st)
  | [], _, h, _ => h
  | o :: l, _, h, hl => FlInv.fold l (h.try (hl o List.mem_cons_self)) fun p hp => hl p (List.mem_cons_of_mem _ hp)
theorem stepTo_lt {s : Sq50.State} {i j : Nat} {d : Int × Int} (h : stepTo s i d = some j) : j < s.w * s.h := by
  unfold stepTo at h
  split at h
  · rename_i hc
    have hj := (Option.some.inj h).symm
    obtain ⟨h1, h2, h3, h4⟩ := hc
    have e1 : (((i / s.w : Nat) : Int) + d.2) * (s.w : Int) ≤ ((s.h : Int) - 1) * (s.w : Int) := Int.mul_le_mul_of_nonneg_right (by omega) (by omega)
    have e2 : ((s.h : Int) - 1) * (s.w : Int) = (s.w : Int) * (s.h : Int) - s.w := by rw [Int.sub_mul, Int.one_mul, Int.mul_comm]
    have e3 : (((s.w * s.h : Nat) : Int)) = (s.w : Int) * (s.h : Int) := Int.natCast_mul _ _
    have : 0 ≤ (((i / s.w : Nat) : Int) + d.2) * (s.w : Int) := Int.mul_nonneg h3 (by omega)
    omega
  · cases h
theorem pBeside_lt {s : Sq50.State} {i : Nat} {c : Bool} : ∀ o ∈ pBeside s i c, o < s.w * s.h := fun o ho => by
  obtain ⟨d, _, hd⟩ := List.mem_filterMap.mp ho
  exact stepTo_lt hd
theorem pBeside_len (s : Sq50.State) (i : Nat) (c : Bool) : (pBeside s i c).length ≤ 8 := Nat.le_trans (List.length_filterMap_le _ _) (waysOf_len c)
theorem fl_start {s : Sq50.State} {first : Nat} (h : first < s.w * s.h) : FlInv (s.w * s.h) (flStart s first) := by
  refine ⟨by unfold flStart; simp, ?_, fun p hp => ?_⟩
  · unfold flStart
    rw [count_set _ _ (by rw [List.getElem?_replicate, if_pos h]), List.count_replicate]
    rfl
  · have : p = first := by simpa [flStart] using hp
    rw [this]
    exact h
section
variable {σ : L2.St} {H : Hp} {tl ta : TE} {ds : List (Nat × Nat)}
/-- a walk over the dots of a layer -/
theorem iw_dots (h : EvP tl σ H (fun v H' => ∃ aD, v = .ref aD ∧ DotsAt K H' aD ds)) : ∀ H1, Ex H H1 → ∀ W : It → Hp → Prop, (∀ J H2, Ex H1 H2 → Src J ds.length H2 (fun i x H' => ∃ (r : Addr) (d : Nat × Nat), x = .ref r ∧ ds[i]? = some d ∧ SqT K H' r [.int (d.1 : Int), .int (d.2 : Int)]) → W J H2) → iList K tl σ H1 W := fun H1 e W q =>
  h H1 e _ fun v H2 e2 ⟨aD, ev, vs, h1, h2⟩ => by
    subst ev
    have s := src_list (K := K) (sq_of h1)
    rw [pair_len h2] at s
    refine ⟨aD, rfl, ⟨vs, sq_of h1⟩, q _ H2 e2 ⟨s.go, fun i H3 x H4 e3 hi y => ?_, s.stop⟩⟩
    obtain ⟨z1, z2⟩ := s.yld i H3 x H4 e3 hi y
    obtain ⟨d, hd, r, hr, hT⟩ := pair_get' h2 z2
    exact ⟨z1, r, d, hr, hd, ex_t (e3.trans z1) hT⟩
theorem ev_absN {i : Int} (h : Ev ta σ H (.int i)) : Ev (tCB (fun xs H Q => ∃ i, xs = [.int i] ∧ Q (.int (if i < 0 then -i else i)) H) (tCons ta tNil)) σ H (.int (i.natAbs : Int)) := fun H1 e Q q =>
  h H1 e _ fun H2 e2 => ⟨i, rfl, by
    have z : (if i < 0 then -i else i) = (i.natAbs : Int) := by split <;> omega
    rw [z]
    exact q H2 e2⟩
end
theorem map_set_bl (l : List Bool) (i : Nat) (b : Bool) : (l.map V.bl).set i (.bl b) = (l.set i b).map V.bl := (List.map_set ..).symm
def sp_flood (K : PySem.W.Frag) : Sp := P5 fun a b c d e H Q _ => ∃ (s : Sq50.State) (p aL aC : Addr) (first tol kind : Nat) (cn : Bool), a = .ref p ∧ PicA K H p s aL aC ∧ WF s ∧ b = .int (first : Int) ∧ c = .int (tol : Int) ∧ d = .int (kind : Int) ∧ e = .bl cn ∧ first < s.w * s.h ∧
  GivesN (fun z H' => H' z = some (.lst ((pFlood s first tol kind cn).map V.bl))) H Q
theorem ok_flood (T : Tx K mg) : Ok P w K mg base CX0 (2 + 1) (He.ga K "flood") ["picture", "first", "tolerance", "kind", "corners"] (sp_flood K) := by
  refine mk0 T.f_flood sc_flood bd_flood P5.len (fun cdv A outer s H vs Q E hr h => ⟨_, (pss_cons (ps_setLc (i := 5) (own := [("colour", 11), ("cover", 12)]) rfl sc_flood.nd rfl rfl (sw_true rfl rfl rfl (by decide +kernel)) (kpi_list (K := K) (kfld (K := K) (om0 (ok_Picture_worked_on T) T.c_Picture T.m_Picture_worked_on hr (by decide) ((pass0 : Passes CX0 _ E0)) (pv 0)) rfl)) (blkOk_by (by kernel_rfl)) (fun _ _ _ _ _ => by exact (kpg_tup (K := K) (n := 2) (by rfl) (pgs_cons (pg_name (i := 11) sc_flood.nd rfl (Or.inl rfl)) (pgs_cons (pg_name (i := 12) sc_flood.nd rfl (Or.inl rfl)) pgs_nil)))) (fun _ _ _ _ _ => by exact pts_nil) (fun _ _ _ _ _ => by exact (pv 11)))
    (pss_cons (ps_set (i := 6) sc_flood.nd rfl (Or.inl rfl) (pe_op op_rep (pe_lst (pa_cons pe_bl pa_nil)) (om0 (ok_Picture_size T) T.c_Picture T.m_Picture_size hr (by decide) ((pass0 : Passes CX0 _ E0)) (pv 0))))
    (pss_cons (ps_asg pe_bl (pg_sub (pv 6) (pv 1) set_list))
    (pss_cons (ps_set (i := 7) sc_flood.nd rfl (Or.inl rfl) (pe_lst (pa_cons (pv 1) pa_nil)))
    (pss_cons (ps_set (i := 8) sc_flood.nd rfl (Or.inl rfl) pe_int)
    (pss_cons (ps_while PassesOwn.never (pt_cmpR op_lt (pv 8) (pe_callB (k_len (K := K)) (by rfl) T.b_len (by decide +kernel) (pa_cons (pv 7) pa_nil)) (nomark _)) (pss_cons (ps_set (i := 9) sc_flood.nd rfl (Or.inl rfl) (pe_ifExp (pt_cmpR op_eq (pv 3) (pgi T.i_BY_FIRST) (nomark _)) (pv 1) (pe_ix (kix_list (K := K)) (pv 7) (pv 8) (fun _ _ => rfl))))
    (pss_cons (ps_for PassesOwn.never rfl (kpi_list (K := K) (oc (ok_beside T) hr (by decide) T.g_beside ((pass0 : Passes CX0 _ E0)) (pa_cons (pv 0) (pa_cons (pe_ix (kix_list (K := K)) (pv 7) (pv 8) (fun _ _ => rfl)) (pa_cons (pv 4) pa_nil))))) (pg_name (i := 10) sc_flood.nd rfl (Or.inl rfl)) (pss_one (ps_if (PW.pt (pw_and (pt_not (pt_val (pe_ix (kix_list (K := K)) (pv 6) (pv 10) (fun _ _ => rfl)))) (pw_and1 (pt_cmpR op_le (pe_callB call_abs (by rfl) T.b_abs (by decide +kernel) (pa_cons (pe_op op_sub (pe_ix (kix_list (K := K)) (pv 5) (pv 10) (fun _ _ => rfl)) (pe_ix (kix_list (K := K)) (pv 5) (pv 9) (fun _ _ => rfl))) pa_nil)) (pv 2) (nomark _))))) (pss_cons (ps_asg pe_bl (pg_sub (pv 6) (pv 10) set_list))
    (pss_one (ps_expr (kbm (K := K) PySem.F.plainAttrs_list PySem.F.slot_list_append PySem.F.type_list_append mt_append (pv 7) (pa_cons (pv 10) pa_nil))))) pss_nil)))
    (pss_one (ps_set (i := 8) sc_flood.nd rfl (Or.inl rfl) (pe_op op_add (pv 8) pe_int))))))
    (pss_one (ps_ret (pv 6))))))))), ?_⟩)
  obtain ⟨_, _, _, _, _, rfl, s, p, aL, aC, first, tol, kind, cn, rfl, hP, W, rfl, rfl, rfl, rfl, hfi, k⟩ := h
  have w1 := W.w1
  have w2 := W.w2
  have hsz := W.sz
  have hds : s.layer.dots.length = s.w * s.h := W.lay_ok.len
  have hcl : (colL s).length = s.w * s.h := by unfold colL; rw [List.length_map]; exact hds
  refine q_asgL (el_lc (n := s.layer.dots.length) _ (fun _ => true) (fun i => .int (colN s i : Int)) (by omega) (iw_dots (evp_workdots T (ev_var rfl) hP W)) ?_) fun cL H0 nc ec hc => ?_
  · rintro i x H1 e1 hi ⟨r, d, rfl, hd, hT⟩ Q2 q2
    refine g_tup2 hT (q2 _ H1 (Ex.refl _) rfl (fun _ _ _ z => z _ (Ex.refl _)) fun _ => ?_)
    have : colN s i = d.1 := by
      unfold colN colL
      rw [List.getElem?_map, hd]
      rfl
    rw [this]
    exact ev_var rfl
  replace hc : H0 cL = some (.lst (nums (colL s))) := by
    rw [hc, hds, ← hcl, given_at (colL s) 0 (fun n => V.int (n : Int)) _ fun i h => by unfold colN; rw [List.getElem?_eq_getElem h]; rfl]
  replace hP := hP.ex ec
  refine q_asgN (evn_rep (n := s.w * s.h) ev_c (ev_size (ev_var rfl) hP (by omega)) (by omega)) fun f H1 nf e1 hf => ?_
  refine q_setL hf ev_c (ev_var rfl) (ev_var rfl) (j := first) (by rw [List.length_replicate]; exact hfi) fun H2 e2 => ?_
  have e02 : Ex H0 (upd H2 f (.lst ((List.replicate (s.w * s.h) (V.bl false)).set first (.bl true)))) := Ex.mut (e1.trans e2) nf
  refine q_asgL (el_lst (ea_cons (ev_var rfl) ea_nil) (by show 1 ≤ 100000; decide)) fun q H3 nq e3 hq => ?_
  have hfq : f ≠ q := fun z => by
    rw [← z, upd_same] at nq
    cases nq
  have nq0 : H0 q = none := fresh_back e02 nq
  have hf3 : H3 f = some (.lst ((flStart s first).1.map V.bl)) := by
    rw [e3 _ _ upd_same]
    unfold flStart
    rw [← map_set_bl, List.map_replicate]
  have hq3 : H3 q = some (.lst (nums (flStart s first).2)) := hq
  have e03 : Ex H0 H3 := e02.trans e3
  clear e1 e2 e02 hf nq e3 hq
  refine q_asg ev_c fun H4 e4 => ?_
  replace hf3 := e4 _ _ hf3
  replace hq3 := e4 _ _ hq3
  replace e03 := e03.trans e4
  clear e4
  refine q_while (fun m σ' H' => ∃ (a : Nat) (st : List Bool × List Nat), flRun (fun p => pBeside s p cn) (flOk s first tol kind) m a st = flRun (fun p => pBeside s p cn) (flOk s first tol kind) (s.w * s.h + 1) 0 (flStart s first) ∧ m + a = s.w * s.h + 1 ∧ a ≤ st.2.length ∧ FlInv (s.w * s.h) st ∧ Ex H0 H' ∧
    H' f = some (.lst (st.1.map V.bl)) ∧ H' q = some (.lst (nums st.2)) ∧ ∃ x9 x10, σ' = [some (.ref p), some (.int (first : Int)), some (.int (tol : Int)), some (.int (kind : Int)), some (.bl cn), some (.ref cL), some (.ref f), some (.ref q), some (.int (a : Int)), x9, x10, none, none])
    (s.w * s.h + 1) ⟨0, _, rfl, rfl, Nat.zero_le _, fl_start hfi, e03, hf3, hq3, none, none, rfl⟩ ?_
  rintro m σ' H5 ⟨a, st, hrun, hma, hal, inv, e5, hf5, hq5, x9, x10, rfl⟩
  have hle := inv.le
  refine ⟨decide (a < st.2.length), et_is (et_test (ev_op (ev_var rfl) (ev_len (ev_var rfl) (sq_of hq5)) rv_I0)) ?_, fun hb H6 e6 => ?_, fun hb H6 e6 => ?_⟩
  · rw [List.length_map]
    exact decide_eq_decide.mpr (by omega)
  · have ha := of_decide_eq_true hb
    obtain ⟨m, rfl⟩ : ∃ m', m = m' + 1 := ⟨m - 1, by omega⟩
    have hpa : st.2[a]? = some st.2[a] := List.getElem?_eq_getElem ha
    have hlt := inv.lt _ (List.getElem_mem ha)
    have hrun2 : flRun (fun p => pBeside s p cn) (flOk s first tol kind) m (a + 1) (flVisit (fun p => pBeside s p cn) (flOk s first tol kind) st st.2[a]) = flRun (fun p => pBeside s p cn) (flOk s first tol kind) (s.w * s.h + 1) 0 (flStart s first) := by
      rw [← hrun, flRun_some hpa]
    have hq5' : ∀ H', Ex H5 H' → ∀ σ : L2.St, σ[7]? = some (some (.ref q)) → σ[8]? = some (some (.int (a : Int))) → Ev (tOp (rIxL K) (tVar 7) (tVar 8)) σ H' (.int (st.2[a] : Int)) := fun H' e σ h7 h8 => ev_op (ev_var h7) (ev_var h8) (rv_ixL (sq_of (e _ _ hq5)) (atI_nat (by rw [List.getElem?_map, hpa]; rfl)))
    refine ⟨fun σ' H' => ∃ (st' : List Bool × List Nat), st' = flVisit (fun p => pBeside s p cn) (flOk s first tol kind) st st.2[a] ∧ Ex H0 H' ∧ H' f = some (.lst (st'.1.map V.bl)) ∧ H' q = some (.lst (nums st'.2)) ∧ ∃ x9 x10, σ' = [some (.ref p), some (.int (first : Int)), some (.int (tol : Int)), some (.int (kind : Int)), some (.bl cn), some (.ref cL), some (.ref f), some (.ref q), some (.int ((a + 1 : Nat) : Int)), x9, x10, none, none], ?_, ?_⟩
    · rintro σ2 H7 ⟨st', rfl, e7, hf7, hq7, y9, y10, rfl⟩
      have inv' : FlInv (s.w * s.h) (flVisit (fun p => pBeside s p cn) (flOk s first tol kind) st st.2[a]) := FlInv.fold _ inv pBeside_lt
      refine ⟨m, by omega, a + 1, _, hrun2, by omega, ?_, inv', e7, hf7, hq7, y9, y10, rfl⟩
      have mono : ∀ (l : List Nat) (st : List Bool × List Nat) (ok : Nat → Bool), st.2.length ≤ (l.foldl (flTry ok) st).2.length := by
        intro l
        induction l with
        | nil => exact fun _ _ => Nat.le_refl _
        | cons o l ih =>
          intro st ok
          refine Nat.le_trans ?_ (ih (flTry ok st o) ok)
          unfold flTry
          split
          · rw [List.length_append]
            omega
          · exact Nat.le_refl _
      exact Nat.lt_of_lt_of_le ha (mono _ _ _)
    · refine q_asg (v := .int ((if kind = 0 then first else st.2[a] : Nat) : Int)) (ev_if (et_eqn 0 (ev_var rfl)) (fun hk => ?_) (fun hk => ?_)) fun H7 e7 => ?_
      · rw [if_pos (of_decide_eq_true hk)]
        exact ev_var rfl
      · rw [if_neg (of_decide_eq_false hk)]
        exact hq5' _ e6 _ rfl rfl
      have e57 := e6.trans e7
      refine q_forNLn (xs := nums (pBeside s st.2[a] cn)) (EvN.l (evn_call (ea_cons (ev_var rfl) (ea_cons (hq5' _ e57 _ rfl rfl) (ea_cons (ev_var rfl) ea_nil))) fun H8 e8 Q E qq => ⟨_, _, _, rfl, s, p, aL, aC, st.2[a], cn, rfl, hP.ex ((e5.trans e57).trans e8), W, rfl, rfl, hlt, qq⟩))
        (fun b j σ' H' => b ≠ f ∧ b ≠ q ∧ H' b = some (.lst (nums (pBeside s st.2[a] cn))) ∧ ∃ (st' : List Bool × List Nat), st' = ((pBeside s st.2[a] cn).take j).foldl (flTry (flOk s first tol kind st.2[a])) st ∧ Ex H0 H' ∧ H' f = some (.lst (st'.1.map V.bl)) ∧ H' q = some (.lst (nums st'.2)) ∧
          ∃ x10, σ' = [some (.ref p), some (.int (first : Int)), some (.int (tol : Int)), some (.int (kind : Int)), some (.bl cn), some (.ref cL), some (.ref f), some (.ref q), some (.int (a : Int)), some (.int ((if kind = 0 then first else st.2[a] : Nat) : Int)), x10, none, none])
        (fun b H8 nb e8 hb8 => ⟨new_ne nb (by rw [e57 _ _ hf5]; simp), new_ne nb (by rw [e57 _ _ hq5]; simp), hb8, st, by rw [List.take_zero]; rfl, (e5.trans e57).trans e8, e8 _ _ (e57 _ _ hf5), e8 _ _ (e57 _ _ hq5), x10, rfl⟩)
        (fun b j σ' H' _ h => sq_of h.2.2.1) ?_ ?_
      · rintro b j x σ' H8 hx ⟨b1, b2, hb8, st', hst', e8, hf8, hq8, y10, rfl⟩
        obtain ⟨o, ho, rfl⟩ : ∃ o, (pBeside s st.2[a] cn)[j]? = some o ∧ x = .int (o : Int) := by
          rw [List.getElem?_map] at hx
          cases ho : (pBeside s st.2[a] cn)[j]? with
          | none =>
            rw [ho] at hx
            cases hx
          | some o =>
            rw [ho] at hx
            exact ⟨o, rfl, (Option.some.inj hx).symm⟩
        have holt := pBeside_lt o (List.mem_of_getElem? ho)
        have inv' : FlInv (s.w * s.h) st' := by
          rw [hst']
          exact FlInv.fold _ inv fun o ho => pBeside_lt o (List.mem_of_mem_take ho)
        have hle' := inv'.le
        have hsrc : (if kind = 0 then first else st.2[a]) < s.w * s.h := by split <;> assumption
        have hstep : ((pBeside s st.2[a] cn).take (j + 1)).foldl (flTry (flOk s first tol kind st.2[a])) st = flTry (flOk s first tol kind st.2[a]) st' o := by
          rw [take_snoc ho, List.foldl_append, ← hst']
          rfl
        have col_at : ∀ i, i < s.w * s.h → (nums (colL s))[i]? = some (.int (colN s i : Int)) := fun i hi => by
          unfold colN
          rw [List.getElem?_map, List.getElem?_eq_getElem (by rw [hcl]; exact hi)]
          rfl
        have hc8 := e8 _ _ hc
        have hol : o < st'.1.length := by rw [inv'.len]; exact holt
        refine s_when (b := !((st'.1[o]?).getD false) && flOk s first tol kind st.2[a] o) (et_and (et_not (et_test (ev_op (ev_var rfl) (ev_var rfl) (rv_ixL (sq_of hf8) (atI_nat (by rw [List.getElem?_map, List.getElem?_eq_getElem hol]; rfl)))))) fun _ => et_is (et_test (ev_op (ev_absN (ev_op (ev_op (ev_var rfl) (ev_var rfl) (rv_ixL (sq_of hc8) (atI_nat (col_at o holt)))) (ev_op (ev_var rfl) (ev_var rfl) (rv_ixL (sq_of hc8) (atI_nat (col_at _ hsrc)))) rv_I0)) (ev_var rfl) rv_I0)) ?_) (fun hb H9 e9 => ?_) (fun hb H9 e9 => ?_)
        · unfold flOk
          exact decide_eq_decide.mpr (by omega)
        · have hf9 := e9 _ _ hf8
          have hq9 := e9 _ _ hq8
          have hb9 := e9 _ _ hb8
          refine q_setL hf9 ev_c (ev_var rfl) (ev_var rfl) (j := o) (by rw [List.length_map]; exact hol) fun H10 e10 => ?_
          have hq10 : upd H10 f (.lst ((st'.1.map V.bl).set o (.bl true))) q = some (.lst (nums st'.2)) := by rw [upd_ne (Ne.symm hfq)]; exact e10 _ _ hq9
          refine s_app hq10 (ev_var rfl) (ev_var rfl) (by rw [List.length_map]; omega) fun H11 e11 => ⟨b1, b2, ?_, _, rfl, ?_, ?_, ?_, _, rfl⟩
          · rw [upd_ne b2]
            exact e11 _ _ (by rw [upd_ne b1]; exact e10 _ _ hb9)
          · exact Ex.mut ((Ex.mut ((e8.trans e9).trans e10) nf).trans e11) nq0
          · rw [hstep, upd_ne hfq, e11 _ _ upd_same]
            unfold flTry
            rw [if_pos hb, map_set_bl]
          · rw [hstep, upd_same]
            unfold flTry
            rw [if_pos hb]
            exact congrArg (fun l => some (HO.lst l)) (by show _ = List.map _ _; rw [List.map_append]; rfl)
        · refine ⟨b1, b2, e9 _ _ hb8, _, rfl, e8.trans e9, ?_, ?_, _, rfl⟩
          · rw [hstep, e9 _ _ hf8]
            unfold flTry
            rw [if_neg (by rw [hb]; simp)]
          · rw [hstep, e9 _ _ hq8]
            unfold flTry
            rw [if_neg (by rw [hb]; simp)]
      · rintro b σ' H8 ⟨b1, b2, hb8, st', hst', e8, hf8, hq8, y10, rfl⟩
        rw [List.length_map, List.take_length] at hst'
        refine s_asg (ev_op (ev_var rfl) ev_c rv_I0) fun H9 e9 => ⟨st', hst', e8.trans e9, e9 _ _ hf8, e9 _ _ hq8, _, _, rfl⟩
  · have ha := of_decide_eq_false hb
    refine s_ret (ev_var rfl) fun H7 e7 => k f H7 (fresh_back ec nf) (((ec.trans e5).trans e6).trans e7) ?_
    have z := e7 _ _ (e6 _ _ hf5)
    have hr : flRun (fun p => pBeside s p cn) (flOk s first tol kind) m a st = st := by
      exact flRun_none (List.getElem?_eq_none (by omega))
    have : pFlood s first tol kind cn = st.1 := by
      unfold pFlood
      rw [← hrun, hr]
    rw [this]
    exact z
end Lp
set_option Elab.async false
set_option linter.all false
set_option maxRecDepth 100000
set_option maxHeartbeats 4000000
namespace Lp
open PySem PySem.Spec PyProof.Rows L2 Evl
variable {P : Program} {w : World} {K : PySem.W.Frag} {mg : Str → Option Value} {base : Heap}
section
variable {σ : L2.St} {H : Hp} {td ty tx : TE} {d : Addr} {kvs : List (Key × V)} {k : Key} {z : V} {D : Ends} {tu tz : TS}
theorem ev_dget2 (hd : Ev td σ H (.ref d)) (hy : Ev ty σ H (kV k)) (hz : Ev tx σ H z) (h : H d = some (.dK kvs)) : Ev (tDGet2 td ty tx) σ H ((valV kvs k).getD z) := fun H1 e Q q =>
  hd H1 e _ fun H2 e2 => ⟨d, rfl, .inl ⟨kvs, .inl ((e.trans e2) _ _ h)⟩, hy H2 (e.trans e2) _ fun H3 e3 => hz H3 ((e.trans e2).trans e3) _ fun H4 e4 => ⟨_, DGet.k ((((e.trans e2).trans e3).trans e4) _ _ h), q H4 ((e2.trans e3).trans e4)⟩⟩
theorem s_forRn {ta : TA} {j : Nat} {lo n : Int} (h : EvA ta σ H [.int lo, .int n]) (hn : -100000 ≤ lo ∧ lo ≤ 100000 ∧ -100000 ≤ n ∧ n ≤ 100000) (Pv : Nat → L2.St → Hp → Prop) (h0 : ∀ H1, Ex H H1 → Pv 0 σ H1)
    (hs : ∀ (i : Nat) σ' H', lo + (i : Int) < n → Pv i σ' H' → tu { D with nx := Pv (i + 1), ct := Pv (i + 1), bk := D.nx } (σ'.set j (some (.int (lo + (i : Int))))) H') (hd : ∀ σ' H', Pv (n - lo).toNat σ' H' → D.nx σ' H') : tFor (iRng2 ta) (gName j) tu D σ H :=
  h H (Ex.refl H) _ fun H1 e => ⟨lo, n, rfl, ⟨by omega, by omega, by omega, by omega⟩, for_range (lo := lo) (n := (n - lo).toNat) Pv (h0 H1 e) (fun i σ' H' hi p => hs i σ' H' (by omega) p) hd⟩
theorem q_forRn {ta : TA} {j : Nat} {lo n : Int} (h : EvA ta σ H [.int lo, .int n]) (hn : -100000 ≤ lo ∧ lo ≤ 100000 ∧ -100000 ≤ n ∧ n ≤ 100000) (Pv : Nat → L2.St → Hp → Prop) (h0 : ∀ H1, Ex H H1 → Pv 0 σ H1)
    (hs : ∀ (i : Nat) σ' H', lo + (i : Int) < n → Pv i σ' H' → tu { D with nx := Pv (i + 1), ct := Pv (i + 1), bk := tz D } (σ'.set j (some (.int (lo + (i : Int))))) H') (hd : ∀ σ' H', Pv (n - lo).toNat σ' H' → tz D σ' H') : tSeq (tFor (iRng2 ta) (gName j) tu) tz D σ H :=
  s_forRn (D := { D with nx := tz D }) h hn Pv h0 hs hd
end
/-! ### the layer worked on, changed at some places -/
def dotN (s : Sq50.State) (i : Nat) : Nat × Nat := (s.layer.dots[i]?).getD (0, 0)
def chD (s : Sq50.State) (f : Nat → Option (Nat × Nat)) : List (Nat × Nat) := (List.range (s.w * s.h)).map fun i => (f i).getD (dotN s i)
def sp_changed (K : PySem.W.Frag) : Sp := P2 fun a b H Q _ => ∃ (s : Sq50.State) (p aL aC d : Addr) (kvs : List (Key × V)) (f : Nat → Option (Nat × Nat)), a = .ref p ∧ PicA K H p s aL aC ∧ WF s ∧ b = .ref d ∧ H d = some (.dK kvs) ∧
  (∀ i, i < s.w * s.h → (f i = none ∧ valV kvs (.inl (i : Int)) = none) ∨ ∃ v e, f i = some e ∧ valV kvs (.inl (i : Int)) = some v ∧ DotAt K H v e) ∧ GivesN (fun y H' => ∃ aL', PicA K H' y (setD s (chD s f)) aL' aC) H Q
theorem ok_changed (T : Tx K mg) : Ok P w K mg base CX0 (4 + 1) (He.ga K "changed") ["picture", "dots"] (sp_changed K) := by
  refine mk0 T.f_changed sc_changed bd_changed P2.len (fun cdv A outer s H vs Q E hr h => ⟨_, (pss_cons (ps_set (i := 2) sc_changed.nd rfl (Or.inr rfl) (kfld (K := K) (om0 (ok_Picture_worked_on T) T.c_Picture T.m_Picture_worked_on hr (by decide) ((pass0 : Passes CX0 _ E0)) (pv 0)) rfl))
    (pss_one (ps_ret (om (ok_Picture_with_dots T) T.c_Picture T.m_Picture_with_dots hr (by decide) ((pass0 : Passes CX0 _ E0)) (pv 0) (pa_cons (pe_lc (own := [("place", 3)]) rfl sc_changed.nd (pi_range1 (by rfl) T.b_range (pa_cons (om0 (ok_Picture_size T) T.c_Picture T.m_Picture_size hr (by decide) ((pass0 : Passes CX0 _ E0)) (pv 0)) pa_nil)) (blkOk_by (by kernel_rfl)) (fun _ _ _ _ _ => by exact (pg_name (i := 3) sc_changed.nd rfl (Or.inl rfl))) (fun _ _ _ _ _ => by exact pts_nil) (fun _ _ _ _ _ => by exact (pe_dget2 (by exact hu_of hr) (pv 1) (pv 3) (pe_ix (kix_list (K := K)) (pv 2) (pv 3) (fun _ _ => rfl)) ⟨by rfl, by rfl, by rfl, by rfl⟩))) pa_nil))))), ?_⟩)
  obtain ⟨_, _, rfl, s, p, aL, aC, d, kvs, f, rfl, hP, W, rfl, hd, hf, k⟩ := h
  have w2 := W.w2
  have hsz := W.sz
  refine q_asgP (evp_workdots T (ev_var rfl) hP W) fun v H1 e1 ⟨aD, ev, vs, hv, hpr⟩ => ?_
  subst ev
  have hlen := pair_len hpr
  have hds : s.layer.dots.length = s.w * s.h := W.lay_ok.len
  replace hd := e1 _ _ hd
  replace hP := hP.ex e1
  replace k := k.ex e1
  refine s_retN (evn_pm1 (R := fun x H' => DotsAt K H' x (chD s f)) (S := fun y H' => ∃ aL', PicA K H' y (setD s (chD s f)) aL' aC) (ev_var rfl) hP ((evn_list (el_lc (n := s.w * s.h) (fun i x _ => x = .int (i : Int)) (fun _ => true) (fun i => (valV kvs (.inl (i : Int))).getD ((vs[i]?).getD .non)) (by omega) (iw_range1 (ea_cons (ev_size (ev_var rfl) hP (by omega)) ea_nil) (by omega)) ?_)).imp fun x H2 e2 r => ?_)
    fun x H2 e2 r Q E q => ⟨_, _, rfl, s, p, aL, aC, x, _, rfl, hP.ex e2, W, rfl, r, q⟩) fun y H2 n e r => k y H2 n e r
  · intro i x H2 e2 hi hx Q2 q2
    subst hx
    refine q2 _ H2 (Ex.refl _) rfl (fun _ _ _ z => z _ (Ex.refl _)) fun _ => ev_dget2 (ev_var rfl) (ev_var rfl) (ev_op (ev_var rfl) (ev_var rfl) (rv_ixL (sq_of (e2 _ _ hv)) (atI_nat ?_))) (e2 _ _ hd)
    rw [List.getElem?_eq_getElem (by omega : i < vs.length)]
    rfl
  · rw [given_all] at r
    refine ⟨_, r, ?_⟩
    unfold chD
    refine pair_map fun i hi => ?_
    have hi := List.mem_range.mp hi
    rcases hf i hi with ⟨h1, h2⟩ | ⟨v, e, h1, h2, h3⟩
    · rw [h1, h2]
      obtain ⟨v, h3, h4⟩ := pair_get hpr (List.getElem?_eq_getElem (by omega : i < s.layer.dots.length))
      show DotAt K H2 ((vs[i]?).getD .non) (dotN s i)
      unfold dotN
      rw [h3, List.getElem?_eq_getElem (by omega : i < s.layer.dots.length)]
      exact h4.ex e2
    · rw [h1, h2]
      exact h3.ex (e1.trans e2)
/-! ### a dict by places -/
def plK (l : List Nat) (g : Nat → V) : List (Key × V) := l.map fun (i : Nat) => (.inl (i : Int), g i)
theorem plK_keys (l : List Nat) (g : Nat → V) : (plK l g).map (·.1) = l.map fun (i : Nat) => (.inl (i : Int) : Key) := by
  unfold plK
  rw [List.map_map]
  rfl
theorem nd_keys {l : List Nat} (h : l.Nodup) : (l.map fun (i : Nat) => (.inl (i : Int) : Key)).Nodup := by
  refine List.Pairwise.map _ (fun a b hab => ?_) h
  intro z
  apply hab
  have z2 : (a : Int) = (b : Int) := Sum.inl.inj z
  omega
theorem plK_val {g : Nat → V} : ∀ (l : List Nat) (n : Nat), valV (plK l g) (.inl (n : Int)) = if n ∈ l then some (g n) else none
  | [], n => rfl
  | i :: l, n => by
    show valV ((.inl (i : Int), g i) :: plK l g) _ = _
    by_cases h : i = n
    · subst h
      rw [valV_pos rfl, if_pos List.mem_cons_self]
    · rw [valV_neg (fun z => h (by have := Sum.inl.inj z; omega)), plK_val l n]
      by_cases h2 : n ∈ l
      · rw [if_pos h2, if_pos (List.mem_cons_of_mem _ h2)]
      · rw [if_neg h2, if_neg (fun z => by rcases List.mem_cons.mp z with z | z; exact h z.symm; exact h2 z)]
theorem plK_merge {l : List Nat} {g : Nat → V} (h : l.Nodup) : mergeK [] (plK l g) = plK l g := by
  rw [mergeK_nd _ [] (by show (_ ++ _ : List Key).Nodup; rw [List.map_nil, List.nil_append, plK_keys]; exact nd_keys h)]
  rfl
theorem mayL_nd (s : Sq50.State) : (mayL s).Nodup := List.Pairwise.filter _ List.nodup_range
theorem mayL_mem {s : Sq50.State} {i : Nat} : i ∈ mayL s ↔ i < s.w * s.h ∧ mayB s i = true := by
  unfold mayL
  rw [List.mem_filter, List.mem_range]
theorem mayL_len {s : Sq50.State} (W : WF s) : (mayL s).length ≤ 144 := Nat.le_trans (List.length_filter_le _ _) (by rw [List.length_range]; exact W.sz)
theorem mayL_lt {s : Sq50.State} {i : Nat} (h : i ∈ mayL s) : i < s.w * s.h := (mayL_mem.mp h).1
/-- dict of pairs (place, v) -/
theorem pairs_dict {H : Hp} {a : Addr} {ys : List V} {l : List Nat} {g : Nat → V} (h : H a = some (.lst ys)) (hl : ys.length = l.length) (hy : ∀ (i : Nat) (y : V), ys[i]? = some y → ∀ n : Nat, l[i]? = some n → ∃ b : Addr, y = V.ref b ∧ SqT K H b [.int (n : Int), g n]) :
    ∃ ps : List Addr, H a = some (.lst (ps.map V.ref)) ∧ Paired (fun p kv => SqT K H p [kV kv.1, kv.2]) ps (plK l g) := by
  have href : ∀ y ∈ ys, ∃ b : Addr, y = .ref b := fun y hm => by
    obtain ⟨i, hi, e⟩ := List.getElem_of_mem hm
    obtain ⟨b, h1, _⟩ := hy i y (by rw [List.getElem?_eq_getElem hi, e]) _ (List.getElem?_eq_getElem (by omega : i < l.length))
    exact ⟨b, h1⟩
  have hall : ∃ ps : List Addr, ys = ps.map V.ref := by
    clear h hl hy
    induction ys with
    | nil => exact ⟨[], rfl⟩
    | cons y ys ih =>
      obtain ⟨ps, e⟩ := ih fun y hy => href y (List.mem_cons_of_mem _ hy)
      obtain ⟨b, e2⟩ := href y List.mem_cons_self
      exact ⟨b :: ps, by rw [e, e2]; rfl⟩
  obtain ⟨ps, rfl⟩ := hall
  refine ⟨ps, h, pair_of (by unfold plK; rw [List.length_map, ← hl, List.length_map]) fun i b kv hb hkv => ?_⟩
  unfold plK at hkv
  rw [List.getElem?_map] at hkv
  cases hn : l[i]? with
  | none =>
    rw [hn] at hkv
    cases hkv
  | some n =>
    rw [hn] at hkv
    cases hkv
    obtain ⟨b', e1, e2⟩ := hy i (.ref b) (by rw [List.getElem?_map, hb]; rfl) n hn
    cases e1
    exact e2
def sp_filled (K : PySem.W.Frag) : Sp := P2 fun a b H Q _ => ∃ (s : Sq50.State) (p aL aC : Addr) (d : Nat × Nat), a = .ref p ∧ PicA K H p s aL aC ∧ WF s ∧ DotAt K H b d ∧ GivesN (fun y H' => ∃ aL', PicA K H' y (setD s (chD s fun i => if mayB s i = true then some d else none)) aL' aC) H Q
theorem ok_filled (T : Tx K mg) : Ok P w K mg base CX0 (5 + 1) (He.ga K "filled") ["picture", "dot"] (sp_filled K) := by
  refine mk0 T.f_filled sc_filled bd_filled P2.len (fun cdv A outer s H vs Q E hr h => ⟨_, (pss_one (ps_ret (oc (ok_changed T) hr (by decide) T.g_changed ((pass0 : Passes CX0 _ E0)) (pa_cons (pv 0) (pa_cons (pe_callTy (k_dictP (K := K) (by rfl)) (by rfl) T.b_dict (by decide +kernel) (pa_cons (pe_lc (own := [("place", 2)]) rfl sc_filled.nd (kpi_list (K := K) (om0 (ok_Picture_may_change T) T.c_Picture T.m_Picture_may_change hr (by decide) ((pass0 : Passes CX0 _ E0)) (pv 0))) (blkOk_by (by kernel_rfl)) (fun _ _ _ _ _ => by exact (pg_name (i := 2) sc_filled.nd rfl (Or.inl rfl))) (fun _ _ _ _ _ => by exact pts_nil) (fun _ _ _ _ _ => by exact (pe_tup (pa_cons (pv 2) (pa_cons (pv 1) pa_nil))))) pa_nil)) pa_nil))))), ?_⟩)
  obtain ⟨_, b, rfl, s, p, aL, aC, d, rfl, hP, W, hb, k⟩ := h
  have hml := mayL_len W
  refine s_retN (evn_callP (R := fun y H' => ∃ aL', PicA K H' y (setD s (chD s fun i => if mayB s i = true then some d else none)) aL' aC) (evap_cons (.of (ev_var rfl)) (fun _ _ _ _ h => h) (evap_cons (evn_dict (kvs := plK (mayL s) fun _ => b) ((evn_lcR (n := (mayL s).length) (fun i x _ => (nums (mayL s))[i]? = some x) (fun i v H => ∀ n, (mayL s)[i]? = some n → ∃ c, v = .ref c ∧ SqT K H c [.int (n : Int), b]) (fun i v H H' e h n hn => by
      obtain ⟨c, h1, h2⟩ := h n hn
      exact ⟨c, h1, ex_t e h2⟩) (by omega) (by
      have z := iw_listN (K := K) (xs := nums (mayL s)) (EvN.l (evn_may (K := K) (E := E0) (te := tVar 0) (σ := start ["picture", "dot", "place"] [.ref p, b]) (ev_var rfl) hP W))
      rw [nums_len] at z
      exact z) ?_).imp fun a H1 e ⟨ys, y1, y2, y3⟩ => pairs_dict y1 y2 y3)).p (fun v H H' e ⟨x, q, z⟩ => ⟨x, q, e _ _ z⟩) evap_nil)) ?_) fun y H1 n e r => k y H1 n e r
  · intro D i x H1 e hD0 hD1 hi hx Q2 q2
    rw [List.getElem?_map, List.getElem?_eq_getElem hi] at hx
    cases hx
    refine q2 _ H1 (Ex.refl _) rfl fun Q3 q3 => eu_tup (ea_cons (ev_var rfl) (ea_cons (ev_var rfl) ea_nil)) (by show 2 ≤ 100000; decide) H1 (Ex.refl _) _ fun c H2 n2 e2 hc => q3 _ H2 e2 fun o n hn => ?_
    rw [List.getElem?_eq_getElem hi] at hn
    cases hn
    exact ⟨c, rfl, st_of (by rw [upd_ne (new_ne n2 hD1)]; exact hc)⟩
  · rintro vs H1 e ⟨_, _, rfl, rfl, _, _, rfl, ⟨dd, rfl, hd⟩, rfl⟩ Q E q
    rw [plK_merge (mayL_nd s)] at hd
    refine ⟨_, _, rfl, s, p, aL, aC, dd, _, _, rfl, hP.ex e, W, rfl, hd, fun i hi => ?_, q⟩
    rw [plK_val]
    by_cases hm : mayB s i = true
    · rw [if_pos hm, if_pos (mayL_mem.mpr ⟨hi, hm⟩)]
      exact .inr ⟨b, d, rfl, rfl, hb.ex e⟩
    · rw [if_neg hm, if_neg (fun z => hm (mayL_mem.mp z).2)]
      exact .inl ⟨rfl, rfl⟩
/-! ### windows -/
def sp_nearest : Sp := P2 fun a b H Q _ => ∃ (i m : Int), a = .int i ∧ b = .int m ∧ Gives (fun v _ => v = .int (max 0 (min i (m - 1)))) H Q
theorem ok_nearest (T : Tx K mg) : Ok P w K mg base CX0 (0 + 1) (He.ga K "nearest") ["number", "many"] (sp_nearest) := by
  refine mk0 T.f_nearest sc_nearest bd_nearest P2.len (fun cdv A outer s H vs Q E hr h => ⟨_, (pss_one (ps_ret (pe_callB (call_max2 (by rfl)) (by rfl) T.b_max (by decide +kernel) (pa_cons pe_int (pa_cons (pe_callB (call_min2 (by rfl)) (by rfl) T.b_min (by decide +kernel) (pa_cons (pv 0) (pa_cons (pe_op op_sub (pv 1) pe_int) pa_nil))) pa_nil))))), ?_⟩)
  obtain ⟨_, _, rfl, i, m, rfl, rfl, k⟩ := h
  refine s_ret (ev_cb (ea_cons ev_c (ea_cons (ev_cb (ea_cons (ev_var rfl) (ea_cons (ev_op (ev_var rfl) ev_c rv_I0) ea_nil)) (z := .int (min i (m - 1))) fun H1 e Q q => ⟨i, m - 1, rfl, ?_⟩) ea_nil)) (z := .int (max 0 (min i (m - 1)))) fun H1 e Q q => ⟨0, min i (m - 1), rfl, ?_⟩) fun H1 e => k _ _ e rfl
  · rw [show (if m - 1 < i then m - 1 else i) = min i (m - 1) by split <;> omega]
    exact q H1 (Ex.refl _)
  · rw [show (if min i (m - 1) > 0 then min i (m - 1) else 0) = max 0 (min i (m - 1)) by split <;> omega]
    exact q H1 (Ex.refl _)
theorem ev_nearest {σ : L2.St} {H : Hp} {ta tb : TE} {E : XK} {i m : Int} (h1 : Ev ta σ H (.int i)) (h2 : Ev tb σ H (.int m)) : Ev (tCall sp_nearest [] E (tCons ta (tCons tb tNil))) σ H (.int (max 0 (min i (m - 1)))) :=
  (evp_callA (ea_cons h1 (ea_cons h2 ea_nil)) fun H1 e Q E q => ⟨_, _, rfl, i, m, rfl, rfl, fun v H2 e2 r => q v H2 e2 r⟩ : EvP _ _ _ _).to
/-- the place nearest to one so far aside -/
def nearN (i : Nat) (j r m : Nat) : Nat := (max 0 (min ((i : Int) + (0 - (r : Int) + (j : Int))) ((m : Int) - 1))).toNat
theorem nearN_lt {i j r m : Nat} (h : 1 ≤ m) : nearN i j r m < m := by unfold nearN; omega
def wRow (s : Sq50.State) (p r j : Nat) : List Nat := (List.range (2 * r + 1)).map fun k => colN s (nearN (p / s.w) j r s.h * s.w + nearN (p % s.w) k r s.w)
def pWindow (s : Sq50.State) (p r : Nat) : List Nat := (List.range (2 * r + 1)).flatMap (wRow s p r)
theorem cell_lt {x y w h : Nat} (hx : x < w) (hy : y < h) : y * w + x < w * h := by
  have : (y + 1) * w ≤ h * w := Nat.mul_le_mul_right _ hy
  rw [Nat.add_mul, Nat.one_mul, Nat.mul_comm h w] at this
  omega
theorem wRow_len (s : Sq50.State) (p r j : Nat) : (wRow s p r j).length = 2 * r + 1 := by unfold wRow; simp
theorem pWin_len (s : Sq50.State) (p r : Nat) : ∀ n, ((List.range n).flatMap (wRow s p r)).length = n * (2 * r + 1) := by
  intro n
  induction n with
  | zero => simp
  | succ n ih => rw [List.range_succ, List.flatMap_append, List.length_append, ih, List.flatMap_singleton, wRow_len, Nat.add_mul, Nat.one_mul]
def sp_window (K : PySem.W.Frag) : Sp := P3 fun a b c H Q _ => ∃ (s : Sq50.State) (p aL aC : Addr) (i r : Nat), a = .ref p ∧ PicA K H p s aL aC ∧ WF s ∧ b = .int (i : Int) ∧ c = .int (r : Int) ∧ i < s.w * s.h ∧ r ≤ 10 ∧ GivesN (fun y H' => H' y = some (.lst (nums (pWindow s i r)))) H Q
theorem ok_window (T : Tx K mg) : Ok P w K mg base CX0 (2 + 1) (He.ga K "window") ["picture", "place", "r"] (sp_window K) := by
  refine mk0 T.f_window sc_window bd_window P3.len (fun cdv A outer s H vs Q E hr h => ⟨_, (pss_cons (ps_set (i := 3) sc_window.nd rfl (Or.inl rfl) (kfld (K := K) (om0 (ok_Picture_worked_on T) T.c_Picture T.m_Picture_worked_on hr (by decide) ((pass0 : Passes CX0 _ E0)) (pv 0)) rfl))
    (pss_cons (ps_set (i := 4) sc_window.nd rfl (Or.inl rfl) (pe_lst pa_nil))
    (pss_cons (ps_for PassesOwn.never rfl (pi_range2 (by rfl) T.b_range (pa_cons (pe_op op_sub pe_int (pv 2)) (pa_cons (pe_op op_add (pv 2) pe_int) pa_nil))) (pg_name (i := 5) sc_window.nd rfl (Or.inl rfl)) (pss_cons (ps_set (i := 6) sc_window.nd rfl (Or.inl rfl) (oc (ok_nearest T) hr (by decide) T.g_nearest ((pass0 : Passes CX0 _ E0)) (pa_cons (pe_op op_add (om (ok_Picture_down T) T.c_Picture T.m_Picture_down hr (by decide) ((pass0 : Passes CX0 _ E0)) (pv 0) (pa_cons (pv 1) pa_nil)) (pv 5)) (pa_cons (kfld (K := K) (pv 0) rfl) pa_nil))))
    (pss_one (ps_for PassesOwn.never rfl (pi_range2 (by rfl) T.b_range (pa_cons (pe_op op_sub pe_int (pv 2)) (pa_cons (pe_op op_add (pv 2) pe_int) pa_nil))) (pg_name (i := 7) sc_window.nd rfl (Or.inl rfl)) (pss_cons (ps_set (i := 8) sc_window.nd rfl (Or.inl rfl) (oc (ok_nearest T) hr (by decide) T.g_nearest ((pass0 : Passes CX0 _ E0)) (pa_cons (pe_op op_add (om (ok_Picture_across T) T.c_Picture T.m_Picture_across hr (by decide) ((pass0 : Passes CX0 _ E0)) (pv 0) (pa_cons (pv 1) pa_nil)) (pv 7)) (pa_cons (kfld (K := K) (pv 0) rfl) pa_nil))))
    (pss_one (ps_expr (kbm (K := K) PySem.F.plainAttrs_list PySem.F.slot_list_append PySem.F.type_list_append mt_append (pv 4) (pa_cons (pe_ix (kix_tup (K := K)) (pe_ix (kix_list (K := K)) (pv 3) (om (ok_Picture_place T) T.c_Picture T.m_Picture_place hr (by decide) ((pass0 : Passes CX0 _ E0)) (pv 0) (pa_cons (pv 8) (pa_cons (pv 6) pa_nil))) (fun _ _ => rfl)) pe_int (fun _ _ => rfl)) pa_nil)))))))))
    (pss_one (ps_ret (pv 4)))))), ?_⟩)
  obtain ⟨_, _, _, rfl, s, p, aL, aC, i, r, rfl, hP, W, rfl, rfl, hi, hr10, k⟩ := h
  have w1 := W.w1
  have w2 := W.w2
  have h1' := W.h1
  have hsz := W.sz
  refine q_asgP (evp_workdots T (ev_var rfl) hP W) fun v H1 e1 ⟨aD, ev, hD⟩ => ?_
  subst ev
  have hds : s.layer.dots.length = s.w * s.h := W.lay_ok.len
  replace hP := hP.ex e1
  replace k := k.ex e1
  refine q_asgL (el_lst ea_nil (by show 0 ≤ 100000; decide)) fun f H2 nf e2 hf => ?_
  refine q_forRn (lo := 0 - (r : Int)) (n := (r : Int) + 1) (ea_cons (ev_op ev_c (ev_var rfl) rv_I0) (ea_cons (ev_op (ev_var rfl) ev_c rv_I0) ea_nil)) (by omega)
    (fun j σ' H' => Ex H1 H' ∧ H' f = some (.lst (nums ((List.range j).flatMap (wRow s i r)))) ∧ ∃ x5 x6 x7 x8, σ' = [some (.ref p), some (.int (i : Int)), some (.int (r : Int)), some (.ref aD), some (.ref f), x5, x6, x7, x8]) (fun H3 e3 => ⟨e2.trans e3, e3 _ _ hf, none, none, none, none, rfl⟩) ?_ ?_
  · rintro j σ' H3 hj ⟨e3, hf3, x5, x6, x7, x8, rfl⟩
    have hP3 := hP.ex e3
    refine q_asg (ev_nearest (ev_op (ev_down (ev_var rfl) hP3 (by omega) (by omega) (ev_var rfl)) (ev_var rfl) rv_I0) (ev_high T (ev_var rfl) hP3)) fun H4 e4 => ?_
    have e14 := e3.trans e4
    have hy : max 0 (min (((i / s.w : Nat) : Int) + (0 - (r : Int) + (j : Int))) ((s.h : Int) - 1)) = (nearN (i / s.w) j r s.h : Nat) := by unfold nearN; omega
    refine s_forRn (lo := 0 - (r : Int)) (n := (r : Int) + 1) (ea_cons (ev_op ev_c (ev_var rfl) rv_I0) (ea_cons (ev_op (ev_var rfl) ev_c rv_I0) ea_nil)) (by omega)
      (fun l σ' H' => Ex H1 H' ∧ H' f = some (.lst (nums ((List.range j).flatMap (wRow s i r) ++ (List.range l).map fun k => colN s (nearN (i / s.w) j r s.h * s.w + nearN (i % s.w) k r s.w)))) ∧ ∃ x7 x8, σ' = [some (.ref p), some (.int (i : Int)), some (.int (r : Int)), some (.ref aD), some (.ref f), some (.int (0 - (r : Int) + (j : Int))), some (.int (nearN (i / s.w) j r s.h : Nat)), x7, x8])
      (fun H5 e5 => ⟨e14.trans e5, ?_, x7, x8, ?_⟩) ?_ ?_
    · rw [List.range_zero, List.map_nil, List.append_nil]
      exact e5 _ _ (e4 _ _ hf3)
    · rw [← hy]
      rfl
    · rintro l σ' H5 hl ⟨e5, hf5, y7, y8, rfl⟩
      have hP5 := hP.ex e5
      have hx : max 0 (min (((i % s.w : Nat) : Int) + (0 - (r : Int) + (l : Int))) ((s.w : Int) - 1)) = (nearN (i % s.w) l r s.w : Nat) := by unfold nearN; omega
      refine q_asg (ev_is (ev_nearest (ev_op (ev_across (ev_var rfl) hP5 (by omega) (ev_var rfl)) (ev_var rfl) rv_I0) (ev_wide T (ev_var rfl) hP5)) (congrArg V.int hx)) fun H6 e6 => ?_
      have hP6 := hP5.ex e6
      have hcl : nearN (i / s.w) j r s.h * s.w + nearN (i % s.w) l r s.w < s.layer.dots.length := by
        rw [hds]
        exact cell_lt (nearN_lt w1) (nearN_lt h1')
      obtain ⟨c, c1, c2⟩ := ev_dot (K := K) (σ := [some (.ref p), some (.int (i : Int)), some (.int (r : Int)), some (.ref aD), some (.ref f), some (.int (0 - (r : Int) + (j : Int))), some (.int (nearN (i / s.w) j r s.h : Nat)), some (.int (0 - (r : Int) + (l : Int))), some (.int (nearN (i % s.w) l r s.w : Nat))]) (H := H6) (ta := tVar 3) (ev_var rfl) (ev_is (ev_place (E := E0) (te := tVar 0) (ta := tVar 8) (tb := tVar 6) (ev_var rfl) hP6 (by omega) (ev_var rfl) (ev_var rfl)) (by push_cast; rfl)) (hD.ex (e5.trans e6)) (List.getElem?_eq_getElem hcl)
      have hln := pWin_len s i r j
      have hjj : j ≤ 20 := by omega
      have hll : l ≤ 20 := by omega
      have hb1 : j * (2 * r + 1) ≤ 20 * 21 := Nat.mul_le_mul hjj (by omega)
      refine s_app (e6 _ _ hf5) (ev_var rfl) (ev_op c1 ev_c (rv_ixT c2 rfl)) (by rw [nums_len, List.length_append, hln, List.length_map, List.length_range]; omega) fun H7 e7 => ⟨Ex.mut ((e5.trans e6).trans e7) nf, ?_, _, _, rfl⟩
      rw [upd_same, List.range_succ, List.map_append, ← List.append_assoc]
      refine congrArg (fun l => some (HO.lst l)) ?_
      show _ = List.map _ (_ ++ _)
      rw [List.map_append, List.map_singleton, List.map_singleton]
      refine congrArg (fun z => _ ++ [V.int z]) ?_
      unfold colN colL
      rw [List.getElem?_map, List.getElem?_eq_getElem hcl]
      rfl
    · rintro σ' H5 ⟨e5, hf5, y7, y8, rfl⟩
      refine ⟨e5, ?_, _, _, _, _, rfl⟩
      rw [hf5, List.range_succ, List.flatMap_append, List.flatMap_singleton, show ((r : Int) + 1 - (0 - (r : Int))).toNat = 2 * r + 1 by omega]
      rfl
  · rintro σ' H3 ⟨e3, hf3, x5, x6, x7, x8, rfl⟩
    refine s_ret (ev_var rfl) fun H4 e4 => k f H4 nf (e3.trans e4) ?_
    have z := e4 _ _ hf3
    rw [show ((r : Int) + 1 - (0 - (r : Int))).toNat = 2 * r + 1 by omega] at z
    exact z
end Lp
set_option Elab.async false
set_option linter.all false
set_option maxRecDepth 100000
set_option maxHeartbeats 4000000
namespace Lp
open PySem PySem.Spec PyProof.Rows L2 Evl
variable {P : Program} {w : World} {K : PySem.W.Frag} {mg : Str → Option Value} {base : Heap}
/-! ### the mean -/
theorem sum_nums (l : List Nat) : (l.map fun (i : Nat) => (i : Int)).sum = ((l.sum : Nat) : Int) := by
  induction l with
  | nil => rfl
  | cons x l ih => rw [List.map_cons, List.sum_cons, List.sum_cons, ih]; omega
theorem sum_le (l : List Nat) (h : ∀ x ∈ l, x ≤ 255) : l.sum ≤ 255 * l.length := by
  induction l with
  | nil => simp
  | cons x l ih =>
    rw [List.sum_cons, List.length_cons]
    have := ih fun y hy => h y (List.mem_cons_of_mem _ hy)
    have := h x List.mem_cons_self
    omega
def sp_mean (K : PySem.W.Frag) : Sp := P1 fun a H Q _ => ∃ (g : Addr) (l : List Nat), a = .ref g ∧ H g = some (.lst (nums l)) ∧ l ≠ [] ∧ l.length ≤ 1000 ∧ (∀ x ∈ l, x ≤ 255) ∧ Gives (fun v _ => v = .int (Sq45.mean l : Nat)) H Q
theorem ev_sum {σ : L2.St} {H : Hp} {te : TE} {a : Addr} {l : List Nat} (h : Ev te σ H (.ref a)) (hx : H a = some (.lst (nums l))) : Ev (tCB (rSum K) (tCons te tNil)) σ H (.int ((l.sum : Nat) : Int)) := fun H1 e Q q =>
  h H1 e _ fun H2 e2 => ⟨a, l.map fun (i : Nat) => (i : Int), rfl, sq_of (by rw [List.map_map]; exact (e.trans e2) _ _ hx), by
    rw [sum_nums]
    exact q H2 e2⟩
theorem ok_mean (T : Tx K mg) : Ok P w K mg base CX0 (0 + 1) (He.ga K "mean") ["colours"] (sp_mean K) := by
  refine mk0 T.f_mean sc_mean bd_mean P1.len (fun cdv A outer s H vs Q E hr h => ⟨_, (pss_one (ps_ret (pe_op op_fdiv (pe_op op_add (pe_op op_mul pe_int (pe_callB (k_sum (K := K) (by rfl)) (by rfl) T.b_sum (by decide +kernel) (pa_cons (pv 0) pa_nil))) (pe_callB (k_len (K := K)) (by rfl) T.b_len (by decide +kernel) (pa_cons (pv 0) pa_nil))) (pe_op op_mul pe_int (pe_callB (k_len (K := K)) (by rfl) T.b_len (by decide +kernel) (pa_cons (pv 0) pa_nil)))))), ?_⟩)
  obtain ⟨_, rfl, g, l, rfl, hg, hl, hz, hb, k⟩ := h
  have hpos : 0 < l.length := List.length_pos_iff.mpr hl
  have hs := sum_le l hb
  have e : ((nums l).length : Int) = (l.length : Int) := by rw [nums_len]
  refine s_ret (ev_op (ev_op (ev_op ev_c (ev_sum (ev_var rfl) hg) (rv_I (.inl ⟨by omega, by omega⟩))) (ev_is (ev_len (ev_var rfl) (sq_of hg)) (congrArg V.int e)) rv_I0) (ev_op ev_c (ev_is (ev_len (ev_var rfl) (sq_of hg)) (congrArg V.int e)) (rv_I (.inl ⟨by omega, by omega⟩))) (rv_I ⟨by omega, by omega⟩)) fun H1 e1 => k _ _ e1 ?_
  unfold Sq45.mean Sq45.rounded
  rw [show max 1 l.length = l.length by omega]
  refine congrArg V.int ?_
  have : (0 : Int) ≤ (2 * ((l.sum : Nat) : Int) + (l.length : Int)) / (2 * (l.length : Int)) := Int.ediv_nonneg (by omega) (by omega)
  rw [show ((2 * l.length : Nat) : Int) = 2 * (l.length : Int) by push_cast; rfl]
  omega
/-! ### moving -/
def optV (o : Option Nat) : V := match o with
  | none => .non
  | some i => .int (i : Int)
def sp_movedto (K : PySem.W.Frag) : Sp := P4 fun a b c d H Q _ => ∃ (s : Sq50.State) (p aL aC : Addr) (i : Nat) (dx dy : Int), a = .ref p ∧ PicA K H p s aL aC ∧ WF s ∧ b = .int (i : Int) ∧ c = .int dx ∧ d = .int dy ∧ i < s.w * s.h ∧ Gives (fun v _ => v = optV (stepTo s i (dx, dy))) H Q
theorem ok_moved_to (T : Tx K mg) : Ok P w K mg base CX0 (1 + 1) (He.ga K "moved_to") ["picture", "place", "across", "down"] (sp_movedto K) := by
  refine mk0 T.f_moved_to sc_moved_to bd_moved_to P4.len (fun cdv A outer s H vs Q E hr h => ⟨_, (pss_cons (ps_par (i := 4) (j := 5) rfl sc_moved_to.nd rfl rfl (by decide) rfl rfl (pa_cons (pe_op op_add (om (ok_Picture_across T) T.c_Picture T.m_Picture_across hr (by decide) ((pass0 : Passes CX0 _ E0)) (pv 0) (pa_cons (pv 1) pa_nil)) (pv 2)) (pa_cons (pe_op op_add (om (ok_Picture_down T) T.c_Picture T.m_Picture_down hr (by decide) ((pass0 : Passes CX0 _ E0)) (pv 0) (pa_cons (pv 1) pa_nil)) (pv 3)) pa_nil)) (by rfl))
    (pss_cons (ps_if (pt_not (pt_val (om (ok_Picture_has T) T.c_Picture T.m_Picture_has hr (by decide) ((pass0 : Passes CX0 _ E0)) (pv 0) (pa_cons (pv 4) (pa_cons (pv 5) pa_nil))))) (pss_one (ps_ret pe_non)) pss_nil)
    (pss_one (ps_ret (om (ok_Picture_place T) T.c_Picture T.m_Picture_place hr (by decide) ((pass0 : Passes CX0 _ E0)) (pv 0) (pa_cons (pv 4) (pa_cons (pv 5) pa_nil))))))), ?_⟩)
  obtain ⟨_, _, _, _, rfl, s, p, aL, aC, i, dx, dy, rfl, hP, W, rfl, rfl, rfl, hi, k⟩ := h
  have w1 := W.w1
  have w2 := W.w2
  refine q_par (ev_op (ev_across (ev_var rfl) hP (by omega) (ev_var rfl)) (ev_var rfl) rv_I0) (ev_op (ev_down (ev_var rfl) hP (by omega) (by omega) (ev_var rfl)) (ev_var rfl) rv_I0) fun H1 e1 => ?_
  replace hP := hP.ex e1
  refine q_when (et_not (et_test (ev_has (ev_var rfl) hP (ev_var rfl) (ev_var rfl)))) (fun hb H2 e2 => ?_) (fun hb H2 e2 => ?_)
  · rw [Bool.not_eq_true'] at hb
    have hb := of_decide_eq_false hb
    refine s_ret ev_c fun H3 e3 => k _ _ ((e1.trans e2).trans e3) ?_
    unfold stepTo
    rw [if_neg (by omega)]
    rfl
  · rw [Bool.not_eq_false'] at hb
    have hb := of_decide_eq_true hb
    refine s_ret (ev_place (ev_var rfl) (hP.ex e2) (by omega) (ev_var rfl) (ev_var rfl)) fun H3 e3 => k _ _ ((e1.trans e2).trans e3) ?_
    unfold stepTo
    rw [if_pos (by omega)]
    show _ = V.int _
    have : 0 ≤ (((i / s.w : Nat) : Int) + dy) * (s.w : Int) := Int.mul_nonneg (by omega) (by omega)
    refine congrArg V.int ?_
    show _ = (((((i / s.w : Nat) : Int) + dy) * (s.w : Int) + (((i % s.w : Nat) : Int) + dx)).toNat : Int)
    omega
def mvClear (s : Sq50.State) : List (Nat × Nat) := (mayL s).foldl (fun ds i => ds.set i (0, 0)) s.layer.dots
def mvPut (s : Sq50.State) (dx dy : Int) (st : List (Nat × Nat) × List Bool) (i : Nat) : List (Nat × Nat) × List Bool := match stepTo s i (dx, dy) with
  | none => st
  | some o => (st.1.set o (dotN s i), st.2.set o (s.chosen.any fun b => b))
def pMoved (s : Sq50.State) (dx dy : Int) : List (Nat × Nat) × List Bool := (mayL s).foldl (mvPut s dx dy) (mvClear s, List.replicate (s.w * s.h) false)
theorem pair_set {α β : Type} {F : α → β → Prop} {x : α} {y : β} : ∀ {a : List α} {b : List β} (i : Nat), Paired F a b → F x y → Paired F (a.set i x) (b.set i y)
  | _, _, _, .nil, _ => .nil
  | _, _, 0, .cons _ t, h => .cons h t
  | _, _, i + 1, .cons r t, h => .cons r (pair_set i t h)
theorem clear_len : ∀ (l : List Nat) (ds : List (Nat × Nat)), (l.foldl (fun ds i => ds.set i (0, 0)) ds).length = ds.length
  | [], _ => rfl
  | i :: l, ds => (clear_len l (ds.set i (0, 0))).trans (List.length_set ..)
theorem mvPut_len {s : Sq50.State} {dx dy : Int} : ∀ (l : List Nat) (st : List (Nat × Nat) × List Bool), (l.foldl (mvPut s dx dy) st).1.length = st.1.length ∧ (l.foldl (mvPut s dx dy) st).2.length = st.2.length
  | [], _ => ⟨rfl, rfl⟩
  | i :: l, st => by
    have z := mvPut_len (s := s) (dx := dx) (dy := dy) l (mvPut s dx dy st i)
    have e : (mvPut s dx dy st i).1.length = st.1.length ∧ (mvPut s dx dy st i).2.length = st.2.length := by
      unfold mvPut
      split
      · exact ⟨rfl, rfl⟩
      · exact ⟨List.length_set .., List.length_set ..⟩
    exact ⟨z.1.trans e.1, z.2.trans e.2⟩
theorem evn_pmR {σ : L2.St} {H : Hp} {te : TE} {tA : TA} {sp : Sp} {E : XK} {m : Str} {vs : List V} {s : Sq50.State} {S : Addr → Hp → Prop} (ho : EvN te σ H (fun y H' => ∃ aL aC, PicA K H' y s aL aC)) (ha : EvA tA σ H vs)
    (hs : ∀ y aL aC H1, Ex H H1 → PicA K H1 y s aL aC → ∀ (Q : VK) (E : XK), GivesN S H1 Q → sp (.ref y :: vs) H1 Q E)
    (hm : ((m == ("wide" : Str)) || ((m == ("high" : Str)) || ((m == ("layers" : Str)) || ((m == ("working" : Str)) || ((m == ("chosen" : Str)) || (m == ("following" : Str))))))) = false := by decide +kernel) : EvN (tMeth (CP K) m sp [] E te tA) σ H S := fun H1 e Q q =>
  ho H1 e _ fun y H2 n2 e2 ⟨aL, aC, hP⟩ => by
    obtain ⟨⟨dx, h1⟩, _⟩ := id hP
    exact ⟨y, dx, _, rfl, h1, pF_no hm, ha H2 (e.trans e2) _ fun H3 e3 => by
      show sp (V.ref y :: (vs ++ [])) H3 Q E
      rw [List.append_nil]
      exact hs y aL aC H3 ((e.trans e2).trans e3) (hP.ex e3) Q E fun x H4 n4 e4 r => q x H4 (fresh_back (e2.trans e3) n4) ((e2.trans e3).trans e4) r⟩
def sp_moved (K : PySem.W.Frag) : Sp := P3 fun a b c H Q _ => ∃ (s : Sq50.State) (p aL aC : Addr) (dx dy : Int), a = .ref p ∧ PicA K H p s aL aC ∧ WF s ∧ b = .int dx ∧ c = .int dy ∧ GivesN (fun y H' => ∃ aL' aC', PicA K H' y { setD s (pMoved s dx dy).1 with chosen := (pMoved s dx dy).2 } aL' aC') H Q
theorem ok_moved (T : Tx K mg) : Ok P w K mg base CX0 (4 + 1) (He.ga K "moved") ["picture", "across", "down"] (sp_moved K) := by
  refine mk0 T.f_moved sc_moved bd_moved P3.len (fun cdv A outer s H vs Q E hr h => ⟨_, (pss_cons (ps_set (i := 3) sc_moved.nd rfl (Or.inl rfl) (kfld (K := K) (om0 (ok_Picture_worked_on T) T.c_Picture T.m_Picture_worked_on hr (by decide) ((pass0 : Passes CX0 _ E0)) (pv 0)) rfl))
    (pss_cons (ps_set (i := 4) sc_moved.nd rfl (Or.inl rfl) (om0 (ok_Picture_may_change T) T.c_Picture T.m_Picture_may_change hr (by decide) ((pass0 : Passes CX0 _ E0)) (pv 0)))
    (pss_cons (ps_set (i := 5) sc_moved.nd rfl (Or.inl rfl) (pe_callTy (k_list (K := K)) (by rfl) T.b_list (by decide +kernel) (pa_cons (pv 3) pa_nil)))
    (pss_cons (ps_for PassesOwn.never rfl (kpi_list (K := K) (pv 4)) (pg_name (i := 6) sc_moved.nd rfl (Or.inl rfl)) (pss_one (ps_asg (pgr T.g_EMPTY) (pg_sub (pv 5) (pv 6) set_list))))
    (pss_cons (ps_set (i := 7) sc_moved.nd rfl (Or.inl rfl) (pe_op op_rep (pe_lst (pa_cons pe_bl pa_nil)) (om0 (ok_Picture_size T) T.c_Picture T.m_Picture_size hr (by decide) ((pass0 : Passes CX0 _ E0)) (pv 0))))
    (pss_cons (ps_for PassesOwn.never rfl (kpi_list (K := K) (pv 4)) (pg_name (i := 6) sc_moved.nd rfl (Or.inl rfl)) (pss_cons (ps_set (i := 8) sc_moved.nd rfl (Or.inl rfl) (oc (ok_moved_to T) hr (by decide) T.g_moved_to ((pass0 : Passes CX0 _ E0)) (pa_cons (pv 0) (pa_cons (pv 6) (pa_cons (pv 1) (pa_cons (pv 2) pa_nil))))))
    (pss_one (ps_if (pt_cmpR op_notN (pv 8) pe_non (nomark _)) (pss_cons (ps_asg (pe_ix (kix_list (K := K)) (pv 3) (pv 6) (fun _ _ => rfl)) (pg_sub (pv 5) (pv 8) set_list))
    (pss_one (ps_asg (om0 (ok_Picture_is_chosen_some T) T.c_Picture T.m_Picture_is_chosen_some hr (by decide) ((pass0 : Passes CX0 _ E0)) (pv 0)) (pg_sub (pv 7) (pv 8) set_list)))) pss_nil))))
    (pss_one (ps_ret (om (ok_Picture_with_chosen T) T.c_Picture T.m_Picture_with_chosen hr (by decide) ((pass0 : Passes CX0 _ E0)) (om (ok_Picture_with_dots T) T.c_Picture T.m_Picture_with_dots hr (by decide) ((pass0 : Passes CX0 _ E0)) (pv 0) (pa_cons (pv 5) pa_nil)) (pa_cons (pv 7) pa_nil)))))))))), ?_⟩)
  obtain ⟨_, _, _, rfl, s, p, aL, aC, dx, dy, rfl, hP, W, rfl, rfl, k⟩ := h
  have w1 := W.w1
  have w2 := W.w2
  have hsz := W.sz
  have hds : s.layer.dots.length = s.w * s.h := W.lay_ok.len
  refine q_asgP (evp_workdots T (ev_var rfl) hP W) fun v H1 e1 ⟨aD, ev, hD⟩ => ?_
  subst ev
  replace hP := hP.ex e1
  replace k := k.ex e1
  refine q_asgN (evn_may (ev_var rfl) hP W) fun aM H2 n2 e2 hM => ?_
  replace hP := hP.ex e2
  replace k := k.ex e2
  replace hD := hD.ex e2
  replace hM : H2 aM = some (.lst (nums (mayL s))) := hM
  obtain ⟨vs, hv, hpr⟩ := hD
  have hlen := pair_len hpr
  refine q_asgL (el_list (ev_var rfl) (sq_of hv)) fun f H3 nf e3 hf => ?_
  refine q_forLn (ev_var rfl) (sq_of (e3 _ _ hM)) (fun i σ' H' => Ex H2 H' ∧ (∃ us, H' f = some (.lst us) ∧ Paired (DotAt K H2) us (((mayL s).take i).foldl (fun ds i => ds.set i (0, 0)) s.layer.dots)) ∧ ∃ x6, σ' = [some (.ref p), some (.int dx), some (.int dy), some (.ref aD), some (.ref aM), some (.ref f), x6, none, none])
    (fun H4 e4 => ⟨e3.trans e4, ⟨vs, e4 _ _ hf, by rw [List.take_zero]; exact hpr⟩, none, rfl⟩) (fun i σ' H' _ h => sq_of (h.1 _ _ hM)) ?_ ?_
  · rintro i x σ' H4 hx ⟨e4, ⟨us, hus, hpu⟩, x6, rfl⟩
    obtain ⟨n, hn, rfl⟩ : ∃ n, (mayL s)[i]? = some n ∧ x = .int (n : Int) := by
      rw [List.getElem?_map] at hx
      cases hn : (mayL s)[i]? with
      | none => rw [hn] at hx; cases hx
      | some n => rw [hn] at hx; exact ⟨n, rfl, (Option.some.inj hx).symm⟩
    have hnl := mayL_lt (List.mem_of_getElem? hn)
    have hul : us.length = s.w * s.h := by rw [pair_len hpu, clear_len, hds]
    refine s_setL hus ev_c (ev_var rfl) (ev_var rfl) (j := n) (by omega) fun H5 e5 => ⟨Ex.mut (e4.trans e5) (fresh_back (Ex.refl _) nf), ⟨_, upd_same, ?_⟩, _, rfl⟩
    rw [take_snoc hn, List.foldl_append]
    exact pair_set n hpu ⟨_, rfl, T.t_EMPTY H2⟩
  rintro σ' H4 ⟨e4, ⟨us, hus, hpu⟩, x6, rfl⟩
  rw [nums_len, List.take_length] at hpu
  refine q_asgN (evn_rep (n := s.w * s.h) ev_c (ev_size (ev_var rfl) (hP.ex e4) (by omega)) (by omega)) fun c H5 nc e5 hc => ?_
  have hfc : f ≠ c := fun z => by
    rw [← z, hus] at nc
    cases nc
  have nc2 : H2 c = none := fresh_back e4 nc
  refine q_forLn (ev_var rfl) (sq_of (e5 _ _ (e4 _ _ hM))) (fun i σ' H' => Ex H2 H' ∧ (∃ us, H' f = some (.lst us) ∧ Paired (DotAt K H2) us (((mayL s).take i).foldl (mvPut s dx dy) (mvClear s, List.replicate (s.w * s.h) false)).1) ∧ H' c = some (.lst ((((mayL s).take i).foldl (mvPut s dx dy) (mvClear s, List.replicate (s.w * s.h) false)).2.map V.bl)) ∧
      ∃ x6 x8, σ' = [some (.ref p), some (.int dx), some (.int dy), some (.ref aD), some (.ref aM), some (.ref f), x6, some (.ref c), x8])
    (fun H6 e6 => ⟨(e4.trans e5).trans e6, ⟨us, e6 _ _ (e5 _ _ hus), by rw [List.take_zero]; exact hpu⟩, ?_, x6, none, rfl⟩) (fun i σ' H' _ h => sq_of (h.1 _ _ hM)) ?_ ?_
  · rw [List.take_zero]
    show H6 c = some (.lst ((List.replicate (s.w * s.h) false).map V.bl))
    rw [List.map_replicate]
    exact e6 _ _ hc
  · rintro i x σ' H6 hx ⟨e6, ⟨us, hus, hpu⟩, hc6, y6, y8, rfl⟩
    obtain ⟨n, hn, rfl⟩ : ∃ n, (mayL s)[i]? = some n ∧ x = .int (n : Int) := by
      rw [List.getElem?_map] at hx
      cases hn : (mayL s)[i]? with
      | none => rw [hn] at hx; cases hx
      | some n => rw [hn] at hx; exact ⟨n, rfl, (Option.some.inj hx).symm⟩
    have hnl := mayL_lt (List.mem_of_getElem? hn)
    have hl2 := mvPut_len (s := s) (dx := dx) (dy := dy) ((mayL s).take i) (mvClear s, List.replicate (s.w * s.h) false)
    have hul : us.length = s.w * s.h := by
      rw [pair_len hpu, hl2.1]
      show (mvClear s).length = _
      unfold mvClear
      rw [clear_len, hds]
    have hcl : (((mayL s).take i).foldl (mvPut s dx dy) (mvClear s, List.replicate (s.w * s.h) false)).2.length = s.w * s.h := by
      rw [hl2.2]
      exact List.length_replicate
    have hP6 := hP.ex e6
    refine q_asg (EvP.to (evp_callA (ea_cons (ev_var rfl) (ea_cons (ev_var rfl) (ea_cons (ev_var rfl) (ea_cons (ev_var rfl) ea_nil)))) fun H7 e7 Q E q => ⟨_, _, _, _, rfl, s, p, aL, aC, n, dx, dy, rfl, hP6.ex e7, W, rfl, rfl, rfl, hnl, fun v H8 e8 r => q v H8 e8 r⟩)) fun H7 e7 => ?_
    have hstep : ((mayL s).take (i + 1)).foldl (mvPut s dx dy) (mvClear s, List.replicate (s.w * s.h) false) = mvPut s dx dy (((mayL s).take i).foldl (mvPut s dx dy) (mvClear s, List.replicate (s.w * s.h) false)) n := by
      rw [take_snoc hn, List.foldl_append]
      rfl
    refine s_when (b := (stepTo s n (dx, dy)).isSome) (et_is (et_test (ev_op (ev_var rfl) ev_c fun H8 e8 Q q => ⟨rfl, q H8 (Ex.refl _)⟩)) ?_) (fun hb H8 e8 => ?_) (fun hb H8 e8 => ?_)
    · cases stepTo s n (dx, dy) <;> rfl
    · obtain ⟨o, ho⟩ := Option.isSome_iff_exists.mp hb
      have hol := stepTo_lt ho
      have hv2 : vs[n]? = some vs[n] := List.getElem?_eq_getElem (by omega)
      rw [ho]
      refine q_setL (e8 _ _ (e7 _ _ hus)) (ev_op (ev_var rfl) (ev_var rfl) (rv_ixL (sq_of (e8 _ _ (e7 _ _ (e6 _ _ hv)))) (atI_nat hv2))) (ev_var rfl) (ev_var rfl) (j := o) (by omega) fun H9 e9 => ?_
      have e29 := (((e6.trans e7).trans e8).trans e9)
      have hP9 : PicA K (upd H9 f (.lst (us.set o vs[n]))) p s aL aC := hP.ex (Ex.mut e29 nf)
      have hc9 : upd H9 f (.lst (us.set o vs[n])) c = _ := (upd_ne (Ne.symm hfc)).trans (e9 _ _ (e8 _ _ (e7 _ _ hc6)))
      refine s_setL hc9 (ev_some (ev_var rfl) hP9) (ev_var rfl) (ev_var rfl) (j := o) (by rw [List.length_map, hcl]; exact hol) fun H10 e10 => ⟨Ex.mut ((Ex.mut e29 nf).trans e10) nc2, ⟨us.set o vs[n], ?_, ?_⟩, ?_, _, _, rfl⟩
      · rw [upd_ne hfc]
        exact e10 _ _ upd_same
      · rw [hstep]
        unfold mvPut
        rw [ho]
        refine pair_set o hpu ?_
        obtain ⟨d, hd, hdd⟩ := pair_get' hpr hv2
        unfold dotN
        rw [hd]
        exact hdd
      · rw [upd_same, hstep, map_set_bl]
        unfold mvPut
        rw [ho]
    · have ho : stepTo s n (dx, dy) = none := Option.isNone_iff_eq_none.mp (by rw [← Option.not_isSome, hb]; rfl)
      refine ⟨(e6.trans e7).trans e8, ⟨us, e8 _ _ (e7 _ _ hus), ?_⟩, ?_, _, _, rfl⟩
      · rw [hstep]
        unfold mvPut
        rw [ho]
        exact hpu
      · rw [hstep]
        unfold mvPut
        rw [ho]
        exact e8 _ _ (e7 _ _ hc6)
  · rintro σ' H6 ⟨e6, ⟨us, hus, hpu⟩, hc6, y6, y8, rfl⟩
    rw [nums_len, List.take_length] at hpu hc6
    have hD6 : DotsAt K H6 f (pMoved s dx dy).1 := ⟨us, hus, L2.Paired.mapP hpu fun _ _ z => DotAt.ex z e6⟩
    have hP6 := hP.ex e6
    refine s_retN (evn_pmR (s := setD s (pMoved s dx dy).1) (S := fun y H' => ∃ aL' aC', PicA K H' y { setD s (pMoved s dx dy).1 with chosen := (pMoved s dx dy).2 } aL' aC') ((evn_pm (R := fun y H' => ∃ aL', PicA K H' y (setD s (pMoved s dx dy).1) aL' aC) (ev_var rfl) hP6 (ea_cons (ev_var rfl) ea_nil) fun H7 e7 Q E q => ⟨_, _, rfl, s, p, aL, aC, f, _, rfl, hP6.ex e7, W, rfl, hD6.ex e7, q⟩).imp fun y H7 e7 ⟨aL', r⟩ => ⟨aL', aC, r⟩) (ea_cons (ev_var rfl) ea_nil) fun y aL' aC' H7 e7 hP7 Q E q => ⟨_, _, rfl, _, y, aL', aC', c, (pMoved s dx dy).2, rfl, hP7, rfl, e7 _ _ hc6, fun z H8 n8 e8 r => q z H8 n8 e8 ⟨_, _, r⟩⟩) fun y H7 n e r => k y H7 (fresh_back e6 n) (e6.trans e) r
end Lp
set_option Elab.async false
set_option linter.all false
set_option maxRecDepth 100000
set_option maxHeartbeats 4000000
namespace Lp
open PySem PySem.Spec PyProof.Rows L2 Evl
variable {P : Program} {w : World} {K : PySem.W.Frag} {mg : Str → Option Value} {base : Heap}
/-! ### what is kept aside -/
def AsideAt (K : PySem.W.Frag) (H : Hp) (a : Addr) (l : List (Nat × Nat × (Nat × Nat))) : Prop := ∃ vs, H a = some (.lst vs) ∧ Paired (fun v (t : Nat × Nat × (Nat × Nat)) => ∃ r vd, v = .ref r ∧ SqT K H r [.int (t.1 : Int), .int (t.2.1 : Int), vd] ∧ DotAt K H vd t.2.2) vs l
theorem AsideAt.ex {H H' : Hp} {a : Addr} {l : List (Nat × Nat × (Nat × Nat))} (h : AsideAt K H a l) (e : Ex H H') : AsideAt K H' a l := by
  obtain ⟨vs, h1, h2⟩ := h
  exact ⟨vs, e _ _ h1, L2.Paired.mapP h2 fun _ _ ⟨r, vd, q, z, y⟩ => ⟨r, vd, q, ex_t e z, y.ex e⟩⟩
def pAside (s : Sq50.State) : List (Nat × Nat × (Nat × Nat)) := (mayL s).map fun i => (i % s.w, i / s.w, dotN s i)
def sp_aside (K : PySem.W.Frag) : Sp := P1 fun a H Q _ => ∃ (s : Sq50.State) (p aL aC : Addr), a = .ref p ∧ PicA K H p s aL aC ∧ WF s ∧ GivesN (fun y H' => AsideAt K H' y (pAside s)) H Q
theorem ok_taken_aside (T : Tx K mg) : Ok P w K mg base CX0 (2 + 1) (He.ga K "taken_aside") ["picture"] (sp_aside K) := by
  refine mk0 T.f_taken_aside sc_taken_aside bd_taken_aside P1.len (fun cdv A outer s H vs Q E hr h => ⟨_, (pss_cons (ps_set (i := 1) sc_taken_aside.nd rfl (Or.inr rfl) (kfld (K := K) (om0 (ok_Picture_worked_on T) T.c_Picture T.m_Picture_worked_on hr (by decide) ((pass0 : Passes CX0 _ E0)) (pv 0)) rfl))
    (pss_one (ps_ret (pe_lc (own := [("place", 2)]) rfl sc_taken_aside.nd (kpi_list (K := K) (om0 (ok_Picture_may_change T) T.c_Picture T.m_Picture_may_change hr (by decide) ((pass0 : Passes CX0 _ E0)) (pv 0))) (blkOk_by (by kernel_rfl)) (fun _ _ _ _ _ => by exact (pg_name (i := 2) sc_taken_aside.nd rfl (Or.inl rfl))) (fun _ _ _ _ _ => by exact pts_nil) (fun _ _ _ _ _ => by exact (pe_tup (pa_cons (om (ok_Picture_across T) T.c_Picture T.m_Picture_across hr (by decide) ((pass0 : Passes CX0 _ E0)) (pv 0) (pa_cons (pv 2) pa_nil)) (pa_cons (om (ok_Picture_down T) T.c_Picture T.m_Picture_down hr (by decide) ((pass0 : Passes CX0 _ E0)) (pv 0) (pa_cons (pv 2) pa_nil)) (pa_cons (pe_ix (kix_list (K := K)) (pv 1) (pv 2) (fun _ _ => rfl)) pa_nil))))))))), ?_⟩)
  obtain ⟨_, rfl, s, p, aL, aC, rfl, hP, W, k⟩ := h
  have w1 := W.w1
  have w2 := W.w2
  have hml := mayL_len W
  have hds : s.layer.dots.length = s.w * s.h := W.lay_ok.len
  refine q_asgP (evp_workdots T (ev_var rfl) hP W) fun v H1 e1 ⟨aD, ev, vs, hv, hpr⟩ => ?_
  subst ev
  have hlen := pair_len hpr
  replace hP := hP.ex e1
  replace k := k.ex e1
  refine s_retN ((evn_lcR (n := (mayL s).length) (fun i x _ => (nums (mayL s))[i]? = some x) (fun i v H => ∀ n, (mayL s)[i]? = some n → ∃ r vd, v = .ref r ∧ SqT K H r [.int ((n % s.w : Nat) : Int), .int ((n / s.w : Nat) : Int), vd] ∧ DotAt K H vd (dotN s n)) (fun i v H H' e h n hn => by
      obtain ⟨r, vd, q, z, y⟩ := h n hn
      exact ⟨r, vd, q, ex_t e z, y.ex e⟩) (by omega) (by
      have z := iw_listN (K := K) (xs := nums (mayL s)) (EvN.l (evn_may (K := K) (E := E0) (te := tVar 0) (σ := [some (.ref p), some (.ref aD), none]) (ev_var rfl) hP W))
      rw [nums_len] at z
      exact z) ?_).imp fun a H2 e2 ⟨ys, y1, y2, y3⟩ => ?_) fun y H2 n e r => k y H2 n e r
  · intro D i x H2 e hD0 hD1 hi hx Q2 q2
    rw [List.getElem?_map, List.getElem?_eq_getElem hi] at hx
    cases hx
    have hnl := mayL_lt (List.getElem_mem hi)
    have hP2 := hP.ex e
    obtain ⟨vd, hvd, hdd⟩ := pair_get hpr (List.getElem?_eq_getElem (by omega : (mayL s)[i] < s.layer.dots.length))
    refine q2 _ H2 (Ex.refl _) rfl fun Q3 q3 => eu_tup (ea_cons (ev_across (ev_var rfl) hP2 (by omega) (ev_var rfl)) (ea_cons (ev_down (ev_var rfl) hP2 (by omega) (by omega) (ev_var rfl)) (ea_cons (ev_op (ev_var rfl) (ev_var rfl) (rv_ixL (sq_of (e _ _ hv)) (atI_nat hvd))) ea_nil))) (by show 3 ≤ 100000; decide) H2 (Ex.refl _) _ fun c H3 n3 e3 hc => q3 _ H3 e3 fun o n hn => ?_
    rw [List.getElem?_eq_getElem hi] at hn
    cases hn
    refine ⟨c, vd, rfl, st_of (by rw [upd_ne (new_ne n3 hD1)]; exact hc), ?_⟩
    unfold dotN
    rw [List.getElem?_eq_getElem (by omega : (mayL s)[i] < s.layer.dots.length)]
    exact hdd.ex (Ex.mut (e.trans e3) hD0)
  · refine ⟨ys, y1, pair_of (by unfold pAside; rw [y2, List.length_map]) fun i x y hx hy => ?_⟩
    unfold pAside at hy
    rw [List.getElem?_map] at hy
    cases hn : (mayL s)[i]? with
    | none => rw [hn] at hy; cases hy
    | some n =>
      rw [hn] at hy
      cases hy
      exact y3 i x hx n hn
theorem g_tup3 {σ : L2.St} {H : Hp} {r : Addr} {v1 v2 v3 : V} {i j k : Nat} {Q : L2.St → Hp → Prop} (h : SqT K H r [v1, v2, v3]) (q : Q (((σ.set i (some v1)).set j (some v2)).set k (some v3)) H) : gTup K 3 (gCons (gName i) (gCons (gName j) (gCons (gName k) gNil))) (.ref r) σ H Q :=
  ⟨r, [v1, v2, v3], rfl, h, rfl, v1, [v2, v3], rfl, v2, [v3], rfl, v3, [], rfl, rfl, q⟩
theorem g_tup4 {σ : L2.St} {H : Hp} {r : Addr} {v1 v2 v3 v4 : V} {i j k l : Nat} {Q : L2.St → Hp → Prop} (h : SqT K H r [v1, v2, v3, v4]) (q : Q ((((σ.set i (some v1)).set j (some v2)).set k (some v3)).set l (some v4)) H) : gTup K 4 (gCons (gName i) (gCons (gName j) (gCons (gName k) (gCons (gName l) gNil)))) (.ref r) σ H Q :=
  ⟨r, [v1, v2, v3, v4], rfl, h, rfl, v1, [v2, v3, v4], rfl, v2, [v3, v4], rfl, v3, [v4], rfl, v4, [], rfl, rfl, q⟩
def pasteOne (w h : Nat) (ds : List (Nat × Nat)) (t : Nat × Nat × (Nat × Nat)) : List (Nat × Nat) := if t.1 < w ∧ t.2.1 < h then ds.set (t.2.1 * w + t.1) t.2.2 else ds
def pPaste (s : Sq50.State) (l : List (Nat × Nat × (Nat × Nat))) : List (Nat × Nat) := l.foldl (pasteOne s.w s.h) (List.replicate (s.w * s.h) (0, 0))
theorem paste_len {w h : Nat} : ∀ (l : List (Nat × Nat × (Nat × Nat))) (ds : List (Nat × Nat)), (l.foldl (pasteOne w h) ds).length = ds.length
  | [], _ => rfl
  | t :: l, ds => by
    refine (paste_len l (pasteOne w h ds t)).trans ?_
    unfold pasteOne
    split
    · exact List.length_set ..
    · rfl
theorem pair_rep {α β : Type} {F : α → β → Prop} {x : α} {y : β} (h : F x y) : ∀ n, Paired F (List.replicate n x) (List.replicate n y)
  | 0 => .nil
  | n + 1 => .cons h (pair_rep h n)
def sp_pasted (K : PySem.W.Frag) : Sp := P2 fun a b H Q _ => ∃ (s : Sq50.State) (p aL aC g : Addr) (l : List (Nat × Nat × (Nat × Nat))), a = .ref p ∧ PicA K H p s aL aC ∧ WF s ∧ b = .ref g ∧ AsideAt K H g l ∧ GivesN (fun y H' => ∃ aL', PicA K H' y (newL s (pPaste s l)) aL' aC) H Q
theorem ok_pasted (T : Tx K mg) : Ok P w K mg base CX0 (3 + 1) (He.ga K "pasted") ["picture", "aside"] (sp_pasted K) := by
  refine mk0 T.f_pasted sc_pasted bd_pasted P2.len (fun cdv A outer s H vs Q E hr h => ⟨_, (pss_cons (ps_set (i := 2) sc_pasted.nd rfl (Or.inl rfl) (pe_op op_rep (pe_lst (pa_cons (pgr T.g_EMPTY) pa_nil)) (om0 (ok_Picture_size T) T.c_Picture T.m_Picture_size hr (by decide) ((pass0 : Passes CX0 _ E0)) (pv 0))))
    (pss_cons (ps_for PassesOwn.never rfl (kpi_list (K := K) (pv 1)) (kpg_tup (K := K) (n := 3) (by rfl) (pgs_cons (pg_name (i := 3) sc_pasted.nd rfl (Or.inl rfl)) (pgs_cons (pg_name (i := 4) sc_pasted.nd rfl (Or.inl rfl)) (pgs_cons (pg_name (i := 5) sc_pasted.nd rfl (Or.inl rfl)) pgs_nil)))) (pss_one (ps_if (pt_val (om (ok_Picture_has T) T.c_Picture T.m_Picture_has hr (by decide) ((pass0 : Passes CX0 _ E0)) (pv 0) (pa_cons (pv 3) (pa_cons (pv 4) pa_nil)))) (pss_one (ps_asg (pv 5) (pg_sub (pv 2) (om (ok_Picture_place T) T.c_Picture T.m_Picture_place hr (by decide) ((pass0 : Passes CX0 _ E0)) (pv 0) (pa_cons (pv 3) (pa_cons (pv 4) pa_nil))) set_list))) pss_nil)))
    (pss_one (ps_ret (om (ok_Picture_with_new_layer T) T.c_Picture T.m_Picture_with_new_layer hr (by decide) ((pass0 : Passes CX0 _ E0)) (pv 0) (pa_cons (pv 2) pa_nil)))))), ?_⟩)
  obtain ⟨_, _, rfl, s, p, aL, aC, g, l, rfl, hP, W, rfl, hG, k⟩ := h
  have w1 := W.w1
  have w2 := W.w2
  have hsz := W.sz
  obtain ⟨vs, hv, hpr⟩ := hG
  have hlen := pair_len hpr
  refine q_asgN (evn_rep (n := s.w * s.h) ev_c (ev_size (ev_var rfl) hP (by omega)) (by omega)) fun f H1 nf e1 hf => ?_
  refine q_forL (ev_var rfl) (sq_of (e1 _ _ hv)) (fun i σ' H' => Ex H H' ∧ (∃ us, H' f = some (.lst us) ∧ Paired (DotAt K H) us ((l.take i).foldl (pasteOne s.w s.h) (List.replicate (s.w * s.h) (0, 0)))) ∧ ∃ x3 x4 x5, σ' = [some (.ref p), some (.ref g), some (.ref f), x3, x4, x5])
    (fun H2 e2 => ⟨e1.trans e2, ⟨_, e2 _ _ hf, by rw [List.take_zero]; exact pair_rep ⟨_, rfl, T.t_EMPTY H⟩ _⟩, none, none, none, rfl⟩) (fun i σ' H' _ h => sq_of (h.1 _ _ hv)) ?_ ?_
  · rintro i x σ' H2 hx ⟨e2, ⟨us, hus, hpu⟩, x3, x4, x5, rfl⟩
    obtain ⟨t, ht, r, vd, rfl, hT, hd⟩ := pair_get' hpr hx
    have hul : us.length = s.w * s.h := by rw [pair_len hpu, paste_len, List.length_replicate]
    have hstep : (l.take (i + 1)).foldl (pasteOne s.w s.h) (List.replicate (s.w * s.h) (0, 0)) = pasteOne s.w s.h ((l.take i).foldl (pasteOne s.w s.h) (List.replicate (s.w * s.h) (0, 0))) t := by
      rw [take_snoc ht, List.foldl_append]
      rfl
    refine g_tup3 (ex_t e2 hT) ?_
    refine s_when (et_test (ev_has (ev_var rfl) (hP.ex e2) (ev_var rfl) (ev_var rfl))) (fun hb H3 e3 => ?_) (fun hb H3 e3 => ?_)
    · have hb := of_decide_eq_true hb
      have hlt : t.2.1 * s.w + t.1 < us.length := by
        rw [hul]
        exact cell_lt (by omega) (by omega)
      refine s_setL (e3 _ _ hus) (ev_var rfl) (ev_var rfl) (ev_is (ev_place (ev_var rfl) (hP.ex (e2.trans e3)) (by omega) (ev_var rfl) (ev_var rfl)) (by push_cast; rfl)) (j := t.2.1 * s.w + t.1) hlt fun H4 e4 => ⟨Ex.mut ((e2.trans e3).trans e4) nf, ⟨_, upd_same, ?_⟩, _, _, _, rfl⟩
      rw [hstep]
      unfold pasteOne
      rw [if_pos (by omega)]
      exact pair_set _ hpu hd
    · have hb := of_decide_eq_false hb
      refine ⟨e2.trans e3, ⟨us, e3 _ _ hus, ?_⟩, _, _, _, rfl⟩
      rw [hstep]
      unfold pasteOne
      rw [if_neg (by omega)]
      exact hpu
  · rintro σ' H2 ⟨e2, ⟨us, hus, hpu⟩, x3, x4, x5, rfl⟩
    rw [hlen, List.take_length] at hpu
    have hD : DotsAt K H2 f (pPaste s l) := ⟨us, hus, L2.Paired.mapP hpu fun _ _ z => DotAt.ex z e2⟩
    exact s_retN (evn_pm (ev_var rfl) (hP.ex e2) (ea_cons (ev_var rfl) ea_nil) fun H3 e3 Q E q => ⟨_, _, rfl, s, p, aL, aC, f, _, rfl, hP.ex (e2.trans e3), W, rfl, hD.ex e3, q⟩) fun y H3 n e r => k y H3 (fresh_back e2 n) (e2.trans e) r
/-! ### two layers put together -/
theorem q_asgTup2 {σ : L2.St} {H : Hp} {ta tb : TE} {i j : Nat} {D : Ends} {tz : TS} {R S : V → Hp → Prop} (ha : EvP ta σ H R) (m : Mono R) (hb : EvP tb σ H S) (m2 : Mono S) (k : ∀ v u H1, Ex H H1 → R v H1 → S u H1 → tz D ((σ.set i (some v)).set j (some u)) H1) :
    tSeq (tAsg (tTup (tCons ta (tCons tb tNil))) (gTup K 2 (gCons (gName i) (gCons (gName j) gNil)))) tz D σ H :=
  ha H (Ex.refl _) _ fun v H1 e1 r => hb H1 e1 _ fun u H2 e2 s => ⟨sz_of (by show 2 ≤ 100000; decide), fun p hp => g_tup2 (st_of upd_same) (k v u _ ((e1.trans e2).trans (Ex.new hp)) (m _ _ _ (e2.trans (Ex.new hp)) r) (m2 _ _ _ (Ex.new hp) s))⟩
theorem evn_dotof {σ : L2.St} {H : Hp} {ta tb : TE} {E : XK} {ls : List Sq50.Layer} {p n : Nat} (ha : EvLy K ta σ H ls) (hb : Ev tb σ H (.int (p : Int))) (hl : ∀ l ∈ ls, LOk l n) (hp : p < n) (h5 : ls.length ≤ 5) :
    EvN (tCall (sp_dot_of K) [] E (tCons ta (tCons tb tNil))) σ H (fun r H' => H' r = some (.tup [.int ((fDot ls p).1 : Int), .int ((fDot ls p).2 : Int)])) := fun H1 e Q q =>
  ha H1 e _ fun aL H2 n2 e2 hL => hb H2 (e.trans e2) _ fun H3 e3 => ⟨_, _, rfl, ls, aL, p, n, rfl, hL.ex e3, rfl, hl, hp, h5, fun r H' nr er hr => q r H' (fresh_back (e2.trans e3) nr) ((e2.trans e3).trans er) hr⟩
/-- a method of a picture, its arguments made on the way -/
theorem evn_callM {σ : L2.St} {H : Hp} {te : TE} {tA : TA} {a aL aC : Addr} {s : Sq50.State} {sp : Sp} {E : XK} {m : Str} {U : List V → Hp → Prop} {S : Addr → Hp → Prop} (ho : Ev te σ H (.ref a)) (h : PicA K H a s aL aC) (ha : EvAP tA σ H U) (hs : ∀ vs H1, Ex H H1 → U vs H1 → ∀ (Q : VK) (E : XK), GivesN S H1 Q → sp (.ref a :: vs) H1 Q E)
    (hm : ((m == ("wide" : Str)) || ((m == ("high" : Str)) || ((m == ("layers" : Str)) || ((m == ("working" : Str)) || ((m == ("chosen" : Str)) || (m == ("following" : Str))))))) = false := by decide +kernel) : EvN (tMeth (CP K) m sp [] E te tA) σ H S := fun H1 e Q q => by
  obtain ⟨⟨dx, h1⟩, _⟩ := h
  refine ho H1 e _ fun H2 e2 => ⟨a, dx, _, rfl, (e.trans e2) _ _ h1, pF_no hm, ha H2 (e.trans e2) _ fun vs H3 e3 u => ?_⟩
  show sp (V.ref a :: (vs ++ [])) H3 Q E
  rw [List.append_nil]
  exact hs vs H3 ((e.trans e2).trans e3) u Q E fun x H4 n4 e4 r => q x H4 (fresh_back (e2.trans e3) n4) ((e2.trans e3).trans e4) r
def pPut (s : Sq50.State) (lo : Sq50.Layer) : Sq50.State := { s with layers := s.layers.take (pl s - 1) ++ [⟨lo.id, true, 255, lo.way, (List.range (s.w * s.h)).map (fDot [{ lo with way := 0 }, s.layer])⟩] ++ s.layers.drop (pl s + 1), on := lo.id }
def sp_put2 (K : PySem.W.Frag) : Sp := P1 fun a H Q _ => ∃ (s : Sq50.State) (p aL aC : Addr) (lo : Sq50.Layer), a = .ref p ∧ PicA K H p s aL aC ∧ WF s ∧ 0 < pl s ∧ s.layers[pl s - 1]? = some lo ∧ GivesN (fun y H' => ∃ aL', PicA K H' y (pPut s lo) aL' aC) H Q
theorem ok_put_together (T : Tx K mg) : Ok P w K mg base CX0 (8 + 1) (He.ga K "put_together") ["picture"] (sp_put2 K) := by
  refine mk0 T.f_put_together sc_put_together bd_put_together P1.len (fun cdv A outer s H vs Q E hr h => ⟨_, (pss_cons (ps_set (i := 1) sc_put_together.nd rfl (Or.inl rfl) (kbm (K := K) PySem.F.plainAttrs_list PySem.F.slot_list_index PySem.F.type_list_index (k_index (K := K)) (om0 (ok_Picture_numbers T) T.c_Picture T.m_Picture_numbers hr (by decide) ((pass0 : Passes CX0 _ E0)) (pv 0)) (pa_cons (kfld (K := K) (pv 0) rfl) pa_nil)))
    (pss_cons (ps_asg (pe_tup (pa_cons (pe_ix (kix_list (K := K)) (kfld (K := K) (pv 0) rfl) (pe_op op_sub (pv 1) pe_int) (fun _ _ => rfl)) (pa_cons (pe_ix (kix_list (K := K)) (kfld (K := K) (pv 0) rfl) (pv 1) (fun _ _ => rfl)) pa_nil))) (kpg_tup (K := K) (n := 2) (by rfl) (pgs_cons (pg_name (i := 2) sc_put_together.nd rfl (Or.inl rfl)) (pgs_cons (pg_name (i := 3) sc_put_together.nd rfl (Or.inr rfl)) pgs_nil))))
    (pss_cons (ps_set (i := 4) sc_put_together.nd rfl (Or.inr rfl) (ok_new (ok_Layer_init T) T.k_Layer hr (by decide) T.g_Layer ((pass0 : Passes CX0 _ E0)) (pa_cons (kfld (K := K) (pv 2) rfl) (pa_cons (kfld (K := K) (pv 2) rfl) (pa_cons (kfld (K := K) (pv 2) rfl) (pa_cons pe_int (pa_cons (kfld (K := K) (pv 2) rfl) pa_nil)))))))
    (pss_cons (ps_setLc (i := 5) (own := [("place", 7)]) rfl sc_put_together.nd rfl rfl (sw_true rfl rfl rfl (by decide +kernel)) (pi_range1 (by rfl) T.b_range (pa_cons (om0 (ok_Picture_size T) T.c_Picture T.m_Picture_size hr (by decide) ((pass0 : Passes CX0 _ E0)) (pv 0)) pa_nil)) (blkOk_by (by kernel_rfl)) (fun _ _ _ _ _ => by exact (pg_name (i := 7) sc_put_together.nd rfl (Or.inl rfl))) (fun _ _ _ _ _ => by exact pts_nil) (fun _ _ _ _ _ => by exact (oc (ok_dot_of T) hr (by decide) T.g_dot_of ((pass0 : Passes CX0 _ E0)) (pa_cons (pe_lst (pa_cons (pv 4) (pa_cons (pv 3) pa_nil))) (pa_cons (pv 7) pa_nil)))))
    (pss_cons (ps_set (i := 6) sc_put_together.nd rfl (Or.inl rfl) (ok_new (ok_Layer_init T) T.k_Layer hr (by decide) T.g_Layer ((pass0 : Passes CX0 _ E0)) (pa_cons (kfld (K := K) (pv 2) rfl) (pa_cons pe_int (pa_cons (pgi T.i_GREATEST) (pa_cons (kfld (K := K) (pv 2) rfl) (pa_cons (pv 5) pa_nil)))))))
    (pss_one (ps_ret (om (ok_Picture_with_layers T) T.c_Picture T.m_Picture_with_layers hr (by decide) ((pass0 : Passes CX0 _ E0)) (pv 0) (pa_cons (pe_op op_cat (pe_op op_cat (pe_slice (ksl_list (K := K)) (kfld (K := K) (pv 0) rfl) po_none (po_some (pe_op op_sub (pv 1) pe_int))) (pe_lst (pa_cons (pv 6) pa_nil))) (pe_slice (ksl_list (K := K)) (kfld (K := K) (pv 0) rfl) (po_some (pe_op op_add (pv 1) pe_int)) po_none)) (pa_cons (kfld (K := K) (pv 2) rfl) pa_nil)))))))))), ?_⟩)
  obtain ⟨_, rfl, s, p, aL, aC, lo, rfl, hP, W, h0, hlo, k⟩ := h
  have w1 := W.w1
  have w2 := W.w2
  have hsz := W.sz
  have h5 := W.le
  have okU := W.lay_ok
  have okL := W.lok lo (List.mem_of_getElem? hlo)
  have hpl := ix_lt W.on
  refine q_asg (ev_ix (ev_var rfl) hP W.le' (ev_working T (ev_var rfl) hP) W.on) fun H1 e1 => ?_
  replace hP := hP.ex e1
  replace k := k.ex e1
  refine q_asgTup2 (evp_layAt (i := pl s - 1) (ev_layers T (ev_var rfl) hP) (ev_is (ev_op (ev_var rfl) ev_c rv_I0) (congrArg V.int (by show (pl s : Int) - 1 = _; omega))) hP.lay hlo) LayAt.mono (evp_layAt (ev_layers T (ev_var rfl) hP) (ev_var rfl) hP.lay (layer_eq W.on)) LayAt.mono fun v u H2 e2 hv hu => ?_
  obtain ⟨a1, d1, rfl, hA⟩ := hv
  obtain ⟨a2, d2, rfl, hU⟩ := hu
  replace hP := hP.ex e2
  replace k := k.ex e2
  refine q_asgN (evn_layer (l := { lo with way := 0 }) (aD := d1) (ea_cons (ev_number (l := lo) T (ev_var rfl) hA) (ea_cons (ev_seen (l := lo) T (ev_var rfl) hA) (ea_cons (ev_strong (l := lo) T (ev_var rfl) hA) (ea_cons ev_c (ea_cons (ev_dots (l := lo) T (ev_var rfl) hA) ea_nil))))) hA.dots) fun a3 H3 n3 e3 hN => ?_
  replace hP := hP.ex e3
  replace k := k.ex e3
  replace hA := hA.ex e3
  replace hU := hU.ex e3
  have okN : LOk { lo with way := 0 } (s.w * s.h) := ⟨okL.len, okL.dots, okL.strong, by show 0 ≤ 6; omega⟩
  refine q_asgN (evn_lcR (n := s.w * s.h) (fun i x _ => x = .int (i : Int)) (fun i v H => DotAt K H v (fDot [{ lo with way := 0 }, s.layer] i)) (fun i => DotAt.mono) (by omega) (iw_range1 (ea_cons (ev_size (ev_var rfl) hP (by omega)) ea_nil) (by omega)) ?_) fun aD H4 n4 e4 hD => ?_
  · intro D i x H4 e4 hD0 hD1 hi hx Q2 q2
    subst hx
    refine q2 _ H4 (Ex.refl _) rfl fun Q3 q3 => (evn_dotof (ls := [{ lo with way := 0 }, s.layer]) (n := s.w * s.h) (evly_two ((EvP.of (ev_var rfl)).imp fun v H5 e5 q => ⟨a3, d1, q, hN.ex (e4.trans e5)⟩) ((EvP.of (ev_var rfl)).imp fun v H5 e5 q => ⟨a2, d2, q, hU.ex (e4.trans e5)⟩)) (ev_var rfl) (fun l hl => ?_) hi (by show 2 ≤ 5; decide)) H4 (Ex.refl _) _ fun r H5 n5 e5 hr => q3 _ H5 e5 (dot_new hr (new_ne n5 hD1))
    rcases List.mem_cons.mp hl with z | z
    · rw [z]
      exact okN
    · rw [List.mem_singleton.mp z]
      exact okU
  have hD : DotsAt K H4 aD ((List.range (s.w * s.h)).map (fDot [{ lo with way := 0 }, s.layer])) := by
    obtain ⟨ys, y1, y2, y3⟩ := hD
    refine ⟨ys, y1, pair_of (by rw [y2, List.length_map, List.length_range]) fun i x y hx hy => ?_⟩
    have hi : i < s.w * s.h := by
      have := (List.getElem?_eq_some_iff.mp hx).1
      omega
    rw [List.getElem?_map, List.getElem?_range hi] at hy
    cases hy
    exact y3 i x hx
  replace hP := hP.ex e4
  replace k := k.ex e4
  replace hA := hA.ex e4
  refine q_asgN (evn_layer (l := ⟨lo.id, true, 255, lo.way, (List.range (s.w * s.h)).map (fDot [{ lo with way := 0 }, s.layer])⟩) (aD := aD) (ea_cons (ev_number (l := lo) T (ev_var rfl) hA) (ea_cons ev_c (ea_cons ev_c (ea_cons (ev_way (l := lo) T (ev_var rfl) hA) (ea_cons (ev_var rfl) ea_nil))))) hD) fun a6 H5 n5 e5 hM => ?_
  replace hP := hP.ex e5
  replace k := k.ex e5
  replace hA := hA.ex e5
  refine s_retN (evn_callM (sp := sp_withL K) (S := fun y H' => ∃ aL', PicA K H' y (pPut s lo) aL' aC) (ev_var rfl) hP (evap_cons (evly_cat (evly_cat (evly_take (k := pl s - 1) (ev_layers T (ev_var rfl) hP) (eo_some (ev_is (ev_op (ev_var rfl) ev_c rv_I0) (congrArg V.int (by show (pl s : Int) - 1 = _; omega)))) hP.lay) (evly_one (l := ⟨lo.id, true, 255, lo.way, (List.range (s.w * s.h)).map (fDot [{ lo with way := 0 }, s.layer])⟩) ((EvP.of (ev_var (v := .ref a6) rfl)).imp fun v H e q => ⟨a6, aD, q, hM.ex e⟩)) ?_)
    (evly_drop (k := pl s + 1) (ev_layers T (ev_var rfl) hP) (eo_some (ev_is (ev_op (ev_var rfl) ev_c rv_I0) rfl)) hP.lay) ?_).p (fun v H H' e ⟨x, q, z⟩ => ⟨x, q, z.ex e⟩) (evap_cons (.of (ev_number (l := lo) T (ev_var rfl) hA)) (fun _ _ _ _ h => h) evap_nil)) ?_) fun y H6 n e r => k y H6 n e r
  · simp only [List.length_take, List.length_singleton]; omega
  · simp only [List.length_append, List.length_take, List.length_drop, List.length_singleton]; omega
  · rintro vs H6 e6 ⟨_, _, rfl, ⟨aL', rfl, hL'⟩, _, _, rfl, rfl, rfl⟩ Q E q
    exact ⟨_, _, _, rfl, s, p, aL, aC, aL', _, lo.id, rfl, hP.ex e6, rfl, hL', rfl, fun y H7 n7 e7 r => q y H7 n7 e7 ⟨aL', r⟩⟩
end Lp
set_option Elab.async false
set_option linter.all false
set_option maxRecDepth 100000
set_option maxHeartbeats 4000000
namespace Lp
open PySem PySem.Spec PyProof.Rows L2 Evl
variable {P : Program} {w : World} {K : PySem.W.Frag} {mg : Str → Option Value} {base : Heap}
section
variable {σ : L2.St} {H : Hp} {ta te : TE} {l : Addr} {xs ys : List V} {D : Ends} {tz : TS}
theorem s_ext (hl : H l = some (.lst xs)) (ha : Ev ta σ H (.ref l)) (h : EvL te σ H ys) (hz : xs.length + ys.length ≤ 100000) (k : ∀ H1, Ex H H1 → D.nx σ (upd H1 l (.lst (xs ++ ys)))) : tDrop (tBM K "list" (rExt2 K) ta (tCons te tNil)) D σ H :=
  ha H (Ex.refl _) _ fun H1 e1 => ⟨.inl ⟨rfl, xs, sq_of (e1 _ _ hl)⟩, h H1 e1 _ fun p H2 n e2 hp => ⟨l, p, xs, ys, rfl, rfl, e2 _ _ (e1 _ _ hl), .inl hp, sz_of hz, k H2 (e1.trans e2)⟩⟩
theorem s_asgTup2 {σ : L2.St} {H : Hp} {ta tb : TE} {i j : Nat} {D : Ends} {R S : V → Hp → Prop} (ha : EvP ta σ H R) (m : Mono R) (hb : EvP tb σ H S) (m2 : Mono S) (k : ∀ v u H1, Ex H H1 → R v H1 → S u H1 → D.nx ((σ.set i (some v)).set j (some u)) H1) :
    tAsg (tTup (tCons ta (tCons tb tNil))) (gTup K 2 (gCons (gName i) (gCons (gName j) gNil))) D σ H :=
  ha H (Ex.refl _) _ fun v H1 e1 r => hb H1 e1 _ fun u H2 e2 s => ⟨sz_of (by show 2 ≤ 100000; decide), fun p hp => g_tup2 (st_of upd_same) (k v u _ ((e1.trans e2).trans (Ex.new hp)) (m _ _ _ (e2.trans (Ex.new hp)) r) (m2 _ _ _ (Ex.new hp) s))⟩
/-- both ways of an if to what holds behind it -/
theorem q_ifM {t : TT} {b : Bool} {tu tw : TS} (M : L2.St → Hp → Prop) (h : EvT t σ H b) (h1 : b = true → ∀ H1, Ex H H1 → ∀ D : Ends, (∀ σ' H', M σ' H' → D.nx σ' H') → tu D σ H1) (h2 : b = false → ∀ H1, Ex H H1 → ∀ D : Ends, (∀ σ' H', M σ' H' → D.nx σ' H') → tw D σ H1) (hd : ∀ σ' H', M σ' H' → tz D σ' H') :
    tSeq (tIfS t tu tw) tz D σ H := q_if h (fun hb H1 e1 => h1 hb H1 e1 { D with nx := tz D } hd) (fun hb H1 e1 => h2 hb H1 e1 { D with nx := tz D } hd)
end
/-! ### cut to what is chosen -/
def cropL (s : Sq50.State) : Nat := minL ((onL s).map (· % s.w))
def cropT (s : Sq50.State) : Nat := minL ((onL s).map (· / s.w))
def cropR (s : Sq50.State) : Nat := maxL ((onL s).map (· % s.w))
def cropB (s : Sq50.State) : Nat := maxL ((onL s).map (· / s.w))
def gridP (w x0 y0 n m : Nat) : List Nat := (List.range m).flatMap fun j => (List.range n).map fun i => (y0 + j) * w + (x0 + i)
def pCrop (s : Sq50.State) : Sq50.State := rearr s (cropR s - cropL s + 1) (cropB s - cropT s + 1) (gridP s.w (cropL s) (cropT s) (cropR s - cropL s + 1) (cropB s - cropT s + 1))
theorem min_mem {l : List Nat} (h : l ≠ []) : minL l ∈ l ∧ ∀ x ∈ l, minL l ≤ x := by
  unfold minL
  cases hm : l.min? with
  | none => exact absurd (List.min?_eq_none_iff.mp hm) h
  | some n => exact ⟨(List.min?_eq_some_iff.mp hm).1, (List.min?_eq_some_iff.mp hm).2⟩
theorem max_mem {l : List Nat} (h : l ≠ []) : maxL l ∈ l ∧ ∀ x ∈ l, x ≤ maxL l := by
  unfold maxL
  cases hm : l.max? with
  | none => exact absurd (List.max?_eq_none_iff.mp hm) h
  | some n => exact ⟨(List.max?_eq_some_iff.mp hm).1, (List.max?_eq_some_iff.mp hm).2⟩
theorem crop_ok {s : Sq50.State} (W : WF s) (h : onL s ≠ []) : cropL s ≤ cropR s ∧ cropR s < s.w ∧ cropT s ≤ cropB s ∧ cropB s < s.h := by
  have n1 : (onL s).map (· % s.w) ≠ [] := fun z => h (List.map_eq_nil_iff.mp z)
  have n2 : (onL s).map (· / s.w) ≠ [] := fun z => h (List.map_eq_nil_iff.mp z)
  refine ⟨(min_mem n1).2 _ (max_mem n1).1, ?_, (min_mem n2).2 _ (max_mem n2).1, ?_⟩
  · obtain ⟨i, hi, e⟩ := List.mem_map.mp (max_mem n1).1
    show maxL _ < _
    rw [← e]
    exact Nat.mod_lt _ W.w1
  · obtain ⟨i, hi, e⟩ := List.mem_map.mp (max_mem n2).1
    show maxL _ < _
    rw [← e]
    exact Nat.div_lt_of_lt_mul (onL_lt hi)
theorem grid_lt {w h x0 y0 n m : Nat} (hx : x0 + n ≤ w) (hy : y0 + m ≤ h) : ∀ i ∈ gridP w x0 y0 n m, i < w * h := fun i hi => by
  obtain ⟨j, hj, hi⟩ := List.mem_flatMap.mp hi
  obtain ⟨k, hk, rfl⟩ := List.mem_map.mp hi
  have hj := List.mem_range.mp hj
  have hk := List.mem_range.mp hk
  exact cell_lt (by omega) (by omega)
theorem rows_len {n : Nat} (f : Nat → Nat → Nat) : ∀ m, ((List.range m).flatMap fun j => (List.range n).map (f j)).length = m * n
  | 0 => by simp
  | m + 1 => by
    rw [List.range_succ, List.flatMap_append, List.length_append, rows_len f m, List.flatMap_singleton, List.length_map, List.length_range, Nat.add_mul, Nat.one_mul]
theorem nums_app (a b : List Nat) : nums a ++ nums b = nums (a ++ b) := (List.map_append ..).symm
theorem rows_snoc (n m : Nat) (f : Nat → Nat → Nat) : ((List.range (m + 1)).flatMap fun j => (List.range n).map (f j)) = ((List.range m).flatMap fun j => (List.range n).map (f j)) ++ (List.range n).map (f m) := by
  rw [List.range_succ, List.flatMap_append, List.flatMap_singleton]
def sp_cropped (K : PySem.W.Frag) : Sp := P1 fun a H Q _ => ∃ (s : Sq50.State) (p aL aC : Addr), a = .ref p ∧ PicA K H p s aL aC ∧ WF s ∧ onL s ≠ [] ∧ GivesN (fun y H' => ∃ aL aC, PicA K H' y (pCrop s) aL aC) H Q
theorem ok_cropped (T : Tx K mg) : Ok P w K mg base CX0 (4 + 1) (He.ga K "cropped") ["picture"] (sp_cropped K) := by
  refine mk0 T.f_cropped sc_cropped bd_cropped P1.len (fun cdv A outer s H vs Q E hr h => ⟨_, (pss_cons (ps_asg (oc (ok_bounds T) hr (by decide) T.g_bounds ((pass0 : Passes CX0 _ E0)) (pa_cons (pv 0) pa_nil)) (kpg_tup (K := K) (n := 4) (by rfl) (pgs_cons (pg_name (i := 1) sc_cropped.nd rfl (Or.inl rfl)) (pgs_cons (pg_name (i := 2) sc_cropped.nd rfl (Or.inl rfl)) (pgs_cons (pg_name (i := 3) sc_cropped.nd rfl (Or.inl rfl)) (pgs_cons (pg_name (i := 4) sc_cropped.nd rfl (Or.inl rfl)) pgs_nil))))))
    (pss_cons (ps_set (i := 5) sc_cropped.nd rfl (Or.inl rfl) (pe_lst pa_nil))
    (pss_cons (ps_for PassesOwn.never rfl (pi_range2 (by rfl) T.b_range (pa_cons (pv 2) (pa_cons (pe_op op_add (pv 4) pe_int) pa_nil))) (pg_name (i := 6) sc_cropped.nd rfl (Or.inr rfl)) (pss_one (ps_expr (kbm (K := K) PySem.F.plainAttrs_list PySem.F.slot_list_extend PySem.F.type_list_extend (k_ext2 (K := K)) (pv 5) (pa_cons (pe_lc (own := [("x", 7)]) rfl sc_cropped.nd (pi_range2 (by rfl) T.b_range (pa_cons (pv 1) (pa_cons (pe_op op_add (pv 3) pe_int) pa_nil))) (blkOk_by (by kernel_rfl)) (fun _ _ _ _ _ => by exact (pg_name (i := 7) sc_cropped.nd rfl (Or.inl rfl))) (fun _ _ _ _ _ => by exact pts_nil) (fun _ _ _ _ _ => by exact (om (ok_Picture_place T) T.c_Picture T.m_Picture_place hr (by decide) ((pass0 : Passes CX0 _ E0)) (pv 0) (pa_cons (pv 7) (pa_cons (pv 6) pa_nil))))) pa_nil)))))
    (pss_one (ps_ret (om (ok_Picture_rearranged T) T.c_Picture T.m_Picture_rearranged hr (by decide) ((pass0 : Passes CX0 _ E0)) (pv 0) (pa_cons (pe_op op_add (pe_op op_sub (pv 3) (pv 1)) pe_int) (pa_cons (pe_op op_add (pe_op op_sub (pv 4) (pv 2)) pe_int) (pa_cons (pv 5) pa_nil))))))))), ?_⟩)
  obtain ⟨_, rfl, s, p, aL, aC, rfl, hP, W, hne, k⟩ := h
  have w1 := W.w1
  have w2 := W.w2
  have h2' := W.h2
  obtain ⟨c1, c2, c3, c4⟩ := crop_ok W hne
  refine (evn_call (R := fun y H' => H' y = some (.tup (nums [cropL s, cropT s, cropR s, cropB s]))) (ea_cons (ev_var rfl) ea_nil) fun H1 e1 Q E q => ⟨_, rfl, s, p, aL, aC, rfl, hP.ex e1, W, hne, q⟩) H (Ex.refl _) _ fun r H1 n1 e1 hr1 => g_tup4 (st_of hr1) ?_
  replace hP := hP.ex e1
  replace k := k.ex e1
  clear hr1
  refine q_asgL (el_lst ea_nil (by show 0 ≤ 100000; decide)) fun f H2 nf e2 hf => ?_
  refine q_forRn (lo := (cropT s : Int)) (n := (cropB s : Int) + 1) (ea_cons (ev_var rfl) (ea_cons (ev_op (ev_var rfl) ev_c rv_I0) ea_nil)) (by omega)
    (fun j σ' H' => Ex H1 H' ∧ H' f = some (.lst (nums (gridP s.w (cropL s) (cropT s) (cropR s - cropL s + 1) j))) ∧ ∃ x6 x7, σ' = [some (.ref p), some (.int (cropL s : Int)), some (.int (cropT s : Int)), some (.int (cropR s : Int)), some (.int (cropB s : Int)), some (.ref f), x6, x7])
    (fun H3 e3 => ⟨e2.trans e3, e3 _ _ hf, none, none, rfl⟩) ?_ ?_
  · rintro j σ' H3 hj ⟨e3, hf3, x6, x7, rfl⟩
    have hP3 := hP.ex e3
    have hz := rows_len (n := cropR s - cropL s + 1) (fun j i => (cropT s + j) * s.w + (cropL s + i)) j
    have hz2 : j * (cropR s - cropL s + 1) ≤ 12 * 12 := Nat.mul_le_mul (by omega) (by omega)
    refine s_ext hf3 (ev_var rfl) (ys := nums ((List.range (cropR s - cropL s + 1)).map fun i => (cropT s + j) * s.w + (cropL s + i))) ?_ (by rw [nums_len, nums_len, List.length_map, List.length_range]; unfold gridP; omega) fun H4 e4 => ⟨Ex.mut (e3.trans e4) nf, ?_, _, _, rfl⟩
    · have z := el_lc (n := ((cropR s : Int) + 1 - (cropL s : Int)).toNat) (σ := [some (.ref p), some (.int (cropL s : Int)), some (.int (cropT s : Int)), some (.int (cropR s : Int)), some (.int (cropB s : Int)), some (.ref f), some (.int ((cropT s : Int) + (j : Int))), x7]) (H := H3) (te := tMeth (CP K) "place" (sp_place K) [] E0 (tVar 0) (tCons (tVar 7) (tCons (tVar 6) tNil))) (t := tYes) (wi := iRng2 (tCons (tVar 1) (tCons (tOp (rI0 fun i j => .int (i + j)) (tVar 3) (tC (.int 1))) tNil))) (g := gName 7) (vs := [7]) (fun i x _ => x = .int ((cropL s : Int) + (i : Int))) (fun _ => true) (fun i => .int (((cropT s + j) * s.w + (cropL s + i) : Nat) : Int)) (by omega) (iw_range2 (ea_cons (ev_var rfl) (ea_cons (ev_op (ev_var rfl) ev_c rv_I0) ea_nil)) (by omega)) ?_
      · rw [given_all, show ((cropR s : Int) + 1 - (cropL s : Int)).toNat = cropR s - cropL s + 1 by omega] at z
        rw [show nums ((List.range (cropR s - cropL s + 1)).map fun i => (cropT s + j) * s.w + (cropL s + i)) = (List.range (cropR s - cropL s + 1)).map fun i => V.int (((cropT s + j) * s.w + (cropL s + i) : Nat) : Int) by show List.map _ (List.map _ _) = _; rw [List.map_map]; rfl]
        exact z
      · intro i x H4 e4 hi hx Q2 q2
        subst hx
        exact q2 _ H4 (Ex.refl _) rfl (fun _ _ _ z => z _ (Ex.refl _)) fun _ => ev_is (ev_place (ev_var rfl) (hP3.ex e4) (by omega) (ev_var rfl) (ev_var rfl)) (by push_cast; rfl)
    · rw [upd_same, nums_app]
      exact congrArg (fun l => some (HO.lst (nums l))) (rows_snoc ..).symm
  · rintro σ' H3 ⟨e3, hf3, x6, x7, rfl⟩
    rw [show ((cropB s : Int) + 1 - (cropT s : Int)).toNat = cropB s - cropT s + 1 by omega] at hf3
    have hz := rows_len (n := cropR s - cropL s + 1) (fun j i => (cropT s + j) * s.w + (cropL s + i)) (cropB s - cropT s + 1)
    have hz2 : (cropB s - cropT s + 1) * (cropR s - cropL s + 1) ≤ 12 * 12 := Nat.mul_le_mul (by omega) (by omega)
    exact s_retN (evn_pm (R := fun y H' => ∃ aL aC, PicA K H' y (pCrop s) aL aC) (ev_var rfl) (hP.ex e3) (ea_cons (ev_is (ev_op (ev_op (ev_var rfl) (ev_var rfl) rv_I0) ev_c rv_I0) (congrArg V.int (show _ = ((cropR s - cropL s + 1 : Nat) : Int) by omega))) (ea_cons (ev_is (ev_op (ev_op (ev_var rfl) (ev_var rfl) rv_I0) ev_c rv_I0) (congrArg V.int (show _ = ((cropB s - cropT s + 1 : Nat) : Int) by omega))) (ea_cons (ev_var rfl) ea_nil))) fun H4 e4 Q E q =>
      ⟨_, _, _, _, rfl, s, p, aL, aC, _, _, _, f, rfl, hP.ex (e3.trans e4), W, rfl, rfl, rfl, e4 _ _ hf3, by unfold gridP; omega, grid_lt (by omega) (by omega), q⟩) fun y H4 n e r => k y H4 (fresh_back e3 n) (e3.trans e) r
/-! ### turned -/
def turnF (s : Sq50.State) (k j i : Nat) : Nat := if k = 0 then j * s.w + (s.w - 1 - i) else if k = 1 then (s.h - 1 - j) * s.w + i else (s.h - 1 - i) * s.w + j
def turnW (s : Sq50.State) (k : Nat) : Nat := if k = 0 then s.w else if k = 1 then s.w else s.h
def turnH (s : Sq50.State) (k : Nat) : Nat := if k = 0 then s.h else if k = 1 then s.h else s.w
def turnP (s : Sq50.State) (k : Nat) : List Nat := (List.range (turnH s k)).flatMap fun j => (List.range (turnW s k)).map (turnF s k j)
def pTurn (s : Sq50.State) (k : Nat) : Sq50.State := rearr s (turnW s k) (turnH s k) (turnP s k)
theorem turn_lt {s : Sq50.State} {k i : Nat} (h : i ∈ turnP s k) : i < s.w * s.h := by
  obtain ⟨j, hj, hi⟩ := List.mem_flatMap.mp h
  obtain ⟨x, hx, rfl⟩ := List.mem_map.mp hi
  have hj := List.mem_range.mp hj
  have hx := List.mem_range.mp hx
  unfold turnH at hj
  unfold turnW at hx
  unfold turnF
  split
  · rename_i h0
    rw [if_pos h0] at hj hx
    exact cell_lt (by omega) (by omega)
  · rename_i h0
    rw [if_neg h0] at hj hx
    split
    · rename_i h1
      rw [if_pos h1] at hj hx
      exact cell_lt (by omega) (by omega)
    · rename_i h1
      rw [if_neg h1] at hj hx
      exact cell_lt (by omega) (by omega)
def sp_turned (K : PySem.W.Frag) : Sp := P2 fun a b H Q _ => ∃ (s : Sq50.State) (p aL aC : Addr) (k : Nat), a = .ref p ∧ PicA K H p s aL aC ∧ WF s ∧ b = .int (k : Int) ∧ GivesN (fun y H' => ∃ aL aC, PicA K H' y (pTurn s k) aL aC) H Q
section
variable {σ : L2.St} {H : Hp} {D : Ends}
/-- one of the three walks: the row behind y, x -/
theorem turn_row {tx ty : TE} {s : Sq50.State} {p aL aC : Addr} {n : Nat} {g : Nat → Nat} {iN : Nat} (hP : PicA K H p s aL aC) (hw : s.w ≤ 1000) (hn : n ≤ 40000) (h0 : σ[0]? = some (some (.ref p))) (hN : Ev (tVar iN) σ H (.int (n : Int))) (hl : 6 < σ.length)
    (hx : ∀ (i : Nat), i < n → ∀ H1, Ex H H1 → ∃ x y : Int, Ev tx (((wipe σ [6]).set 6 (some (.int (i : Int))))) H1 (.int x) ∧ Ev ty (((wipe σ [6]).set 6 (some (.int (i : Int))))) H1 (.int y) ∧ y * s.w + x = (g i : Nat)) (hs : ∀ v, wipe ((wipe σ [6]).set 6 v) [6] = wipe σ [6]) (hp : ∀ v, ((wipe σ [6]).set 6 v)[0]? = some (some (.ref p))) :
    EvL (tLc (iRng1 (tCons (tVar iN) tNil)) (gName 6) tYes (tMeth (CP K) "place" (sp_place K) [] E0 (tVar 0) (tCons tx (tCons ty tNil))) [6]) σ H (nums ((List.range n).map g)) := by
  have z := el_lc (n := n) (σ := σ) (H := H) (te := tMeth (CP K) "place" (sp_place K) [] E0 (tVar 0) (tCons tx (tCons ty tNil))) (t := tYes) (wi := iRng1 (tCons (tVar iN) tNil)) (g := gName 6) (vs := [6]) (fun i x _ => x = .int (i : Int)) (fun _ => true) (fun i => .int (g i : Int)) hn (iw_range1 (ea_cons hN ea_nil) hn) ?_
  · rw [given_all] at z
    rw [show nums ((List.range n).map g) = (List.range n).map fun i => V.int (g i : Int) by show List.map _ (List.map _ _) = _; rw [List.map_map]; rfl]
    exact z
  · intro i x H4 e4 hi hx' Q2 q2
    subst hx'
    refine q2 _ H4 (Ex.refl _) (hs _) (fun _ _ _ z => z _ (Ex.refl _)) fun _ => ?_
    obtain ⟨x, y, a, b, e⟩ := hx i hi H4 e4
    exact ev_is (ev_place (ev_var (hp _)) (hP.ex e4) hw a b) (congrArg V.int e)
end
theorem ok_turned (T : Tx K mg) : Ok P w K mg base CX0 (4 + 1) (He.ga K "turned") ["picture", "way"] (sp_turned K) := by
  refine mk0 T.f_turned sc_turned bd_turned P2.len (fun cdv A outer s H vs Q E hr h => ⟨_, (pss_cons (ps_asg (pe_tup (pa_cons (kfld (K := K) (pv 0) rfl) (pa_cons (kfld (K := K) (pv 0) rfl) pa_nil))) (kpg_tup (K := K) (n := 2) (by rfl) (pgs_cons (pg_name (i := 2) sc_turned.nd rfl (Or.inr rfl)) (pgs_cons (pg_name (i := 3) sc_turned.nd rfl (Or.inr rfl)) pgs_nil))))
    (pss_cons (ps_set (i := 4) sc_turned.nd rfl (Or.inl rfl) (pe_lst pa_nil))
    (pss_cons (ps_if (pt_cmpR op_eq (pv 1) (pgi T.i_UPRIGHT) (nomark _)) (pss_one (ps_for PassesOwn.never rfl (pi_range1 (by rfl) T.b_range (pa_cons (pv 3) pa_nil)) (pg_name (i := 5) sc_turned.nd rfl (Or.inr rfl)) (pss_one (ps_expr (kbm (K := K) PySem.F.plainAttrs_list PySem.F.slot_list_extend PySem.F.type_list_extend (k_ext2 (K := K)) (pv 4) (pa_cons (pe_lc (own := [("x", 6)]) rfl sc_turned.nd (pi_range1 (by rfl) T.b_range (pa_cons (pv 2) pa_nil)) (blkOk_by (by kernel_rfl)) (fun _ _ _ _ _ => by exact (pg_name (i := 6) sc_turned.nd rfl (Or.inl rfl))) (fun _ _ _ _ _ => by exact pts_nil) (fun _ _ _ _ _ => by exact (om (ok_Picture_place T) T.c_Picture T.m_Picture_place hr (by decide) ((pass0 : Passes CX0 _ E0)) (pv 0) (pa_cons (pe_op op_sub (pe_op op_sub (pv 2) pe_int) (pv 6)) (pa_cons (pv 5) pa_nil))))) pa_nil)))))) (pss_one (ps_if (pt_cmpR op_eq (pv 1) (pgi T.i_OVER) (nomark _)) (pss_one (ps_for PassesOwn.never rfl (pi_range1 (by rfl) T.b_range (pa_cons (pv 3) pa_nil)) (pg_name (i := 5) sc_turned.nd rfl (Or.inr rfl)) (pss_one (ps_expr (kbm (K := K) PySem.F.plainAttrs_list PySem.F.slot_list_extend PySem.F.type_list_extend (k_ext2 (K := K)) (pv 4) (pa_cons (pe_lc (own := [("x", 6)]) rfl sc_turned.nd (pi_range1 (by rfl) T.b_range (pa_cons (pv 2) pa_nil)) (blkOk_by (by kernel_rfl)) (fun _ _ _ _ _ => by exact (pg_name (i := 6) sc_turned.nd rfl (Or.inl rfl))) (fun _ _ _ _ _ => by exact pts_nil) (fun _ _ _ _ _ => by exact (om (ok_Picture_place T) T.c_Picture T.m_Picture_place hr (by decide) ((pass0 : Passes CX0 _ E0)) (pv 0) (pa_cons (pv 6) (pa_cons (pe_op op_sub (pe_op op_sub (pv 3) pe_int) (pv 5)) pa_nil))))) pa_nil)))))) (pss_cons (ps_for PassesOwn.never rfl (pi_range1 (by rfl) T.b_range (pa_cons (pv 2) pa_nil)) (pg_name (i := 5) sc_turned.nd rfl (Or.inr rfl)) (pss_one (ps_expr (kbm (K := K) PySem.F.plainAttrs_list PySem.F.slot_list_extend PySem.F.type_list_extend (k_ext2 (K := K)) (pv 4) (pa_cons (pe_lc (own := [("x", 6)]) rfl sc_turned.nd (pi_range1 (by rfl) T.b_range (pa_cons (pv 3) pa_nil)) (blkOk_by (by kernel_rfl)) (fun _ _ _ _ _ => by exact (pg_name (i := 6) sc_turned.nd rfl (Or.inl rfl))) (fun _ _ _ _ _ => by exact pts_nil) (fun _ _ _ _ _ => by exact (om (ok_Picture_place T) T.c_Picture T.m_Picture_place hr (by decide) ((pass0 : Passes CX0 _ E0)) (pv 0) (pa_cons (pv 5) (pa_cons (pe_op op_sub (pe_op op_sub (pv 3) pe_int) (pv 6)) pa_nil))))) pa_nil)))))
    (pss_one (ps_asg (pe_tup (pa_cons (pv 3) (pa_cons (pv 2) pa_nil))) (kpg_tup (K := K) (n := 2) (by rfl) (pgs_cons (pg_name (i := 2) sc_turned.nd rfl (Or.inr rfl)) (pgs_cons (pg_name (i := 3) sc_turned.nd rfl (Or.inr rfl)) pgs_nil)))))))))
    (pss_one (ps_ret (om (ok_Picture_rearranged T) T.c_Picture T.m_Picture_rearranged hr (by decide) ((pass0 : Passes CX0 _ E0)) (pv 0) (pa_cons (pv 2) (pa_cons (pv 3) (pa_cons (pv 4) pa_nil))))))))), ?_⟩)
  obtain ⟨_, _, rfl, s, p, aL, aC, kk, rfl, hP, W, rfl, k⟩ := h
  have w1 := W.w1
  have w2 := W.w2
  have h1' := W.h1
  have h2' := W.h2
  refine q_asgTup2 (.of (ev_wide T (ev_var rfl) hP)) (fun _ _ _ _ h => h) (.of (ev_high T (ev_var rfl) hP)) (fun _ _ _ _ h => h) fun v u H1 e1 hv hu => ?_
  subst hv hu
  replace hP := hP.ex e1
  replace k := k.ex e1
  refine q_asgL (el_lst ea_nil (by show 0 ≤ 100000; decide)) fun f H2 nf e2 hf => ?_
  refine q_ifM (fun σ' H' => Ex H1 H' ∧ H' f = some (.lst (nums (turnP s kk))) ∧ ∃ x5 x6, σ' = [some (.ref p), some (.int (kk : Int)), some (.int (turnW s kk : Int)), some (.int (turnH s kk : Int)), some (.ref f), x5, x6]) (et_eqn 0 (ev_var rfl)) (fun hb H3 e3 D hD => ?_) (fun hb H3 e3 D hD => ?_) ?_
  · have hb := of_decide_eq_true hb
    subst hb
    refine s_forR1 (ea_cons (ev_var rfl) ea_nil) (by omega) (fun j σ' H' => Ex H1 H' ∧ H' f = some (.lst (nums ((List.range j).flatMap fun j => (List.range s.w).map (turnF s 0 j)))) ∧ ∃ x5 x6, σ' = [some (.ref p), some (.int ((0 : Nat) : Int)), some (.int (s.w : Int)), some (.int (s.h : Int)), some (.ref f), x5, x6]) (fun H4 e4 => ⟨(e2.trans e3).trans e4, e4 _ _ (e3 _ _ hf), none, none, rfl⟩) ?_ ?_
    · rintro j σ' H4 hj ⟨e4, hf4, x5, x6, rfl⟩
      have hz := rows_len (n := s.w) (turnF s 0) j
      have hz2 : j * s.w ≤ 12 * 12 := Nat.mul_le_mul (by omega) (by omega)
      refine s_ext hf4 (ev_var rfl) (ys := nums ((List.range s.w).map (turnF s 0 j))) (turn_row (hP.ex e4) (by omega) (by omega) rfl (ev_var rfl) (by simp) (fun i hi H5 e5 => ⟨_, _, ev_op (ev_op (ev_var rfl) ev_c rv_I0) (ev_var rfl) rv_I0, ev_var rfl, ?_⟩) (fun _ => rfl) fun _ => rfl) (by rw [nums_len, nums_len, hz, List.length_map, List.length_range]; omega) fun H5 e5 => ⟨Ex.mut (e4.trans e5) nf, ?_, _, _, rfl⟩
      · show _ = ((j * s.w + (s.w - 1 - i) : Nat) : Int)
        push_cast
        omega
      · rw [upd_same, nums_app]
        exact congrArg (fun l => some (HO.lst (nums l))) (rows_snoc ..).symm
    · rintro σ' H4 ⟨e4, hf4, x5, x6, rfl⟩
      rw [Int.toNat_natCast] at hf4
      exact hD _ _ ⟨e4, hf4, _, _, rfl⟩
  · have h0 := of_decide_eq_false hb
    refine s_if (et_eqn 1 (ev_var rfl)) (fun hb H4 e4 => ?_) (fun hb H4 e4 => ?_)
    · have hb := of_decide_eq_true hb
      subst hb
      refine s_forR1 (ea_cons (ev_var rfl) ea_nil) (by omega) (fun j σ' H' => Ex H1 H' ∧ H' f = some (.lst (nums ((List.range j).flatMap fun j => (List.range s.w).map (turnF s 1 j)))) ∧ ∃ x5 x6, σ' = [some (.ref p), some (.int ((1 : Nat) : Int)), some (.int (s.w : Int)), some (.int (s.h : Int)), some (.ref f), x5, x6]) (fun H5 e5 => ⟨((e2.trans e3).trans e4).trans e5, e5 _ _ (e4 _ _ (e3 _ _ hf)), none, none, rfl⟩) ?_ ?_
      · rintro j σ' H5 hj ⟨e5, hf5, x5, x6, rfl⟩
        have hz := rows_len (n := s.w) (turnF s 1) j
        have hz2 : j * s.w ≤ 12 * 12 := Nat.mul_le_mul (by omega) (by omega)
        refine s_ext hf5 (ev_var rfl) (ys := nums ((List.range s.w).map (turnF s 1 j))) (turn_row (hP.ex e5) (by omega) (by omega) rfl (ev_var rfl) (by simp) (fun i hi H6 e6 => ⟨_, _, ev_var rfl, ev_op (ev_op (ev_var rfl) ev_c rv_I0) (ev_var rfl) rv_I0, ?_⟩) (fun _ => rfl) fun _ => rfl) (by rw [nums_len, nums_len, hz, List.length_map, List.length_range]; omega) fun H6 e6 => ⟨Ex.mut (e5.trans e6) nf, ?_, _, _, rfl⟩
        · show _ = (((s.h - 1 - j) * s.w + i : Nat) : Int)
          rw [show (s.h : Int) - 1 - (j : Int) = ((s.h - 1 - j : Nat) : Int) by omega]
          push_cast
          rfl
        · rw [upd_same, nums_app]
          exact congrArg (fun l => some (HO.lst (nums l))) (rows_snoc ..).symm
      · rintro σ' H5 ⟨e5, hf5, x5, x6, rfl⟩
        rw [Int.toNat_natCast] at hf5
        exact hD _ _ ⟨e5, hf5, _, _, rfl⟩
    · have h1 := of_decide_eq_false hb
      refine q_forR1 (ea_cons (ev_var rfl) ea_nil) (by omega) (fun j σ' H' => Ex H1 H' ∧ H' f = some (.lst (nums ((List.range j).flatMap fun j => (List.range s.h).map (turnF s kk j)))) ∧ ∃ x5 x6, σ' = [some (.ref p), some (.int (kk : Int)), some (.int (s.w : Int)), some (.int (s.h : Int)), some (.ref f), x5, x6]) (fun H5 e5 => ⟨((e2.trans e3).trans e4).trans e5, e5 _ _ (e4 _ _ (e3 _ _ hf)), none, none, rfl⟩) ?_ ?_
      · rintro j σ' H5 hj ⟨e5, hf5, x5, x6, rfl⟩
        have hz := rows_len (n := s.h) (turnF s kk) j
        have hz2 : j * s.h ≤ 12 * 12 := Nat.mul_le_mul (by omega) (by omega)
        refine s_ext hf5 (ev_var rfl) (ys := nums ((List.range s.h).map (turnF s kk j))) (turn_row (hP.ex e5) (by omega) (by omega) rfl (ev_var rfl) (by simp) (fun i hi H6 e6 => ⟨_, _, ev_var rfl, ev_op (ev_op (ev_var rfl) ev_c rv_I0) (ev_var rfl) rv_I0, ?_⟩) (fun _ => rfl) fun _ => rfl) (by rw [nums_len, nums_len, hz, List.length_map, List.length_range]; omega) fun H6 e6 => ⟨Ex.mut (e5.trans e6) nf, ?_, _, _, rfl⟩
        · unfold turnF
          rw [if_neg h0, if_neg h1, show (s.h : Int) - 1 - (i : Int) = ((s.h - 1 - i : Nat) : Int) by omega]
          push_cast
          rfl
        · rw [upd_same, nums_app]
          exact congrArg (fun l => some (HO.lst (nums l))) (rows_snoc ..).symm
      · rintro σ' H5 ⟨e5, hf5, x5, x6, rfl⟩
        rw [Int.toNat_natCast] at hf5
        refine s_asgTup2 (.of (ev_var rfl)) (fun _ _ _ _ h => h) (.of (ev_var rfl)) (fun _ _ _ _ h => h) fun v u H6 e6 hv hu => ?_
        subst hv hu
        refine hD _ _ ⟨e5.trans e6, ?_, x5, x6, ?_⟩
        · unfold turnP turnH turnW
          rw [if_neg h0, if_neg h1, if_neg h0, if_neg h1]
          exact e6 _ _ hf5
        · unfold turnH turnW
          rw [if_neg h0, if_neg h1, if_neg h0, if_neg h1]
          rfl
  · rintro σ' H3 ⟨e3, hf3, x5, x6, rfl⟩
    have hz := rows_len (n := turnW s kk) (turnF s kk) (turnH s kk)
    have b1 : turnW s kk ≤ 12 := by unfold turnW; split <;> (try split) <;> assumption
    have b2 : turnH s kk ≤ 12 := by unfold turnH; split <;> (try split) <;> assumption
    have hz2 : turnH s kk * turnW s kk ≤ 12 * 12 := Nat.mul_le_mul b2 b1
    exact s_retN (evn_pm (R := fun y H' => ∃ aL aC, PicA K H' y (pTurn s kk) aL aC) (ev_var rfl) (hP.ex e3) (ea_cons (ev_var rfl) (ea_cons (ev_var rfl) (ea_cons (ev_var rfl) ea_nil))) fun H4 e4 Q E q =>
      ⟨_, _, _, _, rfl, s, p, aL, aC, _, _, _, f, rfl, hP.ex (e3.trans e4), W, rfl, rfl, rfl, e4 _ _ hf3, by unfold turnP; omega, fun i => turn_lt, q⟩) fun y H4 n e r => k y H4 (fresh_back e3 n) (e3.trans e) r
end Lp
set_option Elab.async false
set_option linter.all false
set_option maxRecDepth 100000
set_option maxHeartbeats 4000000
/-! A lambda of one parameter, handed to a def as its third argument. -/
namespace Lp
open PySem PySem.Spec PyProof.Rows L2 LamX
/-- its parameter a, captured names, globals -/
structure LamS1 (sc scope : Scope) (a : Str) : Prop where
  kind : scope.kind = .function
  co : scope.isCoroutine = false
  gen : scope.isGenerator = false
  own : ∀ y ∈ scope.names, y.2 ≠ .cell ∧ (y.2 = .local → y.1 = a)
  par : scope.names.lookup a = some .local
  free : ∀ y ∈ scope.names, y.2 = .free → sc.names.lookup y.1 = some .cell ∨ sc.names.lookup y.1 = some .free
def lamS1B (sc scope : Scope) (a : Str) : Bool :=
  decide (scope.kind = .function) && !scope.isCoroutine && !scope.isGenerator && decide (scope.names.lookup a = some .local) && scope.names.all fun y => !decide (y.2 = .cell) && (!decide (y.2 = .local) || decide (y.1 = a)) && (!decide (y.2 = .free) || decide (sc.names.lookup y.1 = some .cell) || decide (sc.names.lookup y.1 = some .free))
theorem lamS1_by {sc scope : Scope} {a : Str} (h : lamS1B sc scope a = true) : LamS1 sc scope a := by
  unfold lamS1B at h
  simp only [Bool.and_eq_true, Bool.or_eq_true, Bool.not_eq_true', decide_eq_true_eq, decide_eq_false_iff_not, List.all_eq_true] at h
  obtain ⟨⟨⟨⟨h1, h2⟩, h3⟩, h5⟩, h4⟩ := h
  refine ⟨h1, h2, h3, fun y hy => ⟨(h4 y hy).1.1, fun e => ?_⟩, h5, fun y hy e => ?_⟩
  · rcases (h4 y hy).1.2 with z | z
    · exact absurd e z
    · exact z
  · rcases (h4 y hy).2 with (z | z) | z
    · exact absurd e z
    · exact .inl z
    · exact .inr z
theorem LamS1.has {X : Cx} {scope : Scope} {a : Str} (L : LamS1 X.env.scope scope a) (ok : X.Ok) : ∀ y ∈ scope.names, y.2 = .free → ∃ c, X.env.cells.lookup y.1 = some c := fun y hy e => by
  rcases L.free y hy e with k | k
  · exact ok.has _ (.inl k)
  · exact ok.has _ (.inr k)
/-- the context of the lambda's body, entered at s from the frames outer -/
def lamCx1 (X : Cx) (A : Around) (outer : List Env) (s : Shared) (H : Hp) (scope : Scope) (f c' : Addr) (a : Str) : Cx where
  prog := X.prog
  w := X.w
  K := X.K
  mg := X.mg
  base := X.base
  A := A.deeper (lamEnv X scope s.heap.objs.size f c')
  N := X.N ++ [a]
  s_0 := s
  H_0 := H
  env := lamEnv X scope s.heap.objs.size f c'
  outer := outer
  stack := lamEnv X scope s.heap.objs.size f c' :: outer
  ex := []
  fn := fun _ => false
  calm := true
  pn := []
  xe := fun _ _ => False
section
variable {X : Cx} {pins : List (Addr × Obj)} {σ : L2.St} {H HZ : Hp} {s s1 : Shared}
theorem lam1_start {A : Around} {outer : List Env} {scope : Scope} {f c' : Addr} {a : Str} {h₁ : Heap} {tk : Nat} {v : V} {u : Value} (I : Inv X pins σ H s) (L : LamS1 X.env.scope scope a) (ha : a ∉ X.N) (e0 : Env0 X.prog X.w X.K X.mg X.base A outer s1 HZ) (hd : A.handled = none)
    (un : Un (frs X.stack) [] H HZ s.heap s1.heap) (rv : RelV v u) (hns : h₁.Ns s1.heap.objs.size fun y => ([(a, u)] : List (Str × Value)).reverse.lookup y) (kp : ∀ b o, s1.heap.get? b = some o → h₁.get? b = some o) :
    Inv (lamCx1 X A outer s1 HZ scope f c' a) [] (σ ++ [some v]) HZ { s1 with heap := h₁, toks := tk } := by
  have hfree := L.has I.ok
  have cm : ∀ {y c}, (cloFrom X.env.cells scope.names []).lookup y = some c → X.env.cells.lookup y = some c := fun {y c} e => by
    rcases cloFrom_mem (PySem.mem_of_lookup e) with hm | ⟨h1, h2⟩
    · cases hm
    · obtain ⟨c1, hc⟩ := hfree _ h1 rfl
      have hc : X.env.cells.lookup y = some c1 := hc
      have e2 : c = c1 := by
        rw [h2, hc] <;> rfl
      rw [e2]
      exact hc
  have look : ∀ {y}, scope.names.lookup y = some .free → ∃ c, (cloFrom X.env.cells scope.names []).lookup y = some c := fun {y} hl => by
    have hy : (y, NameKind.free) ∈ scope.names := PySem.mem_of_lookup hl
    exact mem_lookup (cloFrom_has (cells := X.env.cells) (acc := []) hy)
  have cellK : ∀ {c : Addr} {v : Option Value}, H c = none → s.heap.IsCell c v → h₁.IsCell c v := fun {c v} n ⟨o, ho, hd⟩ => by
    obtain ⟨sl, q⟩ := un.any ho n (by simp)
    exact ⟨_, kp _ _ q, hd⟩
  have noA : ∀ b : Addr, b ∉ (lamCx1 X A outer s1 HZ scope f c' a).ex := fun b z => absurd (show b ∈ ([] : List Addr) from z) (by simp)
  refine ⟨⟨e0.mod, L.kind, rfl, rfl, Nat.le_refl _, fun y z c e1 e2 => I.ok.inj y z c (cm e1) (cm e2), fun y hy => ?_, fun y c z _ => ?_, fun _ => hd, Around.frames_deeper e0.frames, .inr ⟨rfl, rfl⟩, fun b z => absurd z (noA b), e0.bs, e0.bsz, fun b _ _ => noA b,
      fun b z => absurd z (noA b), e0.funs, e0.frf⟩,
    rfl, e0.bare, Un.kept kp, ⟨_, hns, fun i y v' e1 e2 e3 => ?_⟩, fun y c e => ?_, e0.hok.fresh (Nat.le_refl _), fun y c e => ?_, fun q hq => absurd (show q ∈ ([] : List (Addr × Obj)) ++ [] from hq) (by simp), e0.hok.kept kp, ?_⟩
  · have hy : scope.names.lookup y = some .cell ∨ scope.names.lookup y = some .free := hy
    rcases hy with hy | hy
    · exact absurd rfl (L.own _ (PySem.mem_of_lookup hy)).1
    · exact look hy
  · have z : false = true := z
    cases z
  · have e3 : Vis scope y := e3
    have e1 : (X.N ++ [a])[i]? = some y := e1
    by_cases hi : i < X.N.length
    · rw [List.getElem?_append_left hi] at e1
      rw [List.getElem?_append_left (by rw [I.len]; exact hi)] at e2
      rcases e3 with k | k | k
      · have ey : y = a := (L.own _ (PySem.mem_of_lookup k)).2 rfl
        rw [ey] at e1
        exact absurd (List.mem_of_getElem? e1) ha
      · exact absurd rfl (L.own _ (PySem.mem_of_lookup k)).1
      · obtain ⟨m, hn, hl⟩ := I.loc
        have hvis : Vis X.env.scope y := (L.free _ (PySem.mem_of_lookup k) rfl).elim (fun k => .inr (.inl k)) (fun k => .inr (.inr k))
        obtain ⟨w', r, q⟩ := hl i y v' e1 e2 hvis
        obtain ⟨c2, h2⟩ := look k
        refine ⟨w', r, .inr ⟨.inr k, c2, h2, ?_⟩⟩
        have c1 := cm h2
        rcases q with ⟨k', _⟩ | ⟨_, c3, e', z⟩
        · have k' : X.env.scope.names.lookup y = some .local := k'
          rcases L.free _ (PySem.mem_of_lookup k) rfl with k2 | k2 <;> rw [show X.env.scope.names.lookup y = _ from k2] at k' <;> cases k'
        · rw [c1] at e'
          cases e'
          exact cellK (I.freeC y _ c1) z
    · have hlen := I.len
      rw [List.getElem?_append_right (by omega)] at e1
      rw [List.getElem?_append_right (by omega)] at e2
      have hi0 : i - X.N.length = 0 := by
        cases hh : i - X.N.length with
        | zero => rfl
        | succ n =>
          rw [hh] at e1
          simp at e1
      rw [hi0] at e1
      rw [hlen, hi0] at e2
      have ea : a = y := by simpa using e1
      have ev : v = v' := by simpa using e2
      subst ea ev
      refine ⟨u, rv, .inl ⟨L.par, ?_⟩⟩
      show ([(a, u)] : List (Str × Value)).reverse.lookup a = some u
      rw [List.reverse_singleton]
      have e : (a == a) = true := beq_self_eq_true a
      simp only [List.lookup, e]
  · obtain ⟨w', z⟩ := I.cell y c (cm e)
    exact ⟨w', cellK (I.freeC y c (cm e)) z⟩
  · obtain ⟨v, o, ho, hd⟩ := I.cell y c (cm e)
    exact un.free c o ho (I.freeC y c (cm e)) (by simp)
  · show (σ ++ [some v]).length = (X.N ++ [a]).length
    rw [List.length_append, List.length_append, I.len]
    rfl
/-- x(e), in the def that got the lambda -/
theorem pe_act1 {CXg : CXT} {Eg : XK} {Ng : List Str} {qg : Str} {sg : Scope} {g f c' : Addr} {cdg pm ctv : Value} {params : Arguments} {body : Expr} {scope : Scope} {k i : Nat} {x a : Str} {tb : TE} {p1 p2 : Pos} {e : Expr} {t : TA}
    (I : Inv X pins σ H s) (L : LamS1 X.env.scope scope a) (hna : a ∉ X.N) (hf : s.heap.get? f = some (PySem.W.kla_obj "<lambda>" (X.env.qual ++ "<lambda>") params body scope (cloFrom X.env.cells scope.names []) pm c' ctv)) (hfn : H f = none) (hfr : f ∉ frs X.stack)
    (hbind : ∀ u : Value, bindArgs (PySem.W.kla_fn "<lambda>" (X.env.qual ++ "<lambda>") params body scope (cloFrom X.env.cells scope.names []) pm (.ref c') ctv) ⟨[u], []⟩ = pure [(a, u)])
    (hr : Room (k + 1) (X.A.deeper (envOfC qg sg s.heap.objs.size g cdg)))
    (hbody : ∀ (A : Around) (outer : List Env) (s : Shared) (H : Hp), Room k (A.deeper (lamEnv X scope s.heap.objs.size f c')) → PE (lamCx1 X A outer s H scope f c' a) body tb)
    (hN : Ng[i]? = some x) (hv : Vis sg x) (ha : PA (cxOf CXg X.prog X.w X.K X.mg X.base Ng qg sg g cdg X.A X.stack s H Eg).nox [e] t)
    (he : starEach [e] (cxOf CXg X.prog X.w X.K X.mg X.base Ng qg sg g cdg X.A X.stack s H Eg).nox.env = [(false, eval e (cxOf CXg X.prog X.w X.K X.mg X.base Ng qg sg g cdg X.A X.stack s H Eg).nox.env)])
    (hd : (x == ("__debug__" : Str)) = false := by decide) (hcd : (x == ("__classdict__" : Str)) = false := by decide) :
    PE (cxOf CXg X.prog X.w X.K X.mg X.base Ng qg sg g cdg X.A X.stack s H Eg).nox (.Call (.Name x p1) [e] [] p2)
      (fun σZ HZ Q => σZ[i]? = some (some (.ref f)) ∧ t σZ HZ fun vs H1 => ∃ v, vs = [v] ∧ H1 c' = some (CodeO c' (X.env.qual ++ "<lambda>")) ∧ tb (σ ++ [some v]) H1 Q) := by
  refine ⟨fun pinsZ sZ σZ HZ Q IZ h => ?_⟩
  obtain ⟨hs, ht⟩ := h
  refine wpAny_Call_Name_kw (thn ((pe_var (pos := p1) (i := i) hN hv hd hcd).run pinsZ sZ σZ HZ (fun v H1 => v = .ref f ∧ H1 = HZ) IZ ⟨.ref f, hs, rfl, rfl⟩) fun u s1 ⟨v, H1, I1, r1, q1⟩ => ?_)
  obtain ⟨ev, eH⟩ := q1
  subst ev
  rw [eH] at I1
  obtain rfl : u = Value.ref f := r1
  have of1 : s1.heap.get? f = some (PySem.W.kla_obj "<lambda>" (X.env.qual ++ "<lambda>") params body scope (cloFrom X.env.cells scope.names []) pm c' ctv) := I1.base.keep f _ hf hfn hfr (fun z => nomatch (show f ∈ ([] : List Addr) from z))
  refine PySem.W.callWith_F ⟨_, _, _, _, of1⟩ (thn (ha.run p2 pinsZ s1 σZ HZ _ I1 ht) fun us s2 ⟨vs, H2, I2, r2, v, evs, hc, q⟩ => ?_) he rfl
  have of2 : s2.heap.get? f = some (PySem.W.kla_obj "<lambda>" (X.env.qual ++ "<lambda>") params body scope (cloFrom X.env.cells scope.names []) pm c' ctv) := I2.base.keep f _ hf hfn hfr (fun z => nomatch (show f ∈ ([] : List Addr) from z))
  refine ⟨⟨_, _, _, _, of2⟩, ?_⟩
  subst evs
  obtain ⟨u, rfl, rv⟩ := r2.one
  have un : Un (frs X.stack) [] H H2 s.heap s2.heap := I2.base
  obtain ⟨⟨oc, vs, t', hoc, hdc, hvc⟩, _, _⟩ := I2.hok c' _ hc
  have rc : codeAny (model X.prog X.w) (X.A.deeper (envOfC qg sg s.heap.objs.size g cdg)) (.call (.ref f) ⟨[u], []⟩) (L2.CR CX0 (envOfC qg sg s.heap.objs.size g cdg :: X.stack) X.prog X.w H2 s2 Q E0) s2 := by
    refine PySem.W.kla_callFunE hr.depth of2 rfl L.co L.gen rfl ⟨c', oc, vs, t', rfl, hoc, hdc, hvc⟩ ?_
    rw [hbind]
    refine wpAny_pure (wpAny_newFunctionEnv (fun y hy => (L.own y hy).1) (fun y hy => by
      rw [List.mem_singleton] at hy
      rw [hy]
      exact L.par) (fun h₁ hns hsb => ⟨I2.nolimit.fresh _ hsb, ?_⟩) L.kind)
    show codeAny _ _ (.expr body (lamEnv X scope s2.heap.objs.size f c')) _ _
    have kp : ∀ b o, s2.heap.get? b = some o → h₁.get? b = some o := fun b o e => hsb.extBut b o (Nat.ne_of_lt (Heap.lt_size e)) (Heap.get?_push_of_some _ e)
    have J : Inv (lamCx1 X (X.A.deeper (envOfC qg sg s.heap.objs.size g cdg)) (envOfC qg sg s.heap.objs.size g cdg :: X.stack) s2 H2 scope f c' a) [] (σ ++ [some v]) H2 { s2 with heap := h₁, toks := s2.toks + ([(a, u)] : List (Str × Value)).length } :=
      lam1_start I L hna I2.env0 hr.hd un rv hns kp
    refine PySem.W.kla_codeExpr (wpAny_mono ((hbody _ _ s2 H2 (hr.deeper _)).run [] _ _ H2 Q J q) (fun v s' hq => ?_) fun e s' hq => hq.elim)
    obtain ⟨w', H', J', rv, q⟩ := hq
    exact ⟨w', H', J'.os, J'.bare, J'.base, J'.hok, rv, q⟩
  refine wpAny_call (codeAny_mono rc fun r s' hq => ?_)
  cases r with
  | error e => exact (show False from hq).elim
  | ok fl =>
    cases fl with
    | ret u => exact I2.after hq
    | next => exact False.elim hq
    | brk => exact False.elim hq
    | cont => exact False.elim hq
/-- what x makes of two values and a lambda -/
def tLam3 (T : List (Addr × Str)) (TT : L2.St → V → V → Hp → VK → Prop) (t1 t2 : TE) : TE := fun σ H Q => t1 σ H fun v1 H1 => t2 σ H1 fun v2 H2 => Tabs T H2 ∧ ∀ H3, ExtN H2 H3 → Tabs T H3 → TT σ v1 v2 H3 Q
/-- x(e1, e2, lambda a: body) -/
theorem pe_lamcall3 {T : List (Addr × Str)} {TT : L2.St → V → V → Hp → VK → Prop} {x a y : Str} {g c P : Addr} {k : Nat} {pg : Arguments} {bg : List Stmt} {sg : Scope} {dV kV doc pm cdv ct oc : Value} {an od : Option Addr} {osl : Array (Option Value)} {Ng psg : List Str}
    {params : Arguments} {body e1 e2 : Expr} {scope : Scope} {tb t1 t2 : TE} {p lpos pos : Pos} (hg : Gl X x) (hm : X.mg x = some (.ref g)) (hk : PySem.W.keepIn X.K (.ref g) = true)
    (lk : X.K.lookup g = some ⟨oc, od, .func (PySem.W.fnOf x x pg bg sg dV kV doc pm an cdv ct), osl⟩) (hcg : PySem.W.codeIn X.K cdv x = true) (hb : L2.Binds X.K (PySem.W.fnOf x x pg bg sg dV kV doc pm an cdv ct) psg []) (Sg : FnScope Ng psg sg) (hlen : psg.length = 3) (hNg : Ng[2]? = some y) (hva : Vis sg y)
    (h1 : PE X e1 t1) (h2 : PE X e2 t2)
    (hG : ∀ (σ : L2.St) (f c' : Addr) (s : Shared) (H : Hp) (v1 v2 : V) (Q : VK), Room (k + 1) (X.A.deeper (envOfC x sg s.heap.objs.size g cdv)) →
      (∀ (e : Expr) (t : TA) (p1 p2 : Pos), PA (cxOf CX0 X.prog X.w X.K X.mg X.base Ng x sg g cdv X.A X.stack s H E0).nox [e] t →
        starEach [e] (cxOf CX0 X.prog X.w X.K X.mg X.base Ng x sg g cdv X.A X.stack s H E0).nox.env = [(false, eval e (cxOf CX0 X.prog X.w X.K X.mg X.base Ng x sg g cdv X.A X.stack s H E0).nox.env)] →
        PE (cxOf CX0 X.prog X.w X.K X.mg X.base Ng x sg g cdv X.A X.stack s H E0).nox (.Call (.Name y p1) [e] [] p2)
          (fun σZ HZ Q => σZ[2]? = some (some (.ref f)) ∧ t σZ HZ fun vs H1 => ∃ v, vs = [v] ∧ H1 c' = some (CodeO c' (X.env.qual ++ "<lambda>")) ∧ tb (σ ++ [some v]) H1 Q)) →
      H c' = some (CodeO c' (X.env.qual ++ "<lambda>")) → TT σ v1 v2 H Q →
      ∃ t, PSs (cxOf CX0 X.prog X.w X.K X.mg X.base Ng x sg g cdv X.A X.stack s H E0).nox bg t ∧ t { nx := fun _ H' => Q .non H', rt := Q } (L2.start Ng [v1, v2, .ref f]) H)
    (TB : TabB X.base X.mg c P) (hcode : X.env.code = .ref c) (hmT : (P, X.env.qual ++ "<lambda>") ∈ T) (hu : ∀ p ∈ T, p.1 = P → p.2 = X.env.qual ++ "<lambda>") (hr : Room (k + 2) X.A) (L : LamS1 X.env.scope scope a) (hna : a ∉ X.N) (hdef : defaultsOf params X.env = ([], []))
    (hbind : ∀ (q : Str) (cl : List (Str × Addr)) (pm cv ctv u : Value), bindArgs (PySem.W.kla_fn "<lambda>" q params body scope cl pm cv ctv) ⟨[u], []⟩ = pure [(a, u)])
    (hbody : ∀ (A : Around) (outer : List Env) (s : Shared) (H : Hp) (f c' : Addr), Room k (A.deeper (lamEnv X scope s.heap.objs.size f c')) → PE (lamCx1 X A outer s H scope f c' a) body tb)
    (he1 : starEach [e1, e2, .Lambda params body scope lpos] X.env = (false, eval e1 X.env) :: starEach [e2, .Lambda params body scope lpos] X.env)
    (he2 : starEach [e2, .Lambda params body scope lpos] X.env = [(false, eval e2 X.env), (false, eval (.Lambda params body scope lpos) X.env)])
    (hdb : (x == ("__debug__" : Str)) = false := by decide) (hd : (y == ("__debug__" : Str)) = false := by decide) (hcd : (y == ("__classdict__" : Str)) = false := by decide) :
    PE X (.Call (.Name x p) [e1, e2, .Lambda params body scope lpos] [] pos) (tLam3 T TT t1 t2) := by
  refine ⟨fun pins s σ H Q I h => ?_⟩
  refine wpAny_Call_Name_kw (ld_glob I hg hm ?_ hdb)
  refine PySem.W.callWith_K (h₀ := X.base) I.ok.mod.kin hk ?_ he1 (by rw [he2] <;> rfl)
  rw [he1, he2]
  show wpAny _ _ (spliced [(false, eval e1 X.env), (false, eval e2 X.env), (false, eval (.Lambda params body scope lpos) X.env)]) _ _ s
  refine Calls.spliced_cons (thn (h1.run pins s σ H _ I h) fun u1 s1 ⟨v1, H1, I1, r1, q1⟩ => ?_)
  refine Calls.spliced_cons (thn (h2.run pins s1 σ H1 _ I1 q1) fun u2 s2 ⟨v2, H2, I2, r2, hT, q2⟩ => ?_)
  refine Calls.spliced_cons (lam_make2 I2 TB hcode hmT hu hT hdef (L.has I2.ok) fun f c' pm' ctv H3 s3 I3 eN T3 hf hfn hfr hco => ?_)
  refine Calls.spliced_nil ⟨I3.kIn, ?_⟩
  have rc : codeAny (model X.prog X.w) X.A (.call (.ref g) ⟨[u1, u2, .ref f], []⟩) (L2.CR CX0 X.stack X.prog X.w H3 s3 Q E0) s3 := by
    refine run_ofS (N := Ng) (ps := psg) (us := [u1, u2, .ref f]) (vs := [v1, v2, .ref f]) lk hcg Sg hr I3.env0 (hb s3 [u1, u2, .ref f] I3.kIn (by rw [hlen] <;> rfl)) (.cons r1 (.cons r2 (.cons rfl .nil))) (by rw [hlen] <;> rfl) fun hr' => ?_
    obtain ⟨t', ht', hq'⟩ := hG σ f c' s3 H3 v1 v2 Q hr' (fun e t p1 p2 ha he => pe_act1 (i := 2) I3 L hna hf hfn hfr (hbind _ _ _ _ _) hr' (fun A outer s H hr2 => hbody A outer s H f c' hr2) hNg hva ha he hd hcd) hco (q2 H3 eN T3)
    exact ⟨t', ht'.nox, hq'⟩
  refine wpAny_call (codeAny_mono rc fun r s2 hq => ?_)
  cases r with
  | error e => exact (show False from hq).elim
  | ok fl =>
    cases fl with
    | ret u => exact I3.after hq
    | next => exact False.elim hq
    | brk => exact False.elim hq
    | cont => exact False.elim hq
end
end Lp
set_option Elab.async false
set_option linter.all false
set_option maxRecDepth 100000
set_option maxHeartbeats 4000000
namespace Lp
open PySem PySem.Spec PyProof.Rows L2 Evl
variable {P : Program} {w : World} {K : PySem.W.Frag} {mg : Str → Option Value} {base : Heap}
/-! ### sorted -/
theorem ins_perm (v : Nat) : ∀ l : List Nat, (Sq45.insert v l).Perm (v :: l)
  | [] => .refl _
  | x :: l => by
    unfold Sq45.insert
    split
    · exact .refl _
    · exact ((ins_perm v l).cons x).trans (.swap v x l)
theorem ins_sorted (v : Nat) : ∀ l : List Nat, l.Pairwise (· ≤ ·) → (Sq45.insert v l).Pairwise (· ≤ ·)
  | [], _ => by
    unfold Sq45.insert
    exact List.pairwise_singleton ..
  | x :: l, h => by
    unfold Sq45.insert
    obtain ⟨h1, h2⟩ := List.pairwise_cons.mp h
    split
    · rename_i hv
      refine List.pairwise_cons.mpr ⟨fun y hy => ?_, h⟩
      rcases List.mem_cons.mp hy with z | z
      · rw [z]; exact hv
      · exact Nat.le_trans hv (h1 y z)
    · rename_i hv
      refine List.pairwise_cons.mpr ⟨fun y hy => ?_, ins_sorted v l h2⟩
      rcases List.mem_cons.mp ((ins_perm v l).mem_iff.mp hy) with z | z
      · rw [z]; omega
      · exact h1 y z
theorem sort_fold : ∀ (l m : List Nat), m.Pairwise (· ≤ ·) → (l.foldl (fun m v => Sq45.insert v m) m).Perm (l ++ m) ∧ (l.foldl (fun m v => Sq45.insert v m) m).Pairwise (· ≤ ·)
  | [], m, h => ⟨.refl _, h⟩
  | v :: l, m, h => by
    obtain ⟨h1, h2⟩ := sort_fold l (Sq45.insert v m) (ins_sorted v m h)
    refine ⟨h1.trans ?_, h2⟩
    exact ((ins_perm v m).append_left l).trans List.perm_middle
theorem sort_ok (l : List Nat) : (Sq45.sorted l).Perm l ∧ (Sq45.sorted l).Pairwise (· ≤ ·) := by
  have z := sort_fold l [] List.Pairwise.nil
  rw [List.append_nil] at z
  exact z
theorem sort_is {l : List Nat} {ns : List Int} (h1 : ns.Perm (l.map fun (i : Nat) => (i : Int))) (h2 : ns.Pairwise (· ≤ ·)) : ns = (Sq45.sorted l).map fun (i : Nat) => (i : Int) := by
  obtain ⟨p, q⟩ := sort_ok l
  refine List.Perm.eq_of_pairwise (le := (· ≤ ·)) (fun a b _ _ h1 h2 => by omega) h2 ?_ (h1.trans ((p.map fun (i : Nat) => (i : Int)).symm))
  exact q.map _ fun a b h => by omega
/-- a def whose code object is known -/
theorem mkL {x qual : Str} {params : Arguments} {body : List Stmt} {scope : Scope} {f : Addr} {N ps : List Str} {k : Nat} {sp : Sp} {d : Str × Option Str} (F : ∃ fd, FunD K x qual params body scope [] [] f fd) (S : FnScope N ps scope) (hb : Bnd x qual params body scope ps) (len : ∀ vs H Q E, sp vs H Q E → vs.length = ps.length) (hf : f = He.fAd K d)
    (h : ∀ (cdv : Value), cdv = .ref (He.codeOf K d) → ∀ (A : Around) (outer : List Env) (s : Shared) (H : Hp) (vs : List V) (Q : VK) (E : XK), Room k (A.deeper (envOfC qual scope s.heap.objs.size f cdv)) → sp vs H Q E →
      ∃ t, PSs (cxOf CX0 P w K mg base N qual scope f cdv A outer s H E).nox body t ∧ t { nx := fun _ H' => Q .non H', rt := Q } (start N vs) H) : Ok P w K mg base CX0 (k + 1) f ps sp := by
  obtain ⟨fd, F⟩ := F
  refine ⟨⟨fd, ?_, F.bindsN hb⟩, F.kp⟩
  obtain ⟨oc, od, dV, kV, doc, pm, an, cdv, ct, osl, rfl, lk, hcd, _, _⟩ := F.ex
  obtain ⟨c, hc⟩ := He.codeIn_ref hcd
  have e : He.codeOf K d = c := He.codeOf_eq (by rw [← hf]; exact lk) hc
  refine fn_of lk hcd S len fun A outer s H vs Q E hr hsp => ?_
  obtain ⟨t, h1, h2⟩ := h cdv (by rw [e]; exact hc) A outer s H vs Q E hr hsp
  exact ⟨t, h1.nox, h2⟩
/-! ### by windows -/
abbrev bwN : List Str := ["picture", "r", "colour_of", "dots", "found", "place"]
def bwF (s : Sq50.State) (r : Nat) (colf : List Nat → Nat) (i : Nat) : Option (Nat × Nat) := if mayB s i = true then some (colf (pWindow s i r), (dotN s i).2) else none
theorem colN_le {s : Sq50.State} (W : WF s) (i : Nat) : colN s i ≤ 255 := by
  unfold colN colL
  rw [List.getElem?_map]
  cases h : s.layer.dots[i]? with
  | none => exact Nat.zero_le _
  | some d => exact (W.lay_ok.dots d (List.mem_of_getElem? h)).1
theorem pWin_all {s : Sq50.State} (W : WF s) (i r : Nat) : (pWindow s i r).length = (2 * r + 1) * (2 * r + 1) ∧ ∀ x ∈ pWindow s i r, x ≤ 255 := by
  refine ⟨pWin_len s i r _, fun x hx => ?_⟩
  obtain ⟨j, _, hj⟩ := List.mem_flatMap.mp hx
  unfold wRow at hj
  obtain ⟨k, _, rfl⟩ := List.mem_map.mp hj
  exact colN_le W _
theorem ne_snoc {l : List Nat} (h : l.Nodup) {i n : Nat} (hn : l[i]? = some n) : n ∉ l.take i := fun hm => by
  obtain ⟨j, hj, e⟩ := List.getElem_of_mem hm
  have hil := (List.getElem?_eq_some_iff.mp hn).1
  have hjl : j < i := by rw [List.length_take] at hj; omega
  rw [List.getElem_take] at e
  have e2 : l[i] = n := (List.getElem?_eq_some_iff.mp hn).2
  have z := (List.pairwise_iff_getElem.mp h) j i (by omega) hil hjl
  exact z (e.trans e2.symm)
/-- the dict of what was found so far -/
def BwD (K : PySem.W.Frag) (d : Addr) (H : Hp) (F : Nat → Nat × Nat) (l : List Nat) (kvs : List (Key × V)) : Prop := Paired (fun (kv : Key × V) (n : Nat) => kv.1 = .inl (n : Int) ∧ ∃ c, kv.2 = .ref c ∧ c ≠ d ∧ H c = some (.tup [.int ((F n).1 : Int), .int ((F n).2 : Int)])) kvs l
theorem BwD.keys {d : Addr} {H : Hp} {F : Nat → Nat × Nat} {l : List Nat} {kvs : List (Key × V)} (h : BwD K d H F l kvs) : kvs.map (·.1) = l.map fun (n : Nat) => (.inl (n : Int) : Key) := by
  unfold BwD at h
  induction h with
  | nil => rfl
  | cons r _ ih => rw [List.map_cons, List.map_cons, ih, r.1]
theorem BwD.val {d : Addr} {H : Hp} {F : Nat → Nat × Nat} : ∀ {l : List Nat} {kvs : List (Key × V)}, BwD K d H F l kvs → ∀ n : Nat, (n ∈ l → ∃ v, valV kvs (.inl (n : Int)) = some v ∧ DotAt K H v (F n)) ∧ (n ∉ l → valV kvs (.inl (n : Int)) = none)
  | _, _, .nil, n => ⟨fun h => by simp at h, fun _ => rfl⟩
  | _, _, .cons (a := kv) (b := m) (l₁ := kvs) (l₂ := l) r t, n => by
    obtain ⟨h1, c, h2, h3, h4⟩ := r
    by_cases e : m = n
    · subst e
      refine ⟨fun _ => ⟨kv.2, valV_pos h1, c, h2, st_of h4⟩, fun h => absurd List.mem_cons_self h⟩
    · have hne : ¬ kv.1 = .inl (n : Int) := fun z => by
        rw [h1] at z
        have := Sum.inl.inj z
        omega
      rw [valV_neg hne]
      have ih := BwD.val t n
      exact ⟨fun h => ih.1 (by rcases List.mem_cons.mp h with z | z; exact absurd z.symm e; exact z), fun h => ih.2 fun z => h (List.mem_cons_of_mem _ z)⟩
theorem byw_all (T : Tx K mg) {cdv : Value} {A : Around} {outer : List Env} {sh : Shared} {H : Hp} {E : XK} {Q : VK} (hr : Room 5 (A.deeper (envOfC "by_windows" (defScope s_by_windows) sh.heap.objs.size (He.ga K "by_windows") cdv))) {tc : TA → TE} {fv : V}
    (act : ∀ (e : Expr) (t : TA) (p1 p2 : Pos), PA (cxOf CX0 P w K mg base bwN "by_windows" (defScope s_by_windows) (He.ga K "by_windows") cdv A outer sh H E).nox [e] t →
      starEach [e] (cxOf CX0 P w K mg base bwN "by_windows" (defScope s_by_windows) (He.ga K "by_windows") cdv A outer sh H E).nox.env = [(false, eval e (cxOf CX0 P w K mg base bwN "by_windows" (defScope s_by_windows) (He.ga K "by_windows") cdv A outer sh H E).nox.env)] →
      PE (cxOf CX0 P w K mg base bwN "by_windows" (defScope s_by_windows) (He.ga K "by_windows") cdv A outer sh H E).nox (.Call (.Name "colour_of" p1) [e] [] p2) (tc t))
    {s : Sq50.State} {p aL aC : Addr} {r : Nat} (colf : List Nat → Nat) (hP : PicA K H p s aL aC) (W : WF s) (hr10 : r ≤ 10)
    (hcol : ∀ (σ : L2.St) (H1 : Hp) (ta : TE) (l : List Nat), Ex H H1 → σ[2]? = some (some fv) → EvN ta σ H1 (fun g H' => H' g = some (.lst (nums l))) → l.length = (2 * r + 1) * (2 * r + 1) → (∀ x ∈ l, x ≤ 255) → Ev (tc (tCons ta tNil)) σ H1 (.int (colf l : Int)))
    (k : GivesN (fun y H' => ∃ aL', PicA K H' y (setD s (chD s (bwF s r colf))) aL' aC) H Q) :
    ∃ t, PSs (cxOf CX0 P w K mg base bwN "by_windows" (defScope s_by_windows) (He.ga K "by_windows") cdv A outer sh H E).nox (defBody s_by_windows) t ∧ t { nx := fun _ H' => Q .non H', rt := Q } (start bwN [.ref p, .int (r : Int), fv]) H := by
  refine ⟨_, (pss_cons (ps_set (i := 3) sc_by_windows.nd rfl (Or.inl rfl) (kfld (K := K) (om0 (ok_Picture_worked_on T) T.c_Picture T.m_Picture_worked_on hr (by decide) ((pass0 : Passes CX0 _ E0)) (pv 0)) rfl))
    (pss_cons (ps_set (i := 4) sc_by_windows.nd rfl (Or.inl rfl) pe_dnewK)
    (pss_cons (ps_for PassesOwn.never rfl (kpi_list (K := K) (om0 (ok_Picture_may_change T) T.c_Picture T.m_Picture_may_change hr (by decide) ((pass0 : Passes CX0 _ E0)) (pv 0))) (pg_name (i := 5) sc_by_windows.nd rfl (Or.inl rfl)) (pss_one (ps_dput (by exact hu_of hr) (pv 4) (pv 5) (pe_tup (pa_cons (act _ _ _ _ (pa_cons (oc (ok_window T) hr (by decide) T.g_window ((pass0 : Passes CX0 _ E0)) (pa_cons (pv 0) (pa_cons (pv 5) (pa_cons (pv 1) pa_nil)))) pa_nil) rfl) (pa_cons (pe_ix (kix_tup (K := K)) (pe_ix (kix_list (K := K)) (pv 3) (pv 5) (fun _ _ => rfl)) pe_int (fun _ _ => rfl)) pa_nil))) rfl)))
    (pss_one (ps_ret (oc (ok_changed T) hr (by decide) T.g_changed ((pass0 : Passes CX0 _ E0)) (pa_cons (pv 0) (pa_cons (pv 4) pa_nil)))))))), ?_⟩
  have w1 := W.w1
  have w2 := W.w2
  have hml := mayL_len W
  have hds : s.layer.dots.length = s.w * s.h := W.lay_ok.len
  refine q_asgP (evp_workdots T (ev_var rfl) hP W) fun v H1 e1 ⟨aD, ev, vs, hv, hpr⟩ => ?_
  subst ev
  have hlen := pair_len hpr
  replace hP := hP.ex e1
  intro d nd
  have nd0 : H d = none := fresh_back e1 nd
  have e2 : Ex H1 (upd H1 d (.dK [])) := Ex.new nd
  refine q_forNLn (xs := nums (mayL s)) (EvN.l (evn_may (ev_var rfl) (hP.ex e2) W)) (fun b i σ' H' => b ≠ d ∧ H' b = some (.lst (nums (mayL s))) ∧ Ex H1 H' ∧ (∃ kvs, H' d = some (.dK kvs) ∧ BwD K d H' (fun n => (colf (pWindow s n r), (dotN s n).2)) ((mayL s).take i) kvs) ∧ ∃ x5, σ' = [some (.ref p), some (.int (r : Int)), some fv, some (.ref aD), some (.ref d), x5])
    (fun b H2 nb eb hb => ⟨new_ne nb (by rw [upd_same]; simp), hb, e2.trans eb, ⟨[], eb _ _ upd_same, by rw [List.take_zero]; exact .nil⟩, none, rfl⟩) (fun b i σ' H' _ h => sq_of h.2.1) ?_ ?_
  · rintro b i x σ' H2 hx ⟨b1, hb2, e12, ⟨kvs, hk, hB⟩, x5, rfl⟩
    obtain ⟨n, hn, rfl⟩ : ∃ n, (mayL s)[i]? = some n ∧ x = .int (n : Int) := by
      rw [List.getElem?_map] at hx
      cases hn : (mayL s)[i]? with
      | none => rw [hn] at hx; cases hx
      | some n => rw [hn] at hx; exact ⟨n, rfl, (Option.some.inj hx).symm⟩
    have hnl := mayL_lt (List.mem_of_getElem? hn)
    obtain ⟨l1, l2⟩ := pWin_all W n r
    have hP2 := hP.ex e12
    obtain ⟨v, hvn, rd, rfl, hT⟩ := pair_get hpr (List.getElem?_eq_getElem (by omega : n < s.layer.dots.length))
    have hdn : dotN s n = s.layer.dots[n]'(by omega) := by
      unfold dotN
      rw [List.getElem?_eq_getElem (by omega : n < s.layer.dots.length)]
      rfl
    refine (eu_tup (ea_cons (hcol _ H2 _ (pWindow s n r) (e1.trans e12) rfl (evn_call (ea_cons (ev_var rfl) (ea_cons (ev_var rfl) (ea_cons (ev_var rfl) ea_nil))) fun H3 e3 Q E q => ⟨_, _, _, rfl, s, p, aL, aC, n, r, rfl, hP2.ex e3, W, rfl, rfl, hnl, hr10, q⟩) l1 l2)
      (ea_cons (ev_op (ev_op (ev_var rfl) (ev_var rfl) (rv_ixL (sq_of (e12 _ _ hv)) (atI_nat hvn))) ev_c (rv_ixT (v := .int ((dotN s n).2 : Int)) (ex_t e12 hT) (by rw [hdn]; rfl))) ea_nil)) (by show 2 ≤ 100000; decide)) H2 (Ex.refl _) _ fun c H3 n3 e3 hc => ?_
    refine ev_var (v := .ref d) rfl H3 (Ex.refl _) _ fun H4 e4 => ev_var (v := .int (n : Int)) rfl H4 (Ex.refl _) _ fun H5 e5 => ?_
    have e35 := e4.trans e5
    have e25 := e3.trans e35
    have hk5 := e25 _ _ hk
    have hcd : c ≠ d := new_ne n3 (by rw [hk]; simp)
    have hkn : valV kvs (.inl (n : Int)) = none := (hB.val n).2 (ne_snoc (mayL_nd s) hn)
    have hkl := pair_len hB
    rw [List.length_take] at hkl
    refine ⟨d, _, rfl, DPut.k (k := .inl (n : Int)) hk5 (sz_lt (by omega)), ⟨b1, ?_, Ex.mut (e12.trans e25) nd, ⟨_, upd_same, ?_⟩, _, rfl⟩⟩
    · rw [upd_ne b1]
      exact e25 _ _ hb2
    · rw [putK_new _ hkn, take_snoc hn]
      refine pair_app (L2.Paired.mapP hB fun kv m ⟨z1, c', z2, z3, z4⟩ => ⟨z1, c', z2, z3, by rw [upd_ne z3]; exact e25 _ _ z4⟩) (.cons ⟨rfl, c, rfl, hcd, ?_⟩ .nil)
      rw [upd_ne hcd]
      exact e35 _ _ hc
  · rintro b σ' H2 ⟨b1, hb2, e12, ⟨kvs, hk, hB⟩, x5, rfl⟩
    rw [nums_len, List.take_length] at hB
    refine s_retN (evn_call (R := fun y H' => ∃ aL', PicA K H' y (setD s (chD s (bwF s r colf))) aL' aC) (ea_cons (ev_var rfl) (ea_cons (ev_var rfl) ea_nil)) fun H3 e3 Q E q => ⟨_, _, rfl, s, p, aL, aC, d, kvs, bwF s r colf, rfl, hP.ex (e12.trans e3), W, rfl, e3 _ _ hk, fun i hi => ?_, q⟩) fun y H3 n e r => k y H3 (fresh_back (e1.trans e12) n) ((e1.trans e12).trans e) r
    unfold bwF
    by_cases hm : mayB s i = true
    · obtain ⟨v, h1, h2⟩ := (hB.val i).1 (mayL_mem.mpr ⟨hi, hm⟩)
      rw [if_pos hm]
      exact .inr ⟨v, _, rfl, h1, h2.ex e3⟩
    · rw [if_neg hm]
      exact .inl ⟨rfl, (hB.val i).2 fun z => hm (mayL_mem.mp z).2⟩
def sp_byw (K : PySem.W.Frag) : Sp := P3 fun a b c H Q _ => ∃ (s : Sq50.State) (p aL aC : Addr) (r : Nat), a = .ref p ∧ PicA K H p s aL aC ∧ WF s ∧ b = .int (r : Int) ∧ c = .ref (He.ga K "mean") ∧ r ≤ 10 ∧ GivesN (fun y H' => ∃ aL', PicA K H' y (setD s (chD s (bwF s r Sq45.mean))) aL' aC) H Q
theorem ok_by_windows (T : Tx K mg) : Ok P w K mg base CX0 6 (He.ga K "by_windows") ["picture", "r", "colour_of"] (sp_byw K) := by
  refine mk0 T.f_by_windows sc_by_windows bd_by_windows P3.len fun cdv A outer sh H vs Q E hr h => ?_
  obtain ⟨_, _, _, rfl, s, p, aL, aC, r, rfl, hP, W, rfl, rfl, hr10, k⟩ := h
  obtain ⟨⟨fd, F, b⟩, kp⟩ := ok_mean (P := P) (w := w) (base := base) T
  refine byw_all T hr (tc := tCallL 2 (He.ga K "mean") (sp_mean K) [] E0) (fun e t p1 p2 ha he => pe_callL F (hr.mono (by decide)) rfl (.inl rfl) kp b .nil pass0 ha (he := he)) Sq45.mean hP W hr10 (fun σ H1 ta l e hσ hl h1 h2 => ?_) k
  intro H2 e2 Q2 q2
  refine ⟨hσ, hl H2 e2 _ fun g H3 n3 e3 hg => ?_⟩
  have hll : (2 * r + 1) * (2 * r + 1) ≤ 21 * 21 := Nat.mul_le_mul (by omega) (by omega)
  have hpos : 1 * 1 ≤ (2 * r + 1) * (2 * r + 1) := Nat.mul_le_mul (by omega) (by omega)
  exact ⟨_, rfl, g, l, rfl, hg, fun z => by rw [z] at h1; simp at h1, by omega, h2, fun v H4 e4 r => by rw [r]; exact q2 H4 (e3.trans e4)⟩
def sp_smooth (K : PySem.W.Frag) : Sp := P2 fun a b H Q _ => ∃ (s : Sq50.State) (p aL aC : Addr) (r : Nat), a = .ref p ∧ PicA K H p s aL aC ∧ WF s ∧ b = .int (r : Int) ∧ r ≤ 10 ∧ GivesN (fun y H' => ∃ aL', PicA K H' y (setD s (chD s (bwF s r Sq45.mean))) aL' aC) H Q
theorem ok_smoothed (T : Tx K mg) : Ok P w K mg base CX0 (6 + 1) (He.ga K "smoothed") ["picture", "r"] (sp_smooth K) := by
  refine mk0 T.f_smoothed sc_smoothed bd_smoothed P2.len (fun cdv A outer s H vs Q E hr h => ⟨_, (pss_one (ps_ret (oc (ok_by_windows T) hr (by decide) T.g_by_windows ((pass0 : Passes CX0 _ E0)) (pa_cons (pv 0) (pa_cons (pv 1) (pa_cons (pgr T.g_mean) pa_nil)))))), ?_⟩)
  obtain ⟨_, _, rfl, s, p, aL, aC, r, rfl, hP, W, rfl, hr10, k⟩ := h
  exact s_retN (evn_call (ea_cons (ev_var rfl) (ea_cons (ev_var rfl) (ea_cons ev_c ea_nil))) fun H1 e1 Q E q => ⟨_, _, _, rfl, s, p, aL, aC, r, rfl, hP.ex e1, W, rfl, rfl, hr10, q⟩) fun y H1 n e r => k y H1 n e r
end Lp
set_option Elab.async false
set_option linter.all false
set_option maxRecDepth 100000
set_option maxHeartbeats 4000000
/-! What is kept by all: anything but tables of code, editors and histories. -/
namespace Lp
open PySem PySem.Spec PyProof.Rows L2 Evl
variable {K : PySem.W.Frag}
def Im : HO → Prop
  | .tbl _ => False
  | .ins _ _ fs => fs.lookup ("picture" : Str) = none ∧ fs.lookup ("budget" : Str) = none ∧ fs ≠ []
  | _ => True
structure Kp (H H' : Hp) : Prop where
  keep : ∀ a o, H a = some o → Im o → H' a = some o
/-- nothing that is kept stands there -/
def Fr (H : Hp) (a : Addr) : Prop := ∀ o, H a = some o → ¬ Im o
section
variable {H H1 H2 : Hp} {a p aL aC aD : Addr} {v : V}
theorem Kp.refl (H : Hp) : Kp H H := ⟨fun _ _ h _ => h⟩
theorem Kp.trans (x : Kp H H1) (y : Kp H1 H2) : Kp H H2 := ⟨fun a o h i => y.keep a o (x.keep a o h i) i⟩
theorem Kp.of (e : Ex H H1) : Kp H H1 := ⟨fun a o h _ => e a o h⟩
theorem Fr.of (h : H a = none) : Fr H a := fun o e => by
  rw [h] at e
  cases e
theorem Kp.fresh (x : Kp H H1) (h : Fr H1 p) : Fr H p := fun o e i => h o (x.keep _ _ e i) i
theorem Fr.ne {o : HO} (h : Fr H p) (e : H a = some o) (i : Im o) : p ≠ a := fun z => h o (by rw [z]; exact e) i
/-- an object that may change, changed; one that H does not know -/
theorem Kp.upd {o' : HO} (x : Kp H H1) (h : Fr H a) : Kp H (L2.upd H1 a o') := ⟨fun b u hb ib => by
  rw [upd_ne (Ne.symm (h.ne hb ib))]
  exact x.keep b u hb ib⟩
theorem rd_kp {u : HO} (x : Kp H H1) (h : Rd H a u) (i : Im u) : Rd H1 a u := by
  rcases h with h | ⟨o, h⟩
  · exact .inl (x.keep _ _ h i)
  · exact .inr ⟨o, x.keep _ _ h trivial⟩
theorem sq_kp {xs : List V} (h : SqL K H a xs) (x : Kp H H1) : SqL K H1 a xs := by
  rcases h with h | h
  · exact .inl (rd_kp x h trivial)
  · exact .inr h
theorem st_kp {xs : List V} (h : SqT K H a xs) (x : Kp H H1) : SqT K H1 a xs := by
  rcases h with h | h
  · exact .inl (rd_kp x h trivial)
  · exact .inr h
theorem DotAt.kp {d : Nat × Nat} (h : DotAt K H v d) (x : Kp H H1) : DotAt K H1 v d := by
  obtain ⟨r, h1, h2⟩ := h
  exact ⟨r, h1, st_kp h2 x⟩
theorem DotsAt.kp {ds : List (Nat × Nat)} (h : DotsAt K H a ds) (x : Kp H H1) : DotsAt K H1 a ds := by
  obtain ⟨vs, h1, h2⟩ := h
  exact ⟨vs, x.keep _ _ h1 trivial, L2.Paired.mapP h2 fun _ _ z => z.kp x⟩
theorem im_lF {C dx : Addr} {l : Sq50.Layer} : Im (.ins C dx (lF l aD)) := ⟨(lk_past (by decide +kernel)).trans ((lk_past (by decide +kernel)).trans ((lk_past (by decide +kernel)).trans ((lk_past (by decide +kernel)).trans ((lk_past (by decide +kernel)).trans rfl)))), (lk_past (by decide +kernel)).trans ((lk_past (by decide +kernel)).trans ((lk_past (by decide +kernel)).trans ((lk_past (by decide +kernel)).trans ((lk_past (by decide +kernel)).trans rfl)))), fun z => by cases z⟩
theorem im_pF {C dx : Addr} {s : Sq50.State} : Im (.ins C dx (pF s aL aC)) := ⟨pF_no (by decide +kernel), pF_no (by decide +kernel), fun z => by cases z⟩
theorem LayA.kp {l : Sq50.Layer} (h : LayA K H a l aD) (x : Kp H H1) : LayA K H1 a l aD := by
  obtain ⟨⟨dx, h1⟩, h2⟩ := h
  exact ⟨⟨dx, x.keep _ _ h1 im_lF⟩, h2.kp x⟩
theorem LayAt.kp {l : Sq50.Layer} (h : LayAt K H v l) (x : Kp H H1) : LayAt K H1 v l := by
  obtain ⟨a, aD, h1, h2⟩ := h
  exact ⟨a, aD, h1, h2.kp x⟩
theorem LaysAt.kp {ls : List Sq50.Layer} (h : LaysAt K H a ls) (x : Kp H H1) : LaysAt K H1 a ls := by
  obtain ⟨vs, h1, h2⟩ := h
  exact ⟨vs, x.keep _ _ h1 trivial, L2.Paired.mapP h2 fun _ _ z => z.kp x⟩
theorem PicA.kp {s : Sq50.State} (h : PicA K H a s aL aC) (x : Kp H H1) : PicA K H1 a s aL aC := by
  obtain ⟨⟨dx, h1⟩, h2, h3⟩ := h
  exact ⟨⟨dx, x.keep _ _ h1 im_pF⟩, h2.kp x, x.keep _ _ h3 trivial⟩
theorem AsideAt.kp {l : List (Nat × Nat × (Nat × Nat))} (h : AsideAt K H a l) (x : Kp H H1) : AsideAt K H1 a l := by
  obtain ⟨vs, h1, h2⟩ := h
  exact ⟨vs, x.keep _ _ h1 trivial, L2.Paired.mapP h2 fun _ _ ⟨r, vd, q, z, y⟩ => ⟨r, vd, q, st_kp z x, y.kp x⟩⟩
/-- all but tables of code stays -/
abbrev Kt (H H' : Hp) : Prop := LamX.ExtN H H'
/-- nothing but a table of code stands there -/
def Ft (H : Hp) (a : Addr) : Prop := ∀ o, H a = some o → ∃ ps, o = .tbl ps
theorem Ft.of (h : H a = none) : Ft H a := fun o e => by
  rw [h] at e
  cases e
theorem Ft.back (x : Kt H H1) (h : Ft H1 p) : Ft H p := fun o e => by
  by_cases z : ∃ ps, o = .tbl ps
  · exact z
  · exact h o (x _ _ e fun ps q => z ⟨ps, q⟩)
theorem Ft.fr (h : Ft H a) : Fr H a := fun o e i => by
  obtain ⟨ps, rfl⟩ := h o e
  exact i
/-- behind a lambda's making -/
theorem Kp.ofN (e : LamX.ExtN H H1) : Kp H H1 := ⟨fun a o h i => e a o h fun ps z => by
  rw [z] at i
  exact i⟩
end
end Lp
set_option Elab.async false
set_option linter.all false
set_option maxRecDepth 100000
set_option maxHeartbeats 4000000
namespace Lp
open PySem PySem.Spec PyProof.Rows L2 Evl
variable {P : Program} {w : World} {K : PySem.W.Frag} {mg : Str → Option Value} {base : Heap}
abbrev rkD : Str × Option Str := ("ranked", none)
def rkQ : Str := ("ranked" : Str) ++ ".<locals>." ++ "<lambda>"
def TT1 (K : PySem.W.Frag) : List (Addr × Str) := [((He.cT K rkD).2, rkQ)]
abbrev TBs (K : PySem.W.Frag) (mg : Str → Option Value) (base : Heap) : Prop := LamX.TabB base mg (He.cT K rkD).1 (He.cT K rkD).2
/-- the table of code stands -/
abbrev Tk (K : PySem.W.Frag) (H : Hp) : Prop := LamX.Tabs (TT1 K) H
theorem Tk.ex {H H' : Hp} (t : Tk K H) (e : Ex H H') : Tk K H' := LamX.Tabs.ext t e
def GivesK (K : PySem.W.Frag) (R : Addr → Hp → Prop) (H : Hp) (Q : VK) : Prop := ∀ y H', Ft H y → Kt H H' → Tk K H' → R y H' → Q (.ref y) H'
theorem GivesK.to {R : Addr → Hp → Prop} {H H1 : Hp} {Q : VK} (k : GivesK K R H Q) (x : Kt H H1) : GivesK K R H1 Q := fun y H' n x1 t r => k y H' (n.back x) (x.trans x1) t r
theorem GivesK.n {R : Addr → Hp → Prop} {H : Hp} {Q : VK} (k : GivesK K R H Q) (t : Tk K H) : GivesN R H Q := fun y H' n e r => k y H' (.of n) (.of e) (t.ex e) r
theorem el_sorted {σ : L2.St} {H : Hp} {te : TE} {a : Addr} {l : List Nat} (h : Ev te σ H (.ref a)) (hx : H a = some (.lst (nums l))) : EvL (tCB (rSortedI K) (tCons te tNil)) σ H (nums (Sq45.sorted l)) := fun H1 e Q q =>
  h H1 e _ fun H2 e2 => ⟨a, l.map fun (i : Nat) => (i : Int), rfl, sq_of (by rw [List.map_map]; exact (e.trans e2) _ _ hx), fun ns p h1 h2 hp => q p _ (fresh_back e2 hp) (e2.trans (Ex.new hp)) (by
    rw [upd_same, sort_is h1 h2, List.map_map]
    rfl)⟩
theorem ranked_at {p q : Nat} {l : List Nat} (h : l ≠ []) (hq : 0 < q) (hp : p ≤ q) : (nums (Sq45.sorted l))[p * (l.length - 1) / q]? = some (.int (Sq45.ranked p q l : Int)) := by
  have hl := (sort_ok l).1.length_eq
  have hpos := List.length_pos_iff.mpr h
  have hlt : p * (l.length - 1) / q < (Sq45.sorted l).length := by
    rw [hl]
    have h1 : p * (l.length - 1) ≤ q * (l.length - 1) := Nat.mul_le_mul_right _ hp
    have h2 : p * (l.length - 1) / q ≤ q * (l.length - 1) / q := Nat.div_le_div_right h1
    rw [Nat.mul_div_cancel_left _ hq] at h2
    omega
  unfold Sq45.ranked
  rw [List.getElem?_map, List.getElem?_eq_getElem hlt]
  rfl
def sp_ranked (K : PySem.W.Frag) : Sp := P4 fun a b c d H Q _ => ∃ (s : Sq50.State) (p aL aC : Addr) (r pp qq : Nat), a = .ref p ∧ PicA K H p s aL aC ∧ WF s ∧ b = .int (r : Int) ∧ c = .int (pp : Int) ∧ d = .int (qq : Int) ∧ r ≤ 10 ∧ 0 < qq ∧ pp ≤ qq ∧ qq < 2 ^ 64 ∧ Tk K H ∧
  GivesK K (fun y H' => ∃ aL', PicA K H' y (setD s (chD s (bwF s r (Sq45.ranked pp qq)))) aL' aC) H Q
def rkT (K : PySem.W.Frag) (pp qq : Nat) : L2.St → V → V → Hp → VK → Prop := fun σ v1 v2 H Q => ∃ (x0 x1 : Option V) (s : Sq50.State) (p aL aC : Addr) (r : Nat), σ = [x0, x1, some (.int (pp : Int)), some (.int (qq : Int))] ∧ v1 = .ref p ∧ PicA K H p s aL aC ∧ WF s ∧ v2 = .int (r : Int) ∧ r ≤ 10 ∧ 0 < qq ∧ pp ≤ qq ∧ qq < 2 ^ 64 ∧
  GivesN (fun y H' => ∃ aL', PicA K H' y (setD s (chD s (bwF s r (Sq45.ranked pp qq)))) aL' aC) H Q
def rkB (K : PySem.W.Frag) : TE := tOp (rIxL K) (tCB (rSortedI K) (tCons (tVar 4) tNil)) (tOp (rI CDivW fun i j => .int (i / j)) (tOp (rI CMulW fun i j => .int (i * j)) (tVar 2) (tOp (rI0 fun i j => .int (i - j)) (tCB (rLenS K) (tCons (tVar 4) tNil)) (tC (.int 1)))) (tVar 3))
theorem ev_rkB {H : Hp} {x0 x1 : Option V} {pp qq : Nat} {g : Addr} {l : List Nat} (hg : H g = some (.lst (nums l))) (hl : l ≠ []) (hz : l.length ≤ 1000) (hq : 0 < qq) (hp : pp ≤ qq) (hb : qq < 2 ^ 64) :
    Ev (rkB K) [x0, x1, some (.int (pp : Int)), some (.int (qq : Int)), some (.ref g)] H (.int (Sq45.ranked pp qq l : Int)) := fun H1 e Q q => by
  have hpos := List.length_pos_iff.mpr hl
  have e0 : ((nums l).length : Int) - 1 = ((l.length - 1 : Nat) : Int) := by rw [nums_len]; omega
  refine el_sorted (ev_var rfl) hg H1 e _ fun a H2 n2 e2 ha => ?_
  refine ev_op (ev_op (ev_var rfl) (ev_op (ev_len (ev_var rfl) (sq_of ((e.trans e2) _ _ hg))) ev_c rv_I0) (rv_I (wide_mul (a := 65) (b := 11) ?_ ?_ (by decide) (by decide) (by decide)))) (ev_var rfl) (rv_I (wide_div (b := 65) (by omega) (by omega) (by decide) (by decide))) H2 (Ex.refl _) _ fun H3 e3 => ?_
  · omega
  · rw [e0]; omega
  · refine ⟨a, _, _, _, rfl, rfl, sq_of (e3 _ _ ha), ?_, q H3 (e2.trans e3)⟩
    have e1 : (pp : Int) * (((nums l).length : Int) - 1) / (qq : Int) = ((pp * (l.length - 1) / qq : Nat) : Int) := by
      rw [e0]
      push_cast
      rfl
    rw [e1]
    exact atI_nat (ranked_at hl hq hp)
theorem ok_ranked (T : Tx K mg) (B : TBs K mg base) : Ok P w K mg base CX0 7 (He.ga K "ranked") ["picture", "r", "p", "q"] (sp_ranked K) := by
  refine mkL T.f_ranked sc_ranked bd_ranked P4.len (d := rkD) rfl fun cdv hcdv A outer sh H vs Q E hr h => ?_
  obtain ⟨_, _, _, _, rfl, s, p, aL, aC, r, pp, qq, rfl, hP, W, rfl, rfl, rfl, hr10, hq0, hpq, hqb, hTk, k⟩ := h
  obtain ⟨fdB, FB⟩ := T.f_by_windows
  have hbB := FB.bindsN bd_by_windows
  obtain ⟨oc, od, dV, kV, doc, pm, an, cdvB, ct, osl, rfl, lk, hcdB, _, _⟩ := FB.ex
  refine ⟨_, pss_one (ps_ret (pe_lamcall3 (k := 4) (T := TT1 K) (TT := rkT K pp qq) (tb := rkB K) (a := "colours") (y := "colour_of") rfl T.g_by_windows FB.kp lk hcdB hbB sc_by_windows rfl rfl (.inl rfl) (pv 0) (pv 1) ?hG B hcdv (List.mem_singleton.mpr rfl) (fun p hp _ => by rw [List.mem_singleton.mp hp] <;> rfl) hr (lamS1_by (by kernel_rfl)) (by show ("colours" : Str) ∉ (["picture", "r", "p", "q"] : List Str); decide +kernel) rfl (fun q cl pm cv ctv u => by kernel_rfl)
    (fun A outer s H f c' hr2 => by exact (pe_ix (kix_list (K := K)) (pe_callB (k_sorted (K := K)) (by rfl) T.b_sorted (by decide +kernel) (pa_cons (pv 4) pa_nil)) (pe_op op_fdivW (pe_op op_mulW (pv 2) (pe_op op_sub (pe_callB (k_len (K := K)) (by rfl) T.b_len (by decide +kernel) (pa_cons (pv 4) pa_nil)) pe_int)) (pv 3)) (fun _ _ => rfl))) rfl rfl)), ?_⟩
  case hG =>
    rintro σ f c' sh2 H2 v1 v2 Q2 hr' act hco ⟨x0, x1, s, p, aL, aC, r, rfl, rfl, hP, W, rfl, hr10, hq0, hpq, hqb, k⟩
    refine byw_all T hr' act (Sq45.ranked pp qq) hP W hr10 (fun σ H1 ta l e hσ hl h1 h2 => ?_) k
    intro H3 e3 Q3 q3
    refine ⟨hσ, hl H3 e3 _ fun g H4 n4 e4 hg => ?_⟩
    have hll : (2 * r + 1) * (2 * r + 1) ≤ 21 * 21 := Nat.mul_le_mul (by omega) (by omega)
    have hpos : 1 * 1 ≤ (2 * r + 1) * (2 * r + 1) := Nat.mul_le_mul (by omega) (by omega)
    exact ⟨_, rfl, ((e.trans e3).trans e4) _ _ hco, ev_rkB hg (fun z => by rw [z] at h1; simp at h1) (by omega) hq0 hpq hqb H4 (Ex.refl _) _ fun H5 e5 => q3 H5 (e4.trans e5)⟩
  · refine ⟨_, rfl, _, rfl, hTk, fun H3 eN T3 => ⟨_, _, s, p, aL, aC, r, rfl, rfl, hP.kp (.ofN eN), W, rfl, hr10, hq0, hpq, hqb, fun y H4 n4 e4 r4 => k y H4 ((Ft.of n4).back eN) (eN.trans (.of e4)) (T3.ext e4) r4⟩⟩
end Lp
set_option Elab.async false
set_option linter.all false
set_option maxRecDepth 100000
set_option maxHeartbeats 4000000
namespace Lp
open PySem PySem.Spec PyProof.Rows L2 Evl
variable {P : Program} {w : World} {K : PySem.W.Frag} {mg : Str → Option Value} {base : Heap}
theorem vE_init (K : PySem.W.Frag) : PySem.W.findCls K (.type "ValueError") (.type "type") "__init__" = some (.val (.builtin "ValueError.__init__")) := by kernel_rfl
/-- what a def that may raise lets through -/
theorem passR {N : List Str} {qual : Str} {scope : Scope} {f : Addr} {cd : Value} {A : Around} {outer : List Env} {s : Shared} {H : Hp} {E : XK} : Passes (L2.CX P w) (cxOf (L2.CX P w) P w K mg base N qual scope f cd A outer s H E) E := passE (CX := CX0)
/-! ### a refusal -/
def sp_rinit (K : PySem.W.Frag) : Sp := P2 fun a b H Q _ => ∃ x, a = .ref x ∧ H x = some (exo x (CR K) none) ∧ ∀ H1, Ex H H1 → ∀ dx, H1 dx = none → dx ≠ x → Q .non (L2.upd (L2.upd H1 dx (exd dx [("code", b)])) x (exo x (CR K) (some dx)))
theorem ok_Refused_init (T : Tx K mg) : Ok P w K mg base CX0 (0 + 1) (He.ma K (He.ga K "Refused") "__init__") ["self", "number"] (sp_rinit K) := by
  refine mk0 T.f_Refused_init sc_Refused_init bd_Refused_init P2.len (fun cdv A outer s H vs Q E hr h => ⟨_, (pss_cons (ps_expr (pe_veinit (by rfl) T.b_ValueError (vE_init K) (pa_cons (pv 0) (pa_cons pe_str pa_nil))))
    (pss_one (ps_ost (pv 0) (pv 1)))), ?_⟩)
  obtain ⟨_, b, rfl, x, rfl, hx, k⟩ := h
  refine ev_var (v := .ref x) rfl H (Ex.refl _) _ fun H1 e1 => ?_
  refine ⟨x, CR K, _, rfl, (by show 1 ≤ 1000; decide), T.oex, e1 _ _ hx, ?_⟩
  show tOst K "code" (tVar 0) (tVar 1) _ _ H1
  refine ev_var (v := b) rfl H1 (Ex.refl _) _ fun H2 e2 => ?_
  refine ev_var (v := .ref x) rfl H2 (Ex.refl _) _ fun H3 e3 => ?_
  refine ⟨x, CR K, rfl, T.oex, T.rno, .inl ⟨((e1.trans e2).trans e3) _ _ hx, fun dx hdx nd => k H3 ((e1.trans e2).trans e3) dx hdx nd⟩⟩
def RaisesK (K : PySem.W.Frag) (z : Int) (H : Hp) (E : XK) : Prop := ∀ d H', Kt H H' → Tk K H' → H' d = some (.xd [("code", .int z)]) → E (.ref (CR K)) (some d) H'
theorem RaisesK.to {z : Int} {H H1 : Hp} {E : XK} (k : RaisesK K z H E) (x : Kt H H1) : RaisesK K z H1 E := fun d H' x1 t h => k d H' (x.trans x1) t h
theorem RaisesK.ex {z : Int} {H H1 : Hp} {E : XK} (k : RaisesK K z H E) (e : Ex H H1) : RaisesK K z H1 E := k.to (.of e)
theorem pmk_ref {X : Cx} {k j : Nat} {x : Str} {C fI : Addr} {ps : List Str} {sp : Sp} {e : Expr} {es : List Expr} {ta : TA} {p pos : Pos} (O : Ok X.prog X.w X.K X.mg X.base CX0 k fI ps sp) (T : OexC X.K C) (iC : PySem.W.findIn X.K (.ref C) "__init__" = some (some (.ref fI))) (tI : PySem.W.typeIn X.K (.ref fI) = some (.type "function"))
    (hr : Room j X.A) (hk : k + 1 ≤ j) (hm : X.mg x = some (.ref C)) (ha : PA X (e :: es) ta) (hg : Gl X x := by rfl) (hdb : (x == ("__debug__" : Str)) = false := by decide)
    (he : starEach (e :: es) X.env = (false, eval e X.env) :: starEach es X.env := by rfl) (hpl : (backTo pos (starEach es X.env)).any (·.1) = false := by rfl) :
    PMk X (.Call (.Name x p) (e :: es) [] pos) (tMkO C sp [] ta) := by
  obtain ⟨⟨fd, F, b⟩, kp⟩ := O
  exact pmk_oex T iC tI F (hr.mono hk) b .nil pass0 hg hm ha hdb he hpl
def sp_want (K : PySem.W.Frag) : Sp := P2 fun a b H Q E => ∃ (g : Bool) (z : Int), a = .bl g ∧ b = .int z ∧ Tk K H ∧ (g = true → ∀ H', Ex H H' → Q .non H') ∧ (g = false → RaisesK K z H E)
theorem ok_want (T : Tx K mg) : Ok P w K mg base (L2.CX P w) (2 + 1) (He.ga K "want") ["good", "number"] (sp_want K) := by
  refine mkX T.f_want sc_want bd_want P2.len (fun cdv A outer s H vs Q E hr h => ⟨_, (pss_one (ps_if (pt_not (pt_val (pv 0))) (pss_one (ps_raise rfl (takes_of rfl rfl rfl rfl) (pmk_ref (ok_Refused_init T) T.oex T.rin T.rty hr (by decide) T.g_Refused (pa_cons (pv 1) pa_nil)))) pss_nil)), ?_⟩)
  obtain ⟨_, _, rfl, g, z, rfl, rfl, hT, k1, k2⟩ := h
  refine s_when (et_not (et_test (ev_var rfl))) (fun hb H1 e1 => ?_) (fun hb H1 e1 => ?_)
  · refine ev_var (v := .int z) rfl H1 (Ex.refl _) _ fun H2 e2 => ?_
    refine ⟨by show 1 ≤ 1000; decide, fun a ha => ?_⟩
    refine ⟨_, _, rfl, a, rfl, upd_same, fun H3 e3 dx hdx nd => ⟨rfl, dx, [("code", .int z)], upd_same, ?_, ?_, ?_⟩⟩
    · rw [upd_ne nd, upd_same]
    · have hd2 := fresh_back e3 hdx
      rw [upd_ne nd] at hd2
      exact hd2
    · have hd2 : H2 dx = none := by
        have hd2 := fresh_back e3 hdx
        rw [upd_ne nd] at hd2
        exact hd2
      have e2' : Ex H2 (L2.upd (del (L2.upd (L2.upd H3 dx (exd dx [("code", .int z)])) a (exo a (CR K) (some dx))) a) dx (.xd [("code", .int z)])) := fun b o hb => by
        have n1 : b ≠ dx := ne_of_none hb hd2
        have n2 : b ≠ a := ne_of_none hb ha
        rw [upd_ne n1, del_ne n2, upd_ne n2, upd_ne n1]
        exact e3 _ _ (by rw [upd_ne n2]; exact hb)
      have ee := (e1.trans e2).trans e2'
      exact k2 (by simpa using hb) dx _ (.of ee) (hT.ex ee) upd_same
  · exact k1 (by simpa using hb) H1 e1
end Lp
set_option Elab.async false
set_option linter.all false
set_option maxRecDepth 100000
set_option maxHeartbeats 4000000
namespace Lp
open PySem PySem.Spec PyProof.Rows L2 Evl
variable {P : Program} {w : World} {K : PySem.W.Frag} {mg : Str → Option Value} {base : Heap}
/-- what comes of a deed: another picture, or a refusal -/
def Does (K : PySem.W.Frag) (r : Except Int Sq50.State) (H : Hp) (Q : VK) (E : XK) : Prop := match r with
  | .ok t => GivesK K (fun y H' => ∃ aL aC, PicA K H' y t aL aC) H Q
  | .error z => RaisesK K z H E
theorem Does.to {r : Except Int Sq50.State} {H H1 : Hp} {Q : VK} {E : XK} (k : Does K r H Q E) (x : Kt H H1) : Does K r H1 Q E := by
  cases r with
  | ok t => exact GivesK.to k x
  | error z => exact RaisesK.to k x
theorem Does.ex {r : Except Int Sq50.State} {H H1 : Hp} {Q : VK} {E : XK} (k : Does K r H Q E) (e : Ex H H1) : Does K r H1 Q E := k.to (.of e)
/-- the two ways of a wish -/
def wish (b : Bool) (z : Int) (r : Except Int Sq50.State) : Except Int Sq50.State := if b = true then r else .error z
section
variable {σ : L2.St} {H : Hp} {ta tb : TE} {D : Ends} {tz : TS} {E : XK} {z : Int}
theorem q_want {g : Bool} (h1 : Ev ta σ H (.bl g)) (h2 : Ev tb σ H (.int z)) (hT : Tk K H) (k : g = true → ∀ H1, Ex H H1 → tz D σ H1) (kx : g = false → RaisesK K z H E) : tSeq (tDrop (tCall (sp_want K) [] E (tCons ta (tCons tb tNil)))) tz D σ H :=
  h1 H (Ex.refl _) _ fun H1 e1 => h2 H1 e1 _ fun H2 e2 => ⟨_, _, rfl, g, z, rfl, rfl, hT.ex (e1.trans e2), fun hg H3 e3 => k hg H3 ((e1.trans e2).trans e3), fun hg => (kx hg).ex (e1.trans e2)⟩
/-- .. with what comes of it -/
theorem q_wish {g : Bool} {r : Except Int Sq50.State} {Q : VK} (h1 : Ev ta σ H (.bl g)) (h2 : Ev tb σ H (.int z)) (hT : Tk K H) (hD : Does K (wish g z r) H Q E) (k : g = true → ∀ H1, Ex H H1 → Does K r H1 Q E → tz D σ H1) : tSeq (tDrop (tCall (sp_want K) [] E (tCons ta (tCons tb tNil)))) tz D σ H :=
  q_want h1 h2 hT (fun hg H1 e1 => k hg H1 e1 (by
    rw [hg] at hD
    exact Does.ex (r := r) hD e1)) fun hg => by
    rw [hg] at hD
    exact hD
end
def hasN (s : Sq50.State) (n : Nat) : Bool := s.layers.any fun l => l.id == n
theorem hasN_iff {s : Sq50.State} {n : Nat} : hasN s n = true ↔ n ∈ s.layers.map (·.id) := by
  unfold hasN
  rw [List.any_eq_true, List.mem_map]
  exact ⟨fun ⟨l, h1, h2⟩ => ⟨l, h1, eq_of_beq h2⟩, fun ⟨l, h1, h2⟩ => ⟨l, h1, beq_iff_eq.mpr h2⟩⟩
def sp_placeof (K : PySem.W.Frag) : Sp := P2 fun a b H Q E => ∃ (s : Sq50.State) (p aL aC : Addr) (n : Nat), a = .ref p ∧ PicA K H p s aL aC ∧ WF s ∧ b = .int (n : Int) ∧ Tk K H ∧ (hasN s n = true → ∀ H', Ex H H' → Q (.int ((ix s.layers n : Nat) : Int)) H') ∧ (hasN s n = false → RaisesK K (-2) H E)
theorem ok_place_of (T : Tx K mg) : Ok P w K mg base (L2.CX P w) (3 + 1) (He.ga K "place_of") ["picture", "number"] (sp_placeof K) := by
  refine mkX T.f_place_of sc_place_of bd_place_of P2.len (fun cdv A outer s H vs Q E hr h => ⟨_, (pss_cons (ps_expr (oc (ok_want T) hr (by decide) T.g_want passR (pa_cons (pe_cmpR (k_in (K := K)) (pv 1) (om0 (ok_Picture_numbers T) T.c_Picture T.m_Picture_numbers hr (by decide) ((pass0 : Passes CX0 _ E0)) (pv 0)) (by rfl)) (pa_cons (pgi T.i_NO_LAYER) pa_nil))))
    (pss_one (ps_ret (kbm (K := K) PySem.F.plainAttrs_list PySem.F.slot_list_index PySem.F.type_list_index (k_index (K := K)) (om0 (ok_Picture_numbers T) T.c_Picture T.m_Picture_numbers hr (by decide) ((pass0 : Passes CX0 _ E0)) (pv 0)) (pa_cons (pv 1) pa_nil))))), ?_⟩)
  obtain ⟨_, _, rfl, s, p, aL, aC, n, rfl, hP, W, rfl, hT, k1, k2⟩ := h
  refine q_want (g := hasN s n) (ev_inIds (neg := false) (ev_var rfl) hP W.le' (ev_var rfl)) ev_c hT (fun hg H1 e1 => ?_) k2
  exact s_ret (ev_ix (ev_var rfl) (hP.ex e1) W.le' (ev_var rfl) (hasN_iff.mp hg)) fun H2 e2 => k1 hg _ (e1.trans e2)
section
variable {σ : L2.St} {H : Hp} {ta tb : TE} {D : Ends} {tz : TS} {E : XK} {s : Sq50.State} {p aL aC : Addr} {n : Nat} {r : Except Int Sq50.State} {Q : VK}
theorem q_placeof {i : Nat} (ho : Ev ta σ H (.ref p)) (hP : PicA K H p s aL aC) (W : WF s) (h2 : Ev tb σ H (.int (n : Int))) (hT : Tk K H) (hD : Does K (wish (hasN s n) (-2) r) H Q E) (k : n ∈ s.layers.map (·.id) → ∀ H1, Ex H H1 → Does K r H1 Q E → tz D (σ.set i (some (.int ((ix s.layers n : Nat) : Int)))) H1) :
    tSeq (tAsg (tCall (sp_placeof K) [] E (tCons ta (tCons tb tNil))) (gName i)) tz D σ H :=
  ho H (Ex.refl _) _ fun H1 e1 => h2 H1 e1 _ fun H2 e2 => ⟨_, _, rfl, s, p, aL, aC, n, rfl, hP.ex (e1.trans e2), W, rfl, hT.ex (e1.trans e2), fun hg H3 e3 => k (hasN_iff.mp hg) H3 ((e1.trans e2).trans e3) (by
    rw [hg] at hD
    exact Does.ex (r := r) hD ((e1.trans e2).trans e3)), fun hg => by
    rw [hg] at hD
    exact RaisesK.ex (z := -2) hD (e1.trans e2)⟩
theorem q_placeofD (ho : Ev ta σ H (.ref p)) (hP : PicA K H p s aL aC) (W : WF s) (h2 : Ev tb σ H (.int (n : Int))) (hT : Tk K H) (hD : Does K (wish (hasN s n) (-2) r) H Q E) (k : n ∈ s.layers.map (·.id) → ∀ H1, Ex H H1 → Does K r H1 Q E → tz D σ H1) :
    tSeq (tDrop (tCall (sp_placeof K) [] E (tCons ta (tCons tb tNil)))) tz D σ H :=
  ho H (Ex.refl _) _ fun H1 e1 => h2 H1 e1 _ fun H2 e2 => ⟨_, _, rfl, s, p, aL, aC, n, rfl, hP.ex (e1.trans e2), W, rfl, hT.ex (e1.trans e2), fun hg H3 e3 => k (hasN_iff.mp hg) H3 ((e1.trans e2).trans e3) (by
    rw [hg] at hD
    exact Does.ex (r := r) hD ((e1.trans e2).trans e3)), fun hg => by
    rw [hg] at hD
    exact RaisesK.ex (z := -2) hD (e1.trans e2)⟩
/-- the last line: a picture made -/
theorem s_done {te : TE} {t : Sq50.State} (h : EvN te σ H (fun y H' => ∃ aL aC, PicA K H' y t aL aC)) (hT : Tk K H) (hD : Does K (.ok t) H Q E) (hrt : D.rt = Q) : tRet te D σ H := by
  refine s_retN h fun y H1 n e r => ?_
  rw [hrt]
  exact GivesK.n (R := fun y H' => ∃ aL aC, PicA K H' y t aL aC) hD hT y H1 n e r
end
def sp_room (K : PySem.W.Frag) : Sp := P1 fun a H Q E => ∃ (s : Sq50.State) (p aL aC : Addr), a = .ref p ∧ PicA K H p s aL aC ∧ Tk K H ∧ (s.layers.length < 5 → ∀ H', Ex H H' → Q .non H') ∧ (¬ s.layers.length < 5 → RaisesK K (-5) H E)
theorem ok_want_room (T : Tx K mg) : Ok P w K mg base (L2.CX P w) (3 + 1) (He.ga K "want_room") ["picture"] (sp_room K) := by
  refine mkX T.f_want_room sc_want_room bd_want_room P1.len (fun cdv A outer s H vs Q E hr h => ⟨_, (pss_one (ps_expr (oc (ok_want T) hr (by decide) T.g_want passR (pa_cons (pe_cmpR op_lt (pe_callB (k_len (K := K)) (by rfl) T.b_len (by decide +kernel) (pa_cons (kfld (K := K) (pv 0) rfl) pa_nil)) (pgi T.i_MOST_LAYERS) (nomark _)) (pa_cons (pgi T.i_TOO_MANY) pa_nil))))), ?_⟩)
  obtain ⟨_, rfl, s, p, aL, aC, rfl, hP, hT, k1, k2⟩ := h
  obtain ⟨vs, hv, hpr⟩ := hP.lay
  have hl := pair_len hpr
  refine (ev_is (ev_op (ev_len (ev_layers T (ev_var rfl) hP) (sq_of hv)) ev_c rv_I0) (congrArg V.bl (decide_eq_decide.mpr (show _ ↔ s.layers.length < 5 by omega)))) H (Ex.refl _) _ fun H1 e1 => ⟨_, _, rfl, decide (s.layers.length < 5), -5, rfl, rfl, hT.ex e1, fun hg H2 e2 => k1 (of_decide_eq_true hg) H2 (e1.trans e2), fun hg => (k2 (of_decide_eq_false hg)).ex e1⟩
/-! ### deeds on layers -/
def dGone (s : Sq50.State) (n : Nat) : Except Int Sq50.State := wish (hasN s n) (-2) (wish (decide (1 < s.layers.length)) (-6) (.ok { s with layers := s.layers.take (ix s.layers n) ++ s.layers.drop (ix s.layers n + 1), on := if s.on = n then (((s.layers.take (ix s.layers n) ++ s.layers.drop (ix s.layers n + 1))[0]?).getD lay0).id else s.on }))
def sp_gone (K : PySem.W.Frag) : Sp := P2 fun a b H Q E => ∃ (s : Sq50.State) (p aL aC : Addr) (n : Nat), a = .ref p ∧ PicA K H p s aL aC ∧ WF s ∧ b = .int (n : Int) ∧ Tk K H ∧ Does K (dGone s n) H Q E
theorem ok_layer_gone (T : Tx K mg) : Ok P w K mg base (L2.CX P w) (4 + 1) (He.ga K "layer_gone") ["picture", "number"] (sp_gone K) := by
  refine mkX T.f_layer_gone sc_layer_gone bd_layer_gone P2.len (fun cdv A outer s H vs Q E hr h => ⟨_, (pss_cons (ps_set (i := 2) sc_layer_gone.nd rfl (Or.inl rfl) (oc (ok_place_of T) hr (by decide) T.g_place_of passR (pa_cons (pv 0) (pa_cons (pv 1) pa_nil))))
    (pss_cons (ps_expr (oc (ok_want T) hr (by decide) T.g_want passR (pa_cons (pe_cmpR op_gt (pe_callB (k_len (K := K)) (by rfl) T.b_len (by decide +kernel) (pa_cons (kfld (K := K) (pv 0) rfl) pa_nil)) pe_int (nomark _)) (pa_cons (pgi T.i_CAN_NOT) pa_nil))))
    (pss_cons (ps_set (i := 3) sc_layer_gone.nd rfl (Or.inl rfl) (pe_op op_cat (pe_slice (ksl_list (K := K)) (kfld (K := K) (pv 0) rfl) po_none (po_some (pv 2))) (pe_slice (ksl_list (K := K)) (kfld (K := K) (pv 0) rfl) (po_some (pe_op op_add (pv 2) pe_int)) po_none)))
    (pss_cons (ps_set (i := 4) sc_layer_gone.nd rfl (Or.inl rfl) (kfld (K := K) (pv 0) rfl))
    (pss_cons (ps_if (pt_cmpR op_eq (pv 4) (pv 1) (nomark _)) (pss_one (ps_set (i := 4) sc_layer_gone.nd rfl (Or.inl rfl) (kfld (K := K) (pe_ix (kix_list (K := K)) (pv 3) pe_int (fun _ _ => rfl)) rfl))) pss_nil)
    (pss_one (ps_ret (om (ok_Picture_with_layers T) T.c_Picture T.m_Picture_with_layers hr (by decide) ((pass0 : Passes CX0 _ E0)) (pv 0) (pa_cons (pv 3) (pa_cons (pv 4) pa_nil)))))))))), ?_⟩)
  obtain ⟨_, _, rfl, s, p, aL, aC, n, rfl, hP, W, rfl, hT, hD⟩ := h
  have hw := W.le
  refine q_placeof (ev_var rfl) hP W (ev_var rfl) hT hD fun hn H1 e1 hD => ?_
  have hix := ix_lt hn
  replace hP := hP.ex e1
  replace hT := hT.ex e1
  obtain ⟨vs, hv, hpr⟩ := hP.lay
  have hl := pair_len hpr
  refine q_wish (g := decide (1 < s.layers.length)) (ev_is (ev_op (ev_len (ev_layers T (ev_var rfl) hP) (sq_of hv)) ev_c rv_I0) (congrArg V.bl (decide_eq_decide.mpr (by omega)))) ev_c hT hD fun hg H2 e2 hD => ?_
  have hg := of_decide_eq_true hg
  replace hP := hP.ex e2
  replace hT := hT.ex e2
  refine q_asgN (evly_cat (evly_take (k := ix s.layers n) (ev_layers T (ev_var rfl) hP) (eo_some (ev_var rfl)) hP.lay) (evly_drop (k := ix s.layers n + 1) (ev_layers T (ev_var rfl) hP) (eo_some (ev_is (ev_op (ev_var rfl) ev_c rv_I0) rfl)) hP.lay) ?_) fun aL' H3 n3 e3 hL' => ?_
  · simp only [List.length_take, List.length_drop]; omega
  replace hP := hP.ex e3
  replace hT := hT.ex e3
  replace hD := hD.ex e3
  refine q_asg (ev_working T (ev_var rfl) hP) fun H4 e4 => ?_
  replace hP := hP.ex e4
  replace hT := hT.ex e4
  replace hD := hD.ex e4
  replace hL' := hL'.ex e4
  have hlen : (s.layers.take (ix s.layers n) ++ s.layers.drop (ix s.layers n + 1)).length = s.layers.length - 1 := by simp only [List.length_append, List.length_take, List.length_drop]; omega
  have h0 : (s.layers.take (ix s.layers n) ++ s.layers.drop (ix s.layers n + 1))[0]? = some ((((s.layers.take (ix s.layers n) ++ s.layers.drop (ix s.layers n + 1))[0]?).getD lay0)) := by
    rw [List.getElem?_eq_getElem (by omega)]
    rfl
  refine q_ifAsgP (v := .int (s.on : Int)) (b := decide (s.on = n)) (R := fun v _ => v = .int (((if s.on = n then (((s.layers.take (ix s.layers n) ++ s.layers.drop (ix s.layers n + 1))[0]?).getD lay0).id else s.on) : Nat) : Int)) (et_is (et_test (ev_op (ev_var rfl) (ev_var rfl) (rv_eq rfl))) ?_) (fun hb => ?_) (fun hb => ?_) rfl (fun _ _ _ _ h => h) fun v H5 e5 hv5 => ?_
  · rw [dec_int, Bool.eq_iff_iff, beq_iff_eq, decide_eq_true_iff]
    omega
  · have hb := of_decide_eq_true hb
    rw [if_pos hb]
    exact evp_fld (evp_layAt (i := 0) (ev_var rfl) ev_c hL' h0) fun x H5 e5 ⟨a, aD, q, hA⟩ => by
      obtain ⟨⟨dx, h1⟩, h2⟩ := hA
      exact ⟨a, _, dx, _, _, q, h1, T.c_Layer, T.n_Layer_number, lF_number, rfl⟩
  · have hb := of_decide_eq_false hb
    rw [if_neg hb]
  · subst hv5
    replace hP := hP.ex e5
    replace hT := hT.ex e5
    replace hD := hD.ex e5
    replace hL' := hL'.ex e5
    exact s_done (evn_pm (ev_var rfl) hP (ea_cons (ev_var rfl) (ea_cons (ev_var rfl) ea_nil)) fun H6 e6 Q E q => ⟨_, _, _, rfl, s, p, aL, aC, aL', _, _, rfl, hP.ex e6, rfl, hL'.ex e6, rfl, fun y H7 n7 e7 r => q y H7 n7 e7 ⟨_, _, r⟩⟩) hT hD rfl
def dUp (s : Sq50.State) (n : Nat) : Except Int Sq50.State := wish (hasN s n) (-2) (wish (decide (ix s.layers n + 1 < s.layers.length)) (-6) (.ok { s with layers := s.layers.take (ix s.layers n) ++ [(s.layers[ix s.layers n + 1]?).getD lay0, (s.layers[ix s.layers n]?).getD lay0] ++ s.layers.drop (ix s.layers n + 2) }))
def sp_up (K : PySem.W.Frag) : Sp := P2 fun a b H Q E => ∃ (s : Sq50.State) (p aL aC : Addr) (n : Nat), a = .ref p ∧ PicA K H p s aL aC ∧ WF s ∧ b = .int (n : Int) ∧ Tk K H ∧ Does K (dUp s n) H Q E
theorem get_lay0 {ls : List Sq50.Layer} {i : Nat} (h : i < ls.length) : ls[i]? = some ((ls[i]?).getD lay0) := by
  rw [List.getElem?_eq_getElem h]
  rfl
theorem ok_layer_up (T : Tx K mg) : Ok P w K mg base (L2.CX P w) (4 + 1) (He.ga K "layer_up") ["picture", "number"] (sp_up K) := by
  refine mkX T.f_layer_up sc_layer_up bd_layer_up P2.len (fun cdv A outer s H vs Q E hr h => ⟨_, (pss_cons (ps_set (i := 2) sc_layer_up.nd rfl (Or.inl rfl) (oc (ok_place_of T) hr (by decide) T.g_place_of passR (pa_cons (pv 0) (pa_cons (pv 1) pa_nil))))
    (pss_cons (ps_expr (oc (ok_want T) hr (by decide) T.g_want passR (pa_cons (pe_cmpR op_lt (pe_op op_add (pv 2) pe_int) (pe_callB (k_len (K := K)) (by rfl) T.b_len (by decide +kernel) (pa_cons (kfld (K := K) (pv 0) rfl) pa_nil)) (nomark _)) (pa_cons (pgi T.i_CAN_NOT) pa_nil))))
    (pss_cons (ps_set (i := 3) sc_layer_up.nd rfl (Or.inl rfl) (pe_op op_cat (pe_op op_cat (pe_slice (ksl_list (K := K)) (kfld (K := K) (pv 0) rfl) po_none (po_some (pv 2))) (pe_lst (pa_cons (pe_ix (kix_list (K := K)) (kfld (K := K) (pv 0) rfl) (pe_op op_add (pv 2) pe_int) (fun _ _ => rfl)) (pa_cons (pe_ix (kix_list (K := K)) (kfld (K := K) (pv 0) rfl) (pv 2) (fun _ _ => rfl)) pa_nil)))) (pe_slice (ksl_list (K := K)) (kfld (K := K) (pv 0) rfl) (po_some (pe_op op_add (pv 2) pe_int)) po_none)))
    (pss_one (ps_ret (om (ok_Picture_with_layers T) T.c_Picture T.m_Picture_with_layers hr (by decide) ((pass0 : Passes CX0 _ E0)) (pv 0) (pa_cons (pv 3) (pa_cons (kfld (K := K) (pv 0) rfl) pa_nil)))))))), ?_⟩)
  obtain ⟨_, _, rfl, s, p, aL, aC, n, rfl, hP, W, rfl, hT, hD⟩ := h
  have hw := W.le
  refine q_placeof (ev_var rfl) hP W (ev_var rfl) hT hD fun hn H1 e1 hD => ?_
  have hix := ix_lt hn
  replace hP := hP.ex e1
  replace hT := hT.ex e1
  obtain ⟨vs, hv, hpr⟩ := hP.lay
  have hl := pair_len hpr
  refine q_wish (g := decide (ix s.layers n + 1 < s.layers.length)) (ev_is (ev_op (ev_op (ev_var rfl) ev_c rv_I0) (ev_len (ev_layers T (ev_var rfl) hP) (sq_of hv)) rv_I0) (congrArg V.bl (decide_eq_decide.mpr (by omega)))) ev_c hT hD fun hg H2 e2 hD => ?_
  have hg := of_decide_eq_true hg
  replace hP := hP.ex e2
  replace hT := hT.ex e2
  refine q_asgN (evly_cat (evly_cat (evly_take (k := ix s.layers n) (ev_layers T (ev_var rfl) hP) (eo_some (ev_var rfl)) hP.lay) (evly_two (evp_layAt (i := ix s.layers n + 1) (ev_layers T (ev_var rfl) hP) (ev_is (ev_op (ev_var rfl) ev_c rv_I0) rfl) hP.lay (get_lay0 hg)) (evp_layAt (ev_layers T (ev_var rfl) hP) (ev_var rfl) hP.lay (get_lay0 hix))) ?_) (evly_drop (k := ix s.layers n + 2) (ev_layers T (ev_var rfl) hP) (eo_some (ev_is (ev_op (ev_var rfl) ev_c rv_I0) rfl)) hP.lay) ?_) fun aL' H3 n3 e3 hL' => ?_
  · simp only [List.length_take, List.length_cons, List.length_nil]; omega
  · simp only [List.length_append, List.length_take, List.length_drop, List.length_cons, List.length_nil]; omega
  replace hP := hP.ex e3
  replace hT := hT.ex e3
  replace hD := hD.ex e3
  exact s_done (evn_pm (ev_var rfl) hP (ea_cons (ev_var rfl) (ea_cons (ev_working T (ev_var rfl) hP) ea_nil)) fun H6 e6 Q E q => ⟨_, _, _, rfl, s, p, aL, aC, aL', _, s.on, rfl, hP.ex e6, rfl, hL'.ex e6, rfl, fun y H7 n7 e7 r => q y H7 n7 e7 ⟨_, _, r⟩⟩) hT hD rfl
def dSo (s : Sq50.State) (n e a m : Nat) : Except Int Sq50.State := wish (decide (e ≤ 1) && (decide (a ≤ 255) && decide (m ≤ 6))) (-1) (wish (hasN s n) (-2) (.ok { s with layers := s.layers.take (ix s.layers n) ++ [⟨n, e == 1, a, m, ((s.layers[ix s.layers n]?).getD lay0).dots⟩] ++ s.layers.drop (ix s.layers n + 1) }))
def sp_so (K : PySem.W.Frag) : Sp := P5 fun a b c d f H Q E => ∃ (s : Sq50.State) (p aL aC : Addr) (n e st m : Nat), a = .ref p ∧ PicA K H p s aL aC ∧ WF s ∧ b = .int (n : Int) ∧ c = .int (e : Int) ∧ d = .int (st : Int) ∧ f = .int (m : Int) ∧ Tk K H ∧ Does K (dSo s n e st m) H Q E
theorem dec_le {a b : Nat} {i : Int} (h : i = (b : Int)) : decide ((a : Int) ≤ i) = decide (a ≤ b) := decide_eq_decide.mpr (by omega)
theorem ok_layer_so (T : Tx K mg) : Ok P w K mg base (L2.CX P w) (4 + 1) (He.ga K "layer_so") ["picture", "number", "seen", "strong", "way"] (sp_so K) := by
  refine mkX T.f_layer_so sc_layer_so bd_layer_so P5.len (fun cdv A outer s H vs Q E hr h => ⟨_, (pss_cons (ps_expr (oc (ok_want T) hr (by decide) T.g_want passR (pa_cons (pe_and (pe_cmpR op_le (pv 2) pe_int (nomark _)) (pe_and (pe_cmpR op_le (pv 3) (pgi T.i_GREATEST) (nomark _)) (pe_one (pe_cmpR op_le (pv 4) (pgi T.i_LAST_WAY) (nomark _))))) (pa_cons (pgi T.i_NOT_SO) pa_nil))))
    (pss_cons (ps_set (i := 5) sc_layer_so.nd rfl (Or.inl rfl) (oc (ok_place_of T) hr (by decide) T.g_place_of passR (pa_cons (pv 0) (pa_cons (pv 1) pa_nil))))
    (pss_cons (ps_set (i := 6) sc_layer_so.nd rfl (Or.inl rfl) (ok_new (ok_Layer_init T) T.k_Layer hr (by decide) T.g_Layer ((pass0 : Passes CX0 _ E0)) (pa_cons (pv 1) (pa_cons (pv 2) (pa_cons (pv 3) (pa_cons (pv 4) (pa_cons (kfld (K := K) (pe_ix (kix_list (K := K)) (kfld (K := K) (pv 0) rfl) (pv 5) (fun _ _ => rfl)) rfl) pa_nil)))))))
    (pss_one (ps_ret (om (ok_Picture_with_layers T) T.c_Picture T.m_Picture_with_layers hr (by decide) ((pass0 : Passes CX0 _ E0)) (pv 0) (pa_cons (pe_op op_cat (pe_op op_cat (pe_slice (ksl_list (K := K)) (kfld (K := K) (pv 0) rfl) po_none (po_some (pv 5))) (pe_lst (pa_cons (pv 6) pa_nil))) (pe_slice (ksl_list (K := K)) (kfld (K := K) (pv 0) rfl) (po_some (pe_op op_add (pv 5) pe_int)) po_none)) (pa_cons (kfld (K := K) (pv 0) rfl) pa_nil)))))))), ?_⟩)
  obtain ⟨_, _, _, _, _, rfl, s, p, aL, aC, n, e, st, m, rfl, hP, W, rfl, rfl, rfl, rfl, hT, hD⟩ := h
  have hw := W.le
  refine q_wish (g := decide (e ≤ 1) && (decide (st ≤ 255) && decide (m ≤ 6))) (ev_andV (ev_is (ev_op (ev_var rfl) ev_c rv_I0) (congrArg V.bl (dec_le rfl))) fun _ => ev_andV (ev_is (ev_op (ev_var rfl) ev_c rv_I0) (congrArg V.bl (dec_le rfl))) fun _ => ev_is (ev_op (ev_var rfl) ev_c rv_I0) (congrArg V.bl (dec_le rfl))) ev_c hT hD fun hg H1 e1 hD => ?_
  simp only [Bool.and_eq_true, decide_eq_true_eq] at hg
  replace hP := hP.ex e1
  replace hT := hT.ex e1
  refine q_placeof (ev_var rfl) hP W (ev_var rfl) hT hD fun hn H2 e2 hD => ?_
  have hix := ix_lt hn
  replace hP := hP.ex e2
  replace hT := hT.ex e2
  obtain ⟨v, hv⟩ : ∃ l, s.layers[ix s.layers n]? = some l := ⟨_, get_lay0 hix⟩
  obtain ⟨r, aD, hr1, hA⟩ := ev_layAt (K := K) (σ := [some (.ref p), some (.int (n : Int)), some (.int (e : Int)), some (.int (st : Int)), some (.int (m : Int)), some (.int ((ix s.layers n : Nat) : Int)), none]) (ev_layers T (te := tVar 0) (ev_var rfl) hP) (ev_var (i := 5) rfl) hP.lay hv
  have e01 : V.int (e : Int) = .int (if (e == 1) = true then 1 else 0) := by
    have : e = 0 ∨ e = 1 := by omega
    rcases this with rfl | rfl <;> rfl
  have hdots : ((s.layers[ix s.layers n]?).getD lay0).dots = v.dots := by rw [hv]; rfl
  rw [hdots] at hD
  refine q_asgN (evn_layer (l := ⟨n, e == 1, st, m, v.dots⟩) (aD := aD) (ea_cons (ev_var rfl) (ea_cons (ev_var (congrArg (fun z => some (some z)) e01)) (ea_cons (ev_var rfl) (ea_cons (ev_var rfl) (ea_cons (ev_dots (l := v) T hr1 hA) ea_nil))))) hA.dots) fun aN H3 n3 e3 hN => ?_
  replace hP := hP.ex e3
  replace hT := hT.ex e3
  replace hD := hD.ex e3
  refine s_done (evn_callM (sp := sp_withL K) (S := fun y H' => ∃ aL aC, PicA K H' y { s with layers := s.layers.take (ix s.layers n) ++ [⟨n, e == 1, st, m, v.dots⟩] ++ s.layers.drop (ix s.layers n + 1) } aL aC) (ev_var rfl) hP (evap_cons (evly_cat (evly_cat (evly_take (k := ix s.layers n) (ev_layers T (ev_var rfl) hP) (eo_some (ev_var rfl)) hP.lay) (evly_one (l := ⟨n, e == 1, st, m, v.dots⟩) ((EvP.of (ev_var (v := .ref aN) rfl)).imp fun v H e q => ⟨aN, aD, q, hN.ex e⟩)) ?_)
    (evly_drop (k := ix s.layers n + 1) (ev_layers T (ev_var rfl) hP) (eo_some (ev_is (ev_op (ev_var rfl) ev_c rv_I0) rfl)) hP.lay) ?_).p (fun v H H' e ⟨x, q, z⟩ => ⟨x, q, z.ex e⟩) (evap_cons (.of (ev_working T (ev_var rfl) hP)) (fun _ _ _ _ h => h) evap_nil)) ?_) hT hD rfl
  · simp only [List.length_take, List.length_singleton]; omega
  · simp only [List.length_append, List.length_take, List.length_drop, List.length_singleton]; omega
  · rintro vs H6 e6 ⟨_, _, rfl, ⟨aL', rfl, hL'⟩, _, _, rfl, rfl, rfl⟩ Q E q
    exact ⟨_, _, _, rfl, s, p, aL, aC, aL', _, s.on, rfl, hP.ex e6, rfl, hL', rfl, fun y H7 n7 e7 r => q y H7 n7 e7 ⟨_, _, r⟩⟩
def dWork (s : Sq50.State) (n : Nat) : Except Int Sq50.State := wish (hasN s n) (-2) (.ok { s with on := n })
def sp_work (K : PySem.W.Frag) : Sp := P2 fun a b H Q E => ∃ (s : Sq50.State) (p aL aC : Addr) (n : Nat), a = .ref p ∧ PicA K H p s aL aC ∧ WF s ∧ b = .int (n : Int) ∧ Tk K H ∧ Does K (dWork s n) H Q E
theorem ok_layer_worked_on (T : Tx K mg) : Ok P w K mg base (L2.CX P w) (4 + 1) (He.ga K "layer_worked_on") ["picture", "number"] (sp_work K) := by
  refine mkX T.f_layer_worked_on sc_layer_worked_on bd_layer_worked_on P2.len (fun cdv A outer s H vs Q E hr h => ⟨_, (pss_cons (ps_expr (oc (ok_place_of T) hr (by decide) T.g_place_of passR (pa_cons (pv 0) (pa_cons (pv 1) pa_nil))))
    (pss_one (ps_ret (om (ok_Picture_with_layers T) T.c_Picture T.m_Picture_with_layers hr (by decide) ((pass0 : Passes CX0 _ E0)) (pv 0) (pa_cons (kfld (K := K) (pv 0) rfl) (pa_cons (pv 1) pa_nil)))))), ?_⟩)
  obtain ⟨_, _, rfl, s, p, aL, aC, n, rfl, hP, W, rfl, hT, hD⟩ := h
  refine q_placeofD (ev_var rfl) hP W (ev_var rfl) hT hD fun hn H1 e1 hD => ?_
  replace hP := hP.ex e1
  replace hT := hT.ex e1
  exact s_done (evn_pm (ev_var rfl) hP (ea_cons (ev_layers T (ev_var rfl) hP) (ea_cons (ev_var rfl) ea_nil)) fun H6 e6 Q E q => ⟨_, _, _, rfl, s, p, aL, aC, aL, s.layers, n, rfl, hP.ex e6, rfl, hP.lay.ex e6, rfl, fun y H7 n7 e7 r => q y H7 n7 e7 ⟨_, _, r⟩⟩) hT hD rfl
end Lp
set_option Elab.async false
set_option linter.all false
set_option maxRecDepth 100000
set_option maxHeartbeats 4000000
namespace Lp
open PySem PySem.Spec PyProof.Rows L2 Evl
variable {P : Program} {w : World} {K : PySem.W.Frag} {mg : Str → Option Value} {base : Heap}
theorem flVisit_len {nb : Nat → List Nat} {ok : Nat → Nat → Bool} {st : List Bool × List Nat} {p : Nat} : (flVisit nb ok st p).1.length = st.1.length := by
  have key : ∀ (l : List Nat) (st : List Bool × List Nat) (ok : Nat → Bool), (l.foldl (flTry ok) st).1.length = st.1.length := by
    intro l
    induction l with
    | nil => exact fun _ _ => rfl
    | cons o l ih =>
      intro st ok
      refine (ih _ ok).trans ?_
      unfold flTry
      split
      · exact List.length_set ..
      · rfl
  exact key _ _ _
theorem flRun_len {nb : Nat → List Nat} {ok : Nat → Nat → Bool} : ∀ (m a : Nat) (st : List Bool × List Nat), (flRun nb ok m a st).1.length = st.1.length
  | 0, _, _ => rfl
  | m + 1, a, st => by
    cases h : st.2[a]? with
    | none => rw [flRun_none h]
    | some p => rw [flRun_some h, flRun_len m, flVisit_len]
theorem pFlood_len (s : Sq50.State) (first tol kind : Nat) (cn : Bool) : (pFlood s first tol kind cn).length = s.w * s.h := by
  unfold pFlood
  rw [flRun_len]
  unfold flStart
  rw [List.length_set, List.length_replicate]
def joinS (s : Sq50.State) (how : Nat) (bs : List Bool) : Sq50.State := { s with chosen := List.zipWith (Sq44.joined how) s.chosen bs }
def dFlood (s : Sq50.State) (how x y tol kind c : Nat) : Except Int Sq50.State := wish (decide (how ≤ 4) && (decide (kind ≤ 1) && (decide (c ≤ 1) && decide (x < s.w ∧ y < s.h)))) (-1) (.ok (joinS s how (pFlood s (y * s.w + x) tol kind (c == 1))))
section
variable {σ : L2.St} {H : Hp} {ta t0 t1 : TE} {tA : TA} {D : Ends} {E : XK} {s : Sq50.State} {p aL aC : Addr} {how : Nat} {bs : List Bool}
/-- joined(picture, how, [..]) -/
theorem evn_joined (h0 : Ev t0 σ H (.ref p)) (hP : PicA K H p s aL aC) (h1 : Ev t1 σ H (.int (how : Int))) (h2 : EvN ta σ H (fun y H' => H' y = some (.lst (bs.map V.bl)))) (hl : bs.length = s.w * s.h) (W : WF s) : EvN (tCall (sp_joined K) [] E (tCons t0 (tCons t1 (tCons ta tNil)))) σ H (fun y H' => ∃ aL aC, PicA K H' y (joinS s how bs) aL aC) := by
  have hsz := W.sz
  refine evn_callP (evap_cons (.of h0) (fun _ _ _ _ h => h) (evap_cons (.of h1) (fun _ _ _ _ h => h) (evap_cons h2.p (fun v H H' e ⟨x, q, z⟩ => ⟨x, q, e _ _ z⟩) evap_nil))) ?_
  rintro vs H1 e ⟨_, _, rfl, rfl, _, _, rfl, rfl, _, _, rfl, ⟨y, rfl, hy⟩, rfl⟩ Q E q
  exact ⟨_, _, _, rfl, s, p, aL, aC, how, y, bs, rfl, hP.ex e, rfl, rfl, hy, by rw [hl, W.cho], by omega, fun z H2 n e2 ⟨_, r⟩ => q z H2 n e2 ⟨_, _, r⟩⟩
theorem s_callD {sp : Sp} {vs : List V} (h : EvA tA σ H vs) (hs : ∀ H1, Ex H H1 → sp vs H1 D.rt E) : tRet (tCall sp [] E tA) D σ H := h H (Ex.refl _) _ fun H1 e => by
  show sp (vs ++ []) H1 D.rt E
  rw [List.append_nil]
  exact hs H1 e
end
def sp_flooded (K : PySem.W.Frag) : Sp := P7 fun a b c d f g h H Q E => ∃ (s : Sq50.State) (p aL aC : Addr) (how x y tol kind cn : Nat), a = .ref p ∧ PicA K H p s aL aC ∧ WF s ∧ b = .int (how : Int) ∧ c = .int (x : Int) ∧ d = .int (y : Int) ∧ f = .int (tol : Int) ∧ g = .int (kind : Int) ∧ h = .int (cn : Int) ∧ Tk K H ∧ Does K (dFlood s how x y tol kind cn) H Q E
theorem ev_eqN {σ : L2.St} {H : Hp} {te : TE} {n c : Nat} {z : Int} (h : Ev te σ H (.int (n : Int))) (hz : z = (c : Int)) : Ev (tOp rEq te (tC (.int z))) σ H (.bl (n == c)) := ev_is (ev_op h ev_c (rv_eq rfl)) (congrArg V.bl (by
  rw [dec_int, hz, Bool.eq_iff_iff, beq_iff_eq, beq_iff_eq]
  omega))
theorem ok_flooded (T : Tx K mg) : Ok P w K mg base (L2.CX P w) (4 + 1) (He.ga K "flooded") ["picture", "how", "x", "y", "tolerance", "kind", "corners"] (sp_flooded K) := by
  refine mkX T.f_flooded sc_flooded bd_flooded P7.len (fun cdv A outer s H vs Q E hr h => ⟨_, (pss_cons (ps_expr (oc (ok_want T) hr (by decide) T.g_want passR (pa_cons (pe_and (pe_cmpR op_le (pv 1) (pgi T.i_LAST_HOW) (nomark _)) (pe_and (pe_cmpR op_le (pv 5) pe_int (nomark _)) (pe_and (pe_cmpR op_le (pv 6) pe_int (nomark _)) (pe_one (om (ok_Picture_has T) T.c_Picture T.m_Picture_has hr (by decide) ((pass0 : Passes CX0 _ E0)) (pv 0) (pa_cons (pv 2) (pa_cons (pv 3) pa_nil))))))) (pa_cons (pgi T.i_NOT_SO) pa_nil))))
    (pss_one (ps_ret (oc (ok_joined T) hr (by decide) T.g_joined ((pass0 : Passes CX0 _ E0)) (pa_cons (pv 0) (pa_cons (pv 1) (pa_cons (oc (ok_flood T) hr (by decide) T.g_flood ((pass0 : Passes CX0 _ E0)) (pa_cons (pv 0) (pa_cons (om (ok_Picture_place T) T.c_Picture T.m_Picture_place hr (by decide) ((pass0 : Passes CX0 _ E0)) (pv 0) (pa_cons (pv 2) (pa_cons (pv 3) pa_nil))) (pa_cons (pv 4) (pa_cons (pv 5) (pa_cons (pe_cmpR op_eq (pv 6) pe_int (nomark _)) pa_nil)))))) pa_nil))))))), ?_⟩)
  obtain ⟨_, _, _, _, _, _, _, rfl, s, p, aL, aC, how, x, y, tol, kind, cn, rfl, hP, W, rfl, rfl, rfl, rfl, rfl, rfl, hT, hD⟩ := h
  have w2 := W.w2
  refine q_wish (g := decide (how ≤ 4) && (decide (kind ≤ 1) && (decide (cn ≤ 1) && decide (x < s.w ∧ y < s.h)))) (ev_andV (ev_is (ev_op (ev_var rfl) ev_c rv_I0) (congrArg V.bl (dec_le rfl))) fun _ => ev_andV (ev_is (ev_op (ev_var rfl) ev_c rv_I0) (congrArg V.bl (dec_le rfl))) fun _ => ev_andV (ev_is (ev_op (ev_var rfl) ev_c rv_I0) (congrArg V.bl (dec_le rfl))) fun _ => ev_is (ev_has (ev_var rfl) hP (ev_var rfl) (ev_var rfl)) (congrArg V.bl (decide_eq_decide.mpr (by omega)))) ev_c hT hD fun hg H1 e1 hD => ?_
  simp only [Bool.and_eq_true, decide_eq_true_eq] at hg
  replace hP := hP.ex e1
  replace hT := hT.ex e1
  have hlt : y * s.w + x < s.w * s.h := cell_lt hg.2.2.2.1 hg.2.2.2.2
  exact s_done (evn_joined (ev_var rfl) hP (ev_var rfl) (evn_call (R := fun z H' => H' z = some (.lst ((pFlood s (y * s.w + x) tol kind (cn == 1)).map V.bl))) (ea_cons (ev_var rfl) (ea_cons (ev_is (ev_place (ev_var rfl) hP (by omega) (ev_var rfl) (ev_var rfl)) (by push_cast; rfl)) (ea_cons (ev_var rfl) (ea_cons (ev_var rfl) (ea_cons (ev_eqN (c := 1) (ev_var rfl) rfl) ea_nil))))) fun H2 e2 Q E q => ⟨_, _, _, _, _, rfl, s, p, aL, aC, y * s.w + x, tol, kind, cn == 1, rfl, hP.ex e2, W, rfl, rfl, rfl, rfl, hlt, q⟩) (pFlood_len ..) W) hT hD rfl
/-! ### the deeds, sorted -/
def nth (l : List Nat) (i : Nat) : Nat := (l[i]?).getD 0
def szD : List Nat := [0, 1, 1, 4, 1, 5, 6, 1, 1, 1, 2, 1, 3, 2, 0, 0, 0, 0, 1]
theorem ev_nth {σ : L2.St} {H : Hp} {te : TE} {aN : Addr} {l : List Nat} {i : Nat} (h : Ev te σ H (.ref aN)) (hx : H aN = some (.lst (nums l))) (hi : i < l.length) {z : Int} (hz : z = (i : Int) := by rfl) : Ev (tOp (rIxL K) te (tC (.int z))) σ H (.int (nth l i : Int)) := by
  subst hz
  refine ev_op h ev_c (rv_ixL (sq_of hx) (atI_nat ?_))
  unfold nth
  rw [List.getElem?_map, List.getElem?_eq_getElem hi]
  rfl
def dLayers (s : Sq50.State) (deed : Nat) (l : List Nat) : Except Int Sq50.State :=
  if deed = 0 then wish (decide (s.layers.length < 5)) (-5) (.ok (newL s (List.replicate (s.w * s.h) (0, 0))))
  else if deed = 1 then dGone s (nth l 0)
  else if deed = 2 then dUp s (nth l 0)
  else if deed = 3 then dSo s (nth l 0) (nth l 1) (nth l 2) (nth l 3)
  else dWork s (nth l 0)
section
variable {σ : L2.St} {H : Hp} {ta tb : TE} {D : Ends} {tz : TS} {E : XK} {s : Sq50.State} {p aL aC : Addr} {r : Except Int Sq50.State} {Q : VK}
theorem q_room (ho : Ev ta σ H (.ref p)) (hP : PicA K H p s aL aC) (hT : Tk K H) (hD : Does K (wish (decide (s.layers.length < 5)) (-5) r) H Q E) (k : s.layers.length < 5 → ∀ H1, Ex H H1 → Does K r H1 Q E → tz D σ H1) : tSeq (tDrop (tCall (sp_room K) [] E (tCons ta tNil))) tz D σ H :=
  ho H (Ex.refl _) _ fun H1 e1 => ⟨_, rfl, s, p, aL, aC, rfl, hP.ex e1, hT.ex e1, fun hg H2 e2 => k hg H2 (e1.trans e2) (by
    rw [decide_eq_true hg] at hD
    exact Does.ex (r := r) hD (e1.trans e2)), fun hg => by
    rw [decide_eq_false hg] at hD
    exact RaisesK.ex (z := -5) hD e1⟩
end
def sp_ofl (K : PySem.W.Frag) : Sp := P3 fun a b c H Q E => ∃ (s : Sq50.State) (p aL aC : Addr) (deed : Nat) (aN : Addr) (l : List Nat), a = .ref p ∧ PicA K H p s aL aC ∧ WF s ∧ b = .int (deed : Int) ∧ c = .ref aN ∧ H aN = some (.lst (nums l)) ∧ szD[deed]? = some l.length ∧ deed ≤ 4 ∧ Tk K H ∧ Does K (dLayers s deed l) H Q E
theorem ok_of_layers (T : Tx K mg) : Ok P w K mg base (L2.CX P w) (5 + 1) (He.ga K "of_layers") ["picture", "deed", "n"] (sp_ofl K) := by
  refine mkX T.f_of_layers sc_of_layers bd_of_layers P3.len (fun cdv A outer s H vs Q E hr h => ⟨_, (pss_cons (ps_if (pt_cmpR op_eq (pv 1) pe_int (nomark _)) (pss_cons (ps_expr (oc (ok_want_room T) hr (by decide) T.g_want_room passR (pa_cons (pv 0) pa_nil)))
    (pss_one (ps_ret (om (ok_Picture_with_new_layer T) T.c_Picture T.m_Picture_with_new_layer hr (by decide) ((pass0 : Passes CX0 _ E0)) (pv 0) (pa_cons (pe_op op_rep (pe_lst (pa_cons (pgr T.g_EMPTY) pa_nil)) (om0 (ok_Picture_size T) T.c_Picture T.m_Picture_size hr (by decide) ((pass0 : Passes CX0 _ E0)) (pv 0))) pa_nil))))) pss_nil)
    (pss_cons (ps_if (pt_cmpR op_eq (pv 1) pe_int (nomark _)) (pss_one (ps_ret (oc (ok_layer_gone T) hr (by decide) T.g_layer_gone passR (pa_cons (pv 0) (pa_cons (pe_ix (kix_list (K := K)) (pv 2) pe_int (fun _ _ => rfl)) pa_nil))))) pss_nil)
    (pss_cons (ps_if (pt_cmpR op_eq (pv 1) pe_int (nomark _)) (pss_one (ps_ret (oc (ok_layer_up T) hr (by decide) T.g_layer_up passR (pa_cons (pv 0) (pa_cons (pe_ix (kix_list (K := K)) (pv 2) pe_int (fun _ _ => rfl)) pa_nil))))) pss_nil)
    (pss_cons (ps_if (pt_cmpR op_eq (pv 1) pe_int (nomark _)) (pss_one (ps_ret (oc (ok_layer_so T) hr (by decide) T.g_layer_so passR (pa_cons (pv 0) (pa_cons (pe_ix (kix_list (K := K)) (pv 2) pe_int (fun _ _ => rfl)) (pa_cons (pe_ix (kix_list (K := K)) (pv 2) pe_int (fun _ _ => rfl)) (pa_cons (pe_ix (kix_list (K := K)) (pv 2) pe_int (fun _ _ => rfl)) (pa_cons (pe_ix (kix_list (K := K)) (pv 2) pe_int (fun _ _ => rfl)) pa_nil)))))))) pss_nil)
    (pss_one (ps_ret (oc (ok_layer_worked_on T) hr (by decide) T.g_layer_worked_on passR (pa_cons (pv 0) (pa_cons (pe_ix (kix_list (K := K)) (pv 2) pe_int (fun _ _ => rfl)) pa_nil))))))))), ?_⟩)
  obtain ⟨_, _, _, rfl, s, p, aL, aC, deed, aN, l, rfl, hP, W, rfl, rfl, hN, hz, h4, hT, hD⟩ := h
  have w2 := W.w2
  have hsz := W.sz
  unfold dLayers at hD
  refine q_when (et_eqn 0 (ev_var rfl)) (fun hb H1 e1 => ?_) (fun h0 H1 e1 => ?_)
  · have hb := of_decide_eq_true hb
    rw [if_pos hb] at hD
    replace hP := hP.ex e1
    replace hT := hT.ex e1
    replace hD := hD.ex e1
    refine q_room (ev_var rfl) hP hT hD fun hg H2 e2 hD => ?_
    replace hP := hP.ex e2
    replace hT := hT.ex e2
    exact s_done (evn_pm1 (R := fun x H' => DotsAt K H' x (List.replicate (s.w * s.h) (0, 0))) (S := fun y H' => ∃ aL aC, PicA K H' y (newL s (List.replicate (s.w * s.h) (0, 0))) aL aC) (ev_var rfl) hP ((evn_rep (n := s.w * s.h) ev_c (ev_size (ev_var rfl) hP (by omega)) (by omega)).imp fun x H3 e3 r => ⟨_, r, pair_rep ⟨_, rfl, T.t_EMPTY H3⟩ _⟩)
      fun x H3 e3 r Q E q => ⟨_, _, rfl, s, p, aL, aC, x, _, rfl, hP.ex e3, W, rfl, r, fun y H4 n e4 ⟨aL', r⟩ => q y H4 n e4 ⟨aL', aC, r⟩⟩) hT hD rfl
  have h0 := of_decide_eq_false h0
  rw [if_neg h0] at hD
  replace hN := e1 _ _ hN
  replace hP := hP.ex e1
  replace hT := hT.ex e1
  replace hD := hD.ex e1
  refine q_when (et_eqn 1 (ev_var rfl)) (fun hb H2 e2 => ?_) (fun h1 H2 e2 => ?_)
  · have hb := of_decide_eq_true hb
    rw [if_pos hb] at hD
    subst hb
    have hl : 1 = l.length := Option.some.inj hz
    exact s_callD (ea_cons (ev_var rfl) (ea_cons (ev_nth (i := 0) (ev_var rfl) (e2 _ _ hN) (by omega)) ea_nil)) fun H3 e3 => ⟨_, _, rfl, s, p, aL, aC, nth l 0, rfl, hP.ex (e2.trans e3), W, rfl, hT.ex (e2.trans e3), hD.ex (e2.trans e3)⟩
  have h1 := of_decide_eq_false h1
  rw [if_neg h1] at hD
  replace hN := e2 _ _ hN
  replace hP := hP.ex e2
  replace hT := hT.ex e2
  replace hD := hD.ex e2
  refine q_when (et_eqn 2 (ev_var rfl)) (fun hb H3 e3 => ?_) (fun h2 H3 e3 => ?_)
  · have hb := of_decide_eq_true hb
    rw [if_pos hb] at hD
    subst hb
    have hl : 1 = l.length := Option.some.inj hz
    exact s_callD (ea_cons (ev_var rfl) (ea_cons (ev_nth (i := 0) (ev_var rfl) (e3 _ _ hN) (by omega)) ea_nil)) fun H4 e4 => ⟨_, _, rfl, s, p, aL, aC, nth l 0, rfl, hP.ex (e3.trans e4), W, rfl, hT.ex (e3.trans e4), hD.ex (e3.trans e4)⟩
  have h2 := of_decide_eq_false h2
  rw [if_neg h2] at hD
  replace hN := e3 _ _ hN
  replace hP := hP.ex e3
  replace hT := hT.ex e3
  replace hD := hD.ex e3
  refine q_when (et_eqn 3 (ev_var rfl)) (fun hb H4 e4 => ?_) (fun h3 H4 e4 => ?_)
  · have hb := of_decide_eq_true hb
    rw [if_pos hb] at hD
    subst hb
    have hl : 4 = l.length := Option.some.inj hz
    have hN4 := e4 _ _ hN
    exact s_callD (ea_cons (ev_var rfl) (ea_cons (ev_nth (i := 0) (ev_var rfl) hN4 (by omega)) (ea_cons (ev_nth (i := 1) (ev_var rfl) hN4 (by omega)) (ea_cons (ev_nth (i := 2) (ev_var rfl) hN4 (by omega)) (ea_cons (ev_nth (i := 3) (ev_var rfl) hN4 (by omega)) ea_nil))))) fun H5 e5 => ⟨_, _, _, _, _, rfl, s, p, aL, aC, nth l 0, nth l 1, nth l 2, nth l 3, rfl, hP.ex (e4.trans e5), W, rfl, rfl, rfl, rfl, hT.ex (e4.trans e5), hD.ex (e4.trans e5)⟩
  have h3 := of_decide_eq_false h3
  rw [if_neg h3] at hD
  have hd : deed = 4 := by omega
  subst hd
  have hl : 1 = l.length := Option.some.inj hz
  exact s_callD (ea_cons (ev_var rfl) (ea_cons (ev_nth (i := 0) (ev_var rfl) (e4 _ _ hN) (by omega)) ea_nil)) fun H5 e5 => ⟨_, _, rfl, s, p, aL, aC, nth l 0, rfl, hP.ex (e4.trans e5), W, rfl, hT.ex (e4.trans e5), hD.ex (e4.trans e5)⟩
def dChoice (s : Sq50.State) (deed : Nat) (l : List Nat) : Except Int Sq50.State :=
  if deed = 5 then wish (decide (nth l 0 ≤ 4)) (-1) (.ok (joinS s (nth l 0) ((List.range (s.w * s.h)).map (rectB s (nth l 1) (nth l 2) (nth l 3) (nth l 4)))))
  else if deed = 6 then dFlood s (nth l 0) (nth l 1) (nth l 2) (nth l 3) (nth l 4) (nth l 5)
  else if deed = 7 then wish (decide (nth l 0 ≤ 4)) (-1) (.ok (joinS s (nth l 0) (List.replicate (s.w * s.h) true)))
  else wish (decide (nth l 0 ≤ 1000)) (-1) (.ok (if deed = 8 then { s with chosen := pNear s (nth l 0) (onL s) } else { s with chosen := (pNear s (nth l 0) (offL s)).map fun b => !b }))
def sp_ofc (K : PySem.W.Frag) : Sp := P3 fun a b c H Q E => ∃ (s : Sq50.State) (p aL aC : Addr) (deed : Nat) (aN : Addr) (l : List Nat), a = .ref p ∧ PicA K H p s aL aC ∧ WF s ∧ b = .int (deed : Int) ∧ c = .ref aN ∧ H aN = some (.lst (nums l)) ∧ szD[deed]? = some l.length ∧ 5 ≤ deed ∧ deed ≤ 9 ∧ Tk K H ∧ Does K (dChoice s deed l) H Q E
theorem ok_of_choice (T : Tx K mg) : Ok P w K mg base (L2.CX P w) (5 + 1) (He.ga K "of_choice") ["picture", "deed", "n"] (sp_ofc K) := by
  refine mkX T.f_of_choice sc_of_choice bd_of_choice P3.len (fun cdv A outer s H vs Q E hr h => ⟨_, (pss_cons (ps_if (pt_cmpR op_eq (pv 1) pe_int (nomark _)) (pss_cons (ps_expr (oc (ok_want T) hr (by decide) T.g_want passR (pa_cons (pe_cmpR op_le (pe_ix (kix_list (K := K)) (pv 2) pe_int (fun _ _ => rfl)) (pgi T.i_LAST_HOW) (nomark _)) (pa_cons (pgi T.i_NOT_SO) pa_nil))))
    (pss_one (ps_ret (oc (ok_joined T) hr (by decide) T.g_joined ((pass0 : Passes CX0 _ E0)) (pa_cons (pv 0) (pa_cons (pe_ix (kix_list (K := K)) (pv 2) pe_int (fun _ _ => rfl)) (pa_cons (oc (ok_rectangle T) hr (by decide) T.g_rectangle ((pass0 : Passes CX0 _ E0)) (pa_cons (pv 0) (pa_cons (pe_ix (kix_list (K := K)) (pv 2) pe_int (fun _ _ => rfl)) (pa_cons (pe_ix (kix_list (K := K)) (pv 2) pe_int (fun _ _ => rfl)) (pa_cons (pe_ix (kix_list (K := K)) (pv 2) pe_int (fun _ _ => rfl)) (pa_cons (pe_ix (kix_list (K := K)) (pv 2) pe_int (fun _ _ => rfl)) pa_nil)))))) pa_nil))))))) pss_nil)
    (pss_cons (ps_if (pt_cmpR op_eq (pv 1) pe_int (nomark _)) (pss_one (ps_ret (oc (ok_flooded T) hr (by decide) T.g_flooded passR (pa_cons (pv 0) (pa_cons (pe_ix (kix_list (K := K)) (pv 2) pe_int (fun _ _ => rfl)) (pa_cons (pe_ix (kix_list (K := K)) (pv 2) pe_int (fun _ _ => rfl)) (pa_cons (pe_ix (kix_list (K := K)) (pv 2) pe_int (fun _ _ => rfl)) (pa_cons (pe_ix (kix_list (K := K)) (pv 2) pe_int (fun _ _ => rfl)) (pa_cons (pe_ix (kix_list (K := K)) (pv 2) pe_int (fun _ _ => rfl)) (pa_cons (pe_ix (kix_list (K := K)) (pv 2) pe_int (fun _ _ => rfl)) pa_nil)))))))))) pss_nil)
    (pss_cons (ps_if (pt_cmpR op_eq (pv 1) pe_int (nomark _)) (pss_cons (ps_expr (oc (ok_want T) hr (by decide) T.g_want passR (pa_cons (pe_cmpR op_le (pe_ix (kix_list (K := K)) (pv 2) pe_int (fun _ _ => rfl)) (pgi T.i_LAST_HOW) (nomark _)) (pa_cons (pgi T.i_NOT_SO) pa_nil))))
    (pss_one (ps_ret (oc (ok_joined T) hr (by decide) T.g_joined ((pass0 : Passes CX0 _ E0)) (pa_cons (pv 0) (pa_cons (pe_ix (kix_list (K := K)) (pv 2) pe_int (fun _ _ => rfl)) (pa_cons (pe_op op_rep (pe_lst (pa_cons pe_bl pa_nil)) (om0 (ok_Picture_size T) T.c_Picture T.m_Picture_size hr (by decide) ((pass0 : Passes CX0 _ E0)) (pv 0))) pa_nil))))))) pss_nil)
    (pss_cons (ps_expr (oc (ok_want T) hr (by decide) T.g_want passR (pa_cons (pe_cmpR op_le (pe_ix (kix_list (K := K)) (pv 2) pe_int (fun _ _ => rfl)) (pgi T.i_MOST_FAR) (nomark _)) (pa_cons (pgi T.i_NOT_SO) pa_nil))))
    (pss_cons (ps_if (pt_cmpR op_eq (pv 1) pe_int (nomark _)) (pss_one (ps_ret (om (ok_Picture_with_chosen T) T.c_Picture T.m_Picture_with_chosen hr (by decide) ((pass0 : Passes CX0 _ E0)) (pv 0) (pa_cons (oc (ok_grown T) hr (by decide) T.g_grown ((pass0 : Passes CX0 _ E0)) (pa_cons (pv 0) (pa_cons (pe_ix (kix_list (K := K)) (pv 2) pe_int (fun _ _ => rfl)) pa_nil))) pa_nil)))) pss_nil)
    (pss_one (ps_ret (om (ok_Picture_with_chosen T) T.c_Picture T.m_Picture_with_chosen hr (by decide) ((pass0 : Passes CX0 _ E0)) (pv 0) (pa_cons (oc (ok_shrunk T) hr (by decide) T.g_shrunk ((pass0 : Passes CX0 _ E0)) (pa_cons (pv 0) (pa_cons (pe_ix (kix_list (K := K)) (pv 2) pe_int (fun _ _ => rfl)) pa_nil))) pa_nil))))))))), ?_⟩)
  obtain ⟨_, _, _, rfl, s, p, aL, aC, deed, aN, l, rfl, hP, W, rfl, rfl, hN, hz, h5, h9, hT, hD⟩ := h
  have w2 := W.w2
  have hsz := W.sz
  unfold dChoice at hD
  refine q_when (et_eqn 5 (ev_var rfl)) (fun hb H1 e1 => ?_) (fun h0 H1 e1 => ?_)
  · have hb := of_decide_eq_true hb
    rw [if_pos hb] at hD
    subst hb
    have hl : 5 = l.length := Option.some.inj hz
    replace hN := e1 _ _ hN
    replace hP := hP.ex e1
    replace hT := hT.ex e1
    replace hD := hD.ex e1
    refine q_wish (g := decide (nth l 0 ≤ 4)) (ev_is (ev_op (ev_nth (i := 0) (ev_var rfl) hN (by omega)) ev_c rv_I0) (congrArg V.bl (dec_le rfl))) ev_c hT hD fun hg H2 e2 hD => ?_
    replace hN := e2 _ _ hN
    replace hP := hP.ex e2
    replace hT := hT.ex e2
    exact s_done (evn_joined (ev_var rfl) hP (ev_nth (i := 0) (ev_var rfl) hN (by omega)) (evn_call (ea_cons (ev_var rfl) (ea_cons (ev_nth (i := 1) (ev_var rfl) hN (by omega)) (ea_cons (ev_nth (i := 2) (ev_var rfl) hN (by omega)) (ea_cons (ev_nth (i := 3) (ev_var rfl) hN (by omega)) (ea_cons (ev_nth (i := 4) (ev_var rfl) hN (by omega)) ea_nil))))) fun H3 e3 Q E q => ⟨_, _, _, _, _, rfl, s, p, aL, aC, nth l 1, nth l 2, nth l 3, nth l 4, rfl, hP.ex e3, W, rfl, rfl, rfl, rfl, q⟩) (by rw [List.length_map, List.length_range]) W) hT hD rfl
  have h0 := of_decide_eq_false h0
  rw [if_neg h0] at hD
  replace hN := e1 _ _ hN
  replace hP := hP.ex e1
  replace hT := hT.ex e1
  replace hD := hD.ex e1
  refine q_when (et_eqn 6 (ev_var rfl)) (fun hb H2 e2 => ?_) (fun h1 H2 e2 => ?_)
  · have hb := of_decide_eq_true hb
    rw [if_pos hb] at hD
    subst hb
    have hl : 6 = l.length := Option.some.inj hz
    have hN2 := e2 _ _ hN
    exact s_callD (ea_cons (ev_var rfl) (ea_cons (ev_nth (i := 0) (ev_var rfl) hN2 (by omega)) (ea_cons (ev_nth (i := 1) (ev_var rfl) hN2 (by omega)) (ea_cons (ev_nth (i := 2) (ev_var rfl) hN2 (by omega)) (ea_cons (ev_nth (i := 3) (ev_var rfl) hN2 (by omega)) (ea_cons (ev_nth (i := 4) (ev_var rfl) hN2 (by omega)) (ea_cons (ev_nth (i := 5) (ev_var rfl) hN2 (by omega)) ea_nil))))))) fun H3 e3 => ⟨_, _, _, _, _, _, _, rfl, s, p, aL, aC, nth l 0, nth l 1, nth l 2, nth l 3, nth l 4, nth l 5, rfl, hP.ex (e2.trans e3), W, rfl, rfl, rfl, rfl, rfl, rfl, hT.ex (e2.trans e3), hD.ex (e2.trans e3)⟩
  have h1 := of_decide_eq_false h1
  rw [if_neg h1] at hD
  replace hN := e2 _ _ hN
  replace hP := hP.ex e2
  replace hT := hT.ex e2
  replace hD := hD.ex e2
  refine q_when (et_eqn 7 (ev_var rfl)) (fun hb H3 e3 => ?_) (fun h2 H3 e3 => ?_)
  · have hb := of_decide_eq_true hb
    rw [if_pos hb] at hD
    subst hb
    have hl : 1 = l.length := Option.some.inj hz
    replace hN := e3 _ _ hN
    replace hP := hP.ex e3
    replace hT := hT.ex e3
    replace hD := hD.ex e3
    refine q_wish (g := decide (nth l 0 ≤ 4)) (ev_is (ev_op (ev_nth (i := 0) (ev_var rfl) hN (by omega)) ev_c rv_I0) (congrArg V.bl (dec_le rfl))) ev_c hT hD fun hg H4 e4 hD => ?_
    replace hN := e4 _ _ hN
    replace hP := hP.ex e4
    replace hT := hT.ex e4
    exact s_done (evn_joined (ev_var rfl) hP (ev_nth (i := 0) (ev_var rfl) hN (by omega)) ((evn_rep (n := s.w * s.h) ev_c (ev_size (ev_var rfl) hP (by omega)) (by omega)).imp fun y H5 e5 r => by rw [r, List.map_replicate]) List.length_replicate W) hT hD rfl
  have h2 := of_decide_eq_false h2
  rw [if_neg h2] at hD
  have hd : deed = 8 ∨ deed = 9 := by omega
  have hl : 1 = l.length := by rcases hd with rfl | rfl <;> exact Option.some.inj hz
  replace hN := e3 _ _ hN
  replace hP := hP.ex e3
  replace hT := hT.ex e3
  replace hD := hD.ex e3
  refine q_wish (g := decide (nth l 0 ≤ 1000)) (ev_is (ev_op (ev_nth (i := 0) (ev_var rfl) hN (by omega)) ev_c rv_I0) (congrArg V.bl (dec_le rfl))) ev_c hT hD fun hg H4 e4 hD => ?_
  replace hN := e4 _ _ hN
  replace hP := hP.ex e4
  replace hT := hT.ex e4
  refine q_when (et_eqn 8 (ev_var rfl)) (fun hb H5 e5 => ?_) (fun h3 H5 e5 => ?_)
  · have hb := of_decide_eq_true hb
    rw [if_pos hb] at hD
    replace hN := e5 _ _ hN
    replace hP := hP.ex e5
    replace hT := hT.ex e5
    replace hD := hD.ex e5
    exact s_done (evn_pm1 (ev_var rfl) hP (evn_call (ea_cons (ev_var rfl) (ea_cons (ev_nth (i := 0) (ev_var rfl) hN (by omega)) ea_nil)) fun H6 e6 Q E q => ⟨_, _, rfl, s, p, aL, aC, nth l 0, rfl, hP.ex e6, W, rfl, q⟩) fun x H6 e6 r Q E q => ⟨_, _, rfl, s, p, aL, aC, x, pNear s (nth l 0) (onL s), rfl, hP.ex e6, rfl, r, fun y H7 n7 e7 r => q y H7 n7 e7 ⟨_, _, r⟩⟩) hT hD rfl
  · have hb := of_decide_eq_false h3
    rw [if_neg hb] at hD
    replace hN := e5 _ _ hN
    replace hP := hP.ex e5
    replace hT := hT.ex e5
    replace hD := hD.ex e5
    exact s_done (evn_pm1 (ev_var rfl) hP (evn_call (ea_cons (ev_var rfl) (ea_cons (ev_nth (i := 0) (ev_var rfl) hN (by omega)) ea_nil)) fun H6 e6 Q E q => ⟨_, _, rfl, s, p, aL, aC, nth l 0, rfl, hP.ex e6, W, rfl, q⟩) fun x H6 e6 r Q E q => ⟨_, _, rfl, s, p, aL, aC, x, (pNear s (nth l 0) (offL s)).map fun b => !b, rfl, hP.ex e6, rfl, r, fun y H7 n7 e7 r => q y H7 n7 e7 ⟨_, _, r⟩⟩) hT hD rfl
end Lp
set_option Elab.async false
set_option linter.all false
set_option maxRecDepth 100000
set_option maxHeartbeats 4000000
namespace Lp
open PySem PySem.Spec PyProof.Rows L2 Evl
variable {P : Program} {w : World} {K : PySem.W.Frag} {mg : Str → Option Value} {base : Heap}
def dDots (s : Sq50.State) (deed : Nat) (l : List Nat) : Except Int Sq50.State :=
  if deed = 10 then wish (decide (nth l 0 ≤ 255) && decide (nth l 1 ≤ 255)) (-1) (.ok (setD s (chD s fun i => if mayB s i = true then some (nth l 0, nth l 1) else none)))
  else if deed = 11 then wish (decide (nth l 0 ≤ 4)) (-1) (.ok (setD s (chD s (bwF s (nth l 0) Sq45.mean))))
  else if deed = 12 then wish (decide (nth l 0 ≤ 4) && (decide (0 < nth l 2) && decide (nth l 1 ≤ nth l 2))) (-1) (.ok (setD s (chD s (bwF s (nth l 0) (Sq45.ranked (nth l 1) (nth l 2))))))
  else if deed = 13 then wish (decide (nth l 0 ≤ 32) && decide (nth l 1 ≤ 32)) (-1) (.ok { setD s (pMoved s ((nth l 0 : Int) - 16) ((nth l 1 : Int) - 16)).1 with chosen := (pMoved s ((nth l 0 : Int) - 16) ((nth l 1 : Int) - 16)).2 })
  else .ok (setD s (chD s fun i => if mayB s i = true then some (0, 0) else none))
theorem dec_lt {a b : Nat} {i : Int} (h : i = (a : Int)) : decide (i < (b : Int)) = decide (a < b) := decide_eq_decide.mpr (by omega)
theorem dec_le2 {a b : Nat} : decide ((a : Int) ≤ (b : Int)) = decide (a ≤ b) := decide_eq_decide.mpr (by omega)
def sp_ofd (K : PySem.W.Frag) : Sp := P3 fun a b c H Q E => ∃ (s : Sq50.State) (p aL aC : Addr) (deed : Nat) (aN : Addr) (l : List Nat), a = .ref p ∧ PicA K H p s aL aC ∧ WF s ∧ b = .int (deed : Int) ∧ c = .ref aN ∧ H aN = some (.lst (nums l)) ∧ szD[deed]? = some l.length ∧ 10 ≤ deed ∧ deed ≤ 14 ∧ (∀ x ∈ l, x < 2 ^ 64) ∧ Tk K H ∧ Does K (dDots s deed l) H Q E
theorem nth_lt {l : List Nat} (h : ∀ x ∈ l, x < 2 ^ 64) (i : Nat) : nth l i < 2 ^ 64 := by
  unfold nth
  cases z : l[i]? with
  | none => show 0 < 2 ^ 64; decide
  | some x => exact h x (List.mem_of_getElem? z)
theorem ok_of_dots (T : Tx K mg) (B : TBs K mg base) : Ok P w K mg base (L2.CX P w) 8 (He.ga K "of_dots") ["picture", "deed", "n"] (sp_ofd K) := by
  refine mkX T.f_of_dots sc_of_dots bd_of_dots P3.len (fun cdv A outer s H vs Q E hr h => ⟨_, (pss_cons (ps_if (pt_cmpR op_eq (pv 1) pe_int (nomark _)) (pss_cons (ps_expr (oc (ok_want T) hr (by decide) T.g_want passR (pa_cons (pe_and (pe_cmpR op_le (pe_ix (kix_list (K := K)) (pv 2) pe_int (fun _ _ => rfl)) (pgi T.i_GREATEST) (nomark _)) (pe_one (pe_cmpR op_le (pe_ix (kix_list (K := K)) (pv 2) pe_int (fun _ _ => rfl)) (pgi T.i_GREATEST) (nomark _)))) (pa_cons (pgi T.i_NOT_SO) pa_nil))))
    (pss_one (ps_ret (oc (ok_filled T) hr (by decide) T.g_filled ((pass0 : Passes CX0 _ E0)) (pa_cons (pv 0) (pa_cons (pe_tup (pa_cons (pe_ix (kix_list (K := K)) (pv 2) pe_int (fun _ _ => rfl)) (pa_cons (pe_ix (kix_list (K := K)) (pv 2) pe_int (fun _ _ => rfl)) pa_nil))) pa_nil)))))) pss_nil)
    (pss_cons (ps_if (pt_cmpR op_eq (pv 1) pe_int (nomark _)) (pss_cons (ps_expr (oc (ok_want T) hr (by decide) T.g_want passR (pa_cons (pe_cmpR op_le (pe_ix (kix_list (K := K)) (pv 2) pe_int (fun _ _ => rfl)) (pgi T.i_MOST_REACH) (nomark _)) (pa_cons (pgi T.i_NOT_SO) pa_nil))))
    (pss_one (ps_ret (oc (ok_smoothed T) hr (by decide) T.g_smoothed ((pass0 : Passes CX0 _ E0)) (pa_cons (pv 0) (pa_cons (pe_ix (kix_list (K := K)) (pv 2) pe_int (fun _ _ => rfl)) pa_nil)))))) pss_nil)
    (pss_cons (ps_if (pt_cmpR op_eq (pv 1) pe_int (nomark _)) (pss_cons (ps_expr (oc (ok_want T) hr (by decide) T.g_want passR (pa_cons (pe_and (pe_cmpR op_le (pe_ix (kix_list (K := K)) (pv 2) pe_int (fun _ _ => rfl)) (pgi T.i_MOST_REACH) (nomark _)) (pe_and (pe_cmpR op_lt pe_int (pe_ix (kix_list (K := K)) (pv 2) pe_int (fun _ _ => rfl)) (nomark _)) (pe_one (pe_cmpR op_le (pe_ix (kix_list (K := K)) (pv 2) pe_int (fun _ _ => rfl)) (pe_ix (kix_list (K := K)) (pv 2) pe_int (fun _ _ => rfl)) (nomark _))))) (pa_cons (pgi T.i_NOT_SO) pa_nil))))
    (pss_one (ps_ret (oc (ok_ranked T B) hr (by decide) T.g_ranked ((pass0 : Passes CX0 _ E0)) (pa_cons (pv 0) (pa_cons (pe_ix (kix_list (K := K)) (pv 2) pe_int (fun _ _ => rfl)) (pa_cons (pe_ix (kix_list (K := K)) (pv 2) pe_int (fun _ _ => rfl)) (pa_cons (pe_ix (kix_list (K := K)) (pv 2) pe_int (fun _ _ => rfl)) pa_nil)))))))) pss_nil)
    (pss_cons (ps_if (pt_cmpR op_eq (pv 1) pe_int (nomark _)) (pss_cons (ps_expr (oc (ok_want T) hr (by decide) T.g_want passR (pa_cons (pe_and (pe_cmpR op_le (pe_ix (kix_list (K := K)) (pv 2) pe_int (fun _ _ => rfl)) (pgi T.i_MOST_MOVE) (nomark _)) (pe_one (pe_cmpR op_le (pe_ix (kix_list (K := K)) (pv 2) pe_int (fun _ _ => rfl)) (pgi T.i_MOST_MOVE) (nomark _)))) (pa_cons (pgi T.i_NOT_SO) pa_nil))))
    (pss_one (ps_ret (oc (ok_moved T) hr (by decide) T.g_moved ((pass0 : Passes CX0 _ E0)) (pa_cons (pv 0) (pa_cons (pe_op op_sub (pe_ix (kix_list (K := K)) (pv 2) pe_int (fun _ _ => rfl)) (pgi T.i_MIDDLE)) (pa_cons (pe_op op_sub (pe_ix (kix_list (K := K)) (pv 2) pe_int (fun _ _ => rfl)) (pgi T.i_MIDDLE)) pa_nil))))))) pss_nil)
    (pss_one (ps_ret (oc (ok_filled T) hr (by decide) T.g_filled ((pass0 : Passes CX0 _ E0)) (pa_cons (pv 0) (pa_cons (pgr T.g_EMPTY) pa_nil))))))))), ?_⟩)
  obtain ⟨_, _, _, rfl, s, p, aL, aC, deed, aN, l, rfl, hP, W, rfl, rfl, hN, hz, h10, h14, hb64, hT, hD⟩ := h
  unfold dDots at hD
  refine q_when (et_eqn 10 (ev_var rfl)) (fun hb H1 e1 => ?_) (fun h0 H1 e1 => ?_)
  · have hb := of_decide_eq_true hb
    rw [if_pos hb] at hD
    subst hb
    have hl : 2 = l.length := Option.some.inj hz
    replace hN := e1 _ _ hN
    replace hP := hP.ex e1
    replace hT := hT.ex e1
    replace hD := hD.ex e1
    refine q_wish (g := decide (nth l 0 ≤ 255) && decide (nth l 1 ≤ 255)) (ev_andV (ev_is (ev_op (ev_nth (i := 0) (ev_var rfl) hN (by omega)) ev_c rv_I0) (congrArg V.bl (dec_le rfl))) fun _ => ev_is (ev_op (ev_nth (i := 1) (ev_var rfl) hN (by omega)) ev_c rv_I0) (congrArg V.bl (dec_le rfl))) ev_c hT hD fun hg H2 e2 hD => ?_
    replace hN := e2 _ _ hN
    replace hP := hP.ex e2
    replace hT := hT.ex e2
    refine s_done (evn_callP (evap_cons (.of (ev_var rfl)) (fun _ _ _ _ h => h) (evap_cons (EvP.ofU (eu_tup (ea_cons (ev_nth (i := 0) (ev_var rfl) hN (by omega)) (ea_cons (ev_nth (i := 1) (ev_var rfl) hN (by omega)) ea_nil)) (by show 2 ≤ 100000; decide))) (fun v H H' e ⟨x, q, z⟩ => ⟨x, q, e _ _ z⟩) evap_nil)) ?_) hT hD rfl
    rintro vs H3 e3 ⟨_, _, rfl, rfl, _, _, rfl, ⟨r, rfl, hr⟩, rfl⟩ Q E q
    exact ⟨_, _, rfl, s, p, aL, aC, (nth l 0, nth l 1), rfl, hP.ex e3, W, ⟨r, rfl, st_of hr⟩, fun y H4 n4 e4 ⟨aL', r⟩ => q y H4 n4 e4 ⟨aL', _, r⟩⟩
  have h0 := of_decide_eq_false h0
  rw [if_neg h0] at hD
  replace hN := e1 _ _ hN
  replace hP := hP.ex e1
  replace hT := hT.ex e1
  replace hD := hD.ex e1
  refine q_when (et_eqn 11 (ev_var rfl)) (fun hb H2 e2 => ?_) (fun h1 H2 e2 => ?_)
  · have hb := of_decide_eq_true hb
    rw [if_pos hb] at hD
    subst hb
    have hl : 1 = l.length := Option.some.inj hz
    replace hN := e2 _ _ hN
    replace hP := hP.ex e2
    replace hT := hT.ex e2
    replace hD := hD.ex e2
    refine q_wish (g := decide (nth l 0 ≤ 4)) (ev_is (ev_op (ev_nth (i := 0) (ev_var rfl) hN (by omega)) ev_c rv_I0) (congrArg V.bl (dec_le rfl))) ev_c hT hD fun hg H3 e3 hD => ?_
    have hg := of_decide_eq_true hg
    replace hN := e3 _ _ hN
    replace hP := hP.ex e3
    replace hT := hT.ex e3
    exact s_done (evn_call (ea_cons (ev_var rfl) (ea_cons (ev_nth (i := 0) (ev_var rfl) hN (by omega)) ea_nil)) fun H4 e4 Q E q => ⟨_, _, rfl, s, p, aL, aC, nth l 0, rfl, hP.ex e4, W, rfl, by omega, fun y H5 n5 e5 ⟨aL', r⟩ => q y H5 n5 e5 ⟨aL', _, r⟩⟩) hT hD rfl
  have h1 := of_decide_eq_false h1
  rw [if_neg h1] at hD
  replace hN := e2 _ _ hN
  replace hP := hP.ex e2
  replace hT := hT.ex e2
  replace hD := hD.ex e2
  refine q_when (et_eqn 12 (ev_var rfl)) (fun hb H3 e3 => ?_) (fun h2 H3 e3 => ?_)
  · have hb := of_decide_eq_true hb
    rw [if_pos hb] at hD
    subst hb
    have hl : 3 = l.length := Option.some.inj hz
    replace hN := e3 _ _ hN
    replace hP := hP.ex e3
    replace hT := hT.ex e3
    replace hD := hD.ex e3
    refine q_wish (g := decide (nth l 0 ≤ 4) && (decide (0 < nth l 2) && decide (nth l 1 ≤ nth l 2))) (ev_andV (ev_is (ev_op (ev_nth (i := 0) (ev_var rfl) hN (by omega)) ev_c rv_I0) (congrArg V.bl (dec_le rfl))) fun _ => ev_andV (ev_is (ev_op ev_c (ev_nth (i := 2) (ev_var rfl) hN (by omega)) rv_I0) (congrArg V.bl (dec_lt rfl))) fun _ => ev_is (ev_op (ev_nth (i := 1) (ev_var rfl) hN (by omega)) (ev_nth (i := 2) (ev_var rfl) hN (by omega)) rv_I0) (congrArg V.bl dec_le2)) ev_c hT hD fun hg H4 e4 hD => ?_
    simp only [Bool.and_eq_true, decide_eq_true_eq] at hg
    replace hN := e4 _ _ hN
    replace hP := hP.ex e4
    replace hT := hT.ex e4
    exact s_callD (ea_cons (ev_var rfl) (ea_cons (ev_nth (i := 0) (ev_var rfl) hN (by omega)) (ea_cons (ev_nth (i := 1) (ev_var rfl) hN (by omega)) (ea_cons (ev_nth (i := 2) (ev_var rfl) hN (by omega)) ea_nil)))) fun H5 e5 => ⟨_, _, _, _, rfl, s, p, aL, aC, nth l 0, nth l 1, nth l 2, rfl, hP.ex e5, W, rfl, rfl, rfl, by omega, hg.2.1, hg.2.2, nth_lt hb64 2, hT.ex e5, fun y H6 n6 x6 t6 ⟨aL', r⟩ => GivesK.to (R := fun y H' => ∃ aL aC, PicA K H' y _ aL aC) hD (.of e5) y H6 n6 x6 t6 ⟨aL', _, r⟩⟩
  have h2 := of_decide_eq_false h2
  rw [if_neg h2] at hD
  replace hN := e3 _ _ hN
  replace hP := hP.ex e3
  replace hT := hT.ex e3
  replace hD := hD.ex e3
  refine q_when (et_eqn 13 (ev_var rfl)) (fun hb H4 e4 => ?_) (fun h3 H4 e4 => ?_)
  · have hb := of_decide_eq_true hb
    rw [if_pos hb] at hD
    subst hb
    have hl : 2 = l.length := Option.some.inj hz
    replace hN := e4 _ _ hN
    replace hP := hP.ex e4
    replace hT := hT.ex e4
    replace hD := hD.ex e4
    refine q_wish (g := decide (nth l 0 ≤ 32) && decide (nth l 1 ≤ 32)) (ev_andV (ev_is (ev_op (ev_nth (i := 0) (ev_var rfl) hN (by omega)) ev_c rv_I0) (congrArg V.bl (dec_le rfl))) fun _ => ev_is (ev_op (ev_nth (i := 1) (ev_var rfl) hN (by omega)) ev_c rv_I0) (congrArg V.bl (dec_le rfl))) ev_c hT hD fun hg H5 e5 hD => ?_
    replace hN := e5 _ _ hN
    replace hP := hP.ex e5
    replace hT := hT.ex e5
    exact s_done (evn_call (ea_cons (ev_var rfl) (ea_cons (ev_op (ev_nth (i := 0) (ev_var rfl) hN (by omega)) ev_c rv_I0) (ea_cons (ev_op (ev_nth (i := 1) (ev_var rfl) hN (by omega)) ev_c rv_I0) ea_nil))) fun H6 e6 Q E q => ⟨_, _, _, rfl, s, p, aL, aC, (nth l 0 : Int) - 16, (nth l 1 : Int) - 16, rfl, hP.ex e6, W, rfl, rfl, q⟩) hT hD rfl
  have h3 := of_decide_eq_false h3
  rw [if_neg h3] at hD
  replace hP := hP.ex e4
  replace hT := hT.ex e4
  replace hD := hD.ex e4
  exact s_done (evn_call (ea_cons (ev_var rfl) (ea_cons ev_c ea_nil)) fun H6 e6 Q E q => ⟨_, _, rfl, s, p, aL, aC, (0, 0), rfl, hP.ex e6, W, ⟨_, rfl, T.t_EMPTY H6⟩, fun y H5 n5 e5 ⟨aL', r⟩ => q y H5 n5 e5 ⟨aL', _, r⟩⟩) hT hD rfl
def dPics (s : Sq50.State) (al : List (Nat × Nat × (Nat × Nat))) (deed : Nat) (l : List Nat) : Except Int Sq50.State :=
  if deed = 15 then wish (!al.isEmpty) (-6) (wish (decide (s.layers.length < 5)) (-5) (.ok (newL s (pPaste s al))))
  else if deed = 16 then wish (decide (0 < pl s)) (-6) (.ok (pPut s ((s.layers[pl s - 1]?).getD lay0)))
  else if deed = 17 then wish (s.chosen.any fun b => b) (-6) (.ok (pCrop s))
  else wish (decide (nth l 0 ≤ 2)) (-1) (.ok (pTurn s (nth l 0)))
theorem ev_neNil {σ : L2.St} {H : Hp} {ta : TE} {a : Addr} {xs : List V} (h : Ev ta σ H (.ref a)) (hx : SqL K H a xs) : Ev (tOp (rNeE K) ta (tLst tNil)) σ H (.bl (!xs.isEmpty)) :=
  ev_opL h (el_lst ea_nil (by show 0 ≤ 100000; decide)) fun p H1 hp e H2 e2 Q q => ⟨a, p, xs, rfl, rfl, ex_l (e.trans e2) hx, sq_of (e2 _ _ hp), q H2 (Ex.refl _)⟩
theorem onL_ne {s : Sq50.State} (W : WF s) (h : (s.chosen.any fun b => b) = true) : onL s ≠ [] := by
  obtain ⟨b, hb, hbt⟩ := List.any_eq_true.mp h
  have hbt : b = true := hbt
  subst hbt
  obtain ⟨i, hi, e⟩ := List.getElem_of_mem hb
  have hm : i ∈ onL s := by
    unfold onL
    refine List.mem_filter.mpr ⟨List.mem_range.mpr (by rw [← W.cho]; exact hi), ?_⟩
    unfold onB
    rw [List.getElem?_eq_getElem hi, e]
    rfl
  exact fun z => by rw [z] at hm; cases hm
def sp_ofp (K : PySem.W.Frag) : Sp := P4 fun a g b c H Q E => ∃ (s : Sq50.State) (p aL aC ag : Addr) (al : List (Nat × Nat × (Nat × Nat))) (deed : Nat) (aN : Addr) (l : List Nat), a = .ref p ∧ PicA K H p s aL aC ∧ WF s ∧ g = .ref ag ∧ AsideAt K H ag al ∧ b = .int (deed : Int) ∧ c = .ref aN ∧ H aN = some (.lst (nums l)) ∧ szD[deed]? = some l.length ∧ 15 ≤ deed ∧ deed ≤ 18 ∧ Tk K H ∧ Does K (dPics s al deed l) H Q E
theorem ok_of_pictures (T : Tx K mg) : Ok P w K mg base (L2.CX P w) (9 + 1) (He.ga K "of_pictures") ["picture", "aside", "deed", "n"] (sp_ofp K) := by
  refine mkX T.f_of_pictures sc_of_pictures bd_of_pictures P4.len (fun cdv A outer s H vs Q E hr h => ⟨_, (pss_cons (ps_if (pt_cmpR op_eq (pv 2) pe_int (nomark _)) (pss_cons (ps_expr (oc (ok_want T) hr (by decide) T.g_want passR (pa_cons (pe_cmpR (k_neNil (K := K) (by exact hr.units)) (pv 1) (pe_lst pa_nil) (nomark _)) (pa_cons (pgi T.i_CAN_NOT) pa_nil))))
    (pss_cons (ps_expr (oc (ok_want_room T) hr (by decide) T.g_want_room passR (pa_cons (pv 0) pa_nil)))
    (pss_one (ps_ret (oc (ok_pasted T) hr (by decide) T.g_pasted ((pass0 : Passes CX0 _ E0)) (pa_cons (pv 0) (pa_cons (pv 1) pa_nil))))))) pss_nil)
    (pss_cons (ps_if (pt_cmpR op_eq (pv 2) pe_int (nomark _)) (pss_cons (ps_expr (oc (ok_want T) hr (by decide) T.g_want passR (pa_cons (pe_cmpR op_gt (kbm (K := K) PySem.F.plainAttrs_list PySem.F.slot_list_index PySem.F.type_list_index (k_index (K := K)) (om0 (ok_Picture_numbers T) T.c_Picture T.m_Picture_numbers hr (by decide) ((pass0 : Passes CX0 _ E0)) (pv 0)) (pa_cons (kfld (K := K) (pv 0) rfl) pa_nil)) pe_int (nomark _)) (pa_cons (pgi T.i_CAN_NOT) pa_nil))))
    (pss_one (ps_ret (oc (ok_put_together T) hr (by decide) T.g_put_together ((pass0 : Passes CX0 _ E0)) (pa_cons (pv 0) pa_nil))))) pss_nil)
    (pss_cons (ps_if (pt_cmpR op_eq (pv 2) pe_int (nomark _)) (pss_cons (ps_expr (oc (ok_want T) hr (by decide) T.g_want passR (pa_cons (om0 (ok_Picture_is_chosen_some T) T.c_Picture T.m_Picture_is_chosen_some hr (by decide) ((pass0 : Passes CX0 _ E0)) (pv 0)) (pa_cons (pgi T.i_CAN_NOT) pa_nil))))
    (pss_one (ps_ret (oc (ok_cropped T) hr (by decide) T.g_cropped ((pass0 : Passes CX0 _ E0)) (pa_cons (pv 0) pa_nil))))) pss_nil)
    (pss_cons (ps_expr (oc (ok_want T) hr (by decide) T.g_want passR (pa_cons (pe_cmpR op_le (pe_ix (kix_list (K := K)) (pv 3) pe_int (fun _ _ => rfl)) (pgi T.i_LAST_TURN) (nomark _)) (pa_cons (pgi T.i_NOT_SO) pa_nil))))
    (pss_one (ps_ret (oc (ok_turned T) hr (by decide) T.g_turned ((pass0 : Passes CX0 _ E0)) (pa_cons (pv 0) (pa_cons (pe_ix (kix_list (K := K)) (pv 3) pe_int (fun _ _ => rfl)) pa_nil))))))))), ?_⟩)
  obtain ⟨_, _, _, _, rfl, s, p, aL, aC, ag, al, deed, aN, l, rfl, hP, W, rfl, hG, rfl, rfl, hN, hz, h15, h18, hT, hD⟩ := h
  unfold dPics at hD
  refine q_when (et_eqn 15 (ev_var rfl)) (fun hb H1 e1 => ?_) (fun h0 H1 e1 => ?_)
  · have hb := of_decide_eq_true hb
    rw [if_pos hb] at hD
    replace hP := hP.ex e1
    replace hT := hT.ex e1
    replace hD := hD.ex e1
    replace hG := hG.ex e1
    obtain ⟨gs, hgs, hpg⟩ := id hG
    have hle : gs.isEmpty = al.isEmpty := by
      have := pair_len hpg
      cases gs <;> cases al <;> first | rfl | simp at this
    refine q_wish (g := !al.isEmpty) (by rw [← hle]; exact ev_neNil (ev_var rfl) (sq_of hgs)) ev_c hT hD fun hg H2 e2 hD => ?_
    replace hP := hP.ex e2
    replace hT := hT.ex e2
    replace hG := hG.ex e2
    refine q_room (ev_var rfl) hP hT hD fun hg H3 e3 hD => ?_
    replace hP := hP.ex e3
    replace hT := hT.ex e3
    replace hG := hG.ex e3
    exact s_done (evn_call (ea_cons (ev_var rfl) (ea_cons (ev_var rfl) ea_nil)) fun H4 e4 Q E q => ⟨_, _, rfl, s, p, aL, aC, ag, al, rfl, hP.ex e4, W, rfl, hG.ex e4, fun y H5 n5 e5 ⟨aL', r⟩ => q y H5 n5 e5 ⟨aL', _, r⟩⟩) hT hD rfl
  have h0 := of_decide_eq_false h0
  rw [if_neg h0] at hD
  replace hN := e1 _ _ hN
  replace hP := hP.ex e1
  replace hT := hT.ex e1
  replace hD := hD.ex e1
  refine q_when (et_eqn 16 (ev_var rfl)) (fun hb H2 e2 => ?_) (fun h1 H2 e2 => ?_)
  · have hb := of_decide_eq_true hb
    rw [if_pos hb] at hD
    replace hP := hP.ex e2
    replace hT := hT.ex e2
    replace hD := hD.ex e2
    refine q_wish (g := decide (0 < pl s)) (ev_is (ev_op (ev_ix (ev_var rfl) hP W.le' (ev_working T (ev_var rfl) hP) W.on) ev_c rv_I0) (congrArg V.bl (decide_eq_decide.mpr (show ((pl s : Nat) : Int) > 0 ↔ _ by omega)))) ev_c hT hD fun hg H3 e3 hD => ?_
    have hg := of_decide_eq_true hg
    replace hP := hP.ex e3
    replace hT := hT.ex e3
    have hlt := ix_lt W.on
    exact s_done (evn_call (ea_cons (ev_var rfl) ea_nil) fun H4 e4 Q E q => ⟨_, rfl, s, p, aL, aC, (s.layers[pl s - 1]?).getD lay0, rfl, hP.ex e4, W, hg, get_lay0 (by show ix s.layers s.on - 1 < _; omega), fun y H5 n5 e5 ⟨aL', r⟩ => q y H5 n5 e5 ⟨aL', _, r⟩⟩) hT hD rfl
  have h1 := of_decide_eq_false h1
  rw [if_neg h1] at hD
  replace hN := e2 _ _ hN
  replace hP := hP.ex e2
  replace hT := hT.ex e2
  replace hD := hD.ex e2
  refine q_when (et_eqn 17 (ev_var rfl)) (fun hb H3 e3 => ?_) (fun h2 H3 e3 => ?_)
  · have hb := of_decide_eq_true hb
    rw [if_pos hb] at hD
    replace hP := hP.ex e3
    replace hT := hT.ex e3
    replace hD := hD.ex e3
    refine q_wish (g := s.chosen.any fun b => b) (ev_some (ev_var rfl) hP) ev_c hT hD fun hg H4 e4 hD => ?_
    replace hP := hP.ex e4
    replace hT := hT.ex e4
    exact s_done (evn_call (ea_cons (ev_var rfl) ea_nil) fun H5 e5 Q E q => ⟨_, rfl, s, p, aL, aC, rfl, hP.ex e5, W, onL_ne W hg, q⟩) hT hD rfl
  have h2 := of_decide_eq_false h2
  rw [if_neg h2] at hD
  have hd : deed = 18 := by omega
  subst hd
  have hl : 1 = l.length := Option.some.inj hz
  replace hN := e3 _ _ hN
  replace hP := hP.ex e3
  replace hT := hT.ex e3
  replace hD := hD.ex e3
  refine q_wish (g := decide (nth l 0 ≤ 2)) (ev_is (ev_op (ev_nth (i := 0) (ev_var rfl) hN (by omega)) ev_c rv_I0) (congrArg V.bl (dec_le rfl))) ev_c hT hD fun hg H4 e4 hD => ?_
  replace hN := e4 _ _ hN
  replace hP := hP.ex e4
  replace hT := hT.ex e4
  exact s_done (evn_call (ea_cons (ev_var rfl) (ea_cons (ev_nth (i := 0) (ev_var rfl) hN (by omega)) ea_nil)) fun H5 e5 Q E q => ⟨_, _, rfl, s, p, aL, aC, nth l 0, rfl, hP.ex e5, W, rfl, q⟩) hT hD rfl
/-! ### any deed -/
def pMade (s : Sq50.State) (al : List (Nat × Nat × (Nat × Nat))) (deed : Nat) (l : List Nat) : Except Int Sq50.State :=
  if deed ≤ 4 then dLayers s deed l else if deed ≤ 9 then dChoice s deed l else if deed ≤ 14 then dDots s deed l else dPics s al deed l
def sp_made (K : PySem.W.Frag) : Sp := P4 fun a g b c H Q E => ∃ (s : Sq50.State) (p aL aC ag : Addr) (al : List (Nat × Nat × (Nat × Nat))) (deed : Nat) (aN : Addr) (l : List Nat), a = .ref p ∧ PicA K H p s aL aC ∧ WF s ∧ g = .ref ag ∧ AsideAt K H ag al ∧ b = .int (deed : Int) ∧ c = .ref aN ∧ H aN = some (.lst (nums l)) ∧ szD[deed]? = some l.length ∧ (∀ x ∈ l, x < 2 ^ 64) ∧ Tk K H ∧ Does K (pMade s al deed l) H Q E
theorem et_leN {σ : L2.St} {H : Hp} {te tb : TE} {n c : Nat} {z : Int} (h : Ev te σ H (.int (n : Int))) (hb : Ev tb σ H (.int z)) (hz : z = (c : Int) := by rfl) : EvT (tTest (tOp (rI0 fun i j => .bl (decide (i ≤ j))) te tb)) σ H (decide (n ≤ c)) := by
  subst hz
  exact et_is (et_test (ev_op h hb rv_I0)) dec_le2
theorem ok_made (T : Tx K mg) (B : TBs K mg base) : Ok P w K mg base (L2.CX P w) 11 (He.ga K "made") ["picture", "aside", "deed", "n"] (sp_made K) := by
  refine mkX T.f_made sc_made bd_made P4.len (fun cdv A outer s H vs Q E hr h => ⟨_, (pss_cons (ps_if (pt_cmpR op_le (pv 2) pe_int (nomark _)) (pss_one (ps_ret (oc (ok_of_layers T) hr (by decide) T.g_of_layers passR (pa_cons (pv 0) (pa_cons (pv 2) (pa_cons (pv 3) pa_nil)))))) pss_nil)
    (pss_cons (ps_if (pt_cmpR op_le (pv 2) pe_int (nomark _)) (pss_one (ps_ret (oc (ok_of_choice T) hr (by decide) T.g_of_choice passR (pa_cons (pv 0) (pa_cons (pv 2) (pa_cons (pv 3) pa_nil)))))) pss_nil)
    (pss_cons (ps_if (pt_cmpR op_le (pv 2) (pgi T.i_CUT) (nomark _)) (pss_one (ps_ret (oc (ok_of_dots T B) hr (by decide) T.g_of_dots passR (pa_cons (pv 0) (pa_cons (pv 2) (pa_cons (pv 3) pa_nil)))))) pss_nil)
    (pss_one (ps_ret (oc (ok_of_pictures T) hr (by decide) T.g_of_pictures passR (pa_cons (pv 0) (pa_cons (pv 1) (pa_cons (pv 2) (pa_cons (pv 3) pa_nil)))))))))), ?_⟩)
  obtain ⟨_, _, _, _, rfl, s, p, aL, aC, ag, al, deed, aN, l, rfl, hP, W, rfl, hG, rfl, rfl, hN, hz, hb64, hT, hD⟩ := h
  have h18 : deed < 19 := (List.getElem?_eq_some_iff.mp hz).1
  unfold pMade at hD
  refine q_when (et_leN (c := 4) (ev_var rfl) ev_c) (fun hb H1 e1 => ?_) (fun h0 H1 e1 => ?_)
  · have hb := of_decide_eq_true hb
    rw [if_pos hb] at hD
    exact s_callD (ea_cons (ev_var rfl) (ea_cons (ev_var rfl) (ea_cons (ev_var rfl) ea_nil))) fun H2 e2 => ⟨_, _, _, rfl, s, p, aL, aC, deed, aN, l, rfl, hP.ex (e1.trans e2), W, rfl, rfl, (e1.trans e2) _ _ hN, hz, hb, hT.ex (e1.trans e2), hD.ex (e1.trans e2)⟩
  have h0 := of_decide_eq_false h0
  rw [if_neg h0] at hD
  replace hN := e1 _ _ hN
  replace hP := hP.ex e1
  replace hT := hT.ex e1
  replace hD := hD.ex e1
  replace hG := hG.ex e1
  refine q_when (et_leN (c := 9) (ev_var rfl) ev_c) (fun hb H2 e2 => ?_) (fun h1 H2 e2 => ?_)
  · have hb := of_decide_eq_true hb
    rw [if_pos hb] at hD
    exact s_callD (ea_cons (ev_var rfl) (ea_cons (ev_var rfl) (ea_cons (ev_var rfl) ea_nil))) fun H3 e3 => ⟨_, _, _, rfl, s, p, aL, aC, deed, aN, l, rfl, hP.ex (e2.trans e3), W, rfl, rfl, (e2.trans e3) _ _ hN, hz, by omega, hb, hT.ex (e2.trans e3), hD.ex (e2.trans e3)⟩
  have h1 := of_decide_eq_false h1
  rw [if_neg h1] at hD
  replace hN := e2 _ _ hN
  replace hP := hP.ex e2
  replace hT := hT.ex e2
  replace hD := hD.ex e2
  replace hG := hG.ex e2
  refine q_when (et_leN (c := 14) (ev_var rfl) ev_c) (fun hb H3 e3 => ?_) (fun h2 H3 e3 => ?_)
  · have hb := of_decide_eq_true hb
    rw [if_pos hb] at hD
    exact s_callD (ea_cons (ev_var rfl) (ea_cons (ev_var rfl) (ea_cons (ev_var rfl) ea_nil))) fun H4 e4 => ⟨_, _, _, rfl, s, p, aL, aC, deed, aN, l, rfl, hP.ex (e3.trans e4), W, rfl, rfl, (e3.trans e4) _ _ hN, hz, by omega, hb, hb64, hT.ex (e3.trans e4), hD.ex (e3.trans e4)⟩
  have h2 := of_decide_eq_false h2
  rw [if_neg h2] at hD
  exact s_callD (ea_cons (ev_var rfl) (ea_cons (ev_var rfl) (ea_cons (ev_var rfl) (ea_cons (ev_var rfl) ea_nil)))) fun H4 e4 => ⟨_, _, _, _, rfl, s, p, aL, aC, ag, al, deed, aN, l, rfl, hP.ex (e3.trans e4), W, rfl, hG.ex (e3.trans e4), rfl, rfl, (e3.trans e4) _ _ hN, hz, by omega, by omega, hT.ex (e3.trans e4), hD.ex (e3.trans e4)⟩
def behindL (s : Sq50.State) (al : List (Nat × Nat × (Nat × Nat))) (deed : Nat) : List (Nat × Nat × (Nat × Nat)) := if deed = 14 then pAside s else al
def sp_behind (K : PySem.W.Frag) : Sp := P3 fun a g b H Q _ => ∃ (s : Sq50.State) (p aL aC ag : Addr) (al : List (Nat × Nat × (Nat × Nat))) (deed : Nat), a = .ref p ∧ PicA K H p s aL aC ∧ WF s ∧ g = .ref ag ∧ AsideAt K H ag al ∧ b = .int (deed : Int) ∧ Gives (fun v H' => ∃ g', v = .ref g' ∧ AsideAt K H' g' (behindL s al deed)) H Q
theorem ok_aside_behind (T : Tx K mg) : Ok P w K mg base CX0 (3 + 1) (He.ga K "aside_behind") ["picture", "aside", "deed"] (sp_behind K) := by
  refine mk0 T.f_aside_behind sc_aside_behind bd_aside_behind P3.len (fun cdv A outer s H vs Q E hr h => ⟨_, (pss_cons (ps_if (pt_cmpR op_eq (pv 2) (pgi T.i_CUT) (nomark _)) (pss_one (ps_ret (oc (ok_taken_aside T) hr (by decide) T.g_taken_aside ((pass0 : Passes CX0 _ E0)) (pa_cons (pv 0) pa_nil)))) pss_nil)
    (pss_one (ps_ret (pv 1)))), ?_⟩)
  obtain ⟨_, _, _, rfl, s, p, aL, aC, ag, al, deed, rfl, hP, W, rfl, hG, rfl, k⟩ := h
  refine q_when (et_eqn 14 (ev_var rfl)) (fun hb H1 e1 => ?_) (fun hb H1 e1 => ?_)
  · have hb := of_decide_eq_true hb
    refine s_retN (evn_call (R := fun y H' => AsideAt K H' y (pAside s)) (ea_cons (ev_var rfl) ea_nil) fun H2 e2 Q E q => ⟨_, rfl, s, p, aL, aC, rfl, hP.ex (e1.trans e2), W, q⟩) fun y H2 n e r => k _ H2 (e1.trans e) ⟨y, rfl, ?_⟩
    unfold behindL
    rw [if_pos hb]
    exact r
  · have hb := of_decide_eq_false hb
    refine s_ret (ev_var rfl) fun H2 e2 => k _ H2 (e1.trans e2) ⟨ag, rfl, ?_⟩
    unfold behindL
    rw [if_neg hb]
    exact hG.ex (e1.trans e2)
theorem ev_lenT {σ : L2.St} {H : Hp} {ta : TE} {p : Addr} {xs : List V} (ha : Ev ta σ H (.ref p)) (h : SqT K H p xs) : Ev (tCB (rLenS K) (tCons ta tNil)) σ H (.int (xs.length : Int)) := fun H1 e Q q => ha H1 e _ fun H2 e2 => ⟨p, xs, rfl, .inr (ex_t (e.trans e2) h), q H2 e2⟩
def sp_wantdeed (K : PySem.W.Frag) : Sp := P2 fun a b H Q E => ∃ (deed : Nat) (aN : Addr) (l : List Nat), a = .int (deed : Int) ∧ b = .ref aN ∧ H aN = some (.lst (nums l)) ∧ Tk K H ∧ (szD[deed]? = some l.length → ∀ H', Ex H H' → Q .non H') ∧ (szD[deed]? ≠ some l.length → RaisesK K (-3) H E)
theorem szV : [.int (0), .int (1), .int (1), .int (4), .int (1), .int (5), .int (6), .int (1), .int (1), .int (1), .int (2), .int (1), .int (3), .int (2), .int (0), .int (0), .int (0), .int (0), .int (1)] = nums szD := rfl
theorem ok_want_deed (T : Tx K mg) : Ok P w K mg base (L2.CX P w) (3 + 1) (He.ga K "want_deed") ["deed", "more"] (sp_wantdeed K) := by
  refine mkX T.f_want_deed sc_want_deed bd_want_deed P2.len (fun cdv A outer s H vs Q E hr h => ⟨_, (pss_cons (ps_expr (oc (ok_want T) hr (by decide) T.g_want passR (pa_cons (pe_cmpR op_lt (pv 0) (pe_callB (k_len (K := K)) (by rfl) T.b_len (by decide +kernel) (pa_cons (pgr T.g_SIZES_deeds) pa_nil)) (nomark _)) (pa_cons (pgi T.i_NO_DEED) pa_nil))))
    (pss_one (ps_expr (oc (ok_want T) hr (by decide) T.g_want passR (pa_cons (pe_cmpR op_eq (pe_callB (k_len (K := K)) (by rfl) T.b_len (by decide +kernel) (pa_cons (pv 1) pa_nil)) (pe_ix (kix_tup (K := K)) (pgr T.g_SIZES_deeds) (pv 0) (fun _ _ => rfl)) (nomark _)) (pa_cons (pgi T.i_NO_DEED) pa_nil)))))), ?_⟩)
  obtain ⟨_, _, rfl, deed, aN, l, rfl, rfl, hN, hT, k1, k2⟩ := h
  have hS : SqT K H (He.ga K "SIZES_deeds") (nums szD) := T.t_SIZES_deeds H
  refine q_want (g := decide (deed < 19)) (ev_is (ev_op (ev_var rfl) (ev_lenT ev_c hS) rv_I0) (congrArg V.bl (decide_eq_decide.mpr (show (deed : Int) < 19 ↔ _ by omega)))) ev_c hT (fun hg H1 e1 => ?_) fun hg => k2 fun z => ?_
  · have hg := of_decide_eq_true hg
    have hz : szD[deed]? = some (szD[deed]'hg) := List.getElem?_eq_getElem hg
    refine (ev_is (ev_op (ev_len (ev_var rfl) (sq_of (e1 _ _ hN))) (ev_op ev_c (ev_var rfl) (rv_ixT (ex_t e1 hS) (atI_nat (by rw [List.getElem?_map, hz]; rfl)))) (rv_eq rfl)) (congrArg V.bl (show _ = decide (szD[deed]? = some l.length) from ?_))) H1 (Ex.refl _) _ fun H2 e2 => ⟨_, _, rfl, decide (szD[deed]? = some l.length), -3, rfl, rfl, hT.ex (e1.trans e2), fun hb H3 e3 => k1 (of_decide_eq_true hb) _ ((e1.trans e2).trans e3), fun hb => (k2 (of_decide_eq_false hb)).ex (e1.trans e2)⟩
    rw [dec_int, hz, nums_len, Bool.eq_iff_iff, beq_iff_eq, decide_eq_true_iff, Option.some.injEq]
    omega
  · have h1 := (List.getElem?_eq_some_iff.mp z).1
    exact absurd h1 (of_decide_eq_false hg)
end Lp
set_option Elab.async false
set_option linter.all false
set_option maxRecDepth 100000
set_option maxHeartbeats 4000000
namespace Lp
open PySem PySem.Spec PyProof.Rows L2 Evl
variable {P : Program} {w : World} {K : PySem.W.Frag} {mg : Str → Option Value} {base : Heap}
/-! ### steps that were, a history -/
/-- all but what stands at h stays -/
def Kx (h : Addr) (H H' : Hp) : Prop := ∀ a o, H a = some o → a ≠ h → H' a = some o
def StepAt (K : PySem.W.Frag) (H : Hp) (v : V) (x : Sq50.State × Nat) : Prop := ∃ r p aL aC, v = .ref r ∧ SqT K H r [.ref p, .int (x.2 : Int)] ∧ PicA K H p x.1 aL aC
def StepsAt (K : PySem.W.Frag) (H : Hp) (a : Addr) (l : Sq50.Past) : Prop := ∃ vs, H a = some (.lst vs) ∧ Paired (StepAt K H) vs l
def hF (b : Nat) (aK aU : Addr) : List (Str × V) := [("budget", .int (b : Int)), ("kept", .ref aK), ("undone", .ref aU)]
structure HistA (K : PySem.W.Frag) (H : Hp) (h : Addr) (b : Nat) (past future : Sq50.Past) (aK aU : Addr) : Prop where
  obj : ∃ dx, H h = some (.ins (CH K) dx (hF b aK aU))
  kept : StepsAt K H aK past
  und : StepsAt K H aU future
section
variable {H H1 H2 : Hp} {h a aK aU : Addr} {b : Nat} {past future : Sq50.Past} {v : V}
theorem im_h {C dx : Addr} : ¬ Im (.ins C dx (hF b aK aU)) := fun z => by
  have e : (hF b aK aU).lookup ("budget" : Str) = some (.int (b : Int)) := lk_here
  have z2 := z.2.1
  rw [e] at z2
  cases z2
theorem Kx.refl (H : Hp) : Kx h H H := fun _ _ e _ => e
theorem Kx.trans (x : Kx h H H1) (y : Kx h H1 H2) : Kx h H H2 := fun a o e n => y a o (x a o e n) n
theorem Kx.of (e : Ex H H1) : Kx h H H1 := fun a o q _ => e a o q
theorem Kx.upd {o : HO} (x : Kx h H H1) : Kx h H (L2.upd H1 h o) := fun a u q n => by
  rw [upd_ne n]
  exact x a u q n
theorem Kx.kp {o : HO} (x : Kx h H H1) (e : H h = some o) (i : ¬ Im o) : Kp H H1 := ⟨fun a u q iu => x a u q fun z => by
  rw [z, e] at q
  cases q
  exact i iu⟩
theorem StepAt.kp {x : Sq50.State × Nat} (s : StepAt K H v x) (k : Kp H H1) : StepAt K H1 v x := by
  obtain ⟨r, p, aL, aC, h1, h2, h3⟩ := s
  exact ⟨r, p, aL, aC, h1, st_kp h2 k, h3.kp k⟩
theorem StepsAt.kp {l : Sq50.Past} (s : StepsAt K H a l) (k : Kp H H1) : StepsAt K H1 a l := by
  obtain ⟨vs, h1, h2⟩ := s
  exact ⟨vs, k.keep _ _ h1 trivial, L2.Paired.mapP h2 fun _ _ z => z.kp k⟩
theorem HistA.ex (s : HistA K H h b past future aK aU) (e : Ex H H1) : HistA K H1 h b past future aK aU := by
  obtain ⟨⟨dx, h1⟩, h2, h3⟩ := s
  exact ⟨⟨dx, e _ _ h1⟩, h2.kp (.of e), h3.kp (.of e)⟩
theorem hF_budget : (hF b aK aU).lookup ("budget" : Str) = some (.int (b : Int)) := lk_here
theorem hF_kept : (hF b aK aU).lookup ("kept" : Str) = some (.ref aK) := (lk_past (by decide +kernel)).trans lk_here
theorem hF_undone : (hF b aK aU).lookup ("undone" : Str) = some (.ref aU) := (lk_past (by decide +kernel)).trans ((lk_past (by decide +kernel)).trans lk_here)
theorem hF_no {m : Str} (h : ((m == ("budget" : Str)) || ((m == ("kept" : Str)) || (m == ("undone" : Str)))) = false) : (hF b aK aU).lookup m = none := by
  simp only [Bool.or_eq_false_iff] at h
  obtain ⟨h1, h2, h3⟩ := h
  exact (lk_past h1).trans ((lk_past h2).trans ((lk_past h3).trans rfl))
theorem putF_here {f : Str} {v x : V} {r : List (Str × V)} : putF f v ((f, x) :: r) = (f, v) :: r := if_pos rfl
theorem put_kept {a : Addr} : putF ("kept" : Str) (.ref a) (hF b aK aU) = hF b a aU := by
  unfold hF
  rw [pn (by decide +kernel), putF_here]
theorem put_undone {a : Addr} : putF ("undone" : Str) (.ref a) (hF b aK aU) = hF b aK a := by
  unfold hF
  rw [pn (by decide +kernel), pn (by decide +kernel), putF_here]
end
section
variable {σ : L2.St} {H : Hp} {te to tv tp tc tl : TE} {tA : TA} {D : Ends} {tz : TS} {a C dx h aK aU : Addr} {b : Nat} {past future : Sq50.Past} {fs : List (Str × V)} {f : Str} {v : V}
theorem ev_budget (T : Tx K mg) (ho : Ev te σ H (.ref h)) (s : HistA K H h b past future aK aU) : Ev (tFld K te "budget") σ H (.int (b : Int)) := by
  obtain ⟨⟨dx, h1⟩, _⟩ := s
  exact ev_fld ho h1 T.c_History T.n_History_budget hF_budget
theorem ev_kept (T : Tx K mg) (ho : Ev te σ H (.ref h)) (s : HistA K H h b past future aK aU) : Ev (tFld K te "kept") σ H (.ref aK) := by
  obtain ⟨⟨dx, h1⟩, _⟩ := s
  exact ev_fld ho h1 T.c_History T.n_History_kept hF_kept
theorem ev_undone (T : Tx K mg) (ho : Ev te σ H (.ref h)) (s : HistA K H h b past future aK aU) : Ev (tFld K te "undone") σ H (.ref aU) := by
  obtain ⟨⟨dx, h1⟩, _⟩ := s
  exact ev_fld ho h1 T.c_History T.n_History_undone hF_undone
/-- a field set -/
theorem s_fld (hv : Ev tv σ H v) (ho : Ev to σ H (.ref a)) (hi : H a = some (.ins C dx fs)) (c : Cls K C) (n : NoAttr K C f) (hl : fs.length < 1000) (k : ∀ H1, Ex H H1 → D.nx σ (upd H1 a (.ins C dx (putF f v fs)))) : sFld K to tv f D σ H :=
  hv H (Ex.refl _) _ fun H1 e1 => ho H1 e1 _ fun H2 e2 => ⟨a, C, dx, fs, rfl, (e1.trans e2) _ _ hi, c, n, hl, k H2 (e1.trans e2)⟩
theorem q_fld (hv : Ev tv σ H v) (ho : Ev to σ H (.ref a)) (hi : H a = some (.ins C dx fs)) (c : Cls K C) (n : NoAttr K C f) (hl : fs.length < 1000) (k : ∀ H1, Ex H H1 → tz D σ (upd H1 a (.ins C dx (putF f v fs)))) : tSeq (sFld K to tv f) tz D σ H :=
  s_fld (D := { D with nx := tz D }) hv ho hi c n hl k
theorem s_fldN {R : Addr → Hp → Prop} (hv : EvN tv σ H R) (ho : Ev to σ H (.ref a)) (hi : H a = some (.ins C dx fs)) (c : Cls K C) (n : NoAttr K C f) (hl : fs.length < 1000) (m : ∀ x H H', Ex H H' → R x H → R x H') (k : ∀ x H1, H x = none → Ex H H1 → R x H1 → D.nx σ (upd H1 a (.ins C dx (putF f (.ref x) fs)))) : sFld K to tv f D σ H :=
  hv H (Ex.refl _) _ fun x H1 n1 e1 r => ho H1 e1 _ fun H2 e2 => ⟨a, C, dx, fs, rfl, (e1.trans e2) _ _ hi, c, n, hl, k x H2 n1 (e1.trans e2) (m _ _ _ e2 r)⟩
theorem q_fldN {R : Addr → Hp → Prop} (hv : EvN tv σ H R) (ho : Ev to σ H (.ref a)) (hi : H a = some (.ins C dx fs)) (c : Cls K C) (n : NoAttr K C f) (hl : fs.length < 1000) (m : ∀ x H H', Ex H H' → R x H → R x H') (k : ∀ x H1, H x = none → Ex H H1 → R x H1 → tz D σ (upd H1 a (.ins C dx (putF f (.ref x) fs)))) : tSeq (sFld K to tv f) tz D σ H :=
  s_fldN (D := { D with nx := tz D }) hv ho hi c n hl m k
/-- [(x, c)] + list -/
theorem front {tt : TE} {xs vs : List V} (h1 : EvU tt σ H xs) (h3 : Ev tl σ H (.ref a)) (hv : H a = some (.lst vs)) (hz : vs.length ≤ 90000) : ∀ H1, Ex H H1 → ∀ Q : VK, (∀ r p H2, H1 r = none → H1 p = none → Ex H1 H2 → H2 r = some (.tup xs) → H2 p = some (.lst (.ref r :: vs)) → Q (.ref p) H2) →
    tOp rCat (tLst (tCons tt tNil)) tl σ H1 Q := fun H1 e Q q =>
  h1 H1 e _ fun r H2 n2 e2 hr => ⟨sz_of (by show 1 ≤ 100000; decide), fun l hl => by
    have e12 := e2.trans (Ex.new hl (o := .lst [.ref r]))
    refine h3 _ (e.trans e12) _ fun H3 e3 => ⟨l, a, [.ref r], vs, rfl, rfl, e3 _ _ upd_same, ((e.trans e12).trans e3) _ _ hv, sz_of (by show 1 + vs.length ≤ 100000; omega), fun p hp => ?_⟩
    have e13 := e12.trans e3
    refine q r p _ n2 (fresh_back e13 hp) (e13.trans (Ex.new hp)) ?_ upd_same
    exact (Ex.new hp) _ _ (e3 _ _ ((Ex.new hl) _ _ hr))⟩
end
theorem room_split : ∀ (i : Nat) (b : Nat) (l : Sq50.Past) (c : Nat), ((l.take i).map (·.2)).sum = c → c ≤ b → (∀ j, j ≤ i → ((l.take j).map (·.2)).sum ≤ b) → i ≤ l.length → Sq50.room b l = l.take i ++ Sq50.room (b - c) (l.drop i)
  | 0, b, l, c, h, _, _, _ => by
    rw [List.take_zero, List.map_nil, List.sum_nil] at h
    subst h
    simp
  | i + 1, b, [], c, _, _, _, hl => by simp at hl
  | i + 1, b, x :: l, c, h, hc, hj, hl => by
    rw [List.take_succ_cons, List.map_cons, List.sum_cons] at h
    have hx : x.2 ≤ b := by omega
    have z := room_split i (b - x.2) l (c - x.2) (by omega) (by omega) (fun j hji => by
      have := hj (j + 1) (by omega)
      rw [List.take_succ_cons, List.map_cons, List.sum_cons] at this
      omega) (by simpa using hl)
    rw [List.take_succ_cons, List.drop_succ_cons, Sq50.room, if_neg (by omega), z, List.cons_append, show b - x.2 - (c - x.2) = b - c by omega]
def sp_keep (K : PySem.W.Frag) : Sp := P3 fun a b c H Q _ => ∃ (h : Addr) (bud : Nat) (past future : Sq50.Past) (aK aU : Addr) (s : Sq50.State) (p aL aC : Addr) (n : Nat), a = .ref h ∧ HistA K H h bud past future aK aU ∧ b = .ref p ∧ PicA K H p s aL aC ∧ c = .int (n : Int) ∧ past.length ≤ 50000 ∧
  ∀ H', Kx h H H' → (∃ aK', HistA K H' h bud (Sq50.room bud ((s, n) :: past)) future aK' aU) → Q .non H'
theorem hist_kp {H H' : Hp} {l : Sq50.Past} {vs : List V} {r p aL aC : Addr} {s : Sq50.State} {n : Nat} (k : Kp H H') (h1 : Paired (StepAt K H) vs l) (hP : PicA K H p s aL aC) (hr : H' r = some (.tup [.ref p, .int (n : Int)])) : Paired (StepAt K H') (.ref r :: vs) ((s, n) :: l) :=
  .cons ⟨r, p, aL, aC, rfl, st_of hr, hP.kp k⟩ (L2.Paired.mapP h1 fun _ _ z => z.kp k)
theorem room_le : ∀ (b : Nat) (l : Sq50.Past), (Sq50.room b l).length ≤ l.length
  | _, [] => Nat.le_refl _
  | b, x :: l => by
    unfold Sq50.room
    split
    · exact Nat.zero_le _
    · rw [List.length_cons, List.length_cons]
      exact Nat.succ_le_succ (room_le _ _)
theorem ok_History_keep (T : Tx K mg) : Ok P w K mg base CX0 (0 + 1) (He.ma K (He.ga K "History") "keep") ["self", "picture", "cost"] (sp_keep K) := by
  refine mk0 T.f_History_keep sc_History_keep bd_History_keep P3.len (fun cdv A outer s H vs Q E hr h => ⟨_, (pss_cons (ps_set (i := 3) sc_History_keep.nd rfl (Or.inl rfl) (kfld (K := K) (pv 0) rfl))
    (pss_cons (ps_set (i := 4) sc_History_keep.nd rfl (Or.inl rfl) (pe_lst pa_nil))
    (pss_cons (ps_for PassesOwn.never rfl (kpi_list (K := K) (pe_op op_cat (pe_lst (pa_cons (pe_tup (pa_cons (pv 1) (pa_cons (pv 2) pa_nil))) pa_nil)) (kfld (K := K) (pv 0) rfl))) (pg_name (i := 5) sc_History_keep.nd rfl (Or.inl rfl)) (pss_cons (ps_set (i := 3) sc_History_keep.nd rfl (Or.inl rfl) (pe_op op_sub (pv 3) (pe_ix (kix_tup (K := K)) (pv 5) pe_int (fun _ _ => rfl))))
    (pss_cons (ps_if (pt_cmpR op_lt (pv 3) pe_int (nomark _)) (pss_cons (kps_fld (K := K) (pv 0) (pv 4) rfl)
    (pss_one ps_retN)) pss_nil)
    (pss_one (ps_expr (kbm (K := K) PySem.F.plainAttrs_list PySem.F.slot_list_append PySem.F.type_list_append mt_append (pv 4) (pa_cons (pv 5) pa_nil)))))))
    (pss_one (kps_fld (K := K) (pv 0) (pv 4) rfl))))), ?_⟩)
  obtain ⟨_, _, _, rfl, h, bud, past, future, aK, aU, s, p, aL, aC, n, rfl, hH, rfl, hP, rfl, hz, k⟩ := h
  obtain ⟨dx, hobj⟩ := hH.obj
  obtain ⟨vs, hv, hpv⟩ := hH.kept
  have hlen := pair_len hpv
  refine q_asg (ev_budget T (ev_var rfl) hH) fun H1 e1 => ?_
  refine q_asgL (el_lst ea_nil (by show 0 ≤ 100000; decide)) fun f H2 nf e2 hf => ?_
  have e02 := e1.trans e2
  have nf0 : H f = none := fresh_back e1 nf
  refine front (eu_tup (ea_cons (ev_var rfl) (ea_cons (ev_var rfl) ea_nil)) (by show 2 ≤ 100000; decide)) (ev_kept T (ev_var rfl) (hH.ex e02)) (e02 _ _ hv) (by omega) H2 (Ex.refl _) _ fun r q H3 nr nq e3 hr hq => ⟨q, rfl, ⟨_, sq_of hq⟩, ?_⟩
  have hfr : f ≠ r := Ne.symm (new_ne nr (by rw [hf]; simp))
  have hfq : f ≠ q := Ne.symm (new_ne nq (by rw [hf]; simp))
  have nh : ∀ {x : Addr}, H x = none → x ≠ h := fun hx z => by rw [z, hobj] at hx; cases hx
  have hall : ∀ H', Kp H H' → H' r = some (.tup [.ref p, .int (n : Int)]) → Paired (StepAt K H') (.ref r :: vs) ((s, n) :: past) := fun H' kp hr' => hist_kp kp hpv hP hr'
  have fin : ∀ (i : Nat) H', Ex H H' → H' f = some (.lst ((V.ref r :: vs).take i)) → H' r = some (.tup [.ref p, .int (n : Int)]) → ((s, n) :: past).take i = Sq50.room bud ((s, n) :: past) → Q .non (L2.upd H' h (.ins (CH K) dx (putF "kept" (.ref f) (hF bud aK aU)))) := fun i H' e' hf' hr' hroom => by
    have kx : Kx h H (L2.upd H' h (.ins (CH K) dx (putF "kept" (.ref f) (hF bud aK aU)))) := (Kx.of e').upd
    have kp := kx.kp hobj im_h
    refine k _ kx ⟨f, ⟨dx, by rw [upd_same, put_kept]⟩, ⟨_, (upd_ne (nh nf0)).trans hf', ?_⟩, hH.und.kp kp⟩
    rw [← hroom]
    exact pair_take i (hall _ kp ((upd_ne (nh (fresh_back e02 nr))).trans hr'))
  refine for_list (fun i σ' H' => Ex H H' ∧ H' f = some (.lst ((V.ref r :: vs).take i)) ∧ H' r = some (.tup [.ref p, .int (n : Int)]) ∧ H' q = some (.lst (.ref r :: vs)) ∧ (∀ j, j ≤ i → ((((s, n) :: past).take j).map (·.2)).sum ≤ bud) ∧
    ∃ x5, σ' = [some (.ref h), some (.ref p), some (.int (n : Int)), some (.int ((bud : Int) - (((((s, n) :: past).take i).map (·.2)).sum : Nat))), some (.ref f), x5]) ⟨e02.trans e3, ?_, hr, hq, fun j hj => ?_, none, ?_⟩ (fun i σ' H' _ z => sq_of z.2.2.2.1) ?_ ?_
  · rw [List.take_zero]
    exact e3 _ _ hf
  · rw [show j = 0 by omega, List.take_zero]
    exact Nat.zero_le _
  · simp [List.set]
    rfl
  · rintro i x σ' H4 hx ⟨e4, hf4, hr4, hq4, hsum, x5, rfl⟩
    obtain ⟨y, hy, hS⟩ := pair_get' (hall H4 (.of e4) hr4) hx
    obtain ⟨rr, pp, bL, bC, rfl, hT, hPP⟩ := hS
    have hilt : i < ((s, n) :: past).length := (List.getElem?_eq_some_iff.mp hy).1
    have hnext : ((((s, n) :: past).take (i + 1)).map (·.2)).sum = ((((s, n) :: past).take i).map (·.2)).sum + y.2 := by
      rw [take_snoc hy, List.map_append, List.sum_append]
      simp
    have hsi := hsum i (Nat.le_refl _)
    refine q_asg (ev_op (ev_var rfl) (ev_op (ev_var rfl) ev_c (rv_ixT (v := .int (y.2 : Int)) hT rfl)) rv_I0) fun H5 e5 => ?_
    refine q_when (b := decide (bud < ((((s, n) :: past).take (i + 1)).map (·.2)).sum)) (et_is (et_test (ev_op (ev_var rfl) ev_c rv_I0)) (decide_eq_decide.mpr (by rw [hnext]; omega))) (fun hb H6 e6 => ?_) (fun hb H6 e6 => ?_)
    · have hb := of_decide_eq_true hb
      have e46 := e5.trans e6
      refine q_fld (ev_var rfl) (ev_var rfl) ((e4.trans e46) _ _ hobj) T.c_History T.n_History_kept (by show 3 < 1000; decide) fun H7 e7 => ?_
      refine fin i H7 ((e4.trans e46).trans e7) (e7 _ _ (e46 _ _ hf4)) (e7 _ _ (e46 _ _ hr4)) ?_
      rw [room_split i bud _ _ rfl hsi hsum (by omega), List.drop_eq_getElem_cons hilt]
      have hyy : ((s, n) :: past)[i] = y := (List.getElem?_eq_some_iff.mp hy).2
      rw [hyy, Sq50.room, if_pos (by omega), List.append_nil]
    · have hb := of_decide_eq_false hb
      have e46 := e5.trans e6
      have hux : (V.ref r :: vs).length = ((s, n) :: past).length := by rw [List.length_cons, List.length_cons, hlen]
      refine s_app (e46 _ _ hf4) (ev_var rfl) (ev_var rfl) (by rw [List.length_take, hux, List.length_cons]; omega) fun H7 e7 => ⟨Ex.mut ((e4.trans e46).trans e7) nf0, ?_, ?_, ?_, fun j hj => ?_, some (.ref rr), ?_⟩
      · rw [upd_same, take_snoc hx]
      · rw [upd_ne (Ne.symm hfr)]
        exact e7 _ _ (e46 _ _ hr4)
      · rw [upd_ne (Ne.symm hfq)]
        exact e7 _ _ (e46 _ _ hq4)
      · by_cases hji : j ≤ i
        · exact hsum j hji
        · rw [show j = i + 1 by omega]
          omega
      · rw [hnext]
        simp [List.set]
        omega
  · rintro σ' H4 ⟨e4, hf4, hr4, hq4, hsum, x5, rfl⟩
    have hux : (V.ref r :: vs).length = ((s, n) :: past).length := by rw [List.length_cons, List.length_cons, hlen]
    refine s_fld (ev_var rfl) (ev_var rfl) (e4 _ _ hobj) T.c_History T.n_History_kept (by show 3 < 1000; decide) fun H7 e7 => ?_
    refine fin (V.ref r :: vs).length H7 (e4.trans e7) (e7 _ _ hf4) (e7 _ _ hr4) ?_
    have z := room_split (V.ref r :: vs).length bud _ _ rfl (hsum _ (Nat.le_refl _)) hsum (by omega)
    rw [z, List.drop_eq_nil_of_le (by omega), Sq50.room, List.append_nil]
end Lp
set_option Elab.async false
set_option linter.all false
set_option maxRecDepth 100000
set_option maxHeartbeats 4000000
namespace Lp
open PySem PySem.Spec PyProof.Rows L2 Evl
variable {P : Program} {w : World} {K : PySem.W.Frag} {mg : Str → Option Value} {base : Heap}
theorem EvN.ofL {σ : L2.St} {H : Hp} {te : TE} {xs : List V} (h : EvL te σ H xs) : EvN te σ H (fun y H' => H' y = some (.lst xs)) := evn_list h
theorem StepsAt.nil {H : Hp} {a : Addr} (h : H a = some (.lst [])) : StepsAt K H a [] := ⟨[], h, .nil⟩
theorem StepsAt.ex {H H' : Hp} {a : Addr} {l : Sq50.Past} (s : StepsAt K H a l) (e : Ex H H') : StepsAt K H' a l := s.kp (.of e)
def sp_hinit (K : PySem.W.Frag) : Sp := P2 fun a b H Q _ => ∃ (x dx : Addr) (bud : Nat), a = .ref x ∧ H x = some (.ins (CH K) dx []) ∧ b = .int (bud : Int) ∧ ∀ H' aK aU, Kx x H H' → HistA K H' x bud [] [] aK aU → Q .non H'
theorem ok_History_init (T : Tx K mg) : Ok P w K mg base CX0 (0 + 1) (He.ma K (He.ga K "History") "__init__") ["self", "budget"] (sp_hinit K) := by
  refine mk0 T.f_History_init sc_History_init bd_History_init P2.len (fun cdv A outer s H vs Q E hr h => ⟨_, (pss_cons (kps_fld (K := K) (pv 0) (pv 1) rfl)
    (pss_cons (kps_fld (K := K) (pv 0) (pe_lst pa_nil) rfl)
    (pss_one (kps_fld (K := K) (pv 0) (pe_lst pa_nil) rfl)))), ?_⟩)
  obtain ⟨_, _, rfl, x, dx, bud, rfl, hx, rfl, k⟩ := h
  refine q_fld (ev_var rfl) (ev_var rfl) hx T.c_History T.n_History_budget (by show 0 < 1000; decide) fun H1 e1 => ?_
  rw [p0]
  have k1 : Kx x H (L2.upd H1 x (.ins (CH K) dx [("budget", .int (bud : Int))])) := (Kx.of e1).upd
  refine q_fldN (EvN.ofL (el_lst ea_nil (by show 0 ≤ 100000; decide))) (ev_var rfl) upd_same T.c_History T.n_History_kept (by show 1 < 1000; decide) (fun _ _ _ e r => e _ _ r) fun aK H2 n2 e2 hK => ?_
  rw [pn (by decide +kernel), p0]
  have nK : aK ≠ x := new_ne n2 (by rw [upd_same]; simp)
  refine s_fldN (EvN.ofL (el_lst ea_nil (by show 0 ≤ 100000; decide))) (ev_var rfl) upd_same T.c_History T.n_History_undone (by show 2 < 1000; decide) (fun _ _ _ e r => e _ _ r) fun aU H3 n3 e3 hU => ?_
  rw [pn (by decide +kernel), pn (by decide +kernel), p0]
  have nU : aU ≠ x := new_ne n3 (by rw [upd_same]; simp)
  refine k _ aK aU (fun b o hb nb => ?_) ⟨⟨dx, upd_same⟩, .nil ?_, .nil ?_⟩
  · rw [upd_ne nb]
    exact e3 _ _ (by rw [upd_ne nb]; exact e2 _ _ (k1 b o hb nb))
  · rw [upd_ne nK]
    exact e3 _ _ (by rw [upd_ne nK]; exact hK)
  · rw [upd_ne nU]
    exact hU
section
variable {σ : L2.St} {H : Hp} {te : TE} {tA : TA} {h aK aU : Addr} {bud : Nat} {past future : Sq50.Past} {E : XK}
theorem evn_hist (ha : EvA tA σ H [.int (bud : Int)]) : EvN (tMake (CH K) (sp_hinit K) [] E tA) σ H (fun x H' => ∃ aK aU, HistA K H' x bud [] [] aK aU) := fun H1 e Q q =>
  ha H1 e _ fun H2 e2 x dx hx hd nd => ⟨_, _, rfl, x, dx, bud, rfl, upd_same, rfl, fun H' aK aU kx hH => ⟨rfl, q x H' (fresh_back e2 hx) (fun b o hb => by
    have hb2 := e2 _ _ hb
    exact kx b o (by rw [upd_ne (ne_of_none hb2 hx), upd_ne (ne_of_none hb2 hd)]; exact hb2) (ne_of_none hb2 hx)) ⟨aK, aU, hH⟩⟩⟩
/-- a method of a history -/
theorem hm {sp : Sp} {m : Str} {vs : List V} {Q : VK} (ho : Ev te σ H (.ref h)) (s : HistA K H h bud past future aK aU) (ha : EvA tA σ H vs) (k : ∀ H1, Ex H H1 → sp (.ref h :: vs) H1 Q E)
    (hm : ((m == ("budget" : Str)) || ((m == ("kept" : Str)) || (m == ("undone" : Str)))) = false := by decide +kernel) : tMeth (CH K) m sp [] E te tA σ H Q := by
  obtain ⟨⟨dx, h1⟩, _⟩ := s
  exact ho H (Ex.refl _) _ fun H1 e1 => ⟨h, dx, _, rfl, e1 _ _ h1, hF_no hm, ha H1 e1 _ fun H2 e2 => by
    show sp (V.ref h :: (vs ++ [])) H2 Q E
    rw [List.append_nil]
    exact k H2 (e1.trans e2)⟩
end
theorem ev_sumL {σ : L2.St} {H : Hp} {te : TE} {l : List Nat} (h : EvL te σ H (nums l)) : Ev (tCB (rSum K) (tCons te tNil)) σ H (.int ((l.sum : Nat) : Int)) := fun H1 e Q q =>
  h H1 e _ fun p H2 n e2 hp => ⟨p, l.map fun (i : Nat) => (i : Int), rfl, sq_of (by rw [List.map_map]; exact hp), by
    rw [sum_nums]
    exact q H2 e2⟩
def sp_total (K : PySem.W.Frag) : Sp := P1 fun a H Q _ => ∃ (h : Addr) (bud : Nat) (past future : Sq50.Past) (aK aU : Addr), a = .ref h ∧ HistA K H h bud past future aK aU ∧ past.length ≤ 30000 ∧ Gives (fun v _ => v = .int (((past.map (·.2)).sum : Nat) : Int)) H Q
theorem ok_History_total (T : Tx K mg) : Ok P w K mg base CX0 (0 + 1) (He.ma K (He.ga K "History") "total") ["self"] (sp_total K) := by
  refine mk0 T.f_History_total sc_History_total bd_History_total P1.len (fun cdv A outer s H vs Q E hr h => ⟨_, (pss_one (ps_ret (pe_callB (k_sum (K := K) (by rfl)) (by rfl) T.b_sum (by decide +kernel) (pa_cons (pe_lc (own := [("picture", 1), ("cost", 2)]) rfl sc_History_total.nd (kpi_list (K := K) (kfld (K := K) (pv 0) rfl)) (blkOk_by (by kernel_rfl)) (fun _ _ _ _ _ => by exact (kpg_tup (K := K) (n := 2) (by rfl) (pgs_cons (pg_name (i := 1) sc_History_total.nd rfl (Or.inl rfl)) (pgs_cons (pg_name (i := 2) sc_History_total.nd rfl (Or.inl rfl)) pgs_nil)))) (fun _ _ _ _ _ => by exact pts_nil) (fun _ _ _ _ _ => by exact (pv 2))) pa_nil)))), ?_⟩)
  obtain ⟨_, rfl, h, bud, past, future, aK, aU, rfl, hH, hz, k⟩ := h
  obtain ⟨vs, hv, hpv⟩ := hH.kept
  have hlen := pair_len hpv
  have z := el_lc (n := vs.length) (σ := [some (.ref h), none, none]) (H := H) (te := tVar 2) (t := tYes) (wi := iList K (tFld K (tVar 0) "kept")) (g := gTup K 2 (gCons (gName 1) (gCons (gName 2) gNil))) (vs := [1, 2]) (fun i x _ => vs[i]? = some x) (fun _ => true) (fun i => .int (((past.map (·.2))[i]?).getD 0 : Nat)) (by omega) (iw_list (ev_kept T (ev_var rfl) hH) (sq_of hv)) ?_
  · rw [hlen, show past.length = (past.map (·.2)).length by rw [List.length_map], given_at (past.map (·.2)) 0 (fun (n : Nat) => V.int (n : Int)) _ fun i h => by rw [List.getElem?_eq_getElem h]; rfl] at z
    exact s_ret (ev_sumL z) fun H1 e1 => k _ _ e1 rfl
  · intro i x H1 e1 hi hx Q2 q2
    obtain ⟨y, hy, r, pp, bL, bC, rfl, hT, hPP⟩ := pair_get' hpv hx
    refine g_tup2 (ex_t e1 hT) (q2 _ H1 (Ex.refl _) rfl (fun _ _ _ z => z _ (Ex.refl _)) fun _ => ?_)
    rw [List.getElem?_map, hy]
    exact ev_var rfl
def sp_hdo (K : PySem.W.Frag) : Sp := P3 fun a b c H Q _ => ∃ (h : Addr) (bud : Nat) (past future : Sq50.Past) (aK aU : Addr) (s : Sq50.State) (p aL aC : Addr) (n : Nat), a = .ref h ∧ HistA K H h bud past future aK aU ∧ b = .ref p ∧ PicA K H p s aL aC ∧ c = .int (n : Int) ∧ past.length ≤ 50000 ∧
  ∀ H', Kx h H H' → (∃ aK' aU', HistA K H' h bud (Sq50.room bud ((s, n) :: past)) [] aK' aU') → Q .non H'
theorem nh {H : Hp} {h x : Addr} {o : HO} (e : H h = some o) (hx : H x = none) : x ≠ h := fun z => by
  rw [z, e] at hx
  cases hx
theorem ok_History_do (T : Tx K mg) : Ok P w K mg base CX0 (1 + 1) (He.ma K (He.ga K "History") "do") ["self", "picture", "cost"] (sp_hdo K) := by
  refine mk0 T.f_History_do sc_History_do bd_History_do P3.len (fun cdv A outer s H vs Q E hr h => ⟨_, (pss_cons (kps_fld (K := K) (pv 0) (pe_lst pa_nil) rfl)
    (pss_one (ps_expr (om (ok_History_keep T) T.c_History T.m_History_keep hr (by decide) ((pass0 : Passes CX0 _ E0)) (pv 0) (pa_cons (pv 1) (pa_cons (pv 2) pa_nil)))))), ?_⟩)
  obtain ⟨_, _, _, rfl, h, bud, past, future, aK, aU, s, p, aL, aC, n, rfl, hH, rfl, hP, rfl, hz, k⟩ := h
  obtain ⟨dx, hobj⟩ := hH.obj
  refine q_fldN (EvN.ofL (el_lst ea_nil (by show 0 ≤ 100000; decide))) (ev_var rfl) hobj T.c_History T.n_History_undone (by show 3 < 1000; decide) (fun _ _ _ e r => e _ _ r) fun aU' H1 n1 e1 hU => ?_
  rw [put_undone]
  have kx : Kx h H (L2.upd H1 h (.ins (CH K) dx (hF bud aK aU'))) := (Kx.of e1).upd
  have kp := kx.kp hobj im_h
  have hH1 : HistA K (L2.upd H1 h (.ins (CH K) dx (hF bud aK aU'))) h bud past [] aK aU' := ⟨⟨dx, upd_same⟩, hH.kept.kp kp, .nil (by rw [upd_ne (nh hobj n1)]; exact hU)⟩
  exact hm (ev_var rfl) hH1 (ea_cons (ev_var rfl) (ea_cons (ev_var rfl) ea_nil)) fun H2 e2 => ⟨_, _, _, rfl, h, bud, past, [], aK, aU', s, p, aL, aC, n, rfl, hH1.ex e2, rfl, (hP.kp kp).ex e2, rfl, hz, fun H3 kx3 ⟨aK', z⟩ => k H3 ((kx.trans (.of e2)).trans kx3) ⟨aK', aU', z⟩⟩
section
variable {σ : L2.St} {H : Hp} {te : TE} {a : Addr} {l : Sq50.Past} {x : Sq50.State × Nat}
/-- the first step -/
theorem steps_head (s : StepsAt K H a (x :: l)) : ∃ r vs, H a = some (.lst (.ref r :: vs)) ∧ StepAt K H (.ref r) x ∧ Paired (StepAt K H) vs l := by
  obtain ⟨vs, h1, h2⟩ := s
  cases h2 with
  | cons r t =>
    obtain ⟨rr, p, aL, aC, rfl, z⟩ := id r
    exact ⟨rr, _, h1, r, t⟩
end
def sp_undo (K : PySem.W.Frag) : Sp := P2 fun a b H Q _ => ∃ (h : Addr) (bud : Nat) (x : Sq50.State × Nat) (past future : Sq50.Past) (aK aU : Addr) (s : Sq50.State) (p aL aC : Addr), a = .ref h ∧ HistA K H h bud (x :: past) future aK aU ∧ b = .ref p ∧ PicA K H p s aL aC ∧ past.length ≤ 50000 ∧ future.length ≤ 50000 ∧
  ∀ p' H', Kx h H H' → (∃ aK' aU', HistA K H' h bud past ((s, x.2) :: future) aK' aU') → (∃ aL aC, PicA K H' p' x.1 aL aC) → Q (.ref p') H'
theorem ok_History_undo (T : Tx K mg) : Ok P w K mg base CX0 (0 + 1) (He.ma K (He.ga K "History") "undo") ["self", "picture"] (sp_undo K) := by
  refine mk0 T.f_History_undo sc_History_undo bd_History_undo P2.len (fun cdv A outer s H vs Q E hr h => ⟨_, (pss_cons (ps_asg (pe_ix (kix_list (K := K)) (kfld (K := K) (pv 0) rfl) pe_int (fun _ _ => rfl)) (kpg_tup (K := K) (n := 2) (by rfl) (pgs_cons (pg_name (i := 2) sc_History_undo.nd rfl (Or.inl rfl)) (pgs_cons (pg_name (i := 3) sc_History_undo.nd rfl (Or.inl rfl)) pgs_nil))))
    (pss_cons (kps_fld (K := K) (pv 0) (pe_slice (ksl_list (K := K)) (kfld (K := K) (pv 0) rfl) (po_some pe_int) po_none) rfl)
    (pss_cons (kps_fld (K := K) (pv 0) (pe_op op_cat (pe_lst (pa_cons (pe_tup (pa_cons (pv 1) (pa_cons (pv 3) pa_nil))) pa_nil)) (kfld (K := K) (pv 0) rfl)) rfl)
    (pss_one (ps_ret (pv 2)))))), ?_⟩)
  obtain ⟨_, _, rfl, h, bud, x, past, future, aK, aU, s, p, aL, aC, rfl, hH, rfl, hP, hz1, hz2, k⟩ := h
  obtain ⟨dx, hobj⟩ := hH.obj
  obtain ⟨r0, vs, hv, hS, hpv⟩ := steps_head hH.kept
  have hlen := pair_len hpv
  obtain ⟨r, p', bL, bC, er, hT, hPP⟩ := hS
  cases er
  refine (ev_op (ev_kept T (ev_var rfl) hH) ev_c (rv_ixL (sq_of hv) (atI_nat (j := 0) rfl))) H (Ex.refl _) _ fun H1 e1 => g_tup2 (ex_t e1 hT) ?_
  refine q_fldN (EvN.ofL (el_sl (ev_kept T (ev_var rfl) (hH.ex e1)) (eo_some ev_c) eo_none (sq_of (e1 _ _ hv)))) (ev_var rfl) (e1 _ _ hobj) T.c_History T.n_History_kept (by show 3 < 1000; decide) (fun _ _ _ e r => e _ _ r) fun aK' H2 n2 e2 hK => ?_
  rw [put_kept]
  have e12 := e1.trans e2
  have kx : Kx h H (L2.upd H2 h (.ins (CH K) dx (hF bud aK' aU))) := (Kx.of e12).upd
  have kp := kx.kp hobj im_h
  have hK' : (L2.upd H2 h (.ins (CH K) dx (hF bud aK' aU))) aK' = some (.lst vs) := by
    rw [upd_ne (nh hobj (fresh_back e1 n2)), hK]
    exact congrArg (fun l => some (HO.lst l)) (cut_drop (.ref r0 :: vs) 1)
  have hH2 : HistA K (L2.upd H2 h (.ins (CH K) dx (hF bud aK' aU))) h bud past future aK' aU := ⟨⟨dx, upd_same⟩, ⟨vs, hK', L2.Paired.mapP hpv fun _ _ z => z.kp kp⟩, hH.und.kp kp⟩
  obtain ⟨us, hu, hpu⟩ := hH2.und
  have hP2 := hP.kp kp
  have hlu := pair_len hpu
  refine front (eu_tup (ea_cons (ev_var rfl) (ea_cons (ev_var rfl) ea_nil)) (by show 2 ≤ 100000; decide)) (ev_undone T (ev_var rfl) hH2) hu (by omega) _ (Ex.refl _) _ fun r2 aU' H3 nr nU e3 hr2 hU => ?_
  refine ev_var (v := .ref h) rfl H3 (Ex.refl _) _ fun H4 e4 => ⟨h, CH K, dx, _, rfl, (e3.trans e4) _ _ upd_same, T.c_History, T.n_History_undone, (by show 3 < 1000; decide), ?_⟩
  rw [put_undone]
  have kx4 : Kx h H (L2.upd H4 h (.ins (CH K) dx (hF bud aK' aU'))) := (kx.trans (.of (e3.trans e4))).upd
  have kp4 := kx4.kp hobj im_h
  refine s_ret (v := .ref p') (ev_var rfl) fun H5 e5 => k p' H5 (kx4.trans (.of e5)) ⟨aK', aU', HistA.ex (H := L2.upd H4 h (.ins (CH K) dx (hF bud aK' aU'))) ⟨⟨dx, upd_same⟩, ⟨vs, ?_, L2.Paired.mapP hpv fun _ _ z => z.kp kp4⟩, ⟨.ref r2 :: us, ?_, .cons ⟨r2, p, aL, aC, rfl, st_of ?_, hP.kp kp4⟩ (L2.Paired.mapP hpu fun _ _ z => z.kp (Kp.trans ((Kx.of (e3.trans e4)).upd.kp upd_same im_h) (.refl _)))⟩⟩ e5⟩ ⟨bL, bC, (hPP.kp kp4).ex e5⟩
  · rw [upd_ne (nh hobj (fresh_back e1 n2))]
    exact (e3.trans e4) _ _ hK'
  · rw [upd_ne (nh upd_same nU)]
    exact e4 _ _ hU
  · rw [upd_ne (nh upd_same nr)]
    exact e4 _ _ hr2
def sp_redo (K : PySem.W.Frag) : Sp := P2 fun a b H Q _ => ∃ (h : Addr) (bud : Nat) (x : Sq50.State × Nat) (past future : Sq50.Past) (aK aU : Addr) (s : Sq50.State) (p aL aC : Addr), a = .ref h ∧ HistA K H h bud past (x :: future) aK aU ∧ b = .ref p ∧ PicA K H p s aL aC ∧ past.length ≤ 50000 ∧ future.length ≤ 50000 ∧
  ∀ p' H', Kx h H H' → (∃ aK' aU', HistA K H' h bud (Sq50.room bud ((s, x.2) :: past)) future aK' aU') → (∃ aL aC, PicA K H' p' x.1 aL aC) → Q (.ref p') H'
theorem ok_History_redo (T : Tx K mg) : Ok P w K mg base CX0 (1 + 1) (He.ma K (He.ga K "History") "redo") ["self", "picture"] (sp_redo K) := by
  refine mk0 T.f_History_redo sc_History_redo bd_History_redo P2.len (fun cdv A outer s H vs Q E hr h => ⟨_, (pss_cons (ps_asg (pe_ix (kix_list (K := K)) (kfld (K := K) (pv 0) rfl) pe_int (fun _ _ => rfl)) (kpg_tup (K := K) (n := 2) (by rfl) (pgs_cons (pg_name (i := 2) sc_History_redo.nd rfl (Or.inl rfl)) (pgs_cons (pg_name (i := 3) sc_History_redo.nd rfl (Or.inl rfl)) pgs_nil))))
    (pss_cons (kps_fld (K := K) (pv 0) (pe_slice (ksl_list (K := K)) (kfld (K := K) (pv 0) rfl) (po_some pe_int) po_none) rfl)
    (pss_cons (ps_expr (om (ok_History_keep T) T.c_History T.m_History_keep hr (by decide) ((pass0 : Passes CX0 _ E0)) (pv 0) (pa_cons (pv 1) (pa_cons (pv 3) pa_nil))))
    (pss_one (ps_ret (pv 2)))))), ?_⟩)
  obtain ⟨_, _, rfl, h, bud, x, past, future, aK, aU, s, p, aL, aC, rfl, hH, rfl, hP, hz1, hz2, k⟩ := h
  obtain ⟨dx, hobj⟩ := hH.obj
  obtain ⟨r0, vs, hv, hS, hpv⟩ := steps_head hH.und
  have hlen := pair_len hpv
  obtain ⟨r, p', bL, bC, er, hT, hPP⟩ := hS
  cases er
  refine (ev_op (ev_undone T (ev_var rfl) hH) ev_c (rv_ixL (sq_of hv) (atI_nat (j := 0) rfl))) H (Ex.refl _) _ fun H1 e1 => g_tup2 (ex_t e1 hT) ?_
  refine q_fldN (EvN.ofL (el_sl (ev_undone T (ev_var rfl) (hH.ex e1)) (eo_some ev_c) eo_none (sq_of (e1 _ _ hv)))) (ev_var rfl) (e1 _ _ hobj) T.c_History T.n_History_undone (by show 3 < 1000; decide) (fun _ _ _ e r => e _ _ r) fun aU' H2 n2 e2 hU => ?_
  rw [put_undone]
  have e12 := e1.trans e2
  have kx : Kx h H (L2.upd H2 h (.ins (CH K) dx (hF bud aK aU'))) := (Kx.of e12).upd
  have kp := kx.kp hobj im_h
  have hH2 : HistA K (L2.upd H2 h (.ins (CH K) dx (hF bud aK aU'))) h bud past future aK aU' := ⟨⟨dx, upd_same⟩, hH.kept.kp kp, ⟨vs, by
    rw [upd_ne (nh hobj (fresh_back e1 n2)), hU]
    exact congrArg (fun l => some (HO.lst l)) (cut_drop (.ref r0 :: vs) 1), L2.Paired.mapP hpv fun _ _ z => z.kp kp⟩⟩
  exact hm (ev_var rfl) hH2 (ea_cons (ev_var rfl) (ea_cons (ev_var rfl) ea_nil)) fun H3 e3 => ⟨_, _, _, rfl, h, bud, past, future, aK, aU', s, p, aL, aC, x.2, rfl, hH2.ex e3, rfl, (hP.kp kp).ex e3, rfl, hz1, fun H4 kx4 ⟨aK', z⟩ => by
    have kx04 := (kx.trans (.of e3)).trans kx4
    exact s_ret (v := .ref p') (ev_var rfl) fun H5 e5 => k p' H5 (kx04.trans (.of e5)) ⟨aK', aU', z.ex e5⟩ ⟨bL, bC, (hPP.kp (kx04.kp hobj im_h)).ex e5⟩⟩
end Lp
set_option Elab.async false
set_option linter.all false
set_option maxRecDepth 100000
set_option maxHeartbeats 4000000
namespace Lp
open PySem PySem.Spec PyProof.Rows L2 Evl
variable {P : Program} {w : World} {K : PySem.W.Frag} {mg : Str → Option Value} {base : Heap}
/-! ### the editor -/
/-- what the editor holds -/
structure Ed where
  now : Sq50.State
  past : Sq50.Past
  future : Sq50.Past
  budget : Nat
  aside : List (Nat × Nat × (Nat × Nat))
  acts : List (Nat × List Nat)
  on : Bool
def RecAt (K : PySem.W.Frag) (H : Hp) (a : Addr) (l : List (Nat × List Nat)) : Prop := ∃ vs, H a = some (.lst vs) ∧ Paired (fun v (x : Nat × List Nat) => ∃ r m, v = .ref r ∧ SqT K H r [.int (x.1 : Int), .ref m] ∧ H m = some (.lst (nums x.2))) vs l
def eF (p h g r : Addr) (on : Bool) : List (Str × V) := [("picture", .ref p), ("past", .ref h), ("aside", .ref g), ("recorded", .ref r), ("is_recording", .bl on)]
structure EdA (K : PySem.W.Frag) (H : Hp) (e : Addr) (g : Ed) (p aL aC h aK aU ag ar : Addr) : Prop where
  obj : ∃ dx, H e = some (.ins (CE K) dx (eF p h ag ar g.on))
  pic : PicA K H p g.now aL aC
  his : HistA K H h g.budget g.past g.future aK aU
  asd : AsideAt K H ag g.aside
  rcd : RecAt K H ar g.acts
section
variable {H H1 : Hp} {e p aL aC h aK aU ag ar a : Addr} {g : Ed} {on : Bool}
theorem eF_picture : (eF p h ag ar on).lookup ("picture" : Str) = some (.ref p) := lk_here
theorem eF_past : (eF p h ag ar on).lookup ("past" : Str) = some (.ref h) := (lk_past (by decide +kernel)).trans lk_here
theorem eF_aside : (eF p h ag ar on).lookup ("aside" : Str) = some (.ref ag) := (lk_past (by decide +kernel)).trans ((lk_past (by decide +kernel)).trans lk_here)
theorem eF_recorded : (eF p h ag ar on).lookup ("recorded" : Str) = some (.ref ar) := (lk_past (by decide +kernel)).trans ((lk_past (by decide +kernel)).trans ((lk_past (by decide +kernel)).trans lk_here))
theorem eF_is : (eF p h ag ar on).lookup ("is_recording" : Str) = some (.bl on) := (lk_past (by decide +kernel)).trans ((lk_past (by decide +kernel)).trans ((lk_past (by decide +kernel)).trans ((lk_past (by decide +kernel)).trans lk_here)))
theorem eF_no {m : Str} (h' : ((m == ("picture" : Str)) || ((m == ("past" : Str)) || ((m == ("aside" : Str)) || ((m == ("recorded" : Str)) || (m == ("is_recording" : Str)))))) = false) : (eF p h ag ar on).lookup m = none := by
  simp only [Bool.or_eq_false_iff] at h'
  obtain ⟨h1, h2, h3, h4, h5⟩ := h'
  exact (lk_past h1).trans ((lk_past h2).trans ((lk_past h3).trans ((lk_past h4).trans ((lk_past h5).trans rfl))))
theorem im_e {C dx : Addr} : ¬ Im (.ins C dx (eF p h ag ar on)) := fun z => by
  have z2 := z.1
  rw [eF_picture] at z2
  cases z2
theorem RecAt.kp {l : List (Nat × List Nat)} (s : RecAt K H a l) (k : Kp H H1) : RecAt K H1 a l := by
  obtain ⟨vs, h1, h2⟩ := s
  exact ⟨vs, k.keep _ _ h1 trivial, L2.Paired.mapP h2 fun _ _ ⟨r, m, q, z, y⟩ => ⟨r, m, q, st_kp z k, k.keep _ _ y trivial⟩⟩
theorem HistA.kp {b : Nat} {past future : Sq50.Past} (s : HistA K H h b past future aK aU) (k : Kp H H1) (ho : ∀ o, H h = some o → H1 h = some o) : HistA K H1 h b past future aK aU := by
  obtain ⟨⟨dx, h1⟩, h2, h3⟩ := s
  exact ⟨⟨dx, ho _ h1⟩, h2.kp k, h3.kp k⟩
/-- the editor and its history stand apart -/
theorem EdA.apart (s : EdA K H e g p aL aC h aK aU ag ar) : h ≠ e := by
  obtain ⟨dx, h1⟩ := s.obj
  obtain ⟨dy, h2⟩ := s.his.obj
  exact ne_of h2 h1 fun z => by
    injection z with _ _ z3
    have z4 := congrArg (fun l => List.lookup ("picture" : Str) l) z3
    have a1 : List.lookup ("picture" : Str) (hF g.budget aK aU) = none := hF_no (by decide +kernel)
    have a2 : List.lookup ("picture" : Str) (eF p h ag ar g.on) = some (.ref p) := eF_picture
    simp only [a1, a2] at z4
    cases z4
theorem EdA.kt (s : EdA K H e g p aL aC h aK aU ag ar) (k : Kt H H1) : EdA K H1 e g p aL aC h aK aU ag ar := by
  have kp := Kp.ofN k
  obtain ⟨⟨dx, h1⟩, h2, h3, h4, h5⟩ := s
  exact ⟨⟨dx, k _ _ h1 fun ps z => by cases z⟩, h2.kp kp, h3.kp kp (fun o ho => by
    obtain ⟨dy, hy⟩ := h3.obj
    rw [hy] at ho
    cases ho
    exact k _ _ hy (fun ps z => by cases z)), h4.kp kp, h5.kp kp⟩
theorem EdA.ex (s : EdA K H e g p aL aC h aK aU ag ar) (k : Ex H H1) : EdA K H1 e g p aL aC h aK aU ag ar := s.kt (.of k)
end
section
variable (T : Tx K mg) {H : Hp} {e p aL aC h aK aU ag ar : Addr} {g : Ed} {σ : L2.St} {te : TE}
include T
theorem ev_epic (ho : Ev te σ H (.ref e)) (s : EdA K H e g p aL aC h aK aU ag ar) : Ev (tFld K te "picture") σ H (.ref p) := by
  obtain ⟨dx, h1⟩ := s.obj
  exact ev_fld ho h1 T.c_Editor T.n_Editor_picture eF_picture
theorem ev_epast (ho : Ev te σ H (.ref e)) (s : EdA K H e g p aL aC h aK aU ag ar) : Ev (tFld K te "past") σ H (.ref h) := by
  obtain ⟨dx, h1⟩ := s.obj
  exact ev_fld ho h1 T.c_Editor T.n_Editor_past eF_past
theorem ev_easide (ho : Ev te σ H (.ref e)) (s : EdA K H e g p aL aC h aK aU ag ar) : Ev (tFld K te "aside") σ H (.ref ag) := by
  obtain ⟨dx, h1⟩ := s.obj
  exact ev_fld ho h1 T.c_Editor T.n_Editor_aside eF_aside
theorem ev_erec (ho : Ev te σ H (.ref e)) (s : EdA K H e g p aL aC h aK aU ag ar) : Ev (tFld K te "recorded") σ H (.ref ar) := by
  obtain ⟨dx, h1⟩ := s.obj
  exact ev_fld ho h1 T.c_Editor T.n_Editor_recorded eF_recorded
theorem ev_eis (ho : Ev te σ H (.ref e)) (s : EdA K H e g p aL aC h aK aU ag ar) : Ev (tFld K te "is_recording") σ H (.bl g.on) := by
  obtain ⟨dx, h1⟩ := s.obj
  exact ev_fld ho h1 T.c_Editor T.n_Editor_is_recording eF_is
end
/-- what an editor's method does: another holding, a list told; or a refusal, all as it was -/
abbrev EdAt (K : PySem.W.Frag) (H : Hp) (e : Addr) (g : Ed) : Prop := ∃ p aL aC h aK aU ag ar, EdA K H e g p aL aC h aK aU ag ar
def RaisesE (K : PySem.W.Frag) (e : Addr) (g : Ed) (z : Int) (H : Hp) (E : XK) : Prop := ∀ d H', Kp H H' → Tk K H' → EdAt K H' e g → H' d = some (.xd [("code", .int z)]) → E (.ref (CR K)) (some d) H'
def Tells (K : PySem.W.Frag) (e : Addr) (g : Ed) (l : List Int) (H : Hp) (Q : VK) : Prop := ∀ y H', Fr H y → Kp H H' → Tk K H' → EdAt K H' e g → H' y = some (.lst (l.map V.int)) → Q (.ref y) H'
def Ans (K : PySem.W.Frag) (e : Addr) (g : Ed) (r : Except Int (Ed × List Int)) (H : Hp) (Q : VK) (E : XK) : Prop := match r with
  | .ok x => Tells K e x.1 x.2 H Q
  | .error z => RaisesE K e g z H E
section
variable {H H1 : Hp} {e : Addr} {g : Ed} {z : Int} {l : List Int} {Q : VK} {E : XK} {r : Except Int (Ed × List Int)}
theorem RaisesE.to (k : RaisesE K e g z H E) (x : Kp H H1) : RaisesE K e g z H1 E := fun d H' x1 t s h => k d H' (x.trans x1) t s h
theorem Tells.to (k : Tells K e g l H Q) (x : Kp H H1) : Tells K e g l H1 Q := fun y H' n x1 t s h => k y H' (x.fresh n) (x.trans x1) t s h
theorem Ans.to (k : Ans K e g r H Q E) (x : Kp H H1) : Ans K e g r H1 Q E := by
  cases r with
  | ok y => exact Tells.to k x
  | error z => exact RaisesE.to k x
theorem Ans.ex (k : Ans K e g r H Q E) (x : Ex H H1) : Ans K e g r H1 Q E := k.to (.of x)
theorem RaisesE.k (k : RaisesE K e g z H E) (s : EdAt K H e g) : RaisesK K z H E := fun d H' x t h => by
  obtain ⟨p, aL, aC, hh, aK, aU, ag, ar, s⟩ := s
  exact k d H' (Kp.ofN x) t ⟨p, aL, aC, hh, aK, aU, ag, ar, s.kt x⟩ h
end
/-! ### put -/
theorem putF_len (f : Str) (v : V) : ∀ fs : List (Str × V), (putF f v fs).length ≤ fs.length + 1
  | [] => Nat.le_refl _
  | (g, x) :: r => by
    unfold putF
    split
    · simp
    · rw [List.length_cons, List.length_cons]
      exact Nat.succ_le_succ (putF_len f v r)
def Puts (fs : List (Str × V)) : Prop := fs.length ≤ 10 ∧ ∀ v1 v2 v3 v4 v5 : V, putF "is_recording" v5 (putF "recorded" v4 (putF "aside" v3 (putF "past" v2 (putF "picture" v1 fs)))) = ([("picture", v1), ("past", v2), ("aside", v3), ("recorded", v4), ("is_recording", v5)] : List (Str × V))
theorem puts_nil : Puts [] := ⟨by decide, fun v1 v2 v3 v4 v5 => by
  repeat first
    | rw [p0]
    | rw [pn (by decide +kernel)]⟩
theorem puts_eF {p h ag ar : Addr} {on : Bool} : Puts (eF p h ag ar on) := ⟨by show 5 ≤ 10; decide, fun v1 v2 v3 v4 v5 => by
  unfold eF
  repeat first
    | rw [putF_here]
    | rw [pn (by decide +kernel)]⟩
end Lp
set_option Elab.async false
set_option linter.all false
set_option maxRecDepth 100000
set_option maxHeartbeats 4000000
namespace Lp
open PySem PySem.Spec PyProof.Rows L2 Evl
variable {P : Program} {w : World} {K : PySem.W.Frag} {mg : Str → Option Value} {base : Heap}
def begunE (w h bud : Nat) (cs : List Nat) : Ed := ⟨newPic w h cs, [], [], bud, [], [], false⟩
theorem im_put {C dx : Addr} {v : V} {fs : List (Str × V)} : ¬ Im (.ins C dx (putF "picture" v fs)) := fun z => by
  have z1 := z.1
  rw [lookup_putF, if_pos rfl] at z1
  cases z1
theorem im_put2 {C dx : Addr} {v u : V} {f : Str} {fs : List (Str × V)} (h : ¬ Im (.ins C dx fs)) (hp : fs.lookup ("picture" : Str) = some u) : ¬ Im (.ins C dx (putF f v fs)) ∧ ∃ u', (putF f v fs).lookup ("picture" : Str) = some u' := by
  have e : ∃ u', (putF f v fs).lookup ("picture" : Str) = some u' := by
    rw [lookup_putF]
    split
    · exact ⟨_, rfl⟩
    · exact ⟨_, hp⟩
  refine ⟨fun z => ?_, e⟩
  obtain ⟨u', hu⟩ := e
  have z1 := z.1
  rw [hu] at z1
  cases z1
/-- at x: no field of a picture, a layer, a history -/
theorem hist_ne {H : Hp} {h e : Addr} {b : Nat} {past future : Sq50.Past} {aK aU C dx : Addr} {fs : List (Str × V)} {u : V} (s : HistA K H h b past future aK aU) (he : H e = some (.ins C dx fs)) (hp : fs.lookup ("picture" : Str) = some u) : h ≠ e := by
  obtain ⟨dy, h2⟩ := s.obj
  exact ne_of h2 he fun z => by
    injection z with _ _ z3
    have a1 : List.lookup ("picture" : Str) (hF b aK aU) = none := hF_no (by decide +kernel)
    rw [z3, hp] at a1
    cases a1
def sp_put5 (K : PySem.W.Frag) : Sp := P5 fun a b c d f H Q _ => ∃ (e dx : Addr) (fs : List (Str × V)) (w h bud : Nat) (cs : List Nat) (aC : Addr), a = .ref e ∧ H e = some (.ins (CE K) dx fs) ∧ Puts fs ∧ ¬ Im (.ins (CE K) dx fs) ∧ b = .int (w : Int) ∧ c = .int (h : Int) ∧ d = .int (bud : Int) ∧ f = .ref aC ∧ H aC = some (.lst (nums cs)) ∧ w ≤ 12 ∧ h ≤ 12 ∧ cs.length ≤ 1000 ∧
  ∀ H', Kx e H H' → EdAt K H' e (begunE w h bud cs) → Q .non H'
theorem ok_Editor_put (T : Tx K mg) : Ok P w K mg base CX0 (3 + 1) (He.ma K (He.ga K "Editor") "put") ["self", "wide", "high", "budget", "colours"] (sp_put5 K) := by
  refine mk0 T.f_Editor_put sc_Editor_put bd_Editor_put P5.len (fun cdv A outer s H vs Q E hr h => ⟨_, (pss_cons (kps_fld (K := K) (pv 0) (oc (ok_new_picture T) hr (by decide) T.g_new_picture ((pass0 : Passes CX0 _ E0)) (pa_cons (pv 1) (pa_cons (pv 2) (pa_cons (pv 4) pa_nil)))) rfl)
    (pss_cons (kps_fld (K := K) (pv 0) (ok_new (ok_History_init T) T.k_History hr (by decide) T.g_History ((pass0 : Passes CX0 _ E0)) (pa_cons (pv 3) pa_nil)) rfl)
    (pss_cons (kps_fld (K := K) (pv 0) (pe_lst pa_nil) rfl)
    (pss_cons (kps_fld (K := K) (pv 0) (pe_lst pa_nil) rfl)
    (pss_one (kps_fld (K := K) (pv 0) pe_bl rfl)))))), ?_⟩)
  obtain ⟨_, _, _, _, _, rfl, e, dx, fs, w, h, bud, cs, aC, rfl, he, hfs, hni, rfl, rfl, rfl, rfl, hC, hw, hh, hz, k⟩ := h
  obtain ⟨hl, hput⟩ := hfs
  refine q_fldN (R := fun y H' => ∃ aL aC, PicA K H' y (newPic w h cs) aL aC) (evn_call (ea_cons (ev_var rfl) (ea_cons (ev_var rfl) (ea_cons (ev_var rfl) ea_nil))) fun H1 e1 Q E q => ⟨_, _, _, rfl, w, h, cs, aC, rfl, rfl, rfl, e1 _ _ hC, hw, hh, hz, q⟩) (ev_var rfl) he T.c_Editor T.n_Editor_picture (by omega) (fun _ _ _ e ⟨aL, aC, r⟩ => ⟨aL, aC, r.ex e⟩) fun aP H1 n1 e1 ⟨pL, pC, hP⟩ => ?_
  have l1 := putF_len "picture" (.ref aP) fs
  have u1 : (putF "picture" (.ref aP) fs).lookup ("picture" : Str) = some (.ref aP) := by rw [lookup_putF, if_pos rfl]
  have i1 : ¬ Im (.ins (CE K) dx (putF "picture" (.ref aP) fs)) := im_put
  have x1 : Kx e H1 (L2.upd H1 e (.ins (CE K) dx (putF "picture" (.ref aP) fs))) := (Kx.refl _).upd
  replace hP := hP.kp (x1.kp (e1 _ _ he) hni)
  have X1 : Kx e H (L2.upd H1 e (.ins (CE K) dx (putF "picture" (.ref aP) fs))) := (Kx.of e1).trans x1
  refine q_fldN (evn_hist (bud := bud) (ea_cons (ev_var rfl) ea_nil)) (ev_var rfl) upd_same T.c_Editor T.n_Editor_past (by omega) (fun _ _ _ e ⟨aK, aU, r⟩ => ⟨aK, aU, r.ex e⟩) fun ah H2 n2 e2 ⟨aK, aU, hH⟩ => ?_
  have l2 := putF_len "past" (.ref ah) (putF "picture" (.ref aP) fs)
  obtain ⟨i2, v2, u2⟩ := im_put2 (f := "past") (v := .ref ah) i1 u1
  have x2 : Kx e H2 (L2.upd H2 e (.ins (CE K) dx (putF "past" (.ref ah) (putF "picture" (.ref aP) fs)))) := (Kx.refl _).upd
  have k2 := x2.kp (e2 _ _ upd_same) i1
  replace hP := (hP.ex e2).kp k2
  have nhe : ah ≠ e := hist_ne hH (e2 _ _ upd_same) u1
  replace hH := hH.kp k2 fun o ho => x2 _ _ ho nhe
  have X2 := X1.trans ((Kx.of e2).trans x2)
  refine q_fldN (EvN.ofL (el_lst ea_nil (by show 0 ≤ 100000; decide))) (ev_var rfl) upd_same T.c_Editor T.n_Editor_aside (by omega) (fun _ _ _ e r => e _ _ r) fun ag H3 n3 e3 hG => ?_
  have l3 := putF_len "aside" (.ref ag) (putF "past" (.ref ah) (putF "picture" (.ref aP) fs))
  obtain ⟨i3, v3, u3⟩ := im_put2 (f := "aside") (v := .ref ag) i2 u2
  have x3 : Kx e H3 (L2.upd H3 e (.ins (CE K) dx (putF "aside" (.ref ag) (putF "past" (.ref ah) (putF "picture" (.ref aP) fs))))) := (Kx.refl _).upd
  have k3 := x3.kp (e3 _ _ upd_same) i2
  replace hP := (hP.ex e3).kp k3
  replace hH := (hH.ex e3).kp k3 fun o ho => x3 _ _ ho nhe
  replace hG := k3.keep _ _ hG trivial
  have X3 := X2.trans ((Kx.of e3).trans x3)
  refine q_fldN (EvN.ofL (el_lst ea_nil (by show 0 ≤ 100000; decide))) (ev_var rfl) upd_same T.c_Editor T.n_Editor_recorded (by omega) (fun _ _ _ e r => e _ _ r) fun ar H4 n4 e4 hR => ?_
  have l4 := putF_len "recorded" (.ref ar) (putF "aside" (.ref ag) (putF "past" (.ref ah) (putF "picture" (.ref aP) fs)))
  obtain ⟨i4, v4, u4⟩ := im_put2 (f := "recorded") (v := .ref ar) i3 u3
  have x4 : Kx e H4 (L2.upd H4 e (.ins (CE K) dx (putF "recorded" (.ref ar) (putF "aside" (.ref ag) (putF "past" (.ref ah) (putF "picture" (.ref aP) fs)))))) := (Kx.refl _).upd
  have k4 := x4.kp (e4 _ _ upd_same) i3
  replace hP := (hP.ex e4).kp k4
  replace hH := (hH.ex e4).kp k4 fun o ho => x4 _ _ ho nhe
  replace hG := k4.keep _ _ (e4 _ _ hG) trivial
  replace hR := k4.keep _ _ hR trivial
  have X4 := X3.trans ((Kx.of e4).trans x4)
  refine s_fld ev_c (ev_var rfl) upd_same T.c_Editor T.n_Editor_is_recording (by omega) fun H5 e5 => ?_
  rw [hput]
  have x5 : Kx e H5 (L2.upd H5 e (.ins (CE K) dx [("picture", .ref aP), ("past", .ref ah), ("aside", .ref ag), ("recorded", .ref ar), ("is_recording", .bl false)])) := (Kx.refl _).upd
  have k5 := x5.kp (e5 _ _ upd_same) i4
  exact k _ (X4.trans ((Kx.of e5).trans x5)) ⟨aP, pL, pC, ah, aK, aU, ag, ar, ⟨dx, upd_same⟩, (hP.ex e5).kp k5, (hH.ex e5).kp k5 fun o ho => x5 _ _ ho nhe, ⟨[], k5.keep _ _ (e5 _ _ hG) trivial, .nil⟩, ⟨[], k5.keep _ _ (e5 _ _ hR) trivial, .nil⟩⟩
/-- a method of the editor -/
theorem em {σ : L2.St} {H : Hp} {te : TE} {tA : TA} {e dx : Addr} {fs : List (Str × V)} {sp : Sp} {m : Str} {E : XK} {Q : VK} {U : List V → Hp → Prop} (ho : Ev te σ H (.ref e)) (he : H e = some (.ins (CE K) dx fs)) (hm : fs.lookup m = none) (ha : EvAP tA σ H U) (k : ∀ vs H1, Ex H H1 → U vs H1 → sp (.ref e :: vs) H1 Q E) : tMeth (CE K) m sp [] E te tA σ H Q :=
  ho H (Ex.refl _) _ fun H1 e1 => ⟨e, dx, fs, rfl, e1 _ _ he, hm, ha H1 e1 _ fun vs H2 e2 u => by
    show sp (V.ref e :: (vs ++ [])) H2 Q E
    rw [List.append_nil]
    exact k vs H2 (e1.trans e2) u⟩
def sp_einit (K : PySem.W.Frag) : Sp := P1 fun a H Q _ => ∃ (e dx : Addr), a = .ref e ∧ H e = some (.ins (CE K) dx []) ∧ ∀ H', Kx e H H' → EdAt K H' e (begunE 1 1 100 [0]) → Q .non H'
theorem im_nil {C dx : Addr} : ¬ Im (.ins C dx []) := fun z => z.2.2 rfl
theorem ok_Editor_init (T : Tx K mg) : Ok P w K mg base CX0 (4 + 1) (He.ma K (He.ga K "Editor") "__init__") ["self"] (sp_einit K) := by
  refine mk0 T.f_Editor_init sc_Editor_init bd_Editor_init P1.len (fun cdv A outer s H vs Q E hr h => ⟨_, (pss_one (ps_expr (om (ok_Editor_put T) T.c_Editor T.m_Editor_put hr (by decide) ((pass0 : Passes CX0 _ E0)) (pv 0) (pa_cons pe_int (pa_cons pe_int (pa_cons (pgi T.i_BUDGET_AT_FIRST) (pa_cons (pe_lst (pa_cons pe_int pa_nil)) pa_nil))))))), ?_⟩)
  obtain ⟨_, rfl, e, dx, rfl, he, k⟩ := h
  refine em (ev_var rfl) he rfl (evap_cons (.of ev_c) (fun _ _ _ _ h => h) (evap_cons (.of ev_c) (fun _ _ _ _ h => h) (evap_cons (.of ev_c) (fun _ _ _ _ h => h) (evap_cons (EvP.ofL (el_lst (ea_cons ev_c ea_nil) (by show 1 ≤ 100000; decide))) (fun v H H' e ⟨x, q, z⟩ => ⟨x, q, e _ _ z⟩) evap_nil)))) ?_
  rintro vs H1 e1 ⟨_, _, rfl, rfl, _, _, rfl, rfl, _, _, rfl, rfl, _, _, rfl, ⟨aC, rfl, hC⟩, rfl⟩
  exact ⟨_, _, _, _, _, rfl, e, dx, [], 1, 1, 100, [0], aC, rfl, e1 _ _ he, puts_nil, im_nil, rfl, rfl, rfl, rfl, hC, by decide, by decide, by decide, fun H' kx hE => k H' ((Kx.of e1).trans kx) hE⟩
/-- Editor() -/
theorem evn_editor {σ : L2.St} {H : Hp} {E : XK} : EvN (tMake (CE K) (sp_einit K) [] E tNil) σ H (fun x H' => EdAt K H' x (begunE 1 1 100 [0])) := fun H1 e Q q x dx hx hd nd =>
  ⟨_, rfl, x, dx, rfl, upd_same, fun H' kx hE => ⟨rfl, q x H' hx (fun b o hb => kx b o (by rw [upd_ne (ne_of_none hb hx), upd_ne (ne_of_none hb hd)]; exact hb) (ne_of_none hb hx)) hE⟩⟩
def pBegin (w h bud : Nat) (cs : List Nat) : Except Int (Ed × List Int) :=
  if (decide (1 ≤ w ∧ w ≤ 12) && (decide (1 ≤ h ∧ h ≤ 12) && decide (bud ≤ 1000000))) = true then
    if (decide (cs.length = w * h) && cs.all fun c => decide (c ≤ 255)) = true then .ok (begunE w h bud cs, [0]) else .error (-3)
  else .error (-1)
def sp_begin (K : PySem.W.Frag) : Sp := P5 fun a b c d f H Q E => ∃ (e : Addr) (g : Ed) (w h bud : Nat) (cs : List Nat) (aC : Addr), a = .ref e ∧ EdAt K H e g ∧ b = .int (w : Int) ∧ c = .int (h : Int) ∧ d = .int (bud : Int) ∧ f = .ref aC ∧ H aC = some (.lst (nums cs)) ∧ cs.length ≤ 2000 ∧ Tk K H ∧ Ans K e g (pBegin w h bud cs) H Q E
theorem EdAt.ex {H H' : Hp} {e : Addr} {g : Ed} (s : EdAt K H e g) (x : Ex H H') : EdAt K H' e g := by
  obtain ⟨p, aL, aC, h, aK, aU, ag, ar, s⟩ := s
  exact ⟨p, aL, aC, h, aK, aU, ag, ar, s.ex x⟩
/-- what changes the editor alone -/
theorem Kx.ed {H H' : Hp} {e : Addr} {g : Ed} (x : Kx e H H') (s : EdAt K H e g) : Kp H H' := by
  obtain ⟨p, aL, aC, h, aK, aU, ag, ar, ⟨dx, h1⟩, _⟩ := s
  exact x.kp h1 im_e
theorem Tk.kx {H H' : Hp} {e : Addr} {o : HO} (t : Tk K H) (x : Kx e H H') (he : H e = some o) (no : ∀ ps, o ≠ .tbl ps) (nc : ∀ c q, o ≠ LamX.CodeO c q) : Tk K H' := fun p hp => by
  obtain ⟨ps, h1, h2, h3⟩ := t p hp
  refine ⟨ps, x _ _ h1 fun z => ?_, h2, fun pos cv hc => ?_⟩
  · rw [z, he] at h1
    exact no ps (Option.some.inj h1)
  · obtain ⟨c, e1, e2⟩ := h3 pos cv hc
    refine ⟨c, e1, x _ _ e2 fun z => ?_⟩
    rw [z, he] at e2
    exact nc _ _ (Option.some.inj e2)
theorem Tk.ins {H H' : Hp} {e C dx : Addr} {fs : List (Str × V)} (t : Tk K H) (x : Kx e H H') (he : H e = some (.ins C dx fs)) : Tk K H' := t.kx x he (fun ps z => by cases z) (fun c q z => by unfold LamX.CodeO at z; cases z)
theorem nums_map (l : List Nat) : (l.map fun (i : Nat) => (i : Int)).map V.int = nums l := by rw [List.map_map]; rfl
theorem ok_Editor_begin (T : Tx K mg) : Ok P w K mg base (L2.CX P w) (4 + 1) (He.ma K (He.ga K "Editor") "begin") ["self", "wide", "high", "budget", "colours"] (sp_begin K) := by
  refine mkX T.f_Editor_begin sc_Editor_begin bd_Editor_begin P5.len (fun cdv A outer s H vs Q E hr h => ⟨_, (pss_cons (ps_expr (oc (ok_want T) hr (by decide) T.g_want passR (pa_cons (pe_and (pe_chain op_le op_le pe_int (pv 1) (pgi T.i_MOST_SIDE)) (pe_and (pe_chain op_le op_le pe_int (pv 2) (pgi T.i_MOST_SIDE)) (pe_one (pe_cmpR op_le (pv 3) (pgi T.i_MOST_BUDGET) (nomark _))))) (pa_cons (pgi T.i_NOT_SO) pa_nil))))
    (pss_cons (ps_expr (oc (ok_want T) hr (by decide) T.g_want passR (pa_cons (pe_and (pe_cmpR op_eq (pe_callB (k_len (K := K)) (by rfl) T.b_len (by decide +kernel) (pa_cons (pv 4) pa_nil)) (pe_op op_mul (pv 1) (pv 2)) (nomark _)) (pe_one (pe_callB (k_all (K := K) (by rfl)) (by rfl) T.b_all (by decide +kernel) (pa_cons (pe_lc (own := [("colour", 5)]) rfl sc_Editor_begin.nd (kpi_list (K := K) (pv 4)) (blkOk_by (by kernel_rfl)) (fun _ _ _ _ _ => by exact (pg_name (i := 5) sc_Editor_begin.nd rfl (Or.inl rfl))) (fun _ _ _ _ _ => by exact pts_nil) (fun _ _ _ _ _ => by exact (pe_cmpR op_le (pv 5) (pgi T.i_GREATEST) (nomark _)))) pa_nil)))) (pa_cons (pgi T.i_NOT_AS_MANY) pa_nil))))
    (pss_cons (ps_expr (om (ok_Editor_put T) T.c_Editor T.m_Editor_put hr (by decide) ((pass0 : Passes CX0 _ E0)) (pv 0) (pa_cons (pv 1) (pa_cons (pv 2) (pa_cons (pv 3) (pa_cons (pv 4) pa_nil))))))
    (pss_one (ps_ret (pe_lst (pa_cons pe_int pa_nil))))))), ?_⟩)
  obtain ⟨_, _, _, _, _, rfl, e, g, w, h, bud, cs, aC, rfl, hE, rfl, rfl, rfl, rfl, hC, hz, hT, hA⟩ := h
  have hR : ∀ {z : Int} {H1 : Hp}, Ex H H1 → pBegin w h bud cs = .error z → RaisesK K z H1 E := fun e1 hp => by
    rw [hp] at hA
    exact (RaisesE.k (RaisesE.to (z := _) hA (.of e1)) (hE.ex e1))
  refine q_want (g := decide (1 ≤ w ∧ w ≤ 12) && (decide (1 ≤ h ∧ h ≤ 12) && decide (bud ≤ 1000000))) (ev_is (ev_andV (ev_chain ev_c (ev_var rfl) (fun _ => ev_c) rv_I0 fun _ => rv_I0) fun _ => ev_andV (ev_chain ev_c (ev_var rfl) (fun _ => ev_c) rv_I0 fun _ => rv_I0) fun _ => ev_op (ev_var rfl) ev_c rv_I0) (congrArg V.bl ?_)) ev_c hT (fun hg H1 e1 => ?_) fun hg => hR (.refl _) (by unfold pBegin; rw [if_neg (by rw [hg]; simp)])
  · rw [← Bool.decide_and, ← Bool.decide_and]
    congr 1
    · exact decide_eq_decide.mpr (by omega)
    · congr 1
      · exact decide_eq_decide.mpr (by omega)
      · exact decide_eq_decide.mpr (by omega)
  · have hC1 := e1 _ _ hC
    have hg0 := hg
    simp only [Bool.and_eq_true, decide_eq_true_eq] at hg0
    have z := el_lc (n := cs.length) (σ := [some (.ref e), some (.int (w : Int)), some (.int (h : Int)), some (.int (bud : Int)), some (.ref aC), none]) (H := H1) (te := tOp (rI0 fun i j => .bl (decide (i ≤ j))) (tVar 5) (tC (.int 255))) (t := tYes) (wi := iList K (tVar 4)) (g := gName 5) (vs := [5]) (fun i x _ => ∃ h : i < cs.length, x = .int ((cs[i] : Nat) : Int)) (fun _ => true) (fun j => .bl (decide ((cs[j]?).getD 0 ≤ 255))) (by omega) (iw_nums (ev_var rfl) hC1) ?_
    · rw [given_at cs 0 (fun (c : Nat) => V.bl (decide (c ≤ 255))) _ fun i h => by rw [List.getElem?_eq_getElem h]; rfl] at z
      rw [show (cs.map fun (c : Nat) => V.bl (decide (c ≤ 255))) = (cs.map fun (c : Nat) => decide (c ≤ 255)).map V.bl by rw [List.map_map]; rfl] at z
      refine q_want (g := decide (cs.length = w * h) && cs.all fun c => decide (c ≤ 255)) (ev_is (ev_andV (ev_op (ev_len (ev_var rfl) (sq_of hC1)) (ev_op (ev_var rfl) (ev_var rfl) (rv_I (.inl ⟨by omega, by omega⟩))) (rv_eq rfl)) fun _ => ev_all z) (congrArg V.bl ?_)) ev_c (hT.ex e1) (fun hg2 H2 e2 => ?_) fun hg2 => hR e1 (by unfold pBegin; rw [if_pos hg, if_neg (by rw [hg2]; simp)])
      · congr 1
        · rw [dec_int, nums_len, Bool.eq_iff_iff, beq_iff_eq, decide_eq_true_iff]
          rw [← Int.natCast_mul]
          omega
        · rw [List.all_map]
          rfl
      · have hE2 := hE.ex (e1.trans e2)
        have hok : pBegin w h bud cs = .ok (begunE w h bud cs, [0]) := by unfold pBegin; rw [if_pos hg, if_pos hg2]
        rw [hok] at hA
        obtain ⟨p, aL, aC0, hh, aK, aU, ag, ar, hEA⟩ := id hE2
        obtain ⟨dx, hobj⟩ := hEA.obj
        simp only [Bool.and_eq_true, decide_eq_true_eq] at hg2
        have hsz : w * h ≤ 12 * 12 := Nat.mul_le_mul hg0.1.2 hg0.2.1.2
        refine em (σ := [some (.ref e), some (.int (w : Int)), some (.int (h : Int)), some (.int (bud : Int)), some (.ref aC), none]) (U := fun vs _ => vs = [.int (w : Int), .int (h : Int), .int (bud : Int), .ref aC]) (ev_var rfl) hobj (eF_no (by decide +kernel)) (.of (ea_cons (ev_var rfl) (ea_cons (ev_var rfl) (ea_cons (ev_var rfl) (ea_cons (ev_var rfl) ea_nil))))) fun vs H3 e3 ev => ?_
        subst ev
        refine ⟨_, _, _, _, _, rfl, e, dx, _, w, h, bud, cs, aC, rfl, e3 _ _ hobj, puts_eF, im_e, rfl, rfl, rfl, rfl, e3 _ _ (e2 _ _ hC1), hg0.1.2, hg0.2.1.2, by omega, fun H4 kx hE4 => ?_⟩
        have kp : Kp H H4 := (Kp.of ((e1.trans e2).trans e3)).trans (kx.ed (hE2.ex e3))
        have hT4 : Tk K H4 := (hT.ex ((e1.trans e2).trans e3)).ins kx (e3 _ _ hobj)
        exact s_retL (σ := [some (.ref e), some (.int (w : Int)), some (.int (h : Int)), some (.int (bud : Int)), some (.ref aC), none]) (el_lst (ea_cons ev_c ea_nil) (by show 1 ≤ 100000; decide)) fun y H5 n5 e5 hy => hA y H5 (kp.fresh (.of n5)) (kp.trans (.of e5)) (hT4.ex e5) (hE4.ex e5) hy
    · rintro j x H3 e3 hj ⟨hj', rfl⟩ Q2 q2
      refine q2 _ H3 (Ex.refl _) rfl (fun _ _ _ z => z _ (Ex.refl _)) fun _ => ?_
      rw [List.getElem?_eq_getElem hj]
      exact ev_is (ev_op (ev_var rfl) ev_c rv_I0) (congrArg V.bl (dec_le rfl))
end Lp
set_option Elab.async false
set_option linter.all false
set_option maxRecDepth 100000
set_option maxHeartbeats 4000000
namespace Lp
open PySem PySem.Spec PyProof.Rows L2 Evl
variable {P : Program} {w : World} {K : PySem.W.Frag} {mg : Str → Option Value} {base : Heap}
section
variable {H H' : Hp} {e p aL aC h aK aU ag ar dx : Addr} {g : Ed}
theorem pe_pic {q : Addr} {on : Bool} : putF ("picture" : Str) (.ref q) (eF p h ag ar on) = eF q h ag ar on := putF_here
theorem pe_aside {q : Addr} {on : Bool} : putF ("aside" : Str) (.ref q) (eF p h ag ar on) = eF p h q ar on := by
  unfold eF
  rw [pn (by decide +kernel), pn (by decide +kernel), putF_here]
theorem pe_rec {q : Addr} {on : Bool} : putF ("recorded" : Str) (.ref q) (eF p h ag ar on) = eF p h ag q on := by
  unfold eF
  rw [pn (by decide +kernel), pn (by decide +kernel), pn (by decide +kernel), putF_here]
theorem pe_is {b on : Bool} : putF ("is_recording" : Str) (.bl b) (eF p h ag ar on) = eF p h ag ar b := by
  unfold eF
  rw [pn (by decide +kernel), pn (by decide +kernel), pn (by decide +kernel), pn (by decide +kernel), putF_here]
/-- the editor's own object written -/
theorem EdA.own (s : EdA K H e g p aL aC h aK aU ag ar) {o : HO} : Kp H (L2.upd H e o) ∧ (∀ u, H h = some u → L2.upd H e o h = some u) := by
  obtain ⟨dy, h1⟩ := s.obj
  exact ⟨(Kx.upd (Kx.refl H)).kp h1 im_e, fun u hu => by rw [upd_ne s.apart]; exact hu⟩
theorem EdA.setA {q : Addr} {al : List (Nat × Nat × (Nat × Nat))} (s : EdA K H e g p aL aC h aK aU ag ar) (ha : AsideAt K H q al) : EdA K (L2.upd H e (.ins (CE K) dx (putF "aside" (.ref q) (eF p h ag ar g.on)))) e { g with aside := al } p aL aC h aK aU q ar :=
  ⟨⟨dx, by rw [upd_same, pe_aside]⟩, s.pic.kp s.own.1, s.his.kp s.own.1 s.own.2, ha.kp s.own.1, s.rcd.kp s.own.1⟩
theorem EdA.setP {q bL bC : Addr} {t : Sq50.State} (s : EdA K H e g p aL aC h aK aU ag ar) (ha : PicA K H q t bL bC) : EdA K (L2.upd H e (.ins (CE K) dx (putF "picture" (.ref q) (eF p h ag ar g.on)))) e { g with now := t } q bL bC h aK aU ag ar :=
  ⟨⟨dx, by rw [upd_same, pe_pic]⟩, ha.kp s.own.1, s.his.kp s.own.1 s.own.2, s.asd.kp s.own.1, s.rcd.kp s.own.1⟩
theorem EdA.setR {q : Addr} {l : List (Nat × List Nat)} (s : EdA K H e g p aL aC h aK aU ag ar) (ha : RecAt K H q l) : EdA K (L2.upd H e (.ins (CE K) dx (putF "recorded" (.ref q) (eF p h ag ar g.on)))) e { g with acts := l } p aL aC h aK aU ag q :=
  ⟨⟨dx, by rw [upd_same, pe_rec]⟩, s.pic.kp s.own.1, s.his.kp s.own.1 s.own.2, s.asd.kp s.own.1, ha.kp s.own.1⟩
theorem EdA.setO {b : Bool} (s : EdA K H e g p aL aC h aK aU ag ar) : EdA K (L2.upd H e (.ins (CE K) dx (putF "is_recording" (.bl b) (eF p h ag ar g.on)))) e { g with on := b } p aL aC h aK aU ag ar :=
  ⟨⟨dx, by rw [upd_same, pe_is]⟩, s.pic.kp s.own.1, s.his.kp s.own.1 s.own.2, s.asd.kp s.own.1, s.rcd.kp s.own.1⟩
/-- its history changed -/
theorem EdA.setH {past future : Sq50.Past} {aK' aU' : Addr} (s : EdA K H e g p aL aC h aK aU ag ar) (x : Kx h H H') (hh : HistA K H' h g.budget past future aK' aU') : EdA K H' e { g with past := past, future := future } p aL aC h aK' aU' ag ar := by
  obtain ⟨dy, hy⟩ := s.his.obj
  have kp := x.kp hy im_h
  obtain ⟨dz, hz⟩ := s.obj
  exact ⟨⟨dz, x _ _ hz (Ne.symm s.apart)⟩, s.pic.kp kp, hh, s.asd.kp kp, s.rcd.kp kp⟩
theorem EdA.kpH (s : EdA K H e g p aL aC h aK aU ag ar) (x : Kx h H H') : Kp H H' := by
  obtain ⟨dy, hy⟩ := s.his.obj
  exact x.kp hy im_h
theorem EdA.tkH (s : EdA K H e g p aL aC h aK aU ag ar) (x : Kx h H H') (t : Tk K H) : Tk K H' := by
  obtain ⟨dy, hy⟩ := s.his.obj
  exact t.ins x hy
theorem EdA.tkE (s : EdA K H e g p aL aC h aK aU ag ar) {o : HO} (t : Tk K H) : Tk K (L2.upd H e o) := by
  obtain ⟨dy, hy⟩ := s.obj
  exact t.ins (Kx.upd (Kx.refl H)) hy
theorem EdA.at (s : EdA K H e g p aL aC h aK aU ag ar) : EdAt K H e g := ⟨p, aL, aC, h, aK, aU, ag, ar, s⟩
end
section
variable {σ : L2.St} {H : Hp} {te to tv : TE} {tA : TA} {D : Ends} {tz : TS} {a C dx : Addr} {fs : List (Str × V)} {f : Str}
theorem s_fldP {R : V → Hp → Prop} (hv : EvP tv σ H R) (ho : Ev to σ H (.ref a)) (hi : H a = some (.ins C dx fs)) (c : Cls K C) (n : NoAttr K C f) (hl : fs.length < 1000) (m : Mono R) (k : ∀ x H1, Ex H H1 → R x H1 → D.nx σ (upd H1 a (.ins C dx (putF f x fs)))) : sFld K to tv f D σ H :=
  hv H (Ex.refl _) _ fun x H1 e1 r => ho H1 e1 _ fun H2 e2 => ⟨a, C, dx, fs, rfl, (e1.trans e2) _ _ hi, c, n, hl, k x H2 (e1.trans e2) (m _ _ _ e2 r)⟩
theorem q_fldP {R : V → Hp → Prop} (hv : EvP tv σ H R) (ho : Ev to σ H (.ref a)) (hi : H a = some (.ins C dx fs)) (c : Cls K C) (n : NoAttr K C f) (hl : fs.length < 1000) (m : Mono R) (k : ∀ x H1, Ex H H1 → R x H1 → tz D σ (upd H1 a (.ins C dx (putF f x fs)))) : tSeq (sFld K to tv f) tz D σ H :=
  s_fldP (D := { D with nx := tz D }) hv ho hi c n hl m k
/-- a call as a statement, as an assignment -/
theorem q_asgC {sp : Sp} {vs : List V} {E : XK} {i : Nat} (h : EvA tA σ H vs) (k : ∀ H1, Ex H H1 → sp vs H1 (fun v H' => tz D (σ.set i (some v)) H') E) : tSeq (tAsg (tCall sp [] E tA) (gName i)) tz D σ H := h H (Ex.refl _) _ fun H1 e => by
  show sp (vs ++ []) H1 _ E
  rw [List.append_nil]
  exact k H1 e
end
def AnsI (K : PySem.W.Frag) (e : Addr) (g : Ed) (r : Except Int (Ed × Nat)) (H : Hp) (Q : VK) (E : XK) : Prop := match r with
  | .ok x => ∀ H', Kp H H' → Tk K H' → EdAt K H' e x.1 → Q (.int (x.2 : Int)) H'
  | .error z => RaisesE K e g z H E
def pDo (g : Ed) (deed : Nat) (l : List Nat) : Except Int (Ed × Nat) := match pMade g.now g.aside deed l with
  | .error z => .error z
  | .ok t => .ok ({ g with now := t, past := Sq50.room g.budget ((g.now, pCost g.now t) :: g.past), future := [], aside := behindL g.now g.aside deed }, pCost g.now t)
def sp_edo (K : PySem.W.Frag) : Sp := P3 fun a b c H Q E => ∃ (e : Addr) (g : Ed) (deed : Nat) (aN : Addr) (l : List Nat), a = .ref e ∧ EdAt K H e g ∧ WF g.now ∧ b = .int (deed : Int) ∧ c = .ref aN ∧ H aN = some (.lst (nums l)) ∧ szD[deed]? = some l.length ∧ (∀ x ∈ l, x < 2 ^ 64) ∧ g.past.length ≤ 40000 ∧ (∀ t, pMade g.now g.aside deed l = .ok t → WF t) ∧ Tk K H ∧ AnsI K e g (pDo g deed l) H Q E
theorem ev_cost {σ : L2.St} {H : Hp} {ta tb : TE} {E : XK} {s t : Sq50.State} {p aL aC q bL bC : Addr} (h1 : Ev ta σ H (.ref p)) (h2 : Ev tb σ H (.ref q)) (hP : PicA K H p s aL aC) (hR : PicA K H q t bL bC) (W : WF s) (Y : WF t) : Ev (tCall (sp_cost K) [] E (tCons ta (tCons tb tNil))) σ H (.int ((pCost s t : Nat) : Int)) :=
  (evp_callA (ea_cons h1 (ea_cons h2 ea_nil)) fun H1 e Q E qq => ⟨_, _, rfl, s, t, p, aL, aC, q, bL, bC, rfl, rfl, hP.ex e, hR.ex e, W, Y, fun v H2 e2 r => qq v H2 e2 r⟩ : EvP _ _ _ _).to
theorem ok_Editor_do (T : Tx K mg) (B : TBs K mg base) : Ok P w K mg base (L2.CX P w) 12 (He.ma K (He.ga K "Editor") "do") ["self", "deed", "more"] (sp_edo K) := by
  refine mkX T.f_Editor_do sc_Editor_do bd_Editor_do P3.len (fun cdv A outer s H vs Q E hr h => ⟨_, (pss_cons (ps_set (i := 3) sc_Editor_do.nd rfl (Or.inl rfl) (kfld (K := K) (pv 0) rfl))
    (pss_cons (ps_set (i := 4) sc_Editor_do.nd rfl (Or.inl rfl) (oc (ok_made T B) hr (by decide) T.g_made passR (pa_cons (pv 3) (pa_cons (kfld (K := K) (pv 0) rfl) (pa_cons (pv 1) (pa_cons (pv 2) pa_nil))))))
    (pss_cons (kps_fld (K := K) (pv 0) (oc (ok_aside_behind T) hr (by decide) T.g_aside_behind ((pass0 : Passes CX0 _ E0)) (pa_cons (pv 3) (pa_cons (kfld (K := K) (pv 0) rfl) (pa_cons (pv 1) pa_nil)))) rfl)
    (pss_cons (kps_fld (K := K) (pv 0) (pv 4) rfl)
    (pss_cons (ps_set (i := 5) sc_Editor_do.nd rfl (Or.inl rfl) (oc (ok_cost T) hr (by decide) T.g_cost ((pass0 : Passes CX0 _ E0)) (pa_cons (pv 3) (pa_cons (pv 4) pa_nil))))
    (pss_cons (ps_expr (om (ok_History_do T) T.c_History T.m_History_do hr (by decide) ((pass0 : Passes CX0 _ E0)) (kfld (K := K) (pv 0) rfl) (pa_cons (pv 3) (pa_cons (pv 5) pa_nil))))
    (pss_one (ps_ret (pv 5))))))))), ?_⟩)
  obtain ⟨_, _, _, rfl, e, g, deed, aN, l, rfl, hE, W, rfl, rfl, hN, hz, hb, hpl, hwf, hT, hA⟩ := h
  obtain ⟨p, aL, aC, h, aK, aU, ag, ar, hE⟩ := hE
  refine q_asg (ev_epic T (ev_var rfl) hE) fun H1 e1 => ?_
  replace hN := e1 _ _ hN
  have hE0 := hE
  replace hE := hE.ex e1
  replace hT := hT.ex e1
  refine q_asgC (ea_cons (ev_var rfl) (ea_cons (ev_easide T (ev_var rfl) hE) (ea_cons (ev_var rfl) (ea_cons (ev_var rfl) ea_nil)))) fun H2 e2 => ⟨_, _, _, _, rfl, g.now, p, aL, aC, ag, g.aside, deed, aN, l, rfl, hE.pic.ex e2, W, rfl, hE.asd.ex e2, rfl, rfl, e2 _ _ hN, hz, hb, hT.ex e2, ?_⟩
  unfold pDo at hA
  cases hm : pMade g.now g.aside deed l with
  | error z =>
    rw [hm] at hA
    exact RaisesE.k (RaisesE.to (z := z) hA (.of (e1.trans e2))) (hE.ex e2).at
  | ok t =>
    rw [hm] at hA
    have Y := hwf t hm
    intro q H3 nq k3 t3 ⟨bL, bC, hR⟩
    have hE3 := (hE.ex e2).kt k3
    obtain ⟨dx, ho3⟩ := hE3.obj
    have kp3 : Kp H H3 := (Kp.of (e1.trans e2)).trans (.ofN k3)
    -- what is kept aside
    refine q_fldP (R := fun v H' => ∃ g', v = .ref g' ∧ AsideAt K H' g' (behindL g.now g.aside deed)) (evp_callA (ea_cons (ev_var rfl) (ea_cons (ev_easide T (ev_var rfl) hE3) (ea_cons (ev_var rfl) ea_nil))) fun H4 e4 Q E qq => ⟨_, _, _, rfl, g.now, p, aL, aC, ag, g.aside, deed, rfl, hE3.pic.ex e4, W, rfl, hE3.asd.ex e4, rfl, fun v H5 e5 r => qq v H5 e5 r⟩) (ev_var rfl) ho3 T.c_Editor T.n_Editor_aside (by show 5 < 1000; decide) (fun _ _ _ e ⟨g', q, r⟩ => ⟨g', q, r.ex e⟩) fun v4 H4 e4 ⟨ag', ev, hG⟩ => ?_
    subst ev
    have hE4 := (hE3.ex e4).setA (dx := dx) hG
    have t4 := (hE3.ex e4).tkE (t3.ex e4) (o := .ins (CE K) dx (putF "aside" (.ref ag') (eF p h ag ar g.on)))
    have hR4 := (hR.ex e4).kp ((hE3.ex e4).own (o := .ins (CE K) dx (putF "aside" (.ref ag') (eF p h ag ar g.on)))).1
    have hP4 := (hE3.pic.ex e4).kp ((hE3.ex e4).own (o := .ins (CE K) dx (putF "aside" (.ref ag') (eF p h ag ar g.on)))).1
    have kp4 := kp3.trans ((Kp.of e4).trans ((hE3.ex e4).own (o := .ins (CE K) dx (putF "aside" (.ref ag') (eF p h ag ar g.on)))).1)
    rw [pe_aside] at hE4 t4 hR4 hP4 kp4 ⊢
    -- the picture
    refine q_fld (ev_var rfl) (ev_var rfl) upd_same T.c_Editor T.n_Editor_picture (by show 5 < 1000; decide) fun H5 e5 => ?_
    have hE5 := (hE4.ex e5).setP (dx := dx) (hR4.ex e5)
    have ow5 := ((hE4.ex e5).own (o := .ins (CE K) dx (putF "picture" (.ref q) (eF p h ag' ar g.on)))).1
    have t5 := (hE4.ex e5).tkE (t4.ex e5) (o := .ins (CE K) dx (putF "picture" (.ref q) (eF p h ag' ar g.on)))
    have hP5 := (hP4.ex e5).kp ow5
    have hR5 := (hR4.ex e5).kp ow5
    have kp5 := kp4.trans ((Kp.of e5).trans ow5)
    -- the price
    refine q_asg (ev_cost (ev_var rfl) (ev_var rfl) hP5 hR5 W Y) fun H6 e6 => ?_
    have hE6 := hE5.ex e6
    refine Lp.hm (ev_epast T (ev_var rfl) hE6) hE6.his (ea_cons (ev_var rfl) (ea_cons (ev_var rfl) ea_nil)) fun H7 e7 => ⟨_, _, _, rfl, h, g.budget, g.past, g.future, aK, aU, g.now, p, aL, aC, pCost g.now t, rfl, hE6.his.ex e7, rfl, (hP5.ex e6).ex e7, rfl, by omega, fun H8 kx ⟨aK', aU', hH⟩ => ?_⟩
    have hE8 := (hE6.ex e7).setH kx hH
    refine s_ret (ev_var rfl) fun H9 e9 => hA H9 ((kp5.trans (.of (e6.trans e7))).trans (((hE6.ex e7).kpH kx).trans (.of e9))) (((hE6.ex e7).tkH kx ((t5.ex e6).ex e7)).ex e9) (hE8.ex e9).at
end Lp
set_option Elab.async false
set_option linter.all false
set_option maxRecDepth 100000
set_option maxHeartbeats 4000000
namespace Lp
open PySem PySem.Spec PyProof.Rows L2 Evl
variable {P : Program} {w : World} {K : PySem.W.Frag} {mg : Str → Option Value} {base : Heap}
section
variable {σ : L2.St} {H : Hp} {tl : TE} {a : Addr}
/-- list + [tuple] -/
theorem back {tt : TE} {xs vs : List V} (h3 : Ev tl σ H (.ref a)) (h1 : EvU tt σ H xs) (hv : H a = some (.lst vs)) (hz : vs.length ≤ 90000) : EvN (tOp rCat tl (tLst (tCons tt tNil))) σ H (fun p H' => ∃ r, H' r = some (.tup xs) ∧ H' p = some (.lst (vs ++ [.ref r]))) := fun H1 e Q q =>
  h3 H1 e _ fun H2 e2 => h1 H2 (e.trans e2) _ fun r H3 n3 e3 hr => ⟨sz_of (by show 1 ≤ 100000; decide), fun l hl => ⟨a, l, vs, [.ref r], rfl, rfl, (Ex.new hl) _ _ (((e.trans e2).trans e3) _ _ hv), upd_same, sz_of (by show vs.length + 1 ≤ 100000; omega), fun p hp => by
    have e13 := (e2.trans e3).trans (Ex.new hl (o := .lst [.ref r]))
    exact q p _ (fresh_back e13 hp) (e13.trans (Ex.new hp)) ⟨r, (Ex.new hp) _ _ ((Ex.new hl) _ _ hr), upd_same⟩⟩⟩
end
theorem q_dropC {σ : L2.St} {H : Hp} {tA : TA} {D : Ends} {tz : TS} {sp : Sp} {vs : List V} {E : XK} (h : EvA tA σ H vs) (k : ∀ H1, Ex H H1 → sp vs H1 (fun _ H' => tz D σ H') E) : tSeq (tDrop (tCall sp [] E tA)) tz D σ H := h H (Ex.refl _) _ fun H1 e => by
  show sp (vs ++ []) H1 _ E
  rw [List.append_nil]
  exact k H1 e
theorem ev_keptlen (T : Tx K mg) {σ : L2.St} {H : Hp} {te : TE} {e p aL aC h aK aU ag ar : Addr} {g : Ed} (ho : Ev te σ H (.ref e)) (s : EdA K H e g p aL aC h aK aU ag ar) : Ev (tCB (rLenS K) (tCons (tFld K (tFld K te "past") "kept") tNil)) σ H (.int ((g.past.length : Nat) : Int)) := by
  obtain ⟨vs, hv, hp⟩ := s.his.kept
  rw [← pair_len hp]
  exact ev_len (ev_kept T (ev_epast T ho s) s.his) (sq_of hv)
theorem ev_undlen (T : Tx K mg) {σ : L2.St} {H : Hp} {te : TE} {e p aL aC h aK aU ag ar : Addr} {g : Ed} (ho : Ev te σ H (.ref e)) (s : EdA K H e g p aL aC h aK aU ag ar) : Ev (tCB (rLenS K) (tCons (tFld K (tFld K te "past") "undone") tNil)) σ H (.int ((g.future.length : Nat) : Int)) := by
  obtain ⟨vs, hv, hp⟩ := s.his.und
  rw [← pair_len hp]
  exact ev_len (ev_undone T (ev_epast T ho s) s.his) (sq_of hv)
theorem ev_reclen (T : Tx K mg) {σ : L2.St} {H : Hp} {te : TE} {e p aL aC h aK aU ag ar : Addr} {g : Ed} (ho : Ev te σ H (.ref e)) (s : EdA K H e g p aL aC h aK aU ag ar) : Ev (tCB (rLenS K) (tCons (tFld K te "recorded") tNil)) σ H (.int ((g.acts.length : Nat) : Int)) := by
  obtain ⟨vs, hv, hp⟩ := s.rcd
  rw [← pair_len hp]
  exact ev_len (ev_erec T ho s) (sq_of hv)
theorem dec_lt2 {a b : Nat} {i : Int} (h : i = (b : Int)) : decide ((a : Int) < i) = decide (a < b) := decide_eq_decide.mpr (by omega)
def pAct (g : Ed) (deed : Nat) (l : List Nat) : Except Int (Ed × List Int) :=
  if szD[deed]? = some l.length then
    if (!g.on || decide (g.acts.length < 40)) = true then match pDo g deed l with
      | .error z => .error z
      | .ok x => .ok (if g.on = true then { x.1 with acts := g.acts ++ [(deed, l)] } else x.1, [(x.2 : Int), (x.1.past.length : Int)])
    else .error (-5)
  else .error (-3)
def sp_act (K : PySem.W.Frag) : Sp := P3 fun a b c H Q E => ∃ (e : Addr) (g : Ed) (deed : Nat) (aN : Addr) (l : List Nat), a = .ref e ∧ EdAt K H e g ∧ WF g.now ∧ b = .int (deed : Int) ∧ c = .ref aN ∧ H aN = some (.lst (nums l)) ∧ (∀ x ∈ l, x < 2 ^ 64) ∧ g.past.length ≤ 40000 ∧ g.acts.length ≤ 40 ∧ (∀ t, szD[deed]? = some l.length → pMade g.now g.aside deed l = .ok t → WF t) ∧ Tk K H ∧ Ans K e g (pAct g deed l) H Q E
theorem pDo_keeps {g : Ed} {deed : Nat} {l : List Nat} {x : Ed × Nat} (h : pDo g deed l = .ok x) : x.1.on = g.on ∧ x.1.acts = g.acts := by
  unfold pDo at h
  cases hm : pMade g.now g.aside deed l with
  | error z =>
    rw [hm] at h
    cases h
  | ok t =>
    rw [hm] at h
    cases h
    exact ⟨rfl, rfl⟩
theorem ok_Editor_act (T : Tx K mg) (B : TBs K mg base) : Ok P w K mg base (L2.CX P w) 13 (He.ma K (He.ga K "Editor") "act") ["self", "deed", "more"] (sp_act K) := by
  refine mkX T.f_Editor_act sc_Editor_act bd_Editor_act P3.len (fun cdv A outer s H vs Q E hr h => ⟨_, (pss_cons (ps_expr (oc (ok_want_deed T) hr (by decide) T.g_want_deed passR (pa_cons (pv 1) (pa_cons (pv 2) pa_nil))))
    (pss_cons (ps_expr (oc (ok_want T) hr (by decide) T.g_want passR (pa_cons (pe_or (pe_not (kfld (K := K) (pv 0) rfl)) (pe_one (pe_cmpR op_lt (pe_callB (k_len (K := K)) (by rfl) T.b_len (by decide +kernel) (pa_cons (kfld (K := K) (pv 0) rfl) pa_nil)) (pgi T.i_MOST_RECORDED) (nomark _)))) (pa_cons (pgi T.i_TOO_MANY) pa_nil))))
    (pss_cons (ps_set (i := 3) sc_Editor_act.nd rfl (Or.inl rfl) (om (ok_Editor_do T B) T.c_Editor T.m_Editor_do hr (by decide) passR (pv 0) (pa_cons (pv 1) (pa_cons (pv 2) pa_nil))))
    (pss_cons (ps_if (pt_val (kfld (K := K) (pv 0) rfl)) (pss_one (kps_fld (K := K) (pv 0) (pe_op op_cat (kfld (K := K) (pv 0) rfl) (pe_lst (pa_cons (pe_tup (pa_cons (pv 1) (pa_cons (pv 2) pa_nil))) pa_nil))) rfl)) pss_nil)
    (pss_one (ps_ret (pe_lst (pa_cons (pv 3) (pa_cons (pe_callB (k_len (K := K)) (by rfl) T.b_len (by decide +kernel) (pa_cons (kfld (K := K) (kfld (K := K) (pv 0) rfl) rfl) pa_nil)) pa_nil))))))))), ?_⟩)
  obtain ⟨_, _, _, rfl, e, g, deed, aN, l, rfl, hE, W, rfl, rfl, hN, hb, hpl, hal, hwf, hT, hA⟩ := h
  have hR : ∀ {z : Int} {H1 : Hp}, Ex H H1 → pAct g deed l = .error z → RaisesK K z H1 E := fun e1 hp => by
    rw [hp] at hA
    exact (RaisesE.k (RaisesE.to (z := _) hA (.of e1)) (hE.ex e1))
  refine q_dropC (ea_cons (ev_var rfl) (ea_cons (ev_var rfl) ea_nil)) fun H1 e1 => ⟨_, _, rfl, deed, aN, l, rfl, rfl, e1 _ _ hN, hT.ex e1, fun hsz H2 e2 => ?_, fun hsz => hR e1 (by unfold pAct; rw [if_neg hsz])⟩
  have e12 := e1.trans e2
  obtain ⟨p, aL, aC, h, aK, aU, ag, ar, hE2⟩ := hE.ex e12
  refine q_want (g := !g.on || decide (g.acts.length < 40)) (ev_orV (ev_notV (ev_eis T (ev_var rfl) hE2)) fun _ => ev_is (ev_op (ev_reclen T (ev_var rfl) hE2) ev_c rv_I0) (congrArg V.bl (dec_lt2 rfl))) ev_c (hT.ex e12) (fun hg H3 e3 => ?_) fun hg => hR e12 (by unfold pAct; rw [if_pos hsz, if_neg (by rw [hg]; simp)])
  have e13 := e12.trans e3
  have hE3 := hE2.ex e3
  obtain ⟨dx, ho⟩ := hE3.obj
  refine em (ev_var rfl) ho (eF_no (by decide +kernel)) (.of (ea_cons (ev_var rfl) (ea_cons (ev_var rfl) ea_nil))) fun vs H4 e4 ev => ?_
  subst ev
  have hE4 := hE3.ex e4
  refine ⟨_, _, _, rfl, e, g, deed, aN, l, rfl, hE4.at, W, rfl, rfl, (e13.trans e4) _ _ hN, hsz, hb, hpl, fun t => hwf t hsz, hT.ex (e13.trans e4), ?_⟩
  have kp4 := Kp.of (e13.trans e4)
  unfold pAct at hA
  rw [if_pos hsz, if_pos hg] at hA
  cases hd : pDo g deed l with
  | error z =>
    rw [hd] at hA
    exact RaisesE.to (z := z) hA kp4
  | ok x =>
    rw [hd] at hA
    obtain ⟨k1, k2⟩ := pDo_keeps hd
    intro H5 kp5 t5 ⟨p, aL, aC, h, aK, aU, ag, ar, hE5⟩
    have hN5 := kp5.keep _ _ ((e13.trans e4) _ _ hN) trivial
    obtain ⟨dx5, ho5⟩ := hE5.obj
    have fin : ∀ (g' : Ed) H6, Kp H5 H6 → Tk K H6 → EdAt K H6 e g' → g'.past = x.1.past → (if g.on = true then { x.1 with acts := g.acts ++ [(deed, l)] } else x.1) = g' → tRet (tLst (tCons (tVar 3) (tCons (tCB (rLenS K) (tCons (tFld K (tFld K (tVar 0) "past") "kept") tNil)) tNil))) { nx := fun _ H' => Q .non H', rt := Q } [some (.ref e), some (.int (deed : Int)), some (.ref aN), some (.int (x.2 : Int))] H6 := fun g' H6 kp6 t6 hE6 hpast hg' => by
      obtain ⟨p, aL, aC, h, aK, aU, ag, ar, hE6⟩ := hE6
      refine s_retL (el_lst (ea_cons (ev_var rfl) (ea_cons (ev_keptlen T (ev_var rfl) hE6) ea_nil)) (by show 2 ≤ 100000; decide)) fun y H7 n7 e7 hy => ?_
      have hA2 : Tells K e (if g.on = true then { x.1 with acts := g.acts ++ [(deed, l)] } else x.1) [(x.2 : Int), (x.1.past.length : Int)] H Q := hA
      rw [hg'] at hA2
      refine hA2 y H7 ((kp4.trans (kp5.trans kp6)).fresh (.of n7)) ((kp4.trans (kp5.trans kp6)).trans (.of e7)) (t6.ex e7) (hE6.ex e7).at ?_
      rw [hy, hpast]
      rfl
    refine q_when (et_test (ev_is (ev_eis T (ev_var rfl) hE5) (congrArg V.bl k1))) (fun hon H6 e6 => ?_) (fun hon H6 e6 => ?_)
    · have hE6 := hE5.ex e6
      obtain ⟨vs, hv, hpv⟩ := hE6.rcd
      have hlen := pair_len hpv
      rw [k2] at hlen
      refine s_fldN (back (ev_erec T (ev_var rfl) hE6) (eu_tup (ea_cons (ev_var rfl) (ea_cons (ev_var rfl) ea_nil)) (by show 2 ≤ 100000; decide)) hv (by omega)) (ev_var rfl) (e6 _ _ ho5) T.c_Editor T.n_Editor_recorded (by show 5 < 1000; decide) (fun _ _ _ e ⟨r, a, b⟩ => ⟨r, e _ _ a, e _ _ b⟩) fun ar' H7 n7 e7 ⟨r, hr, hl⟩ => ?_
      have hE7 := hE6.ex e7
      have hrec : RecAt K H7 ar' (g.acts ++ [(deed, l)]) := ⟨_, hl, by
        rw [k2] at hpv
        exact pair_app (L2.Paired.mapP hpv fun _ _ ⟨r, m, q, z, y⟩ => ⟨r, m, q, ex_t e7 z, e7 _ _ y⟩) (.cons ⟨r, aN, rfl, st_of hr, e7 _ _ (e6 _ _ hN5)⟩ .nil)⟩
      exact fin { x.1 with acts := g.acts ++ [(deed, l)] } _ ((Kp.of (e6.trans e7)).trans hE7.own.1) (hE7.tkE ((t5.ex e6).ex e7)) (hE7.setR (dx := dx5) hrec).at rfl (if_pos hon)
    · exact fin x.1 H6 (.of e6) (t5.ex e6) (hE5.ex e6).at rfl (if_neg (by rw [hon]; simp))
def sp_told (K : PySem.W.Frag) : Sp := P1 fun a H Q _ => ∃ (e : Addr) (g : Ed), a = .ref e ∧ EdAt K H e g ∧ GivesN (fun y H' => H' y = some (.lst ([(g.past.length : Int), (g.future.length : Int)].map V.int))) H Q
theorem ok_Editor_told_history (T : Tx K mg) : Ok P w K mg base CX0 (0 + 1) (He.ma K (He.ga K "Editor") "told_history") ["self"] (sp_told K) := by
  refine mk0 T.f_Editor_told_history sc_Editor_told_history bd_Editor_told_history P1.len (fun cdv A outer s H vs Q E hr h => ⟨_, (pss_one (ps_ret (pe_lst (pa_cons (pe_callB (k_len (K := K)) (by rfl) T.b_len (by decide +kernel) (pa_cons (kfld (K := K) (kfld (K := K) (pv 0) rfl) rfl) pa_nil)) (pa_cons (pe_callB (k_len (K := K)) (by rfl) T.b_len (by decide +kernel) (pa_cons (kfld (K := K) (kfld (K := K) (pv 0) rfl) rfl) pa_nil)) pa_nil))))), ?_⟩)
  obtain ⟨_, rfl, e, g, rfl, ⟨p, aL, aC, h, aK, aU, ag, ar, hE⟩, k⟩ := h
  exact s_retL (el_lst (ea_cons (ev_keptlen T (ev_var rfl) hE) (ea_cons (ev_undlen T (ev_var rfl) hE) ea_nil)) (by show 2 ≤ 100000; decide)) fun y H1 n e hy => k y H1 n e hy
def pUndo (g : Ed) : Except Int (Ed × List Int) := match g.past with
  | [] => .error (-6)
  | x :: r => .ok ({ g with now := x.1, past := r, future := (g.now, x.2) :: g.future }, [(r.length : Int), ((g.future.length + 1 : Nat) : Int)])
def pRedo (g : Ed) : Except Int (Ed × List Int) := match g.future with
  | [] => .error (-6)
  | x :: r => .ok ({ g with now := x.1, past := Sq50.room g.budget ((g.now, x.2) :: g.past), future := r }, [((Sq50.room g.budget ((g.now, x.2) :: g.past)).length : Int), (r.length : Int)])
def sp_eundo (K : PySem.W.Frag) (f : Ed → Except Int (Ed × List Int)) : Sp := P1 fun a H Q E => ∃ (e : Addr) (g : Ed), a = .ref e ∧ EdAt K H e g ∧ g.past.length ≤ 40000 ∧ g.future.length ≤ 40000 ∧ Tk K H ∧ Ans K e g (f g) H Q E
/-- behind undo and redo: told_history -/
theorem s_told {σ : L2.St} {H : Hp} {te : TE} {E0' : XK} {D : Ends} {e : Addr} {g : Ed} {Q : VK} (ho : Ev te σ H (.ref e)) (hE : EdAt K H e g) (hT : Tk K H) (hA : Tells K e g [(g.past.length : Int), (g.future.length : Int)] H Q) (hrt : D.rt = Q) : tRet (tMeth (CE K) "told_history" (sp_told K) [] E0' te tNil) D σ H := by
  obtain ⟨p, aL, aC, h, aK, aU, ag, ar, hE⟩ := hE
  obtain ⟨dx, ho1⟩ := hE.obj
  refine em ho ho1 (eF_no (by decide +kernel)) (.of ea_nil) fun vs H1 e1 ev => ?_
  subst ev
  refine ⟨_, rfl, e, g, rfl, (hE.ex e1).at, fun y H2 n2 e2 hy => ?_⟩
  rw [hrt]
  exact hA y H2 (.of (fresh_back e1 n2)) (.of (e1.trans e2)) (hT.ex (e1.trans e2)) (hE.ex (e1.trans e2)).at hy
theorem ok_Editor_undo (T : Tx K mg) : Ok P w K mg base (L2.CX P w) (4 + 1) (He.ma K (He.ga K "Editor") "undo") ["self"] (sp_eundo K pUndo) := by
  refine mkX T.f_Editor_undo sc_Editor_undo bd_Editor_undo P1.len (fun cdv A outer s H vs Q E hr h => ⟨_, (pss_cons (ps_expr (oc (ok_want T) hr (by decide) T.g_want passR (pa_cons (pe_cmpR (k_neNil (K := K) (by exact hr.units)) (kfld (K := K) (kfld (K := K) (pv 0) rfl) rfl) (pe_lst pa_nil) (nomark _)) (pa_cons (pgi T.i_CAN_NOT) pa_nil))))
    (pss_cons (kps_fld (K := K) (pv 0) (om (ok_History_undo T) T.c_History T.m_History_undo hr (by decide) ((pass0 : Passes CX0 _ E0)) (kfld (K := K) (pv 0) rfl) (pa_cons (kfld (K := K) (pv 0) rfl) pa_nil)) rfl)
    (pss_one (ps_ret (om0 (ok_Editor_told_history T) T.c_Editor T.m_Editor_told_history hr (by decide) ((pass0 : Passes CX0 _ E0)) (pv 0)))))), ?_⟩)
  obtain ⟨_, rfl, e, g, rfl, hE, hz1, hz2, hT, hA⟩ := h
  have hE0 := hE
  obtain ⟨p, aL, aC, h, aK, aU, ag, ar, hE⟩ := hE
  obtain ⟨vs, hv, hpv⟩ := hE.his.kept
  have hlen := pair_len hpv
  refine q_want (g := !vs.isEmpty) (ev_neNil (ev_kept T (ev_epast T (ev_var rfl) hE) hE.his) (sq_of hv)) ev_c hT (fun hg H1 e1 => ?_) fun hg => ?_
  · cases hp : g.past with
    | nil =>
      rw [hp] at hlen
      cases vs with
      | nil => cases hg
      | cons v vs => cases hlen
    | cons x r =>
      have hok : pUndo g = .ok ({ g with now := x.1, past := r, future := (g.now, x.2) :: g.future }, [(r.length : Int), ((g.future.length + 1 : Nat) : Int)]) := by unfold pUndo; rw [hp]
      rw [hok] at hA
      have hE1 := hE.ex e1
      rw [hp] at hz1
      refine Lp.hm (ev_epast T (ev_var rfl) hE1) hE1.his (ea_cons (ev_epic T (ev_var rfl) hE1) ea_nil) fun H2 e2 => ⟨_, _, rfl, h, g.budget, x, r, g.future, aK, aU, g.now, p, aL, aC, rfl, by rw [← hp]; exact hE1.his.ex e2, rfl, hE1.pic.ex e2, by simp at hz1; omega, by omega, fun p' H3 kx ⟨aK', aU', hH⟩ ⟨bL, bC, hR⟩ => ?_⟩
      have hE3 := (hE1.ex e2).setH kx hH
      have kp3 := (Kp.of (e1.trans e2)).trans ((hE1.ex e2).kpH kx)
      have t3 := (hE1.ex e2).tkH kx (hT.ex (e1.trans e2))
      obtain ⟨dx, ho3⟩ := hE3.obj
      refine ev_var (v := .ref e) rfl H3 (Ex.refl _) _ fun H4 e4 => ⟨e, CE K, dx, _, rfl, e4 _ _ ho3, T.c_Editor, T.n_Editor_picture, (by show 5 < 1000; decide), ?_⟩
      have hE4 := (hE3.ex e4).setP (dx := dx) (hR.ex e4)
      have kp4 := kp3.trans ((Kp.of e4).trans ((hE3.ex e4).own (o := .ins (CE K) dx (putF "picture" (.ref p') (eF p h ag ar g.on)))).1)
      exact s_told (ev_var rfl) hE4.at ((hE3.ex e4).tkE (t3.ex e4)) (Tells.to hA kp4) rfl
  · have hp : g.past = [] := by
      cases vs with
      | nil => exact List.length_eq_zero_iff.mp hlen.symm
      | cons v vs => cases hg
    have he : pUndo g = .error (-6) := by unfold pUndo; rw [hp]
    rw [he] at hA
    exact RaisesE.k hA hE0
theorem ok_Editor_redo (T : Tx K mg) : Ok P w K mg base (L2.CX P w) (4 + 1) (He.ma K (He.ga K "Editor") "redo") ["self"] (sp_eundo K pRedo) := by
  refine mkX T.f_Editor_redo sc_Editor_redo bd_Editor_redo P1.len (fun cdv A outer s H vs Q E hr h => ⟨_, (pss_cons (ps_expr (oc (ok_want T) hr (by decide) T.g_want passR (pa_cons (pe_cmpR (k_neNil (K := K) (by exact hr.units)) (kfld (K := K) (kfld (K := K) (pv 0) rfl) rfl) (pe_lst pa_nil) (nomark _)) (pa_cons (pgi T.i_CAN_NOT) pa_nil))))
    (pss_cons (kps_fld (K := K) (pv 0) (om (ok_History_redo T) T.c_History T.m_History_redo hr (by decide) ((pass0 : Passes CX0 _ E0)) (kfld (K := K) (pv 0) rfl) (pa_cons (kfld (K := K) (pv 0) rfl) pa_nil)) rfl)
    (pss_one (ps_ret (om0 (ok_Editor_told_history T) T.c_Editor T.m_Editor_told_history hr (by decide) ((pass0 : Passes CX0 _ E0)) (pv 0)))))), ?_⟩)
  obtain ⟨_, rfl, e, g, rfl, hE, hz1, hz2, hT, hA⟩ := h
  have hE0 := hE
  obtain ⟨p, aL, aC, h, aK, aU, ag, ar, hE⟩ := hE
  obtain ⟨vs, hv, hpv⟩ := hE.his.und
  have hlen := pair_len hpv
  refine q_want (g := !vs.isEmpty) (ev_neNil (ev_undone T (ev_epast T (ev_var rfl) hE) hE.his) (sq_of hv)) ev_c hT (fun hg H1 e1 => ?_) fun hg => ?_
  · cases hp : g.future with
    | nil =>
      rw [hp] at hlen
      cases vs with
      | nil => cases hg
      | cons v vs => cases hlen
    | cons x r =>
      have hok : pRedo g = .ok ({ g with now := x.1, past := Sq50.room g.budget ((g.now, x.2) :: g.past), future := r }, [((Sq50.room g.budget ((g.now, x.2) :: g.past)).length : Int), (r.length : Int)]) := by unfold pRedo; rw [hp]
      rw [hok] at hA
      have hE1 := hE.ex e1
      rw [hp] at hz2
      refine Lp.hm (ev_epast T (ev_var rfl) hE1) hE1.his (ea_cons (ev_epic T (ev_var rfl) hE1) ea_nil) fun H2 e2 => ⟨_, _, rfl, h, g.budget, x, g.past, r, aK, aU, g.now, p, aL, aC, rfl, by rw [← hp]; exact hE1.his.ex e2, rfl, hE1.pic.ex e2, by omega, by simp at hz2; omega, fun p' H3 kx ⟨aK', aU', hH⟩ ⟨bL, bC, hR⟩ => ?_⟩
      have hE3 := (hE1.ex e2).setH kx hH
      have kp3 := (Kp.of (e1.trans e2)).trans ((hE1.ex e2).kpH kx)
      have t3 := (hE1.ex e2).tkH kx (hT.ex (e1.trans e2))
      obtain ⟨dx, ho3⟩ := hE3.obj
      refine ev_var (v := .ref e) rfl H3 (Ex.refl _) _ fun H4 e4 => ⟨e, CE K, dx, _, rfl, e4 _ _ ho3, T.c_Editor, T.n_Editor_picture, (by show 5 < 1000; decide), ?_⟩
      have hE4 := (hE3.ex e4).setP (dx := dx) (hR.ex e4)
      have kp4 := kp3.trans ((Kp.of e4).trans ((hE3.ex e4).own (o := .ins (CE K) dx (putF "picture" (.ref p') (eF p h ag ar g.on)))).1)
      exact s_told (ev_var rfl) hE4.at ((hE3.ex e4).tkE (t3.ex e4)) (Tells.to hA kp4) rfl
  · have hp : g.future = [] := by
      cases vs with
      | nil => exact List.length_eq_zero_iff.mp hlen.symm
      | cons v vs => cases hg
    have he : pRedo g = .error (-6) := by unfold pRedo; rw [hp]
    rw [he] at hA
    exact RaisesE.k hA hE0
end Lp
set_option Elab.async false
set_option linter.all false
set_option maxRecDepth 100000
set_option maxHeartbeats 4000000
namespace Lp
open PySem PySem.Spec PyProof.Rows L2 Evl
variable {P : Program} {w : World} {K : PySem.W.Frag} {mg : Str → Option Value} {base : Heap}
section
variable {σ : L2.St} {H : Hp} {ta tb te : TE} {l : Addr} {xs ys : List V} {D : Ends}
theorem s_extP (hl : H l = some (.lst xs)) (ha : Ev ta σ H (.ref l)) (h : EvP te σ H (fun v H' => ∃ r, v = .ref r ∧ SqT K H' r ys)) (hz : xs.length + ys.length ≤ 100000) (k : ∀ H1, Ex H H1 → D.nx σ (upd H1 l (.lst (xs ++ ys)))) : tDrop (tBM K "list" (rExt2 K) ta (tCons te tNil)) D σ H :=
  ha H (Ex.refl _) _ fun H1 e1 => ⟨.inl ⟨rfl, xs, sq_of (e1 _ _ hl)⟩, h H1 e1 _ fun v H2 e2 ⟨r, ev, hr⟩ => by
    subst ev
    exact ⟨l, r, xs, ys, rfl, rfl, e2 _ _ (e1 _ _ hl), .inr hr, sz_of hz, k H2 (e1.trans e2)⟩⟩
theorem el_cat2 (h1 : EvL ta σ H xs) (h2 : EvL tb σ H ys) (hz : xs.length + ys.length ≤ 100000) : EvL (tOp rCat ta tb) σ H (xs ++ ys) := fun H1 e Q q =>
  h1 H1 e _ fun a H2 n2 e2 r1 => h2 H2 (e.trans e2) _ fun b H3 n3 e3 r2 => ⟨a, b, xs, ys, rfl, rfl, e3 _ _ r1, r2, sz_of hz, fun p hp => q p _ (fresh_back (e2.trans e3) hp) ((e2.trans e3).trans (Ex.new hp)) upd_same⟩
end
def rowP (s : Sq50.State) (y : Nat) : List Nat := (List.range s.w).map fun x => y * s.w + x
theorem rowP_lt {s : Sq50.State} {y i : Nat} (hy : y < s.h) (h : i ∈ rowP s y) : i < s.w * s.h := by
  obtain ⟨x, hx, rfl⟩ := List.mem_map.mp h
  exact cell_lt (List.mem_range.mp hx) hy
theorem rowP_len (s : Sq50.State) (y : Nat) : (rowP s y).length = s.w := by unfold rowP; rw [List.length_map, List.length_range]
def sp_rp (K : PySem.W.Frag) : Sp := P2 fun a b H Q E => ∃ (e : Addr) (g : Ed) (y : Nat), a = .ref e ∧ EdAt K H e g ∧ WF g.now ∧ b = .int (y : Int) ∧ Tk K H ∧ (y < g.now.h → GivesN (fun r H' => H' r = some (.lst (nums (rowP g.now y)))) H Q) ∧ (¬ y < g.now.h → RaisesK K (-1) H E)
theorem ok_Editor_row_places (T : Tx K mg) : Ok P w K mg base (L2.CX P w) (3 + 1) (He.ma K (He.ga K "Editor") "row_places") ["self", "y"] (sp_rp K) := by
  refine mkX T.f_Editor_row_places sc_Editor_row_places bd_Editor_row_places P2.len (fun cdv A outer s H vs Q E hr h => ⟨_, (pss_cons (ps_expr (oc (ok_want T) hr (by decide) T.g_want passR (pa_cons (pe_cmpR op_lt (pv 1) (kfld (K := K) (kfld (K := K) (pv 0) rfl) rfl) (nomark _)) (pa_cons (pgi T.i_NOT_SO) pa_nil))))
    (pss_one (ps_ret (pe_lc (own := [("x", 2)]) rfl sc_Editor_row_places.nd (pi_range1 (by rfl) T.b_range (pa_cons (kfld (K := K) (kfld (K := K) (pv 0) rfl) rfl) pa_nil)) (blkOk_by (by kernel_rfl)) (fun _ _ _ _ _ => by exact (pg_name (i := 2) sc_Editor_row_places.nd rfl (Or.inl rfl))) (fun _ _ _ _ _ => by exact pts_nil) (fun _ _ _ _ _ => by exact (om (ok_Picture_place T) T.c_Picture T.m_Picture_place hr (by decide) ((pass0 : Passes CX0 _ E0)) (kfld (K := K) (pv 0) rfl) (pa_cons (pv 2) (pa_cons (pv 1) pa_nil)))))))), ?_⟩)
  obtain ⟨_, _, rfl, e, g, y, rfl, ⟨p, aL, aC, h, aK, aU, ag, ar, hE⟩, W, rfl, hT, k1, k2⟩ := h
  have w2 := W.w2
  refine q_want (g := decide (y < g.now.h)) (ev_is (ev_op (ev_var rfl) (ev_high T (ev_epic T (ev_var rfl) hE) hE.pic) rv_I0) (congrArg V.bl (decide_eq_decide.mpr (by omega)))) ev_c hT (fun hg H1 e1 => ?_) fun hg => k2 (of_decide_eq_false hg)
  have hE1 := hE.ex e1
  refine s_retN (evn_list (el_lc (n := g.now.w) (fun i x _ => x = .int (i : Int)) (fun _ => true) (fun i => .int ((y * g.now.w + i : Nat) : Int)) (by omega) (iw_range1 (ea_cons (ev_wide T (ev_epic T (ev_var rfl) hE1) hE1.pic) ea_nil) (by omega)) ?_)) fun r H2 n e2 hr => k1 (of_decide_eq_true hg) r H2 (fresh_back e1 n) (e1.trans e2) ?_
  · intro i x H2 e2 hi hx Q2 q2
    subst hx
    have hE2 := hE1.ex e2
    exact q2 _ H2 (Ex.refl _) rfl (fun _ _ _ z => z _ (Ex.refl _)) fun _ => ev_is (ev_place (ev_epic T (ev_var rfl) hE2) hE2.pic (by omega) (ev_var rfl) (ev_var rfl)) (by push_cast; rfl)
  · show H2 r = _
    rw [hr, given_all]
    exact congrArg (fun l => some (HO.lst l)) (by show _ = List.map _ (List.map _ _); rw [List.map_map]; rfl)
def pLook (g : Ed) (y : Nat) (f : Nat → List Int) : Except Int (Ed × List Int) := if y < g.now.h then .ok (g, (g.now.w : Int) :: (rowP g.now y).flatMap f) else .error (-1)
def sp_look (K : PySem.W.Frag) (f : Sq50.State → Nat → List Int) : Sp := P2 fun a b H Q E => ∃ (e : Addr) (g : Ed) (y : Nat), a = .ref e ∧ EdAt K H e g ∧ WF g.now ∧ b = .int (y : Int) ∧ Tk K H ∧ Ans K e g (pLook g y (f g.now)) H Q E
section
variable {σ : L2.St} {H : Hp} {te tb : TE} {D : Ends} {tz : TS} {E : XK} {Q : VK} {e : Addr} {g : Ed} {y i : Nat} {f : Nat → List Int}
/-- places = self.row_places(y) -/
theorem q_places (ho : Ev te σ H (.ref e)) (hE : EdAt K H e g) (W : WF g.now) (hy : Ev tb σ H (.int (y : Int))) (hT : Tk K H) (hA : Ans K e g (pLook g y f) H Q E) (k : y < g.now.h → ∀ r H1, H r = none → Ex H H1 → H1 r = some (.lst (nums (rowP g.now y))) → Tells K e g ((g.now.w : Int) :: (rowP g.now y).flatMap f) H1 Q → tz D (σ.set i (some (.ref r))) H1) :
    tSeq (tAsg (tMeth (CE K) "row_places" (sp_rp K) [] E te (tCons tb tNil)) (gName i)) tz D σ H := by
  have hE0 := hE
  obtain ⟨p, aL, aC, h, aK, aU, ag, ar, hE⟩ := hE
  obtain ⟨dx, ho1⟩ := hE.obj
  refine em ho ho1 (eF_no (by decide +kernel)) (.of (ea_cons hy ea_nil)) fun vs H1 e1 ev => ?_
  subst ev
  refine ⟨_, _, rfl, e, g, y, rfl, hE0.ex e1, W, rfl, hT.ex e1, fun hlt r H2 n2 e2 hr => k hlt r H2 (fresh_back e1 n2) (e1.trans e2) hr ?_, fun hn => ?_⟩
  · unfold pLook at hA
    rw [if_pos hlt] at hA
    exact Tells.to hA (.of (e1.trans e2))
  · unfold pLook at hA
    rw [if_neg hn] at hA
    exact (RaisesE.k hA hE0).ex e1
end
theorem flat_len {f : Nat → List Int} {n : Nat} (hf : ∀ i, (f i).length = n) : ∀ l : List Nat, (l.flatMap f).length = l.length * n
  | [] => by simp
  | i :: l => by rw [List.flatMap_cons, List.length_append, flat_len hf l, hf, List.length_cons, Nat.add_mul, Nat.one_mul, Nat.add_comm]
theorem flat_snoc {f : Nat → List Int} {l : List Nat} {i n : Nat} (h : l[i]? = some n) : (l.take (i + 1)).flatMap f = (l.take i).flatMap f ++ f n := by
  rw [take_snoc h, List.flatMap_append, List.flatMap_singleton]
def dotI (d : Nat × Nat) : List Int := [(d.1 : Int), (d.2 : Int)]
theorem ok_Editor_row (T : Tx K mg) : Ok P w K mg base (L2.CX P w) (9 + 1) (He.ma K (He.ga K "Editor") "row") ["self", "y"] (sp_look K fun s i => dotI (fDot s.layers i)) := by
  refine mkX T.f_Editor_row sc_Editor_row bd_Editor_row P2.len (fun cdv A outer s H vs Q E hr h => ⟨_, (pss_cons (ps_set (i := 2) sc_Editor_row.nd rfl (Or.inl rfl) (om (ok_Editor_row_places T) T.c_Editor T.m_Editor_row_places hr (by decide) passR (pv 0) (pa_cons (pv 1) pa_nil)))
    (pss_cons (ps_set (i := 3) sc_Editor_row.nd rfl (Or.inl rfl) (pe_lst (pa_cons (pe_callB (k_len (K := K)) (by rfl) T.b_len (by decide +kernel) (pa_cons (pv 2) pa_nil)) pa_nil)))
    (pss_cons (ps_for (passes_of rfl) rfl (kpi_list (K := K) (pv 2)) (pg_name (i := 4) sc_Editor_row.nd rfl (Or.inl rfl)) (pss_one (ps_expr (kbm (K := K) PySem.F.plainAttrs_list PySem.F.slot_list_extend PySem.F.type_list_extend (k_ext2 (K := K)) (pv 3) (pa_cons (oc (ok_dot_of T) hr (by decide) T.g_dot_of ((pass0 : Passes CX0 _ E0)) (pa_cons (kfld (K := K) (kfld (K := K) (pv 0) rfl) rfl) (pa_cons (pv 4) pa_nil))) pa_nil)))))
    (pss_one (ps_ret (pv 3)))))), ?_⟩)
  obtain ⟨_, _, rfl, e, g, y, rfl, hE, W, rfl, hT, hA⟩ := h
  have w2 := W.w2
  refine q_places (ev_var rfl) hE W (ev_var rfl) hT hA fun hlt r H1 n1 e1 hr hA => ?_
  have hE1 := hE.ex e1
  have hrl := rowP_len g.now y
  refine q_asgL (el_lst (ea_cons (ev_len (ev_var rfl) (sq_of hr)) ea_nil) (by show 1 ≤ 100000; decide)) fun f H2 nf e2 hf => ?_
  refine q_forLn (ev_var rfl) (sq_of (e2 _ _ hr)) (fun i σ' H' => Ex H1 H' ∧ H' f = some (.lst (((g.now.w : Int) :: ((rowP g.now y).take i).flatMap fun i => dotI (fDot g.now.layers i)).map V.int)) ∧ ∃ x4, σ' = [some (.ref e), some (.int (y : Int)), some (.ref r), some (.ref f), x4])
    (fun H3 e3 => ⟨e2.trans e3, ?_, none, rfl⟩) (fun i σ' H' _ h => sq_of (h.1 _ _ hr)) ?_ ?_
  · rw [e3 _ _ hf, List.take_zero, nums_len, hrl]
    rfl
  · rintro i x σ' H3 hx ⟨e3, hf3, x4, rfl⟩
    obtain ⟨n, hn, rfl⟩ : ∃ n, (rowP g.now y)[i]? = some n ∧ x = .int (n : Int) := by
      rw [List.getElem?_map] at hx
      cases hn : (rowP g.now y)[i]? with
      | none => rw [hn] at hx; cases hx
      | some n => rw [hn] at hx; exact ⟨n, rfl, (Option.some.inj hx).symm⟩
    have hi : i < (rowP g.now y).length := (List.getElem?_eq_some_iff.mp hn).1
    obtain ⟨p, aL, aC, h, aK, aU, ag, ar, hE3⟩ := hE1.ex e3
    have hnl := rowP_lt hlt (List.mem_of_getElem? hn)
    have hfl := flat_len (f := fun i => dotI (fDot g.now.layers i)) (n := 2) (fun _ => rfl) ((rowP g.now y).take i)
    refine s_extP hf3 (ev_var rfl) (ys := (dotI (fDot g.now.layers n)).map V.int) ((EvN.p (evn_call (R := fun r H' => H' r = some (.tup [.int ((fDot g.now.layers n).1 : Int), .int ((fDot g.now.layers n).2 : Int)])) (ea_cons (ev_layers T (ev_epic T (ev_var rfl) hE3) hE3.pic) (ea_cons (ev_var rfl) ea_nil)) fun H4 e4 Q E q => ⟨_, _, rfl, g.now.layers, aL, n, g.now.w * g.now.h, rfl, hE3.pic.lay.ex e4, rfl, W.lok, hnl, W.le, fun r H5 nr er hr => q r H5 nr er hr⟩)).imp fun v H4 e4 ⟨r, q, z⟩ => ⟨r, q, st_of z⟩) (by rw [List.length_map, List.length_cons, hfl, List.length_take, List.length_map]; show _ + 2 ≤ _; omega) fun H4 e4 => ⟨Ex.mut (e3.trans e4) nf, ?_, _, rfl⟩
    rw [upd_same, flat_snoc hn, ← List.map_append, List.cons_append]
  · rintro σ' H3 ⟨e3, hf3, x4, rfl⟩
    rw [nums_len, List.take_length] at hf3
    exact s_ret (ev_var rfl) fun H4 e4 => hA f H4 (.of nf) (.of (e3.trans e4)) (hT.ex (e1.trans (e3.trans e4))) (hE1.ex (e3.trans e4)) (e4 _ _ hf3)
theorem ok_Editor_own_row (T : Tx K mg) : Ok P w K mg base (L2.CX P w) (4 + 1) (He.ma K (He.ga K "Editor") "own_row") ["self", "y"] (sp_look K fun s i => dotI (dotN s i)) := by
  refine mkX T.f_Editor_own_row sc_Editor_own_row bd_Editor_own_row P2.len (fun cdv A outer s H vs Q E hr h => ⟨_, (pss_cons (ps_set (i := 2) sc_Editor_own_row.nd rfl (Or.inl rfl) (om (ok_Editor_row_places T) T.c_Editor T.m_Editor_row_places hr (by decide) passR (pv 0) (pa_cons (pv 1) pa_nil)))
    (pss_cons (ps_set (i := 3) sc_Editor_own_row.nd rfl (Or.inl rfl) (pe_lst (pa_cons (pe_callB (k_len (K := K)) (by rfl) T.b_len (by decide +kernel) (pa_cons (pv 2) pa_nil)) pa_nil)))
    (pss_cons (ps_for (passes_of rfl) rfl (kpi_list (K := K) (pv 2)) (pg_name (i := 4) sc_Editor_own_row.nd rfl (Or.inl rfl)) (pss_one (ps_expr (kbm (K := K) PySem.F.plainAttrs_list PySem.F.slot_list_extend PySem.F.type_list_extend (k_ext2 (K := K)) (pv 3) (pa_cons (pe_ix (kix_list (K := K)) (kfld (K := K) (om0 (ok_Picture_worked_on T) T.c_Picture T.m_Picture_worked_on hr (by decide) ((pass0 : Passes CX0 _ E0)) (kfld (K := K) (pv 0) rfl)) rfl) (pv 4) (fun _ _ => rfl)) pa_nil)))))
    (pss_one (ps_ret (pv 3)))))), ?_⟩)
  obtain ⟨_, _, rfl, e, g, y, rfl, hE, W, rfl, hT, hA⟩ := h
  have w2 := W.w2
  have hds : g.now.layer.dots.length = g.now.w * g.now.h := W.lay_ok.len
  refine q_places (ev_var rfl) hE W (ev_var rfl) hT hA fun hlt r H1 n1 e1 hr hA => ?_
  have hE1 := hE.ex e1
  have hrl := rowP_len g.now y
  refine q_asgL (el_lst (ea_cons (ev_len (ev_var rfl) (sq_of hr)) ea_nil) (by show 1 ≤ 100000; decide)) fun f H2 nf e2 hf => ?_
  refine q_forLn (ev_var rfl) (sq_of (e2 _ _ hr)) (fun i σ' H' => Ex H1 H' ∧ H' f = some (.lst (((g.now.w : Int) :: ((rowP g.now y).take i).flatMap fun i => dotI (dotN g.now i)).map V.int)) ∧ ∃ x4, σ' = [some (.ref e), some (.int (y : Int)), some (.ref r), some (.ref f), x4])
    (fun H3 e3 => ⟨e2.trans e3, ?_, none, rfl⟩) (fun i σ' H' _ h => sq_of (h.1 _ _ hr)) ?_ ?_
  · rw [e3 _ _ hf, List.take_zero, nums_len, hrl]
    rfl
  · rintro i x σ' H3 hx ⟨e3, hf3, x4, rfl⟩
    obtain ⟨n, hn, rfl⟩ : ∃ n, (rowP g.now y)[i]? = some n ∧ x = .int (n : Int) := by
      rw [List.getElem?_map] at hx
      cases hn : (rowP g.now y)[i]? with
      | none => rw [hn] at hx; cases hx
      | some n => rw [hn] at hx; exact ⟨n, rfl, (Option.some.inj hx).symm⟩
    have hi : i < (rowP g.now y).length := (List.getElem?_eq_some_iff.mp hn).1
    obtain ⟨p, aL, aC, h, aK, aU, ag, ar, hE3⟩ := hE1.ex e3
    have hnl := rowP_lt hlt (List.mem_of_getElem? hn)
    have hfl := flat_len (f := fun i => dotI (dotN g.now i)) (n := 2) (fun _ => rfl) ((rowP g.now y).take i)
    refine s_extP hf3 (ev_var rfl) (ys := (dotI (dotN g.now n)).map V.int) (evp_op (S := fun v H' => ∃ r, v = .ref r ∧ SqT K H' r ((dotI (dotN g.now n)).map V.int)) (R := fun v H' => ∃ aD, v = .ref aD ∧ DotsAt K H' aD g.now.layer.dots) (R' := fun v _ => v = .int (n : Int)) (evp_workdots T (ev_epic T (ev_var rfl) hE3) hE3.pic W) (fun _ _ _ e ⟨aD, q, z⟩ => ⟨aD, q, z.ex e⟩) (.of (ev_var rfl)) fun x z H4 e4 ⟨aD, hx, us, hu, hpu⟩ hz Q q => ?_) (by rw [List.length_map, List.length_cons, hfl, List.length_take, List.length_map]; show _ + 2 ≤ _; omega) fun H4 e4 => ⟨Ex.mut (e3.trans e4) nf, ?_, _, rfl⟩
    · subst hx hz
      obtain ⟨v, hv, rr, rfl, hd⟩ := pair_get hpu (List.getElem?_eq_getElem (by omega : n < g.now.layer.dots.length))
      refine ⟨aD, us, _, _, rfl, rfl, sq_of hu, atI_nat hv, q _ H4 (Ex.refl _) ⟨rr, rfl, ?_⟩⟩
      unfold dotN
      rw [List.getElem?_eq_getElem (by omega : n < g.now.layer.dots.length)]
      exact hd
    · rw [upd_same, flat_snoc hn, ← List.map_append, List.cons_append]
  · rintro σ' H3 ⟨e3, hf3, x4, rfl⟩
    rw [nums_len, List.take_length] at hf3
    exact s_ret (ev_var rfl) fun H4 e4 => hA f H4 (.of nf) (.of (e3.trans e4)) (hT.ex (e1.trans (e3.trans e4))) (hE1.ex (e3.trans e4)) (e4 _ _ hf3)
theorem ok_Editor_chosen_row (T : Tx K mg) : Ok P w K mg base (L2.CX P w) (4 + 1) (He.ma K (He.ga K "Editor") "chosen_row") ["self", "y"] (sp_look K fun s i => [if onB s i = true then 1 else 0]) := by
  refine mkX T.f_Editor_chosen_row sc_Editor_chosen_row bd_Editor_chosen_row P2.len (fun cdv A outer s H vs Q E hr h => ⟨_, (pss_cons (ps_set (i := 2) sc_Editor_chosen_row.nd rfl (Or.inl rfl) (om (ok_Editor_row_places T) T.c_Editor T.m_Editor_row_places hr (by decide) passR (pv 0) (pa_cons (pv 1) pa_nil)))
    (pss_one (ps_ret (pe_op op_cat (pe_lst (pa_cons (pe_callB (k_len (K := K)) (by rfl) T.b_len (by decide +kernel) (pa_cons (pv 2) pa_nil)) pa_nil)) (pe_lc (own := [("place", 3)]) rfl sc_Editor_chosen_row.nd (kpi_list (K := K) (pv 2)) (blkOk_by (by kernel_rfl)) (fun _ _ _ _ _ => by exact (pg_name (i := 3) sc_Editor_chosen_row.nd rfl (Or.inl rfl))) (fun _ _ _ _ _ => by exact pts_nil) (fun _ _ _ _ _ => by exact (pe_callTy call_int1 (by rfl) T.b_int (by decide +kernel) (pa_cons (pe_ix (kix_list (K := K)) (kfld (K := K) (kfld (K := K) (pv 0) rfl) rfl) (pv 3) (fun _ _ => rfl)) pa_nil)))))))), ?_⟩)
  obtain ⟨_, _, rfl, e, g, y, rfl, hE, W, rfl, hT, hA⟩ := h
  have w2 := W.w2
  refine q_places (ev_var rfl) hE W (ev_var rfl) hT hA fun hlt r H1 n1 e1 hr hA => ?_
  obtain ⟨p, aL, aC, h, aK, aU, ag, ar, hE1⟩ := hE.ex e1
  have hrl := rowP_len g.now y
  refine s_retL (el_cat2 (el_lst (ea_cons (ev_len (ev_var rfl) (sq_of hr)) ea_nil) (by show 1 ≤ 100000; decide)) (el_lc (n := (rowP g.now y).length) (fun i x _ => ∃ h : i < (rowP g.now y).length, x = .int (((rowP g.now y)[i] : Nat) : Int)) (fun _ => true) (fun j => .int (if onB g.now (((rowP g.now y)[j]?).getD 0) = true then 1 else 0)) (by omega) (iw_nums (ev_var rfl) hr) ?_) ?_) fun q H2 n2 e2 hq => hA q H2 (.of n2) (.of e2) (hT.ex (e1.trans e2)) (hE1.ex e2).at ?_
  · rintro j x H2 e2 hj ⟨hj', rfl⟩ Q2 q2
    have hnl := rowP_lt hlt (List.getElem_mem hj)
    have hP2 := hE1.pic.ex e2
    refine q2 _ H2 (Ex.refl _) rfl (fun _ _ _ z => z _ (Ex.refl _)) fun _ => ?_
    rw [List.getElem?_eq_getElem hj]
    refine ev_cb (ea_cons (ev_op (ev_chosen T (ev_epic T (ev_var rfl) (hE1.ex e2)) hP2) (ev_var rfl) (rv_ixL (v := .bl (onB g.now (rowP g.now y)[j])) (sq_of hP2.cho) (atI_nat ?_))) ea_nil) fun H3 e3 Q q => .inr ⟨_, rfl, q H3 (Ex.refl _)⟩
    unfold onB
    rw [List.getElem?_map, List.getElem?_eq_getElem (by rw [W.cho]; exact hnl)]
    rfl
  · rw [given_all]
    simp only [List.length_map, List.length_range, List.length_singleton]
    omega
  · rw [hq, nums_len, hrl, ← hrl, given_at (rowP g.now y) 0 (fun n => V.int (if onB g.now n = true then 1 else 0)) _ fun i h => by rw [List.getElem?_eq_getElem h]; rfl, List.map_cons]
    refine congrArg (fun l => some (HO.lst (_ :: l))) ?_
    rw [List.map_flatMap]
    exact List.map_eq_flatMap
end Lp
set_option Elab.async false
set_option linter.all false
set_option maxRecDepth 100000
set_option maxHeartbeats 4000000
namespace Lp
open PySem PySem.Spec PyProof.Rows L2 Evl
variable {P : Program} {w : World} {K : PySem.W.Frag} {mg : Str → Option Value} {base : Heap}
def layI (l : Sq50.Layer) : List Int := [(l.id : Int), if l.seen = true then 1 else 0, (l.strong : Int), (l.way : Int)]
def pList (g : Ed) : List Int := [(g.now.on : Int), (g.now.w : Int), (g.now.h : Int), (g.now.layers.length : Int)] ++ g.now.layers.flatMap layI
def sp_same (K : PySem.W.Frag) (f : Ed → List Int) : Sp := P1 fun a H Q _ => ∃ (e : Addr) (g : Ed), a = .ref e ∧ EdAt K H e g ∧ WF g.now ∧ g.past.length ≤ 30000 ∧ Tk K H ∧ Tells K e g (f g) H Q
theorem flatL_len : ∀ l : List Sq50.Layer, (l.flatMap layI).length = l.length * 4
  | [] => by simp
  | i :: l => by
    rw [List.flatMap_cons, List.length_append, flatL_len l, List.length_cons, Nat.add_mul, Nat.one_mul, Nat.add_comm]
    rfl
theorem ok_Editor_listed (T : Tx K mg) : Ok P w K mg base CX0 (0 + 1) (He.ma K (He.ga K "Editor") "listed") ["self"] (sp_same K pList) := by
  refine mk0 T.f_Editor_listed sc_Editor_listed bd_Editor_listed P1.len (fun cdv A outer s H vs Q E hr h => ⟨_, (pss_cons (ps_set (i := 1) sc_Editor_listed.nd rfl (Or.inl rfl) (pe_lst (pa_cons (kfld (K := K) (kfld (K := K) (pv 0) rfl) rfl) (pa_cons (kfld (K := K) (kfld (K := K) (pv 0) rfl) rfl) (pa_cons (kfld (K := K) (kfld (K := K) (pv 0) rfl) rfl) (pa_cons (pe_callB (k_len (K := K)) (by rfl) T.b_len (by decide +kernel) (pa_cons (kfld (K := K) (kfld (K := K) (pv 0) rfl) rfl) pa_nil)) pa_nil))))))
    (pss_cons (ps_for PassesOwn.never rfl (kpi_list (K := K) (kfld (K := K) (kfld (K := K) (pv 0) rfl) rfl)) (pg_name (i := 2) sc_Editor_listed.nd rfl (Or.inl rfl)) (pss_one (ps_expr (kbm (K := K) PySem.F.plainAttrs_list PySem.F.slot_list_extend PySem.F.type_list_extend (k_ext2 (K := K)) (pv 1) (pa_cons (pe_lst (pa_cons (kfld (K := K) (pv 2) rfl) (pa_cons (kfld (K := K) (pv 2) rfl) (pa_cons (kfld (K := K) (pv 2) rfl) (pa_cons (kfld (K := K) (pv 2) rfl) pa_nil))))) pa_nil)))))
    (pss_one (ps_ret (pv 1))))), ?_⟩)
  obtain ⟨_, rfl, e, g, rfl, ⟨p, aL, aC, h, aK, aU, ag, ar, hE⟩, W, hz, hT, hA⟩ := h
  have h5 := W.le
  obtain ⟨vs, hv, hpr⟩ := hE.pic.lay
  have hlen := pair_len hpr
  refine q_asgL (el_lst (ea_cons (ev_working T (ev_epic T (ev_var rfl) hE) hE.pic) (ea_cons (ev_wide T (ev_epic T (ev_var rfl) hE) hE.pic) (ea_cons (ev_high T (ev_epic T (ev_var rfl) hE) hE.pic) (ea_cons (ev_len (ev_layers T (ev_epic T (ev_var rfl) hE) hE.pic) (sq_of hv)) ea_nil)))) (by show 4 ≤ 100000; decide)) fun f H1 nf e1 hf => ?_
  have hE1 := hE.ex e1
  refine q_forLn (ev_layers T (ev_epic T (ev_var rfl) hE1) hE1.pic) (sq_of (e1 _ _ hv)) (fun i σ' H' => Ex H H' ∧ H' f = some (.lst (([(g.now.on : Int), (g.now.w : Int), (g.now.h : Int), (g.now.layers.length : Int)] ++ (g.now.layers.take i).flatMap layI).map V.int)) ∧ ∃ x2, σ' = [some (.ref e), some (.ref f), x2])
    (fun H2 e2 => ⟨e1.trans e2, ?_, none, rfl⟩) (fun i σ' H' _ h => sq_of (h.1 _ _ hv)) ?_ ?_
  · rw [e2 _ _ hf, List.take_zero, hlen]
    rfl
  · rintro i x σ' H2 hx ⟨e2, hf2, x2, rfl⟩
    obtain ⟨l, hl, a, aD, rfl, hL⟩ := pair_get' hpr hx
    have hL2 := hL.ex e2
    have hi : i < g.now.layers.length := (List.getElem?_eq_some_iff.mp hl).1
    refine s_ext hf2 (ev_var rfl) (ys := (layI l).map V.int) (el_lst (ea_cons (ev_number (l := l) T (ev_var rfl) hL2) (ea_cons (ev_seen (l := l) T (ev_var rfl) hL2) (ea_cons (ev_strong (l := l) T (ev_var rfl) hL2) (ea_cons (ev_way (l := l) T (ev_var rfl) hL2) ea_nil)))) (by show 4 ≤ 100000; decide)) (by rw [List.length_map, List.length_append, flatL_len, List.length_take, List.length_map]; show 4 + _ + 4 ≤ _; omega) fun H3 e3 => ⟨Ex.mut (e2.trans e3) nf, ?_, _, rfl⟩
    rw [upd_same, take_snoc hl, List.flatMap_append, List.flatMap_singleton, ← List.map_append, List.append_assoc]
  · rintro σ' H2 ⟨e2, hf2, x2, rfl⟩
    rw [hlen, List.take_length] at hf2
    exact s_ret (ev_var rfl) fun H3 e3 => hA f H3 (.of nf) (.of (e2.trans e3)) (hT.ex (e2.trans e3)) (hE.ex (e2.trans e3)).at (e3 _ _ hf2)
def pHist (g : Ed) : List Int := [(g.past.length : Int), (((g.past.map (·.2)).sum : Nat) : Int), (g.future.length : Int), (g.acts.length : Int)]
theorem ok_Editor_history (T : Tx K mg) : Ok P w K mg base CX0 (1 + 1) (He.ma K (He.ga K "Editor") "history") ["self"] (sp_same K pHist) := by
  refine mk0 T.f_Editor_history sc_Editor_history bd_Editor_history P1.len (fun cdv A outer s H vs Q E hr h => ⟨_, (pss_one (ps_ret (pe_lst (pa_cons (pe_callB (k_len (K := K)) (by rfl) T.b_len (by decide +kernel) (pa_cons (kfld (K := K) (kfld (K := K) (pv 0) rfl) rfl) pa_nil)) (pa_cons (om0 (ok_History_total T) T.c_History T.m_History_total hr (by decide) ((pass0 : Passes CX0 _ E0)) (kfld (K := K) (pv 0) rfl)) (pa_cons (pe_callB (k_len (K := K)) (by rfl) T.b_len (by decide +kernel) (pa_cons (kfld (K := K) (kfld (K := K) (pv 0) rfl) rfl) pa_nil)) (pa_cons (pe_callB (k_len (K := K)) (by rfl) T.b_len (by decide +kernel) (pa_cons (kfld (K := K) (pv 0) rfl) pa_nil)) pa_nil))))))), ?_⟩)
  obtain ⟨_, rfl, e, g, rfl, ⟨p, aL, aC, h, aK, aU, ag, ar, hE⟩, W, hz, hT, hA⟩ := h
  have htot : ∀ (E : XK), Ev (tMeth (CH K) "total" (sp_total K) [] E (tFld K (tVar 0) "past") tNil) [some (.ref e)] H (.int (((g.past.map (·.2)).sum : Nat) : Int)) := fun E H1 e1 Q q => by
    have hE1 := hE.ex e1
    exact Lp.hm (ev_epast T (ev_var rfl) hE1) hE1.his ea_nil fun H2 e2 => ⟨_, rfl, h, g.budget, g.past, g.future, aK, aU, rfl, hE1.his.ex e2, hz, fun v H3 e3 r => by rw [r]; exact q H3 (e2.trans e3)⟩
  exact s_retL (el_lst (ea_cons (ev_keptlen T (ev_var rfl) hE) (ea_cons (htot _) (ea_cons (ev_undlen T (ev_var rfl) hE) (ea_cons (ev_reclen T (ev_var rfl) hE) ea_nil)))) (by show 4 ≤ 100000; decide)) fun y H1 n1 e1 hy => hA y H1 (.of n1) (.of e1) (hT.ex e1) (hE.ex e1).at hy
def sp_ed (K : PySem.W.Frag) (f : Ed → Ed × List Int) : Sp := P1 fun a H Q _ => ∃ (e : Addr) (g : Ed), a = .ref e ∧ EdAt K H e g ∧ WF g.now ∧ Tk K H ∧ Tells K e (f g).1 (f g).2 H Q
def fCopy (g : Ed) : Ed × List Int := ({ g with aside := pAside g.now }, [((pAside g.now).length : Int)])
theorem ok_Editor_copy (T : Tx K mg) : Ok P w K mg base CX0 (3 + 1) (He.ma K (He.ga K "Editor") "copy") ["self"] (sp_ed K fCopy) := by
  refine mk0 T.f_Editor_copy sc_Editor_copy bd_Editor_copy P1.len (fun cdv A outer s H vs Q E hr h => ⟨_, (pss_cons (kps_fld (K := K) (pv 0) (oc (ok_taken_aside T) hr (by decide) T.g_taken_aside ((pass0 : Passes CX0 _ E0)) (pa_cons (kfld (K := K) (pv 0) rfl) pa_nil)) rfl)
    (pss_one (ps_ret (pe_lst (pa_cons (pe_callB (k_len (K := K)) (by rfl) T.b_len (by decide +kernel) (pa_cons (kfld (K := K) (pv 0) rfl) pa_nil)) pa_nil))))), ?_⟩)
  obtain ⟨_, rfl, e, g, rfl, ⟨p, aL, aC, h, aK, aU, ag, ar, hE⟩, W, hT, hA⟩ := h
  obtain ⟨dx, ho⟩ := hE.obj
  refine q_fldN (evn_call (R := fun y H' => AsideAt K H' y (pAside g.now)) (ea_cons (ev_epic T (ev_var rfl) hE) ea_nil) fun H1 e1 Q E q => ⟨_, rfl, g.now, p, aL, aC, rfl, hE.pic.ex e1, W, q⟩) (ev_var rfl) ho T.c_Editor T.n_Editor_aside (by show 5 < 1000; decide) (fun _ _ _ e r => r.ex e) fun ag' H1 n1 e1 hG => ?_
  have hE1 := (hE.ex e1).setA (dx := dx) hG
  have kp := (Kp.of e1).trans ((hE.ex e1).own (o := .ins (CE K) dx (putF "aside" (.ref ag') (eF p h ag ar g.on)))).1
  have t1 := (hE.ex e1).tkE (hT.ex e1) (o := .ins (CE K) dx (putF "aside" (.ref ag') (eF p h ag ar g.on)))
  obtain ⟨us, hu, hpu⟩ := hE1.asd
  have hl : us.length = (pAside g.now).length := pair_len hpu
  refine s_retL (el_lst (ea_cons (ev_len (ev_easide T (ev_var rfl) hE1) (sq_of hu)) ea_nil) (by show 1 ≤ 100000; decide)) fun y H2 n2 e2 hy => hA y H2 (kp.fresh (.of n2)) (kp.trans (.of e2)) (t1.ex e2) (hE1.ex e2).at ?_
  rw [hy, hl]
  rfl
def fRecord (g : Ed) : Ed × List Int := ({ g with acts := [], on := true }, [0])
theorem ok_Editor_record (T : Tx K mg) : Ok P w K mg base CX0 (0 + 1) (He.ma K (He.ga K "Editor") "record") ["self"] (sp_ed K fRecord) := by
  refine mk0 T.f_Editor_record sc_Editor_record bd_Editor_record P1.len (fun cdv A outer s H vs Q E hr h => ⟨_, (pss_cons (kps_fld (K := K) (pv 0) (pe_lst pa_nil) rfl)
    (pss_cons (kps_fld (K := K) (pv 0) pe_bl rfl)
    (pss_one (ps_ret (pe_lst (pa_cons pe_int pa_nil)))))), ?_⟩)
  obtain ⟨_, rfl, e, g, rfl, ⟨p, aL, aC, h, aK, aU, ag, ar, hE⟩, W, hT, hA⟩ := h
  obtain ⟨dx, ho⟩ := hE.obj
  refine q_fldN (EvN.ofL (el_lst ea_nil (by show 0 ≤ 100000; decide))) (ev_var rfl) ho T.c_Editor T.n_Editor_recorded (by show 5 < 1000; decide) (fun _ _ _ e r => e _ _ r) fun ar' H1 n1 e1 hl => ?_
  have hE1 := (hE.ex e1).setR (dx := dx) (l := []) ⟨[], hl, .nil⟩
  have kp := (Kp.of e1).trans ((hE.ex e1).own (o := .ins (CE K) dx (putF "recorded" (.ref ar') (eF p h ag ar g.on)))).1
  have t1 := (hE.ex e1).tkE (hT.ex e1) (o := .ins (CE K) dx (putF "recorded" (.ref ar') (eF p h ag ar g.on)))
  rw [pe_rec] at hE1 kp t1 ⊢
  refine q_fld ev_c (ev_var rfl) upd_same T.c_Editor T.n_Editor_is_recording (by show 5 < 1000; decide) fun H2 e2 => ?_
  have hE2 := (hE1.ex e2).setO (dx := dx) (b := true)
  have kp2 := kp.trans ((Kp.of e2).trans ((hE1.ex e2).own (o := .ins (CE K) dx (putF "is_recording" (.bl true) (eF p h ag ar' g.on)))).1)
  have t2 := (hE1.ex e2).tkE (t1.ex e2) (o := .ins (CE K) dx (putF "is_recording" (.bl true) (eF p h ag ar' g.on)))
  exact s_retL (σ := [some (.ref e)]) (el_lst (ea_cons ev_c ea_nil) (by show 1 ≤ 100000; decide)) fun y H3 n3 e3 hy => hA y H3 (kp2.fresh (.of n3)) (kp2.trans (.of e3)) (t2.ex e3) (hE2.ex e3).at hy
def fStop (g : Ed) : Ed × List Int := ({ g with on := false }, [(g.acts.length : Int)])
theorem ok_Editor_stop (T : Tx K mg) : Ok P w K mg base CX0 (0 + 1) (He.ma K (He.ga K "Editor") "stop") ["self"] (sp_ed K fStop) := by
  refine mk0 T.f_Editor_stop sc_Editor_stop bd_Editor_stop P1.len (fun cdv A outer s H vs Q E hr h => ⟨_, (pss_cons (kps_fld (K := K) (pv 0) pe_bl rfl)
    (pss_one (ps_ret (pe_lst (pa_cons (pe_callB (k_len (K := K)) (by rfl) T.b_len (by decide +kernel) (pa_cons (kfld (K := K) (pv 0) rfl) pa_nil)) pa_nil))))), ?_⟩)
  obtain ⟨_, rfl, e, g, rfl, ⟨p, aL, aC, h, aK, aU, ag, ar, hE⟩, W, hT, hA⟩ := h
  obtain ⟨dx, ho⟩ := hE.obj
  refine q_fld ev_c (ev_var rfl) ho T.c_Editor T.n_Editor_is_recording (by show 5 < 1000; decide) fun H1 e1 => ?_
  have hE1 := (hE.ex e1).setO (dx := dx) (b := false)
  have kp := (Kp.of e1).trans ((hE.ex e1).own (o := .ins (CE K) dx (putF "is_recording" (.bl false) (eF p h ag ar g.on)))).1
  have t1 := (hE.ex e1).tkE (hT.ex e1) (o := .ins (CE K) dx (putF "is_recording" (.bl false) (eF p h ag ar g.on)))
  exact s_retL (el_lst (ea_cons (ev_reclen T (ev_var rfl) hE1) ea_nil) (by show 1 ≤ 100000; decide)) fun y H2 n2 e2 hy => hA y H2 (kp.fresh (.of n2)) (kp.trans (.of e2)) (t1.ex e2) (hE1.ex e2).at hy
end Lp
set_option Elab.async false
set_option linter.all false
set_option maxRecDepth 100000
set_option maxHeartbeats 4000000
namespace Lp
open PySem PySem.Spec PyProof.Rows L2 Evl
variable {P : Program} {w : World} {K : PySem.W.Frag} {mg : Str → Option Value} {base : Heap}
/-- a method called within try: what it may let out is told of the slots -/
def tMethS (C : Addr) (m : Str) (sp : Sp) (E : L2.St → XK) (ta : TE) (t : TA) : TE := fun σ H Q => ta σ H fun x H1 => ∃ a dx fs, x = .ref a ∧ H1 a = some (.ins C dx fs) ∧ fs.lookup m = none ∧ t σ H1 fun vs H2 => sp (.ref a :: vs) H2 Q (E σ)
theorem omS {X : Cx} {CX : CXT} {j k : Nat} {f C : Addr} {ps : List Str} {sp : Sp} {E : L2.St → XK} {m : Str} {pos apos : Pos} {e o : Expr} {es : List Expr} {ta : TE} {t : TA} {pl : Sem Bool} (O : Ok X.prog X.w X.K X.mg X.base CX k f ps sp) (c : Cls X.K C) (hm : Meth X.K C m f) (hr : Room j X.A) (hk : k ≤ j)
    (hx : ∀ σ, PassesAt CX X σ (E σ)) (ho : PE X o ta) (ha : PA X (e :: es) t)
    (hst : starEach (e :: es) X.env = (false, eval e X.env) :: starEach es X.env := by rfl) (hpl : (backTo pos (starEach es X.env)).any (·.1) = false := by rfl)
    (ht : eval (.Call (.Attribute o m apos) (e :: es) [] pos) X.env = (do
      let ov ← eval o X.env
      standAt apos.atName
      let (g, first) ← holding [ov] (getMethod ov m pl)
      callWith pos g first (backTo pos (starEach (e :: es) X.env)) (backToKw pos (keywordEach [] X.env))) := by rfl) :
    PE X (.Call (.Attribute o m apos) (e :: es) [] pos) (tMethS C m sp E ta t) := by
  obtain ⟨⟨fd, F, b⟩, kp⟩ := O
  refine ⟨fun pins s σ H Q I h => ?_⟩
  refine PySem.W.methodCall_KW (pl := pl) (thn (ho.run pins s σ H _ I h) fun u s1 ⟨x, H1, I1, rx, a, dx, fs, ex, ea, l, q⟩ => ?_) ht
  subst ex
  obtain rfl : u = Value.ref a := rx
  refine getmeth_ok I1 ea c hm l ?_
  refine PySem.W.callWith_K (first := [.ref a]) (h₀ := X.base) I.ok.mod.kin hm.kp (thn (ha.run pos pins s1 σ H1 _ I1 q) fun us s2 ⟨vs, H2, I2, r, q2⟩ => ⟨I2.kIn, ?_⟩) hst hpl
  exact run_fnS (us := .ref a :: us) (vs := .ref a :: vs) F (hr.mono hk) b (hx σ) I2 (.cons rfl r) q2
theorem emS {σ : L2.St} {H : Hp} {te : TE} {tA : TA} {e dx : Addr} {fs : List (Str × V)} {sp : Sp} {m : Str} {E : L2.St → XK} {Q : VK} {vs : List V} (ho : Ev te σ H (.ref e)) (he : H e = some (.ins (CE K) dx fs)) (hm : fs.lookup m = none) (ha : EvA tA σ H vs) (k : ∀ H1, Ex H H1 → sp (.ref e :: vs) H1 Q (E σ)) : tMethS (CE K) m sp E te tA σ H Q :=
  ho H (Ex.refl _) _ fun H1 e1 => ⟨e, dx, fs, rfl, e1 _ _ he, hm, ha H1 e1 _ fun H2 e2 => k H2 (e1.trans e2)⟩
/-! ### what was recorded, done again -/
def pPlays (g : Ed) : List (Nat × List Nat) → Ed × Nat
  | [] => (g, 0)
  | x :: r => match pDo g x.1 x.2 with
    | .error _ => (g, 0)
    | .ok y => ((pPlays y.1 r).1, (pPlays y.1 r).2 + 1)
def PlayOk (g : Ed) : List (Nat × List Nat) → Prop
  | [] => True
  | x :: r => szD[x.1]? = some x.2.length ∧ (∀ y ∈ x.2, y < 2 ^ 64) ∧ WF g.now ∧ g.past.length ≤ 40000 ∧ (∀ t, pMade g.now g.aside x.1 x.2 = .ok t → WF t) ∧ ∀ y, pDo g x.1 x.2 = .ok y → PlayOk y.1 r
def pPlay (g : Ed) : Except Int (Ed × List Int) := if g.on = true then .error (-6) else .ok ((pPlays g g.acts).1, [((pPlays g g.acts).2 : Int), ((pPlays g g.acts).1.past.length : Int)])
def sp_play (K : PySem.W.Frag) : Sp := P1 fun a H Q E => ∃ (e : Addr) (g : Ed), a = .ref e ∧ EdAt K H e g ∧ PlayOk g g.acts ∧ Tk K H ∧ Ans K e g (pPlay g) H Q E
theorem ok_Editor_play (T : Tx K mg) (B : TBs K mg base) : Ok P w K mg base (L2.CX P w) 13 (He.ma K (He.ga K "Editor") "play") ["self"] (sp_play K) := by
  refine mkX T.f_Editor_play sc_Editor_play bd_Editor_play P1.len (fun cdv A outer s H vs Q E hr h => ⟨_, (pss_cons (ps_expr (oc (ok_want T) hr (by decide) T.g_want passR (pa_cons (pe_not (kfld (K := K) (pv 0) rfl)) (pa_cons (pgi T.i_CAN_NOT) pa_nil))))
    (pss_cons (ps_set (i := 1) sc_Editor_play.nd rfl (Or.inl rfl) pe_int)
    (pss_cons (ps_try_only (c := .ref (CR K)) rfl rfl ⟨by rfl, by decide, .inl T.g_Refused⟩ (takes_of rfl rfl rfl rfl) (fun W pn xe tk po => by exact (pss_one (ps_for po rfl (kpi_list (K := K) (kfld (K := K) (pv 0) rfl)) (kpg_tup (K := K) (n := 2) (by rfl) (pgs_cons (pg_name (i := 2) sc_Editor_play.nd rfl (Or.inl rfl)) (pgs_cons (pg_name (i := 3) sc_Editor_play.nd rfl (Or.inl rfl)) pgs_nil))) (pss_cons (ps_expr (omS (ok_Editor_do T B) T.c_Editor T.m_Editor_do hr (by decide) (fun σ => passAt tk σ) (pv 0) (pa_cons (pv 2) (pa_cons (pv 3) pa_nil))))
    (pss_one (ps_set (i := 1) sc_Editor_play.nd rfl (Or.inl rfl) (pe_op op_add (pv 1) pe_int))))))) (fun _ _ _ _ _ _ _ => by exact (pss_one (ps_ret (pe_lst (pa_cons (pv 1) (pa_cons (pe_callB (k_len (K := K)) (by rfl) T.b_len (by decide +kernel) (pa_cons (kfld (K := K) (kfld (K := K) (pv 0) rfl) rfl) pa_nil)) pa_nil)))))))
    (pss_one (ps_ret (pe_lst (pa_cons (pv 1) (pa_cons (pe_callB (k_len (K := K)) (by rfl) T.b_len (by decide +kernel) (pa_cons (kfld (K := K) (kfld (K := K) (pv 0) rfl) rfl) pa_nil)) pa_nil)))))))), ?_⟩)
  obtain ⟨_, rfl, e, g, rfl, hE0, hok, hT, hA⟩ := h
  obtain ⟨p, aL, aC, h, aK, aU, ag, ar, hE⟩ := id hE0
  refine q_want (g := !g.on) (ev_notV (ev_eis T (ev_var rfl) hE)) ev_c hT (fun hg H1 e1 => ?_) fun hg => ?_
  · have hoff : ¬ g.on = true := fun z => by rw [z] at hg; cases hg
    unfold pPlay at hA
    rw [if_neg hoff] at hA
    replace hA : Tells K e (pPlays g g.acts).1 [((pPlays g g.acts).2 : Int), ((pPlays g g.acts).1.past.length : Int)] H Q := hA
    refine q_asg ev_c fun H2 e2 => ?_
    have e12 := e1.trans e2
    have hE2 := hE.ex e12
    have fin : ∀ (g' : Ed) (n : Nat) H' x2 x3, pPlays g g.acts = (g', n) → Kp H H' → Tk K H' → EdAt K H' e g' → tRet (tLst (tCons (tVar 1) (tCons (tCB (rLenS K) (tCons (tFld K (tFld K (tVar 0) "past") "kept") tNil)) tNil))) { nx := fun _ H' => Q .non H', rt := Q } [some (.ref e), some (.int (n : Int)), x2, x3] H' := fun g' n H' x2 x3 hp kp t hE' => by
      obtain ⟨p, aL, aC, h, aK, aU, ag, ar, hE'⟩ := hE'
      rw [hp] at hA
      exact s_retL (el_lst (ea_cons (ev_var rfl) (ea_cons (ev_keptlen T (ev_var rfl) hE') ea_nil)) (by show 2 ≤ 100000; decide)) fun y H7 n7 e7 hy => hA y H7 (kp.fresh (.of n7)) (kp.trans (.of e7)) (t.ex e7) (hE'.ex e7).at hy
    obtain ⟨vs, hv, hpv⟩ := hE2.rcd
    have hlen := pair_len hpv
    show tFor (iList K (tFld K (tVar 0) "recorded")) _ _ _ _ H2
    refine s_forL (ev_erec T (ev_var rfl) hE2) (sq_of hv) (fun i σ' H' => ∃ (g' : Ed) (x2 x3 : Option V), σ' = [some (.ref e), some (.int (i : Int)), x2, x3] ∧ pPlays g g.acts = ((pPlays g' (g.acts.drop i)).1, (pPlays g' (g.acts.drop i)).2 + i) ∧ PlayOk g' (g.acts.drop i) ∧ Kp H H' ∧ Kp H2 H' ∧ Tk K H' ∧ EdAt K H' e g') (fun H3 e3 => ⟨g, none, none, rfl, by rw [List.drop_zero]; rfl, by rw [List.drop_zero]; exact hok, .of (e12.trans e3), .of e3, hT.ex (e12.trans e3), (hE2.ex e3).at⟩) (fun i σ' H' _ ⟨_, _, _, _, _, _, _, kp, _⟩ => sq_of (kp.keep _ _ hv trivial)) ?_ ?_
    · rintro i x σ' H4 hx ⟨g', x2, x3, rfl, hp, hok', kp4, kp24, t4, hE4⟩
      obtain ⟨y, hy, r, m, rfl, hT4, hm⟩ := pair_get' hpv hx
      have hi : i < g.acts.length := (List.getElem?_eq_some_iff.mp hy).1
      have hd : g.acts.drop i = y :: g.acts.drop (i + 1) := by
        rw [List.drop_eq_getElem_cons hi, (List.getElem?_eq_some_iff.mp hy).2]
      rw [hd] at hp hok'
      obtain ⟨k1, k2, k3, k4, k5, k6⟩ := hok'
      obtain ⟨p, aL, aC, h, aK, aU, ag, ar, hE4'⟩ := id hE4
      obtain ⟨dx, ho⟩ := hE4'.obj
      refine g_tup2 (st_kp hT4 kp24) ?_
      refine emS (ev_var rfl) ho (eF_no (by decide +kernel)) (ea_cons (ev_var rfl) (ea_cons (ev_var rfl) ea_nil)) fun H5 e5 => ⟨_, _, _, rfl, e, g', y.1, m, y.2, rfl, hE4.ex e5, k3, rfl, rfl, e5 _ _ (kp24.keep _ _ hm trivial), k1, k2, k4, k5, t4.ex e5, ?_⟩
      cases hdo : pDo g' y.1 y.2 with
      | error z =>
        have hp2 : pPlays g g.acts = (g', i) := by
          rw [hp]
          unfold pPlays
          rw [hdo]
          simp
        intro d H6 kp6 t6 hE6 _
        refine ⟨true, T.rem, fun _ a _ => ?_, fun z => by cases z⟩
        exact fin g' i H6 _ _ hp2 (kp4.trans ((Kp.of e5).trans kp6)) t6 hE6
      | ok z =>
        intro H6 kp6 t6 hE6
        refine s_asg (ev_op (ev_var rfl) ev_c rv_I0) fun H7 e7 => ⟨z.1, _, _, rfl, ?_, k6 z hdo, (kp4.trans ((Kp.of e5).trans kp6)).trans (.of e7), (kp24.trans ((Kp.of e5).trans kp6)).trans (.of e7), t6.ex e7, hE6.ex e7⟩
        rw [hp]
        conv => lhs; unfold pPlays
        rw [hdo]
        simp only
        rw [Nat.add_assoc, Nat.add_comm 1 i]
    · rintro σ' H4 ⟨g', x2, x3, rfl, hp, _, kp4, _, t4, hE4⟩
      rw [hlen, List.drop_length] at hp
      refine fin g' vs.length H4 x2 x3 ?_ kp4 t4 hE4
      rw [hp, hlen]
      show (g', 0 + g.acts.length) = _
      rw [Nat.zero_add]
  · have hon : g.on = true := by
      cases h2 : g.on with
      | true => rfl
      | false => rw [h2] at hg; cases hg
    have he : pPlay g = .error (-6) := by unfold pPlay; rw [if_pos hon]
    rw [he] at hA
    exact RaisesE.k hA hE0
end Lp
set_option Elab.async false
set_option linter.all false
set_option maxRecDepth 100000
set_option maxHeartbeats 4000000
namespace Lp
open PySem PySem.Spec PyProof.Rows L2 Evl
variable {P : Program} {w : World} {K : PySem.W.Frag} {mg : Str → Option Value} {base : Heap}
/-- what each call finds -/
structure Pre (g : Ed) : Prop where
  wf : WF g.now
  past : g.past.length ≤ 30000
  fut : g.future.length ≤ 30000
  acts : g.acts.length ≤ 40
section
variable {σ : L2.St} {H : Hp} {te : TE} {tA : TA} {e : Addr} {g : Ed} {sp : Sp} {m : Str} {vs : List V} {Q : VK} {D : Ends}
theorem s_em {E : XK} (ho : Ev te σ H (.ref e)) (he : EdAt K H e g) (ha : EvA tA σ H vs) (k : ∀ H1, Ex H H1 → EdAt K H1 e g → sp (.ref e :: vs) H1 Q E) (hrt : D.rt = Q)
    (hm : ((m == ("picture" : Str)) || ((m == ("past" : Str)) || ((m == ("aside" : Str)) || ((m == ("recorded" : Str)) || (m == ("is_recording" : Str)))))) = false := by decide +kernel) : tRet (tMeth (CE K) m sp [] E te tA) D σ H := by
  obtain ⟨p, aL, aC, h, aK, aU, ag, ar, hE⟩ := he
  obtain ⟨dx, ho1⟩ := hE.obj
  refine em ho ho1 (eF_no hm) (.of ha) fun vs H1 e1 ev => ?_
  subst ev
  rw [hrt]
  exact k H1 e1 (hE.ex e1).at
theorem s_emS {E : L2.St → XK} (ho : Ev te σ H (.ref e)) (he : EdAt K H e g) (ha : EvA tA σ H vs) (k : ∀ H1, Ex H H1 → EdAt K H1 e g → sp (.ref e :: vs) H1 Q (E σ)) (hrt : D.rt = Q)
    (hm : ((m == ("picture" : Str)) || ((m == ("past" : Str)) || ((m == ("aside" : Str)) || ((m == ("recorded" : Str)) || (m == ("is_recording" : Str)))))) = false := by decide +kernel) : tRet (tMethS (CE K) m sp E te tA) D σ H := by
  obtain ⟨p, aL, aC, h, aK, aU, ag, ar, hE⟩ := he
  obtain ⟨dx, ho1⟩ := hE.obj
  refine emS ho ho1 (eF_no hm) ha fun H1 e1 => ?_
  rw [hrt]
  exact k H1 e1 (hE.ex e1).at
end
def szE : List Nat := [0, 3, 1, 0, 0, 1, 1, 1, 0, 0, 0, 0, 0, 0]
def pDeeds (g : Ed) (call : Nat) (l r : List Nat) : Except Int (Ed × List Int) :=
  if call = 1 then pBegin (nth l 0) (nth l 1) (nth l 2) r else if call = 2 then pAct g (nth l 0) r else if call = 3 then pUndo g else pRedo g
def sp_ofdeeds (K : PySem.W.Frag) : Sp := P4 fun a b c d H Q E => ∃ (e : Addr) (g : Ed) (call : Nat) (aN : Addr) (l : List Nat) (aR : Addr) (r : List Nat), a = .ref e ∧ EdAt K H e g ∧ Pre g ∧ b = .int (call : Int) ∧ c = .ref aN ∧ H aN = some (.lst (nums l)) ∧ d = .ref aR ∧ H aR = some (.lst (nums r)) ∧ szE[call]? = some l.length ∧ 1 ≤ call ∧ call ≤ 4 ∧ r.length ≤ 2000 ∧ (∀ x ∈ r, x < 2 ^ 64) ∧
  (∀ t, szD[nth l 0]? = some r.length → pMade g.now g.aside (nth l 0) r = .ok t → WF t) ∧ Tk K H ∧ Ans K e g (pDeeds g call l r) H Q E
theorem ok_Editor_of_deeds (T : Tx K mg) (B : TBs K mg base) : Ok P w K mg base (L2.CX P w) 14 (He.ma K (He.ga K "Editor") "of_deeds") ["self", "call", "n", "row"] (sp_ofdeeds K) := by
  refine mkX T.f_Editor_of_deeds sc_Editor_of_deeds bd_Editor_of_deeds P4.len (fun cdv A outer s H vs Q E hr h => ⟨_, (pss_cons (ps_if (pt_cmpR op_eq (pv 1) pe_int (nomark _)) (pss_one (ps_ret (om (ok_Editor_begin T) T.c_Editor T.m_Editor_begin hr (by decide) passR (pv 0) (pa_cons (pe_ix (kix_list (K := K)) (pv 2) pe_int (fun _ _ => rfl)) (pa_cons (pe_ix (kix_list (K := K)) (pv 2) pe_int (fun _ _ => rfl)) (pa_cons (pe_ix (kix_list (K := K)) (pv 2) pe_int (fun _ _ => rfl)) (pa_cons (pv 3) pa_nil))))))) pss_nil)
    (pss_cons (ps_if (pt_cmpR op_eq (pv 1) pe_int (nomark _)) (pss_one (ps_ret (om (ok_Editor_act T B) T.c_Editor T.m_Editor_act hr (by decide) passR (pv 0) (pa_cons (pe_ix (kix_list (K := K)) (pv 2) pe_int (fun _ _ => rfl)) (pa_cons (pv 3) pa_nil))))) pss_nil)
    (pss_cons (ps_if (pt_cmpR op_eq (pv 1) pe_int (nomark _)) (pss_one (ps_ret (om0 (ok_Editor_undo T) T.c_Editor T.m_Editor_undo hr (by decide) passR (pv 0)))) pss_nil)
    (pss_one (ps_ret (om0 (ok_Editor_redo T) T.c_Editor T.m_Editor_redo hr (by decide) passR (pv 0))))))), ?_⟩)
  obtain ⟨_, _, _, _, rfl, e, g, call, aN, l, aR, r, rfl, hE, Pg, rfl, rfl, hN, rfl, hR, hsz, h1, h4, hrl, hb, hwf, hT, hA⟩ := h
  have pp := Pg.past
  have pf := Pg.fut
  unfold pDeeds at hA
  refine q_when (et_eqn 1 (ev_var rfl)) (fun hb1 H1 e1 => ?_) (fun h0 H1 e1 => ?_)
  · have hc := of_decide_eq_true hb1
    rw [if_pos hc] at hA
    subst hc
    have hl : 3 = l.length := Option.some.inj hsz
    have hN1 := e1 _ _ hN
    exact s_em (ev_var rfl) (hE.ex e1) (ea_cons (ev_nth (i := 0) (ev_var rfl) hN1 (by omega)) (ea_cons (ev_nth (i := 1) (ev_var rfl) hN1 (by omega)) (ea_cons (ev_nth (i := 2) (ev_var rfl) hN1 (by omega)) (ea_cons (ev_var rfl) ea_nil)))) (fun H2 e2 hE2 => ⟨_, _, _, _, _, rfl, e, g, nth l 0, nth l 1, nth l 2, r, aR, rfl, hE2, rfl, rfl, rfl, rfl, e2 _ _ (e1 _ _ hR), hrl, hT.ex (e1.trans e2), Ans.ex hA (e1.trans e2)⟩) rfl
  have h0 := of_decide_eq_false h0
  rw [if_neg h0] at hA
  refine q_when (et_eqn 2 (ev_var rfl)) (fun hb1 H2 e2 => ?_) (fun h2 H2 e2 => ?_)
  · have hc := of_decide_eq_true hb1
    rw [if_pos hc] at hA
    subst hc
    have hl : 1 = l.length := Option.some.inj hsz
    have e12 := e1.trans e2
    exact s_em (ev_var rfl) (hE.ex e12) (ea_cons (ev_nth (i := 0) (ev_var rfl) (e12 _ _ hN) (by omega)) (ea_cons (ev_var rfl) ea_nil)) (fun H3 e3 hE3 => ⟨_, _, _, rfl, e, g, nth l 0, aR, r, rfl, hE3, Pg.wf, rfl, rfl, e3 _ _ (e12 _ _ hR), hb, by omega, Pg.acts, hwf, hT.ex (e12.trans e3), Ans.ex hA (e12.trans e3)⟩) rfl
  have h2 := of_decide_eq_false h2
  rw [if_neg h2] at hA
  have e12 := e1.trans e2
  refine q_when (et_eqn 3 (ev_var rfl)) (fun hb1 H3 e3 => ?_) (fun h3 H3 e3 => ?_)
  · have hc := of_decide_eq_true hb1
    rw [if_pos hc] at hA
    exact s_em (ev_var rfl) (hE.ex (e12.trans e3)) ea_nil (fun H4 e4 hE4 => ⟨_, rfl, e, g, rfl, hE4, by omega, by omega, hT.ex ((e12.trans e3).trans e4), Ans.ex hA ((e12.trans e3).trans e4)⟩) rfl
  have h3 := of_decide_eq_false h3
  rw [if_neg h3] at hA
  exact s_em (ev_var rfl) (hE.ex (e12.trans e3)) ea_nil (fun H4 e4 hE4 => ⟨_, rfl, e, g, rfl, hE4, by omega, by omega, hT.ex ((e12.trans e3).trans e4), Ans.ex hA ((e12.trans e3).trans e4)⟩) rfl
def pLooks (g : Ed) (call : Nat) (l : List Nat) : Except Int (Ed × List Int) :=
  if call = 5 then pLook g (nth l 0) (fun i => dotI (fDot g.now.layers i)) else if call = 6 then pLook g (nth l 0) (fun i => dotI (dotN g.now i)) else if call = 7 then pLook g (nth l 0) (fun i => [if onB g.now i = true then 1 else 0]) else if call = 8 then .ok (g, pList g) else .ok (g, pHist g)
def sp_oflooks (K : PySem.W.Frag) : Sp := P3 fun a b c H Q E => ∃ (e : Addr) (g : Ed) (call : Nat) (aN : Addr) (l : List Nat), a = .ref e ∧ EdAt K H e g ∧ Pre g ∧ b = .int (call : Int) ∧ c = .ref aN ∧ H aN = some (.lst (nums l)) ∧ szE[call]? = some l.length ∧ 5 ≤ call ∧ call ≤ 9 ∧ Tk K H ∧ Ans K e g (pLooks g call l) H Q E
theorem ok_Editor_of_looks (T : Tx K mg) : Ok P w K mg base (L2.CX P w) (10 + 1) (He.ma K (He.ga K "Editor") "of_looks") ["self", "call", "n"] (sp_oflooks K) := by
  refine mkX T.f_Editor_of_looks sc_Editor_of_looks bd_Editor_of_looks P3.len (fun cdv A outer s H vs Q E hr h => ⟨_, (pss_cons (ps_if (pt_cmpR op_eq (pv 1) pe_int (nomark _)) (pss_one (ps_ret (om (ok_Editor_row T) T.c_Editor T.m_Editor_row hr (by decide) passR (pv 0) (pa_cons (pe_ix (kix_list (K := K)) (pv 2) pe_int (fun _ _ => rfl)) pa_nil)))) pss_nil)
    (pss_cons (ps_if (pt_cmpR op_eq (pv 1) pe_int (nomark _)) (pss_one (ps_ret (om (ok_Editor_own_row T) T.c_Editor T.m_Editor_own_row hr (by decide) passR (pv 0) (pa_cons (pe_ix (kix_list (K := K)) (pv 2) pe_int (fun _ _ => rfl)) pa_nil)))) pss_nil)
    (pss_cons (ps_if (pt_cmpR op_eq (pv 1) pe_int (nomark _)) (pss_one (ps_ret (om (ok_Editor_chosen_row T) T.c_Editor T.m_Editor_chosen_row hr (by decide) passR (pv 0) (pa_cons (pe_ix (kix_list (K := K)) (pv 2) pe_int (fun _ _ => rfl)) pa_nil)))) pss_nil)
    (pss_cons (ps_if (pt_cmpR op_eq (pv 1) pe_int (nomark _)) (pss_one (ps_ret (om0 (ok_Editor_listed T) T.c_Editor T.m_Editor_listed hr (by decide) ((pass0 : Passes CX0 _ E0)) (pv 0)))) pss_nil)
    (pss_one (ps_ret (om0 (ok_Editor_history T) T.c_Editor T.m_Editor_history hr (by decide) ((pass0 : Passes CX0 _ E0)) (pv 0)))))))), ?_⟩)
  obtain ⟨_, _, _, rfl, e, g, call, aN, l, rfl, hE, Pg, rfl, rfl, hN, hsz, h5, h9, hT, hA⟩ := h
  have pp := Pg.past
  unfold pLooks at hA
  refine q_when (et_eqn 5 (ev_var rfl)) (fun hb1 H1 e1 => ?_) (fun h0 H1 e1 => ?_)
  · have hc := of_decide_eq_true hb1
    rw [if_pos hc] at hA
    subst hc
    have hl : 1 = l.length := Option.some.inj hsz
    exact s_em (ev_var rfl) (hE.ex e1) (ea_cons (ev_nth (i := 0) (ev_var rfl) (e1 _ _ hN) (by omega)) ea_nil) (fun H2 e2 hE2 => ⟨_, _, rfl, e, g, nth l 0, rfl, hE2, Pg.wf, rfl, hT.ex (e1.trans e2), Ans.ex hA (e1.trans e2)⟩) rfl
  have h0 := of_decide_eq_false h0
  rw [if_neg h0] at hA
  refine q_when (et_eqn 6 (ev_var rfl)) (fun hb1 H2 e2 => ?_) (fun h2 H2 e2 => ?_)
  · have hc := of_decide_eq_true hb1
    rw [if_pos hc] at hA
    subst hc
    have hl : 1 = l.length := Option.some.inj hsz
    have e12 := e1.trans e2
    exact s_em (ev_var rfl) (hE.ex e12) (ea_cons (ev_nth (i := 0) (ev_var rfl) (e12 _ _ hN) (by omega)) ea_nil) (fun H3 e3 hE3 => ⟨_, _, rfl, e, g, nth l 0, rfl, hE3, Pg.wf, rfl, hT.ex (e12.trans e3), Ans.ex hA (e12.trans e3)⟩) rfl
  have h2 := of_decide_eq_false h2
  rw [if_neg h2] at hA
  have e12 := e1.trans e2
  refine q_when (et_eqn 7 (ev_var rfl)) (fun hb1 H3 e3 => ?_) (fun h3 H3 e3 => ?_)
  · have hc := of_decide_eq_true hb1
    rw [if_pos hc] at hA
    subst hc
    have hl : 1 = l.length := Option.some.inj hsz
    have e13 := e12.trans e3
    exact s_em (ev_var rfl) (hE.ex e13) (ea_cons (ev_nth (i := 0) (ev_var rfl) (e13 _ _ hN) (by omega)) ea_nil) (fun H4 e4 hE4 => ⟨_, _, rfl, e, g, nth l 0, rfl, hE4, Pg.wf, rfl, hT.ex (e13.trans e4), Ans.ex hA (e13.trans e4)⟩) rfl
  have h3 := of_decide_eq_false h3
  rw [if_neg h3] at hA
  have e13 := e12.trans e3
  refine q_when (et_eqn 8 (ev_var rfl)) (fun hb1 H4 e4 => ?_) (fun h8 H4 e4 => ?_)
  · have hc := of_decide_eq_true hb1
    rw [if_pos hc] at hA
    exact s_em (ev_var rfl) (hE.ex (e13.trans e4)) ea_nil (fun H5 e5 hE5 => ⟨_, rfl, e, g, rfl, hE5, Pg.wf, pp, hT.ex ((e13.trans e4).trans e5), Tells.to hA (.of ((e13.trans e4).trans e5))⟩) rfl
  have h8 := of_decide_eq_false h8
  rw [if_neg h8] at hA
  exact s_em (ev_var rfl) (hE.ex (e13.trans e4)) ea_nil (fun H5 e5 hE5 => ⟨_, rfl, e, g, rfl, hE5, Pg.wf, pp, hT.ex ((e13.trans e4).trans e5), Tells.to hA (.of ((e13.trans e4).trans e5))⟩) rfl
def pRecs (g : Ed) (call : Nat) : Except Int (Ed × List Int) :=
  if call = 10 then .ok (fCopy g) else if call = 11 then .ok (fRecord g) else if call = 12 then .ok (fStop g) else pPlay g
def sp_ofrecs (K : PySem.W.Frag) : Sp := P2 fun a b H Q E => ∃ (e : Addr) (g : Ed) (call : Nat), a = .ref e ∧ EdAt K H e g ∧ Pre g ∧ PlayOk g g.acts ∧ b = .int (call : Int) ∧ Tk K H ∧ Ans K e g (pRecs g call) H Q E
theorem ok_Editor_of_records (T : Tx K mg) (B : TBs K mg base) : Ok P w K mg base (L2.CX P w) 14 (He.ma K (He.ga K "Editor") "of_records") ["self", "call"] (sp_ofrecs K) := by
  refine mkX T.f_Editor_of_records sc_Editor_of_records bd_Editor_of_records P2.len (fun cdv A outer s H vs Q E hr h => ⟨_, (pss_cons (ps_if (pt_cmpR op_eq (pv 1) pe_int (nomark _)) (pss_one (ps_ret (om0 (ok_Editor_copy T) T.c_Editor T.m_Editor_copy hr (by decide) ((pass0 : Passes CX0 _ E0)) (pv 0)))) pss_nil)
    (pss_cons (ps_if (pt_cmpR op_eq (pv 1) pe_int (nomark _)) (pss_one (ps_ret (om0 (ok_Editor_record T) T.c_Editor T.m_Editor_record hr (by decide) ((pass0 : Passes CX0 _ E0)) (pv 0)))) pss_nil)
    (pss_cons (ps_if (pt_cmpR op_eq (pv 1) pe_int (nomark _)) (pss_one (ps_ret (om0 (ok_Editor_stop T) T.c_Editor T.m_Editor_stop hr (by decide) ((pass0 : Passes CX0 _ E0)) (pv 0)))) pss_nil)
    (pss_one (ps_ret (om0 (ok_Editor_play T B) T.c_Editor T.m_Editor_play hr (by decide) passR (pv 0))))))), ?_⟩)
  obtain ⟨_, _, rfl, e, g, call, rfl, hE, Pg, hok, rfl, hT, hA⟩ := h
  unfold pRecs at hA
  refine q_when (et_eqn 10 (ev_var rfl)) (fun hb1 H1 e1 => ?_) (fun h0 H1 e1 => ?_)
  · rw [if_pos (of_decide_eq_true hb1)] at hA
    exact s_em (ev_var rfl) (hE.ex e1) ea_nil (fun H2 e2 hE2 => ⟨_, rfl, e, g, rfl, hE2, Pg.wf, hT.ex (e1.trans e2), Tells.to hA (.of (e1.trans e2))⟩) rfl
  rw [if_neg (of_decide_eq_false h0)] at hA
  refine q_when (et_eqn 11 (ev_var rfl)) (fun hb1 H2 e2 => ?_) (fun h2 H2 e2 => ?_)
  · rw [if_pos (of_decide_eq_true hb1)] at hA
    have e12 := e1.trans e2
    exact s_em (ev_var rfl) (hE.ex e12) ea_nil (fun H3 e3 hE3 => ⟨_, rfl, e, g, rfl, hE3, Pg.wf, hT.ex (e12.trans e3), Tells.to hA (.of (e12.trans e3))⟩) rfl
  rw [if_neg (of_decide_eq_false h2)] at hA
  have e12 := e1.trans e2
  refine q_when (et_eqn 12 (ev_var rfl)) (fun hb1 H3 e3 => ?_) (fun h3 H3 e3 => ?_)
  · rw [if_pos (of_decide_eq_true hb1)] at hA
    have e13 := e12.trans e3
    exact s_em (ev_var rfl) (hE.ex e13) ea_nil (fun H4 e4 hE4 => ⟨_, rfl, e, g, rfl, hE4, Pg.wf, hT.ex (e13.trans e4), Tells.to hA (.of (e13.trans e4))⟩) rfl
  rw [if_neg (of_decide_eq_false h3)] at hA
  have e13 := e12.trans e3
  exact s_em (ev_var rfl) (hE.ex e13) ea_nil (fun H4 e4 hE4 => ⟨_, rfl, e, g, rfl, hE4, hok, hT.ex (e13.trans e4), Ans.ex hA (e13.trans e4)⟩) rfl
end Lp
set_option Elab.async false
set_option linter.all false
set_option maxRecDepth 100000
set_option maxHeartbeats 4000000
namespace Lp
open PySem PySem.Spec PyProof.Rows L2 Evl
variable {P : Program} {w : World} {K : PySem.W.Frag} {mg : Str → Option Value} {base : Heap}
def pAns0 (g : Ed) (call : Nat) (l r : List Nat) : Except Int (Ed × List Int) := if call ≤ 4 then pDeeds g call l r else if call ≤ 9 then pLooks g call l else pRecs g call
def pAns (g : Ed) (call : Nat) (l r : List Nat) : Ed × List Int := match pAns0 g call l r with
  | .ok x => x
  | .error z => (g, [z])
def sp_answer (K : PySem.W.Frag) : Sp := P4 fun a b c d H Q _ => ∃ (e : Addr) (g : Ed) (call : Nat) (aN : Addr) (l : List Nat) (aR : Addr) (r : List Nat), a = .ref e ∧ EdAt K H e g ∧ Pre g ∧ PlayOk g g.acts ∧ b = .int (call : Int) ∧ c = .ref aN ∧ H aN = some (.lst (nums l)) ∧ d = .ref aR ∧ H aR = some (.lst (nums r)) ∧ szE[call]? = some l.length ∧ 1 ≤ call ∧ r.length ≤ 2000 ∧ (∀ x ∈ r, x < 2 ^ 64) ∧
  (∀ t, szD[nth l 0]? = some r.length → pMade g.now g.aside (nth l 0) r = .ok t → WF t) ∧ Tk K H ∧ Tells K e (pAns g call l r).1 (pAns g call l r).2 H Q
theorem ok_Editor_answer (T : Tx K mg) (B : TBs K mg base) : Ok P w K mg base CX0 15 (He.ma K (He.ga K "Editor") "answer") ["self", "call", "numbers", "row"] (sp_answer K) := by
  refine mk0 T.f_Editor_answer sc_Editor_answer bd_Editor_answer P4.len (fun cdv A outer s H vs Q E hr h => ⟨_, (pss_one (ps_try_as (c := .ref (CR K)) (i := 4) rfl rfl sc_Editor_answer.nd rfl rfl ⟨by rfl, by decide, .inl T.g_Refused⟩ LamX.takes0 (fun W pn xe tk po => by exact (pss_cons (ps_if (pt_cmpR op_le (pv 1) pe_int (nomark _)) (pss_one (ps_ret (omS (ok_Editor_of_deeds T B) T.c_Editor T.m_Editor_of_deeds hr (by decide) (fun σ => passAt tk σ) (pv 0) (pa_cons (pv 1) (pa_cons (pv 2) (pa_cons (pv 3) pa_nil)))))) pss_nil)
    (pss_cons (ps_if (pt_cmpR op_le (pv 1) pe_int (nomark _)) (pss_one (ps_ret (omS (ok_Editor_of_looks T) T.c_Editor T.m_Editor_of_looks hr (by decide) (fun σ => passAt tk σ) (pv 0) (pa_cons (pv 1) (pa_cons (pv 2) pa_nil))))) pss_nil)
    (pss_one (ps_ret (omS (ok_Editor_of_records T B) T.c_Editor T.m_Editor_of_records hr (by decide) (fun σ => passAt tk σ) (pv 0) (pa_cons (pv 1) pa_nil))))))) (fun a oe cls d pn hz hf => by exact (pss_one (ps_ret (pe_lst (pa_cons (pe_xf T.xf T.rno hz hf (pv 4)) pa_nil))))))), ?_⟩)
  obtain ⟨_, _, _, _, rfl, e, g, call, aN, l, aR, r, rfl, hE, Pg, hok, rfl, rfl, hN, rfl, hR, hsz, h1, hrl, hb, hwf, hT, hA⟩ := h
  have h13 : call < 14 := (List.getElem?_eq_some_iff.mp hsz).1
  have key : ∀ (E : XK) (σ4 : L2.St), (∀ d H', Kp H H' → Tk K H' → EdAt K H' e g → ∀ z, pAns0 g call l r = .error z → H' d = some (.xd [("code", .int z)]) → E (.ref (CR K)) (some d) H') → Ans K e g (pAns0 g call l r) H Q E := fun E σ4 he => by
    unfold pAns at hA
    cases hp : pAns0 g call l r with
    | ok x =>
      rw [hp] at hA
      exact hA
    | error z => exact fun d H' k t s hd => he d H' k t s z hp hd
  have suite : ∀ (z : Int), pAns0 g call l r = .error z → ∀ d H', Kp H H' → Tk K H' → EdAt K H' e g → H' d = some (.xd [("code", .int z)]) → ∀ a, H' a = none → ∀ D : Ends, D.rt = Q →
      tRet (tLst (tCons (tXf a (.ref (CR K)) (some d) (CR K) "code" (tVar 4)) tNil)) D [some (.ref e), some (.int (call : Int)), some (.ref aN), some (.ref aR), some (.ref a)] H' := fun z hp d H' k t s hd a ha D hrt => by
    unfold pAns at hA
    rw [hp] at hA
    have hx : Ev (tXf a (.ref (CR K)) (some d) (CR K) "code" (tVar 4)) [some (.ref e), some (.int (call : Int)), some (.ref aN), some (.ref aR), some (.ref a)] H' (.int z) := fun H1 e1 Q1 q1 => ev_var (v := .ref a) rfl H1 (Ex.refl _) _ fun H2 e2 => ⟨rfl, rfl, d, _, _, rfl, (e1.trans e2) _ _ hd, lk_here, q1 H2 e2⟩
    refine s_retL (el_lst (ea_cons hx ea_nil) (by show 1 ≤ 100000; decide)) fun y H3 n3 e3 hy => ?_
    rw [hrt]
    exact hA y H3 (k.fresh (.of n3)) (k.trans (.of e3)) (t.ex e3) (s.ex e3) hy
  refine q_when (et_leN (c := 4) (ev_var rfl) ev_c) (fun hb1 H1 e1 => ?_) (fun h0 H1 e1 => ?_)
  · have hc := of_decide_eq_true hb1
    refine s_emS (ev_var rfl) (hE.ex e1) (ea_cons (ev_var rfl) (ea_cons (ev_var rfl) (ea_cons (ev_var rfl) ea_nil))) (fun H2 e2 hE2 => ⟨_, _, _, _, rfl, e, g, call, aN, l, aR, r, rfl, hE2, Pg, rfl, rfl, (e1.trans e2) _ _ hN, rfl, (e1.trans e2) _ _ hR, hsz, h1, hc, hrl, hb, hwf, hT.ex (e1.trans e2), ?_⟩) rfl
    refine Ans.ex (r := pDeeds g call l r) ?_ (e1.trans e2)
    rw [show pDeeds g call l r = pAns0 g call l r by unfold pAns0; rw [if_pos hc]]
    exact key _ [] fun d H' k t s z hp hd => ⟨true, T.rem, fun _ a ha => suite z hp d H' k t s hd a ha _ rfl, fun z => by cases z⟩
  have h0 := of_decide_eq_false h0
  refine q_when (et_leN (c := 9) (ev_var rfl) ev_c) (fun hb1 H2 e2 => ?_) (fun h2 H2 e2 => ?_)
  · have hc := of_decide_eq_true hb1
    have e12 := e1.trans e2
    refine s_emS (ev_var rfl) (hE.ex e12) (ea_cons (ev_var rfl) (ea_cons (ev_var rfl) ea_nil)) (fun H3 e3 hE3 => ⟨_, _, _, rfl, e, g, call, aN, l, rfl, hE3, Pg, rfl, rfl, (e12.trans e3) _ _ hN, hsz, by omega, hc, hT.ex (e12.trans e3), ?_⟩) rfl
    refine Ans.ex (r := pLooks g call l) ?_ (e12.trans e3)
    rw [show pLooks g call l = pAns0 g call l r by unfold pAns0; rw [if_neg h0, if_pos hc]]
    exact key _ [] fun d H' k t s z hp hd => ⟨true, T.rem, fun _ a ha => suite z hp d H' k t s hd a ha _ rfl, fun z => by cases z⟩
  · have h2 := of_decide_eq_false h2
    have e12 := e1.trans e2
    refine s_emS (ev_var rfl) (hE.ex e12) (ea_cons (ev_var rfl) ea_nil) (fun H3 e3 hE3 => ⟨_, _, rfl, e, g, call, rfl, hE3, Pg, hok, rfl, hT.ex (e12.trans e3), ?_⟩) rfl
    refine Ans.ex (r := pRecs g call) ?_ (e12.trans e3)
    rw [show pRecs g call = pAns0 g call l r by unfold pAns0; rw [if_neg h0, if_neg h2]]
    exact key _ [] fun d H' k t s z hp hd => ⟨true, T.rem, fun _ a ha => suite z hp d H' k t s hd a ha _ rfl, fun z => by cases z⟩
end Lp
set_option Elab.async false
set_option linter.all false
set_option maxRecDepth 100000
set_option maxHeartbeats 4000000
namespace Lp
open PySem PySem.Spec PyProof.Rows L2 Evl
variable {P : Program} {w : World} {K : PySem.W.Frag} {mg : Str → Option Value} {base : Heap}
/-! ### a list of ours that a call can't change: frozen while it runs -/
section
variable {X : Cx} {pins : List (Addr × Obj)} {σ : List (Option V)} {H : Hp} {s : Shared} {f : Addr} {xs : List V} {ob : Obj}
theorem inv_freeze (I : Inv X pins σ H s) (hf : H f = some (.lst xs)) : ∃ ob, Inv X pins σ (upd H f (.frz ob (.lst xs))) s ∧ (∀ o u, X.H_0 f ≠ some (.frz o u)) := by
  obtain ⟨hz, its, n, rv, e⟩ := (show ObjOk X.prog X.w H s.heap f (.lst xs) from I.hok f _ hf)
  have mu : Mut (H f) := by rw [hf]; trivial
  refine ⟨_, ⟨I.ok, I.os, I.bare, I.base.trans (Un.write mu (.inl rfl) (fun _ _ _ q => q) ⟨_, e⟩), I.loc, I.cell, ?_, fun x c q => ?_, fun p hp => ?_, I.hok.write mu (.inl rfl) (fun _ _ _ q => q) ⟨_, e⟩ ⟨e, hz, its, n, rv, e⟩, I.len⟩, fun o u z => ?_⟩
  · rw [upd_ne (Ne.symm (ne_of_none hf I.free))]
    exact I.free
  · rw [upd_ne (Ne.symm (ne_of_none hf (I.freeC x c q)))]
    exact I.freeC x c q
  · obtain ⟨a, b, c⟩ := I.pin p hp
    refine ⟨a, ?_, c⟩
    rw [upd_ne (Ne.symm (ne_of_none hf b))]
    exact b
  · have := I.base.frzs f o u z
    rw [hf] at this
    cases this
theorem inv_thaw (I : Inv X pins σ H s) (hf : H f = some (.frz ob (.lst xs))) (h0 : ∀ o u, X.H_0 f ≠ some (.frz o u)) : Inv X pins σ (upd H f (.lst xs)) s := by
  obtain ⟨e, hz, its, n, rv, e2⟩ := (show ObjOk X.prog X.w H s.heap f (.frz ob (.lst xs)) from I.hok f _ hf)
  have nb : ∀ {b : Addr} {o : HO}, H b = some o → (∀ ob u, o ≠ .frz ob u) → b ≠ f := fun q n z => by
    rw [z, hf] at q
    exact n _ _ (Option.some.inj q).symm
  refine ⟨I.ok, I.os, I.bare, ⟨I.base.keep, I.base.slot, fun b o q n hx => ?_, I.base.there, fun b ys q => ?_, fun b o u q => ?_, fun b ps q => ?_⟩, I.loc, I.cell, ?_, fun x c q => ?_, fun p hp => ?_, fun b u q => ?_, I.len⟩
  · have z := I.base.free b o q n hx
    rw [upd_ne (Ne.symm (ne_of_none hf z))]
    exact z
  · have z := I.base.tups b ys q
    rw [upd_ne (nb z fun _ _ k => by cases k)]
    exact z
  · have z := I.base.frzs b o u q
    rw [upd_ne (fun k => by rw [k] at q; exact h0 _ _ q)]
    exact z
  · obtain ⟨m, z⟩ := I.base.tbls b ps q
    refine ⟨m, ?_⟩
    rw [upd_ne (nb z fun _ _ k => by cases k)]
    exact z
  · rw [upd_ne (Ne.symm (ne_of_none hf I.free))]
    exact I.free
  · rw [upd_ne (Ne.symm (ne_of_none hf (I.freeC x c q)))]
    exact I.freeC x c q
  · obtain ⟨a, b, c⟩ := I.pin p hp
    refine ⟨a, ?_, c⟩
    rw [upd_ne (Ne.symm (ne_of_none hf b))]
    exact b
  · by_cases hb : b = f
    · subst hb
      rw [upd_same] at q
      cases q
      exact ⟨hz, its, n, rv, e2⟩
    · rw [upd_ne hb] at q
      refine (I.hok b u q).stay (fun _ _ _ z => z) (fun c z => ?_) fun c ys z => ?_
      · rw [upd_ne (nb z fun _ _ k => by cases k)]
        exact z
      · rw [upd_ne (nb z fun _ _ k => by cases k)]
        exact z
/-- an expression, while the list at slot i is frozen -/
def tFz (i : Nat) (te : TE) : TE := fun σ H Q => ∃ f xs, σ[i]? = some (some (.ref f)) ∧ H f = some (.lst xs) ∧ ∀ ob, te σ (upd H f (.frz ob (.lst xs))) fun v H' => H' f = some (.frz ob (.lst xs)) ∧ Q v (upd H' f (.lst xs))
theorem pe_fz {e : Expr} {te : TE} (i : Nat) (h : PE X e te) : PE X e (tFz i te) := ⟨fun pins s σ H Q I ⟨f, xs, hi, hf, k⟩ => by
  obtain ⟨ob, I1, h0⟩ := inv_freeze I hf
  exact thn (h.run pins s σ _ _ I1 (k ob)) fun v s1 ⟨x, H1, I2, r, hf1, q⟩ => ⟨x, _, inv_thaw I2 hf1 h0, r, q⟩⟩
end
/-! ### what an editor holds, apart from a frozen list -/
def hide (H : Hp) (f : Addr) : Hp := fun a => if a = f then none else H a
section
variable {H H' : Hp} {f : Addr} {ys : List V} {ob : Obj}
theorem hide_ne {a : Addr} (h : a ≠ f) : hide H f a = H a := if_neg h
theorem hide_ex (e : Ex H H') : Ex (hide H f) (hide H' f) := fun a o h => by
  unfold hide at h ⊢
  split at h
  · cases h
  · rename_i n
    rw [if_neg n]
    exact e a o h
theorem hide_le : Ex (hide H f) H := fun a o h => by
  unfold hide at h
  split at h
  · cases h
  · exact h
theorem hide_upd {o : HO} : hide (upd H f o) f = hide H f := by
  funext a
  unfold hide upd
  split <;> rfl
theorem hide_to {o : HO} : Ex (hide H f) (upd H f o) := fun a u h => by
  rw [← hide_upd (o := o)] at h
  exact hide_le a u h
variable (hf : H f = some (.frz ob (.lst ys)))
include hf
theorem hide_at {a : Addr} {o : HO} (h : H a = some o) (n : ∀ ob u, o ≠ .frz ob u) : hide H f a = some o := by
  rw [hide_ne (fun z => by rw [z, hf] at h; exact n _ _ (Option.some.inj h).symm)]
  exact h
theorem hide_l {a : Addr} {xs : List V} (h : H a = some (.lst xs)) : hide H f a = some (.lst xs) := hide_at hf h fun _ _ z => by cases z
theorem hide_i {a C dx : Addr} {fs : List (Str × V)} (h : H a = some (.ins C dx fs)) : hide H f a = some (.ins C dx fs) := hide_at hf h fun _ _ z => by cases z
theorem hide_t {a : Addr} {xs : List V} (h : SqT K H a xs) : SqT K (hide H f) a xs := by
  rcases h with (h | ⟨o, h⟩) | h
  · exact .inl (.inl (hide_at hf h fun _ _ z => by cases z))
  · refine .inl (.inr ⟨o, ?_⟩)
    rw [hide_ne (fun z => by rw [z, hf] at h; cases h)]
    exact h
  · exact .inr h
theorem DotAt.hide {v : V} {d : Nat × Nat} (h : DotAt K H v d) : DotAt K (Lp.hide H f) v d := by
  obtain ⟨r, e, z⟩ := h
  exact ⟨r, e, hide_t hf z⟩
theorem DotsAt.hide {a : Addr} {ds : List (Nat × Nat)} (h : DotsAt K H a ds) : DotsAt K (Lp.hide H f) a ds := by
  obtain ⟨vs, e, z⟩ := h
  exact ⟨vs, hide_l hf e, L2.Paired.mapP z fun _ _ y => y.hide hf⟩
theorem LayA.hide {a aD : Addr} {l : Sq50.Layer} (h : LayA K H a l aD) : LayA K (Lp.hide H f) a l aD := by
  obtain ⟨⟨dx, e⟩, z⟩ := h
  exact ⟨⟨dx, hide_i hf e⟩, z.hide hf⟩
theorem LayAt.hide {v : V} {l : Sq50.Layer} (h : LayAt K H v l) : LayAt K (Lp.hide H f) v l := by
  obtain ⟨a, aD, e, z⟩ := h
  exact ⟨a, aD, e, z.hide hf⟩
theorem LaysAt.hide {a : Addr} {ls : List Sq50.Layer} (h : LaysAt K H a ls) : LaysAt K (Lp.hide H f) a ls := by
  obtain ⟨vs, e, z⟩ := h
  exact ⟨vs, hide_l hf e, L2.Paired.mapP z fun _ _ y => y.hide hf⟩
theorem PicA.hide {a aL aC : Addr} {s : Sq50.State} (h : PicA K H a s aL aC) : PicA K (Lp.hide H f) a s aL aC := by
  obtain ⟨⟨dx, e⟩, z, y⟩ := h
  exact ⟨⟨dx, hide_i hf e⟩, z.hide hf, hide_l hf y⟩
theorem StepsAt.hide {a : Addr} {l : Sq50.Past} (h : StepsAt K H a l) : StepsAt K (Lp.hide H f) a l := by
  obtain ⟨vs, e, z⟩ := h
  refine ⟨vs, hide_l hf e, L2.Paired.mapP z fun _ _ y => ?_⟩
  obtain ⟨r, p, aL, aC, y1, y2, y3⟩ := y
  exact ⟨r, p, aL, aC, y1, hide_t hf y2, y3.hide hf⟩
theorem HistA.hide {h aK aU : Addr} {b : Nat} {past future : Sq50.Past} (s : HistA K H h b past future aK aU) : HistA K (Lp.hide H f) h b past future aK aU := by
  obtain ⟨⟨dx, e⟩, z, y⟩ := s
  exact ⟨⟨dx, hide_i hf e⟩, z.hide hf, y.hide hf⟩
theorem AsideAt.hide {a : Addr} {l : List (Nat × Nat × (Nat × Nat))} (h : AsideAt K H a l) : AsideAt K (Lp.hide H f) a l := by
  obtain ⟨vs, e, z⟩ := h
  refine ⟨vs, hide_l hf e, L2.Paired.mapP z fun _ _ y => ?_⟩
  obtain ⟨r, vd, y1, y2, y3⟩ := y
  exact ⟨r, vd, y1, hide_t hf y2, y3.hide hf⟩
theorem RecAt.hide {a : Addr} {l : List (Nat × List Nat)} (h : RecAt K H a l) : RecAt K (Lp.hide H f) a l := by
  obtain ⟨vs, e, z⟩ := h
  refine ⟨vs, hide_l hf e, L2.Paired.mapP z fun _ _ y => ?_⟩
  obtain ⟨r, m, y1, y2, y3⟩ := y
  exact ⟨r, m, y1, hide_t hf y2, hide_l hf y3⟩
theorem EdAt.hide {e : Addr} {g : Ed} (h : EdAt K H e g) : EdAt K (Lp.hide H f) e g := by
  obtain ⟨p, aL, aC, hh, aK, aU, ag, ar, ⟨dx, z1⟩, z2, z3, z4, z5⟩ := h
  exact ⟨p, aL, aC, hh, aK, aU, ag, ar, ⟨dx, hide_i hf z1⟩, z2.hide hf, z3.hide hf, z4.hide hf, z5.hide hf⟩
theorem Tk.hide (t : Tk K H) : Tk K (Lp.hide H f) := fun p hp => by
  obtain ⟨ps, h1, h2, h3⟩ := t p hp
  refine ⟨ps, hide_at hf h1 (fun _ _ z => by cases z), h2, fun pos cv hc => ?_⟩
  obtain ⟨c, e1, e2⟩ := h3 pos cv hc
  exact ⟨c, e1, hide_at hf e2 fun _ _ z => by unfold LamX.CodeO at z; cases z⟩
end
theorem hide_sq {H : Hp} {f a : Addr} {xs : List V} (n : a ≠ f) (h : SqL K H a xs) : SqL K (hide H f) a xs := by
  rcases h with (h | ⟨o, h⟩) | h
  · exact .inl (.inl (by rw [hide_ne n]; exact h))
  · exact .inl (.inr ⟨o, by rw [hide_ne n]; exact h⟩)
  · exact .inr h
end Lp
set_option Elab.async false
set_option linter.all false
set_option maxRecDepth 100000
set_option maxHeartbeats 4000000
namespace Lp
open PySem PySem.Spec PyProof.Rows L2 Evl
variable {P : Program} {w : World} {K : PySem.W.Frag} {mg : Str → Option Value} {base : Heap}
/-! ### the calls, one behind another -/
structure Turn where
  call : Nat
  l : List Nat
  r : List Nat
  nxt : Nat
/-- what stands at a place: a call, its numbers, its row -/
structure TurnOk (ns : List Int) (at_ : Nat) (t : Turn) : Prop where
  hc : ns[at_]? = some (t.call : Int)
  c1 : 1 ≤ t.call
  sz : szE[t.call]? = some t.l.length
  hl : (ns.drop (at_ + 1)).take t.l.length = t.l.map fun (i : Nat) => (i : Int)
  row : (t.call = 1 ∨ t.call = 2) → ns[at_ + 1 + t.l.length]? = some (t.r.length : Int) ∧ (ns.drop (at_ + 1 + t.l.length + 1)).take t.r.length = (t.r.map fun (i : Nat) => (i : Int)) ∧ t.nxt = at_ + 1 + t.l.length + 1 + t.r.length
  non : ¬ (t.call = 1 ∨ t.call = 2) → t.r = [] ∧ t.nxt = at_ + 1 + t.l.length
  rl : t.r.length ≤ 1024
  rb : ∀ x ∈ t.r, x < 2 ^ 64
  le : t.nxt ≤ ns.length
def Turns (ns : List Int) : Nat → List Turn → Prop
  | a, [] => a = ns.length
  | a, t :: ts => TurnOk ns a t ∧ Turns ns t.nxt ts
def pRun (g : Ed) : List Turn → List Int
  | [] => []
  | t :: ts => ((pAns g t.call t.l t.r).2.length : Int) :: (pAns g t.call t.l t.r).2 ++ pRun (pAns g t.call t.l t.r).1 ts
def RunOk (g : Ed) : List Turn → Prop
  | [] => True
  | t :: ts => Pre g ∧ PlayOk g g.acts ∧ (∀ u, szD[nth t.l 0]? = some t.r.length → pMade g.now g.aside (nth t.l 0) t.r = .ok u → WF u) ∧ (pAns g t.call t.l t.r).2.length ≤ 30 ∧ RunOk (pAns g t.call t.l t.r).1 ts
def sp_answers (K : PySem.W.Frag) : Sp := P1 fun a H Q _ => ∃ (ad : Addr) (ns : List Int) (ts : List Turn), a = .ref ad ∧ SqL K H ad (ns.map V.int) ∧ Turns ns 0 ts ∧ RunOk (begunE 1 1 100 [0]) ts ∧ ts.length ≤ 120 ∧ ns.length ≤ 16000 ∧ Tk K H ∧ ∀ y H', H' y = some (.lst ((pRun (begunE 1 1 100 [0]) ts).map V.int)) → Q (.ref y) H'
theorem szE_V : [.int (0), .int (3), .int (1), .int (0), .int (0), .int (1), .int (1), .int (1), .int (0), .int (0), .int (0), .int (0), .int (0), .int (0)] = nums szE := rfl
section
variable {σ : L2.St} {H : Hp} {te ta : TE} {f p : Addr} {xs ys : List V} {D : Ends} {tz : TS}
theorem q_asgFz {i j : Nat} (hi : σ[i]? = some (some (.ref f))) (hf : H f = some (.lst xs)) (k : ∀ ob, te σ (upd H f (.frz ob (.lst xs))) fun v H' => H' f = some (.frz ob (.lst xs)) ∧ tz D (σ.set j (some v)) (upd H' f (.lst xs))) : tSeq (tAsg (tFz i te) (gName j)) tz D σ H := ⟨f, xs, hi, hf, k⟩
theorem q_extV (hl : H f = some (.lst xs)) (ha : Ev ta σ H (.ref f)) (h : Ev te σ H (.ref p)) (hp : H p = some (.lst ys)) (hz : xs.length + ys.length ≤ 100000) (k : ∀ H1, Ex H H1 → tz D σ (upd H1 f (.lst (xs ++ ys)))) : tSeq (tDrop (tBM K "list" (rExt2 K) ta (tCons te tNil))) tz D σ H :=
  ha H (Ex.refl _) _ fun H1 e1 => ⟨.inl ⟨rfl, xs, sq_of (e1 _ _ hl)⟩, h H1 e1 _ fun H2 e2 => ⟨f, p, xs, ys, rfl, rfl, e2 _ _ (e1 _ _ hl), .inl (e2 _ _ (e1 _ _ hp)), sz_of hz, k H2 (e1.trans e2)⟩⟩
end
theorem cut_ns {ns : List Int} {l : List Nat} {a b : Nat} (h : (ns.drop a).take l.length = l.map fun (i : Nat) => (i : Int)) (hb : b = a + l.length) : cutV (ns.map V.int) (some (a : Int)) (some (b : Int)) = nums l := by
  rw [cut_mid, ← List.map_drop, ← List.map_take, show b - a = l.length by omega, h, nums_map]
theorem at_ns {ns : List Int} {a : Nat} {i : Int} (h : ns[a]? = some i) : atI (ns.map V.int) (a : Int) = some (.int i) := atI_nat (by rw [List.getElem?_map, h]; rfl)
/-- what holds at the loop's head -/
structure Head (K : PySem.W.Frag) (ad e f : Addr) (ns : List Int) (all : List Int) (m : Nat) (σ : L2.St) (H : Hp) : Prop where
  is : ∃ (a : Nat) (g : Ed) (us : List Turn) (out : List Int) (x4 x5 x6 x7 x8 : Option V), σ = [some (.ref ad), some (.ref e), some (.ref f), some (.int (a : Int)), x4, x5, x6, x7, x8] ∧ m = us.length ∧ Turns ns a us ∧ RunOk g us ∧ all = out ++ pRun g us ∧
    out.length + 31 * us.length ≤ 31 * 120 ∧ EdAt K (hide H f) e g ∧ SqL K (hide H f) ad (ns.map V.int) ∧ Tk K (hide H f) ∧ H f = some (.lst (out.map V.int))
theorem Turns.cons {ns : List Int} {a : Nat} {us : List Turn} (h : Turns ns a us) (hlt : a < ns.length) : ∃ t vs, us = t :: vs ∧ TurnOk ns a t ∧ Turns ns t.nxt vs := by
  cases us with
  | nil => exact absurd (show a = ns.length from h) (by omega)
  | cons t vs => exact ⟨t, vs, rfl, h.1, h.2⟩
theorem Turns.nil {ns : List Int} {a : Nat} {us : List Turn} (h : Turns ns a us) (hge : ¬ a < ns.length) : us = [] := by
  cases us with
  | nil => rfl
  | cons t vs => exact absurd (List.getElem?_eq_some_iff.mp h.1.hc).1 hge
theorem in_row (n : Nat) : (inV (.int (n : Int)) [.int (1), .int (2)]) = decide (n = 1 ∨ n = 2) := by
  rw [Bool.eq_iff_iff, decide_eq_true_iff]
  show ((_ || (_ || false)) = true) ↔ _
  simp only [Bool.or_false, Bool.or_eq_true]
  constructor
  · rintro (h | h)
    · exact .inl (by simp [eqV] at h; omega)
    · exact .inr (by simp [eqV] at h; omega)
  · rintro (rfl | rfl)
    · exact .inl rfl
    · exact .inr rfl
theorem ok_answers (T : Tx K mg) (B : TBs K mg base) : Ok P w K mg base CX0 16 (He.ga K "answers") ["calls"] (sp_answers K) := by
  refine mk0 T.f_answers sc_answers bd_answers P1.len (fun cdv A outer s H vs Q E hr h => ⟨_, (pss_cons (ps_set (i := 1) sc_answers.nd rfl (Or.inl rfl) (ok_new0 (ok_Editor_init T) T.k_Editor hr (by decide) T.g_Editor ((pass0 : Passes CX0 _ E0))))
    (pss_cons (ps_set (i := 2) sc_answers.nd rfl (Or.inl rfl) (pe_lst pa_nil))
    (pss_cons (ps_set (i := 3) sc_answers.nd rfl (Or.inl rfl) pe_int)
    (pss_cons (ps_while PassesOwn.never (pt_cmpR op_lt (pv 3) (pe_callB (k_len (K := K)) (by rfl) T.b_len (by decide +kernel) (pa_cons (pv 0) pa_nil)) (nomark _)) (pss_cons (ps_set (i := 4) sc_answers.nd rfl (Or.inl rfl) (pe_ix (kix_list (K := K)) (pv 0) (pv 3) (fun _ _ => rfl)))
    (pss_cons (ps_set (i := 5) sc_answers.nd rfl (Or.inl rfl) (pe_op op_add (pe_op op_add (pv 3) pe_int) (pe_ix (kix_tup (K := K)) (pgr T.g_SIZES_editor) (pv 4) (fun _ _ => rfl))))
    (pss_cons (ps_set (i := 6) sc_answers.nd rfl (Or.inl rfl) (pe_slice (ksl_list (K := K)) (pv 0) (po_some (pe_op op_add (pv 3) pe_int)) (po_some (pv 5))))
    (pss_cons (ps_set (i := 7) sc_answers.nd rfl (Or.inl rfl) (pe_lst pa_nil))
    (pss_cons (ps_if (pt_cmpR (k_in (K := K)) (pv 4) (pgr T.g_WITH_ROW) (by rfl)) (pss_cons (ps_set (i := 7) sc_answers.nd rfl (Or.inl rfl) (pe_slice (ksl_list (K := K)) (pv 0) (po_some (pe_op op_add (pv 5) pe_int)) (po_some (pe_op op_add (pe_op op_add (pv 5) pe_int) (pe_ix (kix_list (K := K)) (pv 0) (pv 5) (fun _ _ => rfl))))))
    (pss_one (ps_set (i := 5) sc_answers.nd rfl (Or.inl rfl) (pe_op op_add (pe_op op_add (pv 5) pe_int) (pe_ix (kix_list (K := K)) (pv 0) (pv 5) (fun _ _ => rfl)))))) pss_nil)
    (pss_cons (ps_set (i := 8) sc_answers.nd rfl (Or.inl rfl) (pe_fz 2 (om (ok_Editor_answer T B) T.c_Editor T.m_Editor_answer hr (by decide) ((pass0 : Passes CX0 _ E0)) (pv 1) (pa_cons (pv 4) (pa_cons (pv 6) (pa_cons (pv 7) pa_nil))))))
    (pss_cons (ps_expr (kbm (K := K) PySem.F.plainAttrs_list PySem.F.slot_list_append PySem.F.type_list_append mt_append (pv 2) (pa_cons (pe_callB (k_len (K := K)) (by rfl) T.b_len (by decide +kernel) (pa_cons (pv 8) pa_nil)) pa_nil)))
    (pss_cons (ps_expr (kbm (K := K) PySem.F.plainAttrs_list PySem.F.slot_list_extend PySem.F.type_list_extend (k_ext2 (K := K)) (pv 2) (pa_cons (pv 8) pa_nil)))
    (pss_one (ps_set (i := 3) sc_answers.nd rfl (Or.inl rfl) (pv 5))))))))))))
    (pss_one (ps_ret (pv 2))))))), ?_⟩)
  obtain ⟨_, rfl, ad, ns, ts, rfl, hS, hT0, hR, hn, hz, hT, k⟩ := h
  refine q_asgN evn_editor fun e H1 n1 e1 hE => ?_
  refine q_asgL (el_lst ea_nil (by show 0 ≤ 100000; decide)) fun f H2 nf e2 hf => ?_
  have nf0 : H f = none := fresh_back e1 nf
  have hsq : ∀ H', SqL K H' ad (ns.map V.int) → SqL K (hide H' f) ad (ns.map V.int) := fun H' h' => by
    rcases id hS with (z | ⟨o, z⟩) | z
    · exact hide_sq (ne_of_none z nf0) h'
    · exact hide_sq (ne_of_none z nf0) h'
    · exact .inr z
  have hE2 : EdAt K (hide H2 f) e (begunE 1 1 100 [0]) := hE.ex fun a o h => by
    rw [hide_ne (ne_of_none h nf)]
    exact e2 a o h
  have hT2 : Tk K (hide H2 f) := hT.ex fun a o h => by
    rw [hide_ne (ne_of_none h nf0)]
    exact e2 a o (e1 a o h)
  refine q_asg ev_c fun H3 e3 => ?_
  refine q_while (Head K ad e f ns (pRun (begunE 1 1 100 [0]) ts)) ts.length ⟨0, _, ts, [], none, none, none, none, none, rfl, rfl, hT0, hR, rfl, by show 0 + _ ≤ _; omega, hE2.ex (hide_ex e3), hsq _ (ex_l ((e1.trans e2).trans e3) hS), hT2.ex (hide_ex e3), e3 _ _ hf⟩ ?_
  rintro m σ' H4 ⟨a, g, us, out, x4, x5, x6, x7, x8, rfl, rfl, hTu, hRu, hall, hlen, hE4, hS4, hT4, hf4⟩
  have hS4' : ∀ {H'}, Ex H4 H' → SqL K H' ad (ns.map V.int) := fun e' => ex_l (hide_le.trans e') hS4
  refine ⟨decide (a < ns.length), et_is (et_test (ev_op (ev_var rfl) (ev_len (ev_var rfl) (hS4' (Ex.refl _))) rv_I0)) (decide_eq_decide.mpr (by rw [List.length_map]; omega)), fun hb H5 e5 => ?_, fun hb H5 e5 => ?_⟩
  · obtain ⟨t, vs, rfl, tk, hTv⟩ := hTu.cons (of_decide_eq_true hb)
    obtain ⟨Pg, hpl, hwf, hsm, hRv⟩ := hRu
    have h14 : t.call < 14 := (List.getElem?_eq_some_iff.mp tk.sz).1
    refine ⟨Head K ad e f ns (pRun (begunE 1 1 100 [0]) ts) vs.length, fun σ2 H2 h => ⟨vs.length, by show _ < (t :: vs).length; rw [List.length_cons]; omega, h⟩, ?_⟩
    refine q_asg (ev_op (ev_var rfl) (ev_var rfl) (rv_ixL (hS4' e5) (at_ns tk.hc))) fun H6 e6 => ?_
    refine q_asg (v := .int ((a + 1 + t.l.length : Nat) : Int)) (ev_is (ev_op (ev_op (ev_var rfl) ev_c rv_I0) (ev_op ev_c (ev_var rfl) (rv_ixT (v := .int (t.l.length : Int)) (T.t_SIZES_editor H6) (atI_nat (by rw [szE_V, List.getElem?_map, tk.sz]; rfl)))) rv_I0) (congrArg V.int (by push_cast; rfl))) fun H7 e7 => ?_
    have e47 := (e5.trans e6).trans e7
    refine q_asgL (el_sl (lo := some ((a + 1 : Nat) : Int)) (ev_var rfl) (eo_some (ev_is (ev_op (ev_var rfl) ev_c rv_I0) (congrArg V.int (by push_cast; rfl)))) (eo_some (ev_var rfl)) (hS4' e47)) fun aN H8 nN e8 hN => ?_
    rw [cut_ns tk.hl rfl] at hN
    refine q_asgL (el_lst ea_nil (by show 0 ≤ 100000; decide)) fun aR0 H9 nR e9 hR9 => ?_
    have e49 := (e47.trans e8).trans e9
    refine q_ifM (b := decide (t.call = 1 ∨ t.call = 2)) (fun σ2 H' => ∃ aR, Ex H9 H' ∧ aR ≠ f ∧ H' aR = some (.lst (nums t.r)) ∧ σ2 = [some (.ref ad), some (.ref e), some (.ref f), some (.int (a : Int)), some (.int (t.call : Int)), some (.int (t.nxt : Int)), some (.ref aN), some (.ref aR), x8]) (et_is (et_test (ev_op (ev_var rfl) ev_c (rv_isT (T.t_WITH_ROW H9) rfl rfl))) (in_row _)) (fun hb2 H10 e10 D2 hD2 => ?_) (fun hb2 H10 e10 D2 hD2 => ?_) ?_
    · obtain ⟨r1, r2, r3⟩ := tk.row (of_decide_eq_true hb2)
      refine q_asgL (el_sl (lo := some ((a + 1 + t.l.length + 1 : Nat) : Int)) (hi := some ((a + 1 + t.l.length + 1 + t.r.length : Nat) : Int)) (ev_var rfl) (eo_some (ev_is (ev_op (ev_var rfl) ev_c rv_I0) (congrArg V.int (by push_cast; rfl)))) (eo_some (ev_is (ev_op (ev_op (ev_var rfl) ev_c rv_I0) (ev_op (ev_var rfl) (ev_var rfl) (rv_ixL (hS4' (e49.trans e10)) (at_ns r1))) rv_I0) (congrArg V.int (by push_cast; rfl)))) (hS4' (e49.trans e10))) fun aR H11 n11 e11 hR11 => ?_
      rw [cut_ns r2 rfl] at hR11
      refine s_asg (v := .int (t.nxt : Int)) (ev_is (ev_op (ev_op (ev_var rfl) ev_c rv_I0) (ev_op (ev_var rfl) (ev_var rfl) (rv_ixL (hS4' ((e49.trans e10).trans e11)) (at_ns r1))) rv_I0) (congrArg V.int (by rw [r3]; push_cast; rfl))) fun H12 e12 => hD2 _ _ ⟨aR, (e10.trans e11).trans e12, fun z => (by rw [z, (e49.trans e10) _ _ hf4] at n11; cases n11), e12 _ _ hR11, rfl⟩
    · obtain ⟨r1, r2⟩ := tk.non (of_decide_eq_false hb2)
      exact hD2 _ _ ⟨aR0, e10, fun z => (by rw [z, (e47.trans e8) _ _ hf4] at nR; cases nR), by rw [e10 _ _ hR9, r1]; rfl, by rw [r2]; rfl⟩
    · rintro σ2 H10 ⟨aR, e10, nfR, hR10, rfl⟩
      have e410 := e49.trans e10
      have hN10 := e10 _ _ (e9 _ _ hN)
      have hf10 := e410 _ _ hf4
      have nfN : aN ≠ f := fun z => by
        rw [z] at nN
        rw [e47 _ _ hf4] at nN
        cases nN
      have hfL : out.length < 100000 := by rw [List.length_cons] at hlen; omega
      refine q_asgFz (f := f) (xs := out.map V.int) rfl hf10 fun ob => ?_
      have E10 : EdAt K (upd H10 f (.frz ob (.lst (out.map V.int)))) e g := (hE4.ex (hide_ex e410)).ex hide_to
      have T10 : Tk K (upd H10 f (.frz ob (.lst (out.map V.int)))) := (hT4.ex (hide_ex e410)).ex hide_to
      have S10 : SqL K (upd H10 f (.frz ob (.lst (out.map V.int)))) ad (ns.map V.int) := ex_l hide_to (ex_l (hide_ex e410) hS4)
      obtain ⟨p, aL, aC, h, aK, aU, ag, ar, hEA⟩ := id E10
      obtain ⟨dx, ho⟩ := hEA.obj
      refine em (ev_var rfl) ho (eF_no (by decide +kernel)) (.of (ea_cons (ev_var rfl) (ea_cons (ev_var rfl) (ea_cons (ev_var rfl) ea_nil)))) fun vs2 H11 e11 ev => ?_
      subst ev
      refine ⟨_, _, _, _, rfl, e, g, t.call, aN, t.l, aR, t.r, rfl, E10.ex e11, Pg, hpl, rfl, rfl, e11 _ _ ((upd_ne nfN).trans hN10), rfl, e11 _ _ ((upd_ne nfR).trans hR10), tk.sz, tk.c1, by have := tk.rl; omega, tk.rb, hwf, T10.ex e11, fun y H12 fr kp tk2 hE12 hy => ?_⟩
      have hfz : H12 f = some (.frz ob (.lst (out.map V.int))) := kp.keep _ _ (e11 _ _ upd_same) trivial
      have hyf : y ≠ f := fun z => by
        rw [z, hfz] at hy
        cases hy
      refine ⟨hfz, ?_⟩
      generalize hA : pAns g t.call t.l t.r = A at *
      refine q_app (xs := out.map V.int) (v := .int (A.2.length : Int)) upd_same (ev_var rfl) (ev_is (ev_len (ev_var rfl) (sq_of ((upd_ne hyf).trans hy))) (by rw [List.length_map])) (by rw [List.length_map]; exact hfL) fun H13 e13 => ?_
      refine q_extV (f := f) (p := y) (ys := A.2.map V.int) upd_same (ev_var rfl) (ev_var rfl) ((upd_ne hyf).trans (e13 _ _ ((upd_ne hyf).trans hy))) (by rw [List.length_append, List.length_map, List.length_map, List.length_singleton]; omega) fun H14 e14 => ?_
      refine s_asg (ev_var rfl) fun H15 e15 => ?_
      have c1 : Ex (hide H12 f) (hide H13 f) := by
        have z := hide_ex (f := f) e13
        rw [hide_upd] at z
        exact z
      have c2 : Ex (hide H13 f) (hide H14 f) := by
        have z := hide_ex (f := f) e14
        rw [hide_upd] at z
        exact z
      have c3 : Ex (hide H14 f) (hide H15 f) := by
        have z := hide_ex (f := f) e15
        rw [hide_upd] at z
        exact z
      have c := (c1.trans c2).trans c3
      refine ⟨t.nxt, A.1, vs, out ++ [(A.2.length : Int)] ++ A.2, _, _, _, _, _, rfl, rfl, hTv, hRv, ?_, ?_, (hE12.hide hfz).ex c, ex_l c (hsq _ (sq_kp (ex_l e11 S10) kp)), (tk2.hide hfz).ex c, ?_⟩
      · rw [hall]
        rw [show pRun g (t :: vs) = ((pAns g t.call t.l t.r).2.length : Int) :: (pAns g t.call t.l t.r).2 ++ pRun (pAns g t.call t.l t.r).1 vs from rfl, hA, List.append_assoc, List.append_assoc]
        rfl
      · rw [List.length_append, List.length_append, List.length_singleton]
        rw [List.length_cons] at hlen
        omega
      · rw [e15 _ _ upd_same, List.map_append, List.map_append]
        rfl
  · have := hTu.nil (of_decide_eq_false hb)
    subst this
    refine s_ret (ev_var rfl) fun H6 e6 => k f H6 ?_
    rw [(e5.trans e6) _ _ hf4, hall]
    show _ = some (HO.lst ((out ++ []).map V.int))
    rw [List.append_nil]
end Lp
set_option Elab.async false
set_option linter.all false
/-! Plain laws: cells and layers. -/
namespace Lq
open Lp
open Sq50 (State Layer Dot Act Clip)
/-! ### cells -/
theorem rows_grid {α : Type} (n : Nat) (g : Nat → Nat → α) : ∀ m, ((List.range m).flatMap fun j => (List.range n).map fun i => g i j) = (List.range (n * m)).map fun k => g (k % n) (k / n)
  | 0 => rfl
  | m + 1 => by
    rw [List.range_succ, List.flatMap_append, rows_grid n g m, Nat.mul_succ, List.range_add, List.map_append, List.map_map]
    congr 1
    simp only [List.flatMap_cons, List.flatMap_nil, List.append_nil]
    refine List.map_congr_left fun i hi => ?_
    have hi := List.mem_range.mp hi
    show g i m = g ((n * m + i) % n) ((n * m + i) / n)
    rw [Nat.mul_add_mod, Nat.mod_eq_of_lt hi, Nat.mul_add_div (by omega), Nat.div_eq_of_lt hi, Nat.add_zero]
theorem cells_eq (s : State) : s.cells = (List.range (s.w * s.h)).map fun i => (i % s.w, i / s.w) := rows_grid s.w (fun i j => (i, j)) s.h
theorem cells_map {α : Type} (s : State) (f : Nat × Nat → α) : s.cells.map f = (List.range (s.w * s.h)).map fun i => f (i % s.w, i / s.w) := by
  rw [cells_eq, List.map_map]
  rfl
theorem back (i w : Nat) : i / w * w + i % w = i := Nat.div_add_mod' i w
theorem is_eq (s : State) (i : Nat) : s.is (i % s.w) (i / s.w) = onB s i := by
  unfold State.is onB
  rw [back]
theorem may_eq (s : State) (i : Nat) : s.may (i % s.w) (i / s.w) = mayB s i := by
  unfold State.may
  rw [is_eq]
  rfl
theorem at_eq (s : State) (l : Layer) (i : Nat) : s.at_ l (i % s.w) (i / s.w) = (l.dots[i]?).getD (0, 0) := by
  unfold State.at_
  rw [back]
/-! ### layers -/
theorem any_ids (ls : List Layer) (n : Nat) : (ls.any fun l => l.id == n) = decide (n ∈ ls.map (·.id)) := by
  induction ls with
  | nil => rfl
  | cons a r ih =>
    rw [List.any_cons, ih, List.map_cons]
    by_cases h : a.id = n
    · simp [h]
    · have h2 : ¬ n = a.id := fun e => h e.symm
      simp [h, h2]
theorem ix_cons (a : Layer) (r : List Layer) (n : Nat) : ix (a :: r) n = if a.id = n then 0 else ix r n + 1 := by
  unfold ix
  rw [List.findIdx_cons]
  by_cases h : a.id = n
  · simp [h]
  · have : (a.id == n) = false := by simp [h]
    rw [if_neg h, this]
    rfl
/-- one layer changed by its number -/
theorem upd_one (f : Layer → Layer) (n : Nat) : ∀ (ls : List Layer), (ls.map (·.id)).Nodup → n ∈ ls.map (·.id) →
    (ls.map fun l => if l.id = n then f l else l) = ls.take (ix ls n) ++ [f ((ls[ix ls n]?).getD lay0)] ++ ls.drop (ix ls n + 1)
  | [], _, h => by cases h
  | a :: r, nd, h => by
    rw [List.map_cons] at nd h
    rw [List.map_cons, ix_cons]
    have nd' := List.nodup_cons.mp nd
    by_cases e : a.id = n
    · rw [if_pos e, if_pos e]
      simp only [List.take_zero, List.nil_append, List.getElem?_cons_zero, Option.getD_some, List.drop_succ_cons, List.drop_zero, List.singleton_append]
      refine congrArg _ ?_
      refine (List.map_congr_left fun l hl => ?_).trans (List.map_id _)
      refine if_neg fun z => nd'.1 ?_
      rw [e, ← z]
      exact List.mem_map_of_mem hl
    · rw [if_neg e, if_neg e]
      have h' : n ∈ r.map (·.id) := by
        rcases List.mem_cons.mp h with h | h
        · exact absurd h.symm e
        · exact h
      rw [upd_one f n r nd'.2 h']
      simp only [List.take_succ_cons, List.cons_append, List.getElem?_cons_succ, List.drop_succ_cons]
theorem find_ix (n : Nat) : ∀ (ls : List Layer), n ∈ ls.map (·.id) → ls.find? (fun l => l.id == n) = ls[ix ls n]?
  | [], h => by cases h
  | a :: r, h => by
    rw [ix_cons, List.find?_cons]
    by_cases e : a.id = n
    · simp [e]
    · have h' : n ∈ r.map (·.id) := by
        rcases List.mem_cons.mp h with h | h
        · exact absurd h.symm e
        · exact h
      simp only [beq_iff_eq, e, if_false, List.getElem?_cons_succ]
      rw [← find_ix n r h']
      have : (a.id == n) = false := by simp [e]
      rw [this]
theorem findIdx_ix (n : Nat) (ls : List Layer) (h : n ∈ ls.map (·.id)) : ls.findIdx? (fun l => l.id == n) = some (ix ls n) := by
  have := ix_lt h
  unfold ix at *
  rw [List.findIdx?_eq_guard_findIdx_lt]
  simp [this]
theorem findIdx_none (n : Nat) (ls : List Layer) (h : ¬ n ∈ ls.map (·.id)) : ls.findIdx? (fun l => l.id == n) = none := by
  rw [List.findIdx?_eq_none_iff]
  intro l hl
  refine Bool.eq_false_iff.mpr fun z => h ?_
  rw [← beq_iff_eq.mp z]
  exact List.mem_map_of_mem hl
theorem place_eq {s : State} (h : s.on ∈ s.layers.map (·.id)) : s.place = pl s := by
  unfold State.place
  rw [findIdx_ix _ _ h]
  rfl
theorem pl_lt {s : State} (h : s.on ∈ s.layers.map (·.id)) : pl s < s.layers.length := ix_lt h
/-- the layer worked on, changed -/
theorem work_eq {s : State} (W : WF s) (f : Nat → Nat → Dot) (F : Nat → Option Dot) (hf : ∀ i, F i = if mayB s i = true then some (f (i % s.w) (i / s.w)) else none) : s.work f = setD s (chD s F) := by
  unfold State.work setD
  rw [upd_one _ _ _ W.nd W.on, layer_eq W.on]
  refine congrArg (fun ls => { s with layers := ls }) ?_
  refine congrArg (fun l => s.layers.take (pl s) ++ [l] ++ s.layers.drop (pl s + 1)) ?_
  refine congrArg (fun ds => { s.layer with dots := ds }) ?_
  rw [cells_map]
  unfold chD
  refine List.map_congr_left fun i _ => ?_
  dsimp only [Option.getD_some]
  rw [hf, may_eq, at_eq]
  by_cases h : mayB s i = true
  · rw [if_pos h, if_pos h]
    rfl
  · rw [if_neg h, if_neg h]
    rfl
end Lq
set_option Elab.async false
set_option linter.all false
/-! Plain laws: layers' deeds, choices, colours. -/
namespace Lq
open Lp
open Sq50 (State Layer Dot Act Clip)
variable {s : State} {c : Option Clip}
theorem wish_t {b : Bool} {z : Int} {r : Except Int State} (h : b = true) : wish b z r = r := if_pos h
theorem wish_f {b : Bool} {z : Int} {r : Except Int State} (h : b = false) : wish b z r = .error z := if_neg (by rw [h]; decide)
/-- wish against a condition that forbids -/
theorem wish_if {p : Prop} [Decidable p] {b : Bool} {z : Int} {r t : Except Int State} (h : b = true ↔ ¬ p) (e : b = true → r = t) : wish b z r = if p then .error z else t := by
  by_cases hp : p
  · rw [if_pos hp]
    exact wish_f (Bool.eq_false_iff.mpr fun hb => h.mp hb hp)
  · rw [if_neg hp, wish_t (h.mpr hp)]
    exact e (h.mpr hp)
theorem app3 {α : Type} (a b : List α) (x : α) : a ++ [x] ++ b = a ++ x :: b := by simp
theorem newL_eq (W : WF s) (ds : List Dot) : newL s ds = { s with layers := s.layers.take (s.place + 1) ++ ⟨s.next, true, 255, 0, ds⟩ :: s.layers.drop (s.place + 1), on := s.next, next := s.next + 1 } := by
  unfold newL
  rw [place_eq W.on, app3]
theorem does_layer (W : WF s) : wish (decide (s.layers.length < 5)) (-5) (.ok (newL s (List.replicate (s.w * s.h) (0, 0)))) = s.does c .layer := by
  unfold State.does
  refine wish_if (by rw [decide_eq_true_iff, show Sq50.LAYERS = 5 from rfl]; omega) fun _ => ?_
  rw [newL_eq W]
theorem hasN_iff (n : Nat) : hasN s n = true ↔ n ∈ s.layers.map (·.id) := by
  unfold hasN
  rw [any_ids, decide_eq_true_iff]
theorem filter_ix (n : Nat) : ∀ (ls : List Layer), (ls.map (·.id)).Nodup → n ∈ ls.map (·.id) → (ls.filter fun l => l.id != n) = ls.take (ix ls n) ++ ls.drop (ix ls n + 1)
  | [], _, h => by cases h
  | a :: r, nd, h => by
    rw [List.map_cons] at nd h
    have nd' := List.nodup_cons.mp nd
    rw [ix_cons, List.filter_cons]
    by_cases e : a.id = n
    · have : (a.id != n) = false := by simp [e]
      rw [this, if_pos e]
      simp only [Bool.false_eq_true, if_false, List.take_zero, List.nil_append, List.drop_succ_cons, List.drop_zero]
      rw [List.filter_eq_self]
      intro l hl
      refine bne_iff_ne.mpr fun z => nd'.1 ?_
      rw [e, ← z]
      exact List.mem_map_of_mem hl
    · have : (a.id != n) = true := by simp [e]
      rw [this, if_neg e]
      have h' : n ∈ r.map (·.id) := by
        rcases List.mem_cons.mp h with h | h
        · exact absurd h.symm e
        · exact h
      simp only [if_true, List.take_succ_cons, List.cons_append, List.drop_succ_cons]
      rw [filter_ix n r nd'.2 h']
theorem any_false_iff (n : Nat) : ((s.layers.any fun l => l.id == n) = false) ↔ ¬ n ∈ s.layers.map (·.id) := by
  rw [any_ids, decide_eq_false_iff_not]
theorem does_drop (W : WF s) (i : Nat) : dGone s i = s.does c (.drop i) := by
  unfold dGone State.does
  refine wish_if (by rw [hasN_iff, any_false_iff, Classical.not_not]) fun h => ?_
  have h := (hasN_iff i).mp h
  rw [filter_ix i _ W.nd h]
  have hl := ix_lt h
  have len : (s.layers.take (ix s.layers i) ++ s.layers.drop (ix s.layers i + 1)).length = s.layers.length - 1 := by
    rw [List.length_append, List.length_take, List.length_drop]
    omega
  cases hr : s.layers.take (ix s.layers i) ++ s.layers.drop (ix s.layers i + 1) with
  | nil =>
    rw [hr] at len
    exact wish_f (decide_eq_false (by simp at len; omega))
  | cons a r =>
    rw [hr] at len
    rw [List.length_cons] at len
    rw [wish_t (decide_eq_true (by omega))]
    rfl
theorem does_raise (W : WF s) (i : Nat) : dUp s i = s.does c (.raise i) := by
  unfold dUp State.does
  by_cases h : i ∈ s.layers.map (·.id)
  · rw [wish_t ((hasN_iff i).mpr h)]
    simp only [findIdx_ix i _ h]
    have hl := ix_lt h
    rw [List.getElem?_eq_getElem hl]
    by_cases h2 : ix s.layers i + 1 < s.layers.length
    · rw [wish_t (decide_eq_true h2), List.getElem?_eq_getElem h2]
      simp
    · rw [wish_f (decide_eq_false h2), List.getElem?_eq_none (by omega)]
  · rw [wish_f (Bool.eq_false_iff.mpr fun z => h ((hasN_iff i).mp z))]
    simp only [findIdx_none i _ h]
theorem ix_id {ls : List Layer} {n : Nat} (h : n ∈ ls.map (·.id)) : ((ls[ix ls n]?).getD lay0).id = n := by
  rw [List.getElem?_eq_getElem (ix_lt h)]
  exact ix_get h
theorem does_how (W : WF s) (i e a m : Nat) : dSo s i e a m = s.does c (.how i e a m) := by
  unfold dSo State.does
  refine wish_if (by simp only [Bool.and_eq_true, decide_eq_true_iff]; omega) fun _ => ?_
  refine wish_if (by rw [hasN_iff, any_false_iff, Classical.not_not]) fun h => ?_
  have h := (hasN_iff i).mp h
  rw [upd_one _ _ _ W.nd h, ix_id h]
theorem does_work (i : Nat) : dWork s i = s.does c (.work i) := by
  unfold dWork State.does
  exact wish_if (by rw [hasN_iff, any_false_iff, Classical.not_not]) fun h => rfl
/-! ### choices -/
theorem zip_range {α β γ : Type} (f : α → β → γ) (g : Nat → β) (d : α) (l : List α) : List.zipWith f l ((List.range l.length).map g) = (List.range l.length).map fun i => f ((l[i]?).getD d) (g i) := by
  apply List.ext_getElem
  · simp
  · intro i h1 h2
    simp at h1 h2
    simp [List.getElem?_eq_getElem h2]
theorem joinS_eq (W : WF s) (how : Nat) (g : Nat → Bool) : joinS s how ((List.range (s.w * s.h)).map g) = { s with chosen := (List.range (s.w * s.h)).map fun i => Sq44.joined how (onB s i) (g i) } := by
  unfold joinS
  rw [← W.cho, zip_range _ _ false]
  rfl
theorem gcells (s : State) : s.choice.cells = (List.range (s.w * s.h)).map fun i => (i % s.w, i / s.w) := rows_grid s.w (fun i j => (i, j)) s.h
theorem gon (s : State) (i : Nat) : s.choice.on (i % s.w, i / s.w) = onB s i := by
  unfold Sq44.House.on State.choice onB
  simp only [back, List.getElem?_toArray]
theorem take_with (s : State) (f : Nat × Nat → Bool) : s.take (s.choice.with_ f) = { s with chosen := (List.range (s.w * s.h)).map fun i => f (i % s.w, i / s.w) } := by
  unfold State.take Sq44.House.with_
  rw [gcells, List.map_map]
  rfl
theorem take_join (W : WF s) (how : Nat) (f : Nat × Nat → Bool) (g : Nat → Bool) (hg : ∀ i, i < s.w * s.h → g i = f (i % s.w, i / s.w)) : joinS s how ((List.range (s.w * s.h)).map g) = s.take (s.choice.join how f) := by
  rw [joinS_eq W]
  unfold Sq44.House.join
  rw [take_with]
  congr 1
  refine List.map_congr_left fun i hi => ?_
  rw [gon, hg i (List.mem_range.mp hi)]
theorem does_rect (W : WF s) (how x y w h : Nat) : wish (decide (how ≤ 4)) (-1) (.ok (joinS s how ((List.range (s.w * s.h)).map (rectB s x y w h)))) = s.does c (.rect how x y w h) := by
  unfold State.does
  refine wish_if (by rw [decide_eq_true_iff]; omega) fun h => ?_
  have h := of_decide_eq_true h
  refine congrArg _ ?_
  rw [take_join W how _ _ fun i _ => ?_]
  · rw [Sq44.House.step, if_neg (by omega)]
    rfl
  · unfold rectB
    simp only [Bool.and_assoc]
theorem does_all (W : WF s) (how : Nat) : wish (decide (how ≤ 4)) (-1) (.ok (joinS s how (List.replicate (s.w * s.h) true))) = s.does c (.all how) := by
  unfold State.does
  refine wish_if (by rw [decide_eq_true_iff]; omega) fun h => ?_
  have h := of_decide_eq_true h
  refine congrArg _ ?_
  have : List.replicate (s.w * s.h) true = (List.range (s.w * s.h)).map fun _ => true := by
    rw [List.map_const', List.length_range]
  rw [this, take_join W how (fun _ => true) _ fun i _ => rfl]
  rw [Sq44.House.step, if_neg (by omega)]
  rfl
theorem apart_sq (a b : Nat) : (((Sq44.apart a b) ^ 2 : Nat) : Int) = ((a : Int) - b) * ((a : Int) - b) := by
  unfold Sq44.apart
  rw [Nat.pow_two]
  rcases Nat.le_total a b with h | h
  · have e : (a - b) + (b - a) = b - a := by omega
    have e2 : (a : Int) - b = -((b - a : Nat) : Int) := by omega
    rw [e, e2, Int.neg_mul_neg, Int.natCast_mul]
  · have e : (a - b) + (b - a) = a - b := by omega
    have e2 : (a : Int) - b = ((a - b : Nat) : Int) := by omega
    rw [e, e2, Int.natCast_mul]
theorem far_eq (s : State) (i g : Nat) : ((Sq44.far (i % s.w, i / s.w) (g % s.w, g / s.w) : Nat) : Int) = sqd s i g := by
  unfold Sq44.far sqd
  rw [Int.natCast_add, apart_sq, apart_sq]
theorem near_eq (s : State) (r : Nat) (p : Nat → Bool) (q : Nat × Nat → Bool) (hq : ∀ i, q (i % s.w, i / s.w) = p i) (i : Nat) :
    ((s.choice.cells.filter q).any fun z => decide (Sq44.far (i % s.w, i / s.w) z ≤ r)) = ((List.range (s.w * s.h)).filter p).any fun g => decide (sqd s i g ≤ r) := by
  rw [gcells, List.filter_map, List.any_map]
  have : (q ∘ fun i => (i % s.w, i / s.w)) = p := funext hq
  rw [this]
  congr 1
  funext g
  show decide (Sq44.far (i % s.w, i / s.w) (g % s.w, g / s.w) ≤ r) = _
  rw [← far_eq]
  exact decide_eq_decide.mpr (by omega)
theorem does_grow (r : Nat) : wish (decide (r ≤ 1000)) (-1) (.ok { s with chosen := pNear s r (onL s) }) = s.does c (.grow r) := by
  unfold State.does
  refine wish_if (by rw [decide_eq_true_iff]; omega) fun h => ?_
  refine congrArg _ ?_
  unfold Sq44.House.grown
  rw [take_with]
  unfold pNear
  congr 1
  refine List.map_congr_left fun i _ => ?_
  exact (near_eq s r (onB s) _ (gon s) i).symm
theorem does_shrink (r : Nat) : wish (decide (r ≤ 1000)) (-1) (.ok { s with chosen := (pNear s r (offL s)).map fun b => !b }) = s.does c (.shrink r) := by
  unfold State.does
  refine wish_if (by rw [decide_eq_true_iff]; omega) fun h => ?_
  refine congrArg _ ?_
  unfold Sq44.House.shrunk
  rw [take_with]
  unfold pNear
  rw [List.map_map]
  congr 1
  refine List.map_congr_left fun i _ => ?_
  exact congrArg (fun b => !b) (near_eq s r (fun i => !onB s i) (fun p => !s.choice.on p) (fun i => by rw [gon]) i).symm
/-! ### colours -/
theorem does_fill (W : WF s) (v d : Nat) : wish (decide (v ≤ 255) && decide (d ≤ 255)) (-1) (.ok (setD s (chD s fun i => if mayB s i = true then some (v, d) else none))) = s.does c (.fill v d) := by
  unfold State.does
  refine wish_if (by simp only [Bool.and_eq_true, decide_eq_true_iff]; omega) fun h => ?_
  rw [work_eq W _ _ fun i => rfl]
theorem does_cut (W : WF s) : .ok (setD s (chD s fun i => if mayB s i = true then some (0, 0) else none)) = s.does c .cut := by
  unfold State.does
  rw [work_eq W _ _ fun i => rfl]
theorem col_at (s : State) (x y : Nat) : s.colours.at_ x y = colN s (y * s.w + x) := by
  unfold Sq45.Picture.at_ State.colours colN colL
  simp only [List.getElem?_toArray]
theorem place1 {n i j r : Nat} (hn : 1 ≤ n) : Sq45.place 1 n ((i : Int) + j - r) = some (nearN i j r n) := by
  unfold Sq45.place nearN
  by_cases h : 0 ≤ (i : Int) + j - r ∧ (i : Int) + j - r < n
  · rw [if_pos h]
    congr 1
    omega
  · rw [if_neg h]
    by_cases h2 : (i : Int) + j - r < 0
    · show some (if (i : Int) + j - r < 0 then 0 else n - 1) = _
      rw [if_pos h2]
      congr 1
      omega
    · show some (if (i : Int) + j - r < 0 then 0 else n - 1) = _
      rw [if_neg h2]
      congr 1
      omega
theorem window_eq (W : WF s) (r i : Nat) : s.colours.window 1 r (i % s.w) (i / s.w) = pWindow s i r := by
  unfold Sq45.Picture.window pWindow
  congr 1
  funext j
  unfold wRow
  rw [← List.filterMap_eq_map]
  congr 1
  funext k
  have h1 : Sq45.place 1 s.colours.w (((i % s.w : Nat) : Int) + k - r) = some (nearN (i % s.w) k r s.w) := place1 W.w1
  have h2 : Sq45.place 1 s.colours.h (((i / s.w : Nat) : Int) + j - r) = some (nearN (i / s.w) j r s.h) := place1 W.h1
  rw [h1, h2]
  dsimp only
  rw [col_at]
  rfl
theorem does_by (W : WF s) (r : Nat) (f : List Nat → Nat) : (s.work fun x y => (f (s.colours.window 1 r x y), (s.at_ s.layer x y).2)) = setD s (chD s (bwF s r f)) := by
  refine work_eq W _ _ fun i => ?_
  unfold bwF
  rw [window_eq W, at_eq]
  rfl
theorem does_mean (W : WF s) (r : Nat) : wish (decide (r ≤ 4)) (-1) (.ok (setD s (chD s (bwF s r Sq45.mean)))) = s.does c (.mean r) := by
  unfold State.does
  refine wish_if (by rw [decide_eq_true_iff]; omega) fun h => ?_
  rw [does_by W]
theorem does_rank (W : WF s) (r p q : Nat) : wish (decide (r ≤ 4) && (decide (0 < q) && decide (p ≤ q))) (-1) (.ok (setD s (chD s (bwF s r (Sq45.ranked p q))))) = s.does c (.rank r p q) := by
  unfold State.does
  refine wish_if (by simp only [Bool.and_eq_true, decide_eq_true_iff]; omega) fun h => ?_
  rw [does_by W]
/-! ### pictures -/
theorem reshaped_eq (s : State) (w h : Nat) (f : Nat → Nat → Nat × Nat) (ps : List Nat) (hp : ((List.range h).flatMap fun y => (List.range w).map fun x => (f x y).2 * s.w + (f x y).1) = ps) : s.reshaped w h f = rearr s w h ps := by
  subst hp
  unfold State.reshaped rearr
  have e : ∀ {α : Type} (g : Nat → α), (((List.range h).flatMap fun y => (List.range w).map fun x => f x y).map fun c => g (c.2 * s.w + c.1)) = ((List.range h).flatMap fun y => (List.range w).map fun x => (f x y).2 * s.w + (f x y).1).map g := by
    intro α g
    rw [List.map_flatMap, List.map_flatMap]
    congr 1
    funext y
    rw [List.map_map, List.map_map]
    rfl
  dsimp only
  congr 1
  · congr 1
    funext l
    refine congrArg (fun ds => { l with dots := ds }) ?_
    exact e fun i => (l.dots[i]?).getD (0, 0)
  · exact e fun i => (s.chosen[i]?).getD false
theorem does_turn (k : Nat) : wish (decide (k ≤ 2)) (-1) (.ok (pTurn s k)) = s.does c (.turn k) := by
  unfold State.does
  refine wish_if (by rw [decide_eq_true_iff]; omega) fun h => ?_
  refine congrArg _ ?_
  unfold pTurn turnW turnH turnP turnF turnW turnH
  by_cases h0 : k = 0
  · simp only [h0, if_true]
    exact (reshaped_eq s s.w s.h (fun x y => (s.w - 1 - x, y)) _ rfl).symm
  · by_cases h1 : k = 1
    · simp only [h1, if_true, if_neg (by decide : ¬ (1 : Nat) = 0)]
      exact (reshaped_eq s s.w s.h (fun x y => (x, s.h - 1 - y)) _ rfl).symm
    · simp only [h0, h1, if_false]
      exact (reshaped_eq s s.h s.w (fun x y => (y, s.h - 1 - x)) _ rfl).symm
end Lq
set_option Elab.async false
set_option linter.all false
/-! Plain laws: pasting, cropping, moving. -/
namespace Lq
open Lp
open Sq50 (State Layer Dot Act Clip)
/-! ### a list written at some places -/
def setAt {ι α : Type} (t : ι → Option Nat) (v : ι → α) (ds : List α) (i : ι) : List α := match t i with
  | none => ds
  | some o => ds.set o (v i)
theorem setAt_len {ι α : Type} (t : ι → Option Nat) (v : ι → α) : ∀ (L : List ι) (ds : List α), (L.foldl (setAt t v) ds).length = ds.length
  | [], _ => rfl
  | i :: L, ds => by
    refine (setAt_len t v L (setAt t v ds i)).trans ?_
    unfold setAt
    split
    · rfl
    · exact List.length_set ..
theorem setAt_miss {ι α : Type} {t : ι → Option Nat} {v : ι → α} {p : Nat} : ∀ (L : List ι) (ds : List α), (∀ j ∈ L, t j ≠ some p) → (L.foldl (setAt t v) ds)[p]? = ds[p]?
  | [], _, _ => rfl
  | i :: L, ds, h => by
    refine (setAt_miss L (setAt t v ds i) fun j hj => h j (List.mem_cons_of_mem _ hj)).trans ?_
    have hi := h i List.mem_cons_self
    unfold setAt
    split
    · rfl
    · rename_i o e
      rw [e] at hi
      exact List.getElem?_set_ne fun z => hi (by rw [z])
theorem setAt_hit {ι α : Type} {t : ι → Option Nat} {v : ι → α} {p : Nat} {x : α} : ∀ (L : List ι) (ds : List α), p < ds.length → (∃ i ∈ L, t i = some p) → (∀ j ∈ L, t j = some p → v j = x) → (L.foldl (setAt t v) ds)[p]? = some x
  | [], _, _, h, _ => by
    obtain ⟨_, h, _⟩ := h
    cases h
  | i :: L, ds, hp, h, hv => by
    by_cases hL : ∃ j ∈ L, t j = some p
    · refine setAt_hit L (setAt t v ds i) ?_ hL fun j hj => hv j (List.mem_cons_of_mem _ hj)
      unfold setAt
      split
      · exact hp
      · rw [List.length_set]
        exact hp
    · refine (setAt_miss L (setAt t v ds i) fun j hj z => hL ⟨j, hj, z⟩).trans ?_
      have hi : t i = some p := by
        obtain ⟨j, hj, e⟩ := h
        rcases List.mem_cons.mp hj with rfl | hj
        · exact e
        · exact absurd ⟨j, hj, e⟩ hL
      unfold setAt
      rw [hi]
      show (ds.set p (v i))[p]? = some x
      rw [List.getElem?_set_self hp, hv i List.mem_cons_self hi]
/-! ### pasted -/
def pstT (w h : Nat) (t : Nat × Nat × (Nat × Nat)) : Option Nat := if t.1 < w ∧ t.2.1 < h then some (t.2.1 * w + t.1) else none
theorem paste_at (s : State) (l : List (Nat × Nat × (Nat × Nat))) : pPaste s l = l.foldl (setAt (pstT s.w s.h) fun t => t.2.2) (List.replicate (s.w * s.h) (0, 0)) := by
  unfold pPaste
  congr 1
  funext ds t
  unfold pasteOne setAt pstT
  by_cases h : t.1 < s.w ∧ t.2.1 < s.h
  · rw [if_pos h, if_pos h]
  · rw [if_neg h, if_neg h]
theorem cell_inj {x y x' y' w : Nat} (hx : x < w) (hx' : x' < w) (h : y * w + x = y' * w + x') : x = x' ∧ y = y' := by
  have hw : 0 < w := by omega
  have e1 : (y * w + x) % w = x := by rw [Nat.mul_comm, Nat.mul_add_mod, Nat.mod_eq_of_lt hx]
  have e2 : (y' * w + x') % w = x' := by rw [Nat.mul_comm, Nat.mul_add_mod, Nat.mod_eq_of_lt hx']
  have d1 : (y * w + x) / w = y := by rw [Nat.mul_comm, Nat.mul_add_div hw, Nat.div_eq_of_lt hx, Nat.add_zero]
  have d2 : (y' * w + x') / w = y' := by rw [Nat.mul_comm, Nat.mul_add_div hw, Nat.div_eq_of_lt hx', Nat.add_zero]
  rw [h] at e1 d1
  exact ⟨e1.symm.trans e2, d1.symm.trans d2⟩
theorem cell_mod {x y w : Nat} (hx : x < w) : (y * w + x) % w = x := by rw [Nat.mul_comm, Nat.mul_add_mod, Nat.mod_eq_of_lt hx]
theorem cell_div {x y w : Nat} (hx : x < w) : (y * w + x) / w = y := by rw [Nat.mul_comm, Nat.mul_add_div (by omega), Nat.div_eq_of_lt hx, Nat.add_zero]
theorem mayL_iff {s : State} {i : Nat} : i ∈ mayL s ↔ i < s.w * s.h ∧ mayB s i = true := by
  unfold mayL
  rw [List.mem_filter, List.mem_range]
theorem copied_dots (u : State) : u.copied.dots = (List.range (u.w * u.h)).map fun i => if mayB u i = true then some (dotN u i) else none := by
  unfold State.copied
  dsimp only
  rw [cells_map]
  refine List.map_congr_left fun i _ => ?_
  dsimp only
  rw [may_eq, at_eq]
  rfl
/-- what's kept aside, and the clip -/
def ClipR (al : List (Nat × Nat × (Nat × Nat))) (c : Option Clip) : Prop := (al = [] ∧ c = none) ∨ ∃ u, WF u ∧ al = pAside u ∧ c = some u.copied
theorem mayL_ne {s : State} (W : WF s) : mayL s ≠ [] := by
  by_cases h : (s.chosen.any fun b => b) = true
  · have z := onL_ne W h
    intro e
    refine z (List.filter_eq_nil_iff.mpr fun i hi => ?_)
    have := List.filter_eq_nil_iff.mp e i hi
    intro hb
    refine this ?_
    unfold mayB
    unfold onB at hb
    rw [hb]
    rfl
  · intro e
    have h0 : 0 ∈ List.range (s.w * s.h) := List.mem_range.mpr (Nat.mul_pos W.w1 W.h1)
    refine List.filter_eq_nil_iff.mp e 0 h0 ?_
    unfold mayB
    rw [Bool.not_eq_true] at h
    rw [h]
    simp
theorem aside_ne {u : State} (W : WF u) : (pAside u).isEmpty = false := by
  have := mayL_ne W
  unfold pAside
  cases h : mayL u with
  | nil => exact absurd h this
  | cons a r => rfl
theorem paste_eq {s u : State} (W : WF s) (U : WF u) : pPaste s (pAside u) = s.cells.map fun c => if c.1 < u.copied.w ∧ c.2 < u.copied.h then ((u.copied.dots[c.2 * u.copied.w + c.1]?).getD none).getD (0, 0) else (0, 0) := by
  rw [cells_map, paste_at]
  apply List.ext_getElem?
  intro p
  by_cases hp : p < s.w * s.h
  · rw [List.getElem?_map, List.getElem?_range hp]
    show _ = some _
    dsimp only
    rw [copied_dots]
    show _ = some (if p % s.w < u.w ∧ p / s.w < u.h then (((((List.range (u.w * u.h)).map fun i => if mayB u i = true then some (dotN u i) else none))[p / s.w * u.w + p % s.w]?).getD none).getD (0, 0) else (0, 0))
    have hxs := Nat.mod_lt p W.w1
    have hys : p / s.w < s.h := Nat.div_lt_of_lt_mul hp
    by_cases hc : p % s.w < u.w ∧ p / s.w < u.h
    · rw [if_pos hc]
      have hq := cell_lt hc.1 hc.2
      rw [List.getElem?_map, List.getElem?_range hq]
      show _ = some ((if mayB u (p / s.w * u.w + p % s.w) = true then some (dotN u (p / s.w * u.w + p % s.w)) else none).getD (0, 0))
      have hit : ∀ t ∈ pAside u, pstT s.w s.h t = some p → ∃ i, i ∈ mayL u ∧ i = p / s.w * u.w + p % s.w ∧ t.2.2 = dotN u i := by
        intro t ht e
        obtain ⟨i, hi, rfl⟩ := List.mem_map.mp ht
        refine ⟨i, hi, ?_, rfl⟩
        unfold pstT at e
        split at e
        · rename_i h2
          have e := Option.some.inj e
          have e2 : i / u.w * s.w + i % u.w = p / s.w * s.w + p % s.w := by
            rw [back p s.w]
            exact e
          obtain ⟨a1, a2⟩ := cell_inj h2.1 hxs e2
          rw [← a1, ← a2, back]
        · cases e
      by_cases hm : mayB u (p / s.w * u.w + p % s.w) = true
      · rw [if_pos hm]
        refine setAt_hit _ _ (by rw [List.length_replicate]; exact hp) ⟨_, List.mem_map.mpr ⟨p / s.w * u.w + p % s.w, mayL_iff.mpr ⟨hq, hm⟩, rfl⟩, ?_⟩ fun t ht e => ?_
        · unfold pstT
          dsimp only
          rw [cell_mod hc.1, cell_div hc.1, if_pos ⟨hxs, hys⟩, back]
        · obtain ⟨i, hi, e1, e2⟩ := hit t ht e
          rw [e2, e1]
          rfl
      · rw [if_neg hm]
        rw [setAt_miss, List.getElem?_replicate, if_pos hp]
        · rfl
        · intro t ht e
          obtain ⟨i, hi, e1, e2⟩ := hit t ht e
          rw [e1] at hi
          exact hm (mayL_iff.mp hi).2
    · rw [if_neg hc]
      rw [setAt_miss, List.getElem?_replicate, if_pos hp]
      intro t ht e
      obtain ⟨i, hi, rfl⟩ := List.mem_map.mp ht
      have hi := (mayL_iff.mp hi).1
      unfold pstT at e
      split at e
      · rename_i h2
        have e := Option.some.inj e
        have e2 : i / u.w * s.w + i % u.w = p / s.w * s.w + p % s.w := by
          rw [back p s.w]
          exact e
        obtain ⟨a1, a2⟩ := cell_inj h2.1 hxs e2
        refine hc ⟨?_, ?_⟩
        · rw [← a1]
          exact Nat.mod_lt _ U.w1
        · rw [← a2]
          exact Nat.div_lt_of_lt_mul hi
      · cases e
  · rw [List.getElem?_eq_none, List.getElem?_eq_none]
    · rw [List.length_map, List.length_range]
      omega
    · rw [setAt_len, List.length_replicate]
      omega
variable {s : State}
theorem does_paste (W : WF s) {al : List (Nat × Nat × (Nat × Nat))} {c : Option Clip} (C : ClipR al c) : wish (!al.isEmpty) (-6) (wish (decide (s.layers.length < 5)) (-5) (.ok (newL s (pPaste s al)))) = s.does c .paste := by
  rcases C with ⟨rfl, rfl⟩ | ⟨u, U, rfl, rfl⟩
  · rfl
  · rw [aside_ne U, wish_t (by rfl : (!false) = true)]
    unfold State.does
    refine wish_if (by rw [decide_eq_true_iff, show Sq50.LAYERS = 5 from rfl]; omega) fun _ => ?_
    rw [newL_eq W, paste_eq W U]
/-! ### cropped -/
theorem crop_cells (s : State) : (s.cells.filter fun c => s.is c.1 c.2) = (onL s).map fun i => (i % s.w, i / s.w) := by
  rw [cells_eq, List.filter_map]
  unfold onL
  congr 1
  refine List.filter_congr fun i _ => ?_
  exact is_eq s i
theorem onL_nil {s : State} (h : (s.chosen.any fun b => b) = false) : onL s = [] := by
  refine List.filter_eq_nil_iff.mpr fun i _ => ?_
  unfold onB
  cases e : s.chosen[i]? with
  | none => simp
  | some b =>
    have := List.any_eq_false.mp h b (List.mem_of_getElem? e)
    simp at this
    simp [this]
theorem does_crop (W : WF s) {c : Option Clip} : wish (s.chosen.any fun b => b) (-6) (.ok (pCrop s)) = s.does c .crop := by
  unfold State.does
  dsimp only
  rw [crop_cells, List.map_map, List.map_map]
  cases h : s.chosen.any fun b => b with
  | false =>
    rw [wish_f rfl, onL_nil h]
    rfl
  | true =>
    have ne := onL_ne W h
    rw [wish_t rfl]
    have n1 : (onL s).map (· % s.w) ≠ [] := by simpa using ne
    have n2 : (onL s).map (· / s.w) ≠ [] := by simpa using ne
    have g : ∀ {l : List Nat}, l ≠ [] → l.min? = some (minL l) ∧ l.max? = some (maxL l) ∧ minL l ≤ maxL l := fun {l} hl => by
      have a := min_mem hl
      have b := max_mem hl
      refine ⟨?_, ?_, b.2 _ a.1⟩
      · unfold minL
        cases hm : l.min? with
        | none => exact absurd (List.min?_eq_none_iff.mp hm) hl
        | some n => rfl
      · unfold maxL
        cases hm : l.max? with
        | none => exact absurd (List.max?_eq_none_iff.mp hm) hl
        | some n => rfl
    obtain ⟨a1, b1, c1⟩ := g n1
    obtain ⟨a2, b2, c2⟩ := g n2
    have e1 : ((fun c : Nat × Nat => c.1) ∘ fun i => (i % s.w, i / s.w)) = (· % s.w) := rfl
    have e2 : ((fun c : Nat × Nat => c.2) ∘ fun i => (i % s.w, i / s.w)) = (· / s.w) := rfl
    rw [e1, e2, a1, b1, a2, b2]
    dsimp only
    refine congrArg _ ?_
    show pCrop s = s.reshaped (cropR s + 1 - cropL s) (cropB s + 1 - cropT s) fun x y => (x + cropL s, y + cropT s)
    have w1 : cropR s + 1 - cropL s = cropR s - cropL s + 1 := by unfold cropR cropL; omega
    have w2 : cropB s + 1 - cropT s = cropB s - cropT s + 1 := by unfold cropB cropT; omega
    rw [w1, w2]
    unfold pCrop gridP
    refine (reshaped_eq s _ _ (fun x y => (x + cropL s, y + cropT s)) _ ?_).symm
    simp only [Nat.add_comm]
/-! ### moved -/
/-- where what comes to a pixel was -/
def fromB (s : State) (a b p : Nat) : Option Nat := if p % s.w + 16 < a ∨ p / s.w + 16 < b ∨ s.w ≤ p % s.w + 16 - a ∨ s.h ≤ p / s.w + 16 - b then none else some ((p / s.w + 16 - b) * s.w + (p % s.w + 16 - a))
theorem step_arith {X Y x y w h a b : Nat} (hX : X < w) (hY : Y < h) (hx : x < w) (hy : y < h) :
    ((0 ≤ (X : Int) + ((a : Int) - 16) ∧ (X : Int) + ((a : Int) - 16) < w ∧ 0 ≤ (Y : Int) + ((b : Int) - 16) ∧ (Y : Int) + ((b : Int) - 16) < h) ∧ (X : Int) + ((a : Int) - 16) = x ∧ (Y : Int) + ((b : Int) - 16) = y) ↔
    (¬ (x + 16 < a ∨ y + 16 < b ∨ w ≤ x + 16 - a ∨ h ≤ y + 16 - b) ∧ x + 16 - a = X ∧ y + 16 - b = Y) := by omega
theorem step_from {s : State} (W : WF s) {a b p i : Nat} (hp : p < s.w * s.h) (hi : i < s.w * s.h) : stepTo s i ((a : Int) - 16, (b : Int) - 16) = some p ↔ fromB s a b p = some i := by
  have x1 := Nat.mod_lt p W.w1
  have x2 := Nat.mod_lt i W.w1
  have y1 : p / s.w < s.h := Nat.div_lt_of_lt_mul hp
  have y2 : i / s.w < s.h := Nat.div_lt_of_lt_mul hi
  have bp := back p s.w
  have bi := back i s.w
  have ar := step_arith (a := a) (b := b) x2 y2 x1 y1
  unfold stepTo fromB
  dsimp only
  constructor
  · intro e
    split at e
    · rename_i h
      have e := Option.some.inj e
      obtain ⟨n1, h1⟩ := Int.eq_ofNat_of_zero_le h.1
      obtain ⟨n2, h2⟩ := Int.eq_ofNat_of_zero_le h.2.2.1
      have hn : n1 < s.w := by
        have := h.2.1
        omega
      rw [h1, h2, ← Int.natCast_mul, ← Int.natCast_add, Int.toNat_natCast, ← bp] at e
      obtain ⟨m1, m2⟩ := cell_inj hn x1 e
      obtain ⟨r1, r2, r3⟩ := ar.mp ⟨h, by rw [h1, m1], by rw [h2, m2]⟩
      rw [if_neg r1, r2, r3, bi]
    · cases e
  · intro e
    split at e
    · cases e
    · rename_i h
      have e := Option.some.inj e
      rw [← bi] at e
      obtain ⟨m1, m2⟩ := cell_inj (Nat.lt_of_not_le fun z => h (.inr (.inr (.inl z)))) x2 e
      obtain ⟨r1, r2, r3⟩ := ar.mpr ⟨h, m1, m2⟩
      rw [if_pos r1, r2, r3, ← Int.natCast_mul, ← Int.natCast_add, Int.toNat_natCast, bp]
theorem from_lt {s : State} {a b p i : Nat} (h : fromB s a b p = some i) : i < s.w * s.h := by
  unfold fromB at h
  split at h
  · cases h
  · rw [← Option.some.inj h]
    exact cell_lt (by omega) (by omega)
theorem moved_split (s : State) (dx dy : Int) : ∀ (L : List Nat) (d0 : List Dot) (c0 : List Bool), L.foldl (mvPut s dx dy) (d0, c0) = (L.foldl (setAt (fun i => stepTo s i (dx, dy)) (dotN s)) d0, L.foldl (setAt (fun i => stepTo s i (dx, dy)) fun _ => s.chosen.any fun b => b) c0)
  | [], _, _ => rfl
  | i :: L, d0, c0 => by
    rw [List.foldl_cons, List.foldl_cons, List.foldl_cons, ← moved_split s dx dy L]
    congr 1
    unfold mvPut setAt
    dsimp only
    cases stepTo s i (dx, dy) <;> rfl
theorem clear_at (s : State) : mvClear s = (mayL s).foldl (setAt some fun _ => (0, 0)) s.layer.dots := rfl
theorem clear_get {s : State} (W : WF s) {p : Nat} (hp : p < s.w * s.h) : (mvClear s)[p]? = some (if mayB s p = true then (0, 0) else dotN s p) := by
  rw [clear_at]
  have hl : p < s.layer.dots.length := by rw [W.lay_ok.len]; exact hp
  by_cases h : mayB s p = true
  · rw [if_pos h]
    exact setAt_hit _ _ hl ⟨p, mayL_iff.mpr ⟨hp, h⟩, rfl⟩ fun _ _ _ => rfl
  · rw [if_neg h, setAt_miss]
    · unfold dotN
      rw [List.getElem?_eq_getElem hl]
      rfl
    · intro j hj e
      have := Option.some.inj e
      subst this
      exact h (mayL_iff.mp hj).2
theorem clear_len' {s : State} (W : WF s) : (mvClear s).length = s.w * s.h := by
  unfold mvClear
  rw [clear_len, W.lay_ok.len]
/-- a pixel's dot behind a move -/
theorem moved_dot {s : State} (W : WF s) {a b p : Nat} (hp : p < s.w * s.h) : (pMoved s ((a : Int) - 16) ((b : Int) - 16)).1[p]? = some (match fromB s a b p with
    | some i => if mayB s i = true then dotN s i else if mayB s p = true then (0, 0) else dotN s p
    | none => if mayB s p = true then (0, 0) else dotN s p) := by
  unfold pMoved
  rw [moved_split]
  dsimp only
  cases hf : fromB s a b p with
  | none =>
    rw [setAt_miss, clear_get W hp]
    intro j hj e
    rw [step_from W hp (mayL_iff.mp hj).1, hf] at e
    cases e
  | some i =>
    dsimp only
    have hi := from_lt hf
    by_cases hm : mayB s i = true
    · rw [if_pos hm]
      refine setAt_hit _ _ (by rw [clear_len' W]; exact hp) ⟨i, mayL_iff.mpr ⟨hi, hm⟩, (step_from W hp hi).mpr hf⟩ fun j hj e => ?_
      rw [step_from W hp (mayL_iff.mp hj).1, hf] at e
      rw [Option.some.inj e]
    · rw [if_neg hm, setAt_miss, clear_get W hp]
      intro j hj e
      rw [step_from W hp (mayL_iff.mp hj).1, hf] at e
      rw [← Option.some.inj e] at hj
      exact hm (mayL_iff.mp hj).2
theorem moved_on {s : State} (W : WF s) {a b p : Nat} (hp : p < s.w * s.h) : (pMoved s ((a : Int) - 16) ((b : Int) - 16)).2[p]? = some ((s.chosen.any fun b => b) && match fromB s a b p with
    | some i => mayB s i
    | none => false) := by
  unfold pMoved
  rw [moved_split]
  dsimp only
  have rp : (List.replicate (s.w * s.h) false)[p]? = some false := by rw [List.getElem?_replicate, if_pos hp]
  cases hf : fromB s a b p with
  | none =>
    rw [setAt_miss, rp]
    · simp
    intro j hj e
    rw [step_from W hp (mayL_iff.mp hj).1, hf] at e
    cases e
  | some i =>
    dsimp only
    have hi := from_lt hf
    by_cases hm : mayB s i = true
    · rw [hm, Bool.and_true]
      exact setAt_hit _ _ (by rw [List.length_replicate]; exact hp) ⟨i, mayL_iff.mpr ⟨hi, hm⟩, (step_from W hp hi).mpr hf⟩ fun j hj e => rfl
    · rw [Bool.not_eq_true] at hm
      rw [hm, Bool.and_false, setAt_miss, rp]
      intro j hj e
      rw [step_from W hp (mayL_iff.mp hj).1, hf] at e
      rw [← Option.some.inj e] at hj
      rw [(mayL_iff.mp hj).2] at hm
      cases hm
theorem moved_len {s : State} (W : WF s) (dx dy : Int) : (pMoved s dx dy).1.length = s.w * s.h ∧ (pMoved s dx dy).2.length = s.w * s.h := by
  unfold pMoved
  rw [moved_split]
  exact ⟨by rw [setAt_len, clear_len' W], by rw [setAt_len, List.length_replicate]⟩
theorem list_of {α : Type} {l : List α} {n : Nat} {f : Nat → α} (hl : l.length = n) (h : ∀ p, p < n → l[p]? = some (f p)) : l = (List.range n).map f := by
  apply List.ext_getElem?
  intro p
  by_cases hp : p < n
  · rw [h p hp, List.getElem?_map, List.getElem?_range hp]
    rfl
  · rw [List.getElem?_eq_none (by omega), List.getElem?_eq_none (by rw [List.length_map, List.length_range]; omega)]
theorem does_move (W : WF s) (a b : Nat) {c : Option Clip} : wish (decide (a ≤ 32) && decide (b ≤ 32)) (-1) (.ok { setD s (pMoved s ((a : Int) - 16) ((b : Int) - 16)).1 with chosen := (pMoved s ((a : Int) - 16) ((b : Int) - 16)).2 }) = s.does c (.move a b) := by
  unfold State.does
  refine wish_if (by simp only [Bool.and_eq_true, decide_eq_true_iff, show Sq50.OFF = 16 from rfl]; omega) fun h => ?_
  refine congrArg _ ?_
  have fr : ∀ i, (if i % s.w + Sq50.OFF < a ∨ i / s.w + Sq50.OFF < b ∨ s.w ≤ i % s.w + Sq50.OFF - a ∨ s.h ≤ i / s.w + Sq50.OFF - b then none else some (i % s.w + Sq50.OFF - a, i / s.w + Sq50.OFF - b) : Option (Nat × Nat)) = (fromB s a b i).map fun j => (j % s.w, j / s.w) := fun i => by
    unfold fromB
    rw [show Sq50.OFF = 16 from rfl]
    split
    · rfl
    · rename_i h
      show _ = some (((i / s.w + 16 - b) * s.w + (i % s.w + 16 - a)) % s.w, ((i / s.w + 16 - b) * s.w + (i % s.w + 16 - a)) / s.w)
      have hx : i % s.w + 16 - a < s.w := Nat.lt_of_not_le fun z => h (.inr (.inr (.inl z)))
      rw [cell_mod hx, cell_div hx]
  dsimp only
  unfold setD
  congr 1
  · refine Eq.trans ?_ (upd_one _ _ _ W.nd W.on).symm
    rw [layer_eq W.on]
    dsimp only [Option.getD_some]
    refine congrArg (fun l => s.layers.take (pl s) ++ [l] ++ s.layers.drop (pl s + 1)) ?_
    refine congrArg (fun ds => { s.layer with dots := ds }) ?_
    rw [cells_map]
    refine list_of (moved_len W _ _).1 fun p hp => ?_
    rw [moved_dot W hp]
    dsimp only
    rw [fr]
    cases fromB s a b p with
    | none =>
      dsimp only [Option.map_none]
      rw [may_eq, at_eq]
      rfl
    | some i =>
      dsimp only [Option.map_some]
      rw [may_eq, may_eq, at_eq, at_eq]
      rfl
  · cases hany : s.chosen.any fun b => b with
    | true =>
      rw [if_pos rfl, cells_map]
      refine list_of (moved_len W _ _).2 fun p hp => ?_
      rw [moved_on W hp]
      dsimp only
      rw [fr, hany]
      cases fromB s a b p with
      | none => rfl
      | some i =>
        dsimp only [Option.map_some]
        rw [may_eq]
        rfl
    | false =>
      rw [if_neg (by decide)]
      have e1 : s.chosen = (List.range (s.w * s.h)).map fun _ => false := list_of W.cho fun p hp => by
        rw [List.getElem?_eq_getElem (by rw [W.cho]; exact hp)]
        have := List.any_eq_false.mp hany (s.chosen[p]'(by rw [W.cho]; exact hp)) (List.getElem_mem _)
        rw [Bool.not_eq_true] at this
        rw [this]
      conv => rhs; rw [e1]
      refine list_of (moved_len W _ _).2 fun p hp => ?_
      rw [moved_on W hp, hany]
      rfl
end Lq
set_option Elab.async false
set_option linter.all false
/-! Plain laws: what's shown. -/
namespace Lq
open Lp
open Sq50 (State Layer Act Clip)
open Sq49 (Frac frac)
/-! ### fractions as rationals -/
def q (f : Frac) : Rat := (f.n : Rat) / (f.d : Rat)
theorem castInj {a b : Nat} (h : (a : Rat) = (b : Rat)) : a = b :=
  Nat.le_antisymm (Rat.natCast_le_natCast.mp (by rw [h]; exact Rat.le_refl)) (Rat.natCast_le_natCast.mp (by rw [h]; exact Rat.le_refl))
theorem cz {a : Nat} (h : 0 < a) : (a : Rat) ≠ 0 := fun e => by
  have := castInj (a := a) (b := 0) e
  omega
theorem cp {a : Nat} (h : 0 < a) : 0 < (a : Rat) := by
  have h1 : (0 : Rat) ≤ a := Rat.natCast_nonneg
  have h2 := cz h
  grind
theorem castSub {a b : Nat} (h : b ≤ a) : ((a - b : Nat) : Rat) = (a : Rat) - (b : Rat) := by
  obtain ⟨k, rfl⟩ := Nat.exists_eq_add_of_le h
  rw [Nat.add_sub_cancel_left, Rat.natCast_add]
  grind
theorem q_cross {x : Frac} (h : 0 < x.d) : q x * x.d = x.n := by
  unfold q
  have := cz h
  grind
theorem q_frac {n d : Nat} (hd : 0 < d) : q (frac n d) = (n : Rat) / (d : Rat) := by
  have c := frac_cross (n := n) hd
  have p := frac_d_pos (n := n) hd
  have c' : ((frac n d).n : Rat) * (d : Rat) = (n : Rat) * ((frac n d).d : Rat) := by rw [← Rat.natCast_mul, ← Rat.natCast_mul, c]
  unfold q
  have h1 := cz hd
  have h2 := cz p
  grind
section
variable {x y : Frac}
theorem q_add (hx : 0 < x.d) (hy : 0 < y.d) : q (x.add y) = q x + q y := by
  unfold Sq49.Frac.add
  rw [q_frac (Nat.mul_pos hx hy), Rat.natCast_add, Rat.natCast_mul, Rat.natCast_mul, Rat.natCast_mul]
  unfold q
  have h1 := cz hx
  have h2 := cz hy
  grind
theorem q_mul (hx : 0 < x.d) (hy : 0 < y.d) : q (x.mul y) = q x * q y := by
  unfold Sq49.Frac.mul
  rw [q_frac (Nat.mul_pos hx hy), Rat.natCast_mul, Rat.natCast_mul]
  unfold q
  have h1 := cz hx
  have h2 := cz hy
  grind
theorem q_by (hx : 0 < x.d) (hy : 0 < y.d) (hn : 0 < y.n) : q (x.by_ y) = q x / q y := by
  unfold Sq49.Frac.by_
  rw [q_frac (Nat.mul_pos hx hn), Rat.natCast_mul, Rat.natCast_mul]
  unfold q
  have h1 := cz hx
  have h2 := cz hy
  have h3 := cz hn
  grind
theorem q_le (hx : 0 < x.d) (hy : 0 < y.d) : q x ≤ q y ↔ x.n * y.d ≤ y.n * x.d := by
  have h1 := cp hx
  have h2 := cp hy
  have e1 := q_cross hx
  have e2 := q_cross hy
  have hD : (0 : Rat) < (x.d : Rat) * (y.d : Rat) := Rat.mul_pos h1 h2
  have E1 : ((x.d : Rat) * (y.d : Rat)) * q x = ((x.n * y.d : Nat) : Rat) := by rw [Rat.natCast_mul]; grind
  have E2 : ((x.d : Rat) * (y.d : Rat)) * q y = ((y.n * x.d : Nat) : Rat) := by rw [Rat.natCast_mul]; grind
  constructor
  · intro h
    have := Rat.mul_le_mul_of_nonneg_left h (Rat.le_of_lt hD)
    rw [E1, E2] at this
    exact Rat.natCast_le_natCast.mp this
  · intro h
    have h' := Rat.natCast_le_natCast.mpr h
    rw [← E1, ← E2] at h'
    refine Rat.not_lt.mp fun z => ?_
    have z1 : 0 < q x - q y := by grind
    have z2 := Rat.mul_pos hD z1
    grind
theorem q_nonneg (hx : 0 < x.d) : 0 ≤ q x := by
  unfold q
  rw [Rat.div_def]
  exact Rat.mul_nonneg Rat.natCast_nonneg (Rat.le_of_lt (Rat.inv_pos.mpr (cp hx)))
theorem q_less (hx : 0 < x.d) (hy : 0 < y.d) (h : q y ≤ q x) : q (x.less y) = q x - q y := by
  have hn := (q_le hy hx).mp h
  unfold Sq49.Frac.less
  rw [q_frac (Nat.mul_pos hx hy), castSub hn, Rat.natCast_mul, Rat.natCast_mul, Rat.natCast_mul]
  unfold q
  have h1 := cz hx
  have h2 := cz hy
  grind
theorem q_apart (hx : 0 < x.d) (hy : 0 < y.d) (h : q y ≤ q x) : q (fApart x y) = q x - q y := by
  have hn := (q_le hy hx).mp h
  unfold fApart
  rw [q_frac (Nat.mul_pos hx hy), show y.n * x.d - x.n * y.d = 0 by omega, Nat.add_zero, castSub hn, Rat.natCast_mul, Rat.natCast_mul, Rat.natCast_mul]
  unfold q
  have h1 := cz hx
  have h2 := cz hy
  grind
theorem apart_comm (x y : Frac) : fApart x y = fApart y x := by
  unfold fApart
  rw [Nat.add_comm, Nat.mul_comm x.d]
theorem q_inj (hx : Red x) (hy : Red y) (h : q x = q y) : x = y := by
  refine red_ext hx hy (Nat.le_antisymm ?_ ?_)
  · exact (q_le hx.1 hy.1).mp (by rw [h]; exact Rat.le_refl)
  · exact (q_le hy.1 hx.1).mp (by rw [h]; exact Rat.le_refl)
end
theorem q_zero : q Sq49.zero = 0 := by
  unfold q Sq49.zero
  grind
theorem q_one : q Sq49.one = 1 := by
  unfold q Sq49.one
  grind
theorem q_n0 {x : Frac} (h : x.n = 0) : q x = 0 := by
  unfold q
  rw [h]
  grind
theorem q_ne {x : Frac} (hx : 0 < x.d) (h : 0 < x.n) : q x ≠ 0 := fun z => by
  have := q_cross hx
  rw [z] at this
  exact cz h (by grind)
/-- reduced, from 0 to 1 -/
structure U1 (x : Frac) : Prop where
  red : Red x
  le : q x ≤ 1
theorem U1.d {x : Frac} (h : U1 x) : 0 < x.d := h.red.1
theorem U1.nn {x : Frac} (h : U1 x) : 0 ≤ q x := q_nonneg h.d
theorem u_zero : U1 Sq49.zero := ⟨red_zero, by rw [q_zero]; grind⟩
theorem u_one : U1 Sq49.one := ⟨red_one, by rw [q_one]; grind⟩
theorem mul_le1 {a b : Rat} (h1 : 0 ≤ a) (h2 : b ≤ 1) : a * b ≤ a := by
  have := Rat.mul_nonneg h1 (show 0 ≤ 1 - b by grind)
  grind
section
variable {x y : Frac} (hx : U1 x) (hy : U1 y)
include hx hy
theorem u_prod : 0 ≤ q x * q y ∧ q x * q y ≤ q x ∧ q x * q y ≤ q y := by
  refine ⟨Rat.mul_nonneg hx.nn hy.nn, mul_le1 hx.nn hy.le, ?_⟩
  have := mul_le1 hy.nn hx.le
  grind
theorem q_either : q (fEither x y) = q x + q y - q x * q y := by
  obtain ⟨h1, h2, h3⟩ := u_prod hx hy
  have n1 := hx.nn
  have n2 := hy.nn
  unfold fEither
  rw [q_apart (red_add hx.red hy.red).1 (red_mul hx.red hy.red).1, q_add hx.d hy.d, q_mul hx.d hy.d]
  rw [q_add hx.d hy.d, q_mul hx.d hy.d]
  grind
theorem u_either : U1 (fEither x y) := ⟨red_either hx.red hy.red, by
  rw [q_either hx hy]
  have := Rat.mul_nonneg (show 0 ≤ 1 - q x by have := hx.le; grind) (show 0 ≤ 1 - q y by have := hy.le; grind)
  grind⟩
theorem less_either : (x.add y).less (x.mul y) = fEither x y := by
  obtain ⟨h1, h2, h3⟩ := u_prod hx hy
  have n1 := hx.nn
  have n2 := hy.nn
  refine q_inj (red_less (red_add hx.red hy.red) (red_mul hx.red hy.red)) (red_either hx.red hy.red) ?_
  rw [q_either hx hy, q_less (red_add hx.red hy.red).1 (red_mul hx.red hy.red).1, q_add hx.d hy.d, q_mul hx.d hy.d]
  rw [q_add hx.d hy.d, q_mul hx.d hy.d]
  grind
theorem less_apart : (x.less y).add (y.less x) = fApart x y := by
  unfold Sq49.Frac.less fApart
  rw [add_frac (Nat.mul_pos hx.d hy.d) (Nat.mul_pos hy.d hx.d)]
  refine frac_eq (Nat.mul_pos (Nat.mul_pos hx.d hy.d) (Nat.mul_pos hy.d hx.d)) (Nat.mul_pos hx.d hy.d) ?_
  rw [Nat.mul_comm y.d x.d, ← Nat.add_mul, Nat.mul_assoc]
theorem u_apart : U1 (fApart x y) := ⟨red_apart hx.red hy.red, by
  have n1 := hx.nn
  have n2 := hy.nn
  have l1 := hx.le
  have l2 := hy.le
  by_cases h : q y ≤ q x
  · rw [q_apart hx.d hy.d h]
    grind
  · rw [apart_comm, q_apart hy.d hx.d (by grind)]
    grind⟩
theorem more_iff : fMore x y = true ↔ ¬ q x ≤ q y := by
  unfold fMore
  rw [decide_eq_true_iff, q_le hx.d hy.d]
  omega
end
theorem u_mul {x y : Frac} (hx : U1 x) (hy : U1 y) : U1 (x.mul y) := ⟨red_mul hx.red hy.red, by
  rw [q_mul hx.d hy.d]
  have := (u_prod hx hy).2.1
  have := hx.le
  grind⟩
theorem fMore_iff {x y : Frac} (hx : 0 < x.d) (hy : 0 < y.d) : fMore x y = true ↔ ¬ q x ≤ q y := by
  unfold fMore
  rw [decide_eq_true_iff, q_le hx hy]
  omega
theorem le_iff {x y : Frac} (hx : 0 < x.d) (hy : 0 < y.d) : x.le y = true ↔ q x ≤ q y := by
  unfold Sq49.Frac.le
  rw [decide_eq_true_iff, q_le hx hy]
theorem mix_eq {l u : Frac} (way : Nat) (hl : U1 l) (hu : U1 u) : Sq49.mix way l u = fMix way u l := by
  unfold Sq49.mix fMix
  split
  · rfl
  · rfl
  · exact less_either hl hu
  · rw [if_neg (by decide), if_neg (by decide), if_neg (by decide), if_pos rfl]
    unfold Sq49.least
    have a := le_iff hl.d hu.d
    have b := fMore_iff hu.d hl.d
    by_cases h : l.le u = true
    · rw [if_pos h]
      by_cases h2 : fMore u l = true
      · rw [if_pos h2]
      · rw [if_neg h2]
        rw [b, Classical.not_not] at h2
        exact q_inj hl.red hu.red (Rat.le_antisymm (a.mp h) h2)
    · rw [if_neg h]
      rw [a] at h
      rw [if_neg fun z => h ?_]
      have := b.mp z
      grind
  · rw [if_neg (by decide), if_neg (by decide), if_neg (by decide), if_neg (by decide), if_pos rfl]
    unfold Sq49.most
    have a := le_iff hl.d hu.d
    have b := fMore_iff hu.d hl.d
    by_cases h : l.le u = true
    · rw [if_pos h]
      by_cases h2 : fMore u l = true
      · rw [if_pos h2]
      · rw [if_neg h2]
        rw [b, Classical.not_not] at h2
        exact q_inj hu.red hl.red (Rat.le_antisymm h2 (a.mp h))
    · rw [if_neg h]
      rw [a] at h
      rw [if_neg fun z => h ?_]
      have := b.mp z
      grind
  · rw [if_neg (by decide), if_neg (by decide), if_neg (by decide), if_neg (by decide), if_neg (by decide), if_pos rfl]
    exact less_apart hl hu
  · rename_i h0 h1 h2 h3 h4 h5
    rw [if_neg h0, if_neg h1, if_neg h2, if_neg h3, if_neg h4, if_neg h5]
    unfold Sq49.least
    have hs := red_add hl.red hu.red
    have a := le_iff u_one.d hs.1
    have b := fMore_iff hs.1 u_one.d
    by_cases h : Sq49.one.le (l.add u) = true
    · rw [if_pos h]
      by_cases h2 : fMore (l.add u) Sq49.one = true
      · rw [if_pos h2]
      · rw [if_neg h2]
        rw [b, Classical.not_not] at h2
        exact q_inj red_one hs (Rat.le_antisymm (a.mp h) h2)
    · rw [if_neg h]
      rw [a] at h
      rw [if_neg fun z => h ?_]
      have := b.mp z
      grind
theorem u_mix {l u : Frac} (way : Nat) (hl : U1 l) (hu : U1 u) : U1 (fMix way u l) := by
  unfold fMix
  split
  · exact hu
  split
  · exact u_mul hl hu
  split
  · exact u_either hl hu
  split
  · split <;> assumption
  split
  · split <;> assumption
  split
  · exact u_apart hl hu
  split
  · exact u_one
  · rename_i h
    have hs := red_add hl.red hu.red
    rw [fMore_iff hs.1 u_one.d, Classical.not_not, q_one] at h
    exact ⟨hs, h⟩
/-! ### one layer more -/
structure ShInv (a : Sq49.Dot) (p : Frac × Frac) : Prop where
  cov : a.cover = p.1
  u1 : U1 p.1
  u2 : U1 p.2
  lr : Red a.light
  lq : q a.light = q p.2 * q p.1
  z : p.1.n = 0 → p.2 = Sq49.zero
theorem sh_zero : ShInv Sq49.clear (Sq49.zero, Sq49.zero) := ⟨rfl, u_zero, u_zero, red_zero, by
  show q Sq49.zero = q Sq49.zero * q Sq49.zero
  rw [q_zero]
  grind, fun _ => rfl⟩
theorem ShInv.colour {a : Sq49.Dot} {p : Frac × Frac} (h : ShInv a p) : a.colour = p.2 := by
  unfold Sq49.Dot.colour
  rw [h.cov]
  split
  · rename_i e
    exact (h.z e).symm
  · rename_i e
    have hn : 0 < p.1.n := Nat.pos_of_ne_zero e
    refine q_inj (red_by h.lr hn) h.u2.red ?_
    rw [q_by h.lr.1 h.u1.d hn, h.lq]
    have := q_ne h.u1.d hn
    grind
theorem nonneg3 {a b c : Rat} (h1 : 0 ≤ a) (h2 : 0 ≤ b) (h3 : 0 ≤ c) : 0 ≤ a * b * c := Rat.mul_nonneg (Rat.mul_nonneg h1 h2) h3
theorem rat_bound {s b S B M : Rat} (s0 : 0 ≤ s) (s1 : s ≤ 1) (b0 : 0 ≤ b) (b1 : b ≤ 1) (S1 : S ≤ 1) (B1 : B ≤ 1) (M1 : M ≤ 1) : S * s * (1 - b) + B * b * (1 - s) + s * b * M ≤ s + b - s * b := by
  have c1 := nonneg3 (show 0 ≤ 1 - S by grind) s0 (show 0 ≤ 1 - b by grind)
  have c2 := nonneg3 (show 0 ≤ 1 - B by grind) b0 (show 0 ≤ 1 - s by grind)
  have c3 := nonneg3 s0 b0 (show 0 ≤ 1 - M by grind)
  have e : s + b - s * b - (S * s * (1 - b) + B * b * (1 - s) + s * b * M) = (1 - S) * s * (1 - b) + (1 - B) * b * (1 - s) + s * b * (1 - M) := by clear c1 c2 c3; grind
  generalize (1 - S) * s * (1 - b) = x1 at *
  generalize (1 - B) * b * (1 - s) = x2 at *
  generalize s * b * (1 - M) = x3 at *
  generalize S * s * (1 - b) + B * b * (1 - s) + s * b * M = y at *
  generalize s + b - s * b = z at *
  clear s0 s1 b0 b1 S1 B1 M1
  grind
theorem rat_div_le {a w : Rat} (w0 : 0 ≤ w) (w1 : w ≠ 0) (h : a * w ≤ w) : a ≤ 1 := by
  refine Rat.not_lt.mp fun z => ?_
  have wp : 0 < w := by grind
  have := Rat.mul_pos wp (show 0 < a - 1 by grind)
  grind
theorem rat_z {s b : Rat} (s0 : 0 ≤ s) (s1 : s ≤ 1) (b0 : 0 ≤ b) (h : s + b - s * b = 0) : s = 0 ∧ b = 0 := by
  have a1 := Rat.mul_nonneg b0 (show 0 ≤ 1 - s by grind)
  have e : s = 0 := by grind
  refine ⟨e, ?_⟩
  rw [e] at h
  grind
theorem rat_0 {S B M : Rat} : S * 0 * (1 - 0) + B * 0 * (1 - 0) + 0 * 0 * M = 0 * 0 := by grind
theorem rat_dm {a w : Rat} (w1 : w ≠ 0) : a / w * w = a := by grind
theorem rat_md {a w : Rat} (w1 : w ≠ 0) : a * w / w = a := by grind
theorem sh_step {way : Nat} {e a : Sq49.Dot} {s S : Frac} {p : Frac × Frac} (h : ShInv a p) (us : U1 s) (uS : U1 S) (he : e.cover = s) (hr : Red e.light) (hq : q e.light = q S * q s) : ShInv (Sq49.over way e a) (fPut way s S p) := by
  have ub := h.u1
  have uB := h.u2
  have hw := q_either us ub
  have one_b : Sq49.one.less p.1 = fApart Sq49.one p.1 := q_inj (red_less red_one ub.red) (red_apart red_one ub.red) (by
    rw [q_less u_one.d ub.d (by rw [q_one]; exact ub.le), q_apart u_one.d ub.d (by rw [q_one]; exact ub.le)])
  have one_s : Sq49.one.less s = fApart Sq49.one s := q_inj (red_less red_one us.red) (red_apart red_one us.red) (by
    rw [q_less u_one.d us.d (by rw [q_one]; exact us.le), q_apart u_one.d us.d (by rw [q_one]; exact us.le)])
  have qb : q (fApart Sq49.one p.1) = 1 - q p.1 := by rw [q_apart u_one.d ub.d (by rw [q_one]; exact ub.le), q_one]
  have qs : q (fApart Sq49.one s) = 1 - q s := by rw [q_apart u_one.d us.d (by rw [q_one]; exact us.le), q_one]
  have r1 := red_apart red_one ub.red
  have r2 := red_apart red_one us.red
  have uM := u_mix way uB uS
  -- the light
  have eS : s.n ≠ 0 → e.colour = S := fun hn => by
    have hn' : 0 < s.n := Nat.pos_of_ne_zero hn
    unfold Sq49.Dot.colour
    rw [he, if_neg hn]
    refine q_inj (red_by hr hn') uS.red ?_
    rw [q_by hr.1 us.d hn', hq]
    have := q_ne us.d hn'
    grind
  have uC : U1 e.colour := by
    by_cases hn : s.n = 0
    · unfold Sq49.Dot.colour
      rw [he, if_pos hn]
      exact u_zero
    · rw [eS hn]
      exact uS
  have hcol := h.colour
  have hM : q s * q p.1 * q (Sq49.mix way a.colour e.colour) = q s * q p.1 * q (fMix way S p.2) := by
    by_cases hn : s.n = 0
    · rw [q_n0 hn]
      grind
    · rw [eS hn, hcol, mix_eq way uB uS]
  have rM : Red (Sq49.mix way a.colour e.colour) := by
    rw [hcol, mix_eq way uB uC]
    exact red_mix uC.red uB.red
  have rl : Red (Sq49.over way e a).light := by
    show Red (((e.light.mul (Sq49.one.less a.cover)).add (a.light.mul (Sq49.one.less e.cover))).add ((e.cover.mul a.cover).mul (Sq49.mix way a.colour e.colour)))
    rw [he, h.cov]
    exact red_add (red_add (red_mul hr (red_less red_one ub.red)) (red_mul h.lr (red_less red_one us.red))) (red_mul (red_mul us.red ub.red) rM)
  have ql : q (Sq49.over way e a).light = q S * q s * (1 - q p.1) + q p.2 * q p.1 * (1 - q s) + q s * q p.1 * q (fMix way S p.2) := by
    show q (((e.light.mul (Sq49.one.less a.cover)).add (a.light.mul (Sq49.one.less e.cover))).add ((e.cover.mul a.cover).mul (Sq49.mix way a.colour e.colour))) = _
    rw [he, h.cov, one_b, one_s]
    rw [q_add (red_add (red_mul hr r1) (red_mul h.lr r2)).1 (red_mul (red_mul us.red ub.red) rM).1, q_add (red_mul hr r1).1 (red_mul h.lr r2).1, q_mul hr.1 r1.1, q_mul h.lr.1 r2.1, q_mul (red_mul us.red ub.red).1 rM.1, q_mul us.d ub.d, hM, hq, h.lq, qb, qs]
  have cov : (Sq49.over way e a).cover = fEither s p.1 := by
    show (e.cover.add a.cover).less (e.cover.mul a.cover) = _
    rw [he, h.cov]
    exact less_either us ub
  unfold fPut
  dsimp only
  split
  · rename_i hz
    have hz' : q s + q p.1 - q s * q p.1 = 0 := by rw [← hw, hz, q_zero]
    obtain ⟨s0, b0⟩ := rat_z us.nn us.le ub.nn hz'
    refine ⟨cov.trans hz, u_zero, u_zero, rl, ?_, fun _ => rfl⟩
    show q (Sq49.over way e a).light = q Sq49.zero * q Sq49.zero
    rw [ql, s0, b0, q_zero]
    exact rat_0
  · rename_i hz
    have uw := u_either us ub
    have hp : 0 < (fEither s p.1).n := Nat.pos_of_ne_zero fun z => hz (Red.zero_of uw.red z)
    have rX := red_add (red_add (red_mul (red_mul uS.red us.red) r1) (red_mul (red_mul uB.red ub.red) r2)) (red_mul (red_mul us.red ub.red) uM.red)
    have qX : q ((((S.mul s).mul (fApart Sq49.one p.1)).add ((p.2.mul p.1).mul (fApart Sq49.one s))).add ((s.mul p.1).mul (fMix way S p.2))) = q (Sq49.over way e a).light := by
      rw [ql, q_add (red_add (red_mul (red_mul uS.red us.red) r1) (red_mul (red_mul uB.red ub.red) r2)).1 (red_mul (red_mul us.red ub.red) uM.red).1, q_add (red_mul (red_mul uS.red us.red) r1).1 (red_mul (red_mul uB.red ub.red) r2).1, q_mul (red_mul uS.red us.red).1 r1.1, q_mul (red_mul uB.red ub.red).1 r2.1, q_mul (red_mul us.red ub.red).1 uM.d, q_mul uS.d us.d, q_mul uB.d ub.d, q_mul us.d ub.d, qb, qs]
    have qw := q_ne uw.d hp
    generalize hX : ((((S.mul s).mul (fApart Sq49.one p.1)).add ((p.2.mul p.1).mul (fApart Sq49.one s))).add ((s.mul p.1).mul (fMix way S p.2))) = X at *
    generalize hWh : fEither s p.1 = Wh at *
    have lq : q (X.by_ Wh) * q Wh = q (Sq49.over way e a).light := by
      rw [q_by rX.1 uw.d hp, qX]
      exact rat_dm qw
    refine ⟨cov, uw, ⟨red_by rX hp, ?_⟩, rl, lq.symm, fun z => absurd z (Nat.pos_iff_ne_zero.mp hp)⟩
    · have b1 : q (Sq49.over way e a).light ≤ q Wh := by
        rw [ql, hw]
        exact rat_bound us.nn us.le ub.nn ub.le uS.le uB.le uM.le
      rw [← lq] at b1
      exact rat_div_le uw.nn qw b1
/-- all layers -/
theorem frac0 (d : Nat) : frac 0 d = Sq49.zero := rfl
theorem u_frac {n d : Nat} (hd : 0 < d) (h : n ≤ d) : U1 (frac n d) := ⟨red_frac hd, by
  have := (q_le (x := frac n d) (y := Sq49.one) (frac_d_pos hd) (by decide)).mpr (by
    have c := frac_cross (n := n) hd
    have p := frac_d_pos (n := n) hd
    show (frac n d).n * 1 ≤ 1 * (frac n d).d
    refine Nat.le_of_mul_le_mul_right (c := d) ?_ hd
    rw [Nat.mul_one, Nat.one_mul, c, Nat.mul_comm]
    exact Nat.mul_le_mul_left _ h)
  rw [q_one] at this
  exact this⟩
theorem node_dot {l : Layer} {w h x y : Nat} (hx : x < w) (hy : y < h) : Sq49.Node.dot x y (.layer l.how 0 0 w h l.dots) = if l.seen = false then Sq49.clear else Sq49.Dot.part (frac l.strong 255) ⟨frac ((l.dots[y * w + x]?).getD (0, 0)).2 255, (frac ((l.dots[y * w + x]?).getD (0, 0)).1 255).mul (frac ((l.dots[y * w + x]?).getD (0, 0)).2 255)⟩ := by
  rw [Sq49.Node.dot]
  have c : ¬ ((x : Int) - 0 < 0 ∨ (w : Int) ≤ (x : Int) - 0 ∨ (y : Int) - 0 < 0 ∨ (h : Int) ≤ (y : Int) - 0) := by omega
  rw [if_neg c]
  have e1 : ((x : Int) - 0).toNat = x := by omega
  have e2 : ((y : Int) - 0).toNat = y := by omega
  rw [e1, e2]
  rfl
theorem sh_dot {l : Layer} {n p : Nat} (hl : LOk l n) : (let d := (l.dots[p]?).getD (0, 0)
    U1 (frac (d.2 * l.strong * (if l.seen = true then 1 else 0)) 65025) ∧ U1 (frac d.1 255)) := by
  have hd : ((l.dots[p]?).getD (0, 0)).1 ≤ 255 ∧ ((l.dots[p]?).getD (0, 0)).2 ≤ 255 := by
    cases h : l.dots[p]? with
    | none => exact ⟨by decide, by decide⟩
    | some d => exact hl.dots d (List.mem_of_getElem? h)
  refine ⟨u_frac (by decide) ?_, u_frac (by decide) hd.1⟩
  have h3 : ((l.dots[p]?).getD (0, 0)).2 * l.strong ≤ 255 * 255 := Nat.mul_le_mul hd.2 hl.strong
  split <;> omega
theorem sh_layer {l : Layer} {n w h x y : Nat} {a : Sq49.Dot} {p : Frac × Frac} (hl : LOk l n) (hx : x < w) (hy : y < h) (i : ShInv a p) : ShInv (Sq49.over l.way (Sq49.Node.dot x y (.layer l.how 0 0 w h l.dots)) a) (fLayer l (y * w + x) p) := by
  rw [node_dot hx hy]
  obtain ⟨u1, u2⟩ := sh_dot (p := y * w + x) hl
  unfold fLayer
  dsimp only
  generalize (l.dots[y * w + x]?).getD (0, 0) = d at *
  have p255 : 0 < 255 := by decide
  cases hs : l.seen with
  | false =>
    rw [if_pos rfl]
    rw [hs] at u1
    refine sh_step i u1 u2 ?_ red_zero ?_
    · rfl
    · show q Sq49.zero = _
      rw [if_neg (by decide : ¬ false = true), Nat.mul_zero, frac0, q_zero]
      grind
  | true =>
    rw [if_neg (by decide)]
    rw [hs] at u1
    rw [if_pos rfl, Nat.mul_one] at u1
    rw [if_pos rfl, Nat.mul_one]
    refine sh_step i u1 u2 ?_ ?_ ?_
    · show (frac l.strong 255).mul (frac d.2 255) = _
      rw [mul_frac p255 p255, Nat.mul_comm]
    · show Red ((frac l.strong 255).mul ((frac d.1 255).mul (frac d.2 255)))
      exact red_mul (red_frac p255) (red_mul (red_frac p255) (red_frac p255))
    · show q ((frac l.strong 255).mul ((frac d.1 255).mul (frac d.2 255))) = _
      have r := fun n => (red_frac (n := n) p255).1
      rw [q_mul (r _) (red_mul (red_frac p255) (red_frac p255)).1, q_mul (r _) (r _), q_frac p255, q_frac p255, q_frac p255, q_frac (by decide : 0 < 65025), Rat.natCast_mul]
      grind
theorem sh_pile {n w h x y : Nat} (hx : x < w) (hy : y < h) : ∀ (ls : List Layer) (a b : Sq49.Dot) (p : Frac × Frac), (∀ l ∈ ls, LOk l n) → ShInv a p →
    ShInv (Sq49.Node.pile x y a b (ls.map fun l => .layer l.how 0 0 w h l.dots)) (ls.foldl (fun b l => fLayer l (y * w + x) b) p)
  | [], a, b, p, _, i => by
    rw [List.map_nil, Sq49.Node.pile]
    exact i
  | l :: ls, a, b, p, hl, i => by
    rw [List.map_cons, Sq49.Node.pile]
    exact sh_pile hx hy ls _ _ _ (fun m hm => hl m (List.mem_cons_of_mem _ hm)) (sh_layer (hl l List.mem_cons_self) hx hy i)
theorem shown_dot {a : Sq49.Dot} {p : Frac × Frac} (i : ShInv a p) : Sq49.shown a = if Sq49.rounded p.1 = 0 then (0, 0) else (Sq49.rounded p.2, Sq49.rounded p.1) := by
  unfold Sq49.shown
  rw [i.cov, i.colour]
theorem pile_eq {n w h x y : Nat} (hx : x < w) (hy : y < h) {ls : List Layer} (hl : ∀ l ∈ ls, LOk l n) : Sq49.shown (Sq49.Node.pile x y Sq49.clear Sq49.clear (ls.map fun l => .layer l.how 0 0 w h l.dots)) = fDot ls (y * w + x) :=
  shown_dot (sh_pile hx hy ls _ Sq49.clear _ hl sh_zero)
theorem fPile_inv {n p : Nat} (ls : List Layer) (hl : ∀ l ∈ ls, LOk l n) : U1 (fPile ls p).1 ∧ U1 (fPile ls p).2 := by
  have z := sh_pile (n := n) (w := p + 1) (h := 1) (x := p) (y := 0) (by omega) (by omega) ls Sq49.clear Sq49.clear _ hl sh_zero
  rw [Nat.zero_mul, Nat.zero_add] at z
  exact ⟨z.u1, z.u2⟩
theorem rounded_le {f : Frac} (u : U1 f) : Sq49.rounded f ≤ 255 := by
  have h := (q_le u.d u_one.d).mp (by rw [q_one]; exact u.le)
  have h : f.n * 1 ≤ 1 * f.d := h
  have hd := u.d
  unfold Sq49.rounded
  refine Nat.lt_succ_iff.mp (Nat.div_lt_of_lt_mul ?_)
  omega
theorem fDot_le {n p : Nat} {ls : List Layer} (hl : ∀ l ∈ ls, LOk l n) : (fDot ls p).1 ≤ 255 ∧ (fDot ls p).2 ≤ 255 := by
  obtain ⟨u1, u2⟩ := fPile_inv (p := p) ls hl
  unfold fDot
  split
  · exact ⟨by decide, by decide⟩
  · exact ⟨rounded_le u2, rounded_le u1⟩
theorem shown_eq {s : State} (W : WF s) {x y : Nat} (hx : x < s.w) (hy : y < s.h) : s.shown x y = fDot s.layers (y * s.w + x) := pile_eq hx hy W.lok
theorem LOk.plain {l : Layer} {n : Nat} (h : LOk l n) : LOk { l with way := 0 } n := ⟨h.len, h.dots, h.strong, Nat.zero_le _⟩
theorem joined_eq {s : State} {a b : Layer} (ha : LOk a (s.w * s.h)) (hb : LOk b (s.w * s.h)) : s.joined a b = (List.range (s.w * s.h)).map (fDot [{ a with way := 0 }, b]) := by
  unfold State.joined
  rw [cells_map]
  refine List.map_congr_left fun i hi => ?_
  have hi := List.mem_range.mp hi
  have hw : 0 < s.w := Nat.pos_of_ne_zero fun z => by rw [z] at hi; omega
  have z := pile_eq (n := s.w * s.h) (w := s.w) (h := s.h) (x := i % s.w) (y := i / s.w) (Nat.mod_lt _ hw) (Nat.div_lt_of_lt_mul hi) (ls := [{ a with way := 0 }, b]) (fun l hl => by
    rcases List.mem_cons.mp hl with rfl | hl
    · exact LOk.plain ha
    · rcases List.mem_cons.mp hl with rfl | hl
      · exact hb
      · cases hl)
  rw [back] at z
  exact z
theorem does_merge {s : State} (W : WF s) {c : Option Clip} : wish (decide (0 < pl s)) (-6) (.ok (pPut s ((s.layers[pl s - 1]?).getD lay0))) = s.does c .merge := by
  unfold State.does
  rw [place_eq W.on]
  have hlt := pl_lt W.on
  by_cases h : pl s = 0
  · rw [wish_f (decide_eq_false (by omega))]
    dsimp only
    rw [if_pos h]
  · rw [wish_t (decide_eq_true (by omega))]
    dsimp only
    have hl : pl s - 1 < s.layers.length := by omega
    rw [if_neg h, List.getElem?_eq_getElem hl]
    dsimp only [Option.getD_some]
    unfold pPut
    rw [joined_eq (W.lok _ (List.getElem_mem _)) W.lay_ok, app3]
end Lq
set_option Elab.async false
set_option linter.all false
/-! Plain laws: the flood. -/
namespace Lq
open Lp
open Sq50 (State Layer Dot Act Clip)
/-! ### come to by steps, over pixels' numbers -/
inductive Rch (n : Nat) (st : Nat → Nat → Prop) (f : Nat) : Nat → Prop
  | here : Rch n st f f
  | step {p r : Nat} : Rch n st f p → r < n → st p r → Rch n st f r
/-- closed under steps -/
theorem rch_closed {n f : Nat} {st : Nat → Nat → Prop} {S : Nat → Prop} (h0 : S f) (hc : ∀ p r, S p → r < n → st p r → S r) {p : Nat} (h : Rch n st f p) : S p := by
  induction h with
  | here => exact h0
  | step _ hr hs ih => exact hc _ _ ih hr hs
/-! ### the program's walk -/
structure FlI (n : Nat) (nb : Nat → List Nat) (ok : Nat → Nat → Bool) (f a : Nat) (st : List Bool × List Nat) : Prop where
  len : st.1.length = n
  al : a ≤ st.2.length
  mark : ∀ i, i < n → (st.1[i]? = some true ↔ i ∈ st.2)
  lt : ∀ i ∈ st.2, i < n
  nd : st.2.Nodup
  first : f ∈ st.2
  rch : ∀ i ∈ st.2, Rch n (fun p r => r ∈ nb p ∧ ok p r = true) f i
  done : ∀ j p, j < a → st.2[j]? = some p → ∀ r ∈ nb p, r < n → ok p r = true → r ∈ st.2
section
variable {n f : Nat} {nb : Nat → List Nat} {ok : Nat → Nat → Bool}
/-- one neighbour looked at -/
theorem flTry_ok {a : Nat} {st : List Bool × List Nat} {p o : Nat} (I : FlI n nb ok f a st) (hp : p ∈ st.2) (ho : o ∈ nb p) (hn : o < n) :
    FlI n nb ok f a (flTry (ok p) st o) ∧ (∃ t, (flTry (ok p) st o).2 = st.2 ++ t) ∧ (ok p o = true → o ∈ (flTry (ok p) st o).2) := by
  have hlt : o < st.1.length := by rw [I.len]; exact hn
  have e0 : st.1[o]? = some st.1[o] := List.getElem?_eq_getElem hlt
  unfold flTry
  by_cases hc : (!((st.1[o]?).getD false) && ok p o) = true
  · rw [if_pos hc]
    rw [Bool.and_eq_true, e0] at hc
    obtain ⟨h1, h2⟩ := hc
    have h1 : st.1[o] = false := by simpa using h1
    have hno : o ∉ st.2 := fun z => by
      have := (I.mark o hn).mpr z
      rw [e0, h1] at this
      cases this
    refine ⟨⟨?_, ?_, ?_, ?_, ?_, ?_, ?_, ?_⟩, ⟨[o], rfl⟩, fun _ => List.mem_append_right _ (List.mem_singleton.mpr rfl)⟩
    · show (st.1.set o true).length = n
      rw [List.length_set, I.len]
    · show a ≤ (st.2 ++ [o]).length
      rw [List.length_append]
      exact Nat.le_trans I.al (Nat.le_add_right _ _)
    · intro i hi
      show (st.1.set o true)[i]? = some true ↔ i ∈ st.2 ++ [o]
      by_cases e : o = i
      · subst e
        rw [List.getElem?_set_self hlt]
        simp
      · rw [List.getElem?_set_ne e, I.mark i hi, List.mem_append, List.mem_singleton]
        constructor
        · exact .inl
        · rintro (z | z)
          · exact z
          · exact absurd z.symm e
    · intro i hi
      rcases List.mem_append.mp hi with hi | hi
      · exact I.lt i hi
      · rw [List.mem_singleton.mp hi]
        exact hn
    · refine List.nodup_append.mpr ⟨I.nd, (List.nodup_cons.mpr ⟨List.not_mem_nil, List.nodup_nil⟩), fun x hx y hy z => ?_⟩
      rw [List.mem_singleton.mp hy] at z
      rw [z] at hx
      exact hno hx
    · exact List.mem_append_left _ I.first
    · intro i hi
      rcases List.mem_append.mp hi with hi | hi
      · exact I.rch i hi
      · rw [List.mem_singleton.mp hi]
        exact .step (I.rch p hp) hn ⟨ho, h2⟩
    · intro j x hj hx r hr hrn hro
      have hx : (st.2 ++ [o])[j]? = some x := hx
      rw [List.getElem?_append_left (Nat.lt_of_lt_of_le hj I.al)] at hx
      exact List.mem_append_left _ (I.done j x hj hx r hr hrn hro)
  · rw [if_neg hc]
    refine ⟨I, ⟨[], by rw [List.append_nil]⟩, fun h => ?_⟩
    rw [h, Bool.and_true, Bool.not_eq_true', Bool.not_eq_false, e0] at hc
    exact (I.mark o hn).mp (by rw [e0]; exact congrArg some hc)
theorem flVisit_ok {a p : Nat} : ∀ (L : List Nat) (st : List Bool × List Nat), FlI n nb ok f a st → p ∈ st.2 → (∀ o ∈ L, o ∈ nb p) → (∀ o ∈ L, o < n) →
    FlI n nb ok f a (L.foldl (flTry (ok p)) st) ∧ (∃ t, (L.foldl (flTry (ok p)) st).2 = st.2 ++ t) ∧ ∀ o ∈ L, ok p o = true → o ∈ (L.foldl (flTry (ok p)) st).2
  | [], st, I, _, _, _ => ⟨I, ⟨[], by rw [List.append_nil]; rfl⟩, fun o ho => by cases ho⟩
  | x :: L, st, I, hp, hL, hn => by
    obtain ⟨I1, ⟨t1, e1⟩, m1⟩ := flTry_ok I hp (hL x List.mem_cons_self) (hn x List.mem_cons_self)
    have hp1 : p ∈ (flTry (ok p) st x).2 := by rw [e1]; exact List.mem_append_left _ hp
    obtain ⟨I2, ⟨t2, e2⟩, m2⟩ := flVisit_ok L _ I1 hp1 (fun o ho => hL o (List.mem_cons_of_mem _ ho)) (fun o ho => hn o (List.mem_cons_of_mem _ ho))
    refine ⟨I2, ⟨t1 ++ t2, by rw [List.foldl_cons, e2, e1, List.append_assoc]⟩, fun o ho hok => ?_⟩
    rcases List.mem_cons.mp ho with rfl | ho
    · rw [List.foldl_cons, e2]
      exact List.mem_append_left _ (m1 hok)
    · exact m2 o ho hok
theorem nodup_len {l : List Nat} {n : Nat} (nd : l.Nodup) (h : ∀ i ∈ l, i < n) : l.length ≤ n := by
  have := nd.length_le_of_subset (l₂ := List.range n) fun i hi => List.mem_range.mpr (h i hi)
  rw [List.length_range] at this
  exact this
theorem flRun_ok (hnb : ∀ p, p < n → ∀ o ∈ nb p, o < n) : ∀ (m a : Nat) (st : List Bool × List Nat), FlI n nb ok f a st → n + 1 ≤ m + a → ∃ a', FlI n nb ok f a' (flRun nb ok m a st) ∧ (flRun nb ok m a st).2.length ≤ a'
  | 0, a, st, I, h => by
    have := nodup_len I.nd I.lt
    have := I.al
    omega
  | m + 1, a, st, I, h => by
    cases e : st.2[a]? with
    | none =>
      rw [flRun_none e]
      exact ⟨a, I, List.getElem?_eq_none_iff.mp e⟩
    | some p =>
      rw [flRun_some e]
      have hp := List.mem_of_getElem? e
      have hal := (List.getElem?_eq_some_iff.mp e).1
      obtain ⟨I1, ⟨t, et⟩, m1⟩ := flVisit_ok (nb p) st I hp (fun _ h => h) (hnb p (I.lt p hp))
      refine flRun_ok hnb m (a + 1) (flVisit nb ok st p) ?_ (by omega)
      refine { I1 with al := ?_, done := fun j x hj hx r hr hrn hro => ?_ }
      · show a + 1 ≤ (List.foldl (flTry (ok p)) st (nb p)).2.length
        rw [et, List.length_append]
        omega
      · rcases Nat.lt_or_ge j a with hja | hja
        · exact I1.done j x hja hx r hr hrn hro
        · have hj : j = a := by omega
          subst hj
          have hx : (List.foldl (flTry (ok p)) st (nb p)).2[j]? = some x := hx
          rw [et, List.getElem?_append_left hal, e] at hx
          rw [← Option.some.inj hx] at hr hro
          exact m1 r hr hro
theorem flRun_iff (hnb : ∀ p, p < n → ∀ o ∈ nb p, o < n) (hf : f < n) {i : Nat} (hi : i < n) :
    (flRun nb ok (n + 1) 0 ((List.replicate n false).set f true, [f])).1[i]? = some true ↔ Rch n (fun p r => r ∈ nb p ∧ ok p r = true) f i := by
  have I0 : FlI n nb ok f 0 ((List.replicate n false).set f true, [f]) := by
    refine ⟨by simp, Nat.zero_le _, fun i hi => ?_, fun i hi => ?_, List.nodup_cons.mpr ⟨List.not_mem_nil, List.nodup_nil⟩, List.mem_singleton.mpr rfl, fun i hi => ?_, fun j _ hj => by omega⟩
    · dsimp only
      by_cases e : f = i
      · subst e
        rw [List.getElem?_set_self (by simpa using hi)]
        simp
      · rw [List.getElem?_set_ne e, List.getElem?_replicate, if_pos hi, List.mem_singleton]
        simp
        exact fun z => e z.symm
    · rw [List.mem_singleton.mp hi]
      exact hf
    · rw [List.mem_singleton.mp hi]
      exact .here
  obtain ⟨a', I, hl⟩ := flRun_ok hnb (n + 1) 0 _ I0 (by omega)
  rw [I.mark i hi]
  constructor
  · exact I.rch i
  · intro h
    refine rch_closed (S := fun i => i ∈ (flRun nb ok (n + 1) 0 ((List.replicate n false).set f true, [f])).2) I.first (fun p r hp hr hs => ?_) h
    obtain ⟨j, hj, e⟩ := List.getElem_of_mem hp
    exact I.done j p (by omega) (by rw [List.getElem?_eq_getElem hj, e]) r hs.1 hr hs.2
end
/-! ### the specification's walk -/
theorem filter_lt {l : List (Nat × Nat)} {p q : Nat × Nat → Bool} (h1 : ∀ x, q x = true → p x = true) (h2 : ∃ x ∈ l, p x = true ∧ q x = false) : (l.filter q).length < (l.filter p).length := by
  have e : l.filter q = (l.filter p).filter q := by
    rw [List.filter_filter]
    refine List.filter_congr fun x _ => ?_
    cases hq : q x with
    | false => rfl
    | true => rw [h1 x hq]; rfl
  rw [e]
  refine List.length_filter_lt_length_iff_exists.mpr ?_
  obtain ⟨x, hx, hp, hq⟩ := h2
  exact ⟨x, List.mem_filter.mpr ⟨hx, hp⟩, by rw [hq]; decide⟩
section
variable {g : Sq44.House} {cn : Bool} {ok : Sq44.Pixel → Sq44.Pixel → Bool}
theorem spread_ok {S : Sq44.Pixel → Prop} : ∀ (f : Nat) (l : List Sq44.Pixel), (g.cells.filter fun q => !l.contains q).length ≤ f → (∀ q ∈ l, S q) → (∀ p q, S p → q ∈ g.cells → Sq44.beside cn p q = true → ok p q = true → S q) →
    (∀ q ∈ l, q ∈ g.spread cn ok f l) ∧ (∀ q ∈ g.spread cn ok f l, S q) ∧ ∀ p ∈ g.spread cn ok f l, ∀ q ∈ g.cells, Sq44.beside cn p q = true → ok p q = true → q ∈ g.spread cn ok f l
  | 0, l, hf, h, hc => by
    have e : g.spread cn ok 0 l = l := by unfold Sq44.House.spread; rfl
    rw [e]
    refine ⟨fun _ h => h, h, fun p hp q hq _ _ => ?_⟩
    have := List.filter_eq_nil_iff.mp (List.length_eq_zero_iff.mp (Nat.le_zero.mp hf)) q hq
    simpa using this
  | f + 1, l, hf, h, hc => by
    have e : g.spread cn ok (f + 1) l = if (g.cells.filter fun q => !l.contains q && l.any fun p => Sq44.beside cn p q && ok p q).isEmpty = true then l else g.spread cn ok f (l ++ g.cells.filter fun q => !l.contains q && l.any fun p => Sq44.beside cn p q && ok p q) := by
      conv => lhs; unfold Sq44.House.spread
    rw [e]
    by_cases hn : (g.cells.filter fun q => !l.contains q && l.any fun p => Sq44.beside cn p q && ok p q).isEmpty = true
    · rw [if_pos hn]
      refine ⟨fun _ h => h, h, fun p hp q hq hb hk => ?_⟩
      have := List.filter_eq_nil_iff.mp (List.isEmpty_iff.mp hn) q hq
      refine Classical.byContradiction fun hnl => this ?_
      rw [Bool.and_eq_true]
      refine ⟨by simpa using hnl, List.any_eq_true.mpr ⟨p, hp, by rw [hb, hk]; rfl⟩⟩
    · rw [if_neg hn]
      generalize hN : (g.cells.filter fun q => !l.contains q && l.any fun p => Sq44.beside cn p q && ok p q) = new at *
      have hS : ∀ q ∈ l ++ new, S q := fun q hq => by
        rcases List.mem_append.mp hq with hq | hq
        · exact h q hq
        · rw [← hN] at hq
          obtain ⟨h1, h2⟩ := List.mem_filter.mp hq
          rw [Bool.and_eq_true] at h2
          obtain ⟨p, hp, h3⟩ := List.any_eq_true.mp h2.2
          rw [Bool.and_eq_true] at h3
          exact hc p q (h p hp) h1 h3.1 h3.2
      have hlt : (g.cells.filter fun q => !(l ++ new).contains q).length < (g.cells.filter fun q => !l.contains q).length := by
        refine filter_lt (fun x hx => ?_) ?_
        · simp at hx ⊢
          exact hx.1
        · cases hnew : new with
          | nil => rw [hnew] at hn; exact absurd rfl hn
          | cons x r =>
            have hx : x ∈ new := by rw [hnew]; exact List.mem_cons_self
            have hx2 := hx
            rw [← hN] at hx2
            obtain ⟨h1, h2⟩ := List.mem_filter.mp hx2
            rw [Bool.and_eq_true] at h2
            refine ⟨x, h1, h2.1, ?_⟩
            simp
      obtain ⟨z1, z2, z3⟩ := spread_ok f (l ++ new) (by omega) hS hc
      exact ⟨fun q hq => z1 q (List.mem_append_left _ hq), z2, z3⟩
end
end Lq
set_option Elab.async false
set_option linter.all false
/-! Plain laws: the flood is the specification's. -/
namespace Lq
open Lp
open Sq50 (State Layer Dot Act Clip)
theorem stepTo_iff {s : State} (W : WF s) {i r : Nat} {d : Int × Int} (hi : i < s.w * s.h) (hr : r < s.w * s.h) : stepTo s i d = some r ↔ ((i % s.w : Nat) : Int) + d.1 = (r % s.w : Nat) ∧ ((i / s.w : Nat) : Int) + d.2 = (r / s.w : Nat) := by
  have x1 := Nat.mod_lt r W.w1
  have y1 : r / s.w < s.h := Nat.div_lt_of_lt_mul hr
  have br := back r s.w
  unfold stepTo
  constructor
  · intro e
    split at e
    · rename_i h
      have e := Option.some.inj e
      obtain ⟨n1, h1⟩ := Int.eq_ofNat_of_zero_le h.1
      obtain ⟨n2, h2⟩ := Int.eq_ofNat_of_zero_le h.2.2.1
      have hn : n1 < s.w := by
        have := h.2.1
        omega
      rw [h1, h2, ← Int.natCast_mul, ← Int.natCast_add, Int.toNat_natCast, ← br] at e
      obtain ⟨m1, m2⟩ := cell_inj hn x1 e
      exact ⟨by rw [h1, m1], by rw [h2, m2]⟩
    · cases e
  · rintro ⟨e1, e2⟩
    rw [e1, e2, if_pos ⟨Int.natCast_nonneg _, Int.ofNat_lt.mpr x1, Int.natCast_nonneg _, Int.ofNat_lt.mpr y1⟩, ← Int.natCast_mul, ← Int.natCast_add, Int.toNat_natCast, br]
theorem sq1 {a b : Nat} : a ^ 2 + b ^ 2 = 1 ↔ (a = 1 ∧ b = 0) ∨ (a = 0 ∧ b = 1) := by
  rw [Nat.pow_two, Nat.pow_two]
  constructor
  · intro h
    have ha : a < 2 := Nat.lt_of_not_le fun z => by
      have := Nat.mul_le_mul z z
      omega
    have hb : b < 2 := Nat.lt_of_not_le fun z => by
      have := Nat.mul_le_mul z z
      omega
    have ha' : a = 0 ∨ a = 1 := by omega
    have hb' : b = 0 ∨ b = 1 := by omega
    rcases ha' with rfl | rfl <;> rcases hb' with rfl | rfl <;> simp at h ⊢
  · rintro (⟨rfl, rfl⟩ | ⟨rfl, rfl⟩) <;> rfl
theorem sq2 {a b : Nat} : a ^ 2 + b ^ 2 = 2 ↔ a = 1 ∧ b = 1 := by
  rw [Nat.pow_two, Nat.pow_two]
  constructor
  · intro h
    have ha : a < 2 := Nat.lt_of_not_le fun z => by
      have := Nat.mul_le_mul z z
      omega
    have hb : b < 2 := Nat.lt_of_not_le fun z => by
      have := Nat.mul_le_mul z z
      omega
    have ha' : a = 0 ∨ a = 1 := by omega
    have hb' : b = 0 ∨ b = 1 := by omega
    rcases ha' with rfl | rfl <;> rcases hb' with rfl | rfl <;> simp at h ⊢
  · rintro ⟨rfl, rfl⟩
    rfl
theorem way_iff {X Y x y : Nat} {cn : Bool} : (∃ d ∈ waysOf cn, (X : Int) + d.1 = x ∧ (Y : Int) + d.2 = y) ↔ Sq44.beside cn (X, Y) (x, y) = true := by
  unfold Sq44.beside Sq44.far
  dsimp only
  rw [Bool.or_eq_true, beq_iff_eq, Bool.and_eq_true, beq_iff_eq, sq1, sq2]
  unfold Sq44.apart
  cases cn with
  | false =>
    unfold waysOf ways4
    rw [if_neg (by decide)]
    simp only [List.mem_cons, List.not_mem_nil, or_false, exists_eq_or_imp, exists_eq_left, Bool.false_eq_true, false_and]
    omega
  | true =>
    unfold waysOf ways4 ways8
    rw [if_pos rfl]
    simp only [List.cons_append, List.nil_append, List.mem_cons, List.not_mem_nil, or_false, exists_eq_or_imp, exists_eq_left, true_and]
    omega
theorem pBeside_iff {s : State} (W : WF s) {i r : Nat} {cn : Bool} (hi : i < s.w * s.h) (hr : r < s.w * s.h) : r ∈ pBeside s i cn ↔ Sq44.beside cn (i % s.w, i / s.w) (r % s.w, r / s.w) = true := by
  rw [← way_iff]
  unfold pBeside
  rw [List.mem_filterMap]
  constructor
  · rintro ⟨d, hd, e⟩
    exact ⟨d, hd, (stepTo_iff W hi hr).mp e⟩
  · rintro ⟨d, hd, e⟩
    exact ⟨d, hd, (stepTo_iff W hi hr).mpr e⟩
theorem stepTo_lt {s : State} {i r : Nat} {d : Int × Int} (h : stepTo s i d = some r) : r < s.w * s.h := by
  unfold stepTo at h
  split at h
  · rename_i c
    have e := Option.some.inj h
    obtain ⟨n1, h1⟩ := Int.eq_ofNat_of_zero_le c.1
    obtain ⟨n2, h2⟩ := Int.eq_ofNat_of_zero_le c.2.2.1
    have c1 := c.2.1
    have c2 := c.2.2.2
    rw [h1] at c1
    rw [h2] at c2
    rw [h1, h2, ← Int.natCast_mul, ← Int.natCast_add, Int.toNat_natCast] at e
    rw [← e]
    exact cell_lt (by omega) (by omega)
  · cases h
theorem pBeside_lt {s : State} {i r : Nat} {cn : Bool} (h : r ∈ pBeside s i cn) : r < s.w * s.h := by
  obtain ⟨d, _, e⟩ := List.mem_filterMap.mp h
  exact stepTo_lt e
theorem g_at (s : State) (i : Nat) : s.choice.at_ (i % s.w, i / s.w) = colN s i := by
  unfold Sq44.House.at_ State.choice colN colL
  simp only [back, List.getElem?_toArray]
/-- the steps of a flood -/
def flOkG (s : State) (x y tol kind : Nat) (p q : Sq44.Pixel) : Bool := decide (Sq44.apart (s.choice.at_ (if kind = 0 then (x, y) else p)) (s.choice.at_ q) ≤ tol)
theorem flOk_iff {s : State} {x y tol kind : Nat} (hx : x < s.w) (i r : Nat) : flOkG s x y tol kind (i % s.w, i / s.w) (r % s.w, r / s.w) = flOk s (y * s.w + x) tol kind i r := by
  unfold flOkG flOk
  have e : s.choice.at_ (if kind = 0 then (x, y) else (i % s.w, i / s.w)) = colN s (if kind = 0 then y * s.w + x else i) := by
    split
    · have := g_at s (y * s.w + x)
      rw [cell_mod hx, cell_div hx] at this
      exact this
    · exact g_at s i
  rw [e, g_at]
  unfold Sq44.apart
  exact decide_eq_decide.mpr (by omega)
theorem gcells_mem {s : State} {c : Nat × Nat} (h : c ∈ s.choice.cells) : ∃ r, r < s.w * s.h ∧ c = (r % s.w, r / s.w) := by
  rw [gcells] at h
  obtain ⟨r, hr, e⟩ := List.mem_map.mp h
  exact ⟨r, List.mem_range.mp hr, e.symm⟩
theorem gcells_of {s : State} {r : Nat} (h : r < s.w * s.h) : (r % s.w, r / s.w) ∈ s.choice.cells := by
  rw [gcells]
  exact List.mem_map.mpr ⟨r, List.mem_range.mpr h, rfl⟩
theorem cell_pos {s : State} {i j : Nat} (h : (i % s.w, i / s.w) = (j % s.w, j / s.w)) : i = j := by
  rw [← back i s.w, ← back j s.w]
  injection h with h1 h2
  rw [h1, h2]
theorem flood_iff {s : State} (W : WF s) {x y tol kind : Nat} {cn : Bool} (hx : x < s.w) (hy : y < s.h) {i : Nat} (hi : i < s.w * s.h) :
    (i % s.w, i / s.w) ∈ s.choice.flood cn (flOkG s x y tol kind) (x, y) ↔ Rch (s.w * s.h) (fun p r => r ∈ pBeside s p cn ∧ flOk s (y * s.w + x) tol kind p r = true) (y * s.w + x) i := by
  have hf := cell_lt hx hy
  have e0 : (x, y) = ((y * s.w + x) % s.w, (y * s.w + x) / s.w) := by rw [cell_mod hx, cell_div hx]
  obtain ⟨z1, z2, z3⟩ := spread_ok (g := s.choice) (cn := cn) (ok := flOkG s x y tol kind) (S := fun c => ∃ j, j < s.w * s.h ∧ c = (j % s.w, j / s.w) ∧ Rch (s.w * s.h) (fun p r => r ∈ pBeside s p cn ∧ flOk s (y * s.w + x) tol kind p r = true) (y * s.w + x) j) (s.w * s.h) [(x, y)] (by
      refine Nat.le_trans (List.length_filter_le ..) ?_
      rw [gcells, List.length_map, List.length_range]
      exact Nat.le_refl _) (fun c hc => ⟨y * s.w + x, hf, by rw [List.mem_singleton.mp hc]; exact e0, .here⟩) (by
      rintro p c ⟨j, hj, rfl, hR⟩ hc hb hk
      obtain ⟨r, hr, rfl⟩ := gcells_mem hc
      exact ⟨r, hr, rfl, .step hR hr ⟨(pBeside_iff W hj hr).mpr hb, by rw [← flOk_iff hx]; exact hk⟩⟩)
  constructor
  · intro h
    obtain ⟨j, hj, e, hR⟩ := z2 _ h
    rw [cell_pos e]
    exact hR
  · intro h
    have : i < s.w * s.h ∧ (i % s.w, i / s.w) ∈ s.choice.spread cn (flOkG s x y tol kind) (s.w * s.h) [(x, y)] := by
      refine rch_closed (S := fun j => j < s.w * s.h ∧ (j % s.w, j / s.w) ∈ s.choice.spread cn (flOkG s x y tol kind) (s.w * s.h) [(x, y)]) ⟨hf, ?_⟩ ?_ h
      · rw [← e0]
        exact z1 _ (List.mem_singleton.mpr rfl)
      · rintro p r ⟨hp, hm⟩ hr ⟨hs1, hs2⟩
        exact ⟨hr, z3 _ hm _ (gcells_of hr) ((pBeside_iff W hp hr).mp hs1) (by rw [flOk_iff hx]; exact hs2)⟩
    exact this.2
theorem pFlood_len {s : State} (first tol kind : Nat) (cn : Bool) : (pFlood s first tol kind cn).length = s.w * s.h := by
  have h : ∀ (f : Nat → Nat → Bool) (m a : Nat) (st : List Bool × List Nat), (flRun (fun p => pBeside s p cn) f m a st).1.length = st.1.length := by
    intro f m
    induction m with
    | zero => intro a st; rfl
    | succ m ih =>
      intro a st
      unfold flRun
      cases st.2[a]? with
      | none => rfl
      | some p =>
        dsimp only
        rw [ih]
        unfold flVisit
        dsimp only
        generalize pBeside s p cn = L
        induction L generalizing st with
        | nil => rfl
        | cons o L ih2 =>
          rw [List.foldl_cons, ih2]
          unfold flTry
          split
          · exact List.length_set ..
          · rfl
  unfold pFlood flStart
  rw [h]
  simp
theorem does_flood {s : State} (W : WF s) (how x y tol kind c : Nat) {cl : Option Clip} : dFlood s how x y tol kind c = s.does cl (.flood how x y tol kind c) := by
  unfold dFlood State.does
  refine wish_if (by simp only [Bool.and_eq_true, decide_eq_true_iff]; omega) fun h => ?_
  simp only [Bool.and_eq_true, decide_eq_true_iff] at h
  obtain ⟨h1, h2, h3, hx, hy⟩ := h
  refine congrArg _ ?_
  have hi : s.choice.is (x, y) = true := by
    unfold Sq44.House.is State.choice
    rw [Bool.and_eq_true, decide_eq_true_iff, decide_eq_true_iff]
    exact ⟨hx, hy⟩
  rw [Sq44.House.step, if_neg (by rw [hi]; simp; omega)]
  show _ = s.take (s.choice.join how fun p => (s.choice.flood (c == 1) (flOkG s x y tol kind) (x, y)).contains p)
  have e : pFlood s (y * s.w + x) tol kind (c == 1) = (List.range (s.w * s.h)).map fun i => ((pFlood s (y * s.w + x) tol kind (c == 1))[i]?).getD false := by
    refine list_of (pFlood_len ..) fun p hp => ?_
    rw [List.getElem?_eq_getElem (by rw [pFlood_len]; exact hp)]
    rfl
  rw [e]
  refine take_join W how _ _ fun i hi => ?_
  have hn := cell_lt hx hy
  have key := (flRun_iff (n := s.w * s.h) (f := y * s.w + x) (nb := fun p => pBeside s p (c == 1)) (ok := flOk s (y * s.w + x) tol kind) (fun p _ o ho => pBeside_lt ho) hn hi).trans (flood_iff W (tol := tol) (kind := kind) hx hy hi).symm
  have key : (pFlood s (y * s.w + x) tol kind (c == 1))[i]? = some true ↔ (i % s.w, i / s.w) ∈ s.choice.flood (c == 1) (flOkG s x y tol kind) (x, y) := key
  rw [Bool.eq_iff_iff, List.contains_iff_mem, ← key]
  rw [List.getElem?_eq_getElem (by rw [pFlood_len]; exact hi)]
  simp
end Lq
set_option Elab.async false
set_option linter.all false
/-! Plain laws: what a deed costs. -/
namespace Lq
open Lp
open Sq50 (State Layer Dot Act Clip)
theorem unl_cons {α : Type} [DecidableEq α] (x y : α) (xs ys : List α) : unl (x :: xs) (y :: ys) = (if x = y then 0 else 1) + unl xs ys := by
  unfold unl
  rw [List.length_cons, List.range_succ_eq_map, List.filter_cons, List.filter_map, List.getElem?_cons_zero, List.getElem?_cons_zero]
  have e : ((fun i => !decide ((x :: xs)[i]? = (y :: ys)[i]?)) ∘ Nat.succ) = fun i => !decide (xs[i]? = ys[i]?) := by
    funext i
    simp
  rw [e]
  by_cases h : x = y
  · rw [if_pos h, if_neg (by simp [h]), List.length_map, Nat.zero_add]
  · rw [if_neg h, if_pos (by simp [h]), List.length_cons, List.length_map, Nat.add_comm]
theorem unl_zip {α : Type} [DecidableEq α] [BEq α] [LawfulBEq α] : ∀ (xs ys : List α), xs.length = ys.length → unl xs ys = ((xs.zip ys).filter fun x => x.1 != x.2).length
  | [], [], _ => rfl
  | [], _ :: _, h => by simp at h
  | _ :: _, [], h => by simp at h
  | x :: xs, y :: ys, h => by
    rw [unl_cons, List.zip_cons_cons, List.filter_cons, unl_zip xs ys (by simpa using h)]
    by_cases e : x = y
    · rw [if_pos e, if_neg (by simp [e]), Nat.zero_add]
    · rw [if_neg e, if_pos (by simp [e]), List.length_cons, Nat.add_comm]
theorem sum_one {B : List Layer} {m0 : Layer} {F G : Layer → Nat} (nd : (B.map (·.id)).Nodup) (hm : m0 ∈ B) (h : ∀ m ∈ B, m.id ≠ m0.id → F m = G m) : (B.map F).sum + G m0 = (B.map G).sum + F m0 := by
  obtain ⟨B1, B2, rfl⟩ := List.append_of_mem hm
  rw [List.map_append, List.map_cons, List.nodup_append] at nd
  obtain ⟨_, n2, n3⟩ := nd
  have n2 := List.nodup_cons.mp n2
  have e1 : B1.map F = B1.map G := List.map_congr_left fun m hm => h m (List.mem_append_left _ hm) (n3 m.id (List.mem_map_of_mem hm) m0.id List.mem_cons_self)
  have e2 : B2.map F = B2.map G := List.map_congr_left fun m hm => h m (List.mem_append_right _ (List.mem_cons_of_mem _ hm)) fun z => n2.1 (by rw [← z]; exact List.mem_map_of_mem hm)
  rw [List.map_append, List.map_append, List.map_cons, List.map_cons, List.sum_append, List.sum_append, List.sum_cons, List.sum_cons, e1, e2]
  omega
theorem find_none_of {A : List Layer} {n : Nat} (h : n ∉ A.map (·.id)) : A.find? (fun m => m.id == n) = none := by
  refine List.find?_eq_none.mpr fun m hm z => h ?_
  rw [← beq_iff_eq.mp z]
  exact List.mem_map_of_mem hm
theorem any_none_of {A : List Layer} {n : Nat} (h : n ∉ A.map (·.id)) : (A.any fun m => m.id == n) = false := by
  rw [any_ids]
  exact decide_eq_false h
def gN (B : List Layer) (f : Layer → Layer → Nat) (a : Nat) (l : Layer) : Nat := match B.find? (fun m => m.id == l.id) with
  | none => a
  | some m => f l m
def gA (A : List Layer) (b : Nat) (m : Layer) : Nat := if (A.any fun l => l.id == m.id) = true then 0 else b
def gM (A : List Layer) (f : Layer → Layer → Nat) (b : Nat) (m : Layer) : Nat := match A.find? (fun l => l.id == m.id) with
  | some l => f l m
  | none => b
theorem id_inj : ∀ (C : List Layer), (C.map (·.id)).Nodup → ∀ x ∈ C, ∀ y ∈ C, x.id = y.id → x = y
  | [], _, x, hx, _, _, _ => by cases hx
  | c :: C, nd, x, hx, y, hy, e => by
    rw [List.map_cons] at nd
    have nd := List.nodup_cons.mp nd
    rcases List.mem_cons.mp hx with h1 | h1
    · rcases List.mem_cons.mp hy with h2 | h2
      · rw [h1, h2]
      · refine absurd ?_ nd.1
        rw [← h1, e]
        exact List.mem_map_of_mem h2
    · rcases List.mem_cons.mp hy with h2 | h2
      · refine absurd ?_ nd.1
        rw [← h2, ← e]
        exact List.mem_map_of_mem h1
      · exact id_inj C nd.2 x h1 y h2 e
theorem find_of {B : List Layer} (nb : (B.map (·.id)).Nodup) {n : Nat} {m0 : Layer} (hm : m0 ∈ B) (e : m0.id = n) : B.find? (fun m => m.id == n) = some m0 := by
  cases hx : B.find? (fun m => m.id == n) with
  | none =>
    have := List.find?_eq_none.mp hx m0 hm
    simp [e] at this
  | some m1 =>
    have h1 := List.mem_of_find?_eq_some hx
    have h2 := List.find?_some hx
    have h2 : m1.id = n := by simpa using h2
    rw [id_inj B nb m1 h1 m0 hm (by rw [h2, e])]
theorem swap_sum {B : List Layer} (nb : (B.map (·.id)).Nodup) (f : Layer → Layer → Nat) (a b : Nat) : ∀ A : List Layer, (A.map (·.id)).Nodup →
    (A.map (gN B f a)).sum + (B.map (gA A b)).sum = (B.map (gM A f b)).sum + (A.filter fun l => !(B.any fun m => m.id == l.id)).length * a
  | [], _ => by
    rw [List.map_nil, List.sum_nil, List.filter_nil, List.length_nil, Nat.zero_mul, Nat.zero_add, Nat.add_zero]
    rfl
  | l :: A, na => by
    rw [List.map_cons] at na
    have na := List.nodup_cons.mp na
    have ih := swap_sum nb f a b A na.2
    rw [List.map_cons, List.sum_cons, List.filter_cons]
    have other : ∀ m : Layer, m.id ≠ l.id → gA (l :: A) b m = gA A b m ∧ gM (l :: A) f b m = gM A f b m := fun m hm => by
      have e : (l.id == m.id) = false := by simp; exact fun z => hm z.symm
      unfold gA gM
      rw [List.any_cons, List.find?_cons, e]
      exact ⟨rfl, rfl⟩
    by_cases hl : l.id ∈ B.map (·.id)
    · obtain ⟨m0, hm0, e0⟩ := List.mem_map.mp hl
      have hf := find_of nb hm0 e0
      have hany : (B.any fun m => m.id == l.id) = true := by rw [any_ids]; exact decide_eq_true hl
      have v1 : gN B f a l = f l m0 := by unfold gN; rw [hf]
      rw [v1, hany, if_neg (by decide)]
      have n0 : m0.id ∉ A.map (·.id) := by rw [e0]; exact na.1
      have s1 := sum_one (F := gA (l :: A) b) (G := gA A b) nb hm0 fun m hm hne => (other m (by rw [← e0]; exact hne)).1
      have s2 := sum_one (F := gM (l :: A) f b) (G := gM A f b) nb hm0 fun m hm hne => (other m (by rw [← e0]; exact hne)).2
      have b1 : (l.id == m0.id) = true := by simp [e0]
      have w1 : gA (l :: A) b m0 = 0 := by unfold gA; rw [List.any_cons, b1]; rfl
      have w2 : gA A b m0 = b := by unfold gA; rw [any_none_of n0]; rfl
      have w3 : gM (l :: A) f b m0 = f l m0 := by unfold gM; rw [List.find?_cons, b1]
      have w4 : gM A f b m0 = b := by unfold gM; rw [find_none_of n0]
      rw [w1, w2] at s1
      rw [w3, w4] at s2
      omega
    · have v1 : gN B f a l = a := by unfold gN; rw [find_none_of hl]
      rw [v1, any_none_of hl, if_pos (by rfl), List.length_cons]
      have e1 : B.map (gA (l :: A) b) = B.map (gA A b) := List.map_congr_left fun m hm => (other m fun z => hl (by rw [← z]; exact List.mem_map_of_mem hm)).1
      have e2 : B.map (gM (l :: A) f b) = B.map (gM A f b) := List.map_congr_left fun m hm => (other m fun z => hl (by rw [← z]; exact List.mem_map_of_mem hm)).2
      rw [e1, e2, Nat.add_mul, Nat.one_mul]
      omega
def unz (l m : Layer) : Nat := ((l.dots.zip m.dots).filter fun x => x.1 != x.2).length
theorem cost_eq {s t : State} (S : WF s) (T : WF t) : pCost s t = 1 + Sq50.differs s t := by
  unfold pCost Sq50.differs
  by_cases h : s.w ≠ t.w ∨ s.h ≠ t.h
  · rw [if_pos h, if_pos h, Nat.mul_comm (s.w * s.h), Nat.mul_comm (t.w * t.h), Nat.add_assoc]
  · rw [if_neg h, if_neg h]
    have hw : s.w = t.w := Classical.byContradiction fun z => h (.inl z)
    have hh : s.h = t.h := Classical.byContradiction fun z => h (.inr z)
    have hn : t.w * t.h = s.w * s.h := by rw [hw, hh]
    have sw := swap_sum T.nd unz (s.w * s.h) (t.w * t.h) s.layers S.nd
    have e3 : t.layers.map (pGain s t) = t.layers.map (gM s.layers unz (t.w * t.h)) := List.map_congr_left fun m hm => by
      unfold pGain gM
      cases hf : s.layers.find? (fun l => l.id == m.id) with
      | none => rfl
      | some l =>
        show unl l.dots m.dots = ((l.dots.zip m.dots).filter fun x => x.1 != x.2).length
        exact unl_zip l.dots m.dots (((S.lok l (List.mem_of_find?_eq_some hf)).len).trans (hn.symm.trans (T.lok m hm).len.symm))
    dsimp only
    rw [e3, unl_zip s.chosen t.chosen (by rw [S.cho, T.cho, hn])]
    have e1 := List.map_congr_left (l := s.layers) (f := fun l => match t.layers.find? fun m => m.id == l.id with
        | none => l.dots.length
        | some m => ((l.dots.zip m.dots).filter fun (x : Dot × Dot) => x.1 != x.2).length) (g := gN t.layers unz (s.w * s.h)) fun l hl => by
      rw [(S.lok l hl).len]
      rfl
    have e2 := List.map_congr_left (l := t.layers) (f := fun l => if (s.layers.any fun m => m.id == l.id) = true then 0 else l.dots.length) (g := gA s.layers (t.w * t.h)) fun l hl => by
      rw [(T.lok l hl).len]
      rfl
    have e1' := congrArg List.sum e1
    have e2' := congrArg List.sum e2
    refine Eq.trans ?_ (congrArg (fun z => 1 + z) (congr (congrArg HAdd.hAdd (congr (congrArg HAdd.hAdd e1'.symm) e2'.symm)) rfl))
    omega
end Lq
set_option Elab.async false
set_option linter.all false
/-! Plain laws: what a picture keeps; any deed. -/
namespace Lq
open Lp
open Sq50 (State Layer Dot Act Clip)
theorem wish_ok {b : Bool} {z : Int} {r : Except Int State} {t : State} (h : wish b z r = .ok t) : b = true ∧ r = .ok t := by
  unfold wish at h
  split at h
  · rename_i e
    exact ⟨e, h⟩
  · cases h
theorem ok_inj {s t : State} (h : (Except.ok s : Except Int State) = .ok t) : s = t := Except.ok.inj h
/-- layers changed one by one, their numbers the same -/
theorem wf_map {s : State} (W : WF s) (g : Layer → Layer) (hid : ∀ l, (g l).id = l.id) (hok : ∀ l ∈ s.layers, LOk (g l) (s.w * s.h)) : WF { s with layers := s.layers.map g } := by
  have e : (s.layers.map g).map (·.id) = s.layers.map (·.id) := by
    rw [List.map_map]
    exact List.map_congr_left fun l _ => hid l
  refine ⟨W.w1, W.w2, W.h1, W.h2, ?_, ?_, ?_, ?_, ?_, W.cho⟩
  · show (s.layers.map g).length ≤ 5
    rw [List.length_map]
    exact W.le
  · show ((s.layers.map g).map (·.id)).Nodup
    rw [e]
    exact W.nd
  · show s.on ∈ (s.layers.map g).map (·.id)
    rw [e]
    exact W.on
  · intro m hm
    obtain ⟨l, hl, rfl⟩ := List.mem_map.mp hm
    rw [hid]
    exact W.nx l hl
  · intro m hm
    obtain ⟨l, hl, rfl⟩ := List.mem_map.mp hm
    exact hok l hl
theorem wf_cho {s : State} (W : WF s) {bs : List Bool} (h : bs.length = s.w * s.h) : WF { s with chosen := bs } := ⟨W.w1, W.w2, W.h1, W.h2, W.le, W.nd, W.on, W.nx, W.lok, h⟩
/-- layers by another order, or fewer of them -/
theorem wf_sub {s : State} (W : WF s) {ls : List Layer} {n : Nat} (hs : ∀ l ∈ ls, l ∈ s.layers) (nd : (ls.map (·.id)).Nodup) (hl : ls.length ≤ 5) (hn : n ∈ ls.map (·.id)) : WF { s with layers := ls, on := n } :=
  ⟨W.w1, W.w2, W.h1, W.h2, hl, nd, hn, fun l h => W.nx l (hs l h), fun l h => W.lok l (hs l h), W.cho⟩
def dOk (d : Dot) : Prop := d.1 ≤ 255 ∧ d.2 ≤ 255
theorem ins_perm (ls : List Layer) (k : Nat) (x : Layer) : (ls.take k ++ [x] ++ ls.drop k).Perm (x :: ls) := by
  rw [app3]
  have := List.perm_middle (a := x) (l₁ := ls.take k) (l₂ := ls.drop k)
  rw [List.take_append_drop] at this
  exact this
theorem wf_newL {s : State} (W : WF s) {ds : List Dot} (hl : s.layers.length < 5) (hd : ds.length = s.w * s.h) (ho : ∀ d ∈ ds, dOk d) : WF (newL s ds) := by
  have p := ins_perm s.layers (pl s + 1) (⟨s.next, true, 255, 0, ds⟩ : Layer)
  unfold newL
  refine ⟨W.w1, W.w2, W.h1, W.h2, ?_, ?_, ?_, ?_, ?_, W.cho⟩
  · show (s.layers.take (pl s + 1) ++ [(⟨s.next, true, 255, 0, ds⟩ : Layer)] ++ s.layers.drop (pl s + 1)).length ≤ 5
    rw [p.length_eq, List.length_cons]
    omega
  · show ((s.layers.take (pl s + 1) ++ [(⟨s.next, true, 255, 0, ds⟩ : Layer)] ++ s.layers.drop (pl s + 1)).map (·.id)).Nodup
    rw [(p.map (·.id)).nodup_iff, List.map_cons, List.nodup_cons]
    refine ⟨fun z => ?_, W.nd⟩
    obtain ⟨l, hl, e⟩ := List.mem_map.mp z
    have := W.nx l hl
    have e : l.id = s.next := e
    omega
  · show s.next ∈ (s.layers.take (pl s + 1) ++ [(⟨s.next, true, 255, 0, ds⟩ : Layer)] ++ s.layers.drop (pl s + 1)).map (·.id)
    rw [(p.map (·.id)).mem_iff]
    exact List.mem_cons_self
  · intro l h
    have h := p.mem_iff.mp h
    show l.id < s.next + 1
    rcases List.mem_cons.mp h with rfl | h
    · exact Nat.lt_succ_self _
    · exact Nat.lt_succ_of_lt (W.nx l h)
  · intro l h
    have h := p.mem_iff.mp h
    rcases List.mem_cons.mp h with rfl | h
    · exact ⟨hd, ho, Nat.le_refl _, Nat.zero_le _⟩
    · exact W.lok l h
theorem setD_map {s : State} (W : WF s) (ds : List Dot) : setD s ds = { s with layers := s.layers.map fun l => if l.id = s.on then { l with dots := ds } else l } := by
  unfold setD
  rw [upd_one (fun l => { l with dots := ds }) s.on s.layers W.nd W.on, layer_eq W.on]
  rfl
theorem wf_setD {s : State} (W : WF s) {ds : List Dot} (hd : ds.length = s.w * s.h) (ho : ∀ d ∈ ds, dOk d) : WF (setD s ds) := by
  rw [setD_map W]
  refine wf_map W _ (fun l => ?_) fun l hl => ?_
  · split <;> rfl
  · split
    · exact ⟨hd, ho, (W.lok l hl).strong, (W.lok l hl).way⟩
    · exact W.lok l hl
theorem dot_ok {s : State} (W : WF s) (i : Nat) : dOk (dotN s i) := by
  unfold dotN
  cases h : s.layer.dots[i]? with
  | none => exact ⟨Nat.zero_le _, Nat.zero_le _⟩
  | some d => exact W.lay_ok.dots d (List.mem_of_getElem? h)
theorem wf_chD {s : State} (W : WF s) {F : Nat → Option Dot} (h : ∀ i d, F i = some d → dOk d) : WF (setD s (chD s F)) := by
  refine wf_setD W (by unfold chD; rw [List.length_map, List.length_range]) fun d hd => ?_
  obtain ⟨i, _, rfl⟩ := List.mem_map.mp hd
  cases e : F i with
  | none => exact dot_ok W i
  | some x => exact h i x e
theorem wf_may {s : State} (W : WF s) {d : Nat → Dot} (h : ∀ i, dOk (d i)) : WF (setD s (chD s fun i => if mayB s i = true then some (d i) else none)) := by
  refine wf_chD W fun i x e => ?_
  split at e
  · rw [← Option.some.inj e]
    exact h i
  · cases e
theorem rearr_ok {s : State} (W : WF s) {w h : Nat} {ps : List Nat} (hw : 1 ≤ w ∧ w ≤ 12) (hh : 1 ≤ h ∧ h ≤ 12) (hp : ps.length = w * h) : WF (rearr s w h ps) := by
  unfold rearr
  have e : (s.layers.map fun l => { l with dots := ps.map fun i => (l.dots[i]?).getD (0, 0) }).map (·.id) = s.layers.map (·.id) := by
    rw [List.map_map]
    rfl
  refine ⟨hw.1, hw.2, hh.1, hh.2, ?_, ?_, ?_, ?_, ?_, ?_⟩
  · rw [List.length_map]
    exact W.le
  · rw [e]
    exact W.nd
  · rw [e]
    exact W.on
  · intro m hm
    obtain ⟨l, hl, rfl⟩ := List.mem_map.mp hm
    exact W.nx l hl
  · intro m hm
    obtain ⟨l, hl, rfl⟩ := List.mem_map.mp hm
    have o := W.lok l hl
    refine ⟨by rw [List.length_map]; exact hp, fun d hd => ?_, o.strong, o.way⟩
    obtain ⟨i, _, rfl⟩ := List.mem_map.mp hd
    cases e : l.dots[i]? with
    | none => exact ⟨Nat.zero_le _, Nat.zero_le _⟩
    | some d => exact o.dots d (List.mem_of_getElem? e)
  · rw [List.length_map]
    exact hp
theorem grid_len {α : Type} (n : Nat) (f : Nat → Nat → α) : ∀ m, ((List.range m).flatMap fun j => (List.range n).map (f j)).length = n * m
  | 0 => rfl
  | m + 1 => by
    rw [List.range_succ, List.flatMap_append, List.length_append, grid_len n f m, Nat.mul_succ]
    simp
theorem wf_turn {s : State} (W : WF s) (k : Nat) : WF (pTurn s k) := by
  unfold pTurn
  refine rearr_ok W ?_ ?_ (grid_len _ _ _)
  · unfold turnW
    repeat' split
    · exact ⟨W.w1, W.w2⟩
    · exact ⟨W.w1, W.w2⟩
    · exact ⟨W.h1, W.h2⟩
  · unfold turnH
    repeat' split
    · exact ⟨W.h1, W.h2⟩
    · exact ⟨W.h1, W.h2⟩
    · exact ⟨W.w1, W.w2⟩
theorem wf_crop {s : State} (W : WF s) (h : (s.chosen.any fun b => b) = true) : WF (pCrop s) := by
  have ne := onL_ne W h
  have n1 : (onL s).map (· % s.w) ≠ [] := by simpa using ne
  have n2 : (onL s).map (· / s.w) ≠ [] := by simpa using ne
  have a1 := (max_mem n1).1
  have a2 := (max_mem n2).1
  obtain ⟨i, hi, e1⟩ := List.mem_map.mp a1
  obtain ⟨j, hj, e2⟩ := List.mem_map.mp a2
  have b1 : cropR s < s.w := by
    unfold cropR
    rw [← e1]
    exact Nat.mod_lt _ W.w1
  have b2 : cropB s < s.h := by
    unfold cropB
    rw [← e2]
    exact Nat.div_lt_of_lt_mul (onL_lt hj)
  have w2 := W.w2
  have h2 := W.h2
  unfold pCrop
  exact rearr_ok W ⟨by omega, by omega⟩ ⟨by omega, by omega⟩ (grid_len _ _ _)
theorem wf_gone {s t : State} (W : WF s) {n : Nat} (h : dGone s n = .ok t) : WF t := by
  unfold dGone at h
  obtain ⟨h1, h⟩ := wish_ok h
  obtain ⟨h2, h⟩ := wish_ok h
  rw [← ok_inj h]
  have hn := (hasN_iff n).mp h1
  have h2 := of_decide_eq_true h2
  have hlt := ix_lt hn
  have ef := filter_ix n s.layers W.nd hn
  have sub : (s.layers.take (ix s.layers n) ++ s.layers.drop (ix s.layers n + 1)).Sublist s.layers := by
    rw [← ef]
    exact List.filter_sublist
  have hlen : (s.layers.take (ix s.layers n) ++ s.layers.drop (ix s.layers n + 1)).length = s.layers.length - 1 := by
    rw [List.length_append, List.length_take, List.length_drop]
    omega
  refine wf_sub W (fun l hl => sub.subset hl) ((sub.map _).nodup W.nd) (by have := W.le; omega) ?_
  split
  · cases hr : s.layers.take (ix s.layers n) ++ s.layers.drop (ix s.layers n + 1) with
    | nil => rw [hr] at hlen; simp at hlen; omega
    | cons a r => exact List.mem_cons_self
  · rename_i hne
    rw [← ef]
    refine List.mem_map.mpr ⟨s.layer, List.mem_filter.mpr ⟨W.layer_mem, ?_⟩, ?_⟩
    · rw [show s.layer.id = s.on from ?_]
      · exact bne_iff_ne.mpr hne
      · have := ix_get W.on
        have e := layer_eq W.on
        rw [List.getElem?_eq_getElem (ix_lt W.on)] at e
        rw [← Option.some.inj e]
        exact this
    · have := ix_get W.on
      have e := layer_eq W.on
      rw [List.getElem?_eq_getElem (ix_lt W.on)] at e
      rw [← Option.some.inj e]
      exact this
theorem two_perm {α : Type} (ls : List α) (p : Nat) (a b : α) (h1 : ls[p]? = some a) (h2 : ls[p + 1]? = some b) : (ls.take p ++ [b, a] ++ ls.drop (p + 2)).Perm ls := by
  have l1 := (List.getElem?_eq_some_iff.mp h1).1
  have l2 := (List.getElem?_eq_some_iff.mp h2).1
  have e : ls = ls.take p ++ [a, b] ++ ls.drop (p + 2) := by
    conv => lhs; rw [← List.take_append_drop p ls]
    rw [List.append_assoc]
    congr 1
    rw [List.drop_eq_getElem_cons l1, List.drop_eq_getElem_cons l2, (List.getElem?_eq_some_iff.mp h1).2, (List.getElem?_eq_some_iff.mp h2).2]
    rfl
  conv => rhs; rw [e]
  refine List.Perm.append_right _ (List.Perm.append_left _ ?_)
  exact List.Perm.swap a b []
theorem wf_up {s t : State} (W : WF s) {n : Nat} (h : dUp s n = .ok t) : WF t := by
  unfold dUp at h
  obtain ⟨h1, h⟩ := wish_ok h
  obtain ⟨h2, h⟩ := wish_ok h
  rw [← ok_inj h]
  have hn := (hasN_iff n).mp h1
  have h2 := of_decide_eq_true h2
  have hlt := ix_lt hn
  have p := two_perm s.layers (ix s.layers n) _ _ (List.getElem?_eq_getElem hlt) (List.getElem?_eq_getElem h2)
  rw [List.getElem?_eq_getElem hlt, List.getElem?_eq_getElem h2]
  dsimp only [Option.getD_some]
  refine wf_sub (n := s.on) W (fun l hl => p.mem_iff.mp hl) (((p.map _).nodup_iff).mpr W.nd) (by rw [p.length_eq]; exact W.le) ?_
  exact ((p.map (·.id)).mem_iff).mpr W.on
theorem wf_so {s t : State} (W : WF s) {n e a m : Nat} (h : dSo s n e a m = .ok t) : WF t := by
  unfold dSo at h
  obtain ⟨h0, h⟩ := wish_ok h
  obtain ⟨h1, h⟩ := wish_ok h
  rw [← ok_inj h]
  have hn := (hasN_iff n).mp h1
  simp only [Bool.and_eq_true, decide_eq_true_iff] at h0
  have u := upd_one (fun l => { l with seen := e == 1, strong := a, way := m }) n s.layers W.nd hn
  rw [ix_id hn] at u
  rw [← u]
  refine wf_map W _ (fun l => ?_) fun l hl => ?_
  · split <;> rfl
  · split
    · exact ⟨(W.lok l hl).len, (W.lok l hl).dots, h0.2.1, h0.2.2⟩
    · exact W.lok l hl
theorem wf_work {s t : State} (W : WF s) {n : Nat} (h : dWork s n = .ok t) : WF t := by
  unfold dWork at h
  obtain ⟨h1, h⟩ := wish_ok h
  rw [← ok_inj h]
  exact wf_sub W (fun l hl => hl) W.nd W.le ((hasN_iff n).mp h1)
theorem wf_join {s : State} (W : WF s) {how : Nat} {bs : List Bool} (h : bs.length = s.w * s.h) : WF (joinS s how bs) :=
  wf_cho W (by rw [List.length_zipWith, h, W.cho, Nat.min_self])
theorem near_len (s : State) (r : Nat) (gs : List Nat) : (pNear s r gs).length = s.w * s.h := by
  unfold pNear
  rw [List.length_map, List.length_range]
theorem mean_le {l : List Nat} (h : ∀ x ∈ l, x ≤ 255) : Sq45.mean l ≤ 255 := by
  have hs : ∀ l : List Nat, (∀ x ∈ l, x ≤ 255) → l.sum ≤ 255 * l.length := by
    intro l
    induction l with
    | nil => intro _; exact Nat.le_refl _
    | cons a r ih =>
      intro h
      have h1 := h a List.mem_cons_self
      have h2 := ih fun x hx => h x (List.mem_cons_of_mem _ hx)
      rw [List.sum_cons, List.length_cons]
      omega
  have hs := hs l h
  unfold Sq45.mean Sq45.rounded
  have e : (2 * ((l.sum : Nat) : Int) + ((max 1 l.length : Nat) : Int)) / ((2 * max 1 l.length : Nat) : Int) = (((2 * l.sum + max 1 l.length) / (2 * max 1 l.length) : Nat) : Int) := by push_cast; rfl
  rw [e, Int.toNat_natCast]
  refine Nat.lt_succ_iff.mp (Nat.div_lt_of_lt_mul ?_)
  have : l.length ≤ max 1 l.length := Nat.le_max_right _ _
  have : 1 ≤ max 1 l.length := Nat.le_max_left _ _
  omega
theorem insert_mem {v x : Nat} : ∀ {l : List Nat}, x ∈ Sq45.insert v l → x = v ∨ x ∈ l
  | [], h => by
    unfold Sq45.insert at h
    exact .inl (List.mem_singleton.mp h)
  | y :: l, h => by
    unfold Sq45.insert at h
    split at h
    · rcases List.mem_cons.mp h with h | h
      · exact .inl h
      · exact .inr h
    · rcases List.mem_cons.mp h with h | h
      · exact .inr (by rw [h]; exact List.mem_cons_self)
      · rcases insert_mem h with h | h
        · exact .inl h
        · exact .inr (List.mem_cons_of_mem _ h)
theorem sorted_mem {x : Nat} : ∀ (l acc : List Nat), x ∈ l.foldl (fun m v => Sq45.insert v m) acc → x ∈ l ∨ x ∈ acc
  | [], acc, h => .inr h
  | v :: l, acc, h => by
    rcases sorted_mem l _ h with h | h
    · exact .inl (List.mem_cons_of_mem _ h)
    · rcases insert_mem h with h | h
      · exact .inl (by rw [h]; exact List.mem_cons_self)
      · exact .inr h
theorem ranked_le {p q : Nat} {l : List Nat} (h : ∀ x ∈ l, x ≤ 255) : Sq45.ranked p q l ≤ 255 := by
  unfold Sq45.ranked
  cases e : (Sq45.sorted l)[p * (l.length - 1) / q]? with
  | none => exact Nat.zero_le _
  | some x =>
    rcases sorted_mem l [] (List.mem_of_getElem? e) with h1 | h1
    · exact h x h1
    · cases h1
theorem window_le {s : State} (W : WF s) (i r : Nat) : ∀ x ∈ pWindow s i r, x ≤ 255 := by
  intro x hx
  obtain ⟨j, _, hj⟩ := List.mem_flatMap.mp hx
  obtain ⟨k, _, rfl⟩ := List.mem_map.mp hj
  exact colN_le W _
theorem wf_by {s : State} (W : WF s) {r : Nat} {f : List Nat → Nat} (h : ∀ l : List Nat, (∀ x ∈ l, x ≤ 255) → f l ≤ 255) : WF (setD s (chD s (bwF s r f))) := by
  refine wf_chD W fun i d e => ?_
  unfold bwF at e
  split at e
  · rw [← Option.some.inj e]
    exact ⟨h _ (window_le W i r), (dot_ok W i).2⟩
  · cases e
theorem wf_move {s : State} (W : WF s) (a b : Nat) : WF { setD s (pMoved s ((a : Int) - 16) ((b : Int) - 16)).1 with chosen := (pMoved s ((a : Int) - 16) ((b : Int) - 16)).2 } := by
  have l := moved_len W ((a : Int) - 16) ((b : Int) - 16)
  refine wf_cho (wf_setD W l.1 fun d hd => ?_) l.2
  obtain ⟨p, hp, e⟩ := List.getElem_of_mem hd
  rw [l.1] at hp
  have z := moved_dot W (a := a) (b := b) hp
  rw [List.getElem?_eq_getElem (by rw [l.1]; exact hp), e] at z
  rw [Option.some.inj z]
  have z0 : dOk (0, 0) := ⟨Nat.zero_le _, Nat.zero_le _⟩
  split
  · split
    · exact dot_ok W _
    · split
      · exact z0
      · exact dot_ok W _
  · split
    · exact z0
    · exact dot_ok W _
theorem paste_ok (s : State) : ∀ (l : List (Nat × Nat × (Nat × Nat))) (ds : List Dot), (∀ t ∈ l, dOk t.2.2) → (∀ d ∈ ds, dOk d) → ∀ d ∈ l.foldl (pasteOne s.w s.h) ds, dOk d
  | [], ds, _, h => h
  | t :: l, ds, hl, h => by
    refine paste_ok s l (pasteOne s.w s.h ds t) (fun x hx => hl x (List.mem_cons_of_mem _ hx)) fun d hd => ?_
    unfold pasteOne at hd
    split at hd
    · rcases List.mem_or_eq_of_mem_set hd with hd | hd
      · exact h d hd
      · rw [hd]
        exact hl t List.mem_cons_self
    · exact h d hd
theorem clip_ok {al : List (Nat × Nat × (Nat × Nat))} {c : Option Clip} (C : ClipR al c) : ∀ t ∈ al, dOk t.2.2 := by
  intro t ht
  rcases C with ⟨rfl, _⟩ | ⟨u, U, rfl, _⟩
  · cases ht
  · obtain ⟨i, _, rfl⟩ := List.mem_map.mp ht
    exact dot_ok U i
theorem wf_put {s : State} (W : WF s) (h : 0 < pl s) : WF (pPut s ((s.layers[pl s - 1]?).getD lay0)) := by
  have hlt := pl_lt W.on
  have hl : pl s - 1 < s.layers.length := by omega
  rw [List.getElem?_eq_getElem hl]
  dsimp only [Option.getD_some]
  have hlo := W.lok _ (List.getElem_mem hl)
  unfold pPut
  have eids : (s.layers.take (pl s - 1) ++ [(⟨(s.layers[pl s - 1]).id, true, 255, (s.layers[pl s - 1]).way, (List.range (s.w * s.h)).map (fDot [{ (s.layers[pl s - 1]) with way := 0 }, s.layer])⟩ : Layer)] ++ s.layers.drop (pl s + 1)).map (·.id) = (s.layers.take (pl s) ++ s.layers.drop (pl s + 1)).map (·.id) := by
    rw [List.map_append, List.map_append, List.map_append]
    congr 1
    have : pl s = pl s - 1 + 1 := by omega
    conv => rhs; rw [this, List.take_add_one, List.getElem?_eq_getElem hl]
    rw [List.map_append]
    rfl
  have sub : (s.layers.take (pl s) ++ s.layers.drop (pl s + 1)).Sublist s.layers := by
    rw [← filter_ix s.on s.layers W.nd W.on]
    exact List.filter_sublist
  refine ⟨W.w1, W.w2, W.h1, W.h2, ?_, ?_, ?_, ?_, ?_, W.cho⟩
  · have := W.le
    rw [List.length_append, List.length_append, List.length_take, List.length_drop, List.length_singleton]
    omega
  · rw [eids]
    exact (sub.map _).nodup W.nd
  · rw [List.map_append, List.map_append]
    exact List.mem_append_left _ (List.mem_append_right _ (List.mem_singleton.mpr rfl))
  · intro l h
    rcases List.mem_append.mp h with h | h
    · rcases List.mem_append.mp h with h | h
      · exact W.nx l (List.mem_of_mem_take h)
      · rw [List.mem_singleton.mp h]
        show (s.layers[pl s - 1]).id < s.next
        exact W.nx _ (List.getElem_mem hl)
    · exact W.nx l (List.mem_of_mem_drop h)
  · intro l h
    rcases List.mem_append.mp h with h | h
    · rcases List.mem_append.mp h with h | h
      · exact W.lok l (List.mem_of_mem_take h)
      · rw [List.mem_singleton.mp h]
        refine ⟨by rw [List.length_map, List.length_range], fun d hd => ?_, Nat.le_refl _, hlo.way⟩
        obtain ⟨i, _, rfl⟩ := List.mem_map.mp hd
        refine fDot_le (n := s.w * s.h) fun m hm => ?_
        rcases List.mem_cons.mp hm with rfl | hm
        · exact LOk.plain hlo
        · rw [List.mem_singleton.mp hm]
          exact W.lay_ok
    · exact W.lok l (List.mem_of_mem_drop h)
theorem wf_made {s t : State} (W : WF s) {al : List (Nat × Nat × (Nat × Nat))} {c : Option Clip} (C : ClipR al c) {deed : Nat} {l : List Nat} (h : pMade s al deed l = .ok t) : WF t := by
  have z0 : ∀ n d, d ∈ List.replicate n ((0, 0) : Dot) → dOk d := fun n d hd => by
    rw [List.eq_of_mem_replicate hd]
    exact ⟨Nat.zero_le _, Nat.zero_le _⟩
  unfold pMade at h
  split at h
  · unfold dLayers at h
    split at h
    · obtain ⟨h1, h⟩ := wish_ok h
      rw [← ok_inj h]
      exact wf_newL W (of_decide_eq_true h1) List.length_replicate (z0 _)
    split at h
    · exact wf_gone W h
    split at h
    · exact wf_up W h
    split at h
    · exact wf_so W h
    · exact wf_work W h
  split at h
  · unfold dChoice at h
    split at h
    · obtain ⟨h1, h⟩ := wish_ok h
      rw [← ok_inj h]
      exact wf_join W (by rw [List.length_map, List.length_range])
    split at h
    · unfold dFlood at h
      obtain ⟨h1, h⟩ := wish_ok h
      rw [← ok_inj h]
      exact wf_join W (pFlood_len ..)
    split at h
    · obtain ⟨h1, h⟩ := wish_ok h
      rw [← ok_inj h]
      exact wf_join W List.length_replicate
    · obtain ⟨h1, h⟩ := wish_ok h
      rw [← ok_inj h]
      split
      · exact wf_cho W (near_len ..)
      · exact wf_cho W (by rw [List.length_map, near_len])
  split at h
  · unfold dDots at h
    split at h
    · obtain ⟨h1, h⟩ := wish_ok h
      rw [← ok_inj h]
      rw [Bool.and_eq_true, decide_eq_true_iff, decide_eq_true_iff] at h1
      exact wf_may W (d := fun _ => (nth l 0, nth l 1)) fun _ => h1
    split at h
    · obtain ⟨h1, h⟩ := wish_ok h
      rw [← ok_inj h]
      exact wf_by W fun l hl => mean_le hl
    split at h
    · obtain ⟨h1, h⟩ := wish_ok h
      rw [← ok_inj h]
      exact wf_by W fun l hl => ranked_le hl
    split at h
    · obtain ⟨h1, h⟩ := wish_ok h
      rw [← ok_inj h]
      exact wf_move W _ _
    · rw [← ok_inj h]
      exact wf_may W (d := fun _ => (0, 0)) fun _ => ⟨Nat.zero_le _, Nat.zero_le _⟩
  · unfold dPics at h
    split at h
    · obtain ⟨h1, h⟩ := wish_ok h
      obtain ⟨h2, h⟩ := wish_ok h
      rw [← ok_inj h]
      refine wf_newL W (of_decide_eq_true h2) ?_ ?_
      · unfold pPaste
        rw [paste_len, List.length_replicate]
      · exact paste_ok s al _ (clip_ok C) (z0 _)
    split at h
    · obtain ⟨h1, h⟩ := wish_ok h
      rw [← ok_inj h]
      exact wf_put W (of_decide_eq_true h1)
    split at h
    · obtain ⟨h1, h⟩ := wish_ok h
      rw [← ok_inj h]
      exact wf_crop W h1
    · obtain ⟨h1, h⟩ := wish_ok h
      rw [← ok_inj h]
      exact wf_turn W _
/-! ### any deed -/
theorem act_size : ∀ (deed : Nat) (l : List Nat), (Sq50.actOf deed l).isSome = decide (szD[deed]? = some l.length)
  | deed, l => by
    by_cases hd : deed < 19
    · have : deed = 0 ∨ deed = 1 ∨ deed = 2 ∨ deed = 3 ∨ deed = 4 ∨ deed = 5 ∨ deed = 6 ∨ deed = 7 ∨ deed = 8 ∨ deed = 9 ∨ deed = 10 ∨ deed = 11 ∨ deed = 12 ∨ deed = 13 ∨ deed = 14 ∨ deed = 15 ∨ deed = 16 ∨ deed = 17 ∨ deed = 18 := by omega
      rcases this with rfl | rfl | rfl | rfl | rfl | rfl | rfl | rfl | rfl | rfl | rfl | rfl | rfl | rfl | rfl | rfl | rfl | rfl | rfl <;>
      (rcases l with _ | ⟨a, _ | ⟨b, _ | ⟨c, _ | ⟨d, _ | ⟨e, _ | ⟨f, _ | ⟨g, r⟩⟩⟩⟩⟩⟩⟩ <;> first
        | rfl
        | (show false = _
           refine (decide_eq_false fun z => ?_).symm
           have z := Option.some.inj z
           simp at z
           try omega))
    · have e : szD[deed]? = none := List.getElem?_eq_none (by show 19 ≤ deed; omega)
      rw [e]
      have : ∀ l, Sq50.actOf deed l = none := fun l => by
        unfold Sq50.actOf
        split <;> first | rfl | (exfalso; omega)
      rw [this]
      rfl
theorem made_does {s : State} (W : WF s) {al : List (Nat × Nat × (Nat × Nat))} {c : Option Clip} (C : ClipR al c) {deed : Nat} {l : List Nat} {a : Act} (h : Sq50.actOf deed l = some a) : pMade s al deed l = s.does c a := by
  unfold Sq50.actOf at h
  split at h <;> first
    | (have h := Option.some.inj h; subst h)
    | cases h
  · exact does_layer W
  · exact does_drop W _
  · exact does_raise W _
  · exact does_how W _ _ _ _
  · exact does_work _
  · exact does_rect W _ _ _ _ _
  · exact does_flood W _ _ _ _ _ _
  · exact does_all W _
  · exact does_grow _
  · exact does_shrink _
  · exact does_fill W _ _
  · exact does_mean W _
  · exact does_rank W _ _ _
  · exact does_move W _ _
  · exact does_cut W
  · exact does_paste W C
  · exact does_merge W
  · exact does_crop W
  · exact does_turn _
end Lq
set_option Elab.async false
set_option linter.all false
/-! Plain laws: the editor's answers are the specification's. -/
namespace Lq
open Lp
open Sq50 (State Layer Dot Act Clip House)
/-- the picture, its history, what's kept aside -/
structure Same0 (g : Ed) (G : House) : Prop where
  now : g.now = G.now
  past : g.past = G.past
  fut : g.future = G.future
  bud : g.budget = G.budget
  clip : ClipR g.aside G.clip
  wf : WF g.now
  wfp : ∀ x ∈ g.past, WF x.1
  wff : ∀ x ∈ g.future, WF x.1
/-- the deeds recorded -/
structure Recs (L : List (Nat × List Nat)) (A : List Act) : Prop where
  acts : L.map (fun x => Sq50.actOf x.1 x.2) = A.map some
  nums : ∀ x ∈ L, ∀ y ∈ x.2, y < 2 ^ 64
structure Same (g : Ed) (G : House) : Prop extends Same0 g G where
  on : g.on = G.recording
  recs : Recs g.acts G.kept
  len : g.acts.length ≤ 40
theorem room_mem {x : State × Nat} : ∀ {b : Nat} {l : Sq50.Past}, x ∈ Sq50.room b l → x ∈ l
  | _, [], h => h
  | b, y :: l, h => by
    unfold Sq50.room at h
    split at h
    · cases h
    · rcases List.mem_cons.mp h with h | h
      · rw [h]
        exact List.mem_cons_self
      · exact List.mem_cons_of_mem _ (room_mem h)
theorem cut_iff {deed : Nat} {l : List Nat} {a : Act} (h : Sq50.actOf deed l = some a) : deed = 14 ↔ a = .cut := by
  unfold Sq50.actOf at h
  split at h <;> first
    | (have h := Option.some.inj h; subst h; simp)
    | cases h
theorem do_err {g : Ed} {G : House} (S : Same0 g G) {deed : Nat} {l : List Nat} {a : Act} (ha : Sq50.actOf deed l = some a) {z : Int} (h : pDo g deed l = .error z) : G.acts a = .error z := by
  unfold pDo at h
  rw [made_does S.wf S.clip ha] at h
  unfold House.acts
  rw [← S.now]
  cases hd : g.now.does G.clip a with
  | error e =>
    rw [hd] at h
    injection h with h
    rw [h]
    rfl
  | ok t =>
    rw [hd] at h
    cases h
theorem do_ok {g : Ed} {G : House} (S : Same0 g G) {deed : Nat} {l : List Nat} {a : Act} (ha : Sq50.actOf deed l = some a) {y : Ed × Nat} (h : pDo g deed l = .ok y) :
    ∃ X, G.acts a = .ok X ∧ X.2 = y.2 ∧ Same0 y.1 X.1 ∧ y.1.acts = g.acts ∧ y.1.on = g.on ∧ X.1.recording = G.recording ∧ X.1.kept = (if G.recording = true then G.kept ++ [a] else G.kept) ∧ y.1.past.length ≤ g.past.length + 1 ∧ y.1.future = [] := by
  unfold pDo at h
  unfold House.acts
  cases hm : pMade g.now g.aside deed l with
  | error e =>
    rw [hm] at h
    cases h
  | ok t =>
    rw [hm] at h
    have h := Except.ok.inj h
    subst h
    have T := wf_made S.wf S.clip hm
    rw [made_does S.wf S.clip ha] at hm
    rw [← S.now, hm]
    refine ⟨_, rfl, (cost_eq S.wf T).symm, ⟨rfl, ?_, rfl, S.bud, ?_, T, ?_, fun x hx => by cases hx⟩, rfl, rfl, rfl, rfl, room_le _ _, rfl⟩
    · show Sq50.room g.budget ((g.now, pCost g.now t) :: g.past) = Sq50.room G.budget ((g.now, 1 + Sq50.differs g.now t) :: G.past)
      rw [cost_eq S.wf T, S.bud, S.past]
    · show ClipR (behindL g.now g.aside deed) (if a = .cut then some g.now.copied else G.clip)
      unfold behindL
      by_cases hc : deed = 14
      · rw [if_pos hc, if_pos ((cut_iff ha).mp hc)]
        exact .inr ⟨g.now, S.wf, rfl, rfl⟩
      · rw [if_neg hc, if_neg fun z => hc ((cut_iff ha).mpr z)]
        exact S.clip
    · intro x hx
      rcases List.mem_cons.mp (room_mem hx) with rfl | hx
      · exact S.wf
      · exact S.wfp x hx
/-! ### played -/
theorem plays_ok : ∀ (L : List (Nat × List Nat)) (A : List Act) (g : Ed) (G : House), Same0 g G → Recs L A → g.on = false → G.recording = false →
    Same0 (pPlays g L).1 (G.plays A).1 ∧ (pPlays g L).2 = (G.plays A).2 ∧ (pPlays g L).1.acts = g.acts ∧ (pPlays g L).1.on = g.on ∧ (G.plays A).1.kept = G.kept ∧ (G.plays A).1.recording = G.recording ∧ (pPlays g L).1.past.length + (pPlays g L).1.future.length ≤ g.past.length + g.future.length + L.length
  | [], A, g, G, S, R, ho, hr => by
    have : A = [] := by
      have := R.acts
      cases A with
      | nil => rfl
      | cons a A => simp at this
    subst this
    exact ⟨S, rfl, rfl, rfl, rfl, rfl, Nat.le_refl _⟩
  | x :: L, A, g, G, S, R, ho, hr => by
    cases A with
    | nil =>
      have := R.acts
      simp at this
    | cons a A =>
      have e := R.acts
      rw [List.map_cons, List.map_cons] at e
      injection e with e1 e2
      unfold pPlays House.plays
      cases hd : pDo g x.1 x.2 with
      | error z =>
        rw [do_err S e1 hd]
        exact ⟨S, rfl, rfl, rfl, rfl, rfl, by dsimp only; omega⟩
      | ok y =>
        obtain ⟨X, hX, h2, S', hacts, hon, hrec, hkept, hlen, hfut⟩ := do_ok S e1 hd
        rw [hX]
        rw [if_neg (by rw [hr]; decide)] at hkept
        obtain ⟨i1, i2, i3, i4, i5, i6, i7⟩ := plays_ok L A y.1 X.1 S' ⟨e2, fun z hz => R.nums z (List.mem_cons_of_mem _ hz)⟩ (hon.trans ho) (hrec.trans hr)
        refine ⟨i1, congrArg (· + 1) i2, i3.trans hacts, i4.trans hon, i5.trans hkept, i6.trans hrec, ?_⟩
        try dsimp only
        rw [hfut, List.length_nil] at i7
        rw [List.length_cons]
        omega
theorem play_ok : ∀ (L : List (Nat × List Nat)) (A : List Act) (g : Ed) (G : House), Same0 g G → Recs L A → g.past.length + L.length ≤ 40000 → PlayOk g L
  | [], _, _, _, _, _, _ => trivial
  | x :: L, A, g, G, S, R, hl => by
    cases A with
    | nil =>
      have := R.acts
      simp at this
    | cons a A =>
      have e := R.acts
      rw [List.map_cons, List.map_cons] at e
      injection e with e1 e2
      rw [List.length_cons] at hl
      refine ⟨?_, R.nums x List.mem_cons_self, S.wf, by omega, fun t ht => wf_made S.wf S.clip ht, fun y hy => ?_⟩
      · have := act_size x.1 x.2
        rw [e1] at this
        exact of_decide_eq_true this.symm
      · obtain ⟨X, hX, h2, S', hacts, hon, hrec, hkept, hlen, hfut⟩ := do_ok S e1 hy
        exact play_ok L A y.1 X.1 S' ⟨e2, fun z hz => R.nums z (List.mem_cons_of_mem _ hz)⟩ (by omega)
theorem flat_congr {α β : Type} {f g : α → List β} : ∀ {l : List α}, (∀ x ∈ l, f x = g x) → l.flatMap f = l.flatMap g
  | [], _ => rfl
  | a :: l, h => by rw [List.flatMap_cons, List.flatMap_cons, h a List.mem_cons_self, flat_congr fun x hx => h x (List.mem_cons_of_mem _ hx)]
/-! ### each call -/
/-- what a call gives: the answer, what's held then; how much longer the histories are -/
structure Steps (g : Ed) (r : Except Int (Ed × List Int)) (x : House × Sq50.Out) : Prop where
  same : Same (match r with
    | .ok y => y.1
    | .error _ => g) x.1
  told : (match r with
    | .ok y => y.2
    | .error z => [z]) = x.2.value :: x.2.out
  grow : (match r with
    | .ok y => y.1.past.length + y.1.future.length
    | .error _ => 0) ≤ g.past.length + g.future.length + 41
  small : (match r with
    | .ok y => y.2.length
    | .error _ => 0) ≤ 30
section
variable {g : Ed} {G : House} (S : Same g G)
include S
theorem st_err (z : Int) : Steps g (.error z) (G, Sq50.says z) := ⟨S, rfl, Nat.zero_le _, Nat.zero_le _⟩
theorem st_begin (w h b : Nat) (l : List Nat) : Steps g (pBegin w h b l) (G.step (.begin_ w h b l)) := by
  unfold pBegin House.step
  try dsimp only
  have c1 : (decide (1 ≤ w ∧ w ≤ 12) && (decide (1 ≤ h ∧ h ≤ 12) && decide (b ≤ 1000000))) = true ↔ ¬ (w = 0 ∨ Sq50.SIDE < w ∨ h = 0 ∨ Sq50.SIDE < h ∨ Sq50.BUDGET < b) := by
    rw [show Sq50.SIDE = 12 from rfl, show Sq50.BUDGET = 1000000 from rfl]
    simp only [Bool.and_eq_true, decide_eq_true_iff]
    omega
  have c2 : (decide (l.length = w * h) && l.all fun c => decide (c ≤ 255)) = true ↔ ¬ (l.length ≠ w * h ∨ (l.any fun c => decide (255 < c)) = true) := by
    rw [Bool.and_eq_true, decide_eq_true_iff, List.all_eq_true, not_or, Classical.not_not, Bool.not_eq_true, List.any_eq_false]
    refine and_congr_right fun _ => forall_congr' fun x => forall_congr' fun _ => ?_
    rw [decide_eq_true_iff, decide_eq_true_iff]
    omega
  by_cases h1 : w = 0 ∨ Sq50.SIDE < w ∨ h = 0 ∨ Sq50.SIDE < h ∨ Sq50.BUDGET < b
  · rw [if_pos h1, if_neg fun z => c1.mp z h1]
    exact st_err S _
  · rw [if_neg h1, if_pos (c1.mpr h1)]
    by_cases h2 : l.length ≠ w * h ∨ (l.any fun c => decide (255 < c)) = true
    · rw [if_pos h2, if_neg fun z => c2.mp z h2]
      exact st_err S _
    · rw [if_neg h2, if_pos (c2.mpr h2)]
      have a1 := c1.mpr h1
      have a2 := c2.mpr h2
      simp only [Bool.and_eq_true, decide_eq_true_iff, List.all_eq_true] at a1 a2
      refine ⟨⟨⟨rfl, rfl, rfl, rfl, .inl ⟨rfl, rfl⟩, ?_, fun x hx => (by cases hx), fun x hx => (by cases hx)⟩, rfl, ⟨rfl, fun x hx => by cases hx⟩, Nat.zero_le _⟩, rfl, Nat.zero_le _, by show 1 ≤ 30; decide⟩
      refine ⟨a1.1.1, a1.1.2, a1.2.1.1, a1.2.1.2, by show 1 ≤ 5; decide, List.nodup_cons.mpr ⟨List.not_mem_nil, List.nodup_nil⟩, List.mem_singleton.mpr rfl, fun x hx => ?_, fun x hx => ?_, List.length_replicate⟩
      · rw [List.mem_singleton.mp hx]
        exact Nat.lt_succ_self 0
      · rw [List.mem_singleton.mp hx]
        refine ⟨?_, fun d hd => ?_, Nat.le_refl _, Nat.zero_le _⟩
        · show (l.map fun c => (c, 255)).length = w * h
          rw [List.length_map, a2.1]
        · obtain ⟨c, hc, rfl⟩ := List.mem_map.mp hd
          exact ⟨a2.2 c hc, Nat.le_refl _⟩
theorem st_act (op : Nat) (l : List Nat) (hl : ∀ x ∈ l, x < 2 ^ 64) : Steps g (pAct g op l) (G.step (.act op l)) := by
  unfold pAct House.step
  try dsimp only
  have az := act_size op l
  cases ha : Sq50.actOf op l with
  | none =>
    rw [ha] at az
    rw [if_neg (of_decide_eq_false az.symm)]
    exact st_err S _
  | some a =>
    rw [ha] at az
    rw [if_pos (of_decide_eq_true az.symm)]
    have hlen : g.acts.length = G.kept.length := by
      have := congrArg List.length S.recs.acts
      rw [List.length_map, List.length_map] at this
      exact this
    have hcond : (!g.on || decide (g.acts.length < 40)) = true ↔ ¬ (G.recording = true ∧ Sq50.RECORD ≤ G.kept.length) := by
      rw [show Sq50.RECORD = 40 from rfl, S.on, hlen, Bool.or_eq_true, Bool.not_eq_true', decide_eq_true_iff]
      cases G.recording <;> simp
    try dsimp only
    by_cases h1 : G.recording = true ∧ Sq50.RECORD ≤ G.kept.length
    · rw [if_pos h1, if_neg fun z => hcond.mp z h1]
      exact st_err S _
    · have h1' := hcond.mpr h1
      rw [if_neg h1, if_pos h1']
      cases hd : pDo g op l with
      | error z =>
        rw [do_err S.toSame0 ha hd]
        exact st_err S _
      | ok y =>
        obtain ⟨X, hX, h2, S', hacts, hon, hrec, hkept, hpl, hfut⟩ := do_ok S.toSame0 ha hd
        rw [hX]
        have hso := S.on
        by_cases hr : G.recording = true
        · have hgo : g.on = true := hso.trans hr
          rw [if_pos hr] at hkept
          try dsimp only
          rw [if_pos hgo]
          refine ⟨⟨⟨S'.now, S'.past, S'.fut, S'.bud, S'.clip, S'.wf, S'.wfp, S'.wff⟩, ?_, ⟨?_, ?_⟩, ?_⟩, ?_, ?_, by show 2 ≤ 30; decide⟩
          · exact hon.trans (hso.trans hrec.symm)
          · show (g.acts ++ [(op, l)]).map (fun x => Sq50.actOf x.1 x.2) = X.1.kept.map some
            rw [hkept, List.map_append, List.map_append, S.recs.acts, List.map_cons, List.map_cons, ha]
            rfl
          · intro x hx
            rcases List.mem_append.mp hx with hx | hx
            · exact S.recs.nums x hx
            · rw [List.mem_singleton.mp hx]
              exact hl
          · show (g.acts ++ [(op, l)]).length ≤ 40
            rw [hgo] at h1'
            have := of_decide_eq_true (p := g.acts.length < 40) (by simpa using h1')
            rw [List.length_append, List.length_singleton]
            omega
          · show [((y.2 : Nat) : Int), (y.1.past.length : Int)] = _
            rw [h2, S'.past]
          · show y.1.past.length + y.1.future.length ≤ _
            rw [hfut, List.length_nil]
            omega
        · have hgo : ¬ g.on = true := fun z => hr (hso ▸ z)
          rw [if_neg hr] at hkept
          try dsimp only
          rw [if_neg hgo]
          refine ⟨⟨S', hon.trans (hso.trans hrec.symm), ⟨by rw [hacts, hkept]; exact S.recs.acts, by rw [hacts]; exact S.recs.nums⟩, by rw [hacts]; exact S.len⟩, ?_, ?_, by show 2 ≤ 30; decide⟩
          · show [((y.2 : Nat) : Int), (y.1.past.length : Int)] = _
            rw [h2, S'.past]
          · show y.1.past.length + y.1.future.length ≤ _
            rw [hfut, List.length_nil]
            omega
theorem st_undo : Steps g (pUndo g) (G.step .undo) := by
  unfold pUndo House.step House.undo
  try dsimp only
  rw [← S.past]
  cases hp : g.past with
  | nil => exact st_err S _
  | cons x r =>
    refine ⟨⟨⟨rfl, rfl, ?_, S.bud, S.clip, S.wfp x (by rw [hp]; exact List.mem_cons_self), fun y hy => S.wfp y (by rw [hp]; exact List.mem_cons_of_mem _ hy), fun y hy => ?_⟩, S.on, S.recs, S.len⟩, ?_, ?_, by show 2 ≤ 30; decide⟩
    · show (g.now, x.2) :: g.future = (G.now, x.2) :: G.future
      rw [S.now, S.fut]
    · rcases List.mem_cons.mp hy with rfl | hy
      · exact S.wf
      · exact S.wff y hy
    · show [(r.length : Int), ((g.future.length + 1 : Nat) : Int)] = [(r.length : Int), (((G.now, x.2) :: G.future).length : Int)]
      rw [List.length_cons, S.fut]
    · show r.length + ((g.now, x.2) :: g.future).length ≤ _
      rw [hp, List.length_cons, List.length_cons]
      omega
theorem st_redo : Steps g (pRedo g) (G.step .redo) := by
  unfold pRedo House.step House.redo
  try dsimp only
  rw [← S.fut]
  cases hp : g.future with
  | nil => exact st_err S _
  | cons x r =>
    refine ⟨⟨⟨rfl, ?_, rfl, S.bud, S.clip, S.wff x (by rw [hp]; exact List.mem_cons_self), fun y hy => ?_, fun y hy => S.wff y (by rw [hp]; exact List.mem_cons_of_mem _ hy)⟩, S.on, S.recs, S.len⟩, ?_, ?_, by show 2 ≤ 30; decide⟩
    · show Sq50.room g.budget ((g.now, x.2) :: g.past) = Sq50.room G.budget ((G.now, x.2) :: G.past)
      rw [S.now, S.past, S.bud]
    · rcases List.mem_cons.mp (room_mem hy) with rfl | hy
      · exact S.wf
      · exact S.wfp y hy
    · show [((Sq50.room g.budget ((g.now, x.2) :: g.past)).length : Int), (r.length : Int)] = [((Sq50.room G.budget ((G.now, x.2) :: G.past)).length : Int), (r.length : Int)]
      rw [S.now, S.past, S.bud]
    · have := room_le g.budget ((g.now, x.2) :: g.past)
      rw [List.length_cons] at this
      show (Sq50.room g.budget ((g.now, x.2) :: g.past)).length + r.length ≤ _
      rw [hp, List.length_cons]
      omega
theorem st_look (y : Nat) (f : Nat → List Int) (F : Nat → List Nat) (k : Nat) (hk : k ≤ 2) (hf : ∀ i, (f i).length ≤ k) (h : y < g.now.h → ∀ x, x < g.now.w → f (y * g.now.w + x) = Sq50.ints (F x)) :
    Steps g (pLook g y f) (if G.now.h ≤ y then (G, Sq50.says (-1)) else (G, ⟨G.now.w, Sq50.ints ((List.range G.now.w).flatMap F)⟩)) := by
  unfold pLook
  rw [← S.now]
  by_cases hy : y < g.now.h
  · rw [if_pos hy, if_neg (by omega)]
    refine ⟨S, ?_, by show g.past.length + g.future.length ≤ _; omega, ?_⟩
    · show (g.now.w : Int) :: (rowP g.now y).flatMap f = (g.now.w : Int) :: Sq50.ints ((List.range g.now.w).flatMap F)
      congr 1
      unfold rowP Sq50.ints
      rw [List.flatMap_map, List.map_flatMap]
      refine flat_congr fun x hx => ?_
      exact h hy x (List.mem_range.mp hx)
    · have hl : ∀ L : List Nat, (L.flatMap f).length ≤ L.length * k := by
        intro L
        induction L with
        | nil => simp
        | cons a L ih =>
          rw [List.flatMap_cons, List.length_append, List.length_cons, Nat.add_mul, Nat.one_mul]
          have := hf a
          omega
      have hl := hl (rowP g.now y)
      have e : (rowP g.now y).length = g.now.w := by unfold rowP; rw [List.length_map, List.length_range]
      rw [e] at hl
      have h12 := S.wf.w2
      have : g.now.w * k ≤ 12 * 2 := Nat.mul_le_mul h12 hk
      show ((rowP g.now y).flatMap f).length + 1 ≤ 30
      omega
  · rw [if_neg hy, if_pos (by omega)]
    exact st_err S _
theorem st_row (y : Nat) : Steps g (pLook g y fun i => dotI (fDot g.now.layers i)) (G.step (.row y)) := by
  unfold House.step
  try dsimp only
  refine st_look S y _ (fun x => [(G.now.shown x y).1, (G.now.shown x y).2]) 2 (Nat.le_refl _) (fun i => Nat.le_refl _) fun hy x hx => ?_
  try dsimp only
  rw [← S.now, shown_eq S.wf hx hy]
  rfl
theorem st_own (y : Nat) : Steps g (pLook g y fun i => dotI (dotN g.now i)) (G.step (.own y)) := by
  unfold House.step
  try dsimp only
  refine st_look S y _ (fun x => [(G.now.at_ G.now.layer x y).1, (G.now.at_ G.now.layer x y).2]) 2 (Nat.le_refl _) (fun i => Nat.le_refl _) fun hy x hx => ?_
  try dsimp only
  rw [← S.now]
  rfl
theorem st_chosen (y : Nat) : Steps g (pLook g y fun i => [if onB g.now i = true then 1 else 0]) (G.step (.chosen y)) := by
  unfold House.step
  try dsimp only
  have e : ∀ L : List Nat, (L.map fun x => if G.now.is x y = true then 1 else 0) = L.flatMap fun x => [if G.now.is x y = true then 1 else 0] := fun L => by
    induction L with
    | nil => rfl
    | cons a L ih => rw [List.map_cons, List.flatMap_cons, ih]; rfl
  rw [e]
  refine st_look S y _ (fun x => [if G.now.is x y = true then 1 else 0]) 1 (by decide) (fun i => Nat.le_refl _) fun hy x hx => ?_
  try dsimp only
  rw [← S.now]
  show [if g.now.is x y = true then (1 : Int) else 0] = _
  split <;> rfl
theorem st_list : Steps g (.ok (g, pList g)) (G.step .list) := by
  unfold House.step
  try dsimp only
  refine ⟨S, ?_, by show g.past.length + g.future.length ≤ _; omega, ?_⟩
  · show pList g = (G.now.on : Int) :: Sq50.ints ([G.now.w, G.now.h, G.now.layers.length] ++ G.now.layers.flatMap fun l => [l.id, if l.seen = true then 1 else 0, l.strong, l.way])
    rw [← S.now]
    unfold pList Sq50.ints
    rw [List.map_append, List.map_flatMap, List.cons_append]
    congr 1
    congr 1
    refine flat_congr fun l _ => ?_
    unfold layI
    rw [List.map_cons, List.map_cons, List.map_cons, List.map_cons, List.map_nil]
    cases l.seen <;> rfl
  · show (pList g).length ≤ 30
    unfold pList
    have hl : ∀ L : List Layer, (L.flatMap layI).length = L.length * 4 := by
      intro L
      induction L with
      | nil => rfl
      | cons a L ih =>
        rw [List.flatMap_cons, List.length_append, List.length_cons, ih]
        show 4 + _ = _
        omega
    rw [List.length_append, hl]
    have := S.wf.le
    show 4 + _ ≤ _
    omega
theorem acts_len : g.acts.length = G.kept.length := by
  have := congrArg List.length S.recs.acts
  rw [List.length_map, List.length_map] at this
  exact this
theorem st_hist : Steps g (.ok (g, pHist g)) (G.step .history) := by
  unfold House.step
  try dsimp only
  refine ⟨S, ?_, by show g.past.length + g.future.length ≤ _; omega, by show 4 ≤ 30; decide⟩
  show pHist g = _
  unfold pHist
  rw [acts_len S, S.past, S.fut]
  rfl
theorem st_copy : Steps g (.ok (fCopy g)) (G.step .copy) := by
  unfold House.step
  try dsimp only
  refine ⟨⟨⟨S.now, S.past, S.fut, S.bud, .inr ⟨g.now, S.wf, rfl, by rw [S.now]⟩, S.wf, S.wfp, S.wff⟩, S.on, S.recs, S.len⟩, ?_, by show g.past.length + g.future.length ≤ _; omega, by show 1 ≤ 30; decide⟩
  show [((pAside g.now).length : Int)] = [((G.now.copied.dots.filter fun d => d.isSome).length : Int)]
  rw [← S.now, copied_dots, List.filter_map, List.length_map]
  unfold pAside mayL
  rw [List.length_map]
  have e : ((fun d : Option Dot => d.isSome) ∘ fun i => if mayB g.now i = true then some (dotN g.now i) else none) = mayB g.now := by
    funext i
    show (if mayB g.now i = true then some (dotN g.now i) else none).isSome = _
    cases mayB g.now i <;> rfl
  rw [e]
theorem st_record : Steps g (.ok (fRecord g)) (G.step .record) := by
  unfold House.step
  try dsimp only
  exact ⟨⟨⟨S.now, S.past, S.fut, S.bud, S.clip, S.wf, S.wfp, S.wff⟩, rfl, ⟨rfl, fun x hx => by cases hx⟩, Nat.zero_le _⟩, rfl, by show g.past.length + g.future.length ≤ _; omega, by show 1 ≤ 30; decide⟩
theorem st_stop : Steps g (.ok (fStop g)) (G.step .halt_) := by
  unfold House.step
  try dsimp only
  refine ⟨⟨⟨S.now, S.past, S.fut, S.bud, S.clip, S.wf, S.wfp, S.wff⟩, rfl, S.recs, S.len⟩, ?_, by show g.past.length + g.future.length ≤ _; omega, by show 1 ≤ 30; decide⟩
  show [(g.acts.length : Int)] = [(G.kept.length : Int)]
  rw [acts_len S]
theorem st_play : Steps g (pPlay g) (G.step .play) := by
  unfold pPlay House.step
  try dsimp only
  rw [← S.on]
  by_cases h : g.on = true
  · rw [if_pos h, if_pos h]
    exact st_err S _
  · rw [if_neg h, if_neg h]
    have h : g.on = false := by simpa using h
    obtain ⟨i1, i2, i3, i4, i5, i6, i7⟩ := plays_ok g.acts G.kept g G S.toSame0 S.recs h (S.on ▸ h)
    refine ⟨⟨i1, i4.trans (S.on.trans i6.symm), ⟨by show (pPlays g g.acts).1.acts.map _ = _; rw [i3, i5]; exact S.recs.acts, by show ∀ x ∈ (pPlays g g.acts).1.acts, _; rw [i3]; exact S.recs.nums⟩, by show (pPlays g g.acts).1.acts.length ≤ 40; rw [i3]; exact S.len⟩, ?_, ?_, by show 2 ≤ 30; decide⟩
    · show [(((pPlays g g.acts).2 : Nat) : Int), ((pPlays g g.acts).1.past.length : Int)] = _
      rw [i2, i1.past]
    · show (pPlays g g.acts).1.past.length + (pPlays g g.acts).1.future.length ≤ _
      have := S.len
      omega
end
end Lq
set_option Elab.async false
set_option linter.all false
/-! Plain laws: the calls as they're handed in. -/
namespace Lq
open Lp
open Sq50 (State Layer Dot Act Clip House)
def ofE (g : Ed) (p : Except Int (Ed × List Int)) : Ed × List Int := match p with
  | .ok x => x
  | .error z => (g, [z])
theorem ofE_steps {g : Ed} {p : Except Int (Ed × List Int)} {x : House × Sq50.Out} (T : Steps g p x) :
    Same (ofE g p).1 x.1 ∧ (ofE g p).2 = x.2.value :: x.2.out ∧ (ofE g p).2.length ≤ 30 ∧ (ofE g p).1.past.length + (ofE g p).1.future.length ≤ g.past.length + g.future.length + 41 := by
  cases p with
  | ok y =>
    obtain ⟨h1, h2, h3, h4⟩ := T
    exact ⟨h1, h2, h4, h3⟩
  | error z =>
    obtain ⟨h1, h2, h3, h4⟩ := T
    exact ⟨h1, h2, by show 1 ≤ 30; decide, by show g.past.length + g.future.length ≤ _; omega⟩
theorem ans_steps {g : Ed} {call : Nat} {l r : List Nat} {x : House × Sq50.Out} (T : Steps g (pAns0 g call l r) x) :
    Same (pAns g call l r).1 x.1 ∧ (pAns g call l r).2 = x.2.value :: x.2.out ∧ (pAns g call l r).2.length ≤ 30 ∧ (pAns g call l r).1.past.length + (pAns g call l r).1.future.length ≤ g.past.length + g.future.length + 41 := ofE_steps T
/-- a call in its form: which it is, its numbers, its row -/
structure Is (c : List (List Int)) (call : Nat) (l r : List Nat) : Prop where
  is : ∃ x : Sq50.Call, Sq50Neutral.callOf (PySq50.whole c) = some x ∧ ∀ g G, Same g G → (∀ y ∈ r, y < 2 ^ 64) → Steps g (pAns0 g call l r) (G.step x)
def nat (z : Int) : Nat := z.toNat
theorem is1 (a b c : Int) (r : List Int) : Is [[1, a, b, c], r] 1 [nat a, nat b, nat c] (r.map nat) := ⟨_, rfl, fun g G S hr => st_begin S _ _ _ _⟩
theorem is2 (a : Int) (r : List Int) : Is [[2, a], r] 2 [nat a] (r.map nat) := ⟨_, rfl, fun g G S hr => st_act S _ _ hr⟩
theorem is3 : Is [[3]] 3 [] [] := ⟨_, rfl, fun g G S hr => st_undo S⟩
theorem is4 : Is [[4]] 4 [] [] := ⟨_, rfl, fun g G S hr => st_redo S⟩
theorem is5 (a : Int) : Is [[5, a]] 5 [nat a] [] := ⟨_, rfl, fun g G S hr => st_row S _⟩
theorem is6 (a : Int) : Is [[6, a]] 6 [nat a] [] := ⟨_, rfl, fun g G S hr => st_own S _⟩
theorem is7 (a : Int) : Is [[7, a]] 7 [nat a] [] := ⟨_, rfl, fun g G S hr => st_chosen S _⟩
theorem is8 : Is [[8]] 8 [] [] := ⟨_, rfl, fun g G S hr => st_list S⟩
theorem is9 : Is [[9]] 9 [] [] := ⟨_, rfl, fun g G S hr => st_hist S⟩
theorem is10 : Is [[10]] 10 [] [] := ⟨_, rfl, fun g G S hr => st_copy S⟩
theorem is11 : Is [[11]] 11 [] [] := ⟨_, rfl, fun g G S hr => st_record S⟩
theorem is12 : Is [[12]] 12 [] [] := ⟨_, rfl, fun g G S hr => st_stop S⟩
theorem is13 : Is [[13]] 13 [] [] := ⟨_, rfl, fun g G S hr => st_play S⟩
/-! ### the parse -/
theorem row_some {r x s : List Int} (h : PyFlat.row r = some (x, s)) : ∃ m r', r = (m : Int) :: r' ∧ 0 ≤ m ∧ m.toNat ≤ r'.length ∧ x = r'.take m.toNat ∧ s = r'.drop m.toNat := by
  cases r with
  | nil => cases h
  | cons m r' =>
    rw [PyFlat.row] at h
    split at h
    · rename_i c
      injection h with h
      injection h with h1 h2
      exact ⟨m, r', rfl, c.1, c.2, h1.symm, h2.symm⟩
    · cases h
theorem rows0 {r t : List Int} {xs : List (List Int)} (h : PyFlat.rows 0 r = some (xs, t)) : xs = [] ∧ t = r := by
  unfold PyFlat.rows at h
  injection h with h
  injection h with h1 h2
  exact ⟨h1.symm, h2.symm⟩
theorem rows1 {r t : List Int} {xs : List (List Int)} (h : PyFlat.rows 1 r = some (xs, t)) : ∃ x, xs = [x] ∧ PyFlat.row r = some (x, t) := by
  unfold PyFlat.rows at h
  cases hr : PyFlat.row r with
  | none => rw [hr] at h; cases h
  | some p =>
    obtain ⟨x, s⟩ := p
    rw [hr] at h
    dsimp only at h
    cases hz : PyFlat.rows 0 s with
    | none => rw [hz] at h; cases h
    | some p2 =>
      obtain ⟨ys, t2⟩ := p2
      rw [hz] at h
      dsimp only at h
      obtain ⟨e1, e2⟩ := rows0 hz
      injection h with h
      injection h with h1 h2
      subst e1 e2
      exact ⟨x, h1.symm, by rw [h2]⟩
theorem call_some {sh : Int → Option (Nat × Nat)} {p : Int} {r t : List Int} {c : List (List Int)} (h : PyFlat.call sh (p :: r) = some (c, t)) : ∃ n k xs, sh p = some (n, k) ∧ n ≤ r.length ∧ PyFlat.rows k (r.drop n) = some (xs, t) ∧ c = (p :: r.take n) :: xs := by
  unfold PyFlat.call at h
  dsimp only at h
  cases hs : sh p with
  | none => rw [hs] at h; cases h
  | some nk =>
    obtain ⟨n, k⟩ := nk
    rw [hs] at h
    dsimp only at h
    split at h
    · cases h
    · rename_i hlt
      cases hr : PyFlat.rows k (r.drop n) with
      | none => rw [hr] at h; cases h
      | some q =>
        obtain ⟨xs, t'⟩ := q
        rw [hr] at h
        injection h with h
        injection h with h1 h2
        exact ⟨n, k, xs, rfl, by omega, by rw [hr, h2], h1.symm⟩
theorem nats_of {l : List Int} (h : ∀ x ∈ l, 0 ≤ x) : l = (l.map nat).map fun (i : Nat) => (i : Int) := by
  rw [List.map_map]
  refine ((List.map_congr_left fun x hx => ?_).trans (List.map_id l)).symm
  show ((nat x : Nat) : Int) = id x
  unfold nat
  exact Int.toNat_of_nonneg (h x hx)
theorem within_iff {lo hi z : Int} : PyInside.within lo hi z = true ↔ lo ≤ z ∧ z ≤ hi := by
  unfold PyInside.within
  rw [Bool.and_eq_true, decide_eq_true_iff, decide_eq_true_iff]
theorem drop_get {ns r : List Int} {a : Nat} {p : Int} (hd : ns.drop a = p :: r) : ns[a]? = some p ∧ r = ns.drop (a + 1) ∧ a < ns.length := by
  have hlt : a < ns.length := Nat.lt_of_not_le fun z => by
    rw [List.drop_eq_nil_of_le z] at hd
    cases hd
  rw [List.drop_eq_getElem_cons hlt] at hd
  injection hd with h1 h2
  exact ⟨by rw [List.getElem?_eq_getElem hlt, h1], h2.symm, hlt⟩
section
variable {ns r : List Int} {a : Nat} {p : Int} (hd : ns.drop a = p :: r)
include hd
theorem turn0 (call n : Nat) (hp : p = (call : Int)) (h1 : 1 ≤ call) (hs : szE[call]? = some n) (h12 : ¬ (call = 1 ∨ call = 2)) (hn : n ≤ r.length) (hpos : ∀ x ∈ r.take n, 0 ≤ x) :
    TurnOk ns a ⟨call, (r.take n).map nat, [], a + 1 + n⟩ ∧ r.drop n = ns.drop (a + 1 + n) := by
  obtain ⟨g1, g2, g3⟩ := drop_get hd
  have hl : ((r.take n).map nat).length = n := by rw [List.length_map, List.length_take, Nat.min_eq_left hn]
  have hrl : r.length = ns.length - (a + 1) := by rw [g2, List.length_drop]
  refine ⟨⟨by rw [g1, hp], h1, by rw [hl]; exact hs, ?_, fun z => absurd z h12, fun _ => ⟨rfl, by rw [hl]⟩, Nat.zero_le _, fun x hx => (by cases hx), by show a + 1 + n ≤ ns.length; omega⟩, ?_⟩
  · show (ns.drop (a + 1)).take ((r.take n).map nat).length = _
    rw [hl, ← g2]
    exact nats_of hpos
  · rw [g2, List.drop_drop]
theorem turn1 (call n : Nat) {x t : List Int} (hp : p = (call : Int)) (hs : szE[call]? = some n) (h12 : call = 1 ∨ call = 2) (hn : n ≤ r.length) (hpos : ∀ x ∈ r.take n, 0 ≤ x) (hr : PyFlat.row (r.drop n) = some (x, t)) (hx : ∀ y ∈ x, 0 ≤ y ∧ y ≤ 18446744073709551615) (hl : x.length ≤ 1024) :
    TurnOk ns a ⟨call, (r.take n).map nat, x.map nat, a + 1 + n + 1 + x.length⟩ ∧ t = ns.drop (a + 1 + n + 1 + x.length) := by
  obtain ⟨g1, g2, g3⟩ := drop_get hd
  have hln : ((r.take n).map nat).length = n := by rw [List.length_map, List.length_take, Nat.min_eq_left hn]
  have hrl : r.length = ns.length - (a + 1) := by rw [g2, List.length_drop]
  obtain ⟨m, r', e1, e2, e3, e4, e5⟩ := row_some hr
  have hxl : x.length = m.toNat := by rw [e4, List.length_take, Nat.min_eq_left e3]
  have hdn : ns.drop (a + 1 + n) = m :: r' := by rw [← e1, g2, List.drop_drop]
  obtain ⟨k1, k2, k3⟩ := drop_get hdn
  have hrl' : r'.length = ns.length - (a + 1 + n + 1) := by rw [k2, List.length_drop]
  refine ⟨⟨by rw [g1, hp], by show 1 ≤ call; omega, by rw [hln]; exact hs, ?_, fun _ => ⟨?_, ?_, ?_⟩, fun z => absurd h12 z, by show (x.map nat).length ≤ 1024; rw [List.length_map]; exact hl, fun y hy => ?_, by show a + 1 + n + 1 + x.length ≤ ns.length; omega⟩, ?_⟩
  · show (ns.drop (a + 1)).take ((r.take n).map nat).length = _
    rw [hln, ← g2]
    exact nats_of hpos
  · show ns[a + 1 + ((r.take n).map nat).length]? = some (((x.map nat).length : Nat) : Int)
    rw [hln, k1, List.length_map, hxl, Int.toNat_of_nonneg e2]
  · show (ns.drop (a + 1 + ((r.take n).map nat).length + 1)).take (x.map nat).length = _
    rw [hln, ← k2, List.length_map, hxl, ← e4]
    exact nats_of fun y hy => (hx y hy).1
  · show a + 1 + n + 1 + x.length = _
    rw [hln, List.length_map]
  · obtain ⟨z, hz, rfl⟩ := List.mem_map.mp hy
    have := hx z hz
    show z.toNat < 2 ^ 64
    omega
  · rw [e5, k2, List.drop_drop, hxl]
end
theorem each_mem {lo hi : Int} {z : Int} {b : List (Int × Int)} {l : List Int} (h : PyInside.each ((lo, hi) :: b) (z :: l) = true) : (lo ≤ z ∧ z ≤ hi) ∧ PyInside.each b l = true := by
  unfold PyInside.each at h
  rw [Bool.and_eq_true, within_iff] at h
  exact h
theorem lists_mem {lo hi : Int} {m n : Nat} {x : List Int} (h : PyInside.lists [(lo, hi, m, n)] [x] = true) : x.length ≤ n ∧ ∀ y ∈ x, lo ≤ y ∧ y ≤ hi := by
  unfold PyInside.lists at h
  rw [Bool.and_eq_true, Bool.and_eq_true, Bool.and_eq_true, decide_eq_true_iff, decide_eq_true_iff, List.all_eq_true] at h
  exact ⟨h.1.1.2, fun y hy => within_iff.mp (h.1.2 y hy)⟩
theorem turn_of {ns r t : List Int} {a : Nat} {p : Int} {c : List (List Int)} (hd : ns.drop a = p :: r) (hc : PyFlat.call PySq50.shape (p :: r) = some (c, t)) (hb : PyInside.call PySq50.bound c = true) :
    ∃ tn : Turn, TurnOk ns a tn ∧ t = ns.drop tn.nxt ∧ Is c tn.call tn.l tn.r := by
  obtain ⟨n, k, xs, hs, hn, hr, rfl⟩ := call_some hc
  -- no number, no row
  have case0 : ∀ call : Nat, p = (call : Int) → 1 ≤ call → szE[call]? = some 0 → ¬ (call = 1 ∨ call = 2) → n = 0 → k = 0 → Is [[p]] call [] [] → ∃ tn : Turn, TurnOk ns a tn ∧ t = ns.drop tn.nxt ∧ Is ((p :: r.take n) :: xs) tn.call tn.l tn.r := by
    intro call hp h1 hz h12 hn0 hk0 hi
    subst hn0 hk0
    obtain ⟨rfl, rfl⟩ := rows0 hr
    obtain ⟨q1, q2⟩ := turn0 hd call 0 hp h1 hz h12 (Nat.zero_le _) (fun x hx => by rw [List.take_zero] at hx; cases hx)
    exact ⟨_, q1, q2, hi⟩
  have case1 : ∀ call : Nat, p = (call : Int) → 1 ≤ call → szE[call]? = some 1 → ¬ (call = 1 ∨ call = 2) → n = 1 → k = 0 → (∀ z, Is [[p, z]] call [nat z] []) → PySq50.bound p = ([(0, 18446744073709551615)], []) → ∃ tn : Turn, TurnOk ns a tn ∧ t = ns.drop tn.nxt ∧ Is ((p :: r.take n) :: xs) tn.call tn.l tn.r := by
    intro call hp h1 hz h12 hn1 hk0 hi hbd
    subst hn1 hk0
    obtain ⟨rfl, rfl⟩ := rows0 hr
    cases r with
    | nil => simp at hn
    | cons z r =>
      unfold PyInside.call at hb
      dsimp only at hb
      rw [hbd, Bool.and_eq_true] at hb
      obtain ⟨b1, _⟩ := each_mem (b := []) (l := r.take 0) hb.1
      obtain ⟨q1, q2⟩ := turn0 hd call 1 hp h1 hz h12 hn (fun x hx => by
        have : x = z := by simpa using hx
        rw [this]
        exact b1.1)
      exact ⟨_, q1, q2, hi z⟩
  unfold PySq50.shape at hs
  by_cases hp : p = 1
  · -- begin
    rw [if_pos hp] at hs
    injection hs with hs
    injection hs with hn' hk'
    subst hn' hk'
    obtain ⟨x, rfl, hrow⟩ := rows1 hr
    clear hr
    match r, hn, hrow with
    | z1 :: z2 :: z3 :: r, hn, hrow =>
      unfold PyInside.call at hb
      dsimp only at hb
      rw [hp] at hb
      rw [show PySq50.bound 1 = ([(0, 18446744073709551615), (0, 18446744073709551615), (0, 18446744073709551615)], [(0, 18446744073709551615, 0, 1024)]) from rfl, Bool.and_eq_true] at hb
      obtain ⟨b1, hb1⟩ := each_mem (l := z2 :: z3 :: r.take 0) hb.1
      obtain ⟨b2, hb2⟩ := each_mem (l := z3 :: r.take 0) hb1
      obtain ⟨b3, hb3⟩ := each_mem (l := r.take 0) hb2
      obtain ⟨l1, l2⟩ := lists_mem hb.2
      obtain ⟨q1, q2⟩ := turn1 hd 1 3 hp rfl (.inl rfl) hn (fun x hx => by
        have : x = z1 ∨ x = z2 ∨ x = z3 := by simpa using hx
        rcases this with rfl | rfl | rfl
        · exact b1.1
        · exact b2.1
        · exact b3.1) hrow l2 l1
      refine ⟨_, q1, q2, ?_⟩
      rw [hp]
      exact is1 z1 z2 z3 x
  rw [if_neg hp] at hs
  clear hp
  by_cases hp : p = 2
  · -- act
    rw [if_pos hp] at hs
    injection hs with hs
    injection hs with hn' hk'
    subst hn' hk'
    obtain ⟨x, rfl, hrow⟩ := rows1 hr
    clear hr
    match r, hn, hrow with
    | z1 :: r, hn, hrow =>
      unfold PyInside.call at hb
      dsimp only at hb
      rw [hp] at hb
      rw [show PySq50.bound 2 = ([(0, 18446744073709551615)], [(0, 18446744073709551615, 0, 1024)]) from rfl, Bool.and_eq_true] at hb
      obtain ⟨b1, hb1⟩ := each_mem (l := r.take 0) hb.1
      obtain ⟨l1, l2⟩ := lists_mem hb.2
      obtain ⟨q1, q2⟩ := turn1 hd 2 1 hp rfl (.inr rfl) hn (fun x hx => by
        have : x = z1 := by simpa using hx
        rw [this]
        exact b1.1) hrow l2 l1
      refine ⟨_, q1, q2, ?_⟩
      rw [hp]
      exact is2 z1 x
  rw [if_neg hp] at hs
  clear hp
  by_cases hp : p = 3
  · rw [if_pos hp] at hs
    injection hs with hs
    injection hs with hn' hk'
    exact case0 3 hp (by decide) rfl (by decide) hn'.symm hk'.symm (hp ▸ is3)
  rw [if_neg hp] at hs
  clear hp
  by_cases hp : p = 4
  · rw [if_pos hp] at hs
    injection hs with hs
    injection hs with hn' hk'
    exact case0 4 hp (by decide) rfl (by decide) hn'.symm hk'.symm (hp ▸ is4)
  rw [if_neg hp] at hs
  clear hp
  by_cases hp : p = 5
  · rw [if_pos hp] at hs
    injection hs with hs
    injection hs with hn' hk'
    exact case1 5 hp (by decide) rfl (by decide) hn'.symm hk'.symm (hp ▸ is5) (hp ▸ rfl)
  rw [if_neg hp] at hs
  clear hp
  by_cases hp : p = 6
  · rw [if_pos hp] at hs
    injection hs with hs
    injection hs with hn' hk'
    exact case1 6 hp (by decide) rfl (by decide) hn'.symm hk'.symm (hp ▸ is6) (hp ▸ rfl)
  rw [if_neg hp] at hs
  clear hp
  by_cases hp : p = 7
  · rw [if_pos hp] at hs
    injection hs with hs
    injection hs with hn' hk'
    exact case1 7 hp (by decide) rfl (by decide) hn'.symm hk'.symm (hp ▸ is7) (hp ▸ rfl)
  rw [if_neg hp] at hs
  clear hp
  by_cases hp : p = 8
  · rw [if_pos hp] at hs
    injection hs with hs
    injection hs with hn' hk'
    exact case0 8 hp (by decide) rfl (by decide) hn'.symm hk'.symm (hp ▸ is8)
  rw [if_neg hp] at hs
  clear hp
  by_cases hp : p = 9
  · rw [if_pos hp] at hs
    injection hs with hs
    injection hs with hn' hk'
    exact case0 9 hp (by decide) rfl (by decide) hn'.symm hk'.symm (hp ▸ is9)
  rw [if_neg hp] at hs
  clear hp
  by_cases hp : p = 10
  · rw [if_pos hp] at hs
    injection hs with hs
    injection hs with hn' hk'
    exact case0 10 hp (by decide) rfl (by decide) hn'.symm hk'.symm (hp ▸ is10)
  rw [if_neg hp] at hs
  clear hp
  by_cases hp : p = 11
  · rw [if_pos hp] at hs
    injection hs with hs
    injection hs with hn' hk'
    exact case0 11 hp (by decide) rfl (by decide) hn'.symm hk'.symm (hp ▸ is11)
  rw [if_neg hp] at hs
  clear hp
  by_cases hp : p = 12
  · rw [if_pos hp] at hs
    injection hs with hs
    injection hs with hn' hk'
    exact case0 12 hp (by decide) rfl (by decide) hn'.symm hk'.symm (hp ▸ is12)
  rw [if_neg hp] at hs
  clear hp
  by_cases hp : p = 13
  · rw [if_pos hp] at hs
    injection hs with hs
    injection hs with hn' hk'
    exact case0 13 hp (by decide) rfl (by decide) hn'.symm hk'.symm (hp ▸ is13)
  rw [if_neg hp] at hs
  cases hs
end Lq
set_option Elab.async false
set_option linter.all false
/-! Plain laws: all calls; the whole. -/
namespace Lq
open Lp
open Sq50 (State Layer Dot Act Clip House)
theorem told_cons (a : List Int) (l : List (List Int)) : PyFlat.told (a :: l) = (a.length : Int) :: a ++ PyFlat.told l := by
  unfold PyFlat.told
  rw [List.flatMap_cons]
theorem all_turns {ns : List Int} : ∀ (f a : Nat) (cs : List (List (List Int))) (g : Ed) (G : House), a ≤ ns.length → PyFlat.calls PySq50.shape f (ns.drop a) = some cs → PyInside.calls PySq50.bound cs = true → Same g G → g.past.length + g.future.length + 41 * cs.length ≤ 20000 →
    ∃ ts : List Turn, Turns ns a ts ∧ RunOk g ts ∧ ts.length = cs.length ∧ pRun g ts = PyFlat.told (PyFlat.played Sq50Neutral.step G (cs.map PySq50.whole)) := by
  intro f
  induction f with
  | zero =>
    intro a cs g G ha h hb S hl
    cases hd : ns.drop a with
    | nil =>
      rw [hd] at h
      have h : cs = [] := by
        unfold PyFlat.calls at h
        exact (Option.some.inj h).symm
      subst h
      have : a = ns.length := by
        have := List.drop_eq_nil_iff.mp hd
        omega
      exact ⟨[], this, trivial, rfl, rfl⟩
    | cons p r =>
      rw [hd] at h
      unfold PyFlat.calls at h
      cases h
  | succ f ih =>
    intro a cs g G ha h hb S hl
    cases hd : ns.drop a with
    | nil =>
      rw [hd] at h
      have h : cs = [] := by
        unfold PyFlat.calls at h
        exact (Option.some.inj h).symm
      subst h
      have : a = ns.length := by
        have := List.drop_eq_nil_iff.mp hd
        omega
      exact ⟨[], this, trivial, rfl, rfl⟩
    | cons p r =>
      rw [hd] at h
      rw [PyFlat.calls] at h
      cases hc : PyFlat.call PySq50.shape (p :: r) with
      | none => rw [hc] at h; cases h
      | some q =>
        obtain ⟨c, t⟩ := q
        rw [hc] at h
        dsimp only at h
        cases hcs : PyFlat.calls PySq50.shape f t with
        | none => rw [hcs] at h; cases h
        | some cs' =>
          rw [hcs] at h
          have h := (Option.some.inj h).symm
          subst h
          unfold PyInside.calls at hb
          rw [List.all_cons, Bool.and_eq_true] at hb
          obtain ⟨tn, tk, e, ⟨x, hx, hst⟩⟩ := turn_of hd hc hb.1
          obtain ⟨s1, s2, s3, s4⟩ := ans_steps (hst g G S tk.rb)
          rw [e] at hcs
          rw [List.length_cons] at hl
          obtain ⟨ts, t1, t2, t3, t4⟩ := ih tn.nxt cs' (pAns g tn.call tn.l tn.r).1 (G.step x).1 tk.le hcs hb.2 s1 (by omega)
          refine ⟨tn :: ts, ⟨tk, t1⟩, ⟨⟨S.wf, by omega, by omega, S.len⟩, play_ok g.acts G.kept g G S.toSame0 S.recs ?_, fun u _ hu => wf_made S.wf S.clip hu, s3, t2⟩, by rw [List.length_cons, List.length_cons, t3], ?_⟩
          · have := S.len
            omega
          · show ((pAns g tn.call tn.l tn.r).2.length : Int) :: (pAns g tn.call tn.l tn.r).2 ++ pRun (pAns g tn.call tn.l tn.r).1 ts = _
            rw [List.map_cons, PyFlat.played, told_cons, t4]
            have hstep : Sq50Neutral.step G (PySq50.whole c) = ((G.step x).1, (G.step x).2.value :: (G.step x).2.out) := by
              unfold Sq50Neutral.step
              rw [hx]
            rw [hstep, s2]
theorem same_fresh : Same (begunE 1 1 100 [0]) Sq50.fresh := by
  have S0 : Same (begunE 1 1 100 [0]) (Sq50.begun 1 1 100 [0]) := by
    refine ⟨⟨rfl, rfl, rfl, rfl, .inl ⟨rfl, rfl⟩, ?_, fun x hx => (by cases hx), fun x hx => (by cases hx)⟩, rfl, ⟨rfl, fun x hx => by cases hx⟩, Nat.zero_le _⟩
    refine ⟨Nat.le_refl _, by show 1 ≤ 12; decide, Nat.le_refl _, by show 1 ≤ 12; decide, by show 1 ≤ 5; decide, List.nodup_cons.mpr ⟨List.not_mem_nil, List.nodup_nil⟩, List.mem_singleton.mpr rfl, fun x hx => ?_, fun x hx => ?_, rfl⟩
    · rw [List.mem_singleton.mp hx]
      exact Nat.lt_succ_self 0
    · rw [List.mem_singleton.mp hx]
      refine ⟨rfl, fun d hd => ?_, Nat.le_refl _, Nat.zero_le _⟩
      rw [List.mem_singleton.mp hd]
      exact ⟨Nat.zero_le _, Nat.le_refl _⟩
  exact S0
/-- **the plain law**: what's asked of the calls gives the turns, and what these answer is what is due -/
theorem asked_ok {ns : List Int} (h : PySq50.answers_asked ns = true) : ∃ ts : List Turn, Turns ns 0 ts ∧ RunOk (begunE 1 1 100 [0]) ts ∧ ts.length ≤ 120 ∧ pRun (begunE 1 1 100 [0]) ts = PySq50.answers ns := by
  unfold PySq50.answers_asked at h
  unfold PySq50.answers PySq50.calls
  cases hc : PyFlat.calls PySq50.shape ns.length ns with
  | none => rw [hc] at h; cases h
  | some raw =>
    rw [hc] at h
    simp only [Bool.and_eq_true] at h
    have hb := h.1.1.2
    have h120 : raw.length ≤ 120 := of_decide_eq_true h.1.1.1.2
    obtain ⟨ts, t1, t2, t3, t4⟩ := all_turns (ns := ns) ns.length 0 raw (begunE 1 1 100 [0]) Sq50.fresh (Nat.zero_le _) (by rw [List.drop_zero]; exact hc) hb same_fresh (by show 0 + 0 + _ ≤ _; omega)
    exact ⟨ts, t1, t2, by omega, t4⟩
end Lq
set_option Elab.async false
set_option linter.all false
set_option maxRecDepth 100000
set_option maxHeartbeats 4000000
/-! The end: one list of numbers handed in, one table of code, a list of numbers given back. -/
namespace LpE
open PySem PySem.Spec PyProof.Rows L2
open PySem.W (WData Codec OpenSpec Well WellAll ReadsW ReadsAllW)
/-- what is known of the list that is handed in -/
def startH (K : PySem.W.Frag) (a t : Addr) (ob : Obj) (xs : List V) : Hp := fun b => if b = t then some (.tbl #[]) else if b = a ∧ K.lookup a = none then some (.frz ob (.lst xs)) else none
theorem startH_is {K : PySem.W.Frag} {a t b : Addr} {ob : Obj} {xs : List V} {u : HO} (h : startH K a t ob xs b = some u) : (b = t ∧ u = .tbl #[]) ∨ (b = a ∧ K.lookup a = none ∧ u = .frz ob (.lst xs)) := by
  unfold startH at h
  split at h
  · rename_i e
    exact .inl ⟨e, (Option.some.inj h).symm⟩
  split at h
  · rename_i e
    exact .inr ⟨e.1, e.2, (Option.some.inj h).symm⟩
  · cases h
theorem call_list {P : Program} {w : World} {K : PySem.W.Frag} {mg mb : Str → Option Value} {k : Nat} {fa a c t : Addr} {x : Str} {s₁ : Shared} {vs : List Value} {ns out : List Int} {sp : Sp} {R : PySem.W.WRecords} {cl : Str → Option Addr}
    (KX : K.In s₁.heap) (hns : s₁.heap.Ns mainGlobals mg) (hb : s₁.heap.Ns builtinsNs mb) (hbb : ∀ y : Str, y ≠ "__name__" → mb y = bootBuiltins y) (hlim : s₁.heap.NoLimit) (hg : s₁.gens = #[])
    (hT : s₁.heap.get? t = some { cls := .none, data := .fields #[] }) (nT : K.lookup t = none) (hC : PySem.W.CodeHd s₁.heap c t)
    (hbm : ∃ (bm : Addr) (o : Obj), mg "__builtins__" = some (.ref bm) ∧ bm ≠ builtinsNs ∧ s₁.heap.get? bm = some o ∧ o.cls = .type "module" ∧ o.dict = some builtinsNs ∧ o.data = .plain)
    (ha : s₁.heap.get? a = some { cls := .type "list", data := .seq vs.toArray }) (hv : Vals (ns.map V.int) vs) (hl : ns.length ≤ sizeLine) (hr : Room k callerA)
    (F : ∀ base : Heap, K.In base → base.Ns mainGlobals mg → LamX.TabB base mg c t → Lp.Ok P w K mg base CX0 k fa [x] sp)
    (hsp : ∀ H : Hp, H t = some (.tbl #[]) → SqL K H a (ns.map V.int) → sp [.ref a] H (fun v H' => Dw K H' v (.list (out.map WData.int))) fun _ _ _ => False) :
    codeAny (model P w) callerA (.call (.ref fa) ⟨[.ref a], []⟩) (fun r s' => ∃ u as, r = .ok (.ret u) ∧ ReadsW R cl s'.heap u (.list (out.map WData.int)) as ∧ OldK s₁.heap s'.heap ∧ s'.os = s₁.os ∧ AllBare s'.gens) s₁ := by
  have hat : a ≠ t := fun z => by
    rw [z, hT] at ha
    cases ha
  have hlv : vs.length = ns.length := by rw [← hv.length, List.length_map]
  generalize hH : startH K a t { cls := .type "list", data := .seq vs.toArray } (ns.map V.int) = H
  have known : ∀ {b : Addr} {u : HO}, H b = some u → (b = t ∧ u = .tbl #[]) ∨ (b = a ∧ K.lookup a = none ∧ u = .frz { cls := .type "list", data := .seq vs.toArray } (.lst (ns.map V.int))) := fun h => startH_is (by rw [hH]; exact h)
  have Ht : H t = some (.tbl #[]) := by
    rw [← hH]
    exact if_pos rfl
  have Sa : SqL K H a (ns.map V.int) := by
    cases hk : K.lookup a with
    | none =>
      refine .inl (.inr ⟨{ cls := .type "list", data := .seq vs.toArray }, ?_⟩)
      rw [← hH]
      unfold startH
      rw [if_neg hat, if_pos ⟨rfl, hk⟩]
    | some o =>
      have z := KX a o hk
      rw [ha] at z
      have z := Option.some.inj z
      subst z
      exact .inr ⟨_, vs.toArray, _, hk, rfl, rfl, rfl, by rw [List.size_toArray, hlv]; exact hl, by simpa using hv⟩
  have hok : HOk P w H s₁.heap := fun b u q => by
    rcases known q with ⟨rfl, rfl⟩ | ⟨rfl, _, rfl⟩
    · exact hT
    · exact ⟨ha, by rw [List.length_map]; exact hl, vs, _, hv, ha⟩
  -- what is no list and no empty table is not tracked
  have loose : ∀ {b : Addr} {o : Obj}, s₁.heap.get? b = some o → (∀ l n, o.data ≠ .seq l n) → o.data ≠ .fields #[] → H b = none := fun {b o} e h1 h2 => by
    cases q : H b with
    | none => rfl
    | some u =>
      rcases known q with ⟨rfl, _⟩ | ⟨rfl, _, _⟩
      · rw [hT] at e
        rw [← Option.some.inj e] at h2
        exact absurd rfl h2
      · rw [ha] at e
        rw [← Option.some.inj e] at h1
        exact absurd rfl (h1 _ _)
  have hid : ∀ {b : Addr} {o : Obj}, s₁.heap.get? b = some o → H b = none → (hidT s₁.heap H).get? b = some o := fun e n => hidT_get e n
  have dic : ∀ {b : Addr} {o : Obj} {es : Array DictEntry} {ep : Nat}, s₁.heap.get? b = some o → o.data = .dict es ep → H b = none := fun e d => loose e (fun l n z => by rw [d] at z; cases z) fun z => by
    rw [d] at z
    cases z
  have nsp : ∀ {b : Addr} {m : Str → Option Value}, s₁.heap.Ns b m → (hidT s₁.heap H).Ns b m := fun {b m} ⟨o, es, ep, e, d, r⟩ => ⟨o, es, ep, hid e (dic e d), d, r⟩
  have hKb : K.In (hidT s₁.heap H) := fun b o e => hid (KX b o e) (by
    cases q : H b with
    | none => rfl
    | some u =>
      rcases known q with ⟨rfl, _⟩ | ⟨rfl, z, _⟩
      · rw [nT] at e
        cases e
      · rw [z] at e
        cases e)
  have tab : LamX.TabB (hidT s₁.heap H) mg c t := by
    refine ⟨?_, ?_, fun z => ?_⟩
    · obtain ⟨o, us, file, tf, flags, tg, inF, text, tt, e1, r1, r2, r3, rr⟩ := hC
      refine ⟨o, us, file, tf, flags, tg, inF, text, tt, hid e1 (loose e1 (fun l n z => ?_) fun z => ?_), r1, r2, r3, rr⟩
      · rw [r2] at z
        cases z
      · rw [r2] at z
        injection z with z
        rw [z] at r3
        simp at r3
    · obtain ⟨bm, o, q1, q2, q3, q4, q5, q6⟩ := hbm
      refine ⟨bm, o, q1, q2, fun z => ?_, fun z => ?_, hid q3 (loose q3 (fun l n z => ?_) fun z => ?_), q4, q5, q6⟩
      · obtain ⟨o2, es, ep, e, d, _⟩ := hns
        rw [z, e] at q3
        rw [← Option.some.inj q3, d] at q6
        cases q6
      · rw [z, hT] at q3
        rw [← Option.some.inj q3] at q6
        cases q6
      · rw [q6] at z
        cases z
      · rw [q6] at z
        cases z
    · obtain ⟨o2, es, ep, e, d, _⟩ := hns
      rw [z, hT] at e
      rw [← Option.some.inj e] at d
      cases d
  have hM : L2.Mod K mg (hidT s₁.heap H) := ⟨hKb, nsp hns, ⟨mb, nsp hb, hbb⟩, let ⟨mc, z1, z2⟩ := hlim; ⟨mc, nsp z1, z2⟩⟩
  have env : Env0 P w K mg (hidT s₁.heap H) callerA [] s₁ H := ⟨rfl, hM, fun b o e => of_hidT e, Nat.le_of_eq (hidT_size _ _), trivial, fun b z => (by cases z), hok, .of_eq hg⟩
  obtain ⟨⟨fd, G, bd⟩, _⟩ := F _ hKb (nsp hns) tab
  refine codeAny_mono (G.run callerA [] s₁ H ⟨[.ref a], []⟩ [.ref a] [.ref a] _ _ hr env (bd s₁ [.ref a] KX rfl) (.cons rfl .nil) (hsp H Ht Sa)) fun r s' h => ?_
  cases r with
  | error e => exact False.elim h
  | ok fl =>
    cases fl with
    | next => exact False.elim h
    | brk => exact False.elim h
    | cont => exact False.elim h
    | ret u =>
      obtain ⟨v, H', os, bare, un, hok', rv, q⟩ := h
      have keep : ∀ b o, b ≠ t → s₁.heap.get? b = some o → s'.heap.get? b = some o := fun b o n e => by
        cases z : H b with
        | none => exact un.keep b o e z (by intro y; cases y) (by intro y; cases y)
        | some u2 =>
          rcases known z with ⟨y, _⟩ | ⟨_, _, y⟩
          · exact absurd y n
          · rw [y] at z
            obtain ⟨y1, _⟩ := hok b _ z
            obtain ⟨y2, _⟩ := hok' b _ (un.frzs b _ _ z)
            rw [e] at y1
            rw [Option.some.inj y1]
            exact y2
      obtain ⟨more, hm⟩ := un.tbls t #[] Ht
      have hm2 : s'.heap.get? t = some { cls := .none, data := .fields more } := by
        have z := hok' t _ hm
        rw [Array.empty_append] at z
        exact z
      have KX' : K.In s'.heap := fun b o e => keep b o (fun z => by rw [z, nT] at e; cases e) (KX b o e)
      obtain ⟨as, rd⟩ := Dw.reads (R := R) (cl := cl) hok' KX' _ v u q rv
      refine ⟨u, as, rfl, rd, ⟨fun b o e => ?_, fun b o e => ?_⟩, os, bare⟩
      · by_cases z : b = t
        · subst z
          rw [hT] at e
          have e := Option.some.inj e
          subst e
          exact .inr (.inl ⟨(hC.tab hT).isCodeTable, rfl, #[], more, rfl, by rw [Array.empty_append]; exact hm2⟩)
        · exact .inl (keep b o z e)
      · by_cases z : b = t
        · subst z
          exact ⟨_, hm2⟩
        · exact ⟨o, keep b o z e⟩
end LpE
set_option Elab.async false
set_option linter.all false
set_option maxRecDepth 100000
set_option maxHeartbeats 0
/-! The whole: the top's run, the walk, the plain law. -/
namespace LpHead
open PySem PySem.W PySem.Calls PyProof.Rows
theorem left : LeftO P qv names (fun s => xlAt qv [] s && recOk [] s) LpK.hook.obs LpK.hook.val 9600 true :=
  HandSHeadRun.left_one (M := 9000) opens (by rfl) (fun s => by kernel_rfl) (by rfl) fun w os => by
    simp only [HandSHeadRun.endQ_eq, HandSHeadRun.seenQ_eq]
    obtain ⟨s, h1, h2⟩ := Option.map_eq_some_iff.mp (runB w os)
    have h3 := runC w os
    have h4 := runK w os
    rw [h1] at h3 h4
    have h3 : HandSHeadRun.seenQ qv names (importedModules P.main.body) (fun s => xlAt qv [] s && recOk [] s) s.abs = openGood qv names := Option.some.inj h3
    have h4 : LpK.obs (HandSHeadRun.getT s) = LpK.val := Option.some.inj h4
    have h5 : LpK.hook.obs s.abs = LpK.hook.val w := (LpK.obs_eq (HandSHeadRun.getT_eq s)).symm.trans h4
    show (runs w os).map _ = _
    rw [h1]
    exact congrArg some (Prod.ext h2 (Prod.ext h3 h5))
end LpHead
set_option Elab.async false
set_option linter.all false
set_option maxRecDepth 100000
set_option maxHeartbeats 0
namespace LpHead
open PySem PySem.W PySem.Calls PyProof.Rows
theorem answer_is (ns : List Int) (h : PySq50.answers_asked ns = true) (hn : ns.length ≤ 16000) (K : PySem.W.Frag) (H : L2.Hp) (a : Addr) (ht : H (He.cT K Lp.rkD).2 = some (.tbl #[])) (hS : L2.SqL K H a (ns.map L2.V.int)) :
    Lp.sp_answers K [.ref a] H (fun v H' => L2.Dw K H' v (.list ((PySq50.answers ns).map WData.int))) fun _ _ _ => False := by
  obtain ⟨ts, t1, t2, t3, t4⟩ := Lq.asked_ok h
  refine ⟨_, rfl, a, ns, ts, rfl, hS, t1, t2, t3, hn, fun p hp => ?_, fun y H' hy => ?_⟩
  · rw [List.mem_singleton.mp hp]
    exact ⟨#[], ht, trivial, fun pos cv z => by cases z⟩
  · rw [t4] at hy
    exact .lst (Evl.sq_of hy) (L2.dw_ints _)
theorem walk : WalkOS qv names (XL qv []) LpK.hook.says PySem.Challenge.rw_layerpaint_s01_answers (HandSHeadRun.topDef P 104) [] (fun f vs => PySem.call f vs) := by
  intro w s₀ s₁ mg mb G Y fa o pm cd doc dV kV ho hd hcd hD hmg hg args vals as hpre hlay hrd hwl hlo
  obtain ⟨K, KX, c⟩ := Y
  obtain ⟨av, e1, e2⟩ := os_pre_some hpre
  obtain ⟨e3, hwi⟩ := Codec.encAll_of_decAll PySem.Challenge.rw_layerpaint_s01_answers.args args av e1
  subst e3
  obtain ⟨ns, un⟩ := av
  have hnm : (HandSHeadRun.topDef P 104).name = ("answers" : PySem.Str) := by kernel_rfl
  rw [hnm] at hmg
  have T : Lp.Tx K mg := ⟨c.d, c.ex, fun e => mg_of KX G.T.g e, fun e => mg_none_of KX G.T.g e⟩
  have hfa : fa = He.ga K "answers" := by
    have z := T.g_answers
    rw [hmg] at z
    exact Value.ref.inj (Option.some.inj z)
  subst hfa
  obtain ⟨v, rest, rfl, w1, w2⟩ := L2.well_cons (d := .list (ns.map WData.int)) (ds := []) hwl
  have hrest : rest = [] := by
    cases w2
    rfl
  subst hrest
  obtain ⟨a, us, rfl, ha, hall⟩ := L2.well_list w1
  have hi := Att.ints_of_wellAll ns us hall
  have hn : ns.length ≤ 16000 := by
    have z : Codec.inList 0 16000 (Codec.int 0 18446744073709551615).within ns = true := (Bool.and_eq_true_iff.mp hwi).1
    unfold Codec.inList Codec.inLen at z
    exact of_decide_eq_true (Bool.and_eq_true_iff.mp (Bool.and_eq_true_iff.mp z).1).2
  refine enter_call (codeAny_mono (LpE.call_list (R := []) (cl := classAt s₀.heap) (k := 16) (x := "calls") (out := PySq50.answers ns) (sp := Lp.sp_answers K) KX G.T.g G.T.b G.T.builtins G.T.nolimit hg c.empty c.out (codeHd_of_K KX c.hd) G.T.bmain ha (L2.vals_ints hi) (Evl.sz_of (by omega)) ⟨rfl, by decide, by decide⟩ (fun base hK hM hB => ?_) fun H ht hS => answer_is ns e2 hn K H a ht hS) fun r' s' hq => ?_)
  · exact Lp.ok_answers ⟨c.d, c.ex, fun e => mg_of hK hM e, fun e => mg_none_of hK hM e⟩ hB
  · obtain ⟨u, as', rfl, q1, q2, q3, q4⟩ := hq
    exact ⟨.inl ⟨u, _, as', rfl, fun _ => rfl, q1, (OpenSpec.post_iff said hwi _ _).mpr rfl, fun z => Bool.noConfusion (show false = true from z)⟩, q2, q3, q4⟩
end LpHead
set_option Elab.async false
set_option linter.all false
set_option maxRecDepth 100000
set_option maxHeartbeats 0
open PySem PySem.W PySem.Calls PyProof.Rows
theorem PySem.Challenge.cw_layerpaint_s01_answers_holds : PySem.Challenge.rw_layerpaint_s01_answers.Holds := by
  refine holds_os (r := PySem.Challenge.rw_layerpaint_s01_answers) (q := LpHead.qv) (loose := LpHead.names) (XP := XL LpHead.qv []) (YP := LpK.hook.says) (d := HandSHeadRun.topDef LpHead.P 104) (kwd := []) LpHead.left LpK.hook.of LpK.hook.keeps (fun s z => xl_of s (Bool.and_eq_true_iff.mp z).1) XL.keeps
    LpHead.def1 LpHead.def2 LpHead.def3 (fun s z => recFacts_of (Bool.and_eq_true_iff.mp z).2) os_shapes LpHead.said LpHead.okc LpHead.bare LpHead.one LpHead.walk
#print axioms PySem.Challenge.cw_layerpaint_s01_answers_holds
