import PyProof.Rows.All
import Wide.All
import OpenK.AllK
import Wide.FinOn
import HandS.Base
import HandS.Call
import HandS.Words
import HandS.Defaults
import HandS.Head0
import HandS.Head1
import HandS.Head2
import HandS.HeadHook1
import HandS.HeadHook2
import HandS.Star
import Wide.Seal
import HandS.ForMost
import HandS.Set
import HandS.SetFor
import HandS.Strs
import HandS.TupSets
import PyProof.SetKind
import KE.KeyNested
import KE.SortData
import KE.SortKeyHeap
import PyProof.TupleOfSeq
import PyProof.Transfer
import HandS.SlotsOwn
import HandS.IterNext
import HandS.IterVal
import HandS.IsInst
import HandS.Deep
import KE.KOwnIter
import OpenK.KOps
import OpenK.KMeth
import PyProof.InstEq
import HandS.OwnIter
import PyProof.CollectWalk
import HandS.SortKw
import KE.GoesEnum
import HandS.Iter
import HandS.DictComp
import HandS.More
import HandS.Wide
import HandS.Flow
import HandS.TupAny
import KE.KDictList
import HandS.Sort
import HandS.RaiseMore
import HandS.HeadEnd
import PyProof.Rows.NestShow
import PyProof.ReprBulk
import HandS.MakeKwOnly
import PySem.Challenge.RW_narrowkeys_k72_whole_wholes_by_widths
/-! narrowkeys, law k72 (whole wholes by widths): the proof, by an AI agent; no person has read it. Parts: the head, rules for sets and own iterators, the mathematics of matchings, the walk of the program, the walk of the law, the end. -/
section
set_option Elab.async false
set_option linter.all false
set_option maxRecDepth 100000
/-! the statements of the top by their places -/
namespace NkW
open PySem
def top (i : Nat) : Stmt := PySem.Challenge.pw_narrowkeys_k72_whole_wholes_by_widths.main.body.getD i (.Pass ⟨0, 0, 0, 0⟩)
end NkW
end
section
set_option Elab.async false
set_option linter.all false
set_option maxRecDepth 100000
set_option maxHeartbeats 0
/-! the head: the run of the top, what it leaves -/
namespace NkH
open PySem PySem.Spec PyProof.Rows L2 NkW
abbrev R : PySem.W.OpenRow := PySem.W.OpenLaw.row PySem.Challenge.rw_narrowkeys_k72_whole_wholes_by_widths
/-- where the things stand that the walk leans on -/
def asL : List Addr := [3, 366, 365, 470, 469, 648, 647, 786, 785, 167, 166, 174, 173, 179, 178, 184, 183, 191, 190, 198, 197, 205, 204, 212, 211] ++ [219, 218, 226, 225, 233, 232, 238, 237, 245, 244, 252, 251, 259, 258, 266, 265, 375, 374, 380, 379, 479, 478, 484, 483, 491] ++ [490, 496, 495, 503, 502, 657, 656, 662, 661, 669, 668, 676, 675, 683, 682, 688, 687, 696, 695, 710, 709, 715, 714, 720, 719] ++ [726, 725, 795, 794, 802, 801, 809, 808, 816, 815, 823, 822, 830, 829, 837, 836, 842, 841, 849, 848, 854, 853, 861, 860, 868] ++ [867, 873, 872, 878, 877, 883, 882, 890, 889, 895, 894, 900, 899, 907, 906, 912, 911, 917, 916, 922, 921, 927, 926, 932, 931] ++ [278, 277, 285, 284, 325, 324, 335, 334, 342, 341, 349, 348, 356, 355, 392, 391, 453, 452, 460, 459, 467, 466, 515, 514, 520] ++ [519, 525, 524, 532, 531, 553, 552, 558, 557, 570, 569, 575, 574, 638, 637, 738, 737, 769, 768, 689, 705, 721]
def mk (p : Str × Option Str) (n q : Str) (st : Stmt) (kw : List (Str × He.Dv)) : He.DefD := ⟨p, n, q, defArgs st, defBody st, defScope st, [], kw⟩
def d_is_integer : He.DefD := mk ("is_integer", none) "is_integer" "is_integer" (top 14) []
def d_is_number_below : He.DefD := mk ("is_number_below", none) "is_number_below" "is_number_below" (top 15) []
def d_is_column : He.DefD := mk ("is_column", none) "is_column" "is_column" (top 16) []
def d_are_unlike : He.DefD := mk ("are_unlike", none) "are_unlike" "are_unlike" (top 17) []
def d_are_columns : He.DefD := mk ("are_columns", none) "are_columns" "are_columns" (top 18) []
def d_is_last : He.DefD := mk ("is_last", none) "is_last" "is_last" (top 19) []
def d_is_question : He.DefD := mk ("is_question", none) "is_question" "is_question" (top 20) []
def d_is_index : He.DefD := mk ("is_index", none) "is_index" "is_index" (top 21) []
def d_is_weight : He.DefD := mk ("is_weight", none) "is_weight" "is_weight" (top 22) []
def d_columns_of : He.DefD := mk ("columns_of", none) "columns_of" "columns_of" (top 24) []
def d_width : He.DefD := mk ("width", none) "width" "width" (top 25) []
def d_is_below : He.DefD := mk ("is_below", none) "is_below" "is_below" (top 26) []
def d_can_share : He.DefD := mk ("can_share", none) "can_share" "can_share" (top 27) []
def d_split_pair : He.DefD := mk ("split_pair", none) "split_pair" "split_pair" (top 28) []
def d_climb : He.DefD := mk ("climb", none) "climb" "climb" (top 29) []
def d_upwards : He.DefD := mk ("upwards", none) "upwards" "upwards" (top 30) []
def d_blocks_of : He.DefD := mk ("blocks_of", none) "blocks_of" "blocks_of" (top 34) []
def d_index_for : He.DefD := mk ("index_for", none) "index_for" "index_for" (top 35) []
def d_are_weights : He.DefD := mk ("are_weights", none) "are_weights" "are_weights" (top 39) []
def d_are_pairs : He.DefD := mk ("are_pairs", none) "are_pairs" "are_pairs" (top 40) []
def d_lead : He.DefD := mk ("lead", none) "lead" "lead" (top 41) []
def d_matched : He.DefD := mk ("matched", none) "matched" "matched" (top 42) []
def d_chained : He.DefD := mk ("chained", none) "chained" "chained" (top 43) []
def d_pairs_of : He.DefD := mk ("pairs_of", none) "pairs_of" "pairs_of" (top 46) []
def d_shelf_of : He.DefD := mk ("shelf_of", none) "shelf_of" "shelf_of" (top 47) []
def d_plain_lot : He.DefD := mk ("plain_lot", none) "plain_lot" "plain_lot" (top 48) []
def d_fewest : He.DefD := mk ("fewest", none) "fewest" "fewest" (top 49) []
def d_weight_of : He.DefD := mk ("weight_of", none) "weight_of" "weight_of" (top 51) []
def d_lot_of : He.DefD := mk ("lot_of", none) "lot_of" "lot_of" (top 52) []
def d_least_cost : He.DefD := mk ("least_cost", none) "least_cost" "least_cost" (top 53) [("weights", .non)]
def d_whole_range : He.DefD := mk ("whole_range", none) "whole_range" "whole_range" (top 57) [("weights", .non)]
def d_exchanged : He.DefD := mk ("exchanged", none) "exchanged" "exchanged" (top 58) []
def d_one_more : He.DefD := mk ("one_more", none) "one_more" "one_more" (top 59) []
def d_shelf_with : He.DefD := mk ("shelf_with", none) "shelf_with" "shelf_with" (top 60) [("weights", .non)]
def d__law_bag : He.DefD := mk ("_law_bag", none) "_law_bag" "_law_bag" (top 64) []
def d__law_take : He.DefD := mk ("_law_take", none) "_law_take" "_law_take" (top 65) []
def d__law_one : He.DefD := mk ("_law_one", none) "_law_one" "_law_one" (top 66) []
def d__law_mixed : He.DefD := mk ("_law_mixed", none) "_law_mixed" "_law_mixed" (top 67) []
def d__law_alike : He.DefD := mk ("_law_alike", none) "_law_alike" "_law_alike" (top 68) []
def d__law_names : He.DefD := mk ("_law_names", none) "_law_names" "_law_names" (top 69) []
def d__law_question_of : He.DefD := mk ("_law_question_of", none) "_law_question_of" "_law_question_of" (top 70) []
def d__law_questions : He.DefD := mk ("_law_questions", none) "_law_questions" "_law_questions" (top 71) []
def d__law_all : He.DefD := mk ("_law_all", none) "_law_all" "_law_all" (top 72) []
def d__law_below : He.DefD := mk ("_law_below", none) "_law_below" "_law_below" (top 73) []
def d__law_share : He.DefD := mk ("_law_share", none) "_law_share" "_law_share" (top 74) []
def d__law_serves : He.DefD := mk ("_law_serves", none) "_law_serves" "_law_serves" (top 75) []
def d__law_is_served : He.DefD := mk ("_law_is_served", none) "_law_is_served" "_law_is_served" (top 76) []
def d__law_most_apart : He.DefD := mk ("_law_most_apart", none) "_law_most_apart" "_law_most_apart" (top 77) []
def d__law_all_served : He.DefD := mk ("_law_all_served", none) "_law_all_served" "_law_all_served" (top 78) []
def d__law_table : He.DefD := mk ("_law_table", none) "_law_table" "_law_table" (top 79) []
def d__law_weigh : He.DefD := mk ("_law_weigh", none) "_law_weigh" "_law_weigh" (top 80) []
def d__law_levels : He.DefD := mk ("_law_levels", none) "_law_levels" "_law_levels" (top 81) []
def d__law_sum : He.DefD := mk ("_law_sum", none) "_law_sum" "_law_sum" (top 82) []
def d__law_times : He.DefD := mk ("_law_times", none) "_law_times" "_law_times" (top 83) []
def d__law_is_with : He.DefD := mk ("_law_is_with", none) "_law_is_with" "_law_is_with" (top 84) []
def d__law_heavier : He.DefD := mk ("_law_heavier", none) "_law_heavier" "_law_heavier" (top 85) []
def d__law_range : He.DefD := mk ("_law_range", none) "_law_range" "_law_range" (top 86) []
def d_law : He.DefD := mk ("law", none) "law" "law" (top 87) []
def d_Asked___init__ : He.DefD := mk ("Asked", some "__init__") "__init__" "Asked.__init__" (inClass (top 32) 0) []
def d_Asked_questions : He.DefD := mk ("Asked", some "questions") "questions" "Asked.questions" (inClass (top 32) 1) []
def d_Asked___or__ : He.DefD := mk ("Asked", some "__or__") "__or__" "Asked.__or__" (inClass (top 32) 7) []
def d_Asked___sub__ : He.DefD := mk ("Asked", some "__sub__") "__sub__" "Asked.__sub__" (inClass (top 32) 9) []
def d_Asked___contains__ : He.DefD := mk ("Asked", some "__contains__") "__contains__" "Asked.__contains__" (inClass (top 32) 10) []
def d_Asked___iter__ : He.DefD := mk ("Asked", some "__iter__") "__iter__" "Asked.__iter__" (inClass (top 32) 11) []
def d_Asked___len__ : He.DefD := mk ("Asked", some "__len__") "__len__" "Asked.__len__" (inClass (top 32) 12) []
def d_Shelf___init__ : He.DefD := mk ("Shelf", some "__init__") "__init__" "Shelf.__init__" (inClass (top 37) 0) []
def d_Shelf___iter__ : He.DefD := mk ("Shelf", some "__iter__") "__iter__" "Shelf.__iter__" (inClass (top 37) 9) []
def d_Shelf___len__ : He.DefD := mk ("Shelf", some "__len__") "__len__" "Shelf.__len__" (inClass (top 37) 10) []
def d_Shelf___eq__ : He.DefD := mk ("Shelf", some "__eq__") "__eq__" "Shelf.__eq__" (inClass (top 37) 11) []
def d_Lot___init__ : He.DefD := mk ("Lot", some "__init__") "__init__" "Lot.__init__" (inClass (top 44) 0) []
def d_Lot_odd_pairs : He.DefD := mk ("Lot", some "odd_pairs") "odd_pairs" "Lot.odd_pairs" (inClass (top 44) 1) []
def d_Lot_heavy_first : He.DefD := mk ("Lot", some "heavy_first") "heavy_first" "Lot.heavy_first" (inClass (top 44) 2) []
def d_Lot_weights : He.DefD := mk ("Lot", some "weights") "weights" "Lot.weights" (inClass (top 44) 3) []
def d_Lot_steps : He.DefD := mk ("Lot", some "steps") "steps" "Lot.steps" (inClass (top 44) 6) []
def d_Lot_tops_from : He.DefD := mk ("Lot", some "tops_from") "tops_from" "Lot.tops_from" (inClass (top 44) 7) []
def d_Lot_width : He.DefD := mk ("Lot", some "width") "width" "Lot.width" (inClass (top 44) 9) []
def d_Lot_least_sum : He.DefD := mk ("Lot", some "least_sum") "least_sum" "Lot.least_sum" (inClass (top 44) 10) []
def d_Lot___len__ : He.DefD := mk ("Lot", some "__len__") "__len__" "Lot.__len__" (inClass (top 44) 19) []
def d_Weights___init__ : He.DefD := mk ("Weights", some "__init__") "__init__" "Weights.__init__" (inClass (top 62) 0) []
def d_Weights___call__ : He.DefD := mk ("Weights", some "__call__") "__call__" "Weights.__call__" (inClass (top 62) 5) []
def fn : List He.DefD := [d_is_integer, d_is_number_below, d_is_column, d_are_unlike, d_are_columns, d_is_last, d_is_question, d_is_index, d_is_weight, d_columns_of, d_width, d_is_below, d_can_share, d_split_pair, d_climb, d_upwards, d_blocks_of, d_index_for, d_are_weights, d_are_pairs, d_lead, d_matched, d_chained, d_pairs_of, d_shelf_of] ++ [d_plain_lot, d_fewest, d_weight_of, d_lot_of, d_least_cost, d_whole_range, d_exchanged, d_one_more, d_shelf_with, d__law_bag, d__law_take, d__law_one, d__law_mixed, d__law_alike, d__law_names, d__law_question_of, d__law_questions, d__law_all, d__law_below, d__law_share, d__law_serves, d__law_is_served, d__law_most_apart, d__law_all_served, d__law_table] ++ [d__law_weigh, d__law_levels, d__law_sum, d__law_times, d__law_is_with, d__law_heavier, d__law_range, d_law, d_Asked___init__, d_Asked_questions, d_Asked___or__, d_Asked___sub__, d_Asked___contains__, d_Asked___iter__, d_Asked___len__, d_Shelf___init__, d_Shelf___iter__, d_Shelf___len__, d_Shelf___eq__, d_Lot___init__, d_Lot_odd_pairs, d_Lot_heavy_first, d_Lot_weights, d_Lot_steps, d_Lot_tops_from] ++ [d_Lot_width, d_Lot_least_sum, d_Lot___len__, d_Weights___init__, d_Weights___call__]
def fa : List He.Fa := [.free "len", .free "all", .free "sorted", .free "set", .free "isinstance", .free "int", .free "bool", .free "str", .free "list", .free "tuple", .free "dict", .free "enumerate", .free "range", .free "sum", .free "max", .free "abs", .free "repr", .free "iter", .str "LETTERS" "abcdefghijklmnopqrstuvwxyz", .int "LONGEST" 8, .int "MOST_THINGS" 48, .glo "Asked", .cls "Asked", .glo "Shelf", .cls "Shelf"] ++ [.glo "Lot", .cls "Lot", .glo "Weights", .cls "Weights", .noat "Asked" "kept_questions", .noat "Shelf" "kept_indexes", .noat "Weights" "kept_table", .noat "Lot" "kept_weights", .noat "Lot" "kept_pairs", .noat "Lot" "kept_above", .noat "Lot" "kept_match", .glo "is_integer", .glo "is_number_below", .glo "is_column", .glo "are_unlike", .glo "are_columns", .glo "is_last", .glo "is_question", .glo "is_index", .glo "is_weight", .glo "columns_of", .glo "width", .glo "is_below", .glo "can_share", .glo "split_pair"] ++ [.glo "climb", .glo "upwards", .glo "blocks_of", .glo "index_for", .glo "are_weights", .glo "are_pairs", .glo "lead", .glo "matched", .glo "chained", .glo "pairs_of", .glo "shelf_of", .glo "plain_lot", .glo "fewest", .glo "weight_of", .glo "lot_of", .glo "least_cost", .glo "whole_range", .glo "exchanged", .glo "one_more", .glo "shelf_with", .glo "_law_bag", .glo "_law_take", .glo "_law_one", .glo "_law_mixed", .glo "_law_alike"] ++ [.glo "_law_names", .glo "_law_question_of", .glo "_law_questions", .glo "_law_all", .glo "_law_below", .glo "_law_share", .glo "_law_serves", .glo "_law_is_served", .glo "_law_most_apart", .glo "_law_all_served", .glo "_law_table", .glo "_law_weigh", .glo "_law_levels", .glo "_law_sum", .glo "_law_times", .glo "_law_is_with", .glo "_law_heavier", .glo "_law_range", .glo "law", .mkr "Asked", .meth "Asked" "questions", .meth "Asked" "__or__", .meth "Asked" "__sub__", .meth "Asked" "__contains__", .meth "Asked" "__iter__"] ++ [.meth "Asked" "__len__", .mkr "Shelf", .meth "Shelf" "__iter__", .meth "Shelf" "__len__", .meth "Shelf" "__eq__", .mkr "Lot", .meth "Lot" "odd_pairs", .meth "Lot" "heavy_first", .meth "Lot" "weights", .meth "Lot" "steps", .meth "Lot" "tops_from", .meth "Lot" "width", .meth "Lot" "least_sum", .meth "Lot" "__len__", .mkr "Weights", .meth "Weights" "__call__"]
def isiB (K : PySem.W.Frag) (C : Addr) : Bool := He.eqO (PySem.W.findIn K (.ref C) "__class__") (some (some (.builtin "object.__class__"))) && (He.eqO (PySem.W.specialIn K (.builtin "object.__class__") "__get__") (some (some (.builtin "getset_descriptor.__get__"))) &&
  (decide (PySem.W.takesIn K (.builtin "object.__class__") = some true) && decide (PySem.W.mroIn K C (.type "object") = some true)))
def ex (K : PySem.W.Frag) : Bool := isiB K (He.ga K "Asked") && (isiB K (He.ga K "Shelf") && (PySem.W.selfFirst K (He.ga K "Asked") && (He.eqO (PySem.W.findIn K (.ref (He.ga K "Shelf")) "__ne__") (some (some (.builtin "object.__ne__"))) &&
  (decide (PySem.W.subIn K (.ref (He.ga K "Shelf")) (.type "object") = some true) && PySem.W.fnIn K (He.ma K (He.ga K "Weights") "__call__")))))
abbrev Al : Type := He.AlD × Bool
def obsL (g : Addr → Option Obj) : Al := (He.obsD fa fn (He.frG g asL), ex (He.frG g asL))
def hk : PySem.W.Hook where
  α := Al
  obs := fun s => obsL s.heap.get?
  val := fun _ => (He.valD fn, true)
  says := fun _ h => ∃ K : PySem.W.Frag, K.In h ∧ He.SaysD fa fn K ∧ ex K = true
  of := fun _ s e => ⟨_, He.frG_in, congrArg (fun z : Al => z.1) e, congrArg (fun z : Al => z.2) e⟩
  keeps := fun _ _ _ ⟨K, hK, c⟩ k => ⟨K, PySem.W.Frag.In.keeps hK k, c⟩
def ob (s : PySem.W.SharedT) : Al := obsL (HandSHeadRun.getT s)
theorem ob_eq (s : PySem.W.SharedT) : ob s = hk.obs s.abs := by
  have e : HandSHeadRun.getT s = s.abs.heap.get? := funext (HandSHeadRun.getT_eq s)
  unfold ob
  rw [e] <;> rfl
def loose : List Str := (["_wall", "__name__", "KeysError", "Wrong", "Apart", "TooMany", "NoNumber", "NoOrder", "Unfit", "NoColumn", "LETTERS", "LONGEST", "MOST_THINGS", "is_integer", "is_number_below", "is_column", "are_unlike", "are_columns", "is_last", "is_question", "is_index", "is_weight", "columns_of", "width", "is_below"] : List Str) ++ (["can_share", "split_pair", "climb", "upwards", "Asked", "blocks_of", "index_for", "Shelf", "are_weights", "are_pairs", "lead", "matched", "chained", "Lot", "pairs_of", "shelf_of", "plain_lot", "fewest", "weight_of", "lot_of", "least_cost", "narrow_shelf", "whole_range", "exchanged", "one_more"] : List Str) ++ (["shelf_with", "Weights", "_law_bag", "_law_take", "_law_one", "_law_mixed", "_law_alike", "_law_names", "_law_question_of", "_law_questions", "_law_all", "_law_below", "_law_share", "_law_serves", "_law_is_served", "_law_most_apart", "_law_all_served", "_law_table", "_law_weigh", "_law_levels", "_law_sum", "_law_times", "_law_is_with", "_law_heavier", "_law_range"] : List Str)
theorem run (w : World) : HandSHeadRun.RunEq R (PySem.W.view R.prog [87]) hk ob 20000 loose w := by
  intro os
  kernel_rfl
end NkH
end
section
set_option Elab.async false
set_option linter.all false
set_option maxRecDepth 100000
set_option maxHeartbeats 4000000
/-! Sets of any kind of key, by an adder: what stands in the set after set(xs). -/
namespace NkS
open PySem PyProof.Rows

/-- the empty set's object -/
abbrev emptyOb (w : World) : Obj := { cls := .type "set", dict := none, data := .set #[] 0 (.fresh 0 0 (!w.params.followText "set-order")) }

/-- what an order-blind reader of a set needs: the entries are the values of L, whose keys differ -/
structure SetC (w : World) {κ : Type} (h : Heap) (a : Addr) (L : List (Value × κ)) : Prop where
  ex : ∃ o es ep t, h.get? a = some o ∧ o.ExactSet ∧ o.data = .set es ep t ∧ (es.toList.map (·.2)).Perm (L.map (·.1)) ∧ t.fits es.size = true ∧ es.size < scanBound ∧ L2.Ris t.place.toList ∧ (w.params.followText "set-order" = true ∨ t.led = true)
  nd : (L.map (·.2)).Nodup
theorem SetC.at {w : World} {κ : Type} {h h' : Heap} {a : Addr} {L : List (Value × κ)} (R : SetC w h a L) (k : ∀ o, h.get? a = some o → h'.get? a = some o) : SetC w h' a L := by
  obtain ⟨⟨o, es, ep, t, ho, r⟩, nd⟩ := R
  exact ⟨⟨o, es, ep, t, k o ho, r⟩, nd⟩

/-- a way to put keyed values into a set -/
structure Adder (P : Program) (w : World) (κ : Type) [DecidableEq κ] where
  Is : Heap → κ → Value → Prop
  St : Heap → Addr → List (Value × κ) → Prop
  room : Nat
  grow : ∀ {h h' : Heap} {k : κ} {v : Value}, Is h k v → (∀ c o, h.get? c = some o → h'.get? c = some o) → Is h' k v
  stay : ∀ {h h' : Heap} {a : Addr} {L : List (Value × κ)}, St h a L → (∀ o, h.get? a = some o → h'.get? a = some o) → (∀ p ∈ L, Is h' p.2 p.1) → St h' a L
  fresh : ∀ {h : Heap} {a : Addr}, h.get? a = some (emptyOb w) → St h a []
  look : ∀ {h : Heap} {a : Addr} {L : List (Value × κ)}, St h a L → SetC w h a L
  add : ∀ {A : Around} {E : Value → Shared → Prop} {s : Shared} {a : Addr} {L : List (Value × κ)} {k : κ} {v : Value} {Q : Bool → Shared → Prop}, St s.heap a L → Is s.heap k v → A.units + room < cLine → L.length + 1 < 64 →
    (∀ b h' tk L', s.toks ≤ tk → Heap.SameBut a s.heap h' → St h' a L' → (k ∈ L.map (·.2) → L' = L) → (k ∉ L.map (·.2) → L'.Perm ((v, k) :: L)) → Q b { s with heap := h', toks := tk }) →
    wpAny (model P w) A (setAdd a v) Q E s

section
variable {P : Program} {w : World} {κ : Type} [DecidableEq κ] (D : Adder P w κ) {A : Around} {E : Value → Shared → Prop} {s : Shared}

/-- what has come in from the first i of the source -/
structure Came (ks : List (Value × κ)) (i : Nat) (L : List (Value × κ)) : Prop where
  sub : ∀ p ∈ L, p ∈ ks.take i
  all : ∀ p ∈ ks.take i, p.2 ∈ L.map (·.2)
  len : L.length ≤ i
theorem Came.step {ks L L' : List (Value × κ)} {i : Nat} {x : Value × κ} (g : Came ks i L) (h : ks[i]? = some x) (c1 : x.2 ∈ L.map (·.2) → L' = L) (c2 : x.2 ∉ L.map (·.2) → L'.Perm (x :: L)) : Came ks (i + 1) L' := by
  have ht : ks.take (i + 1) = ks.take i ++ [x] := by rw [List.take_succ, h]; rfl
  by_cases hm : x.2 ∈ L.map (·.2)
  · rw [c1 hm]
    refine ⟨fun p hp => by rw [ht]; exact List.mem_append_left _ (g.sub p hp), fun p hp => ?_, Nat.le_succ_of_le g.len⟩
    rw [ht] at hp
    rcases List.mem_append.mp hp with z | z
    · exact g.all p z
    · rw [List.mem_singleton.mp z]; exact hm
  · have pm := c2 hm
    refine ⟨fun p hp => ?_, fun p hp => ?_, by rw [pm.length_eq, List.length_cons]; exact Nat.succ_le_succ g.len⟩
    · rw [ht]
      rcases List.mem_cons.mp (pm.mem_iff.mp hp) with e | z
      · rw [e]; exact List.mem_append_right _ (List.mem_singleton.mpr rfl)
      · exact List.mem_append_left _ (g.sub p z)
    · rw [(pm.map (·.2)).mem_iff, List.map_cons]
      rw [ht] at hp
      rcases List.mem_append.mp hp with z | z
      · exact List.mem_cons_of_mem _ (g.all p z)
      · rw [List.mem_singleton.mp z]; exact List.mem_cons_self

/-- the loop that fills the set -/
theorem fill_loop {I : Addr} {fp wr : List Addr} {n : Nat} {Pv : Nat → Value → Prop} {Sx : Nat → Shared → Prop} {R : Result → Shared → Prop}
    (W : WalksS P w A.in1 I fp wr (fun a b => b = a) n Pv Sx) (S : Addr) (hS : S ∉ fp) (ks : List (Value × κ)) (hn : n = ks.length) (hfew : ks.length < 64) (hval : ∀ i v, Pv i v → ∃ p, ks[i]? = some p ∧ v = p.1)
    (h0 : Heap) (hk : ∀ p ∈ ks, D.Is h0 p.2 p.1) (hS0 : h0.get? S = none) (hw0 : ∀ b ∈ wr, h0.get? b = none) (hu : A.in1.units + D.room < cLine) :
    ∀ (m i : Nat) (s : Shared), n - i = m → i ≤ n → Sx i s → (∀ b o, h0.get? b = some o → s.heap.get? b = some o) → (∃ L, D.St s.heap S L ∧ Came ks i L) →
      (∀ s' L, Moved (S :: wr) (fun a b => b = a) s s' → D.St s'.heap S L → Came ks n L → (∀ b o, h0.get? b = some o → s'.heap.get? b = some o) → R (.ok (.ret .none)) s') →
      codeAny (model P w) A (.builtin "set.update.loop" ⟨[.ref S, .ref I], []⟩) R s := by
  have hSw : S ∉ wr := fun h => hS (W.sub _ h)
  have up : ∀ b ∈ wr, b ∈ S :: wr := fun b hb => List.mem_cons_of_mem _ hb
  have widen : ∀ {s s' : Shared}, Moved wr (fun a b : Array GenState => b = a) s s' → Moved (S :: wr) (fun a b : Array GenState => b = a) s s' := fun m => ⟨fun b o hb => m.heap b o fun z => hb (up b z), m.gens, m.drawn, m.os, m.toks⟩
  have keep : ∀ {s s' : Shared}, Moved wr (fun a b : Array GenState => b = a) s s' → (∀ b o, h0.get? b = some o → s.heap.get? b = some o) → ∀ b o, h0.get? b = some o → s'.heap.get? b = some o := fun hm hkp b o e =>
    hm.heap b o (fun hb => by rw [hw0 b hb] at e; cases e) (hkp b o e)
  intro m
  induction m with
  | zero =>
    intro i s hm hi hst hkp ⟨L, hL, g⟩ hR
    obtain rfl : i = n := by omega
    refine codeAny_builtin F.entry_set_update_loop ?_
    rw [Around.under_plainId F.plain_set_update_loop _]
    show wpAny _ A.in1 (pyNext (.ref I) >>= _) _ _ s
    refine wpAny_bind (W.done s _ _ hst fun s' mv => ?_)
    show wpAny _ A.in1 (ret Value.none) _ _ s'
    have kp := keep mv hkp
    exact wpAny_pure (hR s' L (widen mv) (D.stay hL (fun o e => mv.heap S o hSw e) fun p hp => D.grow (hk p (List.mem_of_mem_take (g.sub p hp))) kp) g kp)
  | succ m ih =>
    intro i s hm hi hst hkp ⟨L, hL, g⟩ hR
    have hlt : i < n := by omega
    refine codeAny_builtin F.entry_set_update_loop ?_
    rw [Around.under_plainId F.plain_set_update_loop _]
    show wpAny _ A.in1 (pyNext (.ref I) >>= _) _ _ s
    refine wpAny_bind (W.item i s _ _ hlt hst fun v s' hP hst' mv => ?_)
    obtain ⟨p, hp, rfl⟩ := hval i v hP
    have kp := keep mv hkp
    have hL' : D.St s'.heap S L := D.stay hL (fun o e => mv.heap S o hSw e) fun q hq => D.grow (hk q (List.mem_of_mem_take (g.sub q hq))) kp
    show wpAny _ A.in1 (holding [p.1] (setAdd S p.1) >>= _) _ _ s'
    refine wpAny_bind (wpAny_holding ?_)
    refine D.add hL' (D.grow (hk p (List.mem_of_getElem? hp)) kp) hu (by have := g.len; omega) fun b h' tk L' htk sb hL2 c1 c2 => ?_
    have kp2 : ∀ b o, h0.get? b = some o → h'.get? b = some o := fun b o e => (sb.2 b fun z => by rw [z, hS0] at e; cases e).trans (kp b o e)
    refine wpAny_pure ⟨plainId_quiet F.plain_set_update_loop _, ih (i + 1) _ (by omega) hlt (W.frame _ s' _ _ hst' htk fun b hb o e => ?_) kp2 ⟨L', hL2, g.step hp c1 c2⟩ fun s'' L2 mv2 hL3 g2 kp3 => ?_⟩
    · rw [sb.2 b fun z : b = S => hS (by rw [← z]; exact hb)]; exact e
    · refine hR s'' L2 ⟨fun b o hb e => mv2.heap b o hb ?_, (mv2.gens).trans mv.gens, mv2.drawn.trans mv.drawn, mv2.os.trans mv.os, Nat.le_trans mv.toks (Nat.le_trans htk mv2.toks)⟩ hL3 g2 kp3
      show h'.get? b = some o
      rw [sb.2 b fun z : b = S => hb (by rw [z]; exact List.mem_cons_self)]
      exact (widen mv).heap b o hb e
end
end NkS
end
section
set_option Elab.async false
set_option linter.all false
set_option maxRecDepth 100000
set_option maxHeartbeats 4000000
namespace NkS
open PySem PyProof.Rows L2
section
variable {P : Program} {w : World} {κ : Type} [DecidableEq κ] (D : Adder P w κ) {A : Around} {E : Value → Shared → Prop} {s : Shared}

/-- what set(xs) leaves: a new set at the end of the heap -/
def Filled (s : Shared) (ks : List (Value × κ)) (s2 : Shared) : Prop :=
  ∃ h' tk L, s2 = { s with heap := h', toks := tk } ∧ D.St h' s.heap.objs.size L ∧ Came ks ks.length L ∧ ∀ b o, s.heap.get? b = some o → h'.get? b = some o

/-- the whole of set(xs), where its __init__ is known -/
theorem set_of_init {l : Addr} {ks : List (Value × κ)} {Q : Value → Shared → Prop}
    (hi : wpAny (model P w) A.in1.in1 (Builtin.«set.__init__» ⟨[.ref s.heap.objs.size, .ref l], []⟩) (fun f s2 => f = .done (.ret .none) ∧ Filled D s ks s2) E { s with heap := s.heap.push (emptyOb w) })
    (h : ∀ s2, Filled D s ks s2 → Q (.ref s.heap.objs.size) s2) : wpAny (model P w) A (call (.type "set") [.ref l]) Q E s := by
  obtain ⟨c, tl, hmro⟩ := F.called_set.mro
  have hmade := F.called_set.made
  have hsub := F.called_set.sub
  refine wpAny_call (codeAny_of_tree ?_)
  show wpAny _ _ (callAny (.type "set") _) _ _ _
  refine wpAny_pure ⟨Code.quiet_builtin _ (by decide +kernel), codeAny_builtin F.entry_type_call ?_⟩
  rw [Around.under_plain (weight_type_call_type "set" [.ref l] []) rfl]
  have h1 := F.called_set.notType
  have h2 := F.called_set.canCreate
  have hct := F.typeCall_set_1 (.ref l)
  repeat (any_goals (first | assumption | wp_step))
  refine codeAny_mono (code_set_led1 (.ref l) (E := E) (Q₁ := fun obj s₁ => obj = .ref s.heap.objs.size ∧ s₁ = { s with heap := s.heap.push (emptyOb w) }) ⟨rfl, rfl⟩) fun r s₁ hr => ?_
  cases r with
  | error e => exact hr
  | ok fl =>
    cases fl with
    | ret obj =>
      obtain ⟨rfl, rfl⟩ := hr
      have hT : Shared.TypeIs { s with heap := s.heap.push (emptyOb w) } (.ref s.heap.objs.size) "set" := ⟨_, Heap.get?_push_size _ rfl, rfl⟩
      have hli := F.called_set.init.lookup
      have hbi := F.called_set.init.bind (.ref s.heap.objs.size)
      repeat (any_goals (first | assumption | wp_step))
      refine codeAny_mono (codeAny_call_builtin (R := wants (fun r s2 => r = .none ∧ Filled D s ks s2) E) F.called_set.init.plain F.entry_set_init (check_set_init_1 hT ?_)) fun r₂ s₂ hr₂ => ?_
      · refine wpAny_mono hi (fun f s2 z => ?_) fun _ _ z => z
        obtain ⟨rfl, z⟩ := z
        exact ⟨rfl, z⟩
      · cases r₂ with
        | error e => exact hr₂
        | ok fl₂ =>
          cases fl₂ with
          | ret r =>
            obtain ⟨rfl, hq⟩ := hr₂
            repeat (any_goals (first | assumption | wp_step))
            exact h _ hq
          | _ => exact hr₂.elim
    | _ => exact hr.elim
end
end NkS
end
section
set_option Elab.async false
set_option linter.all false
set_option maxRecDepth 100000
set_option maxHeartbeats 4000000
namespace NkS
open PySem PyProof.Rows L2
section
variable {P : Program} {w : World} {κ : Type} [DecidableEq κ] (D : Adder P w κ) {A : Around} {E : Value → Shared → Prop} {s : Shared}

/-- set(xs) of a list -/
theorem init_list {l : Addr} {items : Array Value} {ks : List (Value × κ)} (hh : A.handled = none) (hl : s.heap.IsList l items) (hit : items.toList = ks.map (·.1)) (hk : ∀ p ∈ ks, D.Is s.heap p.2 p.1) (hfew : ks.length < 64) (hu : A.units + 3 + D.room < cLine) :
    wpAny (model P w) A.in1.in1 (Builtin.«set.__init__» ⟨[.ref s.heap.objs.size, .ref l], []⟩) (fun f s2 => f = .done (.ret .none) ∧ Filled D s ks s2) E { s with heap := s.heap.push (emptyOb w) } := by
  have hisz : items.size = ks.length := by
    have q := congrArg List.length hit
    rw [Array.length_toList, List.length_map] at q
    exact q
  have gone : ∀ b, s.heap.objs.size ≤ b → s.heap.get? b = none := fun b hb => by
    cases q : s.heap.get? b with
    | none => rfl
    | some o => exact absurd (Nat.lt_of_lt_of_le (Heap.lt_size q) hb) (Nat.lt_irrefl _)
  have hS : (s.heap.push (emptyOb w)).get? s.heap.objs.size = some (emptyOb w) := Heap.get?_push_size _ rfl
  have hT : Shared.TypeIs { s with heap := s.heap.push (emptyOb w) } (.ref s.heap.objs.size) "set" := ⟨_, hS, rfl⟩
  obtain ⟨ol, hol, hcl, nl, hdl⟩ := hl
  obtain ⟨ocls, odict, odata, oslots⟩ := ol
  simp only at hcl hdl
  subst hcl; subst hdl
  have hol' : (s.heap.push (emptyOb w)).get? l = some { cls := .type "list", dict := odict, data := .seq items nl, slots := oslots } := Heap.get?_push_of_some _ hol
  have hsls := F.sub_list_set
  have hslf := F.sub_list_frozenset
  have hne : (Value.type "list" == Value.type "dict") = false := by decide
  have hl1 : (s.heap.push (emptyOb w)).IsList l items := ⟨_, hol', rfl, nl, rfl⟩
  unfold Builtin.«set.__init__» noKeywords Builtin.Frozenset.updateFrom
  generalize hPI : pyIter = PI
  wp_walk
  subst hPI
  refine wpAny_pyIter_list hl1 ?_
  refine wpAny_bind (wpAny_runValue ?_)
  have hlS : l < s.heap.objs.size := Heap.lt_size hol
  have hh3 : A.in1.in1.in1.handled = none := by simp [hh]
  have hneI : l ≠ (s.heap.push (emptyOb w)).objs.size := by
    rw [Heap.size_push]; exact Nat.ne_of_lt (Nat.lt_succ_of_lt hlS)
  have hSf : s.heap.objs.size ∉ [(s.heap.push (emptyOb w)).objs.size, l] := by
    rw [Heap.size_push]; simp only [List.mem_cons, List.not_mem_nil, or_false, not_or]
    exact ⟨Nat.ne_of_lt (Nat.lt_succ_self _), Nat.ne_of_gt hlS⟩
  have hval : ∀ (i : Nat) (v : Value), items[i]? = some v → ∃ p, ks[i]? = some p ∧ v = p.1 := fun i v hv => by
    have q : items.toList[i]? = some v := by rw [Array.getElem?_toList]; exact hv
    rw [hit, List.getElem?_map] at q
    cases hq : ks[i]? with
    | none => rw [hq] at q; cases q
    | some p =>
      rw [hq] at q
      exact ⟨p, rfl, (Option.some.inj q).symm⟩
  refine fill_loop D ((Walks.list hh3 _ l hneI items).toS) s.heap.objs.size hSf ks hisz hfew hval s.heap hk (gone _ (Nat.le_refl _)) (fun b hb => gone b (by
      rw [List.mem_singleton.mp hb, Heap.size_push]
      exact Nat.le_succ _)) ?hu (items.size - 0) 0 _ (by omega) (Nat.zero_le _)
    ⟨⟨_, Heap.get?_push_size _ rfl, rfl, rfl⟩, (hl1.push _)⟩ (fun b o e => Heap.get?_push_of_some _ (Heap.get?_push_of_some _ e)) ⟨[], D.fresh (Heap.get?_push_of_some _ hS), ⟨fun p h => (by cases h), fun p h => (by simp at h), Nat.le_refl _⟩⟩ ?hR
  case hu =>
    show A.units + 3 + D.room < cLine
    exact hu
  case hR =>
    intro s' L hm hS' g' hkp
    obtain ⟨h', g2, d', tk', os'⟩ := s'
    have eg : g2 = s.gens := hm.gens
    have ed : d' = s.drawn := hm.drawn
    have eo : os' = s.os := hm.os
    subst eg; subst ed; subst eo
    show wpAny _ _ _ _ _ _
    refine wpAny_pure ?_
    show wpAny _ _ (ret Value.none) _ _ _
    rw [hisz] at g'
    exact wpAny_pure ⟨rfl, h', tk', L, rfl, hS', g', hkp⟩

/-- set(xs) of a tuple -/
theorem init_tuple {l : Addr} {items : Array Value} {ks : List (Value × κ)} (hh : A.handled = none) (hl : s.heap.IsTuple l items) (hit : items.toList = ks.map (·.1)) (hk : ∀ p ∈ ks, D.Is s.heap p.2 p.1) (hfew : ks.length < 64) (hu : A.units + 3 + D.room < cLine) :
    wpAny (model P w) A.in1.in1 (Builtin.«set.__init__» ⟨[.ref s.heap.objs.size, .ref l], []⟩) (fun f s2 => f = .done (.ret .none) ∧ Filled D s ks s2) E { s with heap := s.heap.push (emptyOb w) } := by
  have hisz : items.size = ks.length := by
    have q := congrArg List.length hit
    rw [Array.length_toList, List.length_map] at q
    exact q
  have gone : ∀ b, s.heap.objs.size ≤ b → s.heap.get? b = none := fun b hb => by
    cases q : s.heap.get? b with
    | none => rfl
    | some o => exact absurd (Nat.lt_of_lt_of_le (Heap.lt_size q) hb) (Nat.lt_irrefl _)
  have hS : (s.heap.push (emptyOb w)).get? s.heap.objs.size = some (emptyOb w) := Heap.get?_push_size _ rfl
  have hT : Shared.TypeIs { s with heap := s.heap.push (emptyOb w) } (.ref s.heap.objs.size) "set" := ⟨_, hS, rfl⟩
  obtain ⟨ol, hol, hcl, nl, hdl⟩ := hl
  obtain ⟨ocls, odict, odata, oslots⟩ := ol
  simp only at hcl hdl
  subst hcl; subst hdl
  have hol' : (s.heap.push (emptyOb w)).get? l = some { cls := .type "tuple", dict := odict, data := .seq items nl, slots := oslots } := Heap.get?_push_of_some _ hol
  have hsls := F.sub_tuple_set
  have hslf := F.sub_tuple_frozenset
  have hne : (Value.type "tuple" == Value.type "dict") = false := by decide
  have hl1 : (s.heap.push (emptyOb w)).IsTuple l items := ⟨_, hol', rfl, nl, rfl⟩
  unfold Builtin.«set.__init__» noKeywords Builtin.Frozenset.updateFrom
  generalize hPI : pyIter = PI
  wp_walk
  subst hPI
  refine wpAny_pyIter_tuple hl1 ?_
  refine wpAny_bind (wpAny_runValue ?_)
  have hlS : l < s.heap.objs.size := Heap.lt_size hol
  have hh3 : A.in1.in1.in1.handled = none := by simp [hh]
  have hneI : l ≠ (s.heap.push (emptyOb w)).objs.size := by
    rw [Heap.size_push]; exact Nat.ne_of_lt (Nat.lt_succ_of_lt hlS)
  have hSf : s.heap.objs.size ∉ [(s.heap.push (emptyOb w)).objs.size, l] := by
    rw [Heap.size_push]; simp only [List.mem_cons, List.not_mem_nil, or_false, not_or]
    exact ⟨Nat.ne_of_lt (Nat.lt_succ_self _), Nat.ne_of_gt hlS⟩
  have hval : ∀ (i : Nat) (v : Value), items[i]? = some v → ∃ p, ks[i]? = some p ∧ v = p.1 := fun i v hv => by
    have q : items.toList[i]? = some v := by rw [Array.getElem?_toList]; exact hv
    rw [hit, List.getElem?_map] at q
    cases hq : ks[i]? with
    | none => rw [hq] at q; cases q
    | some p =>
      rw [hq] at q
      exact ⟨p, rfl, (Option.some.inj q).symm⟩
  refine fill_loop D ((Walks.tuple hh3 _ l hneI items).toS) s.heap.objs.size hSf ks hisz hfew hval s.heap hk (gone _ (Nat.le_refl _)) (fun b hb => gone b (by
      rw [List.mem_singleton.mp hb, Heap.size_push]
      exact Nat.le_succ _)) ?hu (items.size - 0) 0 _ (by omega) (Nat.zero_le _)
    ⟨⟨_, Heap.get?_push_size _ rfl, rfl, rfl⟩, (hl1.push _)⟩ (fun b o e => Heap.get?_push_of_some _ (Heap.get?_push_of_some _ e)) ⟨[], D.fresh (Heap.get?_push_of_some _ hS), ⟨fun p h => (by cases h), fun p h => (by simp at h), Nat.le_refl _⟩⟩ ?hR
  case hu =>
    show A.units + 3 + D.room < cLine
    exact hu
  case hR =>
    intro s' L hm hS' g' hkp
    obtain ⟨h', g2, d', tk', os'⟩ := s'
    have eg : g2 = s.gens := hm.gens
    have ed : d' = s.drawn := hm.drawn
    have eo : os' = s.os := hm.os
    subst eg; subst ed; subst eo
    show wpAny _ _ _ _ _ _
    refine wpAny_pure ?_
    show wpAny _ _ (ret Value.none) _ _ _
    rw [hisz] at g'
    exact wpAny_pure ⟨rfl, h', tk', L, rfl, hS', g', hkp⟩

end
end NkS
end
section
set_option Elab.async false
set_option linter.all false
set_option maxRecDepth 100000
set_option maxHeartbeats 4000000
/-! The adder of ints and of texts: sets that are searched by a scan. -/
namespace NkS
open PySem PyProof.Rows L2
section
variable {P : Program} {w : World} {κ : Type} [DecidableEq κ] (knd : KeyKind P w κ)

abbrev rowS (p : Value × κ) : Int × Value := (knd.hash p.2, p.1)
structure ScanAt (h : Heap) (a : Addr) (L : List (Value × κ)) : Prop where
  ex : ∃ o es ep t, h.get? a = some o ∧ o.ExactSet ∧ o.data = .set es ep t ∧ es.toList.Perm (L.map (rowS knd)) ∧ es.size < scanBound ∧ t.fits es.size = true ∧ Ris t.place.toList ∧ (w.params.followText "set-order" = true ∨ t.led = true)
  good : ∀ p ∈ L, knd.is p.2 p.1 = true ∧ p.1.scannable = true
  nd : (L.map (·.2)).Nodup

variable {knd}
theorem ScanAt.elems {h : Heap} {a : Addr} {L : List (Value × κ)} (R : ScanAt knd h a L) {es : List (Int × Value)} (pm : es.Perm (L.map (rowS knd))) : ElemsOf knd es := fun e he => by
  obtain ⟨p, hp, rfl⟩ := List.mem_map.mp (pm.mem_iff.mp he)
  obtain ⟨g1, g2⟩ := R.good p hp
  exact ⟨⟨p.2, g1, rfl⟩, g2⟩

section
variable {A : Around} {E : Value → Shared → Prop} {s : Shared} {a : Addr} {L : List (Value × κ)}
/-- the tail of an adding: the entries are stored, and laid anew if the table has got too full -/
theorem scan_tail {g : Bool → Sem Unit} (hg : ∀ (b : Bool) (s₁ : Shared) (Q' : Unit → Shared → Prop), Q' () s₁ → wpAny (model P w) A (g b) Q' E s₁)
    {o : Obj} {es es1 : Array (Int × Value)} {ep : Nat} {t t2 : SetTable} (ho : s.heap.get? a = some o) (hex : o.ExactSet) (hd : o.data = .set es ep t)
    (pm : es1.toList.Perm (L.map (rowS knd))) (good : ∀ p ∈ L, knd.is p.2 p.1 = true ∧ p.1.scannable = true) (nd : (L.map (·.2)).Nodup) (hb : es1.size < scanBound) (hf : t2.fits es1.size = true) (hr : Ris t2.place.toList)
    (hl : w.params.followText "set-order" = true ∨ t2.led = true) {wasDummy : Bool} {R : Option Bool → Shared → Prop} (hR : ∀ h', Heap.SameBut a s.heap h' → ScanAt knd h' a L → R (some true) { s with heap := h' }) :
    wpAny (model P w) A (do
        storeSet a es1 t2
        if (!wasDummy && t2.tooFull) = true then do
            g (relayAll t2 es1 (SetTable.grown es1.size)).2.2
            storeSet a (relayAll t2 es1 (SetTable.grown es1.size)).1 (relayAll t2 es1 (SetTable.grown es1.size)).2.1
            pure (some true)
          else pure (some true)) R E s := by
  refine wpAny_bind (wpAny_storeSet_of ho hd ?_ (fits_of_scanBound hb))
  have ho1 := store_at (es' := es1) (t' := t2) ho hd
  have sb1 := Heap.SameBut.update s.heap a (Obj.putSet es1 t2)
  split
  · have p2 := relayAll_perm t2 es1 (SetTable.grown es1.size)
    have f2 := relayAll_fits t2 es1 (SetTable.grown es1.size)
    have r2 := relayAll_ris t2 es1 (SetTable.grown es1.size)
    have l2 := relayAll_led t2 es1 (SetTable.grown es1.size)
    generalize relayAll t2 es1 (SetTable.grown es1.size) = Z at p2 f2 r2 l2 ⊢
    obtain ⟨es2, t3, gave⟩ := Z
    dsimp only at p2 f2 r2 l2 ⊢
    have hb2 : es2.size < scanBound := by rw [← Array.length_toList, p2.length_eq, Array.length_toList]; exact hb
    refine wpAny_bind (hg _ _ _ (wpAny_bind (wpAny_storeSet_of ho1 rfl ?_ (fits_of_scanBound hb2))))
    have ho2 := store_at (es' := es2) (t' := t3) ho1 rfl
    exact wpAny_pure (hR _ (sb1.trans (Heap.SameBut.update _ a _)) ⟨⟨_, es2, _, t3, ho2, hex, rfl, p2.trans pm, hb2, f2, r2, hl.imp id fun z => by rw [l2]; exact z⟩, good, nd⟩)
  · exact wpAny_pure (hR _ sb1 ⟨⟨_, es1, _, t2, ho1, hex, rfl, pm, hb, hf, hr, hl⟩, good, nd⟩)

theorem scan_add {k : κ} {v : Value} {Q : Bool → Shared → Prop} (R : ScanAt knd s.heap a L) (hk : knd.is k v = true) (hv : v.scannable = true) (few : L.length + 1 < 64)
    (hQ : ∀ b h' L', Heap.SameBut a s.heap h' → ScanAt knd h' a L' → (k ∈ L.map (·.2) → L' = L) → (k ∉ L.map (·.2) → L'.Perm ((v, k) :: L)) → Q b { s with heap := h' }) :
    wpAny (model P w) A (setAddHashed a v (knd.hash k)) Q E s := by
  obtain ⟨o, es, ep, t, ho, hex, hd, pm, hb, hf, hr, hl⟩ := R.ex
  have hel : ElemsOf knd es.toList := R.elems pm
  have key : ∀ e ∈ es.toList, ∃ p ∈ L, e = rowS knd p := fun e he => by
    obtain ⟨p, hp, q⟩ := List.mem_map.mp (pm.mem_iff.mp he)
    exact ⟨p, hp, q.symm⟩
  unfold setAddHashed setAddHashedIn
  refine wpAny_holding (wpAny_bind (wpAny_setState_of ho hd hf ?_))
  dsimp only
  rw [byScan_of hv hb hel]
  simp only [↓reduceIte]
  unfold setAddByScan
  refine wpAny_bind ?_
  refine wpAny_bind (wpAny_rule ?_)
  refine wpAny_bind (wpAny_setScan_of hk ho hd hf hel ?_)
  cases hfi : List.findIdx? (fun e => knd.is k e.2) es.toList with
  | some j =>
    dsimp only
    obtain ⟨hj, pj, _⟩ := List.findIdx?_eq_some_iff_getElem.mp hfi
    obtain ⟨p, hp, q⟩ := key _ (List.getElem_mem hj)
    have hin : k ∈ L.map (·.2) := by
      rw [q] at pj
      exact List.mem_map.mpr ⟨p, hp, knd.inj _ _ _ (R.good p hp).1 pj⟩
    exact wpAny_pure (wpAny_pure (hQ false s.heap L (Heap.SameBut.refl a s.heap) R (fun _ => rfl) fun z => absurd hin z))
  | none =>
    dsimp only
    have hout : k ∉ L.map (·.2) := fun z => by
      obtain ⟨p, hp, e⟩ := List.mem_map.mp z
      have c := List.findIdx?_eq_none_iff.mp hfi (rowS knd p) (pm.mem_iff.mpr (List.mem_map.mpr ⟨p, hp, rfl⟩))
      have c2 : knd.is k p.1 = false := c
      rw [← e, (R.good p hp).1] at c2
      cases c2
    have hgw : ∀ (b : Bool) {s₁ : Shared} {Q' : Unit → Shared → Prop}, Q' () s₁ → wpAny (model P w) A (match b with | true => rule "set.scan.the-table-gave-way" | false => pure ()) Q' E s₁ :=
      fun b s₁ Q' q => by cases b <;> first | exact wpAny_pure q | exact wpAny_rule q
    have p1 := layNew_perm t es (knd.hash k) v
    have f1 := layNew_fits t es (knd.hash k) v
    have r1 := layNew_ris t es (knd.hash k) v hr
    have l1 := layNew_led t es (knd.hash k) v
    generalize layNew t es (knd.hash k) v = Z at p1 f1 r1 l1 ⊢
    obtain ⟨es1, t1, wasDummy, gave⟩ := Z
    dsimp only at p1 f1 r1 l1 ⊢
    rw [Array.toList_push] at p1
    have pc : es1.toList.Perm (((v, k) :: L).map (rowS knd)) := (p1.trans (List.perm_append_singleton _ _)).trans (pm.cons _)
    have good1 : ∀ p ∈ (v, k) :: L, knd.is p.2 p.1 = true ∧ p.1.scannable = true := fun p hp => by
      rcases List.mem_cons.mp hp with e | z
      · rw [e]; exact ⟨hk, hv⟩
      · exact R.good p z
    have nd1 : (((v, k) :: L).map (·.2)).Nodup := List.nodup_cons.mpr ⟨hout, R.nd⟩
    have hb1 : es1.size < scanBound := by
      have e := pc.length_eq
      rw [Array.length_toList, List.length_map, List.length_cons] at e
      rw [e]; unfold scanBound; omega
    have hled : w.params.followText "set-order" = true ∨ t1.led = true := hl.imp id fun z => by rw [l1]; exact z
    have fin : ∀ h', Heap.SameBut a s.heap h' → ScanAt knd h' a ((v, k) :: L) → Q true { s with heap := h' } := fun h' sb r => hQ true h' _ sb r (fun z => absurd z hout) fun _ => .refl _
    refine wpAny_bind (hgw _ ?_)
    split
    · refine wpAny_bind ?_
      rw [hashByValue_scannable 8 hv]
      refine wpAny_pure ?_
      refine scan_tail ?_ ho hex hd pc good1 nd1 hb1 ?_ ?_ ?_ ?_
      · intro b s₁ Q' q; cases b <;> first | exact wpAny_pure q | exact wpAny_rule q
      · first | (split <;> first | exact f1 | exact SetTable.fits_plain_off f1) | exact f1
      · first | (split <;> exact r1) | exact r1
      · first | (split <;> exact hled) | exact hled
      · intro h' sb r; dsimp only; exact wpAny_pure (fin h' sb r)
    · refine wpAny_bind (wpAny_pure ?_)
      simp only [↓reduceIte]
      refine scan_tail ?_ ho hex hd pc good1 nd1 hb1 f1 r1 hled ?_
      · intro b s₁ Q' q; cases b <;> first | exact wpAny_pure q | exact wpAny_rule q
      · intro h' sb r; dsimp only; exact wpAny_pure (fin h' sb r)
end

variable (knd)
/-- the adder -/
def scanAdder : Adder P w κ where
  Is := fun _ k v => knd.is k v = true ∧ v.scannable = true
  St := fun h a L => ScanAt knd h a L
  room := 0
  grow := fun h _ => h
  stay := fun {h h' a L} R k _ => by
    obtain ⟨⟨o, es, ep, t, ho, r⟩, g, nd⟩ := R
    exact ⟨⟨o, es, ep, t, k o ho, r⟩, g, nd⟩
  fresh := fun {h a} e => ⟨⟨_, #[], 0, _, e, ⟨rfl, rfl, rfl⟩, rfl, .nil, by decide, by rfl, List.Pairwise.nil, by
    show _ ∨ (!w.params.followText "set-order") = true
    cases w.params.followText "set-order"
    · exact .inr rfl
    · exact .inl rfl⟩, fun p h => (by cases h), List.nodup_nil⟩
  look := fun {h a L} R => by
    obtain ⟨⟨o, es, ep, t, ho, hx, hd, pm, hb, hf, hr, hl⟩, g, nd⟩ := R
    refine ⟨⟨o, es, ep, t, ho, hx, hd, ?_, hf, hb, hr, hl⟩, nd⟩
    have q := pm.map (·.2)
    rw [List.map_map] at q
    exact q
  add := fun {A E s a L k v Q} R hk hu few hQ => by
    unfold setAdd
    refine wpAny_holding (wpAny_bind (knd.pyHash hk.1 ?_))
    exact scan_add (s := { s with toks := s.toks + 1 }) R hk.1 hk.2 few fun b h' L' sb R' c1 c2 => hQ b h' _ L' (Nat.le_succ _) sb R' c1 c2
end
end NkS
end
section
set_option Elab.async false
set_option linter.all false
set_option maxRecDepth 100000
set_option maxHeartbeats 4000000
/-! The adder of tuples of texts, numbers and such tuples: sets that are searched slot by slot. -/
namespace NkS
open PySem PyProof.Rows L2
section
variable {P : Program} {w : World}

/-- a tuple of the heap that is a nested key -/
def TupIs (h : Heap) (k : NestedKey) (v : Value) : Prop := (∃ a, v = .ref a) ∧ NestedIs h k v ∧ k.depth ≤ 8
theorem TupIs.grow {h h' : Heap} {k : NestedKey} {v : Value} (x : TupIs h k v) (kp : ∀ c o, h.get? c = some o → h'.get? c = some o) : TupIs h' k v := ⟨x.1, NestedIs.at (fun a o _ _ e _ => kp a o e) k v x.2.1, x.2.2⟩
theorem TupIs.but {h h' : Heap} {k : NestedKey} {v : Value} {a : Addr} {o : Obj} {es : Array (Int × Value)} {ep : Nat} {t : SetTable} (x : TupIs h k v) (ho : h.get? a = some o) (hd : o.data = .set es ep t) (sb : Heap.SameBut a h h') : TupIs h' k v :=
  ⟨x.1, NestedIs.at (fun b ob vs n e d => (sb.2 b fun z => by
    rw [z, ho] at e
    cases e
    rw [hd] at d
    cases d).trans e) k v x.2.1, x.2.2⟩

/-! ### small questions that the search asks of such tuples -/
section
variable {A : Around} {E : Value → Shared → Prop} {s : Shared}
theorem nested_items {h : Heap} {n : Nat} : ∀ (ks : List NestedKey) (vs : List Value), NestedAll h ks vs → NestedKey.depthAll ks ≤ n → ∀ u ∈ vs, ∃ k, NestedIs h k u ∧ k.depth ≤ n
  | [], _, hk, _ => fun u hu => by
    cases hk
    cases hu
  | k :: ks, _, hk, hd => fun u hu => by
    cases hk with
    | cons h1 h2 =>
      rw [NestedKey.depthAll] at hd
      rcases List.mem_cons.mp hu with e | hu
      · rw [e]; exact ⟨k, h1, by omega⟩
      · exact nested_items ks _ h2 (by omega) u hu
/-- none of it is of a class of the program's own -/
theorem ofAClass_key : ∀ (n : Nat) (k : NestedKey) (v : Value) (Q : Bool → Shared → Prop), NestedIs s.heap k v → k.depth ≤ n → Q false s → wpAny (model P w) A (ofAClassStatement n v) Q E s := by
  intro n
  induction n with
  | zero =>
    intro k v Q hv hd h
    cases hv with
    | tup => rw [NestedKey.depth] at hd; omega
    | _ => exact wpAny_pure h
  | succ n ih =>
    intro k v Q hv hd h
    cases hv with
    | @tup a o vs m ks ho hc hdt hks =>
      rw [NestedKey.depth] at hd
      have hT : s.TypeIs (.ref a) "tuple" := ⟨o, ho, hc⟩
      unfold ofAClassStatement
      refine wpAny_bind (wpAny_typeOf hT ?_)
      dsimp only
      have e : (("tuple" : String) == "tuple") = true := by decide
      simp only [e, if_true, Bool.not_true, Bool.false_eq_true, if_false]
      try refine wpAny_bind (wpAny_pure ?_)
      try simp only [Bool.not_true, Bool.false_eq_true, if_false]
      show wpAny _ _ (seqItems? (.ref a) >>= _) _ _ s
      refine wpAny_bind (wpAny_seqItems ho hdt ?_)
      dsimp only
      refine wpAny_bind ?_
      show wpAny _ _ (forIn vs _ _) _ _ s
      rw [← Array.forIn_toList]
      refine wpAny_forIn_list _ (fun rest r s' => r.1 = none ∧ s = s' ∧ ∀ u ∈ rest, ∃ k', NestedIs s.heap k' u ∧ k'.depth ≤ n) _ ?_ ?_ _ _ ⟨rfl, rfl, nested_items ks _ hks (by omega)⟩
      · rintro u rest r s' ⟨hr, rfl, hall⟩
        obtain ⟨k', h1, h2⟩ := hall u List.mem_cons_self
        refine wpAny_bind (ih k' u _ h1 h2 ?_)
        simp only [Bool.false_eq_true, if_false]
        exact wpAny_pure ⟨rfl, rfl, fun x hx => hall x (List.mem_cons_of_mem _ hx)⟩
      · rintro ⟨r1, r2⟩ s' ⟨hr, rfl, _⟩
        simp only at hr
        subst hr
        exact wpAny_pure h
    | _ => exact wpAny_pure h
/-- whether its hash hangs on values alone: one or the other -/
theorem hashBy_key : ∀ (n : Nat) (k : NestedKey) (v : Value) (Q : Bool → Shared → Prop), NestedIs s.heap k v → (∀ b, Q b s) → wpAny (model P w) A (hashByValue n v) Q E s := by
  intro n
  induction n with
  | zero =>
    intro k v Q hv h
    cases hv <;> exact wpAny_pure (h _)
  | succ n ih =>
    intro k v Q hv h
    cases hv with
    | @tup a o vs m ks ho hc hdt hks =>
      have hT : s.TypeIs (.ref a) "tuple" := ⟨o, ho, hc⟩
      unfold hashByValue
      refine wpAny_bind (wpAny_specialOf hT F.slot_tuple_hash.lookup ?_)
      show wpAny _ _ (seqItems? (.ref a) >>= _) _ _ s
      refine wpAny_bind (wpAny_seqItems ho hdt ?_)
      refine wpAny_bind ?_
      show wpAny _ _ (forIn vs _ _) _ _ s
      rw [← Array.forIn_toList]
      refine wpAny_forIn_list _ (fun rest r s' => s = s' ∧ ∀ u ∈ rest, ∃ k', NestedIs s.heap k' u) _ ?_ ?_ _ _ ⟨rfl, fun u hu => (nested_items (n := NestedKey.depthAll ks) ks _ hks (Nat.le_refl _) u hu).imp fun _ z => z.1⟩
      · rintro u rest r s' ⟨rfl, hall⟩
        obtain ⟨k', h1⟩ := hall u List.mem_cons_self
        refine wpAny_bind (ih k' u _ h1 fun b => ?_)
        cases b with
        | true =>
          simp only [Bool.not_true, Bool.false_eq_true, if_false]
          exact wpAny_pure ⟨rfl, fun x hx => hall x (List.mem_cons_of_mem _ hx)⟩
        | false =>
          simp only [Bool.not_false, if_true]
          refine wpAny_pure ?_
          show wpAny _ _ (match (some false : Option Bool) with | some r => pure r | none => pure true) Q E s
          exact wpAny_pure (h _)
      · rintro ⟨r1, r2⟩ s' ⟨rfl, _⟩
        cases r1 with
        | none => exact wpAny_pure (h _)
        | some b => exact wpAny_pure (h _)
    | _ => exact wpAny_pure (h _)
/-- a search among them shows nothing -/
theorem seen_keys {k : NestedKey} {v : Value} {ys : List Value} {Q : Bool → Shared → Prop} (hk : TupIs s.heap k v) (hy : ∀ y ∈ ys, ∃ k', TupIs s.heap k' y) (h : Q false s) : wpAny (model P w) A (searchCouldBeSeen v ys) Q E s := by
  obtain ⟨⟨b, rfl⟩, hk1, hk2⟩ := hk
  unfold searchCouldBeSeen
  refine wpAny_bind ?_
  refine wpAny_forIn_list _ (fun rest r s' => r.1 = none ∧ s' = s ∧ ∀ y ∈ rest, ∃ k', TupIs s.heap k' y) _ ?_ ?_ _ _ ⟨rfl, rfl, hy⟩
  · rintro y rest r s' ⟨hr, rfl, hall⟩
    obtain ⟨k', ⟨c, rfl⟩, hc1, hc2⟩ := hall y List.mem_cons_self
    have tl : ∀ y ∈ rest, ∃ k', TupIs s'.heap k' y := fun u hu => hall u (List.mem_cons_of_mem _ hu)
    dsimp only
    by_cases hv : (b == c || (carriedByValue (.ref b) && carriedByValue (.ref c))) = true
    · exact wp_if_pos hv (wpAny_pure ⟨rfl, rfl, tl⟩)
    · refine wp_if_neg hv ?_
      refine wpAny_bind (quiet_key _ _ 8 _ hk1 hk2 _ _ _ ?_)
      simp only [Bool.not_true, Bool.false_eq_true, if_false]
      refine wpAny_bind (quiet_key _ _ 8 _ hc1 hc2 _ _ _ ?_)
      simp only [Bool.not_true, Bool.false_eq_true, if_false]
      refine wpAny_bind (ofAClass_key 8 _ _ _ hk1 hk2 ?_)
      simp only [Bool.false_eq_true, if_false]
      refine wpAny_bind (ofAClass_key 8 _ _ _ hc1 hc2 ?_)
      simp only [Bool.false_eq_true, if_false]
      exact wpAny_pure ⟨rfl, rfl, tl⟩
  · rintro ⟨r1, r2⟩ s' ⟨hr, rfl, _⟩
    simp only at hr
    subst hr
    exact wpAny_pure h
end
end
end NkS
end
section
set_option Elab.async false
set_option linter.all false
set_option maxRecDepth 100000
set_option maxHeartbeats 4000000
namespace NkS
open PySem PyProof.Rows L2
section
variable {P : Program} {w : World}

abbrev rowN (w : World) (p : Value × NestedKey) : Int × Value := (p.2.hash w, p.1)
abbrev hsN (w : World) (L : List (Value × NestedKey)) : List Int := L.map fun p => p.2.hash w
structure ProbeAt (w : World) (h : Heap) (a : Addr) (L : List (Value × NestedKey)) (es : Array (Int × Value)) (ep : Nat) (t : SetTable) : Prop where
  ob : ∃ o, h.get? a = some o ∧ o.ExactSet ∧ o.data = .set es ep t
  rows : es.toList = L.map (rowN w)
  tab : TabOk t (hsN w L)
  nd : (L.map (·.2)).Nodup
  tup : ∀ p ∈ L, TupIs h p.2 p.1
  led : w.params.followText "set-order" = true ∨ t.led = true
  room : L.length * 5 < t.mask * 3
  few : L.length < 64

section
variable {A : Around} {E : Value → Shared → Prop} {s : Shared} {a : Addr} {L : List (Value × NestedKey)} {es : Array (Int × Value)} {ep : Nat} {t : SetTable}
theorem ProbeAt.size {h : Heap} (R : ProbeAt w h a L es ep t) : es.size = L.length := by
  have q := congrArg List.length R.rows
  rw [Array.length_toList, List.length_map] at q
  exact q
theorem fits_of_tab {hs : List Int} {t : SetTable} {n m : Nat} (T : TabOk t hs) (hn : hs.length = n) (hm : n ≤ t.mask) : t.fits n = true := by
  have h1 := T.sz
  unfold SetTable.fits SetTable.fill
  rw [T.dm, Bool.and_eq_true, beq_iff_eq, decide_eq_true_eq]
  show t.place.size = n ∧ t.place.size + 0 ≤ t.mask
  omega
theorem ProbeAt.fits {h : Heap} (R : ProbeAt w h a L es ep t) : t.fits es.size = true := by
  have h3 := R.room
  rw [R.size]
  exact fits_of_tab (m := 0) R.tab (List.length_map _) (by omega)
theorem ProbeAt.entry {h : Heap} (R : ProbeAt w h a L es ep t) {i : Nat} {p : Value × NestedKey} (e : L[i]? = some p) : es[i]? = some (rowN w p) := by
  rw [← Array.getElem?_toList, R.rows, List.getElem?_map, e]
  rfl
theorem ProbeAt.there {h : Heap} (R : ProbeAt w h a L es ep t) {i j : Nat} (e : t.place.toList[i]? = some j) : ∃ p, L[i]? = some p ∧ p ∈ L := by
  have h1 : i < t.place.toList.length := (List.getElem?_eq_some_iff.mp e).1
  have h2 := R.tab.sz
  rw [List.length_map] at h2
  rw [Array.length_toList] at h1
  have hi : i < L.length := by omega
  exact ⟨L[i], List.getElem?_eq_getElem hi, List.getElem_mem hi⟩

/-- the n-th probe of the way of a hash -/
abbrev prb (t : SetTable) (h : Int) (n : Nat) : SetTable.Probe := nth t.mask (runAt t.mask (SetTable.bits h % (t.mask + 1)) (SetTable.bits h)) n
theorem prb_dummy (t : SetTable) (h : Int) : ∀ n, (prb t h n).dummy = none := by
  have key : ∀ (n : Nat) (p : SetTable.Probe), p.dummy = none → (nth t.mask p n).dummy = none := by
    intro n
    induction n with
    | zero => intro p h; exact h
    | succ n ih =>
      intro p h
      refine ih (adv t.mask p) ?_
      unfold adv
      split <;> exact h
  exact fun n => key n _ rfl
theorem prb_add (t : SetTable) (h : Int) (c q : Nat) : nth t.mask (prb t h c) q = prb t h (c + q) := (nth_add t.mask c _ q).symm

/-- THE SEARCH from the c-th probe on; the way's first empty slot is the K-th -/
theorem probe_from (R : ProbeAt w s.heap a L es ep t) {x : Value} {k : NestedKey} (hx : TupIs s.heap k x) (hu : A.units + 8 < cLine) {K : Nat} (hKf : K < 10 * SetTable.turns t.mask)
    (hK : way t.mask (k.hash w) K ∉ t.place.toList) (hKb : ∀ c, c < K → way t.mask (k.hash w) c ∈ t.place.toList) {Q : SetFound → Shared → Prop}
    (hin : k ∈ L.map (·.2) → Q (.there none) s) (hout : k ∉ L.map (·.2) → Q (.free (way t.mask (k.hash w) K) false) s) :
    ∀ (f c : Nat) (st : Option SetTable.Probe), st.getD (t.probeStart (k.hash w)) = prb t (k.hash w) c → c ≤ K → K - c < f →
      (∀ (i : Nat) p, L[i]? = some p → p.2 = k → ∃ c', c ≤ c' ∧ c' < K ∧ t.place.toList[i]? = some (way t.mask (k.hash w) c')) →
      wpAny (model P w) A (setSearchFrom a x (k.hash w) true f st) Q E s := by
  obtain ⟨o, ho, hex, hd⟩ := R.ob
  have hgw : ¬ t.gaveWay = true := by
    unfold SetTable.gaveWay
    rw [mask_odd R.tab.mok]
    decide
  have hashAt : ∀ (i : Nat) p, L[i]? = some p → (es[i]?.map (·.1)).getD 0 = p.2.hash w := fun i p hp => by
    rw [R.entry hp]; rfl
  intro f
  induction f with
  | zero => intro c st _ _ hf; exact absurd hf (Nat.not_lt_zero _)
  | succ f ih =>
    intro c st hst hc hf hre
    rw [setSearchFrom_succ]
    refine wpAny_bind (wpAny_setState_of ho hd R.fits ?_)
    dsimp only
    refine wp_if_neg hgw ?_
    try refine wpAny_bind (wpAny_pure ?_)
    have e1 : ∀ q, (nth t.mask (prb t (k.hash w) c) q).j = way t.mask (k.hash w) (c + q) := fun q => congrArg SetTable.Probe.j (prb_add t _ c q)
    rcases go_spec t R.tab.ris R.tab.dm (fun i => (es[i]?.map (·.1)).getD 0) (k.hash w) (10 * SetTable.turns t.mask) (K - c) _ (prb_dummy t (k.hash w) c) (by omega)
      (fun q hq => by rw [e1]; exact hKb (c + q) (by omega)) (by rw [e1, show c + (K - c) = K by omega]; exact hK) with ⟨q, i, hq, hi, hh, hno, hpr⟩ | ⟨hno, hpr⟩
    · rw [e1] at hi
      have hpr' : t.probe (fun i => (es[i]?.map (·.1)).getD 0) (k.hash w) (st.getD (t.probeStart (k.hash w))) = some (.candidate (way t.mask (k.hash w) (c + q)) i (prb t (k.hash w) (c + (q + 1)))) := by
        rw [hst, ← e1, ← prb_add]
        exact hpr
      rw [hpr']
      dsimp only
      obtain ⟨p, hp, hpm⟩ := R.there hi
      have body : wpAny (model P w) A (searchRest a x (k.hash w) true f es t (way t.mask (k.hash w) (c + q)) i (prb t (k.hash w) (c + (q + 1)))) Q E s := by
        unfold searchRest
        rw [R.entry hp]
        dsimp only
        refine wpAny_bind (wpAny_holding ?_)
        have hy := R.tup p hpm
        refine (eqAt_key p.2 k A s p.1 x hy.2.1 hx.2.1 (by have := hy.2.2; have := hx.2.2; omega)) _ _ _ _ ?_
        refine wpAny_bind (wpAny_setState_of ho hd R.fits ?_)
        dsimp only
        by_cases hkk : p.2 = k
        · refine wp_if_pos (by simp [hkk, NestedKey.beq_self]) ?_
          exact wpAny_pure (hin (List.mem_map.mpr ⟨p, hpm, hkk⟩))
        · have hb : NestedKey.beq p.2 k = false := by
            rw [← NestedKey.decide_eq]
            exact decide_eq_false hkk
          refine wp_if_neg (by simp [hb]) ?_
          try refine wpAny_bind (wpAny_pure ?_)
          rw [sameMem]
          dsimp only
          have hsl : t.slot (way t.mask (k.hash w) (c + q)) = .live i := slot_live R.tab.ris hi
          simp only [if_true, hsl, R.entry hp]
          obtain ⟨⟨b, hb'⟩, _⟩ := hy
          rw [hb']
          refine wpAny_bind (wpAny_isSame_ref_self (wpAny_bind (wpAny_pure ?_)))
          simp only [if_true]
          refine wp_if_neg (by simp [hb]) ?_
          refine ih (c + (q + 1)) _ rfl (by omega) (by omega) fun i0 p0 h0 hk0 => ?_
          obtain ⟨c', a1, a2, a3⟩ := hre i0 p0 h0 hk0
          refine ⟨c', ?_, a2, a3⟩
          rcases Nat.lt_or_ge c' (c + q) with z | z
          · exact (hno (c' - c) i0 (by omega) (by rw [e1, show c + (c' - c) = c' by omega]; exact a3) ((hashAt i0 p0 h0).trans (congrArg (NestedKey.hash w) hk0))).elim
          · rcases Nat.lt_or_ge (c + q) c' with y | y
            · omega
            · have ec : c' = c + q := Nat.le_antisymm y z
              rw [ec] at a3
              have s0 := slot_live R.tab.ris a3
              rw [hsl] at s0
              injection s0 with s0
              rw [← s0, hp] at h0
              exact (hkk ((congrArg Prod.snd (Option.some.inj h0)).trans hk0)).elim
      by_cases hl : t.led = true
      · refine wp_if_neg (by simp [hl]) ?_
        try refine wpAny_bind (wpAny_pure ?_)
        exact body
      · refine wp_if_pos (by simp [hl]) ?_
        refine wpAny_bind (seen_keys hx (fun y hy => ?_) ?_)
        · obtain ⟨e, he, ee⟩ := List.mem_map.mp hy
          have he1 : e ∈ es ∧ e.1 = k.hash w := by simpa using he
          have he2 : e ∈ es.toList := by simpa using he1.1
          rw [R.rows] at he2
          obtain ⟨p2, hp2, e2⟩ := List.mem_map.mp he2
          refine ⟨p2.2, ?_⟩
          rw [← ee, ← e2]
          exact R.tup p2 hp2
        · refine wp_if_neg (by decide) ?_
          try refine wpAny_bind (wpAny_pure ?_)
          exact body
    · have hpr' : t.probe (fun i => (es[i]?.map (·.1)).getD 0) (k.hash w) (st.getD (t.probeStart (k.hash w))) = some (.empty (way t.mask (k.hash w) K) none) := by
        have e2 : way t.mask (k.hash w) K = (nth t.mask (prb t (k.hash w) c) (K - c)).j := by rw [e1, show c + (K - c) = K by omega]
        rw [hst, e2]
        exact hpr
      rw [hpr']
      dsimp only
      refine wpAny_pure (hout fun hm => ?_)
      obtain ⟨p0, h0, hk0⟩ := List.mem_map.mp hm
      obtain ⟨i0, hi0, e0⟩ := List.getElem_of_mem h0
      have h00 : L[i0]? = some p0 := by rw [List.getElem?_eq_getElem hi0, e0]
      obtain ⟨c', a1, a2, a3⟩ := hre i0 p0 h00 hk0
      exact hno (c' - c) i0 (by omega) (by rw [e1, show c + (c' - c) = c' by omega]; exact a3) ((hashAt i0 p0 h00).trans (congrArg (NestedKey.hash w) hk0))

theorem probe_at (R : ProbeAt w s.heap a L es ep t) {x : Value} {k : NestedKey} (hx : TupIs s.heap k x) (hu : A.units + 8 < cLine) {Q : SetFound → Shared → Prop} (hin : k ∈ L.map (·.2) → Q (.there none) s)
    (hout : ∀ K, k ∉ L.map (·.2) → way t.mask (k.hash w) K ∉ t.place.toList → (∀ c, c < K → way t.mask (k.hash w) c ∈ t.place.toList) → Q (.free (way t.mask (k.hash w) K) false) s) :
    wpAny (model P w) A (setSearch a x (k.hash w) true) Q E s := by
  have hroom := R.room
  obtain ⟨K, hKf, hK, hKb⟩ := R.tab.first (by rw [List.length_map]; omega) (k.hash w)
  have hbig : K < 100000 := by
    have : 10 * SetTable.turns t.mask ≤ 1420 := by
      unfold SetTable.turns
      rcases R.tab.mok with e | e | e <;> omega
    omega
  unfold setSearch
  refine probe_from R hx hu hKf hK hKb hin (fun hn => hout K hn hK hKb) 100000 0 none rfl (Nat.zero_le _) (by omega) fun i p hp hk => ?_
  have hi : (hsN w L)[i]? = some (k.hash w) := by rw [List.getElem?_map, hp, ← hk]; rfl
  have hil : i < t.place.toList.length := by
    have h1 : i < L.length := (List.getElem?_eq_some_iff.mp hp).1
    have h2 := R.tab.sz
    rw [List.length_map] at h2
    rw [Array.length_toList]
    omega
  have hj := List.getElem?_eq_getElem hil
  obtain ⟨c, hc, e⟩ := R.tab.before hK hi hj
  exact ⟨c, Nat.zero_le _, hc, by rw [hj, e]⟩
end
end
end NkS
end
section
set_option Elab.async false
set_option linter.all false
set_option maxRecDepth 100000
set_option maxHeartbeats 4000000
namespace NkS
open PySem PyProof.Rows L2
section
variable {P : Program} {w : World}
section
variable {A : Around} {E : Value → Shared → Prop} {s : Shared} {a : Addr} {L : List (Value × NestedKey)} {es : Array (Int × Value)} {ep : Nat} {t : SetTable}
/-- entries picked out by a permutation of their places -/
theorem picked_rows (L : List (Value × NestedKey)) (es : Array (Int × Value)) (order : Array Nat) (hr : es.toList = L.map (rowN w)) (hp : order.toList.Perm (List.range L.length)) :
    ∃ L2, (order.filterMap (es[·]?)).toList = L2.map (rowN w) ∧ L2.Perm L ∧ hsN w L2 = order.toList.map fun i => (es.map (·.1)).getD i 0 := by
  have hsz : es.size = L.length := by
    have q := congrArg List.length hr
    rw [Array.length_toList, List.length_map] at q
    exact q
  have ent : ∀ i (h : i < L.length), es[i]? = some (rowN w L[i]) := fun i h => by
    rw [← Array.getElem?_toList, hr, List.getElem?_map, List.getElem?_eq_getElem h]; rfl
  have hsat : ∀ i (h : i < L.length), (es.map (·.1)).getD i 0 = L[i].2.hash w := fun i h => by
    have e5 : (es.map (·.1))[i]? = some (L[i].2.hash w) := by rw [Array.getElem?_map, ent i h]; rfl
    simp [Array.getD_eq_getD_getElem?, e5]
  have key : ∀ l : List Nat, (∀ i ∈ l, i < L.length) → l.filterMap (fun i => es[i]?) = (l.filterMap fun i => L[i]?).map (rowN w) ∧ hsN w (l.filterMap fun i => L[i]?) = l.map fun i => (es.map (·.1)).getD i 0 := by
    intro l
    induction l with
    | nil => intro _; exact ⟨rfl, rfl⟩
    | cons i l ih =>
      intro hl
      have hi := hl i List.mem_cons_self
      obtain ⟨e1, e2⟩ := ih fun j hj => hl j (List.mem_cons_of_mem _ hj)
      rw [List.filterMap_cons_some (ent i hi), List.filterMap_cons_some (List.getElem?_eq_getElem hi), e1]
      refine ⟨rfl, ?_⟩
      unfold hsN at e2 ⊢
      rw [List.map_cons, List.map_cons, e2, hsat i hi]
  obtain ⟨e1, e2⟩ := key order.toList fun i hi => List.mem_range.mp (hp.mem_iff.mp hi)
  have whole : (List.range L.length).filterMap (fun i => L[i]?) = L := by
    have part : ∀ n, n ≤ L.length → (List.range n).filterMap (fun i => L[i]?) = L.take n := by
      intro n
      induction n with
      | zero => intro _; rfl
      | succ n ih =>
        intro hn
        have hlt : n < L.length := hn
        rw [List.range_succ, List.filterMap_append, ih (Nat.le_of_lt hlt), List.take_succ, List.getElem?_eq_getElem hlt, List.filterMap_cons_some (List.getElem?_eq_getElem hlt)]
        rfl
    rw [part L.length (Nat.le_refl _), List.take_length]
  refine ⟨_, by first | (rw [Array.toList_filterMap]; exact e1) | simpa using e1, ?_, e2⟩
  have q := hp.filterMap fun i => L[i]?
  rw [whole] at q
  exact q

/-- the table laid anew -/
theorem probe_relay {o : Obj} (ho : s.heap.get? a = some o) (hex : o.ExactSet) (hd : o.data = .set es ep t) (rows : es.toList = L.map (rowN w)) (hsz : t.place.size = es.size) (hdm : t.dummies = #[]) (hfl : es.size ≤ t.mask)
    (nd : (L.map (·.2)).Nodup) (tup : ∀ p ∈ L, TupIs s.heap p.2 p.1) (ld : w.params.followText "set-order" = true ∨ t.led = true) (few : L.length < 64) {wanted M : Nat}
    (hw : SetTable.sizeAbove wanted - 1 = M) (hM : MaskOk M) (hw2 : SetTable.sizeAbove wanted ≤ 128) (hn : L.length * 5 < M * 3) {Q : Unit → Shared → Prop}
    (hQ : ∀ h' L' es' ep' t', Heap.SameBut a s.heap h' → ProbeAt w h' a L' es' ep' t' → L'.Perm L → Q () { s with heap := h' }) : wpAny (model P w) A (setRelay a wanted) Q E s := by
  have hsl : es.size = L.length := by
    have q := congrArg List.length rows
    rw [Array.length_toList, List.length_map] at q
    exact q
  have hfits : t.fits es.size = true := by
    unfold SetTable.fits SetTable.fill
    rw [hdm, Bool.and_eq_true, beq_iff_eq, decide_eq_true_eq]
    show t.place.size = es.size ∧ t.place.size + 0 ≤ t.mask
    omega
  obtain ⟨t', order, e, hp, T, em, el, _, _⟩ := relaid_ok t (hs := es.map (·.1)) (wanted := wanted) hw hM (by rw [Array.size_map, hsl]; omega)
  rw [Array.size_map, hsl] at hp
  obtain ⟨L2, r1, r2, r3⟩ := picked_rows L es order rows hp
  rw [← r3] at T
  have hs2 : (order.filterMap (es[·]?)).size = es.size := by
    have q := congrArg List.length r1
    rw [Array.length_toList, List.length_map, r2.length_eq] at q
    rw [q, hsl]
  rw [setRelay_eq]
  refine wpAny_bind (wpAny_setState_of ho hd hfits ?_)
  dsimp only
  refine wp_if_neg (by rw [sizeLine_eq]; omega) ?_
  try refine wpAny_bind (wpAny_pure ?_)
  rw [e]
  dsimp only
  refine wpAny_bind ?_
  refine wp_if_neg (by rw [hs2]; simp) ?_
  try refine wpAny_bind (wpAny_pure ?_)
  refine wpAny_pure ?_
  dsimp only
  refine wpAny_storeSet_of ho hd ?_ (by rw [hs2, hsl, sizeLine_eq]; omega)
  have sb : Heap.SameBut a s.heap (s.heap.update a (Obj.putSet (order.filterMap (es[·]?)) t')) := Heap.SameBut.update ..
  refine hQ _ L2 (order.filterMap (es[·]?)) (ep + 1) t' sb ⟨⟨_, store_at ho hd, ⟨hex.1, hex.2.1, hex.2.2⟩, rfl⟩, r1, T, (r2.map (·.2)).nodup_iff.mpr nd, fun p hpm => (tup p (r2.mem_iff.mp hpm)).but ho hd sb, by rw [el]; exact ld, by rw [r2.length_eq, em]; exact hn, by rw [r2.length_eq]; exact few⟩ r2

theorem mid_perm {α : Type} (L : List α) (p : Nat) (x : α) : (L.take p ++ x :: L.drop p).Perm (x :: L) := by
  have h : (L.take p ++ x :: L.drop p).Perm (x :: (L.take p ++ L.drop p)) := List.perm_middle
  rw [List.take_append_drop] at h
  exact h

/-- ADDING -/
theorem probe_add (R : ProbeAt w s.heap a L es ep t) {x : Value} {k : NestedKey} (hx : TupIs s.heap k x) (hu : A.units + 8 < cLine) (few : L.length + 1 < 64) {Q : Bool → Shared → Prop}
    (hQ : ∀ b h' L' es' ep' t', Heap.SameBut a s.heap h' → ProbeAt w h' a L' es' ep' t' → (k ∈ L.map (·.2) → L' = L) → (k ∉ L.map (·.2) → L'.Perm ((x, k) :: L)) → Q b { s with heap := h' }) :
    wpAny (model P w) A (setAddHashed a x (k.hash w)) Q E s := by
  obtain ⟨o, ho, hex, hd⟩ := R.ob
  have hsl := R.size
  have hroom := R.room
  obtain ⟨xa, hxa⟩ := hx.1
  unfold setAddHashed
  refine wpAny_holding ?_
  rw [show (100000 : Nat) = 99999 + 1 from rfl, setAddHashedIn_succ]
  refine wpAny_bind (wpAny_setState_of ho hd R.fits ?_)
  dsimp only
  refine wp_if_neg (by rw [hxa]; simp [byScan, Value.scannable]) ?_
  try refine wpAny_bind (wpAny_pure ?_)
  refine wpAny_bind (probe_at R hx hu (fun hm => ?_) fun K hm hK hb => ?_)
  · dsimp only
    exact wpAny_pure (hQ false s.heap L es ep t (Heap.SameBut.refl a s.heap) R (fun _ => rfl) fun z => absurd hm z)
  · dsimp only
    refine wpAny_bind (wpAny_setState_of ho hd R.fits ?_)
    dsimp only
    obtain ⟨q1, q2, q3, q4, q5, _, _, _, q9⟩ := R.tab.put hK hb
    generalize t.put (way t.mask (k.hash w) K) = pt at q1 q3 q4 q5 q9 ⊢
    obtain ⟨t1, p0⟩ := pt
    dsimp only at q1 q3 q4 q5 q9 ⊢
    subst q1
    have hin : (SetTable.insertAt es (SetTable.below t.place (way t.mask (k.hash w) K)) (k.hash w, x)).toList = (L.take (SetTable.below t.place (way t.mask (k.hash w) K)) ++ (x, k) :: L.drop (SetTable.below t.place (way t.mask (k.hash w) K))).map (rowN w) := by
      rw [SetTable.toList_insertAt, R.rows, List.map_append, List.map_cons, List.map_take, List.map_drop]
    generalize SetTable.below t.place (way t.mask (k.hash w) K) = p at q2 q3 hin ⊢
    have pm := mid_perm L p (x, k)
    have hlen : (L.take p ++ (x, k) :: L.drop p).length = L.length + 1 := pm.length_eq
    have hhs : hsN w (L.take p ++ (x, k) :: L.drop p) = (hsN w L).take p ++ k.hash w :: (hsN w L).drop p := by
      unfold hsN
      rw [List.map_append, List.map_cons, List.map_take, List.map_drop]
    rw [← hhs] at q3
    have nd1 : ((L.take p ++ (x, k) :: L.drop p).map (·.2)).Nodup := by
      refine (pm.map (·.2)).nodup_iff.mpr ?_
      rw [List.map_cons]
      exact List.nodup_cons.mpr ⟨hm, R.nd⟩
    have hes : (SetTable.insertAt es p (k.hash w, x)).size = L.length + 1 := by
      have q := congrArg List.length hin
      rw [Array.length_toList, List.length_map, hlen] at q
      exact q
    generalize SetTable.insertAt es p (k.hash w, x) = es1 at hin hes ⊢
    generalize L.take p ++ (x, k) :: L.drop p = L1 at pm hlen q3 nd1 hin
    have ld1 : w.params.followText "set-order" = true ∨ t1.led = true := by rw [q5]; exact R.led
    -- the table as it is, whether its hashes hang on values alone or not
    have rest : ∀ b : Bool, ∀ t2 : SetTable, t2 = (if b = true then t1 else { t1 with plain := false }) → wpAny (model P w) A (do
        storeSet a es1 t2
        if !false && t2.tooFull then setRelay a (SetTable.grown (es.size + 1))
        return true) Q E s := fun b t2 e2 => by
      have m2 : t2.mask = t.mask := by rw [e2, ← q4]; cases b <;> rfl
      have f2 : t2.fill = t1.fill := by rw [e2]; cases b <;> rfl
      have T2 : TabOk t2 (hsN w L1) := by
        rw [e2]
        cases b
        · exact ⟨q3.ris, q3.dm, q3.sz, q3.mok, q3.bd, q3.reach⟩
        · exact q3
      have l2 : w.params.followText "set-order" = true ∨ t2.led = true := by
        rw [e2]
        cases b <;> exact ld1
      refine wpAny_bind (wpAny_storeSet_of ho hd ?_ (by rw [hes, sizeLine_eq]; omega))
      have sb : Heap.SameBut a s.heap (s.heap.update a (Obj.putSet es1 t2)) := Heap.SameBut.update ..
      have ho1 := store_at (es' := es1) (t' := t2) ho hd
      generalize s.heap.update a (Obj.putSet es1 t2) = h1 at sb ho1 ⊢
      have tup1 : ∀ p ∈ L1, TupIs h1 p.2 p.1 := fun p hp => by
        rcases List.mem_cons.mp (pm.mem_iff.mp hp) with e | hp
        · rw [e]; exact hx.but ho hd sb
        · exact (R.tup p hp).but ho hd sb
      have full : t2.tooFull = decide ((L.length + 1) * 5 ≥ t.mask * 3) := by
        unfold SetTable.tooFull
        rw [f2, q9, m2, List.length_map]
      by_cases hf : t2.tooFull = true
      · first
          | (refine wpAny_bind ?_; refine wp_if_pos (by simp [hf]) ?_)
          | (refine wp_if_pos (by simp [hf]) ?_; refine wpAny_bind ?_)
        have hfull : (L.length + 1) * 5 ≥ t.mask * 3 := by
          rw [full, decide_eq_true_eq] at hf
          exact hf
        rw [hsl]
        have hsz1 : t2.place.size = es1.size := by
          have q := T2.sz
          rw [List.length_map, hlen] at q
          rw [q, hes]
        have go : ∀ M, SetTable.sizeAbove (SetTable.grown (L.length + 1)) - 1 = M → MaskOk M → SetTable.sizeAbove (SetTable.grown (L.length + 1)) ≤ 128 → (L.length + 1) * 5 < M * 3 → L.length + 1 ≤ t.mask →
            wpAny (model P w) A (setRelay a (SetTable.grown (L.length + 1))) (fun _ s' => wpAny (model P w) A (pure true) Q E s') E { s with heap := h1 } := fun M h1' h2' h3' h4' h5' => by
          refine probe_relay (s := { s with heap := h1 }) ho1 ⟨hex.1, hex.2.1, hex.2.2⟩ rfl hin hsz1 T2.dm (by rw [hes, m2]; exact h5') nd1 tup1 l2 (by rw [hlen]; exact few) h1' h2' h3' (by rw [hlen]; exact h4') ?_
          intro h2 L2 es2 ep2 t3 sb2 R2 pm2
          exact wpAny_pure (hQ true h2 L2 es2 ep2 t3 (sb.trans sb2) R2 (fun z => absurd z hm) fun _ => pm2.trans pm)
        rcases R.tab.mok with e | e | e
        · have e2 : L.length = 4 := by rw [e] at hfull hroom; omega
          exact go 31 (by rw [e2, size_20]) (.inr (.inl rfl)) (by rw [e2, size_20]; decide) (by omega) (by rw [e]; omega)
        · have e2 : L.length = 18 := by rw [e] at hfull hroom; omega
          exact go 127 (by rw [e2, size_76]) (.inr (.inr rfl)) (by rw [e2, size_76]; decide) (by omega) (by rw [e]; omega)
        · rw [e] at hfull; omega
      · have notfull : (L.length + 1) * 5 < t.mask * 3 := by
          rw [full, decide_eq_true_eq] at hf
          omega
        first
          | refine wp_if_neg (by simp [hf]) ?_
          | (refine wpAny_bind ?_; refine wp_if_neg (by simp [hf]) ?_; refine wpAny_pure ?_)
        exact wpAny_pure (hQ true h1 L1 es1 (ep + 1) t2 sb ⟨⟨_, ho1, ⟨hex.1, hex.2.1, hex.2.2⟩, rfl⟩, hin, T2, nd1, tup1, l2, by rw [hlen, m2]; exact notfull, by rw [hlen]; exact few⟩ (fun z => absurd z hm) fun _ => pm)
    first
      | (refine wpAny_bind ?_
         split
         · exact hashBy_key 8 k x _ hx.2.1 fun b => rest b _ rfl
         · exact wpAny_pure (rest true _ rfl))
      | (split
         · refine wpAny_bind (hashBy_key 8 k x _ hx.2.1 fun b => rest b _ rfl)
         · exact wpAny_bind (wpAny_pure (rest true _ rfl)))
end

theorem ProbeAt.at {h h' : Heap} {a : Addr} {L : List (Value × NestedKey)} {es : Array (Int × Value)} {ep : Nat} {t : SetTable} (R : ProbeAt w h a L es ep t) (k : ∀ o, h.get? a = some o → h'.get? a = some o) (ht : ∀ p ∈ L, TupIs h' p.2 p.1) : ProbeAt w h' a L es ep t := by
  obtain ⟨o, ho, r⟩ := R.ob
  exact ⟨⟨o, k o ho, r⟩, R.rows, R.tab, R.nd, ht, R.led, R.room, R.few⟩

/-- the adder of tuples -/
def tupAdder (P : Program) (w : World) : Adder P w NestedKey where
  Is := fun h k v => TupIs h k v
  St := fun h a L => ∃ es ep t, ProbeAt w h a L es ep t
  room := 8
  grow := fun x kp => x.grow kp
  stay := fun ⟨es, ep, t, R⟩ k ht => ⟨es, ep, t, R.at k ht⟩
  fresh := fun {h a} e => ⟨#[], 0, _, ⟨_, e, ⟨rfl, rfl, rfl⟩, rfl⟩, rfl, ⟨List.Pairwise.nil, rfl, rfl, .inl rfl, fun x hx => (by cases hx), fun i h j hi => (by simp at hi)⟩, List.nodup_nil, fun p hp => (by cases hp), by
    show _ ∨ (!w.params.followText "set-order") = true
    cases w.params.followText "set-order"
    · exact .inr rfl
    · exact .inl rfl, by show 0 * 5 < 7 * 3; decide, by show 0 < 64; decide⟩
  look := fun {h a L} ⟨es, ep, t, R⟩ => by
    obtain ⟨o, ho, hx, hd⟩ := R.ob
    refine ⟨⟨o, es, ep, t, ho, hx, hd, ?_, R.fits, ?_, R.tab.ris, R.led⟩, R.nd⟩
    · rw [R.rows, List.map_map]
      exact .refl _
    · have := R.size
      have := R.few
      unfold scanBound
      omega
  add := fun {A E s a L k v Q} ⟨es, ep, t, R⟩ hk hu few hQ => by
    unfold setAdd
    refine wpAny_holding (wpAny_bind (pyHash_key k v A s _ hk.2.1 (by have := hk.2.2; omega) ?_))
    exact probe_add (s := { s with toks := s.toks + k.draws }) R hk hu few fun b h' L' es' ep' t' sb R' c1 c2 => hQ b h' _ L' (Nat.le_add_right _ _) sb ⟨es', ep', t', R'⟩ c1 c2
end
end NkS
end
section
set_option Elab.async false
set_option linter.all false
set_option maxRecDepth 100000
set_option maxHeartbeats 4000000
/-! sorted(x) of data, x a list, a tuple or a set; len of a set -/
namespace NkS
open PySem PySem.W PySem.Calls PyProof.Rows L2
section
variable {P : Program} {w : World} {A : Around} {E : Value → Shared → Prop} {s : Shared} {β : Type}

/-- what is known once sorted has come back -/
structure OutOf (s : Shared) (R : Value → β → Prop) (le : β → β → Bool) (bs0 : List β) (p : Addr) (s' : Shared) : Prop where
  keep : ∀ b o, s.heap.get? b = some o → s'.heap.get? b = some o
  gens : s'.gens = s.gens
  os : s'.os = s.os
  new : s.heap.objs.size ≤ p
  out : ∃ (out : Array Value) (bs : List β) (c : Nat), s'.heap.get? p = some (seqObj "list" out c) ∧ bs.Perm bs0 ∧ EachIs R out.toList (bs.mergeSort le)

theorem sorted_of_collect {a : Addr} {R : Value → β → Prop} {enc : β → PyData} {bs0 : List β} {Q : Value → Shared → Prop}
    (hc : ∀ Q' : List Value → Shared → Prop, (∀ s1 vs bs, (∀ b o, s.heap.get? b = some o → s1.heap.get? b = some o) → s1.gens = s.gens → s1.os = s.os → s.heap.objs.size ≤ s1.heap.objs.size → bs.Perm bs0 → EachIs R vs bs → Q' vs s1) → wpAny (model P w) A.in1 (collect (.ref a)) Q' E s)
    (hr : ∀ v b, R v b → ∃ as, Reads s.heap v (enc b) as) (hal : AllAlike (bs0.map enc)) (hk : Sortable (bs0.map enc)) (hL : bs0.length ≤ sizeLine) (hu : ∀ b, b ∈ bs0 → A.units + 2 + (enc b).depth < cLine)
    (h : ∀ s' p, OutOf s R (dataLe false enc) bs0 p s' → Q (.ref p) s') : wpAny (model P w) A (call (.builtin "sorted") [.ref a]) Q E s := by
  refine Calls.call_function_entry kind_sorted plain_sorted entry_sorted (args_sorted1 _) ?_
  unfold Builtin.«sorted»
  refine wpAny_bind (m := checkCount "sorted" 1 1 _) (wpAny_pure ?_)
  refine wpAny_bind (hc _ fun s1 vs bs k1 g1 o1 z1 pm ev => ?_)
  have hlen : vs.length = bs0.length := ev.length.trans pm.length_eq
  refine wpAny_bind (wpAny_newList ?_ (by rw [hlen]; exact hL))
  have hoL : (s1.heap.push (seqObj "list" vs.toArray 0)).get? s1.heap.objs.size = some (seqObj "list" vs.toArray 0) := Heap.get?_push_size _ rfl
  have k2 : ∀ b o, s.heap.get? b = some o → (s1.heap.push (seqObj "list" vs.toArray 0)).get? b = some o := fun b o e => Heap.get?_push_of_some _ (k1 b o e)
  have mm : ∀ d, d ∈ bs.map enc → d ∈ bs0.map enc := fun d hd => (pm.map enc).mem_iff.mp hd
  have gone : s.heap.get? s1.heap.objs.size = none := by
    cases q : s.heap.get? s1.heap.objs.size with
    | none => rfl
    | some o => exact absurd (Nat.lt_of_lt_of_le (Heap.lt_size q) z1) (Nat.lt_irrefl _)
  have er : EachIs (fun v b => ∃ as, Reads (s1.heap.push (seqObj "list" vs.toArray 0)) v (enc b) as ∧ s1.heap.objs.size ∉ as) vs bs := ev.mono fun v b r => by
    obtain ⟨as, q⟩ := hr v b r
    refine ⟨as, PyProof.Rows.Reads.keeps k2 q, fun z => ?_⟩
    obtain ⟨o, e⟩ := PyProof.On.reads_mem_get q _ z
    rw [gone] at e
    cases e
  refine wpAny_bind (wpAny_holding (list_sort_data (s := { s1 with heap := s1.heap.push (seqObj "list" vs.toArray 0) }) hoL ev er (fun d hd d' hd' => hal d (mm d hd) d' (mm d' hd')) ?_ (by rw [pm.length_eq]; exact hL) (fun b hb => ?_) fun out _ eo => ?_))
  · rcases hk with hk | hk
    · exact .inl fun d hd => hk d (mm d hd)
    · exact .inr fun d hd => hk d (mm d hd)
  · have := hu b (pm.mem_iff.mp hb)
    show A.units + 1 + 1 + (enc b).depth < cLine
    omega
  · obtain ⟨c, hc'⟩ := sortedHeap_at (vs := vs) (out := out.toArray) hoL
    refine wpAny_pure ⟨_, rfl, h _ s1.heap.objs.size ⟨fun b o e => ?_, g1, o1, z1, ?_⟩⟩
    · have hlt := Heap.lt_size (k1 b o e)
      show (sortedHeap (s1.heap.push (seqObj "list" vs.toArray 0)) s1.heap.objs.size vs out.toArray).get? b = some o
      rw [sortedHeap_old (Nat.ne_of_lt hlt) (by rw [size_push']; exact Nat.lt_succ_of_lt hlt)]
      exact k2 b o e
    · exact ⟨out.toArray, bs, c, hc', pm, by simpa using eo⟩

/-- the items of a list or a tuple, collected: the heap told to the object -/
theorem collect_told {a : Addr} {T : String} {o : Obj} {items : Array Value} {n : Nat} {Q : List Value → Shared → Prop} (hT : T = "list" ∨ T = "tuple") (ho : s.heap.get? a = some o) (hc : o.cls = .type T) (hd : o.data = .seq items n) (hsz : items.size ≤ sizeLine)
    (hQ : ∀ h', (∀ b o', s.heap.get? b = some o' → h'.get? b = some o') → s.heap.objs.size ≤ h'.objs.size → Q items.toList { s with heap := h' }) : wpAny (model P w) A (collect (.ref a)) Q E s := by
  unfold collect
  refine wpAny_bind (wpAny_runValue (codeAny_builtin F.entry_proto_collect ?_))
  rw [Around.under_plainId F.plain_proto_collect _]
  show wpAny _ A.in1 (newList [] >>= fun l => again (.builtin "list.__iadd__" ⟨[l, .ref a], []⟩)) _ _ s
  refine wpAny_bind (wpAny_newObj_type ?_)
  refine wpAny_pure ⟨plainId_quiet F.plain_list_iadd _, codeAny_builtin F.entry_list_iadd ?_⟩
  rw [Around.under_plainId F.plain_list_iadd _]
  show wpAny _ A.in1 (Builtin.List.listExtendWith (.ref s.heap.objs.size) (.ref a) (.ref s.heap.objs.size)) _ _ _
  have nw : (s.heap.push { cls := .type "list", data := .seq ([] : List Value).toArray }).get? s.heap.objs.size = some { cls := .type "list", data := .seq #[] 0 } := Heap.get?_push_size _ rfl
  have nw2 := Heap.get?_update_self (Obj.mapSeq (· ++ items)) nw rfl
  refine wpAny_mono (wpAny_extend_seq (hsz := hsz) (A := A) (R := fun r s' => r = .ok (.ret (.ref s.heap.objs.size)) ∧ s' = { s with heap := (s.heap.push { cls := .type "list", data := .seq ([] : List Value).toArray }).update s.heap.objs.size (Obj.mapSeq (· ++ items)) })
    s.heap.objs.size a (.ref s.heap.objs.size) 0 hT nw (Heap.get?_push_of_some _ ho) hc hd ⟨rfl, rfl⟩) (fun fin s' z => ?_) (fun e s' z => ?_)
  · cases fin with
    | done f =>
      obtain ⟨e1, e2⟩ := z
      injection e1 with e1
      subst e1 e2
      show wpAny (model P w) A (load s.heap.objs.size >>= _) _ _ _
      refine wpAny_bind (wpAny_load nw2 ?_)
      have e : ((#[] : Array Value) ++ items).toList = items.toList := by simp
      refine wpAny_pure ?_
      show Q ((#[] : Array Value) ++ items).toList _
      rw [e]
      refine hQ _ (fun b o' hb => (Heap.get?_update_other _ _ (Nat.ne_of_gt (Heap.lt_size hb))).trans (Heap.get?_push_of_some _ hb)) ?_
      rw [Heap.size_update, Heap.size_push]
      exact Nat.le_succ _
    | again c =>
      obtain ⟨z1, z2⟩ := z
      refine ⟨z1, ?_⟩
      refine codeAny_mono z2 fun r s' z => ?_
      obtain ⟨e1, e2⟩ := z
      subst e1 e2
      show wpAny (model P w) A (load s.heap.objs.size >>= _) _ _ _
      refine wpAny_bind (wpAny_load nw2 ?_)
      have e : ((#[] : Array Value) ++ items).toList = items.toList := by simp
      refine wpAny_pure ?_
      show Q ((#[] : Array Value) ++ items).toList _
      rw [e]
      refine hQ _ (fun b o' hb => (Heap.get?_update_other _ _ (Nat.ne_of_gt (Heap.lt_size hb))).trans (Heap.get?_push_of_some _ hb)) ?_
      rw [Heap.size_update, Heap.size_push]
      exact Nat.le_succ _
  · obtain ⟨e1, _⟩ := z
    cases e1

theorem sorted_seq_data {a : Addr} {T : String} {o : Obj} {items : Array Value} {n : Nat} (hT : T = "list" ∨ T = "tuple") (ho : s.heap.get? a = some o) (hcl : o.cls = .type T) (hd : o.data = .seq items n) {R : Value → β → Prop} {enc : β → PyData} {bs0 : List β}
    {Q : Value → Shared → Prop} (e : EachIs R items.toList bs0) (hr : ∀ v b, R v b → ∃ as, Reads s.heap v (enc b) as) (hal : AllAlike (bs0.map enc)) (hk : Sortable (bs0.map enc)) (hL : bs0.length ≤ sizeLine) (hu : ∀ b, b ∈ bs0 → A.units + 2 + (enc b).depth < cLine)
    (h : ∀ s' p, OutOf s R (dataLe false enc) bs0 p s' → Q (.ref p) s') : wpAny (model P w) A (call (.builtin "sorted") [.ref a]) Q E s := by
  refine sorted_of_collect (fun Q' hq => ?_) hr hal hk hL hu h
  exact collect_told hT ho hcl hd (by rw [← Array.length_toList, e.length]; exact hL) fun h' kp z => hq _ _ bs0 kp rfl rfl z (.refl _) e

theorem sorted_set_data {a : Addr} {κ : Type} {L : List (Value × κ)} (R0 : SetC w s.heap a L) (hh : A.handled = none) {R : Value → β → Prop} {enc : β → PyData} {bs0 : List β} {Q : Value → Shared → Prop} (e : EachIs R (L.map (·.1)) bs0)
    (hr : ∀ v b, R v b → ∃ as, Reads s.heap v (enc b) as) (hal : AllAlike (bs0.map enc)) (hk : Sortable (bs0.map enc)) (hL : bs0.length ≤ sizeLine) (hu : ∀ b, b ∈ bs0 → A.units + 2 + (enc b).depth < cLine)
    (h : ∀ s' p, OutOf s R (dataLe false enc) bs0 p s' → Q (.ref p) s') : wpAny (model P w) A (call (.builtin "sorted") [.ref a]) Q E s := by
  obtain ⟨⟨o, es, ep, t, ho, hc, hd, pm, hf, hb, ris, led⟩, _⟩ := R0
  refine sorted_of_collect (fun Q' hq => ?_) hr hal hk hL hu h
  refine collect_set (A := A.in1) hh ⟨o, ho, hc.1, hd⟩ hf hb ris led fun s1 vs k1 hz g1 o1 pm1 => ?_
  obtain ⟨bs, pb, eb⟩ : ∃ bs : List β, bs.Perm bs0 ∧ EachIs R vs bs := by
    have key : ∀ (xs ys : List Value), xs.Perm ys → ∀ bs0 : List β, EachIs R xs bs0 → ∃ bs : List β, bs.Perm bs0 ∧ EachIs R ys bs := by
      intro xs ys hp
      induction hp with
      | nil => intro bs0 e; cases e; exact ⟨[], .refl _, .nil⟩
      | cons x _ ih =>
        intro bs0 e
        cases e with
        | cons r t =>
          obtain ⟨bs, p, q⟩ := ih _ t
          exact ⟨_ :: bs, p.cons _, .cons r q⟩
      | swap x y l =>
        intro bs0 e
        cases e with
        | cons r t =>
          cases t with
          | cons r2 t2 => exact ⟨_, .swap _ _ _, .cons r2 (.cons r t2)⟩
      | trans _ _ ih1 ih2 =>
        intro bs0 e
        obtain ⟨b1, p1, q1⟩ := ih1 _ e
        obtain ⟨b2, p2, q2⟩ := ih2 _ q1
        exact ⟨b2, p2.trans p1, q2⟩
    exact key _ _ ((pm1.trans pm).symm) _ e
  exact hq s1 vs bs k1 g1 o1 hz pb eb
end
end NkS
end
section
set_option Elab.async false
set_option linter.all false
set_option maxRecDepth 100000
set_option maxHeartbeats 4000000
/-! The reading of set(x), sorted(x), len(a set) -/
namespace NkS
open PySem PySem.Spec PyProof.Rows L2

/-- a set as a reader sees it: M its members with their keys -/
def SetMO (w : World) {κ : Type} (a : Addr) (M : List (V × κ)) : HO :=
  .ext fun h => ∃ L : List (Value × κ), SetC w h a L ∧ Paired (fun (m : V × κ) (p : Value × κ) => RelV m.1 p.1 ∧ m.2 = p.2) M L
theorem setMO_ok {P : Program} {w : World} {κ : Type} {H : Hp} {h : Heap} {a : Addr} {M : List (V × κ)} {L : List (Value × κ)} (R : SetC w h a L) (r : Paired (fun (m : V × κ) (p : Value × κ) => RelV m.1 p.1 ∧ m.2 = p.2) M L) : ObjOk P w H h a (SetMO w a M) := by
  obtain ⟨o, es, ep, t, ho, _⟩ := R.ex
  exact ⟨⟨L, R, r⟩, ⟨o, ho⟩, fun h1 h2 ⟨L1, R1, r1⟩ k => ⟨L1, R1.at k, r1⟩⟩

/-- keyed values as the reader has them -/
structure VAdder (X : Cx) (κ : Type) [DecidableEq κ] where
  D : Adder X.prog X.w κ
  vis : V → κ → Hp → Prop
  conv : ∀ {pins : List (Addr × Obj)} {σ : L2.St} {H : Hp} {s : Shared} {v : V} {k : κ} {u : Value}, Inv X pins σ H s → vis v k H → RelV v u → D.Is s.heap k u

theorem paired_zip {α β γ : Type} {F : α → γ → Prop} : ∀ {vs : List α} {ks : List β} {us : List γ}, Paired F vs us → vs.length = ks.length → Paired (fun (m : α × β) (p : γ × β) => F m.1 p.1 ∧ m.2 = p.2) (vs.zip ks) (us.zip ks)
  | _, [], _, .nil, _ => .nil
  | _, k :: ks, _, .cons r t, h => .cons ⟨r, rfl⟩ (paired_zip t (by simpa using h))
theorem paired_pick {α β : Type} {F : α → β → Prop} {xs : List α} {ys : List β} (r : Paired F xs ys) : ∀ {y : β}, y ∈ ys → ∃ x ∈ xs, F x y := by
  intro y hy
  induction r with
  | nil => cases hy
  | cons r t ih =>
    rcases List.mem_cons.mp hy with e | h
    · subst e; exact ⟨_, List.mem_cons_self, r⟩
    · obtain ⟨x, hx, q⟩ := ih h
      exact ⟨x, List.mem_cons_of_mem _ hx, q⟩
theorem paired_list {α β : Type} {F : α → β → Prop} {C : α → Prop} : ∀ {ys : List β}, (∀ y ∈ ys, ∃ x, C x ∧ F x y) → ∃ xs : List α, Paired F xs ys ∧ ∀ x ∈ xs, C x
  | [], _ => ⟨[], .nil, fun x h => (by cases h)⟩
  | y :: ys, h => by
    obtain ⟨x, cx, fx⟩ := h y List.mem_cons_self
    obtain ⟨xs, r, c⟩ := paired_list fun z hz => h z (List.mem_cons_of_mem _ hz)
    exact ⟨x :: xs, .cons fx r, fun z hz => by
      rcases List.mem_cons.mp hz with e | q
      · rw [e]; exact cx
      · exact c z q⟩
theorem paired_each {α β : Type} {F : α → β → Prop} : ∀ {xs : List α} {ys : List β}, Paired F xs ys → PySem.W.EachIs F xs ys
  | _, _, .nil => .nil
  | _, _, .cons r t => .cons r (paired_each t)
theorem each_paired {α β : Type} {F : α → β → Prop} : ∀ {xs : List α} {ys : List β}, PySem.W.EachIs F xs ys → Paired F xs ys
  | _, _, .nil => .nil
  | _, _, .cons r t => .cons r (each_paired t)
theorem paired_map2 {α β γ δ : Type} {F : α → β → Prop} {G : γ → δ → Prop} {f : α → γ} {g : β → δ} (h : ∀ a b, F a b → G (f a) (g b)) : ∀ {xs : List α} {ys : List β}, Paired F xs ys → Paired G (xs.map f) (ys.map g)
  | _, _, .nil => .nil
  | _, _, .cons r t => .cons (h _ _ r) (paired_map2 h t)
theorem paired_flip {α β : Type} {F : α → β → Prop} : ∀ {xs : List α} {ys : List β}, Paired F xs ys → Paired (fun b a => F a b) ys xs
  | _, _, .nil => .nil
  | _, _, .cons r t => .cons r (paired_flip t)

section
variable {X : Cx} {κ : Type} [DecidableEq κ]

/-- set(x), x a list or a tuple -/
def rSet (K : PySem.W.Frag) (w : World) (vis : V → κ → Hp → Prop) : List V → Hp → VK → Prop := fun xs H Q => ∃ (l : Addr) (vs : List V) (ks : List κ), xs = [V.ref l] ∧ (SqL K H l vs ∨ SqT K H l vs) ∧ Paired (fun v k => vis v k H) vs ks ∧ ks.length < 64 ∧
  ∀ (a : Addr) (M : List (V × κ)), H a = none → (∀ m ∈ M, m ∈ vs.zip ks) → (∀ k ∈ ks, k ∈ M.map (·.2)) → (M.map (·.2)).Nodup → Q (.ref a) (upd H a (SetMO w a M))
theorem cr_set (D : VAdder X κ) (hc : X.calm = true) (hu : X.A.units + 3 + D.D.room < cLine) : CallR X (.type "set") (rSet X.K X.w D.vis) := by
  intro pins s σ H xs us Q I r h
  obtain ⟨l, vs, ks, rfl, hl, hk, hf, q⟩ := h
  rw [Vals.ref1 r]
  have hlen : vs.length = ks.length := Paired.length hk
  -- the raw list
  have raw : ∀ its : List Value, Vals vs its → (its.zip ks).map (·.1) = its ∧ (its.zip ks).length = ks.length ∧ ∀ p ∈ its.zip ks, D.D.Is s.heap p.2 p.1 := fun its rv => by
    have hl2 : its.length = ks.length := by rw [← rv.length]; exact hlen
    refine ⟨List.map_fst_zip (Nat.le_of_eq hl2), by rw [List.length_zip, hl2, Nat.min_self], fun p hp => ?_⟩
    obtain ⟨i, hi, e⟩ := List.getElem_of_mem hp
    have z : (its.zip ks)[i]? = some p := by rw [List.getElem?_eq_getElem hi, e]
    rw [List.getElem?_zip_eq_some] at z
    obtain ⟨z1, z2⟩ := z
    have hiv : i < vs.length := by
      have := (List.getElem?_eq_some_iff.mp z1).1
      rw [rv.length]; exact this
    obtain ⟨u, hu1, hu2⟩ := rv.get (List.getElem?_eq_getElem hiv)
    rw [z1] at hu1
    cases hu1
    have hv : ∃ k, ks[i]? = some k ∧ D.vis vs[i] k H := by
      have key : ∀ {vs : List V} {ks : List κ}, Paired (fun v k => D.vis v k H) vs ks → ∀ (i : Nat) (v : V), vs[i]? = some v → ∃ k, ks[i]? = some k ∧ D.vis v k H := by
        intro vs ks r
        induction r with
        | nil => intro i v e; simp at e
        | cons r t ih =>
          intro i v e
          cases i with
          | zero => simp at e; subst e; exact ⟨_, rfl, r⟩
          | succ i => exact ih i v (by simpa using e)
      exact key hk i _ (List.getElem?_eq_getElem hiv)
    obtain ⟨k, e1, e2⟩ := hv
    rw [z2] at e1
    cases e1
    exact D.conv I e2 hu2
  have fin : ∀ its : List Value, Vals vs its → ∀ s2, Filled D.D s (its.zip ks) s2 → EP X pins σ Q (.ref s.heap.objs.size) s2 := fun its rv s2 ⟨h', tk, L, e, hS, g, kp⟩ => by
    subst e
    have hn : H s.heap.objs.size = none := I.hok.fresh (Nat.le_refl _)
    have pz := paired_zip (ks := ks) rv hlen
    have g1 : ∀ p ∈ L, p ∈ its.zip ks := fun p hp => List.mem_of_mem_take (g.sub p hp)
    have g2 : ∀ p ∈ its.zip ks, p.2 ∈ L.map (·.2) := fun p hp => g.all p (by rw [List.take_length]; exact hp)
    obtain ⟨M, rM, cM⟩ := paired_list (F := fun (m : V × κ) (p : Value × κ) => RelV m.1 p.1 ∧ m.2 = p.2) (C := fun m => m ∈ vs.zip ks) (ys := L) fun p hp => paired_pick pz (g1 p hp)
    have e2 : M.map (·.2) = L.map (·.2) := by
      have key : ∀ {M : List (V × κ)} {L : List (Value × κ)}, Paired (fun (m : V × κ) (p : Value × κ) => RelV m.1 p.1 ∧ m.2 = p.2) M L → M.map (·.2) = L.map (·.2) := by
        intro M L r
        induction r with
        | nil => rfl
        | cons r t ih => rw [List.map_cons, List.map_cons, ih, r.2]
      exact key rM
    have R := D.D.look hS
    refine ⟨.ref s.heap.objs.size, _, I.laid (t' := tk) (o := SetMO X.w s.heap.objs.size M) kp (Nat.le_refl _) (setMO_ok R rM), rfl, q _ M hn cM (fun k hk' => ?_) (by rw [e2]; exact R.nd)⟩
    rw [e2]
    obtain ⟨i, hi, e⟩ := List.getElem_of_mem hk'
    have hil : i < its.length := by rw [← rv.length, hlen]; exact hi
    exact g2 (its[i], k) (List.mem_of_getElem? (i := i) (by rw [List.getElem?_zip_eq_some]; exact ⟨List.getElem?_eq_getElem hil, by rw [List.getElem?_eq_getElem hi, e]⟩))
  rcases hl with hl | hl
  · obtain ⟨its, rv, pl, hz⟩ := I.list hl
    obtain ⟨r1, r2, r3⟩ := raw its rv
    exact set_of_init D.D (ks := its.zip ks) (init_list D.D (I.ok.hd hc) pl.isList (by rw [r1]) r3 (by rw [r2]; exact hf) hu) (fin its rv)
  · obtain ⟨its, rv, pl, hz⟩ := I.tuple hl
    obtain ⟨r1, r2, r3⟩ := raw its rv
    obtain ⟨o, ho, hc', n, hd⟩ := pl
    exact set_of_init D.D (ks := its.zip ks) (init_tuple D.D (I.ok.hd hc) ⟨o, ho, hc', n, hd⟩ (by rw [r1]) r3 (by rw [r2]; exact hf) hu) (fin its rv)

/-- len(a set) -/
def rLenSet (w : World) : List V → Hp → VK → Prop := fun xs H Q => ∃ (a : Addr) (κ : Type) (M : List (V × κ)), xs = [V.ref a] ∧ H a = some (SetMO w a M) ∧ Q (.int M.length) H
theorem cr_lenSet : CallR X (.builtin "len") (rLenSet X.w) := by
  intro pins s σ H xs us Q I r h
  obtain ⟨a, κ, M, rfl, ha, q⟩ := h
  rw [Vals.ref1 r]
  obtain ⟨⟨L, ⟨⟨o, es, ep, t, ho, hc, hd, pm, hf, hb, ris, led⟩, nd⟩, rM⟩, _⟩ := I.hok a _ ha
  have e : es.size = M.length := by
    have e1 := pm.length_eq
    rw [List.length_map, Array.length_toList, List.length_map] at e1
    rw [e1, Paired.length rM]
  refine call_len_set ho hc hd hf (by unfold scanBound at hb; omega) ?_
  rw [e]
  exact ⟨.int M.length, H, I.tok _, ⟨_, rfl⟩, q⟩

end
end NkS
end
section
set_option Elab.async false
set_option linter.all false
set_option maxRecDepth 100000
set_option maxHeartbeats 4000000
namespace NkS
open PySem PySem.Spec PyProof.Rows L2
section
variable {X : Cx}
/-! ### the three kinds of members -/
def intAdder (X : Cx) : VAdder X Int where
  D := scanAdder (intKind X.prog X.w)
  vis := fun v k _ => v = .int k
  conv := fun {pins σ H s v k u} _ h r => by
    subst h
    obtain ⟨t, rfl⟩ := r
    exact ⟨intKind_is _ _ _ _, rfl⟩
def strAdder (X : Cx) : VAdder X Str where
  D := scanAdder (strKind X.prog X.w)
  vis := fun v k _ => v = .str k
  conv := fun {pins σ H s v k u} _ h r => by
    subst h
    obtain ⟨t, rfl⟩ := r
    exact ⟨strKind_is _ _ _ _, rfl⟩
mutual
theorem nested_of {h : Heap} : ∀ (k : NestedKey) (v : Value) (as : List Addr), Reads h v k.data as → NestedIs h k v
  | .none, _, _, r => by
    rw [NestedKey.data] at r
    cases r
    exact .none
  | .num i, _, _, r => by
    rw [NestedKey.data] at r
    cases r
    exact .int i _
  | .text x, _, _, r => by
    rw [NestedKey.data] at r
    cases r
    exact .text x _
  | .tup ks, _, _, r => by
    rw [NestedKey.data] at r
    cases r with
    | tuple h1 h2 h3 h4 => exact .tup h1 h2 h3 (nested_of_all ks _ _ h4)
theorem nested_of_all {h : Heap} : ∀ (ks : List NestedKey) (vs : List Value) (as : List Addr), ReadsAll h vs (NestedKey.datas ks) as → NestedAll h ks vs
  | [], _, _, r => by
    rw [NestedKey.datas] at r
    cases r
    exact .nil
  | k :: ks, _, _, r => by
    rw [NestedKey.datas] at r
    cases r with
    | cons r1 r2 => exact .cons (nested_of k _ _ r1) (nested_of_all ks _ _ r2)
end
def nestAdder (X : Cx) : VAdder X NestedKey where
  D := tupAdder X.prog X.w
  vis := fun v k H => (∃ a, v = .ref a) ∧ Dp X.K H v k.data ∧ k.depth ≤ 8
  conv := fun {pins σ H s v k u} I h r => by
    obtain ⟨⟨a, rfl⟩, hd, h8⟩ := h
    obtain ⟨as, q⟩ := Dp.reads I _ _ _ hd r
    cases r
    exact ⟨⟨a, rfl⟩, nested_of _ _ _ q, h8⟩

/-! ### sorted -/
/-- the same, ascending -/
structure Sorted {κ : Type} (enc : κ → PyData) (M M' : List (V × κ)) : Prop where
  perm : M'.Perm M
  asc : M'.Pairwise fun m n => PySem.W.dataLe false enc m.2 n.2 = true
/-- what is to be sorted: a list, a tuple, a set of M's values -/
def Src {κ : Type} (K : PySem.W.Frag) (w : World) (H : Hp) (a : Addr) (M : List (V × κ)) : Prop := SqL K H a (M.map (·.1)) ∨ SqT K H a (M.map (·.1)) ∨ H a = some (SetMO w a M)
def rSort (K : PySem.W.Frag) (w : World) {κ : Type} (enc : κ → PyData) : List V → Hp → VK → Prop := fun vs H Q => ∃ (a : Addr) (M : List (V × κ)), vs = [V.ref a] ∧ Src K w H a M ∧ (∀ m ∈ M, Dp K H m.1 (enc m.2)) ∧
  PySem.W.AllAlike (M.map fun m => enc m.2) ∧ PySem.W.Sortable (M.map fun m => enc m.2) ∧ M.length ≤ sizeLine ∧ (∀ m ∈ M, (enc m.2).depth ≤ 8) ∧
  ∀ (M' : List (V × κ)) (p : Addr), Sorted enc M M' → H p = none → Q (.ref p) (upd H p (.lst (M'.map (·.1))))
theorem each_of_vals {κ : Type} : ∀ {M : List (V × κ)} {us : List Value}, Vals (M.map (·.1)) us → PySem.W.EachIs (fun u (m : V × κ) => RelV m.1 u) us M
  | [], _, .nil => .nil
  | m :: M, _, .cons r t => .cons r (each_of_vals t)
theorem vals_of_each {κ : Type} : ∀ {us : List Value} {M : List (V × κ)}, PySem.W.EachIs (fun u (m : V × κ) => RelV m.1 u) us M → Vals (M.map (·.1)) us
  | _, _, .nil => .nil
  | _, _, .cons r t => .cons r (vals_of_each t)
theorem each_mem2 {α β : Type} {R : α → β → Prop} : ∀ {as : List α} {bs : List β}, PySem.W.EachIs R as bs → PySem.W.EachIs (fun a b => R a b ∧ b ∈ bs) as bs
  | _, _, .nil => .nil
  | _, _, .cons r t => .cons ⟨r, List.mem_cons_self⟩ ((each_mem2 t).mono fun _ _ z => ⟨z.1, List.mem_cons_of_mem _ z.2⟩)
theorem dataLe_tot {κ : Type} (enc : κ → PyData) : PySem.W.TotalLe (PySem.W.dataLe false enc) := PySem.W.sortLe_total _ _ _

theorem cr_sort {κ : Type} (enc : κ → PyData) (hc : X.calm = true) (hu : X.A.units + 10 < cLine) : CallR X (.builtin "sorted") (rSort X.K X.w enc) := by
  intro pins s σ H xs us Q I r h
  obtain ⟨a, M, rfl, hsrc, hd, hal, hsk, hL, h8, q⟩ := h
  rw [Vals.ref1 r]
  have hr : ∀ (v : Value) (m : V × κ), (RelV m.1 v ∧ m ∈ M) → ∃ as, Reads s.heap v (enc m.2) as := fun v m ⟨rv, hm⟩ => Dp.reads I _ _ _ (hd m hm) rv
  have fin : ∀ s' p, OutOf s (fun v (m : V × κ) => RelV m.1 v ∧ m ∈ M) (PySem.W.dataLe false fun m : V × κ => enc m.2) M p s' → EP X pins σ Q (.ref p) s' := fun s' p O => by
    obtain ⟨out, bs, c, hg, pm, eo⟩ := O.out
    have tot : PySem.W.TotalLe (PySem.W.dataLe false fun m : V × κ => enc m.2) := dataLe_tot _
    have pm2 : (bs.mergeSort (PySem.W.dataLe false fun m : V × κ => enc m.2)).Perm M := (List.mergeSort_perm _ _).trans pm
    have pw := PySem.W.sort_pairwise tot bs
    generalize bs.mergeSort (PySem.W.dataLe false fun m : V × κ => enc m.2) = M' at eo pm2 pw
    have hv : Vals (M'.map (·.1)) out.toList := vals_of_each (eo.mono fun _ _ z => z.1)
    have hn : H p = none := I.hok.fresh O.new
    have hlen : (M'.map (·.1)).length ≤ sizeLine := by rw [List.length_map, pm2.length_eq]; exact hL
    have J : Inv X pins σ (upd H p (.lst (M'.map (·.1)))) { s with heap := s'.heap, gens := s'.gens, drawn := s'.drawn, toks := s'.toks } :=
      I.call (ch := []) (Un.laid O.keep O.new hn) (I.hok.laid O.keep O.new ⟨hlen, out.toList, c, hv, hg⟩) (by rw [O.gens]; exact I.bare) (fun _ z => nomatch z)
    have e : s' = { s with heap := s'.heap, gens := s'.gens, drawn := s'.drawn, toks := s'.toks } := by
      have o := O.os
      cases s'
      cases s
      cases o
      rfl
    rw [e]
    exact ⟨.ref p, _, J, rfl, q M' p ⟨pm2, pw⟩ hn⟩
  have hu2 : ∀ m : V × κ, m ∈ M → X.A.units + 2 + (enc m.2).depth < cLine := fun m hm => by
    have := h8 m hm
    omega
  rcases hsrc with hl | hl | hl
  · obtain ⟨its, rv, ⟨o, n, ho, hcl, _, hdt⟩, hz⟩ := I.list hl
    exact sorted_seq_data (bs0 := M) (enc := fun m : V × κ => enc m.2) (.inl rfl) ho hcl hdt (by simpa using each_mem2 (each_of_vals rv)) hr hal hsk hL hu2 fin
  · obtain ⟨its, rv, ⟨o, ho, hcl, n, hdt⟩, hz⟩ := I.tuple hl
    exact sorted_seq_data (bs0 := M) (enc := fun m : V × κ => enc m.2) (.inr rfl) ho hcl hdt (by simpa using each_mem2 (each_of_vals rv)) hr hal hsk hL hu2 fin
  · obtain ⟨⟨L, R, rM⟩, _⟩ := I.hok a _ hl
    have ev : PySem.W.EachIs (fun u (m : V × κ) => RelV m.1 u) (L.map (·.1)) M := by
      have key : ∀ {M : List (V × κ)} {L : List (Value × κ)}, Paired (fun (m : V × κ) (p : Value × κ) => RelV m.1 p.1 ∧ m.2 = p.2) M L → PySem.W.EachIs (fun u (m : V × κ) => RelV m.1 u) (L.map (·.1)) M := by
        intro M L r
        induction r with
        | nil => exact .nil
        | cons r t ih => exact .cons r.1 ih
      exact key rM
    exact sorted_set_data (bs0 := M) (enc := fun m : V × κ => enc m.2) R (I.ok.hd hc) (each_mem2 ev) hr hal hsk hL hu2 fin
end
end NkS
end
section
set_option Elab.async false
set_option linter.all false
set_option maxRecDepth 100000
set_option maxHeartbeats 4000000
/-! A class's own __contains__, __len__, __iter__, operators, == and != -/
namespace NkO
open PySem PySem.Spec PyProof.Rows L2

section
variable {X : Cx} {k : Nat} {C f : Addr} {fd : FuncData} {ps : List Str} {sp : Sp} {pins : List (Addr × Obj)} {σ : L2.St} {H : Hp} {s : Shared}

theorem inst_of {a dx : Addr} {fs : List (Str × V)} (I : Inv X pins σ H s) (h : H a = some (.ins C dx fs)) : ∃ ox od, PySem.W.InstAt s.heap a ox C od := by
  obtain ⟨ox, od, J, _⟩ := StX.insC_at I (.inr ⟨dx, fs, h⟩)
  exact ⟨ox, od, J⟩

/-- the call of a method by its class -/
theorem run_own {CX : CXT} {E : XK} {Q : VK} {us : List Value} {vs : List V} (F : FnOk X.prog X.w X.K X.mg X.base CX k f fd ps sp) (hr : Room k X.A) (hb : Binds X.K fd ps []) (hx : Passes CX X E) (I : Inv X pins σ H s) (r : Vals vs us) (h : sp vs H Q E) :
    wpAny (model X.prog X.w) X.A (call (.ref f) us) (EP X pins σ Q) X.xe s := run_fn (dvs := []) (ds := []) F hr hb .nil hx I r (by rw [List.append_nil]; exact h)
/-- .. one level down -/
theorem run_own1 {E : XK} {Q : VK} {us : List Value} {vs : List V} (F : FnOk X.prog X.w X.K X.mg X.base CX0 k f fd ps sp) (hr : Room (k + 1) X.A) (hb : Binds X.K fd ps []) (I : Inv X pins σ H s) (r : Vals vs us) (h : sp vs H Q E) :
    wpAny (model X.prog X.w) X.A.in1 (call (.ref f) us) (EP X pins σ Q) X.xe s := by
  have FR := FnOk.raw F hb .nil
  refine wpAny_call (codeAny_mono (FR X.A.in1 X.stack s H us vs Q E hr.in1 I.env0.in1 r (by show sp (vs ++ []) H Q E; rw [List.append_nil]; exact h)) fun r s' hq => ?_)
  cases r with
  | error e => exact hq.elim
  | ok fl =>
    cases fl with
    | ret u => exact I.after hq
    | next => exact False.elim hq
    | brk => exact False.elim hq
    | cont => exact False.elim hq

/-- x in o, x not in o by the class's __contains__ -/
def rOwnIn (C : Addr) (sp : Sp) (g : Bool → Bool) : V → V → Hp → VK → Prop := fun x y H Q => ∃ a dx fs, y = .ref a ∧ H a = some (.ins C dx fs) ∧ sp [.ref a, x] H (fun z H' => ∃ b, z = .bl b ∧ Q (.bl (g b)) H') E0
theorem op_ownIn (F : FnOk X.prog X.w X.K X.mg X.base CX0 k f fd ps sp) (hr : Room k X.A) (hb : Binds X.K fd ps []) (hm : Meth X.K C "__contains__" f) : OpR X (compareOp .In) (rOwnIn C sp fun b => b) := by
  intro pins s σ H x y v u Q I rx ry h
  obtain ⟨a, dx, fs, rfl, ha, q⟩ := h
  obtain ⟨m, hF⟩ := I.fr
  obtain ⟨ox, od, J⟩ := inst_of I ha
  cases ry
  refine PySem.W.in_K hF I.ok.mod.kin J hm.at_ hm.fn (thn (run_own (us := [.ref a, v]) (vs := [.ref a, x]) F hr hb pass0 I (.cons rfl (.cons rx .nil)) q) fun r s1 ⟨z, H1, I1, r1, b, e, q1⟩ => ?_)
  subst e
  cases r1
  exact wpAny_pure ⟨.bl b, H1, I1, rfl, q1⟩
theorem op_ownNotIn (F : FnOk X.prog X.w X.K X.mg X.base CX0 k f fd ps sp) (hr : Room k X.A) (hb : Binds X.K fd ps []) (hm : Meth X.K C "__contains__" f) : OpR X (compareOp .NotIn) (rOwnIn C sp fun b => !b) := by
  intro pins s σ H x y v u Q I rx ry h
  obtain ⟨a, dx, fs, rfl, ha, q⟩ := h
  obtain ⟨m, hF⟩ := I.fr
  obtain ⟨ox, od, J⟩ := inst_of I ha
  cases ry
  refine PySem.W.notIn_K hF I.ok.mod.kin J hm.at_ hm.fn (thn (run_own (us := [.ref a, v]) (vs := [.ref a, x]) F hr hb pass0 I (.cons rfl (.cons rx .nil)) q) fun r s1 ⟨z, H1, I1, r1, b, e, q1⟩ => ?_)
  subst e
  cases r1
  exact wpAny_pure ⟨.bl (!b), H1, I1, rfl, q1⟩

/-- o - p, o | p: both of the class, by its method -/
def rOwnOp (C : Addr) (sp : Sp) : V → V → Hp → VK → Prop := fun x y H Q => ∃ a dx fs b dy gs, x = .ref a ∧ y = .ref b ∧ H a = some (.ins C dx fs) ∧ H b = some (.ins C dy gs) ∧ sp [.ref a, .ref b] H Q E0
theorem op_ownBin {op : Operator} (F : FnOk X.prog X.w X.K X.mg X.base CX0 k f fd ps sp) (hr : Room k X.A) (hb : Binds X.K fd ps []) (hm : Meth X.K C (PySem.dunder op.info.2) f) (hs : PySem.W.selfFirst X.K C = true) : OpR X (binaryOp op) (rOwnOp C sp) := by
  intro pins s σ H x y v u Q I rx ry h
  obtain ⟨a, dx, fs, b, dy, gs, rfl, rfl, ha, hb', q⟩ := h
  obtain ⟨m, hF⟩ := I.fr
  obtain ⟨ox, od, J⟩ := inst_of I ha
  obtain ⟨oy, od', J'⟩ := inst_of I hb'
  cases rx
  cases ry
  refine PySem.W.binop_K hF I.ok.mod.kin J J'.type hs hm.at_ hm.fn ?_
  refine wpAny_mono (run_own (us := [.ref a, .ref b]) (vs := [.ref a, .ref b]) F hr hb pass0 I (.cons rfl (.cons rfl .nil)) q) (fun w s' z => ?_) fun _ _ x => x
  obtain ⟨z', H', I', rz, qz⟩ := z
  exact SlX.cmpback rz ⟨z', H', I', rz, qz⟩

/-- len(o) by the class's __len__ -/
def rOwnLen (C : Addr) (sp : Sp) : List V → Hp → VK → Prop := fun xs H Q => ∃ a dx fs, xs = [.ref a] ∧ H a = some (.ins C dx fs) ∧ sp [.ref a] H (fun z H' => ∃ n : Int, z = .int n ∧ 0 ≤ n ∧ n < 2 ^ 63 ∧ Q (.int n) H') E0
theorem cr_ownLen (F : FnOk X.prog X.w X.K X.mg X.base CX0 k f fd ps sp) (hr : Room (k + 1) X.A) (hb : Binds X.K fd ps []) (hm : Meth X.K C "__len__" f) : CallR X (.builtin "len") (rOwnLen C sp) := by
  intro pins s σ H xs us Q I r h
  obtain ⟨a, dx, fs, rfl, ha, q⟩ := h
  rw [Vals.ref1 r]
  obtain ⟨m, hF⟩ := I.fr
  obtain ⟨ox, od, J⟩ := inst_of I ha
  refine PySem.W.len_K hF I.ok.mod.kin J hm.at_ hm.fn (wpAny_mono (run_own1 (us := [.ref a]) (vs := [.ref a]) F hr hb I (.cons rfl .nil) q) (fun u s' z => ?_) fun _ _ x => x)
  obtain ⟨z', H', I', rz, n, rfl, h0, h1, q1⟩ := z
  obtain ⟨t, rfl⟩ := rz
  exact ⟨⟨h0, h1⟩, .int n, H', I'.tok _, ⟨_, rfl⟩, q1⟩
end
end NkO
end
section
set_option Elab.async false
set_option linter.all false
set_option maxRecDepth 100000
set_option maxHeartbeats 4000000
namespace NkO
open PySem PySem.Spec PyProof.Rows L2 PySem.W PySem.Calls

section
variable {prog : Program} {w : World} {A : Around} {E : Value → Shared → Prop} {s : Shared} {K : Frag} {x C L f : Addr} {h₀ : Heap} {m : Str → Option Value} {ox : Obj} {od : Option Obj} {b : Value}
/-- a special method that is object's own, asked of an instance -/
theorem ifBound_obj {M : Model} {name : Str} {id : String} {args : List Value} {Q : Option Value → Shared → Prop} (X : K.In s.heap) (I : InstAt s.heap x ox C od) (hs : findIn K (.ref C) name = some (some (.builtin id))) (S : Slot "object" name id)
    (h : wpAny M A (call (.builtin id) (.ref x :: args)) (fun v => Q (some v)) E s) : wpAny M A (callSpecialIfBound? (.ref x) name args) Q E s := by
  simp only [callSpecialIfBound?, bindSpecialIfBound?]
  refine wpAny_holding (wpAny_bind (wpAny_bind (wpAny_bind (I.type.here ((looks_findIn X hs).here ?_)))))
  simp only [S.bind]
  refine wpAny_bind (wpAny_askSetting (wpAny_ite ?_))
  have fin : wpAny M A (call (.builtin id) ([.ref x] ++ args) >>= fun v => pure (some v)) Q E s := wpAny_bind (wpAny_mono h (fun v s' h' => wpAny_pure h') fun _ _ h' => h')
  split
  · exact wpAny_bind (wpAny_pure (wpAny_pure fin))
  · exact wpAny_tryCatch (wpAny_bind (wpAny_pure (wpAny_pure fin)))

theorem ne_own {Q : Value → Shared → Prop} (hu : A.units + 1 < cLine) (F₀ : Fr h₀ L s.heap m) (X₀ : K.In h₀) (I : InstAt s.heap x ox C od) (hb : Looks (model prog w) s.heap (typeOf b) (.ref C))
    (hs : findIn K (.ref C) "__eq__" = some (some (.ref f))) (hf : isFn K (.ref f) = true) (hne : findIn K (.ref C) "__ne__" = some (some (.builtin "object.__ne__"))) (hob : subIn K (.ref C) (.type "object") = some true)
    (h : wpAny (model prog w) A.in1 (call (.ref f) [.ref x, b]) (fun v s' => ∃ r, v = .bool r ∧ Q (.bool (!r)) s') E s) : wpAny (model prog w) A (compareOp .NotEq (.ref x) b) Q E s := by
  have X := X₀.keeps F₀.keep
  have body : wpAny (model prog w) A.in1 (Builtin.«object.__ne__» ⟨[.ref x, b], []⟩) (fun fin s' => ∃ v r, fin = .done (.ret v) ∧ v = .bool r ∧ Q (.bool r) s') E s := by
    unfold Builtin.«object.__ne__»
    refine wpAny_bind (wpAny_of_eq (a := (Value.ref x, [b])) (by first | rfl | kernel_rfl) ?_)
    dsimp only
    refine wpAny_bind (wpAny_cRoomFor (show A.in1.units < cLine from hu) ?_)
    refine wpAny_bind (ifBound_K X I hs hf (wpAny_mono h (fun v s' z => ?_) fun _ _ z => z))
    obtain ⟨r, rfl, q⟩ := z
    dsimp only
    refine wpAny_bind (m := truthy (.bool r)) (wpAny_pure ?_)
    exact wpAny_pure ⟨_, _, rfl, rfl, q⟩
  have chk : ∀ {Q' : Unit → Shared → Prop}, Q' () s → wpAny (model prog w) A.in1 (checkBuiltinCall "object.__ne__" ⟨[.ref x, b], []⟩) Q' E s := fun {Q'} q => by
    simp only [checkBuiltinCall, F.cmpKind_ne, F.cmpSplit_ne]
    refine wpAny_bind ?_
    unfold isInstance
    refine wpAny_bind (I.type.here ((looks_subIn X hob).here ?_))
    have ha := F.cmpArgs_ne (.ref x) b
    cases hsig : Manifest.signature? "object.__ne__" with
    | none => exact wpAny_pure q
    | some sig =>
      simp only [argsOk, hsig] at ha
      have h2 : Bind.checkArgs "object.__ne__" sig ⟨[.ref x, b], []⟩ = pure () := ha
      dsimp only
      rw [h2]
      exact wpAny_pure q
  have one : wpAny (model prog w) A (tryCompare (.ref x) "__ne__" b) (fun r s' => ∃ k, r = some (.bool k) ∧ Q (.bool k) s') E s := by
    unfold tryCompare
    refine wpAny_bind (ifBound_obj X I hne F.cmp_object.ne (wpAny_call (codeAny_call_builtin F.cmp_object.ne.plain F.cmpEntry_ne (chk (wpAny_mono body (fun fin s' z => ?_) fun _ _ z => z)))))
    obtain ⟨v, r, rfl, rfl, q⟩ := z
    exact wpAny_pure ⟨r, rfl, q⟩
  show wpAny (model prog w) A (richCompare .NotEq (.ref x) b) Q E s
  unfold richCompare
  simp only [oneThing_ref]
  refine wpAny_holding (wpAny_bind (wpAny_cRoomFor (by omega) ?_))
  refine wpAny_bind (I.type.here (wpAny_bind (hb.here ?_)))
  simp only [bne_self_eq_false, Bool.false_eq_true, if_false]
  refine wpAny_bind (wpAny_pure ?_)
  try simp only [Bool.false_eq_true, if_false]
  refine wpAny_bind (wpAny_mono one (fun r s' z => ?_) fun _ _ e => e)
  obtain ⟨k, rfl, q⟩ := z
  exact wpAny_pure q
end

section
variable {X : Cx} {k : Nat} {C f : Addr} {fd : FuncData} {ps : List Str} {sp : Sp}
/-- x != y by the class's __eq__ (it has no __ne__ of its own) -/
def rOwnNe (C : Addr) (sp : Sp) : V → V → Hp → VK → Prop := fun x y H Q => ∃ a dx fs b dy gs, x = .ref a ∧ y = .ref b ∧ H a = some (.ins C dx fs) ∧ H b = some (.ins C dy gs) ∧ sp [.ref a, .ref b] H (fun z H' => ∃ r, z = .bl r ∧ Q (.bl (!r)) H') E0
theorem op_ownNe (F : FnOk X.prog X.w X.K X.mg X.base CX0 k f fd ps sp) (hr : Room (k + 1) X.A) (hb : Binds X.K fd ps []) (hm : Meth X.K C "__eq__" f) (hne : PySem.W.findIn X.K (.ref C) "__ne__" = some (some (.builtin "object.__ne__"))) (hob : PySem.W.subIn X.K (.ref C) (.type "object") = some true) :
    OpR X (compareOp .NotEq) (rOwnNe C sp) := by
  intro pins s σ H x y v u Q I rx ry h
  obtain ⟨a, dx, fs, b, dy, gs, rfl, rfl, ha, hb', q⟩ := h
  obtain ⟨m, hF⟩ := I.fr
  obtain ⟨ox, od, J⟩ := inst_of I ha
  obtain ⟨oy, od', J'⟩ := inst_of I hb'
  cases rx
  cases ry
  refine ne_own (by have := hr.un; omega) hF I.ok.mod.kin J J'.type hm.at_ hm.fn hne hob (wpAny_mono (run_own1 (us := [.ref a, .ref b]) (vs := [.ref a, .ref b]) F hr hb I (.cons rfl (.cons rfl .nil)) q) (fun w s' z => ?_) fun _ _ x => x)
  obtain ⟨z', H', I', rz, r, rfl, q1⟩ := z
  cases rz
  exact ⟨r, rfl, .bl (!r), H', I', rfl, q1⟩
end
end NkO
end
section
set_option Elab.async false
set_option linter.all false
set_option maxRecDepth 100000
set_option maxHeartbeats 4000000
/-! A class whose __iter__ hands out the iterator of a tuple of its own: for, comprehensions, list(o) -/
namespace NkO
open PySem PySem.Spec PyProof.Rows L2

/-- a tuple's iterator at its beginning -/
def TIt (t it : Addr) : HO := .ext fun h => h.IsTupleIter it t 0
theorem tit_ok {P : Program} {w : World} {H : Hp} {h : Heap} {t it : Addr} (x : h.IsTupleIter it t 0) : ObjOk P w H h it (TIt t it) := by
  obtain ⟨o, e, c, d⟩ := id x
  exact ⟨x, ⟨o, e⟩, fun h1 h2 z k => z.at k⟩

/-- iter(t), t a tuple: n what is known to stand below the new one -/
def rIterT (K : PySem.W.Frag) (n : Nat) : List V → Hp → VK → Prop := fun xs H Q => ∃ (t : Addr) (zs : List V), xs = [.ref t] ∧ SqT K H t zs ∧ ∀ it, H it = none → n ≤ it → Q (.ref it) (upd H it (TIt t it))
theorem cr_iterT {X : Cx} : CallR X (.builtin "iter") (rIterT X.K X.s_0.heap.objs.size) := by
  intro pins s σ H xs us Q I r h
  obtain ⟨t, zs, rfl, hq, q⟩ := h
  rw [Vals.ref1 r]
  obtain ⟨its, rv, pl, hz⟩ := I.tuple hq
  refine Calls.call_function_entry (by decide +kernel) (by decide +kernel) PySem.W.kdk_entry_iter (PySem.W.kdk_args_iter _) ?_
  unfold Builtin.«iter»
  refine wpAny_bind (m := someArgs "iter" 1 2 _) (wpAny_of_eq (a := [Value.ref t]) (by first | rfl | kernel_rfl!) ?_)
  show wpAny _ _ (pyIter (.ref t) >>= _) _ _ _
  refine wpAny_bind (wpAny_pyIter_tuple (show s.heap.IsTuple t its.toArray from pl) ?_)
  exact wpAny_pure ⟨_, rfl, .ref s.heap.objs.size, _, I.laid (t' := s.toks) (fun b u e => Heap.get?_push_of_some _ e) (Nat.le_refl _) (tit_ok ⟨_, Heap.get?_push_size _ rfl, rfl, rfl⟩), rfl, q _ (I.hok.fresh (Nat.le_refl _)) I.sz⟩

/-- a def whose promise may speak of how large the heap is at its entry -/
structure FnS (P : Program) (w : World) (K : PySem.W.Frag) (mg : Str → Option Value) (base : Heap) (k : Nat) (f : Addr) (fd : FuncData) (ps : List Str) (sp : Nat → Sp) : Prop where
  run : ∀ (A : Around) (outer : List Env) (s : Shared) (H : Hp) (args : Args) (us : List Value) (vs : List V) (Q : VK) (E : XK), Room k A → Env0 P w K mg base A outer s H → BindsTo s fd args (ps.zip us) → Vals vs us → vs.length = ps.length → sp s.heap.objs.size vs H Q E →
    codeAny (model P w) A (.call (.ref f) args) (CR CX0 outer P w H s Q E) s

section
variable {P : Program} {w : World} {K : PySem.W.Frag} {mg : Str → Option Value} {base : Heap} {k : Nat} {f : Addr} {qual x : Str} {params : Arguments} {body : List Stmt} {scope : Scope} {fd : FuncData} {N ps : List Str} {sp : Nat → Sp} {dvs : List V} {kws : List (Str × V)}
theorem FnS.of (F : FunD K x qual params body scope dvs kws f fd) (S : FnScope N ps scope)
    (hbody : ∀ (cdv : Value) (A : Around) (outer : List Env) (s : Shared) (H : Hp) (vs : List V) (Q : VK) (E : XK), Room k (A.deeper (envOfC qual scope s.heap.objs.size f cdv)) → sp s.heap.objs.size vs H Q E →
      ∃ t, PSs (cxOf CX0 P w K mg base N qual scope f cdv A outer s H E) body t ∧ t { nx := fun _ H' => Q .non H', rt := Q } (start N vs) H) : FnS P w K mg base (k + 1) f fd ps sp := by
  obtain ⟨oc, od, dV, kV, doc, pm, an, cdv, ct, osl, rfl, lk, hcd, _, _⟩ := F.ex
  refine ⟨fun A outer s H args us vs Q E hr e0 hb r hl hsp => ?_⟩
  have KX : K.In s.heap := e0.mod.kin.keeps fun b o e => (e0.bs b o e).1
  have lim : s.heap.NoLimit := e0.mod.nolimit.keeps fun b o e => (e0.bs b o e).1
  refine codeAny_call_function hr.depth (KX _ _ lk) rfl S.co S.gen rfl (PySem.W.codeRec_of KX hcd) (hb _ _ _ _ ?_)
  refine wpAny_newFunctionEnv_cells S.kind (fun y hy => ?_) fun env he s1 z => ?_
  · rcases S.par y.1 (List.of_mem_zip hy).1 with q | q
    · exact .inl q
    · exact .inr ⟨q, PySem.W.cellsFrom_some _ _ _ (.inl q)⟩
  subst he
  refine ⟨lim.keeps z.toInCall.keep, codeAny_func ?_⟩
  obtain ⟨t, ht, hq⟩ := hbody cdv A outer s H vs Q E (hr.deeper _) hsp
  have I : Inv (cxOf CX0 P w K mg base N qual scope f cdv A outer s H E) [] (start N vs) H s1 := inv_start S hr.hd e0 hl r z
  refine wpAny_mono (ht.run [] s1 (start N vs) H _ I hq) (fun fl s' hs => ?_) fun e s' hs => hs
  cases fl with
  | ret u =>
    obtain ⟨v, σ', H', J, rv, q⟩ := hs
    exact ⟨v, H', J.os, J.bare, J.base, J.hok, rv, q⟩
  | next =>
    obtain ⟨σ', H', J, q⟩ := hs
    exact ⟨V.non, H', J.os, J.bare, J.base, J.hok, rfl, q⟩
  | brk =>
    obtain ⟨_, _, _, q⟩ := hs
    exact False.elim q
  | cont =>
    obtain ⟨_, _, _, q⟩ := hs
    exact False.elim q
end

/-- the promise of such an __iter__: C's field x holds a tuple -/
def spIter (K : PySem.W.Frag) (C : Addr) (x : Str) (n : Nat) : Sp := fun vs H Q _ => ∃ (a dx t : Addr) (fs : List (Str × V)) (zs : List V), vs = [.ref a] ∧ H a = some (.ins C dx fs) ∧ fs.lookup x = some (.ref t) ∧ SqT K H t zs ∧
  ∀ it, H it = none → n ≤ it → Q (.ref it) (upd H it (TIt t it))

section
variable {X : Cx} {k : Nat} {C f : Addr} {fd : FuncData} {ps : List Str} {x : Str}
/-- the class's walk -/
structure OwnIt (X : Cx) (k : Nat) (C f : Addr) (fd : FuncData) (x : Str) : Prop where
  F : FnS X.prog X.w X.K X.mg X.base k f fd ["self"] (spIter X.K C x)
  b : Binds X.K fd ["self"] []
  m : Meth X.K C "__iter__" f

/-- the iterator comes, behind what was there -/
theorem own_iter {A1 : Around} {pins : List (Addr × Obj)} {σ : L2.St} {H : Hp} {s : Shared} {a dx t : Addr} {fs : List (Str × V)} {zs : List V} {Q : Value → Shared → Prop} {E : Value → Shared → Prop} (D : OwnIt X k C f fd x) (hr : Room k A1) (e0 : Env0 X.prog X.w X.K X.mg X.base A1 X.stack s H) (I : Inv X pins σ H s)
    (ha : H a = some (.ins C dx fs)) (hx : fs.lookup x = some (.ref t)) (ht : SqT X.K H t zs)
    (h : ∀ it s', H it = none → s.heap.objs.size ≤ it → Inv X pins σ (upd H it (TIt t it)) s' → Q (.ref it) s') : wpAny (model X.prog X.w) A1 (pyIter (.ref a)) Q E s := by
  obtain ⟨m, hF⟩ := I.fr
  obtain ⟨ox, od, J⟩ := inst_of I ha
  refine PySem.W.owit_iter hF I.ok.mod.kin J D.m.at_ D.m.fn ?_
  have hb := D.b s [.ref a] I.kIn rfl
  refine wpAny_call (codeAny_mono (D.F.run A1 X.stack s H ⟨[.ref a], []⟩ [.ref a] [.ref a] (fun v H' => ∃ it, v = .ref it ∧ s.heap.objs.size ≤ it ∧ H it = none ∧ H' = upd H it (TIt t it)) E0 hr e0 (by simpa using hb) (.cons rfl .nil) rfl
    ⟨a, dx, t, fs, zs, rfl, ha, hx, ht, fun it hn hs => ⟨it, rfl, hs, hn, rfl⟩⟩) fun r s' hq => ?_)
  cases r with
  | error e => exact hq.elim
  | ok fl =>
    cases fl with
    | next => exact False.elim hq
    | brk => exact False.elim hq
    | cont => exact False.elim hq
    | ret u =>
      obtain ⟨v, H', I', rv, it, rfl, hs, hn, rfl⟩ := I.after hq
      cases rv
      have st : s'.heap.IsTupleIter it t 0 := (I'.hok it _ upd_same).1
      obtain ⟨o, e, c, d⟩ := st
      refine wpAny_bind (wpAny_typeOf ⟨o, e, c⟩ ?_)
      show wpAny _ _ (typeLookup (.type "tuple_iterator") "__next__") _ _ _
      refine wpAny_of_eq (PyProof.Rows.slot_tupleiter_next.lookup) ?_
      exact h it s' hn hs I'

/-- for .. in o -/
def iOwn (K : PySem.W.Frag) (C : Addr) (x : Str) (te : TE) : TI := fun σ H R => te σ H fun v H1 => ∃ (a dx t : Addr) (fs : List (Str × V)) (zs : List V), v = .ref a ∧ H1 a = some (.ins C dx fs) ∧ fs.lookup x = some (.ref t) ∧ SqT K H1 t zs ∧ R (Itt K t) H1
theorem pi_own {tg e : Expr} {te : TE} (D : OwnIt X k C f fd x) (hr : Room k X.A) (he : PE X e te) : PI X tg e (iOwn X.K C x te) := by
  refine ⟨fun pins s σ H R I h => ?_⟩
  refine thn (he.run pins s σ H _ I h) fun u s1 ⟨v, H1, I1, r1, a, dx, t, fs, zs, ev, ha, hx, ht, q⟩ => ?_
  subst ev
  cases r1
  refine own_iter D hr I1.env0 I1 ha hx ht fun it s2 hn hs I2 => ?_
  have st : s2.heap.IsTupleIter it t 0 := (I2.hok it _ upd_same).1
  have I3 := ItX.inv_drop I2 (show upd H1 it (TIt t it) it = some (.ext _) from upd_same)
  have e3 : ItX.dropH (upd H1 it (TIt t it)) it = H1 := ItX.dropH_upd hn
  have f3 := ItX.inv_fp I2 upd_same (Nat.le_trans I1.sz hs)
  rw [e3] at I3 f3
  exact ⟨it, [it], _, _, H1, rfl, I3, turn_tuple t it, st, fun b hb => by
    have e : b = it := by simpa using hb
    rw [e]; exact f3, q⟩
end
end NkO
end
section
set_option Elab.async false
set_option linter.all false
set_option maxRecDepth 100000
set_option maxHeartbeats 4000000
namespace NkO
open PySem PySem.Spec PyProof.Rows L2

/-- the promise of a __len__ that tells a tuple's length -/
def spLen (K : PySem.W.Frag) (C : Addr) (x : Str) : Sp := fun vs H Q _ => ∃ (a dx t : Addr) (fs : List (Str × V)) (zs : List V), vs = [.ref a] ∧ H a = some (.ins C dx fs) ∧ fs.lookup x = some (.ref t) ∧ SqT K H t zs ∧ Q (.int zs.length) H

section
variable {X : Cx} {k : Nat} {C f fl : Addr} {fd fdl : FuncData} {x : Str} {pins : List (Addr × Obj)} {σ : L2.St} {H : Hp} {s : Shared}
structure OwnLen (X : Cx) (k : Nat) (C f : Addr) (fd : FuncData) (x : Str) : Prop where
  F : FnOk X.prog X.w X.K X.mg X.base CX0 k f fd ["self"] (spLen X.K C x)
  b : Binds X.K fd ["self"] []
  m : Meth X.K C "__len__" f
theorem env_in1 {A1 : Around} (e : Env0 X.prog X.w X.K X.mg X.base A1 X.stack s H) : Env0 X.prog X.w X.K X.mg X.base A1.in1 X.stack s H := e.in1
theorem own_len {A1 : Around} {a dx t : Addr} {fs : List (Str × V)} {zs : List V} {Q : Value → Shared → Prop} {E : Value → Shared → Prop} (D : OwnLen X k C f fd x) (hr : Room (k + 1) A1) (e0 : Env0 X.prog X.w X.K X.mg X.base A1 X.stack s H) (I : Inv X pins σ H s)
    (ha : H a = some (.ins C dx fs)) (hx : fs.lookup x = some (.ref t)) (ht : SqT X.K H t zs) (hz : zs.length ≤ sizeLine) (h : ∀ tk s', Inv X pins σ H s' → Q (.int zs.length tk) s') : wpAny (model X.prog X.w) A1 (call (.builtin "len") [.ref a]) Q E s := by
  obtain ⟨m, hF⟩ := I.fr
  obtain ⟨ox, od, J⟩ := inst_of I ha
  refine PySem.W.len_K hF I.ok.mod.kin J D.m.at_ D.m.fn ?_
  have hb := D.b s [.ref a] I.kIn rfl
  refine wpAny_call (codeAny_mono (D.F.run A1.in1 X.stack s H ⟨[.ref a], []⟩ [.ref a] [.ref a] (fun v H' => v = .int zs.length ∧ H' = H) E0 hr.in1 e0.in1 (by simpa using hb) (.cons rfl .nil) ⟨a, dx, t, fs, zs, rfl, ha, hx, ht, rfl, rfl⟩) fun r s' hq => ?_)
  cases r with
  | error e => exact hq.elim
  | ok fl =>
    cases fl with
    | next => exact False.elim hq
    | brk => exact False.elim hq
    | cont => exact False.elim hq
    | ret u =>
      obtain ⟨v, H', I', rv, rfl, rfl⟩ := I.after hq
      obtain ⟨tk, rfl⟩ := rv
      refine ⟨⟨Int.natCast_nonneg _, ?_⟩, h _ _ (I'.tok _)⟩
      rw [sizeLine_eq] at hz
      omega

/-- .. as list's own making asks -/
theorem own_hint2 {A1 : Around} {a dx t : Addr} {fs : List (Str × V)} {zs : List V} {Q : Bool → Shared → Prop} {E : Value → Shared → Prop} (D : OwnLen X k C f fd x) (hr : Room (k + 1) A1) (e0 : Env0 X.prog X.w X.K X.mg X.base A1 X.stack s H) (I : Inv X pins σ H s)
    (ha : H a = some (.ins C dx fs)) (hx : fs.lookup x = some (.ref t)) (ht : SqT X.K H t zs) (hz : zs.length ≤ sizeLine) (h : ∀ b s', Inv X pins σ H s' → Q b s') : wpAny (model X.prog X.w) A1 (Builtin.List.listLengthHint (.ref a)) Q E s := by
  obtain ⟨ox, od, J⟩ := inst_of I ha
  unfold Builtin.List.listLengthHint
  refine wpAny_bind (wpAny_bind (J.type.here ((PySem.W.looks_findIn I.kIn D.m.at_).here ?_)))
  refine PySem.W.KFB.if_not rfl ?_
  simp only [Option.isSome_some, if_true]
  refine wpAny_bind (wpAny_rule ?_)
  refine wpAny_bind (wpAny_attempt (own_len D hr e0 I ha hx ht hz fun tk s' I' => ?_))
  dsimp only
  refine wpAny_bind (m := asInt? (.int zs.length tk)) (wpAny_pure ?_)
  dsimp only
  have e : Builtin.List.listTooLong (zs.length : Int).toNat = false := notLongL (by rw [Int.toNat_natCast]; exact hz)
  rw [e]
  exact wpAny_pure (h _ _ I')
end

section
variable {X : Cx} {k : Nat} {C f fl : Addr} {fd fdl : FuncData} {x : Str}
theorem freed_none {h : Heap} {a : Addr} {o : Obj} (_ : h.get? a = some o) : (h.update a fun o => { o with data := .freed }).get? a = none := by
  obtain ⟨objs, l⟩ := h
  unfold Heap.get? Heap.update
  dsimp only
  rw [Array.getElem?_modify]
  simp only [if_true]
  cases objs[a]? with
  | none => rfl
  | some o => rfl
def rOwnList (K : PySem.W.Frag) (C : Addr) (x : Str) : List V → Hp → VK → Prop := fun xs H Q => ∃ (a dx t : Addr) (fs : List (Str × V)) (zs : List V), xs = [.ref a] ∧ H a = some (.ins C dx fs) ∧ fs.lookup x = some (.ref t) ∧ SqT K H t zs ∧
  ∀ q, H q = none → Q (.ref q) (upd H q (.lst zs))
/-- the loop that fills the list, told by the invariant -/
theorem fill_own {A1 : Around} {pins : List (Addr × Obj)} {σ : L2.St} {H : Hp} {s : Shared} {q it t : Addr} {zs : List V} {Rs : Result → Shared → Prop} (hh : A1.in1.handled = none) (I : Inv X pins σ (upd H it (TIt t it)) s) (hq : H q = some (.lst [])) (hn : H it = none) (hs : X.s_0.heap.objs.size ≤ it) (ht : SqT X.K H t zs)
    (hR : ∀ s', Inv X pins σ (upd H q (.lst zs)) s' → Rs (.ok (.ret .none)) s') : codeAny (model X.prog X.w) A1 (.builtin "list.extend.loop" ⟨[.ref q, .ref it, .none], []⟩) Rs s := by
  have hqi : q ≠ it := ne_of_none hq hn
  have st : s.heap.IsTupleIter it t 0 := (I.hok it _ upd_same).1
  have f3 := ItX.inv_fp I upd_same hs
  have I1 := ItX.inv_drop I (show upd H it (TIt t it) it = some (.ext _) from upd_same)
  have e3 : ItX.dropH (upd H it (TIt t it)) it = H := ItX.dropH_upd hn
  rw [e3] at I1 f3
  obtain ⟨its, rv, pl, hz⟩ := I1.tuple ht
  obtain ⟨z, its0, n0, r0, hl0, e0⟩ := I1.lstM hq
  cases r0
  have htq : t ≠ q := by
    rintro rfl
    obtain ⟨o, ho, hc, n, hd⟩ := pl
    rw [ho] at e0
    have := Option.some.inj e0
    rw [this] at hc
    injection hc with hc
    exact absurd hc (by decide)
  have hti : t ≠ it := by
    rintro rfl
    obtain ⟨o, ho, hc, n, hd⟩ := pl
    obtain ⟨o2, ho2, hc2, hd2⟩ := st
    rw [ho] at ho2
    have := Option.some.inj ho2
    rw [this] at hc
    rw [hc] at hc2
    injection hc2 with hc2
    exact absurd hc2 (by decide)
  have hlen : its.toArray.size = zs.length := by rw [List.size_toArray, rv.length]
  refine codeAny_extend_loopS ((Walks.tuple (prog := X.prog) (w := X.w) hh it t hti its.toArray).toS) (by rw [hlen]; exact hz) q (by simp [hqi, htq.symm]) .none (its.toArray.size - 0) 0 s #[] n0 (by omega) (Nat.zero_le _)
    ⟨st, pl⟩ (by simpa using e0) ⟨rfl, fun i v e => by simp at e⟩ fun s' acc c mv hS hacc => ?_
  obtain ⟨h', g', d', tk', os'⟩ := s'
  have eg : g' = s.gens := mv.gens
  have ed : d' = s.drawn := mv.drawn
  have eo : os' = s.os := mv.os
  subst eg ed eo
  have eacc : acc.toList = its := by
    have q2 := items_out (out := its) (acc := acc) (Pv := fun i v => its.toArray[i]? = some v) (by simpa using hacc) fun j v e => by simpa using e
    exact q2
  -- the iterator is given up, then the list is written
  have hgone : (s.heap.update it fun o => { o with data := .freed }).get? it = none := by
    obtain ⟨o, ho, _⟩ := id st
    exact freed_none ho
  have I2 : Inv X pins σ H { s with heap := s.heap.update it fun o => { o with data := .freed }, toks := tk' } :=
    I1.turned (fun b o hb e => by rw [Heap.get?_update_ne _ _ _ _ hb]; exact e) hn f3.2.1 f3.2.2.2.1 f3.2.2.2.2.1 f3.2.2.2.2.2
  have I3 := I2.write (x := q) (e := q) (o := .lst zs) (h' := h') (t' := tk') (by rw [hq]; exact trivial) (.inl rfl) (fun b u hb e => ?_) ⟨_, hS⟩ ⟨hz, its, c, rv, by rw [hS, ← eacc]⟩
  · exact hR _ I3
  · by_cases hbi : b = it
    · rw [hbi] at e
      have e' : (s.heap.update it fun o => { o with data := .freed }).get? it = some u := e
      rw [hgone] at e'
      cases e'
    · have e' : (s.heap.update it fun o => { o with data := .freed }).get? b = some u := e
      rw [Heap.get?_update_ne _ _ _ _ hbi] at e'
      exact mv.heap b u (by simp [hb, hbi]) e'

/-- list(o) -/
theorem cr_ownList (DI : OwnIt X k C f fd x) (DL : OwnLen X k C fl fdl x) (hc : X.calm = true) (hr : Room (k + 4) X.A) : CallR X (.type "list") (rOwnList X.K C x) := by
  intro pins s σ H xs us Q I rv h
  obtain ⟨a, dx, t, fs, zs, rfl, ha, hx, ht, hq⟩ := h
  rw [Vals.ref1 rv]
  have hz : zs.length ≤ sizeLine := by
    obtain ⟨_, _, _, hz⟩ := I.tuple ht
    exact hz
  refine callType_codes (Q₁ := fun obj s₁ => obj = .ref s.heap.objs.size ∧ s₁ = { s with heap := s.heap.push { cls := .type "list", data := .seq #[] } }) PySem.F.called_list (PySem.F.typeCall_list_1 _) PySem.F.entry_list_init
    (code_list_new _ ⟨rfl, rfl⟩) fun obj s₁ h₁ => ?_
  obtain ⟨rfl, rfl⟩ := h₁
  have hS : (s.heap.push { cls := .type "list", data := .seq #[] }).get? s.heap.objs.size = some { cls := .type "list", data := .seq #[] } := Heap.get?_push_size _ rfl
  refine ⟨⟨_, hS, rfl⟩, PySem.F.args_list_init_2 _ _, ?_⟩
  have fr : H s.heap.objs.size = none := I.hok.fresh (Nat.le_refl _)
  generalize hqa : s.heap.objs.size = q at *
  have I1 : Inv X pins σ (upd H q (.lst [])) { s with heap := s.heap.push { cls := .type "list", data := .seq #[] } } := by
    rw [← hqa]
    exact I.lnew (its := []) (t' := s.toks) .nil (Nat.zero_le _)
  show wpAny _ _ (do let old ← Builtin.List.listItems (.ref q); Builtin.List.listUpdate (.ref q) (fun _ => #[]); letGo old.toList.reverse; Builtin.List.listExtendWith (.ref q) (.ref a) .none) _ _ _
  refine wpAny_bind ?_
  unfold Builtin.List.listItems
  refine wpAny_bind (wpAny_seqItems hS rfl (wpAny_pure ?_))
  show wpAny _ _ (updateSeq q (fun _ => #[]) >>= fun _ => letGo (#[] : Array Value).toList.reverse >>= fun _ => Builtin.List.listExtendWith (.ref q) (.ref a) .none) _ _ _
  refine wpAny_bind (wpAny_updateSeq hS rfl ?_)
  have I2 := I1.lset (f := fun _ => #[]) (its := []) (its' := []) (ys := []) (t' := s.toks) upd_same hS rfl .nil (Nat.zero_le _)
  rw [upd_upd] at I2
  refine wpAny_bind (wpAny_letGo ?_)
  have neq : ∀ {b : Addr} {o : HO}, H b = some o → b ≠ q := fun e => ne_of_none e fr
  have ha2 : upd H q (.lst []) a = some (.ins C dx fs) := by rw [upd_ne (neq ha)]; exact ha
  have ht2 : SqT X.K (upd H q (.lst [])) t zs := SqT.ext ht fun b o e => by rw [upd_ne (neq e)]; exact e
  generalize hH1 : upd H q (.lst []) = H1 at I2 ha2 ht2
  have hq1 : H1 q = some (.lst []) := by rw [← hH1]; exact upd_same
  -- the extension
  have hne : q ≠ a := (neq ha).symm
  obtain ⟨ox, od, J⟩ := inst_of I2 ha2
  unfold Builtin.List.listExtendWith
  refine wpAny_bind (J.type.here ?_)
  have h1 : Builtin.List.listSameRef (.ref q) (.ref a) = false := by simp [Builtin.List.listSameRef, hne]
  have h2 : (Value.ref C == Value.type "list") = false := rfl
  have h3 : (Value.ref C == Value.type "tuple") = false := rfl
  simp only [h1, h2, h3, Bool.or_false, Bool.false_eq_true, if_false]
  have hr2 : Room (k + 2) X.A.in1.in1 := Room.in1 (Room.in1 hr)
  have e2 : Env0 X.prog X.w X.K X.mg X.base X.A.in1.in1 X.stack _ H1 := (I2.env0).in1.in1
  refine wpAny_bind (own_iter DI (hr2.mono (by omega)) e2 I2 ha2 hx ht2 fun it s2 hn hs I3 => ?_)
  have hit : ∀ {b : Addr} {o : HO}, H1 b = some o → b ≠ it := fun e => ne_of_none e hn
  have e3 : Env0 X.prog X.w X.K X.mg X.base X.A.in1.in1 X.stack s2 (upd H1 it (TIt t it)) := (I3.env0).in1.in1
  have ha3 : upd H1 it (TIt t it) a = some (.ins C dx fs) := by rw [upd_ne (hit ha2)]; exact ha2
  have ht3 : SqT X.K (upd H1 it (TIt t it)) t zs := SqT.ext ht2 fun b o e => by rw [upd_ne (hit e)]; exact e
  refine wpAny_bind (wpAny_holding (own_hint2 DL (hr2.mono (by omega)) e3 I3 ha3 hx ht3 hz fun b s3 I4 => ?_))
  have hs0 : X.s_0.heap.objs.size ≤ it := by
    refine Nat.le_trans I.sz (Nat.le_trans ?_ hs)
    show s.heap.objs.size ≤ ((s.heap.push _).update _ _).objs.size
    rw [Heap.size_update, Heap.size_push]
    exact Nat.le_succ _
  have fin : ∀ s', Inv X pins σ (upd H1 it (TIt t it)) s' → wpAny (model X.prog X.w) X.A.in1.in1 (again (.builtin "list.extend.loop" ⟨[.ref q, .ref it, .none], []⟩))
      (fun fin s' => match fin with | .done f => wants (fun r s₂ => r = .none ∧ EP X pins σ Q (.ref q) s₂) X.xe (.ok f) s' | .again c' => c'.quiet = true ∧ codeAny (model X.prog X.w) X.A.in1 c' (wants (fun r s₂ => r = .none ∧ EP X pins σ Q (.ref q) s₂) X.xe) s')
      (fun e s' => wants (fun r s₂ => r = .none ∧ EP X pins σ Q (.ref q) s₂) X.xe (.error e) s') s' := fun s' I5 =>
    wpAny_pure ⟨plainId_quiet PySem.F.plain_extend_loop _, fill_own (H := H1) (by show X.A.in1.in1.handled = none; simp [I.ok.hd hc]) I5 hq1 hn hs0 ht2 fun s6 I6 => ⟨rfl, .ref q, _, I6, rfl, by rw [← hH1, upd_upd]; exact hq q fr⟩⟩
  have hq3 : upd H1 it (TIt t it) q = some (.lst []) := by rw [upd_ne (hit hq1)]; exact hq1
  refine wpAny_ite_split (fun _ => ?_) (fun _ => fin _ I4)
  obtain ⟨z, its, k0, r3, hl3, e5⟩ := I4.lstM hq3
  cases r3
  refine wpAny_bind (wpAny_rule ?_)
  refine wpAny_bind ?_
  show wpAny _ _ (updateSeq q (·.push .none) >>= fun _ => updateSeq q (·.pop)) _ _ _
  refine wpAny_bind (wpAny_updateSeq e5 rfl ?_)
  have I5 := I4.lset (f := (·.push Value.none)) (its' := [Value.none]) (ys := [.non]) (t' := s3.toks) hq3 e5 (by simp) (.cons rfl .nil) (by rw [List.length_singleton, sizeLine_eq]; decide)
  obtain ⟨z4, its4, k4, r4, hl4, e6⟩ := I5.lstM upd_same
  obtain ⟨u4, rfl, ru4⟩ := r4.one
  refine wpAny_updateSeq e6 rfl ?_ (by show 1 ≤ sizeLine; rw [sizeLine_eq]; decide) (by show 0 ≤ sizeLine + 1; exact Nat.zero_le _)
  have I6 := I5.lset (f := (·.pop)) (its := [u4]) (its' := []) (ys := []) (t' := s3.toks) upd_same e6 (by rfl) .nil (Nat.zero_le _)
  rw [upd_upd] at I6
  have hH : upd (upd H1 it (TIt t it)) q (.lst []) = upd H1 it (TIt t it) := by
    funext b
    by_cases hb : b = q
    · rw [hb, upd_same, hq3]
    · rw [upd_ne hb]
  rw [hH] at I6
  exact fin _ I6
end
end NkO
end
section
set_option Elab.async false
set_option linter.all false
set_option maxRecDepth 100000
set_option maxHeartbeats 4000000
/-! sorted(xs, key=f), f a def of the module whose answer is data -/
namespace NkO
open PySem PySem.Spec PyProof.Rows L2 NkS

section
variable {X : Cx} {pins : List (Addr × Obj)} {σ : L2.St} {H : Hp} {s : Shared}
theorem dpAll_ext {K : PySem.W.Frag} {H H' : Hp} (e : Ext H H') : ∀ {vs : List V} {ds : List PyData}, DpAll K H vs ds → DpAll K H' vs ds := by
  intro vs ds
  have one : ∀ (d : PyData) (v : V), Dp K H v d → Dp K H' v d := by
    intro d v h
    exact Dp.rec (motive_1 := fun v d _ => Dp K H' v d) (motive_2 := fun vs ds _ => DpAll K H' vs ds) .non .bl .int .str (fun hs _ ih => .lst (SqL.ext hs e) ih) (fun hs _ ih => .tup (SqT.ext hs e) ih) .nil (fun _ _ i1 i2 => .cons i1 i2) h
  intro h
  induction ds generalizing vs with
  | nil => cases h; exact .nil
  | cons d ds ih => cases h with | cons h1 h2 => exact .cons (one _ _ h1) (ih h2)
theorem dp_ext {K : PySem.W.Frag} {H H' : Hp} (e : Ext H H') {v : V} {d : PyData} (h : Dp K H v d) : Dp K H' v d := by
  have q := dpAll_ext e (.cons h .nil)
  cases q with | cons h1 _ => exact h1
theorem dpAll_snoc {K : PySem.W.Frag} {H : Hp} {v : V} {d : PyData} : ∀ {vs : List V} {ds : List PyData}, DpAll K H vs ds → Dp K H v d → DpAll K H (vs ++ [v]) (ds ++ [d])
  | _, _, .nil, h => .cons h .nil
  | _, _, .cons h1 h2, h => .cons h1 (dpAll_snoc h2 h)
theorem dpAll_len {K : PySem.W.Frag} {H : Hp} : ∀ {vs : List V} {ds : List PyData}, DpAll K H vs ds → vs.length = ds.length
  | _, _, .nil => rfl
  | _, _, .cons _ h => congrArg Nat.succ (dpAll_len h)
theorem dpAll_each (I : Inv X pins σ H s) : ∀ {vs : List V} {us : List Value} {ds : List PyData}, Vals vs us → DpAll X.K H vs ds → PySem.W.EachIs (fun v k => ∃ as, Reads s.heap v k as) us ds
  | _, _, _, .nil, .nil => .nil
  | _, _, _, .cons r t, .cons h1 h2 => .cons (Dp.reads I _ _ _ h1 r) (dpAll_each I t h2)
end

section
variable {X : Cx} {k : Nat} {f : Addr} {fd : FuncData} {ps : List Str} {sp : Sp} {κ : Type}
/-- sorted(xs, key=f) -/
def rSortKey (K : PySem.W.Frag) (f : Addr) (sp : Sp) (enc : κ → PyData) : List V → List V → Hp → VK → Prop := fun vs zs H Q => ∃ (l : Addr) (M : List (V × κ)), vs = [V.ref l] ∧ zs = [V.ref f] ∧ SqL K H l (M.map (·.1)) ∧
  (∀ m ∈ M, ∀ H', Ext H H' → sp [m.1] H' (fun v H'' => Ext H' H'' ∧ Dp K H'' v (enc m.2)) E0) ∧ PySem.W.AllAlike (M.map fun m => enc m.2) ∧ PySem.W.Sortable (M.map fun m => enc m.2) ∧ (∀ m ∈ M, (enc m.2).depth ≤ 8) ∧
  ∀ (H' : Hp) (p : Addr), Ext H H' → H p = none → H' p = some (.lst ((M.mergeSort (PySem.W.dataLe false fun m => enc m.2)).map (·.1))) → Q (.ref p) H'

theorem cr_sortKey (enc : κ → PyData) (F : FnOk X.prog X.w X.K X.mg X.base CX0 k f fd ps sp) (hb : Binds X.K fd ps []) (hc : X.calm = true) (hr : Room (k + 2) X.A) : CallRK X (.builtin "sorted") [Str.ofString "key"] (rSortKey X.K f sp enc) := by
  intro pins s σ H xs zs us ws Q I r r' h
  obtain ⟨l, M, rfl, rfl, hl, hsp, hal, hsk, h8, q⟩ := h
  rw [Vals.ref1 r, Vals.ref1 r']
  obtain ⟨its, rv, pl, hz⟩ := I.list hl
  have hlen : its.length = M.length := by rw [← rv.length, List.length_map]
  have hZ : its.length ≤ sizeLine := by rw [← rv.length]; exact hz
  have hcz : (PySem.W.copyHeap s.heap its).objs.size = s.heap.objs.size + 2 := by
    unfold PySem.W.copyHeap
    rw [size_push', Heap.size_update, size_push']
  refine PySem.W.sorted_of_sort pl.isList hZ (ksk_s1 _ _) (fun x => ksk_l1 _ _) fun E' => ?_
  show wpAny _ _ (Builtin.«list.sort» ⟨[.ref (s.heap.objs.size + 1)], [(Str.ofString "key", .ref f)]⟩) _ _ _
  rw [ksk_t1]
  have ha := PySem.W.copyHeap_at s.heap its
  have kc : ∀ b o, s.heap.get? b = some o → (PySem.W.copyHeap s.heap its).get? b = some o := fun b o e => PySem.W.copyHeap_old e
  -- the two lists of the sort
  obtain ⟨a, ea⟩ : ∃ a, a = s.heap.objs.size + 1 := ⟨_, rfl⟩
  rw [← ea] at ha ⊢
  obtain ⟨e1, ho1⟩ : ∃ e1, ((PySem.W.copyHeap s.heap its).update a (Obj.mapSeq fun _ => (#[] : Array Value))).get? a = some (seqObj "list" #[] e1) := ⟨_, get?_update_seq ha fun _ => #[]⟩
  have hsz2 : ((PySem.W.copyHeap s.heap its).update a (Obj.mapSeq fun _ => (#[] : Array Value))).objs.size = s.heap.objs.size + 2 := by rw [Heap.size_update, hcz]
  unfold ksk_tree
  refine wpAny_bind (listItems_at ha rfl ?_)
  refine wpAny_bind (listUpdate_at ha rfl ?_ (by rw [List.size_toArray]; exact hZ) (Nat.zero_le _))
  refine wpAny_bind (seqEpoch_at ho1 rfl ?_)
  refine wpAny_bind (wpAny_newTuple ?_ (by show its.length ≤ _; exact hZ))
  refine wpAny_bind (wpAny_newList ?_ (Nat.zero_le _))
  refine wpAny_holding ?_
  obtain ⟨kS, ekS⟩ : ∃ kS, kS = (((PySem.W.copyHeap s.heap its).update a (Obj.mapSeq fun _ => (#[] : Array Value))).push (seqObj "tuple" its.toArray 0)).objs.size := ⟨_, rfl⟩
  have hkS : kS = s.heap.objs.size + 3 := by rw [ekS, size_push', hsz2]
  show wpAny (model X.prog X.w) X.A.in1.in1 (ksk_rest a (.ref f) false its.toArray e1 (.ref (((PySem.W.copyHeap s.heap its).update a (Obj.mapSeq fun _ => (#[] : Array Value))).push (seqObj "tuple" its.toArray 0)).objs.size)) _ _
    { s with heap := (((PySem.W.copyHeap s.heap its).update a (Obj.mapSeq fun _ => (#[] : Array Value))).push (seqObj "tuple" its.toArray 0)).push (seqObj "list" #[] 0) }
  have k0 : ∀ b o, s.heap.get? b = some o → ((((PySem.W.copyHeap s.heap its).update a (Obj.mapSeq fun _ => (#[] : Array Value))).push (seqObj "tuple" its.toArray 0)).push (seqObj "list" #[] 0)).get? b = some o := fun b o e => by
    have hlt := Heap.lt_size e
    refine Heap.get?_push_of_some _ (Heap.get?_push_of_some _ ?_)
    rw [Heap.get?_update_ne _ _ _ _ (by rw [ea]; exact Nat.ne_of_lt (Nat.lt_succ_of_lt hlt))]
    exact kc b o e
  have nk0 : ((((PySem.W.copyHeap s.heap its).update a (Obj.mapSeq fun _ => (#[] : Array Value))).push (seqObj "tuple" its.toArray 0)).push (seqObj "list" #[] 0)).get? kS = some (seqObj "list" #[] 0) := by
    rw [ekS]
    exact Heap.get?_push_size _ rfl
  have na0 : ((((PySem.W.copyHeap s.heap its).update a (Obj.mapSeq fun _ => (#[] : Array Value))).push (seqObj "tuple" its.toArray 0)).push (seqObj "list" #[] 0)).get? a = some (seqObj "list" #[] e1) := Heap.get?_push_of_some _ (Heap.get?_push_of_some _ ho1)
  rw [← ekS]
  generalize ((((PySem.W.copyHeap s.heap its).update a (Obj.mapSeq fun _ => (#[] : Array Value))).push (seqObj "tuple" its.toArray 0)).push (seqObj "list" #[] 0)) = h0 at k0 nk0 na0 ⊢
  have I0 : Inv X pins σ H { s with heap := h0 } := I.kept (t' := s.toks) k0
  have fa : FpOk X pins H a := I.fpOk (by omega) (I.hok.fresh (by omega))
  have fk : FpOk X pins H kS := I.fpOk (by omega) (I.hok.fresh (by omega))
  have hak : kS ≠ a := by omega
  have hu := hr.un
  obtain ⟨kz, ekz⟩ : ∃ kz, kz = M.map (fun m => enc m.2) := ⟨_, rfl⟩
  have hkz : kz.length = its.length := by rw [ekz, List.length_map, hlen]
  -- the pins of the two
  have pinned : ∀ (s' : Shared) (H' : Hp) (ok : Obj), Inv X pins σ H' s' → s'.heap.get? kS = some ok → (∀ v, ok.data ≠ .cell v) → s'.heap.get? a = some (seqObj "list" #[] e1) → H' kS = none → H' a = none → Inv X ((kS, ok) :: (a, seqObj "list" #[] e1) :: pins) σ H' s' := fun s' H' ok J e1' hcell e2' n1 n2 => by
    refine J.pins_of fun p hp => ?_
    rcases List.mem_cons.mp hp with e | hp
    · rw [e]; exact ⟨e1', n1, fk.2.1, fk.2.2.1, hcell⟩
    · rcases List.mem_cons.mp hp with e | hp
      · rw [e]; exact ⟨e2', n2, fa.2.1, fa.2.2.1, fun v z => by cases z⟩
      · exact J.pin p (List.mem_append_right _ hp)
  unfold ksk_rest
  refine wpAny_bind (wpAny_rule ?_)
  first
    | rw [List.forIn_toArray]
    | (rw [← Array.forIn_toList]; simp only [List.toList_toArray])
    | rw [← Array.forIn_toList]
  refine wpAny_bind (ksk_fold (fun i s' => ∃ (H' : Hp) (kvs : List V) (kA : Array Value) (e : Nat), Inv X pins σ H' s' ∧ Ext H H' ∧ H' kS = none ∧ H' a = none ∧ s'.heap.get? kS = some (seqObj "list" kA e) ∧ s'.heap.get? a = some (seqObj "list" #[] e1) ∧ Vals kvs kA.toList ∧ DpAll X.K H' kvs (kz.take i)) its 0 _
    ⟨H, [], #[], 0, I0, Ext.rfl', fk.1, fa.1, nk0, na0, .nil, by rw [List.take_zero]; exact .nil⟩ ?step ?done)
  case step =>
    rintro j x s' hx ⟨H', kvs, kA, e, J, ex, n1, n2, g1, g2, rk, dk⟩
    simp only [Nat.zero_add] at dk ⊢
    have hj : j < its.length := (List.getElem?_eq_some_iff.mp hx).1
    have hjM : j < M.length := by omega
    have hm : M[j] ∈ M := List.getElem_mem hjM
    have hxv : RelV M[j].1 x := by
      obtain ⟨u, hu1, hu2⟩ := rv.get (i := j) (x := M[j].1) (by rw [List.getElem?_map, List.getElem?_eq_getElem hjM]; rfl)
      rw [hx] at hu1
      cases hu1
      exact hu2
    have hkj : kz[j]? = some (enc M[j].2) := by rw [ekz, List.getElem?_map, List.getElem?_eq_getElem hjM]; rfl
    have J2 := pinned s' H' _ J g1 (fun v z => by cases z) g2 n1 n2
    have hkl : kA.size = j := by
      have q1 : kvs.length = kA.size := by rw [← kA.length_toList]; exact rk.length
      have q2 := dpAll_len dk
      rw [List.length_take, Nat.min_eq_left (by omega)] at q2
      omega
    have hb' := hb s' [x] J.kIn (by rw [← F.len _ _ _ _ (hsp _ hm H' ex)]; rfl)
    refine wpAny_bind (wpAny_attempt (wpAny_call (codeAny_mono (F.run X.A.in1.in1 X.stack s' H' ⟨[x], []⟩ [x] [M[j].1] _ E0 (hr.in1.in1) (J.env0.in1.in1) (by simpa using hb') (.cons hxv .nil) (hsp _ hm H' ex)) fun r s2 hq => ?_)))
    cases r with
    | error er => exact hq.elim
    | ok fl =>
      cases fl with
      | next => exact False.elim hq
      | brk => exact False.elim hq
      | cont => exact False.elim hq
      | ret u =>
        obtain ⟨v, H2, J3, ru, x2, dv⟩ := J2.after hq
        have p1 := J3.pin _ (List.mem_append_right _ List.mem_cons_self)
        have p2 := J3.pin _ (List.mem_append_right _ (List.mem_cons_of_mem _ List.mem_cons_self))
        have J4 : Inv X pins σ H2 s2 := J3.pins_of fun p hp => J3.pin p (List.mem_append_right _ (List.mem_cons_of_mem _ (List.mem_cons_of_mem _ hp)))
        dsimp only at p1 p2 ⊢
        have sb := Heap.SameBut.update s2.heap kS (Obj.mapSeq (·.push u))
        obtain ⟨c2, hc2⟩ : ∃ c2, (s2.heap.update kS (Obj.mapSeq (·.push u))).get? kS = some (seqObj "list" (kA.push u) c2) := ⟨_, get?_update_seq p1.1 (·.push u)⟩
        have J5 : Inv X pins σ H2 { s2 with heap := s2.heap.update kS (Obj.mapSeq (·.push u)) } := J4.turned (t' := s2.toks) (fun b o hb e => (sb.2 b hb).trans e) p1.2.1 fk.2.1 fk.2.2.2.1 fk.2.2.2.2.1 fk.2.2.2.2.2
        refine wpAny_bind (listUpdate_at p1.1 rfl ?_ (by omega) (by rw [Array.size_push]; omega))
        refine wpAny_pure ⟨rfl, H2, kvs ++ [v], kA.push u, c2, J5, ex.trans x2, p1.2.1, p2.2.1, hc2, (sb.2 a hak.symm).trans p2.1, by rw [Array.toList_push]; exact rk.append (.cons ru .nil), ?_⟩
        have ek : kz.take (j + 1) = kz.take j ++ [enc M[j].2] := by rw [List.take_add_one, hkj]; simp
        rw [ek]
        exact dpAll_snoc (dpAll_ext x2 dk) dv
  case done =>
    rintro s' ⟨H', kvs, kA, e, J, ex, n1, n2, g1, g2, rk, dk⟩
    rw [List.take_of_length_le (by omega)] at dk
    have er := dpAll_each J rk dk
    have hkl : kA.size = its.length := by
      have q1 : kvs.length = kA.size := by rw [← kA.length_toList]; exact rk.length
      have q2 := dpAll_len dk
      omega
    refine wpAny_bind (listItems_at g1 rfl ?_)
    have hgone : (s'.heap.update kS fun o => { o with data := .freed }).get? kS = none := freed_none g1
    have hal' : PySem.W.AllAlike kz := by rw [ekz]; exact hal
    have hsk' : PySem.W.Sortable kz := by rw [ekz]; exact hsk
    refine PySem.W.keyH_end (κ := PySem.W.dataKind s'.heap kz) (vs := its) (h₁ := s'.heap.update kS fun o => { o with data := .freed }) (fun b o hb z => ?_) hgone g1 g2 hak (PySem.W.SortsAt.data er hal' hsk' fun d hd => ?_) hkl hZ fun h' tk c kp hD => ⟨rfl, ?_⟩
    · by_cases hbk : b = kS
      · rw [hbk, hgone] at z
        cases z
      · rw [Heap.get?_update_ne _ _ _ _ hbk] at z
        exact z
    · have h8' : d.depth ≤ 8 := by
        rw [ekz] at hd
        obtain ⟨m, hm, rfl⟩ := List.mem_map.mp hd
        exact h8 m hm
      show X.A.units + 1 + 1 + d.depth < cLine
      omega
    · -- the sorted list
      have ko : PySem.W.KeyedOut false (M.map fun m => enc m.2) its (PySem.W.sortVals (PySem.W.dataKind s'.heap kz) false kA.toList its) := ⟨s'.heap, kA.toList, hal, by rw [ekz], by rw [← ekz]; exact er⟩
      have eo := PySem.W.keyedOut_each (R := fun (u : Value) (m : V × κ) => RelV m.1 u) (fun m : V × κ => enc m.2) ko (each_of_vals rv)
      generalize PySem.W.sortVals (PySem.W.dataKind s'.heap kz) false kA.toList its = out at eo hD
      have hv := vals_of_each eo
      have hlen2 : ((M.mergeSort (PySem.W.dataLe false fun m : V × κ => enc m.2)).map (·.1)).length ≤ sizeLine := by rw [List.length_map, List.length_mergeSort, ← hlen]; exact hZ
      have keepB : ∀ b o, b ≠ a → b ≠ kS → s'.heap.get? b = some o → h'.get? b = some o := fun b o hb hk z => kp b o hb (by rw [Heap.get?_update_ne _ _ _ _ hk]; exact z)
      have J6 : Inv X pins σ (upd H' a (.lst ((M.mergeSort (PySem.W.dataLe false fun m : V × κ => enc m.2)).map (·.1)))) { s' with heap := h', toks := tk } := by
        refine J.step (g' := s'.gens) (d' := s'.drawn) (t' := tk) (ch := [a, kS]) (fun b hb => ?_) (fun b o _ _ hc e _ => keepB b o (fun z => hc (by simp [z])) (fun z => hc (by simp [z])) e) (fun b o _ _ hc e _ => ⟨o.slots, keepB b o (fun z => hc (by simp [z])) (fun z => hc (by simp [z])) e⟩)
          (fun b o hc e n => by rw [upd_ne (fun z => hc (by simp [z]))]; exact n) (fun b o hc e => ⟨o, keepB b o (fun z => hc (by simp [z])) (fun z => hc (by simp [z])) e⟩) (fun b xs e => ?_) (fun b o u e => ?_) (fun b ps e => ⟨#[], ?_⟩) (fun m hm => ?_) (fun b u e => ?_) J.bare
        · rcases List.mem_cons.mp hb with e | hb
          · rw [e]; exact ⟨fa.2.2.2.1, fa.2.1, fa.2.2.2.2.1, fa.2.2.2.2.2⟩
          · rw [List.mem_singleton.mp hb]; exact ⟨fk.2.2.2.1, fk.2.1, fk.2.2.2.2.1, fk.2.2.2.2.2⟩
        · rw [upd_ne (ne_of_none e n2)]; exact e
        · rw [upd_ne (ne_of_none e n2)]; exact e
        · rw [upd_ne (ne_of_none e n2), e]; simp
        · obtain ⟨o, es, ep, ho, rr⟩ := hm
          exact ⟨o, es, ep, keepB _ o (Ne.symm fa.2.1) (Ne.symm fk.2.1) ho, rr⟩
        · by_cases hb : b = a
          · rw [hb, upd_same] at e
            rw [hb, ← Option.some.inj e]
            exact ⟨hlen2, out, c, hv, hD⟩
          · rw [upd_ne hb] at e
            refine (J.hok b u e).stay (fun c' v hc' q' => ?_) (fun c' q' => by rw [upd_ne (ne_of_none q' n2)]; exact q') fun c' xs q' => by rw [upd_ne (ne_of_none q' n2)]; exact q'
            have nz : ∀ {c'' : Addr} {u'' : HO}, H' c'' = some u'' → c'' ≠ a ∧ c'' ≠ kS := fun z => ⟨ne_of_none z n2, ne_of_none z n1⟩
            rcases hc' with z | z
            · rw [z] at q' ⊢
              exact keepB _ _ (nz e).1 (nz e).2 q'
            · exact keepB _ _ (nz z).1 (nz z).2 q'
      exact ⟨.ref a, _, J6, rfl, q _ a (fun b o z => by rw [upd_ne (ne_of_none (ex b o z) n2)]; exact ex b o z) fa.1 upd_same⟩
end
end NkO
end
section
set_option Elab.async false
set_option linter.all false
set_option maxRecDepth 100000
set_option maxHeartbeats 4000000
/-! enumerate(t), t a tuple; x in t for data; the read of a list's item for o[i] op= e -/
namespace NkO
open PySem PySem.Spec PyProof.Rows L2

theorem meets_enumerate_newT {v : Value} {o : Obj} {H : Heap → Prop} (B : Begins v o H) :
    Meets (Builtin.«enumerate.__new__» ⟨[.type "enumerate", v], []⟩) (fun _ R s => H s.heap ∧
      R (.ok (.ret (.ref (s.heap.push o).objs.size))) { s with heap := (s.heap.push o).push { cls := .type "enumerate", data := .fields #[.none, .bool false, .ref s.heap.objs.size, rawInt 0, .none, .none] } }) :=
  .of_wp fun prog w A R s h => by
    obtain ⟨hp, g, d, tk, os⟩ := s; obtain ⟨h1, h⟩ := h
    have hsub := sub_enumerate
    have q1 : ∀ {A' : Around} {E : Value → Shared → Prop} {Q : Value → Shared → Prop}, Q (.ref hp.objs.size) ⟨hp.push o, g, d, tk, os⟩ → wpAny (model prog w) A' (pyIter v) Q E ⟨hp, g, d, tk, os⟩ :=
      fun q => B.iter prog w _ _ ⟨hp, g, d, tk, os⟩ _ h1 q
    wp_walk using q1
    refine wpAny_stack_any fun st => wpAny_pure ?_
    split
    · rename_i c _ _ _ _ _
      cases (c == Value.type "enumerate")
      · wp_walk using q1
        exact ⟨_, rfl, h⟩
      · wp_walk using q1
        exact ⟨_, rfl, h⟩
    · wp_walk using q1
      exact ⟨_, rfl, h⟩
section
variable {prog : Program} {w : World} {A : Around} {E : Value → Shared → Prop} {s : Shared}
theorem enum_begins1 {v : Value} {o : Obj} {H : Heap → Prop} {Q : Value → Shared → Prop} (B : Begins v o H) (h1 : H s.heap)
    (h : ∀ h', IsEnum h' (s.heap.objs.size + 1) s.heap.objs.size 0 .none → h'.get? s.heap.objs.size = some o → h'.objs.size = s.heap.objs.size + 2 →
      (∀ b o, s.heap.get? b = some o → h'.get? b = some o) → Q (.ref (s.heap.objs.size + 1)) { s with heap := h' }) :
    wpAny (model prog w) A (call (.type "enumerate") [v]) Q E s := by
  refine callType_new F.called_enumerate (by decide) (F.typeCall_enumerate_1 _) (F.newCall_enumerate_1 _) (fun obj => F.args_object_init_2 obj _) F.entry_enumerate_new
    (meets_enumerate_newT B) ⟨h1, ?_⟩
  have hz : (s.heap.push o).objs.size = s.heap.objs.size + 1 := Heap.size_push ..
  show _ ∧ _
  rw [hz]
  have he : IsEnum ((s.heap.push o).push { cls := .type "enumerate", data := .fields #[.none, .bool false, .ref s.heap.objs.size, rawInt 0, .none, .none] }) (s.heap.objs.size + 1) s.heap.objs.size 0 .none := by
    have := Heap.get?_push_size (s.heap.push o) (o := { cls := .type "enumerate", data := .fields #[.none, .bool false, .ref s.heap.objs.size, rawInt 0, .none, .none] }) rfl
    rw [hz] at this; exact this
  refine ⟨⟨_, he, rfl⟩, h _ he (Heap.get?_push_of_some _ (Heap.get?_push_size _ B.free)) (by rw [Heap.size_push, hz]) fun b o x => Heap.get?_push_of_some _ (Heap.get?_push_of_some _ x)⟩
end

/-- the tuple at a, with the count -/
def IteT (K : PySem.W.Frag) (a : Addr) : It :=
  ⟨fun i H => ∃ (xs : List V) (x : V), SqT K H a xs ∧ xs[i]? = some x, fun i H v H' => ∃ T x, v = .ref T ∧ H T = none ∧ H' = upd H T (.tup [.int (i : Nat), x]) ∧ ∀ xs, SqT K H a xs → xs[i]? = some x, fun i H => ∃ xs : List V, SqT K H a xs ∧ xs.length ≤ i⟩
theorem turn_enumT {P : Program} {w : World} {K : PySem.W.Frag} {elts : List Expr} {kk : Nat} {tpos : Pos} (a e it : Addr) :
    Turn P w K (.Tuple elts kk tpos) (IteT K a) [e, it] e (fun i h => (∃ old, IsEnum h e it ((i : Nat) : Int) old) ∧ h.IsTupleIter it a i ∧ e ≠ it) where
  mem := by simp
  obj := fun i h st b hb => by
    obtain ⟨⟨old, he⟩, ⟨o, ho, hc, hd⟩, _⟩ := st
    have e' : b = e ∨ b = it := by simpa using hb
    rcases e' with z | z
    · rw [z]; exact ⟨_, he, fun v q => nomatch q⟩
    · rw [z]; exact ⟨o, ho, fun v q => by rw [hd] at q; cases q⟩
  keep := fun i h h' st k => let ⟨⟨old, he⟩, hi, hne⟩ := st; ⟨⟨old, k e (by simp) _ he⟩, hi.at fun o q => k it (by simp) o q, hne⟩
  item := by
    intro X hP hw hK hc i pins s σ H E I hf st hg
    subst hP hw hK
    obtain ⟨⟨old, he⟩, hit, hne⟩ := st
    obtain ⟨xs, x, hq, hx⟩ := hg
    obtain ⟨its, rv, p, hz⟩ := I.tuple hq
    have p : s.heap.IsTuple a its.toArray := p
    obtain ⟨u, hu, ru⟩ := rv.get hx
    have hel : e < s.heap.objs.size := Heap.lt_size he
    have hil : it < s.heap.objs.size := by obtain ⟨_, q, _⟩ := hit; exact Heap.lt_size q
    have hai : a ≠ it := by
      rintro rfl
      obtain ⟨o, ho, hcl, n, hd⟩ := id p
      obtain ⟨o2, ho2, hc2, hd2⟩ := id hit
      rw [ho] at ho2
      have := Option.some.inj ho2
      rw [this] at hcl
      rw [hcl] at hc2
      injection hc2 with hc2
      exact absurd hc2 (by decide)
    have hae : a ≠ e := by
      rintro rfl
      obtain ⟨o, ho, hcl, n, hd⟩ := id p
      rw [he] at ho
      have := Option.some.inj ho
      rw [← this] at hcl
      injection hcl with hc2
      exact absurd hc2 (by decide)
    have hlt : i < its.toArray.size := by
      have := (List.getElem?_eq_some_iff.mp hu).1
      simpa using this
    refine wpAny_pyNext_enum_itemD (Draws.tuple (prog := X.prog) (w := X.w) (A := X.A.in1) (I.ok.hd hc) it a hai its.toArray) he ⟨hit, p⟩ hlt hne (by simp [hne, Ne.symm hae]) fun x' h' tk hx' ho st' hT hsz hk => ?_
    have ex : x' = u := by
      have : its[i]? = some x' := by simpa using hx'
      rw [hu] at this; exact (Option.some.inj this).symm
    subst ex
    refine ⟨_, rfl, wpAny_letOwnedTupleGo_enum (s := { s with heap := h', toks := tk + 1 }) ho fun h'' he' sb => ?_⟩
    have hT2 : h''.get? s.heap.objs.size = some { cls := .type "tuple", data := .seq #[.int i tk, x'] } := (sb.2 _ (Nat.ne_of_gt hel)).trans hT
    have new : ObjOk X.prog X.w (upd H s.heap.objs.size (.tup [.int (i : Nat), x])) h'' s.heap.objs.size (.tup [.int (i : Nat), x]) :=
      ⟨by show 2 ≤ sizeLine; decide, [.int i tk, x'], .cons ⟨_, rfl⟩ (.cons ru .nil), ⟨_, hT2, rfl, _, rfl⟩⟩
    have I1 : Inv X pins σ (upd H s.heap.objs.size (.tup [.int (i : Nat), x])) { s with heap := h'', toks := tk + 1 } :=
      I.turnedNew (ch := [e, it]) (fun b ob hb q => (sb.2 b (fun z => hb (by simp [z]))).trans (hk b ob (fun z => hb (by simp [z])) (fun z => hb (by simp [z])) q)) hf (Nat.le_refl _) new
    refine ⟨.ref s.heap.objs.size, _, I1, rfl, ⟨_, x, rfl, I.hok.fresh (Nat.le_refl _), rfl, fun ys hy => by rw [I.tuple_inj hy hq]; exact hx⟩, ⟨⟨x', ?_⟩, st'.1.at fun o q => (sb.2 it (Ne.symm hne)).trans q, hne⟩, fun b hb => ?_⟩
    · have e1 : ((i + 1 : Nat) : Int) = (i : Int) + 1 := by omega
      rw [e1]; exact he'
    · have hb' : b < s.heap.objs.size := by
        have e' : b = e ∨ b = it := by simpa using hb
        rcases e' with z | z
        · rw [z]; exact hel
        · rw [z]; exact hil
      rw [upd_ne (Nat.ne_of_lt hb')]
      exact (hf b hb).1
  done := by
    intro X hP hw hK hc i pins s σ H E I hf st hg
    subst hP hw hK
    obtain ⟨⟨old, he⟩, hit, hne⟩ := st
    obtain ⟨xs, hq, hx⟩ := hg
    obtain ⟨its, rv, p, hz⟩ := I.tuple hq
    have p : s.heap.IsTuple a its.toArray := p
    have hai : a ≠ it := by
      rintro rfl
      obtain ⟨o, ho, hcl, n, hd⟩ := id p
      obtain ⟨o2, ho2, hc2, hd2⟩ := id hit
      rw [ho] at ho2
      have := Option.some.inj ho2
      rw [this] at hcl
      rw [hcl] at hc2
      injection hc2 with hc2
      exact absurd hc2 (by decide)
    obtain ⟨f0, f1, f2, f3, f4, f5⟩ := hf it (by simp)
    have hl := rv.length
    have hT : s.TypeIs (.ref e) "enumerate" := ⟨_, he, rfl⟩
    have nx : its.toArray[i]? = none := by rw [Array.getElem?_eq_none_iff]; simp; omega
    unfold pyNext
    refine wpAny_bind (wpAny_attempt (wpAny_callSpecial?_slot (name := Str.ofString "__next__") hT F.slot_enumerate_next
      (wpAny_call_entry F.slot_enumerate_next hT F.entry_enumerate_next ?_ (F.args_enumerate_next_1 _))))
    show wpAny _ _ (field (.ref e) 2 >>= _) _ _ _
    refine wpAny_bind (wpAny_field he rfl (x := .ref it) rfl ?_)
    refine wpAny_bind (wpAny_nextOf_tuple_end (I.ok.hd hc) hit p nx fun h' x' he' hx' => ?_)
    obtain ⟨o, ho, hc'⟩ := hx'
    refine wpAny_bind (wpAny_isInstance (T := "StopIteration") (b := true) ⟨o, ho, hc'⟩ isSubtype_stop ?_)
    exact wpAny_pure ⟨rfl, I.turned (t' := s.toks) (fun b o hb q => he' b o hb q) f0 f1 f3 f4 f5⟩
  self := fun A i s Q E st h => let ⟨⟨_, he⟩, _⟩ := st; wpAny_pyIter_enum he h
def iEnumT (K : PySem.W.Frag) (ta : TA) : TI := fun σ H R => ta σ H fun vs H1 => ∃ a xs, vs = [.ref a] ∧ SqT K H1 a xs ∧ R (IteT K a) H1
theorem pi_enumT {X : Cx} {e : Expr} {ta : TA} {p pos tpos : Pos} {elts : List Expr} {kk : Nat} (hg : Gl X "enumerate") (hm : X.mg "enumerate" = none) (ha : PA X [e] ta) (hs : starEach [e] X.env = [(false, eval e X.env)] := by rfl) :
    PI X (.Tuple elts kk tpos) (.Call (.Name "enumerate" p) [e] [] pos) (iEnumT X.K ta) := by
  refine ⟨fun pins s σ H R I h => ?_⟩
  refine Call_ (ld_blt I hg hm boot_enumerate (PyProof.Rows.callWith_type1 (thn (ha.run pos pins s σ H _ I h) fun us s1 ⟨vs, H1, I1, r1, q1⟩ => ?_) hs rfl))
  obtain ⟨a, xs, ex, hq, q⟩ := q1
  subst ex
  cases r1 with
  | cons r rr =>
    cases rr
    cases r
    obtain ⟨its, rv, p', hz⟩ := I1.tuple hq
    have p'' : s1.heap.IsTuple a its.toArray := p'
    refine enum_begins1 (begins_tuple a its.toArray) p'' fun h' he hit hsz hk => wpAny_pyIter_enum he ?_
    have I2 : Inv X pins σ H1 { s1 with heap := h' } := I1.kept (t' := s1.toks) hk
    refine ⟨s1.heap.objs.size + 1, [s1.heap.objs.size + 1, s1.heap.objs.size], _, _, H1, rfl, I2, turn_enumT a (s1.heap.objs.size + 1) s1.heap.objs.size, ⟨⟨.none, he⟩, ⟨_, hit, rfl, rfl⟩, Nat.succ_ne_self _⟩, fun b hb => ?_, q⟩
    have e' : b = s1.heap.objs.size + 1 ∨ b = s1.heap.objs.size := by simpa using hb
    have hle : s1.heap.objs.size ≤ b := by
      rcases e' with z | z
      · rw [z]; exact Nat.le_add_right _ _
      · rw [z]; exact Nat.le_refl _
    exact I1.fpOk hle (I1.hok.fresh hle)

section
variable {X : Cx}
/-- x in t for data of any depth, t a list or a tuple -/
def rInDT (K : PySem.W.Frag) (f : Bool → Bool) : R2 := fun x y H Q => ∃ d ds, Dp K H x d ∧ (Dp K H y (.list ds) ∨ Dp K H y (.tuple ds)) ∧ SeqAt.shaped d = true ∧ SeqAt.shaped (.list ds) = true ∧ Q (.bl (f (ds.any fun z => PyData.eqv z d))) H
theorem shaped_tl {ds : List PyData} (h : SeqAt.shaped (.list ds) = true) : SeqAt.shaped (.tuple ds) = true := by
  unfold SeqAt.shaped at h ⊢
  simpa [PyData.canLay0, PyData.depth] using h
theorem op_inDT (hu : X.A.units + 65 < cLine) : OpR X (compareOp .In) (rInDT X.K fun b => b) := by
  intro pins s σ H x y v u Q I rx ry h
  obtain ⟨d, ds, hd, he, sd, se, q⟩ := h
  obtain ⟨as, r1⟩ := Dp.reads I d x v hd rx
  rcases he with he | he
  · obtain ⟨bs, r2⟩ := Dp.reads I (.list ds) y u he ry
    exact SeqAt.in_list_reads r2 r1 (SeqAt.canLay_of_shaped se) (SeqAt.canLay_of_shaped sd) (room_in_shaped sd hu) ⟨.bl _, H, I, rfl, q⟩
  · obtain ⟨bs, r2⟩ := Dp.reads I (.tuple ds) y u he ry
    exact SeqAt.in_tuple_reads r2 r1 (SeqAt.canLay_of_shaped se) (SeqAt.canLay_of_shaped sd) (room_in_shaped sd hu) ⟨.bl _, H, I, rfl, q⟩
theorem op_notInDT (hu : X.A.units + 65 < cLine) : OpR X (compareOp .NotIn) (rInDT X.K fun b => !b) := by
  intro pins s σ H x y v u Q I rx ry h
  obtain ⟨d, ds, hd, he, sd, se, q⟩ := h
  obtain ⟨as, r1⟩ := Dp.reads I d x v hd rx
  rcases he with he | he
  · obtain ⟨bs, r2⟩ := Dp.reads I (.list ds) y u he ry
    exact SeqAt.notIn_list_reads r2 r1 (SeqAt.canLay_of_shaped se) (SeqAt.canLay_of_shaped sd) (room_in_shaped sd hu) ⟨.bl _, H, I, rfl, q⟩
  · obtain ⟨bs, r2⟩ := Dp.reads I (.tuple ds) y u he ry
    exact SeqAt.notIn_tuple_reads r2 r1 (SeqAt.canLay_of_shaped se) (SeqAt.canLay_of_shaped sd) (room_in_shaped sd hu) ⟨.bl _, H, I, rfl, q⟩
end
end NkO
end
section
set_option Elab.async false
set_option linter.all false
set_option maxRecDepth 100000
/-! Readings in the large: fresh data, walks over any source, comprehensions and loops over it; a def known by its name. -/
namespace NkR
open PySem PySem.Spec PyProof.Rows L2 NkO

/-! ### data whose lists are new -/
mutual
inductive Df (K : PySem.W.Frag) (H0 H : Hp) : V → PyData → Prop
  | non : Df K H0 H .non .none
  | bl (b : Bool) : Df K H0 H (.bl b) (.bool b)
  | int (i : Int) : Df K H0 H (.int i) (.int i)
  | str (x : Str) : Df K H0 H (.str x) (.str x)
  | lst {a : Addr} {xs : List V} {ds : List PyData} : H0 a = none → H a = some (.lst xs) → DfAll K H0 H xs ds → Df K H0 H (.ref a) (.list ds)
  | tup {a : Addr} {xs : List V} {ds : List PyData} : SqT K H a xs → DfAll K H0 H xs ds → Df K H0 H (.ref a) (.tuple ds)
inductive DfAll (K : PySem.W.Frag) (H0 H : Hp) : List V → List PyData → Prop
  | nil : DfAll K H0 H [] []
  | cons {v : V} {vs : List V} {d : PyData} {ds : List PyData} : Df K H0 H v d → DfAll K H0 H vs ds → DfAll K H0 H (v :: vs) (d :: ds)
end

section
variable {K : PySem.W.Frag} {H0 H0' H H' : Hp}
theorem sqT_ext (e : Same H H') {a : Addr} {xs : List V} (h : SqT K H a xs) : SqT K H' a xs := SqT.ext h e
theorem sqL_ext (e : Same H H') {a : Addr} {xs : List V} (h : SqL K H a xs) : SqL K H' a xs := SqL.ext h e

/-- what data ask of the heap -/
theorem df_map (f0 : ∀ a, H0 a = none → H0' a = none) (fl : ∀ a xs, H0 a = none → H a = some (.lst xs) → H' a = some (.lst xs)) (ft : ∀ a xs, SqT K H a xs → SqT K H' a xs) {v : V} {d : PyData} (h : Df K H0 H v d) : Df K H0' H' v d :=
  Df.rec (motive_1 := fun v d _ => Df K H0' H' v d) (motive_2 := fun vs ds _ => DfAll K H0' H' vs ds) .non .bl .int .str (fun h1 h2 _ ih => .lst (f0 _ h1) (fl _ _ h1 h2) ih) (fun h1 _ ih => .tup (ft _ _ h1) ih) .nil (fun _ _ i1 i2 => .cons i1 i2) h
theorem dfAll_map (f0 : ∀ a, H0 a = none → H0' a = none) (fl : ∀ a xs, H0 a = none → H a = some (.lst xs) → H' a = some (.lst xs)) (ft : ∀ a xs, SqT K H a xs → SqT K H' a xs) {vs : List V} {ds : List PyData} (h : DfAll K H0 H vs ds) : DfAll K H0' H' vs ds := by
  induction ds generalizing vs with
  | nil => cases h; exact .nil
  | cons d ds ih => cases h with | cons h1 h2 => exact .cons (df_map f0 fl ft h1) (ih h2)
theorem Df.ext {v : V} {d : PyData} (h : Df K H0 H v d) (e : Same H H') : Df K H0 H' v d := df_map (fun _ h => h) (fun _ _ _ h => e _ _ h) (fun _ _ h => sqT_ext e h) h
theorem DfAll.ext {vs : List V} {ds : List PyData} (h : DfAll K H0 H vs ds) (e : Same H H') : DfAll K H0 H' vs ds := dfAll_map (fun _ h => h) (fun _ _ _ h => e _ _ h) (fun _ _ h => sqT_ext e h) h
/-- new since later is new since earlier -/
theorem Df.old {v : V} {d : PyData} (h : Df K H0' H v d) (e : Same H0 H0') : Df K H0 H v d := df_map (fun _ h => e.free h) (fun _ _ _ h => h) (fun _ _ h => h) h
theorem DfAll.old {vs : List V} {ds : List PyData} (h : DfAll K H0' H vs ds) (e : Same H0 H0') : DfAll K H0 H vs ds := dfAll_map (fun _ h => e.free h) (fun _ _ _ h => h) (fun _ _ h => h) h
theorem sqT_upd {D : Addr} {u o : HO} (hD : H D = some u) (nu : ∀ xs, u ≠ .tup xs) (nf : ∀ ob xs, u ≠ .frz ob (.tup xs)) {a : Addr} {xs : List V} (h : SqT K H a xs) : SqT K (upd H D o) a xs := by
  rcases h with (h | ⟨ob, h⟩) | h
  · by_cases q : a = D
    · subst q; rw [hD] at h; exact absurd (Option.some.inj h) (nu xs)
    · exact .inl (.inl (by rw [upd_ne q]; exact h))
  · by_cases q : a = D
    · subst q; rw [hD] at h; exact absurd (Option.some.inj h) (nf ob xs)
    · exact .inl (.inr ⟨ob, by rw [upd_ne q]; exact h⟩)
  · exact .inr h
/-- a change at D that was there before (and is no tuple) -/
theorem Df.updD {D : Addr} {u o : HO} (h0 : H0 D ≠ none) (hD : H D = some u) (nu : ∀ xs, u ≠ .tup xs) (nf : ∀ ob xs, u ≠ .frz ob (.tup xs)) {v : V} {d : PyData} (h : Df K H0 H v d) : Df K H0 (upd H D o) v d :=
  df_map (fun _ h => h) (fun a xs h1 h2 => by rw [upd_ne (fun q : a = D => h0 (q ▸ h1))]; exact h2) (fun _ _ h => sqT_upd hD nu nf h) h
theorem DfAll.updD {D : Addr} {u o : HO} (h0 : H0 D ≠ none) (hD : H D = some u) (nu : ∀ xs, u ≠ .tup xs) (nf : ∀ ob xs, u ≠ .frz ob (.tup xs)) {vs : List V} {ds : List PyData} (h : DfAll K H0 H vs ds) : DfAll K H0 (upd H D o) vs ds :=
  dfAll_map (fun _ h => h) (fun a xs h1 h2 => by rw [upd_ne (fun q : a = D => h0 (q ▸ h1))]; exact h2) (fun _ _ h => sqT_upd hD nu nf h) h
theorem DfAll.snoc {v : V} {d : PyData} : ∀ {vs : List V} {ds : List PyData}, DfAll K H0 H vs ds → Df K H0 H v d → DfAll K H0 H (vs ++ [v]) (ds ++ [d])
  | _, _, .nil, h => .cons h .nil
  | _, _, .cons h1 h2, h => .cons h1 (DfAll.snoc h2 h)
theorem DfAll.append : ∀ {vs ws : List V} {ds es : List PyData}, DfAll K H0 H vs ds → DfAll K H0 H ws es → DfAll K H0 H (vs ++ ws) (ds ++ es)
  | _, _, _, _, .nil, h => h
  | _, _, _, _, .cons h1 h2, h => .cons h1 (DfAll.append h2 h)
theorem DfAll.len : ∀ {vs : List V} {ds : List PyData}, DfAll K H0 H vs ds → vs.length = ds.length
  | _, _, .nil => rfl
  | _, _, .cons _ h => by simp [DfAll.len h]
theorem Df.dp {v : V} {d : PyData} (h : Df K H0 H v d) : Dp K H v d :=
  Df.rec (motive_1 := fun v d _ => Dp K H v d) (motive_2 := fun vs ds _ => DpAll K H vs ds) .non .bl .int .str (fun h1 h2 _ ih => .lst (SqL.of h2) ih) (fun h1 _ ih => .tup h1 ih) .nil (fun _ _ i1 i2 => .cons i1 i2) h
theorem DfAll.dp {vs : List V} {ds : List PyData} (h : DfAll K H0 H vs ds) : DpAll K H vs ds := by
  induction ds generalizing vs with
  | nil => cases h; exact .nil
  | cons d ds ih => cases h with | cons h1 h2 => exact .cons h1.dp (ih h2)
/-- data without a list are always new -/
def flatD : PyData → Bool
  | .list _ => false
  | .dict _ => false
  | .tuple ds => flatDs ds
  | _ => true
where flatDs : List PyData → Bool
  | [] => true
  | d :: ds => flatD d && flatDs ds
theorem df_of_dp : ∀ (d : PyData) (v : V), flatD d = true → Dp K H v d → Df K H0 H v d := by
  intro d v hf h
  exact Dp.rec (motive_1 := fun v d _ => flatD d = true → Df K H0 H v d) (motive_2 := fun vs ds _ => flatD.flatDs ds = true → DfAll K H0 H vs ds)
    (fun _ => .non) (fun b _ => .bl b) (fun i _ => .int i) (fun x _ => .str x) (fun _ _ _ h => by simp [flatD] at h) (fun hs _ ih h => .tup hs (ih (by simpa [flatD] using h))) (fun _ => .nil)
    (fun _ _ i1 i2 h => by
      simp [flatD.flatDs] at h
      exact .cons (i1 h.1) (i2 h.2)) h hf
theorem dp_ext' {v : V} {d : PyData} (h : Dp K H v d) (e : Same H H') : Dp K H' v d := dp_ext e h
theorem dpAll_ext' {vs : List V} {ds : List PyData} (h : DpAll K H vs ds) (e : Same H H') : DpAll K H' vs ds := dpAll_ext e h
theorem dpAll_len' {vs : List V} {ds : List PyData} (h : DpAll K H vs ds) : vs.length = ds.length := dpAll_len h
theorem dpAll_get : ∀ {vs : List V} {ds : List PyData} {i : Nat} {v : V}, DpAll K H vs ds → vs[i]? = some v → ∃ d, ds[i]? = some d ∧ Dp K H v d
  | _, _, _, _, .nil, e => by simp at e
  | _, _, 0, _, .cons h _, e => by simp at e; subst e; exact ⟨_, rfl, h⟩
  | _, _, i + 1, v, .cons _ h, e => by
    obtain ⟨d, h1, h2⟩ := dpAll_get (i := i) (v := v) h (by simpa using e)
    exact ⟨d, by simpa using h1, h2⟩
theorem dpAll_gt : ∀ {vs : List V} {ds : List PyData} {i : Nat} {d : PyData}, DpAll K H vs ds → ds[i]? = some d → ∃ v, vs[i]? = some v ∧ Dp K H v d
  | _, _, _, _, .nil, e => by simp at e
  | _, _, 0, _, .cons h _, e => by simp at e; subst e; exact ⟨_, rfl, h⟩
  | _, _, i + 1, d, .cons _ h, e => by
    obtain ⟨v, h1, h2⟩ := dpAll_gt (i := i) (d := d) h (by simpa using e)
    exact ⟨v, by simpa using h1, h2⟩
theorem dpAll_append : ∀ {vs ws : List V} {ds es : List PyData}, DpAll K H vs ds → DpAll K H ws es → DpAll K H (vs ++ ws) (ds ++ es)
  | _, _, _, _, .nil, h => h
  | _, _, _, _, .cons h1 h2, h => .cons h1 (dpAll_append h2 h)
theorem dpAll_toInts : ∀ {vs : List V} {ns : List Int}, DpAll K H vs (ns.map PyData.int) → vs = ns.map V.int
  | _, [], h => by cases h; rfl
  | _, n :: ns, h => by
    cases h with | cons h1 h2 => cases h1; rw [dpAll_toInts h2]; rfl
theorem dpAll_toStrs : ∀ {vs : List V} {ns : List Str}, DpAll K H vs (ns.map PyData.str) → vs = ns.map V.str
  | _, [], h => by cases h; rfl
  | _, n :: ns, h => by
    cases h with | cons h1 h2 => cases h1; rw [dpAll_toStrs h2]; rfl
theorem dpAll_ints (ns : List Int) : DpAll K H (ns.map V.int) (ns.map PyData.int) := by
  induction ns with
  | nil => exact .nil
  | cons n ns ih => exact .cons (.int n) ih
theorem dpAll_strs (ns : List Str) : DpAll K H (ns.map V.str) (ns.map PyData.str) := by
  induction ns with
  | nil => exact .nil
  | cons n ns ih => exact .cons (.str n) ih
theorem dfAll_ints (ns : List Int) : DfAll K H0 H (ns.map V.int) (ns.map PyData.int) := by
  induction ns with
  | nil => exact .nil
  | cons n ns ih => exact .cons (.int n) ih
theorem dfAll_strs (ns : List Str) : DfAll K H0 H (ns.map V.str) (ns.map PyData.str) := by
  induction ns with
  | nil => exact .nil
  | cons n ns ih => exact .cons (.str n) ih
end

/-! ### heaps -/
theorem same_upd {H H' : Hp} {a : Addr} {o : HO} (e : Same H H') (h : H' a = none) : Same H (upd H' a o) := fun b u q => by
  rw [upd_ne (ne_of_none (e _ _ q) h)]; exact e _ _ q
theorem same_new {H : Hp} {a : Addr} {o : HO} (h : H a = none) : Same H (upd H a o) := same_upd (Same.refl H) h
/-- a change at what is newer than H -/
theorem same_upd_new {H H' : Hp} {a : Addr} {o : HO} (e : Same H H') (h : H a = none) : Same H (upd H' a o) := fun b u q => by
  rw [upd_ne (ne_of_none q h)]; exact e _ _ q

/-! ### what a for walks over -/
/-- J gives n items while what stands in H0 stands -/
structure SrcJ (J : It) (H0 : Hp) (n : Nat) (Item : Nat → V → Hp → Prop) : Prop where
  go : ∀ i H, Same H0 H → i < n → J.go i H ∧ ∀ x H', J.yld i H x H' → Same H H' ∧ Item i x H'
  stop : ∀ H, Same H0 H → J.stop n H
section
variable {K : PySem.W.Frag} {H0 : Hp}
theorem src_list {a : Addr} {xs : List V} (h : SqL K H0 a xs) : SrcJ (Itl K a) H0 xs.length (fun i x _ => xs[i]? = some x) where
  go := fun i H e hi => by
    have q := sqL_ext e h
    exact ⟨⟨xs, xs[i], q, by simp [hi]⟩, fun x H' y => by obtain ⟨rfl, y⟩ := y; exact ⟨Same.refl _, y xs q⟩⟩
  stop := fun H e => ⟨xs, sqL_ext e h, Nat.le_refl _⟩
theorem src_tup {a : Addr} {xs : List V} (h : SqT K H0 a xs) : SrcJ (Itt K a) H0 xs.length (fun i x _ => xs[i]? = some x) where
  go := fun i H e hi => by
    have q := sqT_ext e h
    exact ⟨⟨xs, xs[i], q, by simp [hi]⟩, fun x H' y => by obtain ⟨rfl, y⟩ := y; exact ⟨Same.refl _, y xs q⟩⟩
  stop := fun H e => ⟨xs, sqT_ext e h, Nat.le_refl _⟩
theorem src_range {lo : Int} {n : Nat} : SrcJ (Itr lo n) H0 n (fun i x _ => x = .int (lo + i)) where
  go := fun i H e hi => ⟨hi, fun x H' y => by obtain ⟨rfl, y⟩ := y; exact ⟨Same.refl _, y⟩⟩
  stop := fun H e => Nat.le_refl _
theorem src_str {x : Str} : SrcJ (Its x) H0 x.cps.size (fun i v _ => ∃ c, x.cps[i]? = some c ∧ v = .str ⟨#[c]⟩) where
  go := fun i H e hi => ⟨hi, fun v H' y => by obtain ⟨rfl, y⟩ := y; exact ⟨Same.refl _, y⟩⟩
  stop := fun H e => Nat.le_refl _
/-- a new pair -/
def Pr (K : PySem.W.Frag) (x : V) (y : V) (v : V) (H : Hp) : Prop := ∃ T, v = .ref T ∧ SqT K H T [x, y]
theorem src_enum {a : Addr} {xs : List V} (h : SqL K H0 a xs) : SrcJ (Ite K a) H0 xs.length (fun i v H => ∃ x, xs[i]? = some x ∧ Pr K (.int (i : Nat)) x v H) where
  go := fun i H e hi => by
    have q := sqL_ext e h
    refine ⟨⟨xs, xs[i], q, by simp [hi]⟩, fun x H' y => ?_⟩
    obtain ⟨T, z, rfl, hT, rfl, y⟩ := y
    exact ⟨same_new hT, z, y xs q, T, rfl, SqT.of upd_same⟩
  stop := fun H e => ⟨xs, sqL_ext e h, Nat.le_refl _⟩
theorem src_enumT {a : Addr} {xs : List V} (h : SqT K H0 a xs) : SrcJ (IteT K a) H0 xs.length (fun i v H => ∃ x, xs[i]? = some x ∧ Pr K (.int (i : Nat)) x v H) where
  go := fun i H e hi => by
    have q := sqT_ext e h
    refine ⟨⟨xs, xs[i], q, by simp [hi]⟩, fun x H' y => ?_⟩
    obtain ⟨T, z, rfl, hT, rfl, y⟩ := y
    exact ⟨same_new hT, z, y xs q, T, rfl, SqT.of upd_same⟩
  stop := fun H e => ⟨xs, sqT_ext e h, Nat.le_refl _⟩
theorem src_keys {d : Addr} {o : Obj} {kvs : List (Key × V)} (h : H0 d = some (.frz o (.dK kvs))) : SrcJ (Itk d o kvs) H0 kvs.length (fun i x _ => ∃ k v, kvs[i]? = some (k, v) ∧ x = kV k) where
  go := fun i H e hi => ⟨⟨e _ _ h, hi⟩, fun x H' y => by obtain ⟨rfl, y⟩ := y; exact ⟨Same.refl _, y⟩⟩
  stop := fun H e => ⟨e _ _ h, Nat.le_refl _⟩
theorem src_items {d : Addr} {o : Obj} {kvs : List (Key × V)} (h : H0 d = some (.frz o (.dK kvs))) : SrcJ (Iti d o kvs) H0 kvs.length (fun i x H => ∃ k v, kvs[i]? = some (k, v) ∧ Pr K (kV k) v x H) where
  go := fun i H e hi => ⟨⟨e _ _ h, hi⟩, fun x H' y => by
    obtain ⟨T, k, v, hk, rfl, hT, rfl⟩ := y
    exact ⟨same_new hT, k, v, hk, T, rfl, SqT.of upd_same⟩⟩
  stop := fun H e => ⟨e _ _ h, Nat.le_refl _⟩
end

/-! ### a for over any source -/
theorem forG {J : It} {H0 H : Hp} {n : Nat} {Item : Nat → V → Hp → Prop} {g : TG} {tb : TS} {D : Ends} {σ : L2.St} (hJ : SrcJ J H0 n Item) (Pv : Nat → L2.St → Hp → Prop) (h0 : Pv 0 σ H) (hE : ∀ i σ H, Pv i σ H → Same H0 H)
    (hs : ∀ i x σ H H', i < n → Pv i σ H → Same H H' → Item i x H' → g x σ H' fun σ2 H2 => tb { D with nx := Pv (i + 1), ct := Pv (i + 1), bk := D.nx } σ2 H2) (hd : ∀ σ H, Pv n σ H → D.nx σ H) :
    ∃ W : Nat → Nat → L2.St → Hp → Prop, (∃ m, W 0 m σ H) ∧ ∀ i m σ H, W i m σ H →
      (J.stop i H ∧ D.nx σ H) ∨ (J.go i H ∧ ∃ N : L2.St → Hp → Prop, (∀ σ' H', N σ' H' → ∃ m', m' < m ∧ W (i + 1) m' σ' H') ∧ ∀ x H', J.yld i H x H' → g x σ H' fun σ2 H2 => tb { D with nx := N, ct := N, bk := D.nx } σ2 H2) := by
  refine ⟨fun i m σ H => m = n - i ∧ i ≤ n ∧ Pv i σ H, ⟨n, by simp, Nat.zero_le _, h0⟩, ?_⟩
  rintro i m σ H ⟨rfl, hi, p⟩
  by_cases hlt : i < n
  · obtain ⟨g1, g2⟩ := hJ.go i H (hE _ _ _ p) hlt
    refine .inr ⟨g1, Pv (i + 1), fun σ' H' p' => ⟨n - (i + 1), by omega, rfl, hlt, p'⟩, fun x H' y => ?_⟩
    obtain ⟨e, it⟩ := g2 x H' y
    exact hs i x σ H H' hlt p e it
  · have e : i = n := by omega
    subst e
    exact .inl ⟨hJ.stop _ (hE _ _ _ p), hd σ H p⟩

/-! ### a comprehension over any source -/
theorem lcG {α : Type} {K : PySem.W.Frag} {J : It} {H0 H1 : Hp} {n : Nat} {Item : Nat → V → Hp → Prop} {g : TG} {tt : TT} {te : TE} {ws : List Nat} {σ : L2.St} {D : Addr} {Qd : Hp → Prop} (hJ : SrcJ J H0 n Item) (e0 : Same H0 H1) (hD : H1 D = none)
    (as : List α) (hn : as.length = n) (hz : n < sizeLine) (p : α → Bool) (e : α → PyData)
    (hs : ∀ i a x H2 (R : Option V → Hp → Prop), as[i]? = some a → Same H1 H2 → Item i x H2 → (∀ y H4, p a = true → Same H2 H4 → Df K H2 H4 y (e a) → R (some y) H4) → (∀ H4, p a = false → Same H2 H4 → R none H4) →
      g x (wipe σ ws) H2 fun σ2 H3 => wipe σ2 ws = wipe σ ws ∧ tt σ2 H3 fun b H4 => if b = true then te σ2 H4 fun y H5 => R (some y) H5 else R none H4)
    (hd : ∀ H', Same H1 H' → Df K H1 H' (.ref D) (.list ((as.filter p).map e)) → Qd H') :
    ∃ W : Nat → Nat → Hp → Prop, (∃ m, W 0 m (upd H1 D (.lst []))) ∧ ∀ i m H, W i m H →
      (J.stop i H ∧ Qd H) ∨ (J.go i H ∧ ∃ Nx : Hp → Prop, (∀ H', Nx H' → ∃ m', m' < m ∧ W (i + 1) m' H') ∧ ∀ x H', J.yld i H x H' → g x (wipe σ ws) H' fun σ2 H2 => wipe σ2 ws = wipe σ ws ∧ tt σ2 H2 fun b H3 =>
        if b = true then te σ2 H3 fun y H4 => ∃ acc, H4 D = some (.lst acc) ∧ acc.length < sizeLine ∧ Nx (upd H4 D (.lst (acc ++ [y]))) else Nx H3) := by
  let B := upd H1 D (.lst [])
  have eB : Same H1 B := same_new hD
  let Pv : Nat → Hp → Prop := fun i H => Same H1 H ∧ ∃ acc, H D = some (.lst acc) ∧ acc.length ≤ i ∧ DfAll K B H acc (((as.take i).filter p).map e)
  have nl : ∀ {acc : List V}, (∀ xs, HO.lst acc ≠ .tup xs) ∧ ∀ ob xs, HO.lst acc ≠ .frz ob (.tup xs) := fun {acc} => ⟨fun _ h => (by cases h), fun _ _ h => (by cases h)⟩
  have dB : B D ≠ none := by show upd H1 D (.lst []) D ≠ none; rw [upd_same]; simp
  refine ⟨fun i m H => m = n - i ∧ i ≤ n ∧ Pv i H, ⟨n, by simp, Nat.zero_le _, eB, [], upd_same, Nat.le_refl _, .nil⟩, ?_⟩
  rintro i m H ⟨rfl, hi, p1, acc, p2, p3, p4⟩
  by_cases hlt : i < n
  · obtain ⟨g1, g2⟩ := hJ.go i H (e0.trans p1) hlt
    refine .inr ⟨g1, Pv (i + 1), fun H' p' => ⟨n - (i + 1), by omega, rfl, hlt, p'⟩, fun x H' y => ?_⟩
    obtain ⟨e1, it⟩ := g2 x H' y
    have hia : i < as.length := by omega
    have ha : as[i]? = some as[i] := List.getElem?_eq_getElem hia
    have tk : as.take (i + 1) = as.take i ++ [as[i]] := by rw [List.take_add_one, ha]; rfl
    have BH : ∀ a, H' a = none → B a = none := fun a q => by
      show upd H1 D (.lst []) a = none
      have hDa : a ≠ D := fun z => by rw [z, e1 _ _ p2] at q; cases q
      rw [upd_ne hDa]
      exact (p1.trans e1).free q
    refine hs i as[i] x H' (fun o H4 => match o with | some y => ∃ acc, H4 D = some (.lst acc) ∧ acc.length < sizeLine ∧ Pv (i + 1) (upd H4 D (.lst (acc ++ [y]))) | none => Pv (i + 1) H4) ha (p1.trans e1) it ?_ ?_
    · intro y H4 pa e4 dy
      have hD4 : H4 D = some (.lst acc) := e4 _ _ (e1 _ _ p2)
      refine ⟨acc, hD4, by omega, same_upd_new ((p1.trans e1).trans e4) hD, acc ++ [y], upd_same, by simp; omega, ?_⟩
      have q : (((as.take (i + 1)).filter p).map e) = ((as.take i).filter p).map e ++ [e as[i]] := by
        rw [tk, List.filter_append, List.map_append]; simp [pa]
      rw [q]
      refine .snoc ((p4.ext (e1.trans e4)).updD dB hD4 nl.1 nl.2) ?_
      refine Df.updD dB hD4 nl.1 nl.2 ?_
      exact df_map BH (fun _ _ _ h => h) (fun _ _ h => h) dy
    · intro H4 pa e4
      have hD4 : H4 D = some (.lst acc) := e4 _ _ (e1 _ _ p2)
      refine ⟨(p1.trans e1).trans e4, acc, hD4, by omega, ?_⟩
      have q : (((as.take (i + 1)).filter p).map e) = ((as.take i).filter p).map e := by
        rw [tk, List.filter_append, List.map_append]; simp [pa]
      rw [q]
      exact p4.ext (e1.trans e4)
  · have e : i = n := by omega
    subst e
    refine .inl ⟨hJ.stop _ (e0.trans p1), hd H p1 ?_⟩
    rw [List.take_of_length_le (by omega)] at p4
    exact .lst hD p2 (p4.old eB)

/-- .. without a test -/
theorem lcM {α : Type} {K : PySem.W.Frag} {J : It} {H0 H1 : Hp} {n : Nat} {Item : Nat → V → Hp → Prop} {g : TG} {te : TE} {ws : List Nat} {σ : L2.St} {D : Addr} {Qd : Hp → Prop} (hJ : SrcJ J H0 n Item) (e0 : Same H0 H1) (hD : H1 D = none)
    (as : List α) (hn : as.length = n) (hz : n < sizeLine) (e : α → PyData)
    (hs : ∀ i a x H2 (R : V → Hp → Prop), as[i]? = some a → Same H1 H2 → Item i x H2 → (∀ y H4, Same H2 H4 → Df K H2 H4 y (e a) → R y H4) →
      g x (wipe σ ws) H2 fun σ2 H3 => wipe σ2 ws = wipe σ ws ∧ te σ2 H3 fun y H5 => R y H5)
    (hd : ∀ H', Same H1 H' → Df K H1 H' (.ref D) (.list (as.map e)) → Qd H') :
    ∃ W : Nat → Nat → Hp → Prop, (∃ m, W 0 m (upd H1 D (.lst []))) ∧ ∀ i m H, W i m H →
      (J.stop i H ∧ Qd H) ∨ (J.go i H ∧ ∃ Nx : Hp → Prop, (∀ H', Nx H' → ∃ m', m' < m ∧ W (i + 1) m' H') ∧ ∀ x H', J.yld i H x H' → g x (wipe σ ws) H' fun σ2 H2 => wipe σ2 ws = wipe σ ws ∧ tYes σ2 H2 fun b H3 =>
        if b = true then te σ2 H3 fun y H4 => ∃ acc, H4 D = some (.lst acc) ∧ acc.length < sizeLine ∧ Nx (upd H4 D (.lst (acc ++ [y]))) else Nx H3) := by
  refine lcG (K := K) (tt := tYes) hJ e0 hD as hn hz (fun _ => true) e (fun i a x H2 R ha e2 it hy _ => ?_) (fun H' e' d => hd H' e' (by rw [List.filter_eq_self.2 (fun _ _ => rfl)] at d; exact d))
  exact hs i a x H2 (fun y H => R (some y) H) ha e2 it (fun y H4 e4 d => hy y H4 rfl e4 d)

theorem tN {σ : L2.St} {H : Hp} {Q : List V → Hp → Prop} (h : Q [] H) : tNil σ H Q := h
theorem q_bl {Q : VK} {b : Bool} {H : Hp} (h : b = true) (q : Q (.bl true) H) : Q (.bl b) H := h ▸ q
theorem q_nb {Q : VK} {b : Bool} {H : Hp} (h : b = false) (q : Q (.bl false) H) : Q (.bl b) H := h ▸ q
theorem hu64 {k : Nat} {A : Around} (hr : Room k A) : A.units + 64 < cLine := by have := hr.un; omega
theorem hu65 {k : Nat} {A : Around} (hr : Room k A) : A.units + 65 < cLine := by have := hr.un; omega
theorem iT {b : Bool} {A B : Prop} (e : b = true) (h : A) : if b = true then A else B := by rw [if_pos e]; exact h
theorem iF {b : Bool} {A B : Prop} (e : b = false) (h : B) : if b = true then A else B := by rw [if_neg (by rw [e]; simp)]; exact h

/-! ### a def by its name -/
structure Def (P : Program) (w : World) (K : PySem.W.Frag) (mg : Str → Option Value) (base : Heap) (x : Str) (k : Nat) (ps : List Str) (sp : Sp) : Prop where
  ex : ∃ f fd, FnOk P w K mg base CX0 k f fd ps sp ∧ mg x = some (.ref f) ∧ PySem.W.keepIn K (.ref f) = true ∧ Binds K fd ps []
theorem pe_def {X : Cx} {x : Str} {k : Nat} {ps : List Str} {sp : Sp} {e : Expr} {es : List Expr} {t : TA} {p pos : Pos} (D : Def X.prog X.w X.K X.mg X.base x k ps sp) (hr : Room k X.A) (ha : PA X (e :: es) t) (hg : Gl X x := by rfl)
    (hdb : (x == ("__debug__" : Str)) = false := by decide) (he : starEach (e :: es) X.env = (false, eval e X.env) :: starEach es X.env := by rfl) (hpl : (backTo pos (starEach es X.env)).any (·.1) = false := by rfl) :
    PE X (.Call (.Name x p) (e :: es) [] pos) (tCall sp [] E0 t) := by
  obtain ⟨f, fd, G, m, kp, b⟩ := D.ex
  exact pe_call G hr hg m kp b .nil pass0 ha hdb he hpl
end NkR
end
section
/-! Matchings along highs, closures, widths: plain lists. -/
namespace NkM
open List

theorem perm_of_mem {α} [DecidableEq α] {a b : List α} (ha : a.Nodup) (hb : b.Nodup)
    (h : ∀ x, x ∈ a ↔ x ∈ b) : a ~ b := by
  rw [List.perm_iff_count]
  intro x
  rw [ha.count, hb.count]
  simp only [h x]

def uniq : List Nat → List Nat
  | [] => []
  | x :: l => if x ∈ l then uniq l else x :: uniq l
theorem mem_uniq {l : List Nat} {x : Nat} : x ∈ uniq l ↔ x ∈ l := by
  induction l with
  | nil => simp [uniq]
  | cons a l ih =>
    unfold uniq
    by_cases h : a ∈ l
    · rw [if_pos h, ih]; constructor
      · exact fun z => List.mem_cons_of_mem _ z
      · intro z; rcases List.mem_cons.1 z with rfl | z
        · exact h
        · exact z
    · rw [if_neg h, List.mem_cons, List.mem_cons, ih]
theorem uniq_nodup (l : List Nat) : (uniq l).Nodup := by
  induction l with
  | nil => simp [uniq]
  | cons a l ih =>
    unfold uniq
    by_cases h : a ∈ l
    · rw [if_pos h]; exact ih
    · rw [if_neg h]; exact List.nodup_cons.2 ⟨fun z => h (mem_uniq.1 z), ih⟩

theorem nodup_filter {α} {p : α → Bool} {l : List α} (h : l.Nodup) : (l.filter p).Nodup :=
  h.sublist List.filter_sublist

/-- length by a test and its not -/
theorem len_split {α} (p : α → Bool) (l : List α) :
    (l.filter p).length + (l.filter (fun x => !p x)).length = l.length := by
  induction l with
  | nil => rfl
  | cons a l ih => by_cases h : p a = true <;> simp [List.filter_cons, h] <;> omega

/-- what a matching is: pairs (high, low) -/
structure Mt (ab : Nat → List Nat) (M : List (Nat × Nat)) : Prop where
  keys : (M.map (·.1)).Nodup
  edge : ∀ p ∈ M, p.1 ∈ ab p.2

def lows (M : List (Nat × Nat)) : List Nat := M.map (·.2)

def Mat (ab : Nat → List Nat) (S : List Nat) : Prop := ∃ M, Mt ab M ∧ lows M ~ S

theorem Mat.perm {ab S T} (h : Mat ab S) (p : S ~ T) : Mat ab T := by
  obtain ⟨M, a, b⟩ := h; exact ⟨M, a, b.trans p⟩

theorem Mt.filter {ab M} (h : Mt ab M) (p) : Mt ab (M.filter p) :=
  ⟨h.keys.sublist (List.filter_sublist.map _), fun q hq => h.edge q (List.mem_filter.1 hq).1⟩

theorem lows_filter (M : List (Nat × Nat)) (p : Nat → Bool) :
    lows (M.filter (fun q => p q.2)) = (lows M).filter p := by
  unfold lows; induction M with
  | nil => rfl
  | cons a l ih => by_cases h : p a.2 = true <;> simp [List.filter_cons, h, ih]

theorem Mat.sub {ab} {S T : List Nat} (h : Mat ab S) (hS : S.Nodup) (hT : T.Nodup) (hs : T ⊆ S) : Mat ab T := by
  obtain ⟨M, hM, hl⟩ := h
  refine ⟨M.filter (fun q => decide (q.2 ∈ T)), hM.filter _, ?_⟩
  rw [lows_filter M (fun x => decide (x ∈ T))]
  refine perm_of_mem (nodup_filter (hl.nodup_iff.2 hS)) hT ?_
  intro x
  simp only [List.mem_filter, decide_eq_true_eq, hl.mem_iff]
  exact ⟨fun a => a.2, fun a => ⟨hs a, a⟩⟩

/-! ### dict -/
def get (d : List (Nat × Nat)) (k : Nat) : Option Nat := (d.find? (fun p => p.1 == k)).map (·.2)
def put (d : List (Nat × Nat)) (k v : Nat) : List (Nat × Nat) :=
  if d.any (fun p => p.1 == k) then d.map (fun p => if p.1 == k then (k, v) else p) else d ++ [(k, v)]

theorem get_mem {d : List (Nat × Nat)} {k v} (h : get d k = some v) : (k, v) ∈ d := by
  unfold get at h
  cases e : d.find? (fun p => p.1 == k) with
  | none => rw [e] at h; cases h
  | some q =>
    rw [e] at h; cases h
    have h1 := List.find?_some e
    have h2 := List.mem_of_find?_eq_some e
    have : q.1 = k := by simpa using h1
    subst this; exact h2

theorem get_none {d : List (Nat × Nat)} {k} : get d k = none ↔ k ∉ d.map (·.1) := by
  unfold get
  rw [Option.map_eq_none_iff, List.find?_eq_none]
  constructor
  · intro h hm
    obtain ⟨p, hp, e⟩ := List.mem_map.1 hm
    exact h p hp (by simp [e])
  · intro h p hp e
    exact h (List.mem_map.2 ⟨p, hp, by simpa using e⟩)

theorem get_of_mem {d : List (Nat × Nat)} (hn : (d.map (·.1)).Nodup) {k v} (h : (k, v) ∈ d) : get d k = some v := by
  induction d with
  | nil => cases h
  | cons a d ih =>
    have hn' := List.nodup_cons.1 hn
    unfold get
    by_cases e : a.1 = k
    · simp only [List.find?_cons, e, BEq.rfl, Option.map_some]
      rcases List.mem_cons.1 h with h | h
      · rw [← h]
      · exact absurd (List.mem_map.2 ⟨(k, v), h, e.symm⟩) hn'.1
    · rw [List.find?_cons_of_neg (by simpa using e)]
      rcases List.mem_cons.1 h with h | h
      · exact absurd (by rw [← h]) e
      · exact ih hn'.2 h

theorem put_keys {d : List (Nat × Nat)} {k v} : (put d k v).map (·.1) = if k ∈ d.map (·.1) then d.map (·.1) else d.map (·.1) ++ [k] := by
  unfold put
  by_cases h : k ∈ d.map (·.1)
  · have h' : d.any (fun p => p.1 == k) = true := by
      obtain ⟨p, hp, e⟩ := List.mem_map.1 h
      exact List.any_eq_true.2 ⟨p, hp, by simp [e]⟩
    rw [if_pos h', if_pos h, List.map_map]
    apply List.map_congr_left
    intro p _
    by_cases e : p.1 = k <;> simp [Function.comp, e]
  · have h' : ¬ d.any (fun p => p.1 == k) = true := by
      intro h'
      obtain ⟨p, hp, e⟩ := List.any_eq_true.1 h'
      exact h (List.mem_map.2 ⟨p, hp, by simpa using e⟩)
    rw [if_neg h', if_neg h]; simp

theorem put_nodup {d : List (Nat × Nat)} (hn : (d.map (·.1)).Nodup) (k v) : ((put d k v).map (·.1)).Nodup := by
  rw [put_keys]
  split
  · exact hn
  · rename_i h
    rw [List.nodup_append]
    exact ⟨hn, by simp, fun a ha b hb => by simp at hb; subst hb; intro e; exact h (e ▸ ha)⟩

theorem put_get {d : List (Nat × Nat)} {k v j} : get (put d k v) j = if j = k then some v else get d j := by
  unfold put
  by_cases h : d.any (fun p => p.1 == k) = true
  · rw [if_pos h]
    induction d with
    | nil => cases h
    | cons a d ih =>
      by_cases e : a.1 = k
      · by_cases ej : j = k
        · subst ej; simp [get, e]
        · have nj : ¬ a.1 = j := by rw [e]; exact fun z => ej z.symm
          by_cases h' : d.any (fun p => p.1 == k) = true
          · have := ih h'
            rw [if_neg ej] at this ⊢
            unfold get at this ⊢
            simp only [List.map_cons, e, BEq.rfl, if_true]
            rw [List.find?_cons_of_neg (by simpa using fun z => ej z.symm), List.find?_cons_of_neg (by simpa using nj)]
            exact this
          · rw [if_neg ej]
            have hd : d.map (fun p => if p.1 == k then (k, v) else p) = d := by
              conv => rhs; rw [← List.map_id d]
              apply List.map_congr_left
              intro p hp
              by_cases q : p.1 = k
              · exact absurd (List.any_eq_true.2 ⟨p, hp, by simp [q]⟩) h'
              · simp [q]
            unfold get
            simp only [List.map_cons, e, BEq.rfl, if_true]
            rw [hd, List.find?_cons_of_neg (by simpa using fun z => ej z.symm), List.find?_cons_of_neg (by simpa using nj)]
      · have h' : d.any (fun p => p.1 == k) = true := by
          simpa [List.any_cons, e] using h
        have := ih h'
        unfold get at this ⊢
        have ee : (a.1 == k) = false := by simpa using e
        simp only [List.map_cons, ee, Bool.false_eq_true, if_false]
        by_cases ej : a.1 = j
        · have : ¬ j = k := by rw [← ej]; exact e
          simp [ej, this]
        · rw [List.find?_cons_of_neg (by simpa using ej), List.find?_cons_of_neg (by simpa using ej)]
          exact this
  · rw [if_neg h]
    have hk : get d k = none := get_none.2 (by
      intro hm; obtain ⟨p, hp, e⟩ := List.mem_map.1 hm
      exact h (List.any_eq_true.2 ⟨p, hp, by simp [e]⟩))
    by_cases ej : j = k
    · subst ej
      unfold get at hk ⊢
      rw [Option.map_eq_none_iff] at hk
      simp [List.find?_append, hk]
    · rw [if_neg ej]
      unfold get
      rw [List.find?_append, List.find?_cons_of_neg (by simpa using fun z => ej z.symm)]
      simp

theorem mem_put {d : List (Nat × Nat)} {k v} {p} (h : p ∈ put d k v) : p = (k, v) ∨ p ∈ d := by
  unfold put at h
  split at h
  · obtain ⟨q, hq, e⟩ := List.mem_map.1 h
    split at e
    · exact .inl e.symm
    · exact .inr (e ▸ hq)
  · rcases List.mem_append.1 h with h | h
    · exact .inr h
    · exact .inl (by simpa using h)

/-- the lows behind a put: of a new key, one more -/
theorem lows_put_new {d : List (Nat × Nat)} {k v} (h : get d k = none) : lows (put d k v) ~ v :: lows d := by
  have h' : ¬ d.any (fun p => p.1 == k) = true := by
    intro h'
    obtain ⟨p, hp, e⟩ := List.any_eq_true.1 h'
    exact get_none.1 h (List.mem_map.2 ⟨p, hp, by simpa using e⟩)
  unfold put lows; rw [if_neg h']; simp

theorem lows_put_old {d : List (Nat × Nat)} (hn : (d.map (·.1)).Nodup) {k v u} (h : get d k = some u) :
    u :: lows (put d k v) ~ v :: lows d := by
  have h' : d.any (fun p => p.1 == k) = true := List.any_eq_true.2 ⟨_, get_mem h, by simp⟩
  unfold put; rw [if_pos h']
  clear h'
  induction d with
  | nil => cases h
  | cons a d ih =>
    have hn' := List.nodup_cons.1 hn
    unfold get at h
    by_cases e : a.1 = k
    · rw [List.find?_cons_of_pos (by simpa using e)] at h
      have hu : a.2 = u := by simpa using h
      have hd : d.map (fun p => if p.1 == k then (k, v) else p) = d := by
        conv => rhs; rw [← List.map_id d]
        apply List.map_congr_left
        intro p hp
        by_cases q : p.1 = k
        · exact absurd (List.mem_map.2 ⟨p, hp, q.trans e.symm⟩) hn'.1
        · simp [q]
      simp only [List.map_cons, e, BEq.rfl, if_true, hd, lows, hu]
      exact List.Perm.swap _ _ _
    · rw [List.find?_cons_of_neg (by simpa using e)] at h
      have := ih hn'.2 h
      have ee : (a.1 == k) = false := by simpa using e
      simp only [List.map_cons, ee, Bool.false_eq_true, if_false, lows]
      exact ((List.Perm.swap _ _ _).trans (this.cons _)).trans (List.Perm.swap _ _ _)

/-! ### lead -/
def leadGo (ab : Nat → List Nat) : Nat → List Nat → Nat → List (Nat × Nat) → List Nat → Bool × List (Nat × Nat) × List Nat
  | _, [], _, b, s => (false, b, s)
  | f, h :: hs, low, b, s =>
    if h ∈ s then leadGo ab f hs low b s
    else match get b h with
      | none => (true, put b h low, s ++ [h])
      | some l =>
        match f with
        | 0 => (false, b, s ++ [h])
        | f + 1 =>
          let r := leadGo ab f (ab l) l b (s ++ [h])
          if r.1 then (true, put r.2.1 h low, r.2.2) else leadGo ab (f + 1) hs low r.2.1 r.2.2
termination_by f hs => (f, hs.length)

def lead (ab : Nat → List Nat) (f : Nat) (low : Nat) (b : List (Nat × Nat)) (s : List Nat) := leadGo ab f (ab low) low b s

structure Led (ab : Nat → List Nat) (n : Nat) (low : Nat) (hs : List Nat) (b : List (Nat × Nat)) (s : List Nat)
    (r : Bool × List (Nat × Nat) × List Nat) : Prop where
  seen : s ⊆ r.2.2
  nd : r.2.2.Nodup
  lt : ∀ x ∈ r.2.2, x < n
  yes : r.1 = true → Mt ab r.2.1 ∧ lows r.2.1 ~ low :: lows b ∧ ∀ h ∈ s, get r.2.1 h = get b h
  no : r.1 = false → r.2.1 = b ∧ hs ⊆ r.2.2 ∧ ∀ h ∈ r.2.2, h ∉ s → ∃ l, get b h = some l ∧ ab l ⊆ r.2.2

theorem leadGo_led (ab : Nat → List Nat) (n : Nat) (hab : ∀ l, ∀ x ∈ ab l, x < n) :
    ∀ f hs low b s, (∀ x ∈ hs, x ∈ ab low) → Mt ab b → s.Nodup → (∀ x ∈ s, x < n) → n ≤ f + s.length →
      Led ab n low hs b s (leadGo ab f hs low b s) := by
  intro f
  induction f using Nat.strongRecOn with
  | ind f ihf =>
    intro hs
    induction hs with
    | nil =>
      intro low b s hh hb hn hlt hf
      rw [leadGo]
      exact ⟨fun _ h => h, hn, hlt, fun h => (by cases h), fun _ => ⟨rfl, by simp, fun h h1 h2 => absurd h1 h2⟩⟩
    | cons h hs ih =>
      intro low b s hh hb hn hlt hf
      rw [leadGo]
      by_cases hm : h ∈ s
      · rw [if_pos hm]
        have := ih low b s (fun x hx => hh x (List.mem_cons_of_mem _ hx)) hb hn hlt hf
        refine ⟨this.seen, this.nd, this.lt, this.yes, fun e => ?_⟩
        obtain ⟨a, c, d⟩ := this.no e
        exact ⟨a, fun x hx => (List.mem_cons.1 hx).elim (fun q => q ▸ this.seen hm) (fun q => c q), d⟩
      · rw [if_neg hm]
        have hhab : h ∈ ab low := hh h List.mem_cons_self
        have hhn : h < n := hab _ _ hhab
        have hn' : (s ++ [h]).Nodup := by
          rw [List.nodup_append]
          exact ⟨hn, by simp, fun a ha b hb => by simp at hb; subst hb; intro e; exact hm (e ▸ ha)⟩
        have hlt' : ∀ x ∈ s ++ [h], x < n := by
          intro x hx; rcases List.mem_append.1 hx with hx | hx
          · exact hlt x hx
          · simp at hx; exact hx ▸ hhn
        cases e : get b h with
        | none =>
          refine ⟨by simp, hn', hlt', fun _ => ⟨⟨put_nodup hb.keys _ _, ?_⟩, lows_put_new e, ?_⟩, fun z => by cases z⟩
          · intro p hp
            rcases mem_put hp with rfl | hp
            · exact hhab
            · exact hb.edge p hp
          · intro x hx
            rw [put_get, if_neg (fun z : x = h => hm (z ▸ hx))]
        | some l =>
          match f, ihf, hf with
          | 0, _, hf =>
            exfalso
            have h1 : (s ++ [h]).length ≤ (List.range n).length :=
              hn'.length_le_of_subset (fun x hx => List.mem_range.2 (hlt' x hx))
            simp at h1; omega
          | f + 1, ihf, hf =>
            have R := ihf f (by omega) (ab l) l b (s ++ [h]) (fun x hx => hx) hb hn' hlt' (by simp; omega)
            simp only []
            by_cases hr : (leadGo ab f (ab l) l b (s ++ [h])).1 = true
            · rw [if_pos hr]
              obtain ⟨y1, y2, y3⟩ := R.yes hr
              have hg : get (leadGo ab f (ab l) l b (s ++ [h])).2.1 h = some l := by
                rw [y3 h (by simp), e]
              refine ⟨fun x hx => R.seen (by simp [hx]), R.nd, R.lt, fun _ => ⟨⟨put_nodup y1.keys _ _, ?_⟩, ?_, ?_⟩, fun z => by cases z⟩
              · intro p hp
                rcases mem_put hp with rfl | hp
                · exact hhab
                · exact y1.edge p hp
              · have := (lows_put_old y1.keys hg (v := low)).trans (y2.cons low)
                exact (List.perm_cons l).1 (this.trans (List.Perm.swap _ _ _))
              · intro x hx
                show get (put _ h low) x = _
                rw [put_get, if_neg (fun z : x = h => hm (z ▸ hx))]
                exact y3 x (by simp [hx])
            · rw [if_neg hr]
              have hr' : (leadGo ab f (ab l) l b (s ++ [h])).1 = false := by simpa using hr
              obtain ⟨n1, n2, n3⟩ := R.no hr'
              have := ih low (leadGo ab f (ab l) l b (s ++ [h])).2.1 (leadGo ab f (ab l) l b (s ++ [h])).2.2
                (fun x hx => hh x (List.mem_cons_of_mem _ hx)) (by rw [n1]; exact hb) R.nd R.lt (by
                  have : (s ++ [h]).length ≤ (leadGo ab f (ab l) l b (s ++ [h])).2.2.length := hn'.length_le_of_subset R.seen
                  simp at this; omega)
              refine ⟨fun x hx => this.seen (R.seen (by simp [hx])), this.nd, this.lt, fun z => ?_, fun z => ?_⟩
              · obtain ⟨a, c, d⟩ := this.yes z
                refine ⟨a, ?_, ?_⟩
                · rw [n1] at c; rw [n1]; exact c
                · intro x hx; rw [d x (R.seen (by simp [hx])), n1]
              · obtain ⟨a, c, d⟩ := this.no z
                refine ⟨a.trans n1, ?_, ?_⟩
                · intro x hx
                  rcases List.mem_cons.1 hx with rfl | hx
                  · exact this.seen (R.seen (by simp))
                  · exact c hx
                · intro x hx hxs
                  by_cases hx2 : x ∈ (leadGo ab f (ab l) l b (s ++ [h])).2.2
                  · by_cases hx3 : x ∈ s ++ [h]
                    · have : x = h := by
                        rcases List.mem_append.1 hx3 with q | q
                        · exact absurd q hxs
                        · simpa using q
                      subst this
                      exact ⟨l, e, fun y hy => this.seen (n2 hy)⟩
                    · obtain ⟨l', g1, g2⟩ := n3 x hx2 hx3
                      exact ⟨l', g1, fun y hy => this.seen (g2 hy)⟩
                  · obtain ⟨l', g1, g2⟩ := d x hx hx2
                    exact ⟨l', n1 ▸ g1, g2⟩

theorem lead_led (ab : Nat → List Nat) (n : Nat) (hab : ∀ l, ∀ x ∈ ab l, x < n) {b} (hb : Mt ab b) (low : Nat) :
    Led ab n low (ab low) b [] (lead ab n low b []) :=
  leadGo_led ab n hab n (ab low) low b [] (fun _ h => h) hb (by simp) (by simp) (by simp)

/-- lows of a closed set of highs, and a pigeonhole -/
theorem no_of_closed {ab : Nat → List Nat} {b : List (Nat × Nat)} (hb : Mt ab b) (hbl : (lows b).Nodup)
    {C : List Nat} (hC : C.Nodup) {X : List Nat}
    (hXC : ∀ x ∈ X, ab x ⊆ C) (hc : ∀ h ∈ C, ∃ l, get b h = some l ∧ ab l ⊆ C) {S : List Nat} (hS : Mat ab S)
    (hSb : ∀ s ∈ S, s ∈ lows b ∨ s ∈ X) (hn : S.Nodup) : S.length ≤ (lows b).length := by
  classical
  obtain ⟨M, hM, hl⟩ := hS
  -- partner lows of C
  let L : List Nat := (b.filter (fun p => decide (p.1 ∈ C))).map (·.2)
  have hLn : L.Nodup := hbl.sublist (List.filter_sublist.map _)
  have hLC : L.length = C.length := by
    have : (b.filter (fun p => decide (p.1 ∈ C))).map (·.1) ~ C := by
      refine perm_of_mem (hb.keys.sublist (List.filter_sublist.map _)) hC ?_
      intro x
      constructor
      · intro h
        obtain ⟨p, hp, e⟩ := List.mem_map.1 h
        have := (List.mem_filter.1 hp).2
        rw [← e]; simpa using this
      · intro h
        obtain ⟨l, hl, _⟩ := hc x h
        exact List.mem_map.2 ⟨(x, l), List.mem_filter.2 ⟨get_mem hl, by simpa using h⟩, rfl⟩
    rw [← this.length_eq]; simp [L]
  -- S's part in L ∪ X goes into C; the rest lies within lows b \ L
  have h1 : (S.filter (fun s => decide (s ∈ L ∨ s ∈ X))).length ≤ C.length := by
    have e : (S.filter (fun s => decide (s ∈ L ∨ s ∈ X))) ~ lows (M.filter (fun q => decide (q.2 ∈ L ∨ q.2 ∈ X))) := by
      rw [lows_filter M (fun s => decide (s ∈ L ∨ s ∈ X))]
      exact (hl.symm).filter _
    rw [e.length_eq]
    have : (lows (M.filter (fun q => decide (q.2 ∈ L ∨ q.2 ∈ X)))).length
        = ((M.filter (fun q => decide (q.2 ∈ L ∨ q.2 ∈ X))).map (·.1)).length := by simp [lows]
    rw [this]
    refine (hM.filter _).keys.length_le_of_subset ?_
    intro x hx
    obtain ⟨p, hp, e⟩ := List.mem_map.1 hx
    obtain ⟨hp1, hp2⟩ := List.mem_filter.1 hp
    have hed := hM.edge p hp1
    rw [← e]
    rcases of_decide_eq_true hp2 with h | h
    · obtain ⟨q, hq, e2⟩ := List.mem_map.1 h
      obtain ⟨hq1, hq2⟩ := List.mem_filter.1 hq
      obtain ⟨l, g1, g2⟩ := hc q.1 (by simpa using hq2)
      have : l = q.2 := by
        have := get_of_mem hb.keys (k := q.1) (v := q.2) hq1
        rw [this] at g1; cases g1; rfl
      rw [this, e2] at g2
      exact g2 hed
    · exact hXC _ h hed
  have h2 : (S.filter (fun s => !decide (s ∈ L ∨ s ∈ X))).length ≤ ((lows b).filter (fun s => !decide (s ∈ L))).length := by
    refine (nodup_filter hn).length_le_of_subset ?_
    intro x hx
    obtain ⟨hx1, hx2⟩ := List.mem_filter.1 hx
    have hx3 : ¬ (x ∈ L ∨ x ∈ X) := by simpa using hx2
    refine List.mem_filter.2 ⟨?_, by simpa using fun z => hx3 (.inl z)⟩
    rcases hSb x hx1 with h | h
    · exact h
    · exact absurd (.inr h) hx3
  have h3 : ((lows b).filter (fun s => decide (s ∈ L))).length = L.length := by
    refine (perm_of_mem (nodup_filter hbl) hLn ?_).length_eq
    intro x
    simp only [List.mem_filter, decide_eq_true_eq]
    refine ⟨fun a => a.2, fun a => ⟨?_, a⟩⟩
    obtain ⟨q, hq, e2⟩ := List.mem_map.1 a
    exact List.mem_map.2 ⟨q, (List.mem_filter.1 hq).1, e2⟩
  have h4 := len_split (fun s => decide (s ∈ L ∨ s ∈ X)) S
  have h5 := len_split (fun s => decide (s ∈ L)) (lows b)
  omega

theorem lead_iff {ab : Nat → List Nat} {n : Nat} (hab : ∀ l, ∀ x ∈ ab l, x < n) {b} (hb : Mt ab b) (hbl : (lows b).Nodup)
    {low : Nat} (hl : low ∉ lows b) : (lead ab n low b []).1 = true ↔ Mat ab (low :: lows b) := by
  have R := lead_led ab n hab hb low
  constructor
  · intro h
    obtain ⟨a, c, _⟩ := R.yes h
    exact ⟨_, a, c⟩
  · intro h
    cases e : (lead ab n low b []).1 with
    | true => rfl
    | false =>
      obtain ⟨_, c, d⟩ := R.no e
      have := no_of_closed hb hbl (C := (lead ab n low b []).2.2) R.nd (X := [low])
        (by simpa using c) (fun h hh => d h hh (by simp)) h (fun s hs => (List.mem_cons.1 hs).elim (fun q => .inr (by simp [q])) (fun q => .inl q))
        (List.nodup_cons.2 ⟨hl, hbl⟩)
      simp only [List.length_cons] at this
      omega

/-- where x can't join, a closed set of highs -/
theorem closure1 {ab : Nat → List Nat} {n : Nat} (hab : ∀ l, ∀ x ∈ ab l, x < n) {b} (hb : Mt ab b) (hbl : (lows b).Nodup)
    {low : Nat} (hl : low ∉ lows b) (hno : ¬ Mat ab (low :: lows b)) :
    ∃ C : List Nat, ab low ⊆ C ∧ ∀ h ∈ C, ∃ l, get b h = some l ∧ ab l ⊆ C := by
  have R := lead_led ab n hab hb low
  have e : (lead ab n low b []).1 = false := by
    cases e : (lead ab n low b []).1 with
    | false => rfl
    | true => exact absurd ((lead_iff hab hb hbl hl).1 e) hno
  obtain ⟨_, c, d⟩ := R.no e
  exact ⟨_, c, fun h hh => d h hh (by simp)⟩

theorem closure {ab : Nat → List Nat} {n : Nat} (hab : ∀ l, ∀ x ∈ ab l, x < n) {b} (hb : Mt ab b) (hbl : (lows b).Nodup)
    (X : List Nat) (hX : ∀ x ∈ X, x ∉ lows b ∧ ¬ Mat ab (x :: lows b)) :
    ∃ C : List Nat, C.Nodup ∧ (∀ x ∈ X, ab x ⊆ C) ∧ ∀ h ∈ C, ∃ l, get b h = some l ∧ ab l ⊆ C := by
  induction X with
  | nil => exact ⟨[], by simp, by simp, by simp⟩
  | cons x X ih =>
    obtain ⟨C, c1, c2, c3⟩ := ih (fun y hy => hX y (List.mem_cons_of_mem _ hy))
    obtain ⟨D, d1, d2⟩ := closure1 hab hb hbl (hX x List.mem_cons_self).1 (hX x List.mem_cons_self).2
    refine ⟨uniq (C ++ D), uniq_nodup _, ?_, ?_⟩
    · intro y hy z hz
      rw [mem_uniq, List.mem_append]
      rcases List.mem_cons.1 hy with rfl | hy
      · exact .inr (d1 hz)
      · exact .inl (c2 y hy hz)
    · intro h hh
      rw [mem_uniq, List.mem_append] at hh
      rcases hh with hh | hh
      · obtain ⟨l, g1, g2⟩ := c3 h hh
        exact ⟨l, g1, fun z hz => by rw [mem_uniq, List.mem_append]; exact .inl (g2 hz)⟩
      · obtain ⟨l, g1, g2⟩ := d2 h hh
        exact ⟨l, g1, fun z hz => by rw [mem_uniq, List.mem_append]; exact .inr (g2 hz)⟩

/-- AUGMENTATION -/
theorem aug {ab : Nat → List Nat} {n : Nat} (hab : ∀ l, ∀ x ∈ ab l, x < n) {I J : List Nat} (hI : Mat ab I) (hJ : Mat ab J)
    (nI : I.Nodup) (nJ : J.Nodup) (hlt : I.length < J.length) : ∃ x ∈ J, x ∉ I ∧ Mat ab (x :: I) := by
  classical
  refine Classical.byContradiction fun hno => ?_
  obtain ⟨b, hb, hbl⟩ := hI
  have hbn : (lows b).Nodup := hbl.nodup_iff.2 nI
  have hno' : ∀ x ∈ J.filter (fun x => decide (x ∉ I)), x ∉ lows b ∧ ¬ Mat ab (x :: lows b) := by
    intro x hx
    obtain ⟨h1, h2⟩ := List.mem_filter.1 hx
    have h2 : x ∉ I := of_decide_eq_true h2
    refine ⟨fun z => h2 (hbl.mem_iff.1 z), fun z => hno ⟨x, h1, h2, z.perm (hbl.cons x)⟩⟩
  obtain ⟨C, c1, c2, c3⟩ := closure hab hb hbn _ hno'
  have := no_of_closed hb hbn c1 c2 c3 hJ (by
    intro s hs
    by_cases h : s ∈ I
    · exact .inl (hbl.mem_iff.2 h)
    · exact .inr (List.mem_filter.2 ⟨hs, decide_eq_true h⟩)) nJ
  rw [hbl.length_eq] at this
  omega

theorem extend {ab : Nat → List Nat} {n : Nat} (hab : ∀ l, ∀ x ∈ ab l, x < n) {J : List Nat} (hJ : Mat ab J) (nJ : J.Nodup) :
    ∀ k (I : List Nat), Mat ab I → I.Nodup → J.length = I.length + k →
      ∃ K, Mat ab K ∧ K.Nodup ∧ I ⊆ K ∧ (∀ x ∈ K, x ∈ I ∨ x ∈ J) ∧ K.length = J.length := by
  intro k
  induction k with
  | zero => intro I hI nI e; exact ⟨I, hI, nI, fun _ h => h, fun _ h => .inl h, by omega⟩
  | succ k ih =>
    intro I hI nI e
    obtain ⟨x, h1, h2, h3⟩ := aug hab hI hJ nI nJ (by omega)
    obtain ⟨K, k1, k2, k3, k4, k5⟩ := ih (x :: I) h3 (List.nodup_cons.2 ⟨h2, nI⟩) (by simp; omega)
    exact ⟨K, k1, k2, fun z hz => k3 (List.mem_cons_of_mem _ hz), fun z hz => by
      rcases k4 z hz with q | q
      · rcases List.mem_cons.1 q with rfl | q
        · exact .inr h1
        · exact .inl q
      · exact .inr q, k5⟩

end NkM
end
section
/-! Greedy matchings, widths of up-closed sets, the exchange. -/
namespace NkM
open List

theorem perm_of_len {α} [DecidableEq α] {K L : List α} (nK : K.Nodup) (nL : L.Nodup) (h : K ⊆ L) (e : L.length ≤ K.length) : K ~ L := by
  refine perm_of_mem nK nL fun x => ⟨fun hx => h hx, fun hx => ?_⟩
  refine Classical.byContradiction fun hn => ?_
  have : (x :: K).length ≤ L.length :=
    (List.nodup_cons.2 ⟨hn, nK⟩).length_le_of_subset (fun y hy => (List.mem_cons.1 hy).elim (fun q => q ▸ hx) (fun q => h q))
  simp at this; omega

abbrev inn (B : List Nat) : Nat → Bool := fun x => decide (x ∈ B)
abbrev out (B : List Nat) : Nat → Bool := fun x => !decide (x ∈ B)

theorem filter_congr' {α} {p q : α → Bool} {l : List α} (h : ∀ x ∈ l, p x = q x) : l.filter p = l.filter q :=
  List.filter_congr h

def matchedD (ab : Nat → List Nat) (n : Nat) : List Nat → List (Nat × Nat) → List (Nat × Nat)
  | [], b => b
  | low :: o, b => matchedD ab n o (lead ab n low b []).2.1

structure Grd (ab : Nat → List Nat) (o B : List Nat) : Prop where
  mat : Mat ab B
  nd : B.Nodup
  sub : B ⊆ o
  max : ∀ p q, o = p ++ q → ∀ x ∈ p, x ∉ B → ¬ Mat ab (x :: p.filter (inn B))

theorem Grd.congr {ab o B B'} (h : Grd ab o B) (p : B ~ B') : Grd ab o B' := by
  refine ⟨h.mat.perm p, p.nodup_iff.1 h.nd, fun x hx => h.sub (p.mem_iff.2 hx), fun a q e x hx hn => ?_⟩
  have := h.max a q e x hx (fun z => hn (p.mem_iff.1 z))
  have e2 : a.filter (inn B) = a.filter (inn B') := filter_congr' (fun y _ => by simp only [inn, p.mem_iff])
  rw [← e2]; exact this

theorem append_single_split {α} {d p q : List α} {y : α} (e : d ++ [y] = p ++ q) : p = d ++ [y] ∨ ∃ r, d = p ++ r := by
  rcases List.append_eq_append_iff.1 e with ⟨a, h1, h2⟩ | ⟨a, h1, h2⟩
  · cases a with
    | nil => simp at h1 h2; exact .inr ⟨[], by simp [h1]⟩
    | cons z a =>
      have : [y] = z :: (a ++ q) := by simpa using h2
      simp at this
      obtain ⟨rfl, rfl, rfl⟩ := this
      exact .inl (by simp [h1])
  · exact .inr ⟨a, h1⟩

theorem matchedD_grd {ab : Nat → List Nat} {n : Nat} (hab : ∀ l, ∀ x ∈ ab l, x < n) :
    ∀ (o d : List Nat) (b : List (Nat × Nat)), Mt ab b → Grd ab d (lows b) → (d ++ o).Nodup →
      Mt ab (matchedD ab n o b) ∧ Grd ab (d ++ o) (lows (matchedD ab n o b)) := by
  intro o
  induction o with
  | nil => intro d b hb h _; exact ⟨hb, by simpa [matchedD] using h⟩
  | cons low o ih =>
    intro d b hb h hn
    have hld : low ∉ d := by
      have := List.nodup_append.1 hn
      exact fun z => this.2.2 low z low (by simp) rfl
    have hlb : low ∉ lows b := fun z => hld (h.sub z)
    have R := lead_led ab n hab hb low
    have I := lead_iff hab hb h.nd hlb
    have hdn : d.Nodup := (List.nodup_append.1 hn).1
    have e : d ++ low :: o = (d ++ [low]) ++ o := by simp
    rw [e] at hn ⊢
    have hdn' : (d ++ [low]).Nodup := (List.nodup_append.1 hn).1
    show Mt ab (matchedD ab n o (lead ab n low b []).2.1) ∧ _
    refine ih (d ++ [low]) _ ?_ ?_ hn
    · cases hr : (lead ab n low b []).1 with
      | true => exact (R.yes hr).1
      | false => rw [(R.no hr).1]; exact hb
    · cases hr : (lead ab n low b []).1 with
      | true =>
        obtain ⟨y1, y2, _⟩ := R.yes hr
        refine Grd.congr (B := low :: lows b) ?_ y2.symm
        refine ⟨I.1 hr, List.nodup_cons.2 ⟨hlb, h.nd⟩, ?_, ?_⟩
        · intro x hx
          rcases List.mem_cons.1 hx with rfl | hx
          · simp
          · exact List.mem_append_left _ (h.sub hx)
        · intro p q e x hx hnx hM
          rcases append_single_split e with rfl | ⟨r, rfl⟩
          · rcases List.mem_append.1 hx with hx | hx
            · refine h.max d [] (by simp) x hx (fun z => hnx (List.mem_cons_of_mem _ z)) ?_
              refine hM.sub ?_ ?_ ?_
              · refine List.nodup_cons.2 ⟨fun z => ?_, nodup_filter hdn'⟩
                exact hnx (of_decide_eq_true (List.mem_filter.1 z).2)
              · refine List.nodup_cons.2 ⟨fun z => ?_, nodup_filter hdn⟩
                exact hnx (List.mem_cons_of_mem _ (of_decide_eq_true (List.mem_filter.1 z).2))
              · intro y hy
                rcases List.mem_cons.1 hy with rfl | hy
                · simp
                · obtain ⟨a, c⟩ := List.mem_filter.1 hy
                  have c : y ∈ lows b := of_decide_eq_true c
                  exact List.mem_cons_of_mem _ (List.mem_filter.2 ⟨List.mem_append_left _ a, decide_eq_true (List.mem_cons_of_mem _ c)⟩)
            · simp at hx; exact hnx (by simp [hx])
          · have e2 : p.filter (inn (low :: lows b)) = p.filter (inn (lows b)) := by
              refine filter_congr' fun y hy => ?_
              have : y ≠ low := fun z => hld (z ▸ List.mem_append_left _ hy)
              simp only [inn, List.mem_cons, this, false_or]
            rw [e2] at hM
            exact h.max p r rfl x hx (fun z => hnx (List.mem_cons_of_mem _ z)) hM
      | false =>
        rw [(R.no hr).1]
        have nI : ¬ Mat ab (low :: lows b) := fun z => by rw [I.2 z] at hr; cases hr
        refine ⟨h.mat, h.nd, fun x hx => List.mem_append_left _ (h.sub hx), ?_⟩
        intro p q e x hx hnx hM
        rcases append_single_split e with rfl | ⟨r, rfl⟩
        · have e2 : (d ++ [low]).filter (inn (lows b)) ~ lows b := by
            refine perm_of_mem (nodup_filter hdn') h.nd fun y => ?_
            simp only [List.mem_filter, inn, decide_eq_true_eq]
            exact ⟨fun z => z.2, fun z => ⟨List.mem_append_left _ (h.sub z), z⟩⟩
          rcases List.mem_append.1 hx with hx | hx
          · refine h.max d [] (by simp) x hx hnx ((hM.perm (e2.cons x)).perm ?_)
            refine List.Perm.cons x (perm_of_mem h.nd (nodup_filter hdn) fun y => ?_)
            simp only [List.mem_filter, inn, decide_eq_true_eq]
            exact ⟨fun z => ⟨h.sub z, z⟩, fun z => z.2⟩
          · simp at hx; subst hx
            exact nI (hM.perm (e2.cons x))
        · exact h.max p r rfl x hx hnx hM

theorem matched_grd {ab : Nat → List Nat} {n : Nat} (hab : ∀ l, ∀ x ∈ ab l, x < n) {o : List Nat} (ho : o.Nodup) :
    Mt ab (matchedD ab n o []) ∧ Grd ab o (lows (matchedD ab n o [])) := by
  have := matchedD_grd hab o [] [] ⟨by simp, by simp⟩
    ⟨⟨[], ⟨by simp, by simp⟩, by simp [lows]⟩, by simp [lows], by simp [lows], by
      intro p q e x hx
      have : p = [] := by simpa using (List.append_eq_nil_iff.1 e.symm).1
      subst this; cases hx⟩ (by simpa using ho)
  simpa using this

/-- complete exactly when the order can be matched -/
theorem Grd.full {ab o B} (h : Grd ab o B) (ho : o.Nodup) : B.length = o.length ↔ Mat ab o := by
  constructor
  · intro e
    exact h.mat.perm (perm_of_len h.nd ho h.sub (by omega))
  · intro m
    have hs : o ⊆ B := by
      intro x hx
      refine Classical.byContradiction fun hn => ?_
      refine h.max o [] (by simp) x hx hn (m.sub ho ?_ ?_)
      · exact List.nodup_cons.2 ⟨fun z => hn (of_decide_eq_true (List.mem_filter.1 z).2), nodup_filter ho⟩
      · intro y hy
        rcases List.mem_cons.1 hy with rfl | hy
        · exact hx
        · exact (List.mem_filter.1 hy).1
    have a := h.nd.length_le_of_subset h.sub
    have b := ho.length_le_of_subset hs
    omega

/-! ### widths -/
def Anti (ab : Nat → List Nat) (A : List Nat) : Prop := ∀ x ∈ A, ∀ y ∈ A, y ∉ ab x
def Up (ab : Nat → List Nat) (U : List Nat) : Prop := ∀ x ∈ U, ab x ⊆ U
def Trn (ab : Nat → List Nat) : Prop := ∀ x y z, y ∈ ab x → z ∈ ab y → z ∈ ab x

structure IsW (ab : Nat → List Nat) (U : List Nat) (w : Nat) : Prop where
  le : ∀ A, A.Nodup → A ⊆ U → Anti ab A → A.length ≤ w
  ex : ∃ A, A.Nodup ∧ A ⊆ U ∧ Anti ab A ∧ A.length = w

theorem IsW.uniq {ab U V w v} (h : IsW ab U w) (h' : IsW ab V v) (e : ∀ x, x ∈ U ↔ x ∈ V) : w = v := by
  obtain ⟨A, a1, a2, a3, a4⟩ := h.ex
  obtain ⟨A', b1, b2, b3, b4⟩ := h'.ex
  have := h.le A' b1 (fun x hx => (e x).2 (b2 hx)) b3
  have := h'.le A a1 (fun x hx => (e x).1 (a2 hx)) a3
  omega

theorem anti_le {ab : Nat → List Nat} (ht : Trn ab) {U A I : List Nat} (hU : Up ab U) (nU : U.Nodup) (nA : A.Nodup) (nI : I.Nodup)
    (hA : A ⊆ U) (hI : I ⊆ U) (an : Anti ab A) (m : Mat ab I) : I.length + A.length ≤ U.length := by
  classical
  obtain ⟨M, hM, hl⟩ := m
  let ab' : Nat → Bool := fun u => decide (∃ a ∈ A, u ∈ ab a)
  let P : Nat → Bool := fun u => decide (u ∈ A ∨ ∃ a ∈ A, u ∈ ab a)
  have h1 : (I.filter P).length ≤ (U.filter ab').length := by
    have e : I.filter P ~ lows (M.filter (fun q => P q.2)) := by
      rw [lows_filter M P]; exact hl.symm.filter _
    rw [e.length_eq]
    have : (lows (M.filter (fun q => P q.2))).length = ((M.filter (fun q => P q.2)).map (·.1)).length := by simp [lows]
    rw [this]
    refine (hM.filter _).keys.length_le_of_subset ?_
    intro x hx
    obtain ⟨p, hp, e⟩ := List.mem_map.1 hx
    obtain ⟨hp1, hp2⟩ := List.mem_filter.1 hp
    have hed := hM.edge p hp1
    have hpI : p.2 ∈ I := hl.mem_iff.1 (List.mem_map.2 ⟨p, hp1, rfl⟩)
    rw [← e]
    refine List.mem_filter.2 ⟨hU _ (hI hpI) hed, decide_eq_true ?_⟩
    rcases of_decide_eq_true hp2 with h | ⟨a, ha, hb⟩
    · exact ⟨_, h, hed⟩
    · exact ⟨a, ha, ht _ _ _ hb hed⟩
  have h2 : (I.filter (fun x => !P x)).length ≤ (U.filter (fun x => !P x)).length :=
    (nodup_filter nI).length_le_of_subset (fun x hx => List.mem_filter.2 ⟨hI (List.mem_filter.1 hx).1, (List.mem_filter.1 hx).2⟩)
  have h3 : (U.filter ab').length + A.length ≤ (U.filter P).length := by
    rw [← List.length_append]
    refine List.Nodup.length_le_of_subset ?_ ?_
    · rw [List.nodup_append]
      refine ⟨nodup_filter nU, nA, fun x hx y hy e => ?_⟩
      subst e
      obtain ⟨a, ha, hb⟩ := of_decide_eq_true (List.mem_filter.1 hx).2
      exact an a ha x hy hb
    · intro x hx
      rcases List.mem_append.1 hx with hx | hx
      · exact List.mem_filter.2 ⟨(List.mem_filter.1 hx).1, decide_eq_true (.inr (of_decide_eq_true (List.mem_filter.1 hx).2))⟩
      · exact List.mem_filter.2 ⟨hA hx, decide_eq_true (.inl hx)⟩
  have h4 := len_split P I
  have h5 := len_split P U
  omega

theorem anti_ge {ab : Nat → List Nat} {n : Nat} (hab : ∀ l, ∀ x ∈ ab l, x < n) {U I : List Nat} (nU : U.Nodup) (nI : I.Nodup)
    (hI : I ⊆ U) (m : Mat ab I) (mx : ∀ x ∈ U, x ∉ I → ¬ Mat ab (x :: I)) :
    ∃ A, A.Nodup ∧ A ⊆ U ∧ Anti ab A ∧ U.length ≤ A.length + I.length := by
  classical
  obtain ⟨b, hb, hl⟩ := m
  have hbn : (lows b).Nodup := hl.nodup_iff.2 nI
  let X := U.filter (out I)
  obtain ⟨C, c1, c2, c3⟩ := closure hab hb hbn X (by
    intro x hx
    obtain ⟨h1, h2⟩ := List.mem_filter.1 hx
    have h2 : x ∉ I := by simpa [out] using h2
    exact ⟨fun z => h2 (hl.mem_iff.1 z), fun z => mx x h1 h2 (z.perm (hl.cons x))⟩)
  let L : List Nat := (b.filter (fun p => decide (p.1 ∈ C))).map (·.2)
  have hLn : L.Nodup := hbn.sublist (List.filter_sublist.map _)
  have hLC : L.length = C.length := by
    have : (b.filter (fun p => decide (p.1 ∈ C))).map (·.1) ~ C := by
      refine perm_of_mem (hb.keys.sublist (List.filter_sublist.map _)) c1 ?_
      intro x
      constructor
      · intro h
        obtain ⟨p, hp, e⟩ := List.mem_map.1 h
        have := (List.mem_filter.1 hp).2
        rw [← e]; simpa using this
      · intro h
        obtain ⟨l, hl, _⟩ := c3 x h
        exact List.mem_map.2 ⟨(x, l), List.mem_filter.2 ⟨get_mem hl, by simpa using h⟩, rfl⟩
    rw [← this.length_eq]; simp [L]
  have hLI : L ⊆ I := by
    intro x hx
    obtain ⟨q, hq, e⟩ := List.mem_map.1 hx
    exact hl.mem_iff.1 (List.mem_map.2 ⟨q, (List.mem_filter.1 hq).1, e⟩)
  have hLc : ∀ x ∈ L, ab x ⊆ C := by
    intro x hx
    obtain ⟨q, hq, e⟩ := List.mem_map.1 hx
    obtain ⟨hq1, hq2⟩ := List.mem_filter.1 hq
    obtain ⟨l, g1, g2⟩ := c3 q.1 (by simpa using hq2)
    have : l = q.2 := by
      have := get_of_mem hb.keys (k := q.1) (v := q.2) hq1
      rw [this] at g1; cases g1; rfl
    rw [this, e] at g2; exact g2
  let S := X ++ L
  have hS : S.Nodup := by
    show (X ++ L).Nodup
    rw [List.nodup_append]
    refine ⟨nodup_filter nU, hLn, fun x hx y hy e => ?_⟩
    subst e
    have : x ∉ I := by simpa [out] using (List.mem_filter.1 hx).2
    exact this (hLI hy)
  have hSc : ∀ x ∈ S, ab x ⊆ C := by
    intro x hx
    rcases List.mem_append.1 hx with hx | hx
    · exact c2 x hx
    · exact hLc x hx
  refine ⟨S.filter (out C), nodup_filter hS, ?_, ?_, ?_⟩
  · intro x hx
    rcases List.mem_append.1 (List.mem_filter.1 hx).1 with h | h
    · exact (List.mem_filter.1 h).1
    · exact hI (hLI h)
  · intro x hx y hy hxy
    have : y ∉ C := by simpa [out] using (List.mem_filter.1 hy).2
    exact this (hSc x (List.mem_filter.1 hx).1 hxy)
  · have h1 := len_split (inn C) S
    have h2 : (S.filter (inn C)).length ≤ C.length :=
      (nodup_filter hS).length_le_of_subset (fun x hx => of_decide_eq_true (List.mem_filter.1 hx).2)
    have h3 : S.length = X.length + L.length := List.length_append
    have h4 := len_split (inn I) U
    have h5 : (U.filter (inn I)).length ≤ I.length :=
      (nodup_filter nU).length_le_of_subset (fun x hx => of_decide_eq_true (List.mem_filter.1 hx).2)
    have h6 : X.length = (U.filter (fun x => !inn I x)).length := rfl
    have h7 : (S.filter (out C)).length = (S.filter (fun x => !inn C x)).length := rfl
    omega

/-- the width of an up-closed set by a matching maximal in it -/
theorem isW_of {ab : Nat → List Nat} {n : Nat} (hab : ∀ l, ∀ x ∈ ab l, x < n) (ht : Trn ab) {U I : List Nat} (hU : Up ab U)
    (nU : U.Nodup) (nI : I.Nodup) (hI : I ⊆ U) (m : Mat ab I) (mx : ∀ x ∈ U, x ∉ I → ¬ Mat ab (x :: I)) :
    IsW ab U (U.length - I.length) := by
  obtain ⟨A, a1, a2, a3, a4⟩ := anti_ge hab nU nI hI m mx
  have := anti_le ht hU nU a1 nI a2 hI a3 m
  refine ⟨fun A' b1 b2 b3 => ?_, A, a1, a2, a3, by omega⟩
  have := anti_le ht hU nU b1 nI b2 hI b3 m
  omega

theorem IsW.rank {ab : Nat → List Nat} (ht : Trn ab) {U : List Nat} {w} (h : IsW ab U w) (hU : Up ab U) (nU : U.Nodup)
    {J : List Nat} (nJ : J.Nodup) (hJ : J ⊆ U) (m : Mat ab J) : J.length + w ≤ U.length := by
  obtain ⟨A, a1, a2, a3, a4⟩ := h.ex
  have := anti_le ht hU nU a1 nJ a2 hJ a3 m
  omega

theorem IsW.eq {ab : Nat → List Nat} {n : Nat} (hab : ∀ l, ∀ x ∈ ab l, x < n) (ht : Trn ab) {U I : List Nat} {w} (h : IsW ab U w) (hU : Up ab U)
    (nU : U.Nodup) (nI : I.Nodup) (hI : I ⊆ U) (m : Mat ab I) (mx : ∀ x ∈ U, x ∉ I → ¬ Mat ab (x :: I)) :
    I.length + w = U.length := by
  have := (isW_of hab ht hU nU nI hI m mx).uniq h (fun _ => Iff.rfl)
  have := nI.length_le_of_subset hI
  omega

/-- the same for the part of a greedy matching in a prefix of its order -/
theorem Grd.pre {ab : Nat → List Nat} {n : Nat} (hab : ∀ l, ∀ x ∈ ab l, x < n) (ht : Trn ab) {o B p q : List Nat} (h : Grd ab o B) (ho : o.Nodup)
    (e : o = p ++ q) (hU : Up ab p) {w} (hw : IsW ab p w) : (p.filter (inn B)).length + w = p.length := by
  have np : p.Nodup := by rw [e] at ho; exact (List.nodup_append.1 ho).1
  refine hw.eq hab ht hU np (nodup_filter np) (fun x hx => (List.mem_filter.1 hx).1) ?_ ?_
  · exact h.mat.sub h.nd (nodup_filter np) (fun x hx => of_decide_eq_true (List.mem_filter.1 hx).2)
  · intro x hx hn
    exact h.max p q e x hx (fun z => hn (List.mem_filter.2 ⟨hx, decide_eq_true z⟩))

/-! ### the exchange -/
structure Base (ab : Nat → List Nat) (H T Bs B : List Nat) : Prop where
  mat : Mat ab B
  nd : B.Nodup
  hmax : ∀ x ∈ H, x ∉ B → ¬ Mat ab (x :: H.filter (inn B))
  wmax : ∀ J, J.Nodup → J ⊆ H ++ (Bs ++ T) → Mat ab J → J.length ≤ ((H ++ (Bs ++ T)).filter (inn B)).length

theorem exch {ab : Nat → List Nat} {n : Nat} (hab : ∀ l, ∀ x ∈ ab l, x < n) {H T Bs B J : List Nat}
    (nd : (H ++ (Bs ++ T)).Nodup) (h : Base ab H T Bs B) (mJ : Mat ab J) (nJ : J.Nodup) (hJ : J ⊆ H ++ T)
    (hlt : ((H ++ T).filter (inn B)).length < J.length) :
    ∃ take ∈ T, take ∉ B ∧ ∃ drop ∈ Bs, drop ∈ B ∧ Mat ab (take :: B.erase drop) := by
  classical
  have nHT : (H ++ T).Nodup := by
    rw [List.nodup_append] at nd ⊢
    obtain ⟨a, b, c⟩ := nd
    exact ⟨a, (List.nodup_append.1 b).2.1, fun x hx y hy => c x hx y (List.mem_append_right _ hy)⟩
  have hHT : H ++ T ⊆ H ++ (Bs ++ T) := by
    intro x hx; rcases List.mem_append.1 hx with h | h <;> simp [h]
  have mI : Mat ab ((H ++ T).filter (inn B)) :=
    h.mat.sub h.nd (nodup_filter nHT) (fun x hx => of_decide_eq_true (List.mem_filter.1 hx).2)
  obtain ⟨x, x1, x2, x3⟩ := aug hab mI mJ (nodup_filter nHT) nJ hlt
  have xB : x ∉ B := fun z => x2 (List.mem_filter.2 ⟨hJ x1, decide_eq_true z⟩)
  have nxI : (x :: (H ++ T).filter (inn B)).Nodup := List.nodup_cons.2 ⟨x2, nodup_filter nHT⟩
  have xT : x ∈ T := by
    rcases List.mem_append.1 (hJ x1) with q | q
    · refine absurd (x3.sub nxI ?_ ?_) (h.hmax x q xB)
      · refine List.nodup_cons.2 ⟨fun z => xB (of_decide_eq_true (List.mem_filter.1 z).2), nodup_filter (List.nodup_append.1 nHT).1⟩
      · intro y hy
        rcases List.mem_cons.1 hy with rfl | hy
        · simp
        · exact List.mem_cons_of_mem _ (List.mem_filter.2 ⟨List.mem_append_left _ (List.mem_filter.1 hy).1, (List.mem_filter.1 hy).2⟩)
    · exact q
  have wB : ((H ++ (Bs ++ T)).filter (inn B)).length ≤ B.length :=
    (nodup_filter nd).length_le_of_subset (fun y hy => of_decide_eq_true (List.mem_filter.1 hy).2)
  have hle : (x :: (H ++ T).filter (inn B)).length ≤ B.length := by
    refine Nat.le_trans (h.wmax _ nxI ?_ x3) wB
    intro y hy
    rcases List.mem_cons.1 hy with rfl | hy
    · simp [xT]
    · exact hHT (List.mem_filter.1 hy).1
  obtain ⟨K, k1, k2, k3, k4, k5⟩ := extend hab h.mat h.nd (B.length - (x :: (H ++ T).filter (inn B)).length) _ x3 nxI (by omega)
  have kx : x ∈ K := k3 (by simp)
  have kB : ∀ y ∈ K, y ∈ x :: B := by
    intro y hy
    rcases k4 y hy with q | q
    · rcases List.mem_cons.1 q with rfl | q
      · simp
      · exact List.mem_cons_of_mem _ (of_decide_eq_true (List.mem_filter.1 q).2)
    · exact List.mem_cons_of_mem _ q
  have nxB : (x :: B).Nodup := List.nodup_cons.2 ⟨xB, h.nd⟩
  obtain ⟨d, d1, d2⟩ : ∃ d, d ∈ x :: B ∧ d ∉ K := by
    refine Classical.byContradiction fun hno => ?_
    have : (x :: B).length ≤ K.length := nxB.length_le_of_subset (fun y hy => Classical.byContradiction fun z => hno ⟨y, hy, z⟩)
    simp at this; omega
  have dx : d ≠ x := fun z => d2 (z ▸ kx)
  have dB : d ∈ B := (List.mem_cons.1 d1).resolve_left dx
  have nL : (x :: B.erase d).Nodup := List.nodup_cons.2 ⟨fun z => xB (List.mem_of_mem_erase z), h.nd.erase d⟩
  have pK : K ~ x :: B.erase d := by
    refine perm_of_len k2 nL ?_ ?_
    · intro y hy
      rcases List.mem_cons.1 (kB y hy) with rfl | q
      · simp
      · exact List.mem_cons_of_mem _ ((h.nd.mem_erase_iff).2 ⟨fun z => d2 (z ▸ hy), q⟩)
    · have : 0 < B.length := List.length_pos_of_mem dB
      simp only [List.length_cons, List.length_erase_of_mem dB]; omega
  refine ⟨x, xT, xB, d, ?_, dB, k1.perm pK⟩
  have dI : d ∉ H ++ T := fun z => d2 (k3 (List.mem_cons_of_mem _ (List.mem_filter.2 ⟨z, decide_eq_true dB⟩)))
  have dW : d ∈ H ++ (Bs ++ T) := by
    refine Classical.byContradiction fun hn => ?_
    have hsub : ∀ y ∈ x :: (H ++ (Bs ++ T)).filter (inn B), y ∈ K := by
      intro y hy
      rcases List.mem_cons.1 hy with rfl | hy
      · exact kx
      · obtain ⟨a, c⟩ := List.mem_filter.1 hy
        refine pK.mem_iff.2 (List.mem_cons_of_mem _ ((h.nd.mem_erase_iff).2 ⟨fun z => hn (z ▸ a), of_decide_eq_true c⟩))
    have nn : (x :: (H ++ (Bs ++ T)).filter (inn B)).Nodup :=
      List.nodup_cons.2 ⟨fun z => xB (of_decide_eq_true (List.mem_filter.1 z).2), nodup_filter nd⟩
    have := h.wmax _ nn (by
      intro y hy
      rcases List.mem_cons.1 hy with rfl | hy
      · simp [xT]
      · exact (List.mem_filter.1 hy).1) (k1.sub k2 nn hsub)
    simp only [List.length_cons] at this; omega
  rcases List.mem_append.1 dW with q | q
  · exact absurd (List.mem_append_left _ q) dI
  · rcases List.mem_append.1 q with q | q
    · exact q
    · exact absurd (List.mem_append_right _ q) dI

/-- the base stays a base, with one more in T -/
theorem Base.swap {ab : Nat → List Nat} {H T Bs B B' : List Nat} (nd : (H ++ (Bs ++ T)).Nodup) (h : Base ab H T Bs B) {take drop : Nat}
    (ht : take ∈ T) (htB : take ∉ B) (hd : drop ∈ Bs) (hdB : drop ∈ B) (mB : Mat ab B') (e : B' ~ take :: B.erase drop) :
    Base ab H T Bs B' ∧ (T.filter (out B')).length + 1 = (T.filter (out B)).length := by
  obtain ⟨n1, n2, n3⟩ := List.nodup_append.1 nd
  obtain ⟨m1, m2, m3⟩ := List.nodup_append.1 n2
  have nL : (take :: B.erase drop).Nodup := List.nodup_cons.2 ⟨fun z => htB (List.mem_of_mem_erase z), h.nd.erase drop⟩
  have mem : ∀ y, y ∈ B' ↔ y = take ∨ (y ≠ drop ∧ y ∈ B) := by
    intro y; rw [e.mem_iff, List.mem_cons, h.nd.mem_erase_iff]
  have hH : H.filter (inn B') = H.filter (inn B) := by
    refine filter_congr' fun y hy => ?_
    have a : y ≠ take := fun z => n3 y hy take (List.mem_append_right _ ht) z
    have b : y ≠ drop := fun z => n3 y hy drop (List.mem_append_left _ hd) z
    simp only [inn, mem, a, b, false_or, true_and, ne_eq, not_false_eq_true]
  have hTin : (T.filter (inn B')).length = (T.filter (inn B)).length + 1 := by
    have : T.filter (inn B') ~ take :: T.filter (inn B) := by
      refine perm_of_mem (nodup_filter m2) (List.nodup_cons.2 ⟨fun z => htB (of_decide_eq_true (List.mem_filter.1 z).2), nodup_filter m2⟩) fun y => ?_
      simp only [List.mem_cons, List.mem_filter, inn, decide_eq_true_eq, mem]
      constructor
      · rintro ⟨a, c | ⟨c, d⟩⟩
        · exact .inl c
        · exact .inr ⟨a, d⟩
      · rintro (rfl | ⟨a, c⟩)
        · exact ⟨ht, .inl rfl⟩
        · exact ⟨a, .inr ⟨fun z => m3 drop hd y a z.symm, c⟩⟩
    rw [this.length_eq]; simp
  have hBin : (Bs.filter (inn B')).length + 1 = (Bs.filter (inn B)).length := by
    have : drop :: Bs.filter (inn B') ~ Bs.filter (inn B) := by
      refine perm_of_mem (List.nodup_cons.2 ⟨fun z => ?_, nodup_filter m1⟩) (nodup_filter m1) fun y => ?_
      · have := of_decide_eq_true (List.mem_filter.1 z).2
        rcases (mem drop).1 this with q | q
        · exact m3 drop hd take ht q
        · exact q.1 rfl
      simp only [List.mem_cons, List.mem_filter, inn, decide_eq_true_eq, mem]
      constructor
      · rintro (rfl | ⟨a, c | ⟨c, d⟩⟩)
        · exact ⟨hd, hdB⟩
        · exact absurd c (fun z => m3 y a take ht z)
        · exact ⟨a, d⟩
      · rintro ⟨a, c⟩
        by_cases q : y = drop
        · exact .inl q
        · exact .inr ⟨a, .inr ⟨q, c⟩⟩
    rw [← this.length_eq]; simp
  refine ⟨⟨mB, e.nodup_iff.2 nL, ?_, ?_⟩, ?_⟩
  · intro x hx hn
    rw [hH]
    refine h.hmax x hx fun z => hn ((mem x).2 (.inr ⟨fun q => n3 x hx drop (List.mem_append_left _ hd) q, z⟩))
  · intro J j1 j2 j3
    have := h.wmax J j1 j2 j3
    simp only [List.filter_append, List.length_append, hH] at this ⊢
    omega
  · have a := len_split (inn B') T
    have b := len_split (inn B) T
    have a' : (T.filter (out B')).length = (T.filter (fun x => !inn B' x)).length := rfl
    have b' : (T.filter (out B)).length = (T.filter (fun x => !inn B x)).length := rfl
    omega

end NkM
end
section
/-! Weighted nets: levels, classes, the shelf's order, the loop of exchanges, sums. -/
namespace NkM
open List

structure Net (n : Nat) (ab : Nat → List Nat) (w : Nat → Int) {κ : Type} (c : Nat → κ) : Prop where
  lt : ∀ l, ∀ x ∈ ab l, x < n
  trn : Trn ab
  mono : ∀ x y, x < n → y ∈ ab x → w x ≤ w y
  same : ∀ x y, x < n → y ∈ ab x → w x = w y → c x = c y
  cw : ∀ x y, x < n → y < n → c x = c y → w x = w y

theorem up_of_mem {ab : Nat → List Nat} {U V : List Nat} (h : Up ab U) (e : ∀ x, x ∈ U ↔ x ∈ V) : Up ab V :=
  fun x hx y hy => (e y).1 (h x ((e x).2 hx) hy)

theorem IsW.congr {ab : Nat → List Nat} {U V : List Nat} {w} (h : IsW ab U w) (e : ∀ x, x ∈ U ↔ x ∈ V) : IsW ab V w :=
  ⟨fun A a b c => h.le A a (fun x hx => (e x).2 (b hx)) c, by
    obtain ⟨A, a, b, c, d⟩ := h.ex
    exact ⟨A, a, fun x hx => (e x).1 (b hx), c, d⟩⟩

/-- a list falling by w: what is at least ℓ is a prefix -/
theorem fall_split {w : Nat → Int} {o : List Nat} (h : o.Pairwise (fun a b => w b ≤ w a)) (p : Int → Bool)
    (hp : ∀ x y, x ≤ y → p x = true → p y = true) :
    o = o.filter (fun x => p (w x)) ++ o.filter (fun x => !p (w x)) := by
  induction o with
  | nil => rfl
  | cons a o ih =>
    obtain ⟨h1, h2⟩ := List.pairwise_cons.1 h
    by_cases q : p (w a) = true
    · simp only [List.filter_cons, q, if_true, Bool.not_true, Bool.false_eq_true, if_false, List.cons_append]
      rw [← ih h2]
    · have : ∀ b ∈ o, p (w b) = false := fun b hb => by
        cases e : p (w b) with
        | false => rfl
        | true => exact absurd (hp _ _ (h1 b hb) e) q
      have e1 : o.filter (fun x => p (w x)) = [] := List.filter_eq_nil_iff.2 (fun b hb => by simp [this b hb])
      have e2 : o.filter (fun x => !p (w x)) = o := List.filter_eq_self.2 (fun b hb => by simp [this b hb])
      have q' : p (w a) = false := by simpa using q
      simp only [List.filter_cons, q', e1, e2, Bool.false_eq_true, if_false, Bool.not_false, if_true, List.nil_append]

section
variable {n : Nat} {ab : Nat → List Nat} {w : Nat → Int} {κ : Type} [DecidableEq κ] {c : Nat → κ}

theorem Net.up_ge (N : Net n ab w c) (p : Int → Bool) (hp : ∀ x y, x ≤ y → p x = true → p y = true) :
    Up ab ((List.range n).filter (fun x => p (w x))) := by
  intro x hx y hy
  obtain ⟨a, b⟩ := List.mem_filter.1 hx
  exact List.mem_filter.2 ⟨List.mem_range.2 (N.lt x y hy), hp _ _ (N.mono x y (List.mem_range.1 a) hy) b⟩

/-- T, H, beside, wide at one class -/
abbrev cls (n : Nat) (c : Nat → κ) (k : κ) : List Nat := (List.range n).filter (fun x => decide (c x = k))
abbrev hi (n : Nat) (w : Nat → Int) (l : Int) : List Nat := (List.range n).filter (fun x => decide (l < w x))
abbrev ge (n : Nat) (w : Nat → Int) (l : Int) : List Nat := (List.range n).filter (fun x => decide (l ≤ w x))
abbrev bes (n : Nat) (w : Nat → Int) (c : Nat → κ) (l : Int) (k : κ) : List Nat :=
  (List.range n).filter (fun x => decide (w x = l) && !decide (c x = k))
abbrev oth (n : Nat) (w : Nat → Int) (c : Nat → κ) (l : Int) (k : κ) : List Nat :=
  (List.range n).filter (fun x => decide (l ≤ w x) && !decide (c x = k))

theorem Net.up_hi (N : Net n ab w c) (l : Int) : Up ab (hi n w l) :=
  N.up_ge (fun v => decide (l < v)) (fun x y h a => by simp at a ⊢; omega)
theorem Net.up_ge' (N : Net n ab w c) (l : Int) : Up ab (ge n w l) :=
  N.up_ge (fun v => decide (l ≤ v)) (fun x y h a => by simp at a ⊢; omega)

theorem Net.up_ht (N : Net n ab w c) {l : Int} {k : κ} (hk : ∀ x < n, c x = k → w x = l) : Up ab (hi n w l ++ cls n c k) := by
  intro x hx y hy
  have yn := N.lt x y hy
  rcases List.mem_append.1 hx with h | h
  · exact List.mem_append_left _ (N.up_hi l x h hy)
  · obtain ⟨a, b⟩ := List.mem_filter.1 h
    have b : c x = k := of_decide_eq_true b
    have xn := List.mem_range.1 a
    have m := N.mono x y xn hy
    have wx := hk x xn b
    by_cases e : w x = w y
    · refine List.mem_append_right _ (List.mem_filter.2 ⟨List.mem_range.2 yn, decide_eq_true ?_⟩)
      rw [← N.same x y xn hy e, b]
    · exact List.mem_append_left _ (List.mem_filter.2 ⟨List.mem_range.2 yn, decide_eq_true (by omega)⟩)

theorem Net.up_oth (N : Net n ab w c) {l : Int} {k : κ} (hk : ∀ x < n, c x = k → w x = l) : Up ab (oth n w c l k) := by
  intro x hx y hy
  have yn := N.lt x y hy
  obtain ⟨a, b⟩ := List.mem_filter.1 hx
  simp only [Bool.and_eq_true, decide_eq_true_eq, Bool.not_eq_true', decide_eq_false_iff_not] at b
  have xn := List.mem_range.1 a
  have m := N.mono x y xn hy
  refine List.mem_filter.2 ⟨List.mem_range.2 yn, ?_⟩
  simp only [Bool.and_eq_true, decide_eq_true_eq, Bool.not_eq_true', decide_eq_false_iff_not]
  refine ⟨by omega, fun z => ?_⟩
  have wy := hk y yn z
  exact b.2 ((N.same x y xn hy (by omega)).trans z)

theorem wide_mem {l : Int} {k : κ} (hk : ∀ x < n, c x = k → w x = l) (x : Nat) :
    x ∈ hi n w l ++ (bes n w c l k ++ cls n c k) ↔ x ∈ ge n w l := by
  simp only [List.mem_append, List.mem_filter, List.mem_range, Bool.and_eq_true, decide_eq_true_eq, Bool.not_eq_true', decide_eq_false_iff_not]
  constructor
  · rintro (⟨a, b⟩ | ⟨a, b, d⟩ | ⟨a, b⟩)
    · exact ⟨a, by omega⟩
    · exact ⟨a, by omega⟩
    · have := hk x a b; exact ⟨a, by omega⟩
  · rintro ⟨a, b⟩
    by_cases e : c x = k
    · exact .inr (.inr ⟨a, e⟩)
    · by_cases f : w x = l
      · exact .inr (.inl ⟨a, f, e⟩)
      · exact .inl ⟨a, by omega⟩

theorem wide_nodup {l : Int} {k : κ} (hk : ∀ x < n, c x = k → w x = l) : (hi n w l ++ (bes n w c l k ++ cls n c k)).Nodup := by
  have R : (List.range n).Nodup := List.nodup_range
  rw [List.nodup_append, List.nodup_append]
  refine ⟨nodup_filter R, ⟨nodup_filter R, nodup_filter R, ?_⟩, ?_⟩
  · intro x hx y hy e
    subst e
    have a := (List.mem_filter.1 hx).2
    have b := (List.mem_filter.1 hy).2
    simp only [Bool.and_eq_true, decide_eq_true_eq, Bool.not_eq_true', decide_eq_false_iff_not] at a b
    exact a.2 b
  · intro x hx y hy e
    subst e
    have a := (List.mem_filter.1 hx).2
    simp only [decide_eq_true_eq] at a
    rcases List.mem_append.1 hy with h | h
    · have b := (List.mem_filter.1 h).2
      simp only [Bool.and_eq_true, decide_eq_true_eq, Bool.not_eq_true', decide_eq_false_iff_not] at b
      omega
    · obtain ⟨b1, b⟩ := List.mem_filter.1 h
      have b : c x = k := of_decide_eq_true b
      have := hk x (List.mem_range.1 b1) b
      omega

/-- counts of one list, by membership of B, are the same for lists of the same members -/
theorem cnt_congr {U V : List Nat} (nU : U.Nodup) (nV : V.Nodup) (e : ∀ x, x ∈ U ↔ x ∈ V) (p : Nat → Bool) :
    (U.filter p).length = (V.filter p).length :=
  (perm_of_mem (nodup_filter nU) (nodup_filter nV) (fun x => by simp only [List.mem_filter, e])).length_eq

/-- an order by falling weights -/
structure Fall (n : Nat) (w : Nat → Int) (o : List Nat) : Prop where
  nd : o.Nodup
  mem : ∀ x, x ∈ o ↔ x < n
  fall : o.Pairwise (fun a b => w b ≤ w a)

theorem Fall.count {o : List Nat} (F : Fall n w o) (N : Net n ab w c) {B} (G : Grd ab o B) (p : Int → Bool)
    (hp : ∀ x y, x ≤ y → p x = true → p y = true) {v : Nat} (hv : IsW ab ((List.range n).filter (fun x => p (w x))) v) :
    (((List.range n).filter (fun x => p (w x))).filter (inn B)).length + v = ((List.range n).filter (fun x => p (w x))).length := by
  have R : (List.range n).Nodup := List.nodup_range
  have e := fall_split F.fall p hp
  have m : ∀ x, x ∈ (List.range n).filter (fun x => p (w x)) ↔ x ∈ o.filter (fun x => p (w x)) := by
    intro x; simp only [List.mem_filter, List.mem_range, F.mem]
  have := G.pre N.lt N.trn F.nd e (up_of_mem (N.up_ge p hp) m) (hv.congr m)
  rw [cnt_congr (nodup_filter R) (nodup_filter F.nd) m, this]
  exact (perm_of_mem (nodup_filter F.nd) (nodup_filter R) (fun x => (m x).symm)).length_eq

theorem Fall.mx {o : List Nat} (F : Fall n w o) {B} (G : Grd ab o B) (p : Int → Bool)
    (hp : ∀ x y, x ≤ y → p x = true → p y = true) : ∀ x ∈ (List.range n).filter (fun x => p (w x)), x ∉ B →
      ¬ Mat ab (x :: ((List.range n).filter (fun x => p (w x))).filter (inn B)) := by
  intro x hx hn hM
  have R : (List.range n).Nodup := List.nodup_range
  have e := fall_split F.fall p hp
  have m : ∀ x, x ∈ (List.range n).filter (fun x => p (w x)) ↔ x ∈ o.filter (fun x => p (w x)) := by
    intro x; simp only [List.mem_filter, List.mem_range, F.mem]
  refine G.max _ _ e x ((m x).1 hx) hn (hM.perm (List.Perm.cons x ?_))
  exact perm_of_mem (nodup_filter (nodup_filter R)) (nodup_filter (nodup_filter F.nd)) (fun y => by simp only [List.mem_filter, List.mem_range, F.mem])

/-- every list has a width, if it is up-closed -/
theorem exW (hab : ∀ l, ∀ x ∈ ab l, x < n) (ht : Trn ab) {U : List Nat} (hU : Up ab U) (nU : U.Nodup) {v} (hv : IsW ab U v) :
    ∃ J, Mat ab J ∧ J.Nodup ∧ J ⊆ U ∧ J.length + v = U.length := by
  obtain ⟨m1, G⟩ := matched_grd hab nU
  refine ⟨_, G.mat, G.nd, G.sub, ?_⟩
  refine hv.eq hab ht hU nU G.nd G.sub G.mat fun x hx hn hM => ?_
  refine G.max U [] (by simp) x hx hn (hM.perm (List.Perm.cons x ?_))
  refine perm_of_mem G.nd (nodup_filter nU) fun y => ?_
  simp only [List.mem_filter, inn, decide_eq_true_eq]
  exact ⟨fun z => ⟨G.sub z, z⟩, fun z => z.2⟩

/-- an exchange is there while more than least stand outside -/
theorem Base.more (N : Net n ab w c) {l : Int} {k : κ} (hk : ∀ x < n, c x = k → w x = l) {B : List Nat}
    (h : Base ab (hi n w l) (cls n c k) (bes n w c l k) B) {wH wHT : Nat} (hH : IsW ab (hi n w l) wH)
    (hHT : IsW ab (hi n w l ++ cls n c k) wHT) (hlt : wHT < wH + ((cls n c k).filter (out B)).length) :
    ∃ take ∈ cls n c k, take ∉ B ∧ ∃ drop ∈ bes n w c l k, drop ∈ B ∧ Mat ab (take :: B.erase drop) := by
  have R : (List.range n).Nodup := List.nodup_range
  have nd := wide_nodup hk
  have nHT : (hi n w l ++ cls n c k).Nodup := by
    obtain ⟨a, b, d⟩ := List.nodup_append.1 nd
    exact List.nodup_append.2 ⟨a, (List.nodup_append.1 b).2.1, fun x hx y hy => d x hx y (List.mem_append_right _ hy)⟩
  obtain ⟨J, j1, j2, j3, j4⟩ := exW N.lt N.trn (N.up_ht hk) nHT hHT
  refine exch N.lt nd h j1 j2 j3 ?_
  have a : ((hi n w l).filter (inn B)).length + wH = (hi n w l).length := hH.eq N.lt N.trn (N.up_hi l) (nodup_filter R) (nodup_filter (nodup_filter R)) (fun x hx => (List.mem_filter.1 hx).1)
    (h.mat.sub h.nd (nodup_filter (nodup_filter R)) (fun x hx => of_decide_eq_true (List.mem_filter.1 hx).2))
    (fun x hx hn => h.hmax x hx (fun z => hn (List.mem_filter.2 ⟨hx, decide_eq_true z⟩)))
  have b := len_split (inn B) (cls n c k)
  have b' : ((cls n c k).filter (out B)).length = ((cls n c k).filter (fun x => !inn B x)).length := rfl
  rw [List.filter_append, List.length_append]
  rw [List.length_append] at j4
  omega

/-! ### the shelf's order -/
def sOrd (n : Nat) (w : Nat → Int) (c : Nat → κ) (l : Int) (k : κ) (o : List Nat) : List Nat :=
  (o.filter (fun x => !decide (c x = k) && decide (l ≤ w x)) ++ cls n c k) ++ o.filter (fun x => decide (w x < l))

theorem sOrd_fall {o : List Nat} (F : Fall n w o) {l : Int} {k : κ} (hk : ∀ x < n, c x = k → w x = l) : Fall n w (sOrd n w c l k o) := by
  have R : (List.range n).Nodup := List.nodup_range
  refine ⟨?_, ?_, ?_⟩
  · unfold sOrd
    rw [List.nodup_append, List.nodup_append]
    refine ⟨⟨nodup_filter F.nd, nodup_filter R, ?_⟩, nodup_filter F.nd, ?_⟩
    · intro x hx y hy e; subst e
      have a := (List.mem_filter.1 hx).2
      have b := (List.mem_filter.1 hy).2
      simp at a b; exact a.1 b
    · intro x hx y hy e; subst e
      have b := (List.mem_filter.1 hy).2
      simp at b
      rcases List.mem_append.1 hx with h | h
      · have a := (List.mem_filter.1 h).2
        simp at a; omega
      · obtain ⟨a1, a⟩ := List.mem_filter.1 h
        simp at a a1; have := hk x a1 a; omega
  · intro x
    unfold sOrd
    simp only [List.mem_append, List.mem_filter, List.mem_range, F.mem, Bool.and_eq_true, decide_eq_true_eq, Bool.not_eq_true', decide_eq_false_iff_not]
    constructor
    · rintro ((⟨a, _⟩ | ⟨a, _⟩) | ⟨a, _⟩) <;> exact a
    · intro a
      by_cases e : c x = k
      · exact .inl (.inr ⟨a, e⟩)
      · by_cases f : w x < l
        · exact .inr ⟨a, f⟩
        · exact .inl (.inl ⟨a, e, by omega⟩)
  · unfold sOrd
    rw [List.pairwise_append, List.pairwise_append]
    refine ⟨⟨F.fall.sublist List.filter_sublist, ?_, ?_⟩, F.fall.sublist List.filter_sublist, ?_⟩
    · refine List.Pairwise.imp_of_mem (R := fun _ _ => True) ?_ ?_
      · intro a b ha hb _
        obtain ⟨a1, a2⟩ := List.mem_filter.1 ha
        obtain ⟨b1, b2⟩ := List.mem_filter.1 hb
        simp at a1 a2 b1 b2
        rw [hk a a1 a2, hk b b1 b2]; exact Int.le_refl _
      · exact List.pairwise_of_forall (fun _ _ => trivial)
    · intro a ha b hb
      have a2 := (List.mem_filter.1 ha).2
      obtain ⟨b1, b2⟩ := List.mem_filter.1 hb
      simp at a2 b1 b2
      rw [hk b b1 b2]; exact a2.2
    · intro a ha b hb
      have b2 := (List.mem_filter.1 hb).2
      simp at b2
      rcases List.mem_append.1 ha with h | h
      · have a2 := (List.mem_filter.1 h).2
        simp at a2; omega
      · obtain ⟨a1, a2⟩ := List.mem_filter.1 h
        simp at a1 a2; rw [hk a a1 a2]; omega

theorem sOrd_base (N : Net n ab w c) {o : List Nat} (F : Fall n w o) {l : Int} {k : κ} (hk : ∀ x < n, c x = k → w x = l) {B : List Nat}
    (G : Grd ab (sOrd n w c l k o) B) {wW wO : Nat} (hW : IsW ab (ge n w l) wW) (hO : IsW ab (oth n w c l k) wO) :
    Base ab (hi n w l) (cls n c k) (bes n w c l k) B ∧ ((cls n c k).filter (out B)).length + wO = wW := by
  have R : (List.range n).Nodup := List.nodup_range
  have F' := sOrd_fall (c := c) F hk
  have nd := wide_nodup hk
  have wm := fun x => wide_mem (w := w) hk x
  have cW : (((ge n w l)).filter (inn B)).length + wW = (ge n w l).length := F'.count N G (fun v => decide (l ≤ v)) (fun x y h a => by simp at a ⊢; omega) hW
  refine ⟨⟨G.mat, G.nd, ?_, ?_⟩, ?_⟩
  · exact F'.mx G (fun v => decide (l < v)) (fun x y h a => by simp at a ⊢; omega)
  · intro J j1 j2 j3
    have : J.length + wW ≤ (ge n w l).length := hW.rank N.trn (N.up_ge' l) (nodup_filter R) j1 (fun x hx => (wm x).1 (j2 hx)) j3
    have t := cnt_congr (V := ge n w l) nd (nodup_filter R) wm (inn B)
    omega
  · -- the others are a prefix
    have e : sOrd n w c l k o = o.filter (fun x => !decide (c x = k) && decide (l ≤ w x)) ++ (cls n c k ++ o.filter (fun x => decide (w x < l))) := by
      simp [sOrd]
    have m : ∀ x, x ∈ oth n w c l k ↔ x ∈ o.filter (fun x => !decide (c x = k) && decide (l ≤ w x)) := by
      intro x
      simp only [List.mem_filter, List.mem_range, F.mem, Bool.and_eq_true, decide_eq_true_eq, Bool.not_eq_true', decide_eq_false_iff_not]
      exact ⟨fun z => ⟨z.1, z.2.2, z.2.1⟩, fun z => ⟨z.1, z.2.2, z.2.1⟩⟩
    have cO := G.pre N.lt N.trn F'.nd e (up_of_mem (N.up_oth hk) m) (hO.congr m)
    have mO : ∀ x, x ∈ hi n w l ++ bes n w c l k ↔ x ∈ o.filter (fun x => !decide (c x = k) && decide (l ≤ w x)) := by
      intro x
      simp only [List.mem_append, List.mem_filter, List.mem_range, F.mem, Bool.and_eq_true, decide_eq_true_eq, Bool.not_eq_true', decide_eq_false_iff_not]
      constructor
      · rintro (⟨a, b⟩ | ⟨a, b, d⟩)
        · exact ⟨a, fun z => by have := hk x a z; omega, by omega⟩
        · exact ⟨a, d, by omega⟩
      · rintro ⟨a, b, d⟩
        by_cases f : w x = l
        · exact .inr ⟨a, f, b⟩
        · exact .inl ⟨a, by omega⟩
    have nO : (hi n w l ++ bes n w c l k).Nodup := by
      obtain ⟨a, b, d⟩ := List.nodup_append.1 nd
      exact List.nodup_append.2 ⟨a, (List.nodup_append.1 b).1, fun x hx y hy => d x hx y (List.mem_append_left _ hy)⟩
    have t1 := cnt_congr nO (nodup_filter F.nd) mO (inn B)
    have t2 := (perm_of_mem nO (nodup_filter F.nd) mO).length_eq
    have t3 := cnt_congr (V := ge n w l) nd (nodup_filter R) wm (inn B)
    have t4 := (perm_of_mem (b := ge n w l) nd (nodup_filter R) wm).length_eq
    have b := len_split (inn B) (cls n c k)
    have b' : ((cls n c k).filter (out B)).length = ((cls n c k).filter (fun x => !inn B x)).length := rfl
    have cW' : (((ge n w l)).filter (inn B)).length + wW = (ge n w l).length := cW
    simp only [List.filter_append, List.length_append] at t1 t2 t3 t4
    omega

/-! ### bounds of a class, for a greedy matching by falling weights -/
theorem class_bounds (N : Net n ab w c) {o : List Nat} (F : Fall n w o) {l : Int} {k : κ} (hk : ∀ x < n, c x = k → w x = l) {B : List Nat}
    (G : Grd ab o B) {wH wHT wW wO : Nat} (hH : IsW ab (hi n w l) wH) (hHT : IsW ab (hi n w l ++ cls n c k) wHT)
    (hW : IsW ab (ge n w l) wW) (hO : IsW ab (oth n w c l k) wO) :
    wHT ≤ wH + ((cls n c k).filter (out B)).length ∧ ((cls n c k).filter (out B)).length + wO ≤ wW := by
  have R : (List.range n).Nodup := List.nodup_range
  have nd := wide_nodup hk
  have wm := fun x => wide_mem (w := w) hk x
  have cW : (((ge n w l)).filter (inn B)).length + wW = (ge n w l).length :=
    F.count N G (fun v => decide (l ≤ v)) (fun x y h a => by simp at a ⊢; omega) hW
  have cH : (((hi n w l)).filter (inn B)).length + wH = (hi n w l).length :=
    F.count N G (fun v => decide (l < v)) (fun x y h a => by simp at a ⊢; omega) hH
  have nHT : (hi n w l ++ cls n c k).Nodup := by
    obtain ⟨a, b, d⟩ := List.nodup_append.1 nd
    exact List.nodup_append.2 ⟨a, (List.nodup_append.1 b).2.1, fun x hx y hy => d x hx y (List.mem_append_right _ hy)⟩
  have rHT : ((hi n w l ++ cls n c k).filter (inn B)).length + wHT ≤ (hi n w l ++ cls n c k).length := hHT.rank N.trn (N.up_ht hk) nHT (J := (hi n w l ++ cls n c k).filter (inn B)) (nodup_filter nHT)
    (fun x hx => (List.mem_filter.1 hx).1) (G.mat.sub G.nd (nodup_filter nHT) (fun x hx => of_decide_eq_true (List.mem_filter.1 hx).2))
  have nO : (oth n w c l k).Nodup := nodup_filter R
  have rO : ((oth n w c l k).filter (inn B)).length + wO ≤ (oth n w c l k).length := hO.rank N.trn (N.up_oth hk) nO (J := (oth n w c l k).filter (inn B)) (nodup_filter nO)
    (fun x hx => (List.mem_filter.1 hx).1) (G.mat.sub G.nd (nodup_filter nO) (fun x hx => of_decide_eq_true (List.mem_filter.1 hx).2))
  have mO : ∀ x, x ∈ hi n w l ++ bes n w c l k ↔ x ∈ oth n w c l k := by
    intro x
    simp only [List.mem_append, List.mem_filter, List.mem_range, Bool.and_eq_true, decide_eq_true_eq, Bool.not_eq_true', decide_eq_false_iff_not]
    constructor
    · rintro (⟨a, b⟩ | ⟨a, b, d⟩)
      · exact ⟨a, by omega, fun z => by have := hk x a z; omega⟩
      · exact ⟨a, by omega, d⟩
    · rintro ⟨a, d, b⟩
      by_cases f : w x = l
      · exact .inr ⟨a, f, b⟩
      · exact .inl ⟨a, by omega⟩
  have nHB : (hi n w l ++ bes n w c l k).Nodup := by
    obtain ⟨a, b, d⟩ := List.nodup_append.1 nd
    exact List.nodup_append.2 ⟨a, (List.nodup_append.1 b).1, fun x hx y hy => d x hx y (List.mem_append_left _ hy)⟩
  have t1 := cnt_congr nHB nO mO (inn B)
  have t2 := (perm_of_mem nHB nO mO).length_eq
  have t3 := cnt_congr (V := ge n w l) nd (nodup_filter R) wm (inn B)
  have t4 := (perm_of_mem (b := ge n w l) nd (nodup_filter R) wm).length_eq
  have b := len_split (inn B) (cls n c k)
  have b' : ((cls n c k).filter (out B)).length = ((cls n c k).filter (fun x => !inn B x)).length := rfl
  simp only [List.filter_append, List.length_append] at t1 t2 t3 t4 rHT
  omega

end
end NkM
end
section
/-! The program's own functions on numbers: matched, exchanged, one_more, the loop; sums by levels; chains. -/
namespace NkM
open List

def swapD (d : List (Nat × Nat)) : List (Nat × Nat) := d.map (fun p => (p.2, p.1))
def matchedM (ab : Nat → List Nat) (n : Nat) (o : List Nat) : List (Nat × Nat) := swapD (matchedD ab n o [])
def keysM (m : List (Nat × Nat)) : List Nat := m.map (·.1)

theorem keys_swap (d : List (Nat × Nat)) : keysM (swapD d) = lows d := by
  simp [keysM, swapD, lows, Function.comp]

theorem swap_swap (d : List (Nat × Nat)) : swapD (swapD d) = d := by
  unfold swapD; rw [List.map_map]; conv => rhs; rw [← List.map_id d]
  rfl

def exchanged (ab : Nat → List Nat) (n : Nat) (m : List (Nat × Nat)) (drop take : Nat) : Option (List (Nat × Nat)) :=
  let order := (keysM m).filter (fun x => decide (x ≠ drop)) ++ [take]
  let found := matchedM ab n order
  if found.length = order.length then some found else none

def oneMore (ab : Nat → List Nat) (n : Nat) (m : List (Nat × Nat)) (inside beside : List Nat) : Option (List (Nat × Nat)) :=
  (inside.filter (out (keysM m))).findSome? fun take =>
    (beside.filter (inn (keysM m))).findSome? fun drop => exchanged ab n m drop take

def loopM (ab : Nat → List Nat) (n : Nat) (inside beside : List Nat) (many : Int) : Nat → List (Nat × Nat) → Option (List (Nat × Nat))
  | 0, m => some m
  | f + 1, m =>
    if many < ((inside.filter (out (keysM m))).length : Int) then
      match oneMore ab n m inside beside with
      | none => none
      | some m' => loopM ab n inside beside many f m'
    else some m

theorem exchanged_some {ab : Nat → List Nat} {n : Nat} (hab : ∀ l, ∀ x ∈ ab l, x < n) {m : List (Nat × Nat)} {drop take : Nat}
    (nd : (keysM m).Nodup) (ht : take ∉ keysM m) (hd : drop ∈ keysM m) :
    ((exchanged ab n m drop take).isSome ↔ Mat ab (take :: (keysM m).erase drop)) ∧
    ∀ m', exchanged ab n m drop take = some m' → Mt ab (swapD m') ∧ keysM m' ~ take :: (keysM m).erase drop := by
  have no : ((keysM m).filter (fun x => decide (x ≠ drop)) ++ [take]).Nodup := by
    rw [List.nodup_append]
    exact ⟨nodup_filter nd, by simp, fun a ha b hb => by simp at hb; subst hb; intro e; subst e; exact ht (List.mem_filter.1 ha).1⟩
  have po : (keysM m).filter (fun x => decide (x ≠ drop)) ++ [take] ~ take :: (keysM m).erase drop := by
    refine perm_of_mem no (List.nodup_cons.2 ⟨fun z => ht (List.mem_of_mem_erase z), nd.erase _⟩) fun x => ?_
    simp only [List.mem_append, List.mem_filter, decide_eq_true_eq, List.mem_cons, List.not_mem_nil, or_false, nd.mem_erase_iff]
    constructor
    · rintro (⟨a, b⟩ | a)
      · exact .inr ⟨b, a⟩
      · exact .inl a
    · rintro (a | ⟨a, b⟩)
      · exact .inr a
      · exact .inl ⟨b, a⟩
  obtain ⟨M, G⟩ := matched_grd hab no
  have F := G.full no
  have hl : (matchedM ab n ((keysM m).filter (fun x => decide (x ≠ drop)) ++ [take])).length
      = (lows (matchedD ab n ((keysM m).filter (fun x => decide (x ≠ drop)) ++ [take]) [])).length := by
    rw [← keys_swap]; simp [matchedM, keysM]
  constructor
  · unfold exchanged
    simp only [hl]
    by_cases e : (lows (matchedD ab n ((keysM m).filter (fun x => decide (x ≠ drop)) ++ [take]) [])).length = ((keysM m).filter (fun x => decide (x ≠ drop)) ++ [take]).length
    · rw [if_pos e]
      exact ⟨fun _ => (F.1 e).perm po, fun _ => rfl⟩
    · rw [if_neg e]
      exact ⟨fun z => (by cases z), fun z => absurd (F.2 (z.perm po.symm)) e⟩
  · intro m' h
    unfold exchanged at h
    simp only [hl] at h
    split at h
    · rename_i e
      cases h
      refine ⟨?_, ?_⟩
      · unfold matchedM; rw [swap_swap]; exact M
      · unfold matchedM; rw [keys_swap]
        exact (perm_of_len G.nd no G.sub (by omega)).trans po
    · cases h

theorem oneMore_some {ab : Nat → List Nat} {n : Nat} (hab : ∀ l, ∀ x ∈ ab l, x < n) {m : List (Nat × Nat)} (nd : (keysM m).Nodup)
    {inside beside : List Nat} :
    (∀ m', oneMore ab n m inside beside = some m' → ∃ take ∈ inside, take ∉ keysM m ∧ ∃ drop ∈ beside, drop ∈ keysM m ∧
        Mt ab (swapD m') ∧ keysM m' ~ take :: (keysM m).erase drop) ∧
    ((∃ take ∈ inside, take ∉ keysM m ∧ ∃ drop ∈ beside, drop ∈ keysM m ∧ Mat ab (take :: (keysM m).erase drop)) →
      (oneMore ab n m inside beside).isSome) := by
  constructor
  · intro m' h
    obtain ⟨take, h1, h2⟩ := List.exists_of_findSome?_eq_some h
    obtain ⟨drop, h3, h4⟩ := List.exists_of_findSome?_eq_some h2
    obtain ⟨a1, a2⟩ := List.mem_filter.1 h1
    obtain ⟨b1, b2⟩ := List.mem_filter.1 h3
    have a2 : take ∉ keysM m := by simpa [out] using a2
    have b2 : drop ∈ keysM m := by simpa [inn] using b2
    obtain ⟨c1, c2⟩ := (exchanged_some hab nd a2 b2).2 m' h4
    exact ⟨take, a1, a2, drop, b1, b2, c1, c2⟩
  · rintro ⟨take, a1, a2, drop, b1, b2, c⟩
    have h := (exchanged_some hab nd a2 b2).1.2 c
    unfold oneMore
    rw [List.findSome?_isSome_iff]
    refine ⟨take, List.mem_filter.2 ⟨a1, by simpa [out] using a2⟩, ?_⟩
    rw [List.findSome?_isSome_iff]
    exact ⟨drop, List.mem_filter.2 ⟨b1, by simpa [inn] using b2⟩, h⟩

/-- what the loop of exchanges leaves -/
structure Done (n : Nat) (ab : Nat → List Nat) (w : Nat → Int) (T : List Nat) (many : Int) (B0 : List Nat) (m : List (Nat × Nat)) : Prop where
  mt : Mt ab (swapD m)
  nd : (keysM m).Nodup
  cnt : ((T.filter (out (keysM m))).length : Int) = many
  sum : ((keysM m).map w).sum = (B0.map w).sum

theorem sum_perm {w : Nat → Int} {a b : List Nat} (h : a ~ b) : (a.map w).sum = (b.map w).sum := by
  induction h with
  | nil => rfl
  | cons x _ ih => simp [ih]
  | swap x y l => simp; omega
  | trans _ _ h1 h2 => exact h1.trans h2

section
variable {n : Nat} {ab : Nat → List Nat} {w : Nat → Int} {κ : Type} [DecidableEq κ] {c : Nat → κ}

theorem loop_done (N : Net n ab w c) {l : Int} {k : κ} (hk : ∀ x < n, c x = k → w x = l) {wH wHT : Nat} (hH : IsW ab (hi n w l) wH)
    (hHT : IsW ab (hi n w l ++ cls n c k) wHT) {many : Int} (hm : (wHT : Int) - wH ≤ many) (B0 : List Nat) :
    ∀ (f : Nat) (m : List (Nat × Nat)), Mt ab (swapD m) → Base ab (hi n w l) (cls n c k) (bes n w c l k) (keysM m) →
      many ≤ ((cls n c k).filter (out (keysM m))).length → ((cls n c k).filter (out (keysM m))).length < f →
      ((keysM m).map w).sum = (B0.map w).sum →
      ∃ m', loopM ab n (cls n c k) (bes n w c l k) many f m = some m' ∧ Done n ab w (cls n c k) many B0 m' := by
  intro f
  induction f with
  | zero => intro m _ _ _ h; omega
  | succ f ih =>
    intro m mt b h1 h2 hs
    rw [loopM]
    by_cases q : many < ((cls n c k).filter (out (keysM m))).length
    · rw [if_pos q]
      have ex := b.more N hk hH hHT (by omega)
      obtain ⟨o1, o2⟩ := oneMore_some N.lt b.nd (inside := cls n c k) (beside := bes n w c l k)
      have so := o2 ex
      cases e : oneMore ab n m (cls n c k) (bes n w c l k) with
      | none => rw [e] at so; cases so
      | some m' =>
        obtain ⟨take, t1, t2, drop, d1, d2, x1, x2⟩ := o1 m' e
        have mB : Mat ab (keysM m') := ⟨swapD m', x1, by rw [← keys_swap, swap_swap]⟩
        obtain ⟨y1, y2⟩ := Base.swap (wide_nodup hk) b t1 t2 d1 d2 mB x2
        refine ih m' x1 y1 (by omega) (by omega) ?_
        rw [sum_perm x2, ← hs, sum_perm (List.perm_cons_erase d2)]
        have wt := hk take (List.mem_range.1 (List.mem_filter.1 t1).1) (of_decide_eq_true (List.mem_filter.1 t1).2)
        have wd : w drop = l := by
          have := (List.mem_filter.1 d1).2
          simp only [Bool.and_eq_true, decide_eq_true_eq] at this
          exact this.1
        simp [wt, wd]
    · rw [if_neg q]
      exact ⟨m, rfl, mt, b.nd, by omega, hs⟩

/-! ### sums by levels -/
def stepSum : Int → List Int → (Int → Int) → Int
  | _, [], _ => 0
  | b, x :: xs, g => (x - b) * g x + stepSum x xs g

theorem stepSum_add (g h : Int → Int) : ∀ (xs : List Int) (b : Int), stepSum b xs (fun v => g v + h v) = stepSum b xs g + stepSum b xs h := by
  intro xs
  induction xs with
  | nil => intro b; rfl
  | cons x xs ih => intro b; simp only [stepSum, ih x, Int.mul_add]; omega

theorem stepSum_congr {g h : Int → Int} : ∀ (xs : List Int) (b : Int), (∀ x ∈ xs, g x = h x) → stepSum b xs g = stepSum b xs h := by
  intro xs
  induction xs with
  | nil => intro b _; rfl
  | cons x xs ih => intro b e; simp only [stepSum, e x (by simp), ih x (fun y hy => e y (List.mem_cons_of_mem _ hy))]

theorem stepSum_zero : ∀ (xs : List Int) (b : Int), stepSum b xs (fun _ => 0) = 0 := by
  intro xs
  induction xs with
  | nil => intro b; rfl
  | cons x xs ih => intro b; simp [stepSum, ih x]

theorem stepSum_ind (v : Int) : ∀ (xs : List Int) (b : Int), xs.Pairwise (· < ·) → v ∈ xs →
    stepSum b xs (fun x => if x ≤ v then 1 else 0) = v - b := by
  intro xs
  induction xs with
  | nil => intro b _ h; cases h
  | cons x xs ih =>
    intro b hp hv
    obtain ⟨p1, p2⟩ := List.pairwise_cons.1 hp
    rw [stepSum]
    rcases List.mem_cons.1 hv with rfl | hv
    · rw [if_pos (Int.le_refl _), stepSum_congr (h := fun _ => 0) xs v (fun y hy => if_neg (by have := p1 y hy; omega)), stepSum_zero]
      omega
    · rw [if_pos (by have := p1 v hv; omega), ih x p2 hv]; omega

theorem sum_levels {ls : List Int} (hp : ls.Pairwise (· < ·)) : ∀ (L : List Nat), (∀ t ∈ L, w t ∈ ls) →
    (L.map w).sum = stepSum 0 ls (fun x => ((L.filter (fun t => decide (x ≤ w t))).length : Int)) := by
  intro L
  induction L with
  | nil => intro _; simp [stepSum_zero]
  | cons t L ih =>
    intro h
    have e : ∀ x ∈ ls, (((t :: L).filter (fun t => decide (x ≤ w t))).length : Int)
        = (if x ≤ w t then 1 else 0) + ((L.filter (fun t => decide (x ≤ w t))).length : Int) := by
      intro x _
      by_cases q : x ≤ w t
      · simp [q]; omega
      · simp [q]
    rw [stepSum_congr ls 0 e, stepSum_add, stepSum_ind (w t) ls 0 hp (h t (by simp)), ← ih (fun y hy => h y (List.mem_cons_of_mem _ hy))]
    simp

/-- the sum of those outside, by the levels' widths -/
theorem cost_levels (N : Net n ab w c) {o : List Nat} (F : Fall n w o) {B : List Nat} (G : Grd ab o B) {ls : List Int}
    (hp : ls.Pairwise (· < ·)) (hl : ∀ t < n, w t ∈ ls) (W : Int → Nat) (hW : ∀ x ∈ ls, IsW ab (ge n w x) (W x)) :
    (((List.range n).filter (out B)).map w).sum = stepSum 0 ls (fun x => (W x : Int)) := by
  rw [sum_levels hp _ (fun t ht => hl t (List.mem_range.1 (List.mem_filter.1 ht).1))]
  refine stepSum_congr ls 0 fun x hx => ?_
  have cW : (((ge n w x)).filter (inn B)).length + W x = (ge n w x).length :=
    F.count N G (fun v => decide (x ≤ v)) (fun a b h q => by simp at q ⊢; omega) (hW x hx)
  have a := len_split (inn B) (ge n w x)
  have e : ((List.range n).filter (out B)).filter (fun t => decide (x ≤ w t)) = (ge n w x).filter (fun t => !inn B t) := by
    rw [List.filter_filter, List.filter_filter]
    refine filter_congr' fun y _ => ?_
    simp only [inn, Bool.and_comm]
  rw [e]; omega

theorem sum_split (p : Nat → Bool) (L : List Nat) : (L.map w).sum = ((L.filter p).map w).sum + ((L.filter (fun x => !p x)).map w).sum := by
  induction L with
  | nil => rfl
  | cons a L ih =>
    by_cases q : p a = true
    · simp [List.filter_cons, q, ih]; omega
    · simp [List.filter_cons, q, ih]; omega

/-- the sum outside, by the sum inside -/
theorem sum_out {B : List Nat} (nB : B.Nodup) (hB : ∀ x ∈ B, x < n) :
    (((List.range n).filter (out B)).map w).sum = ((List.range n).map w).sum - (B.map w).sum := by
  have := sum_split (w := w) (inn B) (List.range n)
  have e : (List.range n).filter (inn B) ~ B := by
    refine perm_of_mem (nodup_filter List.nodup_range) nB fun x => ?_
    simp only [List.mem_filter, List.mem_range, inn, decide_eq_true_eq]
    exact ⟨fun z => z.2, fun z => ⟨hB x z, z⟩⟩
  rw [sum_perm e] at this
  have e2 : ((List.range n).filter (out B)) = (List.range n).filter (fun x => !inn B x) := rfl
  rw [e2]; omega

theorem Mt.low_lt (N : Net n ab w c) (hz : ∀ l, n ≤ l → ab l = []) {M : List (Nat × Nat)} (h : Mt ab M) : ∀ x ∈ lows M, x < n := by
  intro x hx
  obtain ⟨p, hp, e⟩ := List.mem_map.1 hx
  refine Classical.byContradiction fun q => ?_
  have := h.edge p hp
  rw [hz p.2 (by omega)] at this
  cases this

/-- classes part the rest -/
theorem classes_sum {ks : List κ} (hk : ks.Nodup) : ∀ (L : List Nat), (∀ t ∈ L, c t ∈ ks) →
    (ks.map (fun k => (L.filter (fun t => decide (c t = k))).length)).sum = L.length := by
  intro L
  induction L with
  | nil => intro _; clear hk; induction ks with
    | nil => rfl
    | cons a l ih => simpa using ih
  | cons t L ih =>
    intro h
    have e : ∀ ks : List κ, ks.Nodup → (ks.map (fun k => ((t :: L).filter (fun t => decide (c t = k))).length)).sum
        = (ks.map (fun k => (L.filter (fun t => decide (c t = k))).length)).sum + (if c t ∈ ks then 1 else 0) := by
      intro ks
      induction ks with
      | nil => intro _; rfl
      | cons a ks ih =>
        intro hn
        obtain ⟨n1, n2⟩ := List.nodup_cons.1 hn
        simp only [List.map_cons, List.sum_cons, ih n2]
        by_cases q : c t = a
        · subst q
          simp [n1]; omega
        · have : (c t ∈ a :: ks) ↔ c t ∈ ks := by simp [q]
          simp only [List.filter_cons, q, decide_false, this, Bool.false_eq_true, if_false]; omega
    rw [e ks hk, ih (fun y hy => h y (List.mem_cons_of_mem _ hy)), if_pos (h t (by simp))]
    simp

end
end NkM
end
section
/-! Chains of a matching. -/
namespace NkM
open List

theorem perm_of_sub {α} [DecidableEq α] : ∀ {K L : List α}, K.Nodup → K ⊆ L → L.length ≤ K.length → K ~ L := by
  intro K
  induction K with
  | nil => intro L _ _ h; cases L with
    | nil => exact List.Perm.refl _
    | cons a l => simp at h
  | cons x K ih =>
    intro L hn hs hl
    obtain ⟨n1, n2⟩ := List.nodup_cons.1 hn
    have hx : x ∈ L := hs (by simp)
    have p := List.perm_cons_erase hx
    refine ((ih n2 ?_ ?_).cons x).trans p.symm
    · intro y hy
      have hne : y ≠ x := fun z => n1 (z ▸ hy)
      exact (List.mem_erase_of_ne hne).2 (hs (List.mem_cons_of_mem _ hy))
    · have : 0 < L.length := List.length_pos_of_mem hx
      rw [List.length_erase_of_mem hx]; simp at hl; omega

def follow (m : List (Nat × Nat)) : Nat → Nat → List Nat
  | 0, x => [x]
  | f + 1, x => match get m x with
    | none => [x]
    | some y => x :: follow m f y

def chainedM (m : List (Nat × Nat)) (n R : Nat) : List (List Nat) :=
  ((List.range n).filter (fun x => !decide (x ∈ lows m))).map (follow m R)

def lastOf (l : List Nat) : Nat := l.getLast?.getD 0

theorem follow_ne (m : List (Nat × Nat)) (f x : Nat) : ∃ l, follow m f x = x :: l := by
  cases f with
  | zero => exact ⟨[], rfl⟩
  | succ f =>
    unfold follow
    cases get m x with
    | none => exact ⟨[], rfl⟩
    | some y => exact ⟨_, rfl⟩

theorem lastOf_cons {x : Nat} {l : List Nat} (h : l ≠ []) : lastOf (x :: l) = lastOf l := by
  cases l with
  | nil => exact absurd rfl h
  | cons a l => simp [lastOf]

structure Ranked (n : Nat) (m : List (Nat × Nat)) (rk : Nat → Nat) (R : Nat) : Prop where
  up : ∀ p ∈ m, p.1 < n ∧ p.2 < n ∧ rk p.1 < rk p.2
  lt : ∀ x < n, rk x < R

theorem follow_end {n : Nat} {m : List (Nat × Nat)} {rk R} (h : Ranked n m rk R) :
    ∀ f x, x < n → R ≤ rk x + f → get m (lastOf (follow m f x)) = none ∧ (∀ y ∈ follow m f x, y < n) ∧
      ∀ y ∈ follow m f x, ∀ z, get m y = some z → z ∈ follow m f x := by
  intro f
  induction f with
  | zero => intro x hx hf; have := h.lt x hx; omega
  | succ f ih =>
    intro x hx hf
    unfold follow
    cases e : get m x with
    | none =>
      refine ⟨by simpa [lastOf] using e, by simpa using hx, ?_⟩
      intro y hy z hz
      simp at hy; subst hy; rw [e] at hz; cases hz
    | some y =>
      obtain ⟨a, b, c⟩ := h.up _ (get_mem e)
      obtain ⟨i1, i2, i3⟩ := ih y b (by simp at c; omega)
      obtain ⟨l, hl⟩ := follow_ne m f y
      have hne : follow m f y ≠ [] := by rw [hl]; simp
      simp only []
      refine ⟨by rw [lastOf_cons hne]; exact i1, ?_, ?_⟩
      · intro t ht
        rcases List.mem_cons.1 ht with rfl | ht
        · exact hx
        · exact i2 t ht
      · intro t ht z hz
        rcases List.mem_cons.1 ht with rfl | ht
        · rw [e] at hz; cases hz
          exact List.mem_cons_of_mem _ (by rw [hl]; simp)
        · exact List.mem_cons_of_mem _ (i3 t ht z hz)

/-- what has no follower is the last -/
theorem follow_last {m : List (Nat × Nat)} : ∀ f x, ∀ t ∈ follow m f x, get m t = none → lastOf (follow m f x) = t := by
  intro f
  induction f with
  | zero => intro x t ht _; simp [follow] at ht; simp [follow, lastOf, ht]
  | succ f ih =>
    intro x t ht hn
    unfold follow at ht ⊢
    cases e : get m x with
    | none => simp [e] at ht; simp [lastOf, ht]
    | some y =>
      simp only [e] at ht ⊢
      obtain ⟨l, hl⟩ := follow_ne m f y
      have hne : follow m f y ≠ [] := by rw [hl]; simp
      rw [lastOf_cons hne]
      rcases List.mem_cons.1 ht with rfl | ht
      · rw [e] at hn; cases hn
      · exact ih y t ht hn

theorem follow_pair {m : List (Nat × Nat)} {rel : Nat → Nat → Prop} (ht : ∀ x y z, rel x y → rel y z → rel x z)
    (he : ∀ p ∈ m, rel p.1 p.2) : ∀ f x, (follow m f x).Pairwise rel ∧ ∀ y ∈ follow m f x, y = x ∨ rel x y := by
  intro f
  induction f with
  | zero => intro x; exact ⟨by simp [follow], by simp [follow]⟩
  | succ f ih =>
    intro x
    unfold follow
    cases e : get m x with
    | none => exact ⟨by simp, by simp⟩
    | some y =>
      obtain ⟨i1, i2⟩ := ih y
      have exy := he _ (get_mem e)
      have a : ∀ z ∈ follow m f y, rel x z := fun z hz => by
        rcases i2 z hz with rfl | q
        · exact exy
        · exact ht _ _ _ exy q
      exact ⟨List.pairwise_cons.2 ⟨a, i1⟩, fun z hz => by
        rcases List.mem_cons.1 hz with rfl | hz
        · exact .inl rfl
        · exact .inr (a z hz)⟩

structure Chains (n : Nat) (m : List (Nat × Nat)) (rel : Nat → Nat → Prop) (cs : List (List Nat)) : Prop where
  ne : ∀ c ∈ cs, c ≠ []
  lt : ∀ c ∈ cs, ∀ x ∈ c, x < n
  asc : ∀ c ∈ cs, c.Pairwise rel
  all : ∀ x < n, ∃ c ∈ cs, x ∈ c
  tops : cs.map lastOf ~ (List.range n).filter (out (keysM m))

theorem chainedM_chains {n : Nat} {m : List (Nat × Nat)} {rk R} (h : Ranked n m rk R) {rel : Nat → Nat → Prop}
    (ht : ∀ x y z, rel x y → rel y z → rel x z) (he : ∀ p ∈ m, rel p.1 p.2) (nk : (keysM m).Nodup) (nl : (lows m).Nodup) :
    Chains n m rel (chainedM m n R) := by
  have mem : ∀ c, c ∈ chainedM m n R ↔ ∃ b, b < n ∧ b ∉ lows m ∧ follow m R b = c := by
    intro c
    simp only [chainedM, List.mem_map, List.mem_filter, List.mem_range, Bool.not_eq_true', decide_eq_false_iff_not, and_assoc]
  have all : ∀ k, ∀ x < n, rk x ≤ k → ∃ c ∈ chainedM m n R, x ∈ c := by
    intro k
    induction k with
    | zero =>
      intro x hx hk
      have : x ∉ lows m := by
        intro z
        obtain ⟨p, hp, e⟩ := List.mem_map.1 z
        have := (h.up p hp).2.2
        rw [e] at this; omega
      obtain ⟨l, hl⟩ := follow_ne m R x
      exact ⟨_, (mem _).2 ⟨x, hx, this, rfl⟩, by rw [hl]; simp⟩
    | succ k ih =>
      intro x hx hk
      by_cases z : x ∈ lows m
      · obtain ⟨p, hp, e⟩ := List.mem_map.1 z
        obtain ⟨a, b, c⟩ := h.up p hp
        obtain ⟨ch, h1, h2⟩ := ih p.1 a (by rw [e] at c; omega)
        obtain ⟨b0, b1, b2, b3⟩ := (mem _).1 h1
        refine ⟨ch, h1, ?_⟩
        rw [← b3] at h2 ⊢
        have := (follow_end h R b0 b1 (by omega)).2.2 p.1 h2 p.2 (get_of_mem nk hp)
        rw [e] at this; exact this
      · obtain ⟨l, hl⟩ := follow_ne m R x
        exact ⟨_, (mem _).2 ⟨x, hx, z, rfl⟩, by rw [hl]; simp⟩
  refine ⟨?_, ?_, ?_, fun x hx => all (rk x) x hx (Nat.le_refl _), ?_⟩
  · intro c hc
    obtain ⟨b, _, _, e⟩ := (mem c).1 hc
    obtain ⟨l, hl⟩ := follow_ne m R b
    rw [← e, hl]; simp
  · intro c hc
    obtain ⟨b, b1, _, e⟩ := (mem c).1 hc
    rw [← e]; exact (follow_end h R b b1 (by omega)).2.1
  · intro c hc
    obtain ⟨b, b1, _, e⟩ := (mem c).1 hc
    rw [← e]; exact (follow_pair ht he R b).1
  · refine (perm_of_sub (nodup_filter List.nodup_range) ?_ ?_).symm
    · intro t htt
      obtain ⟨a, b⟩ := List.mem_filter.1 htt
      have b : t ∉ keysM m := by simpa [out] using b
      obtain ⟨ch, h1, h2⟩ := all (rk t) t (List.mem_range.1 a) (Nat.le_refl _)
      obtain ⟨b0, b1, b2, b3⟩ := (mem _).1 h1
      refine List.mem_map.2 ⟨ch, h1, ?_⟩
      rw [← b3] at h2 ⊢
      exact follow_last R b0 t h2 (get_none.2 b)
    · have s1 := len_split (inn (keysM m)) (List.range n)
      have s2 := len_split (inn (lows m)) (List.range n)
      have k1 : ((List.range n).filter (inn (keysM m))).length = m.length := by
        have : (List.range n).filter (inn (keysM m)) ~ keysM m := by
          refine perm_of_mem (nodup_filter List.nodup_range) nk fun x => ?_
          simp only [List.mem_filter, List.mem_range, inn, decide_eq_true_eq]
          refine ⟨fun z => z.2, fun z => ⟨?_, z⟩⟩
          obtain ⟨p, hp, e⟩ := List.mem_map.1 z
          rw [← e]; exact (h.up p hp).1
        rw [this.length_eq]; simp [keysM]
      have k2 : ((List.range n).filter (inn (lows m))).length = m.length := by
        have : (List.range n).filter (inn (lows m)) ~ lows m := by
          refine perm_of_mem (nodup_filter List.nodup_range) nl fun x => ?_
          simp only [List.mem_filter, List.mem_range, inn, decide_eq_true_eq]
          refine ⟨fun z => z.2, fun z => ⟨?_, z⟩⟩
          obtain ⟨p, hp, e⟩ := List.mem_map.1 z
          rw [← e]; exact (h.up p hp).2.1
        rw [this.length_eq]; simp [lows]
      have e1 : (chainedM m n R).length = ((List.range n).filter (fun x => !inn (lows m) x)).length := by
        simp [chainedM, inn]
      have e2 : ((List.range n).filter (out (keysM m))).length = ((List.range n).filter (fun x => !inn (keysM m) x)).length := rfl
      rw [List.length_map]
      omega

end NkM
end
section
/-! Questions as data: orders, sorted lists, canonical lists. -/
namespace NkQ
open PySem PySem.W List NkM

abbrev Q := List Str × Str
abbrev eS : Str := Str.ofString ""
def encS (s : Str) : PyData := .str s
def encL (l : List Str) : PyData := .tuple (l.map PyData.str)
def encQ (q : Q) : PyData := .tuple [encL q.1, .str q.2]
abbrev leS (a b : Str) : Bool := dataLe false encS a b
abbrev leL (a b : List Str) : Bool := dataLe false encL a b
abbrev leQ (a b : Q) : Bool := dataLe false encQ a b

theorem toks_of_le {κ : Type} {enc : κ → PyData} {a b : κ} (h1 : dataLe false enc a b = true) (h2 : dataLe false enc b a = true) :
    keyToks (enc a) = keyToks (enc b) := by
  have e1 : (PyProof.Rows.listOrd PyProof.Rows.itemOrd).blt (keyToks (enc b)) (keyToks (enc a)) = false := by
    have : (!(PyProof.Rows.listOrd PyProof.Rows.itemOrd).blt (keyToks (enc b)) (keyToks (enc a))) = true := h1
    simpa using this
  have e2 : (PyProof.Rows.listOrd PyProof.Rows.itemOrd).blt (keyToks (enc a)) (keyToks (enc b)) = false := by
    have : (!(PyProof.Rows.listOrd PyProof.Rows.itemOrd).blt (keyToks (enc a)) (keyToks (enc b))) = true := h2
    simpa using this
  exact (PyProof.Rows.listOrd PyProof.Rows.itemOrd).total _ _ e2 e1

theorem toks_strs : ∀ (xs ys : List Str) (l m : List (Int ⊕ List Nat)), keyToksAll (xs.map PyData.str) ++ l = keyToksAll (ys.map PyData.str) ++ m → xs = ys ∧ l = m
  | [], [], l, m, h => by simpa [keyToksAll] using h
  | [], y :: ys, l, m, h => by simp [keyToksAll] at h
  | x :: xs, [], l, m, h => by simp [keyToksAll] at h
  | x :: xs, y :: ys, l, m, h => by
    simp only [List.map_cons, keyToksAll, keyToks, List.cons_append, List.nil_append, List.cons.injEq, true_and, Sum.inr.injEq] at h
    obtain ⟨h1, h2⟩ := h
    obtain ⟨i1, i2⟩ := toks_strs xs ys l m h2
    exact ⟨by rw [i1, str_of_cps h1], i2⟩

theorem asm_S {a b : Str} (h1 : leS a b = true) (h2 : leS b a = true) : a = b := by
  have := toks_of_le h1 h2
  simp only [encS, keyToks, List.cons.injEq, Sum.inr.injEq, and_true] at this
  exact str_of_cps this
theorem asm_L {a b : List Str} (h1 : leL a b = true) (h2 : leL b a = true) : a = b := by
  have := toks_of_le h1 h2
  simp only [encL, keyToks] at this
  exact (toks_strs a b [] [] (by simpa using this)).1
theorem asm_Q {a b : Q} (h1 : leQ a b = true) (h2 : leQ b a = true) : a = b := by
  have := toks_of_le h1 h2
  simp only [encQ, encL, keyToks, keyToksAll, List.cons.injEq, true_and] at this
  obtain ⟨i1, i2⟩ := toks_strs _ _ _ _ this
  simp only [List.cons_append, List.nil_append, List.cons.injEq, Sum.inr.injEq, true_and, and_true] at i2
  exact Prod.ext i1 (str_of_cps i2)

section
variable {κ : Type} {enc : κ → PyData}
theorem tot (enc : κ → PyData) : TotalLe (dataLe false enc) := sortLe_total _ _ _

def Asm (enc : κ → PyData) : Prop := ∀ a b, dataLe false enc a b = true → dataLe false enc b a = true → a = b

/-- sorted lists of the same members, none twice, are one -/
theorem sort_eq (ha : Asm enc) : ∀ {l m : List κ}, l.Perm m → l.Pairwise (fun a b => dataLe false enc a b = true) →
    m.Pairwise (fun a b => dataLe false enc a b = true) → l = m := by
  intro l
  induction l with
  | nil => intro m p _ _; exact (List.Perm.nil_eq p)
  | cons a l ih =>
    intro m p h1 h2
    cases m with
    | nil => exact absurd p.length_eq (by simp)
    | cons b m =>
      obtain ⟨a1, a2⟩ := List.pairwise_cons.1 h1
      obtain ⟨b1, b2⟩ := List.pairwise_cons.1 h2
      have hab : dataLe false enc a b = true := by
        rcases List.mem_cons.1 (p.mem_iff.2 (List.mem_cons_self (a := b))) with e | e
        · rw [e]; exact (tot enc).refl _
        · exact a1 b e
      have hba : dataLe false enc b a = true := by
        rcases List.mem_cons.1 (p.mem_iff.1 (List.mem_cons_self (a := a))) with e | e
        · rw [e]; exact (tot enc).refl _
        · exact b1 a e
      have e := ha a b hab hba
      subst e
      rw [ih ((List.perm_cons a).1 p) a2 b2]

def srt (enc : κ → PyData) (l : List κ) : List κ := l.mergeSort (dataLe false enc)
theorem srt_perm (enc : κ → PyData) (l : List κ) : (srt enc l).Perm l := List.mergeSort_perm _ _
theorem srt_asc (enc : κ → PyData) (l : List κ) : (srt enc l).Pairwise (fun a b => dataLe false enc a b = true) := sort_pairwise (tot enc) l
theorem srt_eq (ha : Asm enc) {l m : List κ} (p : m.Perm l) (h : m.Pairwise (fun a b => dataLe false enc a b = true)) : m = srt enc l :=
  sort_eq ha (p.trans (srt_perm enc l).symm) h (srt_asc enc l)
theorem srt_congr (ha : Asm enc) {l m : List κ} (p : m.Perm l) : srt enc m = srt enc l :=
  srt_eq ha ((srt_perm enc m).trans p) (srt_asc enc m)

def uq [DecidableEq κ] : List κ → List κ
  | [] => []
  | x :: l => if x ∈ l then uq l else x :: uq l
theorem mem_uq [DecidableEq κ] {l : List κ} {x : κ} : x ∈ uq l ↔ x ∈ l := by
  induction l with
  | nil => simp [uq]
  | cons a l ih =>
    unfold uq
    by_cases h : a ∈ l
    · rw [if_pos h, ih]; constructor
      · exact fun z => List.mem_cons_of_mem _ z
      · intro z; rcases List.mem_cons.1 z with rfl | z
        · exact h
        · exact z
    · rw [if_neg h, List.mem_cons, List.mem_cons, ih]
theorem uq_nodup [DecidableEq κ] (l : List κ) : (uq l).Nodup := by
  induction l with
  | nil => simp [uq]
  | cons a l ih =>
    unfold uq
    by_cases h : a ∈ l
    · rw [if_pos h]; exact ih
    · rw [if_neg h]; exact List.nodup_cons.2 ⟨fun z => h (mem_uq.1 z), ih⟩

/-- sorted(set(l)) -/
def canon [DecidableEq κ] (enc : κ → PyData) (l : List κ) : List κ := srt enc (uq l)
theorem canon_mem [DecidableEq κ] {l : List κ} {x : κ} : x ∈ canon enc l ↔ x ∈ l := by
  unfold canon; rw [(srt_perm enc _).mem_iff, mem_uq]
theorem canon_nodup [DecidableEq κ] (enc : κ → PyData) (l : List κ) : (canon enc l).Nodup := ((srt_perm enc _).nodup_iff).2 (uq_nodup l)
theorem canon_asc [DecidableEq κ] (enc : κ → PyData) (l : List κ) : (canon enc l).Pairwise (fun a b => dataLe false enc a b = true) := srt_asc _ _
/-- canonical: sorted, none twice -/
structure Can (enc : κ → PyData) (l : List κ) : Prop where
  nd : l.Nodup
  asc : l.Pairwise (fun a b => dataLe false enc a b = true)
theorem canon_can [DecidableEq κ] (enc : κ → PyData) (l : List κ) : Can enc (canon enc l) := ⟨canon_nodup enc l, canon_asc enc l⟩
theorem Can.eq [DecidableEq κ] (ha : Asm enc) {l m : List κ} (h : Can enc l) (h' : Can enc m) (e : ∀ x, x ∈ l ↔ x ∈ m) : l = m :=
  sort_eq ha (perm_of_mem h.nd h'.nd e) h.asc h'.asc
theorem Can.canon [DecidableEq κ] (ha : Asm enc) {l m : List κ} (h : Can enc l) (e : ∀ x, x ∈ l ↔ x ∈ m) : canon enc m = l :=
  (h.eq ha (canon_can enc m) (fun x => by rw [canon_mem]; exact e x)).symm
theorem Can.filter {l : List κ} (h : Can enc l) (p : κ → Bool) : Can enc (l.filter p) :=
  ⟨nodup_filter h.nd, h.asc.sublist List.filter_sublist⟩
/-- the sorted set of a list that has none twice is its sort -/
theorem canon_of_perm [DecidableEq κ] (ha : Asm enc) {l m : List κ} (p : m.Nodup) (e : ∀ x, x ∈ m ↔ x ∈ l) : srt enc m = canon enc l := by
  refine sort_eq ha ?_ (srt_asc _ _) (canon_asc _ _)
  exact (srt_perm _ _).trans ((perm_of_mem p (uq_nodup l) (fun x => by rw [e, mem_uq])).trans (srt_perm enc _).symm)
end

theorem asmS : Asm encS := fun _ _ => asm_S
theorem asmL : Asm encL := fun _ _ => asm_L
theorem asmQ : Asm encQ := fun _ _ => asm_Q

abbrev srtS (l : List Str) : List Str := srt encS l
abbrev canQ (l : List Q) : List Q := canon encQ l
end NkQ
end
section
/-! Questions: below, weights, the net of a list of questions, widths. -/
namespace NkQ
open PySem PySem.W List NkM

def okC (s : Str) : Bool := decide (1 ≤ s.cps.toList.length) && decide (s.cps.toList.length ≤ 8) && s.cps.toList.all (fun c => decide (97 ≤ c ∧ c ≤ 122))
theorem okC_ne {s : Str} (h : okC s = true) : s ≠ eS := by
  rintro rfl
  revert h; decide +kernel

def allQ (q : Q) : List Str := q.1 ++ (if q.2 = eS then [] else [q.2])
def colsQ (q : Q) : List Str := if q.2 = eS then q.1 else srtS (q.1 ++ [q.2])
def below (a b : Q) : Bool := decide (a ≠ b) && (colsQ a).all (fun x => decide (x ∈ b.1))
def share (a b : Q) : Bool := decide (a = b) || below a b || below b a
def rk (q : Q) : Nat := 2 * q.1.length + (if q.2 = eS then 0 else 1)

structure VQ (q : Q) : Prop where
  can : Can encS q.1
  col : ∀ x ∈ q.1, okC x = true
  last : q.2 = eS ∨ (okC q.2 = true ∧ q.2 ∉ q.1)
  ne : q.1 ≠ [] ∨ q.2 ≠ eS

theorem cols_perm (q : Q) : (colsQ q).Perm (allQ q) := by
  unfold colsQ allQ
  by_cases h : q.2 = eS
  · rw [if_pos h, if_pos h]; simp
  · rw [if_neg h, if_neg h]; exact srt_perm _ _

theorem mem_all {q : Q} {x : Str} : x ∈ allQ q ↔ x ∈ q.1 ∨ (q.2 ≠ eS ∧ x = q.2) := by
  unfold allQ
  by_cases h : q.2 = eS
  · simp [h]
  · simp [h]

theorem all_nodup {q : Q} (h : VQ q) : (allQ q).Nodup := by
  unfold allQ
  rcases h.last with e | ⟨e1, e2⟩
  · simp [e, h.can.nd]
  · rw [if_neg (okC_ne e1), List.nodup_append]
    exact ⟨h.can.nd, by simp, fun a ha b hb => by simp at hb; subst hb; intro z; exact e2 (z ▸ ha)⟩

theorem cols_can {q : Q} (h : VQ q) : Can encS (colsQ q) := by
  refine ⟨((cols_perm q).nodup_iff).2 (all_nodup h), ?_⟩
  unfold colsQ
  by_cases e : q.2 = eS
  · rw [if_pos e]; exact h.can.asc
  · rw [if_neg e]; exact srt_asc _ _

theorem cols_eq_srt {q : Q} (h : VQ q) : colsQ q = srtS (allQ q) := srt_eq asmS (cols_perm q) (cols_can h).asc

theorem below_iff {a b : Q} : below a b = true ↔ a ≠ b ∧ ∀ x ∈ allQ a, x ∈ b.1 := by
  unfold below
  simp only [Bool.and_eq_true, decide_eq_true_eq, List.all_eq_true, (cols_perm a).mem_iff]

theorem below_irr (a : Q) : below a a = false := by
  cases e : below a a with
  | false => rfl
  | true => exact absurd rfl (below_iff.1 e).1

theorem below_trans {a b c : Q} (ha : VQ a) (hb : VQ b) (h1 : below a b = true) (h2 : below b c = true) : below a c = true := by
  obtain ⟨n1, s1⟩ := below_iff.1 h1
  obtain ⟨n2, s2⟩ := below_iff.1 h2
  refine below_iff.2 ⟨?_, fun x hx => s2 x (mem_all.2 (.inl (s1 x hx)))⟩
  rintro rfl
  have l : a.2 = eS := by
    rcases ha.last with e | ⟨e1, e2⟩
    · exact e
    · exact absurd (s2 a.2 (mem_all.2 (.inl (s1 a.2 (mem_all.2 (.inr ⟨okC_ne e1, rfl⟩)))))) e2
  have lb : b.2 = eS := by
    rcases hb.last with e | ⟨e1, e2⟩
    · exact e
    · exact absurd (s1 b.2 (mem_all.2 (.inl (s2 b.2 (mem_all.2 (.inr ⟨okC_ne e1, rfl⟩)))))) e2
  have e1 : a.1 = b.1 := ha.can.eq asmS hb.can fun x => ⟨fun h => s1 x (mem_all.2 (.inl h)), fun h => s2 x (mem_all.2 (.inl h))⟩
  exact n1 (Prod.ext e1 (l.trans lb.symm))

theorem rk_lt {a b : Q} (ha : VQ a) (hb : VQ b) (h : below a b = true) : rk a < rk b := by
  obtain ⟨n1, s1⟩ := below_iff.1 h
  have hle := (all_nodup ha).length_le_of_subset (fun x hx => s1 x hx)
  unfold allQ at hle
  unfold rk
  by_cases e : a.2 = eS
  · rw [if_pos e, List.append_nil] at hle
    rw [if_pos e]
    by_cases e2 : a.1.length = b.1.length
    · have p : a.1.Perm b.1 := perm_of_len ha.can.nd hb.can.nd (fun x hx => s1 x (mem_all.2 (.inl hx))) (by omega)
      have e3 := sort_eq asmS p ha.can.asc hb.can.asc
      have : b.2 ≠ eS := fun z => n1 (Prod.ext e3 (e.trans z.symm))
      rw [if_neg this]; omega
    · split <;> omega
  · rw [if_neg e] at hle ⊢
    simp at hle
    split <;> omega

/-! ### weights -/
def wq (tab : Str → Int) (q : Q) : Int := ((allQ q).map tab).sum

theorem sum_perm' {tab : Str → Int} {a b : List Str} (h : a.Perm b) : (a.map tab).sum = (b.map tab).sum := by
  induction h with
  | nil => rfl
  | cons x _ ih => simp [ih]
  | swap x y l => simp; omega
  | trans _ _ h1 h2 => exact h1.trans h2

theorem wq_cols (tab : Str → Int) (q : Q) : ((colsQ q).map tab).sum = wq tab q := sum_perm' (cols_perm q)

theorem sum_nonneg {tab : Str → Int} (h : ∀ x, 1 ≤ tab x) (l : List Str) : (l.length : Int) ≤ (l.map tab).sum := by
  induction l with
  | nil => simp
  | cons a l ih => have := h a; simp; omega

theorem sum_sub {tab : Str → Int} (h : ∀ x, 1 ≤ tab x) {a b : List Str} (na : a.Nodup) (nb : b.Nodup) (s : a ⊆ b) :
    (a.map tab).sum ≤ (b.map tab).sum ∧ ((a.map tab).sum = (b.map tab).sum → b ⊆ a) := by
  have p : b.Perm (a ++ b.filter (fun x => decide (x ∉ a))) := by
    refine perm_of_mem nb ?_ fun x => ?_
    · rw [List.nodup_append]
      exact ⟨na, nodup_filter nb, fun x hx y hy e => by subst e; exact (of_decide_eq_true (List.mem_filter.1 hy).2) hx⟩
    · rw [List.mem_append, List.mem_filter]
      constructor
      · intro hx
        by_cases q : x ∈ a
        · exact .inl q
        · exact .inr ⟨hx, decide_eq_true q⟩
      · rintro (hx | ⟨hx, _⟩)
        · exact s hx
        · exact hx
  have e : (b.map tab).sum = (a.map tab).sum + ((b.filter (fun x => decide (x ∉ a))).map tab).sum := by
    rw [sum_perm' p, List.map_append, List.sum_append]
  have g := sum_nonneg h (b.filter (fun x => decide (x ∉ a)))
  refine ⟨by omega, fun he x hx => ?_⟩
  have z : (b.filter (fun x => decide (x ∉ a))).length = 0 := by omega
  refine Classical.byContradiction fun q => ?_
  have : x ∈ b.filter (fun x => decide (x ∉ a)) := List.mem_filter.2 ⟨hx, decide_eq_true q⟩
  rw [List.length_eq_zero_iff.1 z] at this
  cases this

theorem w_mono {tab : Str → Int} (h : ∀ x, 1 ≤ tab x) {a b : Q} (ha : VQ a) (hb : VQ b) (l : below a b = true) :
    wq tab a ≤ wq tab b ∧ (wq tab a = wq tab b → colsQ a = colsQ b) := by
  obtain ⟨n1, s1⟩ := below_iff.1 l
  have s : allQ a ⊆ allQ b := fun x hx => mem_all.2 (.inl (s1 x hx))
  obtain ⟨t1, t2⟩ := sum_sub h (all_nodup ha) (all_nodup hb) s
  refine ⟨t1, fun e => ?_⟩
  refine (cols_can ha).eq asmS (cols_can hb) fun x => ?_
  rw [(cols_perm a).mem_iff, (cols_perm b).mem_iff]
  exact ⟨fun hx => s hx, fun hx => t2 e hx⟩

theorem w_cols {tab : Str → Int} {a b : Q} (e : colsQ a = colsQ b) : wq tab a = wq tab b := by
  rw [← wq_cols, ← wq_cols, e]

/-! ### the net of a list -/
def atQ (qs : List Q) (i : Nat) : Q := qs.getD i ([], eS)
def abQ (qs : List Q) (i : Nat) : List Nat :=
  if i < qs.length then (List.range qs.length).filter (fun j => below (atQ qs i) (atQ qs j)) else []

theorem getD_get {α} {l : List α} {d : α} {i : Nat} (h : i < l.length) : l.getD i d = l[i] := by
  rw [List.getD_eq_getElem?_getD, List.getElem?_eq_getElem h]; rfl
theorem atQ_mem {qs : List Q} {i : Nat} (h : i < qs.length) : atQ qs i ∈ qs := by
  unfold atQ; rw [getD_get h]; exact List.getElem_mem h
theorem mem_at {qs : List Q} {q : Q} (h : q ∈ qs) : ∃ i, i < qs.length ∧ atQ qs i = q := by
  obtain ⟨i, h1, h2⟩ := List.mem_iff_getElem.1 h
  exact ⟨i, h1, by unfold atQ; rw [getD_get h1, h2]⟩
theorem at_inj {qs : List Q} (hn : qs.Nodup) {i j : Nat} (hi : i < qs.length) (hj : j < qs.length) (e : atQ qs i = atQ qs j) : i = j := by
  unfold atQ at e
  rw [getD_get hi, getD_get hj] at e
  exact (List.getElem_inj hn).1 e

theorem mem_abQ {qs : List Q} {i j : Nat} : j ∈ abQ qs i ↔ i < qs.length ∧ j < qs.length ∧ below (atQ qs i) (atQ qs j) = true := by
  unfold abQ
  by_cases h : i < qs.length
  · rw [if_pos h, List.mem_filter, List.mem_range]; simp [h]
  · rw [if_neg h]; simp [h]

abbrev All (qs : List Q) : Prop := ∀ q ∈ qs, VQ q

theorem netQ {tab : Str → Int} (ht : ∀ x, 1 ≤ tab x) {qs : List Q} (hv : All qs) :
    Net qs.length (abQ qs) (fun i => wq tab (atQ qs i)) (fun i => colsQ (atQ qs i)) where
  lt := fun l x hx => (mem_abQ.1 hx).2.1
  trn := fun x y z h1 h2 => by
    obtain ⟨a1, a2, a3⟩ := mem_abQ.1 h1
    obtain ⟨b1, b2, b3⟩ := mem_abQ.1 h2
    exact mem_abQ.2 ⟨a1, b2, below_trans (hv _ (atQ_mem a1)) (hv _ (atQ_mem a2)) a3 b3⟩
  mono := fun x y hx hy => by
    obtain ⟨a1, a2, a3⟩ := mem_abQ.1 hy
    exact (w_mono ht (hv _ (atQ_mem a1)) (hv _ (atQ_mem a2)) a3).1
  same := fun x y hx hy e => by
    obtain ⟨a1, a2, a3⟩ := mem_abQ.1 hy
    exact (w_mono ht (hv _ (atQ_mem a1)) (hv _ (atQ_mem a2)) a3).2 e
  cw := fun x y _ _ e => w_cols e

theorem abQ_none {qs : List Q} : ∀ l, qs.length ≤ l → abQ qs l = [] := by
  intro l h; unfold abQ; rw [if_neg (by omega)]

/-! ### widths of lists of questions -/
def AntiQ (A : List Q) : Prop := ∀ x ∈ A, ∀ y ∈ A, below x y = false
structure IsWQ (S : List Q) (w : Nat) : Prop where
  le : ∀ A, A.Nodup → A ⊆ S → AntiQ A → A.length ≤ w
  ex : ∃ A, A.Nodup ∧ A ⊆ S ∧ AntiQ A ∧ A.length = w

theorem IsWQ.uniq {S T : List Q} {v w} (h : IsWQ S v) (h' : IsWQ T w) (e : ∀ x, x ∈ S ↔ x ∈ T) : v = w := by
  obtain ⟨A, a1, a2, a3, a4⟩ := h.ex
  obtain ⟨A', b1, b2, b3, b4⟩ := h'.ex
  have := h.le A' b1 (fun x hx => (e x).2 (b2 hx)) b3
  have := h'.le A a1 (fun x hx => (e x).1 (a2 hx)) a3
  omega

theorem map_nodup {α β} {f : α → β} : ∀ {l : List α}, l.Nodup → (∀ x ∈ l, ∀ y ∈ l, f x = f y → x = y) → (l.map f).Nodup := by
  intro l
  induction l with
  | nil => intro _ _; simp
  | cons a l ih =>
    intro h hi
    obtain ⟨h1, h2⟩ := List.nodup_cons.1 h
    rw [List.map_cons, List.nodup_cons]
    refine ⟨fun z => ?_, ih h2 (fun x hx y hy => hi x (List.mem_cons_of_mem _ hx) y (List.mem_cons_of_mem _ hy))⟩
    obtain ⟨x, hx, e⟩ := List.mem_map.1 z
    exact h1 (hi x (List.mem_cons_of_mem _ hx) a (by simp) e ▸ hx)

/-- a width by numbers and by questions -/
theorem isWQ_of {qs : List Q} (hn : qs.Nodup) {U : List Nat} (hU : ∀ x ∈ U, x < qs.length) {w : Nat} (S : List Q)
    (hS : ∀ x < qs.length, x ∈ U ↔ atQ qs x ∈ S) (hS2 : S ⊆ qs) : IsW (abQ qs) U w ↔ IsWQ S w := by
  have down : ∀ A : List Q, A.Nodup → A ⊆ S → AntiQ A → ∃ B : List Nat, B.Nodup ∧ B ⊆ U ∧ Anti (abQ qs) B ∧ B.length = A.length := by
    intro A a1 a2 a3
    refine ⟨(List.range qs.length).filter (fun i => decide (atQ qs i ∈ A)), nodup_filter List.nodup_range, ?_, ?_, ?_⟩
    · intro x hx
      obtain ⟨h1, h2⟩ := List.mem_filter.1 hx
      exact (hS x (List.mem_range.1 h1)).2 (a2 (of_decide_eq_true h2))
    · intro x hx y hy hxy
      have h1 : atQ qs x ∈ A := of_decide_eq_true (List.mem_filter.1 hx).2
      have h2 : atQ qs y ∈ A := of_decide_eq_true (List.mem_filter.1 hy).2
      have := (mem_abQ.1 hxy).2.2
      rw [a3 _ h1 _ h2] at this; cases this
    · have : ((List.range qs.length).filter (fun i => decide (atQ qs i ∈ A))).map (atQ qs) ~ A := by
        refine perm_of_mem (map_nodup (nodup_filter List.nodup_range) ?_) a1 fun x => ?_
        · intro x hx y hy e
          exact at_inj hn (List.mem_range.1 (List.mem_filter.1 hx).1) (List.mem_range.1 (List.mem_filter.1 hy).1) e
        · rw [List.mem_map]
          constructor
          · rintro ⟨i, hi, e⟩
            rw [← e]; exact of_decide_eq_true (List.mem_filter.1 hi).2
          · intro hx
            obtain ⟨i, h1, h2⟩ := mem_at (hS2 (a2 hx))
            exact ⟨i, List.mem_filter.2 ⟨List.mem_range.2 h1, decide_eq_true (h2 ▸ hx)⟩, h2⟩
      rw [← this.length_eq, List.length_map]
  have up : ∀ B : List Nat, B.Nodup → B ⊆ U → Anti (abQ qs) B → ∃ A : List Q, A.Nodup ∧ A ⊆ S ∧ AntiQ A ∧ A.length = B.length := by
    intro B b1 b2 b3
    refine ⟨B.map (atQ qs), map_nodup b1 (fun x hx y hy e => at_inj hn (hU x (b2 hx)) (hU y (b2 hy)) e), ?_, ?_, by simp⟩
    · intro q hq
      obtain ⟨i, hi, e⟩ := List.mem_map.1 hq
      rw [← e]; exact (hS i (hU i (b2 hi))).1 (b2 hi)
    · intro x hx y hy
      obtain ⟨i, hi, e⟩ := List.mem_map.1 hx
      obtain ⟨j, hj, e'⟩ := List.mem_map.1 hy
      subst e; subst e'
      cases q : below (atQ qs i) (atQ qs j) with
      | false => rfl
      | true => exact absurd (mem_abQ.2 ⟨hU i (b2 hi), hU j (b2 hj), q⟩) (b3 i hi j hj)
  constructor
  · intro h
    refine ⟨fun A a1 a2 a3 => ?_, ?_⟩
    · obtain ⟨B, b1, b2, b3, b4⟩ := down A a1 a2 a3
      have := h.le B b1 b2 b3; omega
    · obtain ⟨B, b1, b2, b3, b4⟩ := h.ex
      obtain ⟨A, a1, a2, a3, a4⟩ := up B b1 b2 b3
      exact ⟨A, a1, a2, a3, by omega⟩
  · intro h
    refine ⟨fun B b1 b2 b3 => ?_, ?_⟩
    · obtain ⟨A, a1, a2, a3, a4⟩ := up B b1 b2 b3
      have := h.le A a1 a2 a3; omega
    · obtain ⟨A, a1, a2, a3, a4⟩ := h.ex
      obtain ⟨B, b1, b2, b3, b4⟩ := down A a1 a2 a3
      exact ⟨B, b1, b2, b3, by omega⟩

/-! ### the law's own count -/
def apartStep (rows : List (List Q)) (q : Q) : List (List Q) :=
  rows ++ (rows.filter (fun r => (r.filter (fun x => share x q)).isEmpty)).map (fun r => r ++ [q])
def apartRows (S : List Q) : List (List Q) := S.foldl apartStep [[]]
def maxLen (rows : List (List Q)) : Nat := rows.foldl (fun m r => Nat.max m r.length) 0
def mostApart (S : List Q) : Nat := maxLen (apartRows S)

theorem foldl_max (rows : List (List Q)) : ∀ m, m ≤ rows.foldl (fun m r => Nat.max m r.length) m ∧
    (∀ r ∈ rows, r.length ≤ rows.foldl (fun m r => Nat.max m r.length) m) ∧
    (rows.foldl (fun m r => Nat.max m r.length) m = m ∨ ∃ r ∈ rows, r.length = rows.foldl (fun m r => Nat.max m r.length) m) := by
  induction rows with
  | nil => intro m; simp
  | cons a rows ih =>
    intro m
    obtain ⟨i1, i2, i3⟩ := ih (Nat.max m a.length)
    simp only [List.foldl_cons]
    have h1 : m ≤ Nat.max m a.length := Nat.le_max_left _ _
    have h2 : a.length ≤ Nat.max m a.length := Nat.le_max_right _ _
    refine ⟨by omega, ?_, ?_⟩
    · intro r hr
      rcases List.mem_cons.1 hr with rfl | hr
      · omega
      · exact i2 r hr
    · rcases i3 with e | ⟨r, hr, e⟩
      · rw [e]
        rcases Nat.le_total m a.length with q | q
        · exact .inr ⟨a, by simp, (Nat.max_eq_right q).symm⟩
        · exact .inl (Nat.max_eq_left q)
      · exact .inr ⟨r, List.mem_cons_of_mem _ hr, e⟩

def Pw (r : List Q) : Prop := r.Pairwise (fun a b => share a b = false)

theorem apart_mem : ∀ (S : List Q) (rows : List (List Q)) (r : List Q),
    r ∈ S.foldl apartStep rows ↔ ∃ r0 ∈ rows, ∃ s, s.Sublist S ∧ r = r0 ++ s ∧ (∀ i x t, s = i ++ x :: t → ∀ y ∈ r0 ++ i, share y x = false) := by
  intro S
  induction S with
  | nil =>
    intro rows r
    simp only [List.foldl_nil, List.sublist_nil]
    constructor
    · intro h; exact ⟨r, h, [], rfl, by simp, fun i x t e => by simp at e⟩
    · rintro ⟨r0, h, s, rfl, e, _⟩; rw [e, List.append_nil]; exact h
  | cons q S ih =>
    intro rows r
    rw [List.foldl_cons, ih]
    constructor
    · rintro ⟨r1, h1, s, hs, e, hc⟩
      rcases List.mem_append.1 h1 with h | h
      · exact ⟨r1, h, s, hs.cons q, e, hc⟩
      · obtain ⟨r0, h2, h3⟩ := List.mem_map.1 h
        obtain ⟨h4, h5⟩ := List.mem_filter.1 h2
        refine ⟨r0, h4, q :: s, hs.cons_cons q, by rw [e, ← h3]; simp, ?_⟩
        intro i x t ei y hy
        cases i with
        | nil =>
          simp at ei
          rw [← ei.1]
          simp at hy
          have h5 : r0.filter (fun x => share x q) = [] := List.isEmpty_iff.1 h5
          have := List.filter_eq_nil_iff.1 h5 y hy
          simpa using this
        | cons z i =>
          simp at ei
          obtain ⟨rfl, ei⟩ := ei
          refine hc i x t ei y ?_
          rw [← h3]; simpa using hy
    · rintro ⟨r0, h0, s, hs, e, hc⟩
      rcases List.sublist_cons_iff.1 hs with h | ⟨s', e', h⟩
      · exact ⟨r0, List.mem_append_left _ h0, s, h, e, hc⟩
      · subst e'
        refine ⟨r0 ++ [q], List.mem_append_right _ (List.mem_map.2 ⟨r0, List.mem_filter.2 ⟨h0, ?_⟩, rfl⟩), s', h, by rw [e]; simp, ?_⟩
        · rw [List.isEmpty_iff, List.filter_eq_nil_iff]
          intro y hy
          have := hc [] q s' rfl y (by simpa using hy)
          simp [this]
        · intro i x t ei y hy
          exact hc (q :: i) x t (by rw [ei]; simp) y (by simpa using hy)

theorem share_irr (a : Q) : share a a = true := by simp [share]

theorem mostApart_isW {S : List Q} (hn : S.Nodup) : IsWQ S (mostApart S) := by
  have F := foldl_max (apartRows S) 0
  have mem : ∀ r, r ∈ apartRows S ↔ r.Sublist S ∧ (∀ i x t, r = i ++ x :: t → ∀ y ∈ i, share y x = false) := by
    intro r
    unfold apartRows
    rw [apart_mem]
    constructor
    · rintro ⟨r0, h0, s, hs, e, hc⟩
      have : r0 = [] := by simpa using h0
      subst this
      have e : r = s := e
      subst e
      exact ⟨hs, hc⟩
    · rintro ⟨a, b⟩
      exact ⟨[], by simp, r, a, rfl, b⟩
  constructor
  · intro A a1 a2 a3
    have hA : S.filter (fun x => decide (x ∈ A)) ~ A := by
      refine perm_of_mem (nodup_filter hn) a1 fun x => ?_
      simp only [List.mem_filter, decide_eq_true_eq]
      exact ⟨fun z => z.2, fun z => ⟨a2 z, z⟩⟩
    rw [← hA.length_eq]
    refine F.2.1 _ ((mem _).2 ⟨List.filter_sublist, ?_⟩)
    intro i x t e y hy
    have nd := nodup_filter (p := fun x => decide (x ∈ A)) hn
    have hx : x ∈ S.filter (fun x => decide (x ∈ A)) := by rw [e]; simp
    have hy' : y ∈ S.filter (fun x => decide (x ∈ A)) := by rw [e]; simp [hy]
    have hxA := hA.mem_iff.1 hx
    have hyA := hA.mem_iff.1 hy'
    have hne : y ≠ x := by
      rw [e] at nd
      exact (List.nodup_append.1 nd).2.2 y hy x (by simp)
    unfold share
    rw [a3 y hyA x hxA, a3 x hxA y hyA]
    simp [hne]
  · have : ∃ r ∈ apartRows S, r.length = mostApart S := by
      rcases F.2.2 with e | h
      · exact ⟨[], (mem []).2 ⟨List.nil_sublist _, fun i x t e => by simp at e⟩, e.symm⟩
      · exact h
    obtain ⟨r, h1, h2⟩ := this
    obtain ⟨m1, m2⟩ := (mem r).1 h1
    refine ⟨r, m1.nodup hn, m1.subset, ?_, h2⟩
    intro x hx y hy
    have key : ∀ a b, (∃ i t, r = i ++ b :: t ∧ a ∈ i) → below a b = false ∧ below b a = false := by
      rintro a b ⟨i, t, e, h⟩
      have := m2 i b t e a h
      unfold share at this
      simp only [Bool.or_eq_false_iff] at this
      exact ⟨this.1.2, this.2⟩
    obtain ⟨i, t, e⟩ := List.append_of_mem hy
    by_cases q : x = y
    · rw [q]; exact below_irr y
    · rw [e] at hx
      rcases List.mem_append.1 hx with h | h
      · exact (key x y ⟨i, t, e, h⟩).1
      · have h : x ∈ t := (List.mem_cons.1 h).resolve_left q
        obtain ⟨i2, t2, e2⟩ := List.append_of_mem h
        exact (key y x ⟨i ++ y :: i2, t2, by rw [e, e2]; simp, by simp⟩).2

end NkQ
end
section
/-! The program's numbers: lots, least sums, fewest, ranges; and the law's. -/
namespace NkQ
open PySem PySem.W List NkM

def encI (i : Int) : PyData := .int i
def encII (p : Int × Int) : PyData := .tuple [.int p.1, .int p.2]
theorem leI (a b : Int) : dataLe false encI a b = decide (a ≤ b) := by
  have := congrFun (congrFun (dataLe_int (fun i : Int => i)) a) b
  exact this
theorem leII (a b : Int × Int) : dataLe false encII a b = decide (a.1 < b.1 ∨ (a.1 = b.1 ∧ a.2 ≤ b.2)) := by
  have := congrFun (congrFun (dataLe_ii (fun p : Int × Int => p.1) (fun p => p.2)) a) b
  exact this
theorem asmI : Asm encI := by
  intro a b h1 h2; rw [leI] at h1 h2; simp at h1 h2; omega
theorem asmII : Asm encII := by
  intro a b h1 h2; rw [leII] at h1 h2; simp at h1 h2; exact Prod.ext (by omega) (by omega)

def rowsM (ws : List Int) : List (Int × Int) := (List.range ws.length).map (fun i => (0 - ws.getD i 0, (i : Int)))
def hfM (ws : List Int) : List Nat := (srt encII (rowsM ws)).map (fun p => p.2.toNat)
def wI (ws : List Int) (i : Nat) : Int := ws.getD i 0

theorem hf_fall (ws : List Int) : Fall ws.length (wI ws) (hfM ws) := by
  have p : (hfM ws).Perm (List.range ws.length) := by
    unfold hfM
    refine ((srt_perm encII (rowsM ws)).map _).trans ?_
    unfold rowsM
    rw [List.map_map]
    have : ((fun p : Int × Int => p.2.toNat) ∘ fun i : Nat => (0 - ws.getD i 0, (i : Int))) = id := by
      funext i; simp
    rw [this, List.map_id]
  refine ⟨(p.nodup_iff).2 List.nodup_range, fun x => by rw [p.mem_iff, List.mem_range], ?_⟩
  have mem : ∀ q ∈ srt encII (rowsM ws), q.1 = 0 - wI ws q.2.toNat := by
    intro q hq
    obtain ⟨i, _, e⟩ := List.mem_map.1 ((srt_perm encII _).mem_iff.1 hq)
    rw [← e]; simp [wI]
  unfold hfM
  rw [List.pairwise_map]
  refine List.Pairwise.imp_of_mem ?_ (srt_asc encII (rowsM ws))
  intro a b ha hb h
  rw [leII] at h
  have := mem a ha
  have := mem b hb
  simp only [decide_eq_true_eq] at h
  omega

def lotMatch (ws : List Int) (ab : Nat → List Nat) : List (Nat × Nat) := matchedM ab ws.length (hfM ws)
def topsM (ws : List Int) (m : List (Nat × Nat)) (level : Int) : Nat :=
  (((List.range ws.length).filter (fun i => decide (level ≤ wI ws i))).filter (out (keysM m))).length
def levelsM (ws : List Int) : List Int := canon encI ws
def stepsM : Int → List Int → List (Int × Int)
  | _, [] => []
  | b, l :: ls => (l, l - b) :: stepsM l ls
def leastSumM (ws : List Int) (m : List (Nat × Nat)) : Int := ((stepsM 0 (levelsM ws)).map (fun p => p.2 * (topsM ws m p.1 : Int))).sum

theorem steps_sum (g : Int → Int) : ∀ (ls : List Int) (b : Int), ((stepsM b ls).map (fun p => p.2 * g p.1)).sum = stepSum b ls g := by
  intro ls
  induction ls with
  | nil => intro b; rfl
  | cons l ls ih => intro b; simp [stepsM, stepSum, ih l]

theorem levels_lt (ws : List Int) : (levelsM ws).Pairwise (· < ·) := by
  have h := canon_can encI ws
  refine List.Pairwise.imp₂ (R := fun a b => dataLe false encI a b = true) (S := fun a b => a ≠ b) ?_ h.asc h.nd
  intro a b h1 h2
  rw [leI] at h1; simp at h1; omega

theorem topsM_of {n : Nat} {ab : Nat → List Nat} {ws : List Int} {κ : Type} [DecidableEq κ] {c : Nat → κ} (hw : ws.length = n) (N : Net n ab (wI ws) c)
    {o : List Nat} (F : Fall n (wI ws) o) {level : Int} {v : Nat} (hv : IsW ab (ge n (wI ws) level) v) : topsM ws (matchedM ab n o) level = v := by
  obtain ⟨_, G⟩ := matched_grd N.lt F.nd
  have cW : (((ge n (wI ws) level)).filter (inn (lows (matchedD ab n o [])))).length + v = (ge n (wI ws) level).length :=
    F.count N G (fun v => decide (level ≤ v)) (fun a b h q => by simp at q ⊢; omega) hv
  have s := len_split (inn (lows (matchedD ab n o []))) (ge n (wI ws) level)
  have e : topsM ws (matchedM ab n o) level = ((ge n (wI ws) level).filter (fun x => !inn (lows (matchedD ab n o [])) x)).length := by
    unfold topsM matchedM
    rw [keys_swap, hw]
  rw [e]; omega

/-! ### fewest -/
def ones (n : Nat) : List Int := List.replicate n 1
def fewestM (qs : List Q) : Nat := topsM (ones qs.length) (lotMatch (ones qs.length) (abQ qs)) 0

theorem ones_at {n i : Nat} (h : i < n) : wI (ones n) i = 1 := by
  unfold wI ones
  rw [getD_get (by simpa using h)]; simp

theorem net1 {qs : List Q} (hv : All qs) : Net qs.length (abQ qs) (wI (ones qs.length)) (fun _ => ()) where
  lt := fun l x hx => (mem_abQ.1 hx).2.1
  trn := (netQ (tab := fun _ => 1) (fun _ => by omega) hv).trn
  mono := fun x y hx hy => by
    obtain ⟨a1, a2, _⟩ := mem_abQ.1 hy
    rw [ones_at a1, ones_at a2]; omega
  same := fun _ _ _ _ _ => rfl
  cw := fun x y hx hy _ => by rw [ones_at hx, ones_at hy]

theorem fewest_eq {qs : List Q} (hv : All qs) (hn : qs.Nodup) : fewestM qs = mostApart qs := by
  have F := hf_fall (ones qs.length)
  have l : (ones qs.length).length = qs.length := by simp [ones]
  rw [l] at F
  have hw : IsW (abQ qs) (ge qs.length (wI (ones qs.length)) 0) (mostApart qs) := by
    refine (isWQ_of hn (fun x hx => List.mem_range.1 (List.mem_filter.1 hx).1) qs (fun x hx => ?_) (fun _ h => h)).2 (mostApart_isW hn)
    simp only [List.mem_filter, List.mem_range]
    exact ⟨fun _ => atQ_mem hx, fun _ => ⟨hx, by rw [ones_at hx]; rfl⟩⟩
  have := topsM_of l (net1 hv) F hw
  unfold fewestM lotMatch
  rw [l]; exact this

theorem apart_congr {S T : List Q} (hS : S.Nodup) (hT : T.Nodup) (e : ∀ x, x ∈ S ↔ x ∈ T) : mostApart S = mostApart T :=
  (mostApart_isW hS).uniq (mostApart_isW hT) e

theorem fewest_apart {S T : List Q} (hv : All S) (hS : S.Nodup) (hT : T.Nodup) (e : ∀ x, x ∈ S ↔ x ∈ T) : fewestM S = mostApart T :=
  (fewest_eq hv hS).trans (apart_congr hS hT e)

/-! ### least cost -/
section
variable (tab : Str → Int)
def wsM (qs : List Q) : List Int := qs.map (wq tab)
theorem ws_at (qs : List Q) (i : Nat) : wI (wsM tab qs) i = wq tab (atQ qs i) := by
  unfold wI wsM atQ
  rw [List.getD_eq_getElem?_getD, List.getD_eq_getElem?_getD, List.getElem?_map]
  cases qs[i]? with
  | none => simp [wq, allQ]
  | some q => rfl
theorem ws_fun (qs : List Q) : wI (wsM tab qs) = fun i => wq tab (atQ qs i) := funext (ws_at tab qs)
theorem ws_len (qs : List Q) : (wsM tab qs).length = qs.length := by simp [wsM]

def leastM (qs : List Q) : Int := leastSumM (wsM tab qs) (lotMatch (wsM tab qs) (abQ qs))
/-- the law's sum -/
def dueL (S : List Q) : Int := stepSum 0 (levelsM (wsM tab S)) (fun x => (mostApart (S.filter (fun q => decide (x ≤ wq tab q))) : Int))

variable {tab} (ht : ∀ x, 1 ≤ tab x) {qs : List Q} (hv : All qs) (hn : qs.Nodup)
include ht hv hn

theorem netW : Net qs.length (abQ qs) (wI (wsM tab qs)) (fun i => colsQ (atQ qs i)) := by
  rw [ws_fun]; exact netQ ht hv
omit ht hv in
theorem isW_filter (p : Q → Bool) : IsW (abQ qs) ((List.range qs.length).filter (fun i => p (atQ qs i))) (mostApart (qs.filter p)) := by
  refine (isWQ_of hn (fun x hx => List.mem_range.1 (List.mem_filter.1 hx).1) (qs.filter p) (fun x hx => ?_) (fun _ h => (List.mem_filter.1 h).1)).2
    (mostApart_isW (nodup_filter hn))
  simp only [List.mem_filter, List.mem_range]
  exact ⟨fun z => ⟨atQ_mem hx, z.2⟩, fun z => ⟨hx, z.2⟩⟩

omit ht hv in
theorem isW_ge (l : Int) : IsW (abQ qs) (ge qs.length (wI (wsM tab qs)) l) (mostApart (qs.filter (fun q => decide (l ≤ wq tab q)))) := by
  have := isW_filter hn (fun q => decide (l ≤ wq tab q))
  rw [ws_fun]; exact this
omit ht hv in
theorem isW_hi (l : Int) : IsW (abQ qs) (hi qs.length (wI (wsM tab qs)) l) (mostApart (qs.filter (fun q => decide (l < wq tab q)))) := by
  have := isW_filter hn (fun q => decide (l < wq tab q))
  rw [ws_fun]; exact this

omit ht hv hn in
theorem ws_fall : Fall qs.length (wI (wsM tab qs)) (hfM (wsM tab qs)) := by
  have := hf_fall (wsM tab qs)
  rw [ws_len] at this; exact this

/-- R1: the least cost is the law's sum -/
theorem least_due : leastM tab qs = dueL tab qs := by
  unfold leastM leastSumM dueL
  rw [steps_sum (fun x => (topsM (wsM tab qs) (lotMatch (wsM tab qs) (abQ qs)) x : Int))]
  refine stepSum_congr _ 0 fun x _ => ?_
  have := topsM_of (ws_len tab qs) (netW ht hv hn) (ws_fall (tab := tab) (qs := qs)) (isW_ge hn x)
  unfold lotMatch
  rw [ws_len, this]
end

/-! ### the whole range -/
section
variable (tab : Str → Int)
def someM (qs : List Q) (cols : List Str) : List Q := qs.filter (fun q => decide (colsQ q = cols))
def leastR (qs : List Q) (cols : List Str) : Int :=
  let some := someM qs cols
  let weight := wq tab (some.headD ([], eS))
  let above := qs.filter (fun q => decide (weight < wq tab q))
  (fewestM (canQ (above ++ some)) : Int) - fewestM above
def mostR (qs : List Q) (cols : List Str) : Int :=
  let some := someM qs cols
  let weight := wq tab (some.headD ([], eS))
  let others := (qs.filter (fun q => decide (weight ≤ wq tab q))).filter (fun q => !decide (q ∈ some))
  (fewestM (canQ (others ++ some)) : Int) - fewestM others
/-- the law's range -/
def wgt (cols : List Str) : Int := (cols.map tab).sum
def leastL (S : List Q) (cols : List Str) : Int :=
  (mostApart (S.filter (fun q => decide (wgt tab cols < wq tab q)) ++ someM S cols) : Int) - mostApart (S.filter (fun q => decide (wgt tab cols < wq tab q)))
def mostL (S : List Q) (cols : List Str) : Int :=
  (mostApart (S.filter (fun q => decide (wgt tab cols - 1 < wq tab q))) : Int)
    - mostApart ((S.filter (fun q => decide (wgt tab cols - 1 < wq tab q))).filter (fun q => !decide (q ∈ someM S cols)))

variable {tab} {qs : List Q} (hv : All qs) (hn : qs.Nodup) {cols : List Str} (hc : ∃ q ∈ qs, colsQ q = cols)

theorem mem_some {q : Q} : q ∈ someM qs cols ↔ q ∈ qs ∧ colsQ q = cols := by
  unfold someM; rw [List.mem_filter, decide_eq_true_eq]

include hc
theorem some_head : wq tab ((someM qs cols).headD ([], eS)) = wgt tab cols := by
  obtain ⟨q, h1, h2⟩ := hc
  cases e : someM qs cols with
  | nil =>
    have : q ∈ someM qs cols := mem_some.2 ⟨h1, h2⟩
    rw [e] at this; cases this
  | cons a l =>
    have : a ∈ someM qs cols := by rw [e]; simp
    rw [List.headD_cons, ← wq_cols, (mem_some.1 this).2]; rfl

include hv hn
theorem nd_least : (qs.filter (fun q => decide (wgt tab cols < wq tab q)) ++ someM qs cols).Nodup := by
  rw [List.nodup_append]
  refine ⟨nodup_filter hn, nodup_filter hn, fun x hx y hy e => ?_⟩
  subst e
  have h1 := of_decide_eq_true (List.mem_filter.1 hx).2
  have h2 := (mem_some.1 hy).2
  rw [← wq_cols, h2] at h1
  unfold wgt at h1; omega

theorem leastR_eq : leastR tab qs cols = leastL tab qs cols := by
  have nd := nd_least (tab := tab) hv hn hc
  unfold leastR leastL
  simp only [some_head hc]
  rw [fewest_apart (T := qs.filter (fun q => decide (wgt tab cols < wq tab q)) ++ someM qs cols) ?_ (canon_nodup _ _) nd (fun x => canon_mem),
    fewest_eq (fun q hq => hv q (List.mem_filter.1 hq).1) (nodup_filter hn)]
  intro q hq
  rcases List.mem_append.1 (canon_mem.1 hq) with h | h
  · exact hv q (List.mem_filter.1 h).1
  · exact hv q (mem_some.1 h).1

theorem mostR_eq : mostR tab qs cols = mostL tab qs cols := by
  unfold mostR mostL
  simp only [some_head hc]
  have e : ∀ q : Q, decide (wgt tab cols - 1 < wq tab q) = decide (wgt tab cols ≤ wq tab q) := fun q => by
    by_cases h : wgt tab cols ≤ wq tab q
    · simp [h]; omega
    · simp [h]; omega
  simp only [e]
  rw [fewest_apart (T := qs.filter (fun q => decide (wgt tab cols ≤ wq tab q))) ?_ (canon_nodup _ _) (nodup_filter hn) ?_,
    fewest_eq (fun q hq => hv q (List.mem_filter.1 (List.mem_filter.1 hq).1).1) (nodup_filter (nodup_filter hn))]
  · intro q hq
    rcases List.mem_append.1 (canon_mem.1 hq) with h | h
    · exact hv q (List.mem_filter.1 (List.mem_filter.1 h).1).1
    · exact hv q (mem_some.1 h).1
  · intro x
    rw [canon_mem, List.mem_append, List.mem_filter, List.mem_filter]
    simp only [Bool.not_eq_true', decide_eq_false_iff_not, decide_eq_true_eq]
    constructor
    · rintro (h | h)
      · exact h.1
      · obtain ⟨a, b⟩ := mem_some.1 h
        refine ⟨a, ?_⟩
        rw [← wq_cols, b]; unfold wgt; omega
    · intro h
      by_cases q : x ∈ someM qs cols
      · exact .inr q
      · exact .inl ⟨h, q⟩
end
end NkQ
end
section
/-! Indexes of chains; the shelf; the law's checks of it. -/
namespace NkQ
open PySem PySem.W List NkM

/-! ### index_for of a chain -/
def freshM (placed : List Str) (q : Q) : List Str := q.1.filter (fun x => !decide (x ∈ placed))
def lastM (q : Q) : List Str := if q.2 = eS then [] else [q.2]
def idxStep (placed : List Str) (q : Q) : List Str := placed ++ freshM placed q ++ lastM q
def indexM (chain : List Q) : List Str := chain.foldl idxStep []

/-- the law's serves -/
def serves (idx : List Str) (q : Q) : Bool :=
  decide (srtS (idx.take q.1.length) = q.1) && (decide (q.2 = eS) || decide ((idx.drop q.1.length).take 1 = [q.2]))

abbrev Asc (ch : List Q) : Prop := ch.Pairwise (fun a b => below a b = true)

theorem serves_append {idx rest : List Str} {q : Q} (h : serves idx q = true) : serves (idx ++ rest) q = true := by
  unfold serves at h ⊢
  simp only [Bool.and_eq_true, decide_eq_true_eq, Bool.or_eq_true] at h ⊢
  obtain ⟨h1, h2⟩ := h
  have hl : q.1.length ≤ idx.length := by
    have := congrArg List.length h1
    rw [(srt_perm _ _).length_eq, List.length_take] at this; omega
  refine ⟨by rw [List.take_append_of_le_length hl]; exact h1, h2.imp id fun e => ?_⟩
  rw [List.drop_append_of_le_length hl]
  have : 1 ≤ (idx.drop q.1.length).length := by
    have := congrArg List.length e
    rw [List.length_take] at this; simp at this ⊢; omega
  rw [List.take_append_of_le_length this]; exact e

theorem idxStep_spec {placed : List Str} {q : Q} (hq : VQ q) (hp : placed.Nodup) (hs : placed ⊆ q.1) :
    (idxStep placed q).Perm (allQ q) ∧ serves (idxStep placed q) q = true := by
  have p : (placed ++ freshM placed q).Perm q.1 := by
    refine perm_of_mem ?_ hq.can.nd fun x => ?_
    · rw [List.nodup_append]
      refine ⟨hp, nodup_filter hq.can.nd, fun a ha b hb e => ?_⟩
      subst e
      have := (List.mem_filter.1 hb).2
      simp at this; exact this ha
    · rw [List.mem_append]
      unfold freshM
      rw [List.mem_filter]
      simp only [Bool.not_eq_true', decide_eq_false_iff_not]
      constructor
      · rintro (h | h)
        · exact hs h
        · exact h.1
      · intro h
        by_cases c : x ∈ placed
        · exact .inl c
        · exact .inr ⟨h, c⟩
  have pl := p.length_eq
  refine ⟨p.append_right _, ?_⟩
  unfold serves idxStep
  simp only [Bool.and_eq_true, decide_eq_true_eq, Bool.or_eq_true]
  refine ⟨?_, ?_⟩
  · rw [← pl, List.take_left]
    exact (srt_eq asmS p.symm hq.can.asc).symm
  · by_cases e : q.2 = eS
    · exact .inl e
    · refine .inr ?_
      rw [← pl, List.drop_left]
      unfold lastM; rw [if_neg e]; rfl

theorem foldl_spec : ∀ (ch : List Q) (placed : List Str), placed.Nodup → (∀ q ∈ ch, VQ q) → Asc ch → (∀ q ∈ ch, placed ⊆ q.1) →
    (∀ q, serves placed q = true → serves (ch.foldl idxStep placed) q = true) ∧ (∀ q ∈ ch, serves (ch.foldl idxStep placed) q = true) ∧
    (∀ h : ch ≠ [], (ch.foldl idxStep placed).Perm (allQ (ch.getLast h))) := by
  intro ch
  induction ch with
  | nil => intro placed _ _ _ _; exact ⟨fun q h => h, by simp, fun h => absurd rfl h⟩
  | cons q ch ih =>
    intro placed hp hv ha hs
    obtain ⟨a1, a2⟩ := List.pairwise_cons.1 ha
    have hq := hv q (by simp)
    obtain ⟨s1, s2⟩ := idxStep_spec hq hp (hs q (by simp))
    have nd' : (idxStep placed q).Nodup := (s1.nodup_iff).2 (all_nodup hq)
    obtain ⟨i1, i2, i3⟩ := ih (idxStep placed q) nd' (fun r hr => hv r (List.mem_cons_of_mem _ hr)) a2
      (fun r hr x hx => (below_iff.1 (a1 r hr)).2 x (s1.mem_iff.1 hx))
    rw [List.foldl_cons]
    refine ⟨fun r hr => i1 r ?_, ?_, ?_⟩
    · unfold idxStep; rw [List.append_assoc]; exact serves_append hr
    · intro r hr
      rcases List.mem_cons.1 hr with rfl | hr
      · exact i1 r s2
      · exact i2 r hr
    · intro h
      cases ch with
      | nil => simpa using s1
      | cons b ch => rw [List.getLast_cons (by simp)]; exact i3 (by simp)

theorem index_spec {ch : List Q} (hv : ∀ q ∈ ch, VQ q) (ha : Asc ch) (h : ch ≠ []) :
    (∀ q ∈ ch, serves (indexM ch) q = true) ∧ (indexM ch).Perm (allQ (ch.getLast h)) := by
  obtain ⟨_, b, c⟩ := foldl_spec ch [] (by simp) hv ha (fun _ _ x hx => by cases hx)
  exact ⟨b, c h⟩

/-- an index the program's Shelf takes -/
def okIdx (i : List Str) : Prop := i ≠ [] ∧ i.Nodup ∧ ∀ x ∈ i, okC x = true

theorem all_ok {q : Q} (h : VQ q) : ∀ x ∈ allQ q, okC x = true := by
  intro x hx
  rcases mem_all.1 hx with h1 | ⟨h1, h2⟩
  · exact h.col x h1
  · rcases h.last with e | e
    · exact absurd e h1
    · rw [h2]; exact e.1
theorem all_ne {q : Q} (h : VQ q) : allQ q ≠ [] := by
  unfold allQ
  rcases h.ne with e | e
  · simp [e]
  · simp [e]

theorem index_ok {ch : List Q} (hv : ∀ q ∈ ch, VQ q) (ha : Asc ch) (h : ch ≠ []) : okIdx (indexM ch) := by
  obtain ⟨_, p⟩ := index_spec hv ha h
  have hq := hv _ (List.getLast_mem h)
  refine ⟨fun e => all_ne hq ?_, (p.nodup_iff).2 (all_nodup hq), fun x hx => all_ok hq x (p.mem_iff.1 hx)⟩
  rw [e] at p; exact (List.Perm.nil_eq p).symm

/-! ### upwards of a chain -/
def encC (q : Q) : PyData := .tuple [.int q.1.length, .bool (!decide (q.2 = eS))]
theorem leC_of_rk {a b : Q} (h : rk a < rk b) : dataLe false encC a b = true ∧ dataLe false encC b a = false := by
  have e : ∀ x y : Q, dataLt (encC x) (encC y) = decide (rk x < rk y) := by
    intro x y
    unfold encC
    rw [dataLt_pair (by simp [alike]) (by simp [alike]), dataLt_int, dataLt_bool]
    simp only [PyData.eqv, beq_iff_eq]
    unfold rk
    by_cases h1 : x.2 = eS <;> by_cases h2 : y.2 = eS <;> by_cases h3 : (x.1.length : Int) = y.1.length <;>
      simp [h1, h2, h3, PyProof.Rows.b2i] <;> omega
  have f1 : dataLe false encC a b = !dataLt (encC b) (encC a) := rfl
  have f2 : dataLe false encC b a = !dataLt (encC a) (encC b) := rfl
  rw [f1, f2, e, e]
  simp; omega

theorem upwards_chain {ch : List Q} (hv : ∀ q ∈ ch, VQ q) (ha : Asc ch) : (canQ ch).mergeSort (dataLe false encC) = ch := by
  have hr : ch.Pairwise (fun a b => rk a < rk b) :=
    List.Pairwise.imp_of_mem (fun {a b} h1 h2 h => rk_lt (hv a h1) (hv b h2) h) ha
  have nd : ch.Nodup := hr.imp (fun {a b} h e => by rw [e] at h; omega)
  refine (sort_unique (tot encC) (hr.imp (fun h => (leC_of_rk h).1)) fun c => ?_).symm
  have inj : ∀ a ∈ ch, ∀ b ∈ ch, sameRank (dataLe false encC) c a = true → sameRank (dataLe false encC) c b = true → a = b := by
    intro a h1 b h2 s1 s2
    unfold sameRank at s1 s2
    rw [Bool.and_eq_true] at s1 s2
    have ab := (tot encC).trans _ _ _ s1.2 s2.1
    have ba := (tot encC).trans _ _ _ s2.2 s1.1
    rcases Nat.lt_trichotomy (rk a) (rk b) with q | q | q
    · have := (leC_of_rk q).2; rw [ba] at this; cases this
    · refine Classical.byContradiction fun hne => ?_
      obtain ⟨i, hi, ei⟩ := List.mem_iff_getElem.1 h1
      obtain ⟨j, hj, ej⟩ := List.mem_iff_getElem.1 h2
      rcases Nat.lt_trichotomy i j with l | l | l
      · have := List.pairwise_iff_getElem.1 hr i j hi hj l
        rw [ei, ej] at this; omega
      · subst l; exact hne (ei.symm.trans ej)
      · have := List.pairwise_iff_getElem.1 hr j i hj hi l
        rw [ei, ej] at this; omega
    · have := (leC_of_rk q).2; rw [ab] at this; cases this
  have n1 := nodup_filter (p := sameRank (dataLe false encC) c) nd
  have n2 := nodup_filter (p := sameRank (dataLe false encC) c) (canon_nodup encQ ch)
  have mm : ∀ x, x ∈ ch.filter (sameRank (dataLe false encC) c) ↔ x ∈ (canQ ch).filter (sameRank (dataLe false encC) c) := by
    intro x; rw [List.mem_filter, List.mem_filter, canon_mem]
  have p := perm_of_mem n1 n2 mm
  have one : ∀ l : List Q, l.Nodup → (∀ a ∈ l, ∀ b ∈ l, a = b) → l.length ≤ 1 := by
    intro l hn h
    match l, hn, h with
    | [], _, _ => simp
    | [a], _, _ => simp
    | a :: b :: l, hn, h =>
      have := h a (by simp) b (by simp)
      subst this
      simp at hn
  have l1 := one _ n1 (fun a h1 b h2 => inj a (List.mem_filter.1 h1).1 b (List.mem_filter.1 h2).1 (List.mem_filter.1 h1).2 (List.mem_filter.1 h2).2)
  have e := p.length_eq
  cases h1 : ch.filter (sameRank (dataLe false encC) c) with
  | nil => rw [h1] at p; exact List.Perm.nil_eq p
  | cons a t =>
    have ht : t = [] := by rw [h1] at l1; simpa using l1
    subst ht
    rw [h1] at p
    exact (List.perm_singleton.1 p.symm).symm

/-! ### the shelf -/
section
variable (tab : Str → Int)
def insideM (qs : List Q) (cols : List Str) : List Nat := (List.range qs.length).filter (fun i => decide (colsQ (atQ qs i) = cols))
def lvlM (qs : List Q) (cols : List Str) : Int := wI (wsM tab qs) ((insideM qs cols).headD 0)
def besideM (qs : List Q) (cols : List Str) : List Nat :=
  (List.range qs.length).filter (fun i => decide (wI (wsM tab qs) i = lvlM tab qs cols) && !decide (i ∈ insideM qs cols))
def heavyM (qs : List Q) (cols : List Str) : List Nat :=
  (hfM (wsM tab qs)).filter (fun i => !decide (i ∈ insideM qs cols) && decide (lvlM tab qs cols ≤ wI (wsM tab qs) i))
def lightM (qs : List Q) (cols : List Str) : List Nat :=
  (hfM (wsM tab qs)).filter (fun i => decide (wI (wsM tab qs) i < lvlM tab qs cols))
def orderM (qs : List Q) (cols : List Str) : List Nat := heavyM tab qs cols ++ insideM qs cols ++ lightM tab qs cols
def startM (qs : List Q) (cols : List Str) : List (Nat × Nat) := matchedM (abQ qs) qs.length (orderM tab qs cols)
def rowsOf (qs : List Q) (m : List (Nat × Nat)) (R : Nat) : List (List Str) :=
  (chainedM m qs.length R).map (fun ch => indexM (ch.map (atQ qs)))
def matchM (qs : List Q) (cols : List Str) (many : Int) : Option (List (Nat × Nat)) :=
  loopM (abQ qs) qs.length (insideM qs cols) (besideM tab qs cols) many ((insideM qs cols).length + 1) (startM tab qs cols)

variable {tab} (ht : ∀ x, 1 ≤ tab x) {qs : List Q} (hv : All qs) (hn : qs.Nodup) {cols : List Str} (hc : ∃ q ∈ qs, colsQ q = cols)

abbrev cI (qs : List Q) (i : Nat) : List Str := colsQ (atQ qs i)

theorem mem_inside {i : Nat} : i ∈ insideM qs cols ↔ i < qs.length ∧ colsQ (atQ qs i) = cols := by
  unfold insideM; rw [List.mem_filter, List.mem_range, decide_eq_true_eq]

theorem inside_cls : insideM qs cols = cls qs.length (cI qs) cols := rfl

include hc in
theorem lvl_eq : lvlM tab qs cols = wgt tab cols := by
  obtain ⟨q, h1, h2⟩ := hc
  obtain ⟨i, hi, e⟩ := mem_at h1
  unfold lvlM
  cases z : insideM qs cols with
  | nil =>
    have : i ∈ insideM qs cols := mem_inside.2 ⟨hi, by rw [e]; exact h2⟩
    rw [z] at this; cases this
  | cons a l =>
    have : a ∈ insideM qs cols := by rw [z]; simp
    rw [List.headD_cons, ws_at, ← wq_cols, (mem_inside.1 this).2]; rfl

theorem cls_w : ∀ x < qs.length, cI qs x = cols → wI (wsM tab qs) x = wgt tab cols := by
  intro x _ e
  rw [ws_at, ← wq_cols]
  show ((cI qs x).map tab).sum = _
  rw [e]; rfl

include hc in
theorem beside_bes : besideM tab qs cols = bes qs.length (wI (wsM tab qs)) (cI qs) (wgt tab cols) cols := by
  unfold besideM bes
  rw [lvl_eq hc]
  refine filter_congr' fun x hx => ?_
  congr 2
  rw [decide_eq_decide, mem_inside]
  exact ⟨fun z => z.2, fun z => ⟨List.mem_range.1 hx, z⟩⟩

include hc in
theorem order_eq : orderM tab qs cols = sOrd qs.length (wI (wsM tab qs)) (cI qs) (wgt tab cols) cols (hfM (wsM tab qs)) := by
  unfold orderM heavyM lightM sOrd
  rw [lvl_eq hc]
  congr 2
  refine filter_congr' fun x hx => ?_
  have hx' := (ws_fall (tab := tab) (qs := qs)).mem x |>.1 hx
  congr 2
  rw [decide_eq_decide, mem_inside]
  exact ⟨fun z => z.2, fun z => ⟨hx', z⟩⟩

include ht hv hn hc

theorem isW_ht : IsW (abQ qs) (hi qs.length (wI (wsM tab qs)) (wgt tab cols) ++ cls qs.length (cI qs) cols)
    (mostApart (qs.filter (fun q => decide (wgt tab cols < wq tab q)) ++ someM qs cols)) := by
  have nd := nd_least (tab := tab) hv hn hc
  refine (isWQ_of hn ?_ _ ?_ ?_).2 (mostApart_isW nd)
  · intro x hx
    rcases List.mem_append.1 hx with h | h <;> exact List.mem_range.1 (List.mem_filter.1 h).1
  · intro x hx
    rw [List.mem_append, List.mem_append, List.mem_filter, List.mem_filter, List.mem_filter, mem_some, List.mem_range, ws_at]
    simp only [decide_eq_true_eq]
    exact ⟨fun z => z.imp (fun a => ⟨atQ_mem hx, a.2⟩) (fun a => ⟨atQ_mem hx, a.2⟩), fun z => z.imp (fun a => ⟨hx, a.2⟩) (fun a => ⟨hx, a.2⟩)⟩
  · intro x hx
    rcases List.mem_append.1 hx with h | h
    · exact (List.mem_filter.1 h).1
    · exact (mem_some.1 h).1

theorem isW_oth : IsW (abQ qs) (oth qs.length (wI (wsM tab qs)) (cI qs) (wgt tab cols) cols)
    (mostApart ((qs.filter (fun q => decide (wgt tab cols - 1 < wq tab q))).filter (fun q => !decide (q ∈ someM qs cols)))) := by
  refine (isWQ_of hn (fun x hx => List.mem_range.1 (List.mem_filter.1 hx).1) _ ?_ ?_).2 (mostApart_isW (nodup_filter (nodup_filter hn)))
  · intro x hx
    simp only [List.mem_filter, mem_some, List.mem_range, ws_at, Bool.and_eq_true, decide_eq_true_eq, Bool.not_eq_true', decide_eq_false_iff_not]
    constructor
    · rintro ⟨_, a, b⟩; exact ⟨⟨atQ_mem hx, by omega⟩, fun z => b z.2⟩
    · rintro ⟨⟨_, a⟩, b⟩; exact ⟨hx, by omega, fun z => b ⟨atQ_mem hx, z⟩⟩
  · intro x hx; exact (List.mem_filter.1 (List.mem_filter.1 hx).1).1

theorem isW_wide : IsW (abQ qs) (ge qs.length (wI (wsM tab qs)) (wgt tab cols))
    (mostApart (qs.filter (fun q => decide (wgt tab cols - 1 < wq tab q)))) := by
  have := isW_ge (tab := tab) hn (wgt tab cols)
  have e : (fun q : Q => decide (wgt tab cols - 1 < wq tab q)) = (fun q => decide (wgt tab cols ≤ wq tab q)) := by
    funext q
    rw [decide_eq_decide]; omega
  rw [e]; exact this

/-- the loop comes to its end with the wished number -/
theorem match_done {many : Int} (h1 : leastL tab qs cols ≤ many) (h2 : many ≤ mostL tab qs cols) :
    ∃ m, matchM tab qs cols many = some m ∧ Mt (abQ qs) (swapD m) ∧ (keysM m).Nodup ∧
      (((insideM qs cols).filter (out (keysM m))).length : Int) = many ∧
      (((List.range qs.length).filter (out (keysM m))).map (wI (wsM tab qs))).sum = dueL tab qs := by
  have N := netW ht hv hn
  have F := ws_fall (tab := tab) (qs := qs)
  have hk := cls_w (tab := tab) (qs := qs) (cols := cols)
  have F' := sOrd_fall (c := cI qs) F hk
  obtain ⟨M, G⟩ := matched_grd N.lt F'.nd
  obtain ⟨b1, b2⟩ := sOrd_base N F hk G (isW_wide ht hv hn hc) (isW_oth ht hv hn hc)
  have ks : keysM (startM tab qs cols) = lows (matchedD (abQ qs) qs.length (sOrd qs.length (wI (wsM tab qs)) (cI qs) (wgt tab cols) cols (hfM (wsM tab qs))) []) := by
    unfold startM matchedM; rw [keys_swap, order_eq hc]
  have L := loop_done N hk (isW_hi hn (wgt tab cols)) (isW_ht ht hv hn hc) (many := many) h1 (keysM (startM tab qs cols))
    ((insideM qs cols).length + 1) (startM tab qs cols) (by unfold startM matchedM; rw [swap_swap, order_eq hc]; exact M)
    (by rw [ks]; exact b1) (by
      rw [ks]; unfold mostL at h2; omega) (by
      have : ((insideM qs cols).filter (out (keysM (startM tab qs cols)))).length ≤ (insideM qs cols).length := List.length_filter_le _ _
      exact Nat.lt_succ_of_le this) rfl
  obtain ⟨m, e, D⟩ := L
  have hz := abQ_none (qs := qs)
  refine ⟨m, ?_, D.mt, D.nd, D.cnt, ?_⟩
  · unfold matchM
    rw [beside_bes hc]; exact e
  · have l1 : ∀ x ∈ keysM m, x < qs.length := by
      have := Mt.low_lt N hz D.mt
      rw [← keys_swap, swap_swap] at this; exact this
    have l2 : ∀ x ∈ keysM (startM tab qs cols), x < qs.length := by
      rw [ks]; exact Mt.low_lt N hz M
    have n2 : (keysM (startM tab qs cols)).Nodup := by rw [ks]; exact G.nd
    rw [sum_out D.nd l1, D.sum, ← sum_out n2 l2, ks]
    refine cost_levels N F' G (levels_lt (wsM tab qs)) ?_ (fun x => mostApart (qs.filter (fun q => decide (x ≤ wq tab q)))) (fun x _ => isW_ge hn x)
    intro t htn
    refine canon_mem.2 ?_
    unfold wI
    have hl : t < (wsM tab qs).length := by rw [ws_len]; exact htn
    rw [getD_get hl]; exact List.getElem_mem hl

/-- the rows of the shelf as the law looks at them -/
structure Shelved (tab : Str → Int) (qs : List Q) (cols : List Str) (many : Int) (rows : List (List Str)) : Prop where
  ok : ∀ r ∈ rows, okIdx r
  served : ∀ q ∈ qs, ∃ r ∈ rows, serves r q = true
  sum : (rows.map (wgt tab)).sum = dueL tab qs
  times : ((rows.filter (fun r => decide (srtS r = cols))).length : Int) = many
  len : rows.length ≤ qs.length

omit ht hv hn hc in
theorem chain_last {qs : List Q} {ch : List Nat} (h : ch ≠ []) (h' : ch.map (atQ qs) ≠ []) : (ch.map (atQ qs)).getLast h' = atQ qs (lastOf ch) := by
  rw [List.getLast_map]
  unfold lastOf
  rw [List.getLast?_eq_some_getLast h]; rfl

omit ht hn hc in
theorem chains_ok {R : Nat} (hR : ∀ x < qs.length, rk (atQ qs x) < R) {m : List (Nat × Nat)} (hm : Mt (abQ qs) (swapD m)) (nk : (keysM m).Nodup) :
    Chains qs.length m (fun x y => y ∈ abQ qs x) (chainedM m qs.length R) := by
  have edge : ∀ p ∈ m, p.2 ∈ abQ qs p.1 := by
    intro p hp
    exact hm.edge (p.2, p.1) (List.mem_map.2 ⟨p, hp, rfl⟩)
  refine chainedM_chains (rk := fun i => rk (atQ qs i)) ⟨?_, hR⟩ ?_ edge nk ?_
  · intro p hp
    obtain ⟨a, b, c⟩ := mem_abQ.1 (edge p hp)
    exact ⟨a, b, rk_lt (hv _ (atQ_mem a)) (hv _ (atQ_mem b)) c⟩
  · intro x y z h1 h2
    exact (netQ (tab := fun _ => 1) (fun _ => by omega) hv).trn x y z h1 h2
  · have := hm.keys
    have e : (swapD m).map (·.1) = lows m := by simp [swapD, lows, Function.comp]
    rw [← e]; exact this

omit ht hn hc in
theorem chain_asc {R : Nat} (hR : ∀ x < qs.length, rk (atQ qs x) < R) {m : List (Nat × Nat)} (hm : Mt (abQ qs) (swapD m)) (nk : (keysM m).Nodup) :
    ∀ ch ∈ chainedM m qs.length R, ch ≠ [] ∧ (∀ i ∈ ch, i < qs.length) ∧ Asc (ch.map (atQ qs)) ∧ (∀ q ∈ ch.map (atQ qs), VQ q) := by
  intro ch hch
  have C := chains_ok hv hR hm nk
  refine ⟨C.ne ch hch, C.lt ch hch, ?_, ?_⟩
  · rw [Asc, List.pairwise_map]
    exact (C.asc ch hch).imp (fun h => (mem_abQ.1 h).2.2)
  · intro q hq
    obtain ⟨i, hi, e⟩ := List.mem_map.1 hq
    rw [← e]; exact hv _ (atQ_mem (C.lt ch hch i hi))

omit hc in
theorem rows_ok {R : Nat} (hR : ∀ x < qs.length, rk (atQ qs x) < R) {m : List (Nat × Nat)} (hm : Mt (abQ qs) (swapD m)) (nk : (keysM m).Nodup) {many : Int}
    (h1 : (((insideM qs cols).filter (out (keysM m))).length : Int) = many)
    (h2 : (((List.range qs.length).filter (out (keysM m))).map (wI (wsM tab qs))).sum = dueL tab qs) :
    Shelved tab qs cols many (rowsOf qs m R) := by
  have C := chains_ok hv hR hm nk
  have A := chain_asc hv hR hm nk
  have top : ∀ ch ∈ chainedM m qs.length R, (indexM (ch.map (atQ qs))).Perm (allQ (atQ qs (lastOf ch))) := by
    intro ch hch
    obtain ⟨a1, a2, a3, a4⟩ := A ch hch
    have h' : ch.map (atQ qs) ≠ [] := by simpa using a1
    have := (index_spec a4 a3 h').2
    rw [chain_last a1 h'] at this; exact this
  refine ⟨?_, ?_, ?_, ?_, ?_⟩
  · intro r hr
    obtain ⟨ch, hch, e⟩ := List.mem_map.1 hr
    obtain ⟨a1, a2, a3, a4⟩ := A ch hch
    rw [← e]; exact index_ok a4 a3 (by simpa using a1)
  · intro q hq
    obtain ⟨i, hi, e⟩ := mem_at hq
    obtain ⟨ch, hch, hic⟩ := C.all i hi
    obtain ⟨a1, a2, a3, a4⟩ := A ch hch
    refine ⟨_, List.mem_map.2 ⟨ch, hch, rfl⟩, ?_⟩
    exact (index_spec a4 a3 (by simpa using a1)).1 q (List.mem_map.2 ⟨i, hic, e⟩)
  · have e1 : (rowsOf qs m R).map (wgt tab) = (chainedM m qs.length R).map (fun ch => wI (wsM tab qs) (lastOf ch)) := by
      unfold rowsOf
      rw [List.map_map]
      refine List.map_congr_left fun ch hch => ?_
      show ((indexM (ch.map (atQ qs))).map tab).sum = _
      rw [sum_perm' (top ch hch), ws_at]; rfl
    have e2 : (chainedM m qs.length R).map (fun ch => wI (wsM tab qs) (lastOf ch)) = ((chainedM m qs.length R).map lastOf).map (wI (wsM tab qs)) := by
      rw [List.map_map]; rfl
    rw [e1, e2, sum_perm C.tops, h2]
  · rw [← h1]
    have e1 : ((rowsOf qs m R).filter (fun r => decide (srtS r = cols))).length
        = ((chainedM m qs.length R).filter (fun ch => decide (colsQ (atQ qs (lastOf ch)) = cols))).length := by
      unfold rowsOf
      rw [List.filter_map, List.length_map]
      congr 1
      refine filter_congr' fun ch hch => ?_
      show decide (srtS (indexM (ch.map (atQ qs))) = cols) = _
      obtain ⟨a1, a2, a3, a4⟩ := A ch hch
      have hl : lastOf ch < qs.length := by
        have : lastOf ch = ch.getLast a1 := by unfold lastOf; rw [List.getLast?_eq_some_getLast a1]; rfl
        rw [this]; exact a2 _ (List.getLast_mem a1)
      rw [show srtS (indexM (ch.map (atQ qs))) = srtS (allQ (atQ qs (lastOf ch))) from srt_congr asmS (top ch hch), ← cols_eq_srt (hv _ (atQ_mem hl))]
    have e2 : ((chainedM m qs.length R).filter (fun ch => decide (colsQ (atQ qs (lastOf ch)) = cols))).length
        = (((chainedM m qs.length R).map lastOf).filter (fun i => decide (colsQ (atQ qs i) = cols))).length := by
      rw [List.filter_map, List.length_map]; rfl
    have e3 := (C.tops.filter (fun i => decide (colsQ (atQ qs i) = cols))).length_eq
    rw [e1, e2, e3, List.filter_filter]
    unfold insideM
    rw [List.filter_filter]
    congr 2
    refine filter_congr' fun x _ => ?_
    rw [Bool.and_comm]
  · unfold rowsOf
    rw [List.length_map]
    have := C.tops.length_eq
    rw [List.length_map] at this
    rw [this]
    refine Nat.le_trans (List.length_filter_le _ _) (by simp)

/-- R3 -/
theorem shelf_rows {R : Nat} (hR : ∀ x < qs.length, rk (atQ qs x) < R) {many : Int} (h1 : leastL tab qs cols ≤ many) (h2 : many ≤ mostL tab qs cols) :
    ∃ m, matchM tab qs cols many = some m ∧ Mt (abQ qs) (swapD m) ∧ (keysM m).Nodup ∧ Shelved tab qs cols many (rowsOf qs m R) := by
  obtain ⟨m, a, b, c, d, e⟩ := match_done ht hv hn hc h1 h2
  exact ⟨m, a, b, c, rows_ok ht hv hn hR b c d e⟩
end

/-! ### totals -/
section
variable {tab : Str → Int} (ht : ∀ x, 1 ≤ tab x) {qs : List Q} (hv : All qs) (hn : qs.Nodup)
include ht hv hn

theorem totals {ks : List (List Str)} (nk : ks.Nodup) (hk : ∀ k, k ∈ ks ↔ ∃ q ∈ qs, colsQ q = k) :
    (ks.map (leastL tab qs)).sum ≤ (fewestM qs : Int) ∧ (fewestM qs : Int) ≤ (ks.map (mostL tab qs)).sum := by
  have N := netW ht hv hn
  have F := ws_fall (tab := tab) (qs := qs)
  obtain ⟨M, G⟩ := matched_grd N.lt F.nd
  let B := lows (matchedD (abQ qs) qs.length (hfM (wsM tab qs)) [])
  let u : List Str → Nat := fun k => ((cls qs.length (cI qs) k).filter (out B)).length
  have bd : ∀ k ∈ ks, leastL tab qs k ≤ (u k : Int) ∧ (u k : Int) ≤ mostL tab qs k := by
    intro k hk'
    have hc := (hk k).1 hk'
    obtain ⟨b1, b2⟩ := class_bounds N F (cls_w (tab := tab) (cols := k)) G (isW_hi hn (wgt tab k)) (isW_ht ht hv hn hc) (isW_wide ht hv hn hc) (isW_oth ht hv hn hc)
    unfold leastL mostL
    have b1' : mostApart (qs.filter (fun q => decide (wgt tab k < wq tab q)) ++ someM qs k) ≤ mostApart (qs.filter (fun q => decide (wgt tab k < wq tab q))) + u k := b1
    have b2' : u k + mostApart ((qs.filter (fun q => decide (wgt tab k - 1 < wq tab q))).filter (fun q => !decide (q ∈ someM qs k))) ≤ mostApart (qs.filter (fun q => decide (wgt tab k - 1 < wq tab q))) := b2
    omega
  have tot : (ks.map u).sum = fewestM qs := by
    have e1 : (ks.map u).sum = ((List.range qs.length).filter (out B)).length := by
      rw [← classes_sum (c := cI qs) nk ((List.range qs.length).filter (out B)) (fun t htt => (hk _).2 ⟨_, atQ_mem (List.mem_range.1 (List.mem_filter.1 htt).1), rfl⟩)]
      congr 1
      refine List.map_congr_left fun k _ => ?_
      show ((cls qs.length (cI qs) k).filter (out B)).length = _
      unfold cls
      rw [List.filter_filter, List.filter_filter]
      congr 1
      refine filter_congr' fun x _ => ?_
      rw [Bool.and_comm]
    have hw : IsW (abQ qs) ((List.range qs.length).filter (fun x => (fun _ : Int => true) (wI (wsM tab qs) x))) (mostApart qs) := by
      have := isW_filter hn (fun _ => true)
      have e : qs.filter (fun _ => true) = qs := List.filter_eq_self.2 (fun _ _ => rfl)
      rw [e] at this; exact this
    have c := F.count N G (fun _ => true) (fun _ _ _ _ => rfl) hw
    have er : (List.range qs.length).filter (fun x => (fun _ : Int => true) (wI (wsM tab qs) x)) = List.range qs.length := List.filter_eq_self.2 (fun _ _ => rfl)
    rw [er] at c
    have s := len_split (inn B) (List.range qs.length)
    have s' : ((List.range qs.length).filter (out B)).length = ((List.range qs.length).filter (fun x => !inn B x)).length := rfl
    rw [e1, fewest_eq hv hn]
    have c' : ((List.range qs.length).filter (inn B)).length + mostApart qs = (List.range qs.length).length := c
    omega
  have sl : ∀ l : List (List Str), (∀ k ∈ l, leastL tab qs k ≤ (u k : Int) ∧ (u k : Int) ≤ mostL tab qs k) →
      (l.map (leastL tab qs)).sum ≤ ((l.map u).sum : Int) ∧ ((l.map u).sum : Int) ≤ (l.map (mostL tab qs)).sum := by
    intro l
    induction l with
    | nil => intro _; simp
    | cons a l ih =>
      intro h
      have h1 := h a (by simp)
      have h2 := ih (fun k hk => h k (List.mem_cons_of_mem _ hk))
      simp only [List.map_cons, List.sum_cons]
      omega
  have := sl ks bd
  rw [tot] at this
  exact this
end
end NkQ
end
section
set_option Elab.async false
set_option linter.all false
set_option maxRecDepth 100000
/-! sorted(set(xs)), sorted(xs), set lengths: as data -/
namespace NkR
open PySem PySem.Spec PyProof.Rows L2 NkO NkS NkQ

theorem paired_mem_zip {α β : Type} {R : α → β → Prop} : ∀ {as : List α} {bs : List β}, Paired R as bs → ∀ m ∈ as.zip bs, R m.1 m.2 ∧ m.2 ∈ bs
  | _, _, .nil, m, h => by simp at h
  | _, _, .cons r t, m, h => by
    rcases List.mem_cons.1 h with e | h
    · rw [e]; exact ⟨r, by simp⟩
    · obtain ⟨a, b⟩ := paired_mem_zip t m h
      exact ⟨a, List.mem_cons_of_mem _ b⟩
theorem pick_list {α β : Type} {f : α → β} : ∀ (ks : List β) {l : List α}, (∀ k ∈ ks, ∃ x ∈ l, f x = k) → ∃ m : List α, m.map f = ks ∧ ∀ x ∈ m, x ∈ l
  | [], l, _ => ⟨[], rfl, by simp⟩
  | k :: ks, l, h => by
    obtain ⟨x, hx, e⟩ := h k (by simp)
    obtain ⟨m, e2, h2⟩ := pick_list ks (l := l) (fun k hk => h k (List.mem_cons_of_mem _ hk))
    refine ⟨x :: m, by simp [e, e2], fun y hy => ?_⟩
    rcases List.mem_cons.1 hy with rfl | hy
    · exact hx
    · exact h2 y hy
theorem nodup_of_map {α β : Type} {f : α → β} : ∀ {l : List α}, (l.map f).Nodup → l.Nodup
  | [], _ => by simp
  | a :: l, h => by
    obtain ⟨h1, h2⟩ := List.nodup_cons.1 h
    exact List.nodup_cons.2 ⟨fun z => h1 (List.mem_map.2 ⟨a, z, rfl⟩), nodup_of_map h2⟩

/-- items of a key that are good for sets and sorting -/
structure Good {κ : Type} (enc : κ → PyData) (l : List κ) : Prop where
  alike : PySem.W.AllAlike (l.map enc)
  sortable : PySem.W.Sortable (l.map enc)
  depth : ∀ x ∈ l, (enc x).depth ≤ 8
  flat : ∀ x ∈ l, flatD (enc x) = true
theorem Good.sub {κ : Type} {enc : κ → PyData} {l m : List κ} (h : Good enc l) (s : ∀ x ∈ m, x ∈ l) : Good enc m where
  alike := fun d hd d' hd' => by
    obtain ⟨x, hx, rfl⟩ := List.mem_map.1 hd
    obtain ⟨y, hy, rfl⟩ := List.mem_map.1 hd'
    exact h.alike _ (List.mem_map.2 ⟨x, s x hx, rfl⟩) _ (List.mem_map.2 ⟨y, s y hy, rfl⟩)
  sortable := h.sortable.imp (fun q d hd => by
    obtain ⟨x, hx, rfl⟩ := List.mem_map.1 hd
    exact q _ (List.mem_map.2 ⟨x, s x hx, rfl⟩)) (fun q d hd => by
    obtain ⟨x, hx, rfl⟩ := List.mem_map.1 hd
    exact q _ (List.mem_map.2 ⟨x, s x hx, rfl⟩))
  depth := fun x hx => h.depth x (s x hx)
  flat := fun x hx => h.flat x (s x hx)

section
variable {K : PySem.W.Frag} {w : World} {κ κ' : Type} [DecidableEq κ] [DecidableEq κ'] {H : Hp}
theorem dfAll_of_map {enc : κ → PyData} {H0 : Hp} : ∀ {vs : List V} {l : List κ}, (∀ x ∈ l, flatD (enc x) = true) → DpAll K H vs (l.map enc) → DfAll K H0 H vs (l.map enc)
  | _, [], _, h => by cases h; exact .nil
  | _, x :: l, hf, h => by
    cases h with
    | cons h1 h2 => exact .cons (df_of_dp _ _ (hf x (by simp)) h1) (dfAll_of_map (fun y hy => hf y (List.mem_cons_of_mem _ hy)) h2)
theorem dpAll_of_mem {enc : κ → PyData} : ∀ {M : List (V × κ)}, (∀ m ∈ M, Dp K H m.1 (enc m.2)) → DpAll K H (M.map (·.1)) ((M.map (·.2)).map enc)
  | [], _ => .nil
  | m :: M, h => .cons (h m (by simp)) (dpAll_of_mem (fun x hx => h x (List.mem_cons_of_mem _ hx)))

/-- a set at b of the items l, told by their keys -/
structure SetOf (K : PySem.W.Frag) (w : World) (H : Hp) (b : Addr) (f : κ → κ') (enc : κ → PyData) (l : List κ) (M : List (V × κ')) : Prop where
  at_ : H b = some (SetMO w b M)
  mem : ∀ m ∈ M, ∃ x ∈ l, f x = m.2 ∧ Dp K H m.1 (enc x)
  all : ∀ x ∈ l, f x ∈ M.map (·.2)
  nd : (M.map (·.2)).Nodup
theorem SetOf.len_le {b : Addr} {f : κ → κ'} {enc : κ → PyData} {l : List κ} {M : List (V × κ')} (S : SetOf K w H b f enc l M) : M.length ≤ l.length := by
  have : (M.map (·.2)).length ≤ (l.map f).length := S.nd.length_le_of_subset (fun k hk => by
    obtain ⟨m, hm, rfl⟩ := List.mem_map.1 hk
    obtain ⟨x, hx, e, _⟩ := S.mem m hm
    exact List.mem_map.2 ⟨x, hx, e⟩)
  simpa using this
theorem SetOf.len {b : Addr} {f : κ → κ'} (inj : ∀ x y, f x = f y → x = y) {enc : κ → PyData} {l : List κ} {M : List (V × κ')} (S : SetOf K w H b f enc l M) (hl : l.Nodup) : M.length = l.length := by
  have h1 := S.len_le
  have h2 : (l.map f).length ≤ (M.map (·.2)).length := (map_nodup hl (fun x _ y _ e => inj x y e)).length_le_of_subset (fun k hk => by
    obtain ⟨x, hx, rfl⟩ := List.mem_map.1 hk
    exact S.all x hx)
  simp at h2; omega
/-- set(xs): f the key of an item, vis how it is known -/
theorem rd_set {vis : V → κ' → Hp → Prop} (f : κ → κ') {enc : κ → PyData} {a : Addr} {vs : List V} (l : List κ) {R : VK}
    (hs : SqL K H a vs ∨ SqT K H a vs) (hv : Paired (fun v k => vis v k H) vs (l.map f)) (hd : DpAll K H vs (l.map enc)) (hl : l.length < 64)
    (h : ∀ b M H', Same H H' → H b = none → SetOf K w H' b f enc l M → R (.ref b) H') : rSet K w vis [.ref a] H R := by
  refine ⟨a, vs, l.map f, rfl, hs, hv, by simpa using hl, fun b M hb hM hM2 hM3 => ?_⟩
  have e1 : Same H (upd H b (SetMO w b M)) := same_new hb
  refine h b M _ e1 hb ⟨upd_same, fun m hm => ?_, fun x hx => hM2 _ (List.mem_map.2 ⟨x, hx, rfl⟩), hM3⟩
  have hz := hM m hm
  have lz : vs.length = l.length := by have := Paired.length hv; simpa using this
  obtain ⟨i, hi, e⟩ := List.mem_iff_getElem.1 hz
  have hi' : i < l.length := by simp at hi; omega
  have hi2 : i < vs.length := by omega
  have e' : (vs[i], f l[i]) = m := by rw [← e]; simp
  have em : vs[i]? = some m.1 := by rw [← e']; simp [hi2]
  obtain ⟨d, q1, q2⟩ := dpAll_get hd em
  rw [List.getElem?_map, List.getElem?_eq_getElem hi'] at q1
  cases q1
  exact ⟨l[i], List.getElem_mem hi', by rw [← e'], dp_ext e1 q2⟩
/-- sorted(s), s such a set -/
theorem rd_sortSet {b : Addr} (f : κ → κ') (inj : ∀ x y, f x = f y → x = y) {enc : κ → PyData} {enc' : κ' → PyData} (he : ∀ x, enc' (f x) = enc x) (ha : Asm enc) {l : List κ} {M : List (V × κ')} (S0 : SetOf K w H b f enc l M) (hl : l.length < 64) (G : Good enc l) {Q : VK}
    (h : ∀ p H', Same H H' → H p = none → Df K H H' (.ref p) (.list ((canon enc l).map enc)) → Q (.ref p) H') : rSort K w enc' [.ref b] H Q := by
  have enc_m : ∀ m ∈ M, Dp K H m.1 (enc' m.2) := fun m hm => by
    obtain ⟨x, _, e, q⟩ := S0.mem m hm
    rw [← e, he]; exact q
  have G' : Good enc' (M.map (·.2)) := by
    obtain ⟨m0, e0, h0⟩ := pick_list (f := f) (M.map (·.2)) (l := l) (fun k hk => by
      obtain ⟨m, hm, rfl⟩ := List.mem_map.1 hk
      obtain ⟨x, hx, e, _⟩ := S0.mem m hm
      exact ⟨x, hx, e⟩)
    have g := G.sub h0
    rw [← e0]
    have em : (m0.map f).map enc' = m0.map enc := by rw [List.map_map]; exact List.map_congr_left fun x _ => he x
    exact ⟨em ▸ g.alike, em ▸ g.sortable, fun x hx => by
      obtain ⟨y, hy, rfl⟩ := List.mem_map.1 hx
      rw [he]; exact g.depth y hy, fun x hx => by
      obtain ⟨y, hy, rfl⟩ := List.mem_map.1 hx
      rw [he]; exact g.flat y hy⟩
  have mlen := S0.len_le
  have mm : (M.map fun m => enc' m.2) = (M.map (·.2)).map enc' := by rw [List.map_map]; rfl
  refine ⟨b, M, rfl, .inr (.inr S0.at_), enc_m, by rw [mm]; exact G'.alike, by rw [mm]; exact G'.sortable, Nat.le_trans mlen (Nat.le_of_lt (small1000 (by omega))), fun m hm => G'.depth _ (List.mem_map.2 ⟨m, hm, rfl⟩), fun M' p S hp => ?_⟩
  have e2 : Same H (upd H p (.lst (M'.map (·.1)))) := same_new hp
  refine h p _ e2 hp ?_
  -- the keys that came are the canonical list's
  obtain ⟨m0, e0, h0⟩ := pick_list (f := f) (M'.map (·.2)) (l := l) (fun k hk => by
    obtain ⟨m, hm, rfl⟩ := List.mem_map.1 hk
    obtain ⟨x, hx, e, _⟩ := S0.mem m (S.perm.mem_iff.1 hm)
    exact ⟨x, hx, e⟩)
  have nd0 : m0.Nodup := by
    refine nodup_of_map (f := f) ?_
    rw [e0]
    exact ((S.perm.map (·.2)).nodup_iff).2 S0.nd
  have c0 : m0 = canon enc l := by
    refine (Can.canon ha ⟨nd0, ?_⟩ fun x => ?_).symm
    · have asc : (M'.map (·.2)).Pairwise (fun a b => PySem.W.dataLe false enc' a b = true) := by
        rw [List.pairwise_map]; exact S.asc
      rw [← e0, List.pairwise_map] at asc
      refine asc.imp fun {x y} q => ?_
      have : PySem.W.dataLe false enc' (f x) (f y) = PySem.W.dataLe false enc x y := by
        show (!(PyProof.Rows.listOrd PyProof.Rows.itemOrd).blt (PySem.W.keyToks (enc' (f y))) (PySem.W.keyToks (enc' (f x)))) = (!(PyProof.Rows.listOrd PyProof.Rows.itemOrd).blt (PySem.W.keyToks (enc y)) (PySem.W.keyToks (enc x)))
        rw [he, he]
      rw [← this]; exact q
    · refine ⟨fun hx => h0 x hx, fun hx => ?_⟩
      have : f x ∈ M'.map (·.2) := ((S.perm.map (·.2)).mem_iff).2 (S0.all x hx)
      rw [← e0] at this
      obtain ⟨y, hy, e⟩ := List.mem_map.1 this
      rw [inj _ _ e] at hy; exact hy
  have dp : DpAll K H (M'.map (·.1)) (m0.map enc) := by
    have := dpAll_of_mem (K := K) (H := H) (M := M') (enc := enc') (fun m hm => enc_m m (S.perm.mem_iff.1 hm))
    rw [← e0, List.map_map] at this
    have em : m0.map (enc' ∘ f) = m0.map enc := List.map_congr_left fun x _ => he x
    rw [em] at this; exact this
  rw [← c0]
  exact .lst hp upd_same ((dfAll_of_map (fun x hx => G.flat x (h0 x hx)) dp).ext e2)

/-- sorted(xs), xs a list or a tuple of data -/
theorem rd_sort {enc : κ → PyData} (ha : Asm enc) {a : Addr} {vs : List V} {l : List κ} {Q : VK}
    (hs : SqL K H a vs ∨ SqT K H a vs) (hd : DpAll K H vs (l.map enc)) (hl : l.length ≤ 1000) (G : Good enc l)
    (h : ∀ p H', Same H H' → H p = none → Df K H H' (.ref p) (.list ((srt enc l).map enc)) → Q (.ref p) H') : rSort K w enc [.ref a] H Q := by
  have lz : vs.length = l.length := by have := dpAll_len hd; simpa using this
  have m1 : (vs.zip l).map (·.1) = vs := by rw [List.map_fst_zip]; omega
  have m2 : (vs.zip l).map (·.2) = l := by rw [List.map_snd_zip]; omega
  have key : ∀ m ∈ vs.zip l, Dp K H m.1 (enc m.2) := by
    intro m hm
    obtain ⟨i, hi, e⟩ := List.mem_iff_getElem.1 hm
    have hi' : i < l.length := by simp at hi; omega
    have hi2 : i < vs.length := by omega
    have e' : (vs[i], l[i]) = m := by rw [← e]; simp
    have em : vs[i]? = some m.1 := by rw [← e']; simp [hi2]
    obtain ⟨d, q1, q2⟩ := dpAll_get hd em
    rw [List.getElem?_map, List.getElem?_eq_getElem hi'] at q1
    cases q1
    rw [← e']; rw [← e'] at q2; exact q2
  have mm : ((vs.zip l).map fun m => enc m.2) = l.map enc := by
    have : (vs.zip l).map (fun m => enc m.2) = ((vs.zip l).map (·.2)).map enc := by rw [List.map_map]; rfl
    rw [this, m2]
  refine ⟨a, vs.zip l, rfl, ?_, key, by rw [mm]; exact G.alike, by rw [mm]; exact G.sortable, by
    rw [List.length_zip, lz, Nat.min_self]; exact Nat.le_of_lt (small1000 hl), fun m hm => G.depth _ (by rw [← m2]; exact List.mem_map.2 ⟨m, hm, rfl⟩), fun M' p S hp => ?_⟩
  · rw [Src, m1]
    rcases hs with h | h
    · exact .inl h
    · exact .inr (.inl h)
  have e2 : Same H (upd H p (.lst (M'.map (·.1)))) := same_new hp
  refine h p _ e2 hp (.lst hp upd_same (DfAll.ext ?_ e2))
  have c0 : M'.map (·.2) = srt enc l := by
    refine srt_eq ha ?_ (by rw [List.pairwise_map]; exact S.asc)
    have := S.perm.map (·.2)
    rw [m2] at this; exact this
  have dp := dpAll_of_mem (K := K) (H := H) (M := M') (enc := enc) (fun m hm => key m (S.perm.mem_iff.1 hm))
  rw [c0] at dp
  exact dfAll_of_map (fun x hx => G.flat x ((srt_perm enc l).mem_iff.1 hx)) dp
end

/-! ### the kinds -/
theorem good_S (l : List Str) : Good encS l where
  alike := fun d hd d' hd' => by
    obtain ⟨x, hx, rfl⟩ := List.mem_map.1 hd
    obtain ⟨y, hy, rfl⟩ := List.mem_map.1 hd'
    rfl
  sortable := .inr fun d hd => by
    obtain ⟨x, hx, rfl⟩ := List.mem_map.1 hd
    exact ⟨fun q => (by cases q), fun _ q => (by cases q)⟩
  depth := fun x _ => by show (PyData.str x).depth ≤ 8; simp [PyData.depth]
  flat := fun x _ => rfl
theorem good_I (l : List Int) : Good encI l where
  alike := fun d hd d' hd' => by
    obtain ⟨x, hx, rfl⟩ := List.mem_map.1 hd
    obtain ⟨y, hy, rfl⟩ := List.mem_map.1 hd'
    rfl
  sortable := .inr fun d hd => by
    obtain ⟨x, hx, rfl⟩ := List.mem_map.1 hd
    exact ⟨fun q => (by cases q), fun _ q => (by cases q)⟩
  depth := fun x _ => by show (PyData.int x).depth ≤ 8; simp [PyData.depth]
  flat := fun x _ => rfl
theorem good_II (l : List (Int × Int)) : Good encII l where
  alike := fun d hd d' hd' => by
    obtain ⟨x, hx, rfl⟩ := List.mem_map.1 hd
    obtain ⟨y, hy, rfl⟩ := List.mem_map.1 hd'
    rfl
  sortable := .inl fun d hd => by
    obtain ⟨x, hx, rfl⟩ := List.mem_map.1 hd
    exact ⟨_, _, rfl⟩
  depth := fun x _ => by show (PyData.tuple [.int x.1, .int x.2]).depth ≤ 8; simp [PyData.depth, PyData.depthAll]
  flat := fun x _ => rfl
theorem alike_strs : ∀ (a b : List Str), PySem.W.alikeAll (a.map PyData.str) (b.map PyData.str) = true
  | [], b => rfl
  | a :: as, [] => rfl
  | a :: as, b :: bs => by simp [PySem.W.alikeAll, PySem.W.alike, alike_strs as bs]
theorem alike_Q (a b : Q) : PySem.W.alike (encQ a) (encQ b) = true := by
  simp [encQ, encL, PySem.W.alike, PySem.W.alikeAll, alike_strs]
theorem depthAll_strs : ∀ a : List Str, PyData.depthAll (a.map PyData.str) ≤ 1
  | [] => by simp [PyData.depthAll]
  | a :: as => by have := depthAll_strs as; simp [PyData.depthAll, PyData.depth]; omega
theorem flat_strs : ∀ a : List Str, flatD.flatDs (a.map PyData.str) = true
  | [] => rfl
  | a :: as => by simp [flatD.flatDs, flatD, flat_strs as]
theorem flat_L (l : List Str) : flatD (encL l) = true := flat_strs l
theorem flat_Q (q : Q) : flatD (encQ q) = true := by
  simp [encQ, encL, flatD, flatD.flatDs, flat_strs]
theorem depth_L (l : List Str) : (encL l).depth ≤ 2 := by
  have := depthAll_strs l
  simp [encL, PyData.depth]; omega
theorem depth_Q (q : Q) : (encQ q).depth ≤ 3 := by
  have := depth_L q.1
  simp [encQ, PyData.depth, PyData.depthAll]; omega
theorem good_Q (l : List Q) : Good encQ l where
  alike := fun d hd d' hd' => by
    obtain ⟨x, hx, rfl⟩ := List.mem_map.1 hd
    obtain ⟨y, hy, rfl⟩ := List.mem_map.1 hd'
    exact alike_Q x y
  sortable := .inl fun d hd => by
    obtain ⟨x, hx, rfl⟩ := List.mem_map.1 hd
    exact ⟨_, _, rfl⟩
  depth := fun x _ => Nat.le_trans (depth_Q x) (by omega)
  flat := fun x _ => flat_Q x
theorem good_L (l : List (List Str)) (h : ∀ x ∈ l, x ≠ []) : Good encL l where
  alike := fun d hd d' hd' => by
    obtain ⟨x, hx, rfl⟩ := List.mem_map.1 hd
    obtain ⟨y, hy, rfl⟩ := List.mem_map.1 hd'
    exact alike_strs x y
  sortable := .inl fun d hd => by
    obtain ⟨x, hx, rfl⟩ := List.mem_map.1 hd
    cases x with
    | nil => exact absurd rfl (h _ hx)
    | cons a t => exact ⟨_, _, rfl⟩
  depth := fun x _ => Nat.le_trans (depth_L x) (by omega)
  flat := fun x _ => flat_L x
/-- as members of a set -/
def kL (l : List Str) : NestedKey := .tup (l.map NestedKey.text)
def kQ (q : Q) : NestedKey := .tup [kL q.1, .text q.2]
def kII (p : Int × Int) : NestedKey := .tup [.num p.1, .num p.2]
theorem datas_text : ∀ l : List Str, NestedKey.datas (l.map NestedKey.text) = l.map PyData.str
  | [] => rfl
  | a :: l => by simp [NestedKey.datas, NestedKey.data, datas_text l]
theorem kL_data (l : List Str) : (kL l).data = encL l := by simp [kL, NestedKey.data, encL, datas_text]
theorem kQ_data (q : Q) : (kQ q).data = encQ q := by simp [kQ, NestedKey.data, NestedKey.datas, kL_data, encQ]
theorem kII_data (p : Int × Int) : (kII p).data = encII p := by simp [kII, NestedKey.data, NestedKey.datas, encII]
theorem map_text_inj : ∀ {a b : List Str}, a.map NestedKey.text = b.map NestedKey.text → a = b
  | [], [], _ => rfl
  | [], b :: bs, h => by simp at h
  | a :: as, [], h => by simp at h
  | a :: as, b :: bs, h => by simp at h; rw [h.1, map_text_inj h.2]
theorem kL_inj (a b : List Str) (h : kL a = kL b) : a = b := by
  unfold kL at h; injection h with h; exact map_text_inj h
theorem kQ_inj (a b : Q) (h : kQ a = kQ b) : a = b := by
  unfold kQ at h; injection h with h; simp at h
  exact Prod.ext (kL_inj _ _ h.1) h.2
theorem kII_inj (a b : Int × Int) (h : kII a = kII b) : a = b := by
  unfold kII at h; injection h with h; simp at h
  exact Prod.ext h.1 h.2
end NkR
end
section
set_option Elab.async false
set_option linter.all false
set_option maxRecDepth 100000
/-! The program's text by places, the names it leans on, calls in short. -/
namespace NkW
open PySem PySem.Spec PyProof.Rows L2 NkO NkR NkS

abbrev FnD (K : PySem.W.Frag) (x q : Str) (st : Stmt) (f : Addr) (fd : FuncData) : Prop := FunD K x q (defArgs st) (defBody st) (defScope st) [] [] f fd

/-- where the classes stand -/
structure Ad where
  Asked : Addr
  Shelf : Addr
  Lot : Addr
  Weights : Addr

/-- the names that the defs lean on -/
structure Tx (K : PySem.W.Frag) (mg : Str → Option Value) (c : Ad) : Prop where
  m_len : mg "len" = none
  m_all : mg "all" = none
  m_sorted : mg "sorted" = none
  m_set : mg "set" = none
  m_isinstance : mg "isinstance" = none
  m_int : mg "int" = none
  m_bool : mg "bool" = none
  m_str : mg "str" = none
  m_list : mg "list" = none
  m_tuple : mg "tuple" = none
  m_dict : mg "dict" = none
  m_enumerate : mg "enumerate" = none
  m_range : mg "range" = none
  m_sum : mg "sum" = none
  m_max : mg "max" = none
  m_abs : mg "abs" = none
  m_repr : mg "repr" = none
  m_iter : mg "iter" = none
  g_LETTERS : ∃ t, mg "LETTERS" = some (.str "abcdefghijklmnopqrstuvwxyz" t)
  g_LONGEST : ∃ t, mg "LONGEST" = some (.int 8 t)
  g_MOST_THINGS : ∃ t, mg "MOST_THINGS" = some (.int 48 t)
  g_Asked : mg "Asked" = some (.ref c.Asked)
  g_Shelf : mg "Shelf" = some (.ref c.Shelf)
  g_Lot : mg "Lot" = some (.ref c.Lot)
  g_Weights : mg "Weights" = some (.ref c.Weights)
  cA : Cls K c.Asked
  cS : Cls K c.Shelf
  cL : Cls K c.Lot
  cW : Cls K c.Weights
  aA : NoAttr K c.Asked "kept_questions"
  aS : NoAttr K c.Shelf "kept_indexes"
  aW : NoAttr K c.Weights "kept_table"
  l1 : NoAttr K c.Lot "kept_weights"
  l2 : NoAttr K c.Lot "kept_pairs"
  l3 : NoAttr K c.Lot "kept_above"
  l4 : NoAttr K c.Lot "kept_match"

section
variable {X : Cx} {k j : Nat}
theorem pe_gE {x : Str} {v : V} {pos : Pos} {F : Tok → Value} (h : ∃ t, X.mg x = some (F t)) (r : ∀ t, RelV v (F t)) (hg : Gl X x := by rfl) (hd : (x == ("__debug__" : Str)) = false := by decide) : PE X (.Name x pos) (tC v) := by
  obtain ⟨t, h⟩ := h
  exact pe_glob hg h (r t) hd
theorem w_setS (hr : Room k X.A) (hc : X.calm = true := by rfl) : CallR X (.type "set") (rSet X.K X.w (strAdder X).vis) := cr_set (strAdder X) hc (by have := hr.un; show X.A.units + 3 + 0 < _; omega)
theorem w_setI (hr : Room k X.A) (hc : X.calm = true := by rfl) : CallR X (.type "set") (rSet X.K X.w (intAdder X).vis) := cr_set (intAdder X) hc (by have := hr.un; show X.A.units + 3 + 0 < _; omega)
theorem w_setN (hr : Room k X.A) (hc : X.calm = true := by rfl) : CallR X (.type "set") (rSet X.K X.w (nestAdder X).vis) := cr_set (nestAdder X) hc (by have := hr.un; show X.A.units + 3 + 8 < _; omega)
theorem w_sort {κ : Type} (enc : κ → PyData) (hr : Room k X.A) (hc : X.calm = true := by rfl) : CallR X (.builtin "sorted") (rSort X.K X.w enc) := cr_sort enc hc (by have := hr.un; omega)

/-- a method by its class -/
structure Own (P : Program) (w : World) (K : PySem.W.Frag) (mg : Str → Option Value) (base : Heap) (C : Addr) (m : Str) (k : Nat) (ps : List Str) (sp : Sp) : Prop where
  ex : ∃ f fd, FnOk P w K mg base CX0 k f fd ps sp ∧ Meth K C m f ∧ Binds K fd ps []
  cl : Cls K C
theorem pe_own {C : Addr} {m : Str} {ps : List Str} {sp : Sp} {o e : Expr} {es : List Expr} {ta : TE} {t : TA} {pl : Sem Bool} {apos pos : Pos} (D : Own X.prog X.w X.K X.mg X.base C m k ps sp) (hr : Room k X.A) (he : PE X o ta) (ha : PA X (e :: es) t)
    (hst : starEach (e :: es) X.env = (false, eval e X.env) :: starEach es X.env := by rfl) (hpl : (backTo pos (starEach es X.env)).any (·.1) = false := by rfl)
    (ht : eval (.Call (.Attribute o m apos) (e :: es) [] pos) X.env = (do
      let ov ← eval o X.env
      standAt apos.atName
      let (f, first) ← holding [ov] (getMethod ov m pl)
      callWith pos f first (backTo pos (starEach (e :: es) X.env)) (backToKw pos (keywordEach [] X.env))) := by rfl) : PE X (.Call (.Attribute o m apos) (e :: es) [] pos) (tMeth C m sp [] E0 ta t) := by
  obtain ⟨f, fd, G, hm, b⟩ := D.ex
  exact pe_meth he D.cl hm G hr b .nil pass0 ha hst hpl ht
theorem pe_own0 {C : Addr} {m : Str} {ps : List Str} {sp : Sp} {o : Expr} {ta : TE} {pl : Sem Bool} {apos pos : Pos} (D : Own X.prog X.w X.K X.mg X.base C m k ps sp) (hr : Room k X.A) (he : PE X o ta)
    (ht : eval (.Call (.Attribute o m apos) [] [] pos) X.env = (do
      let ov ← eval o X.env
      standAt apos.atName
      let (f, first) ← holding [ov] (getMethod ov m pl)
      callWith pos f first (backTo pos (starEach [] X.env)) (backToKw pos (keywordEach [] X.env))) := by rfl) : PE X (.Call (.Attribute o m apos) [] [] pos) (tMeth C m sp [] E0 ta tNil) := by
  obtain ⟨f, fd, G, hm, b⟩ := D.ex
  exact pe_meth0 he D.cl hm G hr b .nil pass0 ht

/-- a class that is called -/
structure Made (P : Program) (w : World) (K : PySem.W.Frag) (mg : Str → Option Value) (base : Heap) (x : Str) (C : Addr) (k : Nat) (ps : List Str) (sp : Sp) : Prop where
  ex : ∃ f fd, FnOk P w K mg base CX0 k f fd ps sp ∧ Mk K C f ∧ Binds K fd ps []
  m : mg x = some (.ref C)
theorem pe_mk {C : Addr} {x : Str} {ps : List Str} {sp : Sp} {e : Expr} {es : List Expr} {t : TA} {p pos : Pos} (D : Made X.prog X.w X.K X.mg X.base x C k ps sp) (hr : Room (k + 1) X.A) (ha : PA X (e :: es) t) (hg : Gl X x := by rfl)
    (hdb : (x == ("__debug__" : Str)) = false := by decide) (he : starEach (e :: es) X.env = (false, eval e X.env) :: starEach es X.env := by rfl) (hpl : (backTo pos (starEach es X.env)).any (·.1) = false := by rfl) :
    PE X (.Call (.Name x p) (e :: es) [] pos) (tMake C sp [] E0 t) := by
  obtain ⟨f, fd, G, M, b⟩ := D.ex
  exact pe_make M G hr hg D.m b .nil pass0 ha hdb he hpl

/-- a def with one keyword -/
structure DefK (P : Program) (w : World) (K : PySem.W.Frag) (mg : Str → Option Value) (base : Heap) (x y : Str) (n k : Nat) (ps : List Str) (sp : Sp) : Prop where
  ex : ∃ f fd, FnOk P w K mg base CX0 k f fd ps sp ∧ mg x = some (.ref f) ∧ PySem.W.keepIn K (.ref f) = true ∧ KBn K fd ps n [y] (fun us ws => us ++ ws) (fun vs zs => vs ++ zs)
theorem pe_defK {x y : Str} {n : Nat} {ps : List Str} {sp : Sp} {e : Expr} {es : List Expr} {kws : List Keyword} {t tk : TA} {p pos : Pos} (D : DefK X.prog X.w X.K X.mg X.base x y n k ps sp) (hr : Room k X.A) (ha : PA X (e :: es) t) (hkw : PK X kws tk) (hg : Gl X x := by rfl)
    (hall : (backToKw pos (keywordEach kws X.env)).all (·.1.isSome) = true := by rfl) (hks : (backToKw pos (keywordEach kws X.env)).filterMap (·.1) = [y] := by rfl)
    (hdb : (x == ("__debug__" : Str)) = false := by decide) (he : starEach (e :: es) X.env = (false, eval e X.env) :: starEach es X.env := by rfl)
    (hpl : ((backTo pos (starEach (e :: es) X.env)).any (·.1) || (backToKw pos (keywordEach kws X.env)).any (·.1.isNone)) = false := by rfl) :
    PE X (.Call (.Name x p) (e :: es) kws pos) (tCallN n 1 sp (fun vs zs => vs ++ zs) E0 t tk) := by
  obtain ⟨f, fd, G, m, kp, b⟩ := D.ex
  exact pe_callN G hr hg m kp b pass0 ha hkw hall hks hdb he hpl

/-- o[i], read for o[i] += e -/
def pg_listIr (K : PySem.W.Frag) : V → V → Hp → VK → Prop := rIxL K
end

/-! ### the rules with the written part named (so that a comprehension's reading does not lean on its own context) -/
section
variable {X : Cx} {K : PySem.W.Frag}
theorem k_ixL (h : X.K = K) : IxR X (rIxL K) := by subst h; exact ix_list
theorem k_ixT (h : X.K = K) : IxR X (rIxT K) := by subst h; exact ix_tup
theorem k_slL (h : X.K = K) : SlR X (rSlL K) := by subst h; exact sl_list
theorem k_slT (h : X.K = K) : SlR X (rSlA K) := by subst h; exact sl_tupA
def rLenQ (K : PySem.W.Frag) : List V → Hp → VK → Prop := fun xs H Q => ∃ p ys, xs = [.ref p] ∧ (SqL K H p ys ∨ SqT K H p ys) ∧ Q (.int ys.length) H
theorem k_len (h : X.K = K) : CallR X (.builtin "len") (rLenQ K) := by subst h; exact call_len_seq
theorem k_in (h : X.K = K) : OpR X (compareOp .In) (rIn K false) := by subst h; exact op_in_seq
theorem k_notIn (h : X.K = K) : OpR X (compareOp .NotIn) (rIn K true) := by subst h; exact op_notIn_seq
theorem k_inD (h : X.K = K) (hu : X.A.units + 65 < cLine) : OpR X (compareOp .In) (rInDT K fun b => b) := by subst h; exact op_inDT hu
theorem k_notInD (h : X.K = K) (hu : X.A.units + 65 < cLine) : OpR X (compareOp .NotIn) (rInDT K fun b => !b) := by subst h; exact op_notInDT hu
theorem k_eqD (h : X.K = K) (hu : X.A.units + 64 < cLine) : OpR X (compareOp .Eq) (rEqD K) := by subst h; exact op_eqD hu
theorem k_neD (h : X.K = K) (hu : X.A.units + 64 < cLine) : OpR X (compareOp .NotEq) (rNeD K) := by subst h; exact op_neD hu
def rListOf (K : PySem.W.Frag) : List V → Hp → VK → Prop := fun xs H Q => ∃ p ys, xs = [.ref p] ∧ (SqL K H p ys ∨ SqT K H p ys) ∧ ∀ l, H l = none → Q (.ref l) (upd H l (.lst ys))
theorem k_list (h : X.K = K) : CallR X (.type "list") (rListOf K) := by subst h; exact call_list_of
def rTupOf (K : PySem.W.Frag) : List V → Hp → VK → Prop := fun xs H Q => ∃ p ys, xs = [.ref p] ∧ ((SqL K H p ys ∧ ∀ l, H l = none → Q (.ref l) (upd H l (.tup ys))) ∨ (SqT K H p ys ∧ Q (.ref p) H))
theorem k_tuple (h : X.K = K) : CallR X (.type "tuple") (rTupOf K) := by subst h; exact call_tuple_of
theorem k_all (h : X.K = K) (hc : X.calm = true) : CallR X (.builtin "all") (rAll K) := by subst h; exact cr_all hc
theorem k_sum (h : X.K = K) (hc : X.calm = true) : CallR X (.builtin "sum") (rSum K) := by subst h; exact cr_sum hc
theorem k_max (h : X.K = K) (hc : X.calm = true) : CallR X (.builtin "max") (rMax K) := by subst h; exact cr_max hc
theorem k_isi (h : X.K = K) : CallR X (.builtin "isinstance") (rIsi K) := by subst h; exact call_isi
theorem k_isiT (h : X.K = K) : CallR X (.builtin "isinstance") (rIsiT K) := by subst h; exact call_isiT
theorem k_setS {w : World} {k : Nat} (h : X.K = K) (h2 : X.w = w) (hr : Room k X.A) (hc : X.calm = true) : CallR X (.type "set") (rSet K w fun v (k : Str) _ => v = V.str k) := by subst h; subst h2; exact w_setS hr hc
theorem k_setI {w : World} {k : Nat} (h : X.K = K) (h2 : X.w = w) (hr : Room k X.A) (hc : X.calm = true) : CallR X (.type "set") (rSet K w fun v (k : Int) _ => v = V.int k) := by subst h; subst h2; exact w_setI hr hc
theorem k_setN {w : World} {k : Nat} (h : X.K = K) (h2 : X.w = w) (hr : Room k X.A) (hc : X.calm = true) : CallR X (.type "set") (rSet K w fun v (k : NestedKey) H => (∃ a, v = V.ref a) ∧ Dp K H v k.data ∧ k.depth ≤ 8) := by subst h; subst h2; exact w_setN hr hc
theorem k_sort {w : World} {k : Nat} {κ : Type} (enc : κ → PyData) (h : X.K = K) (h2 : X.w = w) (hr : Room k X.A) (hc : X.calm = true) : CallR X (.builtin "sorted") (rSort K w enc) := by subst h; subst h2; exact w_sort enc hr hc
theorem k_lenSet {w : World} (h2 : X.w = w) : CallR X (.builtin "len") (rLenSet w) := by subst h2; exact cr_lenSet
theorem k_fld {a : Expr} {ta : TE} {f : Str} {pos : Pos} (h : X.K = K) (he : PE X a ta) (hb : attributeBase a f X.env (eval a X.env) = eval a X.env) : PE X (.Attribute a f pos) (tFld K ta f) := by subst h; exact pe_fld he hb
theorem k_piL {tg l : Expr} {tl : TE} (h : X.K = K) (hl : PE X l tl) : PI X tg l (iList K tl) := by subst h; exact pi_list hl
theorem k_piT {tg l : Expr} {tl : TE} (h : X.K = K) (hl : PE X l tl) : PI X tg l (iTup K tl) := by subst h; exact pi_tup hl
theorem k_enum {e : Expr} {ta : TA} {p pos tpos : Pos} {elts : List Expr} {kk : Nat} (h : X.K = K) (hg : Gl X "enumerate") (hm : X.mg "enumerate" = none) (ha : PA X [e] ta) (hs : starEach [e] X.env = [(false, eval e X.env)] := by rfl) :
    PI X (.Tuple elts kk tpos) (.Call (.Name "enumerate" p) [e] [] pos) (iEnum K ta) := by subst h; exact pi_enum hg hm ha hs
theorem k_enumT {e : Expr} {ta : TA} {p pos tpos : Pos} {elts : List Expr} {kk : Nat} (h : X.K = K) (hg : Gl X "enumerate") (hm : X.mg "enumerate" = none) (ha : PA X [e] ta) (hs : starEach [e] X.env = [(false, eval e X.env)] := by rfl) :
    PI X (.Tuple elts kk tpos) (.Call (.Name "enumerate" p) [e] [] pos) (iEnumT K ta) := by subst h; exact pi_enumT hg hm ha hs
theorem k_gTup {es : List Expr} {k : Nat} {t : TGs} {n : Nat} {pos : Pos} (hK : X.K = K) (hc : X.calm = true) (h : PGs X es t)
    (hn : (assignEach es X.env).length = n := by rfl) (hst : (assignEach es X.env).findIdx? (·.1) = none := by rfl) : PG X (.Tuple es k pos) (gTup K n t) := by subst hK; exact pg_tup hc h hn hst
theorem k_star {e : Expr} {es : List Expr} {te : TE} {t : TA} {p : Pos} (h : X.K = K) (he : PE X e te) (hr : PA X es t) (hs : starEach (.Starred e p :: es) X.env = (true, eval e X.env) :: starEach es X.env := by rfl) : PA X (.Starred e p :: es) (StX.tStar K te t) := by subst h; exact StX.pa_star he hr hs
end
end NkW
end
section
set_option Elab.async false
set_option linter.all false
set_option maxRecDepth 100000
set_option maxHeartbeats 2000000
/-! words.py -/
namespace NkW
open PySem PySem.Spec PyProof.Rows L2 NkO NkR NkS NkQ
abbrev s_is_integer : Stmt := top 14
abbrev N_is_integer : List Str := ["thing"]
theorem sc_is_integer : FnScope N_is_integer ["thing"] (defScope s_is_integer) := ⟨rfl, rfl, rfl, by decide +kernel, rfl, by decide +kernel, by decide +kernel⟩
abbrev s_is_number_below : Stmt := top 15
abbrev N_is_number_below : List Str := ["thing", "many"]
theorem sc_is_number_below : FnScope N_is_number_below ["thing", "many"] (defScope s_is_number_below) := ⟨rfl, rfl, rfl, by decide +kernel, rfl, by decide +kernel, by decide +kernel⟩
abbrev s_is_column : Stmt := top 16
abbrev N_is_column : List Str := ["thing", "sign"]
theorem sc_is_column : FnScope N_is_column ["thing"] (defScope s_is_column) := ⟨rfl, rfl, rfl, by decide +kernel, rfl, by decide +kernel, by decide +kernel⟩
abbrev s_are_unlike : Stmt := top 17
abbrev N_are_unlike : List Str := ["things", "thing"]
theorem sc_are_unlike : FnScope N_are_unlike ["things"] (defScope s_are_unlike) := ⟨rfl, rfl, rfl, by decide +kernel, rfl, by decide +kernel, by decide +kernel⟩
abbrev s_are_columns : Stmt := top 18
abbrev N_are_columns : List Str := ["thing"]
theorem sc_are_columns : FnScope N_are_columns ["thing"] (defScope s_are_columns) := ⟨rfl, rfl, rfl, by decide +kernel, rfl, by decide +kernel, by decide +kernel⟩
abbrev s_is_last : Stmt := top 19
abbrev N_is_last : List Str := ["thing", "columns"]
theorem sc_is_last : FnScope N_is_last ["thing", "columns"] (defScope s_is_last) := ⟨rfl, rfl, rfl, by decide +kernel, rfl, by decide +kernel, by decide +kernel⟩
abbrev s_is_question : Stmt := top 20
abbrev N_is_question : List Str := ["thing"]
theorem sc_is_question : FnScope N_is_question ["thing"] (defScope s_is_question) := ⟨rfl, rfl, rfl, by decide +kernel, rfl, by decide +kernel, by decide +kernel⟩
abbrev s_is_index : Stmt := top 21
abbrev N_is_index : List Str := ["thing"]
theorem sc_is_index : FnScope N_is_index ["thing"] (defScope s_is_index) := ⟨rfl, rfl, rfl, by decide +kernel, rfl, by decide +kernel, by decide +kernel⟩
abbrev s_is_weight : Stmt := top 22
abbrev N_is_weight : List Str := ["thing"]
theorem sc_is_weight : FnScope N_is_weight ["thing"] (defScope s_is_weight) := ⟨rfl, rfl, rfl, by decide +kernel, rfl, by decide +kernel, by decide +kernel⟩

section
variable {K : PySem.W.Frag} {H H0 : Hp}
theorem tyx_L {a : Addr} {xs : List V} (h : SqL K H a xs) : TyX K H (.ref a) (.type "list") := by
  rcases h with (h | ⟨o, h⟩) | ⟨o, its, n, h1, h2, _⟩
  · exact .base (.lst h)
  · exact .base (.frz h)
  · exact .kList h1 h2
theorem tyx_T {a : Addr} {xs : List V} (h : SqT K H a xs) : TyX K H (.ref a) (.type "tuple") := by
  rcases h with (h | ⟨o, h⟩) | ⟨o, its, n, h1, h2, _⟩
  · exact .base (.tup h)
  · exact .fTuple h
  · exact .kTuple h1 h2
theorem dpL {v : V} {l : List Str} (h : Dp K H v (encL l)) : ∃ a, v = .ref a ∧ SqT K H a (l.map V.str) := by
  unfold encL at h
  cases h with
  | tup hs ha => rw [dpAll_toStrs ha] at hs; exact ⟨_, rfl, hs⟩
theorem dpQ {v : V} {q : Q} (h : Dp K H v (encQ q)) : ∃ a b, v = .ref a ∧ SqT K H a [.ref b, .str q.2] ∧ SqT K H b (q.1.map V.str) ∧ Dp K H (.ref b) (encL q.1) := by
  unfold encQ at h
  cases h with
  | tup hs ha =>
    cases ha with
    | cons h1 h2 =>
      cases h2 with
      | cons h2 h3 =>
        cases h3
        cases h2
        obtain ⟨b, rfl, hb⟩ := dpL h1
        exact ⟨_, b, rfl, hs, hb, h1⟩
theorem dp_mkL {a : Addr} {l : List Str} (h : SqT K H a (l.map V.str)) : Dp K H (.ref a) (encL l) := .tup h (dpAll_strs l)
theorem dfAll_bools : ∀ {vs : List V} {bs : List Bool}, DfAll K H0 H vs (bs.map PyData.bool) → vs = bs.map V.bl
  | _, [], h => by cases h; rfl
  | _, n :: ns, h => by
    cases h with | cons h1 h2 => cases h1; rw [dfAll_bools h2]; rfl
theorem df_bools {D : Addr} {bs : List Bool} (h : Df K H0 H (.ref D) (.list (bs.map PyData.bool))) : SqL K H D (bs.map V.bl) := by
  cases h with
  | lst h1 h2 h3 => rw [dfAll_bools h3] at h2; exact SqL.of h2
theorem paired_strs {w : Str → Str} : ∀ l : List Str, Paired (fun v k => v = V.str k) (l.map V.str) l
  | [] => .nil
  | a :: l => .cons rfl (paired_strs (w := w) l)
end
theorem inV_strs (y : Str) (l : List Str) : inV (V.str y) (l.map V.str) = decide (y ∈ l) := by
  unfold inV
  induction l with
  | nil => rfl
  | cons a l ih =>
    rw [List.map_cons, List.any_cons, ih]
    by_cases h : a = y
    · simp [eqV, h]
    · have : ¬ y = a := fun e => h e.symm
      simp [eqV, h, this]
theorem inV_ints (y : Int) (l : List Int) : inV (V.int y) (l.map V.int) = decide (y ∈ l) := by
  unfold inV
  induction l with
  | nil => rfl
  | cons a l ih =>
    rw [List.map_cons, List.any_cons, ih]
    by_cases h : a = y
    · simp [eqV, h]
    · have : ¬ y = a := fun e => h e.symm
      simp [eqV, h, this]
theorem okC_len {s : Str} (h : okC s = true) : 1 ≤ s.cps.toList.length ∧ s.cps.toList.length ≤ 8 ∧ ∀ c ∈ s.cps.toList, 97 ≤ c ∧ c ≤ 122 := by
  unfold okC at h
  simp only [Bool.and_eq_true, decide_eq_true_eq, List.all_eq_true] at h
  exact ⟨h.1.1, h.1.2, h.2⟩
theorem str_len (s : Str) : s.length = s.cps.toList.length := by simp [Str.length]
theorem letters_all : ∀ c, 97 ≤ c → c ≤ 122 → c ∈ ("abcdefghijklmnopqrstuvwxyz" : Str).cps.toList := by
  intro c h1 h2
  have : ∀ d < 26, (97 + d) ∈ ("abcdefghijklmnopqrstuvwxyz" : Str).cps.toList := by decide +kernel
  have h := this (c - 97) (by omega)
  rwa [show 97 + (c - 97) = c by omega] at h
theorem strOk_of {s : Str} (h : okC s = true) : PyData.strOk s = true := by
  obtain ⟨_, _, hc⟩ := okC_len h
  unfold PyData.strOk
  rw [Array.all_eq_true']
  intro x hx
  have := hc x (by simpa using hx)
  simp; omega
theorem lay_strs {l : List Str} (h : ∀ x ∈ l, okC x = true) : PyData.canLayAll0 (l.map PyData.str) = true := by
  induction l with
  | nil => rfl
  | cons a l ih => simp [PyData.canLayAll0, PyData.canLay0, strOk_of (h a (by simp)), ih (fun x hx => h x (List.mem_cons_of_mem _ hx))]
theorem shaped_L {l : List Str} (h : ∀ x ∈ l, okC x = true) : SeqAt.shaped (encL l) = true := by
  have := depth_L l
  unfold SeqAt.shaped
  simp only [Bool.and_eq_true, decide_eq_true_eq]
  exact ⟨by simp [encL, PyData.canLay0, lay_strs h], by omega⟩
theorem shaped_Ls {l : List Str} (h : ∀ x ∈ l, okC x = true) : SeqAt.shaped (.list (l.map PyData.str)) = true := by
  have := depthAll_strs l
  unfold SeqAt.shaped
  simp only [Bool.and_eq_true, decide_eq_true_eq]
  exact ⟨by simp [PyData.canLay0, lay_strs h], by simp [PyData.depth]; omega⟩
theorem eqvAll_strs : ∀ (a b : List Str), PyData.eqvAll (a.map PyData.str) (b.map PyData.str) = decide (a = b)
  | [], [] => by simp [PyData.eqvAll]
  | [], b :: bs => by simp [PyData.eqvAll]
  | a :: as, [] => by simp [PyData.eqvAll]
  | a :: as, b :: bs => by
    simp only [List.map_cons, PyData.eqvAll, PyData.eqv, eqvAll_strs as bs, List.cons.injEq]
    by_cases h : a = b <;> simp [h]
theorem eqv_L (a b : List Str) : PyData.eqv (encL a) (encL b) = decide (a = b) := by simp [encL, PyData.eqv, eqvAll_strs]
theorem eqv_Ls (a b : List Str) : PyData.eqv (.list (a.map PyData.str)) (.list (b.map PyData.str)) = decide (a = b) := by simp [PyData.eqv, eqvAll_strs]
theorem eqv_Q (a b : Q) : PyData.eqv (encQ a) (encQ b) = decide (a = b) := by
  simp only [encQ, PyData.eqv, PyData.eqvAll, eqv_L, Bool.and_true]
  obtain ⟨a1, a2⟩ := a
  obtain ⟨b1, b2⟩ := b
  simp only [Prod.mk.injEq]
  by_cases h1 : a1 = b1 <;> by_cases h2 : a2 = b2 <;> simp [h1, h2]

def spInt : Sp := fun vs H Q _ => ∃ i : Int, vs = [.int i] ∧ Q (.bl true) H
def spNumBelow : Sp := fun vs H Q _ => ∃ i n : Int, vs = [.int i, .int n] ∧ Q (.bl (decide (0 ≤ i) && decide (i < n))) H
def spColumn : Sp := fun vs H Q _ => ∃ s : Str, vs = [.str s] ∧ okC s = true ∧ ∀ H', Same H H' → Q (.bl true) H'
def spUnlike (K : PySem.W.Frag) : Sp := fun vs H Q _ => ∃ v l, vs = [v] ∧ Dp K H v (encL l) ∧ (∀ x ∈ l, okC x = true) ∧ l.Nodup ∧ l.length < 64 ∧ ∀ H', Same H H' → Q (.bl true) H'
def spColumns (K : PySem.W.Frag) : Sp := fun vs H Q _ => ∃ v l, vs = [v] ∧ Dp K H v (encL l) ∧ (∀ x ∈ l, okC x = true) ∧ Can encS l ∧ l.length < 64 ∧ ∀ H', Same H H' → Q (.bl true) H'
def spLast (K : PySem.W.Frag) : Sp := fun vs H Q _ => ∃ s v l, vs = [.str s, v] ∧ Dp K H v (encL l) ∧ (s = eS ∨ (okC s = true ∧ s ∉ l)) ∧ ∀ H', Same H H' → Q (.bl true) H'
def spQuestion (K : PySem.W.Frag) : Sp := fun vs H Q _ => ∃ v q, vs = [v] ∧ Dp K H v (encQ q) ∧ VQ q ∧ q.1.length < 64 ∧ ∀ H', Same H H' → Q (.bl true) H'
def spIndex (K : PySem.W.Frag) : Sp := fun vs H Q _ => ∃ v l, vs = [v] ∧ Dp K H v (encL l) ∧ okIdx l ∧ l.length < 64 ∧ ∀ H', Same H H' → Q (.bl true) H'
def spWeight : Sp := fun vs H Q _ => ∃ i : Int, vs = [.int i] ∧ 1 ≤ i ∧ i ≤ 10 ^ 30 ∧ Q (.bl true) H

section
variable {P : Program} {w : World} {K : PySem.W.Frag} {mg : Str → Option Value} {base : Heap} {c : Ad} {f : Addr} {fd : FuncData} (T : Tx K mg c)
include T
theorem ok_is_integer (F : FnD K "is_integer" "is_integer" s_is_integer f fd) : FnOk P w K mg base CX0 1 f fd ["thing"] spInt := by
  refine F.ok sc_is_integer (fun vs H Q E h => ?_) (fun cdv A outer s H vs Q E hr h => ?_)
  · obtain ⟨i, rfl, _⟩ := h; rfl
  · obtain ⟨i, rfl, hq⟩ := h
    refine ⟨_, PSs.nox (pss_one (ps_ret (pe_and (pe_callB (k_isi (K := K) rfl) (by rfl) T.m_isinstance (by decide +kernel) (pa_cons (pv 0) (pa_cons (pe_bltn (v := V.ty "int") (by rfl) T.m_int (by decide +kernel) rfl) pa_nil))) (pe_one (pe_not (pe_callB (k_isi (K := K) rfl) (by rfl) T.m_isinstance (by decide +kernel) (pa_cons (pv 0) (pa_cons (pe_bltn (v := V.ty "bool") (by rfl) T.m_bool (by decide +kernel) rfl) pa_nil)))))))), ?_⟩
    refine ⟨_, rfl, _, _, _, _, true, rfl, .ty _, .base (.int i), kit_ty (by decide +kernel), true, rfl, iteT ?_⟩
    exact ⟨_, rfl, _, _, _, _, false, rfl, .ty _, .base (.int i), kit_ty (by decide +kernel), false, rfl, hq⟩
theorem ok_is_number_below (F : FnD K "is_number_below" "is_number_below" s_is_number_below f fd) (D_is_integer : Def P w K mg base "is_integer" 1 ["thing"] spInt) : FnOk P w K mg base CX0 2 f fd ["thing", "many"] spNumBelow := by
  refine F.ok sc_is_number_below (fun vs H Q E h => ?_) (fun cdv A outer s H vs Q E hr h => ?_)
  · obtain ⟨i, n, rfl, _⟩ := h; rfl
  · obtain ⟨i, n, rfl, hq⟩ := h
    refine ⟨_, PSs.nox (pss_one (ps_ret (pe_and (pe_def D_is_integer (hr.mono (by first | decide | omega)) (pa_cons (pv 0) pa_nil)) (pe_one (pe_chain op_le op_lt pe_int (pv 0) (pv 1)))))), ?_⟩
    refine ⟨_, rfl, i, rfl, true, rfl, iteT ?_⟩
    refine ⟨_, rfl, _, _, rfl, rfl, _, rfl, ite2 (fun h => ?_) (fun h => ?_)⟩
    · refine ⟨_, rfl, _, _, rfl, rfl, ?_⟩
      rw [h] at hq; simpa using hq
    · have h : decide (0 ≤ i) = false := by simpa using h
      rw [h] at hq; simpa using hq
theorem ok_is_column (F : FnD K "is_column" "is_column" s_is_column f fd) : FnOk P w K mg base CX0 1 f fd ["thing"] spColumn := by
  refine F.ok sc_is_column (fun vs H Q E h => ?_) (fun cdv A outer s H vs Q E hr h => ?_)
  · obtain ⟨i, rfl, _⟩ := h; rfl
  · obtain ⟨s, rfl, hok, hq⟩ := h
    obtain ⟨h1, h8, hc⟩ := okC_len hok
    refine ⟨_, PSs.nox (pss_cons (ps_if (PW.pt (pw_or (pt_not (pt_val (pe_callB (k_isi (K := K) rfl) (by rfl) T.m_isinstance (by decide +kernel) (pa_cons (pv 0) (pa_cons (pe_bltn (v := V.ty "str") (by rfl) T.m_str (by decide +kernel) rfl) pa_nil))))) (pw_or1 (pt_not (pt_chain op_le op_le pe_int (pe_callB call_len_str (by rfl) T.m_len (by decide +kernel) (pa_cons (pv 0) pa_nil)) (pe_gE (v := V.int 8) T.g_LONGEST (fun t => ⟨t, rfl⟩))))))) (pss_one (ps_ret pe_bl)) pss_nil)
    (pss_one (ps_ret (pe_callB (k_all (K := K) rfl rfl) (by rfl) T.m_all (by decide +kernel) (pa_cons (pe_lc (own := [("sign", 1)]) rfl sc_is_column.nd (pi_str (pv 0)) (blkOk_by (own := [("sign", 1)]) (N := N_is_column) (by kernel_rfl)) (fun _ _ _ _ _ => (pg_name (i := 1) sc_is_column.nd rfl (by first | exact Or.inl rfl | exact Or.inr rfl))) (fun _ _ _ _ _ => pts_nil) (fun _ _ _ _ _ => (pe_cmpR op_in_sign (pv 1) (pe_gE (v := V.str "abcdefghijklmnopqrstuvwxyz") T.g_LETTERS (fun t => ⟨t, rfl⟩)) rfl))) pa_nil))))), ?_⟩
    refine ⟨_, rfl, _, _, _, _, true, rfl, .ty _, .base (.str s), kit_ty (by decide +kernel), true, rfl, iteF ?_⟩
    have l8 : s.length ≤ 8 := by rw [str_len]; exact h8
    refine ⟨_, rfl, s, rfl, Nat.le_of_lt (small1000 (by omega)), _, _, rfl, rfl, _, rfl, ite2 (fun _ => ?_) (fun h => absurd (decide_eq_true (by rw [str_len]; omega)) h)⟩
    refine ⟨_, _, rfl, rfl, _, rfl, ?_⟩
    refine iF (by rw [decide_eq_true (by omega)]; rfl) ?_
    refine ⟨_, rfl, s, rfl, fun D hD => lcM (K := K) src_str (Same.refl _) hD s.cps.toList (by simp) (small1000 (by have : s.cps.size = s.length := rfl; omega)) (fun _ => PyData.bool true) ?_ ?_⟩
    · intro i a x H2 R ha e2 hx hy
      obtain ⟨c, hc', rfl⟩ := hx
      have hca : c = a := by
        have : s.cps.toList[i]? = some c := by simpa using hc'
        rw [this] at ha; exact Option.some.inj ha
      subst hca
      have hm := hc c (List.mem_of_getElem? ha)
      exact ⟨rfl, _, rfl, c, _, rfl, rfl, hy _ _ (Same.refl _) (by rw [decide_eq_true (letters_all c hm.1 hm.2)]; exact .bl true)⟩
    · intro H' e' d
      have hb : (s.cps.toList.map fun _ => PyData.bool true) = (s.cps.toList.map fun _ => true).map PyData.bool := by simp
      rw [hb] at d
      exact ⟨D, _, rfl, df_bools d, q_bl (by simp) (hq _ e')⟩
theorem ok_are_unlike (F : FnD K "are_unlike" "are_unlike" s_are_unlike f fd) (D_is_column : Def P w K mg base "is_column" 1 ["thing"] spColumn) : FnOk P w K mg base CX0 2 f fd ["things"] (spUnlike K) := by
  refine F.ok sc_are_unlike (fun vs H Q E h => ?_) (fun cdv A outer s H vs Q E hr h => ?_)
  · obtain ⟨v, l, rfl, _⟩ := h; rfl
  · obtain ⟨v, l, rfl, hd, hok, hnd, h64, hq⟩ := h
    obtain ⟨a, rfl, hs⟩ := dpL hd
    refine ⟨_, PSs.nox (pss_one (ps_ret (pe_and (pe_callB (k_all (K := K) rfl rfl) (by rfl) T.m_all (by decide +kernel) (pa_cons (pe_lc (own := [("thing", 1)]) rfl sc_are_unlike.nd (k_piT (K := K) rfl (pv 0)) (blkOk_by (own := [("thing", 1)]) (N := N_are_unlike) (by kernel_rfl)) (fun _ _ _ _ _ => (pg_name (i := 1) sc_are_unlike.nd rfl (by first | exact Or.inl rfl | exact Or.inr rfl))) (fun _ _ _ _ _ => pts_nil) (fun _ _ _ _ _ => (pe_def D_is_column (hr.mono (by first | decide | omega)) (pa_cons (pv 1) pa_nil)))) pa_nil)) (pe_one (pe_cmpR op_eq (pe_callB (k_lenSet (w := w) rfl) (by rfl) T.m_len (by decide +kernel) (pa_cons (pe_callTy (k_setS (K := K) (w := w) rfl rfl hr rfl) (by rfl) T.m_set (by decide +kernel) (pa_cons (pv 0) pa_nil)) pa_nil)) (pe_callB (k_len (K := K) rfl) (by rfl) T.m_len (by decide +kernel) (pa_cons (pv 0) pa_nil)) (nomark _)))))), ?_⟩
    refine ⟨_, rfl, a, rfl, ⟨_, hs⟩, fun D hD => lcM (K := K) (src_tup hs) (Same.refl _) hD l (by simp) (by rw [List.length_map]; exact small1000 (by omega)) (fun _ => PyData.bool true) ?_ ?_⟩
    · intro i x y H2 R hx e2 hy hyes
      have : y = V.str x := by
        rw [List.getElem?_map, hx] at hy; exact (Option.some.inj hy).symm
      subst this
      exact ⟨rfl, _, rfl, x, rfl, hok x (List.mem_of_getElem? hx), fun H4 e4 => hyes _ _ e4 (.bl true)⟩
    · intro H' e' d
      have hb : (l.map fun _ => PyData.bool true) = (l.map fun _ => true).map PyData.bool := by simp
      rw [hb] at d
      refine ⟨D, _, rfl, df_bools d, _, rfl, iT (by simp) ?_⟩
      have hs' := sqT_ext e' hs
      refine ⟨_, rfl, ?_⟩
      refine tN ?_
      refine rd_set id l (enc := encS) (.inr hs') (by rw [List.map_id]; exact paired_strs (w := id) l) (dpAll_strs l) h64 fun b M H2 e2 hb S => ?_
      refine ⟨b, _, M, rfl, S.at_, _, rfl, a, _, rfl, .inr (sqT_ext e2 hs'), rfl, ?_⟩
      exact q_bl (decide_eq_true (by rw [S.len (fun _ _ h => h) hnd]; simp)) (hq _ (e'.trans e2))
theorem ok_are_columns (F : FnD K "are_columns" "are_columns" s_are_columns f fd) (D_are_unlike : Def P w K mg base "are_unlike" 2 ["things"] (spUnlike K)) : FnOk P w K mg base CX0 3 f fd ["thing"] (spColumns K) := by
  refine F.ok sc_are_columns (fun vs H Q E h => ?_) (fun cdv A outer s H vs Q E hr h => ?_)
  · obtain ⟨v, l, rfl, _⟩ := h; rfl
  · obtain ⟨v, l, rfl, hd, hok, hcan, h64, hq⟩ := h
    obtain ⟨a, rfl, hs⟩ := dpL hd
    refine ⟨_, PSs.nox (pss_one (ps_ret (pe_and (pe_callB (k_isi (K := K) rfl) (by rfl) T.m_isinstance (by decide +kernel) (pa_cons (pv 0) (pa_cons (pe_bltn (v := V.ty "tuple") (by rfl) T.m_tuple (by decide +kernel) rfl) pa_nil))) (pe_and (pe_def D_are_unlike (hr.mono (by first | decide | omega)) (pa_cons (pv 0) pa_nil)) (pe_one (pe_cmpR (k_eqD (K := K) rfl (hu64 hr)) (pe_callTy (k_list (K := K) rfl) (by rfl) T.m_list (by decide +kernel) (pa_cons (pv 0) pa_nil)) (pe_callB (k_sort (K := K) (w := w) NkQ.encS rfl rfl hr rfl) (by rfl) T.m_sorted (by decide +kernel) (pa_cons (pe_callTy (k_setS (K := K) (w := w) rfl rfl hr rfl) (by rfl) T.m_set (by decide +kernel) (pa_cons (pv 0) pa_nil)) pa_nil)) (nomark _))))))), ?_⟩
    refine ⟨_, rfl, _, _, _, _, true, rfl, .ty _, tyx_T hs, kit_ty (by decide +kernel), true, rfl, iteT ?_⟩
    refine ⟨_, rfl, _, l, rfl, hd, hok, hcan.nd, h64, fun H1 e1 => ⟨true, rfl, iteT ?_⟩⟩
    have hs1 := sqT_ext e1 hs
    refine ⟨_, rfl, a, _, rfl, .inr hs1, fun p hp => ?_⟩
    have e2 : Same H1 (upd H1 p (.lst (l.map V.str))) := same_new hp
    have hs2 := sqT_ext e2 hs1
    refine ⟨_, rfl, ?_⟩
    refine tN ?_
    refine rd_set id l (enc := encS) (.inr hs2) (by rw [List.map_id]; exact paired_strs (w := id) l) (dpAll_strs l) h64 fun b M H3 e3 hb S => ?_
    refine tN ?_
    refine rd_sortSet id (fun _ _ h => h) (enc := encS) (fun _ => rfl) asmS S h64 (good_S l) fun r H4 e4 hr4 d3 => ?_
    have ec : canon encS l = l := hcan.canon asmS (fun _ => Iff.rfl)
    rw [ec] at d3
    refine ⟨.list (l.map PyData.str), .list (l.map PyData.str), .lst (SqL.of (e4 _ _ (e3 _ _ upd_same))) (dpAll_strs l), d3.dp, shaped_Ls hok, shaped_Ls hok, ?_⟩
    exact q_bl (by rw [eqv_Ls, decide_eq_true rfl]) (hq _ (((e1.trans e2).trans e3).trans e4))
theorem ok_is_last (F : FnD K "is_last" "is_last" s_is_last f fd) (D_is_column : Def P w K mg base "is_column" 1 ["thing"] spColumn) : FnOk P w K mg base CX0 2 f fd ["thing", "columns"] (spLast K) := by
  refine F.ok sc_is_last (fun vs H Q E h => ?_) (fun cdv A outer s H vs Q E hr h => ?_)
  · obtain ⟨s, v, l, rfl, _⟩ := h; rfl
  · obtain ⟨s, v, l, rfl, hd, hok, hq⟩ := h
    obtain ⟨a, rfl, hs⟩ := dpL hd
    refine ⟨_, PSs.nox (pss_cons (ps_if (pt_not (pt_val (pe_callB (k_isi (K := K) rfl) (by rfl) T.m_isinstance (by decide +kernel) (pa_cons (pv 0) (pa_cons (pe_bltn (v := V.ty "str") (by rfl) T.m_str (by decide +kernel) rfl) pa_nil))))) (pss_one (ps_ret pe_bl)) pss_nil)
    (pss_one (ps_ret (pe_or (pe_cmpR op_eq (pv 0) pe_str (nomark _)) (pe_one (pe_and (pe_def D_is_column (hr.mono (by first | decide | omega)) (pa_cons (pv 0) pa_nil)) (pe_one (pe_cmpR (k_notIn (K := K) rfl) (pv 0) (pv 1) rfl)))))))), ?_⟩
    refine ⟨_, rfl, _, _, _, _, true, rfl, .ty _, .base (.str s), kit_ty (by decide +kernel), true, rfl, iteF ?_⟩
    refine ⟨_, rfl, rfl, _, rfl, ite2 (fun _ => hq _ (Same.refl _)) (fun hne => ?_)⟩
    have hne : s ≠ eS := fun z => hne (decide_eq_true (by rw [z]))
    obtain ⟨h1, h2⟩ := hok.resolve_left hne
    refine ⟨_, rfl, s, rfl, h1, fun H1 e1 => ⟨true, rfl, iteT ?_⟩⟩
    refine ⟨_, rfl, _, rfl, a, _, rfl, .inr (sqT_ext e1 hs), rfl, by simp [flatV], ?_⟩
    have : inV (V.str s) (l.map V.str) = false := by
      unfold inV
      rw [List.any_eq_false]
      intro y hy
      obtain ⟨z, hz, rfl⟩ := List.mem_map.1 hy
      have : z ≠ s := fun e => h2 (e ▸ hz)
      simp [eqV, this]
    exact q_bl (by rw [this]; rfl) (hq _ e1)
theorem ok_is_question (F : FnD K "is_question" "is_question" s_is_question f fd) (D_are_columns : Def P w K mg base "are_columns" 3 ["thing"] (spColumns K)) (D_is_last : Def P w K mg base "is_last" 2 ["thing", "columns"] (spLast K)) :
    FnOk P w K mg base CX0 4 f fd ["thing"] (spQuestion K) := by
  refine F.ok sc_is_question (fun vs H Q E h => ?_) (fun cdv A outer s H vs Q E hr h => ?_)
  · obtain ⟨v, q, rfl, _⟩ := h; rfl
  · obtain ⟨v, q, rfl, hd, hv, h64, hq⟩ := h
    obtain ⟨a, b, rfl, hs, hb, hdb⟩ := dpQ hd
    refine ⟨_, PSs.nox (pss_cons (ps_if (PW.pt (pw_or (pt_not (pt_val (pe_callB (k_isi (K := K) rfl) (by rfl) T.m_isinstance (by decide +kernel) (pa_cons (pv 0) (pa_cons (pe_bltn (v := V.ty "tuple") (by rfl) T.m_tuple (by decide +kernel) rfl) pa_nil))))) (pw_or (pt_cmpR op_ne (pe_callB (k_len (K := K) rfl) (by rfl) T.m_len (by decide +kernel) (pa_cons (pv 0) pa_nil)) pe_int (nomark _)) (pw_or1 (pt_not (pt_val (pe_def D_are_columns (hr.mono (by first | decide | omega)) (pa_cons (pe_ix (k_ixT (K := K) rfl) (pv 0) pe_int (fun _ _ => rfl)) pa_nil)))))))) (pss_one (ps_ret pe_bl)) pss_nil)
    (pss_one (ps_ret (pe_and (pe_def D_is_last (hr.mono (by first | decide | omega)) (pa_cons (pe_ix (k_ixT (K := K) rfl) (pv 0) pe_int (fun _ _ => rfl)) (pa_cons (pe_ix (k_ixT (K := K) rfl) (pv 0) pe_int (fun _ _ => rfl)) pa_nil))) (pe_one (pe_or (pe_cmpR op_gt (pe_callB (k_len (K := K) rfl) (by rfl) T.m_len (by decide +kernel) (pa_cons (pe_ix (k_ixT (K := K) rfl) (pv 0) pe_int (fun _ _ => rfl)) pa_nil)) pe_int (nomark _)) (pe_one (pe_cmpR op_ne (pe_ix (k_ixT (K := K) rfl) (pv 0) pe_int (fun _ _ => rfl)) pe_str (nomark _))))))))), ?_⟩
    refine ⟨_, rfl, _, _, _, _, true, rfl, .ty _, tyx_T hs, kit_ty (by decide +kernel), true, rfl, iteF ?_⟩
    refine ⟨_, rfl, a, _, rfl, .inr hs, rfl, _, rfl, iteF ?_⟩
    refine ⟨_, rfl, _, _, _, _, rfl, rfl, hs, rfl, _, q.1, rfl, hdb, hv.col, hv.can, h64, fun H1 e1 => ⟨true, rfl, iteF ?_⟩⟩
    have hs1 := sqT_ext e1 hs
    refine ⟨_, rfl, _, _, _, _, rfl, rfl, hs1, rfl, _, rfl, _, _, _, _, rfl, rfl, hs1, rfl, q.2, _, q.1, rfl, dp_ext e1 hdb, ?_, fun H2 e2 => ⟨true, rfl, iteT ?_⟩⟩
    · exact hv.last
    have hs2 := sqT_ext e2 hs1
    refine ⟨_, rfl, _, _, _, _, rfl, rfl, hs2, rfl, b, _, rfl, .inr (sqT_ext (e1.trans e2) hb), _, _, rfl, rfl, _, rfl, ite2 (fun _ => hq _ (e1.trans e2)) (fun hz => ?_)⟩
    have hz : q.1 = [] := by
      cases e : q.1 with
      | nil => rfl
      | cons x t => exact absurd (decide_eq_true (by simp [e])) hz
    refine ⟨_, rfl, _, _, _, _, rfl, rfl, hs2, rfl, rfl, ?_⟩
    have hne : q.2 ≠ eS := hv.ne.resolve_left (fun h => h hz)
    exact q_bl (by simp [hne]) (hq _ (e1.trans e2))
theorem ok_is_index (F : FnD K "is_index" "is_index" s_is_index f fd) (D_are_unlike : Def P w K mg base "are_unlike" 2 ["things"] (spUnlike K)) : FnOk P w K mg base CX0 3 f fd ["thing"] (spIndex K) := by
  refine F.ok sc_is_index (fun vs H Q E h => ?_) (fun cdv A outer s H vs Q E hr h => ?_)
  · obtain ⟨v, l, rfl, _⟩ := h; rfl
  · obtain ⟨v, l, rfl, hd, ⟨o1, o2, o3⟩, h64, hq⟩ := h
    obtain ⟨a, rfl, hs⟩ := dpL hd
    refine ⟨_, PSs.nox (pss_one (ps_ret (pe_and (pe_callB (k_isi (K := K) rfl) (by rfl) T.m_isinstance (by decide +kernel) (pa_cons (pv 0) (pa_cons (pe_bltn (v := V.ty "tuple") (by rfl) T.m_tuple (by decide +kernel) rfl) pa_nil))) (pe_and (pe_cmpR op_gt (pe_callB (k_len (K := K) rfl) (by rfl) T.m_len (by decide +kernel) (pa_cons (pv 0) pa_nil)) pe_int (nomark _)) (pe_one (pe_def D_are_unlike (hr.mono (by first | decide | omega)) (pa_cons (pv 0) pa_nil))))))), ?_⟩
    refine ⟨_, rfl, _, _, _, _, true, rfl, .ty _, tyx_T hs, kit_ty (by decide +kernel), true, rfl, iteT ?_⟩
    refine ⟨_, rfl, a, _, rfl, .inr hs, _, _, rfl, rfl, _, rfl, ite2 (fun _ => ?_) (fun hz => ?_)⟩
    · exact ⟨_, rfl, _, l, rfl, hd, o3, o2, h64, fun H1 e1 => hq _ e1⟩
    · refine absurd (decide_eq_true ?_) hz
      cases l with
      | nil => exact absurd rfl o1
      | cons x t => simp
theorem ok_is_weight (F : FnD K "is_weight" "is_weight" s_is_weight f fd) (D_is_integer : Def P w K mg base "is_integer" 1 ["thing"] spInt) : FnOk P w K mg base CX0 2 f fd ["thing"] spWeight := by
  refine F.ok sc_is_weight (fun vs H Q E h => ?_) (fun cdv A outer s H vs Q E hr h => ?_)
  · obtain ⟨i, rfl, _⟩ := h; rfl
  · obtain ⟨i, rfl, h1, h2, hq⟩ := h
    refine ⟨_, PSs.nox (pss_one (ps_ret (pe_and (pe_def D_is_integer (hr.mono (by first | decide | omega)) (pa_cons (pv 0) pa_nil)) (pe_one (pe_chain op_le op_le pe_int (pv 0) (pe_op op_pow pe_int pe_int)))))), ?_⟩
    refine ⟨_, rfl, i, rfl, true, rfl, iteT ?_⟩
    refine ⟨_, rfl, _, _, rfl, rfl, _, rfl, ite2 (fun h => ?_) (fun h => absurd (decide_eq_true h1) h)⟩
    exact ⟨_, _, rfl, rfl, ⟨by decide, by decide, by decide⟩, _, _, rfl, rfl, q_bl (decide_eq_true h2) hq⟩
end
end NkW
end
section
set_option Elab.async false
set_option linter.all false
set_option maxRecDepth 100000
set_option maxHeartbeats 2000000
/-! questions.py -/
namespace NkW
open PySem PySem.Spec PyProof.Rows L2 NkO NkR NkS NkQ
abbrev s_columns_of : Stmt := top 24
abbrev N_columns_of : List Str := ["question", "columns", "last"]
theorem sc_columns_of : FnScope N_columns_of ["question"] (defScope s_columns_of) := ⟨rfl, rfl, rfl, by decide +kernel, rfl, by decide +kernel, by decide +kernel⟩
abbrev s_width : Stmt := top 25
abbrev N_width : List Str := ["question"]
theorem sc_width : FnScope N_width ["question"] (defScope s_width) := ⟨rfl, rfl, rfl, by decide +kernel, rfl, by decide +kernel, by decide +kernel⟩
abbrev s_is_below : Stmt := top 26
abbrev N_is_below : List Str := ["one", "other", "column"]
theorem sc_is_below : FnScope N_is_below ["one", "other"] (defScope s_is_below) := ⟨rfl, rfl, rfl, by decide +kernel, rfl, by decide +kernel, by decide +kernel⟩
abbrev s_can_share : Stmt := top 27
abbrev N_can_share : List Str := ["one", "other"]
theorem sc_can_share : FnScope N_can_share ["one", "other"] (defScope s_can_share) := ⟨rfl, rfl, rfl, by decide +kernel, rfl, by decide +kernel, by decide +kernel⟩
abbrev s_split_pair : Stmt := top 28
abbrev N_split_pair : List Str := ["questions", "unlike", "at", "one", "other"]
theorem sc_split_pair : FnScope N_split_pair ["questions"] (defScope s_split_pair) := ⟨rfl, rfl, rfl, by decide +kernel, rfl, by decide +kernel, by decide +kernel⟩
abbrev s_climb : Stmt := top 29
abbrev N_climb : List Str := ["question"]
theorem sc_climb : FnScope N_climb ["question"] (defScope s_climb) := ⟨rfl, rfl, rfl, by decide +kernel, rfl, by decide +kernel, by decide +kernel⟩
abbrev s_upwards : Stmt := top 30
abbrev N_upwards : List Str := ["questions"]
theorem sc_upwards : FnScope N_upwards ["questions"] (defScope s_upwards) := ⟨rfl, rfl, rfl, by decide +kernel, rfl, by decide +kernel, by decide +kernel⟩

/-- a question that the program takes -/
structure VQ6 (q : Q) : Prop where
  v : VQ q
  n : q.1.length ≤ 48
theorem VQ6.cols {q : Q} (h : VQ6 q) : (∀ x ∈ colsQ q, okC x = true) ∧ (colsQ q).length ≤ 49 ∧ (colsQ q).Nodup := by
  refine ⟨fun x hx => all_ok h.v x ((cols_perm q).mem_iff.1 hx), ?_, (cols_can h.v).nd⟩
  rw [(cols_perm q).length_eq]
  unfold allQ
  have := h.n
  split <;> simp <;> omega
theorem strOk_e : PyData.strOk eS = true := by decide +kernel
theorem VQ.last_ok {q : Q} (h : VQ q) : PyData.strOk q.2 = true := by
  rcases h.last with e | ⟨e, _⟩
  · rw [e]; exact strOk_e
  · exact strOk_of e
theorem lay_Q {q : Q} (h : VQ q) : (encQ q).canLay0 = true := by
  simp [encQ, encL, PyData.canLay0, PyData.canLayAll0, lay_strs h.col, VQ.last_ok h]
theorem shaped_Q {q : Q} (h : VQ q) : SeqAt.shaped (encQ q) = true := by
  have := depth_Q q
  unfold SeqAt.shaped
  simp only [Bool.and_eq_true, decide_eq_true_eq]
  exact ⟨lay_Q h, by omega⟩
section
variable {K : PySem.W.Frag} {H H0 : Hp}
theorem df_strs {r : Addr} {l : List Str} (h : Df K H0 H (.ref r) (.list (l.map PyData.str))) : H r = some (.lst (l.map V.str)) := by
  cases h with
  | lst h1 h2 h3 => rw [dpAll_toStrs h3.dp] at h2; exact h2
theorem dpQs {v : V} {qs : List Q} (h : Dp K H v (.list (qs.map encQ))) : ∃ a vs, v = .ref a ∧ SqL K H a vs ∧ DpAll K H vs (qs.map encQ) := by
  cases h with
  | lst hs ha => exact ⟨_, _, rfl, hs, ha⟩
theorem paired_Q : ∀ {vs : List V} {qs : List Q}, (∀ q ∈ qs, VQ6 q) → DpAll K H vs (qs.map encQ) → Paired (fun v k => (∃ a, v = V.ref a) ∧ Dp K H v k.data ∧ k.depth ≤ 8) vs (qs.map kQ)
  | _, [], _, h => by cases h; exact .nil
  | _, q :: qs, hv, h => by
    cases h with
    | cons h1 h2 =>
      obtain ⟨a, b, rfl, _⟩ := dpQ h1
      refine .cons ⟨⟨a, rfl⟩, by rw [kQ_data]; exact h1, ?_⟩ (paired_Q (fun x hx => hv x (List.mem_cons_of_mem _ hx)) h2)
      have := depth_kQ q
      omega
where depth_kQ (q : Q) : (kQ q).depth ≤ 3 := by
        have h : NestedKey.depthAll (q.1.map NestedKey.text) ≤ 1 := dt q.1
        simp [kQ, kL, NestedKey.depth, NestedKey.depthAll]; omega
      dt : ∀ l : List Str, NestedKey.depthAll (l.map NestedKey.text) ≤ 1
        | [] => by simp [NestedKey.depthAll]
        | a :: l => by have := dt l; simp [NestedKey.depthAll, NestedKey.depth]; omega
end

theorem mem_cutV {xs : List V} {lo hi : Option Int} {v : V} (h : v ∈ cutV xs lo hi) : v ∈ xs := by
  unfold cutV at h
  exact List.mem_of_mem_drop (List.mem_of_mem_take h)
def spColsOf (K : PySem.W.Frag) : Sp := fun vs H Q _ => ∃ v q, vs = [v] ∧ Dp K H v (encQ q) ∧ VQ6 q ∧ ∀ v' H', Same H H' → Dp K H' v' (encL (colsQ q)) → Q v' H'
def spWidth (K : PySem.W.Frag) : Sp := fun vs H Q _ => ∃ v q, vs = [v] ∧ Dp K H v (encQ q) ∧ VQ6 q ∧ ∀ H', Same H H' → Q (.int (colsQ q).length) H'
def spBelow (K : PySem.W.Frag) : Sp := fun vs H Q _ => ∃ v u a b, vs = [v, u] ∧ Dp K H v (encQ a) ∧ Dp K H u (encQ b) ∧ VQ6 a ∧ VQ6 b ∧ ∀ H', Same H H' → Q (.bl (below a b)) H'
def spShare (K : PySem.W.Frag) : Sp := fun vs H Q _ => ∃ v u a b, vs = [v, u] ∧ Dp K H v (encQ a) ∧ Dp K H u (encQ b) ∧ VQ6 a ∧ VQ6 b ∧ ∀ H', Same H H' → Q (.bl (share a b)) H'
def spSplit (K : PySem.W.Frag) : Sp := fun vs H Q _ => ∃ v, ∃ qs : List NkQ.Q, vs = [v] ∧ Dp K H v (.list (qs.map encQ)) ∧ (∀ q ∈ qs, VQ6 q) ∧ qs.length < 64 ∧ (∀ a ∈ qs, ∀ b ∈ qs, share a b = true) ∧ ∀ H', Same H H' → Q .non H'
def spClimb (K : PySem.W.Frag) : Sp := fun vs H Q _ => ∃ v q, vs = [v] ∧ Dp K H v (encQ q) ∧ VQ6 q ∧ ∀ v' H', Same H H' → Dp K H' v' (encC q) → Q v' H'
def spUpwards (K : PySem.W.Frag) : Sp := fun vs H Q _ => ∃ v, ∃ qs : List NkQ.Q, vs = [v] ∧ Dp K H v (.list (qs.map encQ)) ∧ (∀ q ∈ qs, VQ6 q) ∧ qs.length < 64 ∧
  ∀ v' H', Same H H' → Df K H H' v' (.list (((canQ qs).mergeSort (PySem.W.dataLe false encC)).map encQ)) → Q v' H'

section
variable {P : Program} {w : World} {K : PySem.W.Frag} {mg : Str → Option Value} {base : Heap} {c : Ad} {f : Addr} {fd : FuncData} (T : Tx K mg c)
include T
theorem ok_columns_of (F : FnD K "columns_of" "columns_of" s_columns_of f fd) : FnOk P w K mg base CX0 1 f fd ["question"] (spColsOf K) := by
  refine F.ok sc_columns_of (fun vs H Q E h => ?_) (fun cdv A outer s H vs Q E hr h => ?_)
  · obtain ⟨v, q, rfl, _⟩ := h; rfl
  · obtain ⟨v, q, rfl, hd, hv, hq⟩ := h
    obtain ⟨a, b, rfl, hs, hb, hdb⟩ := dpQ hd
    refine ⟨_, PSs.nox (pss_cons (ps_asg (pv 0) (k_gTup (K := K) (n := 2) rfl rfl (pgs_cons (pg_name (i := 1) sc_columns_of.nd rfl (by first | exact Or.inl rfl | exact Or.inr rfl)) (pgs_cons (pg_name (i := 2) sc_columns_of.nd rfl (by first | exact Or.inl rfl | exact Or.inr rfl)) pgs_nil))))
    (pss_one (ps_ret (pe_ifExp (pt_cmpR op_eq (pv 2) pe_str (nomark _)) (pv 1) (pe_callTy (k_tuple (K := K) rfl) (by rfl) T.m_tuple (by decide +kernel) (pa_cons (pe_callB (k_sort (K := K) (w := w) NkQ.encS rfl rfl hr rfl) (by rfl) T.m_sorted (by decide +kernel) (pa_cons (pe_lst (k_star (K := K) rfl (pv 1) (pa_cons (pv 2) pa_nil))) pa_nil)) pa_nil)))))), ?_⟩
    refine ⟨_, rfl, a, _, rfl, hs, rfl, _, _, rfl, _, _, rfl, rfl, ?_⟩
    refine ⟨_, rfl, rfl, _, rfl, ite2 (fun he => ?_) (fun he => ?_)⟩
    · have he : q.2 = eS := by simpa using he
      refine ⟨_, rfl, hq _ _ (Same.refl _) ?_⟩
      unfold colsQ; rw [if_pos he]; exact hdb
    · have he : q.2 ≠ eS := fun z => he (decide_eq_true (by rw [z]))
      refine ⟨_, rfl, b, _, rfl, .inl hb, _, rfl, ?_⟩
      refine ⟨by simp; exact Nat.le_of_lt (small1000 (by have := hv.n; omega)), fun p hp => ?_⟩
      have e1 : Same H (upd H p (.lst (q.1.map V.str ++ [V.str q.2]))) := same_new hp
      refine tN ?_
      refine rd_sort (enc := encS) asmS (l := q.1 ++ [q.2]) (.inl (SqL.of upd_same)) ?_ ?_ (good_S _) fun r H1 e2 hr1 d1 => ?_
      · rw [List.map_append]; exact dpAll_append (dpAll_strs q.1) (.cons (.str _) .nil)
      · have := hv.n; simp; omega
      · refine ⟨r, _, rfl, .inl ⟨SqL.of (df_strs d1), fun l hl => hq _ _ ((e1.trans e2).trans (same_new hl)) ?_⟩⟩
        unfold colsQ; rw [if_neg he]; exact dp_mkL (SqT.of upd_same)
theorem ok_width (F : FnD K "width" "width" s_width f fd) (D_columns_of : Def P w K mg base "columns_of" 1 ["question"] (spColsOf K)) : FnOk P w K mg base CX0 2 f fd ["question"] (spWidth K) := by
  refine F.ok sc_width (fun vs H Q E h => ?_) (fun cdv A outer s H vs Q E hr h => ?_)
  · obtain ⟨v, q, rfl, _⟩ := h; rfl
  · obtain ⟨v, q, rfl, hd, hv, hq⟩ := h
    refine ⟨_, PSs.nox (pss_one (ps_ret (pe_callB (k_len (K := K) rfl) (by rfl) T.m_len (by decide +kernel) (pa_cons (pe_def D_columns_of (hr.mono (by first | decide | omega)) (pa_cons (pv 0) pa_nil)) pa_nil)))), ?_⟩
    refine ⟨_, rfl, _, q, rfl, hd, hv, fun v' H' e d => ?_⟩
    obtain ⟨a, rfl, hs⟩ := dpL d
    refine ⟨a, _, rfl, .inr hs, ?_⟩
    have := hq H' e
    rw [List.length_map]; exact this
theorem ok_is_below (F : FnD K "is_below" "is_below" s_is_below f fd) (D_columns_of : Def P w K mg base "columns_of" 1 ["question"] (spColsOf K)) : FnOk P w K mg base CX0 2 f fd ["one", "other"] (spBelow K) := by
  refine F.ok sc_is_below (fun vs H Q E h => ?_) (fun cdv A outer s H vs Q E hr h => ?_)
  · obtain ⟨v, u, a, b, rfl, _⟩ := h; rfl
  · obtain ⟨v, u, a, b, rfl, hda, hdb, ha, hb, hq⟩ := h
    refine ⟨_, PSs.nox (pss_one (ps_ret (pe_and (pe_cmpR (k_neD (K := K) rfl (hu64 hr)) (pv 0) (pv 1) (nomark _)) (pe_one (pe_callB (k_all (K := K) rfl rfl) (by rfl) T.m_all (by decide +kernel) (pa_cons (pe_lc (own := [("column", 2)]) rfl sc_is_below.nd (k_piT (K := K) rfl (pe_def D_columns_of (hr.mono (by first | decide | omega)) (pa_cons (pv 0) pa_nil))) (blkOk_by (own := [("column", 2)]) (N := N_is_below) (by kernel_rfl)) (fun _ _ _ _ _ => (pg_name (i := 2) sc_is_below.nd rfl (by first | exact Or.inl rfl | exact Or.inr rfl))) (fun _ _ _ _ _ => pts_nil) (fun _ _ _ _ _ => (pe_cmpR (k_in (K := K) rfl) (pv 2) (pe_ix (k_ixT (K := K) rfl) (pv 1) pe_int (fun _ _ => rfl)) rfl))) pa_nil)))))), ?_⟩
    refine ⟨_, rfl, _, rfl, encQ a, encQ b, hda, hdb, shaped_Q ha.v, shaped_Q hb.v, _, rfl, ite2 (fun h => ?_) (fun h => ?_)⟩
    · have h : a ≠ b := by rw [eqv_Q] at h; simpa using h
      refine ⟨_, rfl, _, a, rfl, hda, ha, fun v' H1 e1 d1 => ?_⟩
      obtain ⟨x, rfl, hx⟩ := dpL d1
      obtain ⟨o1, o2, rfl, hs2, hb2, _⟩ := dpQ (dp_ext e1 hdb)
      refine ⟨x, rfl, ⟨_, hx⟩, fun D hD => lcM (K := K) (src_tup hx) (Same.refl _) hD (colsQ a) (by simp) (by rw [List.length_map]; exact small1000 (by have := ha.cols.2.1; omega)) (fun y => PyData.bool (decide (y ∈ b.1))) ?_ ?_⟩
      · intro i y z H2 R hy e2 hz hyes
        have : z = V.str y := by
          rw [List.getElem?_map, hy] at hz; exact (Option.some.inj hz).symm
        subst this
        refine ⟨rfl, _, rfl, _, rfl, _, _, _, _, rfl, rfl, sqT_ext e2 hs2, rfl, o2, _, rfl, .inr (sqT_ext e2 hb2), rfl, by simp [flatV], ?_⟩
        refine hyes _ _ (Same.refl _) ?_
        show Df K _ _ (V.bl (inV (V.str y) (b.1.map V.str))) _
        rw [inV_strs]; exact .bl _
      · intro H' e' d
        have hbs : (colsQ a).map (fun y => PyData.bool (decide (y ∈ b.1))) = ((colsQ a).map fun y => decide (y ∈ b.1)).map PyData.bool := by simp
        rw [hbs] at d
        refine ⟨D, _, rfl, df_bools d, ?_⟩
        have hb : ((colsQ a).map fun y => decide (y ∈ b.1)).all id = below a b := by
          unfold below; rw [List.all_map]; simp [h]
        rw [hb]; exact hq _ (e1.trans e')
    · have h : a = b := by rw [eqv_Q] at h; simpa using h
      have : below a b = false := by rw [h]; exact below_irr b
      rw [this] at hq; exact hq _ (Same.refl _)
theorem ok_can_share (F : FnD K "can_share" "can_share" s_can_share f fd) (D_is_below : Def P w K mg base "is_below" 2 ["one", "other"] (spBelow K)) : FnOk P w K mg base CX0 3 f fd ["one", "other"] (spShare K) := by
  refine F.ok sc_can_share (fun vs H Q E h => ?_) (fun cdv A outer s H vs Q E hr h => ?_)
  · obtain ⟨v, u, a, b, rfl, _⟩ := h; rfl
  · obtain ⟨v, u, a, b, rfl, hda, hdb, ha, hb, hq⟩ := h
    refine ⟨_, PSs.nox (pss_one (ps_ret (pe_or (pe_cmpR (k_eqD (K := K) rfl (hu64 hr)) (pv 0) (pv 1) (nomark _)) (pe_or (pe_def D_is_below (hr.mono (by first | decide | omega)) (pa_cons (pv 0) (pa_cons (pv 1) pa_nil))) (pe_one (pe_def D_is_below (hr.mono (by first | decide | omega)) (pa_cons (pv 1) (pa_cons (pv 0) pa_nil)))))))), ?_⟩
    refine ⟨_, rfl, _, rfl, encQ a, encQ b, hda, hdb, shaped_Q ha.v, shaped_Q hb.v, _, rfl, ite2 (fun h => ?_) (fun h => ?_)⟩
    · rw [eqv_Q] at h
      have : share a b = true := by unfold share; rw [h]; rfl
      rw [this] at hq; exact hq _ (Same.refl _)
    · have h : decide (a = b) = false := by rw [eqv_Q] at h; simpa using h
      refine ⟨_, rfl, _, rfl, _, _, a, b, rfl, hda, hdb, ha, hb, fun H1 e1 => ⟨_, rfl, ite2 (fun h2 => ?_) (fun h2 => ?_)⟩⟩
      · have : share a b = true := by unfold share; rw [h, h2]; rfl
        rw [this] at hq; exact hq _ e1
      · have h2 : below a b = false := by simpa using h2
        refine ⟨_, rfl, _, rfl, _, _, b, a, rfl, dp_ext e1 hdb, dp_ext e1 hda, hb, ha, fun H2 e2 => ?_⟩
        have : share a b = below b a := by unfold share; rw [h, h2]; simp
        rw [this] at hq; exact hq _ (e1.trans e2)
theorem ok_split_pair (F : FnD K "split_pair" "split_pair" s_split_pair f fd) (D_can_share : Def P w K mg base "can_share" 3 ["one", "other"] (spShare K)) : FnOk P w K mg base CX0 4 f fd ["questions"] (spSplit K) := by
  refine F.ok sc_split_pair (fun vs H Q E h => ?_) (fun cdv A outer s H vs Q E hr h => ?_)
  · obtain ⟨v, qs, rfl, _⟩ := h; rfl
  · obtain ⟨v, qs, rfl, hd, hv, h64, hsh, hq⟩ := h
    obtain ⟨a, vs, rfl, hs, ha⟩ := dpQs hd
    refine ⟨_, PSs.nox (pss_cons (ps_set (i := 1) sc_split_pair.nd rfl (by first | exact Or.inl rfl | exact Or.inr rfl) (pe_callB (k_sort (K := K) (w := w) NestedKey.data rfl rfl hr rfl) (by rfl) T.m_sorted (by decide +kernel) (pa_cons (pe_callTy (k_setN (K := K) (w := w) rfl rfl hr rfl) (by rfl) T.m_set (by decide +kernel) (pa_cons (pv 0) pa_nil)) pa_nil)))
    (pss_cons (ps_for PassesOwn.never rfl (k_enum (K := K) rfl (by rfl) T.m_enumerate (pa_cons (pv 1) pa_nil)) (k_gTup (K := K) (n := 2) rfl rfl (pgs_cons (pg_name (i := 2) sc_split_pair.nd rfl (by first | exact Or.inl rfl | exact Or.inr rfl)) (pgs_cons (pg_name (i := 3) sc_split_pair.nd rfl (by first | exact Or.inl rfl | exact Or.inr rfl)) pgs_nil)))
    (pss_one (ps_for PassesOwn.never rfl (k_piL (K := K) rfl (pe_slice (k_slL (K := K) rfl) (pv 1) (po_some (pe_op op_add (pv 2) pe_int)) po_none)) (pg_name (i := 4) sc_split_pair.nd rfl (by first | exact Or.inl rfl | exact Or.inr rfl))
    (pss_one (ps_if (pt_not (pt_val (pe_def D_can_share (hr.mono (by first | decide | omega)) (pa_cons (pv 3) (pa_cons (pv 4) pa_nil))))) (pss_one (ps_ret (pe_tup (pa_cons (pv 3) (pa_cons (pv 4) pa_nil))))) pss_nil)))))
    (pss_one (ps_ret pe_non)))), ?_⟩
    refine ⟨_, rfl, ?_⟩
    refine tN ?_
    refine rd_set kQ qs (enc := encQ) (.inl hs) (paired_Q hv ha) ha h64 fun b M H1 e1 hb S => ?_
    refine tN ?_
    refine rd_sortSet kQ kQ_inj (enc := encQ) kQ_data asmQ S h64 (good_Q qs) fun r H2 e2 hr2 d2 => ?_
    obtain ⟨_, ws, er, hw, hwd⟩ := dpQs d2.dp
    cases er
    have lw : ws.length = (canQ qs).length := by have := dpAll_len hwd; simpa using this
    have lc : (canQ qs).length ≤ qs.length := (canon_nodup encQ qs).length_le_of_subset (fun x hx => canon_mem.1 hx)
    refine ⟨_, rfl, r, ws, rfl, hw, forG (src_enum hw) (fun i σ H' => ∃ x y z, σ = [some (.ref a), some (.ref r), x, y, z] ∧ Same H2 H') ⟨_, _, _, rfl, Same.refl _⟩ (fun i σ H' ⟨_, _, _, _, e⟩ => e) ?_ ?_⟩
    · rintro i v σ H3 H4 hi ⟨x, y, z, rfl, e3⟩ e4 ⟨u, hu, T', rfl, hT⟩
      obtain ⟨q, hq1, hq2⟩ : ∃ q ∈ canQ qs, Dp K H2 u (encQ q) := by
        obtain ⟨d, h1, h2⟩ := dpAll_get hwd hu
        rw [List.getElem?_map] at h1
        cases e : (canQ qs)[i]? with
        | none => rw [e] at h1; cases h1
        | some q => rw [e] at h1; cases h1; exact ⟨q, List.mem_of_getElem? e, h2⟩
      refine ⟨T', _, rfl, hT, rfl, _, _, rfl, _, _, rfl, rfl, ?_⟩
      have e24 := e3.trans e4
      refine ⟨_, rfl, _, rfl, _, _, rfl, rfl, _, rfl, r, ws, rfl, sqL_ext e24 hw, fun p hp => ?_⟩
      have e5 := same_new (o := HO.lst (cutV ws (some ((i : Int) + 1)) Option.none)) hp
      refine ⟨p, rfl, ⟨_, SqL.of upd_same⟩, forG (src_list (SqL.of upd_same)) (fun j σ H' => ∃ z, σ = [some (.ref a), some (.ref r), some (.int i), some u, z] ∧ Same (upd H4 p (HO.lst (cutV ws (some ((i : Int) + 1)) Option.none))) H') ⟨_, rfl, Same.refl _⟩ (fun i σ H' ⟨_, _, e⟩ => e) ?_ ?_⟩
      · rintro j t σ H5 H6 hj ⟨z, rfl, e6⟩ e7 ht
        have hmt : t ∈ ws := by
          have := List.mem_of_getElem? ht
          exact mem_cutV this
        obtain ⟨k, hk⟩ := List.mem_iff_getElem?.1 hmt
        obtain ⟨q', hq1', hq2'⟩ : ∃ q ∈ canQ qs, Dp K H2 t (encQ q) := by
          obtain ⟨d, h1, h2⟩ := dpAll_get hwd hk
          rw [List.getElem?_map] at h1
          cases e : (canQ qs)[k]? with
          | none => rw [e] at h1; cases h1
          | some q => rw [e] at h1; cases h1; exact ⟨q, List.mem_of_getElem? e, h2⟩
        have e26 := e24.trans (e5.trans (e6.trans e7))
        refine ⟨_, rfl, _, rfl, _, _, q, q', rfl, dp_ext e26 hq2, dp_ext e26 hq2', hv _ (canon_mem.1 hq1), hv _ (canon_mem.1 hq1'), fun H8 e8 => ⟨_, rfl, ?_⟩⟩
        refine iF (by rw [hsh _ (canon_mem.1 hq1) _ (canon_mem.1 hq1')]; rfl) ?_
        exact ⟨_, rfl, e6.trans (e7.trans e8)⟩
      · rintro σ H5 ⟨z, rfl, e6⟩
        exact ⟨_, _, _, rfl, e24.trans (e5.trans e6)⟩
    · rintro σ H3 ⟨x, y, z, rfl, e3⟩
      exact hq _ ((e1.trans e2).trans e3)
theorem ok_climb (F : FnD K "climb" "climb" s_climb f fd) : FnOk P w K mg base CX0 1 f fd ["question"] (spClimb K) := by
  refine F.ok sc_climb (fun vs H Q E h => ?_) (fun cdv A outer s H vs Q E hr h => ?_)
  · obtain ⟨v, q, rfl, _⟩ := h; rfl
  · obtain ⟨v, q, rfl, hd, hv, hq⟩ := h
    obtain ⟨a, b, rfl, hs, hb, _⟩ := dpQ hd
    refine ⟨_, PSs.nox (pss_one (ps_ret (pe_tup (pa_cons (pe_callB (k_len (K := K) rfl) (by rfl) T.m_len (by decide +kernel) (pa_cons (pe_ix (k_ixT (K := K) rfl) (pv 0) pe_int (fun _ _ => rfl)) pa_nil)) (pa_cons (pe_cmpR op_gt (pe_callB call_len_str (by rfl) T.m_len (by decide +kernel) (pa_cons (pe_ix (k_ixT (K := K) rfl) (pv 0) pe_int (fun _ _ => rfl)) pa_nil)) pe_int (nomark _)) pa_nil))))), ?_⟩
    have l2 : q.2.length ≤ 8 := by
      rcases hv.v.last with e | ⟨e, _⟩
      · rw [e]; decide +kernel
      · rw [str_len]; exact (okC_len e).2.1
    refine ⟨_, rfl, _, _, _, _, rfl, rfl, hs, rfl, b, _, rfl, .inr hb, _, rfl, _, _, _, _, rfl, rfl, hs, rfl, q.2, rfl, Nat.le_of_lt (small1000 (by omega)), _, _, rfl, rfl, ?_⟩
    refine ⟨by show 2 ≤ sizeLine; decide, fun p hp => hq _ _ (same_new hp) ?_⟩
    unfold encC
    refine .tup (SqT.of upd_same) (.cons ?_ (.cons ?_ .nil))
    · rw [List.length_map]; exact .int _
    · have : decide ((0 : Int) < (q.2.length : Int)) = !decide (q.2 = eS) := by
        by_cases e : q.2 = eS
        · rw [e]; decide +kernel
        · rcases hv.v.last with e' | ⟨e', _⟩
          · exact absurd e' e
          · have := (okC_len e').1
            rw [← str_len] at this
            simp [e]; omega
      rw [← this]; exact .bl _
theorem ok_upwards (F : FnD K "upwards" "upwards" s_upwards f fd) {fc : Addr} {fdc : FuncData} (GC : FnOk P w K mg base CX0 1 fc fdc ["question"] (spClimb K)) (bC : Binds K fdc ["question"] []) (mC : mg "climb" = some (.ref fc)) :
    FnOk P w K mg base CX0 4 f fd ["questions"] (spUpwards K) := by
  refine F.ok sc_upwards (fun vs H Q E h => ?_) (fun cdv A outer s H vs Q E hr h => ?_)
  · obtain ⟨v, qs, rfl, _⟩ := h; rfl
  · obtain ⟨v, qs, rfl, hd, hv, h64, hq⟩ := h
    obtain ⟨a, vs, rfl, hs, ha⟩ := dpQs hd
    refine ⟨_, PSs.nox (pss_one (ps_ret (pe_callBK (cr_sortKey (κ := NkQ.Q) NkQ.encC GC bC rfl hr) (by rfl) T.m_sorted (by decide +kernel) (pa_cons (pe_callB (k_sort (K := K) (w := w) NestedKey.data rfl rfl hr rfl) (by rfl) T.m_sorted (by decide +kernel) (pa_cons (pe_callTy (k_setN (K := K) (w := w) rfl rfl hr rfl) (by rfl) T.m_set (by decide +kernel) (pa_cons (pv 0) pa_nil)) pa_nil)) pa_nil) (pk_cons (pe_glob (v := V.ref fc) rfl mC rfl) pk_nil)))), ?_⟩
    refine ⟨_, rfl, ?_⟩
    refine tN ?_
    refine rd_set kQ qs (enc := encQ) (.inl hs) (paired_Q hv ha) ha h64 fun b M H1 e1 hb S => ?_
    refine tN ?_
    refine rd_sortSet kQ kQ_inj (enc := encQ) kQ_data asmQ S h64 (good_Q qs) fun r H2 e2 hr2 d2 => ?_
    obtain ⟨_, ws, er, hw, hwd⟩ := dpQs d2.dp
    cases er
    have lw : ws.length = (canQ qs).length := by have := dpAll_len hwd; simpa using this
    have m1 : (ws.zip (canQ qs)).map (·.1) = ws := by rw [List.map_fst_zip]; omega
    have m2 : (ws.zip (canQ qs)).map (·.2) = canQ qs := by rw [List.map_snd_zip]; omega
    have key : ∀ m ∈ ws.zip (canQ qs), Dp K H2 m.1 (encQ m.2) ∧ m.2 ∈ canQ qs := by
      intro m hm
      obtain ⟨i, hi, e⟩ := List.mem_iff_getElem.1 hm
      have hi' : i < (canQ qs).length := by simp at hi; omega
      have hi2 : i < ws.length := by omega
      have e' : (ws[i], (canQ qs)[i]) = m := by rw [← e]; simp
      have em : ws[i]? = some m.1 := by rw [← e']; simp [hi2]
      obtain ⟨d, q1, q2⟩ := dpAll_get hwd em
      rw [List.getElem?_map, List.getElem?_eq_getElem hi'] at q1
      cases q1
      rw [← e']; rw [← e'] at q2; exact ⟨q2, List.getElem_mem hi'⟩
    have mm : ((ws.zip (canQ qs)).map fun m => encC m.2) = (canQ qs).map encC := by
      have : (ws.zip (canQ qs)).map (fun m => encC m.2) = ((ws.zip (canQ qs)).map (·.2)).map encC := by rw [List.map_map]; rfl
      rw [this, m2]
    refine ⟨r, ws.zip (canQ qs), rfl, rfl, by rw [m1]; exact hw, fun m hm H3 e3 => ?_, ?_, ?_, fun m _ => ?_, fun H3 p e3 hpn hp => ?_⟩
    · obtain ⟨k1, k2⟩ := key m hm
      exact ⟨m.1, m.2, rfl, dp_ext e3 k1, hv _ (canon_mem.1 k2), fun v' H4 e4 d4 => ⟨e4, d4⟩⟩
    · rw [mm]
      intro d hd d' hd'
      obtain ⟨x, _, rfl⟩ := List.mem_map.1 hd
      obtain ⟨y, _, rfl⟩ := List.mem_map.1 hd'
      rfl
    · rw [mm]
      refine .inl fun d hd => ?_
      obtain ⟨x, _, rfl⟩ := List.mem_map.1 hd
      exact ⟨_, _, rfl⟩
    · show (PyData.tuple [.int _, .bool _]).depth ≤ 8
      simp [PyData.depth, PyData.depthAll]
    · refine hq _ _ ((e1.trans e2).trans e3) (.lst ((e1.trans e2).free hpn) hp ?_)
      have hperm := List.mergeSort_perm (ws.zip (canQ qs)) (PySem.W.dataLe false fun m : V × NkQ.Q => encC m.2)
      have dp := dpAll_of_mem (K := K) (H := H3) (M := (ws.zip (canQ qs)).mergeSort (PySem.W.dataLe false fun m : V × NkQ.Q => encC m.2)) (enc := encQ) (fun m hm => dp_ext e3 (key m (hperm.mem_iff.1 hm)).1)
      have es : ((ws.zip (canQ qs)).mergeSort (PySem.W.dataLe false fun m : V × NkQ.Q => encC m.2)).map (·.2) = (canQ qs).mergeSort (PySem.W.dataLe false encC) := by
        rw [PySem.W.sort_maps (r := PySem.W.dataLe false fun m : V × NkQ.Q => encC m.2) (s := PySem.W.dataLe false encC) (fun m : V × NkQ.Q => m.2) (fun _ _ _ _ => rfl), m2]
      rw [es] at dp; exact dfAll_of_map (fun x _ => flat_Q x) dp
end
end NkW
end
section
set_option Elab.async false
set_option linter.all false
set_option maxRecDepth 100000
set_option maxHeartbeats 2000000
/-! asked.py, shelves.py: the classes -/
namespace NkW
open PySem PySem.Spec PyProof.Rows L2 NkO NkR NkS NkQ
abbrev s_Asked___init__ : Stmt := inClass (top 32) 0
abbrev N_Asked___init__ : List Str := ["self", "questions", "unlike", "one"]
theorem sc_Asked___init__ : FnScope N_Asked___init__ ["self", "questions"] (defScope s_Asked___init__) := ⟨rfl, rfl, rfl, by decide +kernel, rfl, by decide +kernel, by decide +kernel⟩
abbrev s_Asked_questions : Stmt := inClass (top 32) 1
abbrev N_Asked_questions : List Str := ["self"]
theorem sc_Asked_questions : FnScope N_Asked_questions ["self"] (defScope s_Asked_questions) := ⟨rfl, rfl, rfl, by decide +kernel, rfl, by decide +kernel, by decide +kernel⟩
abbrev s_Asked___or__ : Stmt := inClass (top 32) 7
abbrev N_Asked___or__ : List Str := ["self", "other"]
theorem sc_Asked___or__ : FnScope N_Asked___or__ ["self", "other"] (defScope s_Asked___or__) := ⟨rfl, rfl, rfl, by decide +kernel, rfl, by decide +kernel, by decide +kernel⟩
abbrev s_Asked___sub__ : Stmt := inClass (top 32) 9
abbrev N_Asked___sub__ : List Str := ["self", "other", "question"]
theorem sc_Asked___sub__ : FnScope N_Asked___sub__ ["self", "other"] (defScope s_Asked___sub__) := ⟨rfl, rfl, rfl, by decide +kernel, rfl, by decide +kernel, by decide +kernel⟩
abbrev s_Asked___contains__ : Stmt := inClass (top 32) 10
abbrev N_Asked___contains__ : List Str := ["self", "question"]
theorem sc_Asked___contains__ : FnScope N_Asked___contains__ ["self", "question"] (defScope s_Asked___contains__) := ⟨rfl, rfl, rfl, by decide +kernel, rfl, by decide +kernel, by decide +kernel⟩
abbrev s_Asked___iter__ : Stmt := inClass (top 32) 11
abbrev N_Asked___iter__ : List Str := ["self"]
theorem sc_Asked___iter__ : FnScope N_Asked___iter__ ["self"] (defScope s_Asked___iter__) := ⟨rfl, rfl, rfl, by decide +kernel, rfl, by decide +kernel, by decide +kernel⟩
abbrev s_Asked___len__ : Stmt := inClass (top 32) 12
abbrev N_Asked___len__ : List Str := ["self"]
theorem sc_Asked___len__ : FnScope N_Asked___len__ ["self"] (defScope s_Asked___len__) := ⟨rfl, rfl, rfl, by decide +kernel, rfl, by decide +kernel, by decide +kernel⟩
abbrev s_Shelf___init__ : Stmt := inClass (top 37) 0
abbrev N_Shelf___init__ : List Str := ["self", "indexes", "one"]
theorem sc_Shelf___init__ : FnScope N_Shelf___init__ ["self", "indexes"] (defScope s_Shelf___init__) := ⟨rfl, rfl, rfl, by decide +kernel, rfl, by decide +kernel, by decide +kernel⟩
abbrev s_Shelf___iter__ : Stmt := inClass (top 37) 9
abbrev N_Shelf___iter__ : List Str := ["self"]
theorem sc_Shelf___iter__ : FnScope N_Shelf___iter__ ["self"] (defScope s_Shelf___iter__) := ⟨rfl, rfl, rfl, by decide +kernel, rfl, by decide +kernel, by decide +kernel⟩
abbrev s_Shelf___len__ : Stmt := inClass (top 37) 10
abbrev N_Shelf___len__ : List Str := ["self"]
theorem sc_Shelf___len__ : FnScope N_Shelf___len__ ["self"] (defScope s_Shelf___len__) := ⟨rfl, rfl, rfl, by decide +kernel, rfl, by decide +kernel, by decide +kernel⟩
abbrev s_Shelf___eq__ : Stmt := inClass (top 37) 11
abbrev N_Shelf___eq__ : List Str := ["self", "other"]
theorem sc_Shelf___eq__ : FnScope N_Shelf___eq__ ["self", "other"] (defScope s_Shelf___eq__) := ⟨rfl, rfl, rfl, by decide +kernel, rfl, by decide +kernel, by decide +kernel⟩

section
variable {X : Cx} {k : Nat} {C : Addr} {ps : List Str} {sp : Sp}
theorem w_notIn (D : Own X.prog X.w X.K X.mg X.base C "__contains__" k ps sp) (hr : Room k X.A) : OpR X (compareOp .NotIn) (rOwnIn C sp fun b => !b) := by
  obtain ⟨f, fd, G, hm, b⟩ := D.ex; exact op_ownNotIn G hr b hm
theorem w_bin {op : Operator} (D : Own X.prog X.w X.K X.mg X.base C (PySem.dunder op.info.2) k ps sp) (hr : Room k X.A) (hs : PySem.W.selfFirst X.K C = true) : OpR X (binaryOp op) (rOwnOp C sp) := by
  obtain ⟨f, fd, G, hm, b⟩ := D.ex; exact op_ownBin G hr b hm hs
theorem w_len (D : Own X.prog X.w X.K X.mg X.base C "__len__" k ps sp) (hr : Room (k + 1) X.A) : CallR X (.builtin "len") (rOwnLen C sp) := by
  obtain ⟨f, fd, G, hm, b⟩ := D.ex; exact cr_ownLen G hr b hm
/-- a class told apart by isinstance -/
structure IsiF (K : PySem.W.Frag) (C : Addr) : Prop where
  ha : PySem.W.findIn K (.ref C) "__class__" = some (some (.builtin "object.__class__"))
  hn : PySem.W.specialIn K (.builtin "object.__class__") "__get__" = some (some (.builtin "getset_descriptor.__get__"))
  htk : PySem.W.takesIn K (.builtin "object.__class__") = some true
  hm : PySem.W.mroIn K C (.type "object") = some true
end

section
variable {K : PySem.W.Frag} {H H' H0 H1 : Hp} {c : Ad}
def AskAt (K : PySem.W.Frag) (c : Ad) (H : Hp) (p : Addr) (qs : List NkQ.Q) : Prop :=
  ∃ dx t vs, H p = some (.ins c.Asked dx [("kept_questions", V.ref t)]) ∧ SqT K H t vs ∧ DpAll K H vs (qs.map encQ)
def ShelfAt (K : PySem.W.Frag) (c : Ad) (H : Hp) (p : Addr) (rs : List (List Str)) : Prop :=
  ∃ dx t vs, H p = some (.ins c.Shelf dx [("kept_indexes", V.ref t)]) ∧ SqT K H t vs ∧ DpAll K H vs (rs.map encL)
theorem AskAt.ext {p : Addr} {qs : List NkQ.Q} (h : AskAt K c H p qs) (e : Same H H') : AskAt K c H' p qs := by
  obtain ⟨dx, t, vs, h1, h2, h3⟩ := h
  exact ⟨dx, t, vs, e _ _ h1, sqT_ext e h2, dpAll_ext e h3⟩
theorem ShelfAt.ext {p : Addr} {qs : List (List Str)} (h : ShelfAt K c H p qs) (e : Same H H') : ShelfAt K c H' p qs := by
  obtain ⟨dx, t, vs, h1, h2, h3⟩ := h
  exact ⟨dx, t, vs, e _ _ h1, sqT_ext e h2, dpAll_ext e h3⟩
/-- all but p as before -/
def But (p : Addr) (H H' : Hp) : Prop := ∀ b o, H b = some o → b ≠ p → H' b = some o
theorem But.of {p : Addr} (e : Same H H') : But p H H' := fun b o h _ => e b o h
theorem But.upd {p : Addr} {o : HO} (e : But p H H') : But p H (upd H' p o) := fun b u h n => by rw [upd_ne n]; exact e b u h n
/-- an instance made: what its __init__ leaves is what was, and the new one -/
theorem made {x dx : Addr} {o : HO} (n1 : H1 x = none) (n2 : H1 dx = none) (hb : But x (upd (upd H1 dx (.own x)) x o) H') : Same H1 H' := fun b u h => by
  refine hb b u ?_ (fun z => by rw [z, n1] at h; cases h)
  rw [upd_ne (ne_of_none h n1), upd_ne (ne_of_none h n2)]; exact h
theorem made0 {x dx : Addr} {o : HO} (n1 : H1 x = none) (n2 : H1 dx = none) : Same H1 (upd (upd H1 dx (.own x)) x o) := fun b u h => by
  rw [upd_ne (ne_of_none h n1), upd_ne (ne_of_none h n2)]; exact h
end

def spAskInit (K : PySem.W.Frag) (c : Ad) : Sp := fun vs H Q _ => ∃ p dx v, ∃ qs : List NkQ.Q, vs = [.ref p, v] ∧ H p = some (.ins c.Asked dx []) ∧ Dp K H v (.list (qs.map encQ)) ∧ (∀ q ∈ qs, VQ6 q) ∧ qs.length < 64 ∧ (canQ qs).length ≤ 48 ∧
  ∀ H', But p H H' → AskAt K c H' p (canQ qs) → Q .non H'
def spAskQs (K : PySem.W.Frag) (c : Ad) : Sp := fun vs H Q _ => ∃ p, ∃ qs : List NkQ.Q, vs = [.ref p] ∧ AskAt K c H p qs ∧ ∀ v' H', Same H H' → Df K H H' v' (.list (qs.map encQ)) → Q v' H'
def spAskOr (K : PySem.W.Frag) (c : Ad) : Sp := fun vs H Q _ => ∃ p r, ∃ qs rs : List NkQ.Q, vs = [.ref p, .ref r] ∧ AskAt K c H p qs ∧ AskAt K c H r rs ∧ (∀ q ∈ qs, VQ6 q) ∧ (∀ q ∈ rs, VQ6 q) ∧ qs.length + rs.length < 64 ∧ (canQ (qs ++ rs)).length ≤ 48 ∧
  ∀ a H', Same H H' → AskAt K c H' a (canQ (qs ++ rs)) → Q (.ref a) H'
def spAskSub (K : PySem.W.Frag) (c : Ad) : Sp := fun vs H Q _ => ∃ p r, ∃ qs rs : List NkQ.Q, vs = [.ref p, .ref r] ∧ AskAt K c H p qs ∧ AskAt K c H r rs ∧ (∀ q ∈ qs, VQ6 q) ∧ (∀ q ∈ rs, VQ6 q) ∧ qs.length ≤ 48 ∧
  ∀ a H', Same H H' → AskAt K c H' a (canQ (qs.filter fun q => !decide (q ∈ rs))) → Q (.ref a) H'
def spAskHas (K : PySem.W.Frag) (c : Ad) : Sp := fun vs H Q _ => ∃ p v, ∃ qs : List NkQ.Q, ∃ q : NkQ.Q, vs = [.ref p, v] ∧ AskAt K c H p qs ∧ Dp K H v (encQ q) ∧ VQ6 q ∧ (∀ q ∈ qs, VQ6 q) ∧ ∀ H', Same H H' → Q (.bl (decide (q ∈ qs))) H'
def spShInit (K : PySem.W.Frag) (c : Ad) : Sp := fun vs H Q _ => ∃ p dx v, ∃ rs : List (List Str), vs = [.ref p, v] ∧ H p = some (.ins c.Shelf dx []) ∧ Dp K H v (.list (rs.map encL)) ∧ (∀ r ∈ rs, okIdx r ∧ r.length < 64) ∧ rs.length ≤ 48 ∧
  ∀ H', But p H H' → ShelfAt K c H' p rs → Q .non H'
def spShEq (K : PySem.W.Frag) (c : Ad) : Sp := fun vs H Q _ => ∃ p r, ∃ qs rs : List (List Str), vs = [.ref p, .ref r] ∧ ShelfAt K c H p qs ∧ ShelfAt K c H r rs ∧ (∀ i ∈ qs, ∀ x ∈ i, okC x = true) ∧ (∀ i ∈ rs, ∀ x ∈ i, okC x = true) ∧ Q (.bl (decide (qs = rs))) H

theorem eqvAll_Qs : ∀ (a b : List NkQ.Q), PyData.eqvAll (a.map encQ) (b.map encQ) = decide (a = b)
  | [], [] => by simp [PyData.eqvAll]
  | [], b :: bs => by simp [PyData.eqvAll]
  | a :: as, [] => by simp [PyData.eqvAll]
  | a :: as, b :: bs => by
    simp only [List.map_cons, PyData.eqvAll, eqv_Q, eqvAll_Qs as bs, List.cons.injEq]
    by_cases h : a = b <;> simp [h]
theorem eqvAll_Ls : ∀ (a b : List (List Str)), PyData.eqvAll (a.map encL) (b.map encL) = decide (a = b)
  | [], [] => by simp [PyData.eqvAll]
  | [], b :: bs => by simp [PyData.eqvAll]
  | a :: as, [] => by simp [PyData.eqvAll]
  | a :: as, b :: bs => by
    simp only [List.map_cons, PyData.eqvAll, eqv_L, eqvAll_Ls as bs, List.cons.injEq]
    by_cases h : a = b <;> simp [h]
theorem any_eqv_Q (q : NkQ.Q) (qs : List NkQ.Q) : (qs.map encQ).any (fun z => PyData.eqv z (encQ q)) = decide (q ∈ qs) := by
  rw [List.any_map]
  induction qs with
  | nil => rfl
  | cons a qs ih =>
    rw [List.any_cons, ih, Function.comp, eqv_Q]
    by_cases h : a = q
    · simp [h]
    · have : ¬ q = a := fun e => h e.symm
      simp [h, this]
theorem lay_Qs {qs : List NkQ.Q} (h : ∀ q ∈ qs, VQ q) : PyData.canLayAll0 (qs.map encQ) = true := by
  induction qs with
  | nil => rfl
  | cons a l ih => simp [PyData.canLayAll0, lay_Q (h a (by simp)), ih (fun x hx => h x (List.mem_cons_of_mem _ hx))]
theorem depthAll_Qs : ∀ qs : List NkQ.Q, PyData.depthAll (qs.map encQ) ≤ 3
  | [] => by simp [PyData.depthAll]
  | a :: as => by have := depthAll_Qs as; have := depth_Q a; simp [PyData.depthAll]; omega
theorem shaped_Qs {qs : List NkQ.Q} (h : ∀ q ∈ qs, VQ q) : SeqAt.shaped (.list (qs.map encQ)) = true := by
  have := depthAll_Qs qs
  unfold SeqAt.shaped
  simp only [Bool.and_eq_true, decide_eq_true_eq]
  exact ⟨by simp [PyData.canLay0, lay_Qs h], by simp [PyData.depth]; omega⟩
theorem lay_Ls {qs : List (List Str)} (h : ∀ i ∈ qs, ∀ x ∈ i, okC x = true) : PyData.canLayAll0 (qs.map encL) = true := by
  induction qs with
  | nil => rfl
  | cons a l ih =>
    have h1 : (encL a).canLay0 = true := by simp [encL, PyData.canLay0, lay_strs (h a (by simp))]
    simp [PyData.canLayAll0, h1, ih (fun x hx => h x (List.mem_cons_of_mem _ hx))]
theorem depthAll_Ls : ∀ qs : List (List Str), PyData.depthAll (qs.map encL) ≤ 2
  | [] => by simp [PyData.depthAll]
  | a :: as => by have := depthAll_Ls as; have := depth_L a; simp [PyData.depthAll]; omega
theorem shaped_tLs {qs : List (List Str)} (h : ∀ i ∈ qs, ∀ x ∈ i, okC x = true) : SeqAt.shaped (.tuple (qs.map encL)) = true := by
  have := depthAll_Ls qs
  unfold SeqAt.shaped
  simp only [Bool.and_eq_true, decide_eq_true_eq]
  exact ⟨by simp [PyData.canLay0, lay_Ls h], by simp [PyData.depth]; omega⟩

section
variable {P : Program} {w : World} {K : PySem.W.Frag} {mg : Str → Option Value} {base : Heap} {c : Ad} {f : Addr} {fd : FuncData} (T : Tx K mg c)
include T
theorem ok_ask_init (F : FnD K "__init__" "Asked.__init__" s_Asked___init__ f fd) (D_is_question : Def P w K mg base "is_question" 4 ["thing"] (spQuestion K)) : FnOk P w K mg base CX0 5 f fd ["self", "questions"] (spAskInit K c) := by
  refine F.ok sc_Asked___init__ (fun vs H Q E h => ?_) (fun cdv A outer s H vs Q E hr h => ?_)
  · obtain ⟨p, dx, v, qs, rfl, _⟩ := h; rfl
  · obtain ⟨p, dx, v, qs, rfl, hp, hd, hv, h64, h48, hq⟩ := h
    obtain ⟨a, vs, rfl, hs, ha⟩ := dpQs hd
    have lv : vs.length = qs.length := by have := dpAll_len ha; simpa using this
    refine ⟨_, PSs.nox (pss_cons (ps_if (PW.pt (pw_or (pt_not (pt_val (pe_callB (k_isiT (K := K) rfl) (by rfl) T.m_isinstance (by decide +kernel) (pa_cons (pv 1) (pa_cons (pe_tup (pa_cons (pe_bltn (v := V.ty "list") (by rfl) T.m_list (by decide +kernel) rfl) (pa_cons (pe_bltn (v := V.ty "tuple") (by rfl) T.m_tuple (by decide +kernel) rfl) pa_nil))) pa_nil))))) (pw_or1 (pt_not (pt_val (pe_callB (k_all (K := K) rfl rfl) (by rfl) T.m_all (by decide +kernel) (pa_cons (pe_lc (own := [("one", 3)]) rfl sc_Asked___init__.nd (k_piL (K := K) rfl (pv 1)) (blkOk_by (own := [("one", 3)]) (N := N_Asked___init__) (by kernel_rfl)) (fun _ _ _ _ _ => (pg_name (i := 3) sc_Asked___init__.nd rfl (by first | exact Or.inl rfl | exact Or.inr rfl))) (fun _ _ _ _ _ => pts_nil) (fun _ _ _ _ _ => (pe_def D_is_question (hr.mono (by first | decide | omega)) (pa_cons (pv 3) pa_nil)))) pa_nil))))))) (pss_one ps_never) pss_nil)
    (pss_cons (ps_set (i := 2) sc_Asked___init__.nd rfl (by first | exact Or.inl rfl | exact Or.inr rfl) (pe_callB (k_sort (K := K) (w := w) NestedKey.data rfl rfl hr rfl) (by rfl) T.m_sorted (by decide +kernel) (pa_cons (pe_callTy (k_setN (K := K) (w := w) rfl rfl hr rfl) (by rfl) T.m_set (by decide +kernel) (pa_cons (pv 1) pa_nil)) pa_nil)))
    (pss_cons (ps_if (pt_cmpR op_gt (pe_callB (k_len (K := K) rfl) (by rfl) T.m_len (by decide +kernel) (pa_cons (pv 2) pa_nil)) (pe_gE (v := V.int 48) T.g_MOST_THINGS (fun t => ⟨t, rfl⟩)) (nomark _)) (pss_one ps_never) pss_nil)
    (pss_one (ps_fld (pv 0) (pe_callTy (k_tuple (K := K) rfl) (by rfl) T.m_tuple (by decide +kernel) (pa_cons (pv 2) pa_nil)) rfl))))), ?_⟩
    refine ⟨_, rfl, ?_⟩
    refine ⟨by show 2 ≤ sizeLine; decide, fun tp htp => ?_⟩
    have e1 := same_new (o := HO.tup [V.ty "list", V.ty "tuple"]) htp
    refine ⟨_, tp, _, _, _, true, rfl, upd_same, .cons (.ty _) (.cons (.ty _) .nil), tyx_L (sqL_ext e1 hs), kitAny_cons (b := true) (kit_ty (by decide +kernel)) (fun h => by cases h) (fun _ => rfl), true, rfl, iteF ?_⟩
    refine ⟨_, rfl, a, rfl, ⟨_, sqL_ext e1 hs⟩, fun D hD => lcM (K := K) (src_list (sqL_ext e1 hs)) (Same.refl _) hD qs lv.symm (by rw [lv]; exact small1000 (by omega)) (fun _ => PyData.bool true) ?_ ?_⟩
    · intro i q x H2 R hi e2 hx hyes
      obtain ⟨d, k1, k2⟩ := dpAll_get ha hx
      rw [List.getElem?_map, hi] at k1
      cases k1
      exact ⟨rfl, _, rfl, x, q, rfl, dp_ext (e1.trans e2) k2, (hv q (List.mem_of_getElem? hi)).v, by have := (hv q (List.mem_of_getElem? hi)).n; omega, fun H4 e4 => hyes _ _ e4 (.bl true)⟩
    · intro H' e' d
      have hb : (qs.map fun _ => PyData.bool true) = (qs.map fun _ => true).map PyData.bool := by simp
      rw [hb] at d
      refine ⟨D, _, rfl, df_bools d, true, by simp, ?_⟩
      refine iteF ?_
      have e2 := e1.trans e'
      refine ⟨_, rfl, ?_⟩
      refine tN ?_
      refine rd_set kQ qs (enc := encQ) (.inl (sqL_ext e2 hs)) (paired_Q hv (dpAll_ext e2 ha)) (dpAll_ext e2 ha) h64 fun b M H3 e3 hb S => ?_
      refine tN ?_
      refine rd_sortSet kQ kQ_inj (enc := encQ) kQ_data asmQ S h64 (good_Q qs) fun r H4 e4 hr4 d4 => ?_
      obtain ⟨_, ws, er, hw, hwd⟩ := dpQs d4.dp
      cases er
      have lw : ws.length = (canQ qs).length := by have := dpAll_len hwd; simpa using this
      refine ⟨_, rfl, r, ws, rfl, .inl hw, _, _, rfl, rfl, _, rfl, ?_⟩
      refine iF (decide_eq_false (by rw [lw]; omega)) ?_
      refine ⟨_, rfl, r, ws, rfl, .inl ⟨hw, fun l hl => ?_⟩⟩
      have e5 := same_new (o := HO.tup ws) hl
      have e := ((e2.trans e3).trans e4).trans e5
      refine ⟨_, rfl, p, c.Asked, dx, [], rfl, e _ _ hp, T.cA, T.aA, (by show 0 < 1000; decide), ?_⟩
      have npl : l ≠ p := fun z => by
        have := ((e2.trans e3).trans e4) _ _ hp
        rw [← z, hl] at this; cases this
      have hT : SqT K (upd (upd H4 l (HO.tup ws)) p (.ins c.Asked dx [("kept_questions", V.ref l)])) l ws := SqT.of (by rw [upd_ne npl]; exact upd_same)
      refine hq _ (But.upd (But.of e)) ⟨dx, l, ws, upd_same, hT, ?_⟩
      refine (DfAll.updD (K := K) (H0 := H) (D := p) (by rw [hp]; simp) (e _ _ hp) (fun _ z => by cases z) (fun _ _ z => by cases z) ?_).dp
      exact (dfAll_of_map (fun x _ => flat_Q x) hwd).ext e5
theorem ok_ask_qs (F : FnD K "questions" "Asked.questions" s_Asked_questions f fd) : FnOk P w K mg base CX0 1 f fd ["self"] (spAskQs K c) := by
  refine F.ok sc_Asked_questions (fun vs H Q E h => ?_) (fun cdv A outer s H vs Q E hr h => ?_)
  · obtain ⟨p, qs, rfl, _⟩ := h; rfl
  · obtain ⟨p, qs, rfl, ⟨dx, t, vs, h1, h2, h3⟩, hq⟩ := h
    refine ⟨_, PSs.nox (pss_one (ps_ret (pe_callTy (k_list (K := K) rfl) (by rfl) T.m_list (by decide +kernel) (pa_cons (k_fld (K := K) rfl (pv 0) rfl) pa_nil)))), ?_⟩
    refine ⟨_, rfl, p, c.Asked, dx, _, _, rfl, h1, T.cA, T.aA, rfl, t, vs, rfl, .inr h2, fun l hl => ?_⟩
    exact hq _ _ (same_new hl) (.lst hl upd_same ((dfAll_of_map (fun x _ => flat_Q x) h3).ext (same_new hl)))
theorem ok_ask_has (F : FnD K "__contains__" "Asked.__contains__" s_Asked___contains__ f fd) (D_is_question : Def P w K mg base "is_question" 4 ["thing"] (spQuestion K)) : FnOk P w K mg base CX0 5 f fd ["self", "question"] (spAskHas K c) := by
  refine F.ok sc_Asked___contains__ (fun vs H Q E h => ?_) (fun cdv A outer s H vs Q E hr h => ?_)
  · obtain ⟨p, v, qs, q, rfl, _⟩ := h; rfl
  · obtain ⟨p, v, qs, q, rfl, ⟨dx, t, vs, h1, h2, h3⟩, hd, hv, hvs, hq⟩ := h
    refine ⟨_, PSs.nox (pss_one (ps_ret (pe_and (pe_def D_is_question (hr.mono (by first | decide | omega)) (pa_cons (pv 1) pa_nil)) (pe_one (pe_cmpR (k_inD (K := K) rfl (hu65 hr)) (pv 1) (k_fld (K := K) rfl (pv 0) rfl) rfl))))), ?_⟩
    refine ⟨_, rfl, _, q, rfl, hd, hv.v, by have := hv.n; omega, fun H1 e1 => ⟨true, rfl, iteT ?_⟩⟩
    refine ⟨_, rfl, _, rfl, p, c.Asked, dx, _, _, rfl, e1 _ _ h1, T.cA, T.aA, rfl, encQ q, qs.map encQ, dp_ext e1 hd, .inr (.tup (sqT_ext e1 h2) (dpAll_ext e1 h3)), shaped_Q hv.v, shaped_Qs (fun x hx => (hvs x hx).v), ?_⟩
    have := hq _ e1
    rw [← any_eqv_Q] at this; exact this
theorem ok_ask_len (F : FnD K "__len__" "Asked.__len__" s_Asked___len__ f fd) : FnOk P w K mg base CX0 1 f fd ["self"] (spLen K c.Asked "kept_questions") := by
  refine F.ok sc_Asked___len__ (fun vs H Q E h => ?_) (fun cdv A outer s H vs Q E hr h => ?_)
  · obtain ⟨a, dx, t, fs, zs, rfl, _⟩ := h; rfl
  · obtain ⟨a, dx, t, fs, zs, rfl, h1, h2, h3, hq⟩ := h
    refine ⟨_, PSs.nox (pss_one (ps_ret (pe_callB (k_len (K := K) rfl) (by rfl) T.m_len (by decide +kernel) (pa_cons (k_fld (K := K) rfl (pv 0) rfl) pa_nil)))), ?_⟩
    exact ⟨_, rfl, a, c.Asked, dx, _, _, rfl, h1, T.cA, T.aA, h2, t, zs, rfl, .inr h3, hq⟩
theorem ok_ask_iter (F : FnD K "__iter__" "Asked.__iter__" s_Asked___iter__ f fd) : FnS P w K mg base 1 f fd ["self"] (spIter K c.Asked "kept_questions") := by
  refine FnS.of F sc_Asked___iter__ (fun cdv A outer s H vs Q E hr h => ?_)
  obtain ⟨a, dx, t, fs, zs, rfl, h1, h2, h3, hq⟩ := h
  refine ⟨_, (pss_one (ps_ret (pe_callB cr_iterT (by rfl) T.m_iter (by decide +kernel) (pa_cons (k_fld (K := K) rfl (pv 0) rfl) pa_nil)))), ?_⟩
  exact ⟨_, rfl, a, c.Asked, dx, _, _, rfl, h1, T.cA, T.aA, h2, t, zs, rfl, h3, fun it hn hs => hq it hn hs⟩
theorem ok_ask_or (F : FnD K "__or__" "Asked.__or__" s_Asked___or__ f fd) (M_Asked : Made P w K mg base "Asked" c.Asked 5 ["self", "questions"] (spAskInit K c)) : FnOk P w K mg base CX0 7 f fd ["self", "other"] (spAskOr K c) := by
  refine F.ok sc_Asked___or__ (fun vs H Q E h => ?_) (fun cdv A outer s H vs Q E hr h => ?_)
  · obtain ⟨p, r, qs, rs, rfl, _⟩ := h; rfl
  · obtain ⟨p, r, qs, rs, rfl, ⟨dx, t, vs, h1, h2, h3⟩, ⟨dx', t', vs', h1', h2', h3'⟩, hv, hv', h64, h48, hq⟩ := h
    have l1 : vs.length = qs.length := by have := dpAll_len h3; simpa using this
    have l2 : vs'.length = rs.length := by have := dpAll_len h3'; simpa using this
    refine ⟨_, PSs.nox (pss_one (ps_ret (pe_mk M_Asked (hr.mono (by first | decide | omega)) (pa_cons (pe_lst (k_star (K := K) rfl (k_fld (K := K) rfl (pv 0) rfl) (k_star (K := K) rfl (k_fld (K := K) rfl (pv 1) rfl) pa_nil))) pa_nil)))), ?_⟩
    refine ⟨_, rfl, p, c.Asked, dx, _, _, rfl, h1, T.cA, T.aA, rfl, t, vs, rfl, .inl h2, _, rfl, r, c.Asked, dx', _, _, rfl, h1', T.cA, T.aA, rfl, t', vs', rfl, .inl h2', ?_⟩
    refine ⟨by simp; exact Nat.le_of_lt (small1000 (by omega)), fun b hb => ?_⟩
    have e1 := same_new (o := HO.lst (vs ++ (vs' ++ []))) hb
    intro x dx2 nx ndx nex
    have e2 := made0 (o := HO.ins c.Asked dx2 []) nx ndx
    refine ⟨x, dx2, _, qs ++ rs, rfl, upd_same, .lst (SqL.of (e2 _ _ upd_same)) ?_, ?_, ?_, h48, fun H' hb' hA => ⟨rfl, ?_⟩⟩
    · have key : DpAll K H (vs ++ (vs' ++ [])) ((qs ++ rs).map encQ) := by rw [List.append_nil, List.map_append]; exact dpAll_append h3 h3'
      exact dpAll_ext (e1.trans e2) key
    · intro q hq
      rcases List.mem_append.1 hq with k | k
      · exact hv q k
      · exact hv' q k
    · simp; omega
    · exact hq _ _ (e1.trans (made nx ndx hb')) hA
theorem ok_ask_sub (F : FnD K "__sub__" "Asked.__sub__" s_Asked___sub__ f fd) (M_Asked : Made P w K mg base "Asked" c.Asked 5 ["self", "questions"] (spAskInit K c)) (M_has : Own P w K mg base c.Asked "__contains__" 5 ["self", "question"] (spAskHas K c)) :
    FnOk P w K mg base CX0 7 f fd ["self", "other"] (spAskSub K c) := by
  refine F.ok sc_Asked___sub__ (fun vs H Q E h => ?_) (fun cdv A outer s H vs Q E hr h => ?_)
  · obtain ⟨p, r, qs, rs, rfl, _⟩ := h; rfl
  · obtain ⟨p, r, qs, rs, rfl, ⟨dx, t, vs, h1, h2, h3⟩, hA, hv, hv', h48, hq⟩ := h
    have l1 : vs.length = qs.length := by have := dpAll_len h3; simpa using this
    refine ⟨_, PSs.nox (pss_one (ps_ret (pe_mk M_Asked (hr.mono (by first | decide | omega)) (pa_cons (pe_lc (own := [("question", 2)]) rfl sc_Asked___sub__.nd (k_piT (K := K) rfl (k_fld (K := K) rfl (pv 0) rfl)) (blkOk_by (own := [("question", 2)]) (N := N_Asked___sub__) (by kernel_rfl)) (fun _ _ _ _ _ => (pg_name (i := 2) sc_Asked___sub__.nd rfl (by first | exact Or.inl rfl | exact Or.inr rfl))) (fun _ _ _ _ _ => (pts_one (pt_cmpR (w_notIn M_has (hr.mono (by decide))) (pv 2) (pv 1) rfl))) (fun _ _ _ _ _ => (pv 2))) pa_nil)))), ?_⟩
    refine ⟨_, rfl, p, c.Asked, dx, _, _, rfl, h1, T.cA, T.aA, rfl, t, rfl, ⟨_, h2⟩, fun D hD => lcG (K := K) (src_tup h2) (Same.refl _) hD qs l1.symm (by rw [l1]; exact small1000 (by omega)) (fun q => !decide (q ∈ rs)) encQ ?_ ?_⟩
    · intro i q x H2 R hi e2 hx hy hn
      obtain ⟨d, k1, k2⟩ := dpAll_get h3 hx
      rw [List.getElem?_map, hi] at k1
      cases k1
      obtain ⟨dx', t', vs', h1', h2', h3'⟩ := hA.ext e2
      refine ⟨rfl, _, rfl, _, rfl, r, dx', _, rfl, h1', r, x, rs, q, rfl, hA.ext e2, dp_ext e2 k2, hv q (List.mem_of_getElem? hi), hv', fun H4 e4 => ⟨_, rfl, _, rfl, ite2 (fun hb => ?_) (fun hb => ?_)⟩⟩
      · exact ⟨_, rfl, hy _ _ hb e4 (df_of_dp _ _ (flat_Q q) (dp_ext (e2.trans e4) k2))⟩
      · exact hn _ (by simpa using hb) e4
    · intro H' e' d
      intro x dx2 nx ndx nex
      have e2 := made0 (o := HO.ins c.Asked dx2 []) nx ndx
      have lf : (qs.filter fun q => !decide (q ∈ rs)).length ≤ qs.length := List.length_filter_le _ _
      refine ⟨x, dx2, _, _, rfl, upd_same, dp_ext e2 d.dp, fun q hq => hv q (List.mem_filter.1 hq).1, by omega, ?_, fun H2 hb' hA2 => ⟨rfl, ?_⟩⟩
      · have : (canQ (qs.filter fun q => !decide (q ∈ rs))).length ≤ (qs.filter fun q => !decide (q ∈ rs)).length := (canon_nodup encQ (qs.filter fun q => !decide (q ∈ rs))).length_le_of_subset (fun x hx => canon_mem.1 hx)
        omega
      · exact hq _ _ (e'.trans (made nx ndx hb')) hA2
theorem ok_sh_init (F : FnD K "__init__" "Shelf.__init__" s_Shelf___init__ f fd) (D_is_index : Def P w K mg base "is_index" 3 ["thing"] (spIndex K)) : FnOk P w K mg base CX0 4 f fd ["self", "indexes"] (spShInit K c) := by
  refine F.ok sc_Shelf___init__ (fun vs H Q E h => ?_) (fun cdv A outer s H vs Q E hr h => ?_)
  · obtain ⟨p, dx, v, qs, rfl, _⟩ := h; rfl
  · obtain ⟨p, dx, v, rs, rfl, hp, hd, hv, h48, hq⟩ := h
    obtain ⟨a, vs, rfl, hs, ha⟩ : ∃ a vs, v = .ref a ∧ SqL K H a vs ∧ DpAll K H vs (rs.map encL) := by
      cases hd with
      | lst hs ha => exact ⟨_, _, rfl, hs, ha⟩
    have lv : vs.length = rs.length := by have := dpAll_len ha; simpa using this
    refine ⟨_, PSs.nox (pss_cons (ps_if (PW.pt (pw_or (pt_not (pt_val (pe_callB (k_isiT (K := K) rfl) (by rfl) T.m_isinstance (by decide +kernel) (pa_cons (pv 1) (pa_cons (pe_tup (pa_cons (pe_bltn (v := V.ty "list") (by rfl) T.m_list (by decide +kernel) rfl) (pa_cons (pe_bltn (v := V.ty "tuple") (by rfl) T.m_tuple (by decide +kernel) rfl) pa_nil))) pa_nil))))) (pw_or1 (pt_not (pt_val (pe_callB (k_all (K := K) rfl rfl) (by rfl) T.m_all (by decide +kernel) (pa_cons (pe_lc (own := [("one", 2)]) rfl sc_Shelf___init__.nd (k_piL (K := K) rfl (pv 1)) (blkOk_by (own := [("one", 2)]) (N := N_Shelf___init__) (by kernel_rfl)) (fun _ _ _ _ _ => (pg_name (i := 2) sc_Shelf___init__.nd rfl (by first | exact Or.inl rfl | exact Or.inr rfl))) (fun _ _ _ _ _ => pts_nil) (fun _ _ _ _ _ => (pe_def D_is_index (hr.mono (by first | decide | omega)) (pa_cons (pv 2) pa_nil)))) pa_nil))))))) (pss_one ps_never) pss_nil)
    (pss_cons (ps_if (pt_cmpR op_gt (pe_callB (k_len (K := K) rfl) (by rfl) T.m_len (by decide +kernel) (pa_cons (pv 1) pa_nil)) (pe_gE (v := V.int 48) T.g_MOST_THINGS (fun t => ⟨t, rfl⟩)) (nomark _)) (pss_one ps_never) pss_nil)
    (pss_one (ps_fld (pv 0) (pe_callTy (k_tuple (K := K) rfl) (by rfl) T.m_tuple (by decide +kernel) (pa_cons (pv 1) pa_nil)) rfl)))), ?_⟩
    refine ⟨_, rfl, ?_⟩
    refine ⟨by show 2 ≤ sizeLine; decide, fun tp htp => ?_⟩
    have e1 := same_new (o := HO.tup [V.ty "list", V.ty "tuple"]) htp
    refine ⟨_, tp, _, _, _, true, rfl, upd_same, .cons (.ty _) (.cons (.ty _) .nil), tyx_L (sqL_ext e1 hs), kitAny_cons (b := true) (kit_ty (by decide +kernel)) (fun h => by cases h) (fun _ => rfl), true, rfl, iteF ?_⟩
    refine ⟨_, rfl, a, rfl, ⟨_, sqL_ext e1 hs⟩, fun D hD => lcM (K := K) (src_list (sqL_ext e1 hs)) (Same.refl _) hD rs lv.symm (by rw [lv]; exact small1000 (by omega)) (fun _ => PyData.bool true) ?_ ?_⟩
    · intro i q x H2 R hi e2 hx hyes
      obtain ⟨d, k1, k2⟩ := dpAll_get ha hx
      rw [List.getElem?_map, hi] at k1
      cases k1
      obtain ⟨o1, o2⟩ := hv q (List.mem_of_getElem? hi)
      exact ⟨rfl, _, rfl, x, q, rfl, dp_ext (e1.trans e2) k2, o1, o2, fun H4 e4 => hyes _ _ e4 (.bl true)⟩
    · intro H' e' d
      have hb : (rs.map fun _ => PyData.bool true) = (rs.map fun _ => true).map PyData.bool := by simp
      rw [hb] at d
      refine ⟨D, _, rfl, df_bools d, true, by simp, ?_⟩
      refine iteF ?_
      have e2 := e1.trans e'
      refine ⟨_, rfl, a, vs, rfl, .inl (sqL_ext e2 hs), _, _, rfl, rfl, _, rfl, ?_⟩
      refine iF (decide_eq_false (by rw [lv]; omega)) ?_
      refine ⟨_, rfl, a, vs, rfl, .inl ⟨sqL_ext e2 hs, fun l hl => ?_⟩⟩
      have e5 := same_new (o := HO.tup vs) hl
      have e := e2.trans e5
      refine ⟨_, rfl, p, c.Shelf, dx, [], rfl, e _ _ hp, T.cS, T.aS, (by show 0 < 1000; decide), ?_⟩
      have npl : l ≠ p := fun z => by
        have := e2 _ _ hp
        rw [← z, hl] at this; cases this
      refine hq _ (But.upd (But.of e)) ⟨dx, l, vs, upd_same, SqT.of (by rw [upd_ne npl]; exact upd_same), ?_⟩
      refine (DfAll.updD (K := K) (H0 := H) (D := p) (by rw [hp]; simp) (e _ _ hp) (fun _ z => by cases z) (fun _ _ z => by cases z) ?_).dp
      exact (dfAll_of_map (fun x _ => flat_L x) ha).ext e
theorem ok_sh_len (F : FnD K "__len__" "Shelf.__len__" s_Shelf___len__ f fd) : FnOk P w K mg base CX0 1 f fd ["self"] (spLen K c.Shelf "kept_indexes") := by
  refine F.ok sc_Shelf___len__ (fun vs H Q E h => ?_) (fun cdv A outer s H vs Q E hr h => ?_)
  · obtain ⟨a, dx, t, fs, zs, rfl, _⟩ := h; rfl
  · obtain ⟨a, dx, t, fs, zs, rfl, h1, h2, h3, hq⟩ := h
    refine ⟨_, PSs.nox (pss_one (ps_ret (pe_callB (k_len (K := K) rfl) (by rfl) T.m_len (by decide +kernel) (pa_cons (k_fld (K := K) rfl (pv 0) rfl) pa_nil)))), ?_⟩
    exact ⟨_, rfl, a, c.Shelf, dx, _, _, rfl, h1, T.cS, T.aS, h2, t, zs, rfl, .inr h3, hq⟩
theorem ok_sh_iter (F : FnD K "__iter__" "Shelf.__iter__" s_Shelf___iter__ f fd) : FnS P w K mg base 1 f fd ["self"] (spIter K c.Shelf "kept_indexes") := by
  refine FnS.of F sc_Shelf___iter__ (fun cdv A outer s H vs Q E hr h => ?_)
  obtain ⟨a, dx, t, fs, zs, rfl, h1, h2, h3, hq⟩ := h
  refine ⟨_, (pss_one (ps_ret (pe_callB cr_iterT (by rfl) T.m_iter (by decide +kernel) (pa_cons (k_fld (K := K) rfl (pv 0) rfl) pa_nil)))), ?_⟩
  exact ⟨_, rfl, a, c.Shelf, dx, _, _, rfl, h1, T.cS, T.aS, h2, t, zs, rfl, h3, fun it hn hs => hq it hn hs⟩
theorem ok_sh_eq (F : FnD K "__eq__" "Shelf.__eq__" s_Shelf___eq__ f fd) (iS : IsiF K c.Shelf) : FnOk P w K mg base CX0 1 f fd ["self", "other"] (spShEq K c) := by
  refine F.ok sc_Shelf___eq__ (fun vs H Q E h => ?_) (fun cdv A outer s H vs Q E hr h => ?_)
  · obtain ⟨p, r, qs, rs, rfl, _⟩ := h; rfl
  · obtain ⟨p, r, qs, rs, rfl, ⟨dx, t, vs, h1, h2, h3⟩, ⟨dx', t', vs', h1', h2', h3'⟩, o1, o2, hq⟩ := h
    refine ⟨_, PSs.nox (pss_one (ps_ret (pe_and (pe_callB (k_isi (K := K) rfl) (by rfl) T.m_isinstance (by decide +kernel) (pa_cons (pv 1) (pa_cons (pe_glob (v := V.ref c.Shelf) rfl T.g_Shelf rfl) pa_nil))) (pe_one (pe_cmpR (k_eqD (K := K) rfl (hu64 hr)) (k_fld (K := K) rfl (pv 0) rfl) (k_fld (K := K) rfl (pv 1) rfl) (nomark _)))))), ?_⟩
    refine ⟨_, rfl, _, _, _, _, true, rfl, .own _, .base (.ins h1' T.cS iS.ha iS.hn iS.htk iS.hm), ?_, true, rfl, iteT ?_⟩
    · unfold PySem.W.kitOne; rw [if_pos (by simp)]
    · refine ⟨_, rfl, p, c.Shelf, dx, _, _, rfl, h1, T.cS, T.aS, rfl, _, rfl, r, c.Shelf, dx', _, _, rfl, h1', T.cS, T.aS, rfl, .tuple (qs.map encL), .tuple (rs.map encL), .tup h2 h3, .tup h2' h3', shaped_tLs o1, shaped_tLs o2, ?_⟩
      have : PyData.eqv (.tuple (qs.map encL)) (.tuple (rs.map encL)) = decide (qs = rs) := by simp [PyData.eqv, eqvAll_Ls]
      rw [this]; exact hq
end
end NkW
end
section
set_option Elab.async false
set_option linter.all false
set_option maxRecDepth 100000
set_option maxHeartbeats 2000000
/-! indexes.py -/
namespace NkW
open PySem PySem.Spec PyProof.Rows L2 NkO NkR NkS NkQ
abbrev s_blocks_of : Stmt := top 34
abbrev N_blocks_of : List Str := ["questions", "pair", "placed", "blocks", "columns", "last", "fresh", "found", "block", "column"]
theorem sc_blocks_of : FnScope N_blocks_of ["questions"] (defScope s_blocks_of) := ⟨rfl, rfl, rfl, by decide +kernel, rfl, by decide +kernel, by decide +kernel⟩
abbrev s_index_for : Stmt := top 35
abbrev N_index_for : List Str := ["questions", "block", "column"]
theorem sc_index_for : FnScope N_index_for ["questions"] (defScope s_index_for) := ⟨rfl, rfl, rfl, by decide +kernel, rfl, by decide +kernel, by decide +kernel⟩
def encLs (b : List Str) : PyData := .list (b.map PyData.str)

theorem tY {σ : L2.St} {H : Hp} {Q : Bool → Hp → Prop} (h : Q true H) : tYes σ H Q := h
/-! ### the heap without some of its own objects -/
def wo (Ds : List Addr) (H : Hp) : Hp := fun b => if b ∈ Ds then Option.none else H b
section
variable {K : PySem.W.Frag} {H H' H0 : Hp} {Ds : List Addr}
theorem wo_same : Same (wo Ds H) H := fun b o h => by
  unfold wo at h; split at h
  · cases h
  · exact h
theorem wo_none {D : Addr} (h : D ∈ Ds) : wo Ds H D = Option.none := by unfold wo; rw [if_pos h]
theorem wo_at {b : Addr} (h : b ∉ Ds) : wo Ds H b = H b := by unfold wo; rw [if_neg h]
/-- changeable: no tuple, open or locked -/
def Chg (o : HO) : Prop := (∀ xs, o ≠ .tup xs) ∧ ∀ ob xs, o ≠ .frz ob (.tup xs)
theorem chg_lst (xs : List V) : Chg (.lst xs) := ⟨fun _ h => (by cases h), fun _ _ h => (by cases h)⟩
theorem chg_dK (xs : List (Key × V)) : Chg (.dK xs) := ⟨fun _ h => (by cases h), fun _ _ h => (by cases h)⟩
theorem chg_ins (C dx : Addr) (fs : List (Str × V)) : Chg (.ins C dx fs) := ⟨fun _ h => (by cases h), fun _ _ h => (by cases h)⟩
theorem wo_sqT (hD : ∀ D ∈ Ds, ∃ o, H D = some o ∧ Chg o) {a : Addr} {xs : List V} (h : SqT K H a xs) : SqT K (wo Ds H) a xs := by
  rcases h with (h | ⟨ob, h⟩) | h
  · refine .inl (.inl ?_)
    rw [wo_at]; exact h
    intro z
    obtain ⟨o, e, c1, c2⟩ := hD a z
    rw [h] at e; exact c1 xs (Option.some.inj e).symm
  · refine .inl (.inr ⟨ob, ?_⟩)
    rw [wo_at]; exact h
    intro z
    obtain ⟨o, e, c1, c2⟩ := hD a z
    rw [h] at e; exact c2 ob xs (Option.some.inj e).symm
  · exact .inr h
theorem wo_dp (hD : ∀ D ∈ Ds, ∃ o, H D = some o ∧ Chg o) {v : V} {d : PyData} (hf : flatD d = true) (h : Dp K H v d) : Dp K (wo Ds H) v d :=
  (df_map (H0 := fun _ => some (.lst [])) (H0' := fun _ => some (.lst [])) (fun _ h => by cases h) (fun _ _ h => by cases h) (fun _ _ h => wo_sqT hD h) (df_of_dp (H0 := fun _ => some (.lst [])) d v hf h)).dp
theorem wo_dpAll (hD : ∀ D ∈ Ds, ∃ o, H D = some o ∧ Chg o) {α : Type} {enc : α → PyData} {l : List α} {vs : List V} (hf : ∀ x ∈ l, flatD (enc x) = true) (h : DpAll K H vs (l.map enc)) : DpAll K (wo Ds H) vs (l.map enc) := by
  induction l generalizing vs with
  | nil => cases h; exact .nil
  | cons a l ih => cases h with | cons h1 h2 => exact .cons (wo_dp hD (hf a (by simp)) h1) (ih (fun x hx => hf x (List.mem_cons_of_mem _ hx)) h2)
/-- fresh data, the base being all but what may change -/
theorem wo_df (hD : ∀ D ∈ Ds, ∃ o, H D = some o ∧ Chg o) (hn : ∀ D ∈ Ds, H0 D ≠ Option.none) {v : V} {d : PyData} (h : Df K H0 H v d) : Df K H0 (wo Ds H) v d :=
  df_map (fun _ h => h) (fun a xs h1 h2 => by rw [wo_at (fun z => hn a z h1)]; exact h2) (fun _ _ h => wo_sqT hD h) h
theorem same_upd_wo {D : Addr} {o : HO} (h : D ∈ Ds) (e : Same (wo Ds H) H') : Same (wo Ds H) (upd H' D o) := same_upd_new e (wo_none h)
end

def spBlocks (K : PySem.W.Frag) : Sp := fun vs H Q _ => ∃ v, ∃ qs : List NkQ.Q, vs = [v] ∧ Dp K H v (.list (qs.map encQ)) ∧ (∀ q ∈ qs, VQ6 q) ∧ qs.length < 64 ∧ Asc qs ∧
  ∀ v' H', ∀ bls : List (List Str), Same H H' → bls.flatten = indexM qs → Df K H H' v' (.list (bls.map encLs)) → Q v' H'
def spIdxFor (K : PySem.W.Frag) : Sp := fun vs H Q _ => ∃ v, ∃ qs : List NkQ.Q, vs = [v] ∧ Dp K H v (.list (qs.map encQ)) ∧ (∀ q ∈ qs, VQ6 q) ∧ qs.length < 64 ∧ Asc qs ∧ (indexM qs).length < 1000 ∧
  ∀ v' H', Same H H' → Dp K H' v' (encL (indexM qs)) → Q v' H'

theorem asc_share {qs : List NkQ.Q} (h : Asc qs) : ∀ a ∈ qs, ∀ b ∈ qs, share a b = true := by
  intro a ha b hb
  obtain ⟨i, hi, rfl⟩ := List.mem_iff_getElem.1 ha
  obtain ⟨j, hj, rfl⟩ := List.mem_iff_getElem.1 hb
  have hp := List.pairwise_iff_getElem.1 h
  unfold share
  rcases Nat.lt_trichotomy i j with q | q | q
  · rw [hp i j hi hj q]; simp
  · subst q; simp
  · rw [hp j i hj hi q]; simp

/-- where the walk upwards stands -/
def BInv (K : PySem.W.Frag) (v : V) (Pa Ba : Addr) (H1 H2 H3 : Hp) (qs : List NkQ.Q) (i : Nat) (σ : L2.St) (H' : Hp) : Prop :=
  ∃ o4 o5 o6 o7 o8 o9, σ = [some v, some V.non, some (V.ref Pa), some (V.ref Ba), o4, o5, o6, o7, o8, o9] ∧ Same (wo [Pa, Ba] H3) H' ∧ Same H1 H' ∧
    ∃ (bls : List (List Str)) (bvs : List V), H' Pa = some (.lst (((qs.take i).foldl idxStep []).map V.str)) ∧ H' Ba = some (.lst bvs) ∧ DfAll K H2 H' bvs (bls.map encLs) ∧ bls.flatten = (qs.take i).foldl idxStep [] ∧ bls.length ≤ 2 * i
section
variable {P : Program} {w : World} {K : PySem.W.Frag} {mg : Str → Option Value} {base : Heap} {c : Ad} {f : Addr} {fd : FuncData} (T : Tx K mg c)
/-- for block in found: placed.extend(block); blocks.append(block) -/
theorem inner_blocks {H0 H : Hp} {Pa Ba Fa : Addr} {fvs bvs : List V} {fb bls : List (List Str)} {placed : List Str} {σ : L2.St} {D : Ends} (hPB : Pa ≠ Ba) (hFP : Fa ≠ Pa) (hFB : Fa ≠ Ba) (hP : H Pa = some (.lst (placed.map V.str))) (hB : H Ba = some (.lst bvs)) (hF : H Fa = some (.lst fvs))
    (h0P : H0 Pa ≠ Option.none) (h0B : H0 Ba ≠ Option.none) (s2 : σ[2]? = some (some (.ref Pa))) (s3 : σ[3]? = some (some (.ref Ba))) (s7 : σ[7]? = some (some (.ref Fa))) (s8 : σ.length = 10)
    (dB : DfAll K H0 H bvs (bls.map encLs)) (dF : DfAll K H0 H fvs (fb.map encLs)) (lP : (placed ++ fb.flatten).length ≤ 900) (lB : (bls ++ fb).length ≤ 900) {Hb : Hp} (eb : Same Hb H) (nP : Hb Pa = Option.none) (nB : Hb Ba = Option.none)
    (hd : ∀ σ' H', (∀ i, i ≠ 8 → σ'[i]? = σ[i]?) → σ'.length = 10 → Same Hb H' → H' Pa = some (.lst ((placed ++ fb.flatten).map V.str)) → H' Ba = some (.lst (bvs ++ fvs)) → DfAll K H0 H' (bvs ++ fvs) ((bls ++ fb).map encLs) → D.nx σ' H') :
    tFor (iList K (tVar 7)) (gName 8) (tSeq (tDrop (tBM K "list" rExtend (tVar 2) (tCons (tVar 8) tNil))) (tDrop (tBM K "list" rAppend (tVar 3) (tCons (tVar 8) tNil)))) D σ H := by
  have lf : fvs.length = fb.length := by have := dF.len; simpa using this
  have lb : bvs.length = bls.length := by have := dB.len; simpa using this
  refine ⟨_, s7, Fa, rfl, ⟨_, SqL.of hF⟩, forG (H0 := wo [Pa, Ba] H) (src_list (SqL.of (by rw [wo_at (by simp [hFP, hFB])]; exact hF))) (fun j σ' H' => (∀ i, i ≠ 8 → σ'[i]? = σ[i]?) ∧ σ'.length = 10 ∧ Same (wo [Pa, Ba] H) H' ∧ Same Hb H' ∧
    H' Pa = some (.lst ((placed ++ (fb.take j).flatten).map V.str)) ∧ H' Ba = some (.lst (bvs ++ fvs.take j))) ?_ (fun _ _ _ h => h.2.2.1) ?_ ?_⟩
  · exact ⟨fun _ _ => rfl, s8, wo_same, eb, by simpa using hP, by simpa using hB⟩
  · rintro j x σ' H' H'' hj ⟨g1, g2, g3, g4, g5, g6⟩ e hx
    have hjb : j < fb.length := by omega
    have hfb : fb[j]? = some fb[j] := List.getElem?_eq_getElem hjb
    -- the block
    obtain ⟨d, k1, k2⟩ := dpAll_get dF.dp hx
    have dxx : Df K H0 H x (encLs fb[j]) := by
      have : ∀ {vs : List V} {ds : List (List Str)} {i : Nat} {v : V} {d : List Str}, DfAll K H0 H vs (ds.map encLs) → vs[i]? = some v → ds[i]? = some d → Df K H0 H v (encLs d) := by
        intro vs ds i
        induction i generalizing vs ds with
        | zero =>
          intro v d h e1 e2
          cases ds with
          | nil => simp at e2
          | cons a ds => cases h with | cons h1 h2 => simp at e1 e2; subst e1; subst e2; exact h1
        | succ i ih =>
          intro v d h e1 e2
          cases ds with
          | nil => simp at e2
          | cons a ds => cases h with | cons h1 h2 => exact ih h2 (by simpa using e1) (by simpa using e2)
      exact this dF hx hfb
    unfold encLs at dxx
    cases dxx with
    | @lst ba xs ds b1 b2 b3 =>
      rw [dpAll_toStrs b3.dp] at b2
      have nbP : ba ≠ Pa := fun z => h0P (z ▸ b1)
      have nbB : ba ≠ Ba := fun z => h0B (z ▸ b1)
      have hb' : H'' ba = some (.lst (fb[j].map V.str)) := e _ _ (g3 _ _ (by rw [wo_at (by simp [nbP, nbB])]; exact b2))
      have tk : fb.take (j + 1) = fb.take j ++ [fb[j]] := by rw [List.take_add_one, hfb]; rfl
      have tk2 : fvs.take (j + 1) = fvs.take j ++ [V.ref ba] := by rw [List.take_add_one, hx]; rfl
      have lin : (placed ++ (fb.take j).flatten).length + (fb[j]).length ≤ 900 := by
        have h1 : (fb.take (j+1)).flatten.length ≤ fb.flatten.length := by
          have : fb.flatten = (fb.take (j+1)).flatten ++ (fb.drop (j+1)).flatten := by rw [← List.flatten_append, List.take_append_drop]
          rw [this, List.length_append]; omega
        rw [tk] at h1
        simp only [List.flatten_append, List.length_append, List.flatten_cons, List.flatten_nil, List.append_nil] at h1 lP ⊢
        omega
      have lin2 : (bvs ++ fvs.take j).length < sizeLine := by
        refine small1000 ?_
        simp only [List.length_append, List.length_take] at lB ⊢; omega
      refine ⟨.ref Pa, (by rw [List.getElem?_set_ne (by omega), g1 2 (by omega)]; exact s2), .inl ⟨rfl, _, SqL.of (e _ _ g5)⟩, V.ref ba, (by rw [List.getElem?_set_self (by omega)]), Pa, ba, _, _, rfl, rfl, e _ _ g5, hb', Nat.le_of_lt (small1000 (by simp only [List.length_map]; omega)), ?_⟩
      refine ⟨.ref Ba, (by rw [List.getElem?_set_ne (by omega), g1 3 (by omega)]; exact s3), .inl ⟨rfl, _, SqL.of (by rw [upd_ne hPB.symm]; exact e _ _ g6)⟩, V.ref ba, (by rw [List.getElem?_set_self (by omega)]), Ba, _, _, rfl, rfl, (by rw [upd_ne hPB.symm]; exact e _ _ g6), lin2, ?_⟩
      refine ⟨fun i hi => by rw [List.getElem?_set_ne (fun z => hi z.symm)]; exact g1 i hi, by rw [List.length_set]; exact g2, ?_, ?_, ?_, ?_⟩
      · exact same_upd_wo (by simp) (same_upd_wo (by simp) (g3.trans e))
      · exact same_upd_new (same_upd_new (g4.trans e) nP) nB
      · rw [upd_ne hPB, upd_same, tk]
        simp only [List.flatten_append, List.map_append, List.flatten_cons, List.flatten_nil, List.append_nil, List.append_assoc]
      · rw [upd_same, tk2]; simp only [List.append_assoc]
  · rintro σ' H' ⟨g1, g2, g3, g4, g5, g6⟩
    rw [List.take_of_length_le (by omega)] at g5 g6
    refine hd σ' H' g1 g2 g4 g5 g6 ?_
    have hD : ∀ D ∈ [Pa, Ba], ∃ o, H D = some o ∧ Chg o := by
      intro D hDm
      rcases List.mem_cons.1 hDm with e | hDm
      · rw [e]; exact ⟨_, hP, chg_lst _⟩
      · rw [List.mem_singleton.1 hDm]; exact ⟨_, hB, chg_lst _⟩
    have hn : ∀ D ∈ [Pa, Ba], H0 D ≠ Option.none := by
      intro D hDm
      rcases List.mem_cons.1 hDm with e | hDm
      · rw [e]; exact h0P
      · rw [List.mem_singleton.1 hDm]; exact h0B
    have mp : ∀ {vs : List V} {ds : List PyData}, DfAll K H0 H vs ds → DfAll K H0 H' vs ds := fun h =>
      (dfAll_map (fun _ h => h) (fun a xs h1 h2 => by rw [wo_at (fun z => hn a z h1)]; exact h2) (fun _ _ h => wo_sqT hD h) h).ext g3
    rw [List.map_append]
    exact (mp dB).append (mp dF)
include T
theorem ok_blocks_of (F : FnD K "blocks_of" "blocks_of" s_blocks_of f fd) (D_split_pair : Def P w K mg base "split_pair" 4 ["questions"] (spSplit K)) (D_upwards : Def P w K mg base "upwards" 4 ["questions"] (spUpwards K)) :
    FnOk P w K mg base CX0 5 f fd ["questions"] (spBlocks K) := by
  refine F.ok sc_blocks_of (fun vs H Q E h => ?_) (fun cdv A outer s H vs Q E hr h => ?_)
  · obtain ⟨v, qs, rfl, _⟩ := h; rfl
  · obtain ⟨v, qs, rfl, hd, hv, h64, hasc, hq⟩ := h
    refine ⟨_, PSs.nox (pss_cons (ps_set (i := 1) sc_blocks_of.nd rfl (by first | exact Or.inl rfl | exact Or.inr rfl) (pe_def D_split_pair (hr.mono (by first | decide | omega)) (pa_cons (pv 0) pa_nil)))
    (pss_cons (ps_if (pt_cmpR op_notN (pv 1) pe_non (nomark _)) (pss_one ps_never) pss_nil)
    (pss_cons (ps_asg (pe_tup (pa_cons (pe_lst pa_nil) (pa_cons (pe_lst pa_nil) pa_nil))) (k_gTup (K := K) (n := 2) rfl rfl (pgs_cons (pg_name (i := 2) sc_blocks_of.nd rfl (by first | exact Or.inl rfl | exact Or.inr rfl)) (pgs_cons (pg_name (i := 3) sc_blocks_of.nd rfl (by first | exact Or.inl rfl | exact Or.inr rfl)) pgs_nil))))
    (pss_cons (ps_for PassesOwn.never rfl (k_piL (K := K) rfl (pe_def D_upwards (hr.mono (by first | decide | omega)) (pa_cons (pv 0) pa_nil))) (k_gTup (K := K) (n := 2) rfl rfl (pgs_cons (pg_name (i := 4) sc_blocks_of.nd rfl (by first | exact Or.inl rfl | exact Or.inr rfl)) (pgs_cons (pg_name (i := 5) sc_blocks_of.nd rfl (by first | exact Or.inl rfl | exact Or.inr rfl)) pgs_nil)))
    (pss_cons (ps_setLc (i := 6) (own := [("column", 9)]) rfl sc_blocks_of.nd rfl rfl (sw_true rfl rfl rfl (by decide +kernel)) (k_piT (K := K) rfl (pv 4)) (blkOk_by (own := [("column", 9)]) (N := N_blocks_of) (by kernel_rfl)) (fun _ _ _ _ _ => (pg_name (i := 9) sc_blocks_of.nd rfl (by first | exact Or.inl rfl | exact Or.inr rfl))) (fun _ _ _ _ _ => (pts_one (pt_cmpR (k_notIn (K := K) rfl) (pv 9) (pv 2) rfl))) (fun _ _ _ _ _ => (pv 9)))
    (pss_cons (ps_set (i := 7) sc_blocks_of.nd rfl (by first | exact Or.inl rfl | exact Or.inr rfl) (pe_ifExp (pt_cmpR (k_neD (K := K) rfl (hu64 hr)) (pv 6) (pe_lst pa_nil) (nomark _)) (pe_lst (pa_cons (pv 6) pa_nil)) (pe_lst pa_nil)))
    (pss_cons (ps_if (pt_cmpR op_ne (pv 5) pe_str (nomark _)) (pss_one (ps_expr (pe_bm PySem.F.plainAttrs_list PySem.F.slot_list_append PySem.F.type_list_append mt_append (pv 7) (pa_cons (pe_lst (pa_cons (pv 5) pa_nil)) pa_nil)))) pss_nil)
    (pss_one (ps_for PassesOwn.never rfl (k_piL (K := K) rfl (pv 7)) (pg_name (i := 8) sc_blocks_of.nd rfl (by first | exact Or.inl rfl | exact Or.inr rfl))
    (pss_cons (ps_expr (pe_bm PySem.F.plainAttrs_list PySem.F.slot_list_extend PySem.F.type_list_extend mt_extend (pv 2) (pa_cons (pv 8) pa_nil)))
    (pss_one (ps_expr (pe_bm PySem.F.plainAttrs_list PySem.F.slot_list_append PySem.F.type_list_append mt_append (pv 3) (pa_cons (pv 8) pa_nil)))))))))))
    (pss_one (ps_ret (pv 3))))))), ?_⟩
    refine ⟨_, rfl, v, qs, rfl, hd, hv, h64, asc_share hasc, fun H1 e1 => ?_⟩
    refine ⟨_, rfl, rfl, _, rfl, iteF ?_⟩
    refine ⟨Nat.zero_le _, fun Pa hPa => ⟨Nat.zero_le _, fun Ba hBa => ⟨by show 2 ≤ sizeLine; decide, fun ta hta => ⟨ta, _, rfl, SqT.of upd_same, rfl, _, _, rfl, _, _, rfl, rfl, ?_⟩⟩⟩⟩
    -- the heap with the two lists
    have hPB : Pa ≠ Ba := fun z => by rw [← z, upd_same] at hBa; cases hBa
    have eP := same_new (o := HO.lst []) hPa
    have eB := same_new (o := HO.lst []) hBa
    have eT := same_new (o := HO.tup [V.ref Pa, V.ref Ba]) hta
    have hP2 : (upd (upd (upd H1 Pa (HO.lst [])) Ba (HO.lst [])) ta (HO.tup [V.ref Pa, V.ref Ba])) Pa = some (.lst []) := eT _ _ (eB _ _ upd_same)
    have hB2 : (upd (upd (upd H1 Pa (HO.lst [])) Ba (HO.lst [])) ta (HO.tup [V.ref Pa, V.ref Ba])) Ba = some (.lst []) := eT _ _ upd_same
    have e2 : Same H1 (upd (upd (upd H1 Pa (HO.lst [])) Ba (HO.lst [])) ta (HO.tup [V.ref Pa, V.ref Ba])) := (eP.trans eB).trans eT
    have hBa1 : H1 Ba = Option.none := eP.free hBa
    generalize hH2 : (upd (upd (upd H1 Pa (HO.lst [])) Ba (HO.lst [])) ta (HO.tup [V.ref Pa, V.ref Ba])) = H2 at hP2 hB2 e2
    clear hta eT eB eP
    refine ⟨_, rfl, v, qs, rfl, dp_ext (e1.trans e2) hd, hv, h64, fun v' H3 e3 d3 => ?_⟩
    rw [upwards_chain (fun q hq => (hv q hq).v) hasc] at d3
    obtain ⟨ua, us, rfl, nua, hua, dua⟩ : ∃ a xs, v' = V.ref a ∧ H2 a = Option.none ∧ H3 a = some (.lst xs) ∧ DfAll K H2 H3 xs (qs.map encQ) := by
      cases d3 with | lst a1 a2 a3 => exact ⟨_, _, rfl, a1, a2, a3⟩
    have lu : us.length = qs.length := by have := dua.len; simpa using this
    have hP3 := e3 _ _ hP2
    have hB3 := e3 _ _ hB2
    have nuP : ua ≠ Pa := fun z => by rw [z, hP2] at nua; cases nua
    have nuB : ua ≠ Ba := fun z => by rw [z, hB2] at nua; cases nua
    have hDs : ∀ D ∈ [Pa, Ba], ∃ o, H3 D = some o ∧ Chg o := by
      intro D hDm
      rcases List.mem_cons.1 hDm with e | hDm
      · rw [e]; exact ⟨_, hP3, chg_lst _⟩
      · rw [List.mem_singleton.1 hDm]; exact ⟨_, hB3, chg_lst _⟩
    have hub : wo [Pa, Ba] H3 ua = some (.lst us) := by rw [wo_at (by simp [nuP, nuB])]; exact hua
    have dub : DpAll K (wo [Pa, Ba] H3) us (qs.map encQ) := wo_dpAll hDs (fun x _ => flat_Q x) dua.dp
    have nP1 : H1 Pa = Option.none := hPa
    refine ⟨ua, rfl, ⟨_, SqL.of hua⟩, forG (H0 := wo [Pa, Ba] H3) (src_list (SqL.of hub)) (fun i σ H' => BInv K v Pa Ba H1 H2 H3 qs i σ H') ?_ ?_ ?_ ?_⟩
    · exact ⟨_, _, _, _, _, _, rfl, wo_same, e2.trans e3, [], [], by simpa using hP3, hB3, .nil, rfl, by simp⟩
    · rintro i σ H' ⟨_, _, _, _, _, _, _, e, _⟩; exact e
    · rintro i x σ H4 H5 hi ⟨o4, o5, o6, o7, o8, o9, rfl, e4, e14, bls, bvs, q1, q2, q3, q4, q5⟩ e5 hx
      have hiq : i < qs.length := by omega
      have hqi : qs[i]? = some qs[i] := List.getElem?_eq_getElem hiq
      have hvq := hv _ (List.getElem_mem hiq)
      obtain ⟨d, k1, k2⟩ := dpAll_get dub hx
      rw [List.getElem?_map, hqi] at k1
      cases k1
      obtain ⟨xa, ca, rfl, hs, hcs, _⟩ := dpQ (dp_ext (e4.trans e5) k2)
      generalize hpl : (qs.take i).foldl idxStep [] = placed at q1 q4
      have hstep : (qs.take (i + 1)).foldl idxStep [] = placed ++ freshM placed qs[i] ++ lastM qs[i] := by
        rw [List.take_add_one, hqi]; simp only [Option.toList_some, List.foldl_append, List.foldl_cons, List.foldl_nil, hpl]; rfl
      -- the size of placed: the columns of the last question
      have lpl : (placed ++ freshM placed qs[i] ++ lastM qs[i]).length ≤ 49 := by
        have hne : qs.take (i + 1) ≠ [] := List.ne_nil_of_length_pos (by rw [List.length_take]; omega)
        have hvt : ∀ q ∈ qs.take (i + 1), VQ q := fun q hq => (hv q (List.mem_of_mem_take hq)).v
        obtain ⟨_, p⟩ := index_spec hvt (hasc.sublist (List.take_sublist _ _)) hne
        have : (indexM (qs.take (i+1))).length ≤ 49 := by
          rw [p.length_eq, ← (cols_perm _).length_eq]
          exact (hv _ (List.mem_of_mem_take (List.getLast_mem hne))).cols.2.1
        unfold indexM at this
        rw [hstep] at this; exact this
      refine ⟨xa, _, rfl, hs, rfl, _, _, rfl, _, _, rfl, rfl, ?_⟩
      refine ⟨_, rfl, ca, rfl, ⟨_, hcs⟩, fun D hD => lcG (K := K) (src_tup hcs) (Same.refl _) hD qs[i].1 (by simp) (by rw [List.length_map]; exact small1000 (by have := hvq.n; omega)) (fun y => !decide (y ∈ placed)) PyData.str ?_ ?_⟩
      · intro j y z H6 R hy e6 hz hyes hno
        have : z = V.str y := by
          rw [List.getElem?_map, hy] at hz; exact (Option.some.inj hz).symm
        subst this
        refine ⟨rfl, _, rfl, _, rfl, Pa, _, rfl, .inl (SqL.of (e6 _ _ (e5 _ _ q1))), rfl, by simp [flatV], ?_⟩
        have ev := inV_strs y placed
        refine ⟨_, rfl, ite2 (fun hb => ?_) (fun hb => ?_)⟩
        · exact ⟨_, rfl, hyes _ _ (by rw [← ev]; exact hb) (Same.refl _) (.str y)⟩
        · exact hno _ (by rw [← ev]; simpa using hb) (Same.refl _)
      · intro H6 e6 d6
        have hD6 := df_strs d6
        have hDn : H5 D = Option.none := by cases d6 with | lst a1 _ _ => exact a1
        have q16 := e6 _ _ (e5 _ _ q1)
        have q26 := e6 _ _ (e5 _ _ q2)
        have q36 := (q3.ext e5).ext e6
        have DP : D ≠ Pa := fun z => by rw [z, e5 _ _ q1] at hDn; cases hDn
        have DB : D ≠ Ba := fun z => by rw [z, e5 _ _ q2] at hDn; cases hDn
        have h25 : ∀ {a : Addr}, H5 a = Option.none → H2 a = Option.none := fun {a} hn => by
          cases z : H2 a with
          | none => rfl
          | some o =>
            by_cases zz : a ∈ [Pa, Ba]
            · rcases List.mem_cons.1 zz with e | zz
              · rw [e, e5 _ _ q1] at hn; cases hn
              · rw [List.mem_singleton.1 zz, e5 _ _ q2] at hn; cases hn
            · rw [(e4.trans e5) _ _ (by rw [wo_at zz]; exact e3 _ _ z)] at hn; cases hn
        have h26 : ∀ {a : Addr}, H6 a = Option.none → H2 a = Option.none := fun {a} hn => h25 (e6.free hn)
        have fin : ∀ (D0 : Ends), (∀ σ H', BInv K v Pa Ba H1 H2 H3 qs (i + 1) σ H' → D0.nx σ H') → ∀ (Fa : Addr) (fvs : List V) (fb : List (List Str)) (H7 : Hp), Same H6 H7 → H6 Fa = Option.none → H7 Fa = some (.lst fvs) → DfAll K H2 H7 fvs (fb.map encLs) → fb.flatten = freshM placed qs[i] ++ lastM qs[i] → fb.length ≤ 2 →
            tFor (iList K (tVar 7)) (gName 8) (tSeq (tDrop (tBM K "list" rExtend (tVar 2) (tCons (tVar 8) tNil))) (tDrop (tBM K "list" rAppend (tVar 3) (tCons (tVar 8) tNil)))) D0
              [some v, some .non, some (.ref Pa), some (.ref Ba), some (.ref ca), some (.str qs[i].2), some (.ref D), some (.ref Fa), o8, o9] H7 := by
          intro D0 hD0 Fa fvs fb H7 e7 hFn hF dF hfl hl2
          refine inner_blocks (H0 := H2) (Hb := wo [Pa, Ba] H3) hPB (fun z => ?_) (fun z => ?_) (e7 _ _ q16) (e7 _ _ q26) hF (by rw [hP2]; simp) (by rw [hB2]; simp) rfl rfl rfl rfl (q36.ext e7) dF ?_ ?_ (((e4.trans e5).trans e6).trans e7) (wo_none (by simp)) (wo_none (by simp)) ?_
          · rw [z, q16] at hFn; cases hFn
          · rw [z, q26] at hFn; cases hFn
          · rw [hfl, ← List.append_assoc]; omega
          · have := q5; simp only [List.length_append]; omega
          · intro σ' H8 g1 g2 g3 g4 g5 g6
            have eσ : ∃ o, σ' = [some v, some .non, some (.ref Pa), some (.ref Ba), some (.ref ca), some (.str qs[i].2), some (.ref D), some (.ref Fa), o, o9] := by
              match σ', g2 with
              | [a0, a1, a2, a3, a4, a5, a6, a7, a8, a9], _ =>
                have r0 := g1 0 (by omega); have r1 := g1 1 (by omega); have r2 := g1 2 (by omega); have r3 := g1 3 (by omega); have r4 := g1 4 (by omega)
                have r5 := g1 5 (by omega); have r6 := g1 6 (by omega); have r7 := g1 7 (by omega); have r9 := g1 9 (by omega)
                simp at r0 r1 r2 r3 r4 r5 r6 r7 r9
                subst r0 r1 r2 r3 r4 r5 r6 r7 r9
                exact ⟨a8, rfl⟩
            obtain ⟨o, rfl⟩ := eσ
            refine hD0 _ _ ⟨_, _, _, _, _, _, rfl, g3, ?_, bls ++ fb, bvs ++ fvs, ?_, g5, g6, ?_, ?_⟩
            · intro b o' hb
              by_cases zz : b ∈ [Pa, Ba]
              · rcases List.mem_cons.1 zz with e | zz
                · rw [e, nP1] at hb; cases hb
                · rw [List.mem_singleton.1 zz, hBa1] at hb; cases hb
              · exact g3 _ _ (by rw [wo_at zz]; exact e3 _ _ (e2 _ _ hb))
            · rw [hstep, g4, hfl]; simp
            · rw [List.flatten_append, q4, hfl, hstep]; simp
            · have := q5; simp only [List.length_append]; omega
        -- found
        have hfr : ∀ x ∈ qs[i].1.filter (fun y => !decide (y ∈ placed)), okC x = true := fun x hx => hvq.v.col x (List.mem_filter.1 hx).1
        refine ⟨_, rfl, Nat.zero_le _, fun E1 hE1 => ⟨.list ((qs[i].1.filter fun y => !decide (y ∈ placed)).map PyData.str), .list (([] : List Str).map PyData.str), .lst (SqL.of ((same_new hE1) _ _ hD6)) (dpAll_strs _), .lst (SqL.of upd_same) .nil, shaped_Ls hfr, shaped_Ls (by simp), ?_⟩⟩
        rw [eqv_Ls]
        have eE := same_new (o := HO.lst []) hE1
        refine ⟨_, rfl, ite2 (fun hb => ?_) (fun hb => ?_)⟩
        · have hb : (qs[i].1.filter fun y => !decide (y ∈ placed)) ≠ [] := by simpa using hb
          refine ⟨_, rfl, by show 1 ≤ sizeLine; decide, fun Fa hFa => ?_⟩
          have eF := same_new (o := HO.lst [V.ref D]) hFa
          have dD : ∀ H8, Same (upd (upd H6 E1 (HO.lst [])) Fa (HO.lst [V.ref D])) H8 → Df K H2 H8 (V.ref D) (encLs (qs[i].1.filter fun y => !decide (y ∈ placed))) := fun H8 e8 =>
            .lst (h25 hDn) (e8 _ _ (eF _ _ (eE _ _ hD6))) (dfAll_strs _)
          refine ⟨_, rfl, rfl, _, rfl, ite2 (fun hl => ?_) (fun hl => ?_)⟩
          · have hl : qs[i].2 ≠ eS := by simpa using hl
            refine ⟨_, rfl, .inl ⟨rfl, _, SqL.of upd_same⟩, _, rfl, by show 1 ≤ sizeLine; decide, fun G hG => ⟨Fa, _, _, rfl, rfl, (same_new hG) _ _ upd_same, small1000 (by simp), ?_⟩⟩
            have eG := same_new (o := HO.lst [V.str qs[i].2]) hG
            have nGF : G ≠ Fa := fun z => by rw [z, upd_same] at hG; cases hG
            have e7 : Same H6 (upd (upd (upd (upd H6 E1 (HO.lst [])) Fa (HO.lst [V.ref D])) G (HO.lst [V.str qs[i].2])) Fa (HO.lst ([V.ref D] ++ [V.ref G]))) := same_upd_new ((eE.trans eF).trans eG) (eE.free hFa)
            exact fin _ (fun _ _ h => h) Fa _ [qs[i].1.filter fun y => !decide (y ∈ placed), [qs[i].2]] _ e7 (eE.free hFa) upd_same (.cons (.lst (h25 hDn) (e7 _ _ hD6) (dfAll_strs _)) (.cons (.lst (h26 ((eE.trans eF).free hG)) (by rw [upd_ne nGF]; exact upd_same) (.cons (.str _) .nil)) .nil))
              (by unfold freshM lastM; rw [if_neg hl]; simp) (by simp)
          · have hl : qs[i].2 = eS := by simpa using hl
            exact fin _ (fun _ _ h => h) Fa _ [qs[i].1.filter fun y => !decide (y ∈ placed)] _ (eE.trans eF) (eE.free hFa) upd_same (.cons (dD _ (Same.refl _)) .nil)
              (by unfold freshM lastM; rw [if_pos hl]; simp) (by simp)
        · have hb : (qs[i].1.filter fun y => !decide (y ∈ placed)) = [] := by simpa using hb
          refine ⟨Nat.zero_le _, fun Fa hFa => ?_⟩
          have eF := same_new (o := HO.lst []) hFa
          refine ⟨_, rfl, rfl, _, rfl, ite2 (fun hl => ?_) (fun hl => ?_)⟩
          · have hl : qs[i].2 ≠ eS := by simpa using hl
            refine ⟨_, rfl, .inl ⟨rfl, _, SqL.of upd_same⟩, _, rfl, by show 1 ≤ sizeLine; decide, fun G hG => ⟨Fa, _, _, rfl, rfl, (same_new hG) _ _ upd_same, small1000 (by simp), ?_⟩⟩
            have eG := same_new (o := HO.lst [V.str qs[i].2]) hG
            have nGF : G ≠ Fa := fun z => by rw [z, upd_same] at hG; cases hG
            have e7 : Same H6 (upd (upd (upd (upd H6 E1 (HO.lst [])) Fa (HO.lst [])) G (HO.lst [V.str qs[i].2])) Fa (HO.lst ([] ++ [V.ref G]))) := same_upd_new ((eE.trans eF).trans eG) (eE.free hFa)
            exact fin _ (fun _ _ h => h) Fa _ [[qs[i].2]] _ e7 (eE.free hFa) upd_same (.cons (.lst (h26 ((eE.trans eF).free hG)) (by rw [upd_ne nGF]; exact upd_same) (.cons (.str _) .nil)) .nil)
              (by unfold freshM lastM; rw [if_neg hl, hb]; simp) (by simp)
          · have hl : qs[i].2 = eS := by simpa using hl
            exact fin _ (fun _ _ h => h) Fa _ [] _ (eE.trans eF) (eE.free hFa) upd_same .nil
              (by unfold freshM lastM; rw [if_pos hl, hb]; simp) (by simp)
    · rintro σ H' ⟨o4, o5, o6, o7, o8, o9, rfl, e4, e14, bls, bvs, q1, q2, q3, q4, q5⟩
      rw [lu, List.take_length] at q4
      exact ⟨_, rfl, hq _ _ bls (e1.trans e14) q4 (.lst ((e1.trans (Same.refl _)).free hBa1) q2 (q3.old (e1.trans e2)))⟩
theorem ok_index_for (F : FnD K "index_for" "index_for" s_index_for f fd) (D_blocks_of : Def P w K mg base "blocks_of" 5 ["questions"] (spBlocks K)) : FnOk P w K mg base CX0 6 f fd ["questions"] (spIdxFor K) := by
  refine F.ok sc_index_for (fun vs H Q E h => ?_) (fun cdv A outer s H vs Q E hr h => ?_)
  · obtain ⟨v, qs, rfl, _⟩ := h; rfl
  · obtain ⟨v, qs, rfl, hd, hv, h64, hasc, hlen, hq⟩ := h
    refine ⟨_, PSs.nox (pss_one (ps_ret (pe_callTy (k_tuple (K := K) rfl) (by rfl) T.m_tuple (by decide +kernel) (pa_cons (pe_lc2 (own := [("block", 1), ("column", 2)]) (vs1 := [2]) rfl sc_index_for.nd (k_piL (K := K) rfl (pe_def D_blocks_of (hr.mono (by first | decide | omega)) (pa_cons (pv 0) pa_nil))) (blkOk_by (own := [("block", 1), ("column", 2)]) (N := N_index_for) (by kernel_rfl)) (by decide) (fun _ _ _ _ _ => (pg_name (i := 1) sc_index_for.nd rfl (by first | exact Or.inl rfl | exact Or.inr rfl))) (fun _ _ _ _ _ => pts_nil) (fun _ _ _ _ _ => (k_piL (K := K) rfl (pv 1))) (fun _ _ _ _ _ => (pg_name (i := 2) sc_index_for.nd rfl (by first | exact Or.inl rfl | exact Or.inr rfl))) (fun _ _ _ _ _ => pts_nil) (fun _ _ _ _ _ => (pv 2))) pa_nil)))), ?_⟩
    refine ⟨_, rfl, v, qs, rfl, hd, hv, h64, hasc, fun v' H1 bls e1 hfl d1 => ?_⟩
    unfold encLs at d1
    obtain ⟨a, xs, rfl, na, ha, dx⟩ : ∃ a xs, v' = V.ref a ∧ H a = Option.none ∧ H1 a = some (.lst xs) ∧ DfAll K H H1 xs (bls.map fun b => .list (b.map PyData.str)) := by
      cases d1 with | lst a1 a2 a3 => exact ⟨_, _, rfl, a1, a2, a3⟩
    have lx : xs.length = bls.length := by have := dx.len; simpa using this
    have lfl : bls.flatten.length < 1000 := by rw [hfl]; exact hlen
    refine ⟨a, rfl, ⟨_, SqL.of ha⟩, fun D hD => ?_⟩
    refine ⟨fun i m H' => m = xs.length - i ∧ i ≤ xs.length ∧ Same H1 H' ∧ H' D = some (.lst (((bls.take i).flatten).map V.str)), ⟨xs.length, by simp, Nat.zero_le _, same_new hD, by simpa using upd_same⟩, ?_⟩
    rintro i m H2 ⟨rfl, hi, e2, hD2⟩
    by_cases hlt : i < xs.length
    · have hib : i < bls.length := by omega
      have hbi : bls[i]? = some bls[i] := List.getElem?_eq_getElem hib
      have hxi : xs[i]? = some xs[i] := List.getElem?_eq_getElem hlt
      refine .inr ⟨⟨xs, xs[i], SqL.of (e2 _ _ ha), hxi⟩, _, fun H' h => ⟨xs.length - (i + 1), by omega, rfl, hlt, h⟩, fun x H' y => ?_⟩
      obtain ⟨rfl, y⟩ := y
      have hx := y xs (SqL.of (e2 _ _ ha))
      rw [hxi] at hx
      cases hx
      obtain ⟨d, k1, k2⟩ := dpAll_get dx.dp hxi
      rw [List.getElem?_map, hbi] at k1
      cases k1
      obtain ⟨b, hb, hsb⟩ : ∃ b, xs[i] = V.ref b ∧ SqL K H1 b (bls[i].map V.str) := by
        generalize xs[i] = x at k2
        cases k2 with
        | lst hs hh => rw [dpAll_toStrs hh] at hs; exact ⟨_, rfl, hs⟩
      refine ⟨rfl, tY ?_⟩
      refine iteT ?_
      refine ⟨xs[i], rfl, b, hb, ⟨_, sqL_ext e2 hsb⟩, ?_⟩
      have tk : bls.take (i + 1) = bls.take i ++ [bls[i]] := by rw [List.take_add_one, hbi]; rfl
      have lall : ((bls.take i).flatten).length + bls[i].length < 1000 := by
        have : bls.flatten = (bls.take (i+1)).flatten ++ (bls.drop (i+1)).flatten := by rw [← List.flatten_append, List.take_append_drop]
        rw [this, tk] at lfl
        simp only [List.flatten_append, List.length_append, List.flatten_cons, List.flatten_nil, List.append_nil] at lfl
        omega
      refine ⟨fun j k H' => k = bls[i].length - j ∧ j ≤ bls[i].length ∧ Same H1 H' ∧ H' D = some (.lst (((bls.take i).flatten ++ bls[i].take j).map V.str)), ⟨bls[i].length, by simp, Nat.zero_le _, e2, by simpa using hD2⟩, ?_⟩
      rintro j k H3 ⟨rfl, hj, e3, hD3⟩
      have hsb3 := sqL_ext e3 hsb
      by_cases hjl : j < bls[i].length
      · have hbj : (bls[i].map V.str)[j]? = some (V.str bls[i][j]) := by rw [List.getElem?_map, List.getElem?_eq_getElem hjl]; rfl
        refine .inr ⟨⟨_, _, hsb3, hbj⟩, _, fun H' h => ⟨bls[i].length - (j + 1), by omega, rfl, hjl, h⟩, fun x H' y => ?_⟩
        obtain ⟨rfl, y⟩ := y
        have hx := y _ hsb3
        rw [hbj] at hx
        cases hx
        refine ⟨rfl, tY ?_⟩
        refine iteT ?_
        refine ⟨_, rfl, _, hD3, small1000 (by rw [List.length_map, List.length_append, List.length_take]; omega), same_upd_new e3 hD, ?_⟩
        have tj : bls[i].take (j + 1) = bls[i].take j ++ [bls[i][j]] := by rw [List.take_add_one, List.getElem?_eq_getElem hjl]; rfl
        rw [upd_same, tj]; simp only [List.map_append, List.map_cons, List.map_nil, List.append_assoc]
      · have ej : j = bls[i].length := by omega
        subst ej
        refine .inl ⟨⟨_, hsb3, by simp⟩, e3, ?_⟩
        rw [List.take_length] at hD3
        rw [tk, hD3, List.flatten_append]; simp only [List.flatten_cons, List.flatten_nil, List.append_nil]
    · have ei : i = xs.length := by omega
      subst ei
      refine .inl ⟨⟨xs, SqL.of (e2 _ _ ha), Nat.le_refl _⟩, ?_⟩
      rw [List.take_of_length_le (by omega), hfl] at hD2
      refine ⟨D, _, rfl, .inl ⟨SqL.of hD2, fun l hl => hq _ _ ((e1.trans e2).trans (same_new hl)) (dp_mkL (SqT.of upd_same))⟩⟩
end
end NkW
end
section
set_option Elab.async false
set_option linter.all false
set_option maxRecDepth 100000
set_option maxHeartbeats 4000000
/-! list(d.values()); o[i] read for o[i] += e -/
namespace NkO
open PySem PySem.Spec PyProof.Rows L2

/-- a view of a dict's values -/
def VwO (a p : Addr) : HO := .ext fun h => h.IsValuesView p a
theorem vwo_ok {P : Program} {w : World} {H : Hp} {h : Heap} {a p : Addr} (x : h.IsValuesView p a) : ObjOk P w H h p (VwO a p) := by
  obtain ⟨o, e, c, d⟩ := id x
  exact ⟨x, ⟨o, e⟩, fun h1 h2 ⟨o', e', c', d'⟩ k => ⟨o', k _ e', c', d'⟩⟩
section
variable {X : Cx}
def rVals : V → List V → Hp → VK → Prop := fun x vs H Q => ∃ a kvs, x = .ref a ∧ vs = [] ∧ H a = some (.dK kvs) ∧ ∀ p, H p = none → Q (.ref p) (upd H p (VwO a p))
theorem mt_values : MtR X "dict.values" rVals := by
  intro pins s σ H x xs v us Q I rx rv h
  obtain ⟨a, kvs, rfl, rfl, ha, q⟩ := h
  cases rv
  obtain rfl : v = Value.ref a := rx
  obtain ⟨_, hsys, vs, rel, dof⟩ := dk_of I.hok ha
  obtain ⟨ep, dat⟩ := dof.dictAt
  obtain ⟨ob, es, ho, ex, hdat, hko, hpr, hnd⟩ := id dat
  refine call_meetsIn F.slot_dict_values ⟨ob, ho, ex.1⟩ F.entry_dict_values (F.args_dict_values_1 _) (meets_dict_values (mixKind X.prog X.w) a hsys) ⟨⟨vs, dof⟩, ?_⟩
  exact ⟨.ref s.heap.objs.size, _, I.laid (t' := s.toks) (fun b u e => Heap.get?_push_of_some _ e) (Nat.le_refl _) (vwo_ok ⟨_, Heap.get?_push_size _ rfl, rfl, rfl⟩), rfl, q _ (I.hok.fresh (Nat.le_refl _))⟩
def rListVals : List V → Hp → VK → Prop := fun xs H Q => ∃ a p kvs, xs = [.ref p] ∧ H p = some (VwO a p) ∧ H a = some (.dK kvs) ∧ ∀ l, H l = none → Q (.ref l) (upd H l (.lst (kvs.map (·.2))))
theorem kvs_vals {κ : Type} {kvs : List (κ × V)} {vs : List (κ × Value)} (r : KV kvs vs) : Vals (kvs.map (·.2)) (vs.map (·.2)) := by
  unfold KV at r
  induction r with
  | nil => exact .nil
  | cons h t ih => exact .cons h.2 ih
theorem cr_listVals (hc : X.calm = true) : CallR X (.type "list") rListVals := by
  intro pins s σ H xs us Q I r h
  obtain ⟨a, p, kvs, rfl, hp, ha, q⟩ := h
  rw [Vals.ref1 r]
  obtain ⟨hlen, hsys, vs, rel, dof⟩ := dk_of I.hok ha
  obtain ⟨ep, dat⟩ := dof.dictAt
  have hv : s.heap.IsValuesView p a := (I.hok p _ hp).1
  have lv : vs.length = kvs.length := (KV.length rel).symm
  refine PySem.W.kdl_call (PySem.W.kdl_values (knd := mixKind X.prog X.w) (kvs := vs) (ep := ep)) (I.ok.hd hc) ⟨hv, dat⟩ (by rw [lv]; exact hlen) fun h' tk acc' c' hk hD hacc => ?_
  have ea : acc'.toList = vs.map (·.2) := PySem.W.kdl_vals_eq acc'.toList (by rw [Array.length_toList]; exact hacc.1) fun j v e => hacc.2 j v (by rw [← Array.getElem?_toList]; exact e)
  have hfr : H s.heap.objs.size = none := I.hok.fresh (Nat.le_refl _)
  refine ⟨.ref s.heap.objs.size, _, I.laid (t' := tk) (o := .lst (kvs.map (·.2))) hk (Nat.le_refl _) ⟨by rw [List.length_map]; exact hlen, vs.map (·.2), c', kvs_vals rel, ?_⟩, rfl, q _ hfr⟩
  rw [hD, ← ea]
end
end NkO
end
section
set_option Elab.async false
set_option linter.all false
set_option maxRecDepth 100000
set_option maxHeartbeats 2000000
/-! lots.py: the matching -/
namespace NkW
open PySem PySem.Spec PyProof.Rows L2 NkO NkR NkS NkQ NkM
abbrev s_lead : Stmt := top 41
abbrev N_lead : List Str := ["above", "below", "low", "seen", "high"]
theorem sc_lead : FnScope N_lead ["above", "below", "low", "seen"] (defScope s_lead) := ⟨rfl, rfl, rfl, by decide +kernel, rfl, by decide +kernel, by decide +kernel⟩
abbrev s_matched : Stmt := top 42
abbrev N_matched : List Str := ["above", "order", "below", "low", "high"]
theorem sc_matched : FnScope N_matched ["above", "order"] (defScope s_matched) := ⟨rfl, rfl, rfl, by decide +kernel, rfl, by decide +kernel, by decide +kernel⟩
abbrev s_chained : Stmt := top 43
abbrev N_chained : List Str := ["match", "many", "led", "found", "thing", "chain"]
theorem sc_chained : FnScope N_chained ["match", "many"] (defScope s_chained) := ⟨rfl, rfl, rfl, by decide +kernel, rfl, by decide +kernel, by decide +kernel⟩

/-! ### dicts of numbers -/
def dk (m : List (Nat × Nat)) : List (Key × V) := m.map fun p => (Sum.inl (p.1 : Int), V.int p.2)
def sk (s : List Nat) : List (Key × V) := s.map fun (h : Nat) => (Sum.inl (h : Int), V.bl true)
theorem dk_get (m : List (Nat × Nat)) (k : Nat) : valV (dk m) (Sum.inl (k : Int)) = (NkM.get m k).map fun (v : Nat) => V.int v := by
  unfold NkM.get
  induction m with
  | nil => rfl
  | cons a m ih =>
    by_cases h : a.1 = k
    · have : (dk (a :: m)) = (Sum.inl (a.1 : Int), V.int a.2) :: dk m := rfl
      rw [this, valV_pos (by rw [h]), List.find?_cons_of_pos (by simpa using h)]; rfl
    · have : (dk (a :: m)) = (Sum.inl (a.1 : Int), V.int a.2) :: dk m := rfl
      rw [this, valV_neg (by simp; omega), List.find?_cons_of_neg (by simpa using h)]; exact ih
theorem dk_any (m : List (Nat × Nat)) (k : Nat) : ((dk m).any fun kv => decide (kv.1 = Sum.inl (k : Int))) = m.any fun p => p.1 == k := by
  unfold dk
  rw [List.any_map]
  congr 1; funext p
  by_cases h : p.1 = k
  · simp [Function.comp, h]
  · have : ¬ ((p.1 : Int) = k) := by omega
    simp [Function.comp, h, this]
theorem dk_put (m : List (Nat × Nat)) (k v : Nat) : putK (dk m) (Sum.inl (k : Int)) (V.int v) = dk (NkM.put m k v) := by
  unfold putK NkM.put
  rw [dk_any]
  split
  · unfold dk
    rw [List.map_map, List.map_map]
    refine List.map_congr_left fun p _ => ?_
    by_cases h : p.1 = k
    · simp [Function.comp, h]
    · have : ¬ ((p.1 : Int) = k) := by omega
      simp [Function.comp, h, this]
  · simp [dk]
theorem sk_get (s : List Nat) (k : Nat) : (valV (sk s) (Sum.inl (k : Int))).isSome = decide (k ∈ s) := by
  induction s with
  | nil => rfl
  | cons a s ih =>
    have e : sk (a :: s) = (Sum.inl (a : Int), V.bl true) :: sk s := rfl
    by_cases h : a = k
    · rw [e, valV_pos (by rw [h])]; simp [h]
    · have : ¬ k = a := fun z => h z.symm
      rw [e, valV_neg (by simp; omega), ih]; simp [this]
theorem sk_put (s : List Nat) (k : Nat) (h : k ∉ s) : putK (sk s) (Sum.inl (k : Int)) (V.bl true) = sk (s ++ [k]) := by
  unfold putK
  have : ((sk s).any fun kv => decide (kv.1 = Sum.inl (k : Int))) = false := by
    rw [List.any_eq_false]
    intro x hx
    obtain ⟨y, hy, rfl⟩ := List.mem_map.1 hx
    have : y ≠ k := fun e => h (e ▸ hy)
    simp; omega
  rw [this]; simp [sk]
theorem dk_len (m : List (Nat × Nat)) : (dk m).length = m.length := by simp [dk]
theorem sk_len (m : List Nat) : (sk m).length = m.length := by simp [sk]

def encNs (l : List Nat) : PyData := .list (l.map fun (n : Nat) => PyData.int n)
def rowsAb (ab : Nat → List Nat) (n : Nat) : PyData := .list ((List.range n).map fun i => encNs (ab i))
section
variable {K : PySem.W.Frag} {H H0 : Hp}
theorem dpAll_nats : ∀ {vs : List V} {l : List Nat}, DpAll K H vs (l.map fun (n : Nat) => PyData.int n) → vs = l.map fun (n : Nat) => V.int n
  | _, [], h => by cases h; rfl
  | _, n :: ns, h => by cases h with | cons h1 h2 => cases h1; rw [dpAll_nats h2]; rfl
theorem mk_nats (l : List Nat) : DpAll K H (l.map fun (n : Nat) => V.int n) (l.map fun (n : Nat) => PyData.int n) := by
  induction l with
  | nil => exact .nil
  | cons n ns ih => exact .cons (.int _) ih
theorem mkf_nats (l : List Nat) : DfAll K H0 H (l.map fun (n : Nat) => V.int n) (l.map fun (n : Nat) => PyData.int n) := by
  induction l with
  | nil => exact .nil
  | cons n ns ih => exact .cons (.int _) ih
theorem dpNs {v : V} {l : List Nat} (h : Dp K H v (encNs l)) : ∃ a, v = .ref a ∧ SqL K H a (l.map fun (n : Nat) => V.int n) := by
  unfold encNs at h
  cases h with
  | lst hs ha => rw [dpAll_nats ha] at hs; exact ⟨_, rfl, hs⟩
/-- a row of above -/
theorem ab_row {v : V} {ab : Nat → List Nat} {n i : Nat} (h : Dp K H v (rowsAb ab n)) (hi : i < n) : ∃ A xs r, v = .ref A ∧ SqL K H A xs ∧ atI xs (i : Int) = some (.ref r) ∧ SqL K H r ((ab i).map fun (n : Nat) => V.int n) := by
  unfold rowsAb at h
  cases h with
  | @lst A xs ds hs ha =>
    have : ((List.range n).map fun i => encNs (ab i))[i]? = some (encNs (ab i)) := by
      rw [List.getElem?_map, List.getElem?_range hi]; rfl
    obtain ⟨x, h1, h2⟩ := dpAll_gt ha this
    obtain ⟨r, rfl, hr⟩ := dpNs h2
    exact ⟨A, xs, r, rfl, hs, atI_nat h1, hr⟩
end

/-- lead, with fuel f -/
def spLead (K : PySem.W.Frag) (f : Nat) : Sp := fun vs H Q _ => ∃ (v : V) (ab : Nat → List Nat) (n : Nat) (Ba Sa : Addr) (low : Nat) (b : List (Nat × Nat)) (s : List Nat), vs = [v, .ref Ba, .int low, .ref Sa] ∧
  Dp K (wo [Ba, Sa] H) v (rowsAb ab n) ∧ Ba ≠ Sa ∧ H Ba = some (.dK (dk b)) ∧ H Sa = some (.dK (sk s)) ∧ low < n ∧ (∀ l, ∀ x ∈ ab l, x < n) ∧ Mt ab b ∧ (∀ p ∈ b, p.2 < n) ∧ s.Nodup ∧ (∀ x ∈ s, x < n) ∧ n ≤ f + s.length ∧ n ≤ 48 ∧
  ∀ H', Same (wo [Ba, Sa] H) H' → H' Ba = some (.dK (dk (leadGo ab f (ab low) low b s).2.1)) → H' Sa = some (.dK (sk (leadGo ab f (ab low) low b s).2.2)) → Q (.bl (leadGo ab f (ab low) low b s).1) H'

section
variable {P : Program} {w : World} {K : PySem.W.Frag} {mg : Str → Option Value} {base : Heap} {c : Ad} {f : Addr} {fd : FuncData} (T : Tx K mg c)
theorem mt_len {ab : Nat → List Nat} {n : Nat} {b : List (Nat × Nat)} (hab : ∀ l, ∀ x ∈ ab l, x < n) (h : Mt ab b) : b.length ≤ n := by
  have : (b.map (·.1)).length ≤ (List.range n).length := h.keys.length_le_of_subset (fun x hx => by
    obtain ⟨p, hp, rfl⟩ := List.mem_map.1 hx
    exact List.mem_range.2 (hab _ _ (h.edge p hp)))
  simpa using this
/-- what lead may call: itself with less fuel -/
def spLd (K : PySem.W.Frag) : Nat → Sp
  | 0 => fun _ _ _ _ => False
  | g + 1 => spLead K g
theorem wo_mono {Ds : List Addr} {H H' : Hp} (e : Same (wo Ds H) H') : Same (wo Ds H) (wo Ds H') := fun b o h => by
  have hb : b ∉ Ds := fun z => by rw [wo_none z] at h; cases h
  rw [wo_at hb]; exact e b o h
theorem ok_lead_step (F : FnD K "lead" "lead" s_lead f fd) (g : Nat) (D_lead : Def P w K mg base "lead" g ["above", "below", "low", "seen"] (spLd K g)) :
    FnOk P w K mg base CX0 (g + 1) f fd ["above", "below", "low", "seen"] (spLead K g) := by
  refine F.ok sc_lead (fun vs H Q E h => ?_) (fun cdv A outer s H vs Q E hr h => ?_)
  · obtain ⟨v, ab, n, Ba, Sa, low, b, s, rfl, _⟩ := h; rfl
  · obtain ⟨v, ab, n, Ba, Sa, low, b, sn, rfl, hA, hne, hB, hS, hlow, hab, mt, hb2, snd, slt, hfu, h48, hq⟩ := h
    refine ⟨_, PSs.nox (pss_cons (ps_for PassesOwn.never rfl (k_piL (K := K) rfl (pe_ix (k_ixL (K := K) rfl) (pv 0) (pv 2) (fun _ _ => rfl))) (pg_name (i := 4) sc_lead.nd rfl (by first | exact Or.inl rfl | exact Or.inr rfl))
    (pss_one (ps_if (pt_cmp (pc_dnotin (hu_of hr) (pv 4) (pv 3))) (pss_cons (ps_dput (hu_of hr) (pv 3) (pv 4) pe_bl rfl)
    (pss_one (ps_if (PW.pt (pw_or (pt_cmp (pc_dnotin (hu_of hr) (pv 4) (pv 1))) (pw_or1 (pt_val (pe_def D_lead (hr.mono (by first | decide | omega)) (pa_cons (pv 0) (pa_cons (pv 1) (pa_cons (pe_dget (hu_of hr) (pv 1) (pv 4) (fun _ _ => rfl)) (pa_cons (pv 3) pa_nil))))))))) (pss_cons (ps_dput (hu_of hr) (pv 1) (pv 4) (pv 2) rfl)
    (pss_one (ps_ret pe_bl))) pss_nil))) pss_nil)))
    (pss_one (ps_ret pe_bl))), ?_⟩
    obtain ⟨Aa, xs, r, rfl, hAa, hat, hr'⟩ := ab_row hA hlow
    refine ⟨_, rfl, _, rfl, Aa, xs, _, _, rfl, rfl, sqL_ext wo_same hAa, hat, r, rfl, ⟨_, sqL_ext wo_same hr'⟩, ?_⟩
    generalize hrr : leadGo ab g (ab low) low b sn = res at hq
    refine forG (H0 := wo [Ba, Sa] H) (src_list hr') (fun i σ H' => ∃ o bi si, σ = [some (.ref Aa), some (.ref Ba), some (.int low), some (.ref Sa), o] ∧ Same (wo [Ba, Sa] H) H' ∧ H' Ba = some (.dK (dk bi)) ∧ H' Sa = some (.dK (sk si)) ∧
      leadGo ab g ((ab low).drop i) low bi si = res ∧ Mt ab bi ∧ (∀ p ∈ bi, p.2 < n) ∧ si.Nodup ∧ (∀ x ∈ si, x < n) ∧ n ≤ g + si.length) ?_ ?_ ?_ ?_
    · exact ⟨_, b, sn, rfl, wo_same, hB, hS, by simpa using hrr, mt, hb2, snd, slt, hfu⟩
    · rintro i σ H' ⟨_, _, _, _, e, _⟩; exact e
    · rintro i x σ H1 H2 hi ⟨o, bi, si, rfl, e1, hB1, hS1, hl1, mt1, lo1, nd1, lt1, fu1⟩ e2 hx
      have hih : i < (ab low).length := by simpa using hi
      rw [List.getElem?_map, List.getElem?_eq_getElem hih] at hx
      cases hx
      generalize hhh : (ab low)[i] = hh at *
      have hab_h : hh ∈ ab low := by rw [← hhh]; exact List.getElem_mem hih
      have hn : hh < n := hab _ _ hab_h
      have hdrop : (ab low).drop i = hh :: (ab low).drop (i + 1) := by rw [List.drop_eq_getElem_cons hih, hhh]
      rw [hdrop, leadGo] at hl1
      have hB2 := e2 _ _ hB1
      have hS2 := e2 _ _ hS1
      refine ⟨_, rfl, _, rfl, Sa, _, rfl, DGet.k (k := Sum.inl (hh : Int)) hS2, _, rfl, ?_⟩
      rw [sk_get]
      by_cases hm : hh ∈ si
      · rw [if_pos hm] at hl1
        refine iF (by simp [hm]) ?_
        exact ⟨_, bi, si, rfl, e1.trans e2, hB2, hS2, hl1, mt1, lo1, nd1, lt1, fu1⟩
      · rw [if_neg hm] at hl1
        refine iT (by simp [hm]) ?_
        have nd2 : (si ++ [hh]).Nodup := by
          rw [List.nodup_append]
          exact ⟨nd1, by simp, fun a ha b hb => by simp at hb; subst hb; intro e; exact hm (e ▸ ha)⟩
        have lt2 : ∀ x ∈ si ++ [hh], x < n := by
          intro x hx; rcases List.mem_append.1 hx with hx | hx
          · exact lt1 x hx
          · simp at hx; exact hx ▸ hn
        have lsi : (sk si).length < sizeLine := small1000 (by
          have : si.length ≤ (List.range n).length := nd1.length_le_of_subset (fun x hx => List.mem_range.2 (lt1 x hx))
          simp at this; rw [sk_len]; omega)
        have lbi : ∀ b' : List (Nat × Nat), Mt ab b' → (dk b').length < sizeLine := fun b' hb' => small1000 (by rw [dk_len]; have := mt_len hab hb'; omega)
        refine ⟨_, rfl, _, rfl, Sa, _, rfl, DPut.k (k := Sum.inl (hh : Int)) hS2 lsi, ?_⟩
        rw [sk_put si hh hm]
        generalize hH3 : upd H2 Sa (HO.dK (sk (si ++ [hh]))) = H3
        have e3 : Same (wo [Ba, Sa] H) H3 := by rw [← hH3]; exact same_upd_wo (by simp) (e1.trans e2)
        have hB3 : H3 Ba = some (.dK (dk bi)) := by rw [← hH3, upd_ne hne]; exact hB2
        have hS3 : H3 Sa = some (.dK (sk (si ++ [hh]))) := by rw [← hH3]; exact upd_same
        refine ⟨_, rfl, _, rfl, Ba, _, rfl, DGet.k (k := Sum.inl (hh : Int)) hB3, _, rfl, ?_⟩
        rw [dk_get]
        cases hg : NkM.get bi hh with
        | none =>
          simp only [hg] at hl1
          refine iT (by simp) ?_
          refine iT rfl ?_
          refine ⟨_, rfl, _, rfl, _, rfl, Ba, _, rfl, DPut.k (k := Sum.inl (hh : Int)) hB3 (lbi bi mt1), ?_⟩
          rw [← hl1] at hq
          rw [dk_put]
          exact hq _ (same_upd_wo (by simp) e3) upd_same (by rw [upd_ne hne.symm]; exact hS3)
        | some l =>
          simp only [hg] at hl1
          refine iF (by simp) ?_
          have hln : l < n := lo1 _ (get_mem hg)
          refine ⟨_, rfl, _, rfl, _, rfl, _, rfl, Ba, V.int l, rfl, ?_, ?_⟩
          · have := DGet.k (k := Sum.inl (hh : Int)) hB3
            rw [dk_get, hg] at this; exact this
          refine ⟨_, rfl, ?_⟩
          cases g with
          | zero =>
            exfalso
            have : (si ++ [hh]).length ≤ (List.range n).length := nd2.length_le_of_subset (fun x hx => List.mem_range.2 (lt2 x hx))
            simp at this; omega
          | succ g =>
            have R := leadGo_led ab n hab g (ab l) l bi (si ++ [hh]) (fun x hx => hx) mt1 nd2 lt2 (by simp; omega)
            refine ⟨_, ab, n, Ba, Sa, l, bi, si ++ [hh], rfl, dp_ext (wo_mono e3) hA, hne, hB3, hS3, hln, hab, mt1, lo1, nd2, lt2, by simp; omega, h48, fun H4 e4 hB4 hS4 => ⟨_, rfl, ?_⟩⟩
            simp only [] at hl1
            generalize leadGo ab g (ab l) l bi (si ++ [hh]) = rr at R hl1 hB4 hS4
            have e4' : Same (wo [Ba, Sa] H) H4 := fun b o h => e4 b o (wo_mono e3 b o h)
            by_cases hr1 : rr.1 = true
            · rw [if_pos hr1] at hl1
              refine iT hr1 ?_
              obtain ⟨y1, y2, y3⟩ := R.yes hr1
              refine ⟨_, rfl, _, rfl, _, rfl, Ba, _, rfl, DPut.k (k := Sum.inl (hh : Int)) hB4 (lbi _ y1), ?_⟩
              rw [← hl1] at hq
              rw [dk_put]
              exact hq _ (same_upd_wo (by simp) e4') upd_same (by rw [upd_ne hne.symm]; exact hS4)
            · rw [if_neg hr1] at hl1
              have hr1' : rr.1 = false := by simpa using hr1
              obtain ⟨n1, _, _⟩ := R.no hr1'
              refine iF hr1' ?_
              refine ⟨_, rr.2.1, rr.2.2, rfl, e4', hB4, hS4, hl1, by rw [n1]; exact mt1, by rw [n1]; exact lo1, R.nd, R.lt, ?_⟩
              have : (si ++ [hh]).length ≤ rr.2.2.length := nd2.length_le_of_subset R.seen
              simp at this; omega
    · rintro σ H1 ⟨o, bi, si, rfl, e1, hB1, hS1, hl1, _⟩
      rw [List.length_map, List.drop_length, leadGo] at hl1
      rw [← hl1] at hq
      exact hq _ e1 hB1 hS1
theorem ok_lead (F : FnD K "lead" "lead" s_lead f fd) (m : mg "lead" = some (.ref f)) (kp : PySem.W.keepIn K (.ref f) = true) (bs : Binds K fd ["above", "below", "low", "seen"] []) :
    ∀ g, FnOk P w K mg base CX0 (g + 1) f fd ["above", "below", "low", "seen"] (spLead K g)
  | 0 => ok_lead_step F 0 ⟨f, fd, ⟨fun _ _ _ _ h => h.elim, fun _ _ _ _ _ _ _ _ _ _ _ _ _ h => h.elim⟩, m, kp, bs⟩
  | g + 1 => ok_lead_step F (g + 1) ⟨f, fd, ok_lead F m kp bs g, m, kp, bs⟩
/-- lead with any fuel up to 48 -/
def spLeadN (K : PySem.W.Frag) : Sp := fun vs H Q E => ∃ g, g ≤ 48 ∧ spLead K g vs H Q E
theorem lead_any (h : ∀ g, FnOk P w K mg base CX0 (g + 1) f fd ["above", "below", "low", "seen"] (spLead K g)) : FnOk P w K mg base CX0 50 f fd ["above", "below", "low", "seen"] (spLeadN K) := by
  refine ⟨fun vs H Q E ⟨g, _, hg⟩ => (h g).len vs H Q E hg, fun A outer s H args us vs Q E hr e0 hb r ⟨g, hg, hsp⟩ => ?_⟩
  exact (h g).run A outer s H args us vs Q E (hr.mono (by omega)) e0 hb r hsp

/-- a dict comprehension over any source, its keys unlike -/
theorem dcM {J : It} {H0 H1 : Hp} {n : Nat} {Item : Nat → V → Hp → Prop} {g : TG} {tk tv : TE} {ws : List Nat} {σ : L2.St} {D : Addr} {Qd : Hp → Prop} (hJ : SrcJ J H0 n Item) (e0 : Same H0 H1) (hD : H1 D = Option.none)
    (kz : List (Key × V)) (hn : kz.length = n) (hz : n < sizeLine) (nd : (kz.map (·.1)).Nodup)
    (hs : ∀ i k z x H2 (R : V → V → Hp → Prop), kz[i]? = some (k, z) → Same H1 H2 → Item i x H2 → (∀ H4, Same H2 H4 → R (kV k) z H4) →
      g x (wipe σ ws) H2 fun σ2 H3 => wipe σ2 ws = wipe σ ws ∧ tk σ2 H3 fun y H4 => tv σ2 H4 fun z H5 => R y z H5)
    (hd : ∀ H', Same H1 H' → H' D = some (.dK kz) → Qd H') :
    ∃ W : Nat → Nat → Hp → Prop, (∃ m, W 0 m (upd H1 D (.dK []))) ∧ ∀ i m H, W i m H →
  (J.stop i H ∧ Qd H) ∨ (J.go i H ∧ ∃ Nx : Hp → Prop, (∀ H', Nx H' → ∃ m', m' < m ∧ W (i + 1) m' H') ∧ ∀ x H', J.yld i H x H' → g x (wipe σ ws) H' fun σ2 H2 => wipe σ2 ws = wipe σ ws ∧ tYes σ2 H2 fun b H3 =>
    if b = true then tk σ2 H3 fun y H4 => tv σ2 H4 fun z H5 => ∃ kvs k, y = kV k ∧ H5 D = some (.dK kvs) ∧ kvs.length < sizeLine ∧ Nx (upd H5 D (.dK (putK kvs k z))) else Nx H3) := by
  refine ⟨fun i m H => m = n - i ∧ i ≤ n ∧ Same H1 H ∧ H D = some (.dK (kz.take i)), ⟨n, by simp, Nat.zero_le _, same_new hD, by simpa using upd_same⟩, ?_⟩
  rintro i m H ⟨rfl, hi, p1, p2⟩
  by_cases hlt : i < n
  · obtain ⟨g1, g2⟩ := hJ.go i H (e0.trans p1) hlt
    refine .inr ⟨g1, _, fun H' h => ⟨n - (i + 1), by omega, rfl, hlt, h⟩, fun x H' y => ?_⟩
    obtain ⟨e1, it⟩ := g2 x H' y
    have hik : i < kz.length := by omega
    have hk : kz[i]? = some kz[i] := List.getElem?_eq_getElem hik
    have tk' : kz.take (i + 1) = kz.take i ++ [kz[i]] := by rw [List.take_add_one, hk]; rfl
    refine hs i kz[i].1 kz[i].2 x H' (fun y z H5 => ∃ kvs k, y = kV k ∧ H5 D = some (.dK kvs) ∧ kvs.length < sizeLine ∧ (Same H1 (upd H5 D (.dK (putK kvs k z))) ∧ upd H5 D (.dK (putK kvs k z)) D = some (.dK (kz.take (i + 1))))) hk (p1.trans e1) it fun H4 e4 => ?_
    refine ⟨kz.take i, kz[i].1, rfl, e4 _ _ (e1 _ _ p2), by rw [List.length_take]; omega, same_upd_new ((p1.trans e1).trans e4) hD, ?_⟩
    have hnew : valV (kz.take i) kz[i].1 = Option.none := by
      have hnm : kz[i].1 ∉ (kz.take i).map (·.1) := by
        intro z
        have h2 : (kz.map (·.1)) = (kz.take i).map (·.1) ++ (kz.drop i).map (·.1) := by rw [← List.map_append, List.take_append_drop]
        rw [h2, List.nodup_append] at nd
        refine nd.2.2 _ z kz[i].1 (List.mem_map.2 ⟨kz[i], ?_, rfl⟩) rfl
        rw [List.drop_eq_getElem_cons hik]; exact List.mem_cons_self
      unfold valV
      rw [Option.map_eq_none_iff, List.find?_eq_none]
      intro p hp hpe
      exact hnm (List.mem_map.2 ⟨p, hp, by simpa using hpe⟩)
    rw [upd_same, putK_new _ hnew, tk']
  · have e : i = n := by omega
    subst e
    rw [List.take_of_length_le (by omega)] at p2
    exact .inl ⟨hJ.stop _ (e0.trans p1), hd H p1 p2⟩

def spMatched (K : PySem.W.Frag) : Sp := fun vs H Q _ => ∃ (v u : V) (ab : Nat → List Nat) (n : Nat) (o : List Nat), vs = [v, u] ∧ Dp K H v (rowsAb ab n) ∧ Dp K H u (encNs o) ∧ (∀ l, ∀ x ∈ ab l, x < n) ∧ o.Nodup ∧ (∀ x ∈ o, x < n) ∧ n ≤ 48 ∧
  ∀ d H', Same H H' → H d = Option.none → H' d = some (.dK (dk (matchedM ab n o))) → Q (.ref d) H'
theorem ok_matched (F : FnD K "matched" "matched" s_matched f fd) (D_lead : Def P w K mg base "lead" 50 ["above", "below", "low", "seen"] (spLeadN K)) : FnOk P w K mg base CX0 51 f fd ["above", "order"] (spMatched K) := by
  refine F.ok sc_matched (fun vs H Q E h => ?_) (fun cdv A outer s H vs Q E hr h => ?_)
  · obtain ⟨v, u, ab, n, o, rfl, _⟩ := h; rfl
  · obtain ⟨v, u, ab, n, o, rfl, hA, hO, hab, ond, olt, h48, hq⟩ := h
    obtain ⟨oa, rfl, ho⟩ := dpNs hO
    refine ⟨_, PSs.nox (pss_cons (ps_set (i := 2) sc_matched.nd rfl (by first | exact Or.inl rfl | exact Or.inr rfl) pe_dnewK)
    (pss_cons (ps_for PassesOwn.never rfl (k_piL (K := K) rfl (pv 1)) (pg_name (i := 3) sc_matched.nd rfl (by first | exact Or.inl rfl | exact Or.inr rfl))
    (pss_one (ps_expr (pe_def D_lead (hr.mono (by first | decide | omega)) (pa_cons (pv 0) (pa_cons (pv 2) (pa_cons (pv 3) (pa_cons pe_dnewK pa_nil))))))))
    (pss_one (ps_ret (pe_lock (pe_dc (own := [("high", 4), ("low", 3)]) rfl sc_matched.nd (pi_items (pv 2)) (blkOk_by (own := [("high", 4), ("low", 3)]) (N := N_matched) (by kernel_rfl)) (fun _ _ _ _ _ => (k_gTup (K := K) (n := 2) rfl rfl (pgs_cons (pg_name (i := 4) sc_matched.nd rfl (by first | exact Or.inl rfl | exact Or.inr rfl)) (pgs_cons (pg_name (i := 3) sc_matched.nd rfl (by first | exact Or.inl rfl | exact Or.inr rfl)) pgs_nil)))) (fun _ _ _ _ _ => pts_nil) (fun _ _ _ _ _ => (pv 3)) (fun _ _ _ _ _ => (pv 4)))))))), ?_⟩
    intro d hd
    have eD := same_new (o := HO.dK []) hd
    have hwo : ∀ {H' : Hp} {Sa : Addr}, Same H H' → H' Sa = Option.none ∨ H Sa = Option.none → Same H (wo [d, Sa] H') := fun {H' Sa} e hs b x hb => by
      rw [wo_at]
      · exact e b x hb
      · intro z
        rcases List.mem_cons.1 z with z | z
        · rw [z, hd] at hb; cases hb
        · rw [List.mem_singleton.1 z] at hb
          rcases hs with hs | hs
          · rw [e _ _ hb] at hs; cases hs
          · rw [hs] at hb; cases hb
    refine ⟨_, rfl, oa, rfl, ⟨_, sqL_ext eD ho⟩, forG (H0 := H) (src_list ho) (fun i σ H' => ∃ o3 o4 bi, σ = [some v, some (.ref oa), some (.ref d), o3, o4] ∧ Same H H' ∧ H' d = some (.dK (dk bi)) ∧
      matchedD ab n (o.drop i) bi = matchedD ab n o [] ∧ Mt ab bi ∧ (∀ p ∈ bi, p.2 < n)) ?_ ?_ ?_ ?_⟩
    · exact ⟨_, _, [], rfl, eD, upd_same, by simp, ⟨by simp, by simp⟩, by simp⟩
    · rintro i σ H' ⟨_, _, _, _, e, _⟩; exact e
    · rintro i x σ H1 H2 hi ⟨o3, o4, bi, rfl, e1, hd1, hm1, mt1, lo1⟩ e2 hx
      have hio : i < o.length := by simpa using hi
      rw [List.getElem?_map, List.getElem?_eq_getElem hio] at hx
      cases hx
      have hlow := olt _ (List.getElem_mem hio)
      rw [List.drop_eq_getElem_cons hio, matchedD] at hm1
      generalize o[i] = low at *
      refine ⟨_, rfl, _, rfl, _, rfl, fun Sa hSa => ?_⟩
      have nS : d ≠ Sa := fun z => by rw [← z, e2 _ _ hd1] at hSa; cases hSa
      have hSaH : H Sa = Option.none := (e1.trans e2).free hSa
      have e3 := same_new (o := HO.dK []) hSa
      have R := lead_led ab n hab mt1 low
      refine ⟨n, h48, v, ab, n, d, Sa, low, bi, [], rfl, dp_ext (hwo ((e1.trans e2).trans e3) (.inr hSaH)) hA, nS, e3 _ _ (e2 _ _ hd1), upd_same, hlow, hab, mt1, lo1, by simp, by simp, by simp, h48, fun H4 e4 hB4 hS4 => ?_⟩
      have e14 : Same H H4 := fun b x hb => e4 b x (hwo ((e1.trans e2).trans e3) (.inr hSaH) b x hb)
      refine ⟨_, _, (lead ab n low bi []).2.1, rfl, e14, hB4, hm1, ?_, ?_⟩
      · cases hr1 : (lead ab n low bi []).1 with
        | true => exact (R.yes hr1).1
        | false => rw [(R.no hr1).1]; exact mt1
      · cases hr1 : (lead ab n low bi []).1 with
        | true =>
          intro p hp
          have := (R.yes hr1).2.1.mem_iff.1 (List.mem_map.2 ⟨p, hp, rfl⟩)
          rcases List.mem_cons.1 this with z | z
          · rw [z]; exact hlow
          · obtain ⟨q, hq', e⟩ := List.mem_map.1 z
            rw [← e]; exact lo1 q hq'
        | false => rw [(R.no hr1).1]; exact lo1
    · rintro σ H1 ⟨o3, o4, bi, rfl, e1, hd1, hm1, mt1, lo1⟩
      rw [List.length_map, List.drop_length, matchedD] at hm1
      subst hm1
      obtain ⟨mt, G⟩ := matched_grd hab ond
      generalize hbb : matchedD ab n o [] = bi at *
      have lb := mt_len hab mt1
      refine ⟨d, _, hd1, trivial, fun od => ?_⟩
      have hdl : ∀ {b x}, H b = some x → b ≠ d := fun {b x} hb z => by rw [z, hd] at hb; cases hb
      refine ⟨_, rfl, d, od, dk bi, rfl, upd_same, fun D hD => dcM (H0 := upd H1 d (.frz od (.dK (dk bi)))) (src_items (K := K) upd_same) (Same.refl _) hD (dk (swapD bi)) (by simp [dk, swapD]) (by rw [dk_len]; exact small1000 (by omega)) ?_ ?_ ?_⟩
      · have : (dk (swapD bi)).map (·.1) = (lows bi).map fun (n : Nat) => (Sum.inl (n : Int) : Key) := by simp [dk, swapD, lows, Function.comp]
        rw [this]
        exact map_nodup G.nd (fun x _ y _ h => by simp at h; omega)
      · rintro i k z x H2 R hk e2 ⟨k', z', hk', hT⟩ hR
        have hib : i < bi.length := by
          have := (List.getElem?_eq_some_iff.1 hk').1; rw [dk_len] at this; exact this
        have h1 : (dk bi)[i]? = some (Sum.inl (bi[i].1 : Int), V.int bi[i].2) := by
          unfold dk; rw [List.getElem?_map, List.getElem?_eq_getElem hib]; rfl
        have h2 : (dk (swapD bi))[i]? = some (Sum.inl (bi[i].2 : Int), V.int bi[i].1) := by
          unfold dk swapD; rw [List.map_map, List.getElem?_map, List.getElem?_eq_getElem hib]; rfl
        rw [h1] at hk'
        rw [h2] at hk
        cases hk'
        cases hk
        obtain ⟨Ta, rfl, hT⟩ := hT
        exact ⟨Ta, _, rfl, hT, rfl, _, _, rfl, _, _, rfl, rfl, rfl, _, rfl, _, rfl, hR _ (Same.refl _)⟩
      · intro H' e' hD'
        have hDd : D ≠ d := fun z => by rw [z, upd_same] at hD; cases hD
        have hDH : H D = Option.none := by
          cases z : H D with
          | none => rfl
          | some x => rw [upd_ne hDd, e1 _ _ z] at hD; cases hD
        refine ⟨e' _ _ upd_same, hq D _ (fun b x hb => ?_) hDH (by rw [upd_ne hDd, hD']; unfold matchedM; rw [hbb])⟩
        rw [upd_ne (hdl hb)]
        exact e' _ _ (by rw [upd_ne (hdl hb)]; exact e1 _ _ hb)
theorem inV_nats (y : Nat) (l : List Nat) : inV (V.int (y : Int)) (l.map fun (n : Nat) => V.int n) = decide (y ∈ l) := by
  have := inV_ints (y : Int) (l.map fun (n : Nat) => (n : Int))
  rw [List.map_map] at this
  have e : (V.int ∘ fun (n : Nat) => (n : Int)) = fun (n : Nat) => V.int n := rfl
  rw [e] at this
  rw [this]
  rw [decide_eq_decide, List.mem_map]
  exact ⟨fun ⟨x, h1, h2⟩ => by have : x = y := by omega
                               exact this ▸ h1, fun h => ⟨y, h, rfl⟩⟩
def spChained (K : PySem.W.Frag) : Sp := fun vs H Q _ => ∃ (Ma : Addr) (n : Nat) (m : List (Nat × Nat)) (rk : Nat → Nat) (R : Nat), vs = [.ref Ma, .int n] ∧ H Ma = some (.dK (dk m)) ∧ Ranked n m rk R ∧ R ≤ 100 ∧ n ≤ 48 ∧
  ∀ v' H', Same H H' → Df K H H' v' (.list ((chainedM m n R).map encNs)) → Q v' H'
include T
theorem ok_chained (F : FnD K "chained" "chained" s_chained f fd) : FnOk P w K mg base CX0 1 f fd ["match", "many"] (spChained K) := by
  refine F.ok sc_chained (fun vs H Q E h => ?_) (fun cdv A outer s H vs Q E hr h => ?_)
  · obtain ⟨Ma, n, m, rk, R, rfl, _⟩ := h; rfl
  · obtain ⟨Ma, n, m, rk, R, rfl, hM, hR, h100, h48, hq⟩ := h
    refine ⟨_, PSs.nox (pss_cons (ps_set (i := 2) sc_chained.nd rfl (by first | exact Or.inl rfl | exact Or.inr rfl) (pe_callTy (cr_listVals rfl) (by rfl) T.m_list (by decide +kernel) (pa_cons (pe_bm0 PySem.F.plainAttrs_dict PySem.F.slot_dict_values PySem.F.type_dict_values mt_values (pv 0)) pa_nil)))
    (pss_cons (ps_set (i := 3) sc_chained.nd rfl (by first | exact Or.inl rfl | exact Or.inr rfl) (pe_lst pa_nil))
    (pss_cons (ps_for PassesOwn.never rfl (pi_range1 (by rfl) T.m_range (pa_cons (pv 1) pa_nil)) (pg_name (i := 4) sc_chained.nd rfl (by first | exact Or.inl rfl | exact Or.inr rfl))
    (pss_one (ps_if (pt_cmpR (k_notIn (K := K) rfl) (pv 4) (pv 2) rfl) (pss_cons (ps_set (i := 5) sc_chained.nd rfl (by first | exact Or.inl rfl | exact Or.inr rfl) (pe_lst (pa_cons (pv 4) pa_nil)))
    (pss_cons (ps_while PassesOwn.never (pt_cmp (pc_din (hu_of hr) (pe_ix (k_ixL (K := K) rfl) (pv 5) (pe_un un_neg pe_int) (fun _ _ => rfl)) (pv 0))) (pss_one (ps_expr (pe_bm PySem.F.plainAttrs_list PySem.F.slot_list_append PySem.F.type_list_append mt_append (pv 5) (pa_cons (pe_dget (hu_of hr) (pv 0) (pe_ix (k_ixL (K := K) rfl) (pv 5) (pe_un un_neg pe_int) (fun _ _ => rfl)) (fun _ _ => rfl)) pa_nil)))))
    (pss_one (ps_expr (pe_bm PySem.F.plainAttrs_list PySem.F.slot_list_append PySem.F.type_list_append mt_append (pv 3) (pa_cons (pv 5) pa_nil)))))) pss_nil)))
    (pss_one (ps_ret (pv 3)))))), ?_⟩
    refine ⟨_, rfl, .inr (.inr (.inl ⟨rfl, .inl ⟨_, hM⟩⟩)), Ma, dk m, rfl, rfl, hM, fun Va hVa => ?_⟩
    have e1 := same_new (o := VwO Ma Va) hVa
    refine ⟨Ma, Va, dk m, rfl, upd_same, e1 _ _ hM, fun La hLa => ?_⟩
    have e2 := same_new (o := HO.lst ((dk m).map (·.2))) hLa
    have hvals : (dk m).map (·.2) = (lows m).map fun (n : Nat) => V.int n := by simp [dk, lows, Function.comp]
    have hL2 : (upd (upd H Va (VwO Ma Va)) La (HO.lst ((dk m).map (·.2)))) La = some (.lst ((lows m).map fun (n : Nat) => V.int n)) := by rw [← hvals]; exact upd_same
    have e12 := e1.trans e2
    generalize (upd (upd H Va (VwO Ma Va)) La (HO.lst ((dk m).map (·.2)))) = H2 at hL2 e12
    refine ⟨Nat.zero_le _, fun Fa hFa => ?_⟩
    have e3 := same_new (o := HO.lst []) hFa
    have hF0 : H Fa = Option.none := e12.free hFa
    refine ⟨_, rfl, _, rfl, by omega, by omega, ?_⟩
    refine forG (H0 := H2) (n := n) (src_range (lo := 0)) (fun i σ H' => ∃ o4 o5, σ = [some (.ref Ma), some (.int n), some (.ref La), some (.ref Fa), o4, o5] ∧ Same H2 H' ∧
      ∃ fvs, H' Fa = some (.lst fvs) ∧ DfAll K (upd H2 Fa (HO.lst [])) H' fvs ((((List.range i).filter (fun x => !decide (x ∈ lows m))).map (follow m R)).map encNs)) ?_ ?_ ?_ ?_
    · exact ⟨_, _, rfl, e3, [], upd_same, .nil⟩
    · rintro i σ H' ⟨_, _, _, e, _⟩; exact e
    · rintro i x σ H3 H4 hi ⟨o4, o5, rfl, e4, fvs, hF, dF⟩ e5 rfl
      have e0 : (0 : Int) + (i : Int) = i := by omega
      rw [e0]
      have hF4 := e5 _ _ hF
      have dF4 := dF.ext e5
      have e25 := e4.trans e5
      have hrg : (List.range (i + 1)).filter (fun x => !decide (x ∈ lows m)) = (List.range i).filter (fun x => !decide (x ∈ lows m)) ++ (if i ∈ lows m then [] else [i]) := by
        rw [List.range_succ, List.filter_append]
        by_cases z : i ∈ lows m <;> simp [z]
      refine ⟨_, rfl, _, rfl, La, _, rfl, .inl (SqL.of (e25 _ _ hL2)), rfl, by simp [flatV], ?_⟩
      refine ⟨_, rfl, ?_⟩
      rw [inV_nats]
      by_cases hm : i ∈ lows m
      · refine iF (by simp [hm]) ?_
        rw [if_pos hm, List.append_nil] at hrg
        exact ⟨_, _, rfl, e25, fvs, hF4, by rw [hrg]; exact dF4⟩
      · refine iT (by simp [hm]) ?_
        rw [if_neg hm] at hrg
        refine ⟨_, rfl, by show 1 ≤ sizeLine; decide, fun Ca hCa => ?_⟩
        have e6 := same_new (o := HO.lst [V.int (i : Int)]) hCa
        have nCF : Ca ≠ Fa := fun z => by rw [z, hF4] at hCa; cases hCa
        have hC2 : H2 Ca = Option.none := e25.free hCa
        have hCu : (upd H2 Fa (HO.lst [])) Ca = Option.none := by rw [upd_ne nCF]; exact hC2
        refine ⟨fun g σ H' => ∃ (pre : List Nat) (x : Nat), σ = [some (.ref Ma), some (.int n), some (.ref La), some (.ref Fa), some (.int i), some (.ref Ca)] ∧ H' Ca = some (.lst ((pre ++ [x]).map fun (n : Nat) => V.int n)) ∧
          Same H4 H' ∧ follow m R i = pre ++ follow m g x ∧ x < n ∧ R ≤ rk x + g ∧ pre.length + g = R, ⟨R, [], i, rfl, upd_same, e6, rfl, hi, by omega, by simp⟩, ?_⟩
        rintro g σ H5 ⟨pre, x, rfl, hC5, e47, hfo, hx, hrk, hpre⟩
        have e7 := e25.trans e47
        have hF5 := e47 _ _ hF4
        have dF5 := dF4.ext e47
        have hat : atI ((pre ++ [x]).map fun (n : Nat) => V.int n) (-1) = some (V.int x) := by
          rw [List.map_append]; exact atI_last _ _
        refine ⟨_, rfl, _, rfl, Ca, _, _, _, rfl, rfl, SqL.of hC5, hat, _, rfl, Ma, _, rfl, DGet.k (k := Sum.inl (x : Int)) (e7 _ _ (e12 _ _ hM)), _, rfl, ?_⟩
        rw [dk_get]
        cases hg : NkM.get m x with
        | none =>
          refine iF (by simp) ?_
          have hfx : follow m g x = [x] := by
            cases g with
            | zero => rfl
            | succ g => unfold follow; rw [hg]
          rw [hfx] at hfo
          refine ⟨_, rfl, .inl ⟨rfl, _, SqL.of hF5⟩, _, rfl, Fa, _, _, rfl, rfl, hF5, small1000 ?_, ?_⟩
          · have h1 := dF5.len
            have h2 : ((List.range i).filter (fun x => !decide (x ∈ lows m))).length ≤ (List.range i).length := List.length_filter_le _ _
            simp only [List.length_map, List.length_range] at h1 h2; omega
          · refine ⟨_, _, rfl, same_upd_new e7 hFa, fvs ++ [V.ref Ca], upd_same, ?_⟩
            rw [hrg, List.map_append, List.map_append]
            have nFu : (upd H2 Fa (HO.lst [])) Fa ≠ Option.none := by rw [upd_same]; simp
            refine DfAll.append (dF5.updD nFu hF5 (chg_lst _).1 (chg_lst _).2) (.cons ?_ .nil)
            rw [hfo]
            exact .lst hCu (by rw [upd_ne nCF]; exact hC5) (mkf_nats _)
        | some y =>
          refine iT (by simp) ?_
          obtain ⟨a1, a2, a3⟩ := hR.up _ (get_mem hg)
          simp only at a1 a2 a3
          cases g with
          | zero => have := hR.lt x hx; omega
          | succ g =>
            have hfs : follow m (g + 1) x = x :: follow m g y := by rw [follow, hg]
            rw [hfs] at hfo
            refine ⟨_, fun σ' H' h => ⟨g, Nat.lt_succ_self g, h⟩, ?_⟩
            refine ⟨_, rfl, .inl ⟨rfl, _, SqL.of hC5⟩, _, rfl, _, rfl, _, rfl, Ca, _, _, _, rfl, rfl, SqL.of hC5, hat, Ma, V.int y, rfl, ?_, Ca, _, _, rfl, rfl, hC5, small1000 (by simp; omega), ?_⟩
            · have := DGet.k (k := Sum.inl (x : Int)) (e7 _ _ (e12 _ _ hM))
              rw [dk_get, hg] at this; exact this
            · exact ⟨pre ++ [x], y, rfl, by rw [upd_same]; simp, same_upd_new e47 hCa, by rw [hfo]; simp, a2, by omega, by simp; omega⟩
    · rintro σ H3 ⟨o4, o5, rfl, e4, fvs, hF, dF⟩
      exact ⟨_, rfl, hq _ _ (e12.trans e4) (.lst hF0 hF (dF.old (e12.trans e3)))⟩
end
end NkW
end
section
set_option Elab.async false
set_option linter.all false
set_option maxRecDepth 100000
set_option maxHeartbeats 2000000
/-! lots.py: checks, the lot's questions -/
namespace NkW
open PySem PySem.Spec PyProof.Rows L2 NkO NkR NkS NkQ NkM
abbrev s_are_weights : Stmt := top 39
abbrev N_are_weights : List Str := ["thing", "weight"]
theorem sc_are_weights : FnScope N_are_weights ["thing"] (defScope s_are_weights) := ⟨rfl, rfl, rfl, by decide +kernel, rfl, by decide +kernel, by decide +kernel⟩
abbrev s_are_pairs : Stmt := top 40
abbrev N_are_pairs : List Str := ["thing", "many", "pair", "one"]
theorem sc_are_pairs : FnScope N_are_pairs ["thing", "many"] (defScope s_are_pairs) := ⟨rfl, rfl, rfl, by decide +kernel, rfl, by decide +kernel, by decide +kernel⟩
abbrev s_Lot_odd_pairs : Stmt := inClass (top 44) 1
abbrev N_Lot_odd_pairs : List Str := ["self", "found", "low", "high", "top"]
theorem sc_Lot_odd_pairs : FnScope N_Lot_odd_pairs ["self"] (defScope s_Lot_odd_pairs) := ⟨rfl, rfl, rfl, by decide +kernel, rfl, by decide +kernel, by decide +kernel⟩
abbrev s_Lot_heavy_first : Stmt := inClass (top 44) 2
abbrev N_Lot_heavy_first : List Str := ["self", "rows", "thing", "weight"]
theorem sc_Lot_heavy_first : FnScope N_Lot_heavy_first ["self"] (defScope s_Lot_heavy_first) := ⟨rfl, rfl, rfl, by decide +kernel, rfl, by decide +kernel, by decide +kernel⟩
abbrev s_Lot_weights : Stmt := inClass (top 44) 3
abbrev N_Lot_weights : List Str := ["self"]
theorem sc_Lot_weights : FnScope N_Lot_weights ["self"] (defScope s_Lot_weights) := ⟨rfl, rfl, rfl, by decide +kernel, rfl, by decide +kernel, by decide +kernel⟩
abbrev s_Lot_steps : Stmt := inClass (top 44) 6
abbrev N_Lot_steps : List Str := ["self", "found", "before", "level"]
theorem sc_Lot_steps : FnScope N_Lot_steps ["self"] (defScope s_Lot_steps) := ⟨rfl, rfl, rfl, by decide +kernel, rfl, by decide +kernel, by decide +kernel⟩
abbrev s_Lot_tops_from : Stmt := inClass (top 44) 7
abbrev N_Lot_tops_from : List Str := ["self", "level", "things", "thing", "weight"]
theorem sc_Lot_tops_from : FnScope N_Lot_tops_from ["self", "level"] (defScope s_Lot_tops_from) := ⟨rfl, rfl, rfl, by decide +kernel, rfl, by decide +kernel, by decide +kernel⟩
abbrev s_Lot_width : Stmt := inClass (top 44) 9
abbrev N_Lot_width : List Str := ["self"]
theorem sc_Lot_width : FnScope N_Lot_width ["self"] (defScope s_Lot_width) := ⟨rfl, rfl, rfl, by decide +kernel, rfl, by decide +kernel, by decide +kernel⟩
abbrev s_Lot_least_sum : Stmt := inClass (top 44) 10
abbrev N_Lot_least_sum : List Str := ["self", "level", "step"]
theorem sc_Lot_least_sum : FnScope N_Lot_least_sum ["self"] (defScope s_Lot_least_sum) := ⟨rfl, rfl, rfl, by decide +kernel, rfl, by decide +kernel, by decide +kernel⟩
abbrev s_Lot_chains : Stmt := inClass (top 44) 11
abbrev N_Lot_chains : List Str := ["self"]
theorem sc_Lot_chains : FnScope N_Lot_chains ["self"] (defScope s_Lot_chains) := ⟨rfl, rfl, rfl, by decide +kernel, rfl, by decide +kernel, by decide +kernel⟩
abbrev s_Lot___len__ : Stmt := inClass (top 44) 19
abbrev N_Lot___len__ : List Str := ["self"]
theorem sc_Lot___len__ : FnScope N_Lot___len__ ["self"] (defScope s_Lot___len__) := ⟨rfl, rfl, rfl, by decide +kernel, rfl, by decide +kernel, by decide +kernel⟩

/-! ### a lot's fields -/
theorem look_ne {f g : Str} {v : V} {r : List (Str × V)} (h : ¬ f = g) : ((g, v) :: r).lookup f = r.lookup f := by
  have : (f == g) = false := by simpa using h
  simp [List.lookup, this]
theorem look_eq {f : Str} {v : V} {r : List (Str × V)} : ((f, v) :: r).lookup f = some v := by simp [List.lookup]
theorem put_ne {f g : Str} {v x : V} {r : List (Str × V)} (h : ¬ g = f) : putF f v ((g, x) :: r) = (g, x) :: putF f v r := by
  show (if g = f then _ else _) = _
  rw [if_neg h]
def lf (a b x d : V) : List (Str × V) := [("kept_weights", a), ("kept_pairs", b), ("kept_above", x), ("kept_match", d)]
def lf3 (a b x : V) : List (Str × V) := [("kept_weights", a), ("kept_pairs", b), ("kept_above", x)]
theorem n21 : ¬ ("kept_pairs" : Str) = "kept_weights" := by decide +kernel
theorem n31 : ¬ ("kept_above" : Str) = "kept_weights" := by decide +kernel
theorem n32 : ¬ ("kept_above" : Str) = "kept_pairs" := by decide +kernel
theorem n41 : ¬ ("kept_match" : Str) = "kept_weights" := by decide +kernel
theorem n42 : ¬ ("kept_match" : Str) = "kept_pairs" := by decide +kernel
theorem n43 : ¬ ("kept_match" : Str) = "kept_above" := by decide +kernel
theorem lf_1 (a b x d : V) : (lf a b x d).lookup ("kept_weights" : Str) = some a := look_eq
theorem lf_2 (a b x d : V) : (lf a b x d).lookup ("kept_pairs" : Str) = some b := by unfold lf; rw [look_ne n21, look_eq]
theorem lf_3 (a b x d : V) : (lf a b x d).lookup ("kept_above" : Str) = some x := by unfold lf; rw [look_ne n31, look_ne n32, look_eq]
theorem lf_4 (a b x d : V) : (lf a b x d).lookup ("kept_match" : Str) = some d := by unfold lf; rw [look_ne n41, look_ne n42, look_ne n43, look_eq]
theorem lf3_1 (a b x : V) : (lf3 a b x).lookup ("kept_weights" : Str) = some a := look_eq
theorem lf3_2 (a b x : V) : (lf3 a b x).lookup ("kept_pairs" : Str) = some b := by unfold lf3; rw [look_ne n21, look_eq]
theorem lf3_3 (a b x : V) : (lf3 a b x).lookup ("kept_above" : Str) = some x := by unfold lf3; rw [look_ne n31, look_ne n32, look_eq]
theorem lf_no (a b x d : V) {m : Str} (h1 : ¬ m = "kept_weights") (h2 : ¬ m = "kept_pairs") (h3 : ¬ m = "kept_above") (h4 : ¬ m = "kept_match") : (lf a b x d).lookup m = Option.none := by
  unfold lf; rw [look_ne h1, look_ne h2, look_ne h3, look_ne h4]; rfl
theorem lf3_no (a b x : V) {m : Str} (h1 : ¬ m = "kept_weights") (h2 : ¬ m = "kept_pairs") (h3 : ¬ m = "kept_above") : (lf3 a b x).lookup m = Option.none := by
  unfold lf3; rw [look_ne h1, look_ne h2, look_ne h3]; rfl

theorem paired_ints : ∀ l : List Int, Paired (fun v k => v = V.int k) (l.map V.int) l
  | [] => .nil
  | a :: l => .cons rfl (paired_ints l)
def encIs (l : List Int) : PyData := .tuple (l.map PyData.int)
def encPr (p : Nat × Nat) : PyData := .tuple [.int p.1, .int p.2]
section
variable {K : PySem.W.Frag} {H H0 : Hp}
theorem dpPr {v : V} {p : Nat × Nat} (h : Dp K H v (encPr p)) : ∃ a, v = .ref a ∧ SqT K H a [.int p.1, .int p.2] := by
  unfold encPr at h
  cases h with
  | tup hs ha => cases ha with | cons h1 h2 => cases h2 with | cons h2 h3 => cases h3; cases h1; cases h2; exact ⟨_, rfl, hs⟩
end
/-- the lot at p -/
def LotAt (K : PySem.W.Frag) (c : Ad) (H : Hp) (p : Addr) (ws : List Int) (ab : Nat → List Nat) (m : List (Nat × Nat)) : Prop :=
  ∃ dx t tp ta tm, H p = some (.ins c.Lot dx (lf (.ref t) (.ref tp) (.ref ta) (.ref tm))) ∧ SqT K H t (ws.map V.int) ∧ H tm = some (.dK (dk m))
theorem LotAt.ext {K : PySem.W.Frag} {c : Ad} {H H' : Hp} {p : Addr} {ws : List Int} {ab : Nat → List Nat} {m : List (Nat × Nat)} (h : LotAt K c H p ws ab m) (e : Same H H') : LotAt K c H' p ws ab m := by
  obtain ⟨dx, t, tp, ta, tm, h1, h2, h3⟩ := h
  exact ⟨dx, t, tp, ta, tm, e _ _ h1, sqT_ext e h2, e _ _ h3⟩

def spAreW (K : PySem.W.Frag) : Sp := fun vs H Q _ => ∃ v, ∃ ws : List Int, vs = [v] ∧ Dp K H v (.list (ws.map PyData.int)) ∧ (∀ x ∈ ws, 1 ≤ x ∧ x ≤ 10 ^ 39) ∧ ws.length ≤ 48 ∧ ∀ H', Same H H' → Q (.bl true) H'
def spAreP (K : PySem.W.Frag) : Sp := fun vs H Q _ => ∃ v, ∃ ps : List (Nat × Nat), ∃ n : Nat, vs = [v, .int n] ∧ Dp K H v (.list (ps.map encPr)) ∧ (∀ p ∈ ps, p.1 < n ∧ p.2 < n) ∧ ∀ H', Same H H' → Q (.bl true) H'
def spHeavy (K : PySem.W.Frag) (c : Ad) : Sp := fun vs H Q _ => ∃ (p dx t : Addr) (fs : List (Str × V)) (ws : List Int), vs = [.ref p] ∧ H p = some (.ins c.Lot dx fs) ∧ fs.lookup ("kept_weights" : Str) = some (.ref t) ∧ SqT K H t (ws.map V.int) ∧ ws.length ≤ 48 ∧
  ∀ v' H', Same H H' → Df K H H' v' (encNs (hfM ws)) → Q v' H'
def spWts (K : PySem.W.Frag) (c : Ad) : Sp := fun vs H Q _ => ∃ (p : Addr) (ws : List Int) (ab : Nat → List Nat) (m : List (Nat × Nat)), vs = [.ref p] ∧ LotAt K c H p ws ab m ∧ ∀ v' H', Same H H' → Df K H H' v' (.list (ws.map PyData.int)) → Q v' H'
def spSteps (K : PySem.W.Frag) (c : Ad) : Sp := fun vs H Q _ => ∃ (p : Addr) (ws : List Int) (ab : Nat → List Nat) (m : List (Nat × Nat)), vs = [.ref p] ∧ LotAt K c H p ws ab m ∧ ws.length ≤ 48 ∧ ∀ v' H', Same H H' → Df K H H' v' (.list ((stepsM 0 (levelsM ws)).map encII)) → Q v' H'
def spTops (K : PySem.W.Frag) (c : Ad) : Sp := fun vs H Q _ => ∃ (p : Addr) (ws : List Int) (ab : Nat → List Nat) (m : List (Nat × Nat)) (l : Int), vs = [.ref p, .int l] ∧ LotAt K c H p ws ab m ∧ ws.length ≤ 48 ∧ ∀ H', Same H H' → Q (.int (topsM ws m l)) H'
def spWid (K : PySem.W.Frag) (c : Ad) : Sp := fun vs H Q _ => ∃ (p : Addr) (ws : List Int) (ab : Nat → List Nat) (m : List (Nat × Nat)), vs = [.ref p] ∧ LotAt K c H p ws ab m ∧ ws.length ≤ 48 ∧ ∀ H', Same H H' → Q (.int (topsM ws m 0)) H'
def spLeastS (K : PySem.W.Frag) (c : Ad) : Sp := fun vs H Q _ => ∃ (p : Addr) (ws : List Int) (ab : Nat → List Nat) (m : List (Nat × Nat)), vs = [.ref p] ∧ LotAt K c H p ws ab m ∧ ws.length ≤ 48 ∧ (∀ x ∈ ws, 0 ≤ x ∧ x ≤ 10 ^ 39) ∧ ∀ H', Same H H' → Q (.int (leastSumM ws m)) H'

section
variable {P : Program} {w : World} {K : PySem.W.Frag} {mg : Str → Option Value} {base : Heap} {c : Ad} {f : Addr} {fd : FuncData} (T : Tx K mg c)
include T
theorem ok_are_weights (F : FnD K "are_weights" "are_weights" s_are_weights f fd) (D_is_integer : Def P w K mg base "is_integer" 1 ["thing"] spInt) : FnOk P w K mg base CX0 2 f fd ["thing"] (spAreW K) := by
  refine F.ok sc_are_weights (fun vs H Q E h => ?_) (fun cdv A outer s H vs Q E hr h => ?_)
  · obtain ⟨v, ws, rfl, _⟩ := h; rfl
  · obtain ⟨v, ws, rfl, hd, hw, h48, hq⟩ := h
    obtain ⟨a, rfl, hs⟩ : ∃ a, v = .ref a ∧ SqL K H a (ws.map V.int) := by
      cases hd with | lst hs ha => rw [dpAll_toInts ha] at hs; exact ⟨_, rfl, hs⟩
    refine ⟨_, PSs.nox (pss_cons (ps_if (pt_not (pt_val (pe_callB (k_isiT (K := K) rfl) (by rfl) T.m_isinstance (by decide +kernel) (pa_cons (pv 0) (pa_cons (pe_tup (pa_cons (pe_bltn (v := V.ty "list") (by rfl) T.m_list (by decide +kernel) rfl) (pa_cons (pe_bltn (v := V.ty "tuple") (by rfl) T.m_tuple (by decide +kernel) rfl) pa_nil))) pa_nil))))) (pss_one (ps_ret pe_bl)) pss_nil)
    (pss_one (ps_ret (pe_callB (k_all (K := K) rfl rfl) (by rfl) T.m_all (by decide +kernel) (pa_cons (pe_lc (own := [("weight", 1)]) rfl sc_are_weights.nd (k_piL (K := K) rfl (pv 0)) (blkOk_by (own := [("weight", 1)]) (N := N_are_weights) (by kernel_rfl)) (fun _ _ _ _ _ => (pg_name (i := 1) sc_are_weights.nd rfl (by first | exact Or.inl rfl | exact Or.inr rfl))) (fun _ _ _ _ _ => pts_nil) (fun _ _ _ _ _ => (pe_and (pe_def D_is_integer (hr.mono (by first | decide | omega)) (pa_cons (pv 1) pa_nil)) (pe_one (pe_chain op_le op_le pe_int (pv 1) (pe_op op_pow pe_int pe_int)))))) pa_nil))))), ?_⟩
    refine ⟨_, rfl, ?_⟩
    refine ⟨by show 2 ≤ sizeLine; decide, fun tp htp => ?_⟩
    have e1 := same_new (o := HO.tup [V.ty "list", V.ty "tuple"]) htp
    refine ⟨_, tp, _, _, _, true, rfl, upd_same, .cons (.ty _) (.cons (.ty _) .nil), tyx_L (sqL_ext e1 hs), kitAny_cons (b := true) (kit_ty (by decide +kernel)) (fun h => by cases h) (fun _ => rfl), true, rfl, iteF ?_⟩
    refine ⟨_, rfl, a, rfl, ⟨_, sqL_ext e1 hs⟩, fun D hD => lcM (K := K) (src_list (sqL_ext e1 hs)) (Same.refl _) hD ws (by simp) (by rw [List.length_map]; exact small1000 (by omega)) (fun _ => PyData.bool true) ?_ ?_⟩
    · intro i q x H2 R hi e2 hx hyes
      rw [List.getElem?_map, hi] at hx
      cases hx
      obtain ⟨b1, b2⟩ := hw q (List.mem_of_getElem? hi)
      refine ⟨rfl, _, rfl, q, rfl, true, rfl, iteT ⟨_, rfl, _, _, rfl, rfl, _, rfl, iT (decide_eq_true b1) ⟨_, _, rfl, rfl, ⟨by decide, by decide, by decide⟩, _, _, rfl, rfl, hyes _ _ (Same.refl _) ?_⟩⟩⟩
      have : decide (q ≤ (10 : Int) ^ Int.toNat 39) = true := decide_eq_true b2
      show Df K _ _ (V.bl (decide (q ≤ (10 : Int) ^ Int.toNat 39))) _
      rw [this]; exact .bl true
    · intro H' e' d
      have hb : (ws.map fun _ => PyData.bool true) = (ws.map fun _ => true).map PyData.bool := by simp
      rw [hb] at d
      exact ⟨D, _, rfl, df_bools d, q_bl (by simp) (hq _ (e1.trans e'))⟩
theorem ok_are_pairs (F : FnD K "are_pairs" "are_pairs" s_are_pairs f fd) (D_is_number_below : Def P w K mg base "is_number_below" 2 ["thing", "many"] spNumBelow) : FnOk P w K mg base CX0 3 f fd ["thing", "many"] (spAreP K) := by
  refine F.ok sc_are_pairs (fun vs H Q E h => ?_) (fun cdv A outer s H vs Q E hr h => ?_)
  · obtain ⟨v, ps, n, rfl, _⟩ := h; rfl
  · obtain ⟨v, ps, n, rfl, hd, hp, hq⟩ := h
    obtain ⟨a, vs, rfl, hs, ha⟩ : ∃ a vs, v = .ref a ∧ SqL K H a vs ∧ DpAll K H vs (ps.map encPr) := by
      cases hd with | lst hs ha => exact ⟨_, _, rfl, hs, ha⟩
    have lv : vs.length = ps.length := by have := dpAll_len ha; simpa using this
    refine ⟨_, PSs.nox (pss_cons (ps_if (pt_not (pt_val (pe_callB (k_isiT (K := K) rfl) (by rfl) T.m_isinstance (by decide +kernel) (pa_cons (pv 0) (pa_cons (pe_tup (pa_cons (pe_bltn (v := V.ty "list") (by rfl) T.m_list (by decide +kernel) rfl) (pa_cons (pe_bltn (v := V.ty "tuple") (by rfl) T.m_tuple (by decide +kernel) rfl) pa_nil))) pa_nil))))) (pss_one (ps_ret pe_bl)) pss_nil)
    (pss_cons (ps_for PassesOwn.never rfl (k_piL (K := K) rfl (pv 0)) (pg_name (i := 2) sc_are_pairs.nd rfl (by first | exact Or.inl rfl | exact Or.inr rfl))
    (pss_one (ps_if (PW.pt (pw_or (pt_not (pt_val (pe_callB (k_isi (K := K) rfl) (by rfl) T.m_isinstance (by decide +kernel) (pa_cons (pv 2) (pa_cons (pe_bltn (v := V.ty "tuple") (by rfl) T.m_tuple (by decide +kernel) rfl) pa_nil))))) (pw_or (pt_cmpR op_ne (pe_callB (k_len (K := K) rfl) (by rfl) T.m_len (by decide +kernel) (pa_cons (pv 2) pa_nil)) pe_int (nomark _)) (pw_or1 (pt_not (pt_val (pe_callB (k_all (K := K) rfl rfl) (by rfl) T.m_all (by decide +kernel) (pa_cons (pe_lc (own := [("one", 3)]) rfl sc_are_pairs.nd (k_piT (K := K) rfl (pv 2)) (blkOk_by (own := [("one", 3)]) (N := N_are_pairs) (by kernel_rfl)) (fun _ _ _ _ _ => (pg_name (i := 3) sc_are_pairs.nd rfl (by first | exact Or.inl rfl | exact Or.inr rfl))) (fun _ _ _ _ _ => pts_nil) (fun _ _ _ _ _ => (pe_def D_is_number_below (hr.mono (by first | decide | omega)) (pa_cons (pv 3) (pa_cons (pv 1) pa_nil))))) pa_nil)))))))) (pss_one (ps_ret pe_bl)) pss_nil)))
    (pss_one (ps_ret pe_bl)))), ?_⟩
    refine ⟨_, rfl, ?_⟩
    refine ⟨by show 2 ≤ sizeLine; decide, fun tp htp => ?_⟩
    have e1 := same_new (o := HO.tup [V.ty "list", V.ty "tuple"]) htp
    refine ⟨_, tp, _, _, _, true, rfl, upd_same, .cons (.ty _) (.cons (.ty _) .nil), tyx_L (sqL_ext e1 hs), kitAny_cons (b := true) (kit_ty (by decide +kernel)) (fun h => by cases h) (fun _ => rfl), true, rfl, iteF ?_⟩
    refine ⟨_, rfl, a, rfl, ⟨_, sqL_ext e1 hs⟩, forG (H0 := H) (src_list hs) (fun i σ H' => ∃ o, σ = [some (.ref a), some (.int n), o, Option.none] ∧ Same H H') ⟨_, rfl, e1⟩ (fun i σ H' ⟨_, _, e⟩ => e) ?_ ?_⟩
    · rintro i x σ H1 H2 hi ⟨o, rfl, e2⟩ e3 hx
      obtain ⟨d, k1, k2⟩ := dpAll_get ha hx
      have hip : i < ps.length := by omega
      rw [List.getElem?_map, List.getElem?_eq_getElem hip] at k1
      cases k1
      have hpi := hp _ (List.getElem_mem hip)
      generalize ps[i] = pr at *
      have e := e2.trans e3
      obtain ⟨ta, rfl, ht⟩ := dpPr (dp_ext e k2)
      refine ⟨_, rfl, _, _, _, _, true, rfl, .ty _, tyx_T ht, kit_ty (by decide +kernel), true, rfl, iteF ?_⟩
      refine ⟨_, rfl, ta, _, rfl, .inr ht, rfl, _, rfl, iteF ?_⟩
      refine ⟨_, rfl, ta, rfl, ⟨_, ht⟩, fun D hD => lcM (K := K) (src_tup ht) (Same.refl _) hD [pr.1, pr.2] (by simp) (small1000 (by simp)) (fun _ => PyData.bool true) ?_ ?_⟩
      · intro j y z H3 R hj e4 hz hyes
        have hy : y < n := by
          have := List.mem_of_getElem? hj
          simp at this
          rcases this with h | h <;> rw [h]
          · exact hpi.1
          · exact hpi.2
        have hz' : z = V.int y := by
          match j, hj, hz with
          | 0, hj, hz => simp at hj hz; rw [← hz, hj]
          | 1, hj, hz => simp at hj hz; rw [← hz, hj]
        subst hz'
        refine ⟨rfl, _, rfl, _, rfl, y, n, rfl, hyes _ _ (Same.refl _) ?_⟩
        have : (decide ((0 : Int) ≤ y) && decide ((y : Int) < n)) = true := by simp; omega
        rw [this]; exact .bl true
      · intro H' e' d
        have hb : ([pr.1, pr.2].map fun _ => PyData.bool true) = ([pr.1, pr.2].map fun _ => true).map PyData.bool := by simp
        rw [hb] at d
        refine ⟨D, _, rfl, df_bools d, true, by simp, ?_⟩
        refine iteF ?_
        exact ⟨_, rfl, e.trans e'⟩
    · rintro σ H1 ⟨o, rfl, e2⟩
      exact hq _ e2
theorem ok_heavy (F : FnD K "heavy_first" "Lot.heavy_first" s_Lot_heavy_first f fd) : FnOk P w K mg base CX0 1 f fd ["self"] (spHeavy K c) := by
  refine F.ok sc_Lot_heavy_first (fun vs H Q E h => ?_) (fun cdv A outer s H vs Q E hr h => ?_)
  · obtain ⟨p, dx, t, fs, ws, rfl, _⟩ := h; rfl
  · obtain ⟨p, dx, t, fs, ws, rfl, hp, hl, ht, h48, hq⟩ := h
    refine ⟨_, PSs.nox (pss_cons (ps_set (i := 1) sc_Lot_heavy_first.nd rfl (by first | exact Or.inl rfl | exact Or.inr rfl) (pe_callB (k_sort (K := K) (w := w) NkQ.encII rfl rfl hr rfl) (by rfl) T.m_sorted (by decide +kernel) (pa_cons (pe_lc (own := [("thing", 2), ("weight", 3)]) rfl sc_Lot_heavy_first.nd (k_enumT (K := K) rfl (by rfl) T.m_enumerate (pa_cons (k_fld (K := K) rfl (pv 0) rfl) pa_nil)) (blkOk_by (own := [("thing", 2), ("weight", 3)]) (N := N_Lot_heavy_first) (by kernel_rfl)) (fun _ _ _ _ _ => (k_gTup (K := K) (n := 2) rfl rfl (pgs_cons (pg_name (i := 2) sc_Lot_heavy_first.nd rfl (by first | exact Or.inl rfl | exact Or.inr rfl)) (pgs_cons (pg_name (i := 3) sc_Lot_heavy_first.nd rfl (by first | exact Or.inl rfl | exact Or.inr rfl)) pgs_nil)))) (fun _ _ _ _ _ => pts_nil) (fun _ _ _ _ _ => (pe_tup (pa_cons (pe_op op_sub pe_int (pv 3)) (pa_cons (pv 2) pa_nil))))) pa_nil)))
    (pss_one (ps_ret (pe_lc (own := [("weight", 3), ("thing", 2)]) rfl sc_Lot_heavy_first.nd (k_piL (K := K) rfl (pv 1)) (blkOk_by (own := [("weight", 3), ("thing", 2)]) (N := N_Lot_heavy_first) (by kernel_rfl)) (fun _ _ _ _ _ => (k_gTup (K := K) (n := 2) rfl rfl (pgs_cons (pg_name (i := 3) sc_Lot_heavy_first.nd rfl (by first | exact Or.inl rfl | exact Or.inr rfl)) (pgs_cons (pg_name (i := 2) sc_Lot_heavy_first.nd rfl (by first | exact Or.inl rfl | exact Or.inr rfl)) pgs_nil)))) (fun _ _ _ _ _ => pts_nil) (fun _ _ _ _ _ => (pv 2)))))), ?_⟩
    refine ⟨_, rfl, p, c.Lot, dx, _, _, rfl, hp, T.cL, T.l1, hl, t, _, rfl, ht, fun D hD => lcM (K := K) (src_enumT ht) (Same.refl _) hD (rowsM ws) (by simp [rowsM]) (by rw [List.length_map]; exact small1000 (by omega)) encII ?_ ?_⟩
    · rintro i a x H2 R hi e2 ⟨y, hy, Ta, rfl, hT⟩ hyes
      have hiw : i < ws.length := by have := (List.getElem?_eq_some_iff.1 hi).1; simpa [rowsM] using this
      rw [List.getElem?_map, List.getElem?_eq_getElem hiw] at hy
      cases hy
      have ha : a = (0 - ws[i], (i : Int)) := by
        unfold rowsM at hi
        rw [List.getElem?_map, List.getElem?_range hiw] at hi
        have := Option.some.inj hi
        rw [← this]; show (0 - ws.getD i 0, (i : Int)) = _; rw [getD_get hiw]
      subst ha
      refine ⟨Ta, _, rfl, hT, rfl, _, _, rfl, _, _, rfl, rfl, rfl, _, rfl, _, _, rfl, rfl, _, rfl, by show 2 ≤ sizeLine; decide, fun q hq' => ?_⟩
      exact hyes _ _ (same_new hq') (.tup (SqT.of upd_same) (.cons (.int _) (.cons (.int _) .nil)))
    · intro H1 e1 d1
      obtain ⟨vs, hv, dv⟩ : ∃ vs, H1 D = some (.lst vs) ∧ DfAll K H H1 vs ((rowsM ws).map encII) := by
        cases d1 with | lst a1 a2 a3 => exact ⟨_, a2, a3⟩
      refine tN ?_
      refine rd_sort (enc := encII) asmII (l := rowsM ws) (.inl (SqL.of hv)) dv.dp (by simp [rowsM]; omega) (good_II _) fun r H2 e2 hr2 d2 => ?_
      obtain ⟨us, hu, du⟩ : ∃ vs, H2 r = some (.lst vs) ∧ DfAll K H1 H2 vs ((srt encII (rowsM ws)).map encII) := by
        cases d2 with | lst a1 a2 a3 => exact ⟨_, a2, a3⟩
      have lu : us.length = (srt encII (rowsM ws)).length := by have := du.len; simpa using this
      have ln : (srt encII (rowsM ws)).length = ws.length := by rw [(srt_perm _ _).length_eq]; simp [rowsM]
      refine ⟨_, rfl, r, rfl, ⟨_, SqL.of hu⟩, fun D2 hD2 => lcM (K := K) (src_list (SqL.of hu)) (Same.refl _) hD2 (hfM ws) (by unfold hfM; rw [List.length_map]; exact lu.symm) (by rw [lu, ln]; exact small1000 (by omega)) (fun n => PyData.int n) ?_ ?_⟩
      · rintro i a x H3 R hi e3 hx hyes
        obtain ⟨d, k1, k2⟩ := dpAll_get du.dp hx
        have his : i < (srt encII (rowsM ws)).length := by have := (List.getElem?_eq_some_iff.1 hx).1; omega
        rw [List.getElem?_map, List.getElem?_eq_getElem his] at k1
        cases k1
        unfold hfM at hi
        rw [List.getElem?_map, List.getElem?_eq_getElem his] at hi
        have hi := Option.some.inj hi
        have hmem : (srt encII (rowsM ws))[i] ∈ rowsM ws := (srt_perm _ _).mem_iff.1 (List.getElem_mem his)
        obtain ⟨j, _, ej⟩ := List.mem_map.1 hmem
        generalize (srt encII (rowsM ws))[i] = pr at *
        have k3 := dp_ext e3 k2
        unfold encII at k3
        cases k3 with
        | tup hs ha =>
          cases ha with | cons h1 h2 => cases h2 with | cons h2 h3 => cases h3; cases h1; cases h2; exact ⟨_, _, rfl, hs, rfl, _, _, rfl, _, _, rfl, rfl, rfl, _, rfl, hyes _ _ (Same.refl _) (by rw [← hi, ← ej]; exact .int _)⟩
      · intro H3 e3 d3
        refine hq _ _ ((e1.trans e2).trans e3) ?_
        exact d3.old (e1.trans e2)
theorem ok_wts (F : FnD K "weights" "Lot.weights" s_Lot_weights f fd) : FnOk P w K mg base CX0 1 f fd ["self"] (spWts K c) := by
  refine F.ok sc_Lot_weights (fun vs H Q E h => ?_) (fun cdv A outer s H vs Q E hr h => ?_)
  · obtain ⟨p, ws, ab, m, rfl, _⟩ := h; rfl
  · obtain ⟨p, ws, ab, m, rfl, ⟨dx, t, tp, ta, tm, h1, h2, h3⟩, hq⟩ := h
    refine ⟨_, PSs.nox (pss_one (ps_ret (pe_callTy (k_list (K := K) rfl) (by rfl) T.m_list (by decide +kernel) (pa_cons (k_fld (K := K) rfl (pv 0) rfl) pa_nil)))), ?_⟩
    exact ⟨_, rfl, p, c.Lot, dx, _, _, rfl, h1, T.cL, T.l1, lf_1 _ _ _ _, t, _, rfl, .inr h2, fun l hl => hq _ _ (same_new hl) (.lst hl upd_same (dfAll_ints _))⟩
theorem ok_lot_len (F : FnD K "__len__" "Lot.__len__" s_Lot___len__ f fd) : FnOk P w K mg base CX0 1 f fd ["self"] (spLen K c.Lot "kept_weights") := by
  refine F.ok sc_Lot___len__ (fun vs H Q E h => ?_) (fun cdv A outer s H vs Q E hr h => ?_)
  · obtain ⟨a, dx, t, fs, zs, rfl, _⟩ := h; rfl
  · obtain ⟨a, dx, t, fs, zs, rfl, h1, h2, h3, hq⟩ := h
    refine ⟨_, PSs.nox (pss_one (ps_ret (pe_callB (k_len (K := K) rfl) (by rfl) T.m_len (by decide +kernel) (pa_cons (k_fld (K := K) rfl (pv 0) rfl) pa_nil)))), ?_⟩
    exact ⟨_, rfl, a, c.Lot, dx, _, _, rfl, h1, T.cL, T.l1, h2, t, zs, rfl, .inr h3, hq⟩
theorem ok_steps (F : FnD K "steps" "Lot.steps" s_Lot_steps f fd) : FnOk P w K mg base CX0 1 f fd ["self"] (spSteps K c) := by
  refine F.ok sc_Lot_steps (fun vs H Q E h => ?_) (fun cdv A outer s H vs Q E hr h => ?_)
  · obtain ⟨p, ws, ab, m, rfl, _⟩ := h; rfl
  · obtain ⟨p, ws, ab, m, rfl, ⟨dx, t, tp, ta, tm, h1, h2, h3⟩, h48, hq⟩ := h
    refine ⟨_, PSs.nox (pss_cons (ps_par (i := 1) (j := 2) (by rfl) sc_Lot_steps.nd rfl rfl (by decide) rfl rfl (pa_cons (pe_lst pa_nil) (pa_cons pe_int pa_nil)) (by rfl))
    (pss_cons (ps_for PassesOwn.never rfl (k_piL (K := K) rfl (pe_callB (k_sort (K := K) (w := w) NkQ.encI rfl rfl hr rfl) (by rfl) T.m_sorted (by decide +kernel) (pa_cons (pe_callTy (k_setI (K := K) (w := w) rfl rfl hr rfl) (by rfl) T.m_set (by decide +kernel) (pa_cons (k_fld (K := K) rfl (pv 0) rfl) pa_nil)) pa_nil))) (pg_name (i := 3) sc_Lot_steps.nd rfl (by first | exact Or.inl rfl | exact Or.inr rfl))
    (pss_cons (ps_expr (pe_bm PySem.F.plainAttrs_list PySem.F.slot_list_append PySem.F.type_list_append mt_append (pv 1) (pa_cons (pe_tup (pa_cons (pv 3) (pa_cons (pe_op op_sub (pv 3) (pv 2)) pa_nil))) pa_nil)))
    (pss_one (ps_set (i := 2) sc_Lot_steps.nd rfl (by first | exact Or.inl rfl | exact Or.inr rfl) (pv 3)))))
    (pss_one (ps_ret (pv 1))))), ?_⟩
    refine ⟨Nat.zero_le _, fun Fa hFa => ⟨_, _, rfl, ?_⟩⟩
    have e1 := same_new (o := HO.lst []) hFa
    refine ⟨_, rfl, p, c.Lot, dx, _, _, rfl, e1 _ _ h1, T.cL, T.l1, lf_1 _ _ _ _, ?_⟩
    refine tN ?_
    refine rd_set id ws (enc := encI) (.inr (sqT_ext e1 h2)) (by rw [List.map_id]; exact paired_ints ws) (dpAll_ints ws) (by omega) fun b M H2 e2 hb S => ?_
    refine tN ?_
    refine rd_sortSet id (fun _ _ h => h) (enc := encI) (fun _ => rfl) asmI S (by omega) (good_I ws) fun r H3 e3 hr3 d3 => ?_
    obtain ⟨us, hu, du⟩ : ∃ vs, H3 r = some (.lst vs) ∧ DfAll K H2 H3 vs ((levelsM ws).map encI) := by
      cases d3 with | lst a1 a2 a3 => exact ⟨_, a2, a3⟩
    have eu : us = (levelsM ws).map V.int := dpAll_toInts du.dp
    have lu : us.length = (levelsM ws).length := by rw [eu]; simp
    have ll : (levelsM ws).length ≤ ws.length := (canon_nodup encI ws).length_le_of_subset (fun x hx => canon_mem.1 hx)
    have hF3 : H3 Fa = some (.lst []) := e3 _ _ (e2 _ _ upd_same)
    have hrF : r ≠ Fa := fun z => by rw [z, e2 _ _ upd_same] at hr3; cases hr3
    refine ⟨r, rfl, ⟨_, SqL.of hu⟩, forG (H0 := wo [Fa] H3) (src_list (SqL.of (by rw [wo_at (by simpa using hrF)]; exact hu))) (fun i σ H' => ∃ o3 b, σ = [some (.ref p), some (.ref Fa), some (.int b), o3] ∧ Same (wo [Fa] H3) H' ∧ Same H H' ∧
      ∃ fvs done, H' Fa = some (.lst fvs) ∧ DfAll K (upd H Fa (HO.lst [])) H' fvs (done.map encII) ∧ done ++ stepsM b ((levelsM ws).drop i) = stepsM 0 (levelsM ws) ∧ done.length ≤ i) ?_ ?_ ?_ ?_⟩
    · exact ⟨_, 0, rfl, wo_same, (e1.trans e2).trans e3, [], [], hF3, .nil, rfl, by simp⟩
    · rintro i σ H' ⟨_, _, _, e, _⟩; exact e
    · rintro i x σ H4 H5 hi ⟨o3, b, rfl, e4, e04, fvs, done, q1, q2, q3, q4⟩ e5 hx
      have hil : i < (levelsM ws).length := by omega
      rw [eu, List.getElem?_map, List.getElem?_eq_getElem hil] at hx
      cases hx
      rw [List.drop_eq_getElem_cons hil, stepsM] at q3
      generalize (levelsM ws)[i] = l at *
      have nFu : (upd H Fa (HO.lst [])) Fa ≠ Option.none := by rw [upd_same]; simp
      refine ⟨_, rfl, .inl ⟨rfl, _, SqL.of (e5 _ _ q1)⟩, _, rfl, _, rfl, _, rfl, _, _, rfl, rfl, by show 2 ≤ sizeLine; decide, fun q hq' => ⟨Fa, _, _, rfl, rfl, (same_new hq') _ _ (e5 _ _ q1), small1000 (by have := q2.len; simp at this; omega), ?_⟩⟩
      have e6 := same_new (o := HO.tup [V.int l, V.int (l - b)]) hq'
      have hqF : q ≠ Fa := fun z => by rw [z, e5 _ _ q1] at hq'; cases hq'
      refine ⟨_, rfl, _, l, rfl, same_upd_wo (by simp) ((e4.trans e5).trans e6), same_upd_new ((e04.trans e5).trans e6) hFa, fvs ++ [V.ref q], done ++ [(l, l - b)], upd_same, ?_, by rw [← q3]; simp, by simp; omega⟩
      rw [List.map_append]
      refine DfAll.append (((q2.ext e5).ext e6).updD nFu (e6 _ _ (e5 _ _ q1)) (chg_lst _).1 (chg_lst _).2) (.cons ?_ .nil)
      exact .tup (SqT.of (by rw [upd_ne hqF]; exact upd_same)) (.cons (.int _) (.cons (.int _) .nil))
    · rintro σ H4 ⟨o3, b, rfl, e4, e04, fvs, done, q1, q2, q3, q4⟩
      rw [lu, List.drop_length, stepsM, List.append_nil] at q3
      rw [q3] at q2
      exact ⟨_, rfl, hq _ _ e04 (.lst hFa q1 (q2.old e1))⟩
theorem ok_tops (F : FnD K "tops_from" "Lot.tops_from" s_Lot_tops_from f fd) : FnOk P w K mg base CX0 1 f fd ["self", "level"] (spTops K c) := by
  refine F.ok sc_Lot_tops_from (fun vs H Q E h => ?_) (fun cdv A outer s H vs Q E hr h => ?_)
  · obtain ⟨p, ws, ab, m, l, rfl, _⟩ := h; rfl
  · obtain ⟨p, ws, ab, m, l, rfl, ⟨dx, t, tp, ta, tm, h1, h2, h3⟩, h48, hq⟩ := h
    refine ⟨_, PSs.nox (pss_cons (ps_setLc (i := 2) (own := [("thing", 3), ("weight", 4)]) rfl sc_Lot_tops_from.nd rfl rfl (sw_true rfl rfl rfl (by decide +kernel)) (k_enumT (K := K) rfl (by rfl) T.m_enumerate (pa_cons (k_fld (K := K) rfl (pv 0) rfl) pa_nil)) (blkOk_by (own := [("thing", 3), ("weight", 4)]) (N := N_Lot_tops_from) (by kernel_rfl)) (fun _ _ _ _ _ => (k_gTup (K := K) (n := 2) rfl rfl (pgs_cons (pg_name (i := 3) sc_Lot_tops_from.nd rfl (by first | exact Or.inl rfl | exact Or.inr rfl)) (pgs_cons (pg_name (i := 4) sc_Lot_tops_from.nd rfl (by first | exact Or.inl rfl | exact Or.inr rfl)) pgs_nil)))) (fun _ _ _ _ _ => (pts_one (pt_cmpR op_ge (pv 4) (pv 1) (nomark _)))) (fun _ _ _ _ _ => (pv 3)))
    (pss_one (ps_ret (pe_callB (k_len (K := K) rfl) (by rfl) T.m_len (by decide +kernel) (pa_cons (pe_lc (own := [("thing", 3)]) rfl sc_Lot_tops_from.nd (k_piL (K := K) rfl (pv 2)) (blkOk_by (own := [("thing", 3)]) (N := N_Lot_tops_from) (by kernel_rfl)) (fun _ _ _ _ _ => (pg_name (i := 3) sc_Lot_tops_from.nd rfl (by first | exact Or.inl rfl | exact Or.inr rfl))) (fun _ _ _ _ _ => (pts_one (pt_cmp (pc_dnotin (hu_of hr) (pv 3) (k_fld (K := K) rfl (pv 0) rfl))))) (fun _ _ _ _ _ => (pv 3))) pa_nil))))), ?_⟩
    refine ⟨_, rfl, p, c.Lot, dx, _, _, rfl, h1, T.cL, T.l1, lf_1 _ _ _ _, t, _, rfl, h2, fun D hD => lcG (K := K) (src_enumT h2) (Same.refl _) hD (List.range ws.length) (by simp) (by rw [List.length_map]; exact small1000 (by omega)) (fun i => decide (l ≤ wI ws i)) (fun (n : Nat) => PyData.int n) ?_ ?_⟩
    · rintro i a x H2 R hi e2 ⟨y, hy, Ta, rfl, hT⟩ hyes hno
      have hiw : i < ws.length := by have := (List.getElem?_eq_some_iff.1 hi).1; simpa using this
      rw [List.getElem?_range hiw] at hi
      cases hi
      rw [List.getElem?_map, List.getElem?_eq_getElem hiw] at hy
      cases hy
      have ew : wI ws i = ws[i] := by unfold wI; rw [getD_get hiw]
      refine ⟨Ta, _, rfl, hT, rfl, _, _, rfl, _, _, rfl, rfl, rfl, _, rfl, _, rfl, _, _, rfl, rfl, _, rfl, ite2 (fun hb => ?_) (fun hb => ?_)⟩
      · exact ⟨_, rfl, hyes _ _ (by rw [ew]; exact hb) (Same.refl _) (.int _)⟩
      · exact hno _ (by rw [ew]; simpa using hb) (Same.refl _)
    · intro H1 e1 d1
      generalize hth : (List.range ws.length).filter (fun i => decide (l ≤ wI ws i)) = th at d1
      have lth : th.length ≤ ws.length := by rw [← hth]; have := List.length_filter_le (fun i => decide (l ≤ wI ws i)) (List.range ws.length); simpa using this
      obtain ⟨_, er, hv⟩ := dpNs (l := th) d1.dp
      cases er
      refine ⟨_, rfl, D, rfl, ⟨_, hv⟩, fun D2 hD2 => lcG (K := K) (src_list hv) (Same.refl _) hD2 th (by simp) (by rw [List.length_map]; exact small1000 (by omega)) (fun i => !decide (i ∈ keysM m)) (fun (n : Nat) => PyData.int n) ?_ ?_⟩
      · rintro i a x H2 R hi e2 hx hyes hno
        rw [List.getElem?_map, hi] at hx
        cases hx
        refine ⟨rfl, _, rfl, _, rfl, p, c.Lot, dx, _, _, rfl, (e1.trans e2) _ _ h1, T.cL, T.l4, lf_4 _ _ _ _, tm, _, rfl, DGet.k (k := Sum.inl (a : Int)) ((e1.trans e2) _ _ h3), _, rfl, ?_⟩
        have hm : ((NkM.get m a).map fun (v : Nat) => V.int v).isSome = decide (a ∈ keysM m) := by
          cases hg : NkM.get m a with
          | none => have := get_none.1 hg; simp only [keysM]; simp [this]
          | some y => have : a ∈ keysM m := List.mem_map.2 ⟨_, get_mem hg, rfl⟩; simp [this]
        rw [dk_get, hm]
        refine ite2 (fun hb => ?_) (fun hb => ?_)
        · exact ⟨_, rfl, hyes _ _ hb (Same.refl _) (.int _)⟩
        · exact hno _ (by simpa using hb) (Same.refl _)
      · intro H2 e2 d2
        obtain ⟨_, er, hv2⟩ := dpNs (l := th.filter fun i => !decide (i ∈ keysM m)) d2.dp
        cases er
        refine ⟨D2, _, rfl, .inl hv2, ?_⟩
        have : (((th.filter fun i => !decide (i ∈ keysM m)).map fun (n : Nat) => V.int n).length : Int) = (topsM ws m l : Int) := by
          rw [List.length_map, ← hth]; rfl
        rw [this]
        exact hq _ (e1.trans e2)
theorem ok_wid (F : FnD K "width" "Lot.width" s_Lot_width f fd) (M_Lot_tops_from : Own P w K mg base c.Lot "tops_from" 1 ["self", "level"] (spTops K c)) : FnOk P w K mg base CX0 2 f fd ["self"] (spWid K c) := by
  refine F.ok sc_Lot_width (fun vs H Q E h => ?_) (fun cdv A outer s H vs Q E hr h => ?_)
  · obtain ⟨p, ws, ab, m, rfl, _⟩ := h; rfl
  · obtain ⟨p, ws, ab, m, rfl, hL, h48, hq⟩ := h
    obtain ⟨dx, t, tp, ta, tm, h1, h2, h3⟩ := id hL
    refine ⟨_, PSs.nox (pss_one (ps_ret (pe_own M_Lot_tops_from (hr.mono (by first | decide | omega)) (pv 0) (pa_cons pe_int pa_nil)))), ?_⟩
    exact ⟨_, rfl, p, dx, _, rfl, h1, lf_no _ _ _ _ (by decide +kernel) (by decide +kernel) (by decide +kernel) (by decide +kernel), p, ws, ab, m, 0, rfl, hL, h48, hq⟩
omit T in
theorem steps_mem : ∀ (ls : List Int) (b : Int), ∀ q ∈ stepsM b ls, q.1 ∈ ls ∧ ∃ p, (p = b ∨ p ∈ ls) ∧ q.2 = q.1 - p
  | [], _, q, h => by simp [stepsM] at h
  | l :: ls, b, q, h => by
    rw [stepsM] at h
    rcases List.mem_cons.1 h with e | h
    · rw [e]; exact ⟨by simp, b, .inl rfl, rfl⟩
    · obtain ⟨h1, p, h2, h3⟩ := steps_mem ls l q h
      refine ⟨List.mem_cons_of_mem _ h1, p, ?_, h3⟩
      rcases h2 with e | h2
      · rw [e]; exact .inr (by simp)
      · exact .inr (List.mem_cons_of_mem _ h2)
theorem ok_leastS (F : FnD K "least_sum" "Lot.least_sum" s_Lot_least_sum f fd) (M_Lot_tops_from : Own P w K mg base c.Lot "tops_from" 1 ["self", "level"] (spTops K c)) (M_Lot_steps : Own P w K mg base c.Lot "steps" 1 ["self"] (spSteps K c)) :
    FnOk P w K mg base CX0 2 f fd ["self"] (spLeastS K c) := by
  refine F.ok sc_Lot_least_sum (fun vs H Q E h => ?_) (fun cdv A outer s H vs Q E hr h => ?_)
  · obtain ⟨p, ws, ab, m, rfl, _⟩ := h; rfl
  · obtain ⟨p, ws, ab, m, rfl, hL, h48, hw, hq⟩ := h
    obtain ⟨dx, t, tp, ta, tm, h1, h2, h3⟩ := id hL
    refine ⟨_, PSs.nox (pss_one (ps_ret (pe_callB (k_sum (K := K) rfl rfl) (by rfl) T.m_sum (by decide +kernel) (pa_cons (pe_lc (own := [("level", 1), ("step", 2)]) rfl sc_Lot_least_sum.nd (k_piL (K := K) rfl (pe_own0 M_Lot_steps (hr.mono (by first | decide | omega)) (pv 0))) (blkOk_by (own := [("level", 1), ("step", 2)]) (N := N_Lot_least_sum) (by kernel_rfl)) (fun _ _ _ _ _ => (k_gTup (K := K) (n := 2) rfl rfl (pgs_cons (pg_name (i := 1) sc_Lot_least_sum.nd rfl (by first | exact Or.inl rfl | exact Or.inr rfl)) (pgs_cons (pg_name (i := 2) sc_Lot_least_sum.nd rfl (by first | exact Or.inl rfl | exact Or.inr rfl)) pgs_nil)))) (fun _ _ _ _ _ => pts_nil) (fun _ _ _ _ _ => (pe_op op_mulW (pv 2) (pe_own M_Lot_tops_from (hr.mono (by first | decide | omega)) (pv 0) (pa_cons (pv 1) pa_nil))))) pa_nil)))), ?_⟩
    refine ⟨_, rfl, p, dx, _, rfl, h1, lf_no _ _ _ _ (by decide +kernel) (by decide +kernel) (by decide +kernel) (by decide +kernel), p, ws, ab, m, rfl, hL, h48, fun v' H1 e1 d1 => ?_⟩
    obtain ⟨r, us, rfl, hu, du⟩ : ∃ r vs, v' = V.ref r ∧ H1 r = some (.lst vs) ∧ DfAll K H H1 vs ((stepsM 0 (levelsM ws)).map encII) := by
      cases d1 with | lst a1 a2 a3 => exact ⟨_, _, rfl, a2, a3⟩
    have lu : us.length = (stepsM 0 (levelsM ws)).length := by have := du.len; simpa using this
    have ls : ∀ (ls : List Int) (b : Int), (stepsM b ls).length = ls.length := by
      intro ls; induction ls with
      | nil => intro b; rfl
      | cons l ls ih => intro b; simp [stepsM, ih]
    have ll : (levelsM ws).length ≤ ws.length := (canon_nodup encI ws).length_le_of_subset (fun x hx => canon_mem.1 hx)
    refine ⟨r, rfl, ⟨_, SqL.of hu⟩, fun D hD => lcM (K := K) (src_list (SqL.of hu)) (Same.refl _) hD (stepsM 0 (levelsM ws)) lu.symm (by rw [lu, ls]; exact small1000 (by omega)) (fun q => PyData.int (q.2 * (topsM ws m q.1 : Int))) ?_ ?_⟩
    · rintro i a x H2 R hi e2 hx hyes
      obtain ⟨d, k1, k2⟩ := dpAll_get du.dp hx
      rw [List.getElem?_map, hi] at k1
      cases k1
      have k3 := dp_ext e2 k2
      obtain ⟨m1, pp, m2, m3⟩ := steps_mem _ _ a (List.mem_of_getElem? hi)
      have hw1 := hw _ (canon_mem.1 m1)
      have hpp : 0 ≤ pp ∧ pp ≤ 10 ^ 39 := by
        rcases m2 with e | m2
        · rw [e]; exact ⟨by omega, by decide⟩
        · exact hw _ (canon_mem.1 m2)
      unfold encII at k3
      cases k3 with
      | tup hs ha =>
        cases ha with | cons g1 g2 => cases g2 with | cons g2 g3 =>
          cases g3; cases g1; cases g2
          refine ⟨_, _, rfl, hs, rfl, _, _, rfl, _, _, rfl, rfl, rfl, _, rfl, _, rfl, p, dx, _, rfl, (e1.trans e2) _ _ h1, lf_no _ _ _ _ (by decide +kernel) (by decide +kernel) (by decide +kernel) (by decide +kernel), _, rfl, p, ws, ab, m, a.1, rfl, hL.ext (e1.trans e2), h48, fun H3 e3 => ?_⟩
          refine ⟨_, _, rfl, rfl, ?_, hyes _ _ e3 (.int _)⟩
          have hb : a.2.natAbs < 2 ^ 200 := by
            have : a.2.natAbs ≤ 10 ^ 39 := by rw [m3]; omega
            exact Nat.lt_of_le_of_lt this (by decide)
          have ht : (topsM ws m a.1 : Int).natAbs < 2 ^ 64 := by
            have : topsM ws m a.1 ≤ ws.length := by
              unfold topsM
              refine Nat.le_trans (List.length_filter_le _ _) (Nat.le_trans (List.length_filter_le _ _) (by simp))
            simp; omega
          exact wide_mul hb ht (by decide) (by decide) (by decide)
    · intro H2 e2 d2
      obtain ⟨_, er, hv2⟩ : ∃ r, V.ref D = V.ref r ∧ SqL K H2 r (((stepsM 0 (levelsM ws)).map fun q => q.2 * (topsM ws m q.1 : Int)).map V.int) := by
        have hb : ((stepsM 0 (levelsM ws)).map fun q => PyData.int (q.2 * (topsM ws m q.1 : Int))) = ((stepsM 0 (levelsM ws)).map fun q => q.2 * (topsM ws m q.1 : Int)).map PyData.int := by rw [List.map_map]; rfl
        rw [hb] at d2
        cases d2 with | lst a1 a2 a3 => rw [dpAll_toInts a3.dp] at a2; exact ⟨D, rfl, SqL.of a2⟩
      cases er
      exact ⟨D, _, rfl, hv2, hq _ (e1.trans e2)⟩
end
end NkW
end
section
set_option Elab.async false
set_option linter.all false
set_option maxRecDepth 100000
set_option maxHeartbeats 2000000
/-! lots.py: the making of a lot -/
namespace NkW
open PySem PySem.Spec PyProof.Rows L2 NkO NkR NkS NkQ NkM
abbrev s_Lot___init__ : Stmt := inClass (top 44) 0
abbrev N_Lot___init__ : List Str := ["self", "weights", "pairs", "low", "high", "odd", "thing"]
theorem sc_Lot___init__ : FnScope N_Lot___init__ ["self", "weights", "pairs"] (defScope s_Lot___init__) := ⟨rfl, rfl, rfl, by decide +kernel, rfl, by decide +kernel, by decide +kernel⟩

def NotL (o : HO) : Prop := (∀ xs, o ≠ .lst xs) ∧ ∀ ob xs, o ≠ .frz ob (.lst xs)
theorem wo_sqL {K : PySem.W.Frag} {H : Hp} {Ds : List Addr} (hD : ∀ D ∈ Ds, ∃ o, H D = some o ∧ NotL o) {a : Addr} {xs : List V} (h : SqL K H a xs) : SqL K (wo Ds H) a xs := by
  rcases h with (h | ⟨ob, h⟩) | h
  · refine .inl (.inl ?_)
    rw [wo_at]; exact h
    intro z
    obtain ⟨o, e, c1, c2⟩ := hD a z
    rw [h] at e; exact c1 xs (Option.some.inj e).symm
  · refine .inl (.inr ⟨ob, ?_⟩)
    rw [wo_at]; exact h
    intro z
    obtain ⟨o, e, c1, c2⟩ := hD a z
    rw [h] at e; exact c2 ob xs (Option.some.inj e).symm
  · exact .inr h
theorem paired_II {K : PySem.W.Frag} {H : Hp} : ∀ {vs : List V} {l : List (Int × Int)}, DpAll K H vs (l.map encII) → Paired (fun v k => (∃ a, v = V.ref a) ∧ Dp K H v k.data ∧ k.depth ≤ 8) vs (l.map kII)
  | _, [], h => by cases h; exact .nil
  | _, q :: qs, h => by
    cases h with
    | cons h1 h2 =>
      have h1' := h1
      unfold encII at h1'
      cases h1' with
      | tup hs ha => exact .cons ⟨⟨_, rfl⟩, by rw [kII_data]; exact h1, by simp [kII, NestedKey.depth, NestedKey.depthAll]⟩ (paired_II h2)
/-- what a lot's pairs come from -/
structure AbOk (n : Nat) (ab : Nat → List Nat) (ws : List Int) : Prop where
  lt : ∀ l, ∀ x ∈ ab l, x < n
  asc : ∀ l, (ab l).Pairwise (· < ·)
  irr : ∀ l, l ∉ ab l
  trn : ∀ x y z, y ∈ ab x → z ∈ ab y → z ∈ ab x
  mono : ∀ x y, x < n → y ∈ ab x → wI ws x ≤ wI ws y
def pairsM (ab : Nat → List Nat) (n : Nat) : List (Nat × Nat) := (List.range n).flatMap fun i => (ab i).map fun j => (i, j)
theorem mem_pairs {ab : Nat → List Nat} {n : Nat} {p : Nat × Nat} : p ∈ pairsM ab n ↔ p.1 < n ∧ p.2 ∈ ab p.1 := by
  unfold pairsM
  rw [List.mem_flatMap]
  constructor
  · rintro ⟨i, hi, h⟩
    obtain ⟨j, hj, rfl⟩ := List.mem_map.1 h
    exact ⟨List.mem_range.1 hi, hj⟩
  · rintro ⟨h1, h2⟩
    exact ⟨p.1, List.mem_range.2 h1, List.mem_map.2 ⟨p.2, h2, rfl⟩⟩
def rowP (ps : List (Nat × Nat)) (j : Nat) : List Nat := (ps.filter fun p => decide (p.1 = j)).map (·.2)
theorem rowP_pairs {ab : Nat → List Nat} {n : Nat} : ∀ j, j < n → rowP (pairsM ab n) j = ab j := by
  intro j hj
  unfold rowP pairsM
  induction n with
  | zero => omega
  | succ n ih =>
    rw [List.range_succ, List.flatMap_append, List.filter_append, List.map_append]
    simp only [List.flatMap_cons, List.flatMap_nil, List.append_nil]
    by_cases e : j = n
    · subst e
      have h1 : ((List.range j).flatMap fun i => (ab i).map fun k => (i, k)).filter (fun p => decide (p.1 = j)) = [] := by
        rw [List.filter_eq_nil_iff]
        intro p hp
        have := (mem_pairs (ab := ab) (n := j)).1 hp
        simp; omega
      have h2 : ((ab j).map fun k => (j, k)).filter (fun p => decide (p.1 = j)) = (ab j).map fun k => (j, k) := by
        rw [List.filter_eq_self]; intro p hp; obtain ⟨k, _, rfl⟩ := List.mem_map.1 hp; simp
      rw [h1, h2, List.map_map]
      show [] ++ (ab j).map (fun k => k) = ab j
      simp
    · have h2 : ((ab n).map fun k => (n, k)).filter (fun p => decide (p.1 = j)) = [] := by
        rw [List.filter_eq_nil_iff]; intro p hp; obtain ⟨k, _, rfl⟩ := List.mem_map.1 hp; simp; omega
      rw [ih (by omega), h2]; simp
def prI (p : Nat × Nat) : Int × Int := ((p.1 : Int), (p.2 : Int))
theorem pairs_can {ab : Nat → List Nat} {n : Nat} (h : ∀ l, (ab l).Pairwise (· < ·)) : Can encII ((pairsM ab n).map prI) := by
  have key : (pairsM ab n).Pairwise (fun p q => p.1 < q.1 ∨ (p.1 = q.1 ∧ p.2 < q.2)) := by
    unfold pairsM
    rw [List.pairwise_flatMap]
    refine ⟨fun i _ => ?_, List.pairwise_lt_range.imp ?_⟩
    · rw [List.pairwise_map]; exact (h i).imp fun hlt => .inr ⟨rfl, hlt⟩
    · intro a b hab x hx y hy
      obtain ⟨_, _, rfl⟩ := List.mem_map.1 hx
      obtain ⟨_, _, rfl⟩ := List.mem_map.1 hy
      exact .inl hab
  constructor
  · rw [List.Nodup, List.pairwise_map]
    refine key.imp fun {p q} hpq e => ?_
    unfold prI at e; simp at e; omega
  · rw [List.pairwise_map]
    refine key.imp fun {p q} hpq => ?_
    rw [leII]; unfold prI; simp; omega
theorem encPr_map (ps : List (Nat × Nat)) : ps.map encPr = (ps.map prI).map encII := by rw [List.map_map]; rfl

/-- the rows that stand at as -/
def RowsAt (H : Hp) (as : List Addr) (ps : List (Nat × Nat)) : Prop := ∀ j a, as[j]? = some a → H a = some (.lst ((rowP ps j).map fun (n : Nat) => V.int n))
theorem RowsAt.step {H : Hp} {as : List Addr} {ps : List (Nat × Nat)} (h : RowsAt H as ps) (nd : as.Nodup) {low high : Nat} {a : Addr} (ha : as[low]? = some a) :
    RowsAt (upd H a (.lst (((rowP ps low).map fun (n : Nat) => V.int n) ++ [V.int high]))) as (ps ++ [(low, high)]) := by
  intro j b hb
  have hr : rowP (ps ++ [(low, high)]) j = rowP ps j ++ (if low = j then [high] else []) := by
    unfold rowP; rw [List.filter_append, List.map_append]
    by_cases e : low = j <;> simp [e]
  by_cases e : low = j
  · subst e
    rw [ha] at hb; cases hb
    rw [upd_same, hr]; simp
  · have : b ≠ a := by
      intro z; subst z
      obtain ⟨h1, h2⟩ := List.getElem?_eq_some_iff.1 ha
      obtain ⟨h3, h4⟩ := List.getElem?_eq_some_iff.1 hb
      exact e ((List.getElem_inj nd).1 (h2.trans h4.symm))
    rw [upd_ne this, hr, if_neg e, List.append_nil]; exact h j b hb
theorem RowsAt.ext {H H' : Hp} {as : List Addr} {ps : List (Nat × Nat)} (h : RowsAt H as ps) (e : Same H H') : RowsAt H' as ps := fun j a ha => e _ _ (h j a ha)
theorem RowsAt.dp {K : PySem.W.Frag} {H : Hp} {as : List Addr} {ab : Nat → List Nat} {n : Nat} (h : RowsAt H as (pairsM ab n)) (hl : as.length = n) {D : Addr} (hD : SqL K H D (as.map V.ref)) : Dp K H (.ref D) (rowsAb ab n) := by
  refine .lst hD ?_
  have : ∀ (bs : List Addr) (js : List Nat), bs.length = js.length → (∀ (i : Nat) b j, bs[i]? = some b → js[i]? = some j → H b = some (.lst ((ab j).map fun (n : Nat) => V.int n))) → DpAll K H (bs.map V.ref) (js.map fun i => encNs (ab i)) := by
    intro bs
    induction bs with
    | nil => intro js hl _; cases js with
      | nil => exact .nil
      | cons a l => simp at hl
    | cons b bs ih =>
      intro js hl hh
      cases js with
      | nil => simp at hl
      | cons j js => exact .cons (.lst (SqL.of (hh 0 b j rfl rfl)) (mk_nats _)) (ih js (by simpa using hl) fun i b' j' h1 h2 => hh (i + 1) b' j' (by simpa using h1) (by simpa using h2))
  refine this as (List.range n) (by simp [hl]) fun i b j hb hj => ?_
  have hi : i < n := by have := (List.getElem?_eq_some_iff.1 hb).1; omega
  rw [List.getElem?_range hi] at hj
  cases hj
  have := h i b hb
  rw [rowP_pairs i hi] at this; exact this

/-- [[] for x in ..]: as many new lists -/
theorem lcE {J : It} {H0 H1 : Hp} {n : Nat} {Item : Nat → V → Hp → Prop} {g : TG} {ws : List Nat} {σ : L2.St} {D : Addr} {Qd : Hp → Prop} (hJ : SrcJ J H0 n Item) (e0 : Same H0 H1) (hD : H1 D = Option.none) (hz : n < sizeLine)
    (hg : ∀ i x H2 (R : L2.St → Hp → Prop), i < n → Same H1 H2 → Item i x H2 → (∀ σ2, wipe σ2 ws = wipe σ ws → R σ2 H2) → g x (wipe σ ws) H2 R)
    (hd : ∀ H' (as : List Addr), Same H1 H' → H' D = some (.lst (as.map V.ref)) → as.Nodup → D ∉ as → as.length = n → (∀ a ∈ as, H1 a = Option.none ∧ H' a = some (.lst [])) → Qd H') :
    ∃ W : Nat → Nat → Hp → Prop, (∃ m, W 0 m (upd H1 D (.lst []))) ∧ ∀ i m H, W i m H →
      (J.stop i H ∧ Qd H) ∨ (J.go i H ∧ ∃ Nx : Hp → Prop, (∀ H', Nx H' → ∃ m', m' < m ∧ W (i + 1) m' H') ∧ ∀ x H', J.yld i H x H' → g x (wipe σ ws) H' fun σ2 H2 => wipe σ2 ws = wipe σ ws ∧ tYes σ2 H2 fun b H3 =>
        if b = true then tLst tNil σ2 H3 fun y H4 => ∃ acc, H4 D = some (.lst acc) ∧ acc.length < sizeLine ∧ Nx (upd H4 D (.lst (acc ++ [y]))) else Nx H3) := by
  let Pv : Nat → Hp → Prop := fun i H => Same H1 H ∧ ∃ as : List Addr, H D = some (.lst (as.map V.ref)) ∧ as.Nodup ∧ D ∉ as ∧ as.length = i ∧ ∀ a ∈ as, H1 a = Option.none ∧ H a = some (.lst [])
  refine ⟨fun i m H => m = n - i ∧ i ≤ n ∧ Pv i H, ⟨n, by simp, Nat.zero_le _, same_new hD, [], upd_same, by simp, by simp, rfl, by simp⟩, ?_⟩
  rintro i m H ⟨rfl, hi, p1, as, q1, q2, q3, q4, q5⟩
  by_cases hlt : i < n
  · obtain ⟨g1, g2⟩ := hJ.go i H (e0.trans p1) hlt
    refine .inr ⟨g1, Pv (i + 1), fun H' h => ⟨n - (i + 1), by omega, rfl, hlt, h⟩, fun x H' y => ?_⟩
    obtain ⟨e1, it⟩ := g2 x H' y
    refine hg i x H' _ hlt (p1.trans e1) it fun σ2 h2 => ⟨h2, tY (iteT ⟨Nat.zero_le _, fun l hl => ?_⟩)⟩
    have e2 := same_new (o := HO.lst []) hl
    have hD' := e2 _ _ (e1 _ _ q1)
    have nlD : l ≠ D := fun z => by rw [z, e1 _ _ q1] at hl; cases hl
    have nla : l ∉ as := fun z => by rw [e1 _ _ (q5 l z).2] at hl; cases hl
    refine ⟨_, hD', by rw [List.length_map]; omega, same_upd_new ((p1.trans e1).trans e2) hD, as ++ [l], by rw [upd_same]; simp, ?_, ?_, by simp; omega, ?_⟩
    · rw [List.nodup_append]
      exact ⟨q2, by simp, fun a ha b hb => by simp at hb; subst hb; intro e; exact nla (e ▸ ha)⟩
    · intro z; rcases List.mem_append.1 z with z | z
      · exact q3 z
      · simp at z; exact nlD z.symm
    · intro a ha
      rcases List.mem_append.1 ha with ha | ha
      · have hne : a ≠ D := fun z => q3 (z ▸ ha)
        exact ⟨(q5 a ha).1, by rw [upd_ne hne]; exact e2 _ _ (e1 _ _ (q5 a ha).2)⟩
      · simp at ha; subst ha
        exact ⟨(p1.trans e1).free hl, by rw [upd_ne nlD]; exact upd_same⟩
  · have e : i = n := by omega
    subst e
    exact .inl ⟨hJ.stop _ (e0.trans p1), hd H as p1 q1 q2 q3 q4 q5⟩

def spOdd (K : PySem.W.Frag) (c : Ad) : Sp := fun vs H Q _ => ∃ (p dx t tp ta : Addr) (us : List V) (ws : List Int) (ab : Nat → List Nat) (n : Nat), vs = [.ref p] ∧ H p = some (.ins c.Lot dx (lf3 (.ref t) (.ref tp) (.ref ta))) ∧ SqT K H t (ws.map V.int) ∧ SqT K H tp us ∧ DpAll K H us ((pairsM ab n).map encPr) ∧
  Dp K H (.ref ta) (rowsAb ab n) ∧ AbOk n ab ws ∧ ws.length = n ∧ n ≤ 48 ∧ ∀ v' H', Same H H' → Df K H H' v' (.list []) → Q v' H'

section
variable {P : Program} {w : World} {K : PySem.W.Frag} {mg : Str → Option Value} {base : Heap} {c : Ad} {f : Addr} {fd : FuncData} (T : Tx K mg c)
include T
theorem ok_odd (F : FnD K "odd_pairs" "Lot.odd_pairs" s_Lot_odd_pairs f fd) : FnOk P w K mg base CX0 1 f fd ["self"] (spOdd K c) := by
  refine F.ok sc_Lot_odd_pairs (fun vs H Q E h => ?_) (fun cdv A outer s H vs Q E hr h => ?_)
  · obtain ⟨p, dx, t, tp, ta, us, ws, ab, n, rfl, _⟩ := h; rfl
  · obtain ⟨p, dx, t, tp, ta, us, ws, ab, n, rfl, h1, ht, htp, hus, hta, hab, hwn, h48, hq⟩ := h
    refine ⟨_, PSs.nox (pss_cons (ps_set (i := 1) sc_Lot_odd_pairs.nd rfl (by first | exact Or.inl rfl | exact Or.inr rfl) (pe_lst pa_nil))
    (pss_cons (ps_for PassesOwn.never rfl (k_piT (K := K) rfl (k_fld (K := K) rfl (pv 0) rfl)) (k_gTup (K := K) (n := 2) rfl rfl (pgs_cons (pg_name (i := 2) sc_Lot_odd_pairs.nd rfl (by first | exact Or.inl rfl | exact Or.inr rfl)) (pgs_cons (pg_name (i := 3) sc_Lot_odd_pairs.nd rfl (by first | exact Or.inl rfl | exact Or.inr rfl)) pgs_nil)))
    (pss_cons (ps_if (PW.pt (pw_or (pt_cmpR op_eq (pv 2) (pv 3) (nomark _)) (pw_or1 (pt_cmpR op_lt (pe_ix (k_ixT (K := K) rfl) (k_fld (K := K) rfl (pv 0) rfl) (pv 3) (fun _ _ => rfl)) (pe_ix (k_ixT (K := K) rfl) (k_fld (K := K) rfl (pv 0) rfl) (pv 2) (fun _ _ => rfl)) (nomark _))))) (pss_one (ps_expr (pe_bm PySem.F.plainAttrs_list PySem.F.slot_list_append PySem.F.type_list_append mt_append (pv 1) (pa_cons (pe_tup (pa_cons (pv 2) (pa_cons (pv 3) pa_nil))) pa_nil)))) pss_nil)
    (pss_one (ps_expr (pe_bm PySem.F.plainAttrs_list PySem.F.slot_list_extend PySem.F.type_list_extend mt_extend (pv 1) (pa_cons (pe_lc (own := [("top", 4)]) rfl sc_Lot_odd_pairs.nd (k_piL (K := K) rfl (pe_ix (k_ixL (K := K) rfl) (k_fld (K := K) rfl (pv 0) rfl) (pv 3) (fun _ _ => rfl))) (blkOk_by (own := [("top", 4)]) (N := N_Lot_odd_pairs) (by kernel_rfl)) (fun _ _ _ _ _ => (pg_name (i := 4) sc_Lot_odd_pairs.nd rfl (by first | exact Or.inl rfl | exact Or.inr rfl))) (fun _ _ _ _ _ => (pts_one (pt_cmpR (k_notIn (K := K) rfl) (pv 4) (pe_ix (k_ixL (K := K) rfl) (k_fld (K := K) rfl (pv 0) rfl) (pv 2) (fun _ _ => rfl)) rfl))) (fun _ _ _ _ _ => (pe_tup (pa_cons (pv 2) (pa_cons (pv 4) pa_nil))))) pa_nil))))))
    (pss_one (ps_ret (pv 1))))), ?_⟩
    refine ⟨Nat.zero_le _, fun Fa hFa => ?_⟩
    have e1 := same_new (o := HO.lst []) hFa
    have lus : us.length = (pairsM ab n).length := by have := dpAll_len hus; simpa using this
    refine ⟨_, rfl, p, c.Lot, dx, _, _, rfl, e1 _ _ h1, T.cL, T.l2, lf3_2 _ _ _, tp, rfl, ⟨_, sqT_ext e1 htp⟩, forG (H0 := H) (src_tup htp) (fun i σ H' => ∃ o2 o3 o4, σ = [some (.ref p), some (.ref Fa), o2, o3, o4] ∧ Same H H' ∧ H' Fa = some (.lst [])) ?_ ?_ ?_ ?_⟩
    · exact ⟨_, _, _, rfl, e1, upd_same⟩
    · rintro i σ H' ⟨_, _, _, _, e, _⟩; exact e
    · rintro i x σ H1 H2 hi ⟨o2, o3, o4, rfl, e2, hF⟩ e3 hx
      obtain ⟨d, k1, k2⟩ := dpAll_get hus hx
      have hip : i < (pairsM ab n).length := by omega
      rw [List.getElem?_map, List.getElem?_eq_getElem hip] at k1
      cases k1
      have hm := mem_pairs.1 (List.getElem_mem hip)
      generalize (pairsM ab n)[i] = pr at *
      obtain ⟨lo, hh⟩ := pr
      simp only at hm
      have e := e2.trans e3
      have hhn := hab.lt _ _ hm.2
      obtain ⟨Ta, rfl, hT⟩ := dpPr (dp_ext e k2)
      refine ⟨Ta, _, rfl, hT, rfl, _, _, rfl, _, _, rfl, rfl, ?_⟩
      have hne : lo ≠ hh := fun z => hab.irr hh (z ▸ hm.2)
      refine ⟨_, rfl, _, rfl, rfl, _, rfl, iF (decide_eq_false (by simp; omega)) ?_⟩
      have at1 : atI (ws.map V.int) (hh : Int) = some (V.int (wI ws hh)) := atI_nat (by rw [List.getElem?_map, List.getElem?_eq_getElem (by omega)]; unfold wI; rw [getD_get (by omega)]; rfl)
      have at2 : atI (ws.map V.int) (lo : Int) = some (V.int (wI ws lo)) := atI_nat (by rw [List.getElem?_map, List.getElem?_eq_getElem (by omega)]; unfold wI; rw [getD_get (by omega)]; rfl)
      refine ⟨_, rfl, p, c.Lot, dx, _, _, rfl, e _ _ h1, T.cL, T.l1, lf3_1 _ _ _, _, rfl, t, _, _, _, rfl, rfl, sqT_ext e ht, at1, _, rfl, p, c.Lot, dx, _, _, rfl, e _ _ h1, T.cL, T.l1, lf3_1 _ _ _, _, rfl, t, _, _, _, rfl, rfl, sqT_ext e ht, at2, _, _, rfl, rfl, _, rfl, ?_⟩
      refine iF (decide_eq_false (by have := hab.mono lo hh hm.1 hm.2; omega)) ?_
      obtain ⟨Aa, xs, r, er, hA, hat, hr1⟩ := ab_row (dp_ext e hta) hhn
      cases er
      obtain ⟨_, xs2, r2, er, hA2, hat2, hr2⟩ := ab_row (dp_ext e hta) hm.1
      cases er
      refine ⟨_, rfl, .inl ⟨rfl, _, SqL.of (e3 _ _ hF)⟩, _, rfl, p, c.Lot, dx, _, _, rfl, e _ _ h1, T.cL, T.l3, lf3_3 _ _ _, _, rfl, ta, xs, _, _, rfl, rfl, hA, hat, r, rfl, ⟨_, hr1⟩, fun D hD => lcG (K := K) (src_list hr1) (Same.refl _) hD (ab hh) (by simp) ?_ (fun _ => false) (fun (n : Nat) => PyData.int n) ?_ ?_⟩
      · rw [List.length_map]
        refine small1000 ?_
        have ndh : (ab hh).Nodup := (hab.asc hh).imp (fun h => Nat.ne_of_lt h)
        have : (ab hh).length ≤ (List.range n).length := ndh.length_le_of_subset (fun x hx => List.mem_range.2 (hab.lt _ _ hx))
        simp at this; omega
      · rintro j a z H3 R ha e4 hz hyes hno
        rw [List.getElem?_map, ha] at hz
        cases hz
        have ham := List.mem_of_getElem? ha
        have hin := hab.trn lo hh a hm.2 ham
        refine ⟨rfl, _, rfl, _, rfl, p, c.Lot, dx, _, _, rfl, (e.trans e4) _ _ h1, T.cL, T.l3, lf3_3 _ _ _, _, rfl, ta, xs2, _, _, rfl, rfl, sqL_ext e4 hA2, hat2, r2, _, rfl, .inl (sqL_ext e4 hr2), rfl, by simp [flatV], ?_⟩
        refine ⟨_, rfl, ?_⟩
        rw [inV_nats]
        refine iF (by simp [hin]) ?_
        exact hno _ rfl (Same.refl _)
      · intro H3 e4 d3
        have hD3 : H3 D = some (.lst []) := by
          rw [List.filter_eq_nil_iff.2 (fun _ _ => by simp)] at d3
          cases d3 with | lst a1 a2 a3 => cases a3; exact a2
        refine ⟨Fa, D, [], [], rfl, rfl, e4 _ _ (e3 _ _ hF), hD3, Nat.zero_le _, ?_⟩
        exact ⟨_, _, _, rfl, same_upd_new (e.trans e4) hFa, upd_same⟩
    · rintro σ H1 ⟨o2, o3, o4, rfl, e2, hF⟩
      exact ⟨_, rfl, hq _ _ e2 (.lst hFa hF .nil)⟩

def spLotInit (K : PySem.W.Frag) (c : Ad) : Sp := fun vs H Q _ => ∃ (p dx : Addr) (v u : V) (ws : List Int) (ab : Nat → List Nat) (n : Nat), vs = [.ref p, v, u] ∧ H p = some (.ins c.Lot dx []) ∧ Dp K H v (.list (ws.map PyData.int)) ∧ Dp K H u (.list ((pairsM ab n).map encPr)) ∧
  AbOk n ab ws ∧ ws.length = n ∧ n ≤ 48 ∧ (pairsM ab n).length < 64 ∧ (∀ x ∈ ws, 1 ≤ x ∧ x ≤ 10 ^ 39) ∧ ∀ H', But p H H' → LotAt K c H' p ws ab (lotMatch ws ab) → Q .non H'
theorem ok_lot_init (F : FnD K "__init__" "Lot.__init__" s_Lot___init__ f fd) (D_are_weights : Def P w K mg base "are_weights" 2 ["thing"] (spAreW K)) (D_are_pairs : Def P w K mg base "are_pairs" 3 ["thing", "many"] (spAreP K))
    (D_matched : Def P w K mg base "matched" 51 ["above", "order"] (spMatched K)) (M_Lot_odd_pairs : Own P w K mg base c.Lot "odd_pairs" 1 ["self"] (spOdd K c)) (M_Lot_heavy_first : Own P w K mg base c.Lot "heavy_first" 1 ["self"] (spHeavy K c)) :
    FnOk P w K mg base CX0 52 f fd ["self", "weights", "pairs"] (spLotInit K c) := by
  refine F.ok sc_Lot___init__ (fun vs H Q E h => ?_) (fun cdv A outer s H vs Q E hr h => ?_)
  · obtain ⟨p, dx, v, u, ws, ab, n, rfl, _⟩ := h; rfl
  · obtain ⟨p, dx, v, u, ws, ab, n, rfl, hp, hW, hP, hab, hwn, h48, h64, hw, hq⟩ := h
    obtain ⟨wa, rfl, hws⟩ : ∃ a, v = .ref a ∧ SqL K H a (ws.map V.int) := by
      cases hW with | lst hs ha => rw [dpAll_toInts ha] at hs; exact ⟨_, rfl, hs⟩
    obtain ⟨pa, us, rfl, hps, hus⟩ : ∃ a vs, u = .ref a ∧ SqL K H a vs ∧ DpAll K H vs ((pairsM ab n).map encPr) := by
      cases hP with | lst hs ha => exact ⟨_, _, rfl, hs, ha⟩
    refine ⟨_, PSs.nox (pss_cons (ps_if (pt_not (pt_val (pe_def D_are_weights (hr.mono (by first | decide | omega)) (pa_cons (pv 1) pa_nil)))) (pss_one ps_never) pss_nil)
    (pss_cons (ps_if (pt_not (pt_val (pe_def D_are_pairs (hr.mono (by first | decide | omega)) (pa_cons (pv 2) (pa_cons (pe_callB (k_len (K := K) rfl) (by rfl) T.m_len (by decide +kernel) (pa_cons (pv 1) pa_nil)) pa_nil))))) (pss_one ps_never) pss_nil)
    (pss_cons (ps_if (pt_cmpR op_gt (pe_callB (k_len (K := K) rfl) (by rfl) T.m_len (by decide +kernel) (pa_cons (pv 1) pa_nil)) (pe_gE (v := V.int 48) T.g_MOST_THINGS (fun t => ⟨t, rfl⟩)) (nomark _)) (pss_one ps_never) pss_nil)
    (pss_cons (ps_fld (pv 0) (pe_callTy (k_tuple (K := K) rfl) (by rfl) T.m_tuple (by decide +kernel) (pa_cons (pv 1) pa_nil)) rfl)
    (pss_cons (ps_fld (pv 0) (pe_callTy (k_tuple (K := K) rfl) (by rfl) T.m_tuple (by decide +kernel) (pa_cons (pe_callB (k_sort (K := K) (w := w) NestedKey.data rfl rfl hr rfl) (by rfl) T.m_sorted (by decide +kernel) (pa_cons (pe_callTy (k_setN (K := K) (w := w) rfl rfl hr rfl) (by rfl) T.m_set (by decide +kernel) (pa_cons (pv 2) pa_nil)) pa_nil)) pa_nil)) rfl)
    (pss_cons (ps_fld (pv 0) (pe_lc (own := [("thing", 6)]) rfl sc_Lot___init__.nd (k_piT (K := K) rfl (k_fld (K := K) rfl (pv 0) rfl)) (blkOk_by (own := [("thing", 6)]) (N := N_Lot___init__) (by kernel_rfl)) (fun _ _ _ _ _ => (pg_name (i := 6) sc_Lot___init__.nd rfl (by first | exact Or.inl rfl | exact Or.inr rfl))) (fun _ _ _ _ _ => pts_nil) (fun _ _ _ _ _ => (pe_lst pa_nil))) rfl)
    (pss_cons (ps_for PassesOwn.never rfl (k_piT (K := K) rfl (k_fld (K := K) rfl (pv 0) rfl)) (k_gTup (K := K) (n := 2) rfl rfl (pgs_cons (pg_name (i := 3) sc_Lot___init__.nd rfl (by first | exact Or.inl rfl | exact Or.inr rfl)) (pgs_cons (pg_name (i := 4) sc_Lot___init__.nd rfl (by first | exact Or.inl rfl | exact Or.inr rfl)) pgs_nil)))
    (pss_one (ps_expr (pe_bm PySem.F.plainAttrs_list PySem.F.slot_list_append PySem.F.type_list_append mt_append (pe_ix (k_ixL (K := K) rfl) (k_fld (K := K) rfl (pv 0) rfl) (pv 3) (fun _ _ => rfl)) (pa_cons (pv 4) pa_nil)))))
    (pss_cons (ps_set (i := 5) sc_Lot___init__.nd rfl (by first | exact Or.inl rfl | exact Or.inr rfl) (pe_own0 M_Lot_odd_pairs (hr.mono (by first | decide | omega)) (pv 0)))
    (pss_cons (ps_if (pt_cmpR (k_neD (K := K) rfl (hu64 hr)) (pv 5) (pe_lst pa_nil) (nomark _)) (pss_one ps_never) pss_nil)
    (pss_one (ps_fld (pv 0) (pe_def D_matched (hr.mono (by first | decide | omega)) (pa_cons (k_fld (K := K) rfl (pv 0) rfl) (pa_cons (pe_own0 M_Lot_heavy_first (hr.mono (by first | decide | omega)) (pv 0)) pa_nil))) rfl))))))))))), ?_⟩
    refine ⟨_, rfl, _, ws, rfl, hW, hw, by omega, fun H1 e1 => ⟨true, rfl, iteF ?_⟩⟩
    refine ⟨_, rfl, _, rfl, wa, _, rfl, .inl (sqL_ext e1 hws), .ref pa, pairsM ab n, n, by rw [List.length_map, hwn]; rfl, dp_ext e1 hP, fun q hq' => ⟨(mem_pairs.1 hq').1, hab.lt _ _ (mem_pairs.1 hq').2⟩, fun H2 e2 => ⟨true, rfl, iteF ?_⟩⟩
    have e12 := e1.trans e2
    refine ⟨_, rfl, wa, _, rfl, .inl (sqL_ext e12 hws), _, _, rfl, rfl, _, rfl, iF (decide_eq_false (by simp; omega)) ?_⟩
    have nl : ∀ {H' : Hp} {fs : List (Str × V)}, H' p = some (.ins c.Lot dx fs) → ∀ D ∈ [p], ∃ o, H' D = some o ∧ NotL o := fun {H' fs} h D hD => by
      rw [List.mem_singleton.1 hD]; exact ⟨_, h, ⟨fun _ z => (by cases z), fun _ _ z => (by cases z)⟩⟩
    have nc : ∀ {H' : Hp} {fs : List (Str × V)}, H' p = some (.ins c.Lot dx fs) → ∀ D ∈ [p], ∃ o, H' D = some o ∧ Chg o := fun {H' fs} h D hD => by
      rw [List.mem_singleton.1 hD]; exact ⟨_, h, chg_ins _ _ _⟩
    have hp2 := e12 _ _ hp
    -- kept_weights
    refine ⟨_, rfl, wa, _, rfl, .inl ⟨sqL_ext e12 hws, fun ta hta => ?_⟩⟩
    have e3 := same_new (o := HO.tup (ws.map V.int)) hta
    have nta : ta ≠ p := fun z => by rw [z, hp2] at hta; cases hta
    refine ⟨_, rfl, p, c.Lot, dx, [], rfl, e3 _ _ hp2, T.cL, T.l1, (by show 0 < 1000; decide), ?_⟩
    have hB3 : Same (wo [p] H) (upd (upd H2 ta (HO.tup (ws.map V.int))) p (.ins c.Lot dx [("kept_weights", V.ref ta)])) := same_upd_wo (by simp) (wo_same.trans (e12.trans e3))
    have hp3 : (upd (upd H2 ta (HO.tup (ws.map V.int))) p (.ins c.Lot dx [("kept_weights", V.ref ta)])) p = some (.ins c.Lot dx [("kept_weights", V.ref ta)]) := upd_same
    have hta3 : (upd (upd H2 ta (HO.tup (ws.map V.int))) p (.ins c.Lot dx [("kept_weights", V.ref ta)])) ta = some (.tup (ws.map V.int)) := by rw [upd_ne nta]; exact upd_same
    show tSeq _ _ _ _ (upd (upd H2 ta (HO.tup (ws.map V.int))) p (.ins c.Lot dx [("kept_weights", V.ref ta)]))
    generalize (upd (upd H2 ta (HO.tup (ws.map V.int))) p (.ins c.Lot dx [("kept_weights", V.ref ta)])) = H3 at hB3 hp3 hta3
    -- kept_pairs
    have hpsB := wo_sqL (nl hp) hps
    have husB : DpAll K (wo [p] H) us ((pairsM ab n).map encPr) := wo_dpAll (nc hp) (fun x _ => rfl) hus
    have hus3 : DpAll K H3 us (((pairsM ab n).map prI).map encII) := by rw [← encPr_map]; exact dpAll_ext hB3 husB
    refine ⟨_, rfl, ?_⟩
    refine tN ?_
    refine rd_set kII ((pairsM ab n).map prI) (enc := encII) (.inl (sqL_ext hB3 hpsB)) (paired_II hus3) hus3 (by simpa using h64) fun b M H4 e4 hb S => ?_
    refine tN ?_
    refine rd_sortSet kII kII_inj (enc := encII) kII_data asmII S (by simpa using h64) (good_II _) fun r H5 e5 hr5 d5 => ?_
    have ecan : canon encII ((pairsM ab n).map prI) = (pairsM ab n).map prI := (pairs_can hab.asc).canon asmII (fun _ => Iff.rfl)
    rw [ecan] at d5
    obtain ⟨vs5, hv5, dv5⟩ : ∃ vs, H5 r = some (.lst vs) ∧ DfAll K H4 H5 vs (((pairsM ab n).map prI).map encII) := by
      cases d5 with | lst a1 a2 a3 => exact ⟨_, a2, a3⟩
    refine tN ?_
    refine ⟨r, vs5, rfl, .inl ⟨SqL.of hv5, fun tp htp => ?_⟩⟩
    have e6 := same_new (o := HO.tup vs5) htp
    have e36 := (e4.trans e5).trans e6
    have ntp : tp ≠ p := fun z => by rw [z, (e4.trans e5) _ _ hp3] at htp; cases htp
    refine ⟨_, rfl, p, c.Lot, dx, _, rfl, e36 _ _ hp3, T.cL, T.l2, (by show 1 < 1000; decide), ?_⟩
    have ep2 : putF "kept_pairs" (V.ref tp) ([("kept_weights", V.ref ta)] : List (Str × V)) = ([("kept_weights", V.ref ta), ("kept_pairs", V.ref tp)] : List (Str × V)) := put_ne (fun z => n21 z.symm)
    rw [ep2]
    have hB7 : Same (wo [p] H) (upd (upd H5 tp (HO.tup vs5)) p (.ins c.Lot dx [("kept_weights", V.ref ta), ("kept_pairs", V.ref tp)])) := same_upd_wo (by simp) (hB3.trans e36)
    have hB37 : Same (wo [p] H3) (upd (upd H5 tp (HO.tup vs5)) p (.ins c.Lot dx [("kept_weights", V.ref ta), ("kept_pairs", V.ref tp)])) := same_upd_wo (by simp) (wo_same.trans e36)
    have hp7 : (upd (upd H5 tp (HO.tup vs5)) p (.ins c.Lot dx [("kept_weights", V.ref ta), ("kept_pairs", V.ref tp)])) p = some (.ins c.Lot dx [("kept_weights", V.ref ta), ("kept_pairs", V.ref tp)]) := upd_same
    have htp7 : (upd (upd H5 tp (HO.tup vs5)) p (.ins c.Lot dx [("kept_weights", V.ref ta), ("kept_pairs", V.ref tp)])) tp = some (.tup vs5) := by rw [upd_ne ntp]; exact upd_same
    have hta7 : (upd (upd H5 tp (HO.tup vs5)) p (.ins c.Lot dx [("kept_weights", V.ref ta), ("kept_pairs", V.ref tp)])) ta = some (.tup (ws.map V.int)) := hB37 _ _ (by rw [wo_at (by simpa using nta)]; exact hta3)
    have hpp5 : H5 p = some (.ins c.Lot dx [("kept_weights", V.ref ta)]) := (e4.trans e5) _ _ hp3
    have dv7 : DpAll K (upd (upd H5 tp (HO.tup vs5)) p (.ins c.Lot dx [("kept_weights", V.ref ta), ("kept_pairs", V.ref tp)])) vs5 ((pairsM ab n).map encPr) := by
      rw [encPr_map]
      refine dpAll_ext (same_upd_wo (by simp) (wo_same.trans e6)) (wo_dpAll (Ds := [p]) (nc hpp5) (fun x _ => rfl) dv5.dp)
    generalize (upd (upd H5 tp (HO.tup vs5)) p (.ins c.Lot dx [("kept_weights", V.ref ta), ("kept_pairs", V.ref tp)])) = H7 at hB7 hB37 hp7 htp7 hta7 dv7
    clear d5 dv5 hv5 e6 e36 htp hpp5
    -- kept_above
    refine ⟨_, rfl, p, c.Lot, dx, _, _, rfl, hp7, T.cL, T.l1, look_eq, ta, rfl, ⟨_, SqT.of hta7⟩, fun D hD => lcE (src_tup (SqT.of hta7)) (Same.refl _) hD (by rw [List.length_map]; exact small1000 (by omega)) (fun i x H2 R _ _ _ h => h _ rfl) ?_⟩
    intro H8 as e8 hD8 ndas hDas las has
    rw [List.length_map, hwn] at las
    have hp8 := e8 _ _ hp7
    refine ⟨_, rfl, p, c.Lot, dx, _, rfl, hp8, T.cL, T.l3, (by show 2 < 1000; decide), ?_⟩
    have ep3 : putF "kept_above" (V.ref D) ([("kept_weights", V.ref ta), ("kept_pairs", V.ref tp)] : List (Str × V)) = lf3 (V.ref ta) (V.ref tp) (V.ref D) := by
      rw [put_ne (fun z => n31 z.symm), put_ne (fun z => n32 z.symm)]; rfl
    rw [ep3]
    have hDp : D ≠ p := fun z => by rw [z, hp7] at hD; cases hD
    have hasp : p ∉ as := fun z => by have := (has p z).1; rw [hp7] at this; cases this
    have hB9 : Same (wo [p] H) (upd H8 p (.ins c.Lot dx (lf3 (V.ref ta) (V.ref tp) (V.ref D)))) := same_upd_wo (by simp) (hB7.trans e8)
    have hB79 : Same (wo [p] H7) (upd H8 p (.ins c.Lot dx (lf3 (V.ref ta) (V.ref tp) (V.ref D)))) := same_upd_wo (by simp) (wo_same.trans e8)
    have hp9 : (upd H8 p (.ins c.Lot dx (lf3 (V.ref ta) (V.ref tp) (V.ref D)))) p = some (.ins c.Lot dx (lf3 (V.ref ta) (V.ref tp) (V.ref D))) := upd_same
    have hD9 : (upd H8 p (.ins c.Lot dx (lf3 (V.ref ta) (V.ref tp) (V.ref D)))) D = some (.lst (as.map V.ref)) := by rw [upd_ne hDp]; exact hD8
    have ha9 : ∀ a ∈ as, (upd H8 p (.ins c.Lot dx (lf3 (V.ref ta) (V.ref tp) (V.ref D)))) a = some (.lst []) := fun a ha => by rw [upd_ne (fun z : a = p => hasp (z ▸ ha))]; exact (has a ha).2
    have hta9 := hB79 _ _ (show wo [p] H7 ta = some (.tup (ws.map V.int)) by rw [wo_at (by simpa using nta)]; exact hta7)
    have htp9 := hB79 _ _ (show wo [p] H7 tp = some (.tup vs5) by rw [wo_at (by simpa using ntp)]; exact htp7)
    have dv9 := dpAll_ext hB79 (wo_dpAll (Ds := [p]) (nc hp7) (fun x _ => rfl) dv7)
    generalize (upd H8 p (.ins c.Lot dx (lf3 (V.ref ta) (V.ref tp) (V.ref D)))) = H9 at hB9 hB79 hp9 hD9 ha9 hta9 htp9 dv9
    -- the rows
    have ncs : ∀ D ∈ as, ∃ o, H9 D = some o ∧ Chg o := fun a ha => ⟨_, ha9 a ha, chg_lst _⟩
    have ntas : ta ∉ as := fun z => by have := (has ta z).1; rw [hta7] at this; cases this
    have ntps : tp ∉ as := fun z => by have := (has tp z).1; rw [htp7] at this; cases this
    have hpb : wo as H9 p = some (.ins c.Lot dx (lf3 (V.ref ta) (V.ref tp) (V.ref D))) := by rw [wo_at hasp]; exact hp9
    have hDb : wo as H9 D = some (.lst (as.map V.ref)) := by rw [wo_at hDas]; exact hD9
    have htab : wo as H9 ta = some (.tup (ws.map V.int)) := by rw [wo_at ntas]; exact hta9
    have htpb : wo as H9 tp = some (.tup vs5) := by rw [wo_at ntps]; exact htp9
    have dvb := wo_dpAll (Ds := as) ncs (fun x _ => rfl) dv9
    have lv5 : vs5.length = (pairsM ab n).length := by have := dpAll_len dv9; simpa using this
    have hBb : Same (wo [p] H) (wo as H9) := fun b o hb => by
      rw [wo_at (fun z => ?_)]
      · exact hB9 b o hb
      · have h1 := (has b z).1
        rw [hB7 b o hb] at h1; cases h1
    refine ⟨_, rfl, p, c.Lot, dx, _, _, rfl, hp9, T.cL, T.l2, lf3_2 _ _ _, tp, rfl, ⟨_, SqT.of htp9⟩, forG (H0 := wo as H9) (src_tup (SqT.of htpb)) (fun i σ H' => ∃ o3 o4 o5 o6, σ = [some (.ref p), some (.ref wa), some (.ref pa), o3, o4, o5, o6] ∧ Same (wo as H9) H' ∧ RowsAt H' as ((pairsM ab n).take i)) ?_ ?_ ?_ ?_⟩
    · exact ⟨_, _, _, _, rfl, wo_same, fun j a ha => by rw [List.take_zero]; exact ha9 a (List.mem_of_getElem? ha)⟩
    · rintro i σ H' ⟨_, _, _, _, _, e, _⟩; exact e
    · rintro i x σ Ha Hb hi ⟨o3, o4, o5, o6, rfl, ea, hR⟩ eb hx
      have hip : i < (pairsM ab n).length := by omega
      obtain ⟨d, k1, k2⟩ := dpAll_get dvb hx
      rw [List.getElem?_map, List.getElem?_eq_getElem hip] at k1
      cases k1
      have hm := mem_pairs.1 (List.getElem_mem hip)
      have htk : (pairsM ab n).take (i + 1) = (pairsM ab n).take i ++ [(pairsM ab n)[i]] := by rw [List.take_add_one, List.getElem?_eq_getElem hip]; rfl
      generalize (pairsM ab n)[i] = pr at *
      obtain ⟨lo, hh⟩ := pr
      simp only at hm
      obtain ⟨Ta, rfl, hT⟩ := dpPr (dp_ext (ea.trans eb) k2)
      have hlo : lo < as.length := by omega
      have hal : as[lo]? = some as[lo] := List.getElem?_eq_getElem hlo
      have hRb := hR.ext eb
      have hrow := hRb lo _ hal
      refine ⟨Ta, _, rfl, hT, rfl, _, _, rfl, _, _, rfl, rfl, ?_⟩
      have hatl : atI (as.map V.ref) (lo : Int) = some (V.ref as[lo]) := atI_nat (by rw [List.getElem?_map, hal]; rfl)
      have e2b := ea.trans eb
      have lrow : (rowP ((pairsM ab n).take i) lo).length < 1000 := by
        unfold rowP
        rw [List.length_map]
        have h1 := List.length_filter_le (fun p : Nat × Nat => decide (p.1 = lo)) ((pairsM ab n).take i)
        have h2 : ((pairsM ab n).take i).length ≤ (pairsM ab n).length := by rw [List.length_take]; omega
        omega
      refine ⟨_, rfl, p, c.Lot, dx, _, _, rfl, e2b _ _ hpb, T.cL, T.l3, lf3_3 _ _ _, _, rfl, D, _, _, _, rfl, rfl, SqL.of (e2b _ _ hDb), hatl, .inl ⟨rfl, _, SqL.of hrow⟩, _, rfl, as[lo], _, _, rfl, rfl, hrow, small1000 (by rw [List.length_map]; omega), ?_⟩
      refine ⟨_, _, _, _, rfl, same_upd_wo (List.getElem_mem hlo) e2b, ?_⟩
      rw [htk]
      exact hRb.step ndas hal
    · rintro σ Ha ⟨o3, o4, o5, o6, rfl, ea, hR⟩
      rw [lv5, List.take_length] at hR
      have hpa' := ea _ _ hpb
      have hDa := ea _ _ hDb
      have htaa := ea _ _ htab
      have htpa := ea _ _ htpb
      have dva := dpAll_ext ea dvb
      have hBa := hBb.trans ea
      have drow : Dp K Ha (.ref D) (rowsAb ab n) := hR.dp las (SqL.of hDa)
      -- odd
      refine ⟨_, rfl, p, dx, _, rfl, hpa', lf3_no _ _ _ (by decide +kernel) (by decide +kernel) (by decide +kernel), p, dx, ta, tp, D, vs5, ws, ab, n, rfl, hpa', SqT.of htaa, SqT.of htpa, dva, drow, hab, hwn, h48, fun v' Hc ec dc => ?_⟩
      refine ⟨_, rfl, Nat.zero_le _, fun E1 hE1 => ⟨.list [], .list [], dp_ext (same_new hE1) dc.dp, .lst (SqL.of upd_same) .nil, by decide, by decide, _, rfl, iF (by simp [PyData.eqv, PyData.eqvAll]) ?_⟩⟩
      have eE := ec.trans (same_new (o := HO.lst []) hE1)
      generalize (upd Hc E1 (HO.lst [])) = Hd at eE
      have hpd := eE _ _ hpa'
      -- the match
      refine ⟨_, rfl, p, c.Lot, dx, _, _, rfl, hpd, T.cL, T.l3, lf3_3 _ _ _, _, rfl, p, dx, _, rfl, hpd, lf3_no _ _ _ (by decide +kernel) (by decide +kernel) (by decide +kernel), p, dx, ta, _, ws, rfl, hpd, lf3_1 _ _ _, SqT.of (eE _ _ htaa), by omega, fun v2 He ee de => ?_⟩
      have F0 := hf_fall ws
      rw [hwn] at F0
      refine ⟨_, _, ab, n, hfM ws, rfl, dp_ext (eE.trans ee) drow, de.dp, hab.lt, F0.nd, fun x hx => (F0.mem x).1 hx, h48, fun dm Hf ef ndm hdm => ?_⟩
      have hpf := ef _ _ (ee _ _ hpd)
      have ndp : dm ≠ p := fun z => by rw [z, ee _ _ hpd] at ndm; cases ndm
      refine ⟨_, rfl, p, c.Lot, dx, _, rfl, hpf, T.cL, T.l4, (by show 3 < 1000; decide), ?_⟩
      have ep4 : putF "kept_match" (V.ref dm) (lf3 (V.ref ta) (V.ref tp) (V.ref D)) = lf (V.ref ta) (V.ref tp) (V.ref D) (V.ref dm) := by
        unfold lf3
        rw [put_ne (fun z => n41 z.symm), put_ne (fun z => n42 z.symm), put_ne (fun z => n43 z.symm)]; rfl
      rw [ep4]
      have hBf : Same (wo [p] H) Hf := ((hBa.trans eE).trans ee).trans ef
      refine hq _ (But.upd fun b o hb hne => hBf b o (by rw [wo_at (by simpa using hne)]; exact hb)) ⟨dx, ta, tp, D, dm, upd_same, SqT.of ?_, ?_⟩
      · rw [upd_ne nta]; exact ((eE.trans ee).trans ef) _ _ htaa
      · rw [upd_ne ndp, hdm]; unfold lotMatch; rw [hwn]
end
end NkW
end
section
set_option Elab.async false
set_option linter.all false
set_option maxRecDepth 100000
set_option maxHeartbeats 2000000
/-! fewest.py, weights.py, levels.py -/
namespace NkW
open PySem PySem.Spec PyProof.Rows L2 NkO NkR NkS NkQ NkM
abbrev s_Weights___init__ : Stmt := inClass (top 62) 0
abbrev N_Weights___init__ : List Str := ["self", "table", "column", "weight"]
theorem sc_Weights___init__ : FnScope N_Weights___init__ ["self", "table"] (defScope s_Weights___init__) := ⟨rfl, rfl, rfl, by decide +kernel, rfl, by decide +kernel, by decide +kernel⟩
abbrev s_Weights___call__ : Stmt := inClass (top 62) 5
abbrev N_Weights___call__ : List Str := ["self", "thing", "columns", "column"]
theorem sc_Weights___call__ : FnScope N_Weights___call__ ["self", "thing"] (defScope s_Weights___call__) := ⟨rfl, rfl, rfl, by decide +kernel, rfl, by decide +kernel, by decide +kernel⟩
abbrev s_pairs_of : Stmt := top 46
abbrev N_pairs_of : List Str := ["questions", "found", "low", "one", "high", "other"]
theorem sc_pairs_of : FnScope N_pairs_of ["questions"] (defScope s_pairs_of) := ⟨rfl, rfl, rfl, by decide +kernel, rfl, by decide +kernel, by decide +kernel⟩
abbrev s_shelf_of : Stmt := top 47
abbrev N_shelf_of : List Str := ["questions", "chains", "chain", "number"]
theorem sc_shelf_of : FnScope N_shelf_of ["questions", "chains"] (defScope s_shelf_of) := ⟨rfl, rfl, rfl, by decide +kernel, rfl, by decide +kernel, by decide +kernel⟩
abbrev s_plain_lot : Stmt := top 48
abbrev N_plain_lot : List Str := ["asked"]
theorem sc_plain_lot : FnScope N_plain_lot ["asked"] (defScope s_plain_lot) := ⟨rfl, rfl, rfl, by decide +kernel, rfl, by decide +kernel, by decide +kernel⟩
abbrev s_fewest : Stmt := top 49
abbrev N_fewest : List Str := ["asked"]
theorem sc_fewest : FnScope N_fewest ["asked"] (defScope s_fewest) := ⟨rfl, rfl, rfl, by decide +kernel, rfl, by decide +kernel, by decide +kernel⟩
abbrev s_weight_of : Stmt := top 51
abbrev N_weight_of : List Str := ["question", "weights"]
theorem sc_weight_of : FnScope N_weight_of ["question", "weights"] (defScope s_weight_of) := ⟨rfl, rfl, rfl, by decide +kernel, rfl, by decide +kernel, by decide +kernel⟩
abbrev s_lot_of : Stmt := top 52
abbrev N_lot_of : List Str := ["asked", "weights", "questions", "question"]
theorem sc_lot_of : FnScope N_lot_of ["asked", "weights"] (defScope s_lot_of) := ⟨rfl, rfl, rfl, by decide +kernel, rfl, by decide +kernel, by decide +kernel⟩
abbrev s_least_cost : Stmt := top 53
abbrev N_least_cost : List Str := ["asked", "weights"]
theorem sc_least_cost : FnScope N_least_cost ["asked", "weights"] (defScope s_least_cost) := ⟨rfl, rfl, rfl, by decide +kernel, rfl, by decide +kernel, by decide +kernel⟩

/-! ### a table of columns -/
def kt (t : List (Str × Int)) : List (Key × V) := t.map fun p => (Sum.inr p.1, V.int p.2)
def tabOf (t : List (Str × Int)) (x : Str) : Int := ((t.find? fun p => decide (p.1 = x)).map (·.2)).getD 1
theorem kt_get (t : List (Str × Int)) (x : Str) : valV (kt t) (Sum.inr x) = (t.find? fun p => decide (p.1 = x)).map fun p => V.int p.2 := by
  induction t with
  | nil => rfl
  | cons a t ih =>
    have e : kt (a :: t) = (Sum.inr a.1, V.int a.2) :: kt t := rfl
    by_cases h : a.1 = x
    · rw [e, valV_pos (by rw [h]), List.find?_cons_of_pos (by simpa using h)]; rfl
    · rw [e, valV_neg (by simpa using h), List.find?_cons_of_neg (by simpa using h)]; exact ih
theorem kt_getD (t : List (Str × Int)) (x : Str) : (valV (kt t) (Sum.inr x)).getD (V.int 1) = V.int (tabOf t x) := by
  rw [kt_get]; unfold tabOf
  cases t.find? fun p => decide (p.1 = x) <;> rfl
theorem valV_of_mem {kvs : List (Key × V)} (hn : (kvs.map (·.1)).Nodup) {k : Key} {v : V} (h : (k, v) ∈ kvs) : valV kvs k = some v := by
  induction kvs with
  | nil => cases h
  | cons a kvs ih =>
    obtain ⟨h1, h2⟩ := List.nodup_cons.1 hn
    rcases List.mem_cons.1 h with e | h
    · rw [← e, valV_pos rfl]
    · rw [valV_neg (fun z => h1 (List.mem_map.2 ⟨_, h, z.symm⟩))]; exact ih h2 h
structure TabOk (t : List (Str × Int)) : Prop where
  nd : (t.map (·.1)).Nodup
  col : ∀ p ∈ t, okC p.1 = true
  w : ∀ p ∈ t, 1 ≤ p.2 ∧ p.2 ≤ 10 ^ 30
  len : t.length ≤ 48
theorem tab_pos {t : List (Str × Int)} (h : TabOk t) (x : Str) : 1 ≤ tabOf t x ∧ tabOf t x ≤ 10 ^ 30 := by
  unfold tabOf
  cases e : t.find? fun p => decide (p.1 = x) with
  | none => exact ⟨by decide, by decide⟩
  | some p => exact h.w p (List.mem_of_find?_eq_some e)

/-- a Weights at p, or None -/
def WtAt (K : PySem.W.Frag) (c : Ad) (H : Hp) (v : V) (t : List (Str × Int)) : Prop :=
  (v = .non ∧ t = []) ∨ ∃ p dx d, v = .ref p ∧ H p = some (.ins c.Weights dx [("kept_table", V.ref d)]) ∧ H d = some (.dK (kt t))
theorem WtAt.ext {K : PySem.W.Frag} {c : Ad} {H H' : Hp} {v : V} {t : List (Str × Int)} (h : WtAt K c H v t) (e : Same H H') : WtAt K c H' v t := by
  rcases h with h | ⟨p, dx, d, h1, h2, h3⟩
  · exact .inl h
  · exact .inr ⟨p, dx, d, h1, e _ _ h2, e _ _ h3⟩

def spWtInit (K : PySem.W.Frag) (c : Ad) : Sp := fun vs H Q _ => ∃ p dx d, ∃ t : List (Str × Int), vs = [.ref p, .ref d] ∧ H p = some (.ins c.Weights dx []) ∧ H d = some (.dK (kt t)) ∧ TabOk t ∧ ∀ H', But p H H' → WtAt K c H' (.ref p) t → Q .non H'
def spWtCall (K : PySem.W.Frag) (c : Ad) : Sp := fun vs H Q _ => ∃ p v, ∃ t : List (Str × Int), ∃ q : NkQ.Q, vs = [.ref p, v] ∧ WtAt K c H (.ref p) t ∧ TabOk t ∧ Dp K H v (encQ q) ∧ VQ6 q ∧ ∀ H', Same H H' → Q (.int (wq (tabOf t) q)) H'
def spWtOf (K : PySem.W.Frag) (c : Ad) : Sp := fun vs H Q _ => ∃ u v, ∃ t : List (Str × Int), ∃ q : NkQ.Q, vs = [v, u] ∧ WtAt K c H u t ∧ TabOk t ∧ Dp K H v (encQ q) ∧ VQ6 q ∧ ∀ H', Same H H' → Q (.int (wq (tabOf t) q)) H'

section
variable {P : Program} {w : World} {K : PySem.W.Frag} {mg : Str → Option Value} {base : Heap} {c : Ad} {f : Addr} {fd : FuncData} (T : Tx K mg c)
include T
theorem ok_wt_init (F : FnD K "__init__" "Weights.__init__" s_Weights___init__ f fd) (D_is_column : Def P w K mg base "is_column" 1 ["thing"] spColumn) (D_is_weight : Def P w K mg base "is_weight" 2 ["thing"] spWeight) :
    FnOk P w K mg base CX0 3 f fd ["self", "table"] (spWtInit K c) := by
  refine F.ok sc_Weights___init__ (fun vs H Q E h => ?_) (fun cdv A outer s H vs Q E hr h => ?_)
  · obtain ⟨p, dx, d, t, rfl, _⟩ := h; rfl
  · obtain ⟨p, dx, d, t, rfl, hp, hd, ht, hq⟩ := h
    refine ⟨_, PSs.nox (pss_cons (ps_if (pt_not (pt_val (pe_callB (k_isi (K := K) rfl) (by rfl) T.m_isinstance (by decide +kernel) (pa_cons (pv 1) (pa_cons (pe_bltn (v := V.ty "dict") (by rfl) T.m_dict (by decide +kernel) rfl) pa_nil))))) (pss_one ps_never) pss_nil)
    (pss_cons (ps_if (pt_not (pt_val (pe_callB (k_all (K := K) rfl rfl) (by rfl) T.m_all (by decide +kernel) (pa_cons (pe_lock (pe_lc (own := [("column", 2), ("weight", 3)]) rfl sc_Weights___init__.nd (pi_items (pv 1)) (blkOk_by (own := [("column", 2), ("weight", 3)]) (N := N_Weights___init__) (by kernel_rfl)) (fun _ _ _ _ _ => (k_gTup (K := K) (n := 2) rfl rfl (pgs_cons (pg_name (i := 2) sc_Weights___init__.nd rfl (by first | exact Or.inl rfl | exact Or.inr rfl)) (pgs_cons (pg_name (i := 3) sc_Weights___init__.nd rfl (by first | exact Or.inl rfl | exact Or.inr rfl)) pgs_nil)))) (fun _ _ _ _ _ => pts_nil) (fun _ _ _ _ _ => (pe_and (pe_def D_is_column (hr.mono (by first | decide | omega)) (pa_cons (pv 2) pa_nil)) (pe_one (pe_def D_is_weight (hr.mono (by first | decide | omega)) (pa_cons (pv 3) pa_nil))))))) pa_nil)))) (pss_one ps_never) pss_nil)
    (pss_one (ps_fld (pv 0) (pe_lock (pe_dc (own := [("column", 2)]) rfl sc_Weights___init__.nd (pi_keys (pv 1)) (blkOk_by (own := [("column", 2)]) (N := N_Weights___init__) (by kernel_rfl)) (fun _ _ _ _ _ => (pg_name (i := 2) sc_Weights___init__.nd rfl (by first | exact Or.inl rfl | exact Or.inr rfl))) (fun _ _ _ _ _ => pts_nil) (fun _ _ _ _ _ => (pv 2)) (fun _ _ _ _ _ => (pe_dget (hu_of hr) (pv 1) (pv 2) (fun _ _ => rfl))))) rfl)))), ?_⟩
    have hpd : p ≠ d := fun z => by rw [z, hd] at hp; cases hp
    refine ⟨_, rfl, _, _, _, _, true, rfl, .ty _, .base (.dK hd), kit_ty (by decide +kernel), true, rfl, iteF ?_⟩
    refine ⟨d, _, hd, trivial, fun od => ?_⟩
    refine ⟨_, rfl, d, od, kt t, rfl, upd_same, fun D hD => lcM (K := K) (src_items (K := K) upd_same) (Same.refl _) hD t (by simp [kt]) (by rw [show (kt t).length = t.length by simp [kt]]; exact small1000 (by have := ht.len; omega)) (fun _ => PyData.bool true) ?_ ?_⟩
    · rintro i a x H2 R hi e2 ⟨k, v, hk, Ta, rfl, hT⟩ hyes
      have : (kt t)[i]? = some (Sum.inr a.1, V.int a.2) := by unfold kt; rw [List.getElem?_map, hi]; rfl
      rw [this] at hk
      cases hk
      have ha := List.mem_of_getElem? hi
      obtain ⟨w1, w2⟩ := ht.w a ha
      exact ⟨Ta, _, rfl, hT, rfl, _, _, rfl, _, _, rfl, rfl, rfl, _, rfl, a.1, rfl, ht.col a ha, fun H3 e3 => ⟨true, rfl, iteT ⟨_, rfl, a.2, rfl, w1, w2, hyes _ _ e3 (.bl true)⟩⟩⟩
    · intro H1 e1 d1
      have hb : (t.map fun _ => PyData.bool true) = (t.map fun _ => true).map PyData.bool := by simp
      rw [hb] at d1
      have hd1 := e1 _ _ (show upd H d (HO.frz od (.dK (kt t))) d = some (HO.frz od (.dK (kt t))) from upd_same)
      refine ⟨hd1, ?_⟩
      have hDd : D ≠ d := fun z => by rw [z, upd_same] at hD; cases hD
      have e1' : Same H (upd H1 d (HO.dK (kt t))) := fun b o hb => by
        by_cases z : b = d
        · rw [z, upd_same]; rw [z, hd] at hb; exact hb
        · rw [upd_ne z]; exact e1 _ _ (by rw [upd_ne z]; exact hb)
      have hDb : SqL K (upd H1 d (HO.dK (kt t))) D ((t.map fun _ => true).map V.bl) := by
        cases d1 with | lst a1 a2 a3 => rw [dfAll_bools a3] at a2; exact SqL.of (by rw [upd_ne hDd]; exact a2)
      refine ⟨D, _, rfl, hDb, true, by simp, iteF ?_⟩
      generalize upd H1 d (HO.dK (kt t)) = H2 at e1'
      have hd2 := e1' _ _ hd
      have hp2 := e1' _ _ hp
      refine ⟨d, _, hd2, trivial, fun od2 => ?_⟩
      refine ⟨_, rfl, d, od2, rfl, .inl ⟨kt t, upd_same, fun D2 hD2 => dcM (H0 := upd H2 d (.frz od2 (.dK (kt t)))) (src_keys upd_same) (Same.refl _) hD2 (kt t) rfl (by rw [show (kt t).length = t.length by simp [kt]]; exact small1000 (by have := ht.len; omega)) ?_ ?_ ?_⟩⟩
      · have : (kt t).map (·.1) = (t.map (·.1)).map fun x => (Sum.inr x : Key) := by simp [kt]
        rw [this]
        exact map_nodup ht.nd (fun x _ y _ h => by simpa using h)
      · rintro i k z x H3 R hk e3 ⟨k', v', hk', rfl⟩ hR
        rw [hk] at hk'
        cases hk'
        have hkm := List.mem_of_getElem? hk
        obtain ⟨a, ha, ea⟩ := List.mem_map.1 hkm
        have hgv : valV (kt t) k = some z := by
          have hn : ((kt t).map (·.1)).Nodup := by
            have : (kt t).map (·.1) = (t.map (·.1)).map fun x => (Sum.inr x : Key) := by simp [kt]
            rw [this]
            exact map_nodup ht.nd (fun x _ y _ h => by simpa using h)
          exact valV_of_mem hn hkm
        refine ⟨rfl, _, rfl, _, rfl, _, rfl, d, z, rfl, .inl ⟨kt t, k, .inr ⟨od2, e3 _ _ upd_same⟩, rfl, hgv.symm⟩, hR _ (Same.refl _)⟩
      · intro H3 e3 hD3
        have hd3 := e3 _ _ (show upd H2 d (HO.frz od2 (.dK (kt t))) d = some (HO.frz od2 (.dK (kt t))) from upd_same)
        have hD2d : D2 ≠ d := fun z => by rw [z, upd_same] at hD2; cases hD2
        have hD2n : H2 D2 = Option.none := by rw [upd_ne hD2d] at hD2; exact hD2
        have e3' : Same H2 (upd H3 d (HO.dK (kt t))) := fun b o hb => by
          by_cases z : b = d
          · rw [z, upd_same]; rw [z, hd2] at hb; exact hb
          · rw [upd_ne z]; exact e3 _ _ (by rw [upd_ne z]; exact hb)
        have hD2p : D2 ≠ p := fun z => by rw [z, hp2] at hD2n; cases hD2n
        refine ⟨hd3, _, rfl, p, c.Weights, dx, [], rfl, e3' _ _ hp2, T.cW, T.aW, (by show 0 < 1000; decide), ?_⟩
        exact hq _ (But.upd (But.of (e1'.trans e3'))) (.inr ⟨p, dx, D2, rfl, upd_same, by rw [upd_ne hD2p, upd_ne hD2d]; exact hD3⟩)
theorem ok_wt_call (F : FnD K "__call__" "Weights.__call__" s_Weights___call__ f fd) (D_columns_of : Def P w K mg base "columns_of" 1 ["question"] (spColsOf K)) : FnOk P w K mg base CX0 2 f fd ["self", "thing"] (spWtCall K c) := by
  refine F.ok sc_Weights___call__ (fun vs H Q E h => ?_) (fun cdv A outer s H vs Q E hr h => ?_)
  · obtain ⟨p, v, t, q, rfl, _⟩ := h; rfl
  · obtain ⟨p, v, t, q, rfl, hW, ht, hd, hv, hq⟩ := h
    obtain ⟨a, b, rfl, hs, hb, _⟩ := dpQ hd
    refine ⟨_, PSs.nox (pss_cons (ps_set (i := 2) sc_Weights___call__.nd rfl (by first | exact Or.inl rfl | exact Or.inr rfl) (pe_ifExp (pt_val (pe_callB (k_isi (K := K) rfl) (by rfl) T.m_isinstance (by decide +kernel) (pa_cons (pe_ix (k_ixT (K := K) rfl) (pv 1) pe_int (fun _ _ => rfl)) (pa_cons (pe_bltn (v := V.ty "tuple") (by rfl) T.m_tuple (by decide +kernel) rfl) pa_nil)))) (pe_def D_columns_of (hr.mono (by first | decide | omega)) (pa_cons (pv 1) pa_nil)) (pv 1)))
    (pss_one (ps_ret (pe_callB (k_sum (K := K) rfl rfl) (by rfl) T.m_sum (by decide +kernel) (pa_cons (pe_lc (own := [("column", 3)]) rfl sc_Weights___call__.nd (k_piT (K := K) rfl (pv 2)) (blkOk_by (own := [("column", 3)]) (N := N_Weights___call__) (by kernel_rfl)) (fun _ _ _ _ _ => (pg_name (i := 3) sc_Weights___call__.nd rfl (by first | exact Or.inl rfl | exact Or.inr rfl))) (fun _ _ _ _ _ => pts_nil) (fun _ _ _ _ _ => (pe_dget2 (hu_of hr) (k_fld (K := K) rfl (pv 0) rfl) (pv 3) pe_int (by constructor <;> rfl)))) pa_nil))))), ?_⟩
    refine ⟨_, rfl, _, _, _, _, rfl, rfl, hs, rfl, _, _, _, _, true, rfl, .ty _, tyx_T hb, kit_ty (by decide +kernel), true, rfl, iteT ?_⟩
    refine ⟨_, rfl, _, q, rfl, hd, hv, fun v' H1 e1 d1 => ?_⟩
    obtain ⟨x, rfl, hx⟩ := dpL d1
    obtain ⟨p', dx, d, ep, h1, h2⟩ : ∃ p' dx d, V.ref p = V.ref p' ∧ H p' = some (.ins c.Weights dx [("kept_table", V.ref d)]) ∧ H d = some (.dK (kt t)) := by
      rcases hW with ⟨h, _⟩ | h
      · cases h
      · exact h
    cases ep
    refine ⟨_, rfl, x, rfl, ⟨_, hx⟩, fun D hD => lcM (K := K) (src_tup hx) (Same.refl _) hD (colsQ q) (by simp) (by rw [List.length_map]; exact small1000 (by have := hv.cols.2.1; omega)) (fun y => PyData.int (tabOf t y)) ?_ ?_⟩
    · intro i y z H2 R hy e2 hz hyes
      have : z = V.str y := by
        rw [List.getElem?_map, hy] at hz; exact (Option.some.inj hz).symm
      subst this
      refine ⟨rfl, _, rfl, p, c.Weights, dx, _, _, rfl, (e1.trans e2) _ _ h1, T.cW, T.aW, look_eq, d, rfl, .inl ⟨_, .inl ((e1.trans e2) _ _ h2)⟩, _, rfl, _, DGet.k (k := Sum.inr y) ((e1.trans e2) _ _ h2), ?_⟩
      refine hyes _ _ (Same.refl _) ?_
      rw [kt_getD]; exact .int _
    · intro H2 e2 d2
      have hb : ((colsQ q).map fun y => PyData.int (tabOf t y)) = ((colsQ q).map (tabOf t)).map PyData.int := by rw [List.map_map]; rfl
      rw [hb] at d2
      have hD2 : SqL K H2 D (((colsQ q).map (tabOf t)).map V.int) := by
        cases d2 with | lst a1 a2 a3 => rw [dpAll_toInts a3.dp] at a2; exact SqL.of a2
      refine ⟨D, _, rfl, hD2, ?_⟩
      rw [wq_cols]; exact hq _ (e1.trans e2)
omit T in
theorem wq_one (q : NkQ.Q) : wq (tabOf []) q = ((colsQ q).length : Int) := by
  rw [← wq_cols]
  have : ∀ l : List Str, ((l.map (tabOf [])).sum : Int) = l.length := by
    intro l
    induction l with
    | nil => rfl
    | cons a l ih => rw [List.map_cons, List.sum_cons, ih]; simp [tabOf]; omega
  exact this _
theorem ok_weight_of (F : FnD K "weight_of" "weight_of" s_weight_of f fd) (D_width : Def P w K mg base "width" 2 ["question"] (spWidth K)) {g : Addr} (cO : StX.CallO K c.Weights g) (FO : FnR P w K mg base CX0 2 g (spWtCall K c)) :
    FnOk P w K mg base CX0 3 f fd ["question", "weights"] (spWtOf K c) := by
  refine F.ok sc_weight_of (fun vs H Q E h => ?_) (fun cdv A outer s H vs Q E hr h => ?_)
  · obtain ⟨u, v, t, q, rfl, _⟩ := h; rfl
  · obtain ⟨u, v, t, q, rfl, hW, ht, hd, hv, hq⟩ := h
    refine ⟨_, PSs.nox (pss_one (ps_ret (pe_ifExp (pt_cmpR op_isN (pv 1) pe_non (nomark _)) (pe_def D_width (hr.mono (by first | decide | omega)) (pa_cons (pv 0) pa_nil)) (StX.pe_callO (pv 1) cO FO (hr.mono (by decide)) pass0 (pa_cons (pv 0) pa_nil))))), ?_⟩
    refine ⟨_, rfl, rfl, _, rfl, ?_⟩
    rcases id hW with ⟨rfl, rfl⟩ | ⟨p, dx, d, rfl, h1, h2⟩
    · refine iT rfl ?_
      refine ⟨_, rfl, _, q, rfl, hd, hv, fun H1 e1 => ?_⟩
      rw [← wq_one]; exact hq _ e1
    · refine iF rfl ?_
      exact ⟨_, rfl, p, rfl, _, rfl, .inr ⟨dx, _, h1⟩, p, _, t, q, rfl, hW, ht, hd, hv, fun H1 e1 => hq _ e1⟩

def spPairsOf (K : PySem.W.Frag) : Sp := fun vs H Q _ => ∃ v, ∃ qs : List NkQ.Q, vs = [v] ∧ Dp K H v (.list (qs.map encQ)) ∧ (∀ q ∈ qs, VQ6 q) ∧ qs.length ≤ 20 ∧ ∀ v' H', Same H H' → Df K H H' v' (.list ((pairsM (abQ qs) qs.length).map encPr)) → Q v' H'
omit T in
theorem at_get {qs : List NkQ.Q} {i : Nat} (h : i < qs.length) : atQ qs i = qs[i] := by unfold atQ; rw [getD_get h]
theorem ok_pairs_of (F : FnD K "pairs_of" "pairs_of" s_pairs_of f fd) (D_is_below : Def P w K mg base "is_below" 2 ["one", "other"] (spBelow K)) : FnOk P w K mg base CX0 3 f fd ["questions"] (spPairsOf K) := by
  refine F.ok sc_pairs_of (fun vs H Q E h => ?_) (fun cdv A outer s H vs Q E hr h => ?_)
  · obtain ⟨v, qs, rfl, _⟩ := h; rfl
  · obtain ⟨v, qs, rfl, hd, hv, h48, hq⟩ := h
    obtain ⟨a, vs, rfl, hs, ha⟩ := dpQs hd
    have lv : vs.length = qs.length := by have := dpAll_len ha; simpa using this
    have item : ∀ {i : Nat} {u : V}, vs[i]? = some u → ∃ hi : i < qs.length, Dp K H u (encQ qs[i]) := fun {i u} hu => by
      obtain ⟨d, k1, k2⟩ := dpAll_get ha hu
      have hi : i < qs.length := by have := (List.getElem?_eq_some_iff.1 hu).1; omega
      rw [List.getElem?_map, List.getElem?_eq_getElem hi] at k1
      cases k1; exact ⟨hi, k2⟩
    refine ⟨_, PSs.nox (pss_cons (ps_set (i := 1) sc_pairs_of.nd rfl (by first | exact Or.inl rfl | exact Or.inr rfl) (pe_lst pa_nil))
    (pss_cons (ps_for PassesOwn.never rfl (k_enum (K := K) rfl (by rfl) T.m_enumerate (pa_cons (pv 0) pa_nil)) (k_gTup (K := K) (n := 2) rfl rfl (pgs_cons (pg_name (i := 2) sc_pairs_of.nd rfl (by first | exact Or.inl rfl | exact Or.inr rfl)) (pgs_cons (pg_name (i := 3) sc_pairs_of.nd rfl (by first | exact Or.inl rfl | exact Or.inr rfl)) pgs_nil)))
    (pss_one (ps_expr (pe_bm PySem.F.plainAttrs_list PySem.F.slot_list_extend PySem.F.type_list_extend mt_extend (pv 1) (pa_cons (pe_lc (own := [("high", 4), ("other", 5)]) rfl sc_pairs_of.nd (k_enum (K := K) rfl (by rfl) T.m_enumerate (pa_cons (pv 0) pa_nil)) (blkOk_by (own := [("high", 4), ("other", 5)]) (N := N_pairs_of) (by kernel_rfl)) (fun _ _ _ _ _ => (k_gTup (K := K) (n := 2) rfl rfl (pgs_cons (pg_name (i := 4) sc_pairs_of.nd rfl (by first | exact Or.inl rfl | exact Or.inr rfl)) (pgs_cons (pg_name (i := 5) sc_pairs_of.nd rfl (by first | exact Or.inl rfl | exact Or.inr rfl)) pgs_nil)))) (fun _ _ _ _ _ => (pts_one (pt_val (pe_def D_is_below (hr.mono (by first | decide | omega)) (pa_cons (pv 3) (pa_cons (pv 5) pa_nil)))))) (fun _ _ _ _ _ => (pe_tup (pa_cons (pv 2) (pa_cons (pv 4) pa_nil))))) pa_nil)))))
    (pss_one (ps_ret (pv 1))))), ?_⟩
    refine ⟨Nat.zero_le _, fun Fa hFa => ?_⟩
    have e1 := same_new (o := HO.lst []) hFa
    have nFu : (upd H Fa (HO.lst [])) Fa ≠ Option.none := by rw [upd_same]; simp
    refine ⟨_, rfl, a, vs, rfl, sqL_ext e1 hs, forG (H0 := H) (src_enum hs) (fun i σ H' => ∃ o2 o3 o4 o5, σ = [some (.ref a), some (.ref Fa), o2, o3, o4, o5] ∧ Same H H' ∧
      ∃ fvs, H' Fa = some (.lst fvs) ∧ DfAll K (upd H Fa (HO.lst [])) H' fvs ((pairsM (abQ qs) i).map encPr)) ?_ ?_ ?_ ?_⟩
    · exact ⟨_, _, _, _, rfl, e1, [], upd_same, .nil⟩
    · rintro i σ H' ⟨_, _, _, _, _, e, _⟩; exact e
    · rintro i x σ H1 H2 hi ⟨o2, o3, o4, o5, rfl, e2, fvs, hF, dF⟩ e3 ⟨u, hu, Ta, rfl, hT⟩
      obtain ⟨hiq, hdu⟩ := item hu
      have e := e2.trans e3
      have hF2 := e3 _ _ hF
      refine ⟨Ta, _, rfl, hT, rfl, _, _, rfl, _, _, rfl, rfl, ?_⟩
      have hpm : pairsM (abQ qs) (i + 1) = pairsM (abQ qs) i ++ (abQ qs i).map fun j => (i, j) := by
        unfold pairsM; rw [List.range_succ, List.flatMap_append]; simp
      have hlen : ∀ k, k ≤ qs.length → (pairsM (abQ qs) k).length ≤ k * qs.length := by
        intro k
        induction k with
        | zero => intro _; simp [pairsM]
        | succ k ih =>
          intro hk
          have : pairsM (abQ qs) (k + 1) = pairsM (abQ qs) k ++ (abQ qs k).map fun j => (k, j) := by
            unfold pairsM; rw [List.range_succ, List.flatMap_append]; simp
          rw [this, List.length_append, List.length_map, Nat.succ_mul]
          have h1 := ih (by omega)
          have h2 : (abQ qs k).length ≤ qs.length := by
            unfold abQ; split
            · exact Nat.le_trans (List.length_filter_le _ _) (by simp)
            · simp
          omega
      have hl1 : (pairsM (abQ qs) (i + 1)).length ≤ 400 := Nat.le_trans (hlen (i + 1) (by omega)) (Nat.le_trans (Nat.mul_le_mul (show i + 1 ≤ 20 by omega) h48) (by decide))
      refine ⟨_, rfl, .inl ⟨rfl, _, SqL.of hF2⟩, _, rfl, a, vs, rfl, sqL_ext e hs, fun D hD => lcG (K := K) (src_enum (sqL_ext e hs)) (Same.refl _) hD (List.range qs.length) (by rw [List.length_range, lv]) (by rw [lv]; exact small1000 (by omega)) (fun j => below (atQ qs i) (atQ qs j)) (fun j => encPr (i, j)) ?_ ?_⟩
      · rintro j b y H3 R hj e4 ⟨z, hz, Tb, rfl, hTb⟩ hyes hno
        obtain ⟨hjq, hdz⟩ := item hz
        rw [List.getElem?_range hjq] at hj
        cases hj
        refine ⟨Tb, _, rfl, hTb, rfl, _, _, rfl, _, _, rfl, rfl, rfl, ?_⟩
        refine ⟨_, rfl, _, rfl, u, z, qs[i], qs[j], rfl, dp_ext (e.trans e4) hdu, dp_ext (e.trans e4) hdz, hv _ (List.getElem_mem hiq), hv _ (List.getElem_mem hjq), fun H4 e5 => ⟨_, rfl, ite2 (fun hb => ?_) (fun hb => ?_)⟩⟩
        · refine ⟨_, rfl, _, rfl, by show 2 ≤ sizeLine; decide, fun q hq' => hyes _ _ (by rw [at_get hiq, at_get hjq]; exact hb) (e5.trans (same_new hq')) (.tup (SqT.of upd_same) (.cons (.int _) (.cons (.int _) .nil)))⟩
        · exact hno _ (by rw [at_get hiq, at_get hjq]; simpa using hb) e5
      · intro H3 e4 d3
        have heq : (((List.range qs.length).filter fun j => below (atQ qs i) (atQ qs j)).map fun j => encPr (i, j)) = ((abQ qs i).map fun j => (i, j)).map encPr := by
          unfold abQ; rw [if_pos hiq, List.map_map]; rfl
        rw [heq] at d3
        obtain ⟨zs, hz, dz, hDn⟩ : ∃ vs, H3 D = some (.lst vs) ∧ DfAll K H2 H3 vs (((abQ qs i).map fun j => (i, j)).map encPr) ∧ H2 D = Option.none := by
          cases d3 with | lst a1 a2 a3 => exact ⟨_, a2, a3, a1⟩
        have hl2 : fvs.length + zs.length ≤ 400 := by
          have l1 := dF.len
          have l2 := dz.len
          rw [hpm, List.length_append] at hl1
          simp only [List.length_map] at l1 l2 hl1
          omega
        refine ⟨Fa, D, fvs, zs, rfl, rfl, e4 _ _ hF2, hz, Nat.le_of_lt (small1000 (by omega)), ?_⟩
        refine ⟨_, _, _, _, rfl, same_upd_new (e.trans e4) hFa, fvs ++ zs, upd_same, ?_⟩
        rw [hpm, List.map_append]
        have hDF : ∀ b, H2 b = Option.none → (upd H Fa (HO.lst [])) b = Option.none := fun b hb => by
          have : b ≠ Fa := fun z => by rw [z, hF2] at hb; cases hb
          rw [upd_ne this]; exact e.free hb
        exact DfAll.updD nFu (e4 _ _ hF2) (chg_lst _).1 (chg_lst _).2 (((dF.ext e3).ext e4).append (dfAll_map hDF (fun _ _ _ h => h) (fun _ _ h => h) dz))
    · rintro σ H1 ⟨o2, o3, o4, o5, rfl, e2, fvs, hF, dF⟩
      rw [lv] at dF
      exact ⟨_, rfl, hq _ _ e2 (.lst hFa hF (dF.old e1))⟩
end
end NkW
end
section
set_option Elab.async false
set_option linter.all false
set_option maxRecDepth 100000
set_option maxHeartbeats 2000000
/-! shelf_of, fewest, least_cost -/
namespace NkW
open PySem PySem.Spec PyProof.Rows L2 NkO NkR NkS NkQ NkM

theorem look_no {f : Str} (g : Str) (v : V) (h : ¬ f = g) : ([(g, v)] : List (Str × V)).lookup f = Option.none := by rw [look_ne h]; rfl
theorem abQ_ok {tab : Str → Int} (ht : ∀ x, 1 ≤ tab x) {qs : List NkQ.Q} (hv : ∀ q ∈ qs, VQ6 q) : AbOk qs.length (abQ qs) (wsM tab qs) where
  lt := fun l x hx => (mem_abQ.1 hx).2.1
  asc := fun l => by
    unfold abQ; split
    · exact List.pairwise_lt_range.sublist List.filter_sublist
    · exact .nil
  irr := fun l h => by
    have := (mem_abQ.1 h).2.2
    rw [below_irr] at this; cases this
  trn := (netQ ht (fun q hq => (hv q hq).v)).trn
  mono := fun x y hx hy => by
    rw [ws_at, ws_at]; exact (netQ ht (fun q hq => (hv q hq).v)).mono x y hx hy
theorem abQ_ok1 {qs : List NkQ.Q} (hv : ∀ q ∈ qs, VQ6 q) : AbOk qs.length (abQ qs) (ones qs.length) where
  lt := (abQ_ok (tab := fun _ => 1) (fun _ => by omega) hv).lt
  asc := (abQ_ok (tab := fun _ => 1) (fun _ => by omega) hv).asc
  irr := (abQ_ok (tab := fun _ => 1) (fun _ => by omega) hv).irr
  trn := (abQ_ok (tab := fun _ => 1) (fun _ => by omega) hv).trn
  mono := fun x y hx hy => by
    obtain ⟨a1, a2, _⟩ := mem_abQ.1 hy
    rw [ones_at a1, ones_at a2]; omega
theorem pairs_few {qs : List NkQ.Q} (hv : ∀ q ∈ qs, VQ6 q) (h9 : qs.length ≤ 9) : (pairsM (abQ qs) qs.length).length < 64 := by
  have A := abQ_ok1 hv
  have nd : (pairsM (abQ qs) qs.length).Nodup := NkR.nodup_of_map (f := prI) (pairs_can A.asc).nd
  have nd2 : (pairsM (abQ qs) qs.length ++ (pairsM (abQ qs) qs.length).map fun p => (p.2, p.1)).Nodup := by
    rw [List.nodup_append]
    refine ⟨nd, map_nodup nd (fun x _ y _ e => by simp at e; exact Prod.ext e.2 e.1), fun x hx y hy e => ?_⟩
    subst e
    obtain ⟨z, hz, rfl⟩ := List.mem_map.1 hy
    have h1 := (mem_pairs.1 hx).2
    have h2 := (mem_pairs.1 hz).2
    exact A.irr _ (A.trn _ _ _ h1 h2)
  have hs := nd2.length_le_of_subset (l₂ := (List.range qs.length).flatMap fun i => (List.range qs.length).map fun j => (i, j)) (fun p hp => by
    rw [List.mem_flatMap]
    rcases List.mem_append.1 hp with h | h
    · obtain ⟨h1, h2⟩ := mem_pairs.1 h
      exact ⟨p.1, List.mem_range.2 h1, List.mem_map.2 ⟨p.2, List.mem_range.2 (A.lt _ _ h2), rfl⟩⟩
    · obtain ⟨z, hz, rfl⟩ := List.mem_map.1 h
      obtain ⟨h1, h2⟩ := mem_pairs.1 hz
      exact ⟨z.2, List.mem_range.2 (A.lt _ _ h2), List.mem_map.2 ⟨z.1, List.mem_range.2 h1, rfl⟩⟩)
  have hl : ∀ (k m : Nat), ((List.range k).flatMap fun i => (List.range m).map fun j => (i, j)).length = k * m := by
    intro k m
    induction k with
    | zero => simp
    | succ k ih => rw [List.range_succ, List.flatMap_append, List.length_append, ih]; simp [Nat.succ_mul]
  rw [hl, List.length_append, List.length_map] at hs
  have : qs.length * qs.length ≤ 9 * 9 := Nat.mul_le_mul h9 h9
  omega
theorem wq_bd {t : List (Str × Int)} (ht : TabOk t) {q : NkQ.Q} (hq : VQ6 q) : 1 ≤ wq (tabOf t) q ∧ wq (tabOf t) q ≤ 10 ^ 39 := by
  have hc := hq.cols
  rw [← wq_cols]
  have h1 := sum_nonneg (fun x => (tab_pos ht x).1) (colsQ q)
  have h2 : ∀ l : List Str, (l.map (tabOf t)).sum ≤ (l.length : Int) * 10 ^ 30 := by
    intro l
    induction l with
    | nil => simp
    | cons a l ih =>
      have := (tab_pos ht a).2
      rw [List.map_cons, List.sum_cons, List.length_cons]
      have e : ((l.length + 1 : Nat) : Int) * 10 ^ 30 = (l.length : Int) * 10 ^ 30 + 10 ^ 30 := by rw [Int.natCast_add, Int.add_mul]; simp
      rw [e]; omega
  have h3 := h2 (colsQ q)
  have hne : 1 ≤ (colsQ q).length := by
    rw [(cols_perm q).length_eq]
    exact List.length_pos_iff.2 (all_ne hq.v)
  have h4 : ((colsQ q).length : Int) * 10 ^ 30 ≤ 49 * 10 ^ 30 := Int.mul_le_mul_of_nonneg_right (by have := hc.2.1; omega) (by decide)
  refine ⟨by omega, Int.le_trans h3 (Int.le_trans h4 (by decide))⟩

def spShelfOf (K : PySem.W.Frag) (c : Ad) : Sp := fun vs H Q _ => ∃ v u, ∃ qs : List NkQ.Q, ∃ chs : List (List Nat), vs = [v, u] ∧ Dp K H v (.list (qs.map encQ)) ∧ (∀ q ∈ qs, VQ6 q) ∧ qs.length ≤ 20 ∧ Dp K H u (.list (chs.map encNs)) ∧ chs.length ≤ 48 ∧
  (∀ ch ∈ chs, ch ≠ [] ∧ (∀ i ∈ ch, i < qs.length) ∧ Asc (ch.map (atQ qs))) ∧ ∀ a H', Same H H' → ShelfAt K c H' a (chs.map fun ch => indexM (ch.map (atQ qs))) → Q (.ref a) H'
def spPlain (K : PySem.W.Frag) (c : Ad) : Sp := fun vs H Q _ => ∃ p, ∃ qs : List NkQ.Q, vs = [.ref p] ∧ AskAt K c H p qs ∧ (∀ q ∈ qs, VQ6 q) ∧ qs.length ≤ 9 ∧ ∀ a H', Same H H' → LotAt K c H' a (ones qs.length) (abQ qs) (lotMatch (ones qs.length) (abQ qs)) → Q (.ref a) H'
def spFewest (K : PySem.W.Frag) (c : Ad) : Sp := fun vs H Q _ => ∃ p, ∃ qs : List NkQ.Q, vs = [.ref p] ∧ AskAt K c H p qs ∧ (∀ q ∈ qs, VQ6 q) ∧ qs.length ≤ 9 ∧ ∀ H', Same H H' → Q (.int (fewestM qs)) H'
def spLotOf (K : PySem.W.Frag) (c : Ad) : Sp := fun vs H Q _ => ∃ p u, ∃ qs : List NkQ.Q, ∃ t : List (Str × Int), vs = [.ref p, u] ∧ AskAt K c H p qs ∧ (∀ q ∈ qs, VQ6 q) ∧ qs.length ≤ 9 ∧ WtAt K c H u t ∧ TabOk t ∧
  ∀ a H', Same H H' → LotAt K c H' a (wsM (tabOf t) qs) (abQ qs) (lotMatch (wsM (tabOf t) qs) (abQ qs)) → Q (.ref a) H'
def spLeast (K : PySem.W.Frag) (c : Ad) : Sp := fun vs H Q _ => ∃ p u, ∃ qs : List NkQ.Q, ∃ t : List (Str × Int), vs = [.ref p, u] ∧ AskAt K c H p qs ∧ (∀ q ∈ qs, VQ6 q) ∧ qs.length ≤ 9 ∧ WtAt K c H u t ∧ TabOk t ∧
  ∀ H', Same H H' → Q (.int (leastM (tabOf t) qs)) H'

/-- a def with one keyword-only parameter that may lack -/
abbrev FnK (K : PySem.W.Frag) (x q : Str) (st : Stmt) (f : Addr) (fd : FuncData) : Prop := FunD K x q (defArgs st) (defBody st) (defScope st) [] [("weights", V.non)] f fd

section
variable {P : Program} {w : World} {K : PySem.W.Frag} {mg : Str → Option Value} {base : Heap} {c : Ad} {f : Addr} {fd : FuncData} (T : Tx K mg c)
include T
theorem ok_shelf_of (F : FnD K "shelf_of" "shelf_of" s_shelf_of f fd) (M_Shelf : Made P w K mg base "Shelf" c.Shelf 4 ["self", "indexes"] (spShInit K c)) (D_index_for : Def P w K mg base "index_for" 6 ["questions"] (spIdxFor K)) :
    FnOk P w K mg base CX0 7 f fd ["questions", "chains"] (spShelfOf K c) := by
  refine F.ok sc_shelf_of (fun vs H Q E h => ?_) (fun cdv A outer s H vs Q E hr h => ?_)
  · obtain ⟨v, u, qs, chs, rfl, _⟩ := h; rfl
  · obtain ⟨v, u, qs, chs, rfl, hd, hv, h20, hu, h48, hch, hq⟩ := h
    obtain ⟨a, vs, rfl, hs, ha⟩ := dpQs hd
    have lv : vs.length = qs.length := by have := dpAll_len ha; simpa using this
    obtain ⟨b, us, rfl, hbs, hba⟩ : ∃ a vs, u = .ref a ∧ SqL K H a vs ∧ DpAll K H vs (chs.map encNs) := by
      cases hu with | lst hs ha => exact ⟨_, _, rfl, hs, ha⟩
    have lu : us.length = chs.length := by have := dpAll_len hba; simpa using this
    refine ⟨_, PSs.nox (pss_one (ps_ret (pe_mk M_Shelf (hr.mono (by first | decide | omega)) (pa_cons (pe_lc (own := [("chain", 2)]) rfl sc_shelf_of.nd (k_piL (K := K) rfl (pv 1)) (blkOk_by (own := [("chain", 2)]) (N := N_shelf_of) (by kernel_rfl)) (fun _ _ _ _ _ => (pg_name (i := 2) sc_shelf_of.nd rfl (by first | exact Or.inl rfl | exact Or.inr rfl))) (fun _ _ _ _ _ => pts_nil) (fun _ _ _ _ _ => (pe_def D_index_for (hr.mono (by first | decide | omega)) (pa_cons (pe_lc (own := [("number", 3)]) rfl sc_shelf_of.nd (k_piL (K := K) rfl (pv 2)) (blkOk_by (own := [("number", 3)]) (N := N_shelf_of) (by kernel_rfl)) (fun _ _ _ _ _ => (pg_name (i := 3) sc_shelf_of.nd rfl (by first | exact Or.inl rfl | exact Or.inr rfl))) (fun _ _ _ _ _ => pts_nil) (fun _ _ _ _ _ => (pe_ix (k_ixL (K := K) rfl) (pv 0) (pv 3) (fun _ _ => rfl)))) pa_nil)))) pa_nil)))), ?_⟩
    refine ⟨_, rfl, b, rfl, ⟨_, hbs⟩, fun D hD => lcM (K := K) (src_list hbs) (Same.refl _) hD chs lu.symm (by rw [lu]; exact small1000 (by omega)) (fun ch => encL (indexM (ch.map (atQ qs)))) ?_ ?_⟩
    · rintro i ch x H2 R hi e2 hx hyes
      obtain ⟨d, k1, k2⟩ := dpAll_get hba hx
      rw [List.getElem?_map, hi] at k1
      cases k1
      obtain ⟨c1, c2, c3⟩ := hch ch (List.mem_of_getElem? hi)
      obtain ⟨r, rfl, hr'⟩ := dpNs (dp_ext e2 k2)
      have cv : ∀ q ∈ ch.map (atQ qs), VQ6 q := fun q hq' => by
        obtain ⟨i, hi, rfl⟩ := List.mem_map.1 hq'
        exact hv _ (atQ_mem (c2 i hi))
      have cnd : ch.Nodup := by
        have hrk : (ch.map (atQ qs)).Pairwise (fun a b => rk a < rk b) := List.Pairwise.imp_of_mem (fun {a b} h1 h2 h => rk_lt (cv a h1).v (cv b h2).v h) c3
        exact NkR.nodup_of_map (f := atQ qs) (hrk.imp (fun {a b} h e => by rw [e] at h; omega))
      have cl : ch.length ≤ qs.length := by
        have := cnd.length_le_of_subset (fun x hx => List.mem_range.2 (c2 x hx))
        simpa using this
      refine ⟨rfl, _, rfl, r, rfl, ⟨_, hr'⟩, fun D2 hD2 => lcM (K := K) (src_list hr') (Same.refl _) hD2 ch (by simp) (by rw [List.length_map]; exact small1000 (by omega)) (fun j => encQ (atQ qs j)) ?_ ?_⟩
      · rintro j y z H3 R2 hj e3 hz hyes2
        rw [List.getElem?_map, hj] at hz
        cases hz
        have hy := c2 y (List.mem_of_getElem? hj)
        have : (qs.map encQ)[y]? = some (encQ (atQ qs y)) := by rw [List.getElem?_map, List.getElem?_eq_getElem hy, at_get hy]; rfl
        obtain ⟨z, hz1, hz2⟩ := dpAll_gt ha this
        exact ⟨rfl, _, rfl, _, rfl, a, vs, _, z, rfl, rfl, sqL_ext (e2.trans e3) hs, atI_nat hz1, hyes2 _ _ (Same.refl _) (df_of_dp _ _ (flat_Q _) (dp_ext (e2.trans e3) hz2))⟩
      · intro H3 e3 d3
        have he : (ch.map fun j => encQ (atQ qs j)) = (ch.map (atQ qs)).map encQ := by rw [List.map_map]; rfl
        rw [he] at d3
        have hne : ch.map (atQ qs) ≠ [] := by simpa using c1
        obtain ⟨_, pi⟩ := index_spec (fun q hq' => (cv q hq').v) c3 hne
        refine ⟨_, ch.map (atQ qs), rfl, d3.dp, cv, by rw [List.length_map]; omega, c3, ?_, fun v' H4 e4 d4 => hyes _ _ (e3.trans e4) (df_of_dp _ _ (flat_L _) d4)⟩
        rw [pi.length_eq, ← (cols_perm _).length_eq]
        have := (cv _ (List.getLast_mem hne)).cols.2.1; omega
    · intro H1 e1 d1
      intro x dx nx ndx nex
      have e2 := made0 (o := HO.ins c.Shelf dx []) nx ndx
      have he : (chs.map fun ch => encL (indexM (ch.map (atQ qs)))) = (chs.map fun ch => indexM (ch.map (atQ qs))).map encL := by rw [List.map_map]; rfl
      rw [he] at d1
      refine ⟨x, dx, _, _, rfl, upd_same, dp_ext e2 d1.dp, ?_, by rw [List.length_map]; exact h48, fun H' hb' hA => ⟨rfl, hq _ _ (e1.trans (made nx ndx hb')) hA⟩⟩
      intro r hr'
      obtain ⟨ch, hc, rfl⟩ := List.mem_map.1 hr'
      obtain ⟨c1, c2, c3⟩ := hch ch hc
      have cv : ∀ q ∈ ch.map (atQ qs), VQ6 q := fun q hq' => by
        obtain ⟨i, hi, rfl⟩ := List.mem_map.1 hq'
        exact hv _ (atQ_mem (c2 i hi))
      have hne : ch.map (atQ qs) ≠ [] := by simpa using c1
      refine ⟨index_ok (fun q hq' => (cv q hq').v) c3 hne, ?_⟩
      obtain ⟨_, pi⟩ := index_spec (fun q hq' => (cv q hq').v) c3 hne
      rw [pi.length_eq, ← (cols_perm _).length_eq]
      have := (cv _ (List.getLast_mem hne)).cols.2.1; omega
theorem ok_plain (F : FnD K "plain_lot" "plain_lot" s_plain_lot f fd) (M_Lot : Made P w K mg base "Lot" c.Lot 52 ["self", "weights", "pairs"] (spLotInit K c)) (D_pairs_of : Def P w K mg base "pairs_of" 3 ["questions"] (spPairsOf K))
    (M_Asked_questions : Own P w K mg base c.Asked "questions" 1 ["self"] (spAskQs K c)) (M_len : Own P w K mg base c.Asked "__len__" 1 ["self"] (spLen K c.Asked "kept_questions")) : FnOk P w K mg base CX0 54 f fd ["asked"] (spPlain K c) := by
  refine F.ok sc_plain_lot (fun vs H Q E h => ?_) (fun cdv A outer s H vs Q E hr h => ?_)
  · obtain ⟨p, qs, rfl, _⟩ := h; rfl
  · obtain ⟨p, qs, rfl, hA, hv, h9, hq⟩ := h
    obtain ⟨dx, t, vs, h1, h2, h3⟩ := id hA
    have lv : vs.length = qs.length := by have := dpAll_len h3; simpa using this
    refine ⟨_, PSs.nox (pss_one (ps_ret (pe_mk M_Lot (hr.mono (by first | decide | omega)) (pa_cons (pe_op op_rep (pe_lst (pa_cons pe_int pa_nil)) (pe_callB (w_len M_len (hr.mono (by decide))) (by rfl) T.m_len (by decide +kernel) (pa_cons (pv 0) pa_nil))) (pa_cons (pe_def D_pairs_of (hr.mono (by first | decide | omega)) (pa_cons (pe_own0 M_Asked_questions (hr.mono (by first | decide | omega)) (pv 0)) pa_nil)) pa_nil))))), ?_⟩
    refine ⟨by show 1 ≤ sizeLine; decide, fun b hb => ?_⟩
    have e1 := same_new (o := HO.lst [V.int 1]) hb
    refine ⟨_, rfl, p, dx, _, rfl, e1 _ _ h1, p, dx, t, _, vs, rfl, e1 _ _ h1, look_eq, sqT_ext e1 h2, _, rfl, by omega, by omega, ?_⟩
    refine ⟨b, _, _, rfl, rfl, upd_same, by omega, by omega, by simp; exact Nat.le_of_lt (small1000 (by omega)), fun l hl => ?_⟩
    have e2 := same_new (o := HO.lst (List.replicate (vs.length : Int).toNat [V.int 1]).flatten) hl
    have hrep : (List.replicate (vs.length : Int).toNat [V.int 1]).flatten = (ones qs.length).map V.int := by
      rw [lv, Int.toNat_natCast]; unfold ones
      induction qs.length with
      | zero => rfl
      | succ n ih => rw [List.replicate_succ, List.flatten_cons, ih, List.replicate_succ]; rfl
    refine ⟨_, rfl, p, dx, _, rfl, (e1.trans e2) _ _ h1, look_no _ _ (by decide +kernel), p, qs, rfl, hA.ext (e1.trans e2), fun v' H3 e3 d3 => ?_⟩
    refine ⟨v', qs, rfl, d3.dp, hv, by omega, fun v2 H4 e4 d4 => ?_⟩
    intro x dx2 nx ndx nex
    have e5 := made0 (o := HO.ins c.Lot dx2 []) nx ndx
    have hlst : Dp K (upd (upd (upd H b (HO.lst [V.int 1])) l (HO.lst (List.replicate (vs.length : Int).toNat [V.int 1]).flatten)) l (HO.lst (List.replicate (vs.length : Int).toNat [V.int 1]).flatten)) (.ref l) (.list ((ones qs.length).map PyData.int)) := by
      refine .lst (SqL.of upd_same) ?_
      rw [hrep]; exact dpAll_ints _
    rw [upd_upd] at hlst
    refine ⟨x, dx2, .ref l, v2, ones qs.length, abQ qs, qs.length, rfl, upd_same, dp_ext ((e3.trans e4).trans e5) hlst, dp_ext e5 d4.dp, abQ_ok1 hv, by simp [ones], by omega, pairs_few hv h9, ?_, fun H' hb' hL => ⟨rfl, ?_⟩⟩
    · intro y hy
      have := List.eq_of_mem_replicate hy
      rw [this]; exact ⟨by decide, by decide⟩
    · exact hq _ _ ((((e1.trans e2).trans e3).trans e4).trans (made nx ndx hb')) hL
theorem ok_fewest (F : FnD K "fewest" "fewest" s_fewest f fd) (D_plain_lot : Def P w K mg base "plain_lot" 54 ["asked"] (spPlain K c)) (M_Lot_width : Own P w K mg base c.Lot "width" 2 ["self"] (spWid K c)) : FnOk P w K mg base CX0 55 f fd ["asked"] (spFewest K c) := by
  refine F.ok sc_fewest (fun vs H Q E h => ?_) (fun cdv A outer s H vs Q E hr h => ?_)
  · obtain ⟨p, qs, rfl, _⟩ := h; rfl
  · obtain ⟨p, qs, rfl, hA, hv, h9, hq⟩ := h
    refine ⟨_, PSs.nox (pss_one (ps_ret (pe_own0 M_Lot_width (hr.mono (by first | decide | omega)) (pe_def D_plain_lot (hr.mono (by first | decide | omega)) (pa_cons (pv 0) pa_nil))))), ?_⟩
    refine ⟨_, rfl, p, qs, rfl, hA, hv, h9, fun a H1 e1 hL => ?_⟩
    obtain ⟨dx, t, tp, ta, tm, h1, h2, h3⟩ := id hL
    exact ⟨a, dx, _, rfl, h1, lf_no _ _ _ _ (by decide +kernel) (by decide +kernel) (by decide +kernel) (by decide +kernel), a, _, _, _, rfl, hL, by simp [ones]; omega, fun H2 e2 => hq _ (e1.trans e2)⟩
theorem ok_lot_of (F : FnD K "lot_of" "lot_of" s_lot_of f fd) (M_Lot : Made P w K mg base "Lot" c.Lot 52 ["self", "weights", "pairs"] (spLotInit K c)) (D_pairs_of : Def P w K mg base "pairs_of" 3 ["questions"] (spPairsOf K))
    (M_Asked_questions : Own P w K mg base c.Asked "questions" 1 ["self"] (spAskQs K c)) (D_weight_of : Def P w K mg base "weight_of" 3 ["question", "weights"] (spWtOf K c)) : FnOk P w K mg base CX0 54 f fd ["asked", "weights"] (spLotOf K c) := by
  refine F.ok sc_lot_of (fun vs H Q E h => ?_) (fun cdv A outer s H vs Q E hr h => ?_)
  · obtain ⟨p, u, qs, t, rfl, _⟩ := h; rfl
  · obtain ⟨p, u, qs, t, rfl, hA, hv, h9, hW, ht, hq⟩ := h
    obtain ⟨dx, ta, vs0, h1, h2, h3⟩ := id hA
    refine ⟨_, PSs.nox (pss_cons (ps_set (i := 2) sc_lot_of.nd rfl (by first | exact Or.inl rfl | exact Or.inr rfl) (pe_own0 M_Asked_questions (hr.mono (by first | decide | omega)) (pv 0)))
    (pss_one (ps_ret (pe_mk M_Lot (hr.mono (by first | decide | omega)) (pa_cons (pe_lc (own := [("question", 3)]) rfl sc_lot_of.nd (k_piL (K := K) rfl (pv 2)) (blkOk_by (own := [("question", 3)]) (N := N_lot_of) (by kernel_rfl)) (fun _ _ _ _ _ => (pg_name (i := 3) sc_lot_of.nd rfl (by first | exact Or.inl rfl | exact Or.inr rfl))) (fun _ _ _ _ _ => pts_nil) (fun _ _ _ _ _ => (pe_def D_weight_of (hr.mono (by first | decide | omega)) (pa_cons (pv 3) (pa_cons (pv 1) pa_nil))))) (pa_cons (pe_def D_pairs_of (hr.mono (by first | decide | omega)) (pa_cons (pv 2) pa_nil)) pa_nil)))))), ?_⟩
    refine ⟨_, rfl, p, dx, _, rfl, h1, look_no _ _ (by decide +kernel), p, qs, rfl, hA, fun v' H1 e1 d1 => ?_⟩
    obtain ⟨a, vs, rfl, hs, ha⟩ := dpQs d1.dp
    have lv : vs.length = qs.length := by have := dpAll_len ha; simpa using this
    refine ⟨_, rfl, a, rfl, ⟨_, hs⟩, fun D hD => lcM (K := K) (src_list hs) (Same.refl _) hD qs lv.symm (by rw [lv]; exact small1000 (by omega)) (fun q => PyData.int (wq (tabOf t) q)) ?_ ?_⟩
    · rintro i q x H2 R hi e2 hx hyes
      obtain ⟨d, k1, k2⟩ := dpAll_get ha hx
      rw [List.getElem?_map, hi] at k1
      cases k1
      exact ⟨rfl, _, rfl, _, rfl, u, x, t, q, rfl, hW.ext (e1.trans e2), ht, dp_ext e2 k2, hv q (List.mem_of_getElem? hi), fun H3 e3 => hyes _ _ e3 (.int _)⟩
    · intro H2 e2 d2
      have he : (qs.map fun q => PyData.int (wq (tabOf t) q)) = (wsM (tabOf t) qs).map PyData.int := by unfold wsM; rw [List.map_map]; rfl
      rw [he] at d2
      refine ⟨_, rfl, .ref a, qs, rfl, dp_ext e2 d1.dp, hv, by omega, fun v2 H3 e3 d3 => ?_⟩
      intro x dx2 nx ndx nex
      have e5 := made0 (o := HO.ins c.Lot dx2 []) nx ndx
      refine ⟨x, dx2, .ref D, v2, wsM (tabOf t) qs, abQ qs, qs.length, rfl, upd_same, dp_ext (e3.trans e5) d2.dp, dp_ext e5 d3.dp, abQ_ok (fun x => (tab_pos ht x).1) hv, ws_len _ _, by omega, pairs_few hv h9, ?_, fun H' hb' hL => ⟨rfl, ?_⟩⟩
      · intro y hy
        obtain ⟨q, hq', rfl⟩ := List.mem_map.1 hy
        exact wq_bd ht (hv q hq')
      · exact hq _ _ (((e1.trans e2).trans e3).trans (made nx ndx hb')) hL
theorem ok_least (F : FnK K "least_cost" "least_cost" s_least_cost f fd) (D_lot_of : Def P w K mg base "lot_of" 54 ["asked", "weights"] (spLotOf K c)) (M_Lot_least_sum : Own P w K mg base c.Lot "least_sum" 2 ["self"] (spLeastS K c)) : FnOk P w K mg base CX0 55 f fd ["asked", "weights"] (spLeast K c) := by
  refine F.ok sc_least_cost (fun vs H Q E h => ?_) (fun cdv A outer s H vs Q E hr h => ?_)
  · obtain ⟨p, u, qs, t, rfl, _⟩ := h; rfl
  · obtain ⟨p, u, qs, t, rfl, hA, hv, h9, hW, ht, hq⟩ := h
    refine ⟨_, PSs.nox (pss_one (ps_ret (pe_own0 M_Lot_least_sum (hr.mono (by first | decide | omega)) (pe_def D_lot_of (hr.mono (by first | decide | omega)) (pa_cons (pv 0) (pa_cons (pv 1) pa_nil)))))), ?_⟩
    refine ⟨_, rfl, _, rfl, p, u, qs, t, rfl, hA, hv, h9, hW, ht, fun a H1 e1 hL => ?_⟩
    obtain ⟨dx, ta, tp, tb, tm, h1, h2, h3⟩ := id hL
    refine ⟨a, dx, _, rfl, h1, lf_no _ _ _ _ (by decide +kernel) (by decide +kernel) (by decide +kernel) (by decide +kernel), a, _, _, _, rfl, hL, by rw [ws_len]; omega, ?_, fun H2 e2 => hq _ (e1.trans e2)⟩
    intro y hy
    obtain ⟨q, hq', rfl⟩ := List.mem_map.1 hy
    have := wq_bd ht (hv q hq')
    exact ⟨by omega, this.2⟩
end
end NkW
end
section
set_option Elab.async false
set_option linter.all false
set_option maxRecDepth 100000
set_option maxHeartbeats 2000000
/-! wholes.py -/
namespace NkW
open PySem PySem.Spec PyProof.Rows L2 NkO NkR NkS NkQ NkM
abbrev s_exchanged : Stmt := top 58
abbrev N_exchanged : List Str := ["above", "match", "drop", "take", "order", "found", "low"]
theorem sc_exchanged : FnScope N_exchanged ["above", "match", "drop", "take"] (defScope s_exchanged) := ⟨rfl, rfl, rfl, by decide +kernel, rfl, by decide +kernel, by decide +kernel⟩
abbrev s_one_more : Stmt := top 59
abbrev N_one_more : List Str := ["above", "match", "inside", "beside", "take", "drop", "found", "thing"]
theorem sc_one_more : FnScope N_one_more ["above", "match", "inside", "beside"] (defScope s_one_more) := ⟨rfl, rfl, rfl, by decide +kernel, rfl, by decide +kernel, by decide +kernel⟩

def spExch (K : PySem.W.Frag) : Sp := fun vs H Q _ => ∃ (v : V) (ab : Nat → List Nat) (n : Nat) (Ma : Addr) (m : List (Nat × Nat)) (drop take : Nat), vs = [v, .ref Ma, .int drop, .int take] ∧ Dp K H v (rowsAb ab n) ∧ H Ma = some (.dK (dk m)) ∧
  (∀ l, ∀ x ∈ ab l, x < n) ∧ (keysM m).Nodup ∧ (∀ x ∈ keysM m, x < n) ∧ take < n ∧ take ∉ keysM m ∧ n ≤ 48 ∧
  (∀ H', Same H H' → exchanged ab n m drop take = Option.none → Q .non H') ∧ ∀ d m' H', Same H H' → H d = Option.none → exchanged ab n m drop take = some m' → H' d = some (.dK (dk m')) → Q (.ref d) H'
def spOne (K : PySem.W.Frag) : Sp := fun vs H Q _ => ∃ (v u z : V) (ab : Nat → List Nat) (n : Nat) (Ma : Addr) (m : List (Nat × Nat)) (inside beside : List Nat), vs = [v, .ref Ma, u, z] ∧ Dp K H v (rowsAb ab n) ∧ H Ma = some (.dK (dk m)) ∧ Dp K H u (encNs inside) ∧ Dp K H z (encNs beside) ∧
  (∀ l, ∀ x ∈ ab l, x < n) ∧ (keysM m).Nodup ∧ (∀ x ∈ keysM m, x < n) ∧ (∀ x ∈ inside, x < n) ∧ inside.length ≤ 48 ∧ beside.length ≤ 48 ∧ n ≤ 48 ∧
  (∀ H', Same H H' → oneMore ab n m inside beside = Option.none → Q .non H') ∧ ∀ d m' H', Same H H' → H d = Option.none → oneMore ab n m inside beside = some m' → H' d = some (.dK (dk m')) → Q (.ref d) H'
theorem get_some (m : List (Nat × Nat)) (k : Nat) : (NkM.get m k).isSome = decide (k ∈ keysM m) := by
  unfold NkM.get keysM
  rw [Bool.eq_iff_iff]
  simp

section
variable {P : Program} {w : World} {K : PySem.W.Frag} {mg : Str → Option Value} {base : Heap} {c : Ad} {f : Addr} {fd : FuncData} (T : Tx K mg c)
include T
theorem ok_exch (F : FnD K "exchanged" "exchanged" s_exchanged f fd) (D_matched : Def P w K mg base "matched" 51 ["above", "order"] (spMatched K)) : FnOk P w K mg base CX0 52 f fd ["above", "match", "drop", "take"] (spExch K) := by
  refine F.ok sc_exchanged (fun vs H Q E h => ?_) (fun cdv A outer s H vs Q E hr h => ?_)
  · obtain ⟨v, ab, n, Ma, m, drop, take, rfl, _⟩ := h; rfl
  · obtain ⟨v, ab, n, Ma, m, drop, take, rfl, hA, hM, hab, knd, klt, htn, htm, h48, hq0, hq1⟩ := h
    refine ⟨_, PSs.nox (pss_cons (ps_set (i := 4) sc_exchanged.nd rfl (by first | exact Or.inl rfl | exact Or.inr rfl) (pe_op op_cat (pe_lock (pe_lc (own := [("low", 6)]) rfl sc_exchanged.nd (pi_keys (pv 1)) (blkOk_by (own := [("low", 6)]) (N := N_exchanged) (by kernel_rfl)) (fun _ _ _ _ _ => (pg_name (i := 6) sc_exchanged.nd rfl (by first | exact Or.inl rfl | exact Or.inr rfl))) (fun _ _ _ _ _ => (pts_one (pt_cmpR op_ne (pv 6) (pv 2) (nomark _)))) (fun _ _ _ _ _ => (pv 6)))) (pe_lst (pa_cons (pv 3) pa_nil))))
    (pss_cons (ps_set (i := 5) sc_exchanged.nd rfl (by first | exact Or.inl rfl | exact Or.inr rfl) (pe_def D_matched (hr.mono (by first | decide | omega)) (pa_cons (pv 0) (pa_cons (pv 4) pa_nil))))
    (pss_one (ps_ret (pe_ifExp (pt_cmpR op_eq (pe_callB call_lenD (by rfl) T.m_len (by decide +kernel) (pa_cons (pv 5) pa_nil)) (pe_callB (k_len (K := K) rfl) (by rfl) T.m_len (by decide +kernel) (pa_cons (pv 4) pa_nil)) (nomark _)) (pv 5) pe_non))))), ?_⟩
    have lm : m.length = (keysM m).length := by simp [keysM]
    have lkm : (keysM m).length ≤ n := by
      have := knd.length_le_of_subset (fun x hx => List.mem_range.2 (klt x hx))
      simpa using this
    refine ⟨Ma, _, hM, trivial, fun od => ?_⟩
    refine ⟨_, rfl, Ma, od, rfl, .inl ⟨dk m, upd_same, fun D hD => lcG (K := K) (src_keys upd_same) (Same.refl _) hD (keysM m) (by rw [dk_len, lm]) (by rw [dk_len]; exact small1000 (by omega)) (fun x => decide (x ≠ drop)) (fun (x : Nat) => PyData.int x) ?_ ?_⟩⟩
    · rintro i x y H2 R hi e2 ⟨k', z', hk', rfl⟩ hyes hno
      have : (dk m)[i]? = some (Sum.inl (x : Int), z') := by
        have h1 : (dk m)[i]? = (m[i]?).map fun p => (Sum.inl (p.1 : Int), V.int p.2) := by unfold dk; rw [List.getElem?_map]
        have h2 : m[i]?.map (·.1) = some x := by unfold keysM at hi; rw [List.getElem?_map] at hi; exact hi
        rw [h1] at hk' ⊢
        cases hm : m[i]? with
        | none => rw [hm] at h2; cases h2
        | some p => rw [hm] at h2 hk'; simp at h2 hk' ⊢; rw [← h2]; exact ⟨rfl, hk'.2⟩
      rw [this] at hk'
      cases hk'
      refine ⟨rfl, _, rfl, _, rfl, rfl, _, rfl, ?_⟩
      by_cases hd : x = drop
      · subst hd
        refine iF (by simp [kV]) ?_
        exact hno _ (by simp) (Same.refl _)
      · refine iT (by simp [kV]; omega) ?_
        exact ⟨_, rfl, hyes _ _ (by simpa using hd) (Same.refl _) (.int _)⟩
    · intro H1 e1 d1
      have nDM : D ≠ Ma := fun z => by rw [z, upd_same] at hD; cases hD
      have hDH : H D = Option.none := by rw [upd_ne nDM] at hD; exact hD
      refine ⟨e1 _ _ upd_same, ?_⟩
      have e1' : Same H (upd H1 Ma (HO.dK (dk m))) := fun b o hb => by
        by_cases z : b = Ma
        · rw [z, upd_same]; rw [z, hM] at hb; exact hb
        · rw [upd_ne z]; exact e1 _ _ (by rw [upd_ne z]; exact hb)
      have hDl : (upd H1 Ma (HO.dK (dk m))) D = some (.lst (((keysM m).filter (fun x => decide (x ≠ drop))).map fun (n : Nat) => V.int n)) := by
        cases d1 with | lst a1 a2 a3 => rw [dpAll_nats a3.dp] at a2; rw [upd_ne nDM]; exact a2
      generalize (upd H1 Ma (HO.dK (dk m))) = H2 at e1' hDl
      refine ⟨_, rfl, by show 1 ≤ sizeLine; decide, fun b hb => ?_⟩
      have e2 := same_new (o := HO.lst [V.int (take : Int)]) hb
      have lfl := List.length_filter_le (fun x => decide (x ≠ drop)) (keysM m)
      refine ⟨D, b, _, _, rfl, rfl, e2 _ _ hDl, upd_same, by simp only [List.length_map, List.length_cons, List.length_nil]; exact Nat.le_of_lt (small1000 (by omega)), fun l hl => ?_⟩
      have e3 := same_new (o := HO.lst ((((keysM m).filter (fun x => decide (x ≠ drop))).map fun (n : Nat) => V.int n) ++ [V.int (take : Int)])) hl
      have hO : (upd (upd H2 b (HO.lst [V.int (take : Int)])) l (HO.lst ((((keysM m).filter (fun x => decide (x ≠ drop))).map fun (n : Nat) => V.int n) ++ [V.int (take : Int)]))) l = some (.lst (((keysM m).filter (fun x => decide (x ≠ drop)) ++ [take]).map fun (n : Nat) => V.int n)) := by rw [upd_same]; simp
      have e23 := (e1'.trans e2).trans e3
      generalize (upd (upd H2 b (HO.lst [V.int (take : Int)])) l (HO.lst ((((keysM m).filter (fun x => decide (x ≠ drop))).map fun (n : Nat) => V.int n) ++ [V.int (take : Int)]))) = H3 at hO e23
      have no : ((keysM m).filter (fun x => decide (x ≠ drop)) ++ [take]).Nodup := by
        rw [List.nodup_append]
        exact ⟨nodup_filter knd, by simp, fun a ha b hb => by simp at hb; subst hb; intro e; subst e; exact htm (List.mem_filter.1 ha).1⟩
      refine ⟨_, rfl, _, rfl, v, .ref l, ab, n, _, rfl, dp_ext e23 hA, .lst (SqL.of hO) (mk_nats _), hab, no, fun x hx => ?_, h48, fun d H4 e4 hd hd4 => ?_⟩
      · rcases List.mem_append.1 hx with h | h
        · exact klt x (List.mem_filter.1 h).1
        · rw [List.mem_singleton.1 h]; exact htn
      · have hdH : H d = Option.none := e23.free hd
        have hex : exchanged ab n m drop take = if (matchedM ab n ((keysM m).filter (fun x => decide (x ≠ drop)) ++ [take])).length = ((keysM m).filter (fun x => decide (x ≠ drop)) ++ [take]).length then some (matchedM ab n ((keysM m).filter (fun x => decide (x ≠ drop)) ++ [take])) else Option.none := rfl
        generalize matchedM ab n ((keysM m).filter (fun x => decide (x ≠ drop)) ++ [take]) = m' at *
        refine ⟨_, rfl, d, _, rfl, hd4, _, rfl, l, _, rfl, .inl (SqL.of (e4 _ _ hO)), rfl, _, rfl, ?_⟩
        rw [dk_len, List.length_map]
        by_cases z : m'.length = ((keysM m).filter (fun x => decide (x ≠ drop)) ++ [take]).length
        · rw [if_pos z] at hex
          refine iT (by rw [z]; simp) ?_
          exact ⟨_, rfl, hq1 _ _ _ (e23.trans e4) hdH hex hd4⟩
        · rw [if_neg z] at hex
          refine iF (by simp only [decide_eq_false_iff_not, V.int.injEq]; omega) ?_
          exact hq0 _ (e23.trans e4) hex
theorem ok_one (F : FnD K "one_more" "one_more" s_one_more f fd) (D_exchanged : Def P w K mg base "exchanged" 52 ["above", "match", "drop", "take"] (spExch K)) : FnOk P w K mg base CX0 53 f fd ["above", "match", "inside", "beside"] (spOne K) := by
  refine F.ok sc_one_more (fun vs H Q E h => ?_) (fun cdv A outer s H vs Q E hr h => ?_)
  · obtain ⟨v, u, z, ab, n, Ma, m, inside, beside, rfl, _⟩ := h; rfl
  · obtain ⟨v, u, z, ab, n, Ma, m, inside, beside, rfl, hA, hM, hU, hZ, hab, knd, klt, hin, li, lb, h48, hq0, hq1⟩ := h
    refine ⟨_, PSs.nox (pss_cons (ps_for PassesOwn.never rfl (k_piL (K := K) rfl (pe_lc (own := [("thing", 7)]) rfl sc_one_more.nd (k_piL (K := K) rfl (pv 2)) (blkOk_by (own := [("thing", 7)]) (N := N_one_more) (by kernel_rfl)) (fun _ _ _ _ _ => (pg_name (i := 7) sc_one_more.nd rfl (by first | exact Or.inl rfl | exact Or.inr rfl))) (fun _ _ _ _ _ => (pts_one (pt_cmp (pc_dnotin (hu_of hr) (pv 7) (pv 1))))) (fun _ _ _ _ _ => (pv 7)))) (pg_name (i := 4) sc_one_more.nd rfl (by first | exact Or.inl rfl | exact Or.inr rfl))
    (pss_one (ps_for PassesOwn.never rfl (k_piL (K := K) rfl (pe_lc (own := [("thing", 7)]) rfl sc_one_more.nd (k_piL (K := K) rfl (pv 3)) (blkOk_by (own := [("thing", 7)]) (N := N_one_more) (by kernel_rfl)) (fun _ _ _ _ _ => (pg_name (i := 7) sc_one_more.nd rfl (by first | exact Or.inl rfl | exact Or.inr rfl))) (fun _ _ _ _ _ => (pts_one (pt_cmp (pc_din (hu_of hr) (pv 7) (pv 1))))) (fun _ _ _ _ _ => (pv 7)))) (pg_name (i := 5) sc_one_more.nd rfl (by first | exact Or.inl rfl | exact Or.inr rfl))
    (pss_cons (ps_set (i := 6) sc_one_more.nd rfl (by first | exact Or.inl rfl | exact Or.inr rfl) (pe_def D_exchanged (hr.mono (by first | decide | omega)) (pa_cons (pv 0) (pa_cons (pv 1) (pa_cons (pv 5) (pa_cons (pv 4) pa_nil))))))
    (pss_one (ps_if (pt_cmpR op_notN (pv 6) pe_non (nomark _)) (pss_one (ps_ret (pv 6))) pss_nil))))))
    (pss_one (ps_ret pe_non))), ?_⟩
    obtain ⟨ua, rfl, hu⟩ := dpNs hU
    obtain ⟨za, rfl, hz⟩ := dpNs hZ
    have key : ∀ (x : Nat), (valV (dk m) (Sum.inl (x : Int))).isSome = decide (x ∈ keysM m) := fun x => by rw [dk_get, Option.isSome_map]; exact get_some m x
    generalize hTs : inside.filter (out (keysM m)) = Ts at *
    generalize hDs : beside.filter (inn (keysM m)) = Ds at *
    have hTl : Ts.length ≤ 48 := by rw [← hTs]; exact Nat.le_trans (List.length_filter_le _ _) li
    have hDl : Ds.length ≤ 48 := by rw [← hDs]; exact Nat.le_trans (List.length_filter_le _ _) lb
    have hone : oneMore ab n m inside beside = Ts.findSome? fun take => Ds.findSome? fun drop => exchanged ab n m drop take := by unfold oneMore; rw [hTs, hDs]
    rw [hone] at hq0 hq1
    clear hone
    refine ⟨_, rfl, ua, rfl, ⟨_, hu⟩, fun D hD => lcG (K := K) (src_list hu) (Same.refl _) hD inside (by simp) (by rw [List.length_map]; exact small1000 (by omega)) (out (keysM m)) (fun (x : Nat) => PyData.int x) ?_ ?_⟩
    · rintro i x y H2 R hi e2 hy hyes hno
      rw [List.getElem?_map, hi] at hy
      cases hy
      refine ⟨rfl, _, rfl, _, rfl, Ma, _, rfl, DGet.k (k := Sum.inl (x : Int)) (e2 _ _ hM), _, rfl, ?_⟩
      rw [key]
      by_cases z : x ∈ keysM m
      · exact iF (by simp [z]) (hno _ (by simp [out, z]) (Same.refl _))
      · exact iT (by simp [z]) ⟨_, rfl, hyes _ _ (by simp [out, z]) (Same.refl _) (.int _)⟩
    · intro H1 e1 d1
      rw [hTs] at d1
      have ht1 : H1 D = some (.lst (Ts.map fun (n : Nat) => V.int n)) := by
        cases d1 with | lst a1 a2 a3 => rw [dpAll_nats a3.dp] at a2; exact a2
      have hTm : ∀ x ∈ Ts, x < n ∧ x ∉ keysM m := fun x hx => by
        rw [← hTs] at hx
        obtain ⟨h1, h2⟩ := List.mem_filter.1 hx
        exact ⟨hin x h1, by simpa [out] using h2⟩
      refine ⟨D, rfl, ⟨_, SqL.of ht1⟩, forG (H0 := H1) (src_list (SqL.of ht1)) (fun i σ H' => ∃ o4 o5 o6 o7, σ = [some v, some (.ref Ma), some (.ref ua), some (.ref za), o4, o5, o6, o7] ∧ Same H1 H' ∧ (Ts.take i).findSome? (fun take => Ds.findSome? fun drop => exchanged ab n m drop take) = Option.none) ?_ ?_ ?_ ?_⟩
      · exact ⟨_, _, _, _, rfl, Same.refl _, rfl⟩
      · rintro i σ H' ⟨_, _, _, _, _, e, _⟩; exact e
      · rintro i x σ H2 H3 hi ⟨o4, o5, o6, o7, rfl, e2, hp⟩ e3 hx
        have hiT : i < Ts.length := by simpa using hi
        rw [List.getElem?_map, List.getElem?_eq_getElem hiT] at hx
        cases hx
        have htk : Ts.take (i + 1) = Ts.take i ++ [Ts[i]] := by rw [List.take_add_one, List.getElem?_eq_getElem hiT]; rfl
        have hsp : Ts = Ts.take i ++ Ts[i] :: Ts.drop (i + 1) := by rw [← List.drop_eq_getElem_cons hiT, List.take_append_drop]
        have hmT := hTm _ (List.getElem_mem hiT)
        generalize Ts[i] = t at *
        have e23 := (e1.trans e2).trans e3
        refine ⟨_, rfl, za, rfl, ⟨_, sqL_ext e23 hz⟩, fun D2 hD2 => lcG (K := K) (src_list (sqL_ext e23 hz)) (Same.refl _) hD2 beside (by simp) (by rw [List.length_map]; exact small1000 (by omega)) (inn (keysM m)) (fun (x : Nat) => PyData.int x) ?_ ?_⟩
        · rintro j x y H4 R hj e4 hy hyes hno
          rw [List.getElem?_map, hj] at hy
          cases hy
          refine ⟨rfl, _, rfl, _, rfl, Ma, _, rfl, DGet.k (k := Sum.inl (x : Int)) ((e23.trans e4) _ _ hM), _, rfl, ?_⟩
          rw [key]
          by_cases z : x ∈ keysM m
          · exact iT (by simp [z]) ⟨_, rfl, hyes _ _ (by simp [inn, z]) (Same.refl _) (.int _)⟩
          · exact iF (by simp [z]) (hno _ (by simp [inn, z]) (Same.refl _))
        · intro H4 e4 d4
          rw [hDs] at d4
          have ht4 : H4 D2 = some (.lst (Ds.map fun (n : Nat) => V.int n)) := by
            cases d4 with | lst a1 a2 a3 => rw [dpAll_nats a3.dp] at a2; exact a2
          refine ⟨D2, rfl, ⟨_, SqL.of ht4⟩, forG (H0 := H4) (src_list (SqL.of ht4)) (fun i σ H' => ∃ o5 o6 o7, σ = [some v, some (.ref Ma), some (.ref ua), some (.ref za), some (.int t), o5, o6, o7] ∧ Same H4 H' ∧ (Ds.take i).findSome? (fun drop => exchanged ab n m drop t) = Option.none) ?_ ?_ ?_ ?_⟩
          · exact ⟨_, _, _, rfl, Same.refl _, rfl⟩
          · rintro i σ H' ⟨_, _, _, _, e, _⟩; exact e
          · rintro j x σ H5 H6 hj ⟨o5, o6, o7, rfl, e5, hp2⟩ e6 hx
            have hjD : j < Ds.length := by simpa using hj
            rw [List.getElem?_map, List.getElem?_eq_getElem hjD] at hx
            cases hx
            have htk2 : Ds.take (j + 1) = Ds.take j ++ [Ds[j]] := by rw [List.take_add_one, List.getElem?_eq_getElem hjD]; rfl
            have hsp2 : Ds = Ds.take j ++ Ds[j] :: Ds.drop (j + 1) := by rw [← List.drop_eq_getElem_cons hjD, List.take_append_drop]
            generalize Ds[j] = d at *
            have e06 := ((e23.trans e4).trans e5).trans e6
            refine ⟨_, rfl, _, rfl, _, rfl, _, rfl, v, ab, n, Ma, m, d, t, rfl, dp_ext e06 hA, e06 _ _ hM, hab, knd, klt, hmT.1, hmT.2, h48, fun H7 e7 hex => ?_, fun da m' H7 e7 hda hex hd7 => ?_⟩
            · refine ⟨_, rfl, rfl, _, rfl, ?_⟩
              refine iF (by simp) ?_
              exact ⟨_, _, _, rfl, (e5.trans e6).trans e7, by rw [htk2, List.findSome?_append, hp2]; simp [hex]⟩
            · refine ⟨_, rfl, rfl, _, rfl, ?_⟩
              refine iT (by simp) ?_
              refine ⟨_, rfl, hq1 _ _ _ (e06.trans e7) (e06.free hda) ?_ hd7⟩
              have hin : (Ds.findSome? fun drop => exchanged ab n m drop t) = some m' := by
                rw [hsp2, List.findSome?_append, hp2]; simp [hex]
              rw [hsp, List.findSome?_append, hp]; simp [hin]
          · rintro σ H5 ⟨o5, o6, o7, rfl, e5, hp2⟩
            rw [List.length_map, List.take_length] at hp2
            exact ⟨_, _, _, _, rfl, ((e2.trans e3).trans e4).trans e5, by rw [htk, List.findSome?_append, hp]; simp [hp2]⟩
      · rintro σ H2 ⟨o4, o5, o6, o7, rfl, e2, hp⟩
        rw [List.length_map, List.take_length] at hp
        exact hq0 _ (e1.trans e2) hp
end
end NkW
end
section
set_option Elab.async false
set_option linter.all false
set_option maxRecDepth 100000
set_option maxHeartbeats 2000000
/-! wholes.py: whole_range -/
namespace NkW
open PySem PySem.Spec PyProof.Rows L2 NkO NkR NkS NkQ NkM
abbrev s_whole_range : Stmt := top 57
abbrev N_whole_range : List Str := ["asked", "columns", "weights", "some", "weight", "above", "others", "least", "question"]
theorem sc_whole_range : FnScope N_whole_range ["asked", "columns", "weights"] (defScope s_whole_range) := ⟨rfl, rfl, rfl, by decide +kernel, rfl, by decide +kernel, by decide +kernel⟩

/-- what a wholes call is asked -/
structure WhQ (qs : List NkQ.Q) (cols : List Str) (t : List (Str × Int)) : Prop where
  v : ∀ q ∈ qs, VQ6 q
  can : Can encQ qs
  len : qs.length ≤ 9
  hc : ∃ q ∈ qs, colsQ q = cols
  cok : ∀ x ∈ cols, okC x = true
  tok : TabOk t
def spRange (K : PySem.W.Frag) (c : Ad) : Sp := fun vs H Q _ => ∃ p u w, ∃ qs : List NkQ.Q, ∃ cols : List Str, ∃ t : List (Str × Int), vs = [.ref p, u, w] ∧ AskAt K c H p qs ∧ Dp K H u (encL cols) ∧ WtAt K c H w t ∧ WhQ qs cols t ∧
  ∀ a H', Same H H' → SqT K H' a [.int (leastR (tabOf t) qs cols), .int (mostR (tabOf t) qs cols)] → Q (.ref a) H'

section
variable {K : PySem.W.Frag} {c : Ad} {H : Hp} {R : VK}
theorem rd_ask {v : V} {qs : List NkQ.Q} {x dx : Addr} {Qc : Hp → Prop} (nx : H x = Option.none) (ndx : H dx = Option.none) (d : Dp K H v (.list (qs.map encQ))) (hv : ∀ q ∈ qs, VQ6 q) (hl : qs.length ≤ 48) (k : ∀ H', Same H H' → AskAt K c H' x (canQ qs) → Qc H') :
    spAskInit K c [V.ref x, v] (upd (upd H dx (.own x)) x (.ins c.Asked dx [])) (fun u H2 => u = .non ∧ Qc H2) E0 := by
  have e2 := made0 (o := HO.ins c.Asked dx []) nx ndx
  have lc : (canQ qs).length ≤ qs.length := (canon_nodup encQ qs).length_le_of_subset (fun x hx => canon_mem.1 hx)
  exact ⟨x, dx, _, qs, rfl, upd_same, dp_ext e2 d, hv, by omega, by omega, fun H' hb hA => ⟨rfl, k _ (made nx ndx hb) hA⟩⟩
theorem rd_or {p r : Addr} {qs rs : List NkQ.Q} (ha : AskAt K c H p qs) (hb : AskAt K c H r rs) (hv : ∀ q ∈ qs, VQ6 q) (hw : ∀ q ∈ rs, VQ6 q) (hl : qs.length + rs.length < 64) (hc : (canQ (qs ++ rs)).length ≤ 48)
    (k : ∀ a H', Same H H' → AskAt K c H' a (canQ (qs ++ rs)) → R (.ref a) H') : rOwnOp c.Asked (spAskOr K c) (.ref p) (.ref r) H R := by
  obtain ⟨dx, t, vs, h1, _, _⟩ := id ha
  obtain ⟨dy, u, ws, g1, _, _⟩ := id hb
  exact ⟨p, dx, _, r, dy, _, rfl, rfl, h1, g1, p, r, qs, rs, rfl, ha, hb, hv, hw, hl, hc, k⟩
theorem rd_sub {p r : Addr} {qs rs : List NkQ.Q} (ha : AskAt K c H p qs) (hb : AskAt K c H r rs) (hv : ∀ q ∈ qs, VQ6 q) (hw : ∀ q ∈ rs, VQ6 q) (hl : qs.length ≤ 48)
    (k : ∀ a H', Same H H' → AskAt K c H' a (canQ (qs.filter fun q => !decide (q ∈ rs))) → R (.ref a) H') : rOwnOp c.Asked (spAskSub K c) (.ref p) (.ref r) H R := by
  obtain ⟨dx, t, vs, h1, _, _⟩ := id ha
  obtain ⟨dy, u, ws, g1, _, _⟩ := id hb
  exact ⟨p, dx, _, r, dy, _, rfl, rfl, h1, g1, p, r, qs, rs, rfl, ha, hb, hv, hw, hl, k⟩
end

section
variable {P : Program} {w : World} {K : PySem.W.Frag} {mg : Str → Option Value} {base : Heap} {c : Ad} {f : Addr} {fd : FuncData} (T : Tx K mg c)
include T
theorem ok_range {fi : Addr} {fdi : FuncData} (F : FnK K "whole_range" "whole_range" s_whole_range f fd) (D_columns_of : Def P w K mg base "columns_of" 1 ["question"] (spColsOf K)) (D_weight_of : Def P w K mg base "weight_of" 3 ["question", "weights"] (spWtOf K c))
    (D_fewest : Def P w K mg base "fewest" 55 ["asked"] (spFewest K c)) (M_Asked : Made P w K mg base "Asked" c.Asked 5 ["self", "questions"] (spAskInit K c))
    (M_or : Own P w K mg base c.Asked "__or__" 7 ["self", "other"] (spAskOr K c)) (M_sub : Own P w K mg base c.Asked "__sub__" 7 ["self", "other"] (spAskSub K c)) (hself : PySem.W.selfFirst K c.Asked = true)
    (OI : FnS P w K mg base 1 fi fdi ["self"] (spIter K c.Asked "kept_questions")) (Bi : Binds K fdi ["self"] []) (Mi : Meth K c.Asked "__iter__" fi) :
    FnOk P w K mg base CX0 56 f fd ["asked", "columns", "weights"] (spRange K c) := by
  refine F.ok sc_whole_range (fun vs H Q E h => ?_) (fun cdv A outer s H vs Q E hr h => ?_)
  · obtain ⟨p, u, w, qs, cols, t, rfl, _⟩ := h; rfl
  · obtain ⟨p, u, w, qs, cols, t, rfl, hA, hU, hW, Z, hq⟩ := h
    obtain ⟨dx, ta, vs, hp, ht, hvs⟩ := id hA
    have lv : vs.length = qs.length := by have := dpAll_len hvs; simpa using this
    have h9 := Z.len
    have item : ∀ {i : Nat} {q : NkQ.Q} {x : V} {H' : Hp}, Same H H' → qs[i]? = some q → vs[i]? = some x → Dp K H' x (encQ q) ∧ VQ6 q := fun {i q x H'} e hi hx => by
      obtain ⟨d, k1, k2⟩ := dpAll_get hvs hx
      rw [List.getElem?_map, hi] at k1
      cases k1
      exact ⟨dp_ext e k2, Z.v q (List.mem_of_getElem? hi)⟩
    have hlook : ([("kept_questions", V.ref ta)] : List (Str × V)).lookup ("kept_questions" : Str) = some (.ref ta) := look_eq
    refine ⟨_, PSs.nox (pss_cons (ps_setLc (i := 3) (own := [("question", 8)]) rfl sc_whole_range.nd rfl rfl (sw_true rfl rfl rfl (by decide +kernel)) (pi_own ⟨OI, Bi, Mi⟩ (hr.mono (by first | decide | omega)) (pv 0)) (blkOk_by (own := [("question", 8)]) (N := N_whole_range) (by kernel_rfl)) (fun _ _ _ _ _ => (pg_name (i := 8) sc_whole_range.nd rfl (by first | exact Or.inl rfl | exact Or.inr rfl))) (fun _ _ _ _ _ => (pts_one (pt_cmpR (k_eqD (K := K) rfl (hu64 hr)) (pe_def D_columns_of (hr.mono (by first | decide | omega)) (pa_cons (pv 8) pa_nil)) (pv 1) (nomark _)))) (fun _ _ _ _ _ => (pv 8)))
    (pss_cons (ps_if (pt_cmpR (k_eqD (K := K) rfl (hu64 hr)) (pv 3) (pe_lst pa_nil) (nomark _)) (pss_one (ps_ret (pe_tup (pa_cons pe_int (pa_cons pe_int pa_nil))))) pss_nil)
    (pss_cons (ps_set (i := 4) sc_whole_range.nd rfl (by first | exact Or.inl rfl | exact Or.inr rfl) (pe_def D_weight_of (hr.mono (by first | decide | omega)) (pa_cons (pe_ix (k_ixL (K := K) rfl) (pv 3) pe_int (fun _ _ => rfl)) (pa_cons (pv 2) pa_nil))))
    (pss_cons (ps_set (i := 5) sc_whole_range.nd rfl (by first | exact Or.inl rfl | exact Or.inr rfl) (pe_mk M_Asked (hr.mono (by first | decide | omega)) (pa_cons (pe_lc (own := [("question", 8)]) rfl sc_whole_range.nd (pi_own ⟨OI, Bi, Mi⟩ (hr.mono (by first | decide | omega)) (pv 0)) (blkOk_by (own := [("question", 8)]) (N := N_whole_range) (by kernel_rfl)) (fun _ _ _ _ _ => (pg_name (i := 8) sc_whole_range.nd rfl (by first | exact Or.inl rfl | exact Or.inr rfl))) (fun _ _ _ _ _ => (pts_one (pt_cmpR op_gt (pe_def D_weight_of (hr.mono (by first | decide | omega)) (pa_cons (pv 8) (pa_cons (pv 2) pa_nil))) (pv 4) (nomark _)))) (fun _ _ _ _ _ => (pv 8))) pa_nil)))
    (pss_cons (ps_set (i := 6) sc_whole_range.nd rfl (by first | exact Or.inl rfl | exact Or.inr rfl) (pe_op (w_bin M_sub (hr.mono (by first | decide | omega)) hself) (pe_mk M_Asked (hr.mono (by first | decide | omega)) (pa_cons (pe_lc (own := [("question", 8)]) rfl sc_whole_range.nd (pi_own ⟨OI, Bi, Mi⟩ (hr.mono (by first | decide | omega)) (pv 0)) (blkOk_by (own := [("question", 8)]) (N := N_whole_range) (by kernel_rfl)) (fun _ _ _ _ _ => (pg_name (i := 8) sc_whole_range.nd rfl (by first | exact Or.inl rfl | exact Or.inr rfl))) (fun _ _ _ _ _ => (pts_one (pt_cmpR op_ge (pe_def D_weight_of (hr.mono (by first | decide | omega)) (pa_cons (pv 8) (pa_cons (pv 2) pa_nil))) (pv 4) (nomark _)))) (fun _ _ _ _ _ => (pv 8))) pa_nil)) (pe_mk M_Asked (hr.mono (by first | decide | omega)) (pa_cons (pv 3) pa_nil))))
    (pss_cons (ps_set (i := 7) sc_whole_range.nd rfl (by first | exact Or.inl rfl | exact Or.inr rfl) (pe_op op_sub (pe_def D_fewest (hr.mono (by first | decide | omega)) (pa_cons (pe_op (w_bin M_or (hr.mono (by first | decide | omega)) hself) (pv 5) (pe_mk M_Asked (hr.mono (by first | decide | omega)) (pa_cons (pv 3) pa_nil))) pa_nil)) (pe_def D_fewest (hr.mono (by first | decide | omega)) (pa_cons (pv 5) pa_nil))))
    (pss_one (ps_ret (pe_tup (pa_cons (pv 7) (pa_cons (pe_op op_sub (pe_def D_fewest (hr.mono (by first | decide | omega)) (pa_cons (pe_op (w_bin M_or (hr.mono (by first | decide | omega)) hself) (pv 6) (pe_mk M_Asked (hr.mono (by first | decide | omega)) (pa_cons (pv 3) pa_nil))) pa_nil)) (pe_def D_fewest (hr.mono (by first | decide | omega)) (pa_cons (pv 6) pa_nil))) pa_nil))))))))))), ?_⟩
    refine ⟨_, rfl, p, dx, ta, _, vs, rfl, hp, hlook, ht, fun D hD => lcG (K := K) (src_tup ht) (Same.refl _) hD qs lv.symm (by rw [lv]; exact small1000 (by omega)) (fun q => decide (colsQ q = cols)) encQ ?_ ?_⟩
    · rintro i q x H2 R hi e2 hx hyes hno
      obtain ⟨dq, vq⟩ := item e2 hi hx
      refine ⟨rfl, _, rfl, x, q, rfl, dq, vq, fun v' H3 e3 d3 => ⟨_, rfl, encL (colsQ q), encL cols, d3, dp_ext (e2.trans e3) hU, shaped_L vq.cols.1, shaped_L Z.cok, _, rfl, ?_⟩⟩
      rw [eqv_L]
      by_cases z : colsQ q = cols
      · exact iT (by simp [z]) ⟨_, rfl, hyes _ _ (by simp [z]) e3 (df_of_dp _ _ (flat_Q _) (dp_ext e3 dq))⟩
      · exact iF (by simp [z]) (hno _ (by simp [z]) e3)
    · intro H1 e1 d1
      have hso : qs.filter (fun q => decide (colsQ q = cols)) = someM qs cols := rfl
      rw [hso] at d1
      have sm : ∀ q ∈ someM qs cols, q ∈ qs := fun q hq => (mem_some.1 hq).1
      have smv : ∀ q ∈ someM qs cols, VQ6 q := fun q hq => Z.v q (sm q hq)
      have lsm : (someM qs cols).length ≤ qs.length := List.length_filter_le _ _
      have sne : someM qs cols ≠ [] := by
        obtain ⟨q, h1, h2⟩ := Z.hc
        intro z
        have : q ∈ someM qs cols := mem_some.2 ⟨h1, h2⟩
        rw [z] at this; cases this
      refine ⟨_, rfl, Nat.zero_le _, fun E1 hE1 => ⟨_, .list [], dp_ext (same_new hE1) d1.dp, .lst (SqL.of upd_same) .nil, shaped_Qs (fun q hq => (smv q hq).v), by decide, _, rfl, iF (by cases hz : someM qs cols with
        | nil => exact absurd hz sne
        | cons a l => simp [PyData.eqv, PyData.eqvAll]) ?_⟩⟩
      have e2 := e1.trans (same_new (o := HO.lst []) hE1)
      have d2 := dp_ext (same_new (o := HO.lst []) hE1) d1.dp
      generalize upd H1 E1 (HO.lst []) = H2 at e2 d2
      clear d1 hE1 e1
      obtain ⟨_, us, er, hus, hua⟩ := dpQs d2
      cases er
      have hhd : ∃ z, atI us 0 = some z ∧ Dp K H2 z (encQ ((someM qs cols).headD ([], eS))) := by
        cases hz : someM qs cols with
        | nil => exact absurd hz sne
        | cons a l =>
          rw [hz] at hua
          have : ((a :: l).map encQ)[0]? = some (encQ a) := rfl
          obtain ⟨z, hz1, hz2⟩ := dpAll_gt hua this
          exact ⟨z, atI_nat (j := 0) hz1, hz2⟩
      have hhm : (someM qs cols).headD ([], eS) ∈ someM qs cols := by
        cases hz : someM qs cols with
        | nil => exact absurd hz sne
        | cons a l => simp
      obtain ⟨z0, hz0, dz0⟩ := hhd
      refine ⟨_, rfl, D, us, _, z0, rfl, rfl, hus, hz0, _, rfl, w, z0, t, _, rfl, hW.ext e2, Z.tok, dz0, smv _ hhm, fun H3 e3 => ?_⟩
      generalize hwt : wq (tabOf t) ((someM qs cols).headD ([], eS)) = wt
      have e23 := e2.trans e3
      have d3 := dp_ext e3 d2
      -- above
      refine ⟨_, rfl, p, dx, ta, _, vs, rfl, e23 _ _ hp, hlook, sqT_ext e23 ht, fun D1 hD1 => lcG (K := K) (src_tup (sqT_ext e23 ht)) (Same.refl _) hD1 qs lv.symm (by rw [lv]; exact small1000 (by omega)) (fun q => decide (wt < wq (tabOf t) q)) encQ ?_ ?_⟩
      · rintro i q x H4 R hi e4 hx hyes hno
        obtain ⟨dq, vq⟩ := item (e23.trans e4) hi hx
        refine ⟨rfl, _, rfl, _, rfl, w, x, t, q, rfl, hW.ext (e23.trans e4), Z.tok, dq, vq, fun H5 e5 => ⟨_, rfl, _, _, rfl, rfl, _, rfl, ite2 (fun hb => ?_) (fun hb => ?_)⟩⟩
        · exact ⟨_, rfl, hyes _ _ hb e5 (df_of_dp _ _ (flat_Q _) (dp_ext e5 dq))⟩
        · exact hno _ (by simpa using hb) e5
      · intro H4 e4 d4
        have hAB : (fun q => decide (wt < wq (tabOf t) q)) = (fun q => decide (wt < wq (tabOf t) q)) := rfl
        have abv : ∀ q ∈ qs.filter (fun q => decide (wt < wq (tabOf t) q)), VQ6 q := fun q hq => Z.v q (List.mem_filter.1 hq).1
        have abl : (qs.filter (fun q => decide (wt < wq (tabOf t) q))).length ≤ qs.length := List.length_filter_le _ _
        have abc : canQ (qs.filter (fun q => decide (wt < wq (tabOf t) q))) = qs.filter (fun q => decide (wt < wq (tabOf t) q)) := (Z.can.filter _).canon asmQ (fun _ => Iff.rfl)
        intro a1 dxa1 na1 ndxa1 _
        refine rd_ask na1 ndxa1 d4.dp abv (by omega) fun H5 e5 hA1 => ?_
        rw [abc] at hA1
        have e35 := (e23.trans e4).trans e5
        have d5 := dp_ext (e4.trans e5) d3
        -- others
        refine ⟨_, rfl, p, dx, ta, _, vs, rfl, e35 _ _ hp, hlook, sqT_ext e35 ht, fun D2 hD2 => lcG (K := K) (src_tup (sqT_ext e35 ht)) (Same.refl _) hD2 qs lv.symm (by rw [lv]; exact small1000 (by omega)) (fun q => decide (wt ≤ wq (tabOf t) q)) encQ ?_ ?_⟩
        · rintro i q x H6 R hi e6 hx hyes hno
          obtain ⟨dq, vq⟩ := item (e35.trans e6) hi hx
          refine ⟨rfl, _, rfl, _, rfl, w, x, t, q, rfl, hW.ext (e35.trans e6), Z.tok, dq, vq, fun H7 e7 => ⟨_, rfl, _, _, rfl, rfl, _, rfl, ite2 (fun hb => ?_) (fun hb => ?_)⟩⟩
          · exact ⟨_, rfl, hyes _ _ hb e7 (df_of_dp _ _ (flat_Q _) (dp_ext e7 dq))⟩
          · exact hno _ (by simpa using hb) e7
        · intro H6 e6 d6
          have gev : ∀ q ∈ qs.filter (fun q => decide (wt ≤ wq (tabOf t) q)), VQ6 q := fun q hq => Z.v q (List.mem_filter.1 hq).1
          have gel : (qs.filter (fun q => decide (wt ≤ wq (tabOf t) q))).length ≤ qs.length := List.length_filter_le _ _
          have gec : canQ (qs.filter (fun q => decide (wt ≤ wq (tabOf t) q))) = qs.filter (fun q => decide (wt ≤ wq (tabOf t) q)) := (Z.can.filter _).canon asmQ (fun _ => Iff.rfl)
          intro a2 dxa2 na2 ndxa2 _
          refine rd_ask na2 ndxa2 d6.dp gev (by omega) fun H7 e7 hA2 => ?_
          rw [gec] at hA2
          have smc : canQ (someM qs cols) = someM qs cols := (Z.can.filter _).canon asmQ (fun _ => Iff.rfl)
          refine ⟨_, rfl, ?_⟩
          intro a3 dxa3 na3 ndxa3 _
          refine rd_ask na3 ndxa3 (dp_ext (e6.trans e7) d5) smv (by omega) fun H8 e8 hA3 => ?_
          rw [smc] at hA3
          refine rd_sub (hA2.ext e8) hA3 gev smv (by omega) fun a4 H9 e9 hA4 => ?_
          have otc : canQ ((qs.filter (fun q => decide (wt ≤ wq (tabOf t) q))).filter fun q => !decide (q ∈ someM qs cols)) = (qs.filter (fun q => decide (wt ≤ wq (tabOf t) q))).filter fun q => !decide (q ∈ someM qs cols) := ((Z.can.filter _).filter _).canon asmQ (fun _ => Iff.rfl)
          rw [otc] at hA4
          have otv : ∀ q ∈ (qs.filter (fun q => decide (wt ≤ wq (tabOf t) q))).filter (fun q => !decide (q ∈ someM qs cols)), VQ6 q := fun q hq => gev q (List.mem_filter.1 hq).1
          have otl : ((qs.filter (fun q => decide (wt ≤ wq (tabOf t) q))).filter fun q => !decide (q ∈ someM qs cols)).length ≤ qs.length := Nat.le_trans (List.length_filter_le _ _) gel
          have un9 : ∀ {l m : List NkQ.Q}, (∀ q ∈ l, q ∈ qs) → (∀ q ∈ m, q ∈ qs) → (canQ (l ++ m)).length ≤ qs.length := fun {l m} h1 h2 => (canon_nodup encQ (l ++ m)).length_le_of_subset (fun x hx => by
            rcases List.mem_append.1 (canon_mem.1 hx) with h | h
            · exact h1 x h
            · exact h2 x h)
          have unv : ∀ {l m : List NkQ.Q}, (∀ q ∈ l, VQ6 q) → (∀ q ∈ m, VQ6 q) → ∀ q ∈ canQ (l ++ m), VQ6 q := fun {l m} h1 h2 q hq => by
            rcases List.mem_append.1 (canon_mem.1 hq) with h | h
            · exact h1 q h
            · exact h2 q h
          have e59 := ((e6.trans e7).trans e8).trans e9
          have d9 := dp_ext e59 d5
          have hA1 := hA1.ext e59
          have e09 := e35.trans e59
          -- least
          refine ⟨_, rfl, _, rfl, ?_⟩
          intro a5 dxa5 na5 ndxa5 _
          refine rd_ask na5 ndxa5 d9 smv (by omega) fun Ha ea hA5 => ?_
          rw [smc] at hA5
          have u1 := un9 (l := qs.filter (fun q => decide (wt < wq (tabOf t) q))) (m := someM qs cols) (fun q hq => (List.mem_filter.1 hq).1) sm
          refine rd_or (hA1.ext ea) hA5 abv smv (by omega) (by omega) fun a6 Hb eb hA6 => ?_
          refine ⟨a6, _, rfl, hA6, unv abv smv, by omega, fun Hc ec => ?_⟩
          refine ⟨_, rfl, a1, _, rfl, hA1.ext ((ea.trans eb).trans ec), abv, by omega, fun Hd ed => ?_⟩
          refine ⟨_, _, rfl, rfl, ?_⟩
          have e9d := ((ea.trans eb).trans ec).trans ed
          -- most
          refine ⟨_, rfl, _, rfl, _, rfl, ?_⟩
          intro a7 dxa7 na7 ndxa7 _
          refine rd_ask na7 ndxa7 (dp_ext e9d d9) smv (by omega) fun He ee hA7 => ?_
          rw [smc] at hA7
          have u2 := un9 (l := (qs.filter (fun q => decide (wt ≤ wq (tabOf t) q))).filter fun q => !decide (q ∈ someM qs cols)) (m := someM qs cols) (fun q hq => (List.mem_filter.1 (List.mem_filter.1 hq).1).1) sm
          refine rd_or (hA4.ext (e9d.trans ee)) hA7 otv smv (by omega) (by omega) fun a8 Hf ef hA8 => ?_
          refine ⟨a8, _, rfl, hA8, unv otv smv, by omega, fun Hg eg => ?_⟩
          refine ⟨_, rfl, a4, _, rfl, hA4.ext (((e9d.trans ee).trans ef).trans eg), otv, by omega, fun Hh eh => ?_⟩
          refine ⟨_, _, rfl, rfl, by show 2 ≤ sizeLine; decide, fun r hr' => ?_⟩
          refine hq _ _ ((((((e09.trans e9d).trans ee).trans ef).trans eg).trans eh).trans (same_new hr')) ?_
          have hl : leastR (tabOf t) qs cols = (fewestM (canQ (qs.filter (fun q => decide (wt < wq (tabOf t) q)) ++ someM qs cols)) : Int) - fewestM (qs.filter (fun q => decide (wt < wq (tabOf t) q))) := by subst hwt; rfl
          have hm : mostR (tabOf t) qs cols = (fewestM (canQ ((qs.filter (fun q => decide (wt ≤ wq (tabOf t) q))).filter (fun q => !decide (q ∈ someM qs cols)) ++ someM qs cols)) : Int) - fewestM ((qs.filter (fun q => decide (wt ≤ wq (tabOf t) q))).filter (fun q => !decide (q ∈ someM qs cols))) := by subst hwt; rfl
          rw [hl, hm]
          exact SqT.of upd_same
end
end NkW
end
section
set_option Elab.async false
set_option linter.all false
set_option maxRecDepth 100000
set_option maxHeartbeats 4000000
/-! wholes.py: shelf_with -/
namespace NkW
open PySem PySem.Spec PyProof.Rows L2 NkO NkR NkS NkQ NkM
abbrev s_shelf_with : Stmt := top 60
abbrev N_shelf_with : List Str := ["asked", "columns", "many", "weights", "least", "most", "questions", "lot", "inside", "rows", "beside", "above", "low", "high", "heavy", "light", "match", "number", "question", "weight"]
theorem sc_shelf_with : FnScope N_shelf_with ["asked", "columns", "many", "weights"] (defScope s_shelf_with) := ⟨rfl, rfl, rfl, by decide +kernel, rfl, by decide +kernel, by decide +kernel⟩

def spShelfWith (K : PySem.W.Frag) (c : Ad) : Sp := fun vs H Q _ => ∃ p u w, ∃ qs : List NkQ.Q, ∃ cols : List Str, ∃ t : List (Str × Int), ∃ many : Int, vs = [.ref p, u, .int many, w] ∧ AskAt K c H p qs ∧ Dp K H u (encL cols) ∧ WtAt K c H w t ∧ WhQ qs cols t ∧
  (∀ H', Same H H' → ¬ (leastR (tabOf t) qs cols ≤ many ∧ many ≤ mostR (tabOf t) qs cols) → Q .non H') ∧
  ∀ a m H', Same H H' → leastR (tabOf t) qs cols ≤ many → many ≤ mostR (tabOf t) qs cols → matchM (tabOf t) qs cols many = some m → ShelfAt K c H' a (rowsOf qs m 98) → Q (.ref a) H'

theorem lay_ints (l : List Nat) : PyData.canLayAll0 (l.map fun (n : Nat) => PyData.int n) = true := by
  induction l with
  | nil => rfl
  | cons a l ih => simp [PyData.canLayAll0, PyData.canLay0, ih]
theorem depth_ints (l : List Nat) : PyData.depthAll (l.map fun (n : Nat) => PyData.int n) ≤ 1 := by
  induction l with
  | nil => simp [PyData.depthAll]
  | cons a l ih => simp [PyData.depthAll, PyData.depth]; omega
theorem shaped_Ns (l : List Nat) : SeqAt.shaped (encNs l) = true := by
  have := depth_ints l
  unfold SeqAt.shaped
  simp only [Bool.and_eq_true, decide_eq_true_eq]
  exact ⟨by simp [encNs, PyData.canLay0, lay_ints], by simp [encNs, PyData.depth]; omega⟩
theorem ord_facts {tab : Str → Int} {qs : List NkQ.Q} {cols : List Str} (hv : All qs) (hc : ∃ q ∈ qs, colsQ q = cols) : (orderM tab qs cols).Nodup ∧ ∀ x ∈ orderM tab qs cols, x < qs.length := by
  have F := ws_fall (tab := tab) (qs := qs)
  have F' := sOrd_fall (c := cI qs) F (cls_w (tab := tab) (qs := qs) (cols := cols))
  rw [order_eq hc]
  exact ⟨F'.nd, fun x hx => (F'.mem x).1 hx⟩
theorem start_facts {tab : Str → Int} (ht : ∀ x, 1 ≤ tab x) {qs : List NkQ.Q} {cols : List Str} (hv : All qs) (hn : qs.Nodup) (hc : ∃ q ∈ qs, colsQ q = cols) :
    (keysM (startM tab qs cols)).Nodup ∧ ∀ x ∈ keysM (startM tab qs cols), x < qs.length := by
  have N := netW ht hv hn
  obtain ⟨o1, o2⟩ := ord_facts (tab := tab) hv hc
  obtain ⟨M, G⟩ := matched_grd N.lt o1
  have ks : keysM (startM tab qs cols) = lows (matchedD (abQ qs) qs.length (orderM tab qs cols) []) := by unfold startM matchedM; rw [keys_swap]
  rw [ks]
  exact ⟨G.nd, Mt.low_lt N (abQ_none (qs := qs)) M⟩

section
variable {P : Program} {w : World} {K : PySem.W.Frag} {mg : Str → Option Value} {base : Heap} {c : Ad} {f : Addr} {fd : FuncData} (T : Tx K mg c)
include T
theorem ok_shelf_with {fi : Addr} {fdi : FuncData} (F : FnK K "shelf_with" "shelf_with" s_shelf_with f fd) (D_columns_of : Def P w K mg base "columns_of" 1 ["question"] (spColsOf K)) (D_whole_range : DefK P w K mg base "whole_range" "weights" 2 56 ["asked", "columns", "weights"] (spRange K c))
    (D_lot_of : Def P w K mg base "lot_of" 54 ["asked", "weights"] (spLotOf K c)) (D_pairs_of : Def P w K mg base "pairs_of" 3 ["questions"] (spPairsOf K)) (D_matched : Def P w K mg base "matched" 51 ["above", "order"] (spMatched K))
    (D_one_more : Def P w K mg base "one_more" 53 ["above", "match", "inside", "beside"] (spOne K)) (D_shelf_of : Def P w K mg base "shelf_of" 7 ["questions", "chains"] (spShelfOf K c)) (D_chained : Def P w K mg base "chained" 1 ["match", "many"] (spChained K))
    (M_Asked_questions : Own P w K mg base c.Asked "questions" 1 ["self"] (spAskQs K c)) (M_Lot_weights : Own P w K mg base c.Lot "weights" 1 ["self"] (spWts K c)) (M_Lot_heavy_first : Own P w K mg base c.Lot "heavy_first" 1 ["self"] (spHeavy K c)) :
    FnOk P w K mg base CX0 57 f fd ["asked", "columns", "many", "weights"] (spShelfWith K c) := by
  refine F.ok sc_shelf_with (fun vs H Q E h => ?_) (fun cdv A outer s H vs Q E hr h => ?_)
  · obtain ⟨p, u, w, qs, cols, t, many, rfl, _⟩ := h; rfl
  · obtain ⟨p, u, w, qs, cols, t, many, rfl, hA, hU, hW, Z, hq0, hq1⟩ := h
    refine ⟨_, PSs.nox (pss_cons (ps_asg (pe_defK D_whole_range (hr.mono (by first | decide | omega)) (pa_cons (pv 0) (pa_cons (pv 1) pa_nil)) (pk_cons (pv 3) pk_nil)) (k_gTup (K := K) (n := 2) rfl rfl (pgs_cons (pg_name (i := 4) sc_shelf_with.nd rfl (by first | exact Or.inl rfl | exact Or.inr rfl)) (pgs_cons (pg_name (i := 5) sc_shelf_with.nd rfl (by first | exact Or.inl rfl | exact Or.inr rfl)) pgs_nil))))
    (pss_cons (ps_if (pt_not (pt_chain op_le op_le (pv 4) (pv 2) (pv 5))) (pss_one (ps_ret pe_non)) pss_nil)
    (pss_cons (ps_par (i := 6) (j := 7) (by rfl) sc_shelf_with.nd rfl rfl (by decide) rfl rfl (pa_cons (pe_own0 M_Asked_questions (hr.mono (by first | decide | omega)) (pv 0)) (pa_cons (pe_def D_lot_of (hr.mono (by first | decide | omega)) (pa_cons (pv 0) (pa_cons (pv 3) pa_nil))) pa_nil)) (by rfl))
    (pss_cons (ps_set (i := 8) sc_shelf_with.nd rfl (by first | exact Or.inl rfl | exact Or.inr rfl) (pe_lc (own := [("number", 17), ("question", 18)]) rfl sc_shelf_with.nd (k_enum (K := K) rfl (by rfl) T.m_enumerate (pa_cons (pv 6) pa_nil)) (blkOk_by (own := [("number", 17), ("question", 18)]) (N := N_shelf_with) (by kernel_rfl)) (fun _ _ _ _ _ => (k_gTup (K := K) (n := 2) rfl rfl (pgs_cons (pg_name (i := 17) sc_shelf_with.nd rfl (by first | exact Or.inl rfl | exact Or.inr rfl)) (pgs_cons (pg_name (i := 18) sc_shelf_with.nd rfl (by first | exact Or.inl rfl | exact Or.inr rfl)) pgs_nil)))) (fun _ _ _ _ _ => (pts_one (pt_cmpR (k_eqD (K := K) rfl (hu64 hr)) (pe_def D_columns_of (hr.mono (by first | decide | omega)) (pa_cons (pv 18) pa_nil)) (pv 1) (nomark _)))) (fun _ _ _ _ _ => (pv 17))))
    (pss_cons (ps_if (pt_cmpR (k_eqD (K := K) rfl (hu64 hr)) (pv 8) (pe_lst pa_nil) (nomark _)) (pss_one ps_never) pss_nil)
    (pss_cons (ps_set (i := 9) sc_shelf_with.nd rfl (by first | exact Or.inl rfl | exact Or.inr rfl) (pe_own0 M_Lot_weights (hr.mono (by first | decide | omega)) (pv 7)))
    (pss_cons (ps_setLc (i := 10) (own := [("number", 17), ("weight", 19)]) rfl sc_shelf_with.nd rfl rfl (sw_true rfl rfl rfl (by decide +kernel)) (k_enum (K := K) rfl (by rfl) T.m_enumerate (pa_cons (pv 9) pa_nil)) (blkOk_by (own := [("number", 17), ("weight", 19)]) (N := N_shelf_with) (by kernel_rfl)) (fun _ _ _ _ _ => (k_gTup (K := K) (n := 2) rfl rfl (pgs_cons (pg_name (i := 17) sc_shelf_with.nd rfl (by first | exact Or.inl rfl | exact Or.inr rfl)) (pgs_cons (pg_name (i := 19) sc_shelf_with.nd rfl (by first | exact Or.inl rfl | exact Or.inr rfl)) pgs_nil)))) (fun _ _ _ _ _ => (pts_one (PW.pt (pw_and (pt_cmpR op_eq (pv 19) (pe_ix (k_ixL (K := K) rfl) (pv 9) (pe_ix (k_ixL (K := K) rfl) (pv 8) pe_int (fun _ _ => rfl)) (fun _ _ => rfl)) (nomark _)) (pw_and1 (pt_cmpR (k_notIn (K := K) rfl) (pv 17) (pv 8) rfl)))))) (fun _ _ _ _ _ => (pv 17)))
    (pss_cons (ps_setLc (i := 11) (own := [("question", 18)]) rfl sc_shelf_with.nd rfl rfl (sw_true rfl rfl rfl (by decide +kernel)) (k_piL (K := K) rfl (pv 6)) (blkOk_by (own := [("question", 18)]) (N := N_shelf_with) (by kernel_rfl)) (fun _ _ _ _ _ => (pg_name (i := 18) sc_shelf_with.nd rfl (by first | exact Or.inl rfl | exact Or.inr rfl))) (fun _ _ _ _ _ => pts_nil) (fun _ _ _ _ _ => (pe_lst pa_nil)))
    (pss_cons (ps_for PassesOwn.never rfl (k_piL (K := K) rfl (pe_def D_pairs_of (hr.mono (by first | decide | omega)) (pa_cons (pv 6) pa_nil))) (k_gTup (K := K) (n := 2) rfl rfl (pgs_cons (pg_name (i := 12) sc_shelf_with.nd rfl (by first | exact Or.inl rfl | exact Or.inr rfl)) (pgs_cons (pg_name (i := 13) sc_shelf_with.nd rfl (by first | exact Or.inl rfl | exact Or.inr rfl)) pgs_nil)))
    (pss_one (ps_expr (pe_bm PySem.F.plainAttrs_list PySem.F.slot_list_append PySem.F.type_list_append mt_append (pe_ix (k_ixL (K := K) rfl) (pv 11) (pv 12) (fun _ _ => rfl)) (pa_cons (pv 13) pa_nil)))))
    (pss_cons (ps_setLc (i := 14) (own := [("number", 17)]) rfl sc_shelf_with.nd rfl rfl (sw_true rfl rfl rfl (by decide +kernel)) (k_piL (K := K) rfl (pe_own0 M_Lot_heavy_first (hr.mono (by first | decide | omega)) (pv 7))) (blkOk_by (own := [("number", 17)]) (N := N_shelf_with) (by kernel_rfl)) (fun _ _ _ _ _ => (pg_name (i := 17) sc_shelf_with.nd rfl (by first | exact Or.inl rfl | exact Or.inr rfl))) (fun _ _ _ _ _ => (pts_one (PW.pt (pw_and (pt_cmpR (k_notIn (K := K) rfl) (pv 17) (pv 8) rfl) (pw_and1 (pt_cmpR op_ge (pe_ix (k_ixL (K := K) rfl) (pv 9) (pv 17) (fun _ _ => rfl)) (pe_ix (k_ixL (K := K) rfl) (pv 9) (pe_ix (k_ixL (K := K) rfl) (pv 8) pe_int (fun _ _ => rfl)) (fun _ _ => rfl)) (nomark _))))))) (fun _ _ _ _ _ => (pv 17)))
    (pss_cons (ps_setLc (i := 15) (own := [("number", 17)]) rfl sc_shelf_with.nd rfl rfl (sw_true rfl rfl rfl (by decide +kernel)) (k_piL (K := K) rfl (pe_own0 M_Lot_heavy_first (hr.mono (by first | decide | omega)) (pv 7))) (blkOk_by (own := [("number", 17)]) (N := N_shelf_with) (by kernel_rfl)) (fun _ _ _ _ _ => (pg_name (i := 17) sc_shelf_with.nd rfl (by first | exact Or.inl rfl | exact Or.inr rfl))) (fun _ _ _ _ _ => (pts_one (pt_cmpR op_lt (pe_ix (k_ixL (K := K) rfl) (pv 9) (pv 17) (fun _ _ => rfl)) (pe_ix (k_ixL (K := K) rfl) (pv 9) (pe_ix (k_ixL (K := K) rfl) (pv 8) pe_int (fun _ _ => rfl)) (fun _ _ => rfl)) (nomark _)))) (fun _ _ _ _ _ => (pv 17)))
    (pss_cons (ps_set (i := 16) sc_shelf_with.nd rfl (by first | exact Or.inl rfl | exact Or.inr rfl) (pe_def D_matched (hr.mono (by first | decide | omega)) (pa_cons (pv 11) (pa_cons (pe_op op_cat (pe_op op_cat (pv 14) (pv 8)) (pv 15)) pa_nil))))
    (pss_cons (ps_while PassesOwn.never (PW.pt (pw_and (pt_cmpR op_notN (pv 16) pe_non (nomark _)) (pw_and1 (pt_cmpR op_gt (pe_callB (k_len (K := K) rfl) (by rfl) T.m_len (by decide +kernel) (pa_cons (pe_lc (own := [("number", 17)]) rfl sc_shelf_with.nd (k_piL (K := K) rfl (pv 8)) (blkOk_by (own := [("number", 17)]) (N := N_shelf_with) (by kernel_rfl)) (fun _ _ _ _ _ => (pg_name (i := 17) sc_shelf_with.nd rfl (by first | exact Or.inl rfl | exact Or.inr rfl))) (fun _ _ _ _ _ => (pts_one (pt_cmp (pc_dnotin (hu_of hr) (pv 17) (pv 16))))) (fun _ _ _ _ _ => (pv 17))) pa_nil)) (pv 2) (nomark _))))) (pss_one (ps_set (i := 16) sc_shelf_with.nd rfl (by first | exact Or.inl rfl | exact Or.inr rfl) (pe_def D_one_more (hr.mono (by first | decide | omega)) (pa_cons (pv 11) (pa_cons (pv 16) (pa_cons (pv 8) (pa_cons (pv 10) pa_nil))))))))
    (pss_one (ps_ret (pe_def D_shelf_of (hr.mono (by first | decide | omega)) (pa_cons (pv 6) (pa_cons (pe_def D_chained (hr.mono (by first | decide | omega)) (pa_cons (pv 16) (pa_cons (pe_callB (k_len (K := K) rfl) (by rfl) T.m_len (by decide +kernel) (pa_cons (pv 6) pa_nil)) pa_nil))) pa_nil)))))))))))))))))), ?_⟩
    obtain ⟨dx, ta, vs0, hp, hta, hvs0⟩ := id hA
    have h9 := Z.len
    have ht1 : ∀ x, 1 ≤ tabOf t x := fun x => (tab_pos Z.tok x).1
    have hall : All qs := fun q hq => (Z.v q hq).v
    refine ⟨_, rfl, _, rfl, _, rfl, rfl, rfl, p, u, w, qs, cols, t, rfl, hA, hU, hW, Z, fun Ta Ha ea hTa => ?_⟩
    refine ⟨Ta, _, rfl, hTa, rfl, _, _, rfl, _, _, rfl, rfl, ?_⟩
    refine ⟨_, rfl, _, rfl, _, _, rfl, rfl, _, rfl, ?_⟩
    by_cases c1 : leastR (tabOf t) qs cols ≤ many
    case neg =>
      refine iF (by simp [c1]) ⟨_, rfl, iT rfl ?_⟩
      exact hq0 _ ea (fun z => c1 z.1)
    refine iT (by simp [c1]) ⟨_, rfl, _, _, rfl, rfl, _, rfl, ?_⟩
    by_cases c2 : many ≤ mostR (tabOf t) qs cols
    case neg =>
      refine iT (by simp [c2]) ?_
      exact hq0 _ ea (fun z => c2 z.2)
    refine iF (by simp [c2]) ?_
    obtain ⟨mF, eF, mtF, ndF, cntF, sumF⟩ := match_done ht1 hall Z.can.nd Z.hc (by rw [← leastR_eq hall Z.can.nd Z.hc]; exact c1) (by rw [← mostR_eq hall Z.can.nd Z.hc]; exact c2)
    -- questions, lot
    refine ⟨_, rfl, p, dx, _, rfl, ea _ _ hp, look_no _ _ (by decide +kernel), p, qs, rfl, hA.ext ea, fun v' H1 e1 d1 => ?_⟩
    have e01 := ea.trans e1
    refine ⟨_, rfl, _, rfl, p, w, qs, t, rfl, hA.ext e01, Z.v, h9, hW.ext e01, Z.tok, fun la H2 e2 hL => ?_⟩
    refine ⟨_, _, rfl, ?_⟩
    have e02 := e01.trans e2
    obtain ⟨qa, qv, rfl, hqa, hqd⟩ := dpQs (dp_ext e2 d1.dp)
    have lqv : qv.length = qs.length := by have := dpAll_len hqd; simpa using this
    -- inside
    refine ⟨_, rfl, qa, qv, rfl, hqa, fun D1 hD1 => lcG (K := K) (src_enum hqa) (Same.refl _) hD1 (List.range qs.length) (by rw [List.length_range, lqv]) (by rw [lqv]; exact small1000 (by omega)) (fun i => decide (colsQ (atQ qs i) = cols)) (fun (i : Nat) => PyData.int i) ?_ ?_⟩
    · rintro i k x H3 R hi e3 ⟨y, hy, Tb, rfl, hTb⟩ hyes hno
      obtain ⟨d, k1, k2⟩ := dpAll_get hqd hy
      have hiq : i < qs.length := by have := (List.getElem?_eq_some_iff.1 hy).1; omega
      rw [List.getElem?_range hiq] at hi
      cases hi
      rw [List.getElem?_map, List.getElem?_eq_getElem hiq, ← at_get hiq] at k1
      cases k1
      have vq := Z.v _ (atQ_mem hiq)
      refine ⟨Tb, _, rfl, hTb, rfl, _, _, rfl, _, _, rfl, rfl, rfl, _, rfl, y, atQ qs i, rfl, dp_ext e3 k2, vq, fun v'' H4 e4 d4 => ⟨_, rfl, encL (colsQ (atQ qs i)), encL cols, d4, dp_ext ((e02.trans e3).trans e4) hU, shaped_L vq.cols.1, shaped_L Z.cok, _, rfl, ?_⟩⟩
      rw [eqv_L]
      by_cases z : colsQ (atQ qs i) = cols
      · exact iT (by simp [z]) ⟨_, rfl, hyes _ _ (by simp [z]) e4 (.int _)⟩
      · exact iF (by simp [z]) (hno _ (by simp [z]) e4)
    intro H3 e3 d3
    have hins : (List.range qs.length).filter (fun i => decide (colsQ (atQ qs i) = cols)) = insideM qs cols := rfl
    rw [hins] at d3
    clear hins
    have hI : H3 D1 = some (.lst ((insideM qs cols).map fun (n : Nat) => V.int n)) := by
      cases d3 with | lst a1 a2 a3 => rw [dpAll_nats a3.dp] at a2; exact a2
    clear d3 hD1
    have ilt : ∀ x ∈ insideM qs cols, x < qs.length := fun x hx => (mem_inside.1 hx).1
    have ilen : (insideM qs cols).length ≤ qs.length := by
      have := List.length_filter_le (fun i => decide (colsQ (atQ qs i) = cols)) (List.range qs.length)
      rw [List.length_range] at this; exact this
    have ine : insideM qs cols ≠ [] := by
      obtain ⟨q, h1, h2⟩ := Z.hc
      obtain ⟨i, hi, e⟩ := mem_at h1
      intro z
      have : i ∈ insideM qs cols := mem_inside.2 ⟨hi, by rw [e]; exact h2⟩
      rw [z] at this; cases this
    have hI0 : atI ((insideM qs cols).map fun (n : Nat) => V.int n) 0 = some (V.int ((insideM qs cols).headD 0 : Nat)) := by
      cases hz : insideM qs cols with
      | nil => exact absurd hz ine
      | cons a l => exact atI_nat (j := 0) rfl
    have ihd : (insideM qs cols).headD 0 < qs.length := by
      cases hz : insideM qs cols with
      | nil => exact absurd hz ine
      | cons a l => exact ilt a (by rw [hz]; simp)
    refine ⟨_, rfl, Nat.zero_le _, fun E1 hE1 => ⟨encNs (insideM qs cols), .list [], .lst (SqL.of ((same_new hE1) _ _ hI)) (mk_nats _), .lst (SqL.of upd_same) .nil, shaped_Ns _, by decide, _, rfl, iF (by cases hz : insideM qs cols with
        | nil => exact absurd hz ine
        | cons a l => simp [encNs, PyData.eqv, PyData.eqvAll]) ?_⟩⟩
    have e3' := e3.trans (same_new (o := HO.lst []) hE1)
    have hI := (same_new (o := HO.lst []) hE1) _ _ hI
    generalize upd H3 E1 (HO.lst []) = H4 at e3' hI
    clear hE1 e3
    -- rows
    obtain ⟨dxl, lt, ltp, lta, ltm, hl1, hl2, hl3⟩ := id (hL.ext e3')
    refine ⟨_, rfl, la, dxl, _, rfl, hl1, lf_no _ _ _ _ (by decide +kernel) (by decide +kernel) (by decide +kernel) (by decide +kernel), la, _, _, _, rfl, hL.ext e3', fun v5 H5 e5 d5 => ?_⟩
    have e25 := e3'.trans e5
    obtain ⟨ra, rfl, hR⟩ : ∃ a, v5 = .ref a ∧ SqL K H5 a ((wsM (tabOf t) qs).map V.int) := by
      cases d5 with | lst a1 a2 a3 => rw [dpAll_toInts a3.dp] at a2; exact ⟨_, rfl, SqL.of a2⟩
    clear d5
    have hI := e5 _ _ hI
    have wlen : (wsM (tabOf t) qs).length = qs.length := ws_len _ _
    have hRa : ∀ i, i < qs.length → atI ((wsM (tabOf t) qs).map V.int) (i : Int) = some (V.int (wI (wsM (tabOf t) qs) i)) := fun i hi => atI_nat (by rw [List.getElem?_map, List.getElem?_eq_getElem (by omega)]; unfold wI; rw [getD_get (by omega)]; rfl)
    have hlv : wI (wsM (tabOf t) qs) ((insideM qs cols).headD 0) = lvlM (tabOf t) qs cols := rfl
    -- beside
    refine ⟨_, rfl, ra, _, rfl, hR, fun D2 hD2 => lcG (K := K) (src_enum hR) (Same.refl _) hD2 (List.range qs.length) (by rw [List.length_range, List.length_map, wlen]) (by rw [List.length_map, wlen]; exact small1000 (by omega)) (fun i => decide (wI (wsM (tabOf t) qs) i = lvlM (tabOf t) qs cols) && !decide (i ∈ insideM qs cols)) (fun (i : Nat) => PyData.int i) ?_ ?_⟩
    · rintro i k x H6 R hi e6 ⟨y, hy, Tb, rfl, hTb⟩ hyes hno
      have hiq : i < qs.length := by have := (List.getElem?_eq_some_iff.1 hy).1; rw [List.length_map] at this; omega
      rw [List.getElem?_range hiq] at hi
      cases hi
      rw [List.getElem?_map, List.getElem?_eq_getElem (by omega)] at hy
      cases hy
      have hwi : (wsM (tabOf t) qs)[i] = wI (wsM (tabOf t) qs) i := by unfold wI; rw [getD_get (by omega)]
      rw [hwi] at hTb
      refine ⟨Tb, _, rfl, hTb, rfl, _, _, rfl, _, _, rfl, rfl, rfl, ?_⟩
      refine ⟨_, rfl, _, rfl, _, rfl, D1, _, _, _, rfl, rfl, SqL.of (e6 _ _ hI), hI0, ra, _, _, _, rfl, rfl, sqL_ext e6 hR, hRa _ ihd, rfl, _, rfl, ?_⟩
      rw [hlv]
      by_cases z1 : wI (wsM (tabOf t) qs) i = lvlM (tabOf t) qs cols
      · refine iT (by simp [z1]) ⟨_, rfl, _, rfl, D1, _, rfl, .inl (SqL.of (e6 _ _ hI)), rfl, by simp [flatV], _, rfl, ?_⟩
        rw [inV_nats]
        by_cases z2 : i ∈ insideM qs cols
        · exact iF (by simp [z2]) (hno _ (by simp [z2]) (Same.refl _))
        · exact iT (by simp [z2]) ⟨_, rfl, hyes _ _ (by simp [z1, z2]) (Same.refl _) (.int _)⟩
      · refine iF (by simp [z1]) ?_
        exact iF rfl (hno _ (by simp [z1]) (Same.refl _))
    intro H6 e6 d6
    have hbes : (List.range qs.length).filter (fun i => decide (wI (wsM (tabOf t) qs) i = lvlM (tabOf t) qs cols) && !decide (i ∈ insideM qs cols)) = besideM (tabOf t) qs cols := rfl
    rw [hbes] at d6
    clear hbes
    have hB : H6 D2 = some (.lst ((besideM (tabOf t) qs cols).map fun (n : Nat) => V.int n)) := by
      cases d6 with | lst a1 a2 a3 => rw [dpAll_nats a3.dp] at a2; exact a2
    clear d6 hD2
    have blen : (besideM (tabOf t) qs cols).length ≤ qs.length := by
      have := List.length_filter_le (fun i => decide (wI (wsM (tabOf t) qs) i = lvlM (tabOf t) qs cols) && !decide (i ∈ insideM qs cols)) (List.range qs.length)
      rw [List.length_range] at this; exact this
    have hI := e6 _ _ hI
    have hR := sqL_ext e6 hR
    have e26 := e25.trans e6
    -- above
    have hqa6 := sqL_ext e26 hqa
    have hL6 := hL.ext e26
    have hqd6 := dpAll_ext e26 hqd
    have e06 := e02.trans e26
    refine ⟨_, rfl, qa, rfl, ⟨_, hqa6⟩, fun D hD => lcE (src_list hqa6) (Same.refl _) hD (by rw [lqv]; exact small1000 (by omega)) (fun i x H2 R _ _ _ h => h _ rfl) ?_⟩
    intro H8 as e8 hD8 ndas hDas las has
    rw [lqv] at las
    have ncs : ∀ D ∈ as, ∃ o, H8 D = some o ∧ Chg o := fun a ha => ⟨_, (has a ha).2, chg_lst _⟩
    have hDb : wo as H8 D = some (.lst (as.map V.ref)) := by rw [wo_at hDas]; exact hD8
    have e6b : Same H6 (wo as H8) := fun b o hb => by
      rw [wo_at (fun z => by have := (has b z).1; rw [hb] at this; cases this)]
      exact e8 b o hb
    refine ⟨_, rfl, _, qs, rfl, .lst (sqL_ext e8 hqa6) (dpAll_ext e8 hqd6), Z.v, by omega, fun v9 H9 e9 d9 => ?_⟩
    obtain ⟨pa, pv, rfl, hpv, dpv⟩ : ∃ a vs, v9 = .ref a ∧ H9 a = some (.lst vs) ∧ DfAll K H8 H9 vs ((pairsM (abQ qs) qs.length).map encPr) ∧ H8 a = Option.none := by
      cases d9 with | lst a1 a2 a3 => exact ⟨_, _, rfl, a2, a3, a1⟩
    obtain ⟨dpv, hpn⟩ := dpv
    have npa : pa ∉ as := fun z => by rw [(has pa z).2] at hpn; cases hpn
    have ncs9 : ∀ D ∈ as, ∃ o, H9 D = some o ∧ Chg o := fun a ha => ⟨_, e9 _ _ (has a ha).2, chg_lst _⟩
    have hpvb : (wo as H9) pa = some (.lst pv) := by rw [wo_at npa]; exact hpv
    have hDb : wo as H9 D = some (.lst (as.map V.ref)) := by rw [wo_at hDas]; exact e9 _ _ hD8
    have dvb := wo_dpAll (Ds := as) ncs9 (fun x _ => rfl) dpv.dp
    have e6b : Same H6 (wo as H9) := fun b o hb => by
      rw [wo_at (fun z => by have := (has b z).1; rw [hb] at this; cases this)]
      exact e9 _ _ (e8 b o hb)
    have lpv : pv.length = (pairsM (abQ qs) qs.length).length := by have := dpAll_len dvb; simpa using this
    have p64 := pairs_few Z.v h9
    have AB := abQ_ok ht1 Z.v
    refine ⟨pa, rfl, ⟨_, SqL.of hpv⟩, forG (H0 := wo as H9) (src_list (SqL.of hpvb)) (fun i σ H' => ∃ o12 o13, σ = [some (.ref p), some u, some (.int many), some w, some (.int (leastR (tabOf t) qs cols)), some (.int (mostR (tabOf t) qs cols)), some (.ref qa), some (.ref la), some (.ref D1), some (.ref ra), some (.ref D2), some (.ref D), o12, o13, Option.none, Option.none, Option.none, Option.none, Option.none, Option.none] ∧
      Same (wo as H9) H' ∧ RowsAt H' as ((pairsM (abQ qs) qs.length).take i)) ?_ ?_ ?_ ?_⟩
    · exact ⟨_, _, rfl, wo_same, fun j a ha => by rw [List.take_zero]; exact e9 _ _ (has a (List.mem_of_getElem? ha)).2⟩
    · rintro i σ H' ⟨_, _, _, e, _⟩; exact e
    · rintro i x σ Hx Hy hi ⟨o12, o13, rfl, ex, hRw⟩ ey hx
      have hip : i < (pairsM (abQ qs) qs.length).length := by omega
      obtain ⟨d, k1, k2⟩ := dpAll_get dvb hx
      rw [List.getElem?_map, List.getElem?_eq_getElem hip] at k1
      cases k1
      have hm := mem_pairs.1 (List.getElem_mem hip)
      have htk : (pairsM (abQ qs) qs.length).take (i + 1) = (pairsM (abQ qs) qs.length).take i ++ [(pairsM (abQ qs) qs.length)[i]] := by rw [List.take_add_one, List.getElem?_eq_getElem hip]; rfl
      generalize (pairsM (abQ qs) qs.length)[i] = pr at *
      obtain ⟨lo, hh⟩ := pr
      simp only at hm
      obtain ⟨Tc, rfl, hT⟩ := dpPr (dp_ext (ex.trans ey) k2)
      have hlo : lo < as.length := by omega
      have hal : as[lo]? = some as[lo] := List.getElem?_eq_getElem hlo
      have hRb := hRw.ext ey
      have hrow := hRb lo _ hal
      refine ⟨Tc, _, rfl, hT, rfl, _, _, rfl, _, _, rfl, rfl, ?_⟩
      have hatl : atI (as.map V.ref) (lo : Int) = some (V.ref as[lo]) := atI_nat (by rw [List.getElem?_map, hal]; rfl)
      have e2b := ex.trans ey
      have lrow : (rowP ((pairsM (abQ qs) qs.length).take i) lo).length < 1000 := by
        unfold rowP
        rw [List.length_map]
        have h1 := List.length_filter_le (fun p : Nat × Nat => decide (p.1 = lo)) ((pairsM (abQ qs) qs.length).take i)
        have h2 : ((pairsM (abQ qs) qs.length).take i).length ≤ (pairsM (abQ qs) qs.length).length := by rw [List.length_take]; omega
        omega
      refine ⟨_, rfl, _, rfl, D, _, _, _, rfl, rfl, SqL.of (e2b _ _ hDb), hatl, .inl ⟨rfl, _, SqL.of hrow⟩, _, rfl, as[lo], _, _, rfl, rfl, hrow, small1000 (by rw [List.length_map]; omega), ?_⟩
      refine ⟨_, _, rfl, same_upd_wo (List.getElem_mem hlo) e2b, ?_⟩
      rw [htk]
      exact hRb.step ndas hal
    rintro σ Hz ⟨o12, o13, rfl, ez, hRw⟩
    rw [lpv, List.take_length] at hRw
    have drow : Dp K Hz (.ref D) (rowsAb (abQ qs) qs.length) := hRw.dp las (SqL.of (ez _ _ hDb))
    have e6z := e6b.trans ez
    clear hRw hDb ez e6b dvb hpvb ncs9 npa dpv hpn hpv e9 ncs has hDas ndas hD8 e8
    have hI := e6z _ _ hI
    have hB := e6z _ _ hB
    have hR := sqL_ext e6z hR
    have hL := hL6.ext e6z
    have e0z := e06.trans e6z
    have hqa := sqL_ext e6z hqa6
    have hqd := dpAll_ext e6z hqd6
    clear hL6 hqa6 hqd6 e6z hl1 hl2 hl3
    obtain ⟨dxm, mt, mtp, mta, mtm, hl1, hl2, hl3⟩ := id hL
    -- heavy
    refine ⟨_, rfl, la, dxm, _, rfl, hl1, lf_no _ _ _ _ (by decide +kernel) (by decide +kernel) (by decide +kernel) (by decide +kernel), la, dxm, mt, _, wsM (tabOf t) qs, rfl, hl1, lf_1 _ _ _ _, hl2, by omega, fun w1 Hc ec dc => ?_⟩
    obtain ⟨ha, rfl, hha⟩ := dpNs dc.dp
    clear dc
    have hfl : (hfM (wsM (tabOf t) qs)).length = qs.length := by unfold hfM; rw [List.length_map, (srt_perm _ _).length_eq]; simp [rowsM, wlen]
    have hfx : ∀ x ∈ hfM (wsM (tabOf t) qs), x < qs.length := fun x hx => by have := ((hf_fall (wsM (tabOf t) qs)).mem x).1 hx; omega
    have hI := ec _ _ hI
    have hR := sqL_ext ec hR
    refine ⟨ha, rfl, ⟨_, hha⟩, fun D3 hD3 => lcG (K := K) (src_list hha) (Same.refl _) hD3 (hfM (wsM (tabOf t) qs)) (by rw [List.length_map]) (by rw [List.length_map]; exact small1000 (by omega)) (fun i => !decide (i ∈ insideM qs cols) && decide (lvlM (tabOf t) qs cols ≤ wI (wsM (tabOf t) qs) i)) (fun (i : Nat) => PyData.int i) ?_ ?_⟩
    · rintro i k x H3 R hi e3 hx hyes hno
      rw [List.getElem?_map, hi] at hx
      cases hx
      have hkq := hfx k (List.mem_of_getElem? hi)
      refine ⟨rfl, _, rfl, _, rfl, D1, _, rfl, .inl (SqL.of (e3 _ _ hI)), rfl, by simp [flatV], _, rfl, ?_⟩
      rw [inV_nats]
      by_cases z2 : k ∈ insideM qs cols
      · refine iF (by simp [z2]) ?_
        exact iF rfl (hno _ (by simp [z2]) (Same.refl _))
      · refine iT (by simp [z2]) ⟨_, rfl, _, rfl, ra, _, _, _, rfl, rfl, sqL_ext e3 hR, hRa _ hkq, _, rfl, _, rfl, D1, _, _, _, rfl, rfl, SqL.of (e3 _ _ hI), hI0, ra, _, _, _, rfl, rfl, sqL_ext e3 hR, hRa _ ihd, _, _, rfl, rfl, _, rfl, ?_⟩
        rw [hlv]
        by_cases z1 : lvlM (tabOf t) qs cols ≤ wI (wsM (tabOf t) qs) k
        · exact iT (by simp [z1]) ⟨_, rfl, hyes _ _ (by simp [z1, z2]) (Same.refl _) (.int _)⟩
        · exact iF (by simp [z1]) (hno _ (by simp [z1]) (Same.refl _))
    intro Hd ed dd
    have hhv : (hfM (wsM (tabOf t) qs)).filter (fun i => !decide (i ∈ insideM qs cols) && decide (lvlM (tabOf t) qs cols ≤ wI (wsM (tabOf t) qs) i)) = heavyM (tabOf t) qs cols := rfl
    rw [hhv] at dd
    clear hhv
    have hV : Hd D3 = some (.lst ((heavyM (tabOf t) qs cols).map fun (n : Nat) => V.int n)) := by
      cases dd with | lst a1 a2 a3 => rw [dpAll_nats a3.dp] at a2; exact a2
    clear dd hD3
    have hvl : (heavyM (tabOf t) qs cols).length ≤ qs.length := by rw [← hfl]; exact List.length_filter_le _ _
    have hI := ed _ _ hI
    have hR := sqL_ext ed hR
    have ezd := ec.trans ed
    -- light
    refine ⟨_, rfl, la, dxm, _, rfl, ezd _ _ hl1, lf_no _ _ _ _ (by decide +kernel) (by decide +kernel) (by decide +kernel) (by decide +kernel), la, dxm, mt, _, wsM (tabOf t) qs, rfl, ezd _ _ hl1, lf_1 _ _ _ _, sqT_ext ezd hl2, by omega, fun w2 He ee de => ?_⟩
    obtain ⟨hb, rfl, hhb⟩ := dpNs de.dp
    clear de
    have hI := ee _ _ hI
    have hR := sqL_ext ee hR
    refine ⟨hb, rfl, ⟨_, hhb⟩, fun D4 hD4 => lcG (K := K) (src_list hhb) (Same.refl _) hD4 (hfM (wsM (tabOf t) qs)) (by rw [List.length_map]) (by rw [List.length_map]; exact small1000 (by omega)) (fun i => decide (wI (wsM (tabOf t) qs) i < lvlM (tabOf t) qs cols)) (fun (i : Nat) => PyData.int i) ?_ ?_⟩
    · rintro i k x H3 R hi e3 hx hyes hno
      rw [List.getElem?_map, hi] at hx
      cases hx
      have hkq := hfx k (List.mem_of_getElem? hi)
      refine ⟨rfl, _, rfl, _, rfl, ra, _, _, _, rfl, rfl, sqL_ext e3 hR, hRa _ hkq, _, rfl, _, rfl, D1, _, _, _, rfl, rfl, SqL.of (e3 _ _ hI), hI0, ra, _, _, _, rfl, rfl, sqL_ext e3 hR, hRa _ ihd, _, _, rfl, rfl, _, rfl, ?_⟩
      rw [hlv]
      by_cases z1 : wI (wsM (tabOf t) qs) k < lvlM (tabOf t) qs cols
      · exact iT (by simp [z1]) ⟨_, rfl, hyes _ _ (by simp [z1]) (Same.refl _) (.int _)⟩
      · exact iF (by simp [z1]) (hno _ (by simp [z1]) (Same.refl _))
    intro Hf ef df
    have hli : (hfM (wsM (tabOf t) qs)).filter (fun i => decide (wI (wsM (tabOf t) qs) i < lvlM (tabOf t) qs cols)) = lightM (tabOf t) qs cols := rfl
    rw [hli] at df
    clear hli
    have hG : Hf D4 = some (.lst ((lightM (tabOf t) qs cols).map fun (n : Nat) => V.int n)) := by
      cases df with | lst a1 a2 a3 => rw [dpAll_nats a3.dp] at a2; exact a2
    clear df hD4
    have lil : (lightM (tabOf t) qs cols).length ≤ qs.length := by rw [← hfl]; exact List.length_filter_le _ _
    have edf := ee.trans ef
    have ezf := ezd.trans edf
    have hI := ef _ _ hI
    have hV := edf _ _ hV
    -- the match
    refine ⟨_, rfl, _, rfl, _, rfl, D3, D1, _, _, rfl, rfl, hV, hI, by simp only [List.length_map]; exact Nat.le_of_lt (small1000 (by omega)), fun l1 hl1n => ?_⟩
    have eg := same_new (o := HO.lst (((heavyM (tabOf t) qs cols).map fun (n : Nat) => V.int n) ++ ((insideM qs cols).map fun (n : Nat) => V.int n))) hl1n
    refine ⟨_, rfl, l1, D4, _, _, rfl, rfl, upd_same, eg _ _ hG, by simp only [List.length_map, List.length_append]; exact Nat.le_of_lt (small1000 (by omega)), fun l2 hl2n => ?_⟩
    have eh := same_new (o := HO.lst ((((heavyM (tabOf t) qs cols).map fun (n : Nat) => V.int n) ++ ((insideM qs cols).map fun (n : Nat) => V.int n)) ++ ((lightM (tabOf t) qs cols).map fun (n : Nat) => V.int n))) hl2n
    have hO : (upd (upd Hf l1 (HO.lst (((heavyM (tabOf t) qs cols).map fun (n : Nat) => V.int n) ++ ((insideM qs cols).map fun (n : Nat) => V.int n)))) l2 (HO.lst ((((heavyM (tabOf t) qs cols).map fun (n : Nat) => V.int n) ++ ((insideM qs cols).map fun (n : Nat) => V.int n)) ++ ((lightM (tabOf t) qs cols).map fun (n : Nat) => V.int n)))) l2 = some (.lst ((orderM (tabOf t) qs cols).map fun (n : Nat) => V.int n)) := by
      rw [upd_same]; unfold orderM; simp
    have efh := eg.trans eh
    generalize upd (upd Hf l1 (HO.lst (((heavyM (tabOf t) qs cols).map fun (n : Nat) => V.int n) ++ ((insideM qs cols).map fun (n : Nat) => V.int n)))) l2 (HO.lst ((((heavyM (tabOf t) qs cols).map fun (n : Nat) => V.int n) ++ ((insideM qs cols).map fun (n : Nat) => V.int n)) ++ ((lightM (tabOf t) qs cols).map fun (n : Nat) => V.int n))) = Hg at efh hO
    clear eg eh hl1n hl2n
    have ezg := ezf.trans efh
    obtain ⟨ond, olt⟩ := ord_facts (tab := tabOf t) hall Z.hc
    obtain ⟨snd, slt⟩ := start_facts ht1 hall Z.can.nd Z.hc
    refine ⟨_, _, abQ qs, qs.length, orderM (tabOf t) qs cols, rfl, dp_ext ezg drow, .lst (SqL.of hO) (mk_nats _), AB.lt, ond, olt, by omega, fun dm Hh eh ndm hdm => ?_⟩
    have ezh := ezg.trans eh
    have hI := (efh.trans eh) _ _ hI
    have hB := ezh _ _ hB
    have drow := dp_ext ezh drow
    have hqa := sqL_ext ezh hqa
    have hqd := dpAll_ext ezh hqd
    have e0h := e0z.trans ezh
    have hst : matchedM (abQ qs) qs.length (orderM (tabOf t) qs cols) = startM (tabOf t) qs cols := rfl
    rw [hst] at hdm
    -- the loop
    refine ⟨fun g σ H' => ∃ da m o17, σ = [some (.ref p), some u, some (.int many), some w, some (.int (leastR (tabOf t) qs cols)), some (.int (mostR (tabOf t) qs cols)), some (.ref qa), some (.ref la), some (.ref D1), some (.ref ra), some (.ref D2), some (.ref D), o12, o13, some (.ref D3), some (.ref D4), some (.ref da), o17, Option.none, Option.none] ∧
      Same Hh H' ∧ H' da = some (.dK (dk m)) ∧ loopM (abQ qs) qs.length (insideM qs cols) (besideM (tabOf t) qs cols) many g m = some mF ∧ (keysM m).Nodup ∧ (∀ x ∈ keysM m, x < qs.length), ⟨_, dm, _, _, rfl, Same.refl _, hdm, eF, snd, slt⟩, ?_⟩
    rintro g σ Hi ⟨da, m, o17, rfl, ei, hda, hlo, mnd, mlt⟩
    refine ⟨_, rfl, rfl, _, rfl, iT (by simp) ?_⟩
    have key : ∀ (x : Nat), (valV (dk m) (Sum.inl (x : Int))).isSome = decide (x ∈ keysM m) := fun x => by rw [dk_get, Option.isSome_map]; exact get_some m x
    refine ⟨_, rfl, D1, rfl, ⟨_, SqL.of (ei _ _ hI)⟩, fun D5 hD5 => lcG (K := K) (src_list (SqL.of (ei _ _ hI))) (Same.refl _) hD5 (insideM qs cols) (by rw [List.length_map]) (by rw [List.length_map]; exact small1000 (by omega)) (out (keysM m)) (fun (i : Nat) => PyData.int i) ?_ ?_⟩
    · rintro i k x H3 R hi e3 hx hyes hno
      rw [List.getElem?_map, hi] at hx
      cases hx
      refine ⟨rfl, _, rfl, _, rfl, da, _, rfl, DGet.k (k := Sum.inl (k : Int)) (e3 _ _ hda), _, rfl, ?_⟩
      rw [key]
      by_cases z : k ∈ keysM m
      · exact iF (by simp [z]) (hno _ (by simp [out, z]) (Same.refl _))
      · exact iT (by simp [z]) ⟨_, rfl, hyes _ _ (by simp [out, z]) (Same.refl _) (.int _)⟩
    intro Hj ej dj
    have hJ : Hj D5 = some (.lst (((insideM qs cols).filter (out (keysM m))).map fun (n : Nat) => V.int n)) := by
      cases dj with | lst a1 a2 a3 => rw [dpAll_nats a3.dp] at a2; exact a2
    clear dj hD5
    refine ⟨D5, _, rfl, .inl (SqL.of hJ), _, rfl, _, _, rfl, rfl, _, rfl, ?_⟩
    rw [List.length_map]
    have eij := ei.trans ej
    by_cases hlt : many < (((insideM qs cols).filter (out (keysM m))).length : Int)
    · refine iT (by simp [hlt]) ?_
      cases g with
      | zero =>
        have : m = mF := by unfold loopM at hlo; exact Option.some.inj hlo
        rw [this] at hlt; omega
      | succ g =>
        unfold loopM at hlo
        rw [if_pos hlt] at hlo
        refine ⟨_, fun σ' H' h => ⟨g, Nat.lt_succ_self g, h⟩, ?_⟩
        refine ⟨_, rfl, _, rfl, _, rfl, _, rfl, .ref D, .ref D1, .ref D2, abQ qs, qs.length, da, m, insideM qs cols, besideM (tabOf t) qs cols, rfl, dp_ext eij drow, ej _ _ hda, .lst (SqL.of (eij _ _ hI)) (mk_nats _), .lst (SqL.of (eij _ _ hB)) (mk_nats _), AB.lt, mnd, mlt, ilt, by omega, by omega, by omega, fun Hk ek hno => ?_, fun d2 m' Hk ek hd2 hso hdk => ?_⟩
        · rw [hno] at hlo; cases hlo
        · rw [hso] at hlo
          obtain ⟨tk, t1, t2, dr, t3, t4, t5, t6⟩ := (oneMore_some AB.lt mnd).1 m' hso
          refine ⟨d2, m', _, rfl, eij.trans ek, hdk, hlo, t6.nodup_iff.2 (List.nodup_cons.2 ⟨fun z => t2 (List.mem_of_mem_erase z), mnd.erase _⟩), fun x hx => ?_⟩
          rcases List.mem_cons.1 (t6.mem_iff.1 hx) with h | h
          · rw [h]; exact ilt _ t1
          · exact mlt x (List.mem_of_mem_erase h)
    · refine iF (by simp [hlt]) ?_
      have hmF : m = mF := by
        cases g with
        | zero => unfold loopM at hlo; exact Option.some.inj hlo
        | succ g => unfold loopM at hlo; rw [if_neg hlt] at hlo; exact Option.some.inj hlo
      subst hmF
      have hR98 : ∀ x < qs.length, rk (atQ qs x) < 98 := fun x hx => by
        have h1 := (Z.v _ (atQ_mem hx)).n
        unfold rk
        split <;> omega
      have hrk : Ranked qs.length m (fun i => rk (atQ qs i)) 98 := by
        refine ⟨fun pr hpr => ?_, hR98⟩
        have he := mtF.edge (pr.2, pr.1) (List.mem_map.2 ⟨pr, hpr, rfl⟩)
        obtain ⟨a, b, cc⟩ := mem_abQ.1 he
        exact ⟨a, b, rk_lt (hall _ (atQ_mem a)) (hall _ (atQ_mem b)) cc⟩
      have hrows := rows_ok ht1 hall Z.can.nd hR98 mtF mnd cntF sumF
      have hasc := chain_asc hall hR98 mtF mnd
      refine ⟨_, rfl, _, rfl, _, rfl, qa, _, rfl, .inl (sqL_ext eij hqa), da, qs.length, m, _, 98, (by show [V.ref da, V.int (qv.length : Nat)] = _; rw [lqv]), ej _ _ hda, hrk, by omega, by omega, fun v7 Hk ek dk7 => ?_⟩
      refine ⟨.ref qa, v7, qs, chainedM m qs.length 98, rfl, .lst (sqL_ext (eij.trans ek) hqa) (dpAll_ext (eij.trans ek) hqd), Z.v, by omega, dk7.dp, ?_, fun ch hch => ?_, fun a H' e' hS => ?_⟩
      · have := hrows.len
        unfold NkQ.rowsOf at this
        rw [List.length_map] at this; omega
      · obtain ⟨b1, b2, b3, _⟩ := hasc ch hch
        exact ⟨b1, b2, b3⟩
      · exact hq1 a m H' (((e0h.trans eij).trans ek).trans e') c1 c2 eF hS
end
end NkW
end
section
set_option Elab.async false
set_option linter.all false
set_option maxRecDepth 100000
set_option maxHeartbeats 2000000
/-! o[i] op= e on a list -/
namespace NkW
open PySem PySem.Spec PyProof.Rows L2 NkO NkR NkS
section
variable {X : Cx} {K : PySem.W.Frag}
def rGetL (K : PySem.W.Frag) : V → V → Hp → VK → Prop := fun x y H Q => ∃ p xs, ∃ i : Nat, ∃ z, x = .ref p ∧ y = .int (i : Int) ∧ SqL K H p xs ∧ xs[i]? = some z ∧ xs.length < 1000 ∧ Q z H
theorem pg_listI (h : X.K = K) : PGet X (rGetL K) := by
  subst h
  intro pins s σ H x y v u Q I rx ry h
  obtain ⟨p, xs, i, z, rfl, rfl, hq, he, hlen, q⟩ := h
  cases rx
  obtain ⟨t, rfl⟩ := ry
  obtain ⟨its, r, pl, hz⟩ := I.list hq
  obtain ⟨w, ew, rw'⟩ := r.get he
  have hl := r.length
  have fin : EP X pins σ Q w s := ⟨z, H, I, rw', q⟩
  have hi := (List.getElem?_eq_some_iff.1 he).1
  exact wpAny_getItem_list pl.isList (by omega) (by omega) (by simpa using ew) fin
end
end NkW
end
section
set_option Elab.async false
set_option linter.all false
set_option maxRecDepth 100000
set_option maxHeartbeats 2000000
/-! the law's draws -/
namespace NkW
open PySem PySem.Spec PyProof.Rows L2 NkO NkR NkS NkQ NkM
abbrev s__law_bag : Stmt := top 64
abbrev N__law_bag : List Str := ["_law_script", "_law_cell"]
theorem sc__law_bag : FnScope N__law_bag ["_law_script"] (defScope s__law_bag) := ⟨rfl, rfl, rfl, by decide +kernel, rfl, by decide +kernel, by decide +kernel⟩
abbrev s__law_take : Stmt := top 65
abbrev N__law_take : List Str := ["_law_bag_here", "_law_upto", "_law_cell", "_law_mixed_here", "_law_drawn", "_law_begin", "_law_second"]
theorem sc__law_take : FnScope N__law_take ["_law_bag_here", "_law_upto"] (defScope s__law_take) := ⟨rfl, rfl, rfl, by decide +kernel, rfl, by decide +kernel, by decide +kernel⟩

/-- the law's bag at b, from which at most k numbers were drawn -/
def BagAt (K : PySem.W.Frag) (H : Hp) (b ca : Addr) (k : Nat) : Prop :=
  ∃ (x y : Int) (z : Nat) (ns : List Int), H b = some (.lst [V.int x, V.int y, V.int (z : Int), V.ref ca]) ∧ ca ≠ b ∧ H ca = some (.lst (ns.map V.int)) ∧ 0 ≤ x ∧ 0 ≤ y ∧ y < 2147483648 ∧ z ≤ k ∧ ns.length < 1000 ∧ ∀ n ∈ ns, 0 ≤ n
theorem BagAt.mono {K : PySem.W.Frag} {H : Hp} {b ca : Addr} {k l : Nat} (h : BagAt K H b ca k) (hl : k ≤ l) : BagAt K H b ca l := by
  obtain ⟨x, y, z, ns, h1, h2, h3, h4, h5, h6, h7, h8⟩ := h
  exact ⟨x, y, z, ns, h1, h2, h3, h4, h5, h6, by omega, h8⟩
theorem BagAt.ext {K : PySem.W.Frag} {H H' : Hp} {b ca : Addr} {k : Nat} (h : BagAt K H b ca k) (e : Same H H') : BagAt K H' b ca k := by
  obtain ⟨x, y, z, ns, h1, h2, h3, h4⟩ := h
  exact ⟨x, y, z, ns, e _ _ h1, h2, e _ _ h3, h4⟩
theorem BagAt.upd {K : PySem.W.Frag} {H : Hp} {b ca D : Addr} {o : HO} {k : Nat} (h : BagAt K H b ca k) (n1 : D ≠ b) (n2 : D ≠ ca) : BagAt K (upd H D o) b ca k := by
  obtain ⟨x, y, z, ns, h1, h2, h3, h4⟩ := h
  exact ⟨x, y, z, ns, by rw [upd_ne n1.symm]; exact h1, h2, by rw [upd_ne n2.symm]; exact h3, h4⟩
theorem BagAt.off {K : PySem.W.Frag} {H : Hp} {b ca D : Addr} {k : Nat} (h : BagAt K H b ca k) (n : H D = Option.none) : D ≠ b ∧ D ≠ ca := by
  obtain ⟨x, y, z, ns, h1, h2, h3, h4⟩ := h
  exact ⟨fun z => (by rw [z, h1] at n; cases n), fun z => (by rw [z, h3] at n; cases n)⟩

def spBagL (K : PySem.W.Frag) : Sp := fun vs H Q _ => ∃ sa, ∃ ns : List Int, vs = [.ref sa] ∧ SqL K H sa (ns.map V.int) ∧ ns.length < 1000 ∧ ∀ b ca H', Same H H' → H b = Option.none → BagAt K H' b ca 0 → Q (.ref b) H'
def spTake (K : PySem.W.Frag) : Sp := fun vs H Q _ => ∃ b ca, ∃ n : Int, ∃ k : Nat, vs = [.ref b, .int n] ∧ BagAt K H b ca k ∧ 1 ≤ n ∧ n < 10000 ∧ k < 100000 ∧ ∀ r H', 0 ≤ r → r < n → BagAt K H' b ca (k + 1) → Same (wo [b] H) (wo [b] H') → Q (.int r) H'

theorem fm (a : Int) {n : Int} (h : 0 < n) : 0 ≤ a.fmod n ∧ a.fmod n < n := by
  rw [Int.fmod_eq_emod_of_nonneg a (by omega)]
  exact ⟨Int.emod_nonneg _ (by omega), Int.emod_lt_of_pos _ h⟩
theorem cm {i j : Int} (h1 : 0 ≤ i) (h2 : i < 2 ^ 64) (h3 : 0 ≤ j) (h4 : j < 2 ^ 64) : CMulW i j := wide_mul (a := 64) (b := 64) (by omega) (by omega) (by decide) (by decide) (by decide)
theorem at0 {a b c d : V} : atI [a, b, c, d] 0 = some a := atI_nat (j := 0) rfl
theorem at1 {a b c d : V} : atI [a, b, c, d] 1 = some b := atI_nat (j := 1) rfl
theorem at2 {a b c d : V} : atI [a, b, c, d] 2 = some c := atI_nat (j := 2) rfl
theorem at3 {a b c d : V} : atI [a, b, c, d] 3 = some d := atI_nat (j := 3) rfl
theorem seq_join {A B : TS} {D : Ends} {σ : L2.St} {H : Hp} (I : L2.St → Hp → Prop) (hB : ∀ σ' H', I σ' H' → B D σ' H') (hA : ∀ nx : L2.St → Hp → Prop, (∀ σ' H', I σ' H' → nx σ' H') → A { D with nx := nx } σ H) : tSeq A B D σ H := hA _ hB

section
variable {P : Program} {w : World} {K : PySem.W.Frag} {mg : Str → Option Value} {base : Heap} {c : Ad} {f : Addr} {fd : FuncData} (T : Tx K mg c)
include T
theorem ok_l_bag (F : FnD K "_law_bag" "_law_bag" s__law_bag f fd) : FnOk P w K mg base CX0 1 f fd ["_law_script"] (spBagL K) := by
  refine F.ok sc__law_bag (fun vs H Q E h => ?_) (fun cdv A outer s H vs Q E hr h => ?_)
  · obtain ⟨v, ns, rfl, _⟩ := h; rfl
  · obtain ⟨v, ns, rfl, hs, hl, hq⟩ := h
    refine ⟨_, PSs.nox (pss_one (ps_ret (pe_lst (pa_cons pe_int (pa_cons pe_int (pa_cons pe_int (pa_cons (pe_lc (own := [("_law_cell", 1)]) rfl sc__law_bag.nd (k_piL (K := K) rfl (pe_slice (k_slL (K := K) rfl) (pv 0) po_none (po_some pe_int))) (blkOk_by (own := [("_law_cell", 1)]) (N := N__law_bag) (by kernel_rfl)) (fun _ _ _ _ _ => (pg_name (i := 1) sc__law_bag.nd rfl (by first | exact Or.inl rfl | exact Or.inr rfl))) (fun _ _ _ _ _ => pts_nil) (fun _ _ _ _ _ => (pe_callB call_abs (by rfl) T.m_abs (by decide +kernel) (pa_cons (pv 1) pa_nil)))) pa_nil))))))), ?_⟩
    refine ⟨_, rfl, _, rfl, v, _, rfl, hs, fun p hp => ?_⟩
    have e1 := same_new (o := HO.lst (cutV (ns.map V.int) Option.none (some 63))) hp
    obtain ⟨ms, hm⟩ : ∃ ms : List Int, cutV (ns.map V.int) Option.none (some 63) = ms.map V.int := ⟨(ns.drop _).take _, by unfold cutV; rw [← List.map_drop, ← List.map_take]⟩
    have hml : ms.length ≤ ns.length := by
      have := cutV_length (ns.map V.int) Option.none (some 63)
      rw [hm] at this; simpa using this
    rw [hm] at e1 ⊢
    have hp1 : (upd H p (HO.lst (ms.map V.int))) p = some (.lst (ms.map V.int)) := upd_same
    generalize upd H p (HO.lst (ms.map V.int)) = H1 at e1 hp1
    refine ⟨p, rfl, ⟨_, SqL.of hp1⟩, fun D hD => lcM (K := K) (src_list (SqL.of hp1)) (Same.refl _) hD ms (by simp) (by rw [List.length_map]; exact small1000 (by omega)) (fun x => PyData.int (if x < 0 then -x else x)) ?_ ?_⟩
    · rintro i x y H2 R hi e2 hy hyes
      rw [List.getElem?_map, hi] at hy
      cases hy
      exact ⟨rfl, _, rfl, x, rfl, hyes _ _ (Same.refl _) (.int _)⟩
    · intro H2 e2 d2
      have hD2 : H2 D = some (.lst ((ms.map fun x => if x < 0 then -x else x).map V.int)) := by
        have he : (ms.map fun x => PyData.int (if x < 0 then -x else x)) = (ms.map fun x => if x < 0 then -x else x).map PyData.int := by rw [List.map_map]; rfl
        rw [he] at d2
        cases d2 with | lst a1 a2 a3 => rw [dpAll_toInts a3.dp] at a2; exact a2
      refine ⟨by show 4 ≤ sizeLine; decide, fun b hb => ?_⟩
      have nDb : D ≠ b := fun z => by rw [z, hb] at hD2; cases hD2
      have e3 := same_new (o := HO.lst [V.int 0, V.int 1234567891, V.int 0, V.ref D]) hb
      refine hq b D _ ((e1.trans e2).trans e3) ((e1.trans e2).free hb) ⟨0, 1234567891, 0, _, upd_same, nDb, e3 _ _ hD2, by decide, by decide, by decide, by decide, by rw [List.length_map]; omega, ?_⟩
      intro m hm'
      obtain ⟨x, _, rfl⟩ := List.mem_map.1 hm'
      show 0 ≤ (if x < 0 then -x else x)
      split <;> omega
theorem ok_l_take (F : FnD K "_law_take" "_law_take" s__law_take f fd) : FnOk P w K mg base CX0 1 f fd ["_law_bag_here", "_law_upto"] (spTake K) := by
  refine F.ok sc__law_take (fun vs H Q E h => ?_) (fun cdv A outer s H vs Q E hr h => ?_)
  · obtain ⟨b, ca, n, k, rfl, _⟩ := h; rfl
  · obtain ⟨b, ca, n, k, rfl, hB, h1, hn, hk, hq⟩ := h
    obtain ⟨x, y, z, ns, hb, hcb, hca, x0, y0, y1, zk, nl, n0⟩ := hB
    refine ⟨_, PSs.nox (pss_cons (ps_if (pt_cmpR op_eq (pe_ix (k_ixL (K := K) rfl) (pv 0) pe_int (fun _ _ => rfl)) pe_int (nomark _)) (pss_cons (ps_set (i := 2) sc__law_take.nd rfl (by first | exact Or.inl rfl | exact Or.inr rfl) pe_int)
    (pss_cons (ps_if (pt_cmpR op_lt (pe_ix (k_ixL (K := K) rfl) (pv 0) pe_int (fun _ _ => rfl)) (pe_callB (k_len (K := K) rfl) (by rfl) T.m_len (by decide +kernel) (pa_cons (pe_ix (k_ixL (K := K) rfl) (pv 0) pe_int (fun _ _ => rfl)) pa_nil)) (nomark _)) (pss_one (ps_set (i := 2) sc__law_take.nd rfl (by first | exact Or.inl rfl | exact Or.inr rfl) (pe_ix (k_ixL (K := K) rfl) (pe_ix (k_ixL (K := K) rfl) (pv 0) pe_int (fun _ _ => rfl)) (pe_ix (k_ixL (K := K) rfl) (pv 0) pe_int (fun _ _ => rfl)) (fun _ _ => rfl)))) pss_nil)
    (pss_cons (ps_augS (pv 0) pe_int (pg_listI (K := K) rfl) pe_int ip_add set_list)
    (pss_cons (ps_if (pt_cmpR op_ge (pv 2) pe_int (nomark _)) (pss_one (ps_asg (pv 2) (pg_sub (pv 0) pe_int set_list))) pss_nil)
    (pss_cons (ps_set (i := 3) sc__law_take.nd rfl (by first | exact Or.inl rfl | exact Or.inr rfl) (pe_op op_add (pe_op op_add (pe_op op_mulW (pe_ix (k_ixL (K := K) rfl) (pv 0) pe_int (fun _ _ => rfl)) pe_int) (pe_op op_modN (pe_callTy call_int1 (by rfl) T.m_int (by decide +kernel) (pa_cons (pv 2) pa_nil)) pe_int)) (pe_op op_mulW pe_int (pe_ix (k_ixL (K := K) rfl) (pv 0) pe_int (fun _ _ => rfl)))))
    (pss_one (ps_asg (pe_op op_modN (pe_callTy call_int1 (by rfl) T.m_int (by decide +kernel) (pa_cons (pv 3) pa_nil)) pe_int) (pg_sub (pv 0) pe_int set_list)))))))) pss_nil)
    (pss_cons (ps_if (pt_cmpR op_gt (pe_ix (k_ixL (K := K) rfl) (pv 0) pe_int (fun _ _ => rfl)) pe_int (nomark _)) (pss_cons (ps_set (i := 4) sc__law_take.nd rfl (by first | exact Or.inl rfl | exact Or.inr rfl) (pe_op op_modN (pe_callTy call_int1 (by rfl) T.m_int (by decide +kernel) (pa_cons (pe_ix (k_ixL (K := K) rfl) (pv 0) pe_int (fun _ _ => rfl)) pa_nil)) (pv 1)))
    (pss_cons (ps_asg (pe_op op_fdivW (pe_callTy call_int1 (by rfl) T.m_int (by decide +kernel) (pa_cons (pe_ix (k_ixL (K := K) rfl) (pv 0) pe_int (fun _ _ => rfl)) pa_nil)) (pv 1)) (pg_sub (pv 0) pe_int set_list))
    (pss_one (ps_ret (pv 4))))) pss_nil)
    (pss_cons (ps_set (i := 5) sc__law_take.nd rfl (by first | exact Or.inl rfl | exact Or.inr rfl) (pe_op op_modN (pe_callTy call_int1 (by rfl) T.m_int (by decide +kernel) (pa_cons (pe_op op_mulW (pe_op op_add (pe_ix (k_ixL (K := K) rfl) (pv 0) pe_int (fun _ _ => rfl)) pe_int) pe_int) pa_nil)) pe_int))
    (pss_cons (ps_set (i := 6) sc__law_take.nd rfl (by first | exact Or.inl rfl | exact Or.inr rfl) (pe_op op_modN (pe_callTy call_int1 (by rfl) T.m_int (by decide +kernel) (pa_cons (pe_op op_mulW (pe_op op_modN (pe_callTy call_int1 (by rfl) T.m_int (by decide +kernel) (pa_cons (pe_op op_mulW (pv 5) (pv 5)) pa_nil)) pe_int) pe_int) pa_nil)) pe_int))
    (pss_one (ps_ret (pe_op op_modN (pe_callTy call_int1 (by rfl) T.m_int (by decide +kernel) (pa_cons (pe_op op_fdivW (pv 6) pe_int) pa_nil)) (pv 1)))))))), ?_⟩
    refine seq_join (fun σ' H' => ∃ (x y : Int) (z : Nat) (o2 o3 : Option V), σ' = [some (.ref b), some (.int n), o2, o3, Option.none, Option.none, Option.none] ∧ H' b = some (.lst [V.int x, V.int y, V.int (z : Int), V.ref ca]) ∧ Same (wo [b] H) H' ∧ 0 ≤ x ∧ 0 ≤ y ∧ y < 2147483648 ∧ z ≤ k + 1) ?_ ?_
    · rintro σ' H' ⟨x, y, z, o2, o3, rfl, hb, e, x0, y0, y1, zk⟩
      have hfin : ∀ {H2 : Hp} {x' : Int}, 0 ≤ x' → H2 b = some (.lst [V.int x', V.int y, V.int (z : Int), V.ref ca]) → Same (wo [b] H) H2 → BagAt K H2 b ca (k + 1) ∧ Same (wo [b] H) (wo [b] H2) := fun {H2 x'} hx hb2 e2 =>
        ⟨⟨x', y, z, ns, hb2, hcb, e2 _ _ (by rw [wo_at (by simpa using hcb)]; exact hca), hx, y0, y1, zk, nl, n0⟩, fun a o ha => by
          by_cases q : a ∈ [b]
          · rw [wo_none q] at ha; cases ha
          · rw [wo_at q]; exact e2 a o ha⟩
      refine ⟨_, rfl, b, _, _, _, rfl, rfl, SqL.of hb, at0, _, _, rfl, rfl, _, rfl, ?_⟩
      by_cases hx : 0 < x
      · refine iT (by simp [hx]) ?_
        refine ⟨_, rfl, b, _, _, _, rfl, rfl, SqL.of hb, at0, .inl ⟨_, rfl, _, rfl, _, _, rfl, rfl, (by omega), ?_⟩⟩
        refine ⟨_, rfl, b, _, _, _, rfl, rfl, SqL.of hb, at0, .inl ⟨_, rfl, _, rfl, _, _, rfl, rfl, wide_div (b := 20) (by omega) (by omega) (by decide) (by decide), ?_⟩⟩
        refine ⟨_, rfl, b, _, _, 0, rfl, rfl, hb, rfl, ?_⟩
        obtain ⟨f1, f2⟩ := fm x (show 0 < n by omega)
        obtain ⟨g1, g2⟩ := hfin (H2 := upd H' b (.lst [V.int (x / n), V.int y, V.int (z : Int), V.ref ca])) (x' := x / n) (Int.ediv_nonneg x0 (by omega)) upd_same (same_upd_wo (by simp) e)
        exact ⟨_, rfl, hq _ _ f1 f2 g1 g2⟩
      · refine iF (by simp [hx]) ?_
        obtain ⟨a1, a2⟩ := fm ((y + 1) * 39373) (show (0 : Int) < 1000000007 by decide)
        obtain ⟨b1, b2⟩ := fm (((y + 1) * 39373).fmod 1000000007 * ((y + 1) * 39373).fmod 1000000007) (show (0 : Int) < 998244353 by decide)
        obtain ⟨c1, c2⟩ := fm ((((y + 1) * 39373).fmod 1000000007 * ((y + 1) * 39373).fmod 1000000007).fmod 998244353 * 30011) (show (0 : Int) < 998244353 by decide)
        obtain ⟨f1, f2⟩ := fm (((((y + 1) * 39373).fmod 1000000007 * ((y + 1) * 39373).fmod 1000000007).fmod 998244353 * 30011).fmod 998244353 / 7) (show 0 < n by omega)
        obtain ⟨g1, g2⟩ := hfin x0 hb e
        refine ⟨_, rfl, b, _, _, _, rfl, rfl, SqL.of hb, at1, _, _, rfl, rfl, _, _, rfl, rfl, cm (by omega) (by omega) (by decide) (by decide), .inl ⟨_, rfl, _, _, rfl, rfl, (show (1000000007 : Int) ≠ 0 by decide), ?_⟩⟩
        refine ⟨_, rfl, _, rfl, _, _, rfl, rfl, cm a1 (by omega) a1 (by omega), .inl ⟨_, rfl, _, _, rfl, rfl, (show (998244353 : Int) ≠ 0 by decide), _, _, rfl, rfl, cm b1 (by omega) (by decide) (by decide), .inl ⟨_, rfl, _, _, rfl, rfl, (show (998244353 : Int) ≠ 0 by decide), ?_⟩⟩⟩
        refine ⟨_, rfl, _, _, rfl, rfl, wide_div (b := 20) (by decide) (by decide) (by decide) (by decide), .inl ⟨_, rfl, _, rfl, _, _, rfl, rfl, (by omega), ?_⟩⟩
        exact hq _ _ f1 f2 g1 g2
    · intro nx hnx
      refine ⟨_, rfl, b, _, _, _, rfl, rfl, SqL.of hb, at0, rfl, _, rfl, ?_⟩
      by_cases hx : x = 0
      case neg =>
        refine iF (by simp [hx]) ?_
        exact hnx _ _ ⟨x, y, z, _, _, rfl, hb, wo_same, x0, y0, y1, by omega⟩
      refine iT (by simp [hx]) ?_
      refine seq_join (fun σ' H' => σ' = [some (.ref b), some (.int n), some (.int 0), Option.none, Option.none, Option.none, Option.none] ∧ H = H') ?_ (fun nx2 hn2 => hn2 _ _ ⟨rfl, rfl⟩)
      rintro _ _ ⟨rfl, rfl⟩
      -- the cell
      refine seq_join (fun σ' H' => ∃ ce : Int, σ' = [some (.ref b), some (.int n), some (.int ce), Option.none, Option.none, Option.none, Option.none] ∧ H = H' ∧ 0 ≤ ce) ?_ ?_
      case refine_2 =>
        intro nx2 hn2
        refine ⟨_, rfl, b, _, _, _, rfl, rfl, SqL.of hb, at2, _, rfl, b, _, _, _, rfl, rfl, SqL.of hb, at3, ca, _, rfl, .inl (SqL.of hca), _, _, rfl, rfl, _, rfl, ?_⟩
        by_cases hz : z < ns.length
        · refine iT (by simp [hz]) ?_
          refine ⟨_, rfl, b, _, _, _, rfl, rfl, SqL.of hb, at3, _, rfl, b, _, _, _, rfl, rfl, SqL.of hb, at2, ca, _, _, V.int ns[z], rfl, rfl, SqL.of hca, atI_nat (by rw [List.getElem?_map, List.getElem?_eq_getElem hz]; rfl), ?_⟩
          exact hn2 _ _ ⟨ns[z], rfl, rfl, n0 _ (List.getElem_mem hz)⟩
        · refine iF (by simp; omega) ?_
          exact hn2 _ _ ⟨0, rfl, rfl, by decide⟩
      rintro σ' H' ⟨ce, rfl, rfl, ce0⟩
      have hzz : (z : Int) + 1 = ((z + 1 : Nat) : Int) := by omega
      refine seq_join (fun σ' H2 => σ' = [some (.ref b), some (.int n), some (.int ce), Option.none, Option.none, Option.none, Option.none] ∧ H2 b = some (.lst [V.int x, V.int y, V.int ((z + 1 : Nat) : Int), V.ref ca]) ∧ Same (wo [b] H) H2) ?_ ?_
      case refine_2 =>
        intro nx2 hn2
        refine ⟨_, rfl, b, _, 2, _, rfl, rfl, SqL.of hb, rfl, (by simp), _, _, rfl, rfl, b, _, _, 2, rfl, rfl, hb, rfl, ?_⟩
        exact hn2 _ _ ⟨rfl, by rw [upd_same, ← hzz]; rfl, same_upd_wo (by simp) wo_same⟩
      rintro _ H2 ⟨rfl, hb2, e2⟩
      refine seq_join (fun σ' H3 => ∃ x' : Int, σ' = [some (.ref b), some (.int n), some (.int ce), Option.none, Option.none, Option.none, Option.none] ∧ H3 b = some (.lst [V.int x', V.int y, V.int ((z + 1 : Nat) : Int), V.ref ca]) ∧ Same (wo [b] H) H3 ∧ 0 ≤ x') ?_ ?_
      case refine_2 =>
        intro nx2 hn2
        refine ⟨_, rfl, _, _, rfl, rfl, _, rfl, ?_⟩
        by_cases hz : 1000000000000000000 ≤ ce
        · refine iT (by simp [hz]) ?_
          refine ⟨_, rfl, _, rfl, b, _, _, 0, rfl, rfl, hb2, rfl, ?_⟩
          exact hn2 _ _ ⟨ce, rfl, upd_same, same_upd_wo (by simp) e2, ce0⟩
        · refine iF (by simp [hz]) ?_
          exact hn2 _ _ ⟨x, rfl, hb2, e2, x0⟩
      rintro σ' H3 ⟨x', rfl, hb3, e3, x'0⟩
      obtain ⟨q1, q2⟩ := fm ce (show (0 : Int) < 2147483647 by decide)
      refine ⟨_, rfl, b, _, _, _, rfl, rfl, SqL.of hb3, at1, _, _, rfl, rfl, cm y0 (by omega) (by decide) (by decide), _, rfl, .inl ⟨_, rfl, _, _, rfl, rfl, (show (2147483647 : Int) ≠ 0 by decide), _, _, rfl, rfl, _, rfl, b, _, _, _, rfl, rfl, SqL.of hb3, at2, _, _, rfl, rfl, cm (by decide) (by decide) (by omega) (by omega), _, _, rfl, rfl, ?_⟩⟩
      refine ⟨_, rfl, .inl ⟨_, rfl, _, _, rfl, rfl, (show (2147483647 : Int) ≠ 0 by decide), _, rfl, b, _, _, 1, rfl, rfl, hb3, rfl, ?_⟩⟩
      obtain ⟨r1, r2⟩ := fm (y * 48271 + ce.fmod 2147483647 + 7919 * ((z + 1 : Nat) : Int)) (show (0 : Int) < 2147483647 by decide)
      exact hnx _ _ ⟨x', _, z + 1, _, _, rfl, upd_same, same_upd_wo (by simp) e3, x'0, r1, by omega, by omega⟩
end
end NkW
end
section
set_option Elab.async false
set_option linter.all false
set_option maxRecDepth 100000
set_option maxHeartbeats 2000000
/-! the law's draws: one, mixed, names, questions -/
namespace NkW
open PySem PySem.Spec PyProof.Rows L2 NkO NkR NkS NkQ NkM
abbrev s__law_one : Stmt := top 66
abbrev N__law_one : List Str := ["_law_bag_here", "_law_some"]
theorem sc__law_one : FnScope N__law_one ["_law_bag_here", "_law_some"] (defScope s__law_one) := ⟨rfl, rfl, rfl, by decide +kernel, rfl, by decide +kernel, by decide +kernel⟩
abbrev s__law_mixed : Stmt := top 67
abbrev N__law_mixed : List Str := ["_law_bag_here", "_law_things", "_law_found", "_law_thing"]
theorem sc__law_mixed : FnScope N__law_mixed ["_law_bag_here", "_law_things"] (defScope s__law_mixed) := ⟨rfl, rfl, rfl, by decide +kernel, rfl, by decide +kernel, by decide +kernel⟩

/-- what a draw leaves: the bag, and all else as it was -/
structure Drew (K : PySem.W.Frag) (b ca : Addr) (H H' : Hp) (k : Nat) : Prop where
  bag : BagAt K H' b ca k
  same : Same (wo [b] H) (wo [b] H')
theorem Drew.trans {K : PySem.W.Frag} {b ca : Addr} {H H1 H2 : Hp} {k l : Nat} (h : Drew K b ca H H1 k) (h' : Drew K b ca H1 H2 l) : Drew K b ca H H2 l := ⟨h'.bag, h.same.trans h'.same⟩
theorem Drew.out {K : PySem.W.Frag} {b ca : Addr} {H H1 : Hp} {k : Nat} (h : Drew K b ca H H1 k) : Same (wo [b] H) H1 := h.same.trans wo_same
theorem same_wo {b : Addr} {H H' : Hp} (e : Same H H') : Same (wo [b] H) (wo [b] H') := fun a o ha => by
  by_cases q : a ∈ [b]
  · rw [wo_none q] at ha; cases ha
  · rw [wo_at q] at ha ⊢; exact e a o ha
theorem Drew.grow {K : PySem.W.Frag} {b ca : Addr} {H H1 H2 : Hp} {k : Nat} (h : Drew K b ca H H1 k) (e : Same H1 H2) : Drew K b ca H H2 k := ⟨h.bag.ext e, h.same.trans (same_wo e)⟩
theorem Drew.mono {K : PySem.W.Frag} {b ca : Addr} {H H1 : Hp} {k l : Nat} (h : Drew K b ca H H1 k) (hl : k ≤ l) : Drew K b ca H H1 l := ⟨h.bag.mono hl, h.same⟩
theorem Drew.of {K : PySem.W.Frag} {b ca : Addr} {H H1 : Hp} {k : Nat} (h : BagAt K H b ca k) (e : Same H H1) : Drew K b ca H H1 k := ⟨h.ext e, same_wo e⟩
theorem Drew.free {K : PySem.W.Frag} {b ca D : Addr} {H H1 : Hp} {k : Nat} (h : Drew K b ca H H1 k) (n : H1 D = Option.none) : H D = Option.none := by
  cases e : H D with
  | none => rfl
  | some o =>
    have nb := (h.bag.off n).1
    have := h.same D o (by rw [wo_at (by simpa using nb)]; exact e)
    rw [wo_at (by simpa using nb), n] at this; cases this

theorem same_upd_off {b D : Addr} {o : HO} {H H1 : Hp} (e : Same (wo [b] H) (wo [b] H1)) (nb : D ≠ b) (n : H D = Option.none) : Same (wo [b] H) (wo [b] (upd H1 D o)) := fun a u ha => by
  have na : a ≠ D := fun z => by
    rw [z, wo_at (by simpa using nb), n] at ha; cases ha
  have := e a u ha
  by_cases q : a ∈ [b]
  · rw [wo_none q] at this; cases this
  · rw [wo_at q] at this ⊢; rw [upd_ne na]; exact this

def spOneL (K : PySem.W.Frag) : Sp := fun vs H Q _ => ∃ b ca a, ∃ xs : List V, ∃ k : Nat, vs = [.ref b, .ref a] ∧ BagAt K H b ca k ∧ k < 90000 ∧ SqL K (wo [b] H) a xs ∧ 1 ≤ xs.length ∧ xs.length < 1000 ∧ ∀ z H', z ∈ xs → Drew K b ca H H' (k + 1) → Q z H'
def spMixed (K : PySem.W.Frag) : Sp := fun vs H Q _ => ∃ b ca a, ∃ xs : List V, ∃ k : Nat, vs = [.ref b, .ref a] ∧ BagAt K H b ca k ∧ k < 90000 ∧ SqL K (wo [b] H) a xs ∧ xs.length < 100 ∧ ∀ r H' ys, ys.Perm xs → H r = Option.none → H' r = some (.lst ys) → Drew K b ca H H' (k + xs.length) → Q (.ref r) H'

section
variable {P : Program} {w : World} {K : PySem.W.Frag} {mg : Str → Option Value} {base : Heap} {c : Ad} {f : Addr} {fd : FuncData} (T : Tx K mg c)
include T
theorem ok_l_one (F : FnD K "_law_one" "_law_one" s__law_one f fd) (D__law_take : Def P w K mg base "_law_take" 1 ["_law_bag_here", "_law_upto"] (spTake K)) : FnOk P w K mg base CX0 2 f fd ["_law_bag_here", "_law_some"] (spOneL K) := by
  refine F.ok sc__law_one (fun vs H Q E h => ?_) (fun cdv A outer s H vs Q E hr h => ?_)
  · obtain ⟨b, ca, a, xs, k, rfl, _⟩ := h; rfl
  · obtain ⟨b, ca, a, xs, k, rfl, hB, hk, hx, h1, h2, hq⟩ := h
    refine ⟨_, PSs.nox (pss_one (ps_ret (pe_ix (k_ixL (K := K) rfl) (pv 1) (pe_def D__law_take (hr.mono (by first | decide | omega)) (pa_cons (pv 0) (pa_cons (pe_callB (k_len (K := K) rfl) (by rfl) T.m_len (by decide +kernel) (pa_cons (pv 1) pa_nil)) pa_nil))) (fun _ _ => rfl)))), ?_⟩
    have hx' := sqL_ext wo_same hx
    refine ⟨_, rfl, _, rfl, _, rfl, a, _, rfl, .inl hx', b, ca, (xs.length : Int), k, rfl, hB, by omega, by omega, by omega, fun r H' r0 r1 hB' e => ?_⟩
    obtain ⟨j, rfl⟩ : ∃ j : Nat, r = (j : Int) := ⟨r.toNat, by omega⟩
    have hj : j < xs.length := by omega
    exact ⟨a, xs, _, _, rfl, rfl, sqL_ext (e.trans wo_same) hx, atI_nat (List.getElem?_eq_getElem hj), hq _ _ (List.getElem_mem hj) ⟨hB', e⟩⟩
theorem ok_l_mixed (F : FnD K "_law_mixed" "_law_mixed" s__law_mixed f fd) (D__law_take : Def P w K mg base "_law_take" 1 ["_law_bag_here", "_law_upto"] (spTake K)) : FnOk P w K mg base CX0 2 f fd ["_law_bag_here", "_law_things"] (spMixed K) := by
  refine F.ok sc__law_mixed (fun vs H Q E h => ?_) (fun cdv A outer s H vs Q E hr h => ?_)
  · obtain ⟨b, ca, a, xs, k, rfl, _⟩ := h; rfl
  · obtain ⟨b, ca, a, xs, k, rfl, hB, hk, hx, h2, hq⟩ := h
    refine ⟨_, PSs.nox (pss_cons (ps_set (i := 2) sc__law_mixed.nd rfl (by first | exact Or.inl rfl | exact Or.inr rfl) (pe_lst pa_nil))
    (pss_cons (ps_for PassesOwn.never rfl (k_piL (K := K) rfl (pv 1)) (pg_name (i := 3) sc__law_mixed.nd rfl (by first | exact Or.inl rfl | exact Or.inr rfl))
    (pss_one (ps_expr (pe_bm PySem.F.plainAttrs_list PySem.F.slot_list_insert PySem.F.type_list_insert mt_insert (pv 2) (pa_cons (pe_def D__law_take (hr.mono (by first | decide | omega)) (pa_cons (pv 0) (pa_cons (pe_op op_add (pe_callB (k_len (K := K) rfl) (by rfl) T.m_len (by decide +kernel) (pa_cons (pv 2) pa_nil)) pe_int) pa_nil))) (pa_cons (pv 3) pa_nil))))))
    (pss_one (ps_ret (pv 2))))), ?_⟩
    refine ⟨Nat.zero_le _, fun D hD => ?_⟩
    obtain ⟨nb, nc⟩ := hB.off hD
    have hx' := sqL_ext wo_same hx
    refine ⟨_, rfl, a, rfl, ⟨_, sqL_ext (same_new hD) hx'⟩, forG (H0 := wo [b] H) (src_list hx) (fun i σ H' => ∃ o3, σ = [some (.ref b), some (.ref a), some (.ref D), o3] ∧ Drew K b ca H H' (k + i) ∧ ∃ ys, ys.Perm (xs.take i) ∧ H' D = some (.lst ys)) ?_ ?_ ?_ ?_⟩
    · exact ⟨_, rfl, Drew.of hB (same_new hD), [], by simp, upd_same⟩
    · rintro i σ H' ⟨_, _, d, _⟩; exact d.out
    · rintro i x σ H1 H2 hi ⟨o3, rfl, d, ys, hp, hy⟩ e2 hx1
      have d := d.grow e2
      have hy := e2 _ _ hy
      have ly : ys.length = i := by rw [hp.length_eq, List.length_take]; omega
      refine ⟨_, rfl, .inl ⟨rfl, _, SqL.of hy⟩, _, rfl, _, rfl, D, _, rfl, .inl (SqL.of hy), _, _, rfl, rfl, b, ca, ((i + 1 : Nat) : Int), k + i, by rw [ly]; rfl, d.bag, by omega, by omega, by omega, fun r H3 r0 r1 hB3 e3 => ?_⟩
      have hy3 : H3 D = some (.lst ys) := by
        have := e3 D _ (by rw [wo_at (by simpa using nb)]; exact hy)
        rwa [wo_at (by simpa using nb)] at this
      obtain ⟨j, rfl⟩ : ∃ j : Nat, r = (j : Int) := ⟨r.toNat, by omega⟩
      refine ⟨_, rfl, D, ys, _, x, rfl, rfl, hy3, small1000 (by omega), by omega, by omega, ?_⟩
      refine ⟨_, rfl, ⟨hB3.upd nb nc, ?_⟩, ys.take j ++ [x] ++ ys.drop j, ?_, upd_same⟩
      · exact same_upd_off (d.same.trans e3) nb hD
      · have tk : xs.take (i + 1) = xs.take i ++ [x] := by rw [List.take_add_one, hx1]; rfl
        rw [tk]
        have p1 : (ys.take j ++ [x] ++ ys.drop j).Perm (x :: ys) := by
          have := List.perm_middle (a := x) (l₁ := ys.take j) (l₂ := ys.drop j)
          rw [List.take_append_drop] at this
          simpa using this
        exact p1.trans ((List.Perm.cons x hp).trans (List.perm_append_singleton x _).symm)
    · rintro σ H1 ⟨o3, rfl, d, ys, hp, hy⟩
      rw [List.take_length] at hp
      exact ⟨_, rfl, hq D H1 ys hp hD hy d⟩
end
end NkW
end
section
set_option Elab.async false
set_option linter.all false
set_option maxRecDepth 100000
set_option maxHeartbeats 2000000
/-! the law's draws: names, a question -/
namespace NkW
open PySem PySem.Spec PyProof.Rows L2 NkO NkR NkS NkQ NkM
abbrev s__law_names : Stmt := top 69
abbrev N__law_names : List Str := ["_law_bag_here", "_law_many", "_law_menu", "_law_at"]
theorem sc__law_names : FnScope N__law_names ["_law_bag_here", "_law_many"] (defScope s__law_names) := ⟨rfl, rfl, rfl, by decide +kernel, rfl, by decide +kernel, by decide +kernel⟩
abbrev s__law_question_of : Stmt := top 70
abbrev N__law_question_of : List Str := ["_law_bag_here", "_law_row", "_law_k", "_law_is_ranged"]
theorem sc__law_question_of : FnScope N__law_question_of ["_law_bag_here", "_law_row"] (defScope s__law_question_of) := ⟨rfl, rfl, rfl, by decide +kernel, rfl, by decide +kernel, by decide +kernel⟩

structure NamesOk (ns : List Str) (m : Nat) : Prop where
  len : ns.length = m
  nd : ns.Nodup
  ok : ∀ x ∈ ns, okC x = true
def menuL : List Str := Txt.split "a b aa ab z zzzzzzzz job view power status ask quicklyx fghmndct" " "
theorem menu_len : (menuL ++ menuL).length = 26 := by decide +kernel
theorem menu_fits : (Str.length "a b aa ab z zzzzzzzz job view power status ask quicklyx fghmndct") + 2 ≤ 1000 := by decide +kernel
theorem names_ok {r m : Nat} (hr : r < 13) (hm : m ≤ 6) : NamesOk (((menuL ++ menuL).drop r).take m) m := by
  have h : ∀ r < 13, ∀ m < 7, (decide (((((menuL ++ menuL).drop r).take m)).length = m) && decide ((((menuL ++ menuL).drop r).take m)).Nodup && ((((menuL ++ menuL).drop r).take m)).all okC) = true := by decide +kernel
  have h := h r hr m (by omega)
  simp only [Bool.and_eq_true, decide_eq_true_eq, List.all_eq_true] at h
  exact ⟨h.1.1, h.1.2, h.2⟩
theorem cut_nat {xs : List V} {i j : Nat} : cutV xs (some (i : Int)) (some (j : Int)) = (xs.drop (min i xs.length)).take (min j xs.length - min i xs.length) := by
  unfold cutV; rw [HT.sIx_nat, HT.sIx_nat]
theorem cut_to {xs : List V} {j : Nat} : cutV xs Option.none (some (j : Int)) = xs.take j := by
  unfold cutV; rw [HT.sIx_nat, HT.sIx_none]
  simp only [List.drop_zero, Nat.sub_zero]
  by_cases h : j ≤ xs.length
  · rw [Nat.min_eq_left h]
  · rw [Nat.min_eq_right (by omega), List.take_of_length_le (Nat.le_refl _), List.take_of_length_le (by omega)]
def spNames (K : PySem.W.Frag) : Sp := fun vs H Q _ => ∃ b ca, ∃ m k : Nat, vs = [.ref b, .int (m : Int)] ∧ BagAt K H b ca k ∧ k < 90000 ∧ 2 ≤ m ∧ m ≤ 6 ∧ ∀ r H' ns, NamesOk ns m → H r = Option.none → H' r = some (.lst (ns.map V.str)) → Drew K b ca H H' (k + 1) → Q (.ref r) H'
def spQuest (K : PySem.W.Frag) : Sp := fun vs H Q _ => ∃ b ca a, ∃ ns : List Str, ∃ m k : Nat, vs = [.ref b, .ref a] ∧ BagAt K H b ca k ∧ k < 90000 ∧ SqL K (wo [b] H) a (ns.map V.str) ∧ NamesOk ns m ∧ 2 ≤ m ∧ m ≤ 6 ∧
  ∀ v H' q, VQ6 q → Dp K H' v (encQ q) → Drew K b ca H H' (k + 2) → Q v H'
theorem bag_chg {K : PySem.W.Frag} {H : Hp} {b ca : Addr} {k : Nat} (h : BagAt K H b ca k) : ∀ D ∈ [b], ∃ o, H D = some o ∧ Chg o := fun D hD => by
  obtain rfl : D = b := by simpa using hD
  obtain ⟨x, y, z, ns, h1, _⟩ := h
  exact ⟨_, h1, chg_lst _⟩
section
variable {P : Program} {w : World} {K : PySem.W.Frag} {mg : Str → Option Value} {base : Heap} {c : Ad} {f : Addr} {fd : FuncData} (T : Tx K mg c)
include T
theorem ok_l_names (F : FnD K "_law_names" "_law_names" s__law_names f fd) (D__law_take : Def P w K mg base "_law_take" 1 ["_law_bag_here", "_law_upto"] (spTake K)) : FnOk P w K mg base CX0 2 f fd ["_law_bag_here", "_law_many"] (spNames K) := by
  refine F.ok sc__law_names (fun vs H Q E h => ?_) (fun cdv A outer s H vs Q E hr h => ?_)
  · obtain ⟨b, ca, m, k, rfl, _⟩ := h; rfl
  · obtain ⟨b, ca, m, k, rfl, hB, hk, m2, m6, hq⟩ := h
    refine ⟨_, PSs.nox (pss_cons (ps_set (i := 2) sc__law_names.nd rfl (by first | exact Or.inl rfl | exact Or.inr rfl) (pe_split pe_str pe_str))
    (pss_cons (ps_set (i := 3) sc__law_names.nd rfl (by first | exact Or.inl rfl | exact Or.inr rfl) (pe_def D__law_take (hr.mono (by first | decide | omega)) (pa_cons (pv 0) (pa_cons pe_int pa_nil))))
    (pss_one (ps_ret (pe_slice (k_slL (K := K) rfl) (pe_op op_cat (pv 2) (pv 2)) (po_some (pv 3)) (po_some (pe_op op_add (pv 3) (pv 1)))))))), ?_⟩
    refine ⟨⟨_, rfl⟩, _, _, rfl, rfl, by decide +kernel, Nat.le_of_lt (small1000 menu_fits), fun p hp => ?_⟩
    have e1 := same_new (o := HO.lst ((Txt.split "a b aa ab z zzzzzzzz job view power status ask quicklyx fghmndct" " ").map V.str)) hp
    have hm : (upd H p (HO.lst ((Txt.split "a b aa ab z zzzzzzzz job view power status ask quicklyx fghmndct" " ").map V.str))) p = some (.lst (menuL.map V.str)) := upd_same
    generalize (upd H p (HO.lst ((Txt.split "a b aa ab z zzzzzzzz job view power status ask quicklyx fghmndct" " ").map V.str))) = H1 at e1 hm
    refine ⟨_, rfl, b, ca, 13, k, rfl, hB.ext e1, by decide, by decide, by omega, fun r H2 r0 r1 hB2 e2 => ?_⟩
    obtain ⟨j, rfl⟩ : ∃ j : Nat, r = (j : Int) := ⟨r.toNat, by omega⟩
    have nb := (hB.off hp).1
    have hm2 : H2 p = some (.lst (menuL.map V.str)) := by
      have := e2 p _ (by rw [wo_at (by simpa using nb)]; exact hm)
      rwa [wo_at (by simpa using nb)] at this
    have ml : (menuL.map V.str).length + (menuL.map V.str).length ≤ sizeLine := by
      have := menu_len
      rw [List.length_append] at this
      rw [List.length_map, this]; decide
    refine ⟨_, rfl, _, rfl, p, p, _, _, rfl, rfl, hm2, hm2, ml, fun l hl => ?_⟩
    refine ⟨_, rfl, _, rfl, _, rfl, _, rfl, _, _, rfl, rfl, _, rfl, l, _, rfl, SqL.of upd_same, fun a ha => ?_⟩
    have hd : Drew K b ca H H2 (k + 1) := ⟨hB2, (same_wo e1).trans e2⟩
    have e3 := (same_new (o := HO.lst (menuL.map V.str ++ menuL.map V.str)) hl).trans (same_new (o := HO.lst (cutV (menuL.map V.str ++ menuL.map V.str) (some (j : Int)) (some ((j : Int) + (m : Int))))) ha)
    have hz := hd.grow e3
    refine hq a _ _ (names_ok (r := j) (m := m) (by omega) m6) ?_ ?_ hz
    · exact hd.free ((same_new (o := HO.lst (menuL.map V.str ++ menuL.map V.str)) hl).free ha)
    · rw [upd_same]
      congr 2
      have : (j : Int) + (m : Int) = ((j + m : Nat) : Int) := by omega
      rw [this, cut_nat, ← List.map_append, List.length_map, menu_len, Nat.min_eq_left (by omega), Nat.min_eq_left (by omega), List.map_take, List.map_drop]
      congr 1; omega
theorem ok_l_question_of (F : FnD K "_law_question_of" "_law_question_of" s__law_question_of f fd) (D__law_take : Def P w K mg base "_law_take" 1 ["_law_bag_here", "_law_upto"] (spTake K)) : FnOk P w K mg base CX0 2 f fd ["_law_bag_here", "_law_row"] (spQuest K) := by
  refine F.ok sc__law_question_of (fun vs H Q E h => ?_) (fun cdv A outer s H vs Q E hr h => ?_)
  · obtain ⟨b, ca, a, ns, m, k, rfl, _⟩ := h; rfl
  · obtain ⟨b, ca, a, ns, m, k, rfl, hB, hk, hx, N, m2, m6, hq⟩ := h
    refine ⟨_, PSs.nox (pss_cons (ps_set (i := 2) sc__law_question_of.nd rfl (by first | exact Or.inl rfl | exact Or.inr rfl) (pe_def D__law_take (hr.mono (by first | decide | omega)) (pa_cons (pv 0) (pa_cons (pe_op op_add (pe_callB (k_len (K := K) rfl) (by rfl) T.m_len (by decide +kernel) (pa_cons (pv 1) pa_nil)) pe_int) pa_nil))))
    (pss_cons (ps_if (pt_cmpR op_eq (pv 2) pe_int (nomark _)) (pss_one (ps_ret (pe_tup (pa_cons (pe_tup pa_nil) (pa_cons (pe_ix (k_ixL (K := K) rfl) (pv 1) pe_int (fun _ _ => rfl)) pa_nil))))) pss_nil)
    (pss_cons (ps_set (i := 3) sc__law_question_of.nd rfl (by first | exact Or.inl rfl | exact Or.inr rfl) (pe_and (pe_cmpR op_lt (pv 2) (pe_callB (k_len (K := K) rfl) (by rfl) T.m_len (by decide +kernel) (pa_cons (pv 1) pa_nil)) (nomark _)) (pe_one (pe_cmpR op_eq (pe_def D__law_take (hr.mono (by first | decide | omega)) (pa_cons (pv 0) (pa_cons pe_int pa_nil))) pe_int (nomark _)))))
    (pss_one (ps_ret (pe_tup (pa_cons (pe_callTy (k_tuple (K := K) rfl) (by rfl) T.m_tuple (by decide +kernel) (pa_cons (pe_callB (k_sort (K := K) (w := w) NkQ.encS rfl rfl hr rfl) (by rfl) T.m_sorted (by decide +kernel) (pa_cons (pe_slice (k_slL (K := K) rfl) (pv 1) po_none (po_some (pv 2))) pa_nil)) pa_nil)) (pa_cons (pe_ifExp (pt_val (pv 3)) (pe_ix (k_ixL (K := K) rfl) (pv 1) (pv 2) (fun _ _ => rfl)) pe_str) pa_nil)))))))), ?_⟩
    have nl := N.len
    refine ⟨_, rfl, _, rfl, a, _, rfl, .inl (sqL_ext wo_same hx), _, _, rfl, rfl, b, ca, ((m + 1 : Nat) : Int), k, by rw [List.length_map, nl]; rfl, hB, by omega, by omega, by omega, fun r H1 r0 r1 hB1 e1 => ?_⟩
    obtain ⟨j, rfl⟩ : ∃ j : Nat, r = (j : Int) := ⟨r.toNat, by omega⟩
    have d1 : Drew K b ca H H1 (k + 1) := ⟨hB1, e1⟩
    have hx1 := sqL_ext (e1.trans wo_same) hx
    have gat : ∀ i : Nat, i < m → ∃ x, ns[i]? = some x ∧ okC x = true ∧ (ns.map V.str)[i]? = some (V.str x) := fun i hi => by
      have : ns[i]? = some ns[i] := List.getElem?_eq_getElem (by omega)
      exact ⟨_, this, N.ok _ (List.getElem_mem _), by rw [List.getElem?_map, this]; rfl⟩
    refine ⟨_, rfl, rfl, _, rfl, ite2 (fun h0 => ?_) (fun h0 => ?_)⟩
    · obtain ⟨x, hx0, ox, gx⟩ := gat 0 (by omega)
      refine ⟨Nat.zero_le _, fun t ht => ?_⟩
      refine ⟨_, rfl, a, _, 0, _, rfl, rfl, sqL_ext (same_new ht) hx1, atI_nat (j := 0) gx, by show 2 ≤ sizeLine; decide, fun u hu => ?_⟩
      have e2 := (same_new (o := HO.tup []) ht)
      have e3 := (same_new (o := HO.tup [V.ref t, V.str x]) hu)
      refine hq _ _ ([], x) ⟨⟨⟨by simp, by simp⟩, by simp, .inr ⟨ox, by simp⟩, .inr (okC_ne ox)⟩, by simp⟩ ?_ ((d1.grow (e2.trans e3)).mono (by omega))
      exact .tup (SqT.of upd_same) (.cons (.tup (SqT.of (e3 _ _ upd_same)) .nil) (.cons (.str x) .nil))
    · have hj0 : j ≠ 0 := fun z => h0 (by rw [z]; rfl)
      have hx0 : (0 : Int) < (j : Int) := by omega
      unfold tNext
      dsimp only
      refine seq_join (fun σ' H2 => ∃ rg : Bool, σ' = [some (.ref b), some (.ref a), some (.int (j : Int)), some (.bl rg)] ∧ Drew K b ca H H2 (k + 2) ∧ (rg = true → j < m)) ?_ ?_
      case refine_2 =>
        intro nx hn
        refine ⟨_, rfl, _, rfl, a, _, rfl, .inl hx1, _, _, rfl, rfl, ?_⟩
        by_cases hjm : j < m
        · refine ⟨true, by rw [List.length_map, nl]; exact congrArg V.bl (decide_eq_true (by omega)), ?_⟩
          refine ⟨_, rfl, b, ca, 2, k + 1, rfl, hB1, by decide, by decide, by omega, fun r2 H2 _ _ hB2 e2 => ⟨rfl, ?_⟩⟩
          exact hn _ _ ⟨_, rfl, ⟨hB2, e1.trans e2⟩, fun _ => hjm⟩
        · refine ⟨false, by rw [List.length_map, nl]; exact congrArg V.bl (decide_eq_false (by omega)), ?_⟩
          exact hn _ _ ⟨_, rfl, d1.mono (by omega), fun z => by cases z⟩
      rintro σ' H2 ⟨rg, rfl, d2, hrg⟩
      have hx2 := sqL_ext d2.out hx
      refine ⟨_, rfl, _, rfl, _, rfl, a, _, rfl, hx2, fun p hp => ?_⟩
      rw [cut_to, ← List.map_take]
      have e3 := same_new (o := HO.lst ((ns.take j).map V.str)) hp
      have hc : (upd H2 p (HO.lst ((ns.take j).map V.str))) p = some (.lst ((ns.take j).map V.str)) := upd_same
      generalize upd H2 p (HO.lst ((ns.take j).map V.str)) = H3 at e3 hc
      have lt : (ns.take j).length ≤ 6 := by rw [List.length_take]; omega
      refine tN ?_
      refine rd_sort asmS (.inl (SqL.of hc)) (dpAll_strs (ns.take j)) (by omega) (good_S _) fun u H4 e4 hu d4 => ?_
      have hu4 := df_strs d4
      refine ⟨u, _, rfl, .inl ⟨SqL.of hu4, fun t ht => ?_⟩⟩
      have e5 := same_new (o := HO.tup ((srt encS (ns.take j)).map V.str)) ht
      have ht5 : (upd H4 t (HO.tup ((srt encS (ns.take j)).map V.str))) t = some (.tup ((srt encS (ns.take j)).map V.str)) := upd_same
      generalize upd H4 t (HO.tup ((srt encS (ns.take j)).map V.str)) = H5 at e5 ht5
      have e25 := (e3.trans e4).trans e5
      have d5 := d2.grow e25
      have cn : Can encS (srt encS (ns.take j)) := ⟨((srt_perm _ _).nodup_iff).2 ((List.take_sublist _ _).nodup N.nd), srt_asc _ _⟩
      have cm : ∀ x, x ∈ srt encS (ns.take j) → x ∈ ns := fun x hx => List.mem_of_mem_take ((srt_perm _ _).mem_iff.1 hx)
      have cl : (srt encS (ns.take j)).length ≤ 6 := by rw [(srt_perm _ _).length_eq]; exact lt
      have cne : srt encS (ns.take j) ≠ [] := fun z => by
        have := (srt_perm encS (ns.take j)).length_eq
        rw [z, List.length_take, nl] at this
        simp at this; omega
      have fin : ∀ l : Str, (l = eS ∨ (okC l = true ∧ l ∉ srt encS (ns.take j))) → 2 ≤ sizeLine ∧ ∀ u : Addr, H5 u = Option.none → Q (.ref u) (upd H5 u (.tup [.ref t, .str l])) := fun l hl =>
        ⟨by decide, fun u hu => hq _ _ (srt encS (ns.take j), l) ⟨⟨cn, fun x hx => N.ok x (cm x hx), hl, .inl cne⟩, by show (srt encS (ns.take j)).length ≤ 48; omega⟩
          (.tup (SqT.of upd_same) (.cons (.tup (SqT.of (same_new hu _ _ ht5)) (dpAll_strs _)) (.cons (.str l) .nil))) (d5.grow (same_new hu))⟩
      refine ⟨_, rfl, rg, rfl, ?_⟩
      cases rg with
      | true =>
        have hjm := hrg rfl
        obtain ⟨x, hx0, ox, gx⟩ := gat j hjm
        refine iT rfl ⟨_, rfl, _, rfl, a, _, _, _, rfl, rfl, sqL_ext e25 hx2, atI_nat gx, ?_⟩
        refine fin x (.inr ⟨ox, fun z => ?_⟩)
        have hm := (srt_perm _ _).mem_iff.1 z
        obtain ⟨i, hi1⟩ := List.mem_iff_getElem?.1 hm
        have hij : i < j := by
          have := (List.getElem?_eq_some_iff.1 hi1).1
          rw [List.length_take] at this; omega
        rw [List.getElem?_take_of_lt hij] at hi1
        have h1 := (List.getElem?_eq_some_iff.1 hi1)
        have h2 := (List.getElem?_eq_some_iff.1 hx0)
        have := (List.getElem_inj (h₀ := h1.1) (h₁ := h2.1) N.nd).1 (by rw [h1.2, h2.2])
        omega
      | false => exact iF rfl (fin _ (.inl rfl))
end
end NkW
end
section
set_option Elab.async false
set_option linter.all false
set_option maxRecDepth 100000
set_option maxHeartbeats 2000000
/-! the law's draws: questions, weights -/
namespace NkW
open PySem PySem.Spec PyProof.Rows L2 NkO NkR NkS NkQ NkM
abbrev s__law_questions : Stmt := top 71
abbrev N__law_questions : List Str := ["_law_bag_here", "_law_names_here", "_law_many", "_law_rows", "_law_found", "_law_k", "_law_row"]
theorem sc__law_questions : FnScope N__law_questions ["_law_bag_here", "_law_names_here", "_law_many"] (defScope s__law_questions) := ⟨rfl, rfl, rfl, by decide +kernel, rfl, by decide +kernel, by decide +kernel⟩
abbrev s__law_table : Stmt := top 79
abbrev N__law_table : List Str := ["_law_bag_here", "_law_names_here", "_law_way", "_law_found", "_law_name", "_law_some"]
theorem sc__law_table : FnScope N__law_table ["_law_bag_here", "_law_names_here"] (defScope s__law_table) := ⟨rfl, rfl, rfl, by decide +kernel, rfl, by decide +kernel, by decide +kernel⟩

theorem perm_strs {ys : List V} {ns : List Str} (h : ys.Perm (ns.map V.str)) : ∃ l : List Str, l.Perm ns ∧ ys = l.map V.str := by
  let g : V → Str := fun v => match v with | .str s => s | _ => eS
  refine ⟨ys.map g, ?_, ?_⟩
  · have := h.map g
    rw [List.map_map] at this
    have e : (g ∘ V.str) = id := rfl
    rw [e, List.map_id] at this; exact this
  · have : ∀ y ∈ ys, V.str (g y) = y := fun y hy => by
      obtain ⟨s, _, rfl⟩ := List.mem_map.1 (h.mem_iff.1 hy)
      rfl
    rw [List.map_map]
    exact (List.map_id ys).symm.trans (List.map_congr_left fun y hy => (this y hy).symm)
theorem NamesOk.perm {ns l : List Str} {m : Nat} (h : NamesOk ns m) (p : l.Perm ns) : NamesOk l m := ⟨by rw [p.length_eq]; exact h.len, p.nodup_iff.2 h.nd, fun x hx => h.ok x (p.mem_iff.1 hx)⟩
theorem same_wo2 {b F : Addr} {H H' : Hp} (e : Same (wo [b] H) (wo [b] H')) : Same (wo [b, F] H) (wo [b, F] H') := fun a o ha => by
  by_cases q : a ∈ [b, F]
  · rw [wo_none q] at ha; cases ha
  · have q1 : a ∉ [b] := fun z => q (by simp at z ⊢; exact .inl z)
    rw [wo_at q] at ha ⊢
    have := e a o (by rw [wo_at q1]; exact ha)
    rwa [wo_at q1] at this
theorem same_wo2_upd {b F : Addr} {H : Hp} {o : HO} : Same (wo [b, F] H) (wo [b, F] (upd H F o)) := fun a u ha => by
  by_cases q : a ∈ [b, F]
  · rw [wo_none q] at ha; cases ha
  · have q1 : a ≠ F := fun z => q (by simp [z])
    rw [wo_at q] at ha ⊢
    rw [upd_ne q1]; exact ha
theorem same_wo21 {b F : Addr} {H : Hp} : Same (wo [b, F] H) (wo [b] H) := fun a u ha => by
  by_cases q : a ∈ [b, F]
  · rw [wo_none q] at ha; cases ha
  · have q1 : a ∉ [b] := fun z => q (by simp at z ⊢; exact .inl z)
    rw [wo_at q] at ha; rw [wo_at q1]; exact ha
theorem Drew.at_ {K : PySem.W.Frag} {b ca D : Addr} {o : HO} {H H1 : Hp} {k : Nat} (h : Drew K b ca H H1 k) (nb : D ≠ b) (e : H D = some o) : H1 D = some o := by
  have := h.same D o (by rw [wo_at (by simpa using nb)]; exact e)
  rwa [wo_at (by simpa using nb)] at this
/-- a row of names: a list apart from the bag -/
def RowN (H : Hp) (b : Addr) (ns : List Str) (r : Addr) : Prop := r ≠ b ∧ ∃ l : List Str, l.Perm ns ∧ H r = some (.lst (l.map V.str))
theorem RowN.drew {K : PySem.W.Frag} {b ca : Addr} {H H1 : Hp} {k : Nat} {ns : List Str} {r : Addr} (d : Drew K b ca H H1 k) (h : RowN H b ns r) : RowN H1 b ns r := by
  obtain ⟨n, l, p, e⟩ := h
  exact ⟨n, l, p, d.at_ n e⟩

def spQuests (K : PySem.W.Frag) : Sp := fun vs H Q _ => ∃ b ca a, ∃ ns : List Str, ∃ m n k : Nat, vs = [.ref b, .ref a, .int (n : Int)] ∧ BagAt K H b ca k ∧ k < 80000 ∧ SqL K (wo [b] H) a (ns.map V.str) ∧ NamesOk ns m ∧ 2 ≤ m ∧ m ≤ 6 ∧ n ≤ 9 ∧
  ∀ v H', ∀ qs : List NkQ.Q, (∀ q ∈ qs, VQ6 q) → qs.length = n → Dp K (wo [b] H') v (.list (qs.map encQ)) → Drew K b ca H H' (k + 200) → Q v H'
def spTable (K : PySem.W.Frag) : Sp := fun vs H Q _ => ∃ b ca a, ∃ ns : List Str, ∃ m k : Nat, vs = [.ref b, .ref a] ∧ BagAt K H b ca k ∧ k < 80000 ∧ SqL K (wo [b] H) a (ns.map V.str) ∧ NamesOk ns m ∧ 2 ≤ m ∧ m ≤ 6 ∧
  ∀ d H' t, TabOk t → H d = Option.none → H' d = some (.dK (kt t)) → Drew K b ca H H' (k + 100) → Q (.ref d) H'
section
variable {P : Program} {w : World} {K : PySem.W.Frag} {mg : Str → Option Value} {base : Heap} {c : Ad} {f : Addr} {fd : FuncData} (T : Tx K mg c)
include T
theorem ok_l_questions (F : FnD K "_law_questions" "_law_questions" s__law_questions f fd) (D__law_take : Def P w K mg base "_law_take" 1 ["_law_bag_here", "_law_upto"] (spTake K)) 
    (D__law_mixed : Def P w K mg base "_law_mixed" 2 ["_law_bag_here", "_law_things"] (spMixed K)) (D__law_one : Def P w K mg base "_law_one" 2 ["_law_bag_here", "_law_some"] (spOneL K))
    (D__law_question_of : Def P w K mg base "_law_question_of" 2 ["_law_bag_here", "_law_row"] (spQuest K)) : FnOk P w K mg base CX0 3 f fd ["_law_bag_here", "_law_names_here", "_law_many"] (spQuests K) := by
  refine F.ok sc__law_questions (fun vs H Q E h => ?_) (fun cdv A outer s H vs Q E hr h => ?_)
  · obtain ⟨b, ca, a, ns, m, n, k, rfl, _⟩ := h; rfl
  · obtain ⟨b, ca, a, ns, m, n, k, rfl, hB, hk, hx, N, m2, m6, n9, hq⟩ := h
    refine ⟨_, PSs.nox (pss_cons (ps_par (i := 3) (j := 4) (by rfl) sc__law_questions.nd rfl rfl (by decide) rfl rfl (pa_cons (pe_lc (own := [("_law_k", 5)]) rfl sc__law_questions.nd (pi_range1 (by rfl) T.m_range (pa_cons (pe_op op_add pe_int (pe_def D__law_take (hr.mono (by first | decide | omega)) (pa_cons (pv 0) (pa_cons pe_int pa_nil)))) pa_nil)) (blkOk_by (own := [("_law_k", 5)]) (N := N__law_questions) (by kernel_rfl)) (fun _ _ _ _ _ => (pg_name (i := 5) sc__law_questions.nd rfl (by first | exact Or.inl rfl | exact Or.inr rfl))) (fun _ _ _ _ _ => pts_nil) (fun _ _ _ _ _ => (pe_def D__law_mixed (hr.mono (by first | decide | omega)) (pa_cons (pv 0) (pa_cons (pv 1) pa_nil))))) (pa_cons (pe_lst pa_nil) pa_nil)) (by rfl))
    (pss_cons (ps_for PassesOwn.never rfl (pi_range1 (by rfl) T.m_range (pa_cons (pv 2) pa_nil)) (pg_name (i := 5) sc__law_questions.nd rfl (by first | exact Or.inl rfl | exact Or.inr rfl))
    (pss_cons (ps_set (i := 6) sc__law_questions.nd rfl (by first | exact Or.inl rfl | exact Or.inr rfl) (pe_ifExp (pt_cmpR op_gt (pe_def D__law_take (hr.mono (by first | decide | omega)) (pa_cons (pv 0) (pa_cons pe_int pa_nil))) pe_int (nomark _)) (pe_def D__law_one (hr.mono (by first | decide | omega)) (pa_cons (pv 0) (pa_cons (pv 3) pa_nil))) (pe_def D__law_mixed (hr.mono (by first | decide | omega)) (pa_cons (pv 0) (pa_cons (pv 1) pa_nil)))))
    (pss_one (ps_expr (pe_bm PySem.F.plainAttrs_list PySem.F.slot_list_append PySem.F.type_list_append mt_append (pv 4) (pa_cons (pe_def D__law_question_of (hr.mono (by first | decide | omega)) (pa_cons (pv 0) (pa_cons (pv 6) pa_nil))) pa_nil))))))
    (pss_one (ps_ret (pv 4))))), ?_⟩
    have nl := N.len
    refine ⟨_, rfl, b, ca, 3, k, rfl, hB, by decide, by decide, by omega, fun r H1 r0 r3 hB1 e1 => ?_⟩
    obtain ⟨g, rfl⟩ : ∃ g : Nat, r = (g : Int) := ⟨r.toNat, by omega⟩
    have d1 : Drew K b ca H H1 (k + 1) := ⟨hB1, e1⟩
    have hnm : (1 : Int) + (g : Int) = ((1 + g : Nat) : Int) := by omega
    refine ⟨_, _, rfl, rfl, _, rfl, by omega, by omega, fun D hD => ?_⟩
    obtain ⟨nb, nc⟩ := hB1.off hD
    have hD0 := d1.free hD
    refine lc_range (lo := 0) (n := 1 + g) (fun i H' => Drew K b ca H H' (k + 1 + i * 6) ∧ ∃ rs : List Addr, H' D = some (.lst (rs.map V.ref)) ∧ rs.length = i ∧ ∀ r ∈ rs, r ≠ D ∧ RowN H' b ns r) ?_ ?_ ?_
    · exact ⟨(d1.grow (same_new hD)).mono (by omega), [], upd_same, rfl, by simp⟩
    · rintro i H2 hi ⟨d2, rs, hrs, lrs, arr⟩
      have i3 : i * 6 ≤ 12 := by omega
      refine ⟨rfl, _, rfl, _, rfl, b, ca, a, _, _, rfl, d2.bag, by omega, (by
        have := sqL_ext d2.same hx
        exact this), by rw [List.length_map]; omega, fun r H3 ys hp hr0 hr1 d3 => ?_⟩
      obtain ⟨l, pl, rfl⟩ := perm_strs hp
      rw [List.length_map, nl] at d3
      have hD3 := d3.at_ nb hrs
      have rD : r ≠ D := fun z => by rw [z, hrs] at hr0; cases hr0
      have rb : r ≠ b := (d2.bag.off hr0).1
      have d03 := d2.trans d3
      refine ⟨_, hD3, small1000 (by rw [List.length_map]; omega), ?_⟩
      refine ⟨⟨(d03.bag.upd nb nc).mono (by omega), same_upd_off d03.same nb hD0⟩, rs ++ [r], by rw [upd_same]; simp, by simp [lrs], fun x hx => ?_⟩
      rcases List.mem_append.1 hx with h | h
      · obtain ⟨n1, n2⟩ := arr x h
        obtain ⟨n3, l', p', e'⟩ := n2.drew d3
        exact ⟨n1, n3, l', p', by rw [upd_ne n1]; exact e'⟩
      · obtain rfl : x = r := by simpa using h
        exact ⟨rD, rb, l, pl, by rw [upd_ne rD]; exact hr1⟩
    rintro H2 ⟨d2, rs, hrs, lrs, arr⟩
    refine ⟨Nat.zero_le _, fun F hF => ?_⟩
    obtain ⟨fb, fc⟩ := d2.bag.off hF
    have hF0 := d2.free hF
    have FD : F ≠ D := fun z => by rw [z, hrs] at hF; cases hF
    have e2 := same_new (o := HO.lst []) hF
    have hF2 : (upd H2 F (HO.lst [])) F = some (.lst []) := upd_same
    have hrs2 := e2 _ _ hrs
    have arr2 : ∀ r ∈ rs, RowN (upd H2 F (HO.lst [])) b ns r := fun r hr => by
      obtain ⟨n1, n2, l, p, e⟩ := arr r hr
      exact ⟨n2, l, p, e2 _ _ e⟩
    have d2 := d2.grow e2
    generalize upd H2 F (HO.lst []) = H3 at hF2 hrs2 arr2 d2
    have kl : k + 1 + (1 + g) * 6 ≤ k + 19 := by omega
    have d2 := d2.mono kl
    refine ⟨_, _, rfl, _, rfl, n, rfl, by omega, by omega, forG (n := n) (H0 := wo [b] H) src_range (fun i σ H' => ∃ o5 o6, σ = [some (.ref b), some (.ref a), some (.int (n : Int)), some (.ref D), some (.ref F), o5, o6] ∧ Drew K b ca H H' (k + 19 + i * 9) ∧
      H' D = some (.lst (rs.map V.ref)) ∧ (∀ r ∈ rs, RowN H' b ns r) ∧ ∃ vs, ∃ qs : List NkQ.Q, H' F = some (.lst vs) ∧ DpAll K (wo [b, F] H') vs (qs.map encQ) ∧ qs.length = i ∧ ∀ q ∈ qs, VQ6 q) ?_ ?_ ?_ ?_⟩
    · exact ⟨_, _, rfl, d2.mono (by omega), hrs2, arr2, [], [], hF2, .nil, rfl, by simp⟩
    · rintro i σ H' ⟨_, _, _, d, _⟩; exact d.out
    · rintro i x σ H4 H4' hi ⟨o5, o6, rfl, d4, hrs4, arr4, vs, qs, hF4, dq4, lq4, vq4⟩ e4 hx4
      have d4 := d4.grow e4
      have hrs4 := e4 _ _ hrs4
      have arr4 : ∀ r ∈ rs, RowN H4' b ns r := fun r hr => by
        obtain ⟨n2, l, p, e⟩ := arr4 r hr
        exact ⟨n2, l, p, e4 _ _ e⟩
      have hF4 := e4 _ _ hF4
      have dq4 := dpAll_ext (same_wo2 (F := F) (same_wo (b := b) e4)) dq4
      have i9 : i * 9 ≤ 72 := by omega
      refine seq_join (fun σ' H' => ∃ o5, ∃ r : Addr, σ' = [some (.ref b), some (.ref a), some (.int (n : Int)), some (.ref D), some (.ref F), o5, some (.ref r)] ∧ Drew K b ca H4' H' (k + 19 + i * 9 + 7) ∧ RowN H' b ns r) ?_ ?_
      case refine_2 =>
        intro nx hn
        refine ⟨_, rfl, b, ca, 3, _, rfl, d4.bag, by decide, by decide, by omega, fun r H5 r0 r3 hB5 e5 => ?_⟩
        have d5 : Drew K b ca H4' H5 (k + 19 + i * 9 + 1) := ⟨hB5, e5⟩
        refine ⟨_, _, rfl, rfl, _, rfl, ite2 (fun _ => ?_) (fun _ => ?_)⟩
        · refine ⟨_, rfl, _, rfl, b, ca, D, rs.map V.ref, _, rfl, d5.bag, by omega, ?_, by rw [List.length_map]; omega, by rw [List.length_map]; omega, fun z H6 hz d6 => ?_⟩
          · refine SqL.of ?_
            rw [wo_at (by simpa using nb)]; exact d5.at_ nb hrs4
          · obtain ⟨r, hr, rfl⟩ := List.mem_map.1 hz
            exact hn _ _ ⟨_, r, rfl, (d5.trans d6).mono (by omega), ((arr4 r hr).drew d5).drew d6⟩
        · refine ⟨_, rfl, _, rfl, b, ca, a, _, _, rfl, d5.bag, by omega, sqL_ext (d4.same.trans d5.same) hx, by rw [List.length_map]; omega, fun r H6 ys hp hr0 hr1 d6 => ?_⟩
          obtain ⟨l, pl, rfl⟩ := perm_strs hp
          rw [List.length_map, nl] at d6
          exact hn _ _ ⟨_, r, rfl, (d5.trans d6).mono (by omega), (d5.bag.off hr0).1, l, pl, hr1⟩
      rintro σ' H5 ⟨o5', r, rfl, d5, hrow⟩
      obtain ⟨rb, l, pl, hl⟩ := hrow
      have hF5 := d5.at_ fb hF4
      have hrs5 := d5.at_ nb hrs4
      have arr5 : ∀ r ∈ rs, RowN H5 b ns r := fun r hr => (arr4 r hr).drew d5
      have dq5 := dpAll_ext (same_wo2 (F := F) d5.same) dq4
      refine ⟨_, rfl, .inl ⟨rfl, _, SqL.of hF5⟩, _, rfl, _, rfl, b, ca, r, l, m, _, rfl, d5.bag, by omega, SqL.of (by rw [wo_at (by simpa using rb)]; exact hl), N.perm pl, m2, m6, fun v H6 q vq dq d6 => ?_⟩
      have hF6 := d6.at_ fb hF5
      have lv : vs.length = qs.length := by have := dpAll_len dq5; simpa using this
      refine ⟨F, vs, v, rfl, rfl, hF6, small1000 (by omega), ?_⟩
      have d46 := d5.trans d6
      have d06 := d4.trans d46
      have FDn : D ≠ F := fun z => FD z.symm
      have rne : ∀ r ∈ rs, r ≠ F := fun r hr z => by
        obtain ⟨_, _, _, _, e⟩ := arr r hr
        rw [z, hF] at e; cases e
      have chg : ∀ D ∈ [b, F], ∃ o, H6 D = some o ∧ Chg o := fun D hD => by
        simp at hD
        rcases hD with rfl | rfl
        · exact bag_chg d6.bag _ (by simp)
        · exact ⟨_, hF6, chg_lst _⟩
      refine ⟨_, _, rfl, ⟨(d06.bag.upd fb fc).mono (by omega), same_upd_off d06.same fb hF0⟩, by rw [upd_ne FDn]; exact d6.at_ nb hrs5, fun r hr => ?_, vs ++ [v], qs ++ [q], upd_same, ?_, by simp [lq4], fun x hx => ?_⟩
      · obtain ⟨n2, l', p', e'⟩ := (arr5 r hr).drew d6
        exact ⟨n2, l', p', by rw [upd_ne (rne r hr)]; exact e'⟩
      · rw [List.map_append]
        refine dpAll_ext same_wo2_upd (dpAll_append (dpAll_ext (same_wo2 (F := F) d6.same) dq5) (.cons (wo_dp chg (flat_Q q) dq) .nil))
      · rcases List.mem_append.1 hx with h | h
        · exact vq4 x h
        · obtain rfl : x = q := by simpa using h
          exact vq
    · rintro σ H4 ⟨o5, o6, rfl, d4, hrs4, arr4, vs, qs, hF4, dq4, lq4, vq4⟩
      refine ⟨_, rfl, hq _ H4 qs vq4 lq4 (.lst (SqL.of (by rw [wo_at (by simpa using fb)]; exact hF4)) (dpAll_ext same_wo21 dq4)) (d4.mono (by omega))⟩
theorem ok_l_table (F : FnD K "_law_table" "_law_table" s__law_table f fd) (D__law_take : Def P w K mg base "_law_take" 1 ["_law_bag_here", "_law_upto"] (spTake K)) 
    (D__law_one : Def P w K mg base "_law_one" 2 ["_law_bag_here", "_law_some"] (spOneL K)) : FnOk P w K mg base CX0 3 f fd ["_law_bag_here", "_law_names_here"] (spTable K) := by
  refine F.ok sc__law_table (fun vs H Q E h => ?_) (fun cdv A outer s H vs Q E hr h => ?_)
  · obtain ⟨b, ca, a, ns, m, k, rfl, _⟩ := h; rfl
  · obtain ⟨b, ca, a, ns, m, k, rfl, hB, hk, hx, N, m2, m6, hq⟩ := h
    refine ⟨_, PSs.nox (pss_cons (ps_par (i := 2) (j := 3) (by rfl) sc__law_table.nd rfl rfl (by decide) rfl rfl (pa_cons (pe_def D__law_take (hr.mono (by first | decide | omega)) (pa_cons (pv 0) (pa_cons pe_int pa_nil))) (pa_cons pe_dnewK pa_nil)) (by rfl))
    (pss_cons (ps_for PassesOwn.never rfl (k_piL (K := K) rfl (pv 1)) (pg_name (i := 4) sc__law_table.nd rfl (by first | exact Or.inl rfl | exact Or.inr rfl))
    (pss_one (ps_if (PW.pt (pw_and (pt_cmpR op_gt (pv 2) pe_int (nomark _)) (pw_and1 (pt_cmpR op_gt (pe_def D__law_take (hr.mono (by first | decide | omega)) (pa_cons (pv 0) (pa_cons pe_int pa_nil))) pe_int (nomark _))))) (pss_cons (ps_set (i := 5) sc__law_table.nd rfl (by first | exact Or.inl rfl | exact Or.inr rfl) (pe_lst (pa_cons (pe_op op_add pe_int (pe_def D__law_take (hr.mono (by first | decide | omega)) (pa_cons (pv 0) (pa_cons pe_int pa_nil)))) (pa_cons (pe_op op_add pe_int (pe_def D__law_take (hr.mono (by first | decide | omega)) (pa_cons (pv 0) (pa_cons pe_int pa_nil)))) (pa_cons (pe_def D__law_one (hr.mono (by first | decide | omega)) (pa_cons (pv 0) (pa_cons (pe_lst (pa_cons pe_int (pa_cons pe_int (pa_cons (pe_op op_pow pe_int pe_int) (pa_cons (pe_op op_pow pe_int pe_int) pa_nil))))) pa_nil))) pa_nil)))))
    (pss_one (ps_dput (hu_of hr) (pv 3) (pv 4) (pe_ix (k_ixL (K := K) rfl) (pv 5) (pe_op op_sub (pv 2) pe_int) (fun _ _ => rfl)) rfl))) pss_nil)))
    (pss_one (ps_ret (pv 3))))), ?_⟩
    have nl := N.len
    refine ⟨_, rfl, b, ca, 4, k, rfl, hB, by decide, by decide, by omega, fun r H1 r0 r4 hB1 e1 => ?_⟩
    obtain ⟨wy, rfl⟩ : ∃ g : Nat, r = (g : Int) := ⟨r.toNat, by omega⟩
    have d1 : Drew K b ca H H1 (k + 1) := ⟨hB1, e1⟩
    intro d hd
    obtain ⟨nb, nc⟩ := hB1.off hd
    have hd0 := d1.free hd
    have d1 := d1.grow (same_new (o := HO.dK []) hd)
    refine ⟨_, _, rfl, ?_⟩
    refine ⟨_, rfl, a, rfl, ⟨_, sqL_ext d1.out hx⟩, forG (H0 := wo [b] H) (src_list hx) (fun i σ H' => ∃ o4 o5, σ = [some (.ref b), some (.ref a), some (.int (wy : Int)), some (.ref d), o4, o5] ∧ Drew K b ca H H' (k + 1 + i * 4) ∧
      ∃ t : List (Str × Int), H' d = some (.dK (kt t)) ∧ (t.map (·.1)).Sublist (ns.take i) ∧ ∀ p ∈ t, 1 ≤ p.2 ∧ p.2 ≤ 10 ^ 30) ?_ ?_ ?_ ?_⟩
    · exact ⟨_, _, rfl, d1.mono (by omega), [], upd_same, by simp, by simp⟩
    · rintro i σ H' ⟨_, _, _, d, _⟩; exact d.out
    · rintro i x σ H2 H2' hi ⟨o4, o5, rfl, d2, t, hdt, hsub, hw⟩ e2 hx2
      rw [List.length_map] at hi
      have d2 := d2.grow e2
      have hdt := e2 _ _ hdt
      have gx : ns[i]? = some ns[i] := List.getElem?_eq_getElem hi
      rw [List.getElem?_map, gx] at hx2
      cases hx2
      have tk : ns.take (i + 1) = ns.take i ++ [ns[i]] := by rw [List.take_add_one, gx]; rfl
      have i4 : i * 4 ≤ 20 := by omega
      have stay : ∀ H4, Drew K b ca H2' H4 (k + 1 + i * 4 + 4) → Drew K b ca H H4 (k + 1 + (i + 1) * 4) ∧ H4 d = some (.dK (kt t)) ∧ (t.map (·.1)).Sublist (ns.take (i + 1)) := fun H4 d4 =>
        ⟨(d2.trans d4).mono (by omega), d4.at_ nb hdt, by rw [tk]; exact hsub.trans (List.sublist_append_left _ _)⟩
      refine ⟨_, rfl, _, _, rfl, rfl, _, rfl, ite2 (fun hw0 => ?_) (fun hw0 => ?_)⟩
      case refine_2 =>
        obtain ⟨s1, s2, s3⟩ := stay _ ⟨d2.bag.mono (by omega), Same.refl _⟩
        exact iF rfl ⟨_, _, rfl, s1, t, s2, s3, hw⟩
      have wy0 : 0 < wy := by simpa using hw0
      refine ⟨_, rfl, b, ca, 3, _, rfl, d2.bag, by decide, by decide, by omega, fun r3 H3 r30 r33 hB3 e3 => ?_⟩
      have d3 : Drew K b ca H2' H3 (k + 1 + i * 4 + 1) := ⟨hB3, e3⟩
      refine ⟨_, _, rfl, rfl, _, rfl, ite2 (fun _ => ?_) (fun _ => ?_)⟩
      case refine_2 =>
        obtain ⟨s1, s2, s3⟩ := stay _ (d3.mono (by omega))
        exact ⟨_, _, rfl, s1, t, s2, s3, hw⟩
      refine ⟨_, rfl, b, ca, 9, _, rfl, d3.bag, by decide, by decide, by omega, fun a0 H4 a00 a09 hB4 e4 => ⟨_, _, rfl, rfl, ?_⟩⟩
      have d4 : Drew K b ca H2' H4 (k + 1 + i * 4 + 2) := ⟨hB4, d3.same.trans e4⟩
      refine ⟨_, rfl, b, ca, 3, _, rfl, d4.bag, by decide, by decide, by omega, fun a1 H5 a10 a13 hB5 e5 => ⟨_, _, rfl, rfl, ?_⟩⟩
      have d5 : Drew K b ca H2' H5 (k + 1 + i * 4 + 3) := ⟨hB5, d4.same.trans e5⟩
      refine ⟨_, rfl, _, _, rfl, rfl, ⟨by decide, by decide, by decide⟩, _, _, rfl, rfl, ⟨by decide, by decide, by decide⟩, by show 4 ≤ sizeLine; decide, fun l hl => ?_⟩
      have lb : l ≠ b := (d5.bag.off hl).1
      have d6 := d5.grow (same_new (o := HO.lst [V.int 1, V.int 7, V.int (10 ^ (29 : Int).toNat), V.int (10 ^ (30 : Int).toNat)]) hl)
      refine ⟨b, ca, l, [V.int 1, V.int 7, V.int (10 ^ (29 : Int).toNat), V.int (10 ^ (30 : Int).toNat)], _, rfl, d6.bag, by omega, SqL.of (by rw [wo_at (by simpa using lb)]; exact upd_same), by decide, by decide, fun z H6 hz d7 => ?_⟩
      obtain ⟨wv, rfl, w1, w2⟩ : ∃ wv : Int, z = .int wv ∧ 1 ≤ wv ∧ wv ≤ 10 ^ 30 := by
        simp only [List.mem_cons, List.not_mem_nil, or_false] at hz
        rcases hz with rfl | rfl | rfl | rfl
        · exact ⟨_, rfl, by decide, by decide⟩
        · exact ⟨_, rfl, by decide, by decide⟩
        · exact ⟨_, rfl, by decide +kernel, by decide +kernel⟩
        · exact ⟨_, rfl, by decide +kernel, by decide +kernel⟩
      have d27 := d6.trans d7
      refine ⟨by show 3 ≤ sizeLine; decide, fun p hp => ?_⟩
      have pb : p ≠ b := (d27.bag.off hp).1
      have hdt7 := d27.at_ nb hdt
      have d8 := d27.grow (same_new (o := HO.lst [V.int (1 + a0), V.int (1 + a1), V.int wv]) hp)
      have pd : d ≠ p := fun z => by rw [z, hp] at hdt7; cases hdt7
      obtain ⟨v, hv, v1, v2⟩ : ∃ v : Int, atI [V.int (1 + a0), V.int (1 + a1), V.int wv] ((wy : Int) - 1) = some (.int v) ∧ 1 ≤ v ∧ v ≤ 10 ^ 30 := by
        have h30 : (9 : Int) ≤ 10 ^ 30 := by decide
        have : wy = 1 ∨ wy = 2 ∨ wy = 3 := by omega
        rcases this with rfl | rfl | rfl
        · exact ⟨1 + a0, atI_nat (j := 0) rfl, by omega, by omega⟩
        · exact ⟨1 + a1, atI_nat (j := 1) rfl, by omega, by omega⟩
        · exact ⟨wv, atI_nat (j := 2) rfl, w1, w2⟩
      have hdt8 := (same_new (o := HO.lst [V.int (1 + a0), V.int (1 + a1), V.int wv]) hp) _ _ hdt7
      have hnew : ns[i] ∉ t.map (·.1) := fun z => by
        have h1 := hsub.subset z
        have h2 := N.nd
        rw [← List.take_append_drop i ns, List.nodup_append] at h2
        exact h2.2.2 _ h1 _ (List.mem_iff_getElem.2 ⟨0, by rw [List.length_drop]; omega, by simp⟩) rfl
      have tl : t.length ≤ 6 := by
        have := hsub.length_le
        rw [List.length_map, List.length_take] at this; omega
      refine ⟨_, rfl, _, rfl, _, _, rfl, rfl, p, _, _, _, rfl, rfl, SqL.of upd_same, hv, _, rfl, _, rfl, d, _, rfl, DPut.k (k := Sum.inr ns[i]) hdt8 (small1000 (by unfold kt; rw [List.length_map]; omega)), ?_⟩
      have kn : putK (kt t) (Sum.inr ns[i]) (V.int v) = kt (t ++ [(ns[i], v)]) := by
        rw [putK_new _ (by
          rw [kt_get, Option.map_eq_none_iff, List.find?_eq_none]
          intro q hq z
          exact hnew (List.mem_map.2 ⟨q, hq, by simpa using z⟩))]
        unfold kt; simp
      rw [kn]
      have d9 := d2.trans d8
      refine ⟨_, _, rfl, ⟨(d9.bag.upd nb nc).mono (by omega), same_upd_off d9.same nb hd0⟩, t ++ [(ns[i], v)], upd_same, ?_, fun q hq => ?_⟩
      · rw [tk, List.map_append]; exact hsub.append (List.Sublist.refl _)
      · rcases List.mem_append.1 hq with h | h
        · exact hw q h
        · obtain rfl : q = (ns[i], v) := by simpa using h
          exact ⟨v1, v2⟩
    · rintro σ H2 ⟨o4, o5, rfl, d2, t, hdt, hsub, hw⟩
      refine ⟨_, rfl, hq d H2 t ⟨?_, fun p hp => ?_, hw, ?_⟩ hd0 hdt (d2.mono (by rw [List.length_map]; omega))⟩
      · exact (hsub.trans (List.take_sublist _ _)).nodup N.nd
      · exact N.ok _ ((hsub.trans (List.take_sublist _ _)).subset (List.mem_map.2 ⟨p, hp, rfl⟩))
      · have := (hsub.trans (List.take_sublist _ _)).length_le
        rw [List.length_map] at this; omega
end
end NkW
end
section
set_option Elab.async false
set_option linter.all false
set_option maxRecDepth 100000
set_option maxHeartbeats 2000000
/-! the law's looks: all, below, share, serves -/
namespace NkW
open PySem PySem.Spec PyProof.Rows L2 NkO NkR NkS NkQ NkM
abbrev s__law_all : Stmt := top 72
abbrev N__law_all : List Str := ["_law_question"]
theorem sc__law_all : FnScope N__law_all ["_law_question"] (defScope s__law_all) := ⟨rfl, rfl, rfl, by decide +kernel, rfl, by decide +kernel, by decide +kernel⟩
abbrev s__law_below : Stmt := top 73
abbrev N__law_below : List Str := ["_law_one_here", "_law_other", "_law_column"]
theorem sc__law_below : FnScope N__law_below ["_law_one_here", "_law_other"] (defScope s__law_below) := ⟨rfl, rfl, rfl, by decide +kernel, rfl, by decide +kernel, by decide +kernel⟩
abbrev s__law_share : Stmt := top 74
abbrev N__law_share : List Str := ["_law_one_here", "_law_other"]
theorem sc__law_share : FnScope N__law_share ["_law_one_here", "_law_other"] (defScope s__law_share) := ⟨rfl, rfl, rfl, by decide +kernel, rfl, by decide +kernel, by decide +kernel⟩
abbrev s__law_serves : Stmt := top 75
abbrev N__law_serves : List Str := ["_law_index", "_law_question", "_law_many"]
theorem sc__law_serves : FnScope N__law_serves ["_law_index", "_law_question"] (defScope s__law_serves) := ⟨rfl, rfl, rfl, by decide +kernel, rfl, by decide +kernel, by decide +kernel⟩
abbrev s__law_is_served : Stmt := top 76
abbrev N__law_is_served : List Str := ["_law_rows", "_law_question", "_law_row"]
theorem sc__law_is_served : FnScope N__law_is_served ["_law_rows", "_law_question"] (defScope s__law_is_served) := ⟨rfl, rfl, rfl, by decide +kernel, rfl, by decide +kernel, by decide +kernel⟩

def spAll (K : PySem.W.Frag) : Sp := fun vs H Q _ => ∃ v q, vs = [v] ∧ Dp K H v (encQ q) ∧ VQ6 q ∧ ∀ v' H', Same H H' → Df K H H' v' (.list ((allQ q).map PyData.str)) → Q v' H'
def spServes (K : PySem.W.Frag) : Sp := fun vs H Q _ => ∃ v u l q, vs = [v, u] ∧ Dp K H v (encL l) ∧ (∀ x ∈ l, okC x = true) ∧ l.length ≤ 60 ∧ Dp K H u (encQ q) ∧ VQ6 q ∧ ∀ H', Same H H' → Q (.bl (serves l q)) H'
def spServed (K : PySem.W.Frag) : Sp := fun vs H Q _ => ∃ v u, ∃ rs : List (List Str), ∃ q, vs = [v, u] ∧ Dp K H v (.list (rs.map encL)) ∧ (∀ r ∈ rs, (∀ x ∈ r, okC x = true) ∧ r.length ≤ 60) ∧ rs.length ≤ 48 ∧ Dp K H u (encQ q) ∧ VQ6 q ∧ ∀ H', Same H H' → Q (.bl (rs.any fun r => serves r q)) H'
theorem shaped_rows {qs : List (List Str)} (h : ∀ i ∈ qs, ∀ x ∈ i, okC x = true) : SeqAt.shaped (.list (qs.map encL)) = true := by
  have := depthAll_Ls qs
  unfold SeqAt.shaped
  simp only [Bool.and_eq_true, decide_eq_true_eq]
  exact ⟨by simp [PyData.canLay0, lay_Ls h], by simp [PyData.depth]; omega⟩
theorem rd_slA {K : PySem.W.Frag} {H : Hp} {a : Addr} {l m : List Str} {lo hi : Option Int} {Q : VK} (h : SqT K H a (l.map V.str)) (e : cutV (l.map V.str) lo hi = m.map V.str) (k : ∀ p H', Same H H' → SqT K H' p (m.map V.str) → Q (.ref p) H') : rSlA K (.ref a) lo hi H Q := by
  refine ⟨a, _, rfl, h, fun z => k a H (Same.refl _) ?_, fun _ p hp => k p _ (same_new hp) (SqT.of (by rw [upd_same, e]))⟩
  unfold cutV at e
  rw [z.1, z.2, List.drop_zero, Nat.sub_zero, List.take_of_length_le (Nat.le_refl _)] at e
  rw [← e]; exact h
theorem cut_one {xs : List V} {i : Nat} : cutV xs (some (i : Int)) (some ((i : Int) + 1)) = (xs.drop i).take 1 := by
  have : (i : Int) + 1 = ((i + 1 : Nat) : Int) := by omega
  rw [this, cut_nat]
  by_cases h : i < xs.length
  · rw [Nat.min_eq_left (by omega), Nat.min_eq_left (by omega)]; congr 1; omega
  · rw [Nat.min_eq_right (by omega), Nat.min_eq_right (by omega), Nat.sub_self, List.drop_of_length_le (Nat.le_refl _), List.drop_of_length_le (by omega)]; simp
section
variable {P : Program} {w : World} {K : PySem.W.Frag} {mg : Str → Option Value} {base : Heap} {c : Ad} {f : Addr} {fd : FuncData} (T : Tx K mg c)
include T
theorem ok_l_all (F : FnD K "_law_all" "_law_all" s__law_all f fd) : FnOk P w K mg base CX0 1 f fd ["_law_question"] (spAll K) := by
  refine F.ok sc__law_all (fun vs H Q E h => ?_) (fun cdv A outer s H vs Q E hr h => ?_)
  · obtain ⟨v, q, rfl, _⟩ := h; rfl
  · obtain ⟨v, q, rfl, hd, hv, hq⟩ := h
    obtain ⟨a, t, rfl, hs, ht, hdt⟩ := dpQ hd
    refine ⟨_, PSs.nox (pss_one (ps_ret (pe_op op_cat (pe_callTy (k_list (K := K) rfl) (by rfl) T.m_list (by decide +kernel) (pa_cons (pe_ix (k_ixT (K := K) rfl) (pv 0) pe_int (fun _ _ => rfl)) pa_nil)) (pe_op op_rep (pe_lst (pa_cons (pe_ix (k_ixT (K := K) rfl) (pv 0) pe_int (fun _ _ => rfl)) pa_nil)) (pe_callTy call_int1 (by rfl) T.m_int (by decide +kernel) (pa_cons (pe_cmpR op_ne (pe_ix (k_ixT (K := K) rfl) (pv 0) pe_int (fun _ _ => rfl)) pe_str (nomark _)) pa_nil)))))), ?_⟩
    have n48 := hv.n
    refine ⟨_, rfl, a, _, _, _, rfl, rfl, hs, atI_nat (j := 0) rfl, t, _, rfl, .inr ht, fun p hp => ?_⟩
    have e1 := same_new (o := HO.lst (q.1.map V.str)) hp
    have hp1 : (upd H p (HO.lst (q.1.map V.str))) p = some (.lst (q.1.map V.str)) := upd_same
    generalize upd H p (HO.lst (q.1.map V.str)) = H1 at e1 hp1
    refine ⟨_, rfl, a, _, _, _, rfl, rfl, sqT_ext e1 hs, atI_nat (j := 1) rfl, by show 1 ≤ sizeLine; decide, fun r hr' => ?_⟩
    have e2 := same_new (o := HO.lst [V.str q.2]) hr'
    have hr1 : (upd H1 r (HO.lst [V.str q.2])) r = some (.lst [V.str q.2]) := upd_same
    generalize upd H1 r (HO.lst [V.str q.2]) = H2 at e2 hr1
    refine ⟨_, rfl, a, _, _, _, rfl, rfl, sqT_ext (e1.trans e2) hs, atI_nat (j := 1) rfl, rfl, .inr ⟨_, rfl, ?_⟩⟩
    have key : ∀ i : Nat, i ≤ 1 → (List.replicate i [V.str q.2]).flatten = (lastM q).map V.str → ∃ l k xs, V.ref r = .ref l ∧ V.int (i : Int) = .int k ∧ H2 l = some (.lst xs) ∧ -(2 ^ 63) ≤ k ∧ k < 2 ^ 63 ∧ xs.length * k.toNat ≤ sizeLine ∧ ∀ p', H2 p' = Option.none → rCat (.ref p) (.ref p') (upd H2 p' (.lst (List.replicate k.toNat xs).flatten)) Q := fun i hi hf => by
      refine ⟨r, i, _, rfl, rfl, hr1, by omega, by omega, ?_, fun u hu => ?_⟩
      · show 1 * i ≤ sizeLine
        exact Nat.le_trans (by omega : 1 * i ≤ 1) (by decide)
      · have e3 := same_new (o := HO.lst (List.replicate (i : Int).toNat [V.str q.2]).flatten) hu
        refine ⟨p, u, _, _, rfl, rfl, e3 _ _ (e2 _ _ hp1), upd_same, ?_, fun z hz => ?_⟩
        · rw [Int.toNat_natCast, hf]; simp only [List.length_map]
          refine Nat.le_of_lt (small1000 ?_)
          unfold lastM
          split <;> simp <;> omega
        · have e4 := (e1.trans e2).trans e3
          refine hq _ _ (e4.trans (same_new hz)) ?_
          have : q.1.map V.str ++ (List.replicate (i : Int).toNat [V.str q.2]).flatten = (allQ q).map V.str := by
            rw [Int.toNat_natCast, hf]; unfold allQ lastM; rw [List.map_append]
          rw [this]
          exact .lst (e4.free hz) upd_same (dfAll_strs _)
    by_cases z : q.2 = eS
    · have := key 0 (by omega) (by unfold lastM; rw [if_pos z]; rfl)
      rw [show (!decide (V.str q.2 = V.str (Str.ofString ""))) = false by rw [z]; rfl]
      exact this
    · have := key 1 (by omega) (by unfold lastM; rw [if_neg z]; rfl)
      rw [show (!decide (V.str q.2 = V.str (Str.ofString ""))) = true by simp [z]]
      exact this
theorem ok_l_below (F : FnD K "_law_below" "_law_below" s__law_below f fd) (D__law_all : Def P w K mg base "_law_all" 1 ["_law_question"] (spAll K)) : FnOk P w K mg base CX0 2 f fd ["_law_one_here", "_law_other"] (spBelow K) := by
  refine F.ok sc__law_below (fun vs H Q E h => ?_) (fun cdv A outer s H vs Q E hr h => ?_)
  · obtain ⟨v, u, x, y, rfl, _⟩ := h; rfl
  · obtain ⟨v, u, x, y, rfl, hd, he, hx, hy, hq⟩ := h
    refine ⟨_, PSs.nox (pss_one (ps_ret (pe_and (pe_cmpR (k_neD (K := K) rfl (hu64 hr)) (pv 0) (pv 1) (nomark _)) (pe_one (pe_cmpR (k_eqD (K := K) rfl (hu64 hr)) (pe_lc (own := [("_law_column", 2)]) rfl sc__law_below.nd (k_piL (K := K) rfl (pe_def D__law_all (hr.mono (by first | decide | omega)) (pa_cons (pv 0) pa_nil))) (blkOk_by (own := [("_law_column", 2)]) (N := N__law_below) (by kernel_rfl)) (fun _ _ _ _ _ => (pg_name (i := 2) sc__law_below.nd rfl (by first | exact Or.inl rfl | exact Or.inr rfl))) (fun _ _ _ _ _ => (pts_one (pt_cmpR (k_notIn (K := K) rfl) (pv 2) (pe_ix (k_ixT (K := K) rfl) (pv 1) pe_int (fun _ _ => rfl)) rfl))) (fun _ _ _ _ _ => (pv 2))) (pe_lst pa_nil) (nomark _)))))), ?_⟩
    obtain ⟨b, t, rfl, hs, ht, hdt⟩ := dpQ he
    refine ⟨_, rfl, _, rfl, encQ x, encQ y, hd, he, shaped_Q hx.v, shaped_Q hy.v, _, rfl, ?_⟩
    rw [eqv_Q]
    by_cases z : x = y
    · rw [z] at hq ⊢
      rw [below_irr] at hq
      exact iF (by simp) (hq _ (Same.refl _))
    refine iT (by simp [z]) ?_
    refine ⟨_, rfl, v, x, rfl, hd, hx, fun v' H1 e1 d1 => ?_⟩
    have hal : (allQ x).length ≤ 49 := by
      unfold allQ
      have := hx.n
      split <;> simp <;> omega
    cases d1 with
    | @lst a xs _ h0 hl hda =>
    have hxs := dpAll_toStrs hda.dp
    subst hxs
    have hs1 := sqT_ext e1 hs
    refine ⟨a, rfl, ⟨_, SqL.of hl⟩, fun D hD => lcG (K := K) (src_list (SqL.of hl)) (Same.refl _) hD (allQ x) (by simp) (by rw [List.length_map]; exact small1000 (by omega)) (fun s => !decide (s ∈ y.1)) PyData.str ?_ ?_⟩
    · rintro i s x' H2 R hi e2 hx' hyes hno
      rw [List.getElem?_map, hi] at hx'
      cases hx'
      refine ⟨rfl, _, rfl, _, rfl, b, _, _, _, rfl, rfl, sqT_ext e2 hs1, atI_nat (j := 0) rfl, t, _, rfl, .inr (sqT_ext (e1.trans e2) ht), rfl, by simp [flatV], _, rfl, ?_⟩
      rw [inV_strs]
      by_cases m : s ∈ y.1
      · exact iF (by simp [m]) (hno _ (by simp [m]) (Same.refl _))
      · exact iT (by simp [m]) ⟨_, rfl, hyes _ _ (by simp [m]) (Same.refl _) (.str _)⟩
    · intro H2 e2 d2
      refine ⟨Nat.zero_le _, fun p hp => ?_⟩
      have e3 := same_new (o := HO.lst []) hp
      have hok : ∀ s ∈ (allQ x).filter (fun s => !decide (s ∈ y.1)), okC s = true := fun s hs => all_ok hx.v s (List.mem_filter.1 hs).1
      refine ⟨_, .list [], (d2.ext e3).dp, .lst (SqL.of upd_same) .nil, shaped_Ls hok, by decide, ?_⟩
      have hb : PyData.eqv (.list (((allQ x).filter (fun s => !decide (s ∈ y.1))).map PyData.str)) (.list []) = below x y := by
        have := eqv_Ls ((allQ x).filter (fun s => !decide (s ∈ y.1))) []
        rw [show ([] : List PyData) = ([] : List Str).map PyData.str from rfl, this]
        rw [Bool.eq_iff_iff, below_iff, decide_eq_true_eq, List.filter_eq_nil_iff]
        constructor
        · intro h; exact ⟨z, fun s hs => by simpa using h s hs⟩
        · rintro ⟨_, h⟩ s hs; simpa using h s hs
      rw [hb]
      exact hq _ ((e1.trans e2).trans e3)
theorem ok_l_share (F : FnD K "_law_share" "_law_share" s__law_share f fd) (D__law_below : Def P w K mg base "_law_below" 2 ["_law_one_here", "_law_other"] (spBelow K)) : FnOk P w K mg base CX0 3 f fd ["_law_one_here", "_law_other"] (spShare K) := by
  refine F.ok sc__law_share (fun vs H Q E h => ?_) (fun cdv A outer s H vs Q E hr h => ?_)
  · obtain ⟨v, u, x, y, rfl, _⟩ := h; rfl
  · obtain ⟨v, u, x, y, rfl, hd, he, hx, hy, hq⟩ := h
    refine ⟨_, PSs.nox (pss_one (ps_ret (pe_or (pe_cmpR (k_eqD (K := K) rfl (hu64 hr)) (pv 0) (pv 1) (nomark _)) (pe_or (pe_def D__law_below (hr.mono (by first | decide | omega)) (pa_cons (pv 0) (pa_cons (pv 1) pa_nil))) (pe_one (pe_def D__law_below (hr.mono (by first | decide | omega)) (pa_cons (pv 1) (pa_cons (pv 0) pa_nil)))))))), ?_⟩
    refine ⟨_, rfl, _, rfl, encQ x, encQ y, hd, he, shaped_Q hx.v, shaped_Q hy.v, _, rfl, ?_⟩
    rw [eqv_Q]
    unfold share at hq
    by_cases z : x = y
    · refine iT (by simp [z]) ?_
      have := hq _ (Same.refl _)
      simpa [z] using this
    refine iF (by simp [z]) ?_
    refine ⟨_, rfl, _, rfl, v, u, x, y, rfl, hd, he, hx, hy, fun H1 e1 => ⟨_, rfl, ?_⟩⟩
    cases b1 : below x y with
    | true =>
      refine iT rfl ?_
      have := hq _ e1
      simpa [z, b1] using this
    | false =>
      refine iF rfl ?_
      refine ⟨_, rfl, _, rfl, u, v, y, x, rfl, dp_ext e1 he, dp_ext e1 hd, hy, hx, fun H2 e2 => ?_⟩
      have := hq _ (e1.trans e2)
      simpa [z, b1] using this
theorem ok_l_serves (F : FnD K "_law_serves" "_law_serves" s__law_serves f fd) : FnOk P w K mg base CX0 1 f fd ["_law_index", "_law_question"] (spServes K) := by
  refine F.ok sc__law_serves (fun vs H Q E h => ?_) (fun cdv A outer s H vs Q E hr h => ?_)
  · obtain ⟨v, u, l, q, rfl, _⟩ := h; rfl
  · obtain ⟨v, u, l, q, rfl, hd, hl, l48, he, hv, hq⟩ := h
    refine ⟨_, PSs.nox (pss_cons (ps_set (i := 2) sc__law_serves.nd rfl (by first | exact Or.inl rfl | exact Or.inr rfl) (pe_callB (k_len (K := K) rfl) (by rfl) T.m_len (by decide +kernel) (pa_cons (pe_ix (k_ixT (K := K) rfl) (pv 1) pe_int (fun _ _ => rfl)) pa_nil)))
    (pss_cons (ps_if (pt_cmpR (k_neD (K := K) rfl (hu64 hr)) (pe_callB (k_sort (K := K) (w := w) NkQ.encS rfl rfl hr rfl) (by rfl) T.m_sorted (by decide +kernel) (pa_cons (pe_slice (k_slT (K := K) rfl) (pv 0) po_none (po_some (pv 2))) pa_nil)) (pe_callTy (k_list (K := K) rfl) (by rfl) T.m_list (by decide +kernel) (pa_cons (pe_ix (k_ixT (K := K) rfl) (pv 1) pe_int (fun _ _ => rfl)) pa_nil)) (nomark _)) (pss_one (ps_ret pe_bl)) pss_nil)
    (pss_one (ps_ret (pe_or (pe_cmpR op_eq (pe_ix (k_ixT (K := K) rfl) (pv 1) pe_int (fun _ _ => rfl)) pe_str (nomark _)) (pe_one (pe_cmpR (k_eqD (K := K) rfl (hu64 hr)) (pe_callTy (k_list (K := K) rfl) (by rfl) T.m_list (by decide +kernel) (pa_cons (pe_slice (k_slT (K := K) rfl) (pv 0) (po_some (pv 2)) (po_some (pe_op op_add (pv 2) pe_int))) pa_nil)) (pe_lst (pa_cons (pe_ix (k_ixT (K := K) rfl) (pv 1) pe_int (fun _ _ => rfl)) pa_nil)) (nomark _)))))))), ?_⟩
    obtain ⟨a, rfl, ha⟩ := dpL hd
    obtain ⟨b, t, rfl, hs, ht, hdt⟩ := dpQ he
    have n48 := hv.n
    refine ⟨_, rfl, b, _, _, _, rfl, rfl, hs, atI_nat (j := 0) rfl, t, _, rfl, .inr ht, ?_⟩
    refine ⟨_, rfl, _, rfl, _, rfl, rd_slA ha (m := l.take q.1.length) (by rw [List.length_map, cut_to, List.map_take]) fun p H1 e1 hp1 => ?_⟩
    refine tN ?_
    have lt : (l.take q.1.length).length ≤ 60 := by rw [List.length_take]; omega
    have tok : ∀ x ∈ l.take q.1.length, okC x = true := fun x hx => hl x (List.mem_of_mem_take hx)
    refine rd_sort asmS (.inr hp1) (dpAll_strs _) (by omega) (good_S _) fun r H2 e2 hr2 d2 => ?_
    have d2 : Df K H1 H2 (.ref r) (.list ((srt encS (l.take q.1.length)).map PyData.str)) := d2
    have e12 := e1.trans e2
    refine ⟨_, rfl, b, _, _, _, rfl, rfl, sqT_ext e12 hs, atI_nat (j := 0) rfl, t, _, rfl, .inr (sqT_ext e12 ht), fun u hu => ?_⟩
    have e3 := same_new (o := HO.lst (q.1.map V.str)) hu
    have e13 := e12.trans e3
    refine ⟨_, .list (q.1.map PyData.str), (d2.ext e3).dp, .lst (SqL.of upd_same) (dpAll_strs _), shaped_Ls (fun x hx => tok x ((srt_perm _ _).mem_iff.1 hx)), shaped_Ls hv.v.col, _, rfl, ?_⟩
    rw [eqv_Ls]
    by_cases z : srtS (l.take q.1.length) = q.1
    case neg =>
      refine iT (by simp [z]) ?_
      have := hq _ e13
      rw [show serves l q = false by unfold serves; simp [z]] at this
      exact this
    refine iF (by simp [z]) ?_
    have hs3 := sqT_ext e13 hs
    refine ⟨_, rfl, b, _, _, _, rfl, rfl, hs3, atI_nat (j := 1) rfl, rfl, _, rfl, ?_⟩
    by_cases y : q.2 = eS
    · refine iT (by simp [y]) ?_
      have := hq _ e13
      rw [show serves l q = true by unfold serves; simp [z, y]] at this
      exact this
    refine iF (by simp [y]) ?_
    refine ⟨_, rfl, _, rfl, _, rfl, _, rfl, _, _, rfl, rfl, _, rfl, rd_slA (sqT_ext e13 ha) (m := (l.drop q.1.length).take 1) (by rw [List.length_map, cut_one, List.map_take, List.map_drop]) fun p4 H4 e4 hp4 => ?_⟩
    refine ⟨p4, _, rfl, .inr hp4, fun p5 hp5 => ?_⟩
    have e5 := same_new (o := HO.lst (((l.drop q.1.length).take 1).map V.str)) hp5
    have e45 := e4.trans e5
    refine ⟨_, rfl, b, _, _, _, rfl, rfl, sqT_ext e45 hs3, atI_nat (j := 1) rfl, by show 1 ≤ sizeLine; decide, fun p6 hp6 => ?_⟩
    have e6 := same_new (o := HO.lst [V.str q.2]) hp6
    refine ⟨.list (((l.drop q.1.length).take 1).map PyData.str), .list ([q.2].map PyData.str), .lst (SqL.of (e6 _ _ upd_same)) (dpAll_strs _), .lst (SqL.of upd_same) (dpAll_strs [q.2]), shaped_Ls (fun x hx => hl x (List.mem_of_mem_drop (List.mem_of_mem_take hx))), shaped_Ls (fun x hx => ?_), ?_⟩
    · obtain rfl : x = q.2 := by simpa using hx
      exact (hv.v.last.resolve_left y).1
    · rw [eqv_Ls]
      have := hq _ ((e13.trans e45).trans e6)
      rw [show serves l q = decide ((l.drop q.1.length).take 1 = [q.2]) by unfold serves; simp [z, y]] at this
      exact this
theorem ok_l_is_served (F : FnD K "_law_is_served" "_law_is_served" s__law_is_served f fd) (D__law_serves : Def P w K mg base "_law_serves" 1 ["_law_index", "_law_question"] (spServes K)) : FnOk P w K mg base CX0 2 f fd ["_law_rows", "_law_question"] (spServed K) := by
  refine F.ok sc__law_is_served (fun vs H Q E h => ?_) (fun cdv A outer s H vs Q E hr h => ?_)
  · obtain ⟨v, u, rs, q, rfl, _⟩ := h; rfl
  · obtain ⟨v, u, rs, q, rfl, hd, hl, l48, he, hv, hq⟩ := h
    refine ⟨_, PSs.nox (pss_one (ps_ret (pe_cmpR (k_neD (K := K) rfl (hu64 hr)) (pe_lc (own := [("_law_row", 2)]) rfl sc__law_is_served.nd (k_piL (K := K) rfl (pv 0)) (blkOk_by (own := [("_law_row", 2)]) (N := N__law_is_served) (by kernel_rfl)) (fun _ _ _ _ _ => (pg_name (i := 2) sc__law_is_served.nd rfl (by first | exact Or.inl rfl | exact Or.inr rfl))) (fun _ _ _ _ _ => (pts_one (pt_val (pe_def D__law_serves (hr.mono (by first | decide | omega)) (pa_cons (pv 2) (pa_cons (pv 1) pa_nil)))))) (fun _ _ _ _ _ => (pv 2))) (pe_lst pa_nil) (nomark _)))), ?_⟩
    obtain ⟨a, vs, rfl, hs, hda⟩ : ∃ a vs, v = .ref a ∧ SqL K H a vs ∧ DpAll K H vs (rs.map encL) := by
      cases hd with | lst hs ha => exact ⟨_, _, rfl, hs, ha⟩
    have lv : vs.length = rs.length := by have := dpAll_len hda; simpa using this
    refine ⟨_, rfl, a, rfl, ⟨_, hs⟩, fun D hD => lcG (K := K) (src_list hs) (Same.refl _) hD rs lv.symm (by rw [lv]; exact small1000 (by omega)) (fun r => serves r q) encL ?_ ?_⟩
    · rintro i r x H2 R hi e2 hx hyes hno
      obtain ⟨d, k1, k2⟩ := dpAll_get hda hx
      rw [List.getElem?_map, hi] at k1
      cases k1
      obtain ⟨o1, o2⟩ := hl r (List.mem_of_getElem? hi)
      refine ⟨rfl, _, rfl, _, rfl, x, u, r, q, rfl, dp_ext e2 k2, o1, o2, dp_ext e2 he, hv, fun H3 e3 => ⟨_, rfl, ?_⟩⟩
      cases z : serves r q with
      | true => exact iT rfl ⟨_, rfl, hyes _ _ z e3 (df_of_dp _ _ (flat_L _) (dp_ext (e2.trans e3) k2))⟩
      | false => exact iF rfl (hno _ z e3)
    · intro H2 e2 d2
      refine ⟨Nat.zero_le _, fun p hp => ?_⟩
      have e3 := same_new (o := HO.lst []) hp
      refine ⟨_, .list [], (d2.ext e3).dp, .lst (SqL.of upd_same) .nil, shaped_rows (fun r hr => (hl r (List.mem_filter.1 hr).1).1), by decide, ?_⟩
      have := hq _ (e2.trans e3)
      have hb : (!PyData.eqv (.list ((rs.filter fun r => serves r q).map encL)) (.list [])) = rs.any fun r => serves r q := by
        cases z : rs.filter (fun r => serves r q) with
        | nil =>
          have : (rs.any fun r => serves r q) = false := by
            rw [List.any_eq_false]
            exact fun x hx => by simpa using List.filter_eq_nil_iff.1 z x hx
          rw [this]; rfl
        | cons x l =>
          have hm : x ∈ rs.filter (fun r => serves r q) := by rw [z]; simp
          have : (rs.any fun r => serves r q) = true := List.any_eq_true.2 ⟨x, (List.mem_filter.1 hm).1, (List.mem_filter.1 hm).2⟩
          rw [this]
          simp [PyData.eqv, PyData.eqvAll]
      rw [hb]; exact this
end
end NkW
end
section
set_option Elab.async false
set_option linter.all false
set_option maxRecDepth 100000
set_option maxHeartbeats 2000000
/-! the law's numbers: most_apart, all_served, weigh, levels, sum -/
namespace NkW
open PySem PySem.Spec PyProof.Rows L2 NkO NkR NkS NkQ NkM
abbrev s__law_most_apart : Stmt := top 77
abbrev N__law_most_apart : List Str := ["_law_some", "_law_rows", "_law_one_here", "_law_row", "_law_each"]
theorem sc__law_most_apart : FnScope N__law_most_apart ["_law_some"] (defScope s__law_most_apart) := ⟨rfl, rfl, rfl, by decide +kernel, rfl, by decide +kernel, by decide +kernel⟩
abbrev s__law_all_served : Stmt := top 78
abbrev N__law_all_served : List Str := ["_law_rows", "_law_some", "_law_one_here"]
theorem sc__law_all_served : FnScope N__law_all_served ["_law_rows", "_law_some"] (defScope s__law_all_served) := ⟨rfl, rfl, rfl, by decide +kernel, rfl, by decide +kernel, by decide +kernel⟩
abbrev s__law_weigh : Stmt := top 80
abbrev N__law_weigh : List Str := ["_law_table_here", "_law_columns", "_law_column"]
theorem sc__law_weigh : FnScope N__law_weigh ["_law_table_here", "_law_columns"] (defScope s__law_weigh) := ⟨rfl, rfl, rfl, by decide +kernel, rfl, by decide +kernel, by decide +kernel⟩
abbrev s__law_levels : Stmt := top 81
abbrev N__law_levels : List Str := ["_law_some", "_law_table_here", "_law_found", "_law_level", "_law_heavy", "_law_one_here"]
theorem sc__law_levels : FnScope N__law_levels ["_law_some", "_law_table_here"] (defScope s__law_levels) := ⟨rfl, rfl, rfl, by decide +kernel, rfl, by decide +kernel, by decide +kernel⟩
abbrev s__law_sum : Stmt := top 82
abbrev N__law_sum : List Str := ["_law_rows", "_law_ahead", "_law_found", "_law_level", "_law_many"]
theorem sc__law_sum : FnScope N__law_sum ["_law_rows"] (defScope s__law_sum) := ⟨rfl, rfl, rfl, by decide +kernel, rfl, by decide +kernel, by decide +kernel⟩

/-- a for over a list or a tuple -/
def iLT (K : PySem.W.Frag) (tl : TE) : TI := fun σ H R => iList K tl σ H R ∨ iTup K tl σ H R
theorem k_piLT {X : Cx} {K : PySem.W.Frag} {tg l : Expr} {tl : TE} (h : X.K = K) (hl : PE X l tl) : PI X tg l (iLT K tl) :=
  ⟨fun pins s σ H R I q => q.elim ((k_piL h hl).run pins s σ H R I) ((k_piT h hl).run pins s σ H R I)⟩
theorem dfAll_get {K : PySem.W.Frag} {H0 H : Hp} : ∀ {vs : List V} {ds : List PyData} {i : Nat} {v : V}, DfAll K H0 H vs ds → vs[i]? = some v → ∃ d, ds[i]? = some d ∧ Df K H0 H v d
  | _, _, _, _, .nil, e => by simp at e
  | _, _, 0, _, .cons h _, e => by simp at e; subst e; exact ⟨_, rfl, h⟩
  | _, _, i + 1, v, .cons _ h, e => by
    obtain ⟨d, h1, h2⟩ := dfAll_get (i := i) (v := v) h (by simpa using e)
    exact ⟨d, by simpa using h1, h2⟩
theorem dfAll_flat {K : PySem.W.Frag} {H0 H : Hp} : ∀ {vs : List V} {ds : List PyData}, (∀ d ∈ ds, flatD d = true) → DpAll K H vs ds → DfAll K H0 H vs ds
  | _, _, _, .nil => .nil
  | _, _, h, .cons h1 h2 => .cons (df_of_dp _ _ (h _ (by simp)) h1) (dfAll_flat (fun d hd => h d (List.mem_cons_of_mem _ hd)) h2)
theorem apart_facts (S : List NkQ.Q) : (S.foldl apartStep [[]]).length ≤ 2 ^ S.length ∧ ∀ r ∈ S.foldl apartStep [[]], r.Sublist S := by
  refine ⟨?_, fun r hr => ?_⟩
  · have key : ∀ (S : List NkQ.Q) (rows : List (List NkQ.Q)), (S.foldl apartStep rows).length ≤ rows.length * 2 ^ S.length := by
      intro S
      induction S with
      | nil => intro rows; simp
      | cons q S ih =>
        intro rows
        refine Nat.le_trans (ih (apartStep rows q)) ?_
        have : (apartStep rows q).length ≤ rows.length * 2 := by
          unfold apartStep
          rw [List.length_append, List.length_map]
          have := List.length_filter_le (fun r : List NkQ.Q => (r.filter (fun x => share x q)).isEmpty) rows
          omega
        rw [List.length_cons, Nat.pow_succ, Nat.mul_comm (2 ^ S.length) 2, ← Nat.mul_assoc]
        exact Nat.mul_le_mul_right _ this
    have := key S [[]]
    simpa using this
  · obtain ⟨r0, h0, s, hs, e, _⟩ := (apart_mem S [[]] r).1 hr
    obtain rfl : r0 = [] := by simpa using h0
    rw [e]; exact hs
def encRow (r : List NkQ.Q) : PyData := .list (r.map encQ)
def spApart (K : PySem.W.Frag) : Sp := fun vs H Q _ => ∃ v, ∃ qs : List NkQ.Q, vs = [v] ∧ Dp K H v (.list (qs.map encQ)) ∧ (∀ q ∈ qs, VQ6 q) ∧ qs.length ≤ 9 ∧ ∀ H', Same H H' → Q (.int (mostApart qs)) H'
def spAllServed (K : PySem.W.Frag) : Sp := fun vs H Q _ => ∃ v u, ∃ rs : List (List Str), ∃ qs : List NkQ.Q, vs = [v, u] ∧ Dp K H v (.list (rs.map encL)) ∧ (∀ r ∈ rs, (∀ x ∈ r, okC x = true) ∧ r.length ≤ 60) ∧ rs.length ≤ 48 ∧ Dp K H u (.list (qs.map encQ)) ∧ (∀ q ∈ qs, VQ6 q) ∧ qs.length ≤ 9 ∧
  ∀ H', Same H H' → Q (.bl (qs.all fun q => rs.any fun r => serves r q)) H'
def spWeigh (K : PySem.W.Frag) : Sp := fun vs H Q _ => ∃ d a, ∃ t : List (Str × Int), ∃ l : List Str, vs = [.ref d, .ref a] ∧ H d = some (.dK (kt t)) ∧ (SqL K H a (l.map V.str) ∨ SqT K H a (l.map V.str)) ∧ l.length ≤ 100 ∧ ∀ H', Same H H' → Q (.int (wgt (tabOf t) l)) H'
def encLv (p : Int × Nat) : PyData := .tuple [.int p.1, .int p.2]
def levL (tab : Str → Int) (S : List NkQ.Q) : List (Int × Nat) := (levelsM (wsM tab S)).map fun x => (x, mostApart (S.filter fun q => decide (x ≤ wq tab q)))
def spLevels (K : PySem.W.Frag) : Sp := fun vs H Q _ => ∃ v d, ∃ qs : List NkQ.Q, ∃ t : List (Str × Int), vs = [v, .ref d] ∧ Dp K H v (.list (qs.map encQ)) ∧ (∀ q ∈ qs, VQ6 q) ∧ qs.length ≤ 9 ∧ H d = some (.dK (kt t)) ∧ ∀ v' H', Same H H' → Dp K H' v' (.list ((levL (tabOf t) qs).map encLv)) → Q v' H'
def spSum (K : PySem.W.Frag) : Sp := fun vs H Q _ => ∃ v, ∃ ls : List Int, ∃ g : Int → Nat, vs = [v] ∧ Dp K H v (.list ((ls.map fun x => (x, g x)).map encLv)) ∧ ls.length ≤ 100 ∧ (∀ x ∈ ls, x.natAbs < 2 ^ 200) ∧ (∀ x ∈ ls, g x < 1000) ∧ ∀ H', Same H H' → Q (.int (stepSum 0 ls fun x => (g x : Int))) H'
section
variable {P : Program} {w : World} {K : PySem.W.Frag} {mg : Str → Option Value} {base : Heap} {c : Ad} {f : Addr} {fd : FuncData} (T : Tx K mg c)
include T
theorem ok_l_most_apart (F : FnD K "_law_most_apart" "_law_most_apart" s__law_most_apart f fd) (D__law_share : Def P w K mg base "_law_share" 3 ["_law_one_here", "_law_other"] (spShare K)) : FnOk P w K mg base CX0 4 f fd ["_law_some"] (spApart K) := by
  refine F.ok sc__law_most_apart (fun vs H Q E h => ?_) (fun cdv A outer s H vs Q E hr h => ?_)
  · obtain ⟨v, q, rfl, _⟩ := h; rfl
  · obtain ⟨v, qs, rfl, hd, hv, l9, hq⟩ := h
    obtain ⟨a, vs, rfl, hs, hda⟩ := dpQs hd
    refine ⟨_, PSs.nox (pss_cons (ps_set (i := 1) sc__law_most_apart.nd rfl (by first | exact Or.inl rfl | exact Or.inr rfl) (pe_lst (pa_cons (pe_lst pa_nil) pa_nil)))
    (pss_cons (ps_for PassesOwn.never rfl (k_piL (K := K) rfl (pv 0)) (pg_name (i := 2) sc__law_most_apart.nd rfl (by first | exact Or.inl rfl | exact Or.inr rfl))
    (pss_one (ps_set (i := 1) sc__law_most_apart.nd rfl (by first | exact Or.inl rfl | exact Or.inr rfl) (pe_op op_cat (pv 1) (pe_lc (own := [("_law_row", 3)]) rfl sc__law_most_apart.nd (k_piL (K := K) rfl (pv 1)) (blkOk_by (own := [("_law_row", 3)]) (N := N__law_most_apart) (by kernel_rfl)) (fun _ _ _ _ _ => (pg_name (i := 3) sc__law_most_apart.nd rfl (by first | exact Or.inl rfl | exact Or.inr rfl))) (fun _ _ _ _ _ => (pts_one (pt_cmpR (k_eqD (K := K) rfl (hu64 hr)) (pe_lc (own := [("_law_each", 4)]) rfl sc__law_most_apart.nd (k_piL (K := K) rfl (pv 3)) (blkOk_by (own := [("_law_each", 4)]) (N := N__law_most_apart) (by kernel_rfl)) (fun _ _ _ _ _ => (pg_name (i := 4) sc__law_most_apart.nd rfl (by first | exact Or.inl rfl | exact Or.inr rfl))) (fun _ _ _ _ _ => (pts_one (pt_val (pe_def D__law_share (hr.mono (by first | decide | omega)) (pa_cons (pv 4) (pa_cons (pv 2) pa_nil)))))) (fun _ _ _ _ _ => (pv 4))) (pe_lst pa_nil) (nomark _)))) (fun _ _ _ _ _ => (pe_op op_cat (pv 3) (pe_lst (pa_cons (pv 2) pa_nil)))))))))
    (pss_one (ps_ret (pe_callB (k_max (K := K) rfl rfl) (by rfl) T.m_max (by decide +kernel) (pa_cons (pe_lc (own := [("_law_row", 3)]) rfl sc__law_most_apart.nd (k_piL (K := K) rfl (pv 1)) (blkOk_by (own := [("_law_row", 3)]) (N := N__law_most_apart) (by kernel_rfl)) (fun _ _ _ _ _ => (pg_name (i := 3) sc__law_most_apart.nd rfl (by first | exact Or.inl rfl | exact Or.inr rfl))) (fun _ _ _ _ _ => pts_nil) (fun _ _ _ _ _ => (pe_callB (k_len (K := K) rfl) (by rfl) T.m_len (by decide +kernel) (pa_cons (pv 3) pa_nil)))) pa_nil)))))), ?_⟩
    have lv : vs.length = qs.length := by have := dpAll_len hda; simpa using this
    refine ⟨Nat.zero_le _, fun z hz => ⟨by show 1 ≤ sizeLine; decide, fun R0 hR0 => ?_⟩⟩
    have e1 := same_new (o := HO.lst []) hz
    have e2 := same_new (o := HO.lst [V.ref z]) hR0
    have e12 := e1.trans e2
    have d2 : Df K H (upd (upd H z (HO.lst [])) R0 (HO.lst [V.ref z])) (.ref R0) (.list ([[]].map encRow)) :=
      .lst (e1.free hR0) upd_same (.cons (.lst hz (e2 _ _ upd_same) .nil) .nil)
    generalize upd (upd H z (HO.lst [])) R0 (HO.lst [V.ref z]) = H2 at e12 d2
    refine ⟨_, rfl, a, rfl, ⟨_, sqL_ext e12 hs⟩, forG (H0 := H) (src_list hs) (fun i σ H' => ∃ o2, ∃ Ra : Addr, σ = [some (.ref a), some (.ref Ra), o2, Option.none, Option.none] ∧ Same H H' ∧ Df K H H' (.ref Ra) (.list (((qs.take i).foldl apartStep [[]]).map encRow))) ?_ ?_ ?_ ?_⟩
    · exact ⟨_, R0, rfl, e12, d2⟩
    · rintro i σ H' ⟨_, _, _, e, _⟩; exact e
    · rintro i x σ H3 H4 hi ⟨o2, Ra, rfl, e3, d3⟩ e4 hx
      have hil : i < qs.length := by omega
      obtain ⟨d, k1, k2⟩ := dpAll_get hda hx
      have gi : qs[i]? = some qs[i] := List.getElem?_eq_getElem hil
      rw [List.getElem?_map, gi] at k1
      cases k1
      have vq := hv _ (List.getElem_mem hil)
      have tk : (qs.take (i + 1)).foldl apartStep [[]] = apartStep ((qs.take i).foldl apartStep [[]]) qs[i] := by rw [List.take_add_one, gi, List.foldl_append]; rfl
      have rok := apart_facts (qs.take i)
      have ti : (qs.take i).length ≤ 8 := by rw [List.length_take]; omega
      have rsub : ∀ r ∈ (qs.take i).foldl apartStep [[]], r.length ≤ 8 ∧ ∀ q ∈ r, VQ6 q := fun r hr => by
        have := rok.2 r hr
        exact ⟨Nat.le_trans this.length_le ti, fun q hq => hv q (List.mem_of_mem_take (this.subset hq))⟩
      have rlen : ((qs.take i).foldl apartStep [[]]).length ≤ 256 := by
        refine Nat.le_trans rok.1 ?_
        exact Nat.le_trans (Nat.pow_le_pow_right (by decide) ti) (by decide)
      have e34 := e3.trans e4
      have d4 := d3.ext e4
      have k4 := dp_ext e34 k2
      generalize (qs.take i).foldl apartStep [[]] = rows at *
      generalize qs[i] = q at *
      obtain ⟨us, hu0, hu, hdu⟩ : ∃ us, H Ra = Option.none ∧ H4 Ra = some (.lst us) ∧ DfAll K H H4 us (rows.map encRow) := by
        cases d4 with | lst a1 a2 a3 => exact ⟨_, a1, a2, a3⟩
      have lu : us.length = rows.length := by have := hdu.len; simpa using this
      refine ⟨_, rfl, _, rfl, Ra, rfl, ⟨_, SqL.of hu⟩, fun D hD => lcG (K := K) (src_list (SqL.of hu)) (Same.refl _) hD rows lu.symm (by rw [lu]; exact small1000 (by omega)) (fun r => (r.filter fun y => share y q).isEmpty) (fun r => encRow (r ++ [q])) ?_ ?_⟩
      · rintro j r y H5 R hj e5 hy hyes hno
        obtain ⟨hrm, hrq⟩ := rsub r (List.mem_of_getElem? hj)
        obtain ⟨dd, g1, g2⟩ := dfAll_get hdu hy
        rw [List.getElem?_map, hj] at g1
        cases g1
        obtain ⟨ra, ys, rfl, hra, hys⟩ : ∃ ra ys, y = .ref ra ∧ H4 ra = some (.lst ys) ∧ DfAll K H H4 ys (r.map encQ) := by
          cases g2 with | lst a1 a2 a3 => exact ⟨_, _, rfl, a2, a3⟩
        have ly : ys.length = r.length := by have := hys.len; simpa using this
        have hra5 := e5 _ _ hra
        have hys5 := hys.ext e5
        have hy5 := hys5.dp
        have k5 := dp_ext e5 k4
        refine ⟨rfl, _, rfl, ra, rfl, ⟨_, SqL.of hra5⟩, fun D2 hD2 => lcG (K := K) (src_list (SqL.of hra5)) (Same.refl _) hD2 r ly.symm (by rw [ly]; exact small1000 (by omega)) (fun y => share y q) encQ ?_ ?_⟩
        · rintro m p u H6 R' hm e6 hu' hyes' hno'
          obtain ⟨d6, g3, g4⟩ := dpAll_get hy5 hu'
          rw [List.getElem?_map, hm] at g3
          cases g3
          refine ⟨rfl, _, rfl, _, rfl, u, x, p, q, rfl, dp_ext e6 g4, dp_ext e6 k5, hrq p (List.mem_of_getElem? hm), vq, fun H7 e7 => ⟨_, rfl, ?_⟩⟩
          cases z : share p q with
          | true => exact iT rfl ⟨_, rfl, hyes' _ _ z e7 (df_of_dp _ _ (flat_Q _) (dp_ext (e6.trans e7) g4))⟩
          | false => exact iF rfl (hno' _ z e7)
        intro H6 e6 d6
        refine ⟨Nat.zero_le _, fun p hp => ?_⟩
        have e7 := same_new (o := HO.lst []) hp
        refine ⟨_, .list [], (d6.ext e7).dp, .lst (SqL.of upd_same) .nil, shaped_Qs (fun y hy => (hrq y (List.mem_filter.1 hy).1).v), by decide, _, rfl, ?_⟩
        have hb : PyData.eqv (.list ((r.filter fun y => share y q).map encQ)) (.list []) = (r.filter fun y => share y q).isEmpty := by
          cases r.filter fun y => share y q with
          | nil => rfl
          | cons b l => simp [PyData.eqv, PyData.eqvAll]
        rw [hb]
        have e67 := e6.trans e7
        generalize upd H6 p (HO.lst []) = H7 at e67
        cases z : (r.filter fun y => share y q).isEmpty with
        | false => exact iF rfl (hno _ z e67)
        | true =>
          refine iT rfl ⟨_, rfl, _, rfl, by show 1 ≤ sizeLine; decide, fun u hu' => ?_⟩
          have e8 := same_new (o := HO.lst [x]) hu'
          refine ⟨ra, u, ys, [x], rfl, rfl, e8 _ _ (e67 _ _ hra5), upd_same, Nat.le_of_lt (small1000 (by simp; omega)), fun n hn => ?_⟩
          have e9 := same_new (o := HO.lst (ys ++ [x])) hn
          have e59 := (e67.trans e8).trans e9
          refine hyes _ _ z e59 (.lst ((e67.trans e8).free hn) upd_same ?_)
          rw [List.map_append]
          exact (dfAll_flat (fun d hd => by obtain ⟨q', _, rfl⟩ := List.mem_map.1 hd; exact flat_Q q') (dpAll_ext e59 hy5)).append (.cons (df_of_dp _ _ (flat_Q _) (dp_ext e59 k5)) .nil)
      intro H5 e5 d5
      obtain ⟨ws, hw, hdw⟩ : ∃ ws, H5 D = some (.lst ws) ∧ DfAll K H4 H5 ws ((rows.filter fun r => (r.filter fun y => share y q).isEmpty).map fun r => encRow (r ++ [q])) := by
        cases d5 with | lst a1 a2 a3 => exact ⟨_, a2, a3⟩
      have lw : ws.length ≤ rows.length := by
        have := hdw.len
        rw [List.length_map] at this
        rw [this]; exact List.length_filter_le _ _
      refine ⟨Ra, D, us, ws, rfl, rfl, e5 _ _ hu, hw, Nat.le_of_lt (small1000 (by omega)), fun n hn => ?_⟩
      have e6 := same_new (o := HO.lst (us ++ ws)) hn
      refine ⟨_, n, rfl, (e34.trans e5).trans e6, ?_⟩
      rw [tk]
      unfold apartStep
      rw [List.map_append, List.map_map]
      exact .lst ((e34.trans e5).free hn) upd_same ((hdu.ext (e5.trans e6)).append ((hdw.ext e6).old e34))
    · rintro σ H3 ⟨o2, Ra, rfl, e3, d3⟩
      rw [lv, List.take_length] at d3
      have rok := apart_facts qs
      have rlen : (qs.foldl apartStep [[]]).length ≤ 512 := Nat.le_trans rok.1 (Nat.le_trans (Nat.pow_le_pow_right (by decide) l9) (by decide))
      have hap : mostApart qs = maxLen (qs.foldl apartStep [[]]) := rfl
      rw [hap] at hq
      have hne : qs.foldl apartStep [[]] ≠ [] := fun z => by
        have : [] ∈ qs.foldl apartStep [[]] := (apart_mem qs [[]] []).2 ⟨[], by simp, [], List.nil_sublist _, rfl, fun i x t e => by simp at e⟩
        rw [z] at this; cases this
      generalize qs.foldl apartStep [[]] = rows at *
      obtain ⟨us, hu, hdu⟩ : ∃ us, H3 Ra = some (.lst us) ∧ DfAll K H H3 us (rows.map encRow) := by
        cases d3 with | lst a1 a2 a3 => exact ⟨_, a2, a3⟩
      have lu : us.length = rows.length := by have := hdu.len; simpa using this
      refine ⟨_, rfl, Ra, rfl, ⟨_, SqL.of hu⟩, fun D hD => lcM (K := K) (src_list (SqL.of hu)) (Same.refl _) hD rows lu.symm (by rw [lu]; exact small1000 (by omega)) (fun r => PyData.int r.length) ?_ ?_⟩
      · rintro j r y H5 R hj e5 hy hyes
        obtain ⟨dd, g1, g2⟩ := dfAll_get hdu hy
        rw [List.getElem?_map, hj] at g1
        cases g1
        obtain ⟨ra, ys, rfl, hra, hys⟩ : ∃ ra ys, y = .ref ra ∧ H3 ra = some (.lst ys) ∧ DfAll K H H3 ys (r.map encQ) := by
          cases g2 with | lst a1 a2 a3 => exact ⟨_, _, rfl, a2, a3⟩
        have ly : ys.length = r.length := by have := hys.len; simpa using this
        refine ⟨rfl, _, rfl, ra, _, rfl, .inl (SqL.of (e5 _ _ hra)), hyes _ _ (Same.refl _) ?_⟩
        rw [ly]; exact .int _
      · intro H4 e4 d4
        have hb : (rows.map fun r => PyData.int r.length) = (rows.map fun r => (r.length : Int)).map PyData.int := by rw [List.map_map]; rfl
        rw [hb] at d4
        have hD4 : H4 D = some (.lst ((rows.map fun r => (r.length : Int)).map V.int)) := by
          cases d4 with | lst a1 a2 a3 => rw [dpAll_toInts a3.dp] at a2; exact a2
        refine ⟨D, _, rfl, SqL.of hD4, by rw [List.length_map]; exact List.length_pos_iff.2 hne, fun m hm hle => ?_⟩
        obtain ⟨r, hr, rfl⟩ := List.mem_map.1 hm
        have F := foldl_max rows 0
        have h1 : (r.length : Int) = (maxLen rows : Int) := by
          have up := F.2.1 r hr
          have : maxLen rows ≤ r.length := by
            rcases F.2.2 with e | ⟨r', hr', e⟩
            · show maxLen rows ≤ _
              have : maxLen rows = 0 := e
              omega
            · have := hle _ (List.mem_map.2 ⟨r', hr', rfl⟩)
              have e : r'.length = maxLen rows := e
              omega
          have up : r.length ≤ maxLen rows := up
          omega
        rw [h1]
        exact hq _ (e3.trans e4)
theorem ok_l_all_served (F : FnD K "_law_all_served" "_law_all_served" s__law_all_served f fd) (D__law_is_served : Def P w K mg base "_law_is_served" 2 ["_law_rows", "_law_question"] (spServed K)) : FnOk P w K mg base CX0 3 f fd ["_law_rows", "_law_some"] (spAllServed K) := by
  refine F.ok sc__law_all_served (fun vs H Q E h => ?_) (fun cdv A outer s H vs Q E hr h => ?_)
  · obtain ⟨v, u, rs, q, rfl, _⟩ := h; rfl
  · obtain ⟨v, u, rs, qs, rfl, hd, hl, l48, he, hv, l9, hq⟩ := h
    obtain ⟨a, vs, rfl, hs, hda⟩ := dpQs he
    refine ⟨_, PSs.nox (pss_one (ps_ret (pe_cmpR (k_eqD (K := K) rfl (hu64 hr)) (pe_lc (own := [("_law_one_here", 2)]) rfl sc__law_all_served.nd (k_piL (K := K) rfl (pv 1)) (blkOk_by (own := [("_law_one_here", 2)]) (N := N__law_all_served) (by kernel_rfl)) (fun _ _ _ _ _ => (pg_name (i := 2) sc__law_all_served.nd rfl (by first | exact Or.inl rfl | exact Or.inr rfl))) (fun _ _ _ _ _ => (pts_one (pt_not (pt_val (pe_def D__law_is_served (hr.mono (by first | decide | omega)) (pa_cons (pv 0) (pa_cons (pv 2) pa_nil))))))) (fun _ _ _ _ _ => (pv 2))) (pe_lst pa_nil) (nomark _)))), ?_⟩
    have lv : vs.length = qs.length := by have := dpAll_len hda; simpa using this
    refine ⟨_, rfl, a, rfl, ⟨_, hs⟩, fun D hD => lcG (K := K) (src_list hs) (Same.refl _) hD qs lv.symm (by rw [lv]; exact small1000 (by omega)) (fun q => !rs.any fun r => serves r q) encQ ?_ ?_⟩
    · rintro i q x H2 R hi e2 hx hyes hno
      obtain ⟨d, k1, k2⟩ := dpAll_get hda hx
      rw [List.getElem?_map, hi] at k1
      cases k1
      refine ⟨rfl, _, rfl, _, rfl, v, x, rs, q, rfl, dp_ext e2 hd, hl, l48, dp_ext e2 k2, hv q (List.mem_of_getElem? hi), fun H3 e3 => ⟨_, rfl, ?_⟩⟩
      cases z : rs.any fun r => serves r q with
      | true => exact iF rfl (hno _ (by rw [z]; rfl) e3)
      | false => exact iT rfl ⟨_, rfl, hyes _ _ (by rw [z]; rfl) e3 (df_of_dp _ _ (flat_Q _) (dp_ext (e2.trans e3) k2))⟩
    · intro H2 e2 d2
      refine ⟨Nat.zero_le _, fun p hp => ?_⟩
      have e3 := same_new (o := HO.lst []) hp
      refine ⟨_, .list [], (d2.ext e3).dp, .lst (SqL.of upd_same) .nil, shaped_Qs (fun q hq => (hv q (List.mem_filter.1 hq).1).v), by decide, ?_⟩
      have := hq _ (e2.trans e3)
      have hb : PyData.eqv (.list ((qs.filter fun q => !rs.any fun r => serves r q).map encQ)) (.list []) = qs.all fun q => rs.any fun r => serves r q := by
        cases z : qs.filter (fun q => !rs.any fun r => serves r q) with
        | nil =>
          have : (qs.all fun q => rs.any fun r => serves r q) = true := by
            rw [List.all_eq_true]
            exact fun x hx => by simpa using List.filter_eq_nil_iff.1 z x hx
          rw [this]; rfl
        | cons x l =>
          have hm : x ∈ qs.filter (fun q => !rs.any fun r => serves r q) := by rw [z]; simp
          have : (qs.all fun q => rs.any fun r => serves r q) = false := List.all_eq_false.2 ⟨x, (List.mem_filter.1 hm).1, by simpa using (List.mem_filter.1 hm).2⟩
          rw [this]
          simp [PyData.eqv, PyData.eqvAll]
      rw [hb]; exact this
theorem ok_l_weigh (F : FnD K "_law_weigh" "_law_weigh" s__law_weigh f fd) : FnOk P w K mg base CX0 1 f fd ["_law_table_here", "_law_columns"] (spWeigh K) := by
  refine F.ok sc__law_weigh (fun vs H Q E h => ?_) (fun cdv A outer s H vs Q E hr h => ?_)
  · obtain ⟨d, a, t, l, rfl, _⟩ := h; rfl
  · obtain ⟨d, a, t, l, rfl, hd, ha, hl, hq⟩ := h
    refine ⟨_, PSs.nox (pss_one (ps_ret (pe_callB (k_sum (K := K) rfl rfl) (by rfl) T.m_sum (by decide +kernel) (pa_cons (pe_lc (own := [("_law_column", 2)]) rfl sc__law_weigh.nd (k_piLT (K := K) rfl (pv 1)) (blkOk_by (own := [("_law_column", 2)]) (N := N__law_weigh) (by kernel_rfl)) (fun _ _ _ _ _ => (pg_name (i := 2) sc__law_weigh.nd rfl (by first | exact Or.inl rfl | exact Or.inr rfl))) (fun _ _ _ _ _ => pts_nil) (fun _ _ _ _ _ => (pe_dget2 (hu_of hr) (pv 0) (pv 2) pe_int (by constructor <;> rfl)))) pa_nil)))), ?_⟩
    have fin : ∀ D H2, Same H H2 → Df K H H2 (.ref D) (.list (l.map fun y => PyData.int (tabOf t y))) → rSum K [.ref D] H2 Q := fun D H2 e2 d2 => by
      have hb : (l.map fun y => PyData.int (tabOf t y)) = (l.map (tabOf t)).map PyData.int := by rw [List.map_map]; rfl
      rw [hb] at d2
      cases d2 with | lst a1 a2 a3 =>
      rw [dpAll_toInts a3.dp] at a2
      exact ⟨D, _, rfl, SqL.of a2, hq _ e2⟩
    rcases ha with ha | ha
    · refine .inl ⟨_, rfl, a, rfl, ⟨_, ha⟩, fun D hD => lcM (K := K) (src_list ha) (Same.refl _) hD l (by simp) (by rw [List.length_map]; exact small1000 (by omega)) (fun y => PyData.int (tabOf t y)) ?_ (fun H2 e2 d2 => fin D H2 e2 d2)⟩
      intro i y z H2 R hy e2 hz hyes
      rw [List.getElem?_map, hy] at hz
      cases hz
      refine ⟨rfl, _, rfl, d, rfl, .inl ⟨_, .inl (e2 _ _ hd)⟩, _, rfl, _, DGet.k (k := Sum.inr y) (e2 _ _ hd), hyes _ _ (Same.refl _) ?_⟩
      rw [kt_getD]; exact .int _
    · refine .inr ⟨_, rfl, a, rfl, ⟨_, ha⟩, fun D hD => lcM (K := K) (src_tup ha) (Same.refl _) hD l (by simp) (by rw [List.length_map]; exact small1000 (by omega)) (fun y => PyData.int (tabOf t y)) ?_ (fun H2 e2 d2 => fin D H2 e2 d2)⟩
      intro i y z H2 R hy e2 hz hyes
      rw [List.getElem?_map, hy] at hz
      cases hz
      refine ⟨rfl, _, rfl, d, rfl, .inl ⟨_, .inl (e2 _ _ hd)⟩, _, rfl, _, DGet.k (k := Sum.inr y) (e2 _ _ hd), hyes _ _ (Same.refl _) ?_⟩
      rw [kt_getD]; exact .int _
theorem ok_l_levels (F : FnD K "_law_levels" "_law_levels" s__law_levels f fd) (D__law_weigh : Def P w K mg base "_law_weigh" 1 ["_law_table_here", "_law_columns"] (spWeigh K)) (D__law_all : Def P w K mg base "_law_all" 1 ["_law_question"] (spAll K))
    (D__law_most_apart : Def P w K mg base "_law_most_apart" 4 ["_law_some"] (spApart K)) : FnOk P w K mg base CX0 5 f fd ["_law_some", "_law_table_here"] (spLevels K) := by
  refine F.ok sc__law_levels (fun vs H Q E h => ?_) (fun cdv A outer s H vs Q E hr h => ?_)
  · obtain ⟨v, d, qs, t, rfl, _⟩ := h; rfl
  · obtain ⟨v, d, qs, t, rfl, he, hv, l9, hd, hq⟩ := h
    obtain ⟨a, vs, rfl, hs, hda⟩ := dpQs he
    refine ⟨_, PSs.nox (pss_cons (ps_set (i := 2) sc__law_levels.nd rfl (by first | exact Or.inl rfl | exact Or.inr rfl) (pe_lst pa_nil))
    (pss_cons (ps_for PassesOwn.never rfl (k_piL (K := K) rfl (pe_callB (k_sort (K := K) (w := w) NkQ.encI rfl rfl hr rfl) (by rfl) T.m_sorted (by decide +kernel) (pa_cons (pe_callTy (k_setI (K := K) (w := w) rfl rfl hr rfl) (by rfl) T.m_set (by decide +kernel) (pa_cons (pe_lc (own := [("_law_one_here", 5)]) rfl sc__law_levels.nd (k_piL (K := K) rfl (pv 0)) (blkOk_by (own := [("_law_one_here", 5)]) (N := N__law_levels) (by kernel_rfl)) (fun _ _ _ _ _ => (pg_name (i := 5) sc__law_levels.nd rfl (by first | exact Or.inl rfl | exact Or.inr rfl))) (fun _ _ _ _ _ => pts_nil) (fun _ _ _ _ _ => (pe_def D__law_weigh (hr.mono (by first | decide | omega)) (pa_cons (pv 1) (pa_cons (pe_def D__law_all (hr.mono (by first | decide | omega)) (pa_cons (pv 5) pa_nil)) pa_nil))))) pa_nil)) pa_nil))) (pg_name (i := 3) sc__law_levels.nd rfl (by first | exact Or.inl rfl | exact Or.inr rfl))
    (pss_cons (ps_setLc (i := 4) (own := [("_law_one_here", 5)]) rfl sc__law_levels.nd rfl rfl (sw_true rfl rfl rfl (by decide +kernel)) (k_piL (K := K) rfl (pv 0)) (blkOk_by (own := [("_law_one_here", 5)]) (N := N__law_levels) (by kernel_rfl)) (fun _ _ _ _ _ => (pg_name (i := 5) sc__law_levels.nd rfl (by first | exact Or.inl rfl | exact Or.inr rfl))) (fun _ _ _ _ _ => (pts_one (pt_cmpR op_ge (pe_def D__law_weigh (hr.mono (by first | decide | omega)) (pa_cons (pv 1) (pa_cons (pe_def D__law_all (hr.mono (by first | decide | omega)) (pa_cons (pv 5) pa_nil)) pa_nil))) (pv 3) (nomark _)))) (fun _ _ _ _ _ => (pv 5)))
    (pss_one (ps_expr (pe_bm PySem.F.plainAttrs_list PySem.F.slot_list_append PySem.F.type_list_append mt_append (pv 2) (pa_cons (pe_tup (pa_cons (pv 3) (pa_cons (pe_def D__law_most_apart (hr.mono (by first | decide | omega)) (pa_cons (pv 4) pa_nil)) pa_nil))) pa_nil))))))
    (pss_one (ps_ret (pv 2))))), ?_⟩
    have lv : vs.length = qs.length := by have := dpAll_len hda; simpa using this
    have hlen : ∀ q : NkQ.Q, VQ6 q → (allQ q).length ≤ 100 := fun q h => by
      unfold allQ
      have := h.n
      split <;> simp <;> omega
    have item : ∀ {i : Nat} {q : NkQ.Q} {x : V} {H' : Hp}, Same H H' → qs[i]? = some q → vs[i]? = some x → Dp K H' x (encQ q) ∧ VQ6 q := fun {i q x H'} e hi hx => by
      obtain ⟨d, k1, k2⟩ := dpAll_get hda hx
      rw [List.getElem?_map, hi] at k1
      cases k1
      exact ⟨dp_ext e k2, hv q (List.mem_of_getElem? hi)⟩
    refine ⟨Nat.zero_le _, fun F hF => ?_⟩
    have e1 := same_new (o := HO.lst []) hF
    refine ⟨_, rfl, a, rfl, ⟨_, sqL_ext e1 hs⟩, fun D hD => lcM (K := K) (src_list (sqL_ext e1 hs)) (Same.refl _) hD qs lv.symm (by rw [lv]; exact small1000 (by omega)) (fun q => PyData.int (wq (tabOf t) q)) ?_ ?_⟩
    · rintro i q x H2 R hi e2 hx hyes
      obtain ⟨dq, vq⟩ := item (e1.trans e2) hi hx
      refine ⟨rfl, _, rfl, _, rfl, x, q, rfl, dq, vq, fun v' H3 e3 d3 => ?_⟩
      cases d3 with | @lst al xs _ a1 a2 a3 =>
      rw [dpAll_toStrs a3.dp] at a2
      exact ⟨d, al, t, allQ q, rfl, (e1.trans (e2.trans e3)) _ _ hd, .inl (SqL.of a2), hlen q vq, fun H4 e4 => hyes _ _ (e3.trans e4) (.int _)⟩
    intro H2 e2 d2
    have hb : (qs.map fun q => PyData.int (wq (tabOf t) q)) = (wsM (tabOf t) qs).map PyData.int := by unfold wsM; rw [List.map_map]; rfl
    rw [hb] at d2
    obtain ⟨hD2⟩ : H2 D = some (.lst ((wsM (tabOf t) qs).map V.int)) ∧ True := by
      cases d2 with | lst a1 a2 a3 => rw [dpAll_toInts a3.dp] at a2; exact ⟨a2, trivial⟩
    have wl : (wsM (tabOf t) qs).length = qs.length := ws_len _ _
    refine tN ?_
    refine rd_set id (wsM (tabOf t) qs) (enc := encI) (.inl (SqL.of hD2)) (by rw [List.map_id]; exact paired_ints _) (dpAll_ints _) (by omega) fun b M H3 e3 hb S => ?_
    refine tN ?_
    refine rd_sortSet id (fun _ _ h => h) (enc := encI) (fun _ => rfl) asmI S (by omega) (good_I _) fun r H4 e4 hr4 d4 => ?_
    have hr : H4 r = some (.lst ((levelsM (wsM (tabOf t) qs)).map V.int)) := by
      have d4 : Df K H3 H4 (.ref r) (.list ((levelsM (wsM (tabOf t) qs)).map PyData.int)) := d4
      cases d4 with | lst a1 a2 a3 => rw [dpAll_toInts a3.dp] at a2; exact a2
    have ll : (levelsM (wsM (tabOf t) qs)).length ≤ qs.length := by
      have := (canon_nodup encI (wsM (tabOf t) qs)).length_le_of_subset (fun x hx => canon_mem.1 hx)
      rw [wl] at this; exact this
    have e24 := (e2.trans e3).trans e4
    have hF4 : H4 F = some (.lst []) := e24 _ _ upd_same
    have e04 := e1.trans e24
    have rF : r ≠ F := fun z => by rw [z, e3 _ _ (e2 _ _ upd_same)] at hr4; cases hr4
    unfold levL at hq
    generalize levelsM (wsM (tabOf t) qs) = ls at hr ll hq
    refine ⟨r, rfl, ⟨_, SqL.of hr⟩, forG (H0 := wo [F] H4) (src_list (SqL.of (by rw [wo_at (by simpa using rF)]; exact hr))) (fun i σ H' => ∃ o3 o4, σ = [some (.ref a), some (.ref d), some (.ref F), o3, o4, Option.none] ∧ Same (wo [F] H4) H' ∧ Same H H' ∧
      ∃ fs, H' F = some (.lst fs) ∧ DpAll K (wo [F] H') fs (((ls.take i).map fun x => (x, mostApart (qs.filter fun q => decide (x ≤ wq (tabOf t) q)))).map encLv)) ?_ ?_ ?_ ?_⟩
    · exact ⟨_, _, rfl, wo_same, e04, [], hF4, .nil⟩
    · rintro i σ H' ⟨_, _, _, e, _⟩; exact e
    · rintro i x σ H5 H6 hi ⟨o3, o4, rfl, e5, e05, fs, hF5, hfs⟩ e6 hx
      rw [List.length_map] at hi
      have gi : ls[i]? = some ls[i] := List.getElem?_eq_getElem hi
      rw [List.getElem?_map, gi] at hx
      cases hx
      have tk : ls.take (i + 1) = ls.take i ++ [ls[i]] := by rw [List.take_add_one, gi]; rfl
      have e06 := e05.trans e6
      have hF6 := e6 _ _ hF5
      have hfs6 := dpAll_ext (same_wo (b := F) e6) hfs
      generalize ls[i] = l at *
      refine ⟨_, rfl, a, rfl, ⟨_, sqL_ext e06 hs⟩, fun D2 hD2 => lcG (K := K) (src_list (sqL_ext e06 hs)) (Same.refl _) hD2 qs lv.symm (by rw [lv]; exact small1000 (by omega)) (fun q => decide (l ≤ wq (tabOf t) q)) encQ ?_ ?_⟩
      · rintro j q y H7 R hj e7 hy hyes hno
        obtain ⟨dq, vq⟩ := item (e06.trans e7) hj hy
        refine ⟨rfl, _, rfl, _, rfl, y, q, rfl, dq, vq, fun v' H8 e8 d8 => ?_⟩
        cases d8 with | @lst al xs _ a1 a2 a3 =>
        rw [dpAll_toStrs a3.dp] at a2
        refine ⟨d, al, t, allQ q, rfl, (e06.trans (e7.trans e8)) _ _ hd, .inl (SqL.of a2), hlen q vq, fun H9 e9 => ⟨_, rfl, _, _, rfl, rfl, _, rfl, ?_⟩⟩
        have e89 := e8.trans e9
        by_cases z : l ≤ wq (tabOf t) q
        · exact iT (by exact decide_eq_true z) ⟨_, rfl, hyes _ _ (decide_eq_true z) e89 (df_of_dp _ _ (flat_Q _) (dp_ext e89 dq))⟩
        · exact iF (by exact decide_eq_false z) (hno _ (decide_eq_false z) e89)
      intro H7 e7 d7
      have hF7 := e7 _ _ hF6
      have lf : fs.length ≤ i := by have := dpAll_len hfs; simp at this; omega
      refine ⟨_, rfl, .inl ⟨rfl, _, SqL.of hF7⟩, _, rfl, _, rfl, _, _, rfl, d7.dp, fun q hq' => hv q (List.mem_filter.1 hq').1, Nat.le_trans (List.length_filter_le _ _) l9, fun H8 e8 => ?_⟩
      refine ⟨by show 2 ≤ sizeLine; decide, fun p hp => ?_⟩
      have e9 := same_new (o := HO.tup [V.int l, V.int (mostApart (qs.filter fun q => decide (l ≤ wq (tabOf t) q)))]) hp
      have hF8 := e8 _ _ hF7
      have e79 := (e7.trans e8).trans e9
      have pF : p ≠ F := fun z => by rw [z, hF8] at hp; cases hp
      refine ⟨F, fs, _, rfl, rfl, e9 _ _ hF8, small1000 (by omega), ?_⟩
      refine ⟨_, _, rfl, same_upd_wo (by simp) ((e5.trans e6).trans e79), same_upd_new (e06.trans e79) hF, fs ++ [V.ref p], upd_same, ?_⟩
      rw [tk, List.map_append, List.map_append]
      have same_f : Same (wo [F] (upd H8 p (HO.tup [V.int l, V.int (mostApart (qs.filter fun q => decide (l ≤ wq (tabOf t) q)))]))) (wo [F] (upd (upd H8 p (HO.tup [V.int l, V.int (mostApart (qs.filter fun q => decide (l ≤ wq (tabOf t) q)))])) F (.lst (fs ++ [V.ref p])))) := fun b o hb => by
        by_cases z : b ∈ [F]
        · rw [wo_none z] at hb; cases hb
        · rw [wo_at z] at hb ⊢
          rw [upd_ne (by simpa using z)]; exact hb
      refine dpAll_ext same_f (dpAll_append (dpAll_ext (same_wo (b := F) e79) hfs6) (.cons ?_ .nil))
      exact .tup (SqT.of (by rw [wo_at (by simpa using pF)]; exact upd_same)) (.cons (.int _) (.cons (.int _) .nil))
    · rintro σ H5 ⟨o3, o4, rfl, e5, e05, fs, hF5, hfs⟩
      rw [List.length_map, List.take_length] at hfs
      exact ⟨_, rfl, hq _ _ e05 (.lst (SqL.of hF5) (dpAll_ext wo_same hfs))⟩
theorem ok_l_sum (F : FnD K "_law_sum" "_law_sum" s__law_sum f fd) : FnOk P w K mg base CX0 1 f fd ["_law_rows"] (spSum K) := by
  refine F.ok sc__law_sum (fun vs H Q E h => ?_) (fun cdv A outer s H vs Q E hr h => ?_)
  · obtain ⟨v, ls, g, rfl, _⟩ := h; rfl
  · obtain ⟨v, ls, g, rfl, hd, hl, hb, hg, hq⟩ := h
    refine ⟨_, PSs.nox (pss_cons (ps_asg (pe_tup (pa_cons pe_int (pa_cons pe_int pa_nil))) (k_gTup (K := K) (n := 2) rfl rfl (pgs_cons (pg_name (i := 1) sc__law_sum.nd rfl (by first | exact Or.inl rfl | exact Or.inr rfl)) (pgs_cons (pg_name (i := 2) sc__law_sum.nd rfl (by first | exact Or.inl rfl | exact Or.inr rfl)) pgs_nil))))
    (pss_cons (ps_for PassesOwn.never rfl (k_piL (K := K) rfl (pv 0)) (k_gTup (K := K) (n := 2) rfl rfl (pgs_cons (pg_name (i := 3) sc__law_sum.nd rfl (by first | exact Or.inl rfl | exact Or.inr rfl)) (pgs_cons (pg_name (i := 4) sc__law_sum.nd rfl (by first | exact Or.inl rfl | exact Or.inr rfl)) pgs_nil)))
    (pss_one (ps_par (i := 1) (j := 2) (by rfl) sc__law_sum.nd rfl rfl (by decide) rfl rfl (pa_cons (pv 3) (pa_cons (pe_op op_add (pv 2) (pe_op op_mulW (pe_op op_sub (pv 3) (pv 1)) (pv 4))) pa_nil)) (by rfl))))
    (pss_one (ps_ret (pv 2))))), ?_⟩
    obtain ⟨a, vs, rfl, hs, hda⟩ : ∃ a vs, v = .ref a ∧ SqL K H a vs ∧ DpAll K H vs ((ls.map fun x => (x, g x)).map encLv) := by
      cases hd with | lst hs ha => exact ⟨_, _, rfl, hs, ha⟩
    have lv : vs.length = ls.length := by have := dpAll_len hda; simpa using this
    refine ⟨by show 2 ≤ sizeLine; decide, fun z hz => ?_⟩
    have ez := same_new (o := HO.tup [V.int 0, V.int 0]) hz
    refine ⟨z, _, rfl, SqT.of upd_same, rfl, _, _, rfl, _, _, rfl, rfl, ?_⟩
    refine ⟨_, rfl, a, rfl, ⟨_, sqL_ext ez hs⟩, forG (H0 := H) (src_list hs) (fun i σ H' => ∃ o3 o4, ∃ ah fo : Int, σ = [some (.ref a), some (.int ah), some (.int fo), o3, o4] ∧ Same H H' ∧ ah.natAbs < 2 ^ 200 ∧ fo + stepSum ah (ls.drop i) (fun x => (g x : Int)) = stepSum 0 ls fun x => (g x : Int)) ?_ ?_ ?_ ?_⟩
    · exact ⟨_, _, 0, 0, rfl, ez, by decide, by simp⟩
    · rintro i σ H' ⟨_, _, _, _, _, e, _⟩; exact e
    · rintro i x σ H1 H2 hi ⟨o3, o4, ah, fo, rfl, e1, hah, hsum⟩ e2 hx
      have hil : i < ls.length := by omega
      obtain ⟨d, k1, k2⟩ := dpAll_get hda hx
      have gi : ls[i]? = some ls[i] := List.getElem?_eq_getElem hil
      rw [List.getElem?_map, List.getElem?_map, gi] at k1
      cases k1
      have hm := List.getElem_mem hil
      have b1 := hb _ hm
      have b2 := hg _ hm
      have e12 := e1.trans e2
      have hsum2 : fo + (ls[i] - ah) * (g ls[i] : Int) + stepSum ls[i] (ls.drop (i + 1)) (fun x => (g x : Int)) = stepSum 0 ls fun x => (g x : Int) := by
        rw [← hsum, List.drop_eq_getElem_cons hil]
        show _ = fo + ((ls[i] - ah) * (g ls[i] : Int) + stepSum ls[i] (ls.drop (i + 1)) _)
        omega
      generalize ls[i] = l at *
      obtain ⟨Tc, rfl, hT⟩ : ∃ Tc, x = .ref Tc ∧ SqT K H2 Tc [.int l, .int (g l : Int)] := by
        have k3 := dp_ext e12 k2
        cases k3 with
        | tup hs ha =>
          cases ha with | cons h1 h2 => cases h2 with | cons h2 h3 => cases h3; cases h1; cases h2; exact ⟨_, rfl, hs⟩
      refine ⟨Tc, _, rfl, hT, rfl, _, _, rfl, _, _, rfl, rfl, ?_⟩
      refine ⟨_, rfl, _, rfl, _, rfl, _, rfl, _, _, rfl, rfl, _, rfl, _, _, rfl, rfl, wide_mul (a := 201) (b := 64) (by omega) (by omega) (by decide) (by decide) (by decide), _, _, rfl, rfl, _, _, rfl, ?_⟩
      exact ⟨_, _, l, _, rfl, e12, b1, hsum2⟩
    · rintro σ H1 ⟨o3, o4, ah, fo, rfl, e1, hah, hsum⟩
      rw [List.drop_of_length_le (by omega)] at hsum
      have hsum : fo + 0 = _ := hsum
      refine ⟨_, rfl, ?_⟩
      have := hq _ e1
      rw [← hsum] at this
      simpa using this
end
end NkW
end
section
set_option Elab.async false
set_option linter.all false
set_option maxRecDepth 100000
set_option maxHeartbeats 2000000
set_option exponentiation.threshold 2000
/-! repr of ints and of pairs of ints; defs that are called where no repr is under way -/
namespace NkR
open PySem PySem.Spec PyProof.Rows L2 NkO NkS NkQ

/-- what the law shows: an int, a pair of small ints -/
def Shown : PyData → Prop
  | .int i => i.natAbs < 2 ^ 400
  | .tuple [.int i, .int j] => i.natAbs < 10 ^ 12 ∧ j.natAbs < 10 ^ 12
  | _ => False
def rRepr (K : PySem.W.Frag) : List V → Hp → VK → Prop := fun xs H Q => ∃ v d, xs = [v] ∧ Dp K H v d ∧ Shown d ∧ Q (.str d.shown) H
theorem log_lt {i : Int} (h : i.natAbs < 2 ^ 400) : i.natAbs.log2 < 1920 := by
  by_cases z : i.natAbs = 0
  · rw [z]; decide
  · have := (Nat.log2_lt z).2 h; omega
theorem pair_fits {i j : Int} (hi : i.natAbs < 10 ^ 12) (hj : j.natAbs < 10 ^ 12) : (PyData.shown (.tuple [.int i, .int j])).length ≤ sizeLine := by
  have a := PyData.shown_int_le hi
  have b := PyData.shown_int_le hj
  have c := PyData.shown_le_bulk 13 (by decide) (.tuple [.int i, .int j]) (by simp [PyData.leavesShort, PyData.leavesShortAll, a, b])
  simp only [PyData.bulk, PyData.bulkAll] at c
  exact Nat.le_trans c (by decide)
theorem k_repr {X : Cx} {K : PySem.W.Frag} (hK : X.K = K) (hu : X.A.units + 65 < cLine) (hg : X.A.guards = some []) : CallR X (.builtin "repr") (rRepr K) := by
  subst hK
  intro pins s σ H xs us Q I r h
  obtain ⟨v, d, rfl, hd, sh, q⟩ := h
  obtain ⟨u, rfl, ru⟩ := vals1 r
  obtain ⟨as, rd⟩ := Dp.reads I d v u hd ru
  cases d with
  | int i =>
    cases hd
    obtain ⟨t, rfl⟩ := ru
    exact PySem.P.repr_of_int (log_lt sh) ⟨.str _, H, I.tok _, ⟨_, rfl⟩, q⟩
  | tuple ds =>
    cases ds with
    | nil => exact False.elim sh
    | cons d1 ds =>
      cases d1 with
      | int i =>
        cases ds with
        | nil => exact False.elim sh
        | cons d2 ds =>
          cases d2 with
          | int j =>
            cases ds with
            | cons _ _ => exact False.elim sh
            | nil =>
              obtain ⟨h1, h2⟩ := sh
              have l1 : i.natAbs.log2 < 1920 := log_lt (Nat.lt_trans h1 (by decide))
              have l2 : j.natAbs.log2 < 1920 := log_lt (Nat.lt_trans h2 (by decide))
              have e1 : (PyData.tuple [.int i, .int j]).showable = true := by simp [PyData.showable, PyData.showableAll, l1, l2]
              have e2 : (PyData.tuple [.int i, .int j]).hasDict = false := by simp [PyData.hasDict, PyData.hasDictAll]
              have e3 : (PyData.tuple [.int i, .int j]).depth ≤ 8 := by simp [PyData.depth, PyData.depthAll]
              obtain ⟨a, rfl⟩ := isRef_of_reads rd rfl
              exact repr_of_reads' rd e1 (PyData.noDict_hsm e2) hg (by omega) (fun _ _ z => z) (fun h' t tk k => ⟨.str _, H, I.kept k, ⟨_, rfl⟩, q⟩) (pair_fits h1 h2)
          | _ => exact False.elim sh
      | _ => exact False.elim sh
  | _ => exact False.elim sh

/-! ### defs that may show -/
structure FnG (P : Program) (w : World) (K : PySem.W.Frag) (mg : Str → Option Value) (base : Heap) (k : Nat) (f : Addr) (fd : FuncData) (ps : List Str) (sp : Sp) : Prop where
  len : ∀ vs H Q E, sp vs H Q E → vs.length = ps.length
  run : ∀ (A : Around) (outer : List Env) (s : Shared) (H : Hp) (args : Args) (us : List Value) (vs : List V) (Q : VK) (E : XK), Room k A → A.guards = some [] → Env0 P w K mg base A outer s H → BindsTo s fd args (ps.zip us) → Vals vs us → sp vs H Q E →
    codeAny (model P w) A (.call (.ref f) args) (CR CX0 outer P w H s Q E) s
section
variable {P : Program} {w : World} {K : PySem.W.Frag} {mg : Str → Option Value} {base : Heap} {k : Nat} {f : Addr} {qual x : Str} {params : Arguments} {body : List Stmt} {scope : Scope} {fd : FuncData} {N ps : List Str} {sp : Sp} {dvs : List V} {kws : List (Str × V)}
theorem FnG.of (F : FunD K x qual params body scope dvs kws f fd) (S : FnScope N ps scope) (len : ∀ vs H Q E, sp vs H Q E → vs.length = ps.length)
    (bd : ∀ (cdv : Value) (A : Around) (outer : List Env) (s : Shared) (H : Hp) (vs : List V) (Q : VK) (E : XK), Room k (A.deeper (envOfC qual scope s.heap.objs.size f cdv)) → A.guards = some [] → sp vs H Q E →
      ∃ t, PSs (cxOf CX0 P w K mg base N qual scope f cdv A outer s H E) body t ∧ t { nx := fun _ H' => Q .non H', rt := Q } (start N vs) H) : FnG P w K mg base (k + 1) f fd ps sp := by
  obtain ⟨oc, od, dV, kV, doc, pm, an, cdv, ct, osl, rfl, lk, hcd, _, _⟩ := F.ex
  refine ⟨len, fun A outer s H args us vs Q E hr hg e0 hb r hsp => ?_⟩
  have keep := fun b o e => (e0.bs b o e).1
  refine codeAny_call_function hr.depth (e0.mod.kin.keeps keep _ _ lk) rfl S.co S.gen rfl (PySem.W.codeRec_of (e0.mod.kin.keeps keep) hcd) (hb _ _ _ _ ?_)
  refine wpAny_newFunctionEnv_cells S.kind (fun y hy => (S.par y.1 (List.of_mem_zip hy).1).imp id fun q => ⟨q, PySem.W.cellsFrom_some _ _ _ (.inl q)⟩) fun env he s1 z => ?_
  subst he
  refine ⟨(e0.mod.nolimit.keeps keep).keeps z.toInCall.keep, codeAny_func ?_⟩
  obtain ⟨t, ht, hq⟩ := bd cdv A outer s H vs Q E (hr.deeper _) hg hsp
  have I : Inv (cxOf CX0 P w K mg base N qual scope f cdv A outer s H E) [] (start N vs) H s1 := inv_start S hr.hd e0 (len _ _ _ _ hsp) r z
  refine wpAny_mono (ht.run [] s1 (start N vs) H _ I hq) (fun fl s' hs => ?_) fun e s' hs => hs
  match fl, hs with
  | .ret u, ⟨v, σ', H', J, rv, q⟩ => exact ⟨v, H', J.os, J.bare, J.base, J.hok, rv, q⟩
  | .next, ⟨σ', H', J, q⟩ => exact ⟨V.non, H', J.os, J.bare, J.base, J.hok, rfl, q⟩
  | .brk, ⟨_, _, _, q⟩ => exact q.elim
  | .cont, ⟨_, _, _, q⟩ => exact q.elim
end
structure DefG (P : Program) (w : World) (K : PySem.W.Frag) (mg : Str → Option Value) (base : Heap) (x : Str) (k : Nat) (ps : List Str) (sp : Sp) : Prop where
  ex : ∃ f fd, FnG P w K mg base k f fd ps sp ∧ mg x = some (.ref f) ∧ PySem.W.keepIn K (.ref f) = true ∧ Binds K fd ps []
theorem pe_defG {X : Cx} {x : Str} {k : Nat} {ps : List Str} {sp : Sp} {e : Expr} {es : List Expr} {t : TA} {p pos : Pos} (D : DefG X.prog X.w X.K X.mg X.base x k ps sp) (hr : Room k X.A) (hgd : X.A.guards = some []) (ha : PA X (e :: es) t) (hg : Gl X x := by rfl)
    (hdb : (x == ("__debug__" : Str)) = false := by decide) (he : starEach (e :: es) X.env = (false, eval e X.env) :: starEach es X.env := by rfl) (hpl : (backTo pos (starEach es X.env)).any (·.1) = false := by rfl) :
    PE X (.Call (.Name x p) (e :: es) [] pos) (tCall sp [] E0 t) := by
  obtain ⟨f, fd, G, m, kp, b⟩ := D.ex
  refine ⟨fun pins s σ H Q I h => wpAny_Call_Name_kw (ld_glob I hg m ?_ hdb)⟩
  refine PySem.W.callWith_K (h₀ := X.base) I.ok.mod.kin kp (thn (ha.run pos pins s σ H _ I h) fun us s1 ⟨vs, H1, I1, r, q⟩ => ⟨I1.kIn, ?_⟩) he hpl
  have q : sp (vs ++ []) H1 Q E0 := q
  rw [List.append_nil] at q
  have hl : us.length = ps.length := by rw [← r.length]; exact G.len _ _ _ _ q
  have hb := b s1 us I1.kIn (by rw [List.append_nil]; exact hl)
  rw [List.append_nil] at hb
  refine wpAny_call (codeAny_mono (G.run X.A X.stack s1 H1 ⟨us, []⟩ us vs Q E0 hr hgd I1.env0 hb r q) fun z s2 hz => ?_)
  match z, hz with
  | .ok (.ret u), hz => exact I1.after hz
  | .ok .next, hz => exact hz.elim
  | .ok .brk, hz => exact hz.elim
  | .ok .cont, hz => exact hz.elim
  | .error e, hz => exact pass0 pins σ H1 s1 e s2 I1 hz
end NkR
end
section
set_option Elab.async false
set_option linter.all false
set_option maxRecDepth 100000
set_option maxHeartbeats 2000000
/-! the law's numbers: times, heavier, range, is_with, alike -/
namespace NkW
open PySem PySem.Spec PyProof.Rows L2 NkO NkR NkS NkQ NkM
abbrev s__law_times : Stmt := top 83
abbrev N__law_times : List Str := ["_law_rows", "_law_columns", "_law_row"]
theorem sc__law_times : FnScope N__law_times ["_law_rows", "_law_columns"] (defScope s__law_times) := ⟨rfl, rfl, rfl, by decide +kernel, rfl, by decide +kernel, by decide +kernel⟩
abbrev s__law_heavier : Stmt := top 85
abbrev N__law_heavier : List Str := ["_law_some", "_law_table_here", "_law_level", "_law_one_here"]
theorem sc__law_heavier : FnScope N__law_heavier ["_law_some", "_law_table_here", "_law_level"] (defScope s__law_heavier) := ⟨rfl, rfl, rfl, by decide +kernel, rfl, by decide +kernel, by decide +kernel⟩
abbrev s__law_range : Stmt := top 86
abbrev N__law_range : List Str := ["_law_some", "_law_table_here", "_law_columns", "_law_level", "_law_heavy", "_law_these", "_law_wide", "_law_least", "_law_one_here"]
theorem sc__law_range : FnScope N__law_range ["_law_some", "_law_table_here", "_law_columns"] (defScope s__law_range) := ⟨rfl, rfl, rfl, by decide +kernel, rfl, by decide +kernel, by decide +kernel⟩
abbrev s__law_is_with : Stmt := top 84
abbrev N__law_is_with : List Str := ["_law_some", "_law_table_here", "_law_least", "_law_columns", "_law_many", "_law_thing", "_law_rows", "_law_row"]
theorem sc__law_is_with : FnScope N__law_is_with ["_law_some", "_law_table_here", "_law_least", "_law_columns", "_law_many", "_law_thing"] (defScope s__law_is_with) := ⟨rfl, rfl, rfl, by decide +kernel, rfl, by decide +kernel, by decide +kernel⟩
abbrev s__law_alike : Stmt := top 68
abbrev N__law_alike : List Str := ["_law_found", "_law_due"]
theorem sc__law_alike : FnScope N__law_alike ["_law_found", "_law_due"] (defScope s__law_alike) := ⟨rfl, rfl, rfl, by decide +kernel, rfl, by decide +kernel, by decide +kernel⟩

theorem all_len {q : NkQ.Q} (h : VQ6 q) : (allQ q).length ≤ 100 := by
  unfold allQ
  have := h.n
  split <;> simp <;> omega
def spTimes (K : PySem.W.Frag) : Sp := fun vs H Q _ => ∃ v u, ∃ rs : List (List Str), ∃ cols : List Str, vs = [v, u] ∧ Dp K H v (.list (rs.map encL)) ∧ (∀ r ∈ rs, (∀ x ∈ r, okC x = true) ∧ r.length ≤ 60) ∧ rs.length ≤ 48 ∧ Dp K H u (encL cols) ∧ (∀ x ∈ cols, okC x = true) ∧
  ∀ H', Same H H' → Q (.int ((rs.filter fun r => decide (srtS r = cols)).length : Nat)) H'
def spHeavier (K : PySem.W.Frag) : Sp := fun vs H Q _ => ∃ v d, ∃ qs : List NkQ.Q, ∃ t : List (Str × Int), ∃ l : Int, vs = [v, .ref d, .int l] ∧ Dp K H v (.list (qs.map encQ)) ∧ (∀ q ∈ qs, VQ6 q) ∧ qs.length ≤ 9 ∧ H d = some (.dK (kt t)) ∧
  ∀ v' H', Same H H' → Df K H H' v' (.list ((qs.filter fun q => decide (l < wq (tabOf t) q)).map encQ)) → Q v' H'
def spRangeL (K : PySem.W.Frag) : Sp := fun vs H Q _ => ∃ v d u, ∃ qs : List NkQ.Q, ∃ t : List (Str × Int), ∃ cols : List Str, vs = [v, .ref d, u] ∧ Dp K H v (.list (qs.map encQ)) ∧ (∀ q ∈ qs, VQ6 q) ∧ qs.length ≤ 9 ∧ qs.Nodup ∧ H d = some (.dK (kt t)) ∧ Dp K H u (encL cols) ∧ (∀ x ∈ cols, okC x = true) ∧ cols.length ≤ 100 ∧ (∃ q ∈ qs, colsQ q = cols) ∧
  ∀ a H', Same H H' → SqT K H' a [.int (leastL (tabOf t) qs cols), .int (mostL (tabOf t) qs cols)] → Q (.ref a) H'
def spWith (K : PySem.W.Frag) (c : Ad) : Sp := fun vs H Q _ => ∃ v d p u, ∃ qs : List NkQ.Q, ∃ t : List (Str × Int), ∃ cols : List Str, ∃ rs : List (List Str), ∃ least many : Int, vs = [v, .ref d, .int least, u, .int many, .ref p] ∧ Dp K H v (.list (qs.map encQ)) ∧ (∀ q ∈ qs, VQ6 q) ∧ qs.length ≤ 9 ∧ H d = some (.dK (kt t)) ∧
  Dp K H u (encL cols) ∧ (∀ x ∈ cols, okC x = true) ∧ ShelfAt K c H p rs ∧ (∀ r ∈ rs, (∀ x ∈ r, okC x = true) ∧ r.length ≤ 60) ∧ rs.length ≤ 48 ∧ (∀ q ∈ qs, ∃ r ∈ rs, serves r q = true) ∧ (rs.map (wgt (tabOf t))).sum = least ∧ ((rs.filter fun r => decide (srtS r = cols)).length : Int) = many ∧
  ∀ H', Same H H' → Q (.bl true) H'
def spAlike (K : PySem.W.Frag) : Sp := fun vs H Q _ => ∃ v u d, vs = [v, u] ∧ Dp K H v d ∧ Dp K H u d ∧ Shown d ∧ Q (.bl true) H
section
variable {P : Program} {w : World} {K : PySem.W.Frag} {mg : Str → Option Value} {base : Heap} {c : Ad} {f : Addr} {fd : FuncData} (T : Tx K mg c)
include T
theorem ok_l_times (F : FnD K "_law_times" "_law_times" s__law_times f fd) : FnOk P w K mg base CX0 1 f fd ["_law_rows", "_law_columns"] (spTimes K) := by
  refine F.ok sc__law_times (fun vs H Q E h => ?_) (fun cdv A outer s H vs Q E hr h => ?_)
  · obtain ⟨v, u, rs, cols, rfl, _⟩ := h; rfl
  · obtain ⟨v, u, rs, cols, rfl, hd, hl, l48, he, hc, hq⟩ := h
    refine ⟨_, PSs.nox (pss_one (ps_ret (pe_callB (k_len (K := K) rfl) (by rfl) T.m_len (by decide +kernel) (pa_cons (pe_lc (own := [("_law_row", 2)]) rfl sc__law_times.nd (k_piL (K := K) rfl (pv 0)) (blkOk_by (own := [("_law_row", 2)]) (N := N__law_times) (by kernel_rfl)) (fun _ _ _ _ _ => (pg_name (i := 2) sc__law_times.nd rfl (by first | exact Or.inl rfl | exact Or.inr rfl))) (fun _ _ _ _ _ => (pts_one (pt_cmpR (k_eqD (K := K) rfl (hu64 hr)) (pe_callB (k_sort (K := K) (w := w) NkQ.encS rfl rfl hr rfl) (by rfl) T.m_sorted (by decide +kernel) (pa_cons (pv 2) pa_nil)) (pe_callTy (k_list (K := K) rfl) (by rfl) T.m_list (by decide +kernel) (pa_cons (pv 1) pa_nil)) (nomark _)))) (fun _ _ _ _ _ => (pv 2))) pa_nil)))), ?_⟩
    obtain ⟨a, vs, rfl, hs, hda⟩ : ∃ a vs, v = .ref a ∧ SqL K H a vs ∧ DpAll K H vs (rs.map encL) := by
      cases hd with | lst hs ha => exact ⟨_, _, rfl, hs, ha⟩
    obtain ⟨b, rfl, hb⟩ := dpL he
    have lv : vs.length = rs.length := by have := dpAll_len hda; simpa using this
    refine ⟨_, rfl, a, rfl, ⟨_, hs⟩, fun D hD => lcG (K := K) (src_list hs) (Same.refl _) hD rs lv.symm (by rw [lv]; exact small1000 (by omega)) (fun r => decide (srtS r = cols)) encL ?_ ?_⟩
    · rintro i r x H2 R hi e2 hx hyes hno
      obtain ⟨d, k1, k2⟩ := dpAll_get hda hx
      rw [List.getElem?_map, hi] at k1
      cases k1
      obtain ⟨o1, o2⟩ := hl r (List.mem_of_getElem? hi)
      have k2 := dp_ext e2 k2
      obtain ⟨xa, rfl, hxa⟩ := dpL k2
      refine ⟨rfl, _, rfl, ?_⟩
      refine tN ?_
      refine rd_sort asmS (.inr hxa) (dpAll_strs r) (by omega) (good_S _) fun p H3 e3 hp d3 => ?_
      have d3 : Df K H2 H3 (.ref p) (.list ((srt encS r).map PyData.str)) := d3
      refine ⟨_, rfl, b, _, rfl, .inr (sqT_ext (e2.trans e3) hb), fun q hq' => ?_⟩
      have e4 := same_new (o := HO.lst (cols.map V.str)) hq'
      refine ⟨_, .list (cols.map PyData.str), (d3.ext e4).dp, .lst (SqL.of upd_same) (dpAll_strs _), shaped_Ls (fun x hx => o1 x ((srt_perm _ _).mem_iff.1 hx)), shaped_Ls hc, _, rfl, ?_⟩
      rw [eqv_Ls]
      by_cases z : srtS r = cols
      · exact iT (by simp [z]) ⟨_, rfl, hyes _ _ (by simp [z]) (e3.trans e4) (df_of_dp _ _ (flat_L _) (dp_ext (e3.trans e4) k2))⟩
      · exact iF (by simp [z]) (hno _ (by simp [z]) (e3.trans e4))
    · intro H2 e2 d2
      cases d2 with | @lst _ xs _ a1 a2 a3 =>
      have := a3.len
      rw [List.length_map] at this
      refine ⟨D, _, rfl, .inl (SqL.of a2), ?_⟩
      rw [this]; exact hq _ e2
theorem ok_l_heavier (F : FnD K "_law_heavier" "_law_heavier" s__law_heavier f fd) (D__law_weigh : Def P w K mg base "_law_weigh" 1 ["_law_table_here", "_law_columns"] (spWeigh K)) (D__law_all : Def P w K mg base "_law_all" 1 ["_law_question"] (spAll K)) :
    FnOk P w K mg base CX0 2 f fd ["_law_some", "_law_table_here", "_law_level"] (spHeavier K) := by
  refine F.ok sc__law_heavier (fun vs H Q E h => ?_) (fun cdv A outer s H vs Q E hr h => ?_)
  · obtain ⟨v, d, qs, t, l, rfl, _⟩ := h; rfl
  · obtain ⟨v, d, qs, t, l, rfl, he, hv, l9, hd, hq⟩ := h
    obtain ⟨a, vs, rfl, hs, hda⟩ := dpQs he
    refine ⟨_, PSs.nox (pss_one (ps_ret (pe_lc (own := [("_law_one_here", 3)]) rfl sc__law_heavier.nd (k_piL (K := K) rfl (pv 0)) (blkOk_by (own := [("_law_one_here", 3)]) (N := N__law_heavier) (by kernel_rfl)) (fun _ _ _ _ _ => (pg_name (i := 3) sc__law_heavier.nd rfl (by first | exact Or.inl rfl | exact Or.inr rfl))) (fun _ _ _ _ _ => (pts_one (pt_cmpR op_gt (pe_def D__law_weigh (hr.mono (by first | decide | omega)) (pa_cons (pv 1) (pa_cons (pe_def D__law_all (hr.mono (by first | decide | omega)) (pa_cons (pv 3) pa_nil)) pa_nil))) (pv 2) (nomark _)))) (fun _ _ _ _ _ => (pv 3))))), ?_⟩
    have lv : vs.length = qs.length := by have := dpAll_len hda; simpa using this
    refine ⟨_, rfl, a, rfl, ⟨_, hs⟩, fun D hD => lcG (K := K) (src_list hs) (Same.refl _) hD qs lv.symm (by rw [lv]; exact small1000 (by omega)) (fun q => decide (l < wq (tabOf t) q)) encQ ?_ (fun H2 e2 d2 => hq _ _ e2 d2)⟩
    rintro i q x H2 R hi e2 hx hyes hno
    obtain ⟨dd, k1, k2⟩ := dpAll_get hda hx
    rw [List.getElem?_map, hi] at k1
    cases k1
    have vq := hv q (List.mem_of_getElem? hi)
    have k2 := dp_ext e2 k2
    refine ⟨rfl, _, rfl, _, rfl, x, q, rfl, k2, vq, fun v' H3 e3 d3 => ?_⟩
    cases d3 with | @lst al xs _ a1 a2 a3 =>
    rw [dpAll_toStrs a3.dp] at a2
    refine ⟨d, al, t, allQ q, rfl, (e2.trans e3) _ _ hd, .inl (SqL.of a2), all_len vq, fun H4 e4 => ⟨_, rfl, _, _, rfl, rfl, _, rfl, ?_⟩⟩
    have e34 := e3.trans e4
    by_cases z : l < wq (tabOf t) q
    · exact iT (by exact decide_eq_true z) ⟨_, rfl, hyes _ _ (decide_eq_true z) e34 (df_of_dp _ _ (flat_Q _) (dp_ext e34 k2))⟩
    · exact iF (by exact decide_eq_false z) (hno _ (decide_eq_false z) e34)
theorem ok_l_range (F : FnD K "_law_range" "_law_range" s__law_range f fd) (D__law_weigh : Def P w K mg base "_law_weigh" 1 ["_law_table_here", "_law_columns"] (spWeigh K)) (D__law_all : Def P w K mg base "_law_all" 1 ["_law_question"] (spAll K))
    (D__law_heavier : Def P w K mg base "_law_heavier" 2 ["_law_some", "_law_table_here", "_law_level"] (spHeavier K)) (D__law_most_apart : Def P w K mg base "_law_most_apart" 4 ["_law_some"] (spApart K)) :
    FnOk P w K mg base CX0 5 f fd ["_law_some", "_law_table_here", "_law_columns"] (spRangeL K) := by
  refine F.ok sc__law_range (fun vs H Q E h => ?_) (fun cdv A outer s H vs Q E hr h => ?_)
  · obtain ⟨v, d, u, qs, t, cols, rfl, _⟩ := h; rfl
  · obtain ⟨v, d, u, qs, t, cols, rfl, he, hv, l9, nd, hd, hu, hc, lc, hex, hq⟩ := h
    obtain ⟨a, vs, rfl, hs, hda⟩ := dpQs he
    refine ⟨_, PSs.nox (pss_cons (ps_set (i := 3) sc__law_range.nd rfl (by first | exact Or.inl rfl | exact Or.inr rfl) (pe_def D__law_weigh (hr.mono (by first | decide | omega)) (pa_cons (pv 1) (pa_cons (pv 2) pa_nil))))
    (pss_cons (ps_asg (pe_tup (pa_cons (pe_def D__law_heavier (hr.mono (by first | decide | omega)) (pa_cons (pv 0) (pa_cons (pv 1) (pa_cons (pv 3) pa_nil)))) (pa_cons (pe_lc (own := [("_law_one_here", 8)]) rfl sc__law_range.nd (k_piL (K := K) rfl (pv 0)) (blkOk_by (own := [("_law_one_here", 8)]) (N := N__law_range) (by kernel_rfl)) (fun _ _ _ _ _ => (pg_name (i := 8) sc__law_range.nd rfl (by first | exact Or.inl rfl | exact Or.inr rfl))) (fun _ _ _ _ _ => (pts_one (pt_cmpR (k_eqD (K := K) rfl (hu64 hr)) (pe_callB (k_sort (K := K) (w := w) NkQ.encS rfl rfl hr rfl) (by rfl) T.m_sorted (by decide +kernel) (pa_cons (pe_def D__law_all (hr.mono (by first | decide | omega)) (pa_cons (pv 8) pa_nil)) pa_nil)) (pe_callTy (k_list (K := K) rfl) (by rfl) T.m_list (by decide +kernel) (pa_cons (pv 2) pa_nil)) (nomark _)))) (fun _ _ _ _ _ => (pv 8))) pa_nil))) (k_gTup (K := K) (n := 2) rfl rfl (pgs_cons (pg_name (i := 4) sc__law_range.nd rfl (by first | exact Or.inl rfl | exact Or.inr rfl)) (pgs_cons (pg_name (i := 5) sc__law_range.nd rfl (by first | exact Or.inl rfl | exact Or.inr rfl)) pgs_nil))))
    (pss_cons (ps_set (i := 6) sc__law_range.nd rfl (by first | exact Or.inl rfl | exact Or.inr rfl) (pe_def D__law_heavier (hr.mono (by first | decide | omega)) (pa_cons (pv 0) (pa_cons (pv 1) (pa_cons (pe_op op_sub (pv 3) pe_int) pa_nil)))))
    (pss_cons (ps_set (i := 7) sc__law_range.nd rfl (by first | exact Or.inl rfl | exact Or.inr rfl) (pe_op op_sub (pe_def D__law_most_apart (hr.mono (by first | decide | omega)) (pa_cons (pe_op op_cat (pv 4) (pv 5)) pa_nil)) (pe_def D__law_most_apart (hr.mono (by first | decide | omega)) (pa_cons (pv 4) pa_nil))))
    (pss_one (ps_ret (pe_tup (pa_cons (pv 7) (pa_cons (pe_op op_sub (pe_def D__law_most_apart (hr.mono (by first | decide | omega)) (pa_cons (pv 6) pa_nil)) (pe_def D__law_most_apart (hr.mono (by first | decide | omega)) (pa_cons (pe_lc (own := [("_law_one_here", 8)]) rfl sc__law_range.nd (k_piL (K := K) rfl (pv 6)) (blkOk_by (own := [("_law_one_here", 8)]) (N := N__law_range) (by kernel_rfl)) (fun _ _ _ _ _ => (pg_name (i := 8) sc__law_range.nd rfl (by first | exact Or.inl rfl | exact Or.inr rfl))) (fun _ _ _ _ _ => (pts_one (pt_cmpR (k_notInD (K := K) rfl (hu65 hr)) (pv 8) (pv 5) rfl))) (fun _ _ _ _ _ => (pv 8))) pa_nil))) pa_nil))))))))), ?_⟩
    have lv : vs.length = qs.length := by have := dpAll_len hda; simpa using this
    obtain ⟨b, rfl, hb⟩ := dpL hu
    refine ⟨_, rfl, _, rfl, d, b, t, cols, rfl, hd, .inr hb, lc, fun H1 e1 => ?_⟩
    refine ⟨_, rfl, _, rfl, _, rfl, _, d, qs, t, _, rfl, dp_ext e1 he, hv, l9, e1 _ _ hd, fun hh H2 e2 dh => ?_⟩
    have e12 := e1.trans e2
    refine ⟨_, rfl, a, rfl, ⟨_, sqL_ext e12 hs⟩, fun D hD => lcG (K := K) (src_list (sqL_ext e12 hs)) (Same.refl _) hD qs lv.symm (by rw [lv]; exact small1000 (by omega)) (fun q => decide (colsQ q = cols)) encQ ?_ ?_⟩
    · rintro i q x H3 R hi e3 hx hyes hno
      obtain ⟨dd, k1, k2⟩ := dpAll_get hda hx
      rw [List.getElem?_map, hi] at k1
      cases k1
      have vq := hv q (List.mem_of_getElem? hi)
      have k2 := dp_ext (e12.trans e3) k2
      refine ⟨rfl, _, rfl, x, q, rfl, k2, vq, fun v' H4 e4 d4 => ?_⟩
      cases d4 with | @lst al xs _ a1 a2 a3 =>
      rw [dpAll_toStrs a3.dp] at a2
      refine tN ?_
      refine rd_sort asmS (.inl (SqL.of a2)) (dpAll_strs (allQ q)) (by have := all_len vq; omega) (good_S _) fun p H5 e5 hp d5 => ?_
      have d5 : Df K H4 H5 (.ref p) (.list ((srt encS (allQ q)).map PyData.str)) := d5
      have e45 := e4.trans e5
      refine ⟨_, rfl, b, _, rfl, .inr (sqT_ext ((e12.trans e3).trans e45) hb), fun z hz => ?_⟩
      have e6 := same_new (o := HO.lst (cols.map V.str)) hz
      have e46 := e45.trans e6
      refine ⟨_, .list (cols.map PyData.str), (d5.ext e6).dp, .lst (SqL.of upd_same) (dpAll_strs _), shaped_Ls (fun x hx => all_ok vq.v x ((srt_perm _ _).mem_iff.1 hx)), shaped_Ls hc, _, rfl, ?_⟩
      rw [eqv_Ls]
      have ce : srt encS (allQ q) = colsQ q := (cols_eq_srt vq.v).symm
      rw [ce]
      by_cases z : colsQ q = cols
      · exact iT (by simp [z]) ⟨_, rfl, hyes _ _ (by simp [z]) e46 (df_of_dp _ _ (flat_Q _) (dp_ext e46 k2))⟩
      · exact iF (by simp [z]) (hno _ (by simp [z]) e46)
    intro H3 e3 d3
    have hso : qs.filter (fun q => decide (colsQ q = cols)) = someM qs cols := rfl
    rw [hso] at d3
    have dh := dh.ext e3
    have e13 := e12.trans e3
    refine ⟨by show 2 ≤ sizeLine; decide, fun tu htu => ?_⟩
    have e4 := same_new (o := HO.tup [hh, V.ref D]) htu
    refine ⟨tu, _, rfl, SqT.of upd_same, rfl, _, _, rfl, _, _, rfl, rfl, ?_⟩
    have dh := dh.ext e4
    have d4 := d3.ext e4
    have e14 := e13.trans e4
    generalize upd H3 tu (HO.tup [hh, V.ref D]) = H4 at e14 dh d4
    refine ⟨_, rfl, _, rfl, _, rfl, _, _, rfl, rfl, _, d, qs, t, _, rfl, dp_ext e14 he, hv, l9, e14 _ _ hd, fun wv H5 e5 dw => ?_⟩
    have dh5 := dh.ext e5
    have d5 := d4.ext e5
    obtain ⟨ha, us, rfl, hus, dus⟩ : ∃ ha us, hh = .ref ha ∧ H5 ha = some (.lst us) ∧ DpAll K H5 us ((qs.filter fun q => decide (wgt (tabOf t) cols < wq (tabOf t) q)).map encQ) := by
      cases dh5 with | lst a1 a2 a3 => exact ⟨_, _, rfl, a2, a3.dp⟩
    obtain ⟨xs, hxs, dxs⟩ : ∃ xs, H5 D = some (.lst xs) ∧ DpAll K H5 xs ((someM qs cols).map encQ) := by
      cases d5 with | lst a1 a2 a3 => exact ⟨_, a2, a3.dp⟩
    have hvf : ∀ q ∈ qs.filter (fun q => decide (wgt (tabOf t) cols < wq (tabOf t) q)), VQ6 q := fun q hq' => hv q (List.mem_filter.1 hq').1
    have hvs : ∀ q ∈ someM qs cols, VQ6 q := fun q hq' => hv q (List.mem_filter.1 hq').1
    have ndl := nd_least (tab := tabOf t) (fun q hq' => (hv q hq').v) nd hex
    have ll : ((qs.filter fun q => decide (wgt (tabOf t) cols < wq (tabOf t) q)) ++ someM qs cols).length ≤ qs.length := ndl.length_le_of_subset (fun q hq' => by
      rcases List.mem_append.1 hq' with h | h
      · exact (List.mem_filter.1 h).1
      · exact (List.mem_filter.1 h).1)
    have lus : us.length = (qs.filter fun q => decide (wgt (tabOf t) cols < wq (tabOf t) q)).length := by have := dpAll_len dus; simpa using this
    have lxs : xs.length = (someM qs cols).length := by have := dpAll_len dxs; simpa using this
    have lapp := ll
    rw [List.length_append] at lapp
    refine ⟨_, rfl, _, rfl, ha, D, us, xs, rfl, rfl, hus, hxs, Nat.le_of_lt (small1000 (by omega)), fun l1 hl1 => ?_⟩
    have e6 := same_new (o := HO.lst (us ++ xs)) hl1
    refine ⟨_, _, rfl, .lst (SqL.of upd_same) (by rw [List.map_append]; exact dpAll_append (dpAll_ext e6 dus) (dpAll_ext e6 dxs)), fun q hq' => ?_, Nat.le_trans ll l9, fun H7 e7 => ?_⟩
    · rcases List.mem_append.1 hq' with h | h
      · exact hvf q h
      · exact hvs q h
    have e67 := e6.trans e7
    have lf9 : (qs.filter fun q => decide (wgt (tabOf t) cols < wq (tabOf t) q)).length ≤ 9 := Nat.le_trans (List.length_filter_le _ _) l9
    refine ⟨_, rfl, _, _, rfl, .lst (SqL.of (e67 _ _ hus)) (dpAll_ext e67 dus), hvf, lf9, fun H8 e8 => ⟨_, _, rfl, rfl, ?_⟩⟩
    have e58 := e67.trans e8
    have dw8 := dw.ext e58
    have d8 := d5.ext e58
    obtain ⟨wa, ws, rfl, hws, dws⟩ : ∃ wa ws, wv = .ref wa ∧ H8 wa = some (.lst ws) ∧ DpAll K H8 ws ((qs.filter fun q => decide (wgt (tabOf t) cols - 1 < wq (tabOf t) q)).map encQ) := by
      cases dw8 with | lst a1 a2 a3 => exact ⟨_, _, rfl, a2, a3.dp⟩
    have hvw : ∀ q ∈ qs.filter (fun q => decide (wgt (tabOf t) cols - 1 < wq (tabOf t) q)), VQ6 q := fun q hq' => hv q (List.mem_filter.1 hq').1
    have lw9 : (qs.filter fun q => decide (wgt (tabOf t) cols - 1 < wq (tabOf t) q)).length ≤ 9 := Nat.le_trans (List.length_filter_le _ _) l9
    have lws : ws.length = (qs.filter fun q => decide (wgt (tabOf t) cols - 1 < wq (tabOf t) q)).length := by have := dpAll_len dws; simpa using this
    refine ⟨_, rfl, _, rfl, _, _, rfl, .lst (SqL.of hws) dws, hvw, lw9, fun H9 e9 => ?_⟩
    have hws9 := e9 _ _ hws
    have dws9 := dpAll_ext e9 dws
    have d9 := d8.ext e9
    refine ⟨_, rfl, wa, rfl, ⟨_, SqL.of hws9⟩, fun D2 hD2 => lcG (K := K) (src_list (SqL.of hws9)) (Same.refl _) hD2 (qs.filter fun q => decide (wgt (tabOf t) cols - 1 < wq (tabOf t) q)) lws.symm (by rw [lws]; exact small1000 (by omega)) (fun q => !decide (q ∈ someM qs cols)) encQ ?_ ?_⟩
    · rintro i q x Ha R hi ea hx hyes hno
      obtain ⟨dd, k1, k2⟩ := dpAll_get dws9 hx
      rw [List.getElem?_map, hi] at k1
      cases k1
      have k2 := dp_ext ea k2
      have vq := hvw q (List.mem_of_getElem? hi)
      refine ⟨rfl, _, rfl, _, rfl, encQ q, (someM qs cols).map encQ, k2, .inl (d9.ext ea).dp, shaped_Q vq.v, shaped_Qs (fun q hq' => (hvs q hq').v), _, rfl, ?_⟩
      have hany : (((someM qs cols).map encQ).any fun z => PyData.eqv z (encQ q)) = decide (q ∈ someM qs cols) := by
        rw [List.any_map, Bool.eq_iff_iff, List.any_eq_true, decide_eq_true_eq]
        constructor
        · rintro ⟨y, hy, e⟩
          have e : PyData.eqv (encQ y) (encQ q) = true := e
          rw [eqv_Q, decide_eq_true_eq] at e
          rw [← e]; exact hy
        · intro h
          exact ⟨q, h, by show PyData.eqv (encQ q) (encQ q) = true; rw [eqv_Q]; simp⟩
      rw [hany]
      by_cases z : q ∈ someM qs cols
      · exact iF (by simp [z]) (hno _ (by simp [z]) (Same.refl _))
      · exact iT (by simp [z]) ⟨_, rfl, hyes _ _ (by simp [z]) (Same.refl _) (df_of_dp _ _ (flat_Q _) k2)⟩
    intro Ha ea da
    refine ⟨_, _, rfl, da.dp, fun q hq' => hvw q (List.mem_filter.1 hq').1, Nat.le_trans (List.length_filter_le _ _) lw9, fun Hb eb => ⟨_, _, rfl, rfl, by show 2 ≤ sizeLine; decide, fun r hr' => ?_⟩⟩
    exact hq _ _ ((((e14.trans e5).trans e58).trans ((e9.trans ea).trans eb)).trans (same_new hr')) (SqT.of upd_same)
theorem ok_l_is_with {fi fl : Addr} {fdi fdl : FuncData} (F : FnD K "_law_is_with" "_law_is_with" s__law_is_with f fd) (D__law_weigh : Def P w K mg base "_law_weigh" 1 ["_law_table_here", "_law_columns"] (spWeigh K)) (D__law_all_served : Def P w K mg base "_law_all_served" 3 ["_law_rows", "_law_some"] (spAllServed K))
    (D__law_times : Def P w K mg base "_law_times" 1 ["_law_rows", "_law_columns"] (spTimes K)) (OI : FnS P w K mg base 1 fi fdi ["self"] (spIter K c.Shelf "kept_indexes")) (Bi : Binds K fdi ["self"] []) (Mi : Meth K c.Shelf "__iter__" fi)
    (OL : FnOk P w K mg base CX0 1 fl fdl ["self"] (spLen K c.Shelf "kept_indexes")) (Bl : Binds K fdl ["self"] []) (Ml : Meth K c.Shelf "__len__" fl) :
    FnOk P w K mg base CX0 6 f fd ["_law_some", "_law_table_here", "_law_least", "_law_columns", "_law_many", "_law_thing"] (spWith K c) := by
  refine F.ok sc__law_is_with (fun vs H Q E h => ?_) (fun cdv A outer s H vs Q E hr h => ?_)
  · obtain ⟨v, d, p, u, qs, t, cols, rs, least, many, rfl, _⟩ := h; rfl
  · obtain ⟨v, d, p, u, qs, t, cols, rs, least, many, rfl, he, hv, l9, hd, hu, hc, hS, hl, l48, hsv, hsum, htm, hq⟩ := h
    refine ⟨_, PSs.nox (pss_cons (ps_set (i := 6) sc__law_is_with.nd rfl (by first | exact Or.inl rfl | exact Or.inr rfl) (pe_callTy (cr_ownList (k := 1) (x := "kept_indexes") ⟨OI, Bi, Mi⟩ ⟨OL, Bl, Ml⟩ rfl hr) (by rfl) T.m_list (by decide +kernel) (pa_cons (pv 5) pa_nil)))
    (pss_cons (ps_if (PW.pt (pw_or (pt_not (pt_val (pe_def D__law_all_served (hr.mono (by first | decide | omega)) (pa_cons (pv 6) (pa_cons (pv 0) pa_nil))))) (pw_or1 (pt_cmpR op_ne (pe_callB (k_sum (K := K) rfl rfl) (by rfl) T.m_sum (by decide +kernel) (pa_cons (pe_lc (own := [("_law_row", 7)]) rfl sc__law_is_with.nd (k_piL (K := K) rfl (pv 6)) (blkOk_by (own := [("_law_row", 7)]) (N := N__law_is_with) (by kernel_rfl)) (fun _ _ _ _ _ => (pg_name (i := 7) sc__law_is_with.nd rfl (by first | exact Or.inl rfl | exact Or.inr rfl))) (fun _ _ _ _ _ => pts_nil) (fun _ _ _ _ _ => (pe_def D__law_weigh (hr.mono (by first | decide | omega)) (pa_cons (pv 1) (pa_cons (pv 7) pa_nil))))) pa_nil)) (pv 2) (nomark _))))) (pss_one (ps_ret pe_bl)) pss_nil)
    (pss_one (ps_ret (pe_cmpR op_eq (pe_def D__law_times (hr.mono (by first | decide | omega)) (pa_cons (pv 6) (pa_cons (pv 3) pa_nil))) (pv 4) (nomark _)))))), ?_⟩
    obtain ⟨dx, tt, vs, h1, h2, h3⟩ := id hS
    have lv : vs.length = rs.length := by have := dpAll_len h3; simpa using this
    refine ⟨_, rfl, p, dx, tt, _, vs, rfl, h1, look_eq, h2, fun r0 hr0 => ?_⟩
    have e1 := same_new (o := HO.lst vs) hr0
    have hr1 : (upd H r0 (HO.lst vs)) r0 = some (.lst vs) := upd_same
    generalize upd H r0 (HO.lst vs) = H1 at e1 hr1
    have h31 := dpAll_ext e1 h3
    refine ⟨_, rfl, _, rfl, _, v, rs, qs, rfl, .lst (SqL.of hr1) h31, hl, l48, dp_ext e1 he, hv, l9, fun H2 e2 => ⟨_, rfl, ?_⟩⟩
    have hall : (qs.all fun q => rs.any fun r => serves r q) = true := by
      rw [List.all_eq_true]
      exact fun q hq' => by
        obtain ⟨r, a1, a2⟩ := hsv q hq'
        exact List.any_eq_true.2 ⟨r, a1, a2⟩
    rw [hall]
    refine iF rfl ?_
    have e02 := e1.trans e2
    have hr2 := e2 _ _ hr1
    have h32 := dpAll_ext e2 h31
    refine ⟨_, rfl, r0, rfl, ⟨_, SqL.of hr2⟩, fun D hD => lcM (K := K) (src_list (SqL.of hr2)) (Same.refl _) hD rs lv.symm (by rw [lv]; exact small1000 (by omega)) (fun r => PyData.int (wgt (tabOf t) r)) ?_ ?_⟩
    · rintro i r x H3 R hi e3 hx hyes
      obtain ⟨dd, k1, k2⟩ := dpAll_get h32 hx
      rw [List.getElem?_map, hi] at k1
      cases k1
      obtain ⟨xa, rfl, hxa⟩ := dpL (dp_ext e3 k2)
      have := (hl r (List.mem_of_getElem? hi)).2
      exact ⟨rfl, _, rfl, _, rfl, d, xa, t, r, rfl, (e02.trans e3) _ _ hd, .inr hxa, by omega, fun H4 e4 => hyes _ _ e4 (.int _)⟩
    intro H3 e3 d3
    have hb : (rs.map fun r => PyData.int (wgt (tabOf t) r)) = (rs.map (wgt (tabOf t))).map PyData.int := by rw [List.map_map]; rfl
    rw [hb] at d3
    cases d3 with | lst a1 a2 a3 =>
    rw [dpAll_toInts a3.dp] at a2
    refine ⟨D, _, rfl, SqL.of a2, _, rfl, rfl, _, rfl, ?_⟩
    rw [hsum]
    refine iF (by simp) ?_
    have e03 := e02.trans e3
    refine ⟨_, rfl, _, rfl, _, u, rs, cols, rfl, .lst (SqL.of (e3 _ _ hr2)) (dpAll_ext e3 h32), hl, l48, dp_ext e03 hu, hc, fun H4 e4 => ⟨_, rfl, rfl, q_bl ?_ (hq _ (e03.trans e4))⟩⟩
    rw [decide_eq_true_eq, htm]
theorem ok_l_alike (F : FnD K "_law_alike" "_law_alike" s__law_alike f fd) : FnG P w K mg base 1 f fd ["_law_found", "_law_due"] (spAlike K) := by
  refine FnG.of F sc__law_alike (fun vs H Q E h => ?_) (fun cdv A outer s H vs Q E hr hg h => ?_)
  · obtain ⟨v, u, d, rfl, _⟩ := h; rfl
  · obtain ⟨v, u, d, rfl, hv, hu, hs, hq⟩ := h
    refine ⟨_, PSs.nox (pss_one (ps_ret (pe_and (pe_cmpR (k_eqD (K := K) rfl (hu64 hr)) (pv 0) (pv 1) (nomark _)) (pe_one (pe_cmpR op_eq (pe_callB (k_repr (K := K) rfl (hu65 hr) hg) (by rfl) T.m_repr (by decide +kernel) (pa_cons (pv 0) pa_nil)) (pe_callB (k_repr (K := K) rfl (hu65 hr) hg) (by rfl) T.m_repr (by decide +kernel) (pa_cons (pv 1) pa_nil)) (nomark _)))))), ?_⟩
    have sh : SeqAt.shaped d = true ∧ PyData.eqv d d = true := by
      cases d with
      | int i => exact ⟨rfl, by simp [PyData.eqv]⟩
      | tuple ds =>
        match ds, hs with
        | [.int i, .int j], _ => exact ⟨rfl, by simp [PyData.eqv, PyData.eqvAll]⟩
      | _ => exact False.elim hs
    refine ⟨_, rfl, _, rfl, d, d, hv, hu, sh.1, sh.1, _, rfl, iT sh.2 ?_⟩
    refine ⟨_, rfl, v, d, rfl, hv, hs, _, rfl, u, d, rfl, hu, hs, rfl, q_bl (decide_eq_true rfl) hq⟩
end
end NkW
end
section
set_option Elab.async false
set_option linter.all false
set_option maxRecDepth 100000
set_option maxHeartbeats 4000000
set_option exponentiation.threshold 2000
/-! the law -/
namespace NkW
open PySem PySem.Spec PyProof.Rows L2 NkO NkR NkS NkQ NkM
section
variable {X : Cx}
/-- d == {} -/
def rEqE : R2 := fun x y H Q => ∃ a b ks, x = .ref a ∧ y = .ref b ∧ H a = some (.dK ks) ∧ H b = some (.dK []) ∧ Q (.bl ks.isEmpty) H
theorem op_eqE (hu : X.A.units < cLine) : OpR X (compareOp .Eq) rEqE := by
  intro pins s σ H x y v u Q I rx ry h
  obtain ⟨a, b, ks, rfl, rfl, ea, eb, q⟩ := h
  cases rx
  cases ry
  obtain ⟨_, ya, va, ra, da⟩ := dk_of I.hok ea
  obtain ⟨_, yb, vb, rb, db⟩ := dk_of I.hok eb
  have l1 := ra.length
  have l2 := rb.length
  refine PySem.W.keq_eq (knd := mixKind X.prog X.w) (r := true) ya yb da db hu (fun hl => ?_) (fin_bl I q ?_)
  · have : ks = [] := List.eq_nil_of_length_eq_zero (by rw [l1, hl, ← l2]; rfl)
    subst this
    exact hits_all rb ra (fun p hp => by cases hp)
  · rw [← l1, ← l2]
    cases ks <;> rfl
end

/-! ### plain facts -/
theorem most_le {S : List NkQ.Q} (hn : S.Nodup) : mostApart S ≤ S.length := by
  obtain ⟨A, a1, a2, _, a4⟩ := (mostApart_isW hn).ex
  have := a1.length_le_of_subset a2
  omega
theorem leastL_bd {tab : Str → Int} {qs : List NkQ.Q} {cols : List Str} (hv : ∀ q ∈ qs, VQ6 q) (hn : qs.Nodup) (hc : ∃ q ∈ qs, colsQ q = cols) (l9 : qs.length ≤ 9) : -9 ≤ leastL tab qs cols ∧ leastL tab qs cols ≤ 9 := by
  have nd := nd_least (tab := tab) (fun q hq => (hv q hq).v) hn hc
  have h1 := most_le nd
  have h2 := most_le (nodup_filter (p := fun q => decide (wgt tab cols < wq tab q)) hn)
  have h3 := nd.length_le_of_subset (l₂ := qs) (fun q hq => by
    rcases List.mem_append.1 hq with h | h
    · exact (List.mem_filter.1 h).1
    · exact (List.mem_filter.1 h).1)
  have h4 := List.length_filter_le (fun q => decide (wgt tab cols < wq tab q)) qs
  unfold leastL; omega
theorem mostL_bd {tab : Str → Int} {qs : List NkQ.Q} {cols : List Str} (hn : qs.Nodup) (l9 : qs.length ≤ 9) : -9 ≤ mostL tab qs cols ∧ mostL tab qs cols ≤ 9 := by
  have n1 := nodup_filter (p := fun q => decide (wgt tab cols - 1 < wq tab q)) hn
  have n2 := nodup_filter (p := fun q => !decide (q ∈ someM qs cols)) n1
  have h1 := most_le n1
  have h2 := most_le n2
  have h3 := List.length_filter_le (fun q => decide (wgt tab cols - 1 < wq tab q)) qs
  have h4 := List.length_filter_le (fun q => !decide (q ∈ someM qs cols)) (qs.filter (fun q => decide (wgt tab cols - 1 < wq tab q)))
  unfold mostL; omega
theorem step_bd {g : Int → Int} {M G : Int} (hG : 0 ≤ G) : ∀ (ls : List Int) (b : Int), (b :: ls).Pairwise (· < ·) → (∀ x ∈ ls, 0 ≤ g x ∧ g x ≤ G) → (∀ x ∈ ls, x ≤ M) → b ≤ M → 0 ≤ stepSum b ls g ∧ stepSum b ls g ≤ (M - b) * G := by
  intro ls
  induction ls with
  | nil =>
    intro b _ _ _ hb
    exact ⟨Int.le_refl _, Int.mul_nonneg (by omega) hG⟩
  | cons x xs ih =>
    intro b hp hg hM hb
    obtain ⟨p1, p2⟩ := List.pairwise_cons.1 hp
    have bx := p1 x (by simp)
    have hx := hM x (by simp)
    obtain ⟨g0, gG⟩ := hg x (by simp)
    obtain ⟨i1, i2⟩ := ih x p2 (fun y hy => hg y (List.mem_cons_of_mem _ hy)) (fun y hy => hM y (List.mem_cons_of_mem _ hy)) hx
    have e1 : 0 ≤ (x - b) * g x := Int.mul_nonneg (by omega) g0
    have e2 : (x - b) * g x ≤ (x - b) * G := Int.mul_le_mul_of_nonneg_left gG (by omega)
    have e3 : (x - b) * G + (M - x) * G = (M - b) * G := by rw [← Int.add_mul]; congr 1; omega
    show 0 ≤ (x - b) * g x + stepSum x xs g ∧ (x - b) * g x + stepSum x xs g ≤ (M - b) * G
    omega
theorem lev_mem {tab : Str → Int} {qs : List NkQ.Q} {x : Int} (h : x ∈ levelsM (wsM tab qs)) : ∃ q ∈ qs, wq tab q = x := by
  have := canon_mem.1 h
  obtain ⟨q, hq, e⟩ := List.mem_map.1 this
  exact ⟨q, hq, e⟩
theorem lev_bd {t : List (Str × Int)} (ht : TabOk t) {qs : List NkQ.Q} (hv : ∀ q ∈ qs, VQ6 q) {x : Int} (h : x ∈ levelsM (wsM (tabOf t) qs)) : 1 ≤ x ∧ x ≤ 10 ^ 39 := by
  obtain ⟨q, hq, rfl⟩ := lev_mem h
  exact wq_bd ht (hv q hq)
theorem due_bd {t : List (Str × Int)} (ht : TabOk t) {qs : List NkQ.Q} (hv : ∀ q ∈ qs, VQ6 q) (hn : qs.Nodup) (l9 : qs.length ≤ 9) : (dueL (tabOf t) qs).natAbs < 2 ^ 400 := by
  have h := step_bd (g := fun x => (mostApart (qs.filter (fun q => decide (x ≤ wq (tabOf t) q))) : Int)) (M := 10 ^ 39) (G := 9) (by decide) (levelsM (wsM (tabOf t) qs)) 0 (List.pairwise_cons.2 ⟨fun x hx => by have := (lev_bd ht hv hx).1; omega, levels_lt _⟩)
    (fun x _ => ⟨by omega, by
      have h1 := most_le (nodup_filter (p := fun q => decide (x ≤ wq (tabOf t) q)) hn)
      have h2 := List.length_filter_le (fun q => decide (x ≤ wq (tabOf t) q)) qs
      omega⟩) (fun x hx => (lev_bd ht hv hx).2) (by decide)
  have e : dueL (tabOf t) qs = stepSum 0 (levelsM (wsM (tabOf t) qs)) (fun x => (mostApart (qs.filter (fun q => decide (x ≤ wq (tabOf t) q))) : Int)) := rfl
  rw [← e] at h
  have k : ((10 : Int) ^ 39 - 0) * 9 < 2 ^ 140 := by decide
  have k2 : (2 : Nat) ^ 140 < 2 ^ 400 := by decide
  have k3 : ((2 ^ 140 : Nat) : Int) = 2 ^ 140 := by decide
  omega
theorem rows_perm {S : List NkQ.Q} (hv : All S) {R : Nat} (hR : ∀ x < S.length, rk (atQ S x) < R) {m : List (Nat × Nat)} (hm : Mt (abQ S) (swapD m)) (nk : (keysM m).Nodup) : ∀ r ∈ rowsOf S m R, ∃ q ∈ S, r.Perm (allQ q) := by
  intro r hr
  obtain ⟨ch, hch, rfl⟩ := List.mem_map.1 hr
  obtain ⟨a1, a2, a3, a4⟩ := chain_asc hv hR hm nk ch hch
  have h' : ch.map (atQ S) ≠ [] := by simpa using a1
  obtain ⟨i, hi, e⟩ := List.mem_map.1 (List.getLast_mem h')
  exact ⟨_, atQ_mem (a2 i hi), by rw [e]; exact (index_spec a4 a3 h').2⟩
theorem perm_dpAll {K : PySem.W.Frag} {H : Hp} {α : Type} {enc : α → PyData} {vs ys : List V} (p : vs.Perm ys) : ∀ {l : List α}, DpAll K H vs (l.map enc) → ∃ m : List α, m.Perm l ∧ DpAll K H ys (m.map enc) := by
  induction p with
  | nil => intro l h; exact ⟨l, List.Perm.refl _, h⟩
  | cons x _ ih =>
    intro l h
    cases l with
    | nil => cases h
    | cons a l =>
      cases h with | cons h1 h2 =>
      obtain ⟨m, hm, hd⟩ := ih h2
      exact ⟨a :: m, hm.cons a, .cons h1 hd⟩
  | swap x y l' =>
    intro l h
    match l, h with
    | a :: b :: l, .cons h1 (.cons h2 h3) => exact ⟨b :: a :: l, List.Perm.swap a b l, .cons h2 (.cons h1 h3)⟩
  | trans _ _ i1 i2 =>
    intro l h
    obtain ⟨m, hm, hd⟩ := i1 h
    obtain ⟨m', hm', hd'⟩ := i2 hd
    exact ⟨m', hm'.trans hm, hd'⟩
theorem paired_L {K : PySem.W.Frag} {H : Hp} : ∀ {vs : List V} {l : List (List Str)}, DpAll K H vs (l.map encL) → Paired (fun v k => (∃ a, v = V.ref a) ∧ Dp K H v k.data ∧ k.depth ≤ 8) vs (l.map kL)
  | _, [], h => by cases h; exact .nil
  | _, q :: qs, h => by
    cases h with
    | cons h1 h2 =>
      obtain ⟨b, rfl, _⟩ := dpL h1
      refine .cons ⟨⟨b, rfl⟩, by rw [kL_data]; exact h1, ?_⟩ (paired_L h2)
      have h : NestedKey.depthAll (q.map NestedKey.text) ≤ 1 := paired_Q.dt q
      simp [kL, NestedKey.depth]; omega
/-- a list of questions apart from the bag -/
def ListQ (K : PySem.W.Frag) (H : Hp) (b p : Addr) (S : List NkQ.Q) : Prop := p ≠ b ∧ ∃ us, H p = some (.lst us) ∧ DpAll K (wo [b] H) us (S.map encQ)
section
variable {K : PySem.W.Frag} {H H' : Hp} {b ca p : Addr} {S : List NkQ.Q} {k : Nat} {c : Ad}
theorem ListQ.ext (h : ListQ K H b p S) (e : Same H H') : ListQ K H' b p S := by
  obtain ⟨n, us, h1, h2⟩ := h
  exact ⟨n, us, e _ _ h1, dpAll_ext (same_wo e) h2⟩
theorem ListQ.drew (h : ListQ K H b p S) (d : Drew K b ca H H' k) : ListQ K H' b p S := by
  obtain ⟨n, us, h1, h2⟩ := h
  exact ⟨n, us, d.at_ n h1, dpAll_ext d.same h2⟩
theorem ListQ.dp (h : ListQ K H b p S) : Dp K H (.ref p) (.list (S.map encQ)) := by
  obtain ⟨n, us, h1, h2⟩ := h
  exact .lst (SqL.of h1) (dpAll_ext wo_same h2)
/-- an Asked apart from the bag -/
theorem askAt_wo (hb : BagAt K H b ca k) (h : AskAt K c H p S) : AskAt K c (wo [b] H) p S := by
  obtain ⟨dx, t, vs, h1, h2, h3⟩ := h
  have chg := bag_chg hb
  refine ⟨dx, t, vs, ?_, wo_sqT chg h2, wo_dpAll chg (fun q _ => flat_Q q) h3⟩
  rw [wo_at]; exact h1
  intro z
  obtain ⟨o, e, _⟩ := chg p z
  obtain ⟨x, y, zz, ns, hb1, _⟩ := hb
  obtain rfl : p = b := by simpa using z
  rw [hb1] at h1; cases h1
theorem askAt_drew (hb : BagAt K H b ca k) (h : AskAt K c H p S) {l : Nat} (d : Drew K b ca H H' l) : AskAt K c H' p S := (askAt_wo hb h).ext d.out
theorem wtAt_drew {v : V} {t : List (Str × Int)} (hb : BagAt K H b ca k) (h : WtAt K c H v t) {l : Nat} (d : Drew K b ca H H' l) : WtAt K c H' v t := by
  rcases h with h | ⟨p, dx, dd, h1, h2, h3⟩
  · exact .inl h
  · obtain ⟨x, y, zz, ns, hb1, _⟩ := hb
    refine .inr ⟨p, dx, dd, h1, d.at_ (fun z => ?_) h2, d.at_ (fun z => ?_) h3⟩
    · rw [z, hb1] at h2; cases h2
    · rw [z, hb1] at h3; cases h3
end
end NkW
end
section
set_option Elab.async false
set_option linter.all false
set_option maxRecDepth 100000
set_option maxHeartbeats 8000000
set_option exponentiation.threshold 2000
/-! the law -/
namespace NkW
open PySem PySem.Spec PyProof.Rows L2 NkO NkR NkS NkQ NkM
abbrev s_law : Stmt := top 87
abbrev N_law : List Str := ["_law_script", "_law_bag_here", "_law_turn", "_law_names_here", "_law_some", "_law_asked", "_law_table_here", "_law_told", "_law_due", "_law_twin", "_law_totals", "_law_columns", "_law_least", "_law_most", "_law_many", "_law_thing", "_law_one_here"]
theorem sc_law : FnScope N_law ["_law_script"] (defScope s_law) := ⟨rfl, rfl, rfl, by decide +kernel, rfl, by decide +kernel, by decide +kernel⟩
def spLaw (K : PySem.W.Frag) : Sp := fun vs H Q _ => ∃ a, ∃ ns : List Int, vs = [.ref a] ∧ SqL K H a (ns.map V.int) ∧ ns.length ≤ 63 ∧ ∀ H', Q (.bl true) H'
section
variable {P : Program} {w : World} {K : PySem.W.Frag} {mg : Str → Option Value} {base : Heap} {c : Ad} {f : Addr} {fd : FuncData} (T : Tx K mg c)
include T
theorem ok_law {fe : Addr} {fde : FuncData} (F : FnD K "law" "law" s_law f fd)
    (D__law_bag : Def P w K mg base "_law_bag" 1 ["_law_script"] (spBagL K)) (D__law_take : Def P w K mg base "_law_take" 1 ["_law_bag_here", "_law_upto"] (spTake K)) (D__law_names : Def P w K mg base "_law_names" 2 ["_law_bag_here", "_law_many"] (spNames K))
    (D__law_questions : Def P w K mg base "_law_questions" 3 ["_law_bag_here", "_law_names_here", "_law_many"] (spQuests K)) (M_Asked : Made P w K mg base "Asked" c.Asked 5 ["self", "questions"] (spAskInit K c))
    (D__law_table : Def P w K mg base "_law_table" 3 ["_law_bag_here", "_law_names_here"] (spTable K)) (M_Weights : Made P w K mg base "Weights" c.Weights 3 ["self", "table"] (spWtInit K c))
    (D__law_levels : Def P w K mg base "_law_levels" 5 ["_law_some", "_law_table_here"] (spLevels K)) (D__law_sum : Def P w K mg base "_law_sum" 1 ["_law_rows"] (spSum K)) (D__law_mixed : Def P w K mg base "_law_mixed" 2 ["_law_bag_here", "_law_things"] (spMixed K))
    (D_least_cost : DefK P w K mg base "least_cost" "weights" 1 55 ["asked", "weights"] (spLeast K c)) (D__law_alike : DefG P w K mg base "_law_alike" 1 ["_law_found", "_law_due"] (spAlike K)) (D__law_all : Def P w K mg base "_law_all" 1 ["_law_question"] (spAll K))
    (D_whole_range : DefK P w K mg base "whole_range" "weights" 2 56 ["asked", "columns", "weights"] (spRange K c)) (D__law_range : Def P w K mg base "_law_range" 5 ["_law_some", "_law_table_here", "_law_columns"] (spRangeL K))
    (D_shelf_with : DefK P w K mg base "shelf_with" "weights" 3 57 ["asked", "columns", "many", "weights"] (spShelfWith K c)) (D__law_is_with : Def P w K mg base "_law_is_with" 6 ["_law_some", "_law_table_here", "_law_least", "_law_columns", "_law_many", "_law_thing"] (spWith K c))
    (D_fewest : Def P w K mg base "fewest" 55 ["asked"] (spFewest K c))
    (OE : FnOk P w K mg base CX0 1 fe fde ["self", "other"] (spShEq K c)) (BE : Binds K fde ["self", "other"] []) (ME : Meth K c.Shelf "__eq__" fe) (hne : PySem.W.findIn K (.ref c.Shelf) "__ne__" = some (some (.builtin "object.__ne__"))) (hob : PySem.W.subIn K (.ref c.Shelf) (.type "object") = some true) :
    FnG P w K mg base 58 f fd ["_law_script"] (spLaw K) := by
  refine FnG.of F sc_law (fun vs H Q E h => ?_) (fun cdv A outer s H vs Q E hr hg h => ?_)
  · obtain ⟨a, ns, rfl, _⟩ := h; rfl
  · obtain ⟨a, ns, rfl, hs, hl, hq⟩ := h
    refine ⟨_, PSs.nox (pss_cons (ps_set (i := 1) sc_law.nd rfl (by first | exact Or.inl rfl | exact Or.inr rfl) (pe_def D__law_bag (hr.mono (by first | decide | omega)) (pa_cons (pv 0) pa_nil)))
    (pss_cons (ps_for PassesOwn.never rfl (pi_range1 (by rfl) T.m_range (pa_cons pe_int pa_nil)) (pg_name (i := 2) sc_law.nd rfl (by first | exact Or.inl rfl | exact Or.inr rfl))
    (pss_cons (ps_set (i := 3) sc_law.nd rfl (by first | exact Or.inl rfl | exact Or.inr rfl) (pe_def D__law_names (hr.mono (by first | decide | omega)) (pa_cons (pv 1) (pa_cons (pe_op op_add pe_int (pe_def D__law_take (hr.mono (by first | decide | omega)) (pa_cons (pv 1) (pa_cons pe_int pa_nil)))) pa_nil))))
    (pss_cons (ps_set (i := 4) sc_law.nd rfl (by first | exact Or.inl rfl | exact Or.inr rfl) (pe_callB (k_sort (K := K) (w := w) NestedKey.data rfl rfl hr rfl) (by rfl) T.m_sorted (by decide +kernel) (pa_cons (pe_callTy (k_setN (K := K) (w := w) rfl rfl hr rfl) (by rfl) T.m_set (by decide +kernel) (pa_cons (pe_def D__law_questions (hr.mono (by first | decide | omega)) (pa_cons (pv 1) (pa_cons (pv 3) (pa_cons (pe_def D__law_take (hr.mono (by first | decide | omega)) (pa_cons (pv 1) (pa_cons pe_int pa_nil))) pa_nil)))) pa_nil)) pa_nil)))
    (pss_cons (ps_par (i := 5) (j := 6) (by rfl) sc_law.nd rfl rfl (by decide) rfl rfl (pa_cons (pe_mk M_Asked (hr.mono (by first | decide | omega)) (pa_cons (pv 4) pa_nil)) (pa_cons (pe_def D__law_table (hr.mono (by first | decide | omega)) (pa_cons (pv 1) (pa_cons (pv 3) pa_nil))) pa_nil)) (by rfl))
    (pss_cons (ps_set (i := 7) sc_law.nd rfl (by first | exact Or.inl rfl | exact Or.inr rfl) (pe_ifExp (pt_cmpR (op_eqE hr.units0) (pv 6) pe_dnewK (nomark _)) pe_non (pe_mk M_Weights (hr.mono (by first | decide | omega)) (pa_cons (pv 6) pa_nil))))
    (pss_cons (ps_par (i := 8) (j := 9) (by rfl) sc_law.nd rfl rfl (by decide) rfl rfl (pa_cons (pe_def D__law_sum (hr.mono (by first | decide | omega)) (pa_cons (pe_def D__law_levels (hr.mono (by first | decide | omega)) (pa_cons (pv 4) (pa_cons (pv 6) pa_nil))) pa_nil)) (pa_cons (pe_mk M_Asked (hr.mono (by first | decide | omega)) (pa_cons (pe_def D__law_mixed (hr.mono (by first | decide | omega)) (pa_cons (pv 1) (pa_cons (pe_op op_cat (pv 4) (pv 4)) pa_nil))) pa_nil)) pa_nil)) (by rfl))
    (pss_cons (ps_if (pt_not (pt_val (pe_defG D__law_alike (hr.mono (by first | decide | omega)) hg (pa_cons (pe_defK D_least_cost (hr.mono (by first | decide | omega)) (pa_cons (pv 5) pa_nil) (pk_cons (pv 7) pk_nil)) (pa_cons (pv 8) pa_nil))))) (pss_one (ps_ret pe_bl)) pss_nil)
    (pss_cons (ps_set (i := 10) sc_law.nd rfl (by first | exact Or.inl rfl | exact Or.inr rfl) (pe_lst (pa_cons pe_int (pa_cons pe_int pa_nil))))
    (pss_cons (ps_for PassesOwn.never rfl (k_piL (K := K) rfl (pe_callB (k_sort (K := K) (w := w) NestedKey.data rfl rfl hr rfl) (by rfl) T.m_sorted (by decide +kernel) (pa_cons (pe_callTy (k_setN (K := K) (w := w) rfl rfl hr rfl) (by rfl) T.m_set (by decide +kernel) (pa_cons (pe_lc (own := [("_law_one_here", 16)]) rfl sc_law.nd (k_piL (K := K) rfl (pv 4)) (blkOk_by (own := [("_law_one_here", 16)]) (N := N_law) (by kernel_rfl)) (fun _ _ _ _ _ => (pg_name (i := 16) sc_law.nd rfl (by first | exact Or.inl rfl | exact Or.inr rfl))) (fun _ _ _ _ _ => pts_nil) (fun _ _ _ _ _ => (pe_callTy (k_tuple (K := K) rfl) (by rfl) T.m_tuple (by decide +kernel) (pa_cons (pe_callB (k_sort (K := K) (w := w) NkQ.encS rfl rfl hr rfl) (by rfl) T.m_sorted (by decide +kernel) (pa_cons (pe_def D__law_all (hr.mono (by first | decide | omega)) (pa_cons (pv 16) pa_nil)) pa_nil)) pa_nil)))) pa_nil)) pa_nil))) (pg_name (i := 11) sc_law.nd rfl (by first | exact Or.inl rfl | exact Or.inr rfl))
    (pss_cons (ps_asg (pe_defK D_whole_range (hr.mono (by first | decide | omega)) (pa_cons (pv 5) (pa_cons (pv 11) pa_nil)) (pk_cons (pv 7) pk_nil)) (k_gTup (K := K) (n := 2) rfl rfl (pgs_cons (pg_name (i := 12) sc_law.nd rfl (by first | exact Or.inl rfl | exact Or.inr rfl)) (pgs_cons (pg_name (i := 13) sc_law.nd rfl (by first | exact Or.inl rfl | exact Or.inr rfl)) pgs_nil))))
    (pss_cons (ps_if (pt_not (pt_val (pe_defG D__law_alike (hr.mono (by first | decide | omega)) hg (pa_cons (pe_tup (pa_cons (pv 12) (pa_cons (pv 13) pa_nil))) (pa_cons (pe_def D__law_range (hr.mono (by first | decide | omega)) (pa_cons (pv 4) (pa_cons (pv 6) (pa_cons (pv 11) pa_nil)))) pa_nil))))) (pss_one (ps_ret pe_bl)) pss_nil)
    (pss_cons (ps_set (i := 10) sc_law.nd rfl (by first | exact Or.inl rfl | exact Or.inr rfl) (pe_lst (pa_cons (pe_op op_add (pe_ix (k_ixL (K := K) rfl) (pv 10) pe_int (fun _ _ => rfl)) (pv 12)) (pa_cons (pe_op op_add (pe_ix (k_ixL (K := K) rfl) (pv 10) pe_int (fun _ _ => rfl)) (pv 13)) pa_nil))))
    (pss_cons (ps_for PassesOwn.never rfl (pi_range2 (by rfl) T.m_range (pa_cons (pv 12) (pa_cons (pe_op op_add (pv 13) pe_int) pa_nil))) (pg_name (i := 14) sc_law.nd rfl (by first | exact Or.inl rfl | exact Or.inr rfl))
    (pss_cons (ps_set (i := 15) sc_law.nd rfl (by first | exact Or.inl rfl | exact Or.inr rfl) (pe_defK D_shelf_with (hr.mono (by first | decide | omega)) (pa_cons (pv 5) (pa_cons (pv 11) (pa_cons (pv 14) pa_nil))) (pk_cons (pv 7) pk_nil)))
    (pss_cons (ps_if (PW.pt (pw_or (pt_cmpR op_isN (pv 15) pe_non (nomark _)) (pw_or1 (pt_not (pt_val (pe_def D__law_is_with (hr.mono (by first | decide | omega)) (pa_cons (pv 4) (pa_cons (pv 6) (pa_cons (pv 8) (pa_cons (pv 11) (pa_cons (pv 14) (pa_cons (pv 15) pa_nil)))))))))))) (pss_one (ps_ret pe_bl)) pss_nil)
    (pss_one (ps_for PassesOwn.never rfl (k_piT (K := K) rfl (pe_tup (pa_cons (pv 5) (pa_cons (pv 9) pa_nil)))) (pg_name (i := 16) sc_law.nd rfl (by first | exact Or.inl rfl | exact Or.inr rfl))
    (pss_one (ps_if (pt_cmpR (op_ownNe OE (hr.mono (by decide)) BE ME hne hob) (pe_defK D_shelf_with (hr.mono (by first | decide | omega)) (pa_cons (pv 16) (pa_cons (pv 11) (pa_cons (pv 14) pa_nil))) (pk_cons (pv 7) pk_nil)) (pv 15) (nomark _)) (pss_one (ps_ret pe_bl)) pss_nil)))))))
    (pss_one (ps_for PassesOwn.never rfl (k_piT (K := K) rfl (pe_tup (pa_cons (pe_op op_sub (pv 12) pe_int) (pa_cons (pe_op op_add (pv 13) pe_int) pa_nil)))) (pg_name (i := 14) sc_law.nd rfl (by first | exact Or.inl rfl | exact Or.inr rfl))
    (pss_one (ps_if (pt_cmpR op_notN (pe_defK D_shelf_with (hr.mono (by first | decide | omega)) (pa_cons (pv 5) (pa_cons (pv 11) (pa_cons (pv 14) pa_nil))) (pk_cons (pv 7) pk_nil)) pe_non (nomark _)) (pss_one (ps_ret pe_bl)) pss_nil)))))))))
    (pss_one (ps_if (pt_not (pt_chain op_le op_le (pe_ix (k_ixL (K := K) rfl) (pv 10) pe_int (fun _ _ => rfl)) (pe_def D_fewest (hr.mono (by first | decide | omega)) (pa_cons (pv 5) pa_nil)) (pe_ix (k_ixL (K := K) rfl) (pv 10) pe_int (fun _ _ => rfl)))) (pss_one (ps_ret pe_bl)) pss_nil)))))))))))
    (pss_one (ps_ret pe_bl)))), ?_⟩
    refine ⟨_, rfl, a, ns, rfl, hs, by omega, fun b ca H0 _ _ hB0 => ?_⟩
    refine ⟨_, rfl, by decide, by decide, forG (n := 3) (H0 := fun _ => Option.none) src_range (fun i σ H' => ∃ o2 o3 o4 o5 o6 o7 o8 o9 o10 o11 o12 o13 o14 o15 o16 : Option V, σ = [some (.ref a), some (.ref b), o2, o3, o4, o5, o6, o7, o8, o9, o10, o11, o12, o13, o14, o15, o16] ∧ BagAt K H' b ca (i * 1000)) ?_ (fun i σ H' _ b o z => by cases z) ?_ ?_⟩
    · exact ⟨_, _, _, _, _, _, _, _, _, _, _, _, _, _, _, rfl, by simpa using hB0⟩
    case refine_3 =>
      rintro σ H' ⟨o2, o3, o4, o5, o6, o7, o8, o9, o10, o11, o12, o13, o14, o15, o16, rfl, _⟩
      exact hq _
    rintro i xi σ Hz H1 hi ⟨o2, o3, o4, o5, o6, o7, o8, o9, o10, o11, o12, o13, o14, o15, o16, rfl, hB1⟩ ez -
    have hB1 := hB1.ext ez
    have ki : i * 1000 ≤ 2000 := by omega
    generalize hk0 : i * 1000 = k at hB1 ki
    -- names
    refine ⟨_, rfl, _, rfl, b, ca, 5, k, rfl, hB1, by decide, by decide, by omega, fun r5 H2 r50 r55 hB2 e2 => ⟨_, _, rfl, rfl, ?_⟩⟩
    obtain ⟨j5, rfl⟩ : ∃ j : Nat, r5 = (j : Int) := ⟨r5.toNat, by omega⟩
    refine ⟨b, ca, 2 + j5, k + 1, by rfl, hB2, by omega, by omega, by omega, fun nr H3 nms NO hn0 hn3 d3 => ?_⟩
    generalize hm : 2 + j5 = m at NO
    have nb : nr ≠ b := (hB2.off hn0).1
    have hN3 : SqL K (wo [b] H3) nr (nms.map V.str) := SqL.of (by rw [wo_at (by simpa using nb)]; exact hn3)
    -- questions
    refine ⟨_, rfl, _, rfl, _, rfl, b, ca, 10, _, rfl, d3.bag, by decide, by decide, by omega, fun r9 H4 r90 r99 hB4 e4 => ?_⟩
    obtain ⟨n, rfl⟩ : ∃ j : Nat, r9 = (j : Int) := ⟨r9.toNat, by omega⟩
    have hN4 := sqL_ext e4 hN3
    refine ⟨b, ca, nr, nms, m, n, _, rfl, hB4, by omega, hN4, NO, by omega, by omega, by omega, fun qv H5 qs vqs lqs dqs d5 => ?_⟩
    obtain ⟨qa, vs, rfl, hqa, hqv⟩ := dpQs (dp_ext wo_same dqs)
    have hN5 := sqL_ext d5.same hN4
    refine tN ?_
    refine rd_set kQ qs (enc := encQ) (.inl hqa) (paired_Q vqs hqv) hqv (by omega) fun sb M H6 e6 hsb S0 => ?_
    refine tN ?_
    refine rd_sortSet kQ kQ_inj kQ_data asmQ S0 (by omega) (good_Q qs) fun sp H7 e7 hsp d7 => ?_
    have cS : Can encQ (canQ qs) := canon_can _ _
    have vS : ∀ q ∈ canQ qs, VQ6 q := fun q hq => vqs q (canon_mem.1 hq)
    have lS : (canQ qs).length ≤ 9 := by
      have := (canon_nodup encQ qs).length_le_of_subset (fun x hx => canon_mem.1 hx)
      show (canQ qs).length ≤ 9
      have h2 : (canQ qs).length ≤ qs.length := this
      omega
    have cc : canQ (canQ qs) = canQ qs := cS.canon asmQ (fun _ => Iff.rfl)
    have d7 : Df K H6 H7 (.ref sp) (.list ((canQ qs).map encQ)) := d7
    generalize canQ qs = S at cS vS lS cc d7
    have d57 := d5.grow (e6.trans e7)
    have spb : sp ≠ b := (d5.bag.ext e6).off hsp |>.1
    have hS7 : ListQ K H7 b sp S := by
      cases d7 with
      | lst a1 a2 a3 => exact ⟨spb, _, a2, wo_dpAll (bag_chg d57.bag) (fun q _ => flat_Q q) a3.dp⟩
    have hN7 := sqL_ext (same_wo (b := b) (e6.trans e7)) hN5
    have hB7 := d57.bag
    clear hsb S0 d7 hsp
    -- asked, table
    refine ⟨_, rfl, ?_⟩
    intro xa dxa nxa ndxa _
    refine rd_ask nxa ndxa hS7.dp vS (by omega) fun H8 e8 hA => ?_
    rw [cc] at hA
    have hS8 := hS7.ext e8
    have hB8 := hB7.ext e8
    refine ⟨_, rfl, _, rfl, b, ca, nr, nms, m, _, rfl, hB8, by omega, sqL_ext (same_wo e8) hN7, NO, by omega, by omega, fun d H9 t tok hd0 hd9 d9 => ?_⟩
    refine ⟨_, _, rfl, ?_⟩
    have hS9 := hS8.drew d9
    have hA9 := askAt_drew hB8 hA d9
    have db : d ≠ b := (hB8.off hd0).1
    have hB9 := d9.bag
    -- told
    dsimp only
    refine seq_join (fun σ' H' => ∃ tv : V, σ' = [some (.ref a), some (.ref b), some xi, some (.ref nr), some (.ref sp), some (.ref xa), some (.ref d), some tv, o8, o9, o10, o11, o12, o13, o14, o15, o16] ∧ Same H9 H' ∧ WtAt K c H' tv t) ?_ ?_
    case refine_2 =>
      intro nx hn
      refine ⟨_, rfl, ?_⟩
      intro e0 he0
      have e9 := same_new (o := HO.dK []) he0
      refine ⟨d, e0, _, rfl, rfl, e9 _ _ hd9, upd_same, _, rfl, ?_⟩
      cases t with
      | nil => exact iT rfl (hn _ _ ⟨_, rfl, e9, .inl ⟨rfl, rfl⟩⟩)
      | cons p0 t0 =>
        refine iF rfl ⟨_, rfl, ?_⟩
        intro xw dxw nxw ndxw _
        have e10 := made0 (o := HO.ins c.Weights dxw []) nxw ndxw
        refine ⟨xw, dxw, d, p0 :: t0, rfl, upd_same, e10 _ _ (e9 _ _ hd9), tok, fun H' hb hW => ⟨rfl, hn _ _ ⟨_, rfl, e9.trans (made nxw ndxw hb), hW⟩⟩⟩
    rintro σ' Ha ⟨tv, rfl, ea, hW⟩
    have hSa := hS9.ext ea
    have hAa := hA9.ext ea
    have hda := ea _ _ hd9
    have hBa := hB9.ext ea
    have nS : S.Nodup := cS.nd
    have ht1 : ∀ x, 1 ≤ tabOf t x := fun x => (tab_pos tok x).1
    have aS : All S := fun q hq' => (vS q hq').v
    clear hN7 hN5 hN4 hN3 hqv hqa dqs d57 vqs lqs hS9 hA9 hS8 hA hS7 hd9 hB9 hB8 hB7 hn3 hn0
    -- due, twin
    refine ⟨_, rfl, _, rfl, _, d, S, t, rfl, hSa.dp, vS, lS, hda, fun lv Hb eb dl => ?_⟩
    refine ⟨lv, levelsM (wsM (tabOf t) S), fun x => mostApart (S.filter fun q => decide (x ≤ wq (tabOf t) q)), rfl, dl, ?_, fun x hx => ?_, fun x hx => ?_, fun Hc ec => ?_⟩
    · have h1 := (canon_nodup encI (wsM (tabOf t) S)).length_le_of_subset (fun x hx => canon_mem.1 hx)
      have h2 := ws_len (tabOf t) S
      have h3 : (levelsM (wsM (tabOf t) S)).length ≤ (wsM (tabOf t) S).length := h1
      omega
    · have := lev_bd tok vS hx
      have k1 : (10 : Int) ^ 39 < 2 ^ 140 := by decide
      have k2 : (2 : Nat) ^ 140 < 2 ^ 200 := by decide
      have k3 : ((2 ^ 140 : Nat) : Int) = 2 ^ 140 := by decide
      omega
    · have h1 := most_le (nodup_filter (p := fun q => decide (x ≤ wq (tabOf t) q)) nS)
      have h2 := List.length_filter_le (fun q => decide (x ≤ wq (tabOf t) q)) S
      show mostApart (S.filter fun q => decide (x ≤ wq (tabOf t) q)) < 1000
      omega
    have hdue : stepSum 0 (levelsM (wsM (tabOf t) S)) (fun x => ((mostApart (S.filter fun q => decide (x ≤ wq (tabOf t) q)) : Nat) : Int)) = dueL (tabOf t) S := rfl
    rw [hdue]
    clear hdue
    have eac := eb.trans ec
    have hSc := hSa.ext eac
    have hAc := hAa.ext eac
    have hdc := eac _ _ hda
    have hBc := hBa.ext eac
    have hWc := hW.ext eac
    clear hSa hAa hda hBa hW dl
    obtain ⟨_, us, hus, dus⟩ := id hSc
    have lus : us.length = S.length := by have := dpAll_len dus; simpa using this
    have luu : (us ++ us).length ≤ 18 := by rw [List.length_append]; omega
    refine ⟨_, rfl, _, rfl, _, rfl, sp, sp, us, us, rfl, rfl, hus, hus, Nat.le_of_lt (small1000 (by omega)), fun l2 hl2 => ?_⟩
    have ed := same_new (o := HO.lst (us ++ us)) hl2
    have l2b : l2 ≠ b := (hBc.off hl2).1
    refine ⟨b, ca, l2, us ++ us, _, rfl, hBc.ext ed, by omega, SqL.of (by rw [wo_at (by simpa using l2b)]; exact upd_same), by rw [List.length_append]; omega, fun rr He ys hp hrr0 hrr1 de => ?_⟩
    have dse : DpAll K He (us ++ us) ((S ++ S).map encQ) := by
      rw [List.map_append]
      have := dpAll_ext ((same_wo (b := b) ed).trans de.out) dus
      exact dpAll_append this this
    obtain ⟨qs2, hq2, dq2⟩ := perm_dpAll hp.symm dse
    have dde := (Drew.of hBc ed).trans de
    have hSe := hSc.drew dde
    have hAe := askAt_drew hBc hAc dde
    have hWe := wtAt_drew hBc hWc dde
    have hde := dde.at_ db hdc
    have hBe := dde.bag
    clear hSc hAc hWc hdc
    intro xt dxt nxt ndxt _
    have mem2 : ∀ q, q ∈ qs2 ↔ q ∈ S := fun q => by rw [hq2.mem_iff, List.mem_append]; exact ⟨fun h => h.elim id id, .inl⟩
    have lq2 : qs2.length = S.length + S.length := by rw [hq2.length_eq, List.length_append]
    refine rd_ask nxt ndxt (.lst (SqL.of hrr1) dq2) (fun q hq' => vS q ((mem2 q).1 hq')) (by omega) fun Hf ef hT => ?_
    have c2 : canQ qs2 = S := cS.canon asmQ (fun q => (mem2 q).symm)
    rw [c2] at hT
    have hSf := (hSe.ext ef).dp
    have hAf := hAe.ext ef
    have hWf := hWe.ext ef
    have hdf := ef _ _ hde
    have hBf := hBe.ext ef
    clear hSe hAe hWe hde dse dq2 hrr1 hrr0 mem2 lq2 hq2 c2
    refine ⟨_, _, rfl, ?_⟩
    -- the least cost
    refine ⟨_, rfl, _, rfl, rfl, rfl, xa, tv, S, t, rfl, hAf, vS, lS, hWf, tok, fun Hg eg => ?_⟩
    rw [least_due ht1 aS nS]
    refine ⟨_, rfl, _, _, .int (dueL (tabOf t) S), rfl, .int _, .int _, due_bd tok vS nS lS, true, rfl, iF rfl ?_⟩
    have hSg := dp_ext eg hSf
    have hAg := hAf.ext eg
    have hTg := hT.ext eg
    have hWg := hWf.ext eg
    have hdg := eg _ _ hdf
    have hBg := hBf.ext eg
    clear hSf hAf hT hWf hdf hBf
    -- totals
    refine ⟨by show 2 ≤ sizeLine; decide, fun tl0 htl0 => ?_⟩
    have eh := same_new (o := HO.lst [V.int 0, V.int 0]) htl0
    have htl : (upd Hg tl0 (HO.lst [V.int 0, V.int 0])) tl0 = some (.lst [V.int 0, V.int 0]) := upd_same
    generalize upd Hg tl0 (HO.lst [V.int 0, V.int 0]) = Hh at eh htl
    have hSh := dp_ext eh hSg
    have hAh := hAg.ext eh
    have hTh := hTg.ext eh
    have hWh := hWg.ext eh
    have hdh := eh _ _ hdg
    have hBh := hBg.ext eh
    clear hSg hAg hTg hWg hdg hBg
    obtain ⟨sa, us2, er, hus2, dus2⟩ := dpQs hSh
    cases er
    have lus2 : us2.length = S.length := by have := dpAll_len dus2; simpa using this
    -- the columns
    refine ⟨_, rfl, sp, rfl, ⟨_, hus2⟩, fun D hD => lcM (K := K) (src_list hus2) (Same.refl _) hD S lus2.symm (by rw [lus2]; exact small1000 (by omega)) (fun q => encL (colsQ q)) ?_ ?_⟩
    · rintro j q x H2' R hj e2' hx hyes
      obtain ⟨dd, k1, k2⟩ := dpAll_get dus2 hx
      rw [List.getElem?_map, hj] at k1
      cases k1
      have vq := vS q (List.mem_of_getElem? hj)
      refine ⟨rfl, _, rfl, x, q, rfl, dp_ext e2' k2, vq, fun v' H3' e3' d3' => ?_⟩
      cases d3' with | @lst al xs _ a1 a2 a3 =>
      rw [dpAll_toStrs a3.dp] at a2
      refine tN ?_
      refine rd_sort asmS (.inl (SqL.of a2)) (dpAll_strs (allQ q)) (by have := all_len vq; omega) (good_S _) fun p H4' e4' hp' d4' => ?_
      have hp4 := df_strs d4'
      have ce : srt encS (allQ q) = colsQ q := (cols_eq_srt vq.v).symm
      rw [ce] at hp4
      refine ⟨p, _, rfl, .inl ⟨SqL.of hp4, fun z hz => ?_⟩⟩
      have e5' := same_new (o := HO.tup ((colsQ q).map V.str)) hz
      exact hyes _ _ ((e3'.trans e4').trans e5') (.tup (SqT.of upd_same) (dfAll_strs _))
    intro Hi ei di
    have hb : (S.map fun q => encL (colsQ q)) = (S.map colsQ).map encL := by rw [List.map_map]; rfl
    rw [hb] at di
    obtain ⟨xs, hxs, dxs⟩ : ∃ xs, Hi D = some (.lst xs) ∧ DpAll K Hi xs ((S.map colsQ).map encL) := by
      cases di with | lst a1 a2 a3 => exact ⟨_, a2, a3.dp⟩
    have lcS : (S.map colsQ).length < 64 := by rw [List.length_map]; omega
    have cne : ∀ x ∈ S.map colsQ, x ≠ [] := fun x hx => by
      obtain ⟨q, hq', rfl⟩ := List.mem_map.1 hx
      intro z
      have h1 := (cols_perm q).length_eq
      rw [z] at h1
      exact all_ne (vS q hq').v (List.eq_nil_of_length_eq_zero h1.symm)
    refine tN ?_
    refine rd_set kL (S.map colsQ) (enc := encL) (.inl (SqL.of hxs)) (paired_L dxs) dxs lcS fun sb2 M2 Hj ej hsb2 S2 => ?_
    refine tN ?_
    refine rd_sortSet kL kL_inj kL_data asmL S2 lcS (good_L _ cne) fun kp Hk ek hkp dk => ?_
    have kn : (canon encL (S.map colsQ)).Nodup := canon_nodup _ _
    have km : ∀ x, x ∈ canon encL (S.map colsQ) ↔ ∃ q ∈ S, colsQ q = x := fun x => by rw [canon_mem, List.mem_map]
    have kl : (canon encL (S.map colsQ)).length ≤ 9 := by
      have h1 := (canon_nodup encL (S.map colsQ)).length_le_of_subset (fun x hx => canon_mem.1 hx)
      rw [List.length_map] at h1
      exact Nat.le_trans h1 lS
    generalize canon encL (S.map colsQ) = ks at dk kn km kl
    obtain ⟨kv, hkv, dkv⟩ : ∃ kv, Hk kp = some (.lst kv) ∧ DpAll K Hk kv (ks.map encL) := by
      cases dk with | lst a1 a2 a3 => exact ⟨_, a2, a3.dp⟩
    have lkv : kv.length = ks.length := by have := dpAll_len dkv; simpa using this
    have ehk := (ei.trans ej).trans ek
    have hSk := dp_ext ehk hSh
    have hAk := hAh.ext ehk
    have hTk := hTh.ext ehk
    have hWk := hWh.ext ehk
    have hdk := ehk _ _ hdh
    have hBk := hBh.ext ehk
    have htk := ehk _ _ htl
    clear hSh hAh hTh hWh hdh hBh htl hus2 dus2 hxs dxs S2 di dk
    refine ⟨kp, rfl, ⟨_, SqL.of hkv⟩, forG (n := kv.length) (H0 := Hk) (src_list (SqL.of hkv)) (fun i σ H' => ∃ o11 o12 o13 o14 o15 o16 : Option V, ∃ tl : Addr, σ = [some (.ref a), some (.ref b), some xi, some (.ref nr), some (.ref sp), some (.ref xa), some (.ref d), some tv, some (.int (dueL (tabOf t) S)), some (.ref xt), some (.ref tl), o11, o12, o13, o14, o15, o16] ∧
      Same Hk H' ∧ H' tl = some (.lst [.int ((ks.take i).map (leastL (tabOf t) S)).sum, .int ((ks.take i).map (mostL (tabOf t) S)).sum])) ?_ ?_ ?_ ?_⟩
    · exact ⟨_, _, _, _, _, _, tl0, rfl, Same.refl _, htk⟩
    · rintro i σ H' ⟨_, _, _, _, _, _, _, _, e, _⟩; exact e
    case refine_4 =>
      rintro σ Hl ⟨o11, o12, o13, o14, o15, o16, tl, rfl, el, htl⟩
      rw [lkv, List.take_length] at htl
      obtain ⟨t1, t2⟩ := totals ht1 aS nS kn km
      refine ⟨_, rfl, tl, _, 0, _, rfl, rfl, SqL.of htl, atI_nat (j := 0) rfl, _, rfl, xa, S, rfl, hAk.ext el, vS, lS, fun Hm em => ?_⟩
      refine ⟨_, _, rfl, rfl, _, rfl, iT (by exact decide_eq_true t1) ?_⟩
      refine ⟨_, rfl, tl, _, 1, _, rfl, rfl, SqL.of (em _ _ htl), atI_nat (j := 1) rfl, _, _, rfl, rfl, _, rfl, ?_⟩
      rw [decide_eq_true t2]
      refine iF rfl ?_
      exact ⟨_, _, _, _, _, _, _, _, _, _, _, _, _, _, _, rfl, ((hBk.ext el).ext em).mono (by omega)⟩
    rintro ki x σ Hl0 Hl hki ⟨o11, o12, o13, o14, o15, o16, tl, rfl, el0, htl⟩ el1 hx
    have el := el0.trans el1
    have htl := el1 _ _ htl
    have hkl : ki < ks.length := by omega
    obtain ⟨dd, k1, k2⟩ := dpAll_get dkv hx
    have gk : ks[ki]? = some ks[ki] := List.getElem?_eq_getElem hkl
    rw [List.getElem?_map, gk] at k1
    cases k1
    have tk : ks.take (ki + 1) = ks.take ki ++ [ks[ki]] := by rw [List.take_add_one, gk]; rfl
    obtain ⟨q0, hq0, hqc⟩ := (km ks[ki]).1 (List.getElem_mem hkl)
    have hU := dp_ext el k2
    generalize ks[ki] = cols at *
    have hSl := dp_ext el hSk
    have hAl := hAk.ext el
    have hTl := hTk.ext el
    have hWl := hWk.ext el
    have hdl := el _ _ hdk
    clear el0 el1 k2 hx
    have hex : ∃ q ∈ S, colsQ q = cols := ⟨q0, hq0, hqc⟩
    have cok : ∀ x ∈ cols, okC x = true := fun x hx => (vS q0 hq0).cols.1 x (by rw [hqc]; exact hx)
    have clen : cols.length ≤ 49 := by rw [← hqc]; exact (vS q0 hq0).cols.2.1
    have Z : WhQ S cols t := ⟨vS, cS, lS, hex, cok, tok⟩
    -- whole_range
    refine ⟨_, rfl, _, rfl, _, rfl, rfl, rfl, xa, x, tv, S, cols, t, rfl, hAl, hU, hWl, Z, fun Ta Hm em hTa => ?_⟩
    rw [leastR_eq aS nS hex, mostR_eq aS nS hex] at hTa
    have LB := leastL_bd (tab := tabOf t) vS nS hex lS
    have MB := mostL_bd (tab := tabOf t) (cols := cols) nS lS
    refine ⟨Ta, _, rfl, hTa, rfl, _, _, rfl, _, _, rfl, rfl, ?_⟩
    -- alike
    refine ⟨_, rfl, _, rfl, by show 2 ≤ sizeLine; decide, fun tp htp => ?_⟩
    have en := same_new (o := HO.tup [V.int (leastL (tabOf t) S cols), V.int (mostL (tabOf t) S cols)]) htp
    have htp1 : (upd Hm tp (HO.tup [V.int (leastL (tabOf t) S cols), V.int (mostL (tabOf t) S cols)])) tp = some (.tup [V.int (leastL (tabOf t) S cols), V.int (mostL (tabOf t) S cols)]) := upd_same
    generalize upd Hm tp (HO.tup [V.int (leastL (tabOf t) S cols), V.int (mostL (tabOf t) S cols)]) = Hn at en htp1
    have eln := em.trans en
    refine ⟨_, rfl, _, rfl, _, rfl, _, d, x, S, t, cols, rfl, dp_ext eln hSl, vS, lS, nS, eln _ _ hdl, dp_ext eln hU, cok, by omega, hex, fun ra Ho eo hra => ?_⟩
    refine ⟨_, _, .tuple [.int (leastL (tabOf t) S cols), .int (mostL (tabOf t) S cols)], rfl, .tup (SqT.of (eo _ _ htp1)) (.cons (.int _) (.cons (.int _) .nil)), .tup hra (.cons (.int _) (.cons (.int _) .nil)), ⟨by omega, by omega⟩, true, rfl, iF rfl ?_⟩
    have elo := eln.trans eo
    have htlo := elo _ _ htl
    -- totals
    refine ⟨_, rfl, tl, _, 0, _, rfl, rfl, SqL.of htlo, atI_nat (j := 0) rfl, _, rfl, _, _, rfl, rfl, ?_⟩
    refine ⟨_, rfl, tl, _, 1, _, rfl, rfl, SqL.of htlo, atI_nat (j := 1) rfl, _, rfl, _, _, rfl, rfl, by show 2 ≤ sizeLine; decide, fun tm htm => ?_⟩
    have ep := same_new (o := HO.lst [V.int (((ks.take ki).map (leastL (tabOf t) S)).sum + leastL (tabOf t) S cols), V.int (((ks.take ki).map (mostL (tabOf t) S)).sum + mostL (tabOf t) S cols)]) htm
    have htm1 : (upd Ho tm (HO.lst [V.int (((ks.take ki).map (leastL (tabOf t) S)).sum + leastL (tabOf t) S cols), V.int (((ks.take ki).map (mostL (tabOf t) S)).sum + mostL (tabOf t) S cols)])) tm = some (.lst [V.int (((ks.take ki).map (leastL (tabOf t) S)).sum + leastL (tabOf t) S cols), V.int (((ks.take ki).map (mostL (tabOf t) S)).sum + mostL (tabOf t) S cols)]) := upd_same
    generalize upd Ho tm (HO.lst [V.int (((ks.take ki).map (leastL (tabOf t) S)).sum + leastL (tabOf t) S cols), V.int (((ks.take ki).map (mostL (tabOf t) S)).sum + mostL (tabOf t) S cols)]) = Hp' at ep htm1
    have elp := elo.trans ep
    have hSp := dp_ext elp hSl
    have hAp := hAl.ext elp
    have hTp := hTl.ext elp
    have hWp := hWl.ext elp
    have hdp := elp _ _ hdl
    have hUp := dp_ext elp hU
    have ekp := el.trans elp
    have hs1 : ((ks.take ki).map (leastL (tabOf t) S)).sum + leastL (tabOf t) S cols = ((ks.take (ki + 1)).map (leastL (tabOf t) S)).sum := by rw [tk]; simp
    have hs2 : ((ks.take ki).map (mostL (tabOf t) S)).sum + mostL (tabOf t) S cols = ((ks.take (ki + 1)).map (mostL (tabOf t) S)).sum := by rw [tk]; simp
    rw [hs1, hs2] at htm1
    clear htlo htl hra htp1 hTa hs1 hs2 hSl hAl hTl hWl hdl hU
    have eL : leastR (tabOf t) S cols = leastL (tabOf t) S cols := leastR_eq aS nS hex
    have eM : mostR (tabOf t) S cols = mostL (tabOf t) S cols := mostR_eq aS nS hex
    -- the wished numbers
    dsimp only
    refine seq_join (fun σ' H' => ∃ o14 o15 o16 : Option V, σ' = [some (.ref a), some (.ref b), some xi, some (.ref nr), some (.ref sp), some (.ref xa), some (.ref d), some tv, some (.int (dueL (tabOf t) S)), some (.ref xt), some (.ref tm), some x, some (.int (leastL (tabOf t) S cols)), some (.int (mostL (tabOf t) S cols)), o14, o15, o16] ∧ Same Hp' H') ?_ ?_
    case refine_2 =>
      intro nx hn
      refine ⟨_, rfl, _, rfl, _, _, rfl, rfl, _, _, rfl, ⟨by omega, by omega, by omega, by omega⟩, forG (n := (mostL (tabOf t) S cols + 1 - leastL (tabOf t) S cols).toNat) (H0 := Hp') src_range (fun i σ H' => ∃ o14 o15 o16 : Option V, σ = [some (.ref a), some (.ref b), some xi, some (.ref nr), some (.ref sp), some (.ref xa), some (.ref d), some tv, some (.int (dueL (tabOf t) S)), some (.ref xt), some (.ref tm), some x, some (.int (leastL (tabOf t) S cols)), some (.int (mostL (tabOf t) S cols)), o14, o15, o16] ∧ Same Hp' H') ?_ ?_ ?_ ?_⟩
      · exact ⟨_, _, _, rfl, Same.refl _⟩
      · rintro j σ H' ⟨_, _, _, _, e⟩; exact e
      case refine_4 =>
        rintro σ H' ⟨o14, o15, o16, rfl, e⟩
        exact hn _ _ ⟨_, _, _, rfl, e⟩
      rintro j y σ Hq0 Hq hj ⟨o14, o15, o16, rfl, eq0⟩ eq1 rfl
      have eq := eq0.trans eq1
      have hm1 : leastL (tabOf t) S cols ≤ leastL (tabOf t) S cols + (j : Int) := by omega
      have hm2 : leastL (tabOf t) S cols + (j : Int) ≤ mostL (tabOf t) S cols := by omega
      generalize leastL (tabOf t) S cols + (j : Int) = many at hm1 hm2
      have hR98 : ∀ i < S.length, rk (atQ S i) < 98 := fun i hi' => by
        have h1 := (vS _ (atQ_mem hi')).n
        unfold rk
        split <;> omega
      obtain ⟨mm, hmm, hmt, hkn, hsh⟩ := shelf_rows ht1 aS nS hex (R := 98) hR98 hm1 hm2
      have hpr := rows_perm aS hR98 hmt hkn
      have hAq := hAp.ext eq
      have hTq := hTp.ext eq
      have hWq := hWp.ext eq
      have hUq := dp_ext eq hUp
      refine ⟨_, rfl, _, rfl, _, rfl, _, rfl, rfl, rfl, xa, x, tv, S, cols, t, many, rfl, hAq, hUq, hWq, Z, fun H' e' hno => absurd ⟨by rw [eL]; exact hm1, by rw [eM]; exact hm2⟩ hno, fun p1 m1 Hr er _ _ hm1' hSh1 => ?_⟩
      have hmeq : m1 = mm := by rw [hmm] at hm1'; exact (Option.some.inj hm1').symm
      rw [hmeq] at hSh1
      clear hm1' hmeq
      have rok : ∀ r ∈ rowsOf S mm 98, (∀ x ∈ r, okC x = true) ∧ r.length ≤ 60 := fun r hr' => ⟨(hsh.ok r hr').2.2, by
        obtain ⟨q, hq', hp'⟩ := hpr r hr'
        rw [hp'.length_eq, ← (cols_perm q).length_eq]
        have := (vS q hq').cols.2.1
        omega⟩
      generalize hrows : rowsOf S mm 98 = rows at hsh hSh1 rok
      have eqr := eq.trans er
      refine ⟨_, rfl, rfl, _, rfl, ?_⟩
      refine iF rfl ?_
      refine ⟨_, rfl, _, rfl, _, rfl, _, rfl, _, rfl, _, rfl, _, d, p1, x, S, t, cols, rows, dueL (tabOf t) S, many, rfl, dp_ext eqr hSp, vS, lS, eqr _ _ hdp, dp_ext er hUq, cok, hSh1, rok, Nat.le_trans hsh.len (by omega), hsh.served, hsh.sum, hsh.times, fun Hs es => ⟨true, rfl, iF rfl ?_⟩⟩
      have eqs := eqr.trans es
      have hSh1 := hSh1.ext es
      -- the twins
      refine ⟨_, rfl, _, rfl, by show 2 ≤ sizeLine; decide, fun tq htq => ?_⟩
      have et := same_new (o := HO.tup [V.ref xa, V.ref xt]) htq
      have htq1 : (upd Hs tq (HO.tup [V.ref xa, V.ref xt])) tq = some (.tup [V.ref xa, V.ref xt]) := upd_same
      generalize upd Hs tq (HO.tup [V.ref xa, V.ref xt]) = Ht at et htq1
      have eqt := eqs.trans et
      have hSh1 := hSh1.ext et
      refine ⟨tq, rfl, ⟨_, SqT.of htq1⟩, forG (n := 2) (H0 := Ht) (src_tup (SqT.of htq1)) (fun i σ H' => ∃ o16 : Option V, σ = [some (.ref a), some (.ref b), some xi, some (.ref nr), some (.ref sp), some (.ref xa), some (.ref d), some tv, some (.int (dueL (tabOf t) S)), some (.ref xt), some (.ref tm), some x, some (.int (leastL (tabOf t) S cols)), some (.int (mostL (tabOf t) S cols)), some (.int many), some (.ref p1), o16] ∧ Same Ht H') ?_ ?_ ?_ ?_⟩
      · exact ⟨_, rfl, Same.refl _⟩
      · rintro j' σ H' ⟨_, _, e⟩; exact e
      case refine_4 =>
        rintro σ H' ⟨o16, rfl, e⟩
        exact ⟨_, _, _, rfl, eqt.trans e⟩
      rintro j2 y2 σ Hu0 Hu hj2 ⟨o16, rfl, eu0⟩ eu1 hy2
      have eu := eu0.trans eu1
      have equ := eqt.trans eu
      obtain ⟨xo, rfl, hXo⟩ : ∃ xo, y2 = .ref xo ∧ AskAt K c Hu xo S := by
        match j2, hj2, hy2 with
        | 0, _, hy2 => cases hy2; exact ⟨_, rfl, hAp.ext equ⟩
        | 1, _, hy2 => cases hy2; exact ⟨_, rfl, hTp.ext equ⟩
      have hUu := dp_ext equ hUp
      refine ⟨_, rfl, _, rfl, _, rfl, _, rfl, rfl, rfl, xo, x, tv, S, cols, t, many, rfl, hXo, hUu, hWp.ext equ, Z, fun H' e' hno => absurd ⟨by rw [eL]; exact hm1, by rw [eM]; exact hm2⟩ hno, fun p2 m2 Hv ev _ _ hm2' hSh2 => ?_⟩
      have hmeq : m2 = mm := by rw [hmm] at hm2'; exact (Option.some.inj hm2').symm
      rw [hmeq, hrows] at hSh2
      have hSh3 := hSh1.ext (eu.trans ev)
      obtain ⟨dx2, _, _, h21, _, _⟩ := id hSh2
      obtain ⟨dx3, _, _, h31, _, _⟩ := id hSh3
      refine ⟨_, rfl, p2, dx2, _, p1, dx3, _, rfl, rfl, h21, h31, p2, p1, rows, rows, rfl, hSh2, hSh3, fun i hi' => (rok i hi').1, fun i hi' => (rok i hi').1, _, rfl, _, rfl, ?_⟩
      rw [decide_eq_true rfl]
      refine iF rfl ?_
      exact ⟨_, rfl, eu.trans ev⟩
    rintro σ' Hq ⟨o14', o15', o16', rfl, eq⟩
    -- the numbers beside
    have hAq := hAp.ext eq
    refine ⟨_, rfl, _, _, rfl, rfl, _, rfl, _, _, rfl, rfl, by show 2 ≤ sizeLine; decide, fun tq htq => ?_⟩
    have et := same_new (o := HO.tup [V.int (leastL (tabOf t) S cols - 1), V.int (mostL (tabOf t) S cols + 1)]) htq
    have htq1 : (upd Hq tq (HO.tup [V.int (leastL (tabOf t) S cols - 1), V.int (mostL (tabOf t) S cols + 1)])) tq = some (.tup [V.int (leastL (tabOf t) S cols - 1), V.int (mostL (tabOf t) S cols + 1)]) := upd_same
    generalize upd Hq tq (HO.tup [V.int (leastL (tabOf t) S cols - 1), V.int (mostL (tabOf t) S cols + 1)]) = Ht at et htq1
    have eqt := eq.trans et
    refine ⟨tq, rfl, ⟨_, SqT.of htq1⟩, forG (n := 2) (H0 := Ht) (src_tup (SqT.of htq1)) (fun i σ H' => ∃ o14 : Option V, σ = [some (.ref a), some (.ref b), some xi, some (.ref nr), some (.ref sp), some (.ref xa), some (.ref d), some tv, some (.int (dueL (tabOf t) S)), some (.ref xt), some (.ref tm), some x, some (.int (leastL (tabOf t) S cols)), some (.int (mostL (tabOf t) S cols)), o14, o15', o16'] ∧ Same Ht H') ?_ ?_ ?_ ?_⟩
    · exact ⟨_, rfl, Same.refl _⟩
    · rintro j' σ H' ⟨_, _, e⟩; exact e
    case refine_4 =>
      rintro σ H' ⟨o14, rfl, e⟩
      exact ⟨_, _, _, _, _, _, tm, rfl, ekp.trans (eqt.trans e), (eqt.trans e) _ _ htm1⟩
    rintro j2 y2 σ Hu0 Hu hj2 ⟨o14, rfl, eu0⟩ eu1 hy2
    have eu := eu0.trans eu1
    have equ := eqt.trans eu
    obtain ⟨many, rfl, hmany⟩ : ∃ many : Int, y2 = .int many ∧ ¬ (leastL (tabOf t) S cols ≤ many ∧ many ≤ mostL (tabOf t) S cols) := by
      match j2, hj2, hy2 with
      | 0, _, hy2 => cases hy2; exact ⟨_, rfl, by omega⟩
      | 1, _, hy2 => cases hy2; exact ⟨_, rfl, by omega⟩
    refine ⟨_, rfl, _, rfl, _, rfl, _, rfl, rfl, rfl, xa, x, tv, S, cols, t, many, rfl, hAp.ext equ, dp_ext equ hUp, hWp.ext equ, Z, fun Hv ev _ => ?_, fun _ _ _ _ g1 g2 => absurd ⟨by rw [← eL]; exact g1, by rw [← eM]; exact g2⟩ hmany⟩
    refine ⟨rfl, _, rfl, ?_⟩
    refine iF rfl ?_
    exact ⟨_, rfl, eu.trans ev⟩
end
end NkW
end
section
set_option Elab.async false
set_option linter.all false
set_option maxRecDepth 100000
set_option maxHeartbeats 2000000
/-! a law that shows: its end -/
namespace NkR
open PySem PySem.Spec PyProof.Rows L2

/-- the call of the law, from a heap that tracks at most the script -/
theorem law_coreG {P : Program} {w : World} {K : PySem.W.Frag} {mg mb : Str → Option Value} {k : Nat} {fa a : Addr} {fd : FuncData} {x : Str} {sp : Sp} {s : Shared} {vs : List Value} {H : Hp}
    (KX : K.In s.heap) (hns : s.heap.Ns mainGlobals mg) (hb : s.heap.Ns builtinsNs mb) (hbb : ∀ x : Str, x ≠ "__name__" → mb x = bootBuiltins x) (hlim : s.heap.NoLimit) (hg : s.gens = #[])
    (ha : s.heap.get? a = some { cls := .type "list", data := .seq vs.toArray }) (hr : Room k callerA)
    (F : ∀ base : Heap, K.In base → base.Ns mainGlobals mg → FnG P w K mg base k fa fd [x] sp) (hbind : ∀ (s : Shared) (u : Value), BindsTo s fd ⟨[u], []⟩ [(x, u)])
    (hsp : sp [.ref a] H (fun v _ => v = .bl true) fun _ _ _ => False) (hO : Only H) (hok : HOk P w H s.heap) (hA : ∀ b, H b ≠ none → b = a) (hK : H a ≠ none → K.lookup a = none) :
    codeAny (model P w) callerA (.call (.ref fa) ⟨[.ref a], []⟩) (fun r s' => r = .ok (.ret (.bool true)) ∧ OldK s.heap s'.heap ∧ s'.os = s.os ∧ AllBare s'.gens) s := by
  have un : ∀ {b : Addr} {o : Obj}, b ≠ a → s.heap.get? b = some o → (hidT s.heap H).get? b = some o := fun {b o} n e =>
    hidT_get e (Classical.byContradiction fun z => n (hA b z))
  have dne : ∀ {b : Addr} {o : Obj} {es : Array DictEntry} {ep : Nat}, s.heap.get? b = some o → o.data = .dict es ep → b ≠ a := fun {b o es ep} e d z => by
    rw [z, ha] at e
    cases e
    cases (show Data.seq vs.toArray _ = Data.dict es ep from d)
  have nsH : ∀ {b : Addr} {m : Str → Option Value}, s.heap.Ns b m → (hidT s.heap H).Ns b m := fun {b m} n => by
    obtain ⟨o, es, ep, e, d, r⟩ := n
    exact ⟨o, es, ep, un (dne e d) e, d, r⟩
  have kb : K.In (hidT s.heap H) := fun b o e => by
    by_cases z : H b = none
    · exact hidT_get (KX b o e) z
    · have := hA b z
      subst this
      rw [hK z] at e
      cases e
  have lim : (hidT s.heap H).NoLimit := by
    obtain ⟨mc, h1, h2⟩ := hlim
    exact ⟨mc, nsH h1, h2⟩
  have env : Env0 P w K mg (hidT s.heap H) callerA [] s H :=
    ⟨rfl, ⟨kb, nsH hns, ⟨mb, nsH hb, hbb⟩, lim⟩, fun b o e => of_hidT e, Nat.le_of_eq (hidT_size _ _), trivial, fun b z => (nomatch z), hok, .of_eq hg⟩
  have run := (F _ kb (nsH hns)).run callerA [] s H ⟨[.ref a], []⟩ [.ref a] [.ref a] (fun v _ => v = .bl true) (fun _ _ _ => False) hr rfl env (hbind s (.ref a)) (.cons rfl .nil) hsp
  refine codeAny_mono run fun r s' h => ?_
  match r, h with
  | .error e, h => exact False.elim h
  | .ok .next, h => exact False.elim h
  | .ok .brk, h => exact False.elim h
  | .ok .cont, h => exact False.elim h
  | .ok (.ret u), ⟨v, H', os, bare, un', hok', r', q⟩ =>
    have q : v = .bl true := q
    subst q
    cases r'
    refine ⟨rfl, OldK.of_keep fun b o e => ?_, os, bare⟩
    rcases hO b with z | ⟨ob, xs, z⟩
    · exact un'.keep b o e z (fun m => by cases m) (fun m => by cases m)
    · have e1 := (hok b _ z).1
      have e2 := (hok' b _ (un'.frzs b ob _ z)).1
      rw [e] at e1
      cases e1
      exact e2
theorem law_callG {P : Program} {w : World} {K : PySem.W.Frag} {mg mb : Str → Option Value} {k : Nat} {fa a : Addr} {fd : FuncData} {x : Str} {sp : Sp} {s : Shared} {vs : List Value} {ns : List Int}
    (KX : K.In s.heap) (hns : s.heap.Ns mainGlobals mg) (hb : s.heap.Ns builtinsNs mb) (hbb : ∀ x : Str, x ≠ "__name__" → mb x = bootBuiltins x) (hlim : s.heap.NoLimit) (hg : s.gens = #[])
    (ha : s.heap.get? a = some { cls := .type "list", data := .seq vs.toArray }) (hi : IntsAre vs ns) (hl : ns.length ≤ sizeLine) (hr : Room k callerA)
    (F : ∀ base : Heap, K.In base → base.Ns mainGlobals mg → FnG P w K mg base k fa fd [x] sp) (hbind : ∀ (s : Shared) (u : Value), BindsTo s fd ⟨[u], []⟩ [(x, u)])
    (hsp : ∀ H : Hp, Only H → SqL K H a (ns.map V.int) → sp [.ref a] H (fun v _ => v = .bl true) fun _ _ _ => False) :
    codeAny (model P w) callerA (.call (.ref fa) ⟨[.ref a], []⟩) (fun r s' => r = .ok (.ret (.bool true)) ∧ OldK s.heap s'.heap ∧ s'.os = s.os ∧ AllBare s'.gens) s := by
  have rv := vals_ints hi
  cases hk : K.lookup a with
  | some o =>
    have e := KX a o hk
    rw [ha] at e
    cases e
    have hS : SqL K (fun _ => none) a (ns.map V.int) := .inr ⟨_, vs.toArray, _, hk, rfl, rfl, rfl, by rw [List.size_toArray, hi.length]; exact hl, by simpa using rv⟩
    exact law_coreG KX hns hb hbb hlim hg ha hr F hbind (hsp _ (fun _ => .inl rfl) hS) (fun _ => .inl rfl) (fun b u z => by cases (show (none : Option HO) = some u from z)) (fun b z => absurd rfl z) fun z => absurd rfl z
  | none =>
    let o : HO := .frz { cls := .type "list", data := .seq vs.toArray } (.lst (ns.map V.int))
    have at_ : upd (fun _ => none) a o a = some o := upd_same
    have off : ∀ b, b ≠ a → upd (fun _ => none) a o b = none := fun b z => upd_ne z
    have hO : Only (upd (fun _ => none) a o) := fun b => by
      by_cases z : b = a
      · subst z; exact .inr ⟨_, _, at_⟩
      · exact .inl (off b z)
    refine law_coreG KX hns hb hbb hlim hg ha hr F hbind (hsp _ hO (.inl (.inr ⟨_, at_⟩))) hO (fun b u z => ?_) (fun b z => Classical.byContradiction fun n => z (off b n)) fun _ => hk
    by_cases n : b = a
    · subst n
      rw [at_] at z
      cases z
      exact ⟨ha, by rw [List.length_map]; exact hl, vs, _, rv, ha⟩
    · rw [off b n] at z
      cases z
theorem walk_ofG {l : PySem.W.OpenLaw} {n k : Nat} {q : Program} {loose : List Str} {XP : (Str → Option Value) → Heap → Prop} {YP : World → Heap → Prop} {d : DefRec} {x : Str}
    (hn : l.most = some n) (hn2 : n ≤ sizeLine) (hdf : d.params.defaults = []) (hr : Room k callerA)
    (F : ∀ (w : World) (mg : Str → Option Value) (fa : Addr) (h : Heap), YP w h → h.Ns mainGlobals mg → mg d.name = some (.ref fa) →
      ∃ (K : PySem.W.Frag) (fd : FuncData) (sp : Sp), K.In h ∧ (∀ (s : Shared) (u : Value), BindsTo s fd ⟨[u], []⟩ [(x, u)]) ∧
        (∀ (H : Hp) (a : Addr) (ns : List Int), ns.length ≤ n → Only H → SqL K H a (ns.map V.int) → sp [.ref a] H (fun v _ => v = .bl true) fun _ _ _ => False) ∧
        ∀ base : Heap, K.In base → base.Ns mainGlobals mg → FnG l.prog w K mg base k fa fd [x] sp) :
    PySem.W.WalkO q loose XP YP l.row.toRowW d [] (fun f vs => PySem.call f vs) := by
  refine Att.attach_call hn hdf fun w s₀ s₁ mg mb fa o pm cd doc a vs ns G Y ho hd hcd hmg hobj hints hlen hg => ?_
  obtain ⟨K, fd, sp, KX, hb, hsp, hF⟩ := F w mg fa _ Y G.T.g hmg
  exact law_callG KX G.T.g G.T.b G.T.builtins G.T.nolimit hg hobj hints (Nat.le_trans hlen hn2) hr hF hb fun H => hsp H a ns hlen
end NkR
end
section
set_option Elab.async false
set_option linter.all false
set_option maxRecDepth 100000
set_option maxHeartbeats 2000000
/-! the defs, one behind another -/
namespace NkH
open PySem PySem.Spec PyProof.Rows L2 NkW NkR NkO NkQ NkM
def cAd (K : PySem.W.Frag) : Ad := ⟨He.ga K "Asked", He.ga K "Shelf", He.ga K "Lot", He.ga K "Weights"⟩
/-- what the head leaves -/
structure Cxt (K : PySem.W.Frag) (mg : Str → Option Value) : Prop where
  ex : ∃ h : Heap, K.In h ∧ h.Ns mainGlobals mg
  sd : He.SaysD fa fn K
  b : NkH.ex K = true
section
variable {P : Program} {w : World} {K : PySem.W.Frag} {mg : Str → Option Value} {base : Heap} (C : Cxt K mg)
include C
theorem Cxt.glo (i : Nat) {x : Str} (h : fa[i]? = some (He.Fa.glo x)) : mg x = some (.ref (He.ga K x)) := by
  obtain ⟨hp, X, G⟩ := C.ex
  exact He.glo_ok X G (C.sd.fact i h)
theorem Cxt.free (i : Nat) {x : Str} (h : fa[i]? = some (He.Fa.free x)) : mg x = none := by
  obtain ⟨hp, X, G⟩ := C.ex
  exact He.free_ok X G (C.sd.fact i h)
theorem Cxt.int (i : Nat) {x : Str} {n : Int} (h : fa[i]? = some (He.Fa.int x n)) : ∃ t, mg x = some (.int n t) := by
  obtain ⟨hp, X, G⟩ := C.ex
  exact He.int_ok X G (C.sd.fact i h)
theorem Cxt.str (i : Nat) {x z : Str} (h : fa[i]? = some (He.Fa.str x z)) : ∃ t, mg x = some (.str z t) := by
  obtain ⟨hp, X, G⟩ := C.ex
  exact He.str_ok X G (C.sd.fact i h)
theorem Cxt.isi : (isiB K (He.ga K "Asked") = true ∧ isiB K (He.ga K "Shelf") = true) ∧ PySem.W.selfFirst K (He.ga K "Asked") = true ∧ PySem.W.findIn K (.ref (He.ga K "Shelf")) "__ne__" = some (some (.builtin "object.__ne__")) ∧
    PySem.W.subIn K (.ref (He.ga K "Shelf")) (.type "object") = some true ∧ PySem.W.fnIn K (He.ma K (He.ga K "Weights") "__call__") = true := by
  obtain ⟨b1, c⟩ := He.ba (show NkH.ex K = true from C.b)
  obtain ⟨b2, c⟩ := He.ba c
  obtain ⟨b3, c⟩ := He.ba c
  obtain ⟨b4, c⟩ := He.ba c
  obtain ⟨b5, b6⟩ := He.ba c
  exact ⟨⟨b1, b2⟩, b3, He.eqO_ok b4, of_decide_eq_true b5, b6⟩
omit C in
theorem isi_of {a : Addr} (h : isiB K a = true) : IsiF K a := by
  obtain ⟨b1, c⟩ := He.ba h
  obtain ⟨b2, c⟩ := He.ba c
  obtain ⟨b3, b4⟩ := He.ba c
  exact ⟨He.eqO_ok b1, He.eqO_ok b2, of_decide_eq_true b3, of_decide_eq_true b4⟩
theorem tx : Tx K mg (cAd K) where
  m_len := C.free 0 rfl
  m_all := C.free 1 rfl
  m_sorted := C.free 2 rfl
  m_set := C.free 3 rfl
  m_isinstance := C.free 4 rfl
  m_int := C.free 5 rfl
  m_bool := C.free 6 rfl
  m_str := C.free 7 rfl
  m_list := C.free 8 rfl
  m_tuple := C.free 9 rfl
  m_dict := C.free 10 rfl
  m_enumerate := C.free 11 rfl
  m_range := C.free 12 rfl
  m_sum := C.free 13 rfl
  m_max := C.free 14 rfl
  m_abs := C.free 15 rfl
  m_repr := C.free 16 rfl
  m_iter := C.free 17 rfl
  g_LETTERS := C.str 18 rfl
  g_LONGEST := C.int 19 rfl
  g_MOST_THINGS := C.int 20 rfl
  g_Asked := C.glo 21 rfl
  g_Shelf := C.glo 23 rfl
  g_Lot := C.glo 25 rfl
  g_Weights := C.glo 27 rfl
  cA := He.cls_ok (C.sd.fact 22 rfl)
  cS := He.cls_ok (C.sd.fact 24 rfl)
  cL := He.cls_ok (C.sd.fact 26 rfl)
  cW := He.cls_ok (C.sd.fact 28 rfl)
  aA := He.noat_ok (C.sd.fact 29 rfl)
  aS := He.noat_ok (C.sd.fact 30 rfl)
  aW := He.noat_ok (C.sd.fact 31 rfl)
  l1 := He.noat_ok (C.sd.fact 32 rfl)
  l2 := He.noat_ok (C.sd.fact 33 rfl)
  l3 := He.noat_ok (C.sd.fact 34 rfl)
  l4 := He.noat_ok (C.sd.fact 35 rfl)
theorem D_is_integer : Def P w K mg base "is_integer" 1 ["thing"] spInt := by
  obtain ⟨fd, F⟩ := C.sd.def_ 0 (d := d_is_integer) rfl
  have F : FnD K "is_integer" "is_integer" s_is_integer (He.ga K "is_integer") fd := F
  exact ⟨_, fd, ok_is_integer (tx C) F, C.glo 36 rfl, F.kp, (F.bindsN fun _ _ _ _ _ _ us hl => match us, hl with | [_], _ => rfl)⟩
theorem D_is_number_below : Def P w K mg base "is_number_below" 2 ["thing", "many"] spNumBelow := by
  obtain ⟨fd, F⟩ := C.sd.def_ 1 (d := d_is_number_below) rfl
  have F : FnD K "is_number_below" "is_number_below" s_is_number_below (He.ga K "is_number_below") fd := F
  exact ⟨_, fd, ok_is_number_below (tx C) F (D_is_integer C), C.glo 37 rfl, F.kp, (F.bindsN fun _ _ _ _ _ _ us hl => match us, hl with | [_, _], _ => rfl)⟩
theorem D_is_column : Def P w K mg base "is_column" 1 ["thing"] spColumn := by
  obtain ⟨fd, F⟩ := C.sd.def_ 2 (d := d_is_column) rfl
  have F : FnD K "is_column" "is_column" s_is_column (He.ga K "is_column") fd := F
  exact ⟨_, fd, ok_is_column (tx C) F, C.glo 38 rfl, F.kp, (F.bindsN fun _ _ _ _ _ _ us hl => match us, hl with | [_], _ => rfl)⟩
theorem D_are_unlike : Def P w K mg base "are_unlike" 2 ["things"] (spUnlike K) := by
  obtain ⟨fd, F⟩ := C.sd.def_ 3 (d := d_are_unlike) rfl
  have F : FnD K "are_unlike" "are_unlike" s_are_unlike (He.ga K "are_unlike") fd := F
  exact ⟨_, fd, ok_are_unlike (tx C) F (D_is_column C), C.glo 39 rfl, F.kp, (F.bindsN fun _ _ _ _ _ _ us hl => match us, hl with | [_], _ => rfl)⟩
theorem D_are_columns : Def P w K mg base "are_columns" 3 ["thing"] (spColumns K) := by
  obtain ⟨fd, F⟩ := C.sd.def_ 4 (d := d_are_columns) rfl
  have F : FnD K "are_columns" "are_columns" s_are_columns (He.ga K "are_columns") fd := F
  exact ⟨_, fd, ok_are_columns (tx C) F (D_are_unlike C), C.glo 40 rfl, F.kp, (F.bindsN fun _ _ _ _ _ _ us hl => match us, hl with | [_], _ => rfl)⟩
theorem D_is_last : Def P w K mg base "is_last" 2 ["thing", "columns"] (spLast K) := by
  obtain ⟨fd, F⟩ := C.sd.def_ 5 (d := d_is_last) rfl
  have F : FnD K "is_last" "is_last" s_is_last (He.ga K "is_last") fd := F
  exact ⟨_, fd, ok_is_last (tx C) F (D_is_column C), C.glo 41 rfl, F.kp, (F.bindsN fun _ _ _ _ _ _ us hl => match us, hl with | [_, _], _ => rfl)⟩
theorem D_is_question : Def P w K mg base "is_question" 4 ["thing"] (spQuestion K) := by
  obtain ⟨fd, F⟩ := C.sd.def_ 6 (d := d_is_question) rfl
  have F : FnD K "is_question" "is_question" s_is_question (He.ga K "is_question") fd := F
  exact ⟨_, fd, ok_is_question (tx C) F (D_are_columns C) (D_is_last C), C.glo 42 rfl, F.kp, (F.bindsN fun _ _ _ _ _ _ us hl => match us, hl with | [_], _ => rfl)⟩
theorem D_is_index : Def P w K mg base "is_index" 3 ["thing"] (spIndex K) := by
  obtain ⟨fd, F⟩ := C.sd.def_ 7 (d := d_is_index) rfl
  have F : FnD K "is_index" "is_index" s_is_index (He.ga K "is_index") fd := F
  exact ⟨_, fd, ok_is_index (tx C) F (D_are_unlike C), C.glo 43 rfl, F.kp, (F.bindsN fun _ _ _ _ _ _ us hl => match us, hl with | [_], _ => rfl)⟩
theorem D_is_weight : Def P w K mg base "is_weight" 2 ["thing"] spWeight := by
  obtain ⟨fd, F⟩ := C.sd.def_ 8 (d := d_is_weight) rfl
  have F : FnD K "is_weight" "is_weight" s_is_weight (He.ga K "is_weight") fd := F
  exact ⟨_, fd, ok_is_weight (tx C) F (D_is_integer C), C.glo 44 rfl, F.kp, (F.bindsN fun _ _ _ _ _ _ us hl => match us, hl with | [_], _ => rfl)⟩
theorem D_columns_of : Def P w K mg base "columns_of" 1 ["question"] (spColsOf K) := by
  obtain ⟨fd, F⟩ := C.sd.def_ 9 (d := d_columns_of) rfl
  have F : FnD K "columns_of" "columns_of" s_columns_of (He.ga K "columns_of") fd := F
  exact ⟨_, fd, ok_columns_of (tx C) F, C.glo 45 rfl, F.kp, (F.bindsN fun _ _ _ _ _ _ us hl => match us, hl with | [_], _ => rfl)⟩
theorem D_width : Def P w K mg base "width" 2 ["question"] (spWidth K) := by
  obtain ⟨fd, F⟩ := C.sd.def_ 10 (d := d_width) rfl
  have F : FnD K "width" "width" s_width (He.ga K "width") fd := F
  exact ⟨_, fd, ok_width (tx C) F (D_columns_of C), C.glo 46 rfl, F.kp, (F.bindsN fun _ _ _ _ _ _ us hl => match us, hl with | [_], _ => rfl)⟩
theorem D_is_below : Def P w K mg base "is_below" 2 ["one", "other"] (spBelow K) := by
  obtain ⟨fd, F⟩ := C.sd.def_ 11 (d := d_is_below) rfl
  have F : FnD K "is_below" "is_below" s_is_below (He.ga K "is_below") fd := F
  exact ⟨_, fd, ok_is_below (tx C) F (D_columns_of C), C.glo 47 rfl, F.kp, (F.bindsN fun _ _ _ _ _ _ us hl => match us, hl with | [_, _], _ => rfl)⟩
theorem D_can_share : Def P w K mg base "can_share" 3 ["one", "other"] (spShare K) := by
  obtain ⟨fd, F⟩ := C.sd.def_ 12 (d := d_can_share) rfl
  have F : FnD K "can_share" "can_share" s_can_share (He.ga K "can_share") fd := F
  exact ⟨_, fd, ok_can_share (tx C) F (D_is_below C), C.glo 48 rfl, F.kp, (F.bindsN fun _ _ _ _ _ _ us hl => match us, hl with | [_, _], _ => rfl)⟩
theorem D_split_pair : Def P w K mg base "split_pair" 4 ["questions"] (spSplit K) := by
  obtain ⟨fd, F⟩ := C.sd.def_ 13 (d := d_split_pair) rfl
  have F : FnD K "split_pair" "split_pair" s_split_pair (He.ga K "split_pair") fd := F
  exact ⟨_, fd, ok_split_pair (tx C) F (D_can_share C), C.glo 49 rfl, F.kp, (F.bindsN fun _ _ _ _ _ _ us hl => match us, hl with | [_], _ => rfl)⟩
theorem D_climb : Def P w K mg base "climb" 1 ["question"] (spClimb K) := by
  obtain ⟨fd, F⟩ := C.sd.def_ 14 (d := d_climb) rfl
  have F : FnD K "climb" "climb" s_climb (He.ga K "climb") fd := F
  exact ⟨_, fd, ok_climb (tx C) F, C.glo 50 rfl, F.kp, (F.bindsN fun _ _ _ _ _ _ us hl => match us, hl with | [_], _ => rfl)⟩
theorem D_upwards : Def P w K mg base "upwards" 4 ["questions"] (spUpwards K) := by
  obtain ⟨fc, fdc, GC, mC, _, bC⟩ := (D_climb (P := P) (w := w) (base := base) C).ex
  obtain ⟨fd, F⟩ := C.sd.def_ 15 (d := d_upwards) rfl
  have F : FnD K "upwards" "upwards" s_upwards (He.ga K "upwards") fd := F
  exact ⟨_, fd, ok_upwards (tx C) F GC bC mC, C.glo 51 rfl, F.kp, (F.bindsN fun _ _ _ _ _ _ us hl => match us, hl with | [_], _ => rfl)⟩
theorem M_Asked : Made P w K mg base "Asked" (cAd K).Asked 5 ["self", "questions"] (spAskInit K (cAd K)) := by
  obtain ⟨fd, F⟩ := C.sd.def_ 58 (d := d_Asked___init__) rfl
  have F : FnD K "__init__" "Asked.__init__" s_Asked___init__ (He.ma K (He.ga K "Asked") "__init__") fd := F
  exact ⟨⟨_, fd, ok_ask_init (tx C) F (D_is_question C), He.mkr_ok (C.sd.fact 94 rfl), (F.bindsN fun _ _ _ _ _ _ us hl => match us, hl with | [_, _], _ => rfl)⟩, C.glo 21 rfl⟩
theorem M_Asked_questions : Own P w K mg base (cAd K).Asked "questions" 1 ["self"] (spAskQs K (cAd K)) := by
  obtain ⟨fd, F⟩ := C.sd.def_ 59 (d := d_Asked_questions) rfl
  have F : FnD K "questions" "Asked.questions" s_Asked_questions (He.ma K (He.ga K "Asked") "questions") fd := F
  exact ⟨⟨_, fd, ok_ask_qs (tx C) F, He.meth_ok (C.sd.fact 95 rfl), (F.bindsN fun _ _ _ _ _ _ us hl => match us, hl with | [_], _ => rfl)⟩, He.cls_ok (C.sd.fact 22 rfl)⟩
theorem M_Asked___contains__ : Own P w K mg base (cAd K).Asked "__contains__" 5 ["self", "question"] (spAskHas K (cAd K)) := by
  obtain ⟨fd, F⟩ := C.sd.def_ 62 (d := d_Asked___contains__) rfl
  have F : FnD K "__contains__" "Asked.__contains__" s_Asked___contains__ (He.ma K (He.ga K "Asked") "__contains__") fd := F
  exact ⟨⟨_, fd, ok_ask_has (tx C) F (D_is_question C), He.meth_ok (C.sd.fact 98 rfl), (F.bindsN fun _ _ _ _ _ _ us hl => match us, hl with | [_, _], _ => rfl)⟩, He.cls_ok (C.sd.fact 22 rfl)⟩
theorem M_Asked___len__ : Own P w K mg base (cAd K).Asked "__len__" 1 ["self"] (spLen K (cAd K).Asked "kept_questions") := by
  obtain ⟨fd, F⟩ := C.sd.def_ 64 (d := d_Asked___len__) rfl
  have F : FnD K "__len__" "Asked.__len__" s_Asked___len__ (He.ma K (He.ga K "Asked") "__len__") fd := F
  exact ⟨⟨_, fd, ok_ask_len (tx C) F, He.meth_ok (C.sd.fact 100 rfl), (F.bindsN fun _ _ _ _ _ _ us hl => match us, hl with | [_], _ => rfl)⟩, He.cls_ok (C.sd.fact 22 rfl)⟩
theorem I_Asked___iter__ : ∃ fd, FnS P w K mg base 1 (He.ma K (He.ga K "Asked") "__iter__") fd ["self"] (spIter K (cAd K).Asked "kept_questions") ∧ Binds K fd ["self"] [] := by
  obtain ⟨fd, F⟩ := C.sd.def_ 63 (d := d_Asked___iter__) rfl
  have F : FnD K "__iter__" "Asked.__iter__" s_Asked___iter__ (He.ma K (He.ga K "Asked") "__iter__") fd := F
  exact ⟨fd, ok_ask_iter (tx C) F, (F.bindsN fun _ _ _ _ _ _ us hl => match us, hl with | [_], _ => rfl)⟩
theorem M_Asked___or__ : Own P w K mg base (cAd K).Asked "__or__" 7 ["self", "other"] (spAskOr K (cAd K)) := by
  obtain ⟨fd, F⟩ := C.sd.def_ 60 (d := d_Asked___or__) rfl
  have F : FnD K "__or__" "Asked.__or__" s_Asked___or__ (He.ma K (He.ga K "Asked") "__or__") fd := F
  exact ⟨⟨_, fd, ok_ask_or (tx C) F (M_Asked C), He.meth_ok (C.sd.fact 96 rfl), (F.bindsN fun _ _ _ _ _ _ us hl => match us, hl with | [_, _], _ => rfl)⟩, He.cls_ok (C.sd.fact 22 rfl)⟩
theorem M_Asked___sub__ : Own P w K mg base (cAd K).Asked "__sub__" 7 ["self", "other"] (spAskSub K (cAd K)) := by
  obtain ⟨fd, F⟩ := C.sd.def_ 61 (d := d_Asked___sub__) rfl
  have F : FnD K "__sub__" "Asked.__sub__" s_Asked___sub__ (He.ma K (He.ga K "Asked") "__sub__") fd := F
  exact ⟨⟨_, fd, ok_ask_sub (tx C) F (M_Asked C) (M_Asked___contains__ C), He.meth_ok (C.sd.fact 97 rfl), (F.bindsN fun _ _ _ _ _ _ us hl => match us, hl with | [_, _], _ => rfl)⟩, He.cls_ok (C.sd.fact 22 rfl)⟩
theorem M_Shelf : Made P w K mg base "Shelf" (cAd K).Shelf 4 ["self", "indexes"] (spShInit K (cAd K)) := by
  obtain ⟨fd, F⟩ := C.sd.def_ 65 (d := d_Shelf___init__) rfl
  have F : FnD K "__init__" "Shelf.__init__" s_Shelf___init__ (He.ma K (He.ga K "Shelf") "__init__") fd := F
  exact ⟨⟨_, fd, ok_sh_init (tx C) F (D_is_index C), He.mkr_ok (C.sd.fact 101 rfl), (F.bindsN fun _ _ _ _ _ _ us hl => match us, hl with | [_, _], _ => rfl)⟩, C.glo 23 rfl⟩
theorem B_Shelf___len__ : ∃ fd, FnOk P w K mg base CX0 1 (He.ma K (He.ga K "Shelf") "__len__") fd ["self"] (spLen K (cAd K).Shelf "kept_indexes") ∧ Binds K fd ["self"] [] := by
  obtain ⟨fd, F⟩ := C.sd.def_ 67 (d := d_Shelf___len__) rfl
  have F : FnD K "__len__" "Shelf.__len__" s_Shelf___len__ (He.ma K (He.ga K "Shelf") "__len__") fd := F
  exact ⟨fd, ok_sh_len (tx C) F, (F.bindsN fun _ _ _ _ _ _ us hl => match us, hl with | [_], _ => rfl)⟩
theorem I_Shelf___iter__ : ∃ fd, FnS P w K mg base 1 (He.ma K (He.ga K "Shelf") "__iter__") fd ["self"] (spIter K (cAd K).Shelf "kept_indexes") ∧ Binds K fd ["self"] [] := by
  obtain ⟨fd, F⟩ := C.sd.def_ 66 (d := d_Shelf___iter__) rfl
  have F : FnD K "__iter__" "Shelf.__iter__" s_Shelf___iter__ (He.ma K (He.ga K "Shelf") "__iter__") fd := F
  exact ⟨fd, ok_sh_iter (tx C) F, (F.bindsN fun _ _ _ _ _ _ us hl => match us, hl with | [_], _ => rfl)⟩
theorem B_Shelf___eq__ : ∃ fd, FnOk P w K mg base CX0 1 (He.ma K (He.ga K "Shelf") "__eq__") fd ["self", "other"] (spShEq K (cAd K)) ∧ Binds K fd ["self", "other"] [] := by
  obtain ⟨fd, F⟩ := C.sd.def_ 68 (d := d_Shelf___eq__) rfl
  have F : FnD K "__eq__" "Shelf.__eq__" s_Shelf___eq__ (He.ma K (He.ga K "Shelf") "__eq__") fd := F
  exact ⟨fd, ok_sh_eq (tx C) F (isi_of C.isi.1.2), (F.bindsN fun _ _ _ _ _ _ us hl => match us, hl with | [_, _], _ => rfl)⟩
theorem D_blocks_of : Def P w K mg base "blocks_of" 5 ["questions"] (spBlocks K) := by
  obtain ⟨fd, F⟩ := C.sd.def_ 16 (d := d_blocks_of) rfl
  have F : FnD K "blocks_of" "blocks_of" s_blocks_of (He.ga K "blocks_of") fd := F
  exact ⟨_, fd, ok_blocks_of (tx C) F (D_split_pair C) (D_upwards C), C.glo 52 rfl, F.kp, (F.bindsN fun _ _ _ _ _ _ us hl => match us, hl with | [_], _ => rfl)⟩
theorem D_index_for : Def P w K mg base "index_for" 6 ["questions"] (spIdxFor K) := by
  obtain ⟨fd, F⟩ := C.sd.def_ 17 (d := d_index_for) rfl
  have F : FnD K "index_for" "index_for" s_index_for (He.ga K "index_for") fd := F
  exact ⟨_, fd, ok_index_for (tx C) F (D_blocks_of C), C.glo 53 rfl, F.kp, (F.bindsN fun _ _ _ _ _ _ us hl => match us, hl with | [_], _ => rfl)⟩
theorem D_lead : Def P w K mg base "lead" 50 ["above", "below", "low", "seen"] (spLeadN K) := by
  obtain ⟨fd, F⟩ := C.sd.def_ 20 (d := d_lead) rfl
  have F : FnD K "lead" "lead" s_lead (He.ga K "lead") fd := F
  have b : Binds K fd ["above", "below", "low", "seen"] [] := (F.bindsN fun _ _ _ _ _ _ us hl => match us, hl with | [_, _, _, _], _ => rfl)
  exact ⟨_, fd, lead_any (ok_lead F (C.glo 56 rfl) F.kp b), C.glo 56 rfl, F.kp, b⟩
theorem D_matched : Def P w K mg base "matched" 51 ["above", "order"] (spMatched K) := by
  obtain ⟨fd, F⟩ := C.sd.def_ 21 (d := d_matched) rfl
  have F : FnD K "matched" "matched" s_matched (He.ga K "matched") fd := F
  exact ⟨_, fd, ok_matched F (D_lead C), C.glo 57 rfl, F.kp, (F.bindsN fun _ _ _ _ _ _ us hl => match us, hl with | [_, _], _ => rfl)⟩
theorem D_chained : Def P w K mg base "chained" 1 ["match", "many"] (spChained K) := by
  obtain ⟨fd, F⟩ := C.sd.def_ 22 (d := d_chained) rfl
  have F : FnD K "chained" "chained" s_chained (He.ga K "chained") fd := F
  exact ⟨_, fd, ok_chained (tx C) F, C.glo 58 rfl, F.kp, (F.bindsN fun _ _ _ _ _ _ us hl => match us, hl with | [_, _], _ => rfl)⟩
theorem D_are_weights : Def P w K mg base "are_weights" 2 ["thing"] (spAreW K) := by
  obtain ⟨fd, F⟩ := C.sd.def_ 18 (d := d_are_weights) rfl
  have F : FnD K "are_weights" "are_weights" s_are_weights (He.ga K "are_weights") fd := F
  exact ⟨_, fd, ok_are_weights (tx C) F (D_is_integer C), C.glo 54 rfl, F.kp, (F.bindsN fun _ _ _ _ _ _ us hl => match us, hl with | [_], _ => rfl)⟩
theorem D_are_pairs : Def P w K mg base "are_pairs" 3 ["thing", "many"] (spAreP K) := by
  obtain ⟨fd, F⟩ := C.sd.def_ 19 (d := d_are_pairs) rfl
  have F : FnD K "are_pairs" "are_pairs" s_are_pairs (He.ga K "are_pairs") fd := F
  exact ⟨_, fd, ok_are_pairs (tx C) F (D_is_number_below C), C.glo 55 rfl, F.kp, (F.bindsN fun _ _ _ _ _ _ us hl => match us, hl with | [_, _], _ => rfl)⟩
theorem M_Lot_heavy_first : Own P w K mg base (cAd K).Lot "heavy_first" 1 ["self"] (spHeavy K (cAd K)) := by
  obtain ⟨fd, F⟩ := C.sd.def_ 71 (d := d_Lot_heavy_first) rfl
  have F : FnD K "heavy_first" "Lot.heavy_first" s_Lot_heavy_first (He.ma K (He.ga K "Lot") "heavy_first") fd := F
  exact ⟨⟨_, fd, ok_heavy (tx C) F, He.meth_ok (C.sd.fact 107 rfl), (F.bindsN fun _ _ _ _ _ _ us hl => match us, hl with | [_], _ => rfl)⟩, He.cls_ok (C.sd.fact 26 rfl)⟩
theorem M_Lot_weights : Own P w K mg base (cAd K).Lot "weights" 1 ["self"] (spWts K (cAd K)) := by
  obtain ⟨fd, F⟩ := C.sd.def_ 72 (d := d_Lot_weights) rfl
  have F : FnD K "weights" "Lot.weights" s_Lot_weights (He.ma K (He.ga K "Lot") "weights") fd := F
  exact ⟨⟨_, fd, ok_wts (tx C) F, He.meth_ok (C.sd.fact 108 rfl), (F.bindsN fun _ _ _ _ _ _ us hl => match us, hl with | [_], _ => rfl)⟩, He.cls_ok (C.sd.fact 26 rfl)⟩
theorem M_Lot___len__ : Own P w K mg base (cAd K).Lot "__len__" 1 ["self"] (spLen K (cAd K).Lot "kept_weights") := by
  obtain ⟨fd, F⟩ := C.sd.def_ 77 (d := d_Lot___len__) rfl
  have F : FnD K "__len__" "Lot.__len__" s_Lot___len__ (He.ma K (He.ga K "Lot") "__len__") fd := F
  exact ⟨⟨_, fd, ok_lot_len (tx C) F, He.meth_ok (C.sd.fact 113 rfl), (F.bindsN fun _ _ _ _ _ _ us hl => match us, hl with | [_], _ => rfl)⟩, He.cls_ok (C.sd.fact 26 rfl)⟩
theorem M_Lot_steps : Own P w K mg base (cAd K).Lot "steps" 1 ["self"] (spSteps K (cAd K)) := by
  obtain ⟨fd, F⟩ := C.sd.def_ 73 (d := d_Lot_steps) rfl
  have F : FnD K "steps" "Lot.steps" s_Lot_steps (He.ma K (He.ga K "Lot") "steps") fd := F
  exact ⟨⟨_, fd, ok_steps (tx C) F, He.meth_ok (C.sd.fact 109 rfl), (F.bindsN fun _ _ _ _ _ _ us hl => match us, hl with | [_], _ => rfl)⟩, He.cls_ok (C.sd.fact 26 rfl)⟩
theorem M_Lot_tops_from : Own P w K mg base (cAd K).Lot "tops_from" 1 ["self", "level"] (spTops K (cAd K)) := by
  obtain ⟨fd, F⟩ := C.sd.def_ 74 (d := d_Lot_tops_from) rfl
  have F : FnD K "tops_from" "Lot.tops_from" s_Lot_tops_from (He.ma K (He.ga K "Lot") "tops_from") fd := F
  exact ⟨⟨_, fd, ok_tops (tx C) F, He.meth_ok (C.sd.fact 110 rfl), (F.bindsN fun _ _ _ _ _ _ us hl => match us, hl with | [_, _], _ => rfl)⟩, He.cls_ok (C.sd.fact 26 rfl)⟩
theorem M_Lot_width : Own P w K mg base (cAd K).Lot "width" 2 ["self"] (spWid K (cAd K)) := by
  obtain ⟨fd, F⟩ := C.sd.def_ 75 (d := d_Lot_width) rfl
  have F : FnD K "width" "Lot.width" s_Lot_width (He.ma K (He.ga K "Lot") "width") fd := F
  exact ⟨⟨_, fd, ok_wid (tx C) F (M_Lot_tops_from C), He.meth_ok (C.sd.fact 111 rfl), (F.bindsN fun _ _ _ _ _ _ us hl => match us, hl with | [_], _ => rfl)⟩, He.cls_ok (C.sd.fact 26 rfl)⟩
theorem M_Lot_least_sum : Own P w K mg base (cAd K).Lot "least_sum" 2 ["self"] (spLeastS K (cAd K)) := by
  obtain ⟨fd, F⟩ := C.sd.def_ 76 (d := d_Lot_least_sum) rfl
  have F : FnD K "least_sum" "Lot.least_sum" s_Lot_least_sum (He.ma K (He.ga K "Lot") "least_sum") fd := F
  exact ⟨⟨_, fd, ok_leastS (tx C) F (M_Lot_tops_from C) (M_Lot_steps C), He.meth_ok (C.sd.fact 112 rfl), (F.bindsN fun _ _ _ _ _ _ us hl => match us, hl with | [_], _ => rfl)⟩, He.cls_ok (C.sd.fact 26 rfl)⟩
theorem M_Lot_odd_pairs : Own P w K mg base (cAd K).Lot "odd_pairs" 1 ["self"] (spOdd K (cAd K)) := by
  obtain ⟨fd, F⟩ := C.sd.def_ 70 (d := d_Lot_odd_pairs) rfl
  have F : FnD K "odd_pairs" "Lot.odd_pairs" s_Lot_odd_pairs (He.ma K (He.ga K "Lot") "odd_pairs") fd := F
  exact ⟨⟨_, fd, ok_odd (tx C) F, He.meth_ok (C.sd.fact 106 rfl), (F.bindsN fun _ _ _ _ _ _ us hl => match us, hl with | [_], _ => rfl)⟩, He.cls_ok (C.sd.fact 26 rfl)⟩
theorem M_Lot : Made P w K mg base "Lot" (cAd K).Lot 52 ["self", "weights", "pairs"] (spLotInit K (cAd K)) := by
  obtain ⟨fd, F⟩ := C.sd.def_ 69 (d := d_Lot___init__) rfl
  have F : FnD K "__init__" "Lot.__init__" s_Lot___init__ (He.ma K (He.ga K "Lot") "__init__") fd := F
  exact ⟨⟨_, fd, ok_lot_init (tx C) F (D_are_weights C) (D_are_pairs C) (D_matched C) (M_Lot_odd_pairs C) (M_Lot_heavy_first C), He.mkr_ok (C.sd.fact 105 rfl), (F.bindsN fun _ _ _ _ _ _ us hl => match us, hl with | [_, _, _], _ => rfl)⟩, C.glo 25 rfl⟩
theorem M_Weights : Made P w K mg base "Weights" (cAd K).Weights 3 ["self", "table"] (spWtInit K (cAd K)) := by
  obtain ⟨fd, F⟩ := C.sd.def_ 78 (d := d_Weights___init__) rfl
  have F : FnD K "__init__" "Weights.__init__" s_Weights___init__ (He.ma K (He.ga K "Weights") "__init__") fd := F
  exact ⟨⟨_, fd, ok_wt_init (tx C) F (D_is_column C) (D_is_weight C), He.mkr_ok (C.sd.fact 114 rfl), (F.bindsN fun _ _ _ _ _ _ us hl => match us, hl with | [_, _], _ => rfl)⟩, C.glo 27 rfl⟩
theorem B_Weights___call__ : ∃ fd, FnOk P w K mg base CX0 2 (He.ma K (He.ga K "Weights") "__call__") fd ["self", "thing"] (spWtCall K (cAd K)) ∧ Binds K fd ["self", "thing"] [] := by
  obtain ⟨fd, F⟩ := C.sd.def_ 79 (d := d_Weights___call__) rfl
  have F : FnD K "__call__" "Weights.__call__" s_Weights___call__ (He.ma K (He.ga K "Weights") "__call__") fd := F
  exact ⟨fd, ok_wt_call (tx C) F (D_columns_of C), (F.bindsN fun _ _ _ _ _ _ us hl => match us, hl with | [_, _], _ => rfl)⟩
theorem D_weight_of : Def P w K mg base "weight_of" 3 ["question", "weights"] (spWtOf K (cAd K)) := by
  obtain ⟨fo, GO, BO⟩ := B_Weights___call__ (P := P) (w := w) (base := base) C
  have m := He.meth_ok (C.sd.fact 115 rfl)
  obtain ⟨fd, F⟩ := C.sd.def_ 27 (d := d_weight_of) rfl
  have F : FnD K "weight_of" "weight_of" s_weight_of (He.ga K "weight_of") fd := F
  have r : FnR P w K mg base CX0 2 (He.ma K (He.ga K "Weights") "__call__") (spWtCall K (cAd K)) := (GO.raw BO .nil).imp fun vs H Q E q => by
    rw [List.append_nil]; exact q
  exact ⟨_, fd, ok_weight_of (tx C) F (D_width C) ⟨m.at_, m.fn, C.isi.2.2.2.2⟩ r, C.glo 63 rfl, F.kp, (F.bindsN fun _ _ _ _ _ _ us hl => match us, hl with | [_, _], _ => rfl)⟩
theorem D_pairs_of : Def P w K mg base "pairs_of" 3 ["questions"] (spPairsOf K) := by
  obtain ⟨fd, F⟩ := C.sd.def_ 23 (d := d_pairs_of) rfl
  have F : FnD K "pairs_of" "pairs_of" s_pairs_of (He.ga K "pairs_of") fd := F
  exact ⟨_, fd, ok_pairs_of (tx C) F (D_is_below C), C.glo 59 rfl, F.kp, (F.bindsN fun _ _ _ _ _ _ us hl => match us, hl with | [_], _ => rfl)⟩
theorem D_shelf_of : Def P w K mg base "shelf_of" 7 ["questions", "chains"] (spShelfOf K (cAd K)) := by
  obtain ⟨fd, F⟩ := C.sd.def_ 24 (d := d_shelf_of) rfl
  have F : FnD K "shelf_of" "shelf_of" s_shelf_of (He.ga K "shelf_of") fd := F
  exact ⟨_, fd, ok_shelf_of (tx C) F (M_Shelf C) (D_index_for C), C.glo 60 rfl, F.kp, (F.bindsN fun _ _ _ _ _ _ us hl => match us, hl with | [_, _], _ => rfl)⟩
theorem D_plain_lot : Def P w K mg base "plain_lot" 54 ["asked"] (spPlain K (cAd K)) := by
  obtain ⟨fd, F⟩ := C.sd.def_ 25 (d := d_plain_lot) rfl
  have F : FnD K "plain_lot" "plain_lot" s_plain_lot (He.ga K "plain_lot") fd := F
  exact ⟨_, fd, ok_plain (tx C) F (M_Lot C) (D_pairs_of C) (M_Asked_questions C) (M_Asked___len__ C), C.glo 61 rfl, F.kp, (F.bindsN fun _ _ _ _ _ _ us hl => match us, hl with | [_], _ => rfl)⟩
theorem D_fewest : Def P w K mg base "fewest" 55 ["asked"] (spFewest K (cAd K)) := by
  obtain ⟨fd, F⟩ := C.sd.def_ 26 (d := d_fewest) rfl
  have F : FnD K "fewest" "fewest" s_fewest (He.ga K "fewest") fd := F
  exact ⟨_, fd, ok_fewest (tx C) F (D_plain_lot C) (M_Lot_width C), C.glo 62 rfl, F.kp, (F.bindsN fun _ _ _ _ _ _ us hl => match us, hl with | [_], _ => rfl)⟩
theorem D_lot_of : Def P w K mg base "lot_of" 54 ["asked", "weights"] (spLotOf K (cAd K)) := by
  obtain ⟨fd, F⟩ := C.sd.def_ 28 (d := d_lot_of) rfl
  have F : FnD K "lot_of" "lot_of" s_lot_of (He.ga K "lot_of") fd := F
  exact ⟨_, fd, ok_lot_of (tx C) F (M_Lot C) (D_pairs_of C) (M_Asked_questions C) (D_weight_of C), C.glo 64 rfl, F.kp, (F.bindsN fun _ _ _ _ _ _ us hl => match us, hl with | [_, _], _ => rfl)⟩
theorem D_least_cost : DefK P w K mg base "least_cost" "weights" 1 55 ["asked", "weights"] (spLeast K (cAd K)) := by
  obtain ⟨fd, F⟩ := C.sd.def_ 29 (d := d_least_cost) rfl
  have F : FnK K "least_cost" "least_cost" s_least_cost (He.ga K "least_cost") fd := F
  have kb : ∃ mv : List Value, KBn K fd ["asked", "weights"] 1 ["weights"] (fun us ws => us ++ ws) (fun vs zs => vs ++ zs) := F.kbinds0 1 ["weights"] [] (fun a _ c => a ++ c) (by simp) (fun q hq => by cases hq) (fun r1 _ r3 => r1.append r3)
    fun D doc pm an cdv ct us mv ws l1 l2 l3 => match us, l1, mv, l2, ws, l3 with | [_], _, [], _, [_], _ => rfl
  obtain ⟨_, kb⟩ := kb
  exact ⟨_, fd, ok_least (tx C) F (D_lot_of C) (M_Lot_least_sum C), C.glo 65 rfl, F.kp, kb⟩
theorem D_exchanged : Def P w K mg base "exchanged" 52 ["above", "match", "drop", "take"] (spExch K) := by
  obtain ⟨fd, F⟩ := C.sd.def_ 31 (d := d_exchanged) rfl
  have F : FnD K "exchanged" "exchanged" s_exchanged (He.ga K "exchanged") fd := F
  exact ⟨_, fd, ok_exch (tx C) F (D_matched C), C.glo 67 rfl, F.kp, (F.bindsN fun _ _ _ _ _ _ us hl => match us, hl with | [_, _, _, _], _ => rfl)⟩
theorem D_one_more : Def P w K mg base "one_more" 53 ["above", "match", "inside", "beside"] (spOne K) := by
  obtain ⟨fd, F⟩ := C.sd.def_ 32 (d := d_one_more) rfl
  have F : FnD K "one_more" "one_more" s_one_more (He.ga K "one_more") fd := F
  exact ⟨_, fd, ok_one (tx C) F (D_exchanged C), C.glo 68 rfl, F.kp, (F.bindsN fun _ _ _ _ _ _ us hl => match us, hl with | [_, _, _, _], _ => rfl)⟩
theorem D_whole_range : DefK P w K mg base "whole_range" "weights" 2 56 ["asked", "columns", "weights"] (spRange K (cAd K)) := by
  obtain ⟨fdi, OI, Bi⟩ := I_Asked___iter__ (P := P) (w := w) (base := base) C
  obtain ⟨fd, F⟩ := C.sd.def_ 30 (d := d_whole_range) rfl
  have F : FnK K "whole_range" "whole_range" s_whole_range (He.ga K "whole_range") fd := F
  have kb : ∃ mv : List Value, KBn K fd ["asked", "columns", "weights"] 2 ["weights"] (fun us ws => us ++ ws) (fun vs zs => vs ++ zs) := F.kbinds0 2 ["weights"] [] (fun a _ c => a ++ c) (by simp) (fun q hq => by cases hq) (fun r1 _ r3 => r1.append r3)
    fun D doc pm an cdv ct us mv ws l1 l2 l3 => match us, l1, mv, l2, ws, l3 with | [_, _], _, [], _, [_], _ => rfl
  obtain ⟨_, kb⟩ := kb
  exact ⟨_, fd, ok_range (tx C) F (D_columns_of C) (D_weight_of C) (D_fewest C) (M_Asked C) (M_Asked___or__ C) (M_Asked___sub__ C) C.isi.2.1 OI Bi (He.meth_ok (C.sd.fact 99 rfl)), C.glo 66 rfl, F.kp, kb⟩
theorem D_shelf_with : DefK P w K mg base "shelf_with" "weights" 3 57 ["asked", "columns", "many", "weights"] (spShelfWith K (cAd K)) := by
  obtain ⟨fd, F⟩ := C.sd.def_ 33 (d := d_shelf_with) rfl
  have F : FnK K "shelf_with" "shelf_with" s_shelf_with (He.ga K "shelf_with") fd := F
  have kb : ∃ mv : List Value, KBn K fd ["asked", "columns", "many", "weights"] 3 ["weights"] (fun us ws => us ++ ws) (fun vs zs => vs ++ zs) := F.kbinds0 3 ["weights"] [] (fun a _ c => a ++ c) (by simp) (fun q hq => by cases hq) (fun r1 _ r3 => r1.append r3)
    fun D doc pm an cdv ct us mv ws l1 l2 l3 => match us, l1, mv, l2, ws, l3 with | [_, _, _], _, [], _, [_], _ => rfl
  obtain ⟨_, kb⟩ := kb
  exact ⟨_, fd, ok_shelf_with (fi := 0) (fdi := fd) (tx C) F (D_columns_of C) (D_whole_range C) (D_lot_of C) (D_pairs_of C) (D_matched C) (D_one_more C) (D_shelf_of C) (D_chained C) (M_Asked_questions C) (M_Lot_weights C) (M_Lot_heavy_first C), C.glo 69 rfl, F.kp, kb⟩
theorem D__law_bag : Def P w K mg base "_law_bag" 1 ["_law_script"] (spBagL K) := by
  obtain ⟨fd, F⟩ := C.sd.def_ 34 (d := d__law_bag) rfl
  have F : FnD K "_law_bag" "_law_bag" s__law_bag (He.ga K "_law_bag") fd := F
  exact ⟨_, fd, ok_l_bag (tx C) F, C.glo 70 rfl, F.kp, (F.bindsN fun _ _ _ _ _ _ us hl => match us, hl with | [_], _ => rfl)⟩
theorem D__law_take : Def P w K mg base "_law_take" 1 ["_law_bag_here", "_law_upto"] (spTake K) := by
  obtain ⟨fd, F⟩ := C.sd.def_ 35 (d := d__law_take) rfl
  have F : FnD K "_law_take" "_law_take" s__law_take (He.ga K "_law_take") fd := F
  exact ⟨_, fd, ok_l_take (tx C) F, C.glo 71 rfl, F.kp, (F.bindsN fun _ _ _ _ _ _ us hl => match us, hl with | [_, _], _ => rfl)⟩
theorem D__law_one : Def P w K mg base "_law_one" 2 ["_law_bag_here", "_law_some"] (spOneL K) := by
  obtain ⟨fd, F⟩ := C.sd.def_ 36 (d := d__law_one) rfl
  have F : FnD K "_law_one" "_law_one" s__law_one (He.ga K "_law_one") fd := F
  exact ⟨_, fd, ok_l_one (tx C) F (D__law_take C), C.glo 72 rfl, F.kp, (F.bindsN fun _ _ _ _ _ _ us hl => match us, hl with | [_, _], _ => rfl)⟩
theorem D__law_mixed : Def P w K mg base "_law_mixed" 2 ["_law_bag_here", "_law_things"] (spMixed K) := by
  obtain ⟨fd, F⟩ := C.sd.def_ 37 (d := d__law_mixed) rfl
  have F : FnD K "_law_mixed" "_law_mixed" s__law_mixed (He.ga K "_law_mixed") fd := F
  exact ⟨_, fd, ok_l_mixed (tx C) F (D__law_take C), C.glo 73 rfl, F.kp, (F.bindsN fun _ _ _ _ _ _ us hl => match us, hl with | [_, _], _ => rfl)⟩
theorem D__law_names : Def P w K mg base "_law_names" 2 ["_law_bag_here", "_law_many"] (spNames K) := by
  obtain ⟨fd, F⟩ := C.sd.def_ 39 (d := d__law_names) rfl
  have F : FnD K "_law_names" "_law_names" s__law_names (He.ga K "_law_names") fd := F
  exact ⟨_, fd, ok_l_names (tx C) F (D__law_take C), C.glo 75 rfl, F.kp, (F.bindsN fun _ _ _ _ _ _ us hl => match us, hl with | [_, _], _ => rfl)⟩
theorem D__law_question_of : Def P w K mg base "_law_question_of" 2 ["_law_bag_here", "_law_row"] (spQuest K) := by
  obtain ⟨fd, F⟩ := C.sd.def_ 40 (d := d__law_question_of) rfl
  have F : FnD K "_law_question_of" "_law_question_of" s__law_question_of (He.ga K "_law_question_of") fd := F
  exact ⟨_, fd, ok_l_question_of (tx C) F (D__law_take C), C.glo 76 rfl, F.kp, (F.bindsN fun _ _ _ _ _ _ us hl => match us, hl with | [_, _], _ => rfl)⟩
theorem D__law_questions : Def P w K mg base "_law_questions" 3 ["_law_bag_here", "_law_names_here", "_law_many"] (spQuests K) := by
  obtain ⟨fd, F⟩ := C.sd.def_ 41 (d := d__law_questions) rfl
  have F : FnD K "_law_questions" "_law_questions" s__law_questions (He.ga K "_law_questions") fd := F
  exact ⟨_, fd, ok_l_questions (tx C) F (D__law_take C) (D__law_mixed C) (D__law_one C) (D__law_question_of C), C.glo 77 rfl, F.kp, (F.bindsN fun _ _ _ _ _ _ us hl => match us, hl with | [_, _, _], _ => rfl)⟩
theorem D__law_table : Def P w K mg base "_law_table" 3 ["_law_bag_here", "_law_names_here"] (spTable K) := by
  obtain ⟨fd, F⟩ := C.sd.def_ 49 (d := d__law_table) rfl
  have F : FnD K "_law_table" "_law_table" s__law_table (He.ga K "_law_table") fd := F
  exact ⟨_, fd, ok_l_table (tx C) F (D__law_take C) (D__law_one C), C.glo 85 rfl, F.kp, (F.bindsN fun _ _ _ _ _ _ us hl => match us, hl with | [_, _], _ => rfl)⟩
theorem D__law_all : Def P w K mg base "_law_all" 1 ["_law_question"] (spAll K) := by
  obtain ⟨fd, F⟩ := C.sd.def_ 42 (d := d__law_all) rfl
  have F : FnD K "_law_all" "_law_all" s__law_all (He.ga K "_law_all") fd := F
  exact ⟨_, fd, ok_l_all (tx C) F, C.glo 78 rfl, F.kp, (F.bindsN fun _ _ _ _ _ _ us hl => match us, hl with | [_], _ => rfl)⟩
theorem D__law_below : Def P w K mg base "_law_below" 2 ["_law_one_here", "_law_other"] (spBelow K) := by
  obtain ⟨fd, F⟩ := C.sd.def_ 43 (d := d__law_below) rfl
  have F : FnD K "_law_below" "_law_below" s__law_below (He.ga K "_law_below") fd := F
  exact ⟨_, fd, ok_l_below (tx C) F (D__law_all C), C.glo 79 rfl, F.kp, (F.bindsN fun _ _ _ _ _ _ us hl => match us, hl with | [_, _], _ => rfl)⟩
theorem D__law_share : Def P w K mg base "_law_share" 3 ["_law_one_here", "_law_other"] (spShare K) := by
  obtain ⟨fd, F⟩ := C.sd.def_ 44 (d := d__law_share) rfl
  have F : FnD K "_law_share" "_law_share" s__law_share (He.ga K "_law_share") fd := F
  exact ⟨_, fd, ok_l_share (tx C) F (D__law_below C), C.glo 80 rfl, F.kp, (F.bindsN fun _ _ _ _ _ _ us hl => match us, hl with | [_, _], _ => rfl)⟩
theorem D__law_serves : Def P w K mg base "_law_serves" 1 ["_law_index", "_law_question"] (spServes K) := by
  obtain ⟨fd, F⟩ := C.sd.def_ 45 (d := d__law_serves) rfl
  have F : FnD K "_law_serves" "_law_serves" s__law_serves (He.ga K "_law_serves") fd := F
  exact ⟨_, fd, ok_l_serves (tx C) F, C.glo 81 rfl, F.kp, (F.bindsN fun _ _ _ _ _ _ us hl => match us, hl with | [_, _], _ => rfl)⟩
theorem D__law_is_served : Def P w K mg base "_law_is_served" 2 ["_law_rows", "_law_question"] (spServed K) := by
  obtain ⟨fd, F⟩ := C.sd.def_ 46 (d := d__law_is_served) rfl
  have F : FnD K "_law_is_served" "_law_is_served" s__law_is_served (He.ga K "_law_is_served") fd := F
  exact ⟨_, fd, ok_l_is_served (tx C) F (D__law_serves C), C.glo 82 rfl, F.kp, (F.bindsN fun _ _ _ _ _ _ us hl => match us, hl with | [_, _], _ => rfl)⟩
theorem D__law_most_apart : Def P w K mg base "_law_most_apart" 4 ["_law_some"] (spApart K) := by
  obtain ⟨fd, F⟩ := C.sd.def_ 47 (d := d__law_most_apart) rfl
  have F : FnD K "_law_most_apart" "_law_most_apart" s__law_most_apart (He.ga K "_law_most_apart") fd := F
  exact ⟨_, fd, ok_l_most_apart (tx C) F (D__law_share C), C.glo 83 rfl, F.kp, (F.bindsN fun _ _ _ _ _ _ us hl => match us, hl with | [_], _ => rfl)⟩
theorem D__law_all_served : Def P w K mg base "_law_all_served" 3 ["_law_rows", "_law_some"] (spAllServed K) := by
  obtain ⟨fd, F⟩ := C.sd.def_ 48 (d := d__law_all_served) rfl
  have F : FnD K "_law_all_served" "_law_all_served" s__law_all_served (He.ga K "_law_all_served") fd := F
  exact ⟨_, fd, ok_l_all_served (tx C) F (D__law_is_served C), C.glo 84 rfl, F.kp, (F.bindsN fun _ _ _ _ _ _ us hl => match us, hl with | [_, _], _ => rfl)⟩
theorem D__law_weigh : Def P w K mg base "_law_weigh" 1 ["_law_table_here", "_law_columns"] (spWeigh K) := by
  obtain ⟨fd, F⟩ := C.sd.def_ 50 (d := d__law_weigh) rfl
  have F : FnD K "_law_weigh" "_law_weigh" s__law_weigh (He.ga K "_law_weigh") fd := F
  exact ⟨_, fd, ok_l_weigh (tx C) F, C.glo 86 rfl, F.kp, (F.bindsN fun _ _ _ _ _ _ us hl => match us, hl with | [_, _], _ => rfl)⟩
theorem D__law_levels : Def P w K mg base "_law_levels" 5 ["_law_some", "_law_table_here"] (spLevels K) := by
  obtain ⟨fd, F⟩ := C.sd.def_ 51 (d := d__law_levels) rfl
  have F : FnD K "_law_levels" "_law_levels" s__law_levels (He.ga K "_law_levels") fd := F
  exact ⟨_, fd, ok_l_levels (tx C) F (D__law_weigh C) (D__law_all C) (D__law_most_apart C), C.glo 87 rfl, F.kp, (F.bindsN fun _ _ _ _ _ _ us hl => match us, hl with | [_, _], _ => rfl)⟩
theorem D__law_sum : Def P w K mg base "_law_sum" 1 ["_law_rows"] (spSum K) := by
  obtain ⟨fd, F⟩ := C.sd.def_ 52 (d := d__law_sum) rfl
  have F : FnD K "_law_sum" "_law_sum" s__law_sum (He.ga K "_law_sum") fd := F
  exact ⟨_, fd, ok_l_sum (tx C) F, C.glo 88 rfl, F.kp, (F.bindsN fun _ _ _ _ _ _ us hl => match us, hl with | [_], _ => rfl)⟩
theorem D__law_times : Def P w K mg base "_law_times" 1 ["_law_rows", "_law_columns"] (spTimes K) := by
  obtain ⟨fd, F⟩ := C.sd.def_ 53 (d := d__law_times) rfl
  have F : FnD K "_law_times" "_law_times" s__law_times (He.ga K "_law_times") fd := F
  exact ⟨_, fd, ok_l_times (tx C) F, C.glo 89 rfl, F.kp, (F.bindsN fun _ _ _ _ _ _ us hl => match us, hl with | [_, _], _ => rfl)⟩
theorem D__law_heavier : Def P w K mg base "_law_heavier" 2 ["_law_some", "_law_table_here", "_law_level"] (spHeavier K) := by
  obtain ⟨fd, F⟩ := C.sd.def_ 55 (d := d__law_heavier) rfl
  have F : FnD K "_law_heavier" "_law_heavier" s__law_heavier (He.ga K "_law_heavier") fd := F
  exact ⟨_, fd, ok_l_heavier (tx C) F (D__law_weigh C) (D__law_all C), C.glo 91 rfl, F.kp, (F.bindsN fun _ _ _ _ _ _ us hl => match us, hl with | [_, _, _], _ => rfl)⟩
theorem D__law_range : Def P w K mg base "_law_range" 5 ["_law_some", "_law_table_here", "_law_columns"] (spRangeL K) := by
  obtain ⟨fd, F⟩ := C.sd.def_ 56 (d := d__law_range) rfl
  have F : FnD K "_law_range" "_law_range" s__law_range (He.ga K "_law_range") fd := F
  exact ⟨_, fd, ok_l_range (tx C) F (D__law_weigh C) (D__law_all C) (D__law_heavier C) (D__law_most_apart C), C.glo 92 rfl, F.kp, (F.bindsN fun _ _ _ _ _ _ us hl => match us, hl with | [_, _, _], _ => rfl)⟩
theorem D__law_is_with : Def P w K mg base "_law_is_with" 6 ["_law_some", "_law_table_here", "_law_least", "_law_columns", "_law_many", "_law_thing"] (spWith K (cAd K)) := by
  obtain ⟨fdi, OI, Bi⟩ := I_Shelf___iter__ (P := P) (w := w) (base := base) C
  obtain ⟨fdl, OL, Bl⟩ := B_Shelf___len__ (P := P) (w := w) (base := base) C
  obtain ⟨fd, F⟩ := C.sd.def_ 54 (d := d__law_is_with) rfl
  have F : FnD K "_law_is_with" "_law_is_with" s__law_is_with (He.ga K "_law_is_with") fd := F
  exact ⟨_, fd, ok_l_is_with (tx C) F (D__law_weigh C) (D__law_all_served C) (D__law_times C) OI Bi (He.meth_ok (C.sd.fact 102 rfl)) OL Bl (He.meth_ok (C.sd.fact 103 rfl)), C.glo 90 rfl, F.kp, (F.bindsN fun _ _ _ _ _ _ us hl => match us, hl with | [_, _, _, _, _, _], _ => rfl)⟩
theorem D__law_alike : DefG P w K mg base "_law_alike" 1 ["_law_found", "_law_due"] (spAlike K) := by
  obtain ⟨fd, F⟩ := C.sd.def_ 38 (d := d__law_alike) rfl
  have F : FnD K "_law_alike" "_law_alike" s__law_alike (He.ga K "_law_alike") fd := F
  exact ⟨_, fd, ok_l_alike (tx C) F, C.glo 74 rfl, F.kp, (F.bindsN fun _ _ _ _ _ _ us hl => match us, hl with | [_, _], _ => rfl)⟩
theorem law_ok : ∃ fd, (∀ (s : Shared) (u : Value), BindsTo s fd ⟨[u], []⟩ [("_law_script", u)]) ∧ ∀ base : Heap, FnG P w K mg base 58 (He.ga K "law") fd ["_law_script"] (spLaw K) := by
  obtain ⟨fd, F⟩ := C.sd.def_ 57 (d := d_law) rfl
  have F : FnD K "law" "law" s_law (He.ga K "law") fd := F
  have b := FunD.bindsA (ps := ["_law_script"]) F fun _ _ _ _ _ _ us hl => match us, hl with | [_], _ => rfl
  refine ⟨fd, fun s u => b s [u] rfl, fun base => ?_⟩
  obtain ⟨fde, OE, BE⟩ := B_Shelf___eq__ (P := P) (w := w) (base := base) C
  exact ok_law (tx C) F (D__law_bag C) (D__law_take C) (D__law_names C) (D__law_questions C) (M_Asked C) (D__law_table C) (M_Weights C) (D__law_levels C) (D__law_sum C) (D__law_mixed C) (D_least_cost C) (D__law_alike C) (D__law_all C) (D_whole_range C) (D__law_range C) (D_shelf_with C) (D__law_is_with C) (D_fewest C) OE BE (He.meth_ok (C.sd.fact 104 rfl)) C.isi.2.2.1 C.isi.2.2.2.1
end
end NkH
end
section
set_option Elab.async false
set_option linter.all false
set_option maxRecDepth 100000
set_option maxHeartbeats 0
/-! the end -/
namespace NkH
open PySem PySem.Spec PyProof.Rows L2 NkW NkR NkO NkQ NkM
theorem walk : PySem.W.WalkO (PySem.W.view R.prog [87]) loose (PySem.W.XL (PySem.W.view R.prog [87]) []) hk.says R.toRowW (HandSHeadRun.topDef R.prog 87) [] fun f vs => PySem.call f vs := by
  refine walk_ofG (l := PySem.Challenge.rw_narrowkeys_k72_whole_wholes_by_widths) (n := 63) (k := 58) (x := "_law_script") rfl (by decide) (by kernel_rfl) ⟨rfl, by decide, by decide⟩ ?F
  intro w mg fa h Y G hmg0
  obtain ⟨K, KX, c, cx⟩ := Y
  have C : Cxt K mg := ⟨⟨h, KX, G⟩, c, cx⟩
  have hmg : mg ("law" : PySem.Str) = some (.ref fa) := by
    have e : (HandSHeadRun.topDef R.prog 87).name = ("law" : PySem.Str) := by kernel_rfl
    rw [← e]
    exact hmg0
  have e2 := hmg.symm.trans (C.glo 93 rfl)
  cases e2
  obtain ⟨fd, hb, hF⟩ := law_ok (P := (PySem.Challenge.rw_narrowkeys_k72_whole_wholes_by_widths).prog) (w := w) C
  exact ⟨K, fd, spLaw K, KX, hb, fun H a ns hl _ hS => ⟨a, ns, rfl, hS, hl, fun _ => rfl⟩, fun base _ _ => hF base⟩
end NkH
open PySem PySem.W PySem.Calls PyProof.Rows
theorem PySem.Challenge.cw_narrowkeys_k72_whole_wholes_by_widths_holds : PySem.Challenge.rw_narrowkeys_k72_whole_wholes_by_widths.Holds := by
  w_on; o_law
  refine HandSHeadRun.head_any (r := OpenLaw.row PySem.Challenge.rw_narrowkeys_k72_whole_wholes_by_widths) (q := view (OpenLaw.row PySem.Challenge.rw_narrowkeys_k72_whole_wholes_by_widths).prog [87]) (H := NkH.hk) (ob := NkH.ob) (M := 20000) (loose := NkH.loose) (d := HandSHeadRun.topDef (OpenLaw.row PySem.Challenge.rw_narrowkeys_k72_whole_wholes_by_widths).prog 87) (kwd := []) NkH.ob_eq
    (by kernel_rfl) (fun s => by kernel_rfl) NkH.run (by kernel_rfl) (by kernel_rfl) (by kernel_rfl) (by rfl) (by first | assumption | decide +kernel) (by decide +kernel) ⟨rfl, rfl, rfl, rfl, rfl, by decide +kernel⟩ ?hw NkH.walk
  case hw => w_witness2
end
