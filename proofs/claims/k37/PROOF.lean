import PyProof.Rows.All
import Wide.All
import OpenK.AllK
import Wide.FinOn
import KE.KStateDown
import HandS.Base
import HandS.Call
import HandS.List
import HandS.Comp
import HandS.Ends
import HandS.Text
import HandS.Exc
import HandS.Codes
import HandS.Defaults
import HandS.Lambda
import HandS.Words
import HandS.WordsExc
import HandS.EndTab
import HandS.Head0
import HandS.Head1
import HandS.Head2
import HandS.HeadHook4
import HandS.HeadWalk
import HandS.Dict
import HandS.Iter
import HandS.WordsList
import HandS.Walk
import HandS.TupAny
import HandS.TupMul
import HandS.Style
import HandS.IsInst
import HandS.Deep
import HandS.HeadHook1
import HandS.HeadHook2
import KE.GoesEnum
import PyProof.ReprRoads
import HandS.Zip
import HandS.SortInts
import KE.GoesMore
import HandS.SetFor
import HandS.ExcSuper
import HandS.ExcInit
import HandS.ExcOwn
import HandS.ExcValue
import HandS.ExcField
import HandS.TryMany
import KE.KExcInit
import KE.KExcSuper
import HandS.Conv
import HandS.CallRecv
import PySem.Challenge.RW_cancelsback_k37_whole_all_orders_of_hand
/-! H0 -/
set_option Elab.async false
set_option linter.all false
set_option maxRecDepth 100000
set_option maxHeartbeats 0
namespace CB
open PySem PySem.Spec PyProof.Rows L2
def top (i : Nat) : Stmt := PySem.Challenge.pw_cancelsback_k37_whole_all_orders_of_hand.main.body.getD i (.Pass ⟨0, 0, 0, 0⟩)
abbrev s_is_integer : Stmt := top 7
abbrev s_is_number : Stmt := top 8
abbrev s_is_below : Stmt := top 9
abbrev s_is_string : Stmt := top 10
abbrev s_is_sequence : Stmt := top 11
abbrev s_is_letter : Stmt := top 12
abbrev s_is_text : Stmt := top 14
abbrev s_need_text : Stmt := top 15
abbrev s_need_versions : Stmt := top 16
abbrev s_shared_length : Stmt := top 17
abbrev s_tail_length : Stmt := top 18
abbrev s_need_three : Stmt := top 20
abbrev s_claimed_ends : Stmt := top 21
abbrev s_came_text : Stmt := top 22
abbrev s_merge_texts : Stmt := top 23
abbrev s_is_paper : Stmt := top 25
abbrev s_need_hands : Stmt := top 26
abbrev s_root_length : Stmt := top 27
abbrev s_leading_times : Stmt := top 28
abbrev s_block_form : Stmt := top 29
abbrev s_block_number : Stmt := top 30
abbrev s_hands_end : Stmt := top 31
abbrev s_pair_fault : Stmt := top 32
abbrev s_orders_paper : Stmt := top 33
abbrev s_is_order : Stmt := top 34
abbrev s_are_same : Stmt := top 35
abbrev s_orders_holds : Stmt := top 36
abbrev s_law_deal : Stmt := top 38
abbrev s_law_draw : Stmt := top 39
abbrev s_law_pick : Stmt := top 40
abbrev s_law_text : Stmt := top 41
abbrev s_law_merge : Stmt := top 42
abbrev s_law_is_repeat : Stmt := top 43
abbrev s_law_leading : Stmt := top 44
abbrev s_law_form : Stmt := top 45
abbrev s_law_more : Stmt := top 46
abbrev s_law_orders : Stmt := top 47
abbrev s_law_ends : Stmt := top 48
abbrev s_law_versions : Stmt := top 49
abbrev s_law_all_alike : Stmt := top 50
abbrev s_law_block : Stmt := top 51
abbrev s_law_is_clash : Stmt := top 52
abbrev s_law_is_apart : Stmt := top 53
abbrev s_law_told_right : Stmt := top 54
abbrev s_law_papers : Stmt := top 55
abbrev s_law_refused : Stmt := top 56
abbrev s_law_errors : Stmt := top 57
abbrev s_law_right : Stmt := top 58
abbrev s_law : Stmt := top 59
abbrev s_InvalidText : Stmt := inClass (top 2) 0
abbrev s_InvalidVersions : Stmt := inClass (top 3) 0
abbrev s_InvalidOrder : Stmt := inClass (top 4) 0
def d_is_integer : He.DefD := ⟨("is_integer", none), "is_integer", "is_integer", defArgs s_is_integer, defBody s_is_integer, defScope s_is_integer, [], []⟩
def d_is_number : He.DefD := ⟨("is_number", none), "is_number", "is_number", defArgs s_is_number, defBody s_is_number, defScope s_is_number, [], []⟩
def d_is_below : He.DefD := ⟨("is_below", none), "is_below", "is_below", defArgs s_is_below, defBody s_is_below, defScope s_is_below, [], []⟩
def d_is_string : He.DefD := ⟨("is_string", none), "is_string", "is_string", defArgs s_is_string, defBody s_is_string, defScope s_is_string, [], []⟩
def d_is_sequence : He.DefD := ⟨("is_sequence", none), "is_sequence", "is_sequence", defArgs s_is_sequence, defBody s_is_sequence, defScope s_is_sequence, [], []⟩
def d_is_letter : He.DefD := ⟨("is_letter", none), "is_letter", "is_letter", defArgs s_is_letter, defBody s_is_letter, defScope s_is_letter, [], []⟩
def d_is_text : He.DefD := ⟨("is_text", none), "is_text", "is_text", defArgs s_is_text, defBody s_is_text, defScope s_is_text, [], []⟩
def d_need_text : He.DefD := ⟨("need_text", none), "need_text", "need_text", defArgs s_need_text, defBody s_need_text, defScope s_need_text, [.int (-1)], []⟩
def d_need_versions : He.DefD := ⟨("need_versions", none), "need_versions", "need_versions", defArgs s_need_versions, defBody s_need_versions, defScope s_need_versions, [], []⟩
def d_shared_length : He.DefD := ⟨("shared_length", none), "shared_length", "shared_length", defArgs s_shared_length, defBody s_shared_length, defScope s_shared_length, [], []⟩
def d_tail_length : He.DefD := ⟨("tail_length", none), "tail_length", "tail_length", defArgs s_tail_length, defBody s_tail_length, defScope s_tail_length, [], []⟩
def d_need_three : He.DefD := ⟨("need_three", none), "need_three", "need_three", defArgs s_need_three, defBody s_need_three, defScope s_need_three, [], []⟩
def d_claimed_ends : He.DefD := ⟨("claimed_ends", none), "claimed_ends", "claimed_ends", defArgs s_claimed_ends, defBody s_claimed_ends, defScope s_claimed_ends, [], []⟩
def d_came_text : He.DefD := ⟨("came_text", none), "came_text", "came_text", defArgs s_came_text, defBody s_came_text, defScope s_came_text, [], []⟩
def d_merge_texts : He.DefD := ⟨("merge_texts", none), "merge_texts", "merge_texts", defArgs s_merge_texts, defBody s_merge_texts, defScope s_merge_texts, [], []⟩
def d_is_paper : He.DefD := ⟨("is_paper", none), "is_paper", "is_paper", defArgs s_is_paper, defBody s_is_paper, defScope s_is_paper, [], []⟩
def d_need_hands : He.DefD := ⟨("need_hands", none), "need_hands", "need_hands", defArgs s_need_hands, defBody s_need_hands, defScope s_need_hands, [], []⟩
def d_root_length : He.DefD := ⟨("root_length", none), "root_length", "root_length", defArgs s_root_length, defBody s_root_length, defScope s_root_length, [], []⟩
def d_leading_times : He.DefD := ⟨("leading_times", none), "leading_times", "leading_times", defArgs s_leading_times, defBody s_leading_times, defScope s_leading_times, [], []⟩
def d_block_form : He.DefD := ⟨("block_form", none), "block_form", "block_form", defArgs s_block_form, defBody s_block_form, defScope s_block_form, [], []⟩
def d_block_number : He.DefD := ⟨("block_number", none), "block_number", "block_number", defArgs s_block_number, defBody s_block_number, defScope s_block_number, [], []⟩
def d_hands_end : He.DefD := ⟨("hands_end", none), "hands_end", "hands_end", defArgs s_hands_end, defBody s_hands_end, defScope s_hands_end, [], []⟩
def d_pair_fault : He.DefD := ⟨("pair_fault", none), "pair_fault", "pair_fault", defArgs s_pair_fault, defBody s_pair_fault, defScope s_pair_fault, [], []⟩
def d_orders_paper : He.DefD := ⟨("orders_paper", none), "orders_paper", "orders_paper", defArgs s_orders_paper, defBody s_orders_paper, defScope s_orders_paper, [], []⟩
def d_is_order : He.DefD := ⟨("is_order", none), "is_order", "is_order", defArgs s_is_order, defBody s_is_order, defScope s_is_order, [], []⟩
def d_are_same : He.DefD := ⟨("are_same", none), "are_same", "are_same", defArgs s_are_same, defBody s_are_same, defScope s_are_same, [], []⟩
def d_orders_holds : He.DefD := ⟨("orders_holds", none), "orders_holds", "orders_holds", defArgs s_orders_holds, defBody s_orders_holds, defScope s_orders_holds, [], []⟩
def d_law_deal : He.DefD := ⟨("_law_deal", none), "_law_deal", "_law_deal", defArgs s_law_deal, defBody s_law_deal, defScope s_law_deal, [], []⟩
def d_law_draw : He.DefD := ⟨("_law_draw", none), "_law_draw", "_law_draw", defArgs s_law_draw, defBody s_law_draw, defScope s_law_draw, [], []⟩
def d_law_pick : He.DefD := ⟨("_law_pick", none), "_law_pick", "_law_pick", defArgs s_law_pick, defBody s_law_pick, defScope s_law_pick, [], []⟩
def d_law_text : He.DefD := ⟨("_law_text", none), "_law_text", "_law_text", defArgs s_law_text, defBody s_law_text, defScope s_law_text, [], []⟩
def d_law_merge : He.DefD := ⟨("_law_merge", none), "_law_merge", "_law_merge", defArgs s_law_merge, defBody s_law_merge, defScope s_law_merge, [], []⟩
def d_law_is_repeat : He.DefD := ⟨("_law_is_repeat", none), "_law_is_repeat", "_law_is_repeat", defArgs s_law_is_repeat, defBody s_law_is_repeat, defScope s_law_is_repeat, [], []⟩
def d_law_leading : He.DefD := ⟨("_law_leading", none), "_law_leading", "_law_leading", defArgs s_law_leading, defBody s_law_leading, defScope s_law_leading, [], []⟩
def d_law_form : He.DefD := ⟨("_law_form", none), "_law_form", "_law_form", defArgs s_law_form, defBody s_law_form, defScope s_law_form, [], []⟩
def d_law_more : He.DefD := ⟨("_law_more", none), "_law_more", "_law_more", defArgs s_law_more, defBody s_law_more, defScope s_law_more, [], []⟩
def d_law_orders : He.DefD := ⟨("_law_orders", none), "_law_orders", "_law_orders", defArgs s_law_orders, defBody s_law_orders, defScope s_law_orders, [], []⟩
def d_law_ends : He.DefD := ⟨("_law_ends", none), "_law_ends", "_law_ends", defArgs s_law_ends, defBody s_law_ends, defScope s_law_ends, [], []⟩
def d_law_versions : He.DefD := ⟨("_law_versions", none), "_law_versions", "_law_versions", defArgs s_law_versions, defBody s_law_versions, defScope s_law_versions, [], []⟩
def d_law_all_alike : He.DefD := ⟨("_law_all_alike", none), "_law_all_alike", "_law_all_alike", defArgs s_law_all_alike, defBody s_law_all_alike, defScope s_law_all_alike, [], []⟩
def d_law_block : He.DefD := ⟨("_law_block", none), "_law_block", "_law_block", defArgs s_law_block, defBody s_law_block, defScope s_law_block, [], []⟩
def d_law_is_clash : He.DefD := ⟨("_law_is_clash", none), "_law_is_clash", "_law_is_clash", defArgs s_law_is_clash, defBody s_law_is_clash, defScope s_law_is_clash, [], []⟩
def d_law_is_apart : He.DefD := ⟨("_law_is_apart", none), "_law_is_apart", "_law_is_apart", defArgs s_law_is_apart, defBody s_law_is_apart, defScope s_law_is_apart, [], []⟩
def d_law_told_right : He.DefD := ⟨("_law_told_right", none), "_law_told_right", "_law_told_right", defArgs s_law_told_right, defBody s_law_told_right, defScope s_law_told_right, [], []⟩
def d_law_papers : He.DefD := ⟨("_law_papers", none), "_law_papers", "_law_papers", defArgs s_law_papers, defBody s_law_papers, defScope s_law_papers, [], []⟩
def d_law_refused : He.DefD := ⟨("_law_refused", none), "_law_refused", "_law_refused", defArgs s_law_refused, defBody s_law_refused, defScope s_law_refused, [], []⟩
def d_law_errors : He.DefD := ⟨("_law_errors", none), "_law_errors", "_law_errors", defArgs s_law_errors, defBody s_law_errors, defScope s_law_errors, [], []⟩
def d_law_right : He.DefD := ⟨("_law_right", none), "_law_right", "_law_right", defArgs s_law_right, defBody s_law_right, defScope s_law_right, [], []⟩
def d_law : He.DefD := ⟨("law", none), "law", "law", defArgs s_law, defBody s_law, defScope s_law, [], []⟩
def fnA : List He.DefD := [d_is_integer, d_is_number, d_is_below, d_is_string, d_is_sequence, d_is_letter, d_is_text, d_need_text, d_need_versions, d_shared_length, d_tail_length, d_need_three, d_claimed_ends, d_came_text, d_merge_texts, d_is_paper, d_need_hands, d_root_length, d_leading_times, d_block_form, d_block_number, d_hands_end, d_pair_fault, d_orders_paper, d_is_order, d_are_same, d_orders_holds, d_law_deal, d_law_draw, d_law_pick]
def fnB : List He.DefD := [d_law_text, d_law_merge, d_law_is_repeat, d_law_leading, d_law_form, d_law_more, d_law_orders, d_law_ends, d_law_versions, d_law_all_alike, d_law_block, d_law_is_clash, d_law_is_apart, d_law_told_right, d_law_papers, d_law_refused, d_law_errors, d_law_right, d_law]
def fn : List He.DefD := fnA ++ fnB
def faA : List He.Fa := [.glo "MergeError", .glo "InvalidText", .glo "InvalidVersions", .glo "InvalidOrder", .glo "is_integer", .glo "is_number", .glo "is_below", .glo "is_string", .glo "is_sequence", .glo "is_letter", .glo "is_text", .glo "need_text", .glo "need_versions", .glo "shared_length", .glo "tail_length", .glo "need_three", .glo "claimed_ends", .glo "came_text", .glo "merge_texts", .glo "is_paper", .glo "need_hands", .glo "root_length", .glo "leading_times", .glo "block_form", .glo "block_number", .glo "hands_end", .glo "pair_fault", .glo "orders_paper", .glo "is_order", .glo "are_same"]
def faB : List He.Fa := [.glo "orders_holds", .glo "_law_deal", .glo "_law_draw", .glo "_law_pick", .glo "_law_text", .glo "_law_merge", .glo "_law_is_repeat", .glo "_law_leading", .glo "_law_form", .glo "_law_more", .glo "_law_orders", .glo "_law_ends", .glo "_law_versions", .glo "_law_all_alike", .glo "_law_block", .glo "_law_is_clash", .glo "_law_is_apart", .glo "_law_told_right", .glo "_law_papers", .glo "_law_refused", .glo "_law_errors", .glo "_law_right", .glo "law"]
def faC : List He.Fa := [.int "MANY_LETTERS" 100, .free "isinstance", .free "int", .free "bool", .free "str", .free "list", .free "tuple", .free "all", .free "len", .free "enumerate", .free "zip", .free "min", .free "range", .free "set", .free "sorted", .free "abs", .free "max", .free "sum", .free "repr", .free "super"]
def fa : List He.Fa := faA ++ (faB ++ faC)
def tf : List He.Defn := [("_law_errors", none)]
def ex (K : PySem.W.Frag) : Bool := true
abbrev R : PySem.W.OpenRow := PySem.W.OpenLaw.row PySem.Challenge.rw_cancelsback_k37_whole_all_orders_of_hand
def looseA : List Str := ["MergeError", "InvalidText", "InvalidVersions", "InvalidOrder", "MANY_LETTERS", "is_integer", "is_number", "is_below", "is_string", "is_sequence", "is_letter", "is_text", "need_text", "need_versions", "shared_length", "tail_length", "need_three", "claimed_ends", "came_text", "merge_texts", "is_paper", "need_hands", "root_length", "leading_times", "block_form", "block_number", "hands_end", "pair_fault", "orders_paper", "is_order"]
def looseB : List Str := ["are_same", "orders_holds", "_law_deal", "_law_draw", "_law_pick", "_law_text", "_law_merge", "_law_is_repeat", "_law_leading", "_law_form", "_law_more", "_law_orders", "_law_ends", "_law_versions", "_law_all_alike", "_law_block", "_law_is_clash", "_law_is_apart", "_law_told_right", "_law_papers", "_law_refused", "_law_errors", "_law_right"]
def loose : List Str := looseA ++ looseB
end CB

/-! D1 -/
set_option Elab.async false
set_option linter.all false
set_option maxRecDepth 100000
set_option maxHeartbeats 4000000
/-! Evaluation at the level of data. -/
namespace CB
open PySem PySem.Spec PyProof.Rows L2

abbrev Fg := PySem.W.Frag
abbrev D := PyData

/-! ### hidden addresses -/
def hide (M : List Addr) (H : Hp) : Hp := fun a => if a ∈ M then none else H a
theorem hide_in {M : List Addr} {H : Hp} {a : Addr} (n : a ∉ M) : hide M H a = H a := if_neg n
theorem hide_of {M : List Addr} {H : Hp} {a : Addr} {o : HO} (h : hide M H a = some o) : H a = some o ∧ a ∉ M := by
  unfold hide at h
  by_cases e : a ∈ M
  · rw [if_pos e] at h; cases h
  · rw [if_neg e] at h; exact ⟨h, e⟩
theorem hide_nil {H : Hp} : hide [] H = H := by
  funext a; exact if_neg (by simp)
theorem hide_le {M : List Addr} {H : Hp} : Same (hide M H) H := fun _ _ h => (hide_of h).1
theorem hsame {M : List Addr} {H H' : Hp} (e : Same H H') : Same (hide M H) (hide M H') := fun a o h => by
  obtain ⟨h1, h2⟩ := hide_of h
  rw [hide_in h2]; exact e a o h1
theorem same_new {H : Hp} {p : Addr} {o : HO} (h : H p = none) : Same H (upd H p o) := fun a u e => by
  rw [upd_ne (ne_of_none e h)]; exact e
/-- what is hidden is there -/
def Trk (M : List Addr) (H : Hp) : Prop := ∀ m ∈ M, ∃ o, H m = some o ∧ ∀ xs, o ≠ .tup xs
theorem Trk.nil {H : Hp} : Trk [] H := fun _ h => by cases h
theorem Trk.mono {M : List Addr} {H H' : Hp} (t : Trk M H) (e : Same H H') : Trk M H' := fun m hm => let ⟨o, q, n⟩ := t m hm; ⟨o, e m o q, n⟩
theorem Trk.ne {M : List Addr} {H : Hp} {p : Addr} (t : Trk M H) (h : H p = none) : p ∉ M := fun hm => by
  obtain ⟨o, q, _⟩ := t p hm
  rw [h] at q; cases q
theorem Trk.tup {M : List Addr} {H : Hp} {p : Addr} {xs : List V} (t : Trk M H) (h : H p = some (.tup xs)) : hide M H p = some (.tup xs) := (hide_in fun hm => by
  obtain ⟨o, q, n⟩ := t p hm
  rw [h] at q
  cases q
  exact n _ rfl).trans h
theorem Trk.at {M : List Addr} {H : Hp} {p : Addr} {o : HO} (t : Trk M H) (h : H p = none) {H' : Hp} (q : H' p = some o) : hide M H' p = some o := (hide_in (t.ne h)).trans q
theorem Trk.upd {M : List Addr} {H : Hp} {p : Addr} {o : HO} (t : Trk M H) (h : H p = none) : hide M (L2.upd H p o) p = some o := t.at h upd_same

/-! ### data -/
theorem seqT {K : Fg} {H H' : Hp} {a : Addr} {xs : List V} (e : Same H H') (h : SqT K H a xs) : SqT K H' a xs := by
  rcases h with (h | ⟨o, h⟩) | h
  · exact .inl (.inl (e _ _ h))
  · exact .inl (.inr ⟨o, e _ _ h⟩)
  · exact .inr h
end CB
namespace L2
open PySem
mutual
inductive Dq (K : PySem.W.Frag) (H : Hp) : V → PyData → Prop
  | non : Dq K H .non .none
  | bl (b : Bool) : Dq K H (.bl b) (.bool b)
  | int (i : Int) : Dq K H (.int i) (.int i)
  | str (x : Str) : Dq K H (.str x) (.str x)
  | lst {a : Addr} {xs : List V} {ds : List PyData} : H a = some (.lst xs) → DqAll K H xs ds → Dq K H (.ref a) (.list ds)
  | tup {a : Addr} {xs : List V} {ds : List PyData} : H a = some (.tup xs) → DqAll K H xs ds → Dq K H (.ref a) (.tuple ds)
  | dic {a : Addr} {kvs : List (List Key × V)} {es : List (PyData × PyData)} : H a = some (.dT kvs) → DqKv K H kvs es → Dq K H (.ref a) (.dict es)
  | dcl {a : Addr} {o : Obj} {kvs : List (List Key × V)} {es : List (PyData × PyData)} : H a = some (.frz o (.dT kvs)) → DqKv K H kvs es → Dq K H (.ref a) (.dict ((.none, .none) :: es))
inductive DqAll (K : PySem.W.Frag) (H : Hp) : List V → List PyData → Prop
  | nil : DqAll K H [] []
  | cons {v : V} {vs : List V} {d : PyData} {ds : List PyData} : Dq K H v d → DqAll K H vs ds → DqAll K H (v :: vs) (d :: ds)
inductive DqKv (K : PySem.W.Frag) (H : Hp) : List (List Key × V) → List (PyData × PyData) → Prop
  | nil : DqKv K H [] []
  | cons {ns : List Int} {v : V} {k d : PyData} {kvs : List (List Key × V)} {es : List (PyData × PyData)} : k = .tuple (ns.map PyData.int) → Dq K H v d → DqKv K H kvs es → DqKv K H ((ns.map Sum.inl, v) :: kvs) ((k, d) :: es)
end
end L2
namespace CB
open PySem PySem.Spec PyProof.Rows L2
mutual
theorem dpm {K : Fg} {H H' : Hp} (e : Same H H') : ∀ (d : D) {v : V}, Dq K H v d → Dq K H' v d
  | .none, _, h => by cases h; exact .non
  | .bool b, _, h => by cases h; exact .bl b
  | .int i, _, h => by cases h; exact .int i
  | .str x, _, h => by cases h; exact .str x
  | .list ds, _, h => by
    cases h with
    | lst hs ha => exact .lst (e _ _ hs) (dpam e ds ha)
  | .tuple ds, _, h => by
    cases h with
    | tup hs ha => exact .tup (e _ _ hs) (dpam e ds ha)
  | .dict es, _, h => by
    cases h with
    | dic hs ha => exact .dic (e _ _ hs) (dpkm e es ha)
    | dcl hs ha => exact .dcl (e _ _ hs) (dpkm e _ ha)
theorem dpam {K : Fg} {H H' : Hp} (e : Same H H') : ∀ (ds : List D) {vs : List V}, DqAll K H vs ds → DqAll K H' vs ds
  | [], _, h => by cases h; exact .nil
  | d :: ds, _, h => by
    cases h with
    | cons h1 h2 => exact .cons (dpm e d h1) (dpam e ds h2)
theorem dpkm {K : Fg} {H H' : Hp} (e : Same H H') : ∀ (es : List (D × D)) {kvs : List (List Key × V)}, DqKv K H kvs es → DqKv K H' kvs es
  | [], _, h => by cases h; exact .nil
  | (k, d) :: es, _, h => by
    cases h with
    | cons h0 h1 h2 => exact .cons h0 (dpm e d h1) (dpkm e es h2)
end
/-- no dict in it: the kit's relation -/
theorem ndp {K : Fg} {H : Hp} : ∀ (d : D) {v : V}, d.canLay0 = true → Dq K H v d → Dp K H v d
  | .none, _, _, h => by cases h; exact .non
  | .bool b, _, _, h => by cases h; exact .bl b
  | .int i, _, _, h => by cases h; exact .int i
  | .str x, _, _, h => by cases h; exact .str x
  | .list ds, _, hc, h => by
    cases h with
    | lst hs ha => exact .lst (SqL.of hs) (ndpa ds (by simpa [PyData.canLay0] using hc) ha)
  | .tuple ds, _, hc, h => by
    cases h with
    | tup hs ha => exact .tup (SqT.of hs) (ndpa ds (by simpa [PyData.canLay0] using hc) ha)
  | .dict _, _, hc, _ => by simp [PyData.canLay0] at hc
where ndpa {K : Fg} {H : Hp} : ∀ (ds : List D) {vs : List V}, PyData.canLayAll0 ds = true → DqAll K H vs ds → DpAll K H vs ds
  | [], _, _, h => by cases h; exact .nil
  | d :: ds, _, hc, h => by
    simp only [PyData.canLayAll0, Bool.and_eq_true] at hc
    cases h with
    | cons h1 h2 => exact .cons (ndp d hc.1 h1) (ndpa ds hc.2 h2)
theorem shd {K : Fg} {H : Hp} {d : D} {v : V} (hs : SeqAt.shaped d = true) (h : Dq K H v d) : Dp K H v d := ndp d (by
  unfold SeqAt.shaped at hs
  rw [Bool.and_eq_true] at hs
  exact hs.1) h
end CB
namespace L2
open PySem CB
theorem Dq.mono' {K : Fg} {H H' : Hp} {v : V} {d : D} (h : Dq K H v d) (e : Same H H') : Dq K H' v d := dpm e d h
theorem DqAll.mono' {K : Fg} {H H' : Hp} {v : List V} {d : List D} (h : DqAll K H v d) (e : Same H H') : DqAll K H' v d := dpam e d h
section
variable {K : Fg} {H : Hp}
theorem DqAll.len : ∀ {vs : List V} {ds : List D}, DqAll K H vs ds → vs.length = ds.length
  | _, _, .nil => rfl
  | _, _, .cons _ t => by simp [DqAll.len t]
theorem DqAll.app : ∀ {vs ws : List V} {ds es : List D}, DqAll K H vs ds → DqAll K H ws es → DqAll K H (vs ++ ws) (ds ++ es)
  | _, _, _, _, .nil, s => s
  | _, _, _, _, .cons r t, s => .cons r (DqAll.app t s)
theorem DqAll.take' : ∀ {vs : List V} {ds : List D} (n : Nat), DqAll K H vs ds → DqAll K H (vs.take n) (ds.take n)
  | _, _, 0, _ => .nil
  | _, _, _ + 1, .nil => .nil
  | _, _, n + 1, .cons r t => .cons r (DqAll.take' n t)
theorem DqAll.drop' : ∀ {vs : List V} {ds : List D} (n : Nat), DqAll K H vs ds → DqAll K H (vs.drop n) (ds.drop n)
  | _, _, 0, r => r
  | _, _, _ + 1, .nil => .nil
  | _, _, n + 1, .cons _ t => DqAll.drop' n t
theorem DqAll.rev : ∀ {vs : List V} {ds : List D}, DqAll K H vs ds → DqAll K H vs.reverse ds.reverse
  | _, _, .nil => .nil
  | _, _, .cons r t => by
    rw [List.reverse_cons, List.reverse_cons]
    exact DqAll.app (DqAll.rev t) (.cons r .nil)
theorem DqAll.get : ∀ {vs : List V} {ds : List D} {i : Nat} {d : D}, DqAll K H vs ds → ds[i]? = some d → ∃ v, vs[i]? = some v ∧ Dq K H v d
  | _, _, _, _, .nil, e => by simp at e
  | _, _, 0, d, .cons r _, e => by simp at e; subst e; exact ⟨_, rfl, r⟩
  | _, _, i + 1, d, .cons _ t, e => by
    obtain ⟨v, h1, h2⟩ := DqAll.get (i := i) (d := d) t (by simpa using e)
    exact ⟨v, by simpa using h1, h2⟩
theorem DqAll.getV : ∀ {vs : List V} {ds : List D} {i : Nat} {v : V}, DqAll K H vs ds → vs[i]? = some v → ∃ d, ds[i]? = some d ∧ Dq K H v d
  | _, _, _, _, .nil, e => by simp at e
  | _, _, 0, d, .cons r _, e => by simp at e; subst e; exact ⟨_, rfl, r⟩
  | _, _, i + 1, d, .cons _ t, e => by
    obtain ⟨v, h1, h2⟩ := DqAll.getV (i := i) (v := d) t (by simpa using e)
    exact ⟨v, by simpa using h1, h2⟩
theorem DqAll.rep {vs : List V} {ds : List D} (h : DqAll K H vs ds) : ∀ k : Nat, DqAll K H (List.replicate k vs).flatten (List.replicate k ds).flatten
  | 0 => .nil
  | k + 1 => by
    rw [List.replicate_succ, List.replicate_succ, List.flatten_cons, List.flatten_cons]
    exact DqAll.app h (DqAll.rep h k)
theorem DqAll.ints : ∀ ns : List Int, DqAll K H (ns.map V.int) (ns.map PyData.int)
  | [] => .nil
  | n :: ns => .cons (.int n) (DqAll.ints ns)
theorem DqAll.bls : ∀ ns : List Bool, DqAll K H (ns.map V.bl) (ns.map PyData.bool)
  | [] => .nil
  | n :: ns => .cons (.bl n) (DqAll.bls ns)
theorem DqAll.of_ints : ∀ {ns : List Int} {vs : List V}, DqAll K H vs (ns.map PyData.int) → vs = ns.map V.int
  | [], _, h => by cases h; rfl
  | n :: ns, _, h => by
    cases h with
    | cons h1 h2 => cases h1; rw [DqAll.of_ints h2]; rfl
theorem DqAll.of_bls : ∀ {ns : List Bool} {vs : List V}, DqAll K H vs (ns.map PyData.bool) → vs = ns.map V.bl
  | [], _, h => by cases h; rfl
  | n :: ns, _, h => by
    cases h with
    | cons h1 h2 => cases h1; rw [DqAll.of_bls h2]; rfl
theorem Dq.tupI {v : V} {ds : List D} (h : Dq K H v (.tuple ds)) : ∃ a xs, v = .ref a ∧ SqT K H a xs ∧ DqAll K H xs ds := by
  cases h with
  | tup hs ha => exact ⟨_, _, rfl, SqT.of hs, ha⟩
theorem Dq.tupS {v : V} {ds : List D} (h : Dq K H v (.tuple ds)) : ∃ a xs, v = .ref a ∧ H a = some (.tup xs) ∧ DqAll K H xs ds := by
  cases h with
  | tup hs ha => exact ⟨_, _, rfl, hs, ha⟩
theorem Dq.dicI {v : V} {es : List (D × D)} (h : Dq K H v (.dict es)) : (∃ a kvs, v = .ref a ∧ H a = some (.dT kvs) ∧ DqKv K H kvs es) ∨ ∃ es', es = (.none, .none) :: es' ∧ ∃ a o kvs, v = .ref a ∧ H a = some (.frz o (.dT kvs)) ∧ DqKv K H kvs es' := by
  cases h with
  | dic hs ha => exact .inl ⟨_, _, rfl, hs, ha⟩
  | dcl hs ha => exact .inr ⟨_, rfl, _, _, _, rfl, hs, ha⟩
theorem Dq.lstI {v : V} {ds : List D} (h : Dq K H v (.list ds)) : ∃ a xs, v = .ref a ∧ SqL K H a xs ∧ DqAll K H xs ds := by
  cases h with
  | lst hs ha => exact ⟨_, _, rfl, SqL.of hs, ha⟩
theorem Dq.lstS {v : V} {ds : List D} (h : Dq K H v (.list ds)) : ∃ a xs, v = .ref a ∧ H a = some (.lst xs) ∧ DqAll K H xs ds := by
  cases h with
  | lst hs ha => exact ⟨_, _, rfl, hs, ha⟩
theorem Dq.intI {v : V} {i : Int} (h : Dq K H v (.int i)) : v = .int i := by cases h; rfl
theorem Dq.blI {v : V} {i : Bool} (h : Dq K H v (.bool i)) : v = .bl i := by cases h; rfl
theorem Dq.strI {v : V} {i : Str} (h : Dq K H v (.str i)) : v = .str i := by cases h; rfl
theorem Dq.nonI {v : V} (h : Dq K H v .none) : v = .non := by cases h; rfl
theorem Dq.non_iff {v : V} {d : D} (h : Dq K H v d) : (v = .non) ↔ (d = .none) := by
  cases h <;> simp
end

end L2
namespace CB
open PySem PySem.Spec PyProof.Rows L2
/-! ### the slots -/
inductive Sl where
  | un | dat (d : D) | ref (a : Addr)
def SlOk (K : Fg) (G : Hp) : Option V → Sl → Prop
  | _, .un => True
  | some v, .dat d => Dq K G v d
  | some v, .ref a => v = .ref a
  | none, _ => False
abbrev EnvD (K : Fg) (G : Hp) (σ : L2.St) (Γ : List Sl) : Prop := Paired (SlOk K G) σ Γ
theorem SlOk.mono {K : Fg} {G G' : Hp} (e : Same G G') : ∀ {o : Option V} {s : Sl}, SlOk K G o s → SlOk K G' o s
  | some v, .un, _ => trivial
  | none, .un, _ => trivial
  | some v, .dat d, h => Dq.mono' (show Dq K G v d from h) e
  | some v, .ref a, h => h
  | none, .dat _, h => h
  | none, .ref _, h => h
theorem EnvD.mono {K : Fg} {G G' : Hp} {σ : L2.St} {Γ : List Sl} (h : EnvD K G σ Γ) (e : Same G G') : EnvD K G' σ Γ := Paired.mono (fun _ _ q => SlOk.mono e q) h
theorem envd_get {K : Fg} {G : Hp} : ∀ {σ : L2.St} {Γ : List Sl} {i : Nat} {s : Sl}, EnvD K G σ Γ → Γ[i]? = some s → ∃ o, σ[i]? = some o ∧ SlOk K G o s
  | _, _, _, _, .nil, e => by simp at e
  | _, _, 0, s, .cons r _, e => by simp at e; subst e; exact ⟨_, rfl, r⟩
  | _, _, i + 1, s, .cons _ t, e => by
    obtain ⟨v, h1, h2⟩ := envd_get (i := i) (s := s) t (by simpa using e)
    exact ⟨v, by simpa using h1, h2⟩
theorem envd_dat {K : Fg} {G : Hp} {σ : L2.St} {Γ : List Sl} {i : Nat} {d : D} (h : EnvD K G σ Γ) (e : Γ[i]? = some (.dat d)) : ∃ v, σ[i]? = some (some v) ∧ Dq K G v d := by
  obtain ⟨o, h1, h2⟩ := envd_get h e
  cases o with
  | none => exact (show False from h2).elim
  | some v => exact ⟨v, h1, h2⟩
theorem envd_ref {K : Fg} {G : Hp} {σ : L2.St} {Γ : List Sl} {i : Nat} {a : Addr} (h : EnvD K G σ Γ) (e : Γ[i]? = some (.ref a)) : σ[i]? = some (some (.ref a)) := by
  obtain ⟨o, h1, h2⟩ := envd_get h e
  cases o with
  | none => exact (show False from h2).elim
  | some v =>
    have z : v = .ref a := h2
    rw [z] at h1; exact h1
theorem envd_set {K : Fg} {G : Hp} {o : Option V} {s : Sl} (r : SlOk K G o s) : ∀ {σ : L2.St} {Γ : List Sl} (i : Nat), EnvD K G σ Γ → EnvD K G (σ.set i o) (Γ.set i s)
  | _, _, _, .nil => .nil
  | _, _, 0, .cons _ t => .cons r t
  | _, _, i + 1, .cons q t => .cons q (envd_set r i t)
def wipeG (Γ : List Sl) : List Nat → List Sl
  | [] => Γ
  | v :: vs => (wipeG Γ vs).set v .un
theorem envd_wipe {K : Fg} {G : Hp} {σ : L2.St} {Γ : List Sl} (h : EnvD K G σ Γ) : ∀ vs : List Nat, EnvD K G (wipe σ vs) (wipeG Γ vs)
  | [] => h
  | v :: vs => envd_set (o := none) (s := .un) trivial v (envd_wipe h vs)
theorem envd_start {K : Fg} {G : Hp} : ∀ {vs : List V} {ds : List D} {n : Nat}, DqAll K G vs ds → EnvD K G (vs.map some ++ List.replicate n none) (ds.map Sl.dat ++ List.replicate n Sl.un)
  | _, _, 0, .nil => .nil
  | _, _, n + 1, .nil => .cons trivial (envd_start (n := n) .nil)
  | _, _, n, .cons r t => .cons r (envd_start t)

/-! ### evaluation -/
def EvD (K : Fg) (te : TE) (Γ : List Sl) (d : D) : Prop := ∀ (M : List Addr) (σ : L2.St) (H : Hp), Trk M H → EnvD K (hide M H) σ Γ → ∀ Q : VK, (∀ v H', Same H H' → Dq K (hide M H') v d → Q v H') → te σ H Q
def EvT (K : Fg) (tt : TT) (Γ : List Sl) (b : Bool) : Prop := ∀ (M : List Addr) (σ : L2.St) (H : Hp), Trk M H → EnvD K (hide M H) σ Γ → ∀ Q : Bool → Hp → Prop, (∀ H', Same H H' → Q b H') → tt σ H Q
def EvA (K : Fg) (ta : TA) (Γ : List Sl) (ds : List D) : Prop := ∀ (M : List Addr) (σ : L2.St) (H : Hp), Trk M H → EnvD K (hide M H) σ Γ → ∀ Q : List V → Hp → Prop, (∀ vs H', Same H H' → DqAll K (hide M H') vs ds → Q vs H') → ta σ H Q
def EvO (K : Fg) (to : TO) (Γ : List Sl) (o : Option Int) : Prop := ∀ (M : List Addr) (σ : L2.St) (H : Hp), Trk M H → EnvD K (hide M H) σ Γ → ∀ Q : Option Int → Hp → Prop, (∀ H', Same H H' → Q o H') → to σ H Q
def ROp (K : Fg) (r : R2) (a b d : D) : Prop := ∀ (M : List Addr) (H : Hp) (x y : V), Trk M H → Dq K (hide M H) x a → Dq K (hide M H) y b → ∀ Q : VK, (∀ v H', Same H H' → Dq K (hide M H') v d → Q v H') → r x y H Q
def RUn (K : Fg) (r : V → Hp → VK → Prop) (a d : D) : Prop := ∀ (M : List Addr) (H : Hp) (x : V), Trk M H → Dq K (hide M H) x a → ∀ Q : VK, (∀ v H', Same H H' → Dq K (hide M H') v d → Q v H') → r x H Q
def RCa (K : Fg) (r : List V → Hp → VK → Prop) (as : List D) (d : D) : Prop := ∀ (M : List Addr) (H : Hp) (xs : List V), Trk M H → DqAll K (hide M H) xs as → ∀ Q : VK, (∀ v H', Same H H' → Dq K (hide M H') v d → Q v H') → r xs H Q
def RSl (K : Fg) (r : V → Option Int → Option Int → Hp → VK → Prop) (a : D) (lo hi : Option Int) (d : D) : Prop := ∀ (M : List Addr) (H : Hp) (x : V), Trk M H → Dq K (hide M H) x a → ∀ Q : VK, (∀ v H', Same H H' → Dq K (hide M H') v d → Q v H') → r x lo hi H Q

section
variable {K : Fg} {Γ : List Sl} {ta tb te tc : TE} {t u : TT} {r r' : R2} {a b d : D}
theorem evd_var {i : Nat} (h : Γ[i]? = some (.dat d)) : EvD K (tVar i) Γ d := fun M σ H _ e Q q => by
  obtain ⟨v, h1, h2⟩ := envd_dat e h
  exact ⟨v, h1, q v H (Same.refl H) h2⟩
theorem evd_int {i : Int} : EvD K (tC (.int i)) Γ (.int i) := fun M σ H _ _ Q q => q _ H (Same.refl H) (.int i)
theorem evd_bl {i : Bool} : EvD K (tC (.bl i)) Γ (.bool i) := fun M σ H _ _ Q q => q _ H (Same.refl H) (.bl i)
theorem evd_str {i : Str} : EvD K (tC (.str i)) Γ (.str i) := fun M σ H _ _ Q q => q _ H (Same.refl H) (.str i)
theorem evd_non : EvD K (tC .non) Γ .none := fun M σ H _ _ Q q => q _ H (Same.refl H) .non
theorem evd_is {d' : D} (h : EvD K te Γ d) (e : d = d') : EvD K te Γ d' := e ▸ h
theorem evt_is {b b' : Bool} (h : EvT K t Γ b) (e : b = b') : EvT K t Γ b' := e ▸ h
theorem evd_op (ha : EvD K ta Γ a) (hb : EvD K tb Γ b) (hr : ROp K r a b d) : EvD K (tOp r ta tb) Γ d := fun M σ H T E Q q =>
  ha M σ H T E _ fun x H1 e1 d1 => hb M σ H1 (T.mono e1) (E.mono (hsame e1)) _ fun y H2 e2 d2 =>
    hr M H2 x y ((T.mono e1).mono e2) (d1.mono' (hsame e2)) d2 Q fun v H3 e3 d3 => q v H3 ((e1.trans e2).trans e3) d3
theorem evd_un {r : V → Hp → VK → Prop} (ha : EvD K ta Γ a) (hr : RUn K r a d) : EvD K (tUn r ta) Γ d := fun M σ H T E Q q =>
  ha M σ H T E _ fun x H1 e1 d1 => hr M H1 x (T.mono e1) d1 Q fun v H3 e3 d3 => q v H3 (e1.trans e3) d3
theorem eva_nil : EvA K tNil Γ [] := fun M σ H T E Q q => q [] H (Same.refl H) .nil
theorem eva_cons {tr : TA} {ds : List D} (ha : EvD K ta Γ a) (hr : EvA K tr Γ ds) : EvA K (tCons ta tr) Γ (a :: ds) := fun M σ H T E Q q =>
  ha M σ H T E _ fun x H1 e1 d1 => hr M σ H1 (T.mono e1) (E.mono (hsame e1)) _ fun xs H2 e2 d2 => q _ H2 (e1.trans e2) (.cons (d1.mono' (hsame e2)) d2)
theorem evd_cb {rc : List V → Hp → VK → Prop} {tr : TA} {ds : List D} (ha : EvA K tr Γ ds) (hr : RCa K rc ds d) : EvD K (tCB rc tr) Γ d := fun M σ H T E Q q =>
  ha M σ H T E _ fun x H1 e1 d1 => hr M H1 x (T.mono e1) d1 Q fun v H3 e3 d3 => q v H3 (e1.trans e3) d3
theorem evd_tup {tr : TA} {ds : List D} (ha : EvA K tr Γ ds) (hz : ds.length ≤ 100000 := by first | decide | (simp only [List.length_cons, List.length_nil]; decide)) : EvD K (tTup tr) Γ (.tuple ds) := fun M σ H T E Q q =>
  ha M σ H T E _ fun xs H1 e1 d1 => ⟨Nat.le_trans (by rw [DqAll.len d1]; exact hz) (by decide), fun p hp => q _ _ (e1.trans (same_new hp)) (.tup (((T.mono e1).upd hp)) (d1.mono' (hsame (same_new hp))))⟩
theorem evd_lst {tr : TA} {ds : List D} (ha : EvA K tr Γ ds) (hz : ds.length ≤ 100000 := by first | decide | (simp only [List.length_cons, List.length_nil]; decide)) : EvD K (tLst tr) Γ (.list ds) := fun M σ H T E Q q =>
  ha M σ H T E _ fun xs H1 e1 d1 => ⟨Nat.le_trans (by rw [DqAll.len d1]; exact hz) (by decide), fun p hp => q _ _ (e1.trans (same_new hp)) (.lst (((T.mono e1).upd hp)) (d1.mono' (hsame (same_new hp))))⟩
/-! tests -/
theorem evt_test {b : Bool} (h : EvD K te Γ (.bool b)) : EvT K (tTest te) Γ b := fun M σ H T E Q q => h M σ H T E _ fun v H1 e1 d1 => ⟨b, d1.blI, q H1 e1⟩
theorem evt_B {b : Bool} (h : EvD K te Γ (.bool b)) : EvT K (tB te) Γ b := fun M σ H T E Q q => h M σ H T E _ fun v H1 e1 d1 => ⟨b, d1.blI, q H1 e1⟩
theorem evt_not {b : Bool} (h : EvT K t Γ b) : EvT K (tNot t) Γ (!b) := fun M σ H T E Q q => h M σ H T E _ fun H1 e1 => q H1 e1
theorem evt_and {b c : Bool} (h : EvT K t Γ b) (h2 : b = true → EvT K u Γ c) : EvT K (tAnd t u) Γ (b && c) := fun M σ H T E Q q => h M σ H T E _ fun H1 e1 => by
  cases b with
  | true => exact h2 rfl M σ H1 (T.mono e1) (E.mono (hsame e1)) Q fun H2 e2 => q H2 (e1.trans e2)
  | false => exact q H1 e1
theorem evt_or {b c : Bool} (h : EvT K t Γ b) (h2 : b = false → EvT K u Γ c) : EvT K (tOr t u) Γ (b || c) := fun M σ H T E Q q => h M σ H T E _ fun H1 e1 => by
  cases b with
  | true => exact q H1 e1
  | false => exact h2 rfl M σ H1 (T.mono e1) (E.mono (hsame e1)) Q fun H2 e2 => q H2 (e1.trans e2)
theorem evd_andV {b c : Bool} (h : EvD K ta Γ (.bool b)) (h2 : b = true → EvD K tb Γ (.bool c)) : EvD K (tAndV ta tb) Γ (.bool (b && c)) := fun M σ H T E Q q => h M σ H T E _ fun v H1 e1 d1 => ⟨b, d1.blI, by
  cases b with
  | true => exact h2 rfl M σ H1 (T.mono e1) (E.mono (hsame e1)) Q fun v H2 e2 d2 => q v H2 (e1.trans e2) d2
  | false => exact q _ H1 e1 (.bl false)⟩
theorem evd_orV {b c : Bool} (h : EvD K ta Γ (.bool b)) (h2 : b = false → EvD K tb Γ (.bool c)) : EvD K (tOrV ta tb) Γ (.bool (b || c)) := fun M σ H T E Q q => h M σ H T E _ fun v H1 e1 d1 => ⟨b, d1.blI, by
  cases b with
  | true => exact q _ H1 e1 (.bl true)
  | false => exact h2 rfl M σ H1 (T.mono e1) (E.mono (hsame e1)) Q fun v H2 e2 d2 => q v H2 (e1.trans e2) d2⟩
theorem evd_notV {b : Bool} (h : EvD K ta Γ (.bool b)) : EvD K (tNotV ta) Γ (.bool (!b)) := fun M σ H T E Q q => h M σ H T E _ fun v H1 e1 d1 => ⟨b, d1.blI, q _ H1 e1 (.bl _)⟩
theorem evd_if {b : Bool} (h : EvT K t Γ b) (h1 : b = true → EvD K ta Γ d) (h2 : b = false → EvD K tb Γ d) : EvD K (tIf t ta tb) Γ d := fun M σ H T E Q q => h M σ H T E _ fun H1 e1 => by
  cases b with
  | true => exact h1 rfl M σ H1 (T.mono e1) (E.mono (hsame e1)) Q fun v H2 e2 d2 => q v H2 (e1.trans e2) d2
  | false => exact h2 rfl M σ H1 (T.mono e1) (E.mono (hsame e1)) Q fun v H2 e2 d2 => q v H2 (e1.trans e2) d2
/-! slices -/
theorem evo_no : EvO K tNoPart Γ none := fun M σ H T E Q q => q H (Same.refl H)
theorem evo_some {i : Int} (h : EvD K te Γ (.int i)) : EvO K (tPart te) Γ (some i) := fun M σ H T E Q q => h M σ H T E _ fun v H1 e1 d1 => ⟨i, d1.intI, q H1 e1⟩
theorem evd_sl {rs : V → Option Int → Option Int → Hp → VK → Prop} {tl th : TO} {lo hi : Option Int} (h : EvD K te Γ a) (hl : EvO K tl Γ lo) (hh : EvO K th Γ hi) (hr : RSl K rs a lo hi d) : EvD K (tSl rs te tl th) Γ d := fun M σ H T E Q q =>
  h M σ H T E _ fun x H1 e1 d1 => hl M σ H1 (T.mono e1) (E.mono (hsame e1)) _ fun H2 e2 => hh M σ H2 ((T.mono e1).mono e2) ((E.mono (hsame e1)).mono (hsame e2)) _ fun H3 e3 =>
    hr M H3 x (((T.mono e1).mono e2).mono e3) ((d1.mono' (hsame e2)).mono' (hsame e3)) Q fun v H4 e4 d4 => q v H4 (((e1.trans e2).trans e3).trans e4) d4
end
end CB

/-! D2 -/
set_option Elab.async false
set_option linter.all false
set_option maxRecDepth 100000
set_option maxHeartbeats 4000000
namespace CB
open PySem PySem.Spec PyProof.Rows L2

/-! ### outcomes -/
inductive EK where
  | text | versions | order
def ekName : EK → Str
  | .text => "InvalidText"
  | .versions => "InvalidVersions"
  | .order => "InvalidOrder"
def eka (K : Fg) (k : EK) : Addr := He.ga K (ekName k)
inductive Res where
  | ok (d : D) | er (k : EK) (at_ : Int)
def atF (i : Int) : HO := .xd [(("at" : Str), V.int i)]
/-- a promise by data -/
def spD (K : Fg) (F : List D → Res → Prop) : Sp := fun vs H Q E => ∃ (M : List Addr) (ds : List D) (r : Res), Trk M H ∧ DqAll K (hide M H) vs ds ∧ F ds r ∧
  match r with
  | .ok d => ∀ v H', Same H H' → Dq K (hide M H') v d → Q v H'
  | .er k i => ∀ dx H', Same H H' → H' dx = some (atF i) → E (.ref (eka K k)) (some dx) H'
inductive Out where
  | nx (Γ : List Sl) | rt (d : D) | bk (Γ : List Sl) | ct (Γ : List Sl) | er (k : EK) (at_ : Int)
def Post (K : Fg) (E : XK) (M : List Addr) (H : Hp) (D : Ends) : Out → Prop
  | .nx Γ => ∀ σ' H', Same H H' → EnvD K (hide M H') σ' Γ → D.nx σ' H'
  | .rt d => ∀ v H', Same H H' → Dq K (hide M H') v d → D.rt v H'
  | .bk Γ => ∀ σ' H', Same H H' → EnvD K (hide M H') σ' Γ → D.bk σ' H'
  | .ct Γ => ∀ σ' H', Same H H' → EnvD K (hide M H') σ' Γ → D.ct σ' H'
  | .er k i => ∀ dx H', Same H H' → H' dx = some (atF i) → E (.ref (eka K k)) (some dx) H'
theorem Post.mono {K : Fg} {E : XK} {M : List Addr} {H H1 : Hp} {D : Ends} (e : Same H H1) : ∀ {o : Out}, Post K E M H D o → Post K E M H1 D o
  | .nx Γ, p => fun σ' H' s q => p σ' H' (e.trans s) q
  | .rt d, p => fun σ' H' s q => p σ' H' (e.trans s) q
  | .bk Γ, p => fun σ' H' s q => p σ' H' (e.trans s) q
  | .ct Γ, p => fun σ' H' s q => p σ' H' (e.trans s) q
  | .er k i, p => fun σ' H' s q => p σ' H' (e.trans s) q
def RunD (K : Fg) (E : XK) (t : TS) (Γ : List Sl) (o : Out) : Prop := ∀ (M : List Addr) (σ : L2.St) (H : Hp) (D : Ends), Trk M H → EnvD K (hide M H) σ Γ → Post K E M H D o → t D σ H
/-- an expression that raises -/
def EvE (K : Fg) (E : XK) (te : TE) (Γ : List Sl) (k : EK) (i : Int) : Prop := ∀ (M : List Addr) (σ : L2.St) (H : Hp), Trk M H → EnvD K (hide M H) σ Γ →
  (∀ dx H', Same H H' → H' dx = some (atF i) → E (.ref (eka K k)) (some dx) H') → ∀ Q : VK, te σ H Q
def EvAE (K : Fg) (E : XK) (te : TA) (Γ : List Sl) (k : EK) (i : Int) : Prop := ∀ (M : List Addr) (σ : L2.St) (H : Hp), Trk M H → EnvD K (hide M H) σ Γ →
  (∀ dx H', Same H H' → H' dx = some (atF i) → E (.ref (eka K k)) (some dx) H') → ∀ Q : List V → Hp → Prop, te σ H Q
def GD (K : Fg) (g : TG) (d : D) (Γ Γ1 : List Sl) : Prop := ∀ (M : List Addr) (v : V) (σ : L2.St) (H : Hp) (Q : L2.St → Hp → Prop), Trk M H → Dq K (hide M H) v d → EnvD K (hide M H) σ Γ →
  (∀ σ' H', Same H H' → EnvD K (hide M H') σ' Γ1 → Q σ' H') → g v σ H Q
def GsD (K : Fg) (g : TGs) (ds : List D) (Γ Γ1 : List Sl) : Prop := ∀ (M : List Addr) (vs : List V) (σ : L2.St) (H : Hp) (Q : L2.St → Hp → Prop), Trk M H → DqAll K (hide M H) vs ds → EnvD K (hide M H) σ Γ →
  (∀ σ' H', Same H H' → EnvD K (hide M H') σ' Γ1 → Q σ' H') → g vs σ H Q

section
variable {K : Fg} {E : XK} {Γ Γ1 Γ2 : List Sl} {ta tb te tc : TE} {t u : TS} {c : TT} {a b d : D} {o : Out} {g : TG} {k : EK} {i : Int}
/-! calls -/
theorem evd_call {F : List D → Res → Prop} {dvs : List V} {dds : List D} {tr : TA} {ds : List D} {E' : XK} (ha : EvA K tr Γ ds) (hd : ∀ G, DqAll K G dvs dds) (hF : F (ds ++ dds) (.ok d)) : EvD K (tCall (spD K F) dvs E' tr) Γ d := fun M σ H T S Q q =>
  ha M σ H T S _ fun vs H1 e1 d1 => ⟨M, _, _, T.mono e1, DqAll.app d1 (hd _), hF, fun v H' s h => q v H' (e1.trans s) h⟩
theorem evd_call0 {F : List D → Res → Prop} {tr : TA} {ds : List D} {E' : XK} (ha : EvA K tr Γ ds) (hF : F ds (.ok d)) : EvD K (tCall (spD K F) [] E' tr) Γ d := evd_call (dds := []) ha (fun _ => .nil) (by rw [List.append_nil]; exact hF)
theorem eve_call {F : List D → Res → Prop} {dvs : List V} {dds : List D} {tr : TA} {ds : List D} (ha : EvA K tr Γ ds) (hd : ∀ G, DqAll K G dvs dds) (hF : F (ds ++ dds) (.er k i)) : EvE K E (tCall (spD K F) dvs E tr) Γ k i := fun M σ H T S h Q =>
  ha M σ H T S _ fun vs H1 e1 d1 => ⟨M, _, _, T.mono e1, DqAll.app d1 (hd _), hF, fun v H' s q => h v H' (e1.trans s) q⟩
theorem eve_call0 {F : List D → Res → Prop} {tr : TA} {ds : List D} (ha : EvA K tr Γ ds) (hF : F ds (.er k i)) : EvE K E (tCall (spD K F) [] E tr) Γ k i := eve_call (dds := []) ha (fun _ => .nil) (by rw [List.append_nil]; exact hF)
theorem evae_here {tr : TA} (h : EvE K E te Γ k i) : EvAE K E (tCons te tr) Γ k i := fun M σ H T S h' Q => h M σ H T S h' _
theorem evae_next {tr : TA} (h1 : EvD K te Γ d) (h : EvAE K E tr Γ k i) : EvAE K E (tCons te tr) Γ k i := fun M σ H T S h' Q =>
  h1 M σ H T S _ fun v H1 e1 d1 => h M σ H1 (T.mono e1) (S.mono (hsame e1)) (fun dx H' s q => h' dx H' (e1.trans s) q) _
theorem eve_tup {tr : TA} (h : EvAE K E tr Γ k i) : EvE K E (tTup tr) Γ k i := fun M σ H T S h' Q => h M σ H T S h' _
theorem eve_cb {tr : TA} {rc : List V → Hp → VK → Prop} (h : EvAE K E tr Γ k i) : EvE K E (tCB rc tr) Γ k i := fun M σ H T S h' Q => h M σ H T S h' _
theorem eve_calla {sp : Sp} {dvs : List V} {E' : XK} {tr : TA} (h : EvAE K E tr Γ k i) : EvE K E (tCall sp dvs E' tr) Γ k i := fun M σ H T S h' Q => h M σ H T S h' _

/-! statements -/
theorem run_nx {t u : TS} (h : RunD K E t Γ (.nx Γ1)) (h2 : RunD K E u Γ1 o) : RunD K E (tSeq t u) Γ o := fun M σ H D T S P =>
  h M σ H { D with nx := u D } T S fun σ' H' e S' => h2 M σ' H' D (T.mono e) S' (P.mono e)
theorem run_rt {t u : TS} {d : D} (h : RunD K E t Γ (.rt d)) : RunD K E (tSeq t u) Γ (.rt d) := fun M σ H D T S P => h M σ H { D with nx := u D } T S P
theorem run_er {t u : TS} (h : RunD K E t Γ (.er k i)) : RunD K E (tSeq t u) Γ (.er k i) := fun M σ H D T S P => h M σ H { D with nx := u D } T S P
theorem run_bk {t u : TS} (h : RunD K E t Γ (.bk Γ1)) : RunD K E (tSeq t u) Γ (.bk Γ1) := fun M σ H D T S P => h M σ H { D with nx := u D } T S P
theorem run_ct {t u : TS} (h : RunD K E t Γ (.ct Γ1)) : RunD K E (tSeq t u) Γ (.ct Γ1) := fun M σ H D T S P => h M σ H { D with nx := u D } T S P
theorem run_next : RunD K E tNext Γ (.nx Γ) := fun M σ H D T S P => P σ H (Same.refl H) S
theorem run_break : RunD K E tBreak Γ (.bk Γ) := fun M σ H D T S P => P σ H (Same.refl H) S
theorem run_cont : RunD K E tCont Γ (.ct Γ) := fun M σ H D T S P => P σ H (Same.refl H) S
theorem run_asg (h : EvD K te Γ d) (hg : GD K g d Γ Γ1) : RunD K E (tAsg te g) Γ (.nx Γ1) := fun M σ H D T S P =>
  h M σ H T S _ fun v H1 e1 d1 => hg M v σ H1 _ (T.mono e1) d1 (S.mono (hsame e1)) fun σ' H' e2 S' => P σ' H' (e1.trans e2) S'
theorem run_asgE (h : EvE K E te Γ k i) : RunD K E (tAsg te g) Γ (.er k i) := fun M σ H D T S P => h M σ H T S P _
theorem run_ret (h : EvD K te Γ d) : RunD K E (tRet te) Γ (.rt d) := fun M σ H D T S P => h M σ H T S _ fun v H1 e1 d1 => P v H1 e1 d1
theorem run_retE (h : EvE K E te Γ k i) : RunD K E (tRet te) Γ (.er k i) := fun M σ H D T S P => h M σ H T S P _
theorem run_drop (h : EvD K te Γ d) : RunD K E (tDrop te) Γ (.nx Γ) := fun M σ H D T S P => h M σ H T S _ fun v H1 e1 d1 => P σ H1 e1 (S.mono (hsame e1))
theorem run_dropE (h : EvE K E te Γ k i) : RunD K E (tDrop te) Γ (.er k i) := fun M σ H D T S P => h M σ H T S P _
theorem run_if {b : Bool} (h : EvT K c Γ b) (h1 : b = true → RunD K E t Γ o) (h2 : b = false → RunD K E u Γ o) : RunD K E (tIfS c t u) Γ o := fun M σ H D T S P =>
  h M σ H T S _ fun H1 e1 => by
    cases b with
    | true => exact h1 rfl M σ H1 D (T.mono e1) (S.mono (hsame e1)) (P.mono e1)
    | false => exact h2 rfl M σ H1 D (T.mono e1) (S.mono (hsame e1)) (P.mono e1)
theorem run_ifT (h : EvT K c Γ true) (h1 : RunD K E t Γ o) : RunD K E (tIfS c t u) Γ o := run_if h (fun _ => h1) (fun z => by cases z)
theorem run_ifF (h : EvT K c Γ false) (h1 : RunD K E u Γ o) : RunD K E (tIfS c t u) Γ o := run_if h (fun z => by cases z) (fun _ => h1)
theorem run_aug {j : Nat} {a b r : Int} {f : Int → Int → Int} (hx : Γ[j]? = some (.dat (.int a))) (h : EvD K te Γ (.int b)) (hr : f a b = r) : RunD K E (tAug j te (ipI f)) Γ (.nx (Γ.set j (.dat (.int r)))) := fun M σ H D T S P => by
  obtain ⟨x, h1, h2⟩ := envd_dat S hx
  have e1 := h2.intI
  subst e1
  refine ⟨_, h1, h M σ H T S _ fun v H1 e1 d1 => ⟨a, b, rfl, d1.intI, ?_⟩⟩
  rw [hr]
  exact P _ H1 e1 (envd_set (o := some (V.int r)) (s := .dat (.int r)) (.int r) j (S.mono (hsame e1)))
/-! targets -/
theorem gd_name {j : Nat} : GD K (gName j) d Γ (Γ.set j (.dat d)) := fun M v σ H Q T h S q => q _ H (Same.refl H) (envd_set (o := some v) (s := .dat d) h j S)
theorem gds_nil : GsD K gNil [] Γ Γ := fun M vs σ H Q T h S q => by
  cases h
  exact ⟨rfl, q σ H (Same.refl H) S⟩
theorem gds_cons {gs : TGs} {ds : List D} (h : GD K g d Γ Γ1) (hs : GsD K gs ds Γ1 Γ2) : GsD K (gCons g gs) (d :: ds) Γ Γ2 := fun M vs σ H Q T hv S q => by
  cases hv with
  | cons h1 h2 =>
    exact ⟨_, _, rfl, h M _ σ H _ T h1 S fun σ' H' e S' => hs M _ σ' H' _ (T.mono e) (h2.mono' (hsame e)) S' fun σ2 H2 e2 S2 => q σ2 H2 (e.trans e2) S2⟩
theorem gd_tup {gs : TGs} {ds : List D} {n : Nat} (hs : GsD K gs ds Γ Γ1) (hn : ds.length = n := by rfl) : GD K (gTup K n gs) (.tuple ds) Γ Γ1 := fun M v σ H Q T hv S q => by
  obtain ⟨a, xs, e, h1, h2⟩ := hv.tupI
  exact ⟨a, xs, e, seqT hide_le h1, by rw [DqAll.len h2, hn], hs M xs σ H Q T h2 S q⟩
/-- a, b = x, y stored from the right -/
theorem run_par {i j : Nat} {tr : TA} (h : EvA K tr Γ [a, b]) : RunD K E (tPar i j tr) Γ (.nx ((Γ.set i (.dat a)).set j (.dat b))) := fun M σ H D T S P =>
  h M σ H T S _ fun vs H1 e1 d1 => by
    cases d1 with
    | cons h1 d2 =>
      cases d2 with
      | cons h2 d3 =>
        cases d3
        exact ⟨_, _, rfl, P _ H1 e1 (envd_set (o := some _) (s := .dat b) h2 j (envd_set (o := some _) (s := .dat a) h1 i (S.mono (hsame e1))))⟩
theorem run_parE {i j : Nat} {tr : TA} {k : EK} {z : Int} (h : EvAE K E tr Γ k z) : RunD K E (tPar i j tr) Γ (.er k z) := fun M σ H D T S P => h M σ H T S P _

/-! ### loops -/
def WalkD (K : Fg) (M : List Addr) (J : It) (H1 : Hp) (ds : List D) : Prop := ∃ (G : Hp → Prop) (Y : Nat → Hp → V → Hp → Prop), Walk J ds.length G Y ∧ (∀ M' H2, Same (hide M H1) (hide M' H2) → G H2) ∧
  ∀ i H2 x H2' M', i < ds.length → Trk M' H2 → Same (hide M H1) (hide M' H2) → Y i H2 x H2' → Same H2 H2' ∧ ∃ d, ds[i]? = some d ∧ Dq K (hide M' H2') x d
def IterD (K : Fg) (wi : TI) (Γ : List Sl) (ds : List D) : Prop := ∀ (M : List Addr) (σ : L2.St) (H : Hp), Trk M H → EnvD K (hide M H) σ Γ → ∀ R : It → Hp → Prop, (∀ J H1, Same H H1 → WalkD K M J H1 ds → R J H1) → wi σ H R
inductive Loop (K : Fg) (E : XK) (g : TG) (tb : TS) : List D → List Sl → Out → Prop
  | nil {Γ : List Sl} : Loop K E g tb [] Γ (.nx Γ)
  | nx {d : D} {ds : List D} {Γ Γ1 Γ2 : List Sl} {o : Out} : GD K g d Γ Γ1 → RunD K E tb Γ1 (.nx Γ2) → Loop K E g tb ds Γ2 o → Loop K E g tb (d :: ds) Γ o
  | ct {d : D} {ds : List D} {Γ Γ1 Γ2 : List Sl} {o : Out} : GD K g d Γ Γ1 → RunD K E tb Γ1 (.ct Γ2) → Loop K E g tb ds Γ2 o → Loop K E g tb (d :: ds) Γ o
  | bk {d : D} {ds : List D} {Γ Γ1 Γ2 : List Sl} : GD K g d Γ Γ1 → RunD K E tb Γ1 (.bk Γ2) → Loop K E g tb (d :: ds) Γ (.nx Γ2)
  | rt {d r : D} {ds : List D} {Γ Γ1 : List Sl} : GD K g d Γ Γ1 → RunD K E tb Γ1 (.rt r) → Loop K E g tb (d :: ds) Γ (.rt r)
  | er {d : D} {ds : List D} {Γ Γ1 : List Sl} {k : EK} {i : Int} : GD K g d Γ Γ1 → RunD K E tb Γ1 (.er k i) → Loop K E g tb (d :: ds) Γ (.er k i)
theorem run_for {wi : TI} {tb : TS} {ds : List D} (hi : IterD K wi Γ ds) (hl : Loop K E g tb ds Γ o) : RunD K E (tFor wi g tb) Γ o := fun M σ H D T S P =>
  hi M σ H T S _ fun J H1 e1 ⟨G, Y, w, hG, hY⟩ => by
    refine ⟨fun i m σ' H' => m = ds.length - i ∧ i ≤ ds.length ∧ Same H1 H' ∧ ∃ Γ', EnvD K (hide M H') σ' Γ' ∧ Loop K E g tb (ds.drop i) Γ' o, ⟨_, rfl, Nat.zero_le _, Same.refl H1, Γ, S.mono (hsame e1), hl⟩, ?_⟩
    rintro i m σ' H' ⟨rfl, hi, es, Γ', S', L⟩
    have T1 : Trk M H' := (T.mono e1).mono es
    have q := hG M H' (hsame es)
    by_cases hlt : i < ds.length
    · refine .inr ⟨w.goes i H' hlt q, fun σ2 H2 => Same H1 H2 ∧ ∃ Γ2, EnvD K (hide M H2) σ2 Γ2 ∧ Loop K E g tb (ds.drop (i + 1)) Γ2 o, fun σ2 H2 ⟨s2, Γ2, S2, L2⟩ => ⟨ds.length - (i + 1), by omega, rfl, hlt, s2, Γ2, S2, L2⟩, fun x H2' y => ?_⟩
      obtain ⟨s2, d, hd, hx⟩ := hY i H' x H2' M hlt T1 (hsame es) (w.yields i H' x H2' hlt q y)
      have hdr : ds.drop i = d :: ds.drop (i + 1) := by
        have h1 := List.drop_eq_getElem_cons hlt
        have h2 := (List.getElem?_eq_some_iff.mp hd).2
        rw [h1, h2]
      rw [hdr] at L
      have T2 := T1.mono s2
      have S2 := S'.mono (hsame (M := M) s2)
      have P2 : Post K E M H2' D o := ((P.mono e1).mono es).mono s2
      cases L with
      | nx hg hb hr => exact hg M x σ' H2' _ T2 hx S2 fun σ3 H3 e3 S3 => hb M σ3 H3 _ (T2.mono e3) S3 fun σ4 H4 e4 S4 => ⟨((es.trans s2).trans e3).trans e4, _, S4, hr⟩
      | ct hg hb hr => exact hg M x σ' H2' _ T2 hx S2 fun σ3 H3 e3 S3 => hb M σ3 H3 _ (T2.mono e3) S3 fun σ4 H4 e4 S4 => ⟨((es.trans s2).trans e3).trans e4, _, S4, hr⟩
      | bk hg hb => exact hg M x σ' H2' _ T2 hx S2 fun σ3 H3 e3 S3 => hb M σ3 H3 _ (T2.mono e3) S3 fun σ4 H4 e4 S4 => P2 σ4 H4 (e3.trans e4) S4
      | rt hg hb => exact hg M x σ' H2' _ T2 hx S2 fun σ3 H3 e3 S3 => hb M σ3 H3 _ (T2.mono e3) S3 fun v H4 e4 d4 => P2 v H4 (e3.trans e4) d4
      | er hg hb => exact hg M x σ' H2' _ T2 hx S2 fun σ3 H3 e3 S3 => hb M σ3 H3 _ (T2.mono e3) S3 fun v H4 e4 d4 => P2 v H4 (e3.trans e4) d4
    · have e : i = ds.length := by omega
      subst e
      rw [List.drop_length] at L
      cases L
      exact .inl ⟨w.stops H' q, ((P.mono e1).mono es) σ' H' (Same.refl H') S'⟩
inductive Whl (K : Fg) (E : XK) (c : TT) (tb : TS) : Nat → List Sl → Out → Prop
  | stop {n : Nat} {Γ : List Sl} : EvT K c Γ false → Whl K E c tb n Γ (.nx Γ)
  | nx {n : Nat} {Γ Γ1 : List Sl} {o : Out} : EvT K c Γ true → RunD K E tb Γ (.nx Γ1) → Whl K E c tb n Γ1 o → Whl K E c tb (n + 1) Γ o
theorem run_while {tb : TS} {n : Nat} (h : Whl K E c tb n Γ o) : RunD K E (tWhile c tb) Γ o := fun M σ H D T S P => by
  refine ⟨fun m σ' H' => Same H H' ∧ ∃ Γ', EnvD K (hide M H') σ' Γ' ∧ Whl K E c tb m Γ' o, ⟨n, Same.refl H, Γ, S, h⟩, ?_⟩
  rintro m σ' H' ⟨es, Γ', S', L⟩
  have T1 := T.mono es
  cases L with
  | stop hc => exact hc M σ' H' T1 S' _ fun H1 e1 => P σ' H1 (es.trans e1) (S'.mono (hsame e1))
  | @nx n0 _ Γ1 _ hc hb hr =>
    refine hc M σ' H' T1 S' _ fun H1 e1 => ⟨fun σ2 H2 => Same H H2 ∧ ∃ Γ2, EnvD K (hide M H2) σ2 Γ2 ∧ Whl K E c tb n0 Γ2 o, fun σ2 H2 h2 => ⟨n0, Nat.lt_succ_self _, h2⟩, ?_⟩
    exact hb M σ' H1 _ (T1.mono e1) (S'.mono (hsame e1)) fun σ4 H4 e4 S4 => ⟨(es.trans e1).trans e4, _, S4, hr⟩

/-! what is walked -/
theorem itd_list {ds : List D} (h : EvD K te Γ (.list ds)) : IterD K (iList K te) Γ ds := fun M σ H T S R q => h M σ H T S _ fun v H1 e1 d1 => by
  obtain ⟨a, xs, ev, h1, h2⟩ := d1.lstI
  refine ⟨a, ev, ⟨xs, hide_le.seq h1⟩, q _ H1 e1 ⟨fun H => SqL K H a xs, YAt xs, ?_, fun M' H2 s => hide_le.seq (s.seq h1), fun i H2 x H2' M' hi T' s y => ?_⟩⟩
  · rw [← DqAll.len h2]; exact walk_list
  · obtain ⟨e, hx⟩ := y
    subst e
    obtain ⟨d, hd, hp⟩ := DqAll.getV h2 hx
    exact ⟨Same.refl _, d, hd, hp.mono' s⟩
theorem itd_tup {ds : List D} (h : EvD K te Γ (.tuple ds)) : IterD K (iTup K te) Γ ds := fun M σ H T S R q => h M σ H T S _ fun v H1 e1 d1 => by
  obtain ⟨a, xs, ev, h1, h2⟩ := d1.tupI
  refine ⟨a, ev, ⟨xs, seqT hide_le h1⟩, q _ H1 e1 ⟨fun H => SqT K H a xs, YAt xs, ?_, fun M' H2 s => seqT hide_le (seqT s h1), fun i H2 x H2' M' hi T' s y => ?_⟩⟩
  · rw [← DqAll.len h2]; exact walk_tup
  · obtain ⟨e, hx⟩ := y
    subst e
    obtain ⟨d, hd, hp⟩ := DqAll.getV h2 hx
    exact ⟨Same.refl _, d, hd, hp.mono' s⟩
def rngD (lo : Int) (n : Nat) : List D := (List.range n).map fun (i : Nat) => PyData.int (lo + (i : Int))
theorem rngD_len (lo : Int) (n : Nat) : (rngD lo n).length = n := by unfold rngD; rw [List.length_map, List.length_range]
theorem walkd_rng {M : List Addr} {H1 : Hp} {lo : Int} {n : Nat} : WalkD K M (Itr lo n) H1 (rngD lo n) := by
  refine ⟨fun _ => True, YFn fun i => .int (lo + (i : Int)), ?_, fun _ _ _ => trivial, fun i H2 x H2' M' hi T' s y => ?_⟩
  · rw [rngD_len]; exact walk_range
  · obtain ⟨e, hx⟩ := y
    subst e hx
    refine ⟨Same.refl _, .int (lo + (i : Int)), ?_, .int _⟩
    rw [rngD_len] at hi
    unfold rngD
    rw [List.getElem?_map, List.getElem?_range hi]
    rfl
theorem itd_rng1 {tr : TA} {n : Int} (h : EvA K tr Γ [.int n]) (h1 : -(2 ^ 62) ≤ n := by omega) (h2 : n < 2 ^ 62 := by omega) : IterD K (iRng1 tr) Γ (rngD 0 n.toNat) := fun M σ H T S R q => h M σ H T S _ fun vs H1 e1 d1 => by
  cases d1 with
  | cons a1 a2 =>
    cases a2
    cases a1
    exact ⟨n, rfl, h1, h2, q _ H1 e1 walkd_rng⟩
theorem itd_rng2 {tr : TA} {l n : Int} (h : EvA K tr Γ [.int l, .int n]) (h1 : -(2 ^ 62) ≤ n := by omega) (h2 : n < 2 ^ 62 := by omega) (h3 : -(2 ^ 62) ≤ l := by omega) (h4 : l < 2 ^ 62 := by omega) : IterD K (iRng2 tr) Γ (rngD l (n - l).toNat) := fun M σ H T S R q => h M σ H T S _ fun vs H1 e1 d1 => by
  cases d1 with
  | cons a1 a2 =>
    cases a2 with
    | cons b1 b2 =>
      cases b2
      cases a1
      cases b1
      exact ⟨l, n, rfl, ⟨h3, h4, h1, h2⟩, q _ H1 e1 walkd_rng⟩

/-! ### comprehensions -/
theorem wipe_get (i : Nat) : ∀ (vs : List Nat) (σ : L2.St), (wipe σ vs)[i]? = if i ∈ vs then (σ[i]?).map (fun _ => none) else σ[i]?
  | [], σ => by simp [wipe]
  | v :: vs, σ => by
    unfold wipe
    by_cases h : v = i
    · subst h
      by_cases hl : v < (wipe σ vs).length
      · rw [List.getElem?_set_self hl, if_pos List.mem_cons_self]
        rw [wipe_length] at hl
        rw [List.getElem?_eq_getElem hl]; rfl
      · have hl' : σ.length ≤ v := by rw [wipe_length] at hl; omega
        rw [List.getElem?_eq_none (by rw [List.length_set, wipe_length]; exact hl'), List.getElem?_eq_none hl']
        simp
    · rw [List.getElem?_set_ne h, wipe_get i vs σ]
      have e : (i ∈ v :: vs) ↔ i ∈ vs := by
        constructor
        · intro hm
          rcases List.mem_cons.mp hm with z | z
          · exact absurd z.symm h
          · exact z
        · exact List.mem_cons_of_mem _
      by_cases hm : i ∈ vs
      · rw [if_pos hm, if_pos (e.mpr hm)]
      · rw [if_neg hm, if_neg (fun z => hm (e.mp z))]
theorem wipe_idem (vs : List Nat) (σ : L2.St) : wipe (wipe σ vs) vs = wipe σ vs := by
  apply List.ext_getElem?
  intro i
  rw [wipe_get, wipe_get]
  by_cases h : i ∈ vs
  · rw [if_pos h, if_pos h]; cases σ[i]? <;> rfl
  · rw [if_neg h, if_neg h]
/-- a target that stores into the slots vs alone -/
def GDw (K : Fg) (g : TG) (vs : List Nat) (d : D) (Γ Γ1 : List Sl) : Prop := ∀ (M : List Addr) (v : V) (σ : L2.St) (H : Hp) (Q : L2.St → Hp → Prop), Trk M H → Dq K (hide M H) v d → EnvD K (hide M H) σ Γ →
  (∀ σ' H', Same H H' → wipe σ' vs = wipe σ vs → EnvD K (hide M H') σ' Γ1 → Q σ' H') → g v σ H Q
theorem wipe_set {σ : L2.St} {vs : List Nat} {j : Nat} {x : Option V} (h : j ∈ vs) : wipe (σ.set j x) vs = wipe σ vs := by
  apply List.ext_getElem?
  intro i
  rw [wipe_get, wipe_get]
  by_cases hi : i ∈ vs
  · rw [if_pos hi, if_pos hi]
    by_cases e : j = i
    · subst e
      by_cases hl : j < σ.length
      · rw [List.getElem?_set_self hl, List.getElem?_eq_getElem hl]; rfl
      · rw [List.getElem?_eq_none (by rw [List.length_set]; omega), List.getElem?_eq_none (by omega)]
    · rw [List.getElem?_set_ne e]
  · rw [if_neg hi, if_neg hi, List.getElem?_set_ne (fun e : j = i => hi (by rw [← e]; exact h))]
theorem gdw_name {j : Nat} {vs : List Nat} (h : j ∈ vs := by decide) : GDw K (gName j) vs d Γ (Γ.set j (.dat d)) := fun M v σ H Q T hv S q => q _ H (Same.refl H) (wipe_set h) (envd_set (o := some v) (s := .dat d) hv j S)
def GsDw (K : Fg) (g : TGs) (ws : List Nat) (ds : List D) (Γ Γ1 : List Sl) : Prop := ∀ (M : List Addr) (vs : List V) (σ : L2.St) (H : Hp) (Q : L2.St → Hp → Prop), Trk M H → DqAll K (hide M H) vs ds → EnvD K (hide M H) σ Γ →
  (∀ σ' H', Same H H' → wipe σ' ws = wipe σ ws → EnvD K (hide M H') σ' Γ1 → Q σ' H') → g vs σ H Q
theorem gdsw_nil {ws : List Nat} : GsDw K gNil ws [] Γ Γ := fun M vs σ H Q T h S q => by
  cases h
  exact ⟨rfl, q σ H (Same.refl H) rfl S⟩
theorem gdsw_cons {ws : List Nat} {gs : TGs} {ds : List D} (h : GDw K g ws d Γ Γ1) (hs : GsDw K gs ws ds Γ1 Γ2) : GsDw K (gCons g gs) ws (d :: ds) Γ Γ2 := fun M vs σ H Q T hv S q => by
  cases hv with
  | cons h1 h2 =>
    exact ⟨_, _, rfl, h M _ σ H _ T h1 S fun σ' H' e w1 S' => hs M _ σ' H' _ (T.mono e) (h2.mono' (hsame e)) S' fun σ2 H2 e2 w2 S2 => q σ2 H2 (e.trans e2) (w2.trans w1) S2⟩
theorem gdw_tup {ws : List Nat} {gs : TGs} {ds : List D} {n : Nat} (hs : GsDw K gs ws ds Γ Γ1) (hn : ds.length = n := by rfl) : GDw K (gTup K n gs) ws (.tuple ds) Γ Γ1 := fun M v σ H Q T hv S q => by
  obtain ⟨a, xs, e, h1, h2⟩ := hv.tupI
  exact ⟨a, xs, e, seqT hide_le h1, by rw [DqAll.len h2, hn], hs M xs σ H Q T h2 S q⟩
inductive Cmp (K : Fg) (g : TG) (tt : TT) (te : TE) (ws : List Nat) (Γ : List Sl) : List D → List D → Prop
  | nil : Cmp K g tt te ws Γ [] []
  | yes {d r : D} {ds rs : List D} {Γ1 : List Sl} : GDw K g ws d Γ Γ1 → EvT K tt Γ1 true → EvD K te Γ1 r → Cmp K g tt te ws Γ ds rs → Cmp K g tt te ws Γ (d :: ds) (r :: rs)
  | no {d : D} {ds rs : List D} {Γ1 : List Sl} : GDw K g ws d Γ Γ1 → EvT K tt Γ1 false → Cmp K g tt te ws Γ ds rs → Cmp K g tt te ws Γ (d :: ds) rs
theorem Cmp.len {tt : TT} {ws : List Nat} : ∀ {ds rs : List D}, Cmp K g tt te ws Γ ds rs → rs.length ≤ ds.length
  | _, _, .nil => Nat.le_refl _
  | _, _, .yes _ _ _ h => Nat.succ_le_succ (Cmp.len h)
  | _, _, .no _ _ h => Nat.le_succ_of_le (Cmp.len h)
theorem evd_lc {wi : TI} {tt : TT} {ws : List Nat} {ds rs : List D} (hi : IterD K wi Γ ds) (hc : Cmp K g tt te ws (wipeG Γ ws) ds rs) (hz : ds.length ≤ 100000) : EvD K (tLc wi g tt te ws) Γ (.list rs) := fun M σ H T S Q q =>
  hi M σ H T S _ fun J H1 e1 ⟨G, Y, w, hG, hY⟩ Dl hD => by
    have T1 : Trk M H1 := T.mono e1
    have hM : Dl ∉ M := T1.ne hD
    have sub : ∀ {H'}, Same H1 H' → Same (hide M H1) (hide (Dl :: M) H') := fun s a o h => by
      obtain ⟨h1, h2⟩ := hide_of h
      have na : a ≠ Dl := ne_of_none h1 hD
      rw [hide_in (by intro z; rcases List.mem_cons.mp z with z | z; exact na z; exact h2 z)]
      exact s a o h1
    have trk : ∀ {H'} {o : List V}, Same H1 H' → H' Dl = some (.lst o) → Trk (Dl :: M) H' := fun s h m hm => by
      rcases List.mem_cons.mp hm with z | z
      · subst z; exact ⟨_, h, fun _ z => by cases z⟩
      · exact (T1.mono s) m z
    refine lc_it w (fun i H' => Same H1 H' ∧ ∃ acc done rest, H' Dl = some (.lst acc) ∧ DqAll K (hide (Dl :: M) H') acc done ∧ Cmp K g tt te ws (wipeG Γ ws) (ds.drop i) rest ∧ rs = done ++ rest ∧ done.length ≤ i)
      ⟨same_new hD, [], [], rs, upd_same, .nil, hc, rfl, Nat.le_refl _⟩ (fun i H' hi ⟨s, _⟩ => hG (Dl :: M) H' (sub s)) (fun i x H' H2 hlt ⟨s, acc, done, rest, hacc, hd, L, hrs, hlen⟩ hy => ?_) (fun H' ⟨s, acc, done, rest, hacc, hd, L, hrs, hlen⟩ => ?_)
    · have Tk := trk s hacc
      obtain ⟨s2, d, hdx, hx⟩ := hY i H' x H2 (Dl :: M) hlt Tk (sub s) hy
      have hdr : ds.drop i = d :: ds.drop (i + 1) := by
        have h1 := List.drop_eq_getElem_cons hlt
        have h2 := (List.getElem?_eq_some_iff.mp hdx).2
        rw [h1, h2]
      rw [hdr] at L
      have hacc2 := s2 _ _ hacc
      have Tk2 := Tk.mono s2
      have S2 : EnvD K (hide (Dl :: M) H2) (wipe σ ws) (wipeG Γ ws) := (envd_wipe (S.mono (hsame e1)) ws).mono (sub (s.trans s2))
      have szl : done.length < sizeLine := Nat.lt_of_lt_of_le (show done.length < 100001 by omega) (by decide)
      cases L with
      | yes hg ht he hr =>
        refine hg (Dl :: M) x (wipe σ ws) H2 _ Tk2 hx S2 fun σ3 H3 e3 w3 S3 => ⟨by rw [w3, wipe_idem], ?_⟩
        refine ht (Dl :: M) σ3 H3 (Tk2.mono e3) S3 _ fun H4 e4 => ?_
        show te σ3 H4 _
        refine he (Dl :: M) σ3 H4 ((Tk2.mono e3).mono e4) (S3.mono (hsame e4)) _ fun y H5 e5 d5 => ?_
        have s5 : Same H2 H5 := (e3.trans e4).trans e5
        have d5' := hd.mono' (hsame (M := Dl :: M) (s2.trans s5))
        have up : Same (hide (Dl :: M) H5) (hide (Dl :: M) (L2.upd H5 Dl (.lst (acc ++ [y])))) := fun a o h => by
          obtain ⟨h1, h2⟩ := hide_of h
          rw [hide_in h2, upd_ne (fun z : a = Dl => h2 (by rw [z]; exact List.mem_cons_self))]
          exact h1
        refine ⟨acc, s5 _ _ hacc2, by rw [DqAll.len hd]; exact szl, fun a o h => ?_, acc ++ [y], done ++ [_], _, upd_same, DqAll.app (d5'.mono' up) (.cons (d5.mono' up) .nil), hr, by rw [hrs]; simp, by simp; omega⟩
        rw [upd_ne (ne_of_none h hD)]
        exact (s.trans (s2.trans s5)) a o h
      | no hg ht hr =>
        refine hg (Dl :: M) x (wipe σ ws) H2 _ Tk2 hx S2 fun σ3 H3 e3 w3 S3 => ⟨by rw [w3, wipe_idem], ?_⟩
        refine ht (Dl :: M) σ3 H3 (Tk2.mono e3) S3 _ fun H4 e4 => ?_
        have s5 : Same H2 H4 := e3.trans e4
        exact ⟨s.trans (s2.trans s5), acc, done, _, s5 _ _ hacc2, hd.mono' (hsame (s2.trans s5)), hr, hrs, by omega⟩
    · rw [List.drop_length] at L
      cases L
      rw [List.append_nil] at hrs
      subst hrs
      have un : Same (hide (Dl :: M) H') (hide M H') := fun a o h => by
        obtain ⟨h1, h2⟩ := hide_of h
        rw [hide_in (fun z => h2 (List.mem_cons_of_mem _ z))]
        exact h1
      exact q _ H' (e1.trans s) (.lst (((hide_in hM).trans hacc)) (hd.mono' un))
end
end CB

/-! D3 -/
set_option Elab.async false
set_option linter.all false
set_option maxRecDepth 100000
set_option maxHeartbeats 4000000
namespace CB
open PySem PySem.Spec PyProof.Rows L2
abbrev Tx := List Int
/-- a text as data -/
def T (xs : Tx) : D := .tuple (xs.map PyData.int)
def optT : Option Tx → D
  | none => .none
  | some t => T t
theorem T_app (a b : Tx) : T (a ++ b) = .tuple (a.map PyData.int ++ b.map PyData.int) := by unfold T; rw [List.map_append]

section
variable {K : Fg} {Γ : List Sl} {ta tb te tc : TE} {a b d : D} {r r' : R2} {i j : Int}
/-! ### ints -/
theorem rop_I0 {g : Int → Int → Int} : ROp K (rI0 fun i j => .int (g i j)) (.int i) (.int j) (.int (g i j)) := fun M H x y _ dx dy Q q => ⟨i, j, dx.intI, dy.intI, q _ H (Same.refl H) (.int _)⟩
theorem rop_B0 {g : Int → Int → Bool} : ROp K (rI0 fun i j => .bl (g i j)) (.int i) (.int j) (.bool (g i j)) := fun M H x y _ dx dy Q q => ⟨i, j, dx.intI, dy.intI, q _ H (Same.refl H) (.bl _)⟩
theorem rop_I {C : Int → Int → Prop} {g : Int → Int → Int} (hc : C i j) : ROp K (rI C fun i j => .int (g i j)) (.int i) (.int j) (.int (g i j)) := fun M H x y _ dx dy Q q => ⟨i, j, dx.intI, dy.intI, hc, q _ H (Same.refl H) (.int _)⟩
theorem run_neg : RUn K (rU fun i => .int (-i)) (.int i) (.int (-i)) := fun M H x _ dx Q q => ⟨i, dx.intI, q _ H (Same.refl H) (.int _)⟩
theorem rop_or1 (h : ROp K r a b d) : ROp K (fun x y H Q => r x y H Q ∨ r' x y H Q) a b d := fun M H x y t dx dy Q q => .inl (h M H x y t dx dy Q q)
theorem rop_or2 (h : ROp K r' a b d) : ROp K (fun x y H Q => r x y H Q ∨ r' x y H Q) a b d := fun M H x y t dx dy Q q => .inr (h M H x y t dx dy Q q)

/-! ### + -/
def rCatL (K : Fg) : R2 := fun x y H Q => ∃ l b xs zs, x = .ref l ∧ y = .ref b ∧ SqL K H l xs ∧ SqL K H b zs ∧ xs.length + zs.length ≤ sizeLine ∧ ∀ p, H p = none → Q (.ref p) (upd H p (.lst (xs ++ zs)))
theorem op_catL {X : Cx} : OpR X (binaryOp .Add) (rCatL X.K) := by
  intro pins s σ H x y v u Q I rx ry h
  obtain ⟨l, b, xs, zs, rfl, rfl, hl, hb, hz, q⟩ := h
  cases rx
  cases ry
  obtain ⟨i1, r1, ⟨o1, n1, e1, c1, d1, t1⟩, z1⟩ := I.list hl
  obtain ⟨i2, r2, ⟨o2, n2, e2, c2, d2, t2⟩, z2⟩ := I.list hb
  have l1 := r1.length
  have l2 := r2.length
  obtain ⟨k1, k2, k3, k4⟩ := o1
  obtain ⟨k5, k6, k7, k8⟩ := o2
  simp only at c1 d1 t1 c2 d2 t2
  subst c1 d1 t1 c2 d2 t2
  have sz : i1.toArray.size + i2.toArray.size ≤ sizeLine := by rw [List.size_toArray, List.size_toArray]; omega
  have mm := PyProof.Rows.list_addW l b i1.toArray i2.toArray n1 n2 none none k4 k8 sz
  refine concat_meets (T := "list") ⟨_, e1, rfl⟩ ⟨_, e2, rfl⟩ noFill_list_add seq_list_add PySem.F.slot_list_add PySem.F.entry_list_add (PySem.F.args_list_add_2 _ _) mm ⟨e1, e2, ?_⟩
  have ea : i1.toArray ++ i2.toArray = (i1 ++ i2).toArray := by simp
  rw [ea]
  exact ⟨.ref _, _, I.lnew (t' := s.toks) (r1.append r2) (by rw [List.length_append]; omega), rfl, q _ I.fresh⟩

/-! ### tuple * int -/
theorem mulW1 (l : Addr) (items : Array Value) (n : Nat) (dd : Option Addr) (sl : Array (Option Value)) (u : Tok) :
    Meets (Builtin.«tuple.__mul__» ⟨[.ref l, .int 1 u], []⟩) (fun _ R s => s.heap.get? l = some { cls := .type "tuple", dict := dd, data := .seq items n, slots := sl } ∧ R (.ok (.ret (Value.ref l))) { s with heap := s.heap, toks := s.toks }) :=
  .of_wp fun prog w A R s h => by
    obtain ⟨hp, g, d, tk, os⟩ := s
    obtain ⟨hl, h⟩ := h
    have f1 := AutoSeq1.idx_int
    wp_walk using wpAny_loadPart' hl
    repeat (first
      | (refine wpAny_ite_false (decide_eq_false (by decide)) ?_; wp_walk using wpAny_loadPart' hl)
      | (refine wpAny_ite_true (decide_eq_true (by simp)) ?_; wp_walk using wpAny_loadPart' hl))
    exact ⟨_, rfl, h⟩
theorem mulW0 (l : Addr) (items : Array Value) (n : Nat) (dd : Option Addr) (sl : Array (Option Value)) (u : Tok) (c1 : items.isEmpty = false) :
    Meets (Builtin.«tuple.__mul__» ⟨[.ref l, .int 0 u], []⟩) (fun _ R s => s.heap.get? l = some { cls := .type "tuple", dict := dd, data := .seq items n, slots := sl } ∧ R (.ok (.ret (Value.ref s.heap.objs.size))) { s with heap := s.heap.push { cls := Value.type "tuple", data := Data.seq #[] }, toks := s.toks }) :=
  .of_wp fun prog w A R s h => by
    obtain ⟨hp, g, d, tk, os⟩ := s
    obtain ⟨hl, h⟩ := h
    have f1 := AutoSeq1.idx_int
    wp_walk using wpAny_loadPart' hl
    repeat (first
      | (refine wpAny_ite_false (decide_eq_false (by decide)) ?_; wp_walk using wpAny_loadPart' hl)
      | (refine wpAny_ite_false (decide_eq_false (by rw [c1]; decide)) ?_; wp_walk using wpAny_loadPart' hl)
      | (refine wpAny_ite_true (decide_eq_true (by simp)) ?_; wp_walk using wpAny_loadPart' hl))
    exact ⟨_, rfl, h⟩
def rRepS (K : Fg) : R2 := fun x y H Q => ∃ l k xs, x = .ref l ∧ y = .int k ∧ SqT K H l xs ∧ xs ≠ [] ∧ ((k = 1 ∧ Q (.ref l) H) ∨ (k = 0 ∧ ∀ p, H p = none → Q (.ref p) (upd H p (.tup []))))
theorem op_repS {X : Cx} : OpR X (binaryOp .Mult) (rRepS X.K) := by
  intro pins s σ H x y v u Q I rx ry h
  obtain ⟨l, k, xs, rfl, rfl, hT, hne, hk⟩ := h
  cases rx
  obtain ⟨t, rfl⟩ := ry
  obtain ⟨its, r, ⟨⟨cls, dd, data, sl⟩, ho, hc, n, hd⟩, hs⟩ := I.tuple hT
  simp only at hc hd
  subst hc hd
  have hi : its.toArray.isEmpty = false := by
    cases its with
    | nil => cases r; exact absurd rfl hne
    | cons a b => rfl
  rcases hk with ⟨rfl, q⟩ | ⟨rfl, q⟩
  · have mm := mulW1 l its.toArray n dd sl t
    exact wpAny_binaryOp_repeat_ref (T := "tuple") (U := "int") (by decide) ⟨_, ho, rfl⟩ (fun s' => typeIs_int s' 1 t) L2.noFill_tuple_mul F.fills_int_mul F.slot_int_rmul L2.repeat_tuple F.slot_int_index.lookup
      (call_meets F.slot_int_rmul (typeIs_int s 1 t) F.entry_int_rmul (F.args_int_rmul_2 _ _) (L2.int_rmul_tuple 1 t l its.toArray n dd sl)
        ⟨ho, rfl, ⟨_, ho, rfl⟩, call_meets F.slot_tuple_mul ⟨_, ho, rfl⟩ F.entry_tuple_mul (F.args_tuple_mul_2 _ _) mm ⟨ho, ⟨.ref l, H, I, rfl, q⟩⟩⟩)
  · have mm := mulW0 l its.toArray n dd sl t hi
    refine wpAny_binaryOp_repeat_ref (T := "tuple") (U := "int") (by decide) ⟨_, ho, rfl⟩ (fun s' => typeIs_int s' 0 t) L2.noFill_tuple_mul F.fills_int_mul F.slot_int_rmul L2.repeat_tuple F.slot_int_index.lookup
      (call_meets F.slot_int_rmul (typeIs_int s 0 t) F.entry_int_rmul (F.args_int_rmul_2 _ _) (L2.int_rmul_tuple 0 t l its.toArray n dd sl)
        ⟨ho, rfl, ⟨_, ho, rfl⟩, call_meets F.slot_tuple_mul ⟨_, ho, rfl⟩ F.entry_tuple_mul (F.args_tuple_mul_2 _ _) mm ⟨ho, ?_⟩⟩)
    refine ⟨.ref s.heap.objs.size, _, I.laid (t' := s.toks) (o := .tup []) (fun b ob q => Heap.get?_push_of_some _ q) (Nat.le_refl _) ?_, rfl, q _ (I.hok.fresh (Nat.le_refl _))⟩
    exact ⟨Nat.zero_le _, [], .nil, IsTup.new _ _⟩
def rAddU (K : Fg) : R2 := fun x y H Q => (rI0 (fun i j => .int (i + j)) x y H Q) ∨ ((fun x y H Q => rCatA K x y H Q ∨ rCatL K x y H Q) x y H Q)
theorem op_addU {X : Cx} : OpR X (binaryOp .Add) (rAddU X.K) := op_add.or (op_catA.or op_catL)
def rMulU (K : Fg) : R2 := fun x y H Q => (rI CMul (fun i j => .int (i * j)) x y H Q) ∨ ((fun x y H Q => rRepT K x y H Q ∨ rRepS K x y H Q) x y H Q)
theorem op_mulU {X : Cx} : OpR X (binaryOp .Mult) (rMulU X.K) := op_mul.or (op_repT.or op_repS)
theorem radd_int : ROp K (rAddU K) (.int i) (.int j) (.int (i + j)) := fun M H x y t dx dy Q q => .inl (rop_I0 M H x y t dx dy Q q)
theorem radd_tup {as bs : List D} (hz : as.length + bs.length ≤ 100000) : ROp K (rAddU K) (.tuple as) (.tuple bs) (.tuple (as ++ bs)) := fun M H x y t dx dy Q q => by
  obtain ⟨a, xs, rfl, h1, d1⟩ := dx.tupI
  obtain ⟨b, ys, rfl, h2, d2⟩ := dy.tupI
  refine .inr (.inl ⟨a, b, xs, ys, rfl, rfl, seqT hide_le h1, seqT hide_le h2, Nat.le_trans (by rw [DqAll.len d1, DqAll.len d2]; exact hz) (by decide), fun e => ?_, fun _ e => ?_, fun _ _ p hp => ?_⟩)
  · subst e
    cases d1
    exact q _ H (Same.refl H) dy
  · subst e
    cases d2
    rw [List.append_nil] at q
    exact q _ H (Same.refl H) dx
  · exact q _ _ (same_new hp) (.tup ((t.upd hp)) (DqAll.app (d1.mono' (hsame (same_new hp))) (d2.mono' (hsame (same_new hp)))))
theorem radd_lst {as bs : List D} (hz : as.length + bs.length ≤ 100000) : ROp K (rAddU K) (.list as) (.list bs) (.list (as ++ bs)) := fun M H x y t dx dy Q q => by
  obtain ⟨a, xs, rfl, h1, d1⟩ := dx.lstI
  obtain ⟨b, ys, rfl, h2, d2⟩ := dy.lstI
  exact .inr (.inr ⟨a, b, xs, ys, rfl, rfl, hide_le.seq h1, hide_le.seq h2, Nat.le_trans (by rw [DqAll.len d1, DqAll.len d2]; exact hz) (by decide), fun p hp =>
    q _ _ (same_new hp) (.lst ((t.upd hp)) (DqAll.app (d1.mono' (hsame (same_new hp))) (d2.mono' (hsame (same_new hp)))))⟩)
theorem radd_T {s t : Tx} (hz : s.length + t.length ≤ 100000) : ROp K (rAddU K) (T s) (T t) (T (s ++ t)) := by
  rw [T_app]
  exact radd_tup (by rw [List.length_map, List.length_map]; exact hz)
theorem rmul_int (hc : CMul i j) : ROp K (rMulU K) (.int i) (.int j) (.int (i * j)) := fun M H x y t dx dy Q q => .inl (rop_I hc M H x y t dx dy Q q)
theorem rmul_tup {as : List D} (h0 : as ≠ []) (h1 : as.length ≤ 1000) (h2 : 0 ≤ j) (h3 : j ≤ 1000) : ROp K (rMulU K) (.tuple as) (.int j) (.tuple (List.replicate j.toNat as).flatten) := fun M H x y t dx dy Q q => by
  obtain ⟨a, xs, rfl, e1, d1⟩ := dx.tupI
  have ey := dy.intI
  subst ey
  have ne : xs ≠ [] := fun e => by
    subst e
    cases d1
    exact h0 rfl
  by_cases hj : 2 ≤ j
  · exact .inr (.inl ⟨a, j, xs, rfl, rfl, seqT hide_le e1, ne, hj, h3, by rw [DqAll.len d1]; exact h1, fun p hp => q _ _ (same_new hp) (.tup ((t.upd hp)) (DqAll.rep (d1.mono' (hsame (same_new hp))) _))⟩)
  · refine .inr (.inr ⟨a, j, xs, rfl, rfl, seqT hide_le e1, ne, ?_⟩)
    by_cases hj1 : j = 1
    · subst hj1
      refine .inl ⟨rfl, q _ H (Same.refl H) ?_⟩
      have e : (List.replicate (1 : Int).toNat as).flatten = as := by simp
      rw [e]
      exact dx
    · have hj0 : j = 0 := by omega
      subst hj0
      exact .inr ⟨rfl, fun p hp => q _ _ (same_new hp) (.tup ((t.upd hp)) .nil)⟩
theorem T_rep (t : Tx) (n : Nat) : (List.replicate n (t.map PyData.int)).flatten = ((List.replicate n t).flatten).map PyData.int := by
  induction n with
  | zero => rfl
  | succ n ih => rw [List.replicate_succ, List.replicate_succ, List.flatten_cons, List.flatten_cons, List.map_append, ih]
/-- a text so many times -/
def rep (t : Tx) (n : Nat) : Tx := (List.replicate n t).flatten
theorem rmul_T {t : Tx} (h0 : t ≠ []) (h1 : t.length ≤ 1000) (h2 : 0 ≤ j) (h3 : j ≤ 1000) : ROp K (rMulU K) (T t) (.int j) (T (rep t j.toNat)) := by
  have h := rmul_tup (K := K) (as := t.map PyData.int) (j := j) (fun e => h0 (by simpa using e)) (by rw [List.length_map]; exact h1) h2 h3
  rw [T_rep] at h
  exact h

/-! ### comparisons -/
theorem req {hu : Nat} (ha : SeqAt.shaped a = true) (hb : SeqAt.shaped b = true) : ROp K (rEqD K) a b (.bool (PyData.eqv a b)) := fun M H x y t dx dy Q q => ⟨a, b, shd ha (dx.mono' hide_le), shd hb (dy.mono' hide_le), ha, hb, q _ H (Same.refl H) (.bl _)⟩
theorem rne {hu : Nat} (ha : SeqAt.shaped a = true) (hb : SeqAt.shaped b = true) : ROp K (rNeD K) a b (.bool (!PyData.eqv a b)) := fun M H x y t dx dy Q q => ⟨a, b, shd ha (dx.mono' hide_le), shd hb (dy.mono' hide_le), ha, hb, q _ H (Same.refl H) (.bl _)⟩
theorem shaped_int : SeqAt.shaped (.int i) = true := by simp [SeqAt.shaped, PyData.canLay0, PyData.depth]
theorem shaped_non : SeqAt.shaped .none = true := by simp [SeqAt.shaped, PyData.canLay0, PyData.depth]
theorem shaped_bool {b : Bool} : SeqAt.shaped (.bool b) = true := by simp [SeqAt.shaped, PyData.canLay0, PyData.depth]
theorem lay_ints : ∀ t : Tx, PyData.canLayAll0 (t.map PyData.int) = true
  | [] => rfl
  | x :: t => by
    rw [List.map_cons]
    simp [PyData.canLayAll0, PyData.canLay0, lay_ints t]
theorem depth_ints : ∀ t : Tx, PyData.depthAll (t.map PyData.int) ≤ 1
  | [] => by simp [PyData.depthAll]
  | x :: t => by
    rw [List.map_cons]
    have := depth_ints t
    simp [PyData.depthAll, PyData.depth]; omega
theorem shaped_T (t : Tx) : SeqAt.shaped (T t) = true := by
  have h1 := lay_ints t
  have h2 := depth_ints t
  simp only [SeqAt.shaped, T, PyData.canLay0, PyData.depth, h1, Bool.true_and, decide_eq_true_eq]
  omega
theorem shaped_optT : ∀ t : Option Tx, SeqAt.shaped (optT t) = true
  | none => shaped_non
  | some t => shaped_T t
theorem eqv_ints : ∀ a b : Tx, PyData.eqvAll (a.map PyData.int) (b.map PyData.int) = decide (a = b)
  | [], [] => by simp [PyData.eqvAll]
  | [], b :: bs => by simp [PyData.eqvAll]
  | a :: as, [] => by simp [PyData.eqvAll]
  | a :: as, b :: bs => by
    rw [List.map_cons, List.map_cons]
    simp only [PyData.eqvAll, PyData.eqv, eqv_ints as bs]
    by_cases h : a = b <;> simp [h]
theorem eqv_T (a b : Tx) : PyData.eqv (T a) (T b) = decide (a = b) := by
  unfold T
  simp only [PyData.eqv]
  exact eqv_ints a b
theorem eqv_optT : ∀ a b : Option Tx, PyData.eqv (optT a) (optT b) = decide (a = b)
  | none, none => by simp [optT, PyData.eqv]
  | none, some b => by simp [optT, PyData.eqv, T]
  | some a, none => by simp [optT, PyData.eqv, T]
  | some a, some b => by
    show PyData.eqv (T a) (T b) = _
    rw [eqv_T]; simp
theorem req_T {s t : Tx} : ROp K (rEqD K) (T s) (T t) (.bool (decide (s = t))) := by
  rw [← eqv_T]; exact req (hu := 0) (shaped_T s) (shaped_T t)
theorem rne_T {s t : Tx} : ROp K (rNeD K) (T s) (T t) (.bool (!decide (s = t))) := by
  rw [← eqv_T]; exact rne (hu := 0) (shaped_T s) (shaped_T t)
theorem req_int : ROp K (rEqD K) (.int i) (.int j) (.bool (decide (i = j))) := by
  have e : PyData.eqv (.int i) (.int j) = decide (i = j) := by simp only [PyData.eqv]; exact Bool.beq_eq_decide_eq i j
  rw [← e]; exact req (hu := 0) shaped_int shaped_int
theorem rne_int : ROp K (rNeD K) (.int i) (.int j) (.bool (!decide (i = j))) := by
  have e : PyData.eqv (.int i) (.int j) = decide (i = j) := by simp only [PyData.eqv]; exact Bool.beq_eq_decide_eq i j
  rw [← e]; exact rne (hu := 0) shaped_int shaped_int
theorem req_optT {s t : Option Tx} : ROp K (rEqD K) (optT s) (optT t) (.bool (decide (s = t))) := by
  rw [← eqv_optT]; exact req (hu := 0) (shaped_optT s) (shaped_optT t)
theorem rne_optT {s t : Option Tx} : ROp K (rNeD K) (optT s) (optT t) (.bool (!decide (s = t))) := by
  rw [← eqv_optT]; exact rne (hu := 0) (shaped_optT s) (shaped_optT t)
/-- is None -/
def isNon : D → Bool
  | .none => true
  | _ => false
theorem non_dec {H : Hp} {v : V} {d : D} (h : Dq K H v d) : decide (v = .non) = isNon d := by
  cases h <;> simp [isNon]
def rIsN : R2 := fun x y H Q => y = .non ∧ Q (.bl (decide (x = .non))) H
def rNotN : R2 := fun x y H Q => y = .non ∧ Q (.bl (!decide (x = .non))) H
theorem op_isNN {X : Cx} : OpR X (compareOp .Is) rIsN := op_isN
theorem op_notNN {X : Cx} : OpR X (compareOp .IsNot) rNotN := op_notN
theorem ris_N : ROp K rIsN a .none (.bool (isNon a)) := fun M H x y t dx dy Q q => ⟨dy.nonI, by rw [non_dec dx]; exact q _ H (Same.refl H) (.bl _)⟩
theorem rnot_N : ROp K rNotN a .none (.bool (!isNon a)) := fun M H x y t dx dy Q q => ⟨dy.nonI, by rw [non_dec dx]; exact q _ H (Same.refl H) (.bl _)⟩
theorem isNon_optT : ∀ o : Option Tx, isNon (optT o) = o.isNone
  | none => rfl
  | some _ => rfl
theorem ris_B {s t : Bool} : ROp K rIsB (.bool s) (.bool t) (.bool (decide (s = t))) := fun M H x y _ dx dy Q q => ⟨s, t, dx.blI, dy.blI, q _ H (Same.refl H) (.bl _)⟩
/-! ### in -/
def flatD : D → Bool
  | .none | .bool _ | .int _ | .str _ => true
  | _ => false
def eqF : D → D → Bool
  | .none, .none => true
  | .bool a, .bool b => a == b
  | .bool a, .int b => (if a then 1 else 0) == b
  | .int a, .bool b => a == (if b then 1 else 0)
  | .int a, .int b => a == b
  | .str a, .str b => a == b
  | _, _ => false
theorem flat_V {H : Hp} {v : V} {d : D} (h : Dq K H v d) (f : flatD d = true) : flatV v = true := by
  cases h <;> first | rfl | (cases f)
theorem eq_V {H : Hp} {v w : V} {d e : D} (h : Dq K H v d) (h' : Dq K H w e) (f : flatD d = true) (f' : flatD e = true) : eqV v w = eqF d e := by
  cases h <;> first | (cases f; done) | (cases h' <;> first | rfl | (cases f'; done))
theorem flat_all {H : Hp} : ∀ {vs : List V} {ds : List D}, DqAll K H vs ds → ds.all flatD = true → vs.all flatV = true
  | _, _, .nil, _ => rfl
  | _, _, .cons r t, f => by
    rw [List.all_cons, Bool.and_eq_true_iff] at f ⊢
    exact ⟨flat_V r f.1, flat_all t f.2⟩
def inF (d : D) (ds : List D) : Bool := ds.any fun e => eqF e d
theorem in_V {H : Hp} {v : V} {d : D} (h : Dq K H v d) (f : flatD d = true) : ∀ {vs : List V} {ds : List D}, DqAll K H vs ds → ds.all flatD = true → inV v vs = inF d ds
  | _, _, .nil, _ => rfl
  | _, _, .cons r t, f' => by
    rw [List.all_cons, Bool.and_eq_true_iff] at f'
    have ih := in_V h f t f'.2
    unfold inV inF at ih ⊢
    rw [List.any_cons, List.any_cons, eq_V r h f'.1 f, ih]
theorem rin_tup {neg : Bool} {ds : List D} (f : flatD a = true) (fs : ds.all flatD = true) : ROp K (rIn K neg) a (.tuple ds) (.bool (if neg then !inF a ds else inF a ds)) := fun M H x y t dx dy Q q => by
  obtain ⟨p, xs, rfl, h1, d1⟩ := dy.tupI
  refine ⟨p, xs, rfl, .inr (seqT hide_le h1), flat_V dx f, flat_all d1 fs, ?_⟩
  rw [in_V dx f d1 fs]
  exact q _ H (Same.refl H) (.bl _)
theorem rin_lst {neg : Bool} {ds : List D} (f : flatD a = true) (fs : ds.all flatD = true) : ROp K (rIn K neg) a (.list ds) (.bool (if neg then !inF a ds else inF a ds)) := fun M H x y t dx dy Q q => by
  obtain ⟨p, xs, rfl, h1, d1⟩ := dy.lstI
  refine ⟨p, xs, rfl, .inl (hide_le.seq h1), flat_V dx f, flat_all d1 fs, ?_⟩
  rw [in_V dx f d1 fs]
  exact q _ H (Same.refl H) (.bl _)
/-! ### items, slices -/
theorem atI_V {H : Hp} {vs : List V} {ds : List D} {i : Int} {d : D} (h : DqAll K H vs ds) (e : atI ds i = some d) : ∃ v, atI vs i = some v ∧ Dq K H v d := by
  unfold atI at e ⊢
  rw [DqAll.len h]
  cases q : ixN ds.length i with
  | none => rw [q] at e; cases e
  | some j =>
    rw [q] at e
    exact DqAll.get h e
theorem rix_tup {ds : List D} (e : atI ds i = some d) : ROp K (rIx K) (.tuple ds) (.int i) d := fun M H x y t dx dy Q q => by
  obtain ⟨p, xs, rfl, h1, d1⟩ := dx.tupI
  obtain ⟨v, h2, h3⟩ := atI_V d1 e
  exact .inr (.inl ⟨p, xs, i, v, rfl, dy.intI, seqT hide_le h1, h2, q v H (Same.refl H) h3⟩)
theorem rix_lst {ds : List D} (e : atI ds i = some d) : ROp K (rIx K) (.list ds) (.int i) d := fun M H x y t dx dy Q q => by
  obtain ⟨p, xs, rfl, h1, d1⟩ := dx.lstI
  obtain ⟨v, h2, h3⟩ := atI_V d1 e
  exact .inl ⟨p, xs, i, v, rfl, dy.intI, hide_le.seq h1, h2, q v H (Same.refl H) h3⟩
def cutX {α : Type} (xs : List α) (lo hi : Option Int) : List α := (xs.drop (HT.sIx xs.length 0 lo)).take (HT.sIx xs.length xs.length hi - HT.sIx xs.length 0 lo)
theorem cutX_dp {H : Hp} {vs : List V} {ds : List D} (h : DqAll K H vs ds) (lo hi : Option Int) : DqAll K H (cutV vs lo hi) (cutX ds lo hi) := by
  unfold cutV cutX
  rw [DqAll.len h]
  exact DqAll.take' _ (DqAll.drop' _ h)
def rSlU (K : Fg) : V → Option Int → Option Int → Hp → VK → Prop := fun x lo hi H Q => rSlA K x lo hi H Q ∨ rSlL K x lo hi H Q
theorem sl_U {X : Cx} : SlR X (rSlU X.K) := sl_tupA.or sl_list
theorem rsl_tup {ds : List D} {lo hi : Option Int} : RSl K (rSlU K) (.tuple ds) lo hi (.tuple (cutX ds lo hi)) := fun M H x t dx Q q => by
  obtain ⟨p, xs, rfl, h1, d1⟩ := dx.tupI
  refine .inl ⟨p, xs, rfl, seqT hide_le h1, fun hw => ?_, fun _ p hp => ?_⟩
  · have e : cutX ds lo hi = ds := by
      unfold cutX
      rw [← DqAll.len d1, hw.1, hw.2, List.drop_zero, Nat.sub_zero, DqAll.len d1, List.take_length]
    refine q _ H (Same.refl H) ?_
    rw [e]
    exact dx
  · exact q _ _ (same_new hp) (.tup ((t.upd hp)) (cutX_dp (d1.mono' (hsame (same_new hp))) lo hi))
theorem rsl_lst {ds : List D} {lo hi : Option Int} : RSl K (rSlU K) (.list ds) lo hi (.list (cutX ds lo hi)) := fun M H x t dx Q q => by
  obtain ⟨p, xs, rfl, h1, d1⟩ := dx.lstI
  exact .inr ⟨p, xs, rfl, hide_le.seq h1, fun p hp => q _ _ (same_new hp) (.lst ((t.upd hp)) (cutX_dp (d1.mono' (hsame (same_new hp))) lo hi))⟩
theorem cutX_map {α β : Type} (f : α → β) (xs : List α) (lo hi : Option Int) : cutX (xs.map f) lo hi = (cutX xs lo hi).map f := by
  unfold cutX
  rw [List.length_map, List.map_take, List.map_drop]
theorem rsl_T {t : Tx} {lo hi : Option Int} : RSl K (rSlU K) (T t) lo hi (T (cutX t lo hi)) := by
  have h := rsl_tup (K := K) (ds := t.map PyData.int) (lo := lo) (hi := hi)
  rw [cutX_map] at h
  exact h
theorem sIx_nat' (n d : Nat) {i : Int} {k : Nat} (h : i = (k : Int)) (hk : k ≤ n) : HT.sIx n d (some i) = k := by
  rw [h, HT.sIx_nat]; omega
theorem cut_pre {α : Type} {xs : List α} {i : Int} {k : Nat} (h : i = (k : Int)) : cutX xs none (some i) = xs.take k := by
  unfold cutX
  rw [h, HT.sIx_nat, HT.sIx_none, List.drop_zero, Nat.sub_zero]
  rcases Nat.le_total k xs.length with q | q
  · rw [Nat.min_eq_left q]
  · rw [Nat.min_eq_right q, List.take_of_length_le q, List.take_of_length_le (Nat.le_refl _)]
theorem cut_suf {α : Type} {xs : List α} {i : Int} {k : Nat} (h : i = (k : Int)) : cutX xs (some i) none = xs.drop k := by
  unfold cutX
  rw [h, HT.sIx_nat, HT.sIx_none]
  rcases Nat.le_total k xs.length with q | q
  · rw [Nat.min_eq_left q, ← List.length_drop, List.take_length]
  · rw [Nat.min_eq_right q, List.drop_of_length_le q, List.drop_of_length_le (Nat.le_refl _)]; simp
theorem cut_mid {α : Type} {xs : List α} {i j : Int} {k l : Nat} (h : i = (k : Int)) (h' : j = (l : Int)) : cutX xs (some i) (some j) = (xs.drop k).take (l - k) := by
  unfold cutX
  rw [h, h', HT.sIx_nat, HT.sIx_nat]
  rcases Nat.le_total k xs.length with q | q
  · rw [Nat.min_eq_left q]
    rcases Nat.le_total l xs.length with q2 | q2
    · rw [Nat.min_eq_left q2]
    · rw [Nat.min_eq_right q2, List.take_of_length_le (l := xs.drop k) (by rw [List.length_drop]; omega), List.take_of_length_le (l := xs.drop k) (by rw [List.length_drop]; omega)]
  · rw [Nat.min_eq_right q, List.drop_of_length_le q, List.drop_of_length_le (Nat.le_refl _)]; simp
/-- t[:-k] -/
theorem cut_neg {α : Type} {xs : List α} {k : Nat} (h0 : 0 < k) (h : k ≤ xs.length) : cutX xs none (some (-(k : Int))) = xs.take (xs.length - k) := by
  unfold cutX
  rw [HT.sIx_none, List.drop_zero, Nat.sub_zero]
  congr 1
  have e := HT.clip_eq (-(k : Int)) xs.length xs.length
  rw [if_pos (by omega)] at e
  omega
end
end CB

/-! D4 -/
set_option Elab.async false
set_option linter.all false
set_option maxRecDepth 100000
set_option maxHeartbeats 4000000
namespace CB
open PySem PySem.Spec PyProof.Rows L2
section
variable {K : Fg} {Γ : List Sl} {ta tb te tc : TE} {a b d : D} {i j : Int}
/-! ### len, tuple, list, all -/
def rLenA (K : Fg) : List V → Hp → VK → Prop := fun xs H Q => ∃ x n, xs = [x] ∧ LenV K x H n ∧ Q (.int n) H
theorem call_lenA {X : Cx} : CallR X (.builtin "len") (rLenA X.K) := call_len
theorem rlen_tup {ds : List D} : RCa K (rLenA K) [.tuple ds] (.int ds.length) := fun M H xs t dx Q q => by
  cases dx with
  | cons h1 h2 =>
    cases h2
    obtain ⟨p, ys, rfl, s1, d1⟩ := h1.tupI
    refine ⟨_, ys.length, rfl, .inr ⟨ys, seqT hide_le s1, rfl⟩, ?_⟩
    rw [DqAll.len d1]
    exact q _ H (Same.refl H) (.int _)
theorem rlen_lst {ds : List D} : RCa K (rLenA K) [.list ds] (.int ds.length) := fun M H xs t dx Q q => by
  cases dx with
  | cons h1 h2 =>
    cases h2
    obtain ⟨p, ys, rfl, s1, d1⟩ := h1.lstI
    refine ⟨_, ys.length, rfl, .inl ⟨ys, hide_le.seq s1, rfl⟩, ?_⟩
    rw [DqAll.len d1]
    exact q _ H (Same.refl H) (.int _)
theorem rlen_str {s : Str} (hs : s.length ≤ 1000) : RCa K (rLenA K) [.str s] (.int s.length) := fun M H xs t dx Q q => by
  cases dx with
  | cons h1 h2 =>
    cases h2
    cases h1
    exact ⟨_, s.length, rfl, ⟨Nat.le_trans hs (by decide), rfl⟩, q _ H (Same.refl H) (.int _)⟩
theorem rlen_T {t : Tx} : RCa K (rLenA K) [T t] (.int t.length) := by
  have h := rlen_tup (K := K) (ds := t.map PyData.int)
  rw [List.length_map] at h
  exact h
def rTupA (K : Fg) : List V → Hp → VK → Prop := fun xs H Q => ∃ p ys, xs = [.ref p] ∧ ((SqL K H p ys ∧ ∀ l, H l = none → Q (.ref l) (upd H l (.tup ys))) ∨ (SqT K H p ys ∧ Q (.ref p) H))
theorem call_tupA {X : Cx} : CallR X (.type "tuple") (rTupA X.K) := call_tuple_of
theorem rtup_tup {ds : List D} : RCa K (rTupA K) [.tuple ds] (.tuple ds) := fun M H xs t dx Q q => by
  cases dx with
  | cons h1 h2 =>
    cases h2
    obtain ⟨p, ys, rfl, s1, d1⟩ := h1.tupI
    exact ⟨p, ys, rfl, .inr ⟨seqT hide_le s1, q _ H (Same.refl H) h1⟩⟩
theorem rtup_lst {ds : List D} : RCa K (rTupA K) [.list ds] (.tuple ds) := fun M H xs t dx Q q => by
  cases dx with
  | cons h1 h2 =>
    cases h2
    obtain ⟨p, ys, rfl, s1, d1⟩ := h1.lstI
    exact ⟨p, ys, rfl, .inl ⟨hide_le.seq s1, fun l hl => q _ _ (same_new hl) (.tup ((t.upd hl)) (d1.mono' (hsame (same_new hl))))⟩⟩
def rLstA (K : Fg) : List V → Hp → VK → Prop := fun xs H Q => ∃ p ys, xs = [.ref p] ∧ (SqL K H p ys ∨ SqT K H p ys) ∧ ∀ l, H l = none → Q (.ref l) (upd H l (.lst ys))
theorem call_lstA {X : Cx} : CallR X (.type "list") (rLstA X.K) := call_list_of
theorem rlst_tup {ds : List D} : RCa K (rLstA K) [.tuple ds] (.list ds) := fun M H xs t dx Q q => by
  cases dx with
  | cons h1 h2 =>
    cases h2
    obtain ⟨p, ys, rfl, s1, d1⟩ := h1.tupI
    exact ⟨p, ys, rfl, .inr (seqT hide_le s1), fun l hl => q _ _ (same_new hl) (.lst ((t.upd hl)) (d1.mono' (hsame (same_new hl))))⟩
theorem rlst_lst {ds : List D} : RCa K (rLstA K) [.list ds] (.list ds) := fun M H xs t dx Q q => by
  cases dx with
  | cons h1 h2 =>
    cases h2
    obtain ⟨p, ys, rfl, s1, d1⟩ := h1.lstI
    exact ⟨p, ys, rfl, .inl (hide_le.seq s1), fun l hl => q _ _ (same_new hl) (.lst ((t.upd hl)) (d1.mono' (hsame (same_new hl))))⟩
theorem rall {bs : List Bool} : RCa K (rAll K) [.list (bs.map PyData.bool)] (.bool (bs.all id)) := fun M H xs t dx Q q => by
  cases dx with
  | cons h1 h2 =>
    cases h2
    obtain ⟨p, ys, rfl, s1, d1⟩ := h1.lstI
    have e := DqAll.of_bls d1
    subst e
    exact ⟨p, bs, rfl, hide_le.seq s1, q _ H (Same.refl H) (.bl _)⟩
theorem rsum {ns : List Int} : RCa K (rSum K) [.list (ns.map PyData.int)] (.int ns.sum) := fun M H xs t dx Q q => by
  cases dx with
  | cons h1 h2 =>
    cases h2
    obtain ⟨p, ys, rfl, s1, d1⟩ := h1.lstI
    have e := DqAll.of_ints d1
    subst e
    exact ⟨p, ns, rfl, hide_le.seq s1, q _ H (Same.refl H) (.int _)⟩
/-! ### ints -/
def rMin2 : List V → Hp → VK → Prop := fun xs H Q => ∃ i j, xs = [.int i, .int j] ∧ Q (.int (if j < i then j else i)) H
def rMax2 : List V → Hp → VK → Prop := fun xs H Q => ∃ i j, xs = [.int i, .int j] ∧ Q (.int (if j > i then j else i)) H
def rAbs : List V → Hp → VK → Prop := fun xs H Q => ∃ i, xs = [.int i] ∧ Q (.int (if i < 0 then -i else i)) H
def rInt1 : List V → Hp → VK → Prop := fun xs H Q => (∃ i, xs = [.int i] ∧ Q (.int i) H) ∨ ∃ k, xs = [.bl k] ∧ Q (.int (if k then 1 else 0)) H
theorem call_min2A {X : Cx} (hc : X.calm = true) : CallR X (.builtin "min") rMin2 := call_min2 hc
theorem call_max2A {X : Cx} (hc : X.calm = true) : CallR X (.builtin "max") rMax2 := call_max2 hc
theorem call_absA {X : Cx} : CallR X (.builtin "abs") rAbs := call_abs
theorem call_int1A {X : Cx} : CallR X (.type "int") rInt1 := call_int1
theorem dpa1 {H : Hp} {xs : List V} {d : D} (h : DqAll K H xs [d]) : ∃ v, xs = [v] ∧ Dq K H v d := by
  cases h with
  | cons h1 h2 => cases h2; exact ⟨_, rfl, h1⟩
theorem dpa2 {H : Hp} {xs : List V} {d e : D} (h : DqAll K H xs [d, e]) : ∃ v w, xs = [v, w] ∧ Dq K H v d ∧ Dq K H w e := by
  cases h with
  | cons h1 h2 =>
    obtain ⟨w, rfl, h3⟩ := dpa1 h2
    exact ⟨_, _, rfl, h1, h3⟩
theorem rmin2 : RCa K rMin2 [.int i, .int j] (.int (min i j)) := fun M H xs t dx Q q => by
  obtain ⟨v, w, rfl, h1, h2⟩ := dpa2 dx
  cases h1
  cases h2
  refine ⟨i, j, rfl, ?_⟩
  have e : (if j < i then j else i) = min i j := by
    by_cases h : j < i
    · rw [if_pos h]; omega
    · rw [if_neg h]; omega
  rw [e]
  exact q _ H (Same.refl H) (.int _)
theorem rmax2 : RCa K rMax2 [.int i, .int j] (.int (max i j)) := fun M H xs t dx Q q => by
  obtain ⟨v, w, rfl, h1, h2⟩ := dpa2 dx
  cases h1
  cases h2
  refine ⟨i, j, rfl, ?_⟩
  have e : (if j > i then j else i) = max i j := by
    by_cases h : j > i
    · rw [if_pos h]; omega
    · rw [if_neg h]; omega
  rw [e]
  exact q _ H (Same.refl H) (.int _)
theorem rabs : RCa K rAbs [.int i] (.int (i.natAbs : Int)) := fun M H xs t dx Q q => by
  obtain ⟨v, rfl, h1⟩ := dpa1 dx
  cases h1
  refine ⟨i, rfl, ?_⟩
  have e : (if i < 0 then -i else i) = (i.natAbs : Int) := by
    by_cases h : i < 0
    · rw [if_pos h]; omega
    · rw [if_neg h]; omega
  rw [e]
  exact q _ H (Same.refl H) (.int _)
theorem rint1 : RCa K rInt1 [.int i] (.int i) := fun M H xs t dx Q q => by
  obtain ⟨v, rfl, h1⟩ := dpa1 dx
  cases h1
  exact .inl ⟨i, rfl, q _ H (Same.refl H) (.int _)⟩
/-! ### isinstance, of locked dicts too -/
end
def TyZ (K : Fg) (H : Hp) (x : V) (t : Value) : Prop := TyX K H x t ∨ ∃ (a : Addr) (o : Obj) (kvs : List (List Key × V)), x = .ref a ∧ H a = some (.frz o (.dT kvs)) ∧ t = .type "dict"
theorem kit_ofZ {X : Cx} {pins : List (Addr × Obj)} {σ : L2.St} {H : Hp} {s : Shared} {x : V} {u t : Value} (I : Inv X pins σ H s) (rx : RelV x u) (ty : TyZ X.K H x t) : ∃ P : Heap → Prop, PySem.W.KitX X.K u t P ∧ P s.heap ∧ u ≠ .builtin "__main__.__loader__#opaque" := by
  rcases ty with ty | ⟨a, o, kvs, rfl, h, rfl⟩
  · exact kit_of I rx ty
  · cases (show u = Value.ref a from rx)
    obtain ⟨_, g, x, _⟩ := I.frzT h
    exact ⟨_, PySem.W.kitx_dict, ⟨o, g, x.1⟩, fun z => nomatch z⟩
def rIsi (K : PySem.W.Frag) : List V → Hp → VK → Prop := fun xs H Q => ∃ (x c : V) (t u : Value) (b : Bool), xs = [x, c] ∧ ClsV c u ∧ TyZ K H x t ∧ PySem.W.kitOne K t u = some b ∧ Q (.bl b) H
def rIsiT (K : PySem.W.Frag) : List V → Hp → VK → Prop := fun xs H Q => ∃ (x : V) (tp : Addr) (cs : List V) (t : Value) (us : List Value) (b : Bool), xs = [x, .ref tp] ∧ H tp = some (.tup cs) ∧ Paired ClsV cs us ∧ TyZ K H x t ∧ PySem.W.kitAny K t us = some b ∧ Q (.bl b) H
theorem call_isi {X : Cx} : CallR X (.builtin "isinstance") (rIsi X.K) := by
  intro pins s σ H xs us Q I r h
  obtain ⟨x, c, t, u, b, rfl, k, ty, e, q⟩ := h
  obtain ⟨u1, u2, rfl, r1, r2⟩ := vals2 r
  have e2 := k.eq r2
  subst e2
  obtain ⟨P, Z, p, hx⟩ := kit_ofZ I r1 ty
  exact PySem.W.kia_one Z I.kIn p e hx fun tk => ⟨.bl b, H, I.tok tk, rfl, q⟩
theorem call_isiT {X : Cx} : CallR X (.builtin "isinstance") (rIsiT X.K) := by
  intro pins s σ H xs us Q I r h
  obtain ⟨x, tp, cs, t, ws, b, rfl, hT, k, ty, e, q⟩ := h
  obtain ⟨u1, u2, rfl, r1, r2⟩ := vals2 r
  cases (show u2 = Value.ref tp from r2)
  obtain ⟨P, Z, p, hx⟩ := kit_ofZ I r1 ty
  obtain ⟨_, its, rv, o, h1, h2, n, h3⟩ := (show ObjOk X.prog X.w H s.heap tp (.tup cs) from I.hok tp _ hT)
  have e3 := ClsV.all k rv
  subst e3
  obtain ⟨oc, od, dt, sl⟩ := o
  simp only at h2 h3
  subst h2 h3
  exact PySem.W.kia_tup Z I.kIn p h1 e hx fun tk => ⟨.bl b, H, I.tok tk, rfl, q⟩
section
variable {K : Fg} {Γ : List Sl} {ta tb te tc : TE} {a b d : D} {r r' : R2} {i j : Int}
/-! ### isinstance -/
def tyOf : D → String
  | .none => "NoneType"
  | .bool _ => "bool"
  | .int _ => "int"
  | .str _ => "str"
  | .list _ => "list"
  | .tuple _ => "tuple"
  | .dict _ => "dict"
theorem tyx {H : Hp} {v : V} {d : D} (h : Dq K H v d) : TyZ K H v (.type (tyOf d)) := by
  cases h with
  | non => exact .inl (.base .non)
  | bl b => exact .inl (.base (.bl b))
  | int i => exact .inl (.base (.int i))
  | str x => exact .inl (.base (.str x))
  | lst hs _ => exact .inl (.base (.lst hs))
  | tup hs _ => exact .inl (.base (.tup hs))
  | dic hs _ => exact .inl (.base (.dT hs))
  | dcl hs _ => exact .inr ⟨_, _, _, rfl, hs, rfl⟩
def isTyN (n t : String) : Bool := t == n || (t == "bool" && n == "int")
def isTy (n : String) (d : D) : Bool := isTyN n (tyOf d)
def tyAll : List String := ["NoneType", "bool", "int", "str", "list", "tuple", "dict"]
theorem kit_all {n : String} (h : (tyAll.all fun t => decide (kitB t n = some (isTyN n t))) = true) (d : D) : kitB (tyOf d) n = some (isTy n d) := by
  have m : tyOf d ∈ tyAll := by
    cases d with
    | dict k => exact .tail _ (.tail _ (.tail _ (.tail _ (.tail _ (.tail _ (.head _))))))
    | none => exact .head _
    | bool b => exact .tail _ (.head _)
    | int b => exact .tail _ (.tail _ (.head _))
    | str b => exact .tail _ (.tail _ (.tail _ (.head _)))
    | list b => exact .tail _ (.tail _ (.tail _ (.tail _ (.head _))))
    | tuple b => exact .tail _ (.tail _ (.tail _ (.tail _ (.tail _ (.head _)))))
  exact of_decide_eq_true (List.all_eq_true.mp h _ m)
theorem kit_int : ∀ d : D, kitB (tyOf d) "int" = some (isTy "int" d) := kit_all (by decide +kernel)
theorem kit_bool : ∀ d : D, kitB (tyOf d) "bool" = some (isTy "bool" d) := kit_all (by decide +kernel)
theorem kit_str : ∀ d : D, kitB (tyOf d) "str" = some (isTy "str" d) := kit_all (by decide +kernel)
theorem kit_list : ∀ d : D, kitB (tyOf d) "list" = some (isTy "list" d) := kit_all (by decide +kernel)
theorem kit_tuple : ∀ d : D, kitB (tyOf d) "tuple" = some (isTy "tuple" d) := kit_all (by decide +kernel)
theorem evd_isi {n : String} (hk : ∀ d : D, kitB (tyOf d) n = some (isTy n d)) (h : EvD K ta Γ d) : EvD K (tCB (rIsi K) (tCons ta (tCons (tC (.ty n)) tNil))) Γ (.bool (isTy n d)) := fun M σ H T S Q q =>
  h M σ H T S _ fun v H1 e1 d1 => ⟨v, .ty n, .type (tyOf d), .type n, isTy n d, rfl, ClsV.ty n, tyx (d1.mono' hide_le), kit_ty (hk d), q _ H1 e1 (.bl _)⟩
def isSeq (d : D) : Bool := isTy "list" d || isTy "tuple" d
theorem evd_isq (h : EvD K ta Γ d) : EvD K (tCB (rIsiT K) (tCons ta (tCons (tTup (tCons (tC (.ty "list")) (tCons (tC (.ty "tuple")) tNil))) tNil))) Γ (.bool (isSeq d)) := fun M σ H T S Q q =>
  h M σ H T S _ fun v H1 e1 d1 => ⟨by decide, fun p hp => ⟨v, p, [.ty "list", .ty "tuple"], .type (tyOf d), [.type "list", .type "tuple"], isSeq d, rfl, upd_same, .cons (ClsV.ty _) (.cons (ClsV.ty _) .nil),
    tyx ((d1.mono' hide_le).mono' (same_new hp)), kitAny_cons (kit_ty (kit_list d)) (fun e => by
      unfold isSeq
      rw [e, Bool.false_or]
      exact kitAny_cons (kit_ty (kit_tuple d)) (fun e2 => by rw [e2]; exact kitAny_nil) (fun e2 => e2)) (fun e => by unfold isSeq; rw [e]; rfl), q _ _ (e1.trans (same_new hp)) (.bl _)⟩⟩
end
end CB

/-! D5 -/
set_option Elab.async false
set_option linter.all false
set_option maxRecDepth 100000
set_option maxHeartbeats 4000000
namespace CB
open PySem PySem.Spec PyProof.Rows L2
/-! ### defs and their promises -/
theorem wideF {P : Program} {w : World} {K : Fg} {mg : Str → Option Value} {base : Heap} {CX : CXT} {k : Nat} {f : Addr} {fd : FuncData} {ps : List Str} {sp : Sp} (F : FnOk P w K mg base CX0 k f fd ps sp) : FnOk P w K mg base CX k f fd ps sp :=
  ⟨F.len, fun A outer s H args us vs Q E hr e0 hb hv hs => codeAny_mono (F.run A outer s H args us vs Q E hr e0 hb hv hs) fun r s' h => by
    cases r with
    | ok fl => cases fl <;> exact h
    | error e => exact (show False from h).elim⟩
abbrev FnP (K : Fg) (x : Str) (st : Stmt) (dvs : List V) (fd : FuncData) : Prop := FunD K x x (defArgs st) (defBody st) (defScope st) dvs [] (He.ga K x) fd
structure HasF (P : Program) (w : World) (K : Fg) (mg : Str → Option Value) (base : Heap) (k : Nat) (x : Str) (ps : List Str) (ds : List Value) (sp : Sp) : Prop where
  mgx : mg x = some (.ref (He.ga K x))
  kp : PySem.W.keepIn K (.ref (He.ga K x)) = true
  ex : ∃ fd, FnOk P w K mg base (L2.CX P w) k (He.ga K x) fd ps sp ∧ Binds K fd ps ds
section
variable {X : Cx} {k : Nat} {x : Str} {ps : List Str} {sp : Sp} {dvs : List V} {ds : List Value} {E : XK} {p pos : Pos} {e : Expr} {es : List Expr} {t : TA}
theorem pe_fd (F : HasF X.prog X.w X.K X.mg X.base k x ps ds sp) (hr : Room k X.A) (hg : Gl X x) (hd : Vals dvs ds) (hx : Passes (L2.CX X.prog X.w) X E) (ha : PA X (e :: es) t) (hdb : (x == ("__debug__" : Str)) = false := by decide)
    (he : starEach (e :: es) X.env = (false, eval e X.env) :: starEach es X.env := by rfl) (hpl : (backTo pos (starEach es X.env)).any (·.1) = false := by rfl) : PE X (.Call (.Name x p) (e :: es) [] pos) (tCall sp dvs E t) := by
  obtain ⟨fd, G, b⟩ := F.ex
  exact pe_call G hr hg F.mgx F.kp b hd hx ha hdb he hpl
/-- a call that lets nothing out -/
theorem pe_f (F : HasF X.prog X.w X.K X.mg X.base k x ps [] sp) (hr : Room k X.A) (ha : PA X (e :: es) t) (hg : Gl X x := by rfl) (hdb : (x == ("__debug__" : Str)) = false := by decide)
    (he : starEach (e :: es) X.env = (false, eval e X.env) :: starEach es X.env := by rfl) (hpl : (backTo pos (starEach es X.env)).any (·.1) = false := by rfl) : PE X (.Call (.Name x p) (e :: es) [] pos) (tCall sp [] E0 t) :=
  pe_fd F hr hg .nil passL ha hdb he hpl
end
def startG (N : List Str) (ds : List D) : List Sl := ds.map Sl.dat ++ List.replicate (N.length - ds.length) Sl.un
theorem envd_startG {K : Fg} {G : Hp} {N : List Str} {vs : List V} {ds : List D} (h : DqAll K G vs ds) : EnvD K G (L2.start N vs) (startG N ds) := by
  unfold L2.start startG
  rw [DqAll.len h]
  exact envd_start h
def outOf : Res → Out
  | .ok d => .rt d
  | .er k i => .er k i
section
variable {P : Program} {w : World} {K : Fg} {mg : Str → Option Value} {base : Heap}
theorem fnD {x : Str} {st : Stmt} {N ps : List Str} {k : Nat} {F : List D → Res → Prop} {dvs : List V} {f : Addr} {fd : FuncData} (Fu : FunD K x x (defArgs st) (defBody st) (defScope st) dvs [] f fd) (S : FnScope N ps (defScope st))
    (hF : ∀ ds r, F ds r → ds.length = ps.length ∧ ∃ d, r = .ok d)
    (hb : ∀ (cdv : Value) (A : Around) (outer : List Env) (s : Shared) (H : Hp) (E : XK), Room k (A.deeper (envOfC x (defScope st) s.heap.objs.size f cdv)) →
      ∃ t, PSs (cxOf CX0 P w K mg base N x (defScope st) f cdv A outer s H E).nox (defBody st) t ∧ ∀ ds d, F ds (.ok d) → RunD K E0 t (startG N ds) (.rt d)) : FnOk P w K mg base (L2.CX P w) (k + 1) f fd ps (spD K F) := by
  refine wideF (Fu.ok S (fun vs H Q E h => ?_) (fun cdv A outer s H vs Q E hr h => ?_))
  · obtain ⟨M, ds, r, _, dp, hf, _⟩ := h
    rw [DqAll.len dp]
    exact (hF ds r hf).1
  · obtain ⟨M, ds, r, T, dp, hf, hq⟩ := h
    obtain ⟨d, rfl⟩ := (hF ds r hf).2
    obtain ⟨t, h1, h2⟩ := hb cdv A outer s H E hr
    refine ⟨t, h1.nox, h2 ds d hf M _ H _ T (envd_startG dp) ?_⟩
    exact fun v H' e d' => hq v H' e d'
theorem fnX {x : Str} {st : Stmt} {N ps : List Str} {k : Nat} {F : List D → Res → Prop} {dvs : List V} {f : Addr} {fd : FuncData} (Fu : FunD K x x (defArgs st) (defBody st) (defScope st) dvs [] f fd) (S : FnScope N ps (defScope st))
    (hF : ∀ ds r, F ds r → ds.length = ps.length)
    (hb : ∀ (cdv : Value) (A : Around) (outer : List Env) (s : Shared) (H : Hp) (E : XK), Room k (A.deeper (envOfC x (defScope st) s.heap.objs.size f cdv)) →
      Takes (cxOf (L2.CX P w) P w K mg base N x (defScope st) f cdv A outer s H E) (fun cls d _ H' => E cls d H') → Passes (L2.CX P w) (cxOf (L2.CX P w) P w K mg base N x (defScope st) f cdv A outer s H E) E →
      PassesOwn (model P w) (cxOf (L2.CX P w) P w K mg base N x (defScope st) f cdv A outer s H E).A (cxOf (L2.CX P w) P w K mg base N x (defScope st) f cdv A outer s H E).env (cxOf (L2.CX P w) P w K mg base N x (defScope st) f cdv A outer s H E).xe →
      ∃ t, PSs (cxOf (L2.CX P w) P w K mg base N x (defScope st) f cdv A outer s H E) (defBody st) t ∧ ∀ ds r, F ds r → RunD K E t (startG N ds) (outOf r)) : FnOk P w K mg base (L2.CX P w) (k + 1) f fd ps (spD K F) := by
  refine Fu.ok S (fun vs H Q E h => ?_) (fun cdv A outer s H vs Q E hr h => ?_)
  · obtain ⟨M, ds, r, _, dp, hf, _⟩ := h
    rw [DqAll.len dp]
    exact hF ds r hf
  · obtain ⟨M, ds, r, T, dp, hf, hq⟩ := h
    have tk : Takes (cxOf (L2.CX P w) P w K mg base N x (defScope st) f cdv A outer s H E) (fun cls d _ H' => E cls d H') := takes_of (E := E) rfl rfl rfl rfl
    obtain ⟨t, h1, h2⟩ := hb cdv A outer s H E hr tk (passes_call tk fun _ _ _ _ h => h) (passes_of (K := fun e s'' => L2.CX P w outer H s E e s'') rfl)
    refine ⟨t, h1, h2 ds r hf M _ H _ T (envd_startG dp) ?_⟩
    cases r with
    | ok d => exact fun v H' e d' => hq v H' e d'
    | er k i => exact fun v H' e d' => hq v H' e d'
end
/-- the built-in names are the built-ins -/
structure Bl (mg : Str → Option Value) : Prop where
  isinstance : mg "isinstance" = none
  int : mg "int" = none
  bool : mg "bool" = none
  str : mg "str" = none
  list : mg "list" = none
  tuple : mg "tuple" = none
  all : mg "all" = none
  len : mg "len" = none
  enumerate : mg "enumerate" = none
  zip : mg "zip" = none
  min : mg "min" = none
  range : mg "range" = none
  set : mg "set" = none
  sorted : mg "sorted" = none
  abs : mg "abs" = none
  max : mg "max" = none
  sum : mg "sum" = none
  repr : mg "repr" = none
  super : mg "super" = none
  letters : ∃ t, mg "MANY_LETTERS" = some (.int 100 t)
end CB

/-! R1 -/
set_option Elab.async false
set_option linter.all false
set_option maxRecDepth 100000
set_option maxHeartbeats 4000000
namespace CB
open PySem PySem.Spec PyProof.Rows L2
/-! ### a source that enumerate draws from -/
def Ch (ch : List Addr) (h h' : Heap) : Prop := ∀ b o, b ∉ ch → h.get? b = some o → h'.get? b = some o
structure Src (prog : Program) (w : World) (A : Around) (it : Addr) (ch : List Addr) (n : Nat) (B : Heap → Prop) (Pv : Nat → Heap → Value → Heap → Prop) (St : Nat → Heap → Prop) : Prop where
  mem : it ∈ ch
  live : ∀ i h, St i h → ∀ b ∈ ch, ∃ o, h.get? b = some o ∧ ∀ v, o.data ≠ .cell v
  frame : ∀ i h h', St i h → (∀ b ∈ ch, ∀ o, h.get? b = some o → h'.get? b = some o) → St i h'
  item : ∀ i (s : Shared) (Q : Value → Shared → Prop) (E : Value → Shared → Prop), i < n → B s.heap → St i s.heap →
    (∀ x h' tk, Pv i s.heap x h' → St (i + 1) h' → Ch ch s.heap h' → s.heap.objs.size ≤ h'.objs.size → Q x { s with heap := h', toks := tk }) → wpAny (model prog w) A (Builtin.SmallTypes.nextOf (.ref it)) Q E s
  done : ∀ (s : Shared) (Q : Value → Shared → Prop) (E : Value → Shared → Prop), B s.heap → St n s.heap →
    (∀ h' e, Ch ch s.heap h' → (∃ o, h'.get? e = some o ∧ o.cls = .type "StopIteration") → E (.ref e) { s with heap := h' }) → wpAny (model prog w) A (Builtin.SmallTypes.nextOf (.ref it)) Q E s
section
variable {prog : Program} {w : World} {A : Around} {E : Value → Shared → Prop} {s : Shared}
theorem enumSrc_item {e it : Addr} {ch : List Addr} {n i : Nat} {B : Heap → Prop} {Pv : Nat → Heap → Value → Heap → Prop} {St : Nat → Heap → Prop} {old : Value} {Q : Value → Shared → Prop}
    (S : Src prog w A it ch n B Pv St) (he : IsEnum s.heap e it i old) (hb : B s.heap) (hst : St i s.heap) (hlt : i < n) (hef : e ∉ ch)
    (hQ : ∀ x h1 h' tk, Pv i s.heap x h1 → Ch ch s.heap h1 → s.heap.objs.size ≤ h1.objs.size → (∀ b o, b ≠ e → h1.get? b = some o → h'.get? b = some o) → IsEnumOut h' e it ((i : Int) + 1) x h1.objs.size → St (i + 1) h' →
      h'.get? h1.objs.size = some { cls := .type "tuple", data := .seq #[.int i tk, x] } → h'.objs.size = h1.objs.size + 1 → Q (.ref h1.objs.size) { s with heap := h', toks := tk + 1 }) :
    wpAny (model prog w) A (Builtin.«enumerate.__next__» ⟨[.ref e], []⟩) (fun fin s' => ∃ v, fin = .done (.ret v) ∧ Q v s') E s := by
  obtain ⟨hp, g, d, tk0, os⟩ := s
  have hne : e ≠ it := fun q => hef (q ▸ S.mem)
  have hel0 : e < hp.objs.size := Heap.lt_size he
  show wpAny _ _ (field (.ref e) 2 >>= _) _ _ _
  refine wpAny_bind (wpAny_field he rfl (x := .ref it) rfl (wpAny_bind (S.item i _ _ _ hlt hb hst fun x h1 tk hPx st1 k1 z1 => ?_)))
  replace k1 : Ch ch hp h1 := k1
  replace z1 : hp.objs.size ≤ h1.objs.size := z1
  have e1 : IsEnum h1 e it i old := k1 e _ hef he
  show wpAny _ _ (field (.ref e) 3 >>= _) _ _ ⟨h1, g, d, tk, os⟩
  refine wpAny_bind (wpAny_field e1 rfl (x := rawInt i) rfl ?_)
  show wpAny _ _ (field (.ref e) 4 >>= _) _ _ ⟨h1, g, d, tk, os⟩
  refine wpAny_bind (wpAny_field e1 rfl (x := .none) rfl ?_)
  show wpAny _ _ (mkInt i >>= _) _ _ ⟨h1, g, d, tk, os⟩
  refine wpAny_bind (wpAny_mkInt ?_)
  show wpAny _ _ (setField (.ref e) 3 (rawInt ((i : Int) + 1)) >>= _) _ _ ⟨h1, g, d, tk + 1, os⟩
  refine wpAny_bind (wpAny_setField_rec e1 (by simp) fun h2 e2 s2 => ?_)
  replace s2 : Heap.SameBut e h1 h2 := s2
  replace e2 : IsEnum h2 e it ((i : Int) + 1) old := e2
  show wpAny _ _ (setField (.ref e) 4 .none >>= _) _ _ ⟨h2, g, d, tk + 1, os⟩
  refine wpAny_bind (wpAny_setField_rec e2 (by simp) fun h3 e3 s3 => ?_)
  replace s3 : Heap.SameBut e h2 h3 := s3
  replace e3 : IsEnum h3 e it ((i : Int) + 1) old := e3
  show wpAny _ _ (newTuple [.int i tk, x] >>= _) _ _ ⟨h3, g, d, tk + 1, os⟩
  refine wpAny_bind (wpAny_newTuple ?_)
  have sz3 : h3.objs.size = h1.objs.size := by rw [s3.1, s2.1]
  have e4 : IsEnum (h3.push { cls := .type "tuple", data := .seq #[.int i tk, x] }) e it ((i : Int) + 1) old := Heap.get?_push_of_some _ e3
  have t4 : (h3.push { cls := .type "tuple", data := .seq #[.int i tk, x] }).get? h1.objs.size = some { cls := .type "tuple", data := .seq #[.int i tk, x] } := by
    rw [← sz3]; exact Heap.get?_push_size _ rfl
  have z4 : (h3.push { cls := .type "tuple", data := .seq #[.int i tk, x] }).objs.size = h1.objs.size + 1 := by rw [Heap.size_push, sz3]
  have k4 : ∀ b o, b ≠ e → h1.get? b = some o → (h3.push { cls := .type "tuple", data := .seq #[.int i tk, x] }).get? b = some o := fun b o hb q => Heap.get?_push_of_some _ (s3.extBut b o hb (s2.extBut b o hb q))
  show wpAny _ _ (Builtin.SmallTypes.ownedTupleIsFree (.ref e) >>= _) _ _ ⟨h3.push { cls := .type "tuple", data := .seq #[.int i tk, x] }, g, d, tk + 1, os⟩
  rw [sz3]
  generalize h3.push { cls := .type "tuple", data := .seq #[.int i tk, x] } = h4 at e4 t4 z4 k4 ⊢
  refine wpAny_bind ?_
  unfold Builtin.SmallTypes.ownedTupleIsFree
  refine wpAny_bind (wpAny_field e4 rfl (x := .none) rfl (wpAny_pure ?_))
  simp only [if_true]
  refine wpAny_bind (wpAny_rule (wpAny_bind (wpAny_field e4 rfl (x := old) rfl (wpAny_bind (wpAny_setField_rec e4 (by simp) fun h5 e5 s5 => ?_)))))
  replace s5 : Heap.SameBut e h4 h5 := s5
  replace e5 : IsEnum h5 e it ((i : Int) + 1) x := e5
  show wpAny _ _ (Builtin.SmallTypes.ownedTupleHandOut (.ref e) (.ref h1.objs.size) >>= _) _ _ ⟨h5, g, d, tk + 1, os⟩
  refine wpAny_bind ?_
  unfold Builtin.SmallTypes.ownedTupleHandOut
  refine wpAny_bind (wpAny_setField_rec e5 (by simp) fun h6 e6 s6 => ?_)
  replace s6 : Heap.SameBut e h5 h6 := s6
  replace e6 : IsEnumOut h6 e it ((i : Int) + 1) x h1.objs.size := e6
  refine wpAny_setField_rec e6 (by simp) fun h7 e7 s7 => ?_
  replace s7 : Heap.SameBut e h6 h7 := s7
  replace e7 : IsEnumOut h7 e it ((i : Int) + 1) x h1.objs.size := e7
  have kk : ∀ b o, b ≠ e → h1.get? b = some o → h7.get? b = some o := fun b o hb q => s7.extBut b o hb (s6.extBut b o hb (s5.extBut b o hb (k4 b o hb q)))
  have ne : ∀ b ∈ ch, b ≠ e := fun b hb q => hef (q ▸ hb)
  have hgt : h1.objs.size ≠ e := Nat.ne_of_gt (Nat.lt_of_lt_of_le hel0 z1)
  refine wpAny_bind (wpAny_letGo (wpAny_pure ⟨_, rfl, hQ x h1 h7 tk hPx k1 z1 kk e7 (S.frame _ _ _ st1 fun b hb o q => kk b o (ne b hb) q) ?_ ?_⟩))
  · exact s7.extBut _ _ hgt (s6.extBut _ _ hgt (s5.extBut _ _ hgt t4))
  · show h7.objs.size = _
    rw [s7.1, s6.1, s5.1, z4]
theorem nextE_item {e it : Addr} {ch : List Addr} {n i : Nat} {B : Heap → Prop} {Pv : Nat → Heap → Value → Heap → Prop} {St : Nat → Heap → Prop} {old : Value} {Q : Option Value → Shared → Prop}
    (S : Src prog w A.in1 it ch n B Pv St) (he : IsEnum s.heap e it i old) (hb : B s.heap) (hst : St i s.heap) (hlt : i < n) (hef : e ∉ ch)
    (hQ : ∀ x h1 h' tk, Pv i s.heap x h1 → Ch ch s.heap h1 → s.heap.objs.size ≤ h1.objs.size → (∀ b o, b ≠ e → h1.get? b = some o → h'.get? b = some o) → IsEnumOut h' e it ((i : Int) + 1) x h1.objs.size → St (i + 1) h' →
      h'.get? h1.objs.size = some { cls := .type "tuple", data := .seq #[.int i tk, x] } → h'.objs.size = h1.objs.size + 1 → Q (some (.ref h1.objs.size)) { s with heap := h', toks := tk + 1 }) :
    wpAny (model prog w) A (pyNext (.ref e)) Q E s := by
  have ty : s.TypeIs (.ref e) "enumerate" := ⟨_, he, rfl⟩
  unfold pyNext
  exact wpAny_bind (wpAny_attempt (wpAny_callSpecial?_slot (name := Str.ofString "__next__") ty F.slot_enumerate_next (wpAny_call_entry F.slot_enumerate_next ty F.entry_enumerate_next
      (enumSrc_item S he hb hst hlt hef fun x h1 h' tk a b c d k q r z => wpAny_pure (hQ x h1 h' tk a b c d k q r z)) (F.args_enumerate_next_1 _))))
theorem nextE_done {e it : Addr} {ch : List Addr} {n : Nat} {B : Heap → Prop} {Pv : Nat → Heap → Value → Heap → Prop} {St : Nat → Heap → Prop} {i : Int} {old : Value} {Q : Option Value → Shared → Prop}
    (S : Src prog w A.in1 it ch n B Pv St) (he : IsEnum s.heap e it i old) (hb : B s.heap) (hst : St n s.heap)
    (hQ : ∀ h', Ch ch s.heap h' → Q none { s with heap := h' }) : wpAny (model prog w) A (pyNext (.ref e)) Q E s := by
  have ty : s.TypeIs (.ref e) "enumerate" := ⟨_, he, rfl⟩
  unfold pyNext
  refine wpAny_bind (wpAny_attempt (wpAny_callSpecial?_slot (name := Str.ofString "__next__") ty F.slot_enumerate_next (wpAny_call_entry F.slot_enumerate_next ty F.entry_enumerate_next ?_ (F.args_enumerate_next_1 _))))
  show wpAny _ _ (field (.ref e) 2 >>= _) _ _ _
  refine wpAny_bind (wpAny_field he rfl (x := .ref it) rfl (wpAny_bind (S.done _ _ _ hb hst fun h' x he' ⟨o, ho, hc⟩ => ?_)))
  exact wpAny_bind (wpAny_isInstance (T := "StopIteration") (b := true) ⟨o, ho, hc⟩ isSubtype_stop (wpAny_pure (hQ _ he')))
theorem same_ch {it : Addr} {h h' : Heap} {ch : List Addr} (m : it ∈ ch) (x : Heap.SameBut it h h') : Ch ch h h' := fun b o hb q => x.extBut b o (fun z => hb (z ▸ m)) q
end
/-- over a tuple -/
theorem src_tup {prog : Program} {w : World} {A : Around} (hh : A.handled = none) (it a : Addr) (its : Array Value) :
    Src prog w A it [it] its.size (fun h => h.IsTuple a its) (fun i h x h' => its[i]? = some x ∧ h'.objs.size = h.objs.size) (fun i h => h.IsTupleIter it a i) where
  mem := by simp
  live := fun i h st b hb => by
    have z : b = it := by simpa using hb
    subst z
    obtain ⟨o, e, c, d⟩ := st
    exact ⟨o, e, fun v z => by rw [d] at z; cases z⟩
  frame := fun i h h' st k => st.at fun o q => k it (by simp) o q
  item := fun i s Q E hi hb st hQ => wpAny_nextOf_tuple_item st hb (x := its[i]) (by simp [hi]) fun h' st' sb => hQ _ h' s.toks ⟨by simp [hi], sb.1⟩ st' (same_ch (by simp) sb) (Nat.le_of_eq sb.1.symm)
  done := fun s Q E hb st hE => wpAny_nextOf_tuple_end hh st hb (by simp) fun h' e k q => hE h' e (fun b o hb' z => k b o (fun y => hb' (by simp [y])) z) q
/-! ### zip, its tuple kept or not -/
abbrev ZU (h : Heap) (z TI TO : Addr) (f0 : Value) (f1 : Bool) : Prop :=
  h.get? z = some { cls := .type "zip", dict := none, data := .fields #[f0, .bool f1, .bool false, .ref TI, .ref TO], slots := #[] }
def Own (f0 : Value) : Prop := f0 = .none ∨ ∃ T : Addr, f0 = rawInt T
section
variable {prog : Program} {w : World} {A : Around} {E : Value → Shared → Prop} {s : Shared}
theorem alive_any {a : Addr} {Q : Option Obj → Shared → Prop} (h : Q (s.heap.get? a) s) : wpAny (model prog w) A (loadIfAlive a) Q E s := fun _ _ _ => h
theorem free_any {z TI TO : Addr} {f0 : Value} {f1 : Bool} {Q : Bool → Shared → Prop} (hz : ZU s.heap z TI TO f0 f1) (ho : Own f0)
    (h : ∀ b f1' h', ZU h' z TI TO f0 f1' → Heap.SameBut z s.heap h' → Q b { s with heap := h' }) : wpAny (model prog w) A (Builtin.SmallTypes.ownedTupleIsFree (.ref z)) Q E s := by
  unfold Builtin.SmallTypes.ownedTupleIsFree
  rcases ho with rfl | ⟨T, rfl⟩
  · exact wpAny_bind (wpAny_field hz rfl (x := .none) rfl (wpAny_pure (h _ f1 s.heap hz (Heap.SameBut.refl _ _))))
  · refine wpAny_bind (wpAny_field hz rfl (x := rawInt T) rfl ?_)
    show wpAny _ _ (loadIfAlive ((T : Int).toNat) >>= _) _ _ _
    rw [Int.toNat_natCast]
    refine wpAny_bind (alive_any ?_)
    cases s.heap.get? T with
    | none => exact wpAny_pure (h _ f1 s.heap hz (Heap.SameBut.refl _ _))
    | some o =>
      simp only [Option.isNone_some, Bool.false_eq_true, if_false]
      refine wpAny_bind (wpAny_field hz rfl (x := .bool f1) rfl ?_)
      cases f1 with
      | true =>
        rw [if_neg (show ¬ ((Value.bool true != Value.bool true) = true) from Bool.false_ne_true)]
        exact wpAny_pure (h _ true s.heap hz (Heap.SameBut.refl _ _))
      | false =>
        rw [if_pos (show (Value.bool false != Value.bool true) = true from rfl)]
        exact wpAny_bind (wpAny_setField_rec hz (by simp) fun h1 hz1 hs1 => wpAny_pure (h _ true h1 hz1 hs1))

/-- where a zip of two tuples stands -/
def ZStat (h : Heap) (z TI TO i1 i2 a b : Addr) (i : Nat) : Prop :=
  (∃ f0 f1, ZU h z TI TO f0 f1 ∧ Own f0) ∧ IsPair h TI (.ref i1) (.ref i2) ∧ (∃ x y, IsPair h TO x y) ∧ h.IsTupleIter i1 a i ∧ h.IsTupleIter i2 b i
theorem ZStat.live {h : Heap} {z TI TO i1 i2 a b : Addr} {i : Nat} (st : ZStat h z TI TO i1 i2 a b i) {c : Addr} (hc : c ∈ [z, TI, TO, i1, i2]) : ∃ o, h.get? c = some o ∧ ∀ v, o.data ≠ .cell v := by
  obtain ⟨⟨f0, f1, hz, _⟩, hTI, ⟨x, y, hTO⟩, ⟨o1, e1, _, d1⟩, ⟨o2, e2, _, d2⟩⟩ := st
  have e' : c = z ∨ c = TI ∨ c = TO ∨ c = i1 ∨ c = i2 := by simpa using hc
  rcases e' with q | q | q | q | q <;> subst q
  · exact ⟨_, hz, fun v q => nomatch q⟩
  · exact ⟨_, hTI, fun v q => nomatch q⟩
  · exact ⟨_, hTO, fun v q => nomatch q⟩
  · exact ⟨o1, e1, fun v q => by rw [d1] at q; cases q⟩
  · exact ⟨o2, e2, fun v q => by rw [d2] at q; cases q⟩
theorem ZStat.frame {h h' : Heap} {z TI TO i1 i2 a b : Addr} {i : Nat} (st : ZStat h z TI TO i1 i2 a b i) (k : ∀ c ∈ [z, TI, TO, i1, i2], ∀ o, h.get? c = some o → h'.get? c = some o) : ZStat h' z TI TO i1 i2 a b i := by
  obtain ⟨⟨f0, f1, hz, ho⟩, hTI, ⟨x, y, hTO⟩, h1, h2⟩ := st
  exact ⟨⟨f0, f1, k z (by simp) _ hz, ho⟩, k TI (by simp) _ hTI, ⟨x, y, k TO (by simp) _ hTO⟩, h1.at fun o q => k i1 (by simp) o q, h2.at fun o q => k i2 (by simp) o q⟩
theorem zipU_item {z TI TO i1 i2 a b : Addr} {i : Nat} {xs ys : Array Value} {x y : Value} {Q : Value → Shared → Prop} (D : ZipApart z TI TO i1 i2 a b) (Z : ZStat s.heap z TI TO i1 i2 a b i)
    (ha : s.heap.IsTuple a xs) (hb : s.heap.IsTuple b ys) (hx : xs[i]? = some x) (hy : ys[i]? = some y)
    (hQ : ∀ h', ZStat h' z TI TO i1 i2 a b (i + 1) → IsPair h' s.heap.objs.size x y → h'.objs.size = s.heap.objs.size + 1 → Ch [z, TI, TO, i1, i2] s.heap h' → Q (.ref s.heap.objs.size) { s with heap := h' }) :
    wpAny (model prog w) A (Builtin.«zip.__next__» ⟨[.ref z], []⟩) (fun fin s' => ∃ v, fin = .done (.ret v) ∧ Q v s') E s := by
  obtain ⟨⟨f0, f1, hz, hown⟩, hTI, ⟨x0, y0, hTO⟩, h1, h2⟩ := Z
  show wpAny _ _ (field (.ref z) 2 >>= _) _ _ _
  refine wpAny_bind (wpAny_field hz rfl (x := .bool false) rfl ?_)
  show wpAny _ _ (field (.ref z) 3 >>= _) _ _ _
  refine wpAny_bind (wpAny_field hz rfl (x := .ref TI) rfl (wpAny_bind (wpAny_seqItems hTI rfl ?_)))
  show wpAny _ _ (Builtin.SmallTypes.ownedTupleIsFree (.ref z) >>= _) _ _ _
  refine wpAny_bind (free_any hz hown fun fr f1' g0 hz0 sb0 => ?_)
  have k0 : ∀ c o, c ≠ z → s.heap.get? c = some o → g0.get? c = some o := fun c o hc q => sb0.extBut c o hc q
  have hTI0 := k0 _ _ D.TIz hTI
  have hTO0 := k0 _ _ D.TOz hTO
  have i10 : g0.IsTupleIter i1 a i := h1.at fun o q => k0 _ o D.i1z q
  have i20 : g0.IsTupleIter i2 b i := h2.at fun o q => k0 _ o D.i2z q
  have ta0 : g0.IsTuple a xs := ha.at fun o q => k0 _ o D.l1z q
  have tb0 : g0.IsTuple b ys := hb.at fun o q => k0 _ o D.l2z q
  have szs : g0.objs.size = s.heap.objs.size := sb0.1
  cases fr with
  | true =>
    simp only [if_true]
    refine wpAny_bind (wpAny_rule (wpAny_bind (wpAny_field hz0 rfl (x := .ref TO) rfl (wpAny_bind (wpAny_setField_rec hz0 (by simp) fun g1 hz1 sb1 => ?_)))))
    replace hz1 : ZU g1 z TI TO .ellipsis f1' := hz1
    refine wpAny_bind ?_
    simp only [List.zipIdx_cons, List.zipIdx_nil, List.forIn_cons, List.forIn_nil]
    refine wpAny_bind (wpAny_bind (wpAny_onRaise ?_))
    show wpAny _ _ (Builtin.SmallTypes.nextOf (.ref i1) >>= _) _ _ _
    refine wpAny_bind (wpAny_nextOf_tuple_item (i10.extBut sb1.extBut D.i1z) (ta0.extBut sb1.extBut D.l1z) hx fun g2 i12 sb2 => wpAny_pure ?_)
    have hTO2 : IsPair g2 TO x0 y0 := sb2.extBut _ _ D.TOi1 (sb1.extBut _ _ D.TOz hTO0)
    refine wpAny_bind (wpAny_seqItems hTO2 rfl (wpAny_bind (wpAny_updateSeq_pair hTO2 fun g3 hTO3 sb3 => ?_)))
    replace hTO3 : IsPair g3 TO x y0 := hTO3
    refine wpAny_bind (wpAny_letGo (wpAny_pure (wpAny_bind (wpAny_bind (wpAny_onRaise ?_)))))
    show wpAny _ _ (Builtin.SmallTypes.nextOf (.ref i2) >>= _) _ _ _
    refine wpAny_bind (wpAny_nextOf_tuple_item (((i20.extBut sb1.extBut D.i2z).extBut sb2.extBut D.i12.symm).extBut sb3.extBut D.TOi2.symm) (((tb0.extBut sb1.extBut D.l2z).extBut sb2.extBut D.l2i1).extBut sb3.extBut D.l2TO) hy fun g4 i24 sb4 => wpAny_pure ?_)
    have hTO4 : IsPair g4 TO x y0 := sb4.extBut _ _ D.TOi2 hTO3
    refine wpAny_bind (wpAny_seqItems hTO4 rfl (wpAny_bind (wpAny_updateSeq_pair hTO4 fun g5 hTO5 sb5 => ?_)))
    replace hTO5 : IsPair g5 TO x y := hTO5
    refine wpAny_bind (wpAny_letGo (wpAny_pure (wpAny_pure (wpAny_bind (wpAny_seqItems hTO5 rfl (wpAny_bind (wpAny_newTuple ?_)))))))
    have sz5 : g5.objs.size = s.heap.objs.size := by rw [sb5.1, sb4.1, sb3.1, sb2.1, sb1.1, szs]
    have hz5 : ZU g5 z TI TO .ellipsis f1' := sb5.extBut _ _ D.TOz.symm (sb4.extBut _ _ D.i2z.symm (sb3.extBut _ _ D.TOz.symm (sb2.extBut _ _ D.i1z.symm hz1)))
    have k5 : ∀ c o, c ≠ z → c ≠ TO → c ≠ i1 → c ≠ i2 → s.heap.get? c = some o → g5.get? c = some o := fun c o c1 c2 c3 c4 q =>
      sb5.extBut _ _ c2 (sb4.extBut _ _ c4 (sb3.extBut _ _ c2 (sb2.extBut _ _ c3 (sb1.extBut _ _ c1 (k0 c o c1 q)))))
    have i15 : g5.IsTupleIter i1 a (i + 1) := ((i12.extBut sb3.extBut D.TOi1.symm).extBut sb4.extBut D.i12).extBut sb5.extBut D.TOi1.symm
    have i25 : g5.IsTupleIter i2 b (i + 1) := i24.extBut sb5.extBut D.TOi2.symm
    have zlt : z < g5.objs.size := Heap.lt_size hz5
    show wpAny _ _ (Builtin.SmallTypes.ownedTupleHandOut (.ref z) (.ref g5.objs.size) >>= _) _ _ _
    refine wpAny_bind ?_
    unfold Builtin.SmallTypes.ownedTupleHandOut
    have hz6 : ZU (g5.push { cls := .type "tuple", data := .seq #[x, y] }) z TI TO .ellipsis f1' := Heap.get?_push_of_some _ hz5
    refine wpAny_bind (wpAny_setField_rec hz6 (by simp) fun g7 hz7 sb7 => ?_)
    replace hz7 : ZU g7 z TI TO (rawInt g5.objs.size) f1' := hz7
    refine wpAny_setField_rec hz7 (by simp) fun g8 hz8 sb8 => ?_
    replace hz8 : ZU g8 z TI TO (rawInt g5.objs.size) false := hz8
    have up : ∀ c o, c ≠ z → g5.get? c = some o → g8.get? c = some o := fun c o c1 q => sb8.extBut _ _ c1 (sb7.extBut _ _ c1 (Heap.get?_push_of_some _ q))
    have hT8 : IsPair g8 g5.objs.size x y := sb8.extBut _ _ (Nat.ne_of_gt zlt) (sb7.extBut _ _ (Nat.ne_of_gt zlt) (Heap.get?_push_size _ rfl))
    have sz8 : g8.objs.size = g5.objs.size + 1 := by rw [sb8.1, sb7.1, Heap.size_push]
    refine wpAny_pure ⟨_, rfl, ?_⟩
    show Q (.ref g5.objs.size) _
    rw [sz5] at hT8 sz8 ⊢
    refine hQ g8 ⟨⟨_, false, hz8, .inr ⟨_, rfl⟩⟩, up _ _ D.TIz (k5 _ _ D.TIz D.TITO D.TIi1 D.TIi2 hTI), ⟨x, y, up _ _ D.TOz hTO5⟩, i15.at fun o q => up _ o D.i1z q, i25.at fun o q => up _ o D.i2z q⟩ hT8 sz8 fun c o hc q => ?_
    have n1 : c ≠ z := fun e => hc (by simp [e])
    exact up c o n1 (k5 c o n1 (fun e => hc (by simp [e])) (fun e => hc (by simp [e])) (fun e => hc (by simp [e])) q)
  | false =>
    simp only [Bool.false_eq_true, if_false]
    refine wpAny_bind ?_
    rw [← Array.forIn_toList]
    simp only [List.forIn_cons, List.forIn_nil]
    refine wpAny_bind (wpAny_bind (wpAny_holding ?_))
    show wpAny _ _ (Builtin.SmallTypes.nextOf (.ref i1) >>= _) _ _ _
    refine wpAny_bind (wpAny_nextOf_tuple_item (s := { s with heap := g0 }) i10 ta0 hx fun g2 i12 sb2 => wpAny_pure (wpAny_pure (wpAny_bind (wpAny_bind (wpAny_holding ?_)))))
    show wpAny _ _ (Builtin.SmallTypes.nextOf (.ref i2) >>= _) _ _ _
    refine wpAny_bind (wpAny_nextOf_tuple_item (s := { s with heap := g2 }) (i20.extBut sb2.extBut D.i12.symm) (tb0.extBut sb2.extBut D.l2i1) hy fun g3 i23 sb3 => wpAny_pure (wpAny_pure (wpAny_pure ?_)))
    show wpAny _ _ (newTuple [x, y] >>= _) _ _ _
    refine wpAny_bind (wpAny_newTuple ?_)
    have sz3 : g3.objs.size = s.heap.objs.size := by rw [sb3.1, sb2.1, szs]
    have k3 : ∀ c o, c ≠ i1 → c ≠ i2 → g0.get? c = some o → (g3.push { cls := .type "tuple", data := .seq #[x, y] }).get? c = some o := fun c o c1 c2 q => Heap.get?_push_of_some _ (sb3.extBut _ _ c2 (sb2.extBut _ _ c1 q))
    refine wpAny_pure ⟨_, rfl, ?_⟩
    show Q (.ref g3.objs.size) _
    have hT4 : IsPair (g3.push { cls := .type "tuple", data := .seq #[x, y] }) g3.objs.size x y := Heap.get?_push_size _ rfl
    have sz4 : (g3.push { cls := .type "tuple", data := .seq #[x, y] }).objs.size = g3.objs.size + 1 := Heap.size_push ..
    rw [sz3] at hT4 sz4 ⊢
    refine hQ _ ⟨⟨f0, f1', k3 _ _ D.i1z.symm D.i2z.symm hz0, hown⟩, k3 _ _ D.TIi1 D.TIi2 hTI0, ⟨x0, y0, k3 _ _ D.TOi1 D.TOi2 hTO0⟩, ?_, ?_⟩ hT4 sz4 fun c o hc q => ?_
    · exact (i12.extBut sb3.extBut D.i12).at fun o q => Heap.get?_push_of_some _ q
    · exact i23.at fun o q => Heap.get?_push_of_some _ q
    · exact k3 c o (fun e => hc (by simp [e])) (fun e => hc (by simp [e])) (k0 c o (fun e => hc (by simp [e])) q)
theorem zipU_done {z TI TO i1 i2 a b : Addr} {i : Nat} {xs ys : Array Value} {Q : PySem.Fin → Shared → Prop} (hh : A.handled = none) (D : ZipApart z TI TO i1 i2 a b) (Z : ZStat s.heap z TI TO i1 i2 a b i)
    (ha : s.heap.IsTuple a xs) (hb : s.heap.IsTuple b ys) (hend : xs[i]? = none ∨ ys[i]? = none)
    (hE : ∀ h' e, Ch [z, TI, TO, i1, i2] s.heap h' → (∃ o, h'.get? e = some o ∧ o.cls = .type "StopIteration") → E (.ref e) { s with heap := h' }) :
    wpAny (model prog w) A (Builtin.«zip.__next__» ⟨[.ref z], []⟩) Q E s := by
  obtain ⟨⟨f0, f1, hz, hown⟩, hTI, ⟨x0, y0, hTO⟩, h1, h2⟩ := Z
  show wpAny _ _ (field (.ref z) 2 >>= _) _ _ _
  refine wpAny_bind (wpAny_field hz rfl (x := .bool false) rfl ?_)
  show wpAny _ _ (field (.ref z) 3 >>= _) _ _ _
  refine wpAny_bind (wpAny_field hz rfl (x := .ref TI) rfl (wpAny_bind (wpAny_seqItems hTI rfl ?_)))
  show wpAny _ _ (Builtin.SmallTypes.ownedTupleIsFree (.ref z) >>= _) _ _ _
  refine wpAny_bind (free_any hz hown fun fr f1' g0 hz0 sb0 => ?_)
  have k0 : ∀ c o, c ≠ z → s.heap.get? c = some o → g0.get? c = some o := fun c o hc q => sb0.extBut c o hc q
  have hTO0 := k0 _ _ D.TOz hTO
  have i10 : g0.IsTupleIter i1 a i := h1.at fun o q => k0 _ o D.i1z q
  have i20 : g0.IsTupleIter i2 b i := h2.at fun o q => k0 _ o D.i2z q
  have ta0 : g0.IsTuple a xs := ha.at fun o q => k0 _ o D.l1z q
  have tb0 : g0.IsTuple b ys := hb.at fun o q => k0 _ o D.l2z q
  have notE : ∀ {g : Heap} {e oe} {f0' f1'' }, ZU g z TI TO f0' f1'' → g.get? e = some oe → oe.cls = .type "StopIteration" → e ≠ z := fun q1 q2 q3 x => by
    subst x
    rw [q1] at q2
    cases q2
    simp at q3
  cases fr with
  | true =>
    simp only [if_true]
    refine wpAny_bind (wpAny_rule (wpAny_bind (wpAny_field hz0 rfl (x := .ref TO) rfl (wpAny_bind (wpAny_setField_rec hz0 (by simp) fun g1 hz1 sb1 => ?_)))))
    replace hz1 : ZU g1 z TI TO .ellipsis f1' := hz1
    refine wpAny_bind ?_
    simp only [List.zipIdx_cons, List.zipIdx_nil, List.forIn_cons, List.forIn_nil]
    refine wpAny_bind (wpAny_bind (wpAny_onRaise ?_))
    show wpAny _ _ (Builtin.SmallTypes.nextOf (.ref i1) >>= _) _ _ _
    cases hx : xs[i]? with
    | none =>
      refine wpAny_bind (wpAny_nextOf_tuple_end hh (i10.extBut sb1.extBut D.i1z) (ta0.extBut sb1.extBut D.l1z) hx fun g2 e sb2 ⟨oe, hoe, hce⟩ => ?_)
      have hz2 : ZU g2 z TI TO .ellipsis f1' := sb2 _ _ D.i1z.symm hz1
      refine wpAny_setField_rec hz2 (by simp) fun g3 _ sb3 => hE g3 e (fun c o hc q => ?_) ⟨oe, sb3.extBut _ _ (notE hz2 hoe hce) hoe, hce⟩
      have n1 : c ≠ z := fun e => hc (by simp [e])
      exact sb3.extBut _ _ n1 (sb2 _ _ (fun e => hc (by simp [e])) (sb1.extBut _ _ n1 (k0 _ _ n1 q)))
    | some x =>
      have hy : ys[i]? = none := by
        rcases hend with h | h
        · rw [hx] at h; cases h
        · exact h
      refine wpAny_bind (wpAny_nextOf_tuple_item (i10.extBut sb1.extBut D.i1z) (ta0.extBut sb1.extBut D.l1z) hx fun g2 i12 sb2 => wpAny_pure ?_)
      have hTO2 : IsPair g2 TO x0 y0 := sb2.extBut _ _ D.TOi1 (sb1.extBut _ _ D.TOz hTO0)
      refine wpAny_bind (wpAny_seqItems hTO2 rfl (wpAny_bind (wpAny_updateSeq_pair hTO2 fun g3 hTO3 sb3 => wpAny_bind (wpAny_letGo (wpAny_pure (wpAny_bind (wpAny_bind (wpAny_onRaise ?_))))))))
      show wpAny _ _ (Builtin.SmallTypes.nextOf (.ref i2) >>= _) _ _ _
      refine wpAny_bind (wpAny_nextOf_tuple_end hh (((i20.extBut sb1.extBut D.i2z).extBut sb2.extBut D.i12.symm).extBut sb3.extBut D.TOi2.symm) (((tb0.extBut sb1.extBut D.l2z).extBut sb2.extBut D.l2i1).extBut sb3.extBut D.l2TO) hy fun g4 e sb4 ⟨oe, hoe, hce⟩ => ?_)
      have hz4 : ZU g4 z TI TO .ellipsis f1' := sb4 _ _ D.i2z.symm (sb3.extBut _ _ D.TOz.symm (sb2.extBut _ _ D.i1z.symm hz1))
      refine wpAny_setField_rec hz4 (by simp) fun g5 _ sb5 => hE g5 e (fun c o hc q => ?_) ⟨oe, sb5.extBut _ _ (notE hz4 hoe hce) hoe, hce⟩
      have n1 : c ≠ z := fun e => hc (by simp [e])
      exact sb5.extBut _ _ n1 (sb4 _ _ (fun e => hc (by simp [e])) (sb3.extBut _ _ (fun e => hc (by simp [e])) (sb2.extBut _ _ (fun e => hc (by simp [e])) (sb1.extBut _ _ n1 (k0 _ _ n1 q)))))
  | false =>
    simp only [Bool.false_eq_true, if_false]
    refine wpAny_bind ?_
    rw [← Array.forIn_toList]
    simp only [List.forIn_cons, List.forIn_nil]
    refine wpAny_bind (wpAny_bind (wpAny_holding ?_))
    show wpAny _ _ (Builtin.SmallTypes.nextOf (.ref i1) >>= _) _ _ _
    cases hx : xs[i]? with
    | none =>
      refine wpAny_bind (wpAny_nextOf_tuple_end (s := { s with heap := g0 }) hh i10 ta0 hx fun g2 e sb2 he => hE g2 e (fun c o hc q => ?_) he)
      exact sb2 _ _ (fun e => hc (by simp [e])) (k0 _ _ (fun e => hc (by simp [e])) q)
    | some x =>
      have hy : ys[i]? = none := by
        rcases hend with h | h
        · rw [hx] at h; cases h
        · exact h
      refine wpAny_bind (wpAny_nextOf_tuple_item (s := { s with heap := g0 }) i10 ta0 hx fun g2 i12 sb2 => wpAny_pure (wpAny_pure (wpAny_bind (wpAny_bind (wpAny_holding ?_)))))
      show wpAny _ _ (Builtin.SmallTypes.nextOf (.ref i2) >>= _) _ _ _
      refine wpAny_bind (wpAny_nextOf_tuple_end (s := { s with heap := g2 }) hh (i20.extBut sb2.extBut D.i12.symm) (tb0.extBut sb2.extBut D.l2i1) hy fun g3 e sb3 he => hE g3 e (fun c o hc q => ?_) he)
      exact sb3 _ _ (fun e => hc (by simp [e])) (sb2.extBut _ _ (fun e => hc (by simp [e])) (k0 _ _ (fun e => hc (by simp [e])) q))
end
/-- over a zip of two tuples -/
theorem src_zip {prog : Program} {w : World} {A : Around} (hh : A.handled = none) {z TI TO i1 i2 a b : Addr} (D : ZipApart z TI TO i1 i2 a b) (xs ys : Array Value) :
    Src prog w A z [z, TI, TO, i1, i2] (min xs.size ys.size) (fun h => h.IsTuple a xs ∧ h.IsTuple b ys) (fun i h v h' => ∃ x y, xs[i]? = some x ∧ ys[i]? = some y ∧ v = .ref h.objs.size ∧ IsPair h' h.objs.size x y ∧ h'.objs.size = h.objs.size + 1) (fun i h => ZStat h z TI TO i1 i2 a b i) where
  mem := by simp
  live := fun i h st c hc => st.live hc
  frame := fun i h h' st k => st.frame k
  item := fun i s Q E hi hb st hQ => by
    have ty : s.TypeIs (.ref z) "zip" := let ⟨⟨_, _, hz, _⟩, _⟩ := st; ⟨_, hz, rfl⟩
    have h1 : i < xs.size := Nat.lt_of_lt_of_le hi (Nat.min_le_left ..)
    have h2 : i < ys.size := Nat.lt_of_lt_of_le hi (Nat.min_le_right ..)
    unfold Builtin.SmallTypes.nextOf
    refine wpAny_bind (wpAny_callSpecial?_slot (name := Str.ofString "__next__") ty F.slot_zip_next (wpAny_call_entry F.slot_zip_next ty F.entry_zip_next
      (zipU_item D st hb.1 hb.2 (x := xs[i]) (y := ys[i]) (by simp [h1]) (by simp [h2]) fun h' st' hp hz k => wpAny_pure (hQ _ h' s.toks ⟨_, _, by simp [h1], by simp [h2], rfl, hp, hz⟩ st' k (by rw [hz]; exact Nat.le_succ _))) (F.args_zip_next_1 _)))
  done := fun s Q E hb st hE => by
    have ty : s.TypeIs (.ref z) "zip" := let ⟨⟨_, _, hz, _⟩, _⟩ := st; ⟨_, hz, rfl⟩
    have hend : xs[min xs.size ys.size]? = none ∨ ys[min xs.size ys.size]? = none := by
      rcases Nat.le_total xs.size ys.size with h | h
      · exact .inl (Array.getElem?_eq_none (by rw [Nat.min_eq_left h]; exact Nat.le_refl _))
      · exact .inr (Array.getElem?_eq_none (by rw [Nat.min_eq_right h]; exact Nat.le_refl _))
    unfold Builtin.SmallTypes.nextOf
    exact wpAny_bind (wpAny_callSpecial?_slot (name := Str.ofString "__next__") ty F.slot_zip_next (wpAny_call_entry F.slot_zip_next ty F.entry_zip_next (zipU_done hh D st hb.1 hb.2 hend hE) (F.args_zip_next_1 _)))
/-! ### enumerate(..) made -/
abbrev enumO (it : Addr) : Obj := { cls := .type "enumerate", data := .fields #[.none, .bool false, .ref it, rawInt 0, .none, .none] }
theorem meets_enum1 (v : Value) (it : Addr) (h1 : Heap) :
    Meets (Builtin.«enumerate.__new__» ⟨[.type "enumerate", v], []⟩) (fun _ R s => (∀ (prog : Program) (w : World) (A : Around) (E : Value → Shared → Prop) (Q : Value → Shared → Prop), Q (.ref it) { s with heap := h1 } → wpAny (model prog w) A (pyIter v) Q E s) ∧
      R (.ok (.ret (.ref h1.objs.size))) { s with heap := h1.push (enumO it) }) :=
  .of_wp fun prog w A R s h => by
    obtain ⟨hp, g, d, tk, os⟩ := s; obtain ⟨hi, h⟩ := h
    have hsub := sub_enumerate
    have q1 : ∀ {A' : Around} {E : Value → Shared → Prop} {Q : Value → Shared → Prop}, Q (.ref it) ⟨h1, g, d, tk, os⟩ → wpAny (model prog w) A' (pyIter v) Q E ⟨hp, g, d, tk, os⟩ := fun q => hi prog w _ _ _ q
    wp_walk using q1
    refine wpAny_stack_any fun st => wpAny_pure ?_
    split
    · rename_i c _ _ _ _ _
      cases (c == Value.type "enumerate")
      · wp_walk using q1
        exact ⟨_, rfl, h⟩
      · wp_walk using q1
        exact ⟨_, rfl, h⟩
    · wp_walk using q1
      exact ⟨_, rfl, h⟩
section
variable {prog : Program} {w : World} {A : Around} {E : Value → Shared → Prop} {s : Shared}
theorem call_enum1 {v : Value} {it : Addr} {h1 : Heap} {Q : Value → Shared → Prop} (hi : ∀ (prog : Program) (w : World) (A : Around) (E : Value → Shared → Prop) (Q : Value → Shared → Prop), Q (.ref it) { s with heap := h1 } → wpAny (model prog w) A (pyIter v) Q E s)
    (h : ∀ h', IsEnum h' h1.objs.size it 0 .none → h'.objs.size = h1.objs.size + 1 → (∀ b o, h1.get? b = some o → h'.get? b = some o) → Q (.ref h1.objs.size) { s with heap := h' }) :
    wpAny (model prog w) A (call (.type "enumerate") [v]) Q E s := by
  refine callType_new F.called_enumerate (by decide) (F.typeCall_enumerate_1 _) (F.newCall_enumerate_1 _) (fun obj => F.args_object_init_2 obj _) F.entry_enumerate_new (meets_enum1 v it h1) ⟨hi, ?_⟩
  have he : IsEnum (h1.push (enumO it)) h1.objs.size it 0 .none := Heap.get?_push_size _ rfl
  exact ⟨⟨_, he, rfl⟩, h _ he (Heap.size_push ..) fun b o q => Heap.get?_push_of_some _ q⟩
end
/-! ### for i, x in enumerate(t) -/
def IteT (K : Fg) (a : Addr) : It :=
  ⟨fun i H => ∃ (xs : List V) (x : V), SqT K H a xs ∧ xs[i]? = some x, fun i H v H' => ∃ T x, v = .ref T ∧ H T = none ∧ H' = upd H T (.tup [.int (i : Nat), x]) ∧ ∀ xs, SqT K H a xs → xs[i]? = some x, fun i H => ∃ xs : List V, SqT K H a xs ∧ xs.length ≤ i⟩
theorem pair_ok {P : Program} {w : World} {H : Hp} {h : Heap} {p : Addr} {x y : V} {u v : Value} (hx : RelV x u) (hy : RelV y v) (hp : h.get? p = some { cls := .type "tuple", data := .seq #[u, v] }) : ObjOk P w (upd H p (.tup [x, y])) h p (.tup [x, y]) :=
  ⟨by show 2 ≤ sizeLine; decide, [u, v], .cons hx (.cons hy .nil), ⟨_, hp, rfl, _, rfl⟩⟩
theorem turn_enumT {P : Program} {w : World} {K : Fg} {elts : List Expr} {kk : Nat} {tpos : Pos} (a e it : Addr) :
    Turn P w K (.Tuple elts kk tpos) (IteT K a) [e, it] e (fun i h => (∃ old, IsEnum h e it ((i : Nat) : Int) old) ∧ h.IsTupleIter it a i ∧ e ≠ it) where
  mem := by simp
  obj := fun i h st b hb => by
    obtain ⟨⟨old, he⟩, ⟨o, ho, hc, hd⟩, _⟩ := st
    have e' : b = e ∨ b = it := by simpa using hb
    rcases e' with z | z <;> subst z
    · exact ⟨_, he, fun v q => nomatch q⟩
    · exact ⟨o, ho, fun v q => by rw [hd] at q; cases q⟩
  keep := fun i h h' ⟨⟨old, he⟩, hi, hne⟩ k => ⟨⟨old, k e (by simp) _ he⟩, hi.at fun o q => k it (by simp) o q, hne⟩
  item := by
    intro X hP hw hK hc i pins s σ H E I hf ⟨⟨old, he⟩, hit, hne⟩ ⟨xs, x, hq, hx⟩
    subst hP hw hK
    obtain ⟨its, rv, p, hz⟩ := I.tuple hq
    obtain ⟨u, hu, ru⟩ := rv.get hx
    have hsz : i < its.toArray.size := by
      rw [List.size_toArray]
      exact (List.getElem?_eq_some_iff.mp hu).1
    have hel : e < s.heap.objs.size := Heap.lt_size he
    have hil : it < s.heap.objs.size := by obtain ⟨_, q, _⟩ := hit; exact Heap.lt_size q
    have S := src_tup (prog := X.prog) (w := X.w) (A := X.A.in1) (show X.A.in1.handled = none from I.ok.hd hc) it a its.toArray
    refine nextE_item S he p hit hsz (by simpa using hne) fun y h1 h' tk ⟨hy, hz1⟩ k1 z1 k2 ho st' hT hsz' => ?_
    have ey : y = u := by
      have hu' : its.toArray[i]? = some u := by simpa using hu
      rw [hu'] at hy
      exact (Option.some.inj hy).symm
    subst ey
    rw [hz1] at hT ho hsz' ⊢
    refine ⟨_, rfl, wpAny_letOwnedTupleGo_enum (s := { s with heap := h', toks := tk + 1 }) ho fun h2 he2 sb => ?_⟩
    have hT2 := (sb.2 _ (Nat.ne_of_gt hel)).trans hT
    have I1 : Inv X pins σ (upd H s.heap.objs.size (.tup [.int (i : Nat), x])) { s with heap := h2, toks := tk + 1 } :=
      I.turnedNew (ch := [e, it]) (fun b ob hb q => (sb.2 b (fun z => hb (by simp [z]))).trans (k2 b ob (fun z => hb (by simp [z])) (k1 b ob (fun z => hb (by
        have : b = it := by simpa using z
        simp [this])) q))) hf (Nat.le_refl _) (pair_ok ⟨_, rfl⟩ ru hT2)
    refine ⟨.ref s.heap.objs.size, _, I1, rfl, ⟨_, x, rfl, I.hok.fresh (Nat.le_refl _), rfl, fun ys hy => by rw [I.tuple_inj hy hq]; exact hx⟩, ⟨⟨y, ?_⟩, st'.at fun o q => (sb.2 it (Ne.symm hne)).trans q, hne⟩, fun b hb => ?_⟩
    · have e1 : ((i + 1 : Nat) : Int) = (i : Int) + 1 := by omega
      rw [e1]; exact he2
    · have hb' : b < s.heap.objs.size := by
        have e' : b = e ∨ b = it := by simpa using hb
        rcases e' with z | z <;> subst z <;> assumption
      rw [upd_ne (Nat.ne_of_lt hb')]
      exact (hf b hb).1
  done := by
    intro X hP hw hK hc i pins s σ H E I hf ⟨⟨old, he⟩, hit, hne⟩ ⟨xs, hq, hx⟩
    subst hP hw hK
    obtain ⟨its, rv, p, hz⟩ := I.tuple hq
    have hl := rv.length
    have hno : its.toArray[i]? = none := by simp; omega
    have ty : s.TypeIs (.ref e) "enumerate" := ⟨_, he, rfl⟩
    unfold pyNext
    refine wpAny_bind (wpAny_attempt (wpAny_callSpecial?_slot (name := Str.ofString "__next__") ty F.slot_enumerate_next (wpAny_call_entry F.slot_enumerate_next ty F.entry_enumerate_next ?_ (F.args_enumerate_next_1 _))))
    show wpAny _ _ (field (.ref e) 2 >>= _) _ _ _
    refine wpAny_bind (wpAny_field he rfl (x := .ref it) rfl (wpAny_bind (wpAny_nextOf_tuple_end (I.ok.hd hc) hit p hno fun h' x he' ⟨o, ho, hcl⟩ => ?_)))
    refine wpAny_bind (wpAny_isInstance (T := "StopIteration") (b := true) ⟨o, ho, hcl⟩ isSubtype_stop (wpAny_pure ⟨rfl, ?_⟩))
    exact I.turnedL (t' := s.toks) (ch := [e, it]) (fun c o hb q => he' c o (fun z => hb (by simp [z])) q) hf
  self := fun A i s Q E st h => let ⟨⟨_, he⟩, _⟩ := st; wpAny_pyIter_enum he h
/-! ### for i, (x, y) in enumerate(zip(t, u)) -/
def IteZ (K : Fg) (a b : Addr) : It :=
  ⟨fun i H => ∃ (xs ys : List V) (x y : V), SqT K H a xs ∧ SqT K H b ys ∧ xs[i]? = some x ∧ ys[i]? = some y,
    fun i H v H' => ∃ T U x y, v = .ref U ∧ H T = none ∧ H U = none ∧ T ≠ U ∧ H' = upd (upd H T (.tup [x, y])) U (.tup [.int (i : Nat), .ref T]) ∧ (∀ xs, SqT K H a xs → xs[i]? = some x) ∧ ∀ ys, SqT K H b ys → ys[i]? = some y,
    fun i H => ∃ xs ys : List V, SqT K H a xs ∧ SqT K H b ys ∧ i = min xs.length ys.length⟩
theorem turn_enumZ {P : Program} {w : World} {K : Fg} {elts : List Expr} {kk : Nat} {tpos : Pos} {a b e z TI TO i1 i2 : Addr} (D : ZipApart z TI TO i1 i2 a b) (hne : e ∉ [z, TI, TO, i1, i2]) :
    Turn P w K (.Tuple elts kk tpos) (IteZ K a b) [e, z, TI, TO, i1, i2] e (fun i h => (∃ old, IsEnum h e z ((i : Nat) : Int) old) ∧ ZStat h z TI TO i1 i2 a b i) where
  mem := by simp
  obj := fun i h ⟨⟨old, he⟩, st⟩ c hc => by
    rcases List.mem_cons.mp hc with q | q
    · subst q; exact ⟨_, he, fun v q => nomatch q⟩
    · exact st.live q
  keep := fun i h h' ⟨⟨old, he⟩, st⟩ k => ⟨⟨old, k e (by simp) _ he⟩, st.frame fun c hc o q => k c (List.mem_cons_of_mem _ hc) o q⟩
  item := by
    intro X hP hw hK hc i pins s σ H E I hf ⟨⟨old, he⟩, st⟩ ⟨xs, ys, x, y, hq, hq2, hx, hy⟩
    subst hP hw hK
    obtain ⟨its, rv, p, _⟩ := I.tuple hq
    obtain ⟨its2, rv2, p2, _⟩ := I.tuple hq2
    obtain ⟨u, hu, ru⟩ := rv.get hx
    obtain ⟨u2, hu2, ru2⟩ := rv2.get hy
    have hsz : i < min its.toArray.size its2.toArray.size := by
      rw [List.size_toArray, List.size_toArray]
      have h1 := (List.getElem?_eq_some_iff.mp hu).1
      have h2 := (List.getElem?_eq_some_iff.mp hu2).1
      omega
    have hlt : ∀ c ∈ [e, z, TI, TO, i1, i2], c < s.heap.objs.size := fun c hcm => by
      obtain ⟨⟨f0, f1, hz, _⟩, hTI, ⟨x, y, hTO⟩, ⟨o1, e1, _, d1⟩, ⟨o2, e2, _, d2⟩⟩ := st
      have e' : c = e ∨ c = z ∨ c = TI ∨ c = TO ∨ c = i1 ∨ c = i2 := by simpa using hcm
      rcases e' with q | q | q | q | q | q <;> subst q
      · exact Heap.lt_size he
      · exact Heap.lt_size hz
      · exact Heap.lt_size hTI
      · exact Heap.lt_size hTO
      · exact Heap.lt_size e1
      · exact Heap.lt_size e2
    have hel := hlt e (by simp)
    have S := src_zip (prog := X.prog) (w := X.w) (A := X.A.in1) (show X.A.in1.handled = none from I.ok.hd hc) D its.toArray its2.toArray
    refine nextE_item S he ⟨p, p2⟩ st hsz hne fun v h1 h' tk ⟨x', y', hx', hy', ev, hp, hz1⟩ k1 z1 k2 ho st' hT hsz' => ?_
    have ex : x' = u := by
      have hu' : its.toArray[i]? = some u := by simpa using hu
      rw [hu'] at hx'
      exact (Option.some.inj hx').symm
    have ey : y' = u2 := by
      have hu' : its2.toArray[i]? = some u2 := by simpa using hu2
      rw [hu'] at hy'
      exact (Option.some.inj hy').symm
    subst ex ey ev
    refine ⟨_, rfl, wpAny_letOwnedTupleGo_enum (s := { s with heap := h', toks := tk + 1 }) ho fun h2 he2 sb => ?_⟩
    have I0 : Inv X pins σ (upd H s.heap.objs.size (.tup [x, y])) { s with heap := h1 } :=
      I.turnedNew (t' := s.toks) (ch := [e, z, TI, TO, i1, i2]) (fun b ob hb q => k1 b ob (fun w => hb (List.mem_cons_of_mem _ w)) q) hf (Nat.le_refl _) (pair_ok ru ru2 hp)
    have hf0 : ∀ c ∈ [e], FpOk X pins (upd H s.heap.objs.size (.tup [x, y])) c := fun c hcm => by
      have q : c = e := by simpa using hcm
      subst q
      have w := hf c (by simp)
      exact ⟨by rw [upd_ne (Nat.ne_of_lt hel)]; exact w.1, w.2⟩
    have hT2 := (sb.2 _ (Nat.ne_of_gt (Nat.lt_of_lt_of_le hel z1))).trans hT
    have I1 : Inv X pins σ (upd (upd H s.heap.objs.size (.tup [x, y])) h1.objs.size (.tup [.int (i : Nat), .ref s.heap.objs.size])) { s with heap := h2, toks := tk + 1 } :=
      I0.turnedNew (ch := [e]) (fun b ob hb q => (sb.2 b (fun w => hb (by simp [w]))).trans (k2 b ob (fun w => hb (by simp [w])) q)) hf0 (Nat.le_refl _) (pair_ok ⟨_, rfl⟩ rfl hT2)
    have hne2 : s.heap.objs.size ≠ h1.objs.size := by rw [hz1]; exact Nat.ne_of_lt (Nat.lt_succ_self _)
    refine ⟨.ref h1.objs.size, _, I1, rfl, ⟨s.heap.objs.size, h1.objs.size, x, y, rfl, I.hok.fresh (Nat.le_refl _), I.hok.fresh z1, hne2, rfl, fun l hl => by rw [I.tuple_inj hl hq]; exact hx, fun l hl => by rw [I.tuple_inj hl hq2]; exact hy⟩, ⟨⟨.ref s.heap.objs.size, ?_⟩, ?_⟩, fun c hcm => ?_⟩
    · have e1 : ((i + 1 : Nat) : Int) = (i : Int) + 1 := by omega
      rw [e1]; exact he2
    · exact st'.frame fun c hcm o q => (sb.2 c (fun w => hne (w ▸ hcm))).trans q
    · rw [upd_ne (Nat.ne_of_lt (Nat.lt_of_lt_of_le (hlt c hcm) z1)), upd_ne (Nat.ne_of_lt (hlt c hcm))]
      exact (hf c hcm).1
  done := by
    intro X hP hw hK hc i pins s σ H E I hf ⟨⟨old, he⟩, st⟩ ⟨xs, ys, hq, hq2, hi⟩
    subst hP hw hK
    obtain ⟨its, rv, p, _⟩ := I.tuple hq
    obtain ⟨its2, rv2, p2, _⟩ := I.tuple hq2
    have l1 := rv.length
    have l2 := rv2.length
    have en : i = min its.toArray.size its2.toArray.size := by rw [List.size_toArray, List.size_toArray]; omega
    rw [en] at st
    have S := src_zip (prog := X.prog) (w := X.w) (A := X.A.in1) (show X.A.in1.handled = none from I.ok.hd hc) D its.toArray its2.toArray
    exact nextE_done S he ⟨p, p2⟩ st fun h' k => ⟨rfl, I.turnedL (t' := s.toks) (ch := [e, z, TI, TO, i1, i2]) (fun c o hb q => k c o (fun w => hb (List.mem_cons_of_mem _ w)) q) hf⟩
  self := fun A i s Q E st h => let ⟨⟨_, he⟩, _⟩ := st; wpAny_pyIter_enum he h
end CB

/-! R2 -/
set_option Elab.async false
set_option linter.all false
set_option maxRecDepth 100000
set_option maxHeartbeats 4000000
namespace CB
open PySem PySem.Spec PyProof.Rows L2
section
variable {X : Cx} {tg : Expr}
/-- a list or a tuple -/
def iSeq (K : Fg) (te : TE) : TI := fun σ H R => iList K te σ H R ∨ iTup K te σ H R
theorem pi_seq {e : Expr} {te : TE} (h : PE X e te) : PI X tg e (iSeq X.K te) := ⟨fun pins s σ H R I q => q.elim ((pi_list h).run pins s σ H R I) ((pi_tup h).run pins s σ H R I)⟩
def iEnumS (K : Fg) (ta : TA) : TI := fun σ H R => ta σ H fun vs H1 => ∃ a xs, vs = [.ref a] ∧ ((SqL K H1 a xs ∧ R (Ite K a) H1) ∨ (SqT K H1 a xs ∧ R (IteT K a) H1))
theorem pi_enumS {e : Expr} {ta : TA} {p pos tpos : Pos} {elts : List Expr} {kk : Nat} (hg : Gl X "enumerate") (hm : X.mg "enumerate" = none) (ha : PA X [e] ta) (hs : starEach [e] X.env = [(false, eval e X.env)] := by rfl) :
    PI X (.Tuple elts kk tpos) (.Call (.Name "enumerate" p) [e] [] pos) (iEnumS X.K ta) := by
  refine ⟨fun pins s σ H R I h => Call_ (ld_blt I hg hm boot_enumerate (PyProof.Rows.callWith_type1 (thn (ha.run pos pins s σ H _ I h) fun us s1 ⟨vs, H1, I1, r1, a, xs, ex, q⟩ => ?_) hs rfl))⟩
  subst ex
  cases r1 with
  | cons r rr =>
    cases rr
    cases r
    have two : ∀ b ∈ [s1.heap.objs.size + 1, s1.heap.objs.size], FpOk X pins H1 b := fun b hb => by
      have hle : s1.heap.objs.size ≤ b := by
        have e' : b = s1.heap.objs.size + 1 ∨ b = s1.heap.objs.size := by simpa using hb
        rcases e' with z | z <;> rw [z]
        · exact Nat.le_add_right _ _
        · exact Nat.le_refl _
      exact I1.fpOk hle (I1.hok.fresh hle)
    rcases q with ⟨hq, q⟩ | ⟨hq, q⟩
    · obtain ⟨its, rv, p', hz⟩ := I1.list hq
      refine call_enumerate_list p'.isList fun h' he hit hsz hk => wpAny_pyIter_enum he ?_
      exact ⟨s1.heap.objs.size + 1, [s1.heap.objs.size + 1, s1.heap.objs.size], _, _, H1, rfl, I1.kept (t' := s1.toks) hk, turn_enum a (s1.heap.objs.size + 1) s1.heap.objs.size, ⟨⟨.none, he⟩, hit, Nat.succ_ne_self _⟩, two, q⟩
    · obtain ⟨its, rv, p', hz⟩ := I1.tuple hq
      refine call_enum1 (it := s1.heap.objs.size) (h1 := s1.heap.push { cls := .type "tuple_iterator", data := .fields #[.ref a, .int 0 0] }) (fun prog w A E Q q => wpAny_pyIter_tuple (show s1.heap.IsTuple a its.toArray from p') q) fun h' he hsz hk => wpAny_pyIter_enum he ?_
      rw [Heap.size_push] at he hsz ⊢
      have keep : ∀ b o, s1.heap.get? b = some o → h'.get? b = some o := fun b o z => hk b o (Heap.get?_push_of_some _ z)
      exact ⟨s1.heap.objs.size + 1, [s1.heap.objs.size + 1, s1.heap.objs.size], _, _, H1, rfl, I1.kept (t' := s1.toks) keep, turn_enumT a (s1.heap.objs.size + 1) s1.heap.objs.size, ⟨⟨.none, he⟩, ⟨_, hk _ _ (Heap.get?_push_size _ rfl), rfl, rfl⟩, Nat.succ_ne_self _⟩, two, q⟩
def iEnumZ (K : Fg) (ta : TA) : TI := fun σ H R => ta σ H fun vs H1 => ∃ a b xs ys, vs = [.ref a, .ref b] ∧ SqT K H1 a xs ∧ SqT K H1 b ys ∧ R (IteZ K a b) H1
theorem pi_enumzip {e e2 : Expr} {ta : TA} {p pos p2 pos2 tpos : Pos} {elts : List Expr} {kk : Nat} (hg : Gl X "enumerate") (hm : X.mg "enumerate" = none) (hg2 : Gl X "zip") (hm2 : X.mg "zip" = none) (ha : PA X [e, e2] ta)
    (hs : starEach [e, e2] X.env = (false, eval e X.env) :: starEach [e2] X.env := by rfl) (hpl : (backTo pos2 (starEach [e2] X.env)).any (·.1) = false := by rfl)
    (hs2 : starEach [.Call (.Name "zip" p2) [e, e2] [] pos2] X.env = [(false, eval (.Call (.Name "zip" p2) [e, e2] [] pos2) X.env)] := by rfl) :
    PI X (.Tuple elts kk tpos) (.Call (.Name "enumerate" p) [.Call (.Name "zip" p2) [e, e2] [] pos2] [] pos) (iEnumZ X.K ta) := by
  refine ⟨fun pins s σ H R I h => Call_ (ld_blt I hg hm boot_enumerate (PyProof.Rows.callWith_type1 (PyProof.Rows.args_cons (Call_ (ld_blt I hg2 hm2 PyProof.Rows.boot_zip (PyProof.Rows.callWith_type1 (thn (ha.run pos2 pins s σ H _ I h) fun us s1 ⟨vs, H1, I1, r1, a, b, xs, ys, ex, hqx, hqy, q⟩ => ?_) hs hpl))) hs2) hs2 rfl))⟩
  subst ex
  cases r1 with
  | cons r rr =>
    cases rr with
    | cons r' rr =>
      cases rr
      cases r
      cases r'
      obtain ⟨its, rv, p1, _⟩ := I1.tuple hqx
      obtain ⟨its2, rv2, p2, _⟩ := I1.tuple hqy
      obtain ⟨o1, ho1, _⟩ := id p1
      obtain ⟨o2, ho2, _⟩ := id p2
      refine RZ.call_zipT (show s1.heap.IsTuple a its.toArray from p1) (show s1.heap.IsTuple b its2.toArray from p2) fun h' hz hTI hTO h1 h2 hsz hk => PyProof.Rows.args_nil ?_
      refine call_enum1 (s := { s1 with heap := h' }) (it := s1.heap.objs.size + 4) (h1 := h') (fun prog w A E Q q => wpAny_pyIter_zip hz q) fun h'' he hsz'' hk2 => wpAny_pyIter_enum he ?_
      rw [hsz] at he hsz'' ⊢
      have D := PySem.W.ktu_apart s1.heap.objs.size a b (Heap.lt_size ho1) (Heap.lt_size ho2)
      refine ⟨s1.heap.objs.size + 5, [s1.heap.objs.size + 5, s1.heap.objs.size + 4, s1.heap.objs.size + 2, s1.heap.objs.size + 3, s1.heap.objs.size, s1.heap.objs.size + 1], _, _, H1, rfl, I1.kept (t' := s1.toks) (fun c o z => hk2 c o (hk c o z)),
        turn_enumZ D ?_, ⟨⟨.none, he⟩, ⟨⟨.none, false, hk2 _ _ hz, .inl rfl⟩, hk2 _ _ hTI, ⟨_, _, hk2 _ _ hTO⟩, h1.at fun o z => hk2 _ o z, h2.at fun o z => hk2 _ o z⟩⟩, fun c hcm => ?_, q⟩
      · intro hm
        have e' : s1.heap.objs.size + 5 = s1.heap.objs.size + 4 ∨ s1.heap.objs.size + 5 = s1.heap.objs.size + 2 ∨ s1.heap.objs.size + 5 = s1.heap.objs.size + 3 ∨ s1.heap.objs.size + 5 = s1.heap.objs.size ∨ s1.heap.objs.size + 5 = s1.heap.objs.size + 1 := by simpa using hm
        omega
      · have e' : c = s1.heap.objs.size + 5 ∨ c = s1.heap.objs.size + 4 ∨ c = s1.heap.objs.size + 2 ∨ c = s1.heap.objs.size + 3 ∨ c = s1.heap.objs.size ∨ c = s1.heap.objs.size + 1 := by simpa using hcm
        have hle : s1.heap.objs.size ≤ c := by
          rcases e' with z | z | z | z | z | z <;> rw [z] <;> first | exact Nat.le_add_right _ _ | exact Nat.le_refl _
        exact I1.fpOk hle (I1.hok.fresh hle)
end
/-! ### the data walked -/
section
variable {K : Fg} {Γ : List Sl} {te : TE} {ta : TA}
theorem itd_seqL {ds : List D} (h : EvD K te Γ (.list ds)) : IterD K (iSeq K te) Γ ds := fun M σ H T S R q => .inl (itd_list h M σ H T S R q)
theorem itd_seqT {ds : List D} (h : EvD K te Γ (.tuple ds)) : IterD K (iSeq K te) Γ ds := fun M σ H T S R q => .inr (itd_tup h M σ H T S R q)
/-- pairs of place and item -/
def enumD (ds : List D) : List D := (List.range ds.length).zip ds |>.map fun p => .tuple [.int (p.1 : Nat), p.2]
theorem enumD_len (ds : List D) : (enumD ds).length = ds.length := by unfold enumD; simp
theorem zip_get2 {α β : Type} : ∀ {xs : List α} {ys : List β} {i : Nat} {x : α} {y : β}, xs[i]? = some x → ys[i]? = some y → (xs.zip ys)[i]? = some (x, y)
  | [], _, _, _, _, h, _ => by simp at h
  | _ :: _, [], _, _, _, _, h => by simp at h
  | a :: as, b :: bs, 0, x, y, h, h' => by simp at h h'; simp [h, h']
  | a :: as, b :: bs, i + 1, x, y, h, h' => by
    have := zip_get2 (xs := as) (ys := bs) (i := i) (by simpa using h) (by simpa using h')
    simpa using this
theorem enumD_get {ds : List D} {i : Nat} {d : D} (h : ds[i]? = some d) : (enumD ds)[i]? = some (.tuple [.int (i : Nat), d]) := by
  unfold enumD
  have hi := (List.getElem?_eq_some_iff.mp h).1
  rw [List.getElem?_map, zip_get2 (List.getElem?_range hi) h]
  rfl
def enumF : Nat → List D → List D
  | _, [] => []
  | n, d :: ds => .tuple [.int (n : Nat), d] :: enumF (n + 1) ds
theorem enumF_eq : ∀ (ds : List D) (n : Nat), ((List.range' n ds.length).zip ds).map (fun p => PyData.tuple [.int (p.1 : Nat), p.2]) = enumF n ds
  | [], _ => rfl
  | d :: ds, n => by
    rw [List.length_cons, List.range'_succ, List.zip_cons_cons, List.map_cons, enumF_eq ds (n + 1)]
    rfl
theorem enumD_eq (ds : List D) : enumD ds = enumF 0 ds := by
  unfold enumD
  rw [List.range_eq_range']
  exact enumF_eq ds 0
theorem walk_enumT {K : Fg} {a : Addr} {xs : List V} : Walk (IteT K a) xs.length (fun H => SqT K H a xs) (YPair (fun i => some (.int (i : Nat))) (fun i => xs[i]?)) := by
  refine ⟨fun i _ hi q => ⟨xs, xs[i], q, by simp [hi]⟩, fun _ q => ⟨xs, q, Nat.le_refl _⟩, fun i H v H' _ q y => ?_⟩
  obtain ⟨T, x, h1, h2, h3, h4⟩ := y
  exact ⟨T, .int (i : Nat), x, h1, h2, h3, rfl, h4 xs q⟩
theorem pair_dp {M : List Addr} {H : Hp} {T : Addr} {x y : V} {d e : D} (t : Trk M H) (h : H T = none) (hx : Dq K (hide M H) x d) (hy : Dq K (hide M H) y e) : Dq K (hide M (L2.upd H T (.tup [x, y]))) (.ref T) (.tuple [d, e]) :=
  .tup ((t.upd h)) (.cons (hx.mono' (hsame (same_new h))) (.cons (hy.mono' (hsame (same_new h))) .nil))
theorem enum_step {xs : List V} {ds : List D} {Hb : Hp} {M M' : List Addr} {H2 H2' : Hp} {i : Nat} {x : V} (dp : DqAll K (hide M Hb) xs ds) (s : Same (hide M Hb) (hide M' H2)) (t : Trk M' H2)
    (y : YPair (fun i => some (V.int (i : Nat))) (fun i => xs[i]?) i H2 x H2') : Same H2 H2' ∧ ∃ d, (enumD ds)[i]? = some d ∧ Dq K (hide M' H2') x d := by
  obtain ⟨T, u, v, h1, h2, h3, h4, h5⟩ := y
  subst h1 h3
  obtain ⟨d, hd, hp⟩ := DqAll.getV dp h5
  have h4' : V.int (i : Nat) = u := Option.some.inj h4
  subst h4'
  exact ⟨same_new h2, _, enumD_get hd, pair_dp t h2 (.int _) (hp.mono' s)⟩
theorem itd_enumL {ds : List D} (h : EvA K ta Γ [.list ds]) : IterD K (iEnumS K ta) Γ (enumD ds) := fun M σ H T S R q => h M σ H T S _ fun vs H1 e1 d1 => by
  obtain ⟨v, rfl, dv⟩ := dpa1 d1
  obtain ⟨a, xs, rfl, h1, h2⟩ := dv.lstI
  refine ⟨a, xs, rfl, .inl ⟨hide_le.seq h1, q _ H1 e1 ⟨fun H => SqL K H a xs, YPair (fun i => some (.int (i : Nat))) (fun i => xs[i]?), ?_, fun M' H2 s => hide_le.seq (s.seq h1), fun i H2 x H2' M' hi T' s y => enum_step h2 s T' y⟩⟩⟩
  rw [enumD_len, ← DqAll.len h2]; exact walk_enum
theorem itd_enumT {ds : List D} (h : EvA K ta Γ [.tuple ds]) : IterD K (iEnumS K ta) Γ (enumD ds) := fun M σ H T S R q => h M σ H T S _ fun vs H1 e1 d1 => by
  obtain ⟨v, rfl, dv⟩ := dpa1 d1
  obtain ⟨a, xs, rfl, h1, h2⟩ := dv.tupI
  refine ⟨a, xs, rfl, .inr ⟨seqT hide_le h1, q _ H1 e1 ⟨fun H => SqT K H a xs, YPair (fun i => some (.int (i : Nat))) (fun i => xs[i]?), ?_, fun M' H2 s => seqT hide_le (seqT s h1), fun i H2 x H2' M' hi T' s y => enum_step h2 s T' y⟩⟩⟩
  rw [enumD_len, ← DqAll.len h2]; exact walk_enumT
def zipD (ds es : List D) : List D := (ds.zip es).map fun p => .tuple [p.1, p.2]
theorem zipD_len (ds es : List D) : (zipD ds es).length = min ds.length es.length := by unfold zipD; simp
theorem zipD_get {ds es : List D} {i : Nat} {d e : D} (h : ds[i]? = some d) (h' : es[i]? = some e) : (zipD ds es)[i]? = some (.tuple [d, e]) := by
  unfold zipD
  rw [List.getElem?_map, zip_get2 h h']
  rfl
theorem itd_enumZ {ds es : List D} (h : EvA K ta Γ [.tuple ds, .tuple es]) : IterD K (iEnumZ K ta) Γ (enumD (zipD ds es)) := fun M σ H T S R q => h M σ H T S _ fun vs H1 e1 d1 => by
  obtain ⟨v, w, rfl, dv, dw⟩ := dpa2 d1
  obtain ⟨a, xs, rfl, h1, h2⟩ := dv.tupI
  obtain ⟨b, ys, rfl, h3, h4⟩ := dw.tupI
  have l1 := DqAll.len h2
  have l2 := DqAll.len h4
  refine ⟨a, b, xs, ys, rfl, seqT hide_le h1, seqT hide_le h3, q _ H1 e1 ⟨fun H => SqT K H a xs ∧ SqT K H b ys, fun i H v H' => ∃ T U x y, v = .ref U ∧ H T = none ∧ H U = none ∧ T ≠ U ∧ H' = L2.upd (L2.upd H T (.tup [x, y])) U (.tup [.int (i : Nat), .ref T]) ∧ xs[i]? = some x ∧ ys[i]? = some y, ?_,
    fun M' H2 s => ⟨seqT hide_le (seqT s h1), seqT hide_le (seqT s h3)⟩, fun i H2 x H2' M' hi T' s y => ?_⟩⟩
  · rw [enumD_len, zipD_len, ← l1, ← l2]
    refine ⟨fun i _ hi q => ?_, fun _ q => ⟨xs, ys, q.1, q.2, rfl⟩, fun i H v H' _ q y => ?_⟩
    · have k1 : i < xs.length := by omega
      have k2 : i < ys.length := by omega
      exact ⟨xs, ys, xs[i], ys[i], q.1, q.2, by simp [k1], by simp [k2]⟩
    · obtain ⟨T, U, x, z, k1, k2, k3, k4, k5, k6, k7⟩ := y
      exact ⟨T, U, x, z, k1, k2, k3, k4, k5, k6 xs q.1, k7 ys q.2⟩
  · obtain ⟨T, U, u, v, k1, k2, k3, k4, k5, k6, k7⟩ := y
    subst k1 k5
    obtain ⟨d, hd, hp⟩ := DqAll.getV h2 k6
    obtain ⟨e, he, hpe⟩ := DqAll.getV h4 k7
    have n2 : L2.upd H2 T (.tup [u, v]) U = none := by rw [upd_ne (Ne.symm k4)]; exact k3
    refine ⟨(same_new k2).trans (same_new n2), _, enumD_get (zipD_get hd he), pair_dp (T'.mono (same_new k2)) n2 (.int _) (pair_dp T' k2 (hp.mono' s) (hpe.mono' s))⟩
theorem itd_zipT {ds es : List D} (h : EvA K ta Γ [.tuple ds, .tuple es]) : IterD K (RZ.iZipA K ta) Γ (zipD ds es) := fun M σ H T S R q => h M σ H T S _ fun vs H1 e1 d1 => by
  obtain ⟨v, w, rfl, dv, dw⟩ := dpa2 d1
  obtain ⟨a, xs, rfl, h1, h2⟩ := dv.tupI
  obtain ⟨b, ys, rfl, h3, h4⟩ := dw.tupI
  have l1 := DqAll.len h2
  have l2 := DqAll.len h4
  refine ⟨a, b, xs, ys, rfl, .inr ⟨seqT hide_le h1, seqT hide_le h3, q _ H1 e1 ⟨fun H => SqT K H a xs ∧ SqT K H b ys, YPair (fun i => xs[i]?) (fun i => ys[i]?), ?_,
    fun M' H2 s => ⟨seqT hide_le (seqT s h1), seqT hide_le (seqT s h3)⟩, fun i H2 x H2' M' hi T' s y => ?_⟩⟩⟩
  · rw [zipD_len, ← l1, ← l2]
    refine ⟨fun i _ hi q => ?_, fun _ q => ⟨xs, ys, q.1, q.2, by omega⟩, fun i H v H' _ q y => ?_⟩
    · have k1 : i < xs.length := by omega
      have k2 : i < ys.length := by omega
      exact ⟨xs, ys, xs[i], ys[i], q.1, q.2, by simp [k1], by simp [k2]⟩
    · obtain ⟨T, x, z, k1, k2, k3, k4, k5⟩ := y
      exact ⟨T, x, z, k1, k2, k3, k4 xs q.1, k5 ys q.2⟩
  · obtain ⟨T, u, v, k1, k2, k3, k4, k5⟩ := y
    subst k1 k3
    obtain ⟨d, hd, hp⟩ := DqAll.getV h2 k4
    obtain ⟨e, he, hpe⟩ := DqAll.getV h4 k5
    exact ⟨same_new k2, _, zipD_get hd he, pair_dp T' k2 (hp.mono' s) (hpe.mono' s)⟩
end
end CB

/-! R3 -/
set_option Elab.async false
set_option linter.all false
set_option maxRecDepth 100000
set_option maxHeartbeats 4000000
namespace CB
open PySem PySem.Spec PyProof.Rows L2
/-! ### t[::-1] of a tuple -/
section
variable {prog : Program} {w : World} {A : Around} {E : Value → Shared → Prop} {s : Shared}
theorem sliceRev {sl : Addr} {vl vu vs : Value} {n : Nat} {Q : Int × Int × Nat → Shared → Prop} (hs : s.heap.IsSliceOf sl vl vu vs) (pl : IsPart vl none) (pu : IsPart vu none) (ps : IsPart vs (some (-1)))
    (h : Q ((n : Int) - 1, -1, n) s) : wpAny (model prog w) A (Builtin.Slice.sliceApplied (.ref sl) (pure (n : Int))) Q E s := by
  obtain ⟨os, ho, hc, hd⟩ := id hs
  unfold Builtin.Slice.sliceApplied Builtin.Slice.sliceFields
  refine wpAny_bind (wpAny_bind (wpAny_field ho hd (x := vl) rfl (wpAny_bind (wpAny_field ho hd (x := vu) rfl (wpAny_bind (wpAny_field ho hd (x := vs) rfl (wpAny_pure ?_)))))))
  refine wpAny_bind (HT.slicePart_ ps ?_)
  show wpAny _ _ (if ((-1 : Int) == 0) = true then _ else _) _ _ s
  rw [if_neg (by decide)]
  refine wpAny_bind (HT.slicePart_ pl (wpAny_bind (HT.slicePart_ pu (wpAny_bind (wpAny_pure ?_)))))
  have e1 : Builtin.Slice.sliceAdjust none none (-1) (n : Int) = ((n : Int) - 1, -1) := rfl
  have e2 : Builtin.Slice.slicePlaces ((n : Int) - 1) (-1) (-1) = n := by
    unfold Builtin.Slice.slicePlaces
    rw [if_neg (by decide)]
    by_cases hn : (n : Int) - 1 > -1
    · rw [if_pos hn]
      have : (-(-1 : Int)) = 1 := by decide
      rw [this, Int.ediv_one]; omega
    · rw [if_neg hn]
      have : n = 0 := by omega
      subst this
      decide
  show wpAny _ _ (match Builtin.Slice.sliceAdjust none none (-1) (n : Int) with | (lo, hi) => pure (lo, (-1 : Int), Builtin.Slice.slicePlaces lo hi (-1))) _ _ s
  rw [e1]
  show wpAny _ _ (pure ((n : Int) - 1, (-1 : Int), Builtin.Slice.slicePlaces ((n : Int) - 1) (-1) (-1))) _ _ s
  rw [e2]
  exact wpAny_pure h
theorem pick_rev (xs : Array Value) : ((List.range xs.size).filterMap fun (m : Nat) => xs[(((xs.size : Int) - 1) + (m : Int) * (-1)).toNat]?).toArray = xs.toList.reverse.toArray := by
  congr 1
  apply List.ext_getElem?
  intro i
  have key : ∀ (n : Nat), n ≤ xs.size → (List.range n).filterMap (fun (m : Nat) => xs[(((xs.size : Int) - 1) + (m : Int) * (-1)).toNat]?) = xs.toList.reverse.take n := by
    intro n
    induction n with
    | zero => intro _; rfl
    | succ n ih =>
      intro hn
      rw [List.range_succ, List.filterMap_append, ih (by omega), List.take_add_one]
      congr 1
      have e : (((xs.size : Int) - 1) + (n : Int) * (-1)).toNat = xs.size - 1 - n := by omega
      have hlt : xs.size - 1 - n < xs.size := by omega
      have h2 : n < xs.toList.length := by simpa using (by omega : n < xs.size)
      rw [List.getElem?_reverse h2]
      simp only [List.filterMap_cons, List.filterMap_nil, e, Array.getElem?_eq_getElem hlt]
      simp [hlt]
  rw [key xs.size (Nat.le_refl _), List.take_of_length_le (by simp)]
theorem getItem_tupleRev {t sl : Addr} {items : Array Value} {vl vu vs : Value} {Q : Value → Shared → Prop} (ht : IsTup s.heap t items) (hs : s.heap.IsSliceOf sl vl vu vs) (pl : IsPart vl none) (pu : IsPart vu none) (ps : IsPart vs (some (-1)))
    (h : Q (.ref s.heap.objs.size) { s with heap := s.heap.push { cls := .type "tuple", data := .seq items.toList.reverse.toArray } }) (hsz : items.size ≤ sizeLine) : wpAny (model prog w) A (getItem (.ref t) (.ref sl)) Q E s := by
  have hlen : sizeOk (.seq items.toList.reverse.toArray) := by
    show items.toList.reverse.toArray.size ≤ sizeLine
    rw [List.size_toArray, List.length_reverse, Array.length_toList]
    exact hsz
  obtain ⟨os, hos, hcs, hds⟩ := id hs
  have ty : s.TypeIs (.ref sl) "slice" := ⟨os, hos, hcs⟩
  unfold getItem
  try with_reducible refine wpAny_holding ?_
  first | refine wpAny_bind (wpAny_pure ?_) | skip
  refine wpAny_bind (wpAny_sequenceKey ht.typeIs (by decide) (wpAny_bind (wpAny_callSpecial?_slot (name := Str.ofString "__getitem__") ht.typeIs PyProof.Rows.slot_tuple_getitem
    (wpAny_call_entry PyProof.Rows.slot_tuple_getitem ht.typeIs entry_tuple_getitem ?_ (args_tuple_getitem _ _)))))
  show wpAny _ _ (Builtin.Tuple.tupleItemsOf (.ref t) >>= _) _ _ s
  refine wpAny_bind (tupleItemsOf_ ht (wpAny_bind (wpAny_typeOf ty ?_)))
  rw [if_pos (by decide)]
  refine wpAny_bind (sliceRev hs pl pu ps ?_)
  have no : ¬ ((((items.size : Int) - 1) == 0 && (-1 : Int) == 1 && items.size == items.size) = true) := by simp
  show wpAny _ _ (if ((((items.size : Int) - 1) == 0 && (-1 : Int) == 1 && items.size == items.size) = true) then _ else _) _ _ s
  rw [if_neg no, pick_rev]
  first
    | exact wpAny_bind (m := Builtin.Tuple.tupleExact _) (wpAny_newObj_type (wpAny_pure ⟨_, rfl, wpAny_pure h⟩) hlen)
    | exact wpAny_bind (m := Builtin.Tuple.tupleExact _) (wpAny_newObj_type (wpAny_bind (wpAny_pure (wpAny_pure ⟨_, rfl, wpAny_pure h⟩))) hlen)
    | exact wpAny_bind (wpAny_bind (m := Builtin.Tuple.tupleExact _) (wpAny_newObj_type (wpAny_pure (wpAny_pure ⟨_, rfl, wpAny_pure h⟩)) hlen))
    | exact wpAny_bind (wpAny_bind (m := Builtin.Tuple.tupleExact _) (wpAny_newObj_type (wpAny_pure ⟨_, rfl, wpAny_pure h⟩) hlen))
end
section
variable {X : Cx}
def tRevT (K : Fg) (te : TE) : TE := fun σ H Q => te σ H fun x H1 => ∃ a xs, x = .ref a ∧ SqT K H1 a xs ∧ ∀ p, H1 p = none → Q (.ref p) (L2.upd H1 p (.tup xs.reverse))
theorem pe_revT {e : Expr} {te : TE} {k : Nat} {p1 p2 p3 pos : Pos} (he : PE X e te) : PE X (.Subscript e (.Slice none none (some (.UnaryOp .USub (.Constant (.int 1) k p1) p2)) p3) pos) (tRevT X.K te) := by
  refine ⟨fun pins s σ H Q I h => Subscript_ (thn (he.run pins s σ H _ I h) fun v s1 ⟨x, H1, I1, r1, a, xs, ex, hx, q⟩ => ?_)⟩
  subst ex
  cases r1
  have hst : PO X (some (.UnaryOp .USub (.Constant (.int 1) k p1) p2)) (tPart (tUn (rU fun i => .int (-i)) (tC (.int 1)))) := po_some (pe_un un_neg pe_int)
  refine wpAny_Slice (thn (po_none.run pins s1 σ H1 (fun o H2 => o = none ∧ H2 = H1) I1 ⟨rfl, rfl⟩) fun vl s2 ⟨l, H2, I2, pl, el, e2⟩ => ?_)
  subst el e2
  refine thn (po_none.run pins s2 σ H2 (fun o H3 => o = none ∧ H3 = H2) I2 ⟨rfl, rfl⟩) fun vu s3 ⟨u, H3, I3, pu, eu, e3⟩ => ?_
  subst eu e3
  refine thn (hst.run pins s3 σ H3 (fun o H4 => o = some (-1) ∧ H4 = H3) I3 ⟨1, rfl, -1, rfl, rfl, rfl⟩) fun vs s4 ⟨o, H4, I4, ps, eo, e4⟩ => ?_
  subst eo e4
  have I5 : Inv X pins σ H4 { s4 with heap := s4.heap.push { cls := .type "slice", data := .fields #[vl, vu, vs] } } := I4.kept (t' := s4.toks) fun b ob q => Heap.get?_push_of_some _ q
  obtain ⟨its, r, ht, hz⟩ := I5.tuple hx
  have hlen := r.length
  show wpAny (model X.prog X.w) X.A (subscriptTail e (.Slice none none (some (.UnaryOp .USub (.Constant (.int 1) k p1) p2)) p3) (.ref a) (.ref s4.heap.objs.size)) (EP X pins σ Q) X.xe { s4 with heap := s4.heap.push { cls := .type "slice", data := .fields #[vl, vu, vs] } }
  refine tail_any (ops := [.ref a, .ref s4.heap.objs.size]) ht.typeIs PyProof.Rows.slot_tuple_getitem.lookup ?_ (by with_unfolding_all rfl)
  refine getItem_tupleRev ht (Heap.IsSliceOf.new _ vl vu vs) pl pu ps ?_ (by rw [List.size_toArray]; omega)
  refine ⟨.ref _, _, I5.laid (t' := s4.toks) (o := .tup xs.reverse) (fun b ob q => Heap.get?_push_of_some _ q) (Nat.le_refl _) ?_, rfl, q _ (I5.hok.fresh (Nat.le_refl _))⟩
  exact ⟨by rw [List.length_reverse]; exact hz, _, r.reverse, ⟨_, Heap.get?_push_size _ rfl, rfl, _, rfl⟩⟩
def tRevU (K : Fg) (te : TE) : TE := fun σ H Q => tRevL K te σ H Q ∨ tRevT K te σ H Q
theorem pe_revU {e : Expr} {te : TE} {k : Nat} {p1 p2 p3 pos : Pos} (he : PE X e te) : PE X (.Subscript e (.Slice none none (some (.UnaryOp .USub (.Constant (.int 1) k p1) p2)) p3) pos) (tRevU X.K te) :=
  ⟨fun pins s σ H Q I h => h.elim ((pe_revL he).run pins s σ H Q I) ((pe_revT he).run pins s σ H Q I)⟩
end
section
variable {K : Fg} {Γ : List Sl} {te : TE}
theorem evd_revT {ds : List D} (h : EvD K te Γ (.tuple ds)) : EvD K (tRevU K te) Γ (.tuple ds.reverse) := fun M σ H T E Q q => .inr (h M σ H T E _ fun v H1 e1 d1 => by
  obtain ⟨a, xs, rfl, h1, h2⟩ := d1.tupI
  exact ⟨a, xs, rfl, seqT hide_le h1, fun p hp => q _ _ (e1.trans (same_new hp)) (.tup (((T.mono e1).upd hp)) (h2.rev.mono' (hsame (same_new hp))))⟩)
theorem evd_revL {ds : List D} (h : EvD K te Γ (.list ds)) : EvD K (tRevU K te) Γ (.list ds.reverse) := fun M σ H T E Q q => .inl (h M σ H T E _ fun v H1 e1 d1 => by
  obtain ⟨a, xs, rfl, h1, h2⟩ := d1.lstI
  exact ⟨a, xs, rfl, hide_le.seq h1, fun p hp => q _ _ (e1.trans (same_new hp)) (.lst (((T.mono e1).upd hp)) (h2.rev.mono' (hsame (same_new hp))))⟩)
theorem evd_revTx {t : Tx} (h : EvD K te Γ (T t)) : EvD K (tRevU K te) Γ (T t.reverse) := by
  have q := evd_revT (ds := t.map PyData.int) h
  rw [← List.map_reverse] at q
  exact q
end
end CB

/-! R4 -/
set_option Elab.async false
set_option linter.all false
set_option maxRecDepth 100000
set_option maxHeartbeats 4000000
namespace CB
open PySem PySem.Spec PyProof.Rows L2
/-! ### len(set(t)) of ints -/
/-- without repetitions -/
def dd : Tx → Tx
  | [] => []
  | x :: xs => if x ∈ xs then dd xs else x :: dd xs
theorem dd_mem {k : Int} : ∀ {xs : Tx}, k ∈ dd xs ↔ k ∈ xs
  | [] => Iff.rfl
  | x :: xs => by
    unfold dd
    by_cases h : x ∈ xs
    · rw [if_pos h, dd_mem, List.mem_cons]
      exact ⟨.inr, fun z => z.elim (fun e => e ▸ h) id⟩
    · rw [if_neg h, List.mem_cons, List.mem_cons, dd_mem]
theorem dd_nodup : ∀ xs : Tx, (dd xs).Nodup
  | [] => List.nodup_nil
  | x :: xs => by
    unfold dd
    by_cases h : x ∈ xs
    · rw [if_pos h]; exact dd_nodup xs
    · rw [if_neg h]; exact List.nodup_cons.mpr ⟨fun z => h (dd_mem.mp z), dd_nodup xs⟩
theorem dd_len : ∀ xs : Tx, (dd xs).length ≤ xs.length
  | [] => Nat.le_refl _
  | x :: xs => by
    unfold dd
    have := dd_len xs
    by_cases h : x ∈ xs
    · rw [if_pos h]; exact Nat.le_succ_of_le this
    · rw [if_neg h]; exact Nat.succ_le_succ this
theorem dd_eq : ∀ {xs : Tx}, (dd xs).length = xs.length ↔ xs.Nodup
  | [] => ⟨fun _ => List.nodup_nil, fun _ => rfl⟩
  | x :: xs => by
    unfold dd
    by_cases h : x ∈ xs
    · rw [if_pos h]
      have := dd_len xs
      exact ⟨fun z => absurd z (by rw [List.length_cons]; omega), fun z => absurd h (List.nodup_cons.mp z).1⟩
    · rw [if_neg h, List.length_cons, List.length_cons, List.nodup_cons]
      exact ⟨fun z => ⟨h, dd_eq.mp (Nat.succ.inj z)⟩, fun z => by rw [dd_eq.mpr z.2]⟩
theorem same_len {xs ys : Tx} (h1 : xs.Nodup) (h2 : ys.Nodup) (h : ∀ k, k ∈ xs ↔ k ∈ ys) : xs.length = ys.length :=
  ((List.perm_ext_iff_of_nodup h1 h2).mpr h).length_eq
section
variable {X : Cx}
def tLenSetT (K : Fg) (te : TE) : TE := fun σ H Q => te σ H fun x H1 => ∃ (p : Addr) (ns : Tx), x = .ref p ∧ SqT K H1 p (ns.map V.int) ∧ ns.length ≤ 1000 ∧ Q (.int (dd ns).length) H1
theorem pe_lenSet {a : Expr} {ta : TE} {p p2 q pos : Pos} (hg : Gl X "len") (hm : X.mg "len" = none) (hg2 : Gl X "set") (hm2 : X.mg "set" = none) (ha : PE X a ta) (hc : X.calm = true := by rfl)
    (na : starEach [a] X.env = (false, eval a X.env) :: starEach [] X.env := by rfl) : PE X (.Call (.Name "len" p) [.Call (.Name "set" p2) [a] [] q] [] pos) (tLenSetT X.K ta) := by
  refine ⟨fun pins s σ H Q I h => Call_ (ld_blt I hg hm boot_len (PyProof.Rows.callWith_builtin1 (PyProof.Rows.args_cons (Call_ (ld_blt I hg2 hm2 boot_set ?_)) rfl) rfl rfl))⟩
  refine PyProof.Rows.callWith_type1 (PyProof.Rows.args_cons (thn (ha.run pins s σ H _ I h) fun v s1 ⟨x, H1, I1, r1, l, ns, ex, hq, hl, q1⟩ => PyProof.Rows.args_nil ?_) na) na rfl
  subst ex
  cases r1
  obtain ⟨its, r, pt, hz⟩ := I1.tuple hq
  refine call_set_tupI ns (I1.ok.hd hc) (show s1.heap.IsTuple l its.toArray from pt) (ints_of_vals r) (by unfold scanBound; omega) fun h' tk c R1 hcn k => PyProof.Rows.args_nil ?_
  obtain ⟨o, es, ep, t, ho, hex, hdt, g, nd, hm3, hb, hf, hn, hr, hl2⟩ := R1
  have I2 : Inv X pins σ H1 { s1 with heap := h', toks := tk } := I1.kept k
  have e1 : es.size = (dd ns).length := by
    have := same_len nd (dd_nodup ns) fun k => by rw [← hm3 k, decide_eq_true_eq, dd_mem]
    rw [← this, List.length_map, Array.length_toList]
  refine call_len_set ho hex hdt hf (by rw [hn] <;> omega) ⟨.int (dd ns).length, H1, I2.tok _, ⟨_, by rw [e1]⟩, q1⟩
end
section
variable {K : Fg} {Γ : List Sl} {te : TE} {ta : TA}
theorem of_ints' {H : Hp} {xs : List V} {t : Tx} (h : DqAll K H xs (t.map PyData.int)) : xs = t.map V.int := DqAll.of_ints h
theorem evd_lenSet {t : Tx} (h : EvD K te Γ (T t)) (hl : t.length ≤ 1000) : EvD K (tLenSetT K te) Γ (.int (dd t).length) := fun M σ H T E Q q => h M σ H T E _ fun v H1 e1 d1 => by
  obtain ⟨a, xs, rfl, h1, h2⟩ := d1.tupI
  have e := DqAll.of_ints h2
  subst e
  exact ⟨a, t, rfl, seqT hide_le h1, hl, q _ H1 e1 (.int _)⟩
end
/-! ### sorted(t) -/
section
variable {prog : Program} {w : World} {A : Around} {E : Value → Shared → Prop} {s : Shared}
open SrtO in
theorem collect_tup {l : Addr} {vs : List Value} {Q : List Value → Shared → Prop} (hl : s.heap.IsTuple l vs.toArray) (hz : vs.length ≤ sizeLine)
    (h : Q vs { s with heap := (s.heap.push (seqObj "list" #[] 0)).update s.heap.objs.size (Obj.mapSeq (· ++ vs.toArray)) }) : wpAny (model prog w) A (collect (.ref l)) Q E s := by
  obtain ⟨o, ho, hc, n, hd⟩ := id hl
  unfold collect
  refine wpAny_bind (wpAny_runValue (codeAny_builtin entry_proto_collect' ?_))
  show wpAny _ _ (do again (.builtin "list.__iadd__" ⟨[← newList [], .ref l], []⟩)) _ _ s
  refine wpAny_bind (wpAny_newList (wpAny_pure ⟨Code.quiet_builtin _ (by decide +kernel), codeAny_builtin entry_list_iadd' ?_⟩))
  show wpAny _ _ (Builtin.List.listExtendWith (.ref s.heap.objs.size) (.ref l) (.ref s.heap.objs.size)) _ _ { s with heap := s.heap.push (seqObj "list" #[] 0) }
  unfold Builtin.List.listExtendWith
  have ho' : (s.heap.push (seqObj "list" #[] 0)).get? l = some o := Heap.get?_push_of_some _ ho
  refine wpAny_bind (wpAny_typeOf (T := "tuple") ⟨o, ho', hc⟩ ?_)
  have ht : (Value.type "tuple" == Value.type "tuple") = true := by rfl
  rw [if_pos (by rw [ht]; simp)]
  refine wpAny_bind (listItems_at ho' hd (wpAny_bind (listItems_at (xs := #[]) (n := 0) (Heap.get?_push_size _ rfl) rfl ?_)))
  rw [if_neg (by simp)]
  refine wpAny_bind (listUpdate_at (xs := #[]) (n := 0) (Heap.get?_push_size _ rfl) rfl (wpAny_pure ?_) (Nat.zero_le _) (by show (#[] ++ vs.toArray).size ≤ sizeLine + 1; simp only [Array.size_append, List.size_toArray, List.length_nil]; omega))
  show wpAny (model prog w) A (do
      let o ← load s.heap.objs.size
      match o.data with
      | .seq xs _ => pure xs.toList
      | _ => unsupported "internal:collect") Q E { s with heap := (s.heap.push (seqObj "list" #[] 0)).update s.heap.objs.size (Obj.mapSeq (· ++ vs.toArray)) }
  refine wpAny_bind (wpAny_load (get?_update_seq (Heap.get?_push_size _ rfl) _) ?_)
  show wpAny _ _ (pure ((#[] : Array Value) ++ vs.toArray).toList) Q E _
  have ee : ((#[] : Array Value) ++ vs.toArray).toList = vs := by simp
  rw [ee]
  exact wpAny_pure h
open SrtO in
theorem sorted_tup {l : Addr} {vs : List Value} {ltv : Value → Value → Bool} {Q : Value → Shared → Prop} (O : Swo ltv) (hl : s.heap.IsTuple l vs.toArray) (hz : vs.length ≤ sizeLine)
    (hS : 2 ≤ vs.length → ∀ (h₁ : Heap) (a : Addr), SortableO prog w A.in1.in1 { s with heap := h₁ } a vs ltv)
    (h : ∀ out : List Value, Srtd ltv out → Stb ltv out vs → Q (.ref (s.heap.objs.size + 1)) { s with heap := sortedAll s.heap vs out.toArray }) :
    wpAny (model prog w) A (call (.builtin "sorted") [.ref l]) Q E s := by
  refine Calls.call_function_entry kind_sorted plain_sorted entry_sorted (args_sorted1 _) ?_
  unfold Builtin.«sorted»
  refine wpAny_bind (m := checkCount "sorted" 1 1 _) (wpAny_pure (wpAny_bind (collect_tup hl hz (wpAny_bind (wpAny_newList ?_ hz)))))
  have e1 : ((s.heap.push (seqObj "list" #[] 0)).update s.heap.objs.size (Obj.mapSeq (· ++ vs.toArray))).objs.size = s.heap.objs.size + 1 := by
    rw [Heap.size_update, size_push']
  have hoL : (((s.heap.push (seqObj "list" #[] 0)).update s.heap.objs.size (Obj.mapSeq (· ++ vs.toArray))).push (seqObj "list" vs.toArray 0)).get? (s.heap.objs.size + 1) = some (seqObj "list" vs.toArray 0) := by
    rw [← e1]; exact Heap.get?_push_size _ rfl
  show wpAny _ _ _ _ _ { s with heap := ((s.heap.push (seqObj "list" #[] 0)).update s.heap.objs.size (Obj.mapSeq (· ++ vs.toArray))).push (seqObj "list" vs.toArray 0) }
  rw [e1]
  refine wpAny_bind (wpAny_holding (wpAny_call_entry slot_list_sort ⟨_, hoL, rfl⟩ entry_list_sort (list_sort_ord O hoL hz (fun h2 => hS h2 _ _) fun out hs hb => ⟨_, rfl, wpAny_pure ⟨_, rfl, h out hs hb⟩⟩) (args_list_sort _)))
end
section
variable {X : Cx}
def rSortT (K : Fg) : List V → Hp → VK → Prop := fun vs H Q => ∃ (a : Addr) (ns : Tx), vs = [V.ref a] ∧ SqT K H a (ns.map V.int) ∧ ∀ (ns' : Tx) (p : Addr), ns'.Perm ns → ns'.Pairwise (· ≤ ·) → H p = none → Q (.ref p) (L2.upd H p (.lst (ns'.map V.int)))
theorem cr_sortedT' : CallR X (.builtin "sorted") (rSortT X.K) := by
  intro pins s σ H vs us Q I r h
  obtain ⟨a, ns, rfl, hs, q⟩ := h
  obtain ⟨its, rv, hl, hz⟩ := I.tuple hs
  rw [Vals.ref1 r]
  have hi := rv.ints
  refine sorted_tup SrtO.swo_int (show s.heap.IsTuple a its.toArray from hl) (by rw [← rv.length]; exact hz) (fun h2 h₁ a' => SrtO.ints_sortable hi h2) fun out h1 h2 => ?_
  obtain ⟨k1, k2, k3⟩ := SrtO.ints_out hi h1 h2
  obtain ⟨ep, he'⟩ := PyProof.Rows.sortedAll_at s.heap its out.toArray
  have hn : ((out.map SrtO.iv).map V.int).length ≤ sizeLine := by
    rw [List.length_map, k2.length_eq]
    rw [List.length_map] at hz
    exact hz
  exact ⟨.ref _, L2.upd H (s.heap.objs.size + 1) (.lst ((out.map SrtO.iv).map V.int)), I.laid (t' := s.toks) (fun _ _ => PyProof.Rows.sortedAll_old) (Nat.le_succ _) ⟨hn, out, ep, vals_of_ints k1, he'⟩, rfl, q _ _ k2 k3 (I.hok.fresh (Nat.le_succ _))⟩
end
/-- the sorted one -/
theorem sorted_uniq : ∀ {a b : Tx}, a.Perm b → a.Pairwise (· ≤ ·) → b.Pairwise (· ≤ ·) → a = b
  | [], b, p, _, _ => (List.nil_perm.mp p).symm
  | x :: a, [], p, _, _ => by simpa using p.length_eq
  | x :: a, y :: b, p, h1, h2 => by
    have hx : x ∈ y :: b := p.mem_iff.mp List.mem_cons_self
    have hy : y ∈ x :: a := p.mem_iff.mpr List.mem_cons_self
    have q1 := List.pairwise_cons.mp h1
    have q2 := List.pairwise_cons.mp h2
    have e : x = y := by
      rcases List.mem_cons.mp hx with z | z
      · exact z
      · rcases List.mem_cons.mp hy with z' | z'
        · exact z'.symm
        · have := q1.1 y z'
          have := q2.1 x z
          omega
    subst e
    rw [sorted_uniq (List.Perm.cons_inv p) q1.2 q2.2]
def srt (t : Tx) : Tx := t.mergeSort (· ≤ ·)
theorem srt_perm (t : Tx) : (srt t).Perm t := List.mergeSort_perm _ _
theorem srt_pw (t : Tx) : (srt t).Pairwise (· ≤ ·) := by
  have h := List.pairwise_mergeSort (le := fun a b : Int => decide (a ≤ b)) (fun a b c h1 h2 => by simp at *; omega) (fun a b => by simp; omega) t
  unfold srt
  exact h.imp fun {a b} z => by simpa using z
theorem srt_eq {a b : Tx} : srt a = srt b ↔ a.Perm b := by
  constructor
  · intro h
    exact (srt_perm a).symm.trans (h ▸ srt_perm b)
  · intro h
    exact sorted_uniq (((srt_perm a).trans h).trans (srt_perm b).symm) (srt_pw a) (srt_pw b)
def L' (xs : Tx) : D := .list (xs.map PyData.int)
theorem call_sortedA {X : Cx} : CallR X (.builtin "sorted") (rSortT X.K) := cr_sortedT'
theorem rsort {K : Fg} {t : Tx} : RCa K (rSortT K) [T t] (L' (srt t)) := fun M H xs t' dx Q q => by
  obtain ⟨v, rfl, h1⟩ := dpa1 dx
  obtain ⟨a, ys, rfl, h2, h3⟩ := h1.tupI
  have e := DqAll.of_ints h3
  subst e
  refine ⟨a, t, rfl, seqT hide_le h2, fun ns' p hp hs hn => ?_⟩
  have e : ns' = srt t := sorted_uniq (hp.trans (srt_perm t).symm) hs (srt_pw t)
  subst e
  exact q _ _ (same_new hn) (.lst ((t'.upd hn)) (DqAll.ints _))
end CB

/-! E1 -/
set_option Elab.async false
set_option linter.all false
set_option maxRecDepth 100000
set_option maxHeartbeats 4000000
namespace CB
open PySem PySem.Spec PyProof.Rows L2
open PySem.W (Frag InstAt ksEnv ksFn ks_superObj)
/-! ### C(at), C's __init__: super().__init__(msg); self.at = at -/
def exB : List Value := [.type "Exception", .type "BaseException", .type "object"]
/-- the two statements of the __init__s -/
def initBody (p0 p1 p2 pc p3 p4 q0 q1 q2 q3 : Pos) (k : Nat) (msg : Str) : List Stmt :=
  [.Expr (.Call (.Attribute (.Call (.Name "super" p0) [] [] p1) "__init__" p2) [.Constant (.str msg) k pc] [] p3) p4, .Assign [.Attribute (.Name "self" q0) "at" q1] (.Name "at" q2) q3]
/-- the first statement's call, in the evaluator's words -/
def CallEq (p0 p1 p2 pc p3 : Pos) (k : Nat) (msg : Str) : Prop := ∀ env : Env, ∃ pl : Sem Bool, eval (.Call (.Attribute (.Call (.Name "super" p0) [] [] p1) "__init__" p2) [.Constant (.str msg) k pc] [] p3) env = (do
  let ov ← attributeBase (.Call (.Name "super" p0) [] [] p1) "__init__" env (eval (.Call (.Name "super" p0) [] [] p1) env)
  standAt p2.atName
  let (f, first) ← holding [ov] (getMethod ov "__init__" pl)
  callWith p3 f first (backTo p3 (starEach [.Constant (.str msg) k pc] env)) [])
def initNames : List (Str × NameKind) := [(("self" : Str), NameKind.local), (("at" : Str), NameKind.local), (("__class__" : Str), NameKind.free), (("super" : Str), NameKind.globalImplicit)]
/-- what the written part says of such a class -/
structure ErC (K : Frag) (C fI : Addr) (file : Str) : Prop where
  cls : PySem.W.excInitIn K C exB "Exception.__new__" = true
  over : PySem.W.excOver K C exB = true
  hasd : PySem.W.hasDictIn K C = true
  init : PySem.W.findIn K (.ref C) "__init__" = some (some (.ref fI))
  isf : PySem.W.typeIn K (.ref fI) = some (.type "function")
  sa : PySem.W.findIn K (.ref C) "__setattr__" = some (some (.builtin "object.__setattr__"))
  no : PySem.W.takerIn K C "at" = some none
  sup : PySem.W.ks_superIn K C C "__init__" = some (some (.builtin "Exception.__init__"))
  subE : PySem.W.subIn K (.ref C) (.type "Exception") = some true
  subB : PySem.W.subIn K (.ref C) (.type "BaseException") = some true
  subC : PySem.W.mroIn K C (.ref C) = some true
  ty : PySem.W.typeIn K (.ref C) = some (.type "type")
  kp : PySem.W.keepIn K (.ref C) = true
  opq : PySem.W.nsIn K cStatics "thirdparty.any" = some none
  fn : ∃ (oc : Value) (od : Option Addr) (osl : Array (Option Value)) (qual : Str) (params : Arguments) (scope : Scope) (dV kV doc pm : Value) (an : Option Addr) (cda : Addr) (ct : Value) (cc : Addr) (p0 p1 p2 pc p3 p4 q0 q1 q2 q3 : Pos) (k : Nat) (msg : Str) (cl : Value) (cld : Option Addr) (csl : Array (Option Value))
      (ccl : Value) (cdd : Option Addr) (vs : Array Value) (ccs : Array (Option Value)) (tf : Tok) (a1 a2 : Arg),
    K.lookup fI = some ⟨oc, od, .func (ksFn "__init__" qual params (initBody p0 p1 p2 pc p3 p4 q0 q1 q2 q3 k msg) scope dV kV doc pm an (.ref cda) ct cc), osl⟩ ∧ PySem.W.codeIn K (.ref cda) qual = true ∧
    K.lookup cc = some ⟨cl, cld, .cell (some (.ref C)), csl⟩ ∧ K.lookup cda = some ⟨ccl, cdd, .fields vs, ccs⟩ ∧ vs[2]? = some (.str file tf) ∧ msg.length ≤ 1000 ∧
    params.posonlyargs = [] ∧ params.args = [a1, a2] ∧ a1.arg = "self" ∧
    (∀ (s : Shared) (us : List Value), K.In s.heap → us.length = 2 → BindsTo s (ksFn "__init__" qual params (initBody p0 p1 p2 pc p3 p4 q0 q1 q2 q3 k msg) scope dV kV doc pm an (.ref cda) ct cc) ⟨us, []⟩ ([("self" : Str), ("at" : Str)].zip us)) ∧
    scope.names = initNames ∧ CallEq p0 p1 p2 pc p3 k msg ∧ scope.kind = .function ∧ scope.isCoroutine = false ∧ scope.isGenerator = false
section
variable {P : Program} {w : World} {A : Around} {K : Frag} {mg : Str → Option Value} {base : Heap} {C fI : Addr} {file : Str}
theorem ks_ne' {h : Heap} {x : Addr} {ox : Obj} {odx : Option Obj} {cd : ClassData} (X : K.In h) (I : InstAt h x ox C odx) (hc : PySem.W.clsIn K C = some cd) : x ≠ C := PySem.W.ks_ne X I hc
/-- the body of __init__ -/
theorem err_body {s : Shared} {e L : Addr} {t0 : Addr} {i : Int} {u : Tok} {scope : Scope} {qual : Str} {cda cc : Addr} {p0 p1 p2 pc p3 p4 q0 q1 q2 q3 : Pos} {k : Nat} {msg : Str} {m : Str → Option Value} {R : Flow → Shared → Prop} {E : Value → Shared → Prop}
    (T : ErC K C fI file) (M : Mod K mg base) (hms : mg "super" = none) (hb : ∀ b o, base.get? b = some o → s.heap.get? b = some o) (hfile : ((P.main.file : Str) == file) = true) (htop : (P.main.scope.names.lookup ("super" : Str)).isSome = false)
    (hn : s.heap.Ns L m) (m1 : m "self" = some (.ref e)) (m2 : m "at" = some (.int i u)) (he : s.heap.get? e = some (HandSPX.excO C t0)) (neL : e ≠ L) (hbe : base.get? e = none)
    (sn : scope.names = initNames) (hce : CallEq p0 p1 p2 pc p3 k msg) (sk : scope.kind = .function)
    {oc : Value} {od : Option Addr} {osl : Array (Option Value)} {params : Arguments} {dV kV doc pm : Value} {an : Option Addr} {ct : Value} {body : List Stmt} {a1 : Arg} {tl : List Arg} {cl : Value} {cld : Option Addr} {csl : Array (Option Value)} {ccl : Value} {cdd : Option Addr} {vs : Array Value} {ccs : Array (Option Value)} {tf : Tok}
    (lk : K.lookup fI = some ⟨oc, od, .func (ksFn "__init__" qual params body scope dV kV doc pm an (.ref cda) ct cc), osl⟩) (hp0 : params.posonlyargs = []) (hpa : params.args = a1 :: tl) (ha1 : a1.arg = "self")
    (lc : K.lookup cc = some ⟨cl, cld, .cell (some (.ref C)), csl⟩) (ld : K.lookup cda = some ⟨ccl, cdd, .fields vs, ccs⟩) (hvs : vs[2]? = some (.str file tf)) (hmsg : msg.length ≤ 1000)
    (hq : ∀ h' tk t1 dx, (∀ b o, b ≠ e → s.heap.get? b = some o → h'.get? b = some o) → s.heap.get? dx = none → dx ≠ e → h'.get? e = some { cls := .ref C, dict := some dx, data := .fields #[.ref t1, .none, .none, .none, .bool false, .none] } →
      h'.Ns1 dx (fun y => if y = "at" then some (.int i u) else none) → R .next { s with heap := h', toks := tk }) :
    PySem.wpAt (model P w) A (.func body (ksEnv qual scope L fI (.ref cda) cc)) (execs (initBody p0 p1 p2 pc p3 p4 q0 q1 q2 q3 k msg) (ksEnv qual scope L fI (.ref cda) cc)) R E s := by
  obtain ⟨cd, hcd, hcm⟩ : ∃ cd, PySem.W.clsIn K C = some cd ∧ cd.hasDict = true := PySem.W.any_some T.hasd
  have kin : ∀ {h : Heap}, (∀ b o, base.get? b = some o → h.get? b = some o) → K.In h := fun k => M.kin.keeps k
  obtain ⟨mb, hmb, hboot⟩ := M.blt
  obtain ⟨nm, N', qn, bs, bm, hdct, snn, sub, ab, col, dd, z0, z1, z2, z3, z5, hC, hT⟩ := PySem.W.excInit_of (kin hb) T.cls
  have bne : ∀ b o, base.get? b = some o → b ≠ e := fun b o q z => by rw [z, hbe] at q; cases q
  obtain ⟨skd, snm, sgen, sco, smore⟩ := scope
  simp only at sn sk
  subst sn sk
  obtain ⟨hp, g, d, tk, os⟩ := s
  unfold initBody
  obtain ⟨pl, hpl⟩ := hce (ksEnv qual ⟨.function, initNames, sgen, sco, smore⟩ L fI (.ref cda) cc)
  refine ks_wpAt_execs_cons (ks_wpAt_Expr_any (ks_wpAt_MethodCall (pl := pl) ?_ hpl))
  have X0 : K.In hp := kin hb
  have I0 : InstAt hp e (HandSPX.excO C t0) C none := ⟨he, rfl, rfl, trivial⟩
  have hnotc : ∀ c, (HandSPX.excO C t0).data ≠ .cls c := fun c z => by cases z
  obtain ⟨oD, hD1, cdD, hD2⟩ : ∃ oD, hp.get? C = some oD ∧ ∃ cdD, oD.data = .cls cdD := ⟨_, hC, _, rfl⟩
  have hh : (params.posonlyargs ++ params.args).head? = some a1 := by rw [hp0, hpa]; rfl
  refine ks_wpAt_super_base rfl rfl (by decide) rfl (X0 _ _ lk) rfl hh rfl (X0 _ _ ld) rfl hvs hfile htop ?_
  refine PySem.W.ks_loadName_global rfl rfl (Calls.loadGlobal_builtin (M.glob.keeps hb) hms (hmb.keeps hb) ((hboot "super" (by decide)).trans (by decide +kernel)) ⟨rfl, ?_⟩)
  refine wpAny_loadName_free rfl rfl rfl ⟨_, X0 _ _ lc, rfl⟩ ?_
  rw [ha1]
  refine wpAny_loadName_local rfl rfl hn m1 ?_
  refine ks_wpAny_isType_cls hD1 hD2 ⟨rfl, ?_⟩
  refine ks_wpAny_call_super hD1 hD2 he rfl hnotc (PySem.W.looks_mroIn X0 T.subC) (fun h1 eso k1 => ?_)
  have X1 : K.In h1 := X0.keeps k1
  have I1 : InstAt h1 e (HandSPX.excO C t0) C none := ⟨k1 _ _ he, rfl, rfl, trivial⟩
  have hsup := T.sup
  unfold PySem.W.ks_superIn at hsup
  rw [hcd] at hsup
  refine ESX.getMethod_super eso (PySem.W.looks_opaque X1 T.opq) (l₀ := cd.mro) (fun A Q E s k q => wpAny_bind ((PySem.W.looks_clsIn X1 hcd) A _ E s k (wpAny_pure q))) rfl X1 hsup (PySem.W.ks_ne X1 I1 hcd) (by decide) (I1.type.andThen (PySem.W.looks_subIn X1 T.subE)) ?_
  refine ESX.callWith_bound (x := e) (PyProof.Rows.args_cons (Calls.Constant_str (PyProof.Rows.args_nil ⟨Heap.get?_push_size _ rfl, ?_⟩)) rfl)
  have C1 : (h1.push (ESX.bw e)).get? C = some (excClassObj nm qn C N' bs bm hdct snn sub ab col dd z0 z1 z2 z3 z5 "Exception.__new__") := Heap.get?_push_of_some _ (k1 _ _ hC)
  have e1 : (h1.push (ESX.bw e)).get? e = some (HandSPX.excO C t0) := Heap.get?_push_of_some _ (k1 _ _ he)
  refine ESX.call_bw C1 e1 (Heap.get?_push_size _ rfl) (by show 1 ≤ sizeLine; decide) fun h2 t1 k2' e2 => ?_
  have kk : ∀ b o, b ≠ e → hp.get? b = some o → h2.get? b = some o := fun b o hb q => k2' b o hb (Heap.get?_push_of_some _ (k1 b o q))
  have X2 : K.In h2 := fun b o q => kk b o (bne b o (M.kin b o q)) (hb b o (M.kin b o q))
  have n2 : h2.Ns L m := by
    obtain ⟨oL, es, ep, hL, r⟩ := hn
    exact ⟨oL, es, ep, kk _ _ (Ne.symm neL) hL, r⟩
  refine ks_wpAt_execs_cons (wpAt_of_wpAny (plainObj_wpAny_Assign_Attribute ?_))
  refine ESX.ldL n2 m2 (ESX.ldL n2 m1 ?_)
  refine PySem.W.set_plain X2 (ox := HandSPX.excO C t1) (od := none) ⟨e2, rfl, rfl, trivial⟩ T.sa (PySem.W.osa_openX (od := none) F.store_Exception X2 ⟨e2, rfl, rfl, trivial⟩ T.over T.no fun b => ?_)
  have hxs : e ≠ h2.objs.size := Nat.ne_of_lt (Heap.lt_size e2)
  have hcls : PySem.W.Looks (model P w) h2 (classData C) cd := PySem.W.looks_clsIn X2 hcd
  obtain ⟨nm', bs', mro', ns', qn', hd', sn', sb', ab', col', del'⟩ := cd
  dsimp only at hcm
  subst hcm
  show wpAny _ _ (Builtin.ObjectAttr.storeInOwnDict (.ref e) (.ref C) (.str "at" _) "at" (.int i u) b) _ _ _
  unfold Builtin.ObjectAttr.storeInOwnDict Builtin.ObjectAttr.ownDictForStores
  repeat (first | with_reducible refine HandSPX.store_in_new ?_ ?_ | with_reducible refine wpAny_loadPart_at e2 ?_ | with_reducible refine hcls.at ?_ | wp_step)
  · exact ⟨_, #[], _, (Heap.get?_update_ne _ _ _ _ hxs.symm).trans (Heap.get?_push_at rfl rfl), rfl, fun e he => absurd he (by simp), fun _ => rfl⟩
  · intro h3 tk3 hn3 hs3
    have hx1 : (h2.push { cls := .type "dict", data := .dict #[] }).get? e = some (HandSPX.excO C t1) := Heap.get?_push_of_some _ e2
    have nosz : hp.get? h2.objs.size = none := by
      cases q : hp.get? h2.objs.size with
      | none => rfl
      | some o => exact absurd (Heap.lt_size (kk _ o hxs.symm q)) (Nat.lt_irrefl _)
    refine wpAt_of_wpAny (wpAny_execs_nil (hq h3 tk3 t1 h2.objs.size (fun b o hb' ho => ?_) nosz hxs.symm ?_ hn3))
    · have q := kk b o hb' ho
      exact (hs3.2 b (Nat.ne_of_lt (Heap.lt_size q))).trans ((Heap.get?_update_ne _ _ _ _ hb').trans (Heap.get?_push_of_some _ q))
    · exact (hs3.2 e hxs).trans (Heap.get?_update_self _ hx1 rfl)
end
section
variable {X : Cx} {x : Str} {p pos : Pos} {e : Expr} {ta : TA} {C fI : Addr} {file : Str}
def tMkE (C : Addr) (ta : TA) : L2.St → Hp → XK → Prop := fun σ H Q => ta σ H fun vs H1 => ∃ i, vs = [V.int i] ∧ ∀ dx, H1 dx = none → Q (.ref C) (some dx) (L2.upd H1 dx (atF i))
theorem pmk_err (T : ErC X.K C fI file) {k : Nat} (hr : Room (k + 1) X.A) (hg : Gl X x) (hm : X.mg x = some (.ref C)) (hms : X.mg "super" = none) (hfile : ((X.prog.main.file : Str) == file) = true) (htop : (X.prog.main.scope.names.lookup ("super" : Str)).isSome = false) (ha : PA X [e] ta)
    (hdb : (x == ("__debug__" : Str)) = false := by decide) (he : starEach [e] X.env = (false, eval e X.env) :: starEach [] X.env := by rfl) (hpl : (backTo pos (starEach [] X.env)).any (·.1) = false := by rfl) :
    PMk X (.Call (.Name x p) [e] [] pos) (tMkE C ta) := by
  intro pins s σ H Q I h
  refine wpAny_Call_Name_kw (ld_glob I hg hm ?_ hdb)
  refine PySem.W.callWith_K (h₀ := X.base) I.ok.mod.kin T.kp (thn (ha.run pos pins s σ H _ I h) fun us s1 ⟨vs, H1, I1, r1, i, ev, q1⟩ => ⟨I1.kIn, ?_⟩) he hpl
  subst ev
  obtain ⟨v0, rfl, rv⟩ : ∃ v0, us = [v0] ∧ RelV (.int i) v0 := by
    cases r1 with
    | cons r rr => cases rr; exact ⟨_, rfl, r⟩
  obtain ⟨u, rfl⟩ := rv
  show wpAny _ _ (call (.ref C) [.int i u]) _ _ _
  obtain ⟨hp, g, dr, tk, os⟩ := s1
  obtain ⟨oc, od, osl, qual, params, scope, dV, kV, doc, pm, an, cda, ct, cc, p0, p1, p2, pc, p3, p4, q0, q1', q2, q3, kk, msg, cl, cld, csl, ccl, cdd, vs, ccs, tf, a1, a2, lk, hcd, lc, ld, hvs, hmsg, hp0, hpa, ha1, hbind, sn, hce, sk, sco, sge⟩ := T.fn
  obtain ⟨nm, N', qn, bs, bm, hdct, snn, sub, ab, col, dd, z0, z1, z2, z3, z5, hC, hT⟩ := PySem.W.excInit_of I1.kIn T.cls
  have up : ∀ b o, hp.get? b = some o → ((hp.push (PySem.W.kdv_tup [.int i u])).push (HandSPX.excO C hp.objs.size)).get? b = some o := fun b o q => Heap.get?_push_of_some _ (Heap.get?_push_of_some _ q)
  have hget : ((hp.push (PySem.W.kdv_tup [.int i u])).push (HandSPX.excO C hp.objs.size)).get? (hp.objs.size + 1) = some (HandSPX.excO C hp.objs.size) := by heap_get
  have bk : ∀ b o, X.base.get? b = some o → hp.get? b = some o := fun b o q => I1.bk b o q
  have hbe : X.base.get? (hp.objs.size + 1) = none := by
    cases q : X.base.get? (hp.objs.size + 1) with
    | none => rfl
    | some o => exact absurd (Heap.lt_size (bk _ o q)) (Nat.not_lt.mpr (Nat.le_succ _))
  refine wpAny_call (HandSPX.call_own F.excBase_Exception hT hC (PySem.W.looks_findIn I1.kIn T.init) (fun self => PySem.W.bind_fn I1.kIn self T.isf) (by show 1 ≤ sizeLine; decide) ?_)
  refine ks_codeAny_call_defAt (binds := [("self", .ref (hp.objs.size + 1)), ("at", .int i u)]) (hr.make C [.int i u] []).depth (up _ _ (I1.kIn _ _ lk)) rfl ((I1.ok.mod.nolimit.keeps bk).keeps up) (PySem.W.codeRec_of (I1.kIn.keeps up) hcd) rfl (hbind _ [.ref (hp.objs.size + 1), .int i u] (I1.kIn.keeps up) rfl)
    (by show ∀ x ∈ scope.names, x.2 ≠ .cell; rw [sn]; decide) (by
      show ∀ x ∈ [(("self" : Str), Value.ref (hp.objs.size + 1)), (("at" : Str), Value.int i u)], scope.names.lookup x.1 = some .local
      rw [sn]
      intro x hx
      have : x = (("self" : Str), Value.ref (hp.objs.size + 1)) ∨ x = (("at" : Str), Value.int i u) := by simpa using hx
      rcases this with z | z <;> subst z <;> rfl) (fun h0 hns hk0 => ?_) sco sge sk
  have hsz : ((hp.push (PySem.W.kdv_tup [.int i u])).push (HandSPX.excO C hp.objs.size)).objs.size = hp.objs.size + 2 := by rw [Heap.size_push, Heap.size_push]
  refine err_body (s := { heap := h0, gens := g, drawn := dr, toks := _, os := os }) (R := fun f s' => _) T I1.ok.mod hms (fun b o q => hk0 _ _ (up _ _ (bk b o q))) hfile htop hns rfl rfl (hk0 _ _ hget) (by rw [hsz]; exact Nat.ne_of_lt (Nat.lt_succ_self _)) hbe sn hce sk lk hp0 hpa ha1 lc ld hvs hmsg fun h' tk' t1 dx k' ndx nde ex hn1 => ?_
  have ndx0 : hp.get? dx = none := by
    cases q : hp.get? dx with
    | none => rfl
    | some o => rw [hk0 _ _ (up _ _ q)] at ndx; cases ndx
  have hne : ∀ b o, hp.get? b = some o → b ≠ hp.objs.size + 1 := fun b o q z => absurd (Heap.lt_size q) (by rw [z]; exact Nat.not_lt.mpr (Nat.le_succ _))
  have kk' : ∀ b o, hp.get? b = some o → h'.get? b = some o := fun b o q => k' b o (hne b o q) (hk0 _ _ (up _ _ q))
  refine ⟨rfl, ?_⟩
  obtain ⟨G, g1, g2⟩ := restrict h' fun b => decide (b ≠ hp.objs.size + 1)
  have gk : ∀ b, b ≠ hp.objs.size + 1 → G.get? b = h'.get? b := fun b hb => g1 b (decide_eq_true hb)
  have ge : G.get? (hp.objs.size + 1) = none := g2 _ (by simp)
  have hdx : H1 dx = none := I1.hok.gone ndx0
  have ok : ObjOk X.prog X.w (L2.upd H1 dx (atF i)) G dx (atF i) := ⟨_, hn1.at fun o y => (gk dx nde).trans y, fun f => by
    show RelO ([(("at" : Str), V.int i)].lookup f) (if f = "at" then some (.int i u) else none)
    rw [lookup_put]
    by_cases hf : f = ("at" : Str)
    · rw [if_pos hf, if_pos hf]; exact ⟨u, rfl⟩
    · rw [if_neg hf, if_neg hf]; exact True.intro⟩
  have J : Inv X pins σ (L2.upd H1 dx (atF i)) { heap := G, gens := g, drawn := dr, toks := tk', os := os } := I1.laidN (h' := G) (t' := tk') (fun b o q => (gk b (hne b o q)).trans (kk' b o q)) ndx0 hdx ok
  refine ⟨hp.objs.size + 1, _, _, { heap := G, gens := g, drawn := dr, toks := tk', os := os }, _, .ref C, some dx, rfl, J, fun b o q => ?_, ge, ex, ⟨rfl, rfl⟩, rfl, rfl, ?_, rfl, I1.bare, raises_own T.subB T.ty, q1 dx hdx⟩
  · by_cases hb : b = hp.objs.size + 1
    · rw [hb, ge] at q; cases q
    · exact (gk b hb).symm.trans q
  · rw [upd_ne (Ne.symm nde)]
    exact I1.hok.fresh (Nat.le_succ _)
end
end CB

/-! E2 -/
set_option Elab.async false
set_option linter.all false
set_option maxRecDepth 100000
set_option maxHeartbeats 4000000
namespace CB
open PySem PySem.Spec PyProof.Rows L2
/-- an exception class of the module -/
structure ErT (P : Program) (K : Fg) (mg : Str → Option Value) (k : EK) : Prop where
  ex : ∃ fI file, ErC K (eka K k) fI file ∧ ((P.main.file : Str) == file) = true
  mgx : mg (ekName k) = some (.ref (eka K k))
  sup : mg "super" = none
  top : (P.main.scope.names.lookup ("super" : Str)).isSome = false
section
variable {X : Cx} {k : EK} {W : WX} {e : Expr} {ta : TA} {p cpos pos : Pos} {x : Str}
theorem ps_raiseI {j : Nat} (T : ErT X.prog X.K X.mg k) (hr : Room (j + 1) X.A) (tk : Takes X W) (ha : PA X [e] ta) (hx : ekName k = x := by rfl) (hg : Gl X x := by rfl) (hc : X.calm = true := by rfl)
    (hdb : (x == ("__debug__" : Str)) = false := by decide) (he : starEach [e] X.env = (false, eval e X.env) :: starEach [] X.env := by rfl) (hpl : (backTo cpos (starEach [] X.env)).any (·.1) = false := by rfl) :
    PS X (.Raise (some (.Call (.Name x p) [e] [] cpos)) none pos) (fun _ σ H => tMkE (eka X.K k) ta σ H fun cls d H' => W cls d σ H') := by
  obtain ⟨fI, file, E, hf⟩ := T.ex
  subst hx
  exact ps_raise hc tk (pmk_err E hr hg T.mgx T.sup hf T.top ha hdb he hpl)
end
section
variable {K : Fg} {E : XK} {Γ : List Sl} {ta : TA} {k : EK} {i : Int}
theorem run_raise (h : EvA K ta Γ [.int i]) : RunD K E (fun _ σ H => tMkE (eka K k) ta σ H fun cls d H' => E cls d H') Γ (.er k i) := fun M σ H D T S P => h M σ H T S _ fun vs H1 e1 d1 => by
  obtain ⟨v, rfl, hv⟩ := dpa1 d1
  have := hv.intI
  subst this
  exact ⟨i, rfl, fun dx hd => P dx _ (e1.trans (same_new hd)) upd_same⟩
end
end CB

/-! D6 -/
set_option Elab.async false
set_option linter.all false
set_option maxRecDepth 100000
set_option maxHeartbeats 4000000
namespace CB
open PySem PySem.Spec PyProof.Rows L2
/-! ### defs with lists of their own, and a state that calls may change -/
abbrev Ms := List (Addr × List D)
abbrev hid (ms : Ms) (Mx : List Addr) : List Addr := ms.map (·.1) ++ Mx
/-- earlier heaps, what may have changed since -/
abbrev Bs := List (Hp × List Addr)
structure Wf (Mx M0 : List Addr) (I : Hp → Prop) (B : Bs) : Prop where
  sub : ∀ m ∈ M0, m ∈ Mx
  bas : ∀ p ∈ B, ∀ m ∈ M0, m ∈ p.2
  stb : ∀ H H' : Hp, (∀ m ∈ M0, H' m = H m) → (∀ b o, H b = some o → (∀ vs, o ≠ .lst vs) → H' b = some o) → I H → I H'
structure Stt (K : Fg) (Mx M0 : List Addr) (I : Hp → Prop) (B : Bs) (ms : Ms) (Γ : List Sl) (σ : L2.St) (H : Hp) : Prop where
  old : ∀ p ∈ B, Same (hide p.2 p.1) (hide p.2 H)
  new : ∀ p ∈ B, ∀ m ∈ ms, m.1 ∈ p.2 ∨ p.1 m.1 = none
  trk : Trk (hid ms Mx) H
  dis : ∀ m ∈ ms, m.1 ∉ Mx
  nd : (ms.map (·.1)).Nodup
  inv : I H
  env : EnvD K (hide (hid ms Mx) H) σ Γ
  lst : ∀ m ∈ ms, ∃ vs, H m.1 = some (.lst vs) ∧ DqAll K (hide (hid ms Mx) H) vs m.2
def PostM (K : Fg) (Mx M0 : List Addr) (I : Hp → Prop) (E : XK) (B : Bs) (D : Ends) : Out → Ms → Prop
  | .nx Γ, ms => ∀ σ' H', Stt K Mx M0 I B ms Γ σ' H' → D.nx σ' H'
  | .rt d, _ => ∀ v H', (∀ p ∈ B, Same (hide p.2 p.1) (hide p.2 H')) → Trk Mx H' → I H' → Dq K (hide Mx H') v d → D.rt v H'
  | .bk Γ, ms => ∀ σ' H', Stt K Mx M0 I B ms Γ σ' H' → D.bk σ' H'
  | .ct Γ, ms => ∀ σ' H', Stt K Mx M0 I B ms Γ σ' H' → D.ct σ' H'
  | .er k i, _ => ∀ dx H', (∀ p ∈ B, Same (hide p.2 p.1) (hide p.2 H')) → I H' → H' dx = some (atF i) → E (.ref (eka K k)) (some dx) H'
def RunM (K : Fg) (Mx M0 : List Addr) (I : Hp → Prop) (E : XK) (t : TS) (ms : Ms) (Γ : List Sl) (Ψ : Out → Ms → Prop) : Prop :=
  ∀ (B : Bs), Wf Mx M0 I B → ∀ (σ : L2.St) (H : Hp) (D : Ends), Stt K Mx M0 I B ms Γ σ H → (∀ o ms', Ψ o ms' → PostM K Mx M0 I E B D o ms') → t D σ H
def EvM (K : Fg) (Mx M0 : List Addr) (I : Hp → Prop) (te : TE) (ms : Ms) (Γ : List Sl) (Φ : D → Prop) : Prop :=
  ∀ (B : Bs), Wf Mx M0 I B → ∀ (σ : L2.St) (H : Hp), Stt K Mx M0 I B ms Γ σ H → ∀ Q : VK, (∀ v d H', Φ d → Stt K Mx M0 I B ms Γ σ H' → Same (hide (hid ms Mx) H) (hide (hid ms Mx) H') → Dq K (hide (hid ms Mx) H') v d → Q v H') → te σ H Q
/-- the slots with own lists read as data -/
inductive Thw (ms : Ms) : List Sl → List Sl → Prop
  | nil : Thw ms [] []
  | same {s : Sl} {Γ Γ' : List Sl} : Thw ms Γ Γ' → Thw ms (s :: Γ) (s :: Γ')
  | own {a : Addr} {ds : List D} {Γ Γ' : List Sl} : (a, ds) ∈ ms → Thw ms Γ Γ' → Thw ms (.ref a :: Γ) (.dat (.list ds) :: Γ')
theorem Thw.refl {ms : Ms} : ∀ Γ : List Sl, Thw ms Γ Γ
  | [] => .nil
  | _ :: Γ => .same (Thw.refl Γ)
mutual
/-- no list in it -/
def lf : D → Bool
  | .list _ => false
  | .dict _ => false
  | .tuple ds => lfs ds
  | _ => true
def lfs : List D → Bool
  | [] => true
  | d :: ds => lf d && lfs ds
end
mutual
theorem lf_dp {K : Fg} {G G' : Hp} (h : ∀ a o, G a = some o → (∀ vs, o ≠ .lst vs) → G' a = some o) : ∀ (d : D), lf d = true → ∀ {v : V}, Dq K G v d → Dq K G' v d
  | .none, _, _, r => by cases r; exact .non
  | .bool b, _, _, r => by cases r; exact .bl b
  | .int i, _, _, r => by cases r; exact .int i
  | .str x, _, _, r => by cases r; exact .str x
  | .list ds, l, _, _ => by cases l
  | .dict _, l, _, _ => by cases l
  | .tuple ds, l, _, r => by
    cases r with
    | tup hs ha =>
      exact .tup (h _ _ hs fun vs z => by cases z) (lfs_dp h ds l ha)
theorem lfs_dp {K : Fg} {G G' : Hp} (h : ∀ a o, G a = some o → (∀ vs, o ≠ .lst vs) → G' a = some o) : ∀ (ds : List D), lfs ds = true → ∀ {vs : List V}, DqAll K G vs ds → DqAll K G' vs ds
  | [], _, _, r => by cases r; exact .nil
  | d :: ds, l, _, r => by
    cases r with
    | cons r1 r2 =>
      have l' : (lf d && lfs ds) = true := l
      rw [Bool.and_eq_true] at l'
      exact .cons (lf_dp h d l'.1 r1) (lfs_dp h ds l'.2 r2)
end
@[simp] theorem lf_int {i : Int} : lf (.int i) = true := rfl
@[simp] theorem lf_non : lf .none = true := rfl
@[simp] theorem lf_bl {b : Bool} : lf (.bool b) = true := rfl
@[simp] theorem lf_str {b : Str} : lf (.str b) = true := rfl
theorem lfs_ints : ∀ t : Tx, lfs (t.map PyData.int) = true
  | [] => rfl
  | _ :: t => lfs_ints t
@[simp] theorem lf_T (t : Tx) : lf (T t) = true := lfs_ints t
@[simp] theorem lf_optT : ∀ t : Option Tx, lf (optT t) = true
  | none => rfl
  | some t => lf_T t
section
variable {K : Fg} {Mx M0 : List Addr} {I : Hp → Prop} {E : XK} {B : Bs} {ms : Ms} {Γ Γ1 Γ2 Γ' : List Sl} {σ : L2.St} {H H' : Hp}
theorem hide_sub {A A' : List Addr} (h : ∀ a ∈ A, a ∈ A') : Same (hide A' H) (hide A H) := fun a o q => by
  obtain ⟨h1, h2⟩ := hide_of q
  rw [hide_in (fun z => h2 (h a z))]
  exact h1
theorem hide_more {A A' : List Addr} (h : ∀ a ∈ A, a ∈ A') (s : Same (hide A H) (hide A H')) : Same (hide A' H) (hide A' H') := fun a o q => by
  obtain ⟨h1, h2⟩ := hide_of q
  have := s a o (by rw [hide_in (fun z => h2 (h a z))]; exact h1)
  rw [hide_in h2]
  exact (hide_of this).1
theorem inv_same (wf : Wf Mx M0 I B) (t : Trk (hid ms Mx) H) (e : Same H H') (i : I H) : I H' := wf.stb H H' (fun m hm => by
  obtain ⟨o, q, _⟩ := t m (List.mem_append_right _ (wf.sub m hm))
  rw [q, e m o q]) (fun b o q _ => e b o q) i
/-- things that only grow -/
theorem Stt.grow (wf : Wf Mx M0 I B) (S : Stt K Mx M0 I B ms Γ σ H) (e : Same H H') : Stt K Mx M0 I B ms Γ σ H' where
  old := fun p hp => (S.old p hp).trans (hsame e)
  new := S.new
  trk := S.trk.mono e
  dis := S.dis
  nd := S.nd
  inv := inv_same wf S.trk e S.inv
  env := S.env.mono (hsame e)
  lst := fun m hm => let ⟨vs, h1, h2⟩ := S.lst m hm; ⟨vs, e _ _ h1, h2.mono' (hsame e)⟩
theorem Stt.envs {σ' : L2.St} (S : Stt K Mx M0 I B ms Γ σ H) (h : EnvD K (hide (hid ms Mx) H) σ' Γ') : Stt K Mx M0 I B ms Γ' σ' H := ⟨S.old, S.new, S.trk, S.dis, S.nd, S.inv, h, S.lst⟩
theorem Stt.mxtrk (S : Stt K Mx M0 I B ms Γ σ H) : Trk Mx H := fun m hm => S.trk m (List.mem_append_right _ hm)
theorem sub_hid : ∀ a ∈ Mx, a ∈ hid ms Mx := fun a h => List.mem_append_right _ h
theorem thw_env (S : Stt K Mx M0 I B ms Γ σ H) (t : Thw ms Γ Γ') : EnvD K (hide Mx H) σ Γ' := by
  have e := S.env
  have l := S.lst
  have di := S.dis
  clear S
  induction t generalizing σ with
  | nil => cases e; exact .nil
  | same t ih =>
    cases e with
    | cons r q => exact .cons (r.mono (hide_sub sub_hid)) (ih q)
  | @own a ds Γ1 Γ2 hm t ih =>
    cases e with
    | @cons o s _ _ r q =>
      refine .cons ?_ (ih q)
      obtain ⟨vs, h1, h2⟩ := l _ hm
      cases o with
      | none => exact (show False from r).elim
      | some v =>
        have ev : v = .ref a := r
        subst ev
        exact .lst (((hide_in (di _ hm)).trans h1)) (h2.mono' (hide_sub sub_hid))
/-- list-free data is not touched by hiding lists -/
theorem lf_hide (l : ∀ m ∈ ms, ∃ vs, H m.1 = some (.lst vs)) {v : V} {d : D} (hf : lf d = true) (h : Dq K (hide Mx H) v d) : Dq K (hide (hid ms Mx) H) v d := by
  refine lf_dp (fun a o q n => ?_) d hf h
  obtain ⟨h1, h2⟩ := hide_of q
  rw [hide_in (fun z => ?_)]
  · exact h1
  · rcases List.mem_append.mp z with z | z
    · obtain ⟨m, hm, e⟩ := List.mem_map.mp z
      obtain ⟨vs, hv⟩ := l m hm
      rw [e, h1] at hv
      exact n vs (Option.some.inj hv)
    · exact h2 z
theorem Stt.lsts (S : Stt K Mx M0 I B ms Γ σ H) : ∀ m ∈ ms, ∃ vs, H m.1 = some (.lst vs) := fun m hm => let ⟨vs, h, _⟩ := S.lst m hm; ⟨vs, h⟩

variable {ta tb te : TE} {t u : TS} {c : TT} {a b d : D} {g : TG} {k : EK} {i : Int} {Ψ Ψ' : Out → Ms → Prop} {Φ : D → Prop}
/-! pure steps -/
theorem evm_of (h : EvD K te Γ d) : EvM K Mx M0 I te ms Γ (· = d) := fun B wf σ H S Q q => h _ σ H S.trk S.env Q fun v H1 e1 d1 => q v d H1 rfl (S.grow wf e1) (hsame e1) d1
theorem evm_thw (t : Thw ms Γ Γ') (h : EvD K te Γ' d) (hf : lf d = true) : EvM K Mx M0 I te ms Γ (· = d) := fun B wf σ H S Q q => h _ σ H S.mxtrk (thw_env S t) Q fun v H1 e1 d1 =>
  q v d H1 rfl (S.grow wf e1) (hsame e1) (lf_hide (S.grow wf e1).lsts hf d1)
theorem evm_mono (h : EvM K Mx M0 I te ms Γ Φ) {Φ' : D → Prop} (f : ∀ d, Φ d → Φ' d) : EvM K Mx M0 I te ms Γ Φ' := fun B wf σ H S Q q => h B wf σ H S Q fun v d H' p => q v d H' (f d p)
theorem runm_mono (h : RunM K Mx M0 I E t ms Γ Ψ) (f : ∀ o ms', Ψ o ms' → Ψ' o ms') : RunM K Mx M0 I E t ms Γ Ψ' := fun B wf σ H D S P => h B wf σ H D S fun o ms' p => P o ms' (f o ms' p)
theorem runm_of {o : Out} (h : RunD K E t Γ o) : RunM K Mx M0 I E t ms Γ (fun o' ms' => o' = o ∧ ms' = ms) := fun B wf σ H D S P => by
  refine h _ σ H D S.trk S.env ?_
  have p := P o ms ⟨rfl, rfl⟩
  cases o with
  | nx Γ1 => exact fun σ' H' e S' => p σ' H' ((S.grow wf e).envs S')
  | bk Γ1 => exact fun σ' H' e S' => p σ' H' ((S.grow wf e).envs S')
  | ct Γ1 => exact fun σ' H' e S' => p σ' H' ((S.grow wf e).envs S')
  | rt d => exact fun v H' e d' => p v H' (S.grow wf e).old (S.grow wf e).mxtrk (S.grow wf e).inv (d'.mono' (hide_sub sub_hid))
  | er k i => exact fun dx H' e x => p dx H' (S.grow wf e).old (S.grow wf e).inv x
theorem runm_seq (h : RunM K Mx M0 I E t ms Γ Ψ') (h2 : ∀ Γ1 ms1, Ψ' (.nx Γ1) ms1 → RunM K Mx M0 I E u ms1 Γ1 Ψ) (h3 : ∀ o ms1, Ψ' o ms1 → (∀ Γ1, o ≠ .nx Γ1) → Ψ o ms1) : RunM K Mx M0 I E (tSeq t u) ms Γ Ψ := fun B wf σ H D S P => by
  refine h B wf σ H { D with nx := u D } S fun o ms1 p => ?_
  cases o with
  | nx Γ1 => exact fun σ' H' S' => h2 Γ1 ms1 p B wf σ' H' D S' P
  | bk Γ1 => exact P _ _ (h3 _ _ p fun _ z => by cases z)
  | ct Γ1 => exact P _ _ (h3 _ _ p fun _ z => by cases z)
  | rt d => exact P _ _ (h3 _ _ p fun _ z => by cases z)
  | er k i => exact P _ _ (h3 _ _ p fun _ z => by cases z)
/-- a pure statement, then the rest -/
theorem runm_nx (h : RunD K E t Γ (.nx Γ1)) (h2 : RunM K Mx M0 I E u ms Γ1 Ψ) : RunM K Mx M0 I E (tSeq t u) ms Γ Ψ :=
  runm_seq (runm_of h) (fun Γ2 ms1 ⟨e1, e2⟩ => by cases e1; subst e2; exact h2) fun o ms1 ⟨e1, _⟩ n => absurd e1 (n _)
theorem runm_end {o : Out} (h : RunD K E t Γ o) (p : Ψ o ms) : RunM K Mx M0 I E t ms Γ Ψ := runm_mono (runm_of h) fun o' ms' ⟨e1, e2⟩ => by subst e1 e2; exact p
theorem runm_asg (h : EvM K Mx M0 I te ms Γ Φ) (hg : ∀ d, Φ d → ∃ Γ1, GD K g d Γ Γ1 ∧ Ψ (.nx Γ1) ms) : RunM K Mx M0 I E (tAsg te g) ms Γ Ψ := fun B wf σ H D S P =>
  h B wf σ H S _ fun v d H1 p S1 e1 d1 => by
    obtain ⟨Γ1, hg, hp⟩ := hg d p
    exact hg _ v σ H1 _ S1.trk d1 S1.env fun σ' H' e S' => P _ _ hp σ' H' ((S1.grow wf e).envs S')
theorem runm_asgN {j : Nat} (h : EvM K Mx M0 I te ms Γ Φ) (h2 : ∀ d, Φ d → RunM K Mx M0 I E u ms (Γ.set j (.dat d)) Ψ) : RunM K Mx M0 I E (tSeq (tAsg te (gName j)) u) ms Γ Ψ :=
  runm_seq (Ψ' := fun o ms1 => ∃ d, Φ d ∧ o = .nx (Γ.set j (.dat d)) ∧ ms1 = ms) (runm_asg h fun d p => ⟨_, gd_name, d, p, rfl, rfl⟩) (fun Γ1 ms1 ⟨d, p, e1, e2⟩ => by cases e1; subst e2; exact h2 d p) fun o ms1 ⟨d, _, e, _⟩ n => absurd e (n _)
theorem runm_ret (h : EvM K Mx M0 I te ms Γ Φ) (hp : ∀ d, Φ d → Ψ (.rt d) ms) : RunM K Mx M0 I E (tRet te) ms Γ Ψ := fun B wf σ H D S P =>
  h B wf σ H S _ fun v d H1 p S1 e1 d1 => P _ _ (hp d p) v H1 S1.old S1.mxtrk S1.inv (d1.mono' (hide_sub sub_hid))
/-- a return whose value may be an own list -/
theorem runm_retT (t : Thw ms Γ Γ') (h : EvD K te Γ' d) (hp : Ψ (.rt d) ms) : RunM K Mx M0 I E (tRet te) ms Γ Ψ := fun B wf σ H D S P =>
  h _ σ H S.mxtrk (thw_env S t) _ fun v H1 e1 d1 => P _ _ hp v H1 (S.grow wf e1).old (S.grow wf e1).mxtrk (S.grow wf e1).inv d1
theorem runm_if {b : Bool} (t' : Thw ms Γ Γ') (h : EvT K c Γ' b) (h1 : b = true → RunM K Mx M0 I E t ms Γ Ψ) (h2 : b = false → RunM K Mx M0 I E u ms Γ Ψ) : RunM K Mx M0 I E (tIfS c t u) ms Γ Ψ := fun B wf σ H D S P =>
  h _ σ H S.mxtrk (thw_env S t') _ fun H1 e1 => by
    cases b with
    | true => exact h1 rfl B wf σ H1 D (S.grow wf e1) P
    | false => exact h2 rfl B wf σ H1 D (S.grow wf e1) P
theorem runm_ifT (t' : Thw ms Γ Γ') (h : EvT K c Γ' true) (h1 : RunM K Mx M0 I E t ms Γ Ψ) : RunM K Mx M0 I E (tIfS c t u) ms Γ Ψ := runm_if t' h (fun _ => h1) fun z => by cases z
theorem runm_ifF (t' : Thw ms Γ Γ') (h : EvT K c Γ' false) (h1 : RunM K Mx M0 I E u ms Γ Ψ) : RunM K Mx M0 I E (tIfS c t u) ms Γ Ψ := runm_if t' h (fun z => by cases z) fun _ => h1
/-- an if, then the rest -/
theorem runm_ifN {b : Bool} {t u v : TS} (t' : Thw ms Γ Γ') (h : EvT K c Γ' b) (h1 : b = true → RunM K Mx M0 I E (tSeq t v) ms Γ Ψ) (h2 : b = false → RunM K Mx M0 I E (tSeq u v) ms Γ Ψ) : RunM K Mx M0 I E (tSeq (tIfS c t u) v) ms Γ Ψ := fun B wf σ H D S P =>
  h _ σ H S.mxtrk (thw_env S t') _ fun H1 e1 => by
    cases b with
    | true => exact h1 rfl B wf σ H1 D (S.grow wf e1) P
    | false => exact h2 rfl B wf σ H1 D (S.grow wf e1) P
theorem runm_skip (h : RunM K Mx M0 I E u ms Γ Ψ) : RunM K Mx M0 I E (tSeq tNext u) ms Γ Ψ := runm_nx run_next h
theorem runm_rt (h : RunM K Mx M0 I E t ms Γ Ψ) (n : ∀ Γ1 ms1, Ψ (.nx Γ1) ms1 → False) : RunM K Mx M0 I E (tSeq t u) ms Γ Ψ := runm_seq h (fun Γ1 ms1 p => (n Γ1 ms1 p).elim) fun _ _ p _ => p
/-! own lists -/
theorem runm_new {j : Nat} {tr : TA} {ds : List D} (h : EvA K tr Γ ds) (hz : ds.length ≤ 100000) (h2 : ∀ a, RunM K Mx M0 I E u ((a, ds) :: ms) (Γ.set j (.ref a)) Ψ) : RunM K Mx M0 I E (tSeq (tAsg (tLst tr) (gName j)) u) ms Γ Ψ := fun B wf σ H D S P =>
  h _ σ H S.trk S.env _ fun vs H1 e1 d1 => ⟨Nat.le_trans (by rw [DqAll.len d1]; exact hz) (by decide), fun p hp => by
    have S1 := S.grow wf e1
    have S2 := S1.grow wf (same_new hp (o := .lst vs))
    have hn : p ∉ hid ms Mx := S1.trk.ne hp
    have hsub : Same (hide (hid ms Mx) H1) (hide (hid ((p, ds) :: ms) Mx) (L2.upd H1 p (.lst vs))) := fun a o q => by
      obtain ⟨q1, q2⟩ := hide_of q
      have na : a ≠ p := ne_of_none q1 hp
      rw [hide_in (fun z => by
        rcases List.mem_cons.mp (show a ∈ p :: hid ms Mx from z) with z | z
        · exact na z
        · exact q2 z), upd_ne na]
      exact q1
    refine h2 p B wf _ _ D ⟨S2.old, ?_, ?_, ?_, ?_, S2.inv, envd_set (o := some (.ref p)) (s := .ref p) rfl j (S1.env.mono hsub), ?_⟩ P
    · intro q hq m hm
      rcases List.mem_cons.mp hm with z | z
      · subst z
        by_cases hin : p ∈ q.2
        · exact .inl hin
        · refine .inr ?_
          cases hc : q.1 p with
          | none => rfl
          | some o =>
            have := S1.old q hq p o (by rw [hide_in hin]; exact hc)
            rw [(hide_of this).1] at hp
            cases hp
      · exact S2.new q hq m z
    · intro m hm
      rcases List.mem_cons.mp (show m ∈ p :: hid ms Mx from hm) with z | z
      · subst z; exact ⟨_, upd_same, fun _ z => by cases z⟩
      · exact S2.trk m z
    · intro m hm
      rcases List.mem_cons.mp hm with z | z
      · subst z; exact fun q => hn (List.mem_append_right _ q)
      · exact S2.dis m z
    · show (p :: ms.map (·.1)).Nodup
      exact List.nodup_cons.mpr ⟨fun z => hn (List.mem_append_left _ z), S2.nd⟩
    · intro m hm
      rcases List.mem_cons.mp hm with z | z
      · subst z; exact ⟨vs, upd_same, d1.mono' hsub⟩
      · obtain ⟨ws, q1, q2⟩ := S1.lst m z
        refine ⟨ws, ?_, q2.mono' hsub⟩
        rw [upd_ne (ne_of_none q1 hp)]
        exact q1⟩
/-- the list at a, written anew -/
def setM (ms : Ms) (a : Addr) (ds : List D) : Ms := ms.map fun m => if m.1 = a then (a, ds) else m
theorem setM_fst (ms : Ms) (a : Addr) (ds : List D) : (setM ms a ds).map (·.1) = ms.map (·.1) := by
  unfold setM
  rw [List.map_map]
  apply List.map_congr_left
  intro m _
  show (if m.1 = a then (a, ds) else m).1 = m.1
  by_cases h : m.1 = a
  · rw [if_pos h, h]
  · rw [if_neg h]
theorem setM_hid (ms : Ms) (a : Addr) (ds : List D) (Mx : List Addr) : hid (setM ms a ds) Mx = hid ms Mx := by unfold hid; rw [setM_fst]
theorem Stt.write {a : Addr} {ds ds' : List D} {vs' : List V} (S : Stt K Mx M0 I B ms Γ σ H) (wf : Wf Mx M0 I B) (hm : (a, ds) ∈ ms) (hd : DqAll K (hide (hid ms Mx) H) vs' ds') : Stt K Mx M0 I B (setM ms a ds') Γ σ (L2.upd H a (.lst vs')) := by
  have ha : a ∈ hid ms Mx := List.mem_append_left _ (List.mem_map_of_mem hm)
  have hs : Same (hide (hid ms Mx) H) (hide (hid ms Mx) (L2.upd H a (.lst vs'))) := fun x o q => by
    obtain ⟨q1, q2⟩ := hide_of q
    rw [hide_in q2, upd_ne (fun z : x = a => q2 (z ▸ ha))]
    exact q1
  have fst_mem : ∀ m ∈ setM ms a ds', ∃ m' ∈ ms, m'.1 = m.1 := fun m hm => by
    have : m.1 ∈ (setM ms a ds').map (·.1) := List.mem_map_of_mem hm
    rw [setM_fst] at this
    obtain ⟨m', h1, h2⟩ := List.mem_map.mp this
    exact ⟨m', h1, h2⟩
  refine ⟨fun p hp => ?_, fun p hp m hm' => ?_, ?_, fun m hm' => ?_, ?_, ?_, ?_, fun m hm' => ?_⟩
  · intro x o q
    have h1 := S.old p hp x o q
    obtain ⟨h2, h3⟩ := hide_of h1
    rw [hide_in h3]
    by_cases e : x = a
    · subst e
      rcases S.new p hp _ hm with z | z
      · exact absurd z h3
      · have := (hide_of q).1
        rw [z] at this; cases this
    · rw [upd_ne e]; exact h2
  · obtain ⟨m', h1, h2⟩ := fst_mem m hm'
    rw [← h2]; exact S.new p hp m' h1
  · rw [setM_hid]
    intro m hm'
    by_cases e : m = a
    · subst e; exact ⟨_, upd_same, fun _ z => by cases z⟩
    · rw [upd_ne e]; exact S.trk m hm'
  · obtain ⟨m', h1, h2⟩ := fst_mem m hm'
    rw [← h2]; exact S.dis m' h1
  · rw [setM_fst]; exact S.nd
  · refine wf.stb H _ (fun m hm' => upd_ne (fun z => S.dis _ hm (wf.sub _ (z ▸ hm')))) (fun b o q n => ?_) S.inv
    obtain ⟨vs, h1, _⟩ := S.lst _ hm
    rw [upd_ne (fun z => by rw [z, h1] at q; exact n _ (Option.some.inj q).symm)]
    exact q
  · rw [setM_hid]; exact S.env.mono hs
  · rw [setM_hid]
    unfold setM at hm'
    obtain ⟨m', h1, h2⟩ := List.mem_map.mp hm'
    by_cases e : m'.1 = a
    · rw [if_pos e] at h2
      subst h2
      exact ⟨vs', upd_same, hd.mono' hs⟩
    · rw [if_neg e] at h2
      subst h2
      obtain ⟨ws, q1, q2⟩ := S.lst _ h1
      exact ⟨ws, by rw [upd_ne e]; exact q1, q2.mono' hs⟩
/-- an own list is from now on data -/
theorem Stt.freeze {a : Addr} {ds : List D} (S : Stt K Mx M0 I B ((a, ds) :: ms) Γ σ H) (t : Thw [(a, ds)] Γ Γ') : Stt K Mx M0 I B ms Γ' σ H := by
  have hs : Same (hide (hid ((a, ds) :: ms) Mx) H) (hide (hid ms Mx) H) := hide_sub fun x hx => List.mem_cons_of_mem _ hx
  have hna : a ∉ hid ms Mx := fun z => by
    rcases List.mem_append.mp z with z | z
    · exact (List.nodup_cons.mp (show (a :: ms.map (·.1)).Nodup from S.nd)).1 z
    · exact S.dis _ List.mem_cons_self z
  obtain ⟨vs, h1, h2⟩ := S.lst (a, ds) List.mem_cons_self
  refine ⟨S.old, fun p hp m hm => S.new p hp m (List.mem_cons_of_mem _ hm), fun m hm => S.trk m (List.mem_cons_of_mem _ hm), fun m hm => S.dis m (List.mem_cons_of_mem _ hm), (List.nodup_cons.mp (show (a :: ms.map (·.1)).Nodup from S.nd)).2, S.inv, ?_, fun m hm => ?_⟩
  · have e := S.env.mono hs
    clear S
    induction t generalizing σ with
    | nil => cases e; exact .nil
    | same t ih =>
      cases e with
      | cons r q => exact .cons r (ih q)
    | @own x ys Γ1 Γ2 hm t ih =>
      have hm' : (x, ys) = (a, ds) := by simpa using hm
      cases hm'
      cases e with
      | @cons o s _ _ r q =>
        refine .cons ?_ (ih q)
        cases o with
        | none => exact (show False from r).elim
        | some v =>
          have ev : v = .ref a := r
          subst ev
          exact .lst (((hide_in hna).trans h1)) (h2.mono' hs)
  · obtain ⟨ws, q1, q2⟩ := S.lst m (List.mem_cons_of_mem _ hm)
    exact ⟨ws, q1, q2.mono' hs⟩
theorem runm_freeze {a : Addr} {ds : List D} (t' : Thw [(a, ds)] Γ Γ') (h : RunM K Mx M0 I E t ms Γ' Ψ) : RunM K Mx M0 I E t ((a, ds) :: ms) Γ Ψ := fun B wf σ H D S P => h B wf σ H D (S.freeze t') P
end
end CB

/-! D7 -/
set_option Elab.async false
set_option linter.all false
set_option maxRecDepth 100000
set_option maxHeartbeats 4000000
namespace CB
open PySem PySem.Spec PyProof.Rows L2
section
variable {K : Fg} {Mx M0 : List Addr} {I : Hp → Prop} {E : XK} {B : Bs} {ms : Ms} {Γ Γ1 Γ2 Γ' : List Sl} {σ : L2.St} {H H' : Hp}
variable {ta tb te : TE} {t u : TS} {c : TT} {a b d : D} {g : TG} {k : EK} {i : Int} {Ψ Ψ' : Out → Ms → Prop} {Φ : D → Prop}
theorem dpa_set {G : Hp} : ∀ {vs : List V} {ds : List D} {v : V} {d : D}, DqAll K G vs ds → Dq K G v d → ∀ n : Nat, DqAll K G (vs.set n v) (ds.set n d)
  | _, _, _, _, .nil, _, _ => .nil
  | _, _, _, _, .cons _ t, h, 0 => .cons h t
  | _, _, _, _, .cons r t, h, n + 1 => .cons r (dpa_set t h n)
theorem envd_at {j : Nat} {x : Addr} (S : Stt K Mx M0 I B ms Γ σ H) (e : Γ[j]? = some (.ref x)) : σ[j]? = some (some (.ref x)) := envd_ref S.env e
/-- x.append(e) -/
theorem runm_app {T' : String} {j : Nat} {x : Addr} {ds : List D} {tr : TA} (hj : Γ[j]? = some (.ref x)) (hm : (x, ds) ∈ ms) (hT : T' = "list") (hz : ds.length ≤ 100000) (h : EvM K Mx M0 I te ms Γ Φ) (h2 : ∀ d, Φ d → RunM K Mx M0 I E u (setM ms x (ds ++ [d])) Γ Ψ) :
    RunM K Mx M0 I E (tSeq (tDrop (tBM K T' rAppend (tVar j) (tCons te tNil))) u) ms Γ Ψ := fun B wf σ H D S P => by
  subst hT
  obtain ⟨vs, q1, q2⟩ := S.lst _ hm
  refine ⟨.ref x, envd_at S hj, .inl ⟨rfl, vs, SqL.of q1⟩, h B wf σ H S _ fun v d H1 p S1 e1 d1 => ?_⟩
  obtain ⟨ws, r1, r2⟩ := S1.lst _ hm
  refine ⟨x, ws, v, rfl, rfl, r1, Nat.lt_of_le_of_lt (by rw [DqAll.len r2]; exact hz) (by decide), ?_⟩
  exact h2 d p B wf _ _ D (S1.write wf hm (DqAll.app r2 (.cons d1 .nil))) P
/-- .. at the end of a block -/
theorem runm_appE {T' : String} {j : Nat} {x : Addr} {ds : List D} {tr : TA} (hj : Γ[j]? = some (.ref x)) (hm : (x, ds) ∈ ms) (hT : T' = "list") (hz : ds.length ≤ 100000) (h : EvM K Mx M0 I te ms Γ Φ) (h2 : ∀ d, Φ d → Ψ (.nx Γ) (setM ms x (ds ++ [d]))) :
    RunM K Mx M0 I E (tDrop (tBM K T' rAppend (tVar j) (tCons te tNil))) ms Γ Ψ := fun B wf σ H D S P => by
  subst hT
  obtain ⟨vs, q1, q2⟩ := S.lst _ hm
  refine ⟨.ref x, envd_at S hj, .inl ⟨rfl, vs, SqL.of q1⟩, h B wf σ H S _ fun v d H1 p S1 e1 d1 => ?_⟩
  obtain ⟨ws, r1, r2⟩ := S1.lst _ hm
  refine ⟨x, ws, v, rfl, rfl, r1, Nat.lt_of_le_of_lt (by rw [DqAll.len r2]; exact hz) (by decide), ?_⟩
  exact P _ _ (h2 d p) _ _ (S1.write wf hm (DqAll.app r2 (.cons d1 .nil)))
/-- x[i] = v -/
theorem runm_setI {j : Nat} {x : Addr} {ds : List D} {ti : TE} {Φ' : D → Prop} (hj : Γ[j]? = some (.ref x)) (hm : (x, ds) ∈ ms) (h : EvM K Mx M0 I te ms Γ Φ) (hi : EvM K Mx M0 I ti ms Γ Φ') (hn : ∀ d', Φ' d' → ∃ n : Nat, d' = .int n ∧ n < ds.length)
    (h2 : ∀ d (n : Nat), Φ d → Φ' (.int n) → n < ds.length → Ψ (.nx Γ) (setM ms x (ds.set n d))) : RunM K Mx M0 I E (tAsg te (gSub (tVar j) ti rSetL)) ms Γ Ψ := fun B wf σ H D S P =>
  h B wf σ H S _ fun v d H1 p S1 e1 d1 => ⟨.ref x, envd_at S1 hj, hi B wf σ H1 S1 _ fun w d' H2 p' S2 e2 d2 => by
    obtain ⟨n, rfl, hlt⟩ := hn d' p'
    have := d2.intI
    subst this
    obtain ⟨ws, r1, r2⟩ := S2.lst _ hm
    have hl : ws.length = ds.length := DqAll.len r2
    refine ⟨x, ws, n, n, rfl, rfl, r1, ?_, ?_⟩
    · unfold ixN
      rw [if_pos (by omega), if_pos (by omega)]
      simp
    · refine P _ _ (h2 d n p p' hlt) _ _ (S2.write wf hm ?_)
      exact dpa_set r2 (d1.mono' e2) n⟩
/-! effectful parts of an expression -/
def EvMA (K : Fg) (Mx M0 : List Addr) (I : Hp → Prop) (ta : TA) (ms : Ms) (Γ : List Sl) (Φ : List D → Prop) : Prop :=
  ∀ (B : Bs), Wf Mx M0 I B → ∀ (σ : L2.St) (H : Hp), Stt K Mx M0 I B ms Γ σ H → ∀ Q : List V → Hp → Prop, (∀ vs ds H', Φ ds → Stt K Mx M0 I B ms Γ σ H' → Same (hide (hid ms Mx) H) (hide (hid ms Mx) H') → DqAll K (hide (hid ms Mx) H') vs ds → Q vs H') → ta σ H Q
theorem evma_nil : EvMA K Mx M0 I tNil ms Γ (· = []) := fun B wf σ H S Q q => q [] [] H rfl S (Same.refl _) .nil
theorem evma_cons {tr : TA} {Φr Φ' : List D → Prop} (h : EvM K Mx M0 I te ms Γ Φ) (hr : EvMA K Mx M0 I tr ms Γ Φr) (f : ∀ d ds, Φ d → Φr ds → Φ' (d :: ds)) : EvMA K Mx M0 I (tCons te tr) ms Γ Φ' := fun B wf σ H S Q q =>
  h B wf σ H S _ fun v d H1 p S1 e1 d1 => hr B wf σ H1 S1 _ fun vs ds H2 p2 S2 e2 d2 => q _ _ H2 (f d ds p p2) S2 (e1.trans e2) (.cons (d1.mono' e2) d2)
theorem evma_of {ta : TA} {ds : List D} (h : EvA K ta Γ ds) : EvMA K Mx M0 I ta ms Γ (· = ds) := fun B wf σ H S Q q => h _ σ H S.trk S.env Q fun vs H1 e1 d1 => q vs ds H1 rfl (S.grow wf e1) (hsame e1) d1
theorem evm_op {r : R2} {Φa Φb Φ' : D → Prop} (ha : EvM K Mx M0 I ta ms Γ Φa) (hb : EvM K Mx M0 I tb ms Γ Φb) (hr : ∀ a b, Φa a → Φb b → ∃ d, Φ' d ∧ ROp K r a b d) : EvM K Mx M0 I (tOp r ta tb) ms Γ Φ' := fun B wf σ H S Q q =>
  ha B wf σ H S _ fun x a H1 pa S1 e1 d1 => hb B wf σ H1 S1 _ fun y b H2 pb S2 e2 d2 => by
    obtain ⟨d, pd, hr⟩ := hr a b pa pb
    exact hr _ H2 x y S2.trk (d1.mono' e2) d2 Q fun v H3 e3 d3 => q v d H3 pd (S2.grow wf e3) ((e1.trans e2).trans (hsame e3)) d3
theorem evm_cb {rc : List V → Hp → VK → Prop} {ta : TA} {Φa : List D → Prop} (ha : EvMA K Mx M0 I ta ms Γ Φa) (hr : ∀ ds, Φa ds → ∃ d, Φ d ∧ RCa K rc ds d) : EvM K Mx M0 I (tCB rc ta) ms Γ Φ := fun B wf σ H S Q q =>
  ha B wf σ H S _ fun xs ds H1 p S1 e1 d1 => by
    obtain ⟨d, pd, hr⟩ := hr ds p
    exact hr _ H1 xs S1.trk d1 Q fun v H3 e3 d3 => q v d H3 pd (S1.grow wf e3) (e1.trans (hsame e3)) d3
theorem evm_tup {ta : TA} {Φa : List D → Prop} (ha : EvMA K Mx M0 I ta ms Γ Φa) (hz : ∀ ds, Φa ds → ds.length ≤ 100000) (f : ∀ ds, Φa ds → Φ (.tuple ds)) : EvM K Mx M0 I (tTup ta) ms Γ Φ := fun B wf σ H S Q q =>
  ha B wf σ H S _ fun xs ds H1 p S1 e1 d1 => ⟨Nat.le_trans (by rw [DqAll.len d1]; exact hz ds p) (by decide), fun x hx => q _ _ _ (f ds p) (S1.grow wf (same_new hx)) (e1.trans (hsame (same_new hx))) (.tup ((S1.trk.upd hx)) (d1.mono' (hsame (same_new hx))))⟩
theorem evm_sl {rs : V → Option Int → Option Int → Hp → VK → Prop} {tl th : TE} {Φa Φl : D → Prop} (ha : EvM K Mx M0 I ta ms Γ Φa) (hl : EvM K Mx M0 I tl ms Γ Φl) (hr : ∀ a l, Φa a → Φl l → ∃ (i : Int) (d : D), l = .int i ∧ Φ d ∧ RSl K rs a (some i) none d) : EvM K Mx M0 I (tSl rs ta (tPart tl) tNoPart) ms Γ Φ := fun B wf σ H S Q q =>
  ha B wf σ H S _ fun x a H1 pa S1 e1 d1 => hl B wf σ H1 S1 _ fun y l H2 pl S2 e2 d2 => by
    obtain ⟨i, d, rfl, pd, hr⟩ := hr a l pa pl
    exact ⟨i, d2.intI, hr _ H2 x S2.trk (d1.mono' e2) Q fun v H3 e3 d3 => q v d H3 pd (S2.grow wf e3) ((e1.trans e2).trans (hsame e3)) d3⟩
theorem evm_if {Γ' : List Sl} {b : Bool} (t' : Thw ms Γ Γ') (h : EvT K c Γ' b) (h1 : b = true → EvM K Mx M0 I ta ms Γ Φ) (h2 : b = false → EvM K Mx M0 I tb ms Γ Φ) : EvM K Mx M0 I (tIf c ta tb) ms Γ Φ := fun B wf σ H S Q q =>
  h _ σ H S.mxtrk (thw_env S t') _ fun H1 e1 => by
    cases b with
    | true => exact h1 rfl B wf σ H1 (S.grow wf e1) Q fun v d H2 p S2 e2 d2 => q v d H2 p S2 ((hsame e1).trans e2) d2
    | false => exact h2 rfl B wf σ H1 (S.grow wf e1) Q fun v d H2 p S2 e2 d2 => q v d H2 p S2 ((hsame e1).trans e2) d2
/-! loops -/
theorem Stt.base (wf : Wf Mx M0 I B) (S : Stt K Mx M0 I B ms Γ σ H) : Wf Mx M0 I ((H, ms.map (·.1) ++ M0) :: B) ∧ Stt K Mx M0 I ((H, ms.map (·.1) ++ M0) :: B) ms Γ σ H :=
  ⟨⟨wf.sub, fun p hp m hm => by
    rcases List.mem_cons.mp hp with z | z
    · subst z; exact List.mem_append_right _ hm
    · exact wf.bas p z m hm, wf.stb⟩,
   ⟨fun p hp => by
    rcases List.mem_cons.mp hp with z | z
    · subst z; exact Same.refl _
    · exact S.old p z, fun p hp m hm => by
    rcases List.mem_cons.mp hp with z | z
    · subst z; exact .inl (List.mem_append_left _ (List.mem_map_of_mem hm))
    · exact S.new p z m hm, S.trk, S.dis, S.nd, S.inv, S.env, S.lst⟩⟩
theorem Stt.unbase {p : Hp × List Addr} (S : Stt K Mx M0 I (p :: B) ms Γ σ H) : Stt K Mx M0 I B ms Γ σ H :=
  ⟨fun q hq => S.old q (List.mem_cons_of_mem _ hq), fun q hq => S.new q (List.mem_cons_of_mem _ hq), S.trk, S.dis, S.nd, S.inv, S.env, S.lst⟩
/-- what was hidden at the base is hidden now, the rest stands -/
theorem Stt.since {ms1 : Ms} {H1 : Hp} (wf : Wf Mx M0 I B) (S : Stt K Mx M0 I ((H1, ms1.map (·.1) ++ M0) :: B) ms Γ σ H) : Same (hide (hid ms1 Mx) H1) (hide (hid ms Mx) H) := fun x o q => by
  obtain ⟨q1, q2⟩ := hide_of q
  have n1 : x ∉ ms1.map (·.1) ++ M0 := fun z => q2 (by
    rcases List.mem_append.mp z with z | z
    · exact List.mem_append_left _ z
    · exact List.mem_append_right _ (wf.sub x z))
  have h := S.old _ List.mem_cons_self x o (by rw [hide_in n1]; exact q1)
  rw [hide_in (fun z => ?_)]
  · exact (hide_of h).1
  · rcases List.mem_append.mp z with z | z
    · obtain ⟨m, hm, e⟩ := List.mem_map.mp z
      rcases S.new _ List.mem_cons_self m hm with y | y
      · exact n1 (e ▸ y)
      · have y' : H1 m.1 = none := y
        rw [e, q1] at y'
        cases y'
    · exact q2 (List.mem_append_right _ z)
def stepM (R : Ms → List Sl → Prop) (Ψ : Out → Ms → Prop) : Out → Ms → Prop
  | .nx Γ, ms => R ms Γ
  | .ct Γ, ms => R ms Γ
  | .bk Γ, ms => Ψ (.nx Γ) ms
  | .rt d, ms => Ψ (.rt d) ms
  | .er k i, ms => Ψ (.er k i) ms
theorem runm_for {wi : TI} {ds : List D} {R : List D → Ms → List Sl → Prop} (hi : IterD K wi Γ ds) (h0 : R ds ms Γ) (step : ∀ d ds ms Γ, R (d :: ds) ms Γ → ∃ Γ1, GD K g d Γ Γ1 ∧ RunM K Mx M0 I E t ms Γ1 (stepM (R ds) Ψ))
    (fin : ∀ ms Γ, R [] ms Γ → Ψ (.nx Γ) ms) : RunM K Mx M0 I E (tFor wi g t) ms Γ Ψ := fun B wf σ H D S P =>
  hi _ σ H S.trk S.env _ fun J H1 e1 ⟨G, Y, w, hG, hY⟩ => by
    have S1 := S.grow wf e1
    obtain ⟨wf2, S2⟩ := S1.base wf
    refine ⟨fun i m σ' H' => m = ds.length - i ∧ i ≤ ds.length ∧ ∃ Γ' ms', Stt K Mx M0 I ((H1, ms.map (·.1) ++ M0) :: B) ms' Γ' σ' H' ∧ R (ds.drop i) ms' Γ', ⟨_, rfl, Nat.zero_le _, Γ, ms, S2, h0⟩, ?_⟩
    rintro i m σ' H' ⟨rfl, hi, Γ', ms', S', L⟩
    have hs := S'.since wf
    have q := hG _ H' hs
    by_cases hlt : i < ds.length
    · refine .inr ⟨w.goes i H' hlt q, fun σ2 H2 => ∃ Γ2 ms2, Stt K Mx M0 I ((H1, ms.map (·.1) ++ M0) :: B) ms2 Γ2 σ2 H2 ∧ R (ds.drop (i + 1)) ms2 Γ2, fun σ2 H2 ⟨Γ2, ms2, x, y⟩ => ⟨ds.length - (i + 1), by omega, rfl, hlt, Γ2, ms2, x, y⟩, fun x H2' y => ?_⟩
      obtain ⟨s2, d, hd, hx⟩ := hY i H' x H2' _ hlt S'.trk hs (w.yields i H' x H2' hlt q y)
      have hdr : ds.drop i = d :: ds.drop (i + 1) := by
        have h1 := List.drop_eq_getElem_cons hlt
        have h2 := (List.getElem?_eq_some_iff.mp hd).2
        rw [h1, h2]
      rw [hdr] at L
      have S3 := S'.grow wf2 s2
      obtain ⟨Γ1, hg, hb⟩ := step d _ ms' Γ' L
      refine hg _ x σ' H2' _ S3.trk hx S3.env fun σ4 H4 e4 S4 => hb _ wf2 σ4 H4 _ ((S3.grow wf2 e4).envs S4) fun o ms5 p => ?_
      cases o with
      | nx Γ5 => exact fun σ5 H5 S5 => ⟨Γ5, ms5, S5, p⟩
      | ct Γ5 => exact fun σ5 H5 S5 => ⟨Γ5, ms5, S5, p⟩
      | bk Γ5 => exact fun σ5 H5 S5 => P _ _ p σ5 H5 S5.unbase
      | rt d => exact fun v H5 o5 t5 i5 d5 => P _ _ p v H5 (fun q hq => o5 q (List.mem_cons_of_mem _ hq)) t5 i5 d5
      | er k i => exact fun dx H5 o5 i5 x5 => P _ _ p dx H5 (fun q hq => o5 q (List.mem_cons_of_mem _ hq)) i5 x5
    · have e : i = ds.length := by omega
      subst e
      rw [List.drop_length] at L
      exact .inl ⟨w.stops H' q, P _ _ (fin ms' Γ' L) σ' H' S'.unbase⟩
end
end CB

/-! D8 -/
set_option Elab.async false
set_option linter.all false
set_option maxRecDepth 100000
set_option maxHeartbeats 4000000
namespace CB
open PySem PySem.Spec PyProof.Rows L2
/-! ### a def with lists of its own -/
theorem wf0 {Mx : List Addr} {B : Bs} : Wf Mx [] (fun _ => True) B := ⟨fun _ h => (by cases h), fun _ _ _ h => (by cases h), fun _ _ _ _ _ => trivial⟩
theorem stt0 {K : Fg} {Mx : List Addr} {H : Hp} {σ : L2.St} {Γ : List Sl} (t : Trk Mx H) (e : EnvD K (hide Mx H) σ Γ) : Stt K Mx [] (fun _ => True) [(H, [])] [] Γ σ H :=
  ⟨fun p hp => by
    have : p = (H, []) := by simpa using hp
    subst this
    exact Same.refl _, fun p hp m hm => (by cases hm), t, fun _ h => (by cases h), List.nodup_nil, trivial, e, fun _ h => (by cases h)⟩
section
variable {P : Program} {w : World} {K : PySem.W.Frag} {mg : Str → Option Value} {base : Heap}
theorem post0 {E : XK} {Mx : List Addr} {H : Hp} {Q : VK} {r : Res} (hq : match r with
  | .ok d => ∀ v H', Same H H' → Dq K (hide Mx H') v d → Q v H'
  | .er k i => ∀ dx H', Same H H' → H' dx = some (atF i) → E (.ref (eka K k)) (some dx) H') (D : Ends) (hD : D.rt = Q) : ∀ (o : Out) (ms' : Ms), o = outOf r → PostM K Mx [] (fun _ => True) E [(H, [])] D o ms' := fun o ms' e => by
  subst e
  have un : ∀ {H'}, (∀ p ∈ ([(H, [])] : Bs), Same (hide p.2 p.1) (hide p.2 H')) → Same H H' := fun h => by
    have := h (H, []) List.mem_cons_self
    rw [hide_nil, hide_nil] at this
    exact this
  cases r with
  | ok d => exact fun v H' o t i d' => by rw [hD]; exact hq v H' (un o) d'
  | er k i => exact fun dx H' o i x => hq dx H' (un o) x
theorem fnMD {x : Str} {st : Stmt} {N ps : List Str} {k : Nat} {F : List D → Res → Prop} {dvs : List V} {f : Addr} {fd : FuncData} (Fu : FunD K x x (defArgs st) (defBody st) (defScope st) dvs [] f fd) (S : FnScope N ps (defScope st))
    (hF : ∀ ds r, F ds r → ds.length = ps.length ∧ ∃ d, r = .ok d)
    (hb : ∀ (cdv : Value) (A : Around) (outer : List Env) (s : Shared) (H : Hp) (E : XK), Room k (A.deeper (envOfC x (defScope st) s.heap.objs.size f cdv)) →
      ∃ t, PSs (cxOf CX0 P w K mg base N x (defScope st) f cdv A outer s H E).nox (defBody st) t ∧ ∀ ds d Mx, F ds (.ok d) → RunM K Mx [] (fun _ => True) E0 t [] (startG N ds) (fun o _ => o = .rt d)) : FnOk P w K mg base (L2.CX P w) (k + 1) f fd ps (spD K F) := by
  refine wideF (Fu.ok S (fun vs H Q E h => ?_) (fun cdv A outer s H vs Q E hr h => ?_))
  · obtain ⟨M, ds, r, _, dp, hf, _⟩ := h
    rw [DqAll.len dp]
    exact (hF ds r hf).1
  · obtain ⟨M, ds, r, T, dp, hf, hq⟩ := h
    obtain ⟨d, rfl⟩ := (hF ds r hf).2
    obtain ⟨t, h1, h2⟩ := hb cdv A outer s H E hr
    exact ⟨t, h1.nox, h2 ds d M hf _ wf0 _ H _ (stt0 T (envd_startG dp)) fun o ms' e => post0 (E := E0) (r := .ok d) hq _ rfl o ms' e⟩
theorem fnMX {x : Str} {st : Stmt} {N ps : List Str} {k : Nat} {F : List D → Res → Prop} {dvs : List V} {f : Addr} {fd : FuncData} (Fu : FunD K x x (defArgs st) (defBody st) (defScope st) dvs [] f fd) (S : FnScope N ps (defScope st))
    (hF : ∀ ds r, F ds r → ds.length = ps.length)
    (hb : ∀ (cdv : Value) (A : Around) (outer : List Env) (s : Shared) (H : Hp) (E : XK), Room k (A.deeper (envOfC x (defScope st) s.heap.objs.size f cdv)) →
      Takes (cxOf (L2.CX P w) P w K mg base N x (defScope st) f cdv A outer s H E) (fun cls d _ H' => E cls d H') → Passes (L2.CX P w) (cxOf (L2.CX P w) P w K mg base N x (defScope st) f cdv A outer s H E) E →
      PassesOwn (model P w) (cxOf (L2.CX P w) P w K mg base N x (defScope st) f cdv A outer s H E).A (cxOf (L2.CX P w) P w K mg base N x (defScope st) f cdv A outer s H E).env (cxOf (L2.CX P w) P w K mg base N x (defScope st) f cdv A outer s H E).xe →
      ∃ t, PSs (cxOf (L2.CX P w) P w K mg base N x (defScope st) f cdv A outer s H E) (defBody st) t ∧ ∀ ds r Mx, F ds r → RunM K Mx [] (fun _ => True) E t [] (startG N ds) (fun o _ => o = outOf r)) : FnOk P w K mg base (L2.CX P w) (k + 1) f fd ps (spD K F) := by
  refine Fu.ok S (fun vs H Q E h => ?_) (fun cdv A outer s H vs Q E hr h => ?_)
  · obtain ⟨M, ds, r, _, dp, hf, _⟩ := h
    rw [DqAll.len dp]
    exact hF ds r hf
  · obtain ⟨M, ds, r, T, dp, hf, hq⟩ := h
    have tk : Takes (cxOf (L2.CX P w) P w K mg base N x (defScope st) f cdv A outer s H E) (fun cls d _ H' => E cls d H') := takes_of (E := E) rfl rfl rfl rfl
    obtain ⟨t, h1, h2⟩ := hb cdv A outer s H E hr tk (passes_call tk fun _ _ _ _ h => h) (passes_of (K := fun e s'' => L2.CX P w outer H s E e s'') rfl)
    exact ⟨t, h1, h2 ds r M hf _ wf0 _ H _ (stt0 T (envd_startG dp)) fun o ms' e => post0 hq _ rfl o ms' e⟩
end
/-! for with an iterable that raises -/
theorem run_forE {K : Fg} {E : XK} {te : TE} {g : TG} {tb : TS} {Γ : List Sl} {k : EK} {i : Int} (h : EvE K E te Γ k i) : RunD K E (tFor (iSeq K te) g tb) Γ (.er k i) := fun M σ H D T S P => .inl (h M σ H T S P _)
end CB

/-! D9 -/
set_option Elab.async false
set_option linter.all false
set_option maxRecDepth 100000
set_option maxHeartbeats 4000000
namespace CB
open PySem PySem.Spec PyProof.Rows L2
section
variable {K : Fg} {Mx M0 : List Addr} {I : Hp → Prop} {E : XK} {B : Bs} {ms : Ms} {Γ Γ1 Γ2 Γ' : List Sl} {σ : L2.St} {H H' : Hp}
variable {ta tb te : TE} {t u : TS} {c : TT} {a b d : D} {g : TG} {k : EK} {i : Int} {Ψ Ψ' : Out → Ms → Prop} {Φ : D → Prop}
/-- one more own list -/
theorem Stt.newL {p : Addr} {vs : List V} {ds : List D} (S1 : Stt K Mx M0 I B ms Γ σ H) (wf : Wf Mx M0 I B) (hp : H p = none) (d1 : DqAll K (hide (hid ms Mx) H) vs ds) : Stt K Mx M0 I B ((p, ds) :: ms) Γ σ (L2.upd H p (.lst vs)) := by
  have S2 := S1.grow wf (same_new hp (o := .lst vs))
  have hn : p ∉ hid ms Mx := S1.trk.ne hp
  have hsub : Same (hide (hid ms Mx) H) (hide (hid ((p, ds) :: ms) Mx) (L2.upd H p (.lst vs))) := fun a o q => by
    obtain ⟨q1, q2⟩ := hide_of q
    have na : a ≠ p := ne_of_none q1 hp
    rw [hide_in (fun z => by
      rcases List.mem_cons.mp (show a ∈ p :: hid ms Mx from z) with z | z
      · exact na z
      · exact q2 z), upd_ne na]
    exact q1
  refine ⟨S2.old, ?_, ?_, ?_, ?_, S2.inv, S1.env.mono hsub, ?_⟩
  · intro q hq m hm
    rcases List.mem_cons.mp hm with z | z
    · subst z
      by_cases hin : p ∈ q.2
      · exact .inl hin
      · refine .inr ?_
        cases hc : q.1 p with
        | none => rfl
        | some o =>
          have := S1.old q hq p o (by rw [hide_in hin]; exact hc)
          rw [(hide_of this).1] at hp
          cases hp
    · exact S2.new q hq m z
  · intro m hm
    rcases List.mem_cons.mp (show m ∈ p :: hid ms Mx from hm) with z | z
    · subst z; exact ⟨_, upd_same, fun _ z => by cases z⟩
    · exact S2.trk m z
  · intro m hm
    rcases List.mem_cons.mp hm with z | z
    · subst z; exact fun q => hn (List.mem_append_right _ q)
    · exact S2.dis m z
  · show (p :: ms.map (·.1)).Nodup
    exact List.nodup_cons.mpr ⟨fun z => hn (List.mem_append_left _ z), S2.nd⟩
  · intro m hm
    rcases List.mem_cons.mp hm with z | z
    · subst z; exact ⟨vs, upd_same, d1.mono' hsub⟩
    · obtain ⟨ws, q1, q2⟩ := S1.lst m z
      refine ⟨ws, ?_, q2.mono' hsub⟩
      rw [upd_ne (ne_of_none q1 hp)]
      exact q1
theorem Stt.setR {p : Addr} {j : Nat} (S : Stt K Mx M0 I B ms Γ σ H) : Stt K Mx M0 I B ms (Γ.set j (.ref p)) (σ.set j (some (.ref p))) H := S.envs (envd_set (o := some (.ref p)) (s := .ref p) rfl j S.env)
/-- a, b = x, [..] -/
theorem runm_parN {i j : Nat} {tr : TA} {ds : List D} (h : EvD K te Γ d) (hr : EvA K tr Γ ds) (hz : ds.length ≤ 100000) (h2 : ∀ a, RunM K Mx M0 I E u ((a, ds) :: ms) ((Γ.set i (.dat d)).set j (.ref a)) Ψ) : RunM K Mx M0 I E (tSeq (tPar i j (tCons te (tCons (tLst tr) tNil))) u) ms Γ Ψ := fun B wf σ H D S P =>
  h _ σ H S.trk S.env _ fun v H1 e1 d1 => by
    have S1 := S.grow wf e1
    refine hr _ σ H1 S1.trk S1.env _ fun vs H2 e2 d2 => ⟨Nat.le_trans (by rw [DqAll.len d2]; exact hz) (by decide), fun p hp => ?_⟩
    have S2 := S1.grow wf e2
    have S3 := S2.newL wf hp d2
    refine ⟨_, _, rfl, h2 p B wf _ _ D ?_ P⟩
    have hsub : Same (hide (hid ms Mx) H2) (hide (hid ((p, ds) :: ms) Mx) (L2.upd H2 p (.lst vs))) := fun a o q => by
      obtain ⟨q1, q2⟩ := hide_of q
      have na : a ≠ p := ne_of_none q1 hp
      rw [hide_in (fun z => by
        rcases List.mem_cons.mp (show a ∈ p :: hid ms Mx from z) with z | z
        · exact na z
        · exact q2 z), upd_ne na]
      exact q1
    exact (S3.envs (envd_set (o := some v) (s := .dat d) ((d1.mono' (hsame e2)).mono' hsub) i S3.env)).setR
/-- the first name is the list -/
theorem runm_parL {i j : Nat} {tr : TA} {ds : List D} (hr : EvA K tr Γ ds) (hz : ds.length ≤ 100000) (h : EvD K te Γ d) (h2 : ∀ a, RunM K Mx M0 I E u ((a, ds) :: ms) ((Γ.set i (.ref a)).set j (.dat d)) Ψ) : RunM K Mx M0 I E (tSeq (tPar i j (tCons (tLst tr) (tCons te tNil))) u) ms Γ Ψ := fun B wf σ H D S P =>
  hr _ σ H S.trk S.env _ fun vs H1 e1 d1 => ⟨Nat.le_trans (by rw [DqAll.len d1]; exact hz) (by decide), fun p hp => by
    have S3 := (S.grow wf e1).newL wf hp d1
    refine h _ σ _ S3.trk S3.env _ fun v H2 e2 d2 => ?_
    have S4 := S3.grow wf e2
    refine ⟨_, _, rfl, h2 p B wf _ _ D ?_ P⟩
    exact S4.envs (envd_set (o := some v) (s := .dat d) d2 j (envd_set (o := some (.ref p)) (s := .ref p) rfl i S4.env))⟩
end
end CB

/-! D10 -/
set_option Elab.async false
set_option linter.all false
set_option maxRecDepth 100000
set_option maxHeartbeats 4000000
namespace CB
open PySem PySem.Spec PyProof.Rows L2
section
variable {K : Fg} {Mx M0 : List Addr} {I : Hp → Prop} {E : XK} {B : Bs} {ms : Ms} {Γ Γ1 Γ2 Γ' : List Sl} {σ : L2.St} {H H' : Hp}
variable {ta tb te td ty : TE} {t u : TS} {c : TT} {a b d : D} {g : TG} {k : EK} {i : Int} {Ψ Ψ' : Out → Ms → Prop} {Φ : D → Prop}
/-- x.extend(e) -/
theorem runm_ext {T' : String} {j : Nat} {x : Addr} {ds : List D} {tr : TA} (hj : Γ[j]? = some (.ref x)) (hm : (x, ds) ∈ ms) (hT : T' = "list") (h : EvM K Mx M0 I te ms Γ Φ) (hΦ : ∀ d, Φ d → ∃ es, d = .list es ∧ ds.length + es.length ≤ 100000) (h2 : ∀ es, Φ (.list es) → RunM K Mx M0 I E u (setM ms x (ds ++ es)) Γ Ψ) :
    RunM K Mx M0 I E (tSeq (tDrop (tBM K T' rExtend (tVar j) (tCons te tNil))) u) ms Γ Ψ := fun B wf σ H D S P => by
  subst hT
  obtain ⟨vs, q1, q2⟩ := S.lst _ hm
  refine ⟨.ref x, envd_at S hj, .inl ⟨rfl, vs, SqL.of q1⟩, h B wf σ H S _ fun v d H1 p S1 e1 d1 => ?_⟩
  obtain ⟨es, rfl, hz⟩ := hΦ d p
  obtain ⟨b, zs, rfl, hb, dz⟩ := d1.lstS
  obtain ⟨ws, r1, r2⟩ := S1.lst _ hm
  refine ⟨x, b, ws, zs, rfl, rfl, r1, hide_le _ _ hb, Nat.le_trans (by rw [DqAll.len r2, DqAll.len dz]; exact hz) (by decide), ?_⟩
  exact h2 es p B wf _ _ D (S1.write wf hm (DqAll.app r2 dz)) P
/-- .. at the end of a block -/
theorem runm_extE {T' : String} {j : Nat} {x : Addr} {ds : List D} {tr : TA} (hj : Γ[j]? = some (.ref x)) (hm : (x, ds) ∈ ms) (hT : T' = "list") (h : EvM K Mx M0 I te ms Γ Φ) (hΦ : ∀ d, Φ d → ∃ es, d = .list es ∧ ds.length + es.length ≤ 100000) (h2 : ∀ es, Φ (.list es) → Ψ (.nx Γ) (setM ms x (ds ++ es))) :
    RunM K Mx M0 I E (tDrop (tBM K T' rExtend (tVar j) (tCons te tNil))) ms Γ Ψ := fun B wf σ H D S P => by
  subst hT
  obtain ⟨vs, q1, q2⟩ := S.lst _ hm
  refine ⟨.ref x, envd_at S hj, .inl ⟨rfl, vs, SqL.of q1⟩, h B wf σ H S _ fun v d H1 p S1 e1 d1 => ?_⟩
  obtain ⟨es, rfl, hz⟩ := hΦ d p
  obtain ⟨b, zs, rfl, hb, dz⟩ := d1.lstS
  obtain ⟨ws, r1, r2⟩ := S1.lst _ hm
  refine ⟨x, b, ws, zs, rfl, rfl, r1, hide_le _ _ hb, Nat.le_trans (by rw [DqAll.len r2, DqAll.len dz]; exact hz) (by decide), ?_⟩
  exact P _ _ (h2 es p) _ _ (S1.write wf hm (DqAll.app r2 dz))

/-! ### dicts keyed by tuples of ints -/
def kvE (kv : List (Tx × D)) : List (D × D) := kv.map fun p => (T p.1, p.2)
def lkV (kv : List (Tx × D)) (t : Tx) : Option D := (kv.find? fun p => decide (p.1 = t)).map (·.2)
theorem ints_inj : ∀ {a b : Tx}, a.map PyData.int = b.map PyData.int → a = b
  | [], [], _ => rfl
  | [], _ :: _, h => by cases h
  | _ :: _, [], h => by cases h
  | x :: a, y :: b, h => by
    rw [List.map_cons, List.map_cons] at h
    injection h with h1 h2
    injection h1 with h1
    rw [h1, ints_inj h2]
theorem inl_inj : ∀ {a b : Tx}, (a.map Sum.inl : List Key) = b.map Sum.inl → a = b
  | [], [], _ => rfl
  | [], _ :: _, h => by cases h
  | _ :: _, [], h => by cases h
  | x :: a, y :: b, h => by
    rw [List.map_cons, List.map_cons] at h
    injection h with h1 h2
    injection h1 with h1
    rw [h1, inl_inj h2]
theorem kv_val {G : Hp} {t : Tx} : ∀ {kv : List (Tx × D)} {kvs : List (List Key × V)}, DqKv K G kvs (kvE kv) → (lkV kv t = none ∧ valV kvs (t.map Sum.inl) = none) ∨ ∃ v d, lkV kv t = some d ∧ valV kvs (t.map Sum.inl) = some v ∧ Dq K G v d
  | [], _, h => by
    cases h
    exact .inl ⟨rfl, rfl⟩
  | p :: kv, _, h => by
    cases h with
    | @cons ns v k d kvs es h0 h1 h2 =>
      have en : p.1 = ns := by
        have h0' : PyData.tuple (p.1.map PyData.int) = .tuple (ns.map PyData.int) := h0
        injection h0' with z
        exact ints_inj z
      subst en
      by_cases e : p.1 = t
      · refine .inr ⟨v, p.2, ?_, ?_, h1⟩
        · unfold lkV
          rw [List.find?_cons, decide_eq_true e]
          rfl
        · rw [valV_pos (p := (p.1.map Sum.inl, v)) (by rw [← e])]
      · have e1 : lkV (p :: kv) t = lkV kv t := by
          unfold lkV
          rw [List.find?_cons, decide_eq_false e]
        have e2 : valV ((p.1.map Sum.inl, v) :: kvs) (t.map Sum.inl) = valV kvs (t.map Sum.inl) := valV_neg (p := (p.1.map Sum.inl, v)) fun z => e (inl_inj z)
        rw [e1, e2]
        exact kv_val h2
theorem key_at {G : Hp} {v : V} {t : Tx} (h : Dq K G v (T t)) : ∃ b, v = .ref b ∧ G b = some (.tup ((t.map Sum.inl : List Key).map kV)) := by
  obtain ⟨b, xs, rfl, hb, dx⟩ := h.tupS
  have e := DqAll.of_ints dx
  subst e
  refine ⟨b, rfl, ?_⟩
  rw [hb, List.map_map]
  rfl
/-- a dict of such keys, locked or not -/
inductive IsDic (kv : List (Tx × D)) : D → Prop
  | free : IsDic kv (.dict (kvE kv))
  | lock : IsDic kv (.dict ((.none, .none) :: kvE kv))
theorem kv_none {G : Hp} {kvs : List (List Key × V)} {es : List (D × D)} : ¬ DqKv K G kvs ((.none, .none) :: es) := fun h => by
  cases h with
  | cons h0 _ _ => cases h0
theorem dic_at {G : Hp} {v : V} {kv : List (Tx × D)} (hd : IsDic kv d) (h : Dq K G v d) : ∃ a kvs, v = .ref a ∧ Rd G a (.dT kvs) ∧ DqKv K G kvs (kvE kv) := by
  cases hd with
  | free =>
    rcases h.dicI with ⟨a, kvs, e, h1, h2⟩ | ⟨es', e, _⟩
    · exact ⟨a, kvs, e, .inl h1, h2⟩
    · cases kv with
      | nil => cases e
      | cons p kv =>
        have e' : ((T p.1, p.2) :: kvE kv : List (D × D)) = (.none, .none) :: es' := e
        injection e' with e1 _
        injection e1 with e1 _
        cases e1
  | lock =>
    rcases h.dicI with ⟨a, kvs, e, h1, h2⟩ | ⟨es', e, a, o, kvs, e1, h1, h2⟩
    · exact absurd h2 kv_none
    · injection e with _ e
      subst e
      exact ⟨a, kvs, e1, .inr ⟨o, h1⟩, h2⟩
theorem evd_dget {kv : List (Tx × D)} {t : Tx} (hk : IsDic kv d) (ho : EvD K td Γ d) (hi : EvD K ty Γ (T t)) (h : lkV kv t = some a) : EvD K (tDGet td ty) Γ a := fun M σ H T' S Q q =>
  ho M σ H T' S _ fun x H1 e1 d1 => hi M σ H1 (T'.mono e1) (S.mono (hsame e1)) _ fun y H2 e2 d2 => by
    obtain ⟨P, kvs, rfl, h1, h2⟩ := dic_at hk (d1.mono' (hsame e2))
    obtain ⟨b, rfl, h3⟩ := key_at d2
    rcases kv_val (t := t) h2 with ⟨z, _⟩ | ⟨v, d', z, hv, dv⟩
    · rw [h] at z; cases z
    · rw [h] at z
      cases z
      refine ⟨P, v, rfl, .inr ⟨kvs, t.map Sum.inl, b, h1.imp (fun z => hide_le _ _ z) fun ⟨o, z⟩ => ⟨o, hide_le _ _ z⟩, rfl, hide_le _ _ h3, hv.symm⟩, q v H2 (e1.trans e2) dv⟩
theorem evd_dnotin {kv : List (Tx × D)} {t : Tx} (hk : IsDic kv d) (ho : EvD K td Γ d) (hi : EvD K ty Γ (T t)) : EvD K (tDNotIn ty td) Γ (.bool (!(lkV kv t).isSome)) := fun M σ H T' S Q q =>
  hi M σ H T' S _ fun y H1 e1 d1 => ho M σ H1 (T'.mono e1) (S.mono (hsame e1)) _ fun x H2 e2 d2 => by
    obtain ⟨P, kvs, rfl, h1, h2⟩ := dic_at hk d2
    obtain ⟨b, rfl, h3⟩ := key_at (d1.mono' (hsame e2))
    rcases kv_val (t := t) h2 with ⟨z, hv⟩ | ⟨v, d', z, hv, dv⟩
    · refine ⟨P, none, rfl, .inr ⟨kvs, t.map Sum.inl, b, h1.imp (fun z => hide_le _ _ z) fun ⟨o, z⟩ => ⟨o, hide_le _ _ z⟩, rfl, hide_le _ _ h3, hv.symm⟩, ?_⟩
      rw [z] at q
      exact q _ H2 (e1.trans e2) (.bl _)
    · refine ⟨P, some v, rfl, .inr ⟨kvs, t.map Sum.inl, b, h1.imp (fun z => hide_le _ _ z) fun ⟨o, z⟩ => ⟨o, hide_le _ _ z⟩, rfl, hide_le _ _ h3, hv.symm⟩, ?_⟩
      rw [z] at q
      exact q _ H2 (e1.trans e2) (.bl _)
/-! the keys -/
theorem kv_keys {G : Hp} : ∀ {kv : List (Tx × D)} {kvs : List (List Key × V)}, DqKv K G kvs (kvE kv) → kvs.map (·.1) = kv.map fun p => (p.1.map Sum.inl : List Key)
  | [], _, h => by cases h; rfl
  | p :: kv, _, h => by
    cases h with
    | @cons ns v k d kvs es h0 h1 h2 =>
      have en : p.1 = ns := by
        have h0' : PyData.tuple (p.1.map PyData.int) = .tuple (ns.map PyData.int) := h0
        injection h0' with z
        exact ints_inj z
      subst en
      rw [List.map_cons, List.map_cons, kv_keys h2]
theorem key_dp {M : List Addr} {H : Hp} {q : Addr} {t : Tx} (T' : Trk M H) (h : H q = some (.tup ((t.map Sum.inl : List Key).map kV))) : Dq K (hide M H) (.ref q) (T t) := by
  refine .tup (T'.tup h) ?_
  rw [List.map_map]
  exact DqAll.ints t
/-- for k in d, d locked -/
theorem itd_keys {kv : List (Tx × D)} (h : EvD K td Γ (.dict ((.none, .none) :: kvE kv))) : IterD K (iKeys td) Γ (kv.map fun p => T p.1) := fun M σ H T' S R q => h M σ H T' S _ fun v H1 e1 d1 => by
  rcases d1.dicI with ⟨a, kvs, e, h1, h2⟩ | ⟨es', e, a, o, kvs, rfl, h1, h2⟩
  · exact absurd h2 kv_none
  · injection e with _ e
    subst e
    have hk := kv_keys h2
    have hl : kvs.length = kv.length := by
      have := congrArg List.length hk
      rwa [List.length_map, List.length_map] at this
    refine ⟨a, o, rfl, .inr ⟨kvs, hide_le _ _ h1, q _ H1 e1 ⟨_, _, by rw [List.length_map, ← hl]; exact walk_keysT, fun M' H2 s => hide_le _ _ (s _ _ h1), fun i H2 x H2' M' hi T2 s y => ?_⟩⟩⟩
    obtain ⟨rfl, k, v, q', h3, rfl, h5⟩ := y
    refine ⟨Same.refl _, ?_⟩
    have h6 : (kvs.map (·.1))[i]? = some k := by rw [List.getElem?_map, h3]; rfl
    rw [hk, List.getElem?_map] at h6
    cases hp : kv[i]? with
    | none => rw [hp] at h6; cases h6
    | some p =>
      rw [hp] at h6
      have ek : k = p.1.map Sum.inl := (Option.some.inj h6).symm
      subst ek
      exact ⟨T p.1, by rw [List.getElem?_map, hp]; rfl, key_dp T2 h5⟩
/-- list(d) -/
def rLstK : List V → Hp → VK → Prop := fun xs H Q => ∃ d kvs, xs = [V.ref d] ∧ Rd H d (.dT kvs) ∧ ∀ p bs, H p = none → IsKeys H kvs bs → Q (.ref p) (L2.upd H p (.lst (bs.map V.ref)))
theorem call_lstK {X : Cx} (hc : X.calm = true) : CallR X (.type "list") rLstK := call_list_dT hc
theorem keys_dp {M : List Addr} {H : Hp} (T' : Trk M H) : ∀ {kv : List (Tx × D)} {kvs : List (List Key × V)} {bs : List Addr}, kvs.map (·.1) = kv.map (fun p => (p.1.map Sum.inl : List Key)) → IsKeys H kvs bs → DqAll K (hide M H) (bs.map V.ref) (kv.map fun p => T p.1)
  | [], [], _, _, .nil => .nil
  | [], _ :: _, _, h, _ => by cases h
  | _ :: _, [], _, h, _ => by cases h
  | p :: kv, e :: kvs, _, h, .cons r t => by
    rw [List.map_cons, List.map_cons] at h
    injection h with h1 h2
    refine .cons (key_dp T' ?_) (keys_dp T' h2 t)
    rw [← h1]
    exact r
theorem rlst_keys {kv : List (Tx × D)} (hk : IsDic kv d) : RCa K rLstK [d] (.list (kv.map fun p => T p.1)) := fun M H xs t dx Q q => by
  obtain ⟨v, rfl, h1⟩ := dpa1 dx
  obtain ⟨P, kvs, rfl, h2, h3⟩ := dic_at hk h1
  exact ⟨P, kvs, rfl, h2.imp (fun z => hide_le _ _ z) fun ⟨o, z⟩ => ⟨o, hide_le _ _ z⟩, fun p bs hp ks => q _ _ (same_new hp) (.lst (t.upd hp) ((keys_dp t (kv_keys h3) ks).mono' (hsame (same_new hp))))⟩
/-! an expression while the dict in slot j is locked -/
mutual
/-- no dict in it -/
def nd : D → Bool
  | .list ds => nds ds
  | .tuple ds => nds ds
  | .dict _ => false
  | _ => true
def nds : List D → Bool
  | [] => true
  | d :: ds => nd d && nds ds
end
mutual
theorem nd_dp {G G' : Hp} (h : ∀ a o, G a = some o → ((∃ xs, o = .lst xs) ∨ ∃ xs, o = .tup xs) → G' a = some o) : ∀ (d : D), nd d = true → ∀ {v : V}, Dq K G v d → Dq K G' v d
  | .none, _, _, r => by cases r; exact .non
  | .bool b, _, _, r => by cases r; exact .bl b
  | .int i, _, _, r => by cases r; exact .int i
  | .str x, _, _, r => by cases r; exact .str x
  | .dict _, l, _, _ => by cases l
  | .list ds, l, _, r => by
    cases r with
    | lst hs ha => exact .lst (h _ _ hs (.inl ⟨_, rfl⟩)) (nds_dp h ds l ha)
  | .tuple ds, l, _, r => by
    cases r with
    | tup hs ha => exact .tup (h _ _ hs (.inr ⟨_, rfl⟩)) (nds_dp h ds l ha)
theorem nds_dp {G G' : Hp} (h : ∀ a o, G a = some o → ((∃ xs, o = .lst xs) ∨ ∃ xs, o = .tup xs) → G' a = some o) : ∀ (ds : List D), nds ds = true → ∀ {vs : List V}, DqAll K G vs ds → DqAll K G' vs ds
  | [], _, _, r => by cases r; exact .nil
  | d :: ds, l, _, r => by
    cases r with
    | cons r1 r2 =>
      have l' : (nd d && nds ds) = true := l
      rw [Bool.and_eq_true] at l'
      exact .cons (nd_dp h d l'.1 r1) (nds_dp h ds l'.2 r2)
end
def ndS : Sl → Bool
  | .dat d => nd d
  | _ => true
theorem kv_nd {G G' : Hp} (h : ∀ a o, G a = some o → ((∃ xs, o = .lst xs) ∨ ∃ xs, o = .tup xs) → G' a = some o) : ∀ {kv : List (Tx × D)} {kvs : List (List Key × V)}, (kv.all fun p => nd p.2) = true → DqKv K G kvs (kvE kv) → DqKv K G' kvs (kvE kv)
  | [], _, _, r => by cases r; exact .nil
  | p :: kv, _, l, r => by
    rw [List.all_cons, Bool.and_eq_true] at l
    cases r with
    | cons h0 h1 h2 => exact .cons h0 (nd_dp h p.2 l.1 h1) (kv_nd h l.2 h2)
theorem slok_nd {G G' : Hp} (h : ∀ a o, G a = some o → ((∃ xs, o = .lst xs) ∨ ∃ xs, o = .tup xs) → G' a = some o) : ∀ {o : Option V} {s : Sl}, ndS s = true → SlOk K G o s → SlOk K G' o s
  | some v, .un, _, _ => trivial
  | none, .un, _, _ => trivial
  | some v, .dat d, l, r => nd_dp h d l r
  | some v, .ref a, _, r => r
  | none, .dat _, _, r => r
  | none, .ref _, _, r => r
theorem envd_nd {G G' : Hp} (h : ∀ a o, G a = some o → ((∃ xs, o = .lst xs) ∨ ∃ xs, o = .tup xs) → G' a = some o) {j : Nat} {s' : Sl} {v : V} (hv : SlOk K G' (some v) s') : ∀ {j : Nat} {σ : L2.St} {Γ : List Sl}, ((Γ.set j .un).all ndS) = true → EnvD K G σ Γ → σ[j]? = some (some v) → EnvD K G' σ (Γ.set j s')
  | _, _, _, _, .nil, _ => .nil
  | 0, o :: σ, s :: Γ, l, .cons r t, e => by
    have e' : o = some v := by simpa using e
    subst e'
    have l' : (Γ.all ndS) = true := by simpa [ndS] using l
    refine .cons hv ?_
    clear e r l
    induction t with
    | nil => exact .nil
    | cons r t ih =>
      rw [List.all_cons, Bool.and_eq_true] at l'
      exact .cons (slok_nd h l'.1 r) (ih l'.2)
  | j + 1, o :: σ, s :: Γ, l, .cons r t, e => by
    have l' : (ndS s && (Γ.set j .un).all ndS) = true := l
    rw [Bool.and_eq_true] at l'
    exact .cons (slok_nd h l'.1 r) (envd_nd (j := 0) h hv l'.2 t (by simpa using e))
theorem evd_lock {kv : List (Tx × D)} {j : Nat} (hj : Γ[j]? = some (.dat (.dict (kvE kv)))) (hn : ((Γ.set j .un).all ndS) = true) (hkv : (kv.all fun p => nd p.2) = true) (hd : nd d = true) (h : EvD K te (Γ.set j (.dat (.dict ((.none, .none) :: kvE kv)))) d) : EvD K (tLockE te) Γ d := fun M σ H T' S Q q => by
  obtain ⟨v, h1, h2⟩ := envd_dat S hj
  rcases h2.dicI with ⟨P, kvs, rfl, h3, h4⟩ | ⟨es', e, _⟩
  · obtain ⟨hP, nP⟩ := hide_of h3
    refine ⟨P, .dT kvs, hP, trivial, fun od => ?_⟩
    have mv : ∀ a o, hide M H a = some o → ((∃ xs, o = .lst xs) ∨ ∃ xs, o = .tup xs) → hide M (L2.upd H P (.frz od (.dT kvs))) a = some o := fun a o z w => by
      obtain ⟨z1, z2⟩ := hide_of z
      have na : a ≠ P := fun e => by
        subst e
        rw [hP] at z1
        cases z1
        rcases w with ⟨_, w⟩ | ⟨_, w⟩ <;> cases w
      rw [hide_in z2, upd_ne na]
      exact z1
    refine h M σ _ (fun m hm => ?_) (envd_nd (j := 0) (v := .ref P) (s' := .dat (.dict ((.none, .none) :: kvE kv))) mv (show Dq K _ (.ref P) (.dict ((.none, .none) :: kvE kv)) from .dcl ((hide_in nP).trans upd_same) (kv_nd mv hkv h4)) hn S h1) _ fun v H' e1 d1 => ?_
    · obtain ⟨o, z, n⟩ := T' m hm
      exact ⟨o, by rw [upd_ne (fun e : m = P => nP (e ▸ hm))]; exact z, n⟩
    · have hf : H' P = some (.frz od (.dT kvs)) := e1 _ _ upd_same
      refine ⟨hf, q v _ (fun a o z => ?_) (nd_dp (fun a o z w => ?_) d hd d1)⟩
      · by_cases e : a = P
        · subst e
          rw [hP] at z
          cases z
          exact upd_same
        · rw [upd_ne e]
          exact e1 a o (by rw [upd_ne e]; exact z)
      · obtain ⟨z1, z2⟩ := hide_of z
        have na : a ≠ P := fun e => by
          subst e
          rw [hf] at z1
          cases z1
          rcases w with ⟨_, w⟩ | ⟨_, w⟩ <;> cases w
        rw [hide_in z2, upd_ne na]
        exact z1
  · cases kv with
    | nil => cases e
    | cons p kv =>
      have e' : ((T p.1, p.2) :: kvE kv : List (D × D)) = (.none, .none) :: es' := e
      injection e' with e1 _
      injection e1 with e1 _
      cases e1
end
end CB

/-! D11 -/
set_option Elab.async false
set_option linter.all false
set_option maxRecDepth 100000
set_option maxHeartbeats 4000000
namespace CB
open PySem PySem.Spec PyProof.Rows L2
/-! ### the deal: a list of the cells and the blend -/
/-- the deal at a, its cells at b; the tables of code objects -/
abbrev Tbl := List (Addr × Str)
def Dl (Tb : Tbl) (a b : Addr) (H : Hp) : Prop := (a ≠ b ∧ ∃ (xs : Tx) (m : Int), xs.length ≤ 50 ∧ H a = some (.lst [.ref b, .int m]) ∧ H b = some (.lst (xs.map V.int))) ∧ LamX.Tabs Tb H
/-- what may change -/
abbrev Mv (Tb : Tbl) (a b : Addr) : List Addr := a :: b :: Tb.map (·.1)
def spW (K : Fg) (Tb : Tbl) (F : List D → (D → Prop) → Prop) : Sp := fun vs H Q _ => ∃ (M : List Addr) (a b : Addr) (vs' : List V) (ds : List D) (Φ : D → Prop), vs = .ref a :: vs' ∧ (∀ m ∈ Mv Tb a b, m ∈ M) ∧ Trk M H ∧ Dl Tb a b H ∧ DqAll K (hide M H) vs' ds ∧ F ds Φ ∧
  ∀ v d H', Φ d → Same (hide (Mv Tb a b) H) (hide (Mv Tb a b) H') → Dl Tb a b H' → Dq K (hide M H') v d → Q v H'
theorem tabs_nl {Tb : Tbl} {H H' : Hp} (h : ∀ b o, H b = some o → (∀ vs, o ≠ .lst vs) → H' b = some o) (t : LamX.Tabs Tb H) : LamX.Tabs Tb H' := fun p hp => by
  obtain ⟨ps, h1, h2, h3⟩ := t p hp
  refine ⟨ps, h _ _ h1 (fun _ z => by cases z), h2, fun pos cv hc => ?_⟩
  obtain ⟨c, e1, e2⟩ := h3 pos cv hc
  exact ⟨c, e1, h _ _ e2 (fun _ z => by unfold LamX.CodeO at z; cases z)⟩
def startW (N : List Str) (a : Addr) (ds : List D) : List Sl := .ref a :: (ds.map Sl.dat ++ List.replicate (N.length - (ds.length + 1)) Sl.un)
theorem hide_upd {M : List Addr} {H : Hp} {P : Addr} {o : HO} (h : P ∈ M) : hide M (L2.upd H P o) = hide M H := by
  funext a
  unfold hide
  by_cases e : a ∈ M
  · rw [if_pos e, if_pos e]
  · rw [if_neg e, if_neg e, upd_ne (fun z : a = P => e (z ▸ h))]
section
variable {P : Program} {w : World} {K : PySem.W.Frag} {mg : Str → Option Value} {base : Heap}
theorem wfW {Tb : Tbl} {a b : Addr} {M : List Addr} {H : Hp} (ha : ∀ m ∈ Mv Tb a b, m ∈ M) : Wf M (Mv Tb a b) (Dl Tb a b) [(H, Mv Tb a b)] where
  sub := ha
  bas := fun p hp m hm => by
    rw [List.mem_singleton.mp hp]; exact hm
  stb := fun H H' h hn i => by
    obtain ⟨⟨n, xs, m, hl, h1, h2⟩, ht⟩ := i
    exact ⟨⟨n, xs, m, hl, by rw [h a List.mem_cons_self]; exact h1, by rw [h b (List.mem_cons_of_mem _ List.mem_cons_self)]; exact h2⟩, tabs_nl hn ht⟩
theorem fnMW {x : Str} {st : Stmt} {N ps : List Str} {p0 : Str} {k : Nat} {Tb : Tbl} {F : List D → (D → Prop) → Prop} {dvs : List V} {f : Addr} {fd : FuncData} (Fu : FunD K x x (defArgs st) (defBody st) (defScope st) dvs [] f fd) (S : FnScope N (p0 :: ps) (defScope st))
    (hF : ∀ ds Φ, F ds Φ → ds.length = ps.length)
    (hb : ∀ (cdv : Value) (A : Around) (outer : List Env) (s : Shared) (H : Hp) (E : XK), Room k (A.deeper (envOfC x (defScope st) s.heap.objs.size f cdv)) →
      ∃ t, PSs (cxOf CX0 P w K mg base N x (defScope st) f cdv A outer s H E).nox (defBody st) t ∧ ∀ ds Φ a b Mx, F ds Φ → RunM K Mx (Mv Tb a b) (Dl Tb a b) E0 t [] (startW N a ds) (fun o _ => ∃ d, o = .rt d ∧ Φ d)) : FnOk P w K mg base (L2.CX P w) (k + 1) f fd (p0 :: ps) (spW K Tb F) := by
  refine wideF (Fu.ok S (fun vs H Q E h => ?_) (fun cdv A outer s H vs Q E hr h => ?_))
  · obtain ⟨M, a, b, vs', ds, Φ, rfl, _, _, _, dp, hf, _⟩ := h
    rw [List.length_cons, DqAll.len dp, hF ds Φ hf, List.length_cons]
  · obtain ⟨M, a, b, vs', ds, Φ, rfl, ha, T, dl, dp, hf, hq⟩ := h
    obtain ⟨t, h1, h2⟩ := hb cdv A outer s H E hr
    refine ⟨t, h1.nox, h2 ds Φ a b M hf _ (wfW (H := H) ha) _ H _ ?_ ?_⟩
    · refine ⟨fun p hp => ?_, fun p hp m hm => (by cases hm), T, fun _ h => (by cases h), List.nodup_nil, dl, ?_, fun _ h => (by cases h)⟩
      · rw [List.mem_singleton.mp hp]; exact Same.refl _
      · show EnvD K _ (L2.start N (.ref a :: vs')) (startW N a ds)
        unfold L2.start startW
        rw [List.length_cons, DqAll.len dp]
        exact .cons (show SlOk K _ (some (.ref a)) (.ref a) from rfl) (envd_start dp)
    · rintro o ms' ⟨d, rfl, hd⟩
      exact fun v H' o t i d' => hq v d H' hd (o _ List.mem_cons_self) i d'
end
section
variable {K : Fg} {Mx : List Addr} {Tb : Tbl} {a b : Addr} {E : XK} {B : Bs} {ms : Ms} {Γ Γ1 Γ2 Γ' : List Sl} {σ : L2.St} {H H' : Hp}
variable {ta tb te : TE} {t u : TS} {c : TT} {d : D} {g : TG} {k : EK} {i : Int} {Ψ Ψ' : Out → Ms → Prop} {Φ : D → Prop}
theorem Stt.deal (wf : Wf Mx (Mv Tb a b) (Dl Tb a b) B) (S : Stt K Mx (Mv Tb a b) (Dl Tb a b) B ms Γ σ H) (e : Same (hide (Mv Tb a b) H) (hide (Mv Tb a b) H')) (i : Dl Tb a b H') : Stt K Mx (Mv Tb a b) (Dl Tb a b) B ms Γ σ H' := by
  have h2 : ∀ {A : List Addr}, (∀ m ∈ Mv Tb a b, m ∈ A) → Same (hide A H) (hide A H') := fun h => hide_more h e
  have hsub : ∀ m ∈ Mv Tb a b, m ∈ hid ms Mx := fun m hm => sub_hid m (wf.sub m hm)
  refine ⟨fun p hp => (S.old p hp).trans (h2 (wf.bas p hp)), S.new, fun m hm => ?_, S.dis, S.nd, i, S.env.mono (h2 hsub), fun m hm => ?_⟩
  · by_cases hab : m ∈ Mv Tb a b
    · obtain ⟨⟨_, xs, z, _, h3, h4⟩, ht⟩ := i
      rcases List.mem_cons.mp hab with y | y
      · subst y; exact ⟨_, h3, fun _ z => by cases z⟩
      · rcases List.mem_cons.mp y with y | y
        · subst y; exact ⟨_, h4, fun _ z => by cases z⟩
        · obtain ⟨p, hp, rfl⟩ := List.mem_map.mp y
          obtain ⟨ps, h5, _⟩ := ht p hp
          exact ⟨_, h5, fun _ z => by cases z⟩
    · obtain ⟨o, q1, q2⟩ := S.trk m hm
      exact ⟨o, (hide_of (e m o ((hide_in hab).trans q1))).1, q2⟩
  · obtain ⟨vs, q1, q2⟩ := S.lst m hm
    have hab : m.1 ∉ Mv Tb a b := fun z => S.dis m hm (wf.sub _ z)
    exact ⟨vs, (hide_of (e m.1 _ ((hide_in hab).trans q1))).1, q2.mono' (h2 hsub)⟩
theorem evm_callW {F : List D → (D → Prop) → Prop} {tr : TA} {j : Nat} {Φa : List D → Prop} (hj : Γ[j]? = some (.ref a)) (ha : EvMA K Mx (Mv Tb a b) (Dl Tb a b) tr ms Γ Φa) (hF : ∀ ds, Φa ds → F ds Φ) : EvM K Mx (Mv Tb a b) (Dl Tb a b) (tCall (spW K Tb F) [] E0 (tCons (tVar j) tr)) ms Γ Φ := fun B wf σ H S Q q =>
  ⟨.ref a, envd_at S hj, ha B wf σ H S _ fun vs ds H1 p S1 e1 d1 => by
    have hsub : ∀ m ∈ Mv Tb a b, m ∈ hid ms Mx := fun m hm => sub_hid m (wf.sub m hm)
    refine ⟨hid ms Mx, a, b, vs, ds, Φ, by simp, hsub, S1.trk, S1.inv, d1, hF ds p, fun v d H' pd e inv dv => ?_⟩
    exact q v d H' pd (S1.deal wf e inv) (e1.trans (hide_more hsub e)) dv⟩
end
/-! ### comprehensions with effects -/
section
variable {K : Fg} {Mx M0 : List Addr} {I : Hp → Prop} {E : XK} {B : Bs} {ms : Ms} {Γ Γ1 Γ2 Γ' : List Sl} {σ : L2.St} {H H' : Hp}
variable {ta tb te : TE} {t u : TS} {c : TT} {d : D} {g : TG} {k : EK} {i : Int} {Ψ Ψ' : Out → Ms → Prop} {Φ : D → Prop}
def IterM (K : Fg) (Mx M0 : List Addr) (I : Hp → Prop) (wi : TI) (ms : Ms) (Γ : List Sl) (Φ : List D → Prop) : Prop :=
  ∀ (B : Bs), Wf Mx M0 I B → ∀ (σ : L2.St) (H : Hp), Stt K Mx M0 I B ms Γ σ H → ∀ R : It → Hp → Prop, (∀ J H1 ds, Φ ds → Stt K Mx M0 I B ms Γ σ H1 → Same (hide (hid ms Mx) H) (hide (hid ms Mx) H1) → WalkD K (hid ms Mx) J H1 ds → R J H1) → wi σ H R
theorem iterm_of {wi : TI} {ds : List D} (h : IterD K wi Γ ds) : IterM K Mx M0 I wi ms Γ (· = ds) := fun B wf σ H S R q => h _ σ H S.trk S.env R fun J H1 e1 w => q J H1 ds rfl (S.grow wf e1) (hsame e1) w
theorem iterm_rng1 {tr : TA} {Φa : List D → Prop} (h : EvMA K Mx M0 I tr ms Γ Φa) (hn : ∀ ds, Φa ds → ∃ n : Nat, ds = [.int n] ∧ n < 2 ^ 62) : IterM K Mx M0 I (iRng1 tr) ms Γ (fun ds => ∃ n : Nat, Φa [.int n] ∧ ds = rngD 0 n) := fun B wf σ H S R q => h B wf σ H S _ fun vs ds H1 p S1 e1 d1 => by
  obtain ⟨n, rfl, hlt⟩ := hn ds p
  cases d1 with
  | cons a1 a2 =>
    cases a2
    cases a1
    exact ⟨n, rfl, by omega, by omega, q _ H1 _ ⟨n, p, rfl⟩ S1 e1 (by
      have := walkd_rng (K := K) (M := hid ms Mx) (H1 := H1) (lo := 0) (n := n)
      exact this)⟩
theorem lc_own {wi : TI} {ws : List Nat} {Φi : List D → Prop} {R : List D → List D → Prop} (hi : IterM K Mx M0 I wi ms Γ Φi) (h0 : ∀ ds, Φi ds → R ds [])
    (step : ∀ d ds acc, R (d :: ds) acc → acc.length ≤ 100000 ∧ ∃ Γ1, GDw K g ws d (wipeG Γ ws) Γ1 ∧ ∀ x, EvM K Mx M0 I te ((x, acc) :: ms) Γ1 (fun r => R ds (acc ++ [r]))) : ∀ (B : Bs), Wf Mx M0 I B → ∀ (σ : L2.St) (H : Hp), Stt K Mx M0 I B ms Γ σ H → ∀ Q : VK, (∀ x rs H', R [] rs → Stt K Mx M0 I B ((x, rs) :: ms) Γ σ H' → Same (hide (hid ms Mx) H) (hide (hid ms Mx) H') → Q (.ref x) H') → tLc wi g tYes te ws σ H Q := fun B wf σ H S Q q =>
  hi B wf σ H S _ fun J H1 ds p S1 e1 ⟨G, Y, w, hG, hY⟩ Dl hD => by
    have S2 := S1.newL wf hD (vs := []) (ds := []) .nil
    have hM : Dl ∉ hid ms Mx := S1.trk.ne hD
    obtain ⟨wf3, S3⟩ := S2.base wf
    -- the block's slots
    have wipeS : ∀ {ms' : Ms} {H' : Hp} {B' : Bs}, Stt K Mx M0 I B' ms' Γ σ H' → Stt K Mx M0 I B' ms' (wipeG Γ ws) (wipe σ ws) H' := fun S => S.envs (envd_wipe S.env ws)
    have hid1 : Same (hide (hid ms Mx) H1) (hide (hid [(Dl, ([] : List D))] (hid ms Mx)) (L2.upd H1 Dl (.lst []))) := fun a o q => by
      obtain ⟨q1, q2⟩ := hide_of q
      have na : a ≠ Dl := ne_of_none q1 hD
      rw [hide_in (fun z => by
        rcases List.mem_cons.mp (show a ∈ Dl :: hid ms Mx from z) with z | z
        · exact na z
        · exact q2 z), upd_ne na]
      exact q1
    have since : ∀ {acc : List D} {H' : Hp}, Stt K Mx M0 I ((L2.upd H1 Dl (.lst []), ((Dl, ([] : List D)) :: ms).map (·.1) ++ M0) :: B) ((Dl, acc) :: ms) Γ σ H' → Same (hide (hid ms Mx) H1) (hide (hid ((Dl, acc) :: ms) Mx) H') := fun S' => hid1.trans (S'.since (ms1 := (Dl, []) :: ms) wf)
    refine lc_it w (fun i H' => ∃ acc, Stt K Mx M0 I ((L2.upd H1 Dl (.lst []), ((Dl, ([] : List D)) :: ms).map (·.1) ++ M0) :: B) ((Dl, acc) :: ms) Γ σ H' ∧ R (ds.drop i) acc)
      ⟨[], S3, h0 ds p⟩ (fun i H' hi ⟨acc, S', _⟩ => hG _ H' (since S')) (fun i x H' H2 hlt ⟨acc, S', r⟩ hy => ?_) (fun H' ⟨acc, S', r⟩ => ?_)
    · obtain ⟨s2, d, hdx, hx⟩ := hY i H' x H2 _ hlt S'.trk (since S') hy
      have hdr : ds.drop i = d :: ds.drop (i + 1) := by
        have h1 := List.drop_eq_getElem_cons hlt
        have h2 := (List.getElem?_eq_some_iff.mp hdx).2
        rw [h1, h2]
      rw [hdr] at r
      obtain ⟨hz, Γ1, hg, he⟩ := step d _ acc r
      have S4 := S'.grow wf3 s2
      refine hg _ x (wipe σ ws) H2 _ S4.trk hx (wipeS S4).env fun σ3 H3 e3 w3 S5 => ⟨by rw [w3, wipe_idem], ?_⟩
      have S6 := S4.grow wf3 e3
      show te σ3 H3 _
      refine he Dl _ wf3 σ3 H3 (S6.envs S5) _ fun y dy H5 hr S7 e5 d5 => ?_
      obtain ⟨vs, q1, q2⟩ := S7.lst (Dl, acc) List.mem_cons_self
      have hm : (Dl, acc) ∈ ((Dl, acc) :: ms) := List.mem_cons_self
      have S8 := S7.write wf3 hm (DqAll.app q2 (.cons d5 .nil))
      have hset : setM ((Dl, acc) :: ms) Dl (acc ++ [dy]) = (Dl, acc ++ [dy]) :: ms := by
        unfold setM
        rw [List.map_cons, if_pos rfl]
        congr 1
        have hn := (List.nodup_cons.mp (show (Dl :: ms.map (·.1)).Nodup from S7.nd)).1
        conv => rhs; rw [← List.map_id ms]
        apply List.map_congr_left
        intro m hm
        rw [if_neg (fun e : m.1 = Dl => hn (e ▸ List.mem_map_of_mem hm))]
        rfl
      rw [hset] at S8
      refine ⟨vs, q1, Nat.lt_of_le_of_lt (by rw [DqAll.len q2]; exact hz) (by decide), acc ++ [dy], S8.envs ?_, hr⟩
      have hh : Same (hide (hid ((Dl, acc) :: ms) Mx) H') (hide (hid ((Dl, acc) :: ms) Mx) H5) := (hsame (s2.trans e3)).trans e5
      have := S'.env.mono hh
      rw [← hide_upd (H := H5) (o := .lst (vs ++ [y])) (show Dl ∈ hid ((Dl, acc) :: ms) Mx from List.mem_cons_self)] at this
      exact this
    · rw [List.drop_length] at r
      have hs : Same (hide (hid ((Dl, acc) :: ms) Mx) H') (hide (hid ms Mx) H') := hide_sub fun a ha => List.mem_cons_of_mem _ ha
      exact q Dl acc H' r S'.unbase ((e1.trans (since S')).trans hs)
theorem evm_lc {wi : TI} {ws : List Nat} {Φi : List D → Prop} {R : List D → List D → Prop} (hi : IterM K Mx M0 I wi ms Γ Φi) (h0 : ∀ ds, Φi ds → R ds [])
    (step : ∀ d ds acc, R (d :: ds) acc → acc.length ≤ 100000 ∧ ∃ Γ1, GDw K g ws d (wipeG Γ ws) Γ1 ∧ ∀ x, EvM K Mx M0 I te ((x, acc) :: ms) Γ1 (fun r => R ds (acc ++ [r]))) : EvM K Mx M0 I (tLc wi g tYes te ws) ms Γ (fun d => ∃ rs, d = .list rs ∧ R [] rs) := fun B wf σ H S Q q =>
  lc_own hi h0 step B wf σ H S _ fun x rs H' r S' e => by
    obtain ⟨vs, q1, q2⟩ := S'.lst (x, rs) List.mem_cons_self
    have hs : Same (hide (hid ((x, rs) :: ms) Mx) H') (hide (hid ms Mx) H') := hide_sub fun a ha => List.mem_cons_of_mem _ ha
    have hM : x ∉ hid ms Mx := fun z => by
      rcases List.mem_append.mp z with z | z
      · exact (List.nodup_cons.mp (show (x :: ms.map (·.1)).Nodup from S'.nd)).1 z
      · exact S'.dis _ List.mem_cons_self z
    exact q _ (.list rs) H' ⟨rs, rfl, r⟩ (S'.freeze (Thw.refl Γ)) e (.lst ((hide_in hM).trans q1) (q2.mono' hs))
/-- x = [..], an own list -/
theorem runm_lcN {wi : TI} {ws : List Nat} {j : Nat} {Φi : List D → Prop} {R : List D → List D → Prop} (hi : IterM K Mx M0 I wi ms Γ Φi) (h0 : ∀ ds, Φi ds → R ds [])
    (step : ∀ d ds acc, R (d :: ds) acc → acc.length ≤ 100000 ∧ ∃ Γ1, GDw K g ws d (wipeG Γ ws) Γ1 ∧ ∀ x, EvM K Mx M0 I te ((x, acc) :: ms) Γ1 (fun r => R ds (acc ++ [r])))
    (h2 : ∀ x rs, R [] rs → RunM K Mx M0 I E u ((x, rs) :: ms) (Γ.set j (.ref x)) Ψ) : RunM K Mx M0 I E (tSeq (tAsg (tLc wi g tYes te ws) (gName j)) u) ms Γ Ψ := fun B wf σ H D S P =>
  lc_own hi h0 step B wf σ H S (fun v H1 => gName j v σ H1 (u D)) fun x rs H' r S' _ => h2 x rs r B wf _ H' D S'.setR P
theorem runm_lcE {wi : TI} {ws : List Nat} {j : Nat} {Φi : List D → Prop} {R : List D → List D → Prop} (hi : IterM K Mx M0 I wi ms Γ Φi) (h0 : ∀ ds, Φi ds → R ds [])
    (step : ∀ d ds acc, R (d :: ds) acc → acc.length ≤ 100000 ∧ ∃ Γ1, GDw K g ws d (wipeG Γ ws) Γ1 ∧ ∀ x, EvM K Mx M0 I te ((x, acc) :: ms) Γ1 (fun r => R ds (acc ++ [r])))
    (h2 : ∀ x rs, R [] rs → Ψ (.nx (Γ.set j (.ref x))) ((x, rs) :: ms)) : RunM K Mx M0 I E (tAsg (tLc wi g tYes te ws) (gName j)) ms Γ Ψ := fun B wf σ H D S P =>
  lc_own hi h0 step B wf σ H S _ fun x rs H' r S' _ => P _ _ (h2 x rs r) _ H' S'.setR
/-- a, b = x, y with effects -/
theorem runm_parM {i j : Nat} {ta : TA} {Φa : List D → Prop} (h : EvMA K Mx M0 I ta ms Γ Φa) (h2 : ∀ ds, Φa ds → ∃ d e, ds = [d, e] ∧ RunM K Mx M0 I E u ms ((Γ.set i (.dat d)).set j (.dat e)) Ψ) : RunM K Mx M0 I E (tSeq (tPar i j ta) u) ms Γ Ψ := fun B wf σ H D S P =>
  h B wf σ H S _ fun vs ds H1 p S1 e1 d1 => by
    obtain ⟨d, e, rfl, hr⟩ := h2 ds p
    obtain ⟨v, w, rfl, dv, dw⟩ := dpa2 d1
    exact ⟨v, w, rfl, hr B wf _ H1 D (S1.envs (envd_set (o := some w) (s := .dat e) dw j (envd_set (o := some v) (s := .dat d) dv i S1.env))) P⟩
theorem runm_asgT (h : EvM K Mx M0 I te ms Γ Φ) (h2 : ∀ d, Φ d → ∃ Γ1, GD K g d Γ Γ1 ∧ RunM K Mx M0 I E u ms Γ1 Ψ) : RunM K Mx M0 I E (tSeq (tAsg te g) u) ms Γ Ψ := fun B wf σ H D S P =>
  h B wf σ H S _ fun v d H1 p S1 e1 d1 => by
    obtain ⟨Γ1, hg, hr⟩ := h2 d p
    exact hg _ v σ H1 _ S1.trk d1 S1.env fun σ' H' e S' => hr B wf σ' H' D ((S1.grow wf e).envs S') P
/-- a test with effects -/
theorem runm_ifM (h : EvM K Mx M0 I te ms Γ (fun d => ∃ bb, d = .bool bb)) (h1 : RunM K Mx M0 I E t ms Γ Ψ) (h2 : RunM K Mx M0 I E u ms Γ Ψ) : RunM K Mx M0 I E (tIfS (tTest te) t u) ms Γ Ψ := fun B wf σ H D S P =>
  h B wf σ H S _ fun v d H1 p S1 e1 d1 => by
    obtain ⟨bb, rfl⟩ := p
    refine ⟨bb, d1.blI, ?_⟩
    cases bb with
    | true => exact h1 B wf σ H1 D S1 P
    | false => exact h2 B wf σ H1 D S1 P
end
end CB

/-! W2 -/
set_option Elab.async false
set_option linter.all false
set_option maxRecDepth 100000
set_option maxHeartbeats 4000000
namespace CB
open PySem PySem.Spec PyProof.Rows L2
/-! ### plain words -/
def isInt (d : D) : Bool := isTy "int" d && !isTy "bool" d
theorem isInt_iff : ∀ {d : D}, isInt d = true → ∃ i, d = .int i
  | .int i, _ => ⟨i, rfl⟩
  | .none, h => by cases h
  | .bool _, h => by cases h
  | .str _, h => by cases h
  | .list _, h => by cases h
  | .tuple _, h => by cases h
  | .dict _, h => by cases h
@[simp] theorem isInt_int {i : Int} : isInt (.int i) = true := rfl
def isNum : D → Bool
  | .int i => decide (0 ≤ i)
  | _ => false
theorem isNum_eq (d : D) : isNum d = (isInt d && isNum d) := by cases d <;> first | rfl | (simp [isNum, isInt_int])
def isBelow (d : D) (n : Int) : Bool := match d with
  | .int i => decide (0 ≤ i) && decide (i < n)
  | _ => false
def isLet (d : D) : Bool := isBelow d 100
def seqOf : D → Option (List D)
  | .list ds => some ds
  | .tuple ds => some ds
  | _ => none
theorem isSeq_iff (d : D) : isSeq d = (seqOf d).isSome := by cases d <;> rfl
def isTextB (d : D) : Bool := match seqOf d with
  | some ds => ds.all isLet
  | none => false
def intOf : D → Int
  | .int i => i
  | _ => 0
def txOf (d : D) : Tx := match seqOf d with
  | some ds => ds.map intOf
  | none => []
theorem let_int {d : D} (h : isLet d = true) : d = .int (intOf d) := by
  cases d <;> first | rfl | cases h
theorem lets_ints : ∀ {ds : List D}, ds.all isLet = true → ds = (ds.map intOf).map PyData.int
  | [], _ => rfl
  | d :: ds, h => by
    rw [List.all_cons, Bool.and_eq_true] at h
    rw [List.map_cons, List.map_cons, ← let_int h.1, ← lets_ints h.2]
theorem tx_of {d : D} {ds : List D} (hs : seqOf d = some ds) (h : isTextB d = true) : .tuple ds = T (txOf d) := by
  unfold isTextB at h
  rw [hs] at h
  unfold T txOf
  rw [hs, ← lets_ints h]
/-- lengths -/
def lenD (d : D) : Nat := match seqOf d with
  | some ds => ds.length
  | none => 0
/-- the first that is no text -/
def badAt : List D → Nat → Option Nat
  | [], _ => none
  | d :: ds, n => if isTextB d then badAt ds (n + 1) else some n
def needV (d : D) : Res := match seqOf d with
  | none => .er .versions (-1)
  | some [] => .er .versions (-1)
  | some ds => match badAt ds 0 with
    | some n => .er .versions n
    | none => .ok (.tuple (ds.map fun d => T (txOf d)))
def needT (d : D) (i : Int) : Res := if isTextB d then .ok (T (txOf d)) else .er .text i

/-! ### more rules -/
theorem pe_many {X : Cx} {p : Pos} (B : Bl X.mg) (hg : Gl X "MANY_LETTERS" := by rfl) : PE X (.Name "MANY_LETTERS" p) (tC (.int 100)) := by
  obtain ⟨t, h⟩ := B.letters
  exact ⟨fun pins s σ H Q I q => ld_glob I hg h ⟨.int 100, H, I, ⟨t, rfl⟩, q⟩⟩
section
variable {K : Fg} {Γ : List Sl} {te : TE}
theorem evt_yes : EvT K tYes Γ true := fun M σ H T E Q q => q H (Same.refl H)
theorem itd_seq {d : D} {ds : List D} (h : EvD K te Γ d) (hs : seqOf d = some ds) : IterD K (iSeq K te) Γ ds := by
  cases d <;> first | (cases hs; exact itd_seqL h) | (cases hs; exact itd_seqT h) | (cases hs)
theorem itd_enum {d : D} {ds : List D} (h : EvD K te Γ d) (hs : seqOf d = some ds) : IterD K (iEnumS K (tCons te tNil)) Γ (enumD ds) := by
  cases d <;> first | (cases hs; exact itd_enumL (eva_cons h eva_nil)) | (cases hs; exact itd_enumT (eva_cons h eva_nil)) | (cases hs)
theorem rlen_seq {d : D} {ds : List D} (hs : seqOf d = some ds) : RCa K (rLenA K) [d] (.int ds.length) := by
  cases d <;> first | (cases hs; exact rlen_lst) | (cases hs; exact rlen_tup) | (cases hs)
theorem rtup_seq {d : D} {ds : List D} (hs : seqOf d = some ds) : RCa K (rTupA K) [d] (.tuple ds) := by
  cases d <;> first | (cases hs; exact rtup_lst) | (cases hs; exact rtup_tup) | (cases hs)
end
variable {P : Program} {w : World} {K : PySem.W.Frag} {mg : Str → Option Value} {base : Heap}

/-! ### is_integer .. is_text -/
def F_is_integer (ds : List D) (r : Res) : Prop := ∃ d, ds = [d] ∧ r = .ok (.bool (isInt d))
def F_is_number (ds : List D) (r : Res) : Prop := ∃ d, ds = [d] ∧ r = .ok (.bool (isNum d))
def F_is_below (ds : List D) (r : Res) : Prop := ∃ d n, ds = [d, .int n] ∧ r = .ok (.bool (isBelow d n))
def F_is_string (ds : List D) (r : Res) : Prop := ∃ d, ds = [d] ∧ r = .ok (.bool (isTy "str" d))
def F_is_sequence (ds : List D) (r : Res) : Prop := ∃ d, ds = [d] ∧ r = .ok (.bool (isSeq d))
def F_is_letter (ds : List D) (r : Res) : Prop := ∃ d, ds = [d] ∧ r = .ok (.bool (isLet d))
def F_is_text (ds : List D) (r : Res) : Prop := ∃ d, ds = [d] ∧ lenD d ≤ 100000 ∧ r = .ok (.bool (isTextB d))
def F_need_text (ds : List D) (r : Res) : Prop := ∃ d i, ds = [d, .int i] ∧ lenD d ≤ 100000 ∧ r = needT d i
def F_need_versions (ds : List D) (r : Res) : Prop := ∃ d, ds = [d] ∧ lenD d ≤ 1000 ∧ (∀ es, seqOf d = some es → ∀ e ∈ es, lenD e ≤ 100000) ∧ r = needV d
theorem sc_is_integer : FnScope ["value"] ["value"] (defScope s_is_integer) := ⟨rfl, rfl, rfl, by decide +kernel, rfl, by decide +kernel, by decide +kernel⟩
theorem sc_is_number : FnScope ["value"] ["value"] (defScope s_is_number) := ⟨rfl, rfl, rfl, by decide +kernel, rfl, by decide +kernel, by decide +kernel⟩
theorem sc_is_below : FnScope ["value", "many"] ["value", "many"] (defScope s_is_below) := ⟨rfl, rfl, rfl, by decide +kernel, rfl, by decide +kernel, by decide +kernel⟩
theorem sc_is_string : FnScope ["value"] ["value"] (defScope s_is_string) := ⟨rfl, rfl, rfl, by decide +kernel, rfl, by decide +kernel, by decide +kernel⟩
theorem sc_is_sequence : FnScope ["value"] ["value"] (defScope s_is_sequence) := ⟨rfl, rfl, rfl, by decide +kernel, rfl, by decide +kernel, by decide +kernel⟩
theorem sc_is_letter : FnScope ["value"] ["value"] (defScope s_is_letter) := ⟨rfl, rfl, rfl, by decide +kernel, rfl, by decide +kernel, by decide +kernel⟩
theorem sc_is_text : FnScope ["value", "one"] ["value"] (defScope s_is_text) := ⟨rfl, rfl, rfl, by decide +kernel, rfl, by decide +kernel, by decide +kernel⟩
theorem sc_need_text : FnScope ["value", "at"] ["value", "at"] (defScope s_need_text) := ⟨rfl, rfl, rfl, by decide +kernel, rfl, by decide +kernel, by decide +kernel⟩
theorem sc_need_versions : FnScope ["value", "at", "text"] ["value"] (defScope s_need_versions) := ⟨rfl, rfl, rfl, by decide +kernel, rfl, by decide +kernel, by decide +kernel⟩
theorem ok_is_integer {fd : FuncData} (Fu : FnP K "is_integer" s_is_integer [] fd) (B : Bl mg)   : FnOk P w K mg base (L2.CX P w) 1 (He.ga K "is_integer") fd ["value"] (spD K F_is_integer) := by
  refine fnD Fu sc_is_integer (fun ds r ⟨d, h, e⟩ => ⟨by rw [h]; rfl, _, e⟩) fun cdv A outer s H E hr => ⟨_, (pss_one (ps_ret (pe_and (pe_callB (id := "isinstance") (r := rIsi K) call_isi rfl B.isinstance (by decide +kernel) (pa_cons (pv 0) (pa_cons (pe_bltn (v := .ty "int") rfl B.int (by decide +kernel) rfl) pa_nil))) (pe_one (pe_not (pe_callB (id := "isinstance") (r := rIsi K) call_isi rfl B.isinstance (by decide +kernel) (pa_cons (pv 0) (pa_cons (pe_bltn (v := .ty "bool") rfl B.bool (by decide +kernel) rfl) pa_nil)))))))), fun ds d ⟨v, h, e⟩ => ?_⟩
  subst h
  cases e
  exact run_ret (evd_andV (evd_isi kit_int (evd_var rfl)) fun _ => evd_notV (evd_isi kit_bool (evd_var rfl)))
theorem ok_is_number {fd : FuncData} (Fu : FnP K "is_number" s_is_number [] fd) (B : Bl mg)  (h_is_integer : HasF P w K mg base 1 "is_integer" ["value"] [] (spD K F_is_integer)) : FnOk P w K mg base (L2.CX P w) 2 (He.ga K "is_number") fd ["value"] (spD K F_is_number) := by
  refine fnD Fu sc_is_number (fun ds r ⟨d, h, e⟩ => ⟨by rw [h]; rfl, _, e⟩) fun cdv A outer s H E hr => ⟨_, (pss_one (ps_ret (pe_and (pe_f h_is_integer (hr.mono (by decide)) (pa_cons (pv 0) pa_nil)) (pe_one (pe_cmpR op_ge (pv 0) pe_int (nomark _)))))), fun ds d ⟨v, h, e⟩ => ?_⟩
  subst h
  cases e
  rw [isNum_eq]
  exact run_ret (evd_andV (evd_call0 (eva_cons (evd_var rfl) eva_nil) ⟨v, rfl, rfl⟩) fun hb => by
    obtain ⟨i, rfl⟩ := isInt_iff hb
    exact evd_op (evd_var rfl) evd_int rop_B0)
theorem ok_is_below {fd : FuncData} (Fu : FnP K "is_below" s_is_below [] fd) (B : Bl mg)  (h_is_number : HasF P w K mg base 2 "is_number" ["value"] [] (spD K F_is_number)) : FnOk P w K mg base (L2.CX P w) 3 (He.ga K "is_below") fd ["value", "many"] (spD K F_is_below) := by
  refine fnD Fu sc_is_below (fun ds r ⟨d, n, h, e⟩ => ⟨by rw [h]; rfl, _, e⟩) fun cdv A outer s H E hr => ⟨_, (pss_one (ps_ret (pe_and (pe_f h_is_number (hr.mono (by decide)) (pa_cons (pv 0) pa_nil)) (pe_one (pe_cmpR op_lt (pv 0) (pv 1) (nomark _)))))), fun ds d ⟨v, n, h, e⟩ => ?_⟩
  subst h
  cases e
  have e1 : isBelow v n = (isNum v && decide (intOf v < n)) := by cases v <;> rfl
  rw [e1]
  exact run_ret (evd_andV (evd_call0 (eva_cons (evd_var rfl) eva_nil) ⟨v, rfl, rfl⟩) fun hb => by
    obtain ⟨i, rfl⟩ := isInt_iff (by rw [isNum_eq, Bool.and_eq_true] at hb; exact hb.1)
    exact evd_op (evd_var rfl) (evd_var rfl) rop_B0)
theorem ok_is_string {fd : FuncData} (Fu : FnP K "is_string" s_is_string [] fd) (B : Bl mg)   : FnOk P w K mg base (L2.CX P w) 1 (He.ga K "is_string") fd ["value"] (spD K F_is_string) := by
  refine fnD Fu sc_is_string (fun ds r ⟨d, h, e⟩ => ⟨by rw [h]; rfl, _, e⟩) fun cdv A outer s H E hr => ⟨_, (pss_one (ps_ret (pe_callB (id := "isinstance") (r := rIsi K) call_isi rfl B.isinstance (by decide +kernel) (pa_cons (pv 0) (pa_cons (pe_bltn (v := .ty "str") rfl B.str (by decide +kernel) rfl) pa_nil))))), fun ds d ⟨v, h, e⟩ => ?_⟩
  subst h
  cases e
  exact run_ret (evd_isi kit_str (evd_var rfl))
theorem ok_is_sequence {fd : FuncData} (Fu : FnP K "is_sequence" s_is_sequence [] fd) (B : Bl mg)   : FnOk P w K mg base (L2.CX P w) 1 (He.ga K "is_sequence") fd ["value"] (spD K F_is_sequence) := by
  refine fnD Fu sc_is_sequence (fun ds r ⟨d, h, e⟩ => ⟨by rw [h]; rfl, _, e⟩) fun cdv A outer s H E hr => ⟨_, (pss_one (ps_ret (pe_callB (id := "isinstance") (r := rIsiT K) call_isiT rfl B.isinstance (by decide +kernel) (pa_cons (pv 0) (pa_cons (pe_tup (pa_cons (pe_bltn (v := .ty "list") rfl B.list (by decide +kernel) rfl) (pa_cons (pe_bltn (v := .ty "tuple") rfl B.tuple (by decide +kernel) rfl) pa_nil))) pa_nil))))), fun ds d ⟨v, h, e⟩ => ?_⟩
  subst h
  cases e
  exact run_ret (evd_isq (evd_var rfl))
theorem ok_is_letter {fd : FuncData} (Fu : FnP K "is_letter" s_is_letter [] fd) (B : Bl mg)  (h_is_below : HasF P w K mg base 3 "is_below" ["value", "many"] [] (spD K F_is_below)) : FnOk P w K mg base (L2.CX P w) 4 (He.ga K "is_letter") fd ["value"] (spD K F_is_letter) := by
  refine fnD Fu sc_is_letter (fun ds r ⟨d, h, e⟩ => ⟨by rw [h]; rfl, _, e⟩) fun cdv A outer s H E hr => ⟨_, (pss_one (ps_ret (pe_f h_is_below (hr.mono (by decide)) (pa_cons (pv 0) (pa_cons (pe_many B) pa_nil))))), fun ds d ⟨v, h, e⟩ => ?_⟩
  subst h
  cases e
  exact run_ret (evd_call0 (eva_cons (evd_var rfl) (eva_cons evd_int eva_nil)) ⟨v, 100, rfl, rfl⟩)
theorem ok_is_text {fd : FuncData} (Fu : FnP K "is_text" s_is_text [] fd) (B : Bl mg)  (h_is_letter : HasF P w K mg base 4 "is_letter" ["value"] [] (spD K F_is_letter)) (h_is_sequence : HasF P w K mg base 1 "is_sequence" ["value"] [] (spD K F_is_sequence)) : FnOk P w K mg base (L2.CX P w) 5 (He.ga K "is_text") fd ["value"] (spD K F_is_text) := by
  refine fnD Fu sc_is_text (fun ds r ⟨d, h, _, e⟩ => ⟨by rw [h]; rfl, _, e⟩) fun cdv A outer s H E hr => ⟨_, (pss_one (ps_ret (pe_and (pe_f h_is_sequence (hr.mono (by decide)) (pa_cons (pv 0) pa_nil)) (pe_one (pe_callB (id := "all") (r := rAll K) (cr_all rfl) rfl B.all (by decide +kernel) (pa_cons (pe_lc (own := [("one", 1)]) rfl sc_is_text.nd (pi_seq (pv 0)) (blkOk_by (N := ["value", "one"]) (sc := defScope s_is_text) (by decide +kernel)) (fun _ _ _ _ _ => (pg_name (i := 1) sc_is_text.nd rfl (Or.inl rfl))) (fun _ _ _ _ _ => pts_nil) (fun _ _ _ _ _ => (pe_f h_is_letter (hr.mono (by decide)) (pa_cons (pv 1) pa_nil)))) pa_nil)))))), fun ds d ⟨v, h, hl, e⟩ => ?_⟩
  subst h
  cases e
  have e1 : isTextB v = (isSeq v && isTextB v) := by cases v <;> rfl
  rw [e1]
  refine run_ret (evd_andV (evd_call0 (eva_cons (evd_var rfl) eva_nil) ⟨v, rfl, rfl⟩) fun hb => ?_)
  rw [isSeq_iff] at hb
  obtain ⟨es, hes⟩ := Option.isSome_iff_exists.mp hb
  have hl' : es.length ≤ 100000 := by unfold lenD at hl; rw [hes] at hl; exact hl
  have cmp : ∀ es : List D, Cmp K (gName 1) tYes (tCall (spD K F_is_letter) [] E0 (tCons (tVar 1) tNil)) [1] [.dat v, .un] es (es.map fun d => .bool (isLet d)) := by
    intro es
    induction es with
    | nil => exact .nil
    | cons d es ih => exact .yes gdw_name evt_yes (evd_call0 (eva_cons (evd_var rfl) eva_nil) ⟨d, rfl, rfl⟩) ih
  have e2 : isTextB v = (es.map isLet).all id := by
    unfold isTextB
    rw [hes, List.all_map]
    rfl
  rw [e2]
  have e3 : es.map (fun d => PyData.bool (isLet d)) = (es.map isLet).map PyData.bool := by rw [List.map_map]; rfl
  have cm := cmp es
  rw [e3] at cm
  exact evd_cb (eva_cons (evd_lc (itd_seq (evd_var rfl) hes) cm hl') eva_nil) rall
theorem ok_need_text {fd : FuncData} (Fu : FnP K "need_text" s_need_text [.int (-1)] fd) (B : Bl mg) (e_text : ErT P K mg .text) (h_is_text : HasF P w K mg base 5 "is_text" ["value"] [] (spD K F_is_text)) : FnOk P w K mg base (L2.CX P w) 6 (He.ga K "need_text") fd ["value", "at"] (spD K F_need_text) := by
  refine fnX Fu sc_need_text (fun ds r ⟨d, i, h, _, e⟩ => by rw [h]; rfl) fun cdv A outer s H E hr tk hx hpo => ⟨_, (pss_cons (ps_if (pt_not (pt_val (pe_f h_is_text (hr.mono (by decide)) (pa_cons (pv 0) pa_nil)))) (pss_one (ps_raiseI (j := 0) e_text (hr.mono (by decide)) tk (pa_cons (pv 1) pa_nil))) pss_nil)
      (pss_one (ps_ret (pe_callTy (T := "tuple") (r := rTupA K) call_tupA rfl B.tuple (by decide +kernel) (pa_cons (pv 0) pa_nil))))), fun ds r ⟨v, i, h, hl, e⟩ => ?_⟩
  subst h e
  have ht : EvT K (tNot (tB (tCall (spD K F_is_text) [] E0 (tCons (tVar 0) tNil)))) [.dat v, .dat (.int i)] (!isTextB v) := evt_not (evt_B (evd_call0 (eva_cons (evd_var rfl) eva_nil) ⟨v, rfl, hl, rfl⟩))
  unfold needT
  cases hb : isTextB v with
  | false =>
    rw [hb] at ht
    exact run_er (run_ifT ht (run_raise (eva_cons (evd_var rfl) eva_nil)))
  | true =>
    rw [hb] at ht
    obtain ⟨es, hes⟩ : ∃ es, seqOf v = some es := by
      unfold isTextB at hb
      cases q : seqOf v with
      | none => rw [q] at hb; cases hb
      | some es => exact ⟨es, rfl⟩
    refine run_nx (run_ifF ht run_next) (run_ret ?_)
    show EvD K _ _ (T (txOf v))
    rw [← tx_of hes hb]
    exact evd_cb (eva_cons (evd_var rfl) eva_nil) (rtup_seq hes)
theorem ok_need_versions {fd : FuncData} (Fu : FnP K "need_versions" s_need_versions [] fd) (B : Bl mg) (e_versions : ErT P K mg .versions) (h_is_sequence : HasF P w K mg base 1 "is_sequence" ["value"] [] (spD K F_is_sequence)) (h_is_text : HasF P w K mg base 5 "is_text" ["value"] [] (spD K F_is_text)) : FnOk P w K mg base (L2.CX P w) 6 (He.ga K "need_versions") fd ["value"] (spD K F_need_versions) := by
  refine fnX Fu sc_need_versions (fun ds r ⟨d, h, _, _, e⟩ => by rw [h]; rfl) fun cdv A outer s H E hr tk hx hpo => ⟨_, (pss_cons (ps_if (PW.pt (pw_or (pt_not (pt_val (pe_f h_is_sequence (hr.mono (by decide)) (pa_cons (pv 0) pa_nil)))) (pw_or1 (pt_cmpR (r := rEqD K) (op_eqD hr.units) (pe_callB (id := "len") (r := rLenA K) call_lenA rfl B.len boot_len (pa_cons (pv 0) pa_nil)) pe_int (nomark _))))) (pss_one (ps_raiseI (j := 0) e_versions (hr.mono (by decide)) tk (pa_cons (pe_un un_neg pe_int) pa_nil))) pss_nil)
      (pss_cons (ps_for hpo rfl (pi_enumS rfl B.enumerate (pa_cons (pv 0) pa_nil)) (pg_tup rfl (pgs_cons (pg_name (i := 1) sc_need_versions.nd rfl (Or.inl rfl)) (pgs_cons (pg_name (i := 2) sc_need_versions.nd rfl (Or.inl rfl)) pgs_nil)))
      (pss_one (ps_if (pt_not (pt_val (pe_f h_is_text (hr.mono (by decide)) (pa_cons (pv 2) pa_nil)))) (pss_one (ps_raiseI (j := 0) e_versions (hr.mono (by decide)) tk (pa_cons (pv 1) pa_nil))) pss_nil)))
      (pss_one (ps_ret (pe_callTy (T := "tuple") (r := rTupA K) call_tupA rfl B.tuple (by decide +kernel) (pa_cons (pe_lc (own := [("text", 2)]) rfl sc_need_versions.nd (pi_seq (pv 0)) (blkOk_by (N := ["value", "at", "text"]) (sc := defScope s_need_versions) (by decide +kernel)) (fun _ _ _ _ _ => (pg_name (i := 2) sc_need_versions.nd rfl (Or.inl rfl))) (fun _ _ _ _ _ => pts_nil) (fun _ _ _ _ _ => (pe_callTy (T := "tuple") (r := rTupA K) call_tupA rfl B.tuple (by decide +kernel) (pa_cons (pv 2) pa_nil)))) pa_nil)))))), fun ds r ⟨v, h, hl, hle, e⟩ => ?_⟩
  subst h e
  have hq : EvT K (tNot (tB (tCall (spD K F_is_sequence) [] E0 (tCons (tVar 0) tNil)))) [.dat v, .un, .un] (!isSeq v) := evt_not (evt_B (evd_call0 (eva_cons (evd_var rfl) eva_nil) ⟨v, rfl, rfl⟩))
  cases hs : seqOf v with
  | none =>
    have e1 : needV v = .er .versions (-1) := by unfold needV; rw [hs]
    have e2 : isSeq v = false := by rw [isSeq_iff, hs]; rfl
    rw [e1]
    rw [e2] at hq
    exact run_er (run_ifT (evt_is (evt_or hq (c := true) fun z => by cases z) rfl) (run_raise (eva_cons (evd_un evd_int run_neg) eva_nil)))
  | some es =>
    have e2 : isSeq v = true := by rw [isSeq_iff, hs]; rfl
    rw [e2] at hq
    have hlen : es.length ≤ 1000 := by unfold lenD at hl; rw [hs] at hl; exact hl
    have ht : EvT K (tOr (tNot (tB (tCall (spD K F_is_sequence) [] E0 (tCons (tVar 0) tNil)))) (tTest (tOp (rEqD K) (tCB (rLenA K) (tCons (tVar 0) tNil)) (tC (.int 0))))) [.dat v, .un, .un] (decide ((es.length : Int) = 0)) :=
      evt_or hq fun _ => evt_test (evd_op (evd_cb (eva_cons (evd_var rfl) eva_nil) (rlen_seq hs)) evd_int req_int)
    cases es with
    | nil =>
      have e1 : needV v = .er .versions (-1) := by unfold needV; rw [hs]
      rw [e1]
      exact run_er (run_ifT (evt_is ht rfl) (run_raise (eva_cons (evd_un evd_int run_neg) eva_nil)))
    | cons d0 es0 =>
      refine run_nx (run_ifF (evt_is ht (by simp; omega)) run_next) ?_
      have hne : d0 :: es0 ≠ [] := by simp
      generalize d0 :: es0 = es at hs hlen hle ht hne
      have loop : ∀ (ds : List D) (n : Nat) (a b : Sl), (∀ e ∈ ds, lenD e ≤ 100000) → ∃ a' b',
          Loop K E (gTup K 2 (gCons (gName 1) (gCons (gName 2) gNil))) (tIfS (tNot (tB (tCall (spD K F_is_text) [] E0 (tCons (tVar 2) tNil)))) (fun _ σ H => tMkE (eka K .versions) (tCons (tVar 1) tNil) σ H fun cls d H' => E cls d H') tNext)
            (enumF n ds) [.dat v, a, b] (match badAt ds n with | some m => .er .versions m | none => .nx [.dat v, a', b']) := by
        intro ds
        induction ds with
        | nil => exact fun n a b _ => ⟨a, b, .nil⟩
        | cons d ds ih =>
          intro n a b hl
          have hg : GD K (gTup K 2 (gCons (gName 1) (gCons (gName 2) gNil))) (.tuple [.int (n : Nat), d]) [.dat v, a, b] [.dat v, .dat (.int n), .dat d] := gd_tup (gds_cons gd_name (gds_cons gd_name gds_nil))
          have hc : EvT K (tNot (tB (tCall (spD K F_is_text) [] E0 (tCons (tVar 2) tNil)))) [.dat v, .dat (.int n), .dat d] (!isTextB d) := evt_not (evt_B (evd_call0 (eva_cons (evd_var rfl) eva_nil) ⟨d, rfl, hl d List.mem_cons_self, rfl⟩))
          obtain ⟨a', b', h⟩ := ih (n + 1) (.dat (.int n)) (.dat d) fun e he => hl e (List.mem_cons_of_mem _ he)
          refine ⟨a', b', ?_⟩
          unfold badAt
          cases hb : isTextB d with
          | true =>
            rw [hb] at hc
            exact .nx hg (run_ifF hc run_next) h
          | false =>
            rw [hb] at hc
            exact .er hg (run_ifT hc (run_raise (eva_cons (evd_var rfl) eva_nil)))
      obtain ⟨a', b', L⟩ := loop es 0 .un .un fun e he => hle es hs e he
      have e1 : needV v = match badAt es 0 with | some n => .er .versions n | none => .ok (.tuple (es.map fun d => T (txOf d))) := by
        unfold needV
        rw [hs]
        cases es with
        | nil => exact absurd rfl hne
        | cons d0 es0 => rfl
      rw [e1]
      have it := run_for (E := E) (o := match badAt es 0 with | some m => .er .versions m | none => .nx [.dat v, a', b']) (itd_enum (K := K) (Γ := [.dat v, .un, .un]) (te := tVar 0) (evd_var rfl) hs) (by rw [enumD_eq]; exact L)
      cases hb : badAt es 0 with
      | some m =>
        rw [hb] at it
        exact run_er it
      | none =>
        rw [hb] at it
        refine run_nx it (run_ret ?_)
        have allT : ∀ (ds : List D) (n : Nat), badAt ds n = none → ds.all isTextB = true := by
          intro ds
          induction ds with
          | nil => exact fun _ _ => rfl
          | cons d ds ih =>
            intro n h
            unfold badAt at h
            cases hd : isTextB d with
            | true =>
              rw [hd, if_pos rfl] at h
              rw [List.all_cons, hd, ih _ h]; rfl
            | false => rw [hd] at h; cases h
        have cmp : ∀ ds : List D, ds.all isTextB = true → Cmp K (gName 2) tYes (tCB (rTupA K) (tCons (tVar 2) tNil)) [2] [.dat v, a', .un] ds (ds.map fun d => T (txOf d)) := by
          intro ds
          induction ds with
          | nil => exact fun _ => .nil
          | cons d ds ih =>
            intro h
            rw [List.all_cons, Bool.and_eq_true] at h
            obtain ⟨xs, hxs⟩ : ∃ xs, seqOf d = some xs := by
              have h1 := h.1
              unfold isTextB at h1
              cases q : seqOf d with
              | none => rw [q] at h1; cases h1
              | some xs => exact ⟨xs, rfl⟩
            refine .yes gdw_name evt_yes ?_ (ih h.2)
            show EvD K _ _ (T (txOf d))
            rw [← tx_of hxs h.1]
            exact evd_cb (eva_cons (evd_var rfl) eva_nil) (rtup_seq hxs)
        exact evd_cb (eva_cons (evd_lc (itd_seq (evd_var rfl) hs) (cmp es (allT es 0 hb)) (Nat.le_trans hlen (by decide))) eva_nil) rtup_lst
end CB

/-! W3 -/
set_option Elab.async false
set_option linter.all false
set_option maxRecDepth 100000
set_option maxHeartbeats 4000000
namespace CB
open PySem PySem.Spec PyProof.Rows L2
/-- the longest common beginning -/
def lcp : Tx → Tx → Nat
  | a :: as, b :: bs => if a = b then lcp as bs + 1 else 0
  | _, _ => 0
theorem lcp_le1 : ∀ a b : Tx, lcp a b ≤ a.length
  | [], _ => Nat.zero_le _
  | _ :: _, [] => Nat.zero_le _
  | a :: as, b :: bs => by
    unfold lcp
    by_cases h : a = b
    · rw [if_pos h]; exact Nat.succ_le_succ (lcp_le1 as bs)
    · rw [if_neg h]; exact Nat.zero_le _
theorem lcp_le2 : ∀ a b : Tx, lcp a b ≤ b.length
  | [], _ => Nat.zero_le _
  | _ :: _, [] => Nat.zero_le _
  | a :: as, b :: bs => by
    unfold lcp
    by_cases h : a = b
    · rw [if_pos h]; exact Nat.succ_le_succ (lcp_le2 as bs)
    · rw [if_neg h]; exact Nat.zero_le _
/-- the longest common end -/
def lcs (a b : Tx) : Nat := lcp a.reverse b.reverse
theorem lcs_le1 (a b : Tx) : lcs a b ≤ a.length := by have := lcp_le1 a.reverse b.reverse; rw [List.length_reverse] at this; exact this
theorem lcs_le2 (a b : Tx) : lcs a b ≤ b.length := by have := lcp_le2 a.reverse b.reverse; rw [List.length_reverse] at this; exact this
/-- the merge of three texts -/
def merge (base mine yours : Tx) : Option Tx :=
  if lcp base yours < base.length - lcs base mine then none else some (mine.take (mine.length - lcs base mine) ++ yours.drop (base.length - lcs base mine))
variable {P : Program} {w : World} {K : PySem.W.Frag} {mg : Str → Option Value} {base : Heap}
def F_shared_length (ds : List D) (r : Res) : Prop := ∃ a b, ds = [T a, T b] ∧ r = .ok (.int (lcp a b))
def F_tail_length (ds : List D) (r : Res) : Prop := ∃ a b, ds = [T a, T b] ∧ isTextB (T a) = true ∧ isTextB (T b) = true ∧ a.length ≤ 10000 ∧ b.length ≤ 10000 ∧ r = .ok (.int (lcs a b))
def F_need_three (ds : List D) (r : Res) : Prop := ∃ a b c, ds = [T a, T b, T c] ∧ isTextB (T a) = true ∧ isTextB (T b) = true ∧ isTextB (T c) = true ∧ a.length ≤ 10000 ∧ b.length ≤ 10000 ∧ c.length ≤ 10000 ∧ r = .ok (.tuple [T a, T b, T c])
def F_claimed_ends (ds : List D) (r : Res) : Prop := ∃ a b c, ds = [T a, T b, T c] ∧ r = .ok (.tuple [.int (a.length - lcs a b : Nat), .int (lcp a c : Nat)])
def F_came_text (ds : List D) (r : Res) : Prop := ∃ a b c, ds = [T a, T b, T c] ∧ b.length + c.length ≤ 20000 ∧ r = .ok (optT (merge a b c))
def F_merge_texts (ds : List D) (r : Res) : Prop := ∃ a b c, ds = [T a, T b, T c] ∧ isTextB (T a) = true ∧ isTextB (T b) = true ∧ isTextB (T c) = true ∧ a.length ≤ 10000 ∧ b.length ≤ 10000 ∧ c.length ≤ 10000 ∧ r = .ok (optT (merge a b c))
theorem txOf_T (a : Tx) : txOf (T a) = a := by
  unfold txOf T seqOf
  simp only [List.map_map]
  exact List.map_id'' (fun _ => rfl) a
theorem needT_T {a : Tx} {i : Int} (h : isTextB (T a) = true) : needT (T a) i = .ok (T a) := by
  unfold needT
  rw [h, if_pos rfl, txOf_T]
theorem lenD_T (a : Tx) : lenD (T a) = a.length := by
  unfold lenD T seqOf
  simp
theorem sc_shared_length : FnScope ["one", "other", "at", "letter", "twin"] ["one", "other"] (defScope s_shared_length) := ⟨rfl, rfl, rfl, by decide +kernel, rfl, by decide +kernel, by decide +kernel⟩
theorem sc_tail_length : FnScope ["one", "other"] ["one", "other"] (defScope s_tail_length) := ⟨rfl, rfl, rfl, by decide +kernel, rfl, by decide +kernel, by decide +kernel⟩
theorem sc_need_three : FnScope ["base", "mine", "yours"] ["base", "mine", "yours"] (defScope s_need_three) := ⟨rfl, rfl, rfl, by decide +kernel, rfl, by decide +kernel, by decide +kernel⟩
theorem sc_claimed_ends : FnScope ["base", "mine", "yours", "tail"] ["base", "mine", "yours"] (defScope s_claimed_ends) := ⟨rfl, rfl, rfl, by decide +kernel, rfl, by decide +kernel, by decide +kernel⟩
theorem sc_came_text : FnScope ["base", "mine", "yours", "end", "begin"] ["base", "mine", "yours"] (defScope s_came_text) := ⟨rfl, rfl, rfl, by decide +kernel, rfl, by decide +kernel, by decide +kernel⟩
theorem sc_merge_texts : FnScope ["base", "mine", "yours"] ["base", "mine", "yours"] (defScope s_merge_texts) := ⟨rfl, rfl, rfl, by decide +kernel, rfl, by decide +kernel, by decide +kernel⟩
theorem ok_shared_length {fd : FuncData} (Fu : FnP K "shared_length" s_shared_length [] fd) (B : Bl mg)   : FnOk P w K mg base (L2.CX P w) 1 (He.ga K "shared_length") fd ["one", "other"] (spD K F_shared_length) := by
  refine fnD Fu sc_shared_length (fun ds r ⟨a, b, h, e⟩ => ⟨by rw [h]; rfl, _, e⟩) fun cdv A outer s H E hr => ⟨_, (pss_cons (ps_for PassesOwn.never rfl (pi_enumzip rfl B.enumerate rfl B.zip (pa_cons (pv 0) (pa_cons (pv 1) pa_nil))) (pg_tup rfl (pgs_cons (pg_name (i := 2) sc_shared_length.nd rfl (Or.inl rfl)) (pgs_cons (pg_tup rfl (pgs_cons (pg_name (i := 3) sc_shared_length.nd rfl (Or.inl rfl)) (pgs_cons (pg_name (i := 4) sc_shared_length.nd rfl (Or.inl rfl)) pgs_nil))) pgs_nil)))
      (pss_one (ps_if (pt_cmpR (r := rNeD K) (op_neD hr.units) (pv 3) (pv 4) (nomark _)) (pss_one (ps_ret (pv 2))) pss_nil)))
      (pss_one (ps_ret (pe_callB (id := "min") (r := rMin2) (call_min2A rfl) rfl B.min (by decide +kernel) (pa_cons (pe_callB (id := "len") (r := rLenA K) call_lenA rfl B.len boot_len (pa_cons (pv 0) pa_nil)) (pa_cons (pe_callB (id := "len") (r := rLenA K) call_lenA rfl B.len boot_len (pa_cons (pv 1) pa_nil)) pa_nil)))))), fun ds d ⟨a, b, h, e⟩ => ?_⟩
  subst h
  cases e
  have loop : ∀ (x y : Tx) (n : Nat) (u v z : Sl), ∃ u' v' z', Loop K E0 (gTup K 2 (gCons (gName 2) (gCons (gTup K 2 (gCons (gName 3) (gCons (gName 4) gNil))) gNil))) (tIfS (tTest (tOp (rNeD K) (tVar 3) (tVar 4))) (tRet (tVar 2)) tNext)
      (enumF n (zipD (x.map PyData.int) (y.map PyData.int))) [.dat (T a), .dat (T b), u, v, z] (if lcp x y < min x.length y.length then .rt (.int (n + lcp x y : Nat)) else .nx [.dat (T a), .dat (T b), u', v', z']) := by
    intro x
    induction x with
    | nil => exact fun y n u v z => ⟨u, v, z, by rw [if_neg (by simp)]; cases y <;> exact .nil⟩
    | cons c x ih =>
      intro y n u v z
      cases y with
      | nil => exact ⟨u, v, z, by rw [if_neg (by simp)]; exact .nil⟩
      | cons d y =>
        have hg : GD K (gTup K 2 (gCons (gName 2) (gCons (gTup K 2 (gCons (gName 3) (gCons (gName 4) gNil))) gNil))) (.tuple [.int (n : Nat), .tuple [.int c, .int d]]) [.dat (T a), .dat (T b), u, v, z] [.dat (T a), .dat (T b), .dat (.int n), .dat (.int c), .dat (.int d)] :=
          gd_tup (gds_cons gd_name (gds_cons (gd_tup (gds_cons gd_name (gds_cons gd_name gds_nil))) gds_nil))
        have hc : EvT K (tTest (tOp (rNeD K) (tVar 3) (tVar 4))) [.dat (T a), .dat (T b), .dat (.int n), .dat (.int c), .dat (.int d)] (!decide (c = d)) := evt_test (evd_op (evd_var rfl) (evd_var rfl) rne_int)
        obtain ⟨u', v', z', h⟩ := ih y (n + 1) (.dat (.int n)) (.dat (.int c)) (.dat (.int d))
        refine ⟨u', v', z', ?_⟩
        show Loop K E0 _ _ (.tuple [.int (n : Nat), .tuple [.int c, .int d]] :: enumF (n + 1) (zipD (x.map PyData.int) (y.map PyData.int))) _ _
        by_cases e : c = d
        · have e1 : lcp (c :: x) (d :: y) = lcp x y + 1 := by
            show (if c = d then lcp x y + 1 else 0) = _
            rw [if_pos e]
          have e2 : (lcp (c :: x) (d :: y) < min (c :: x).length (d :: y).length) = (lcp x y < min x.length y.length) := by
            rw [e1, List.length_cons, List.length_cons]; apply propext; omega
          have e3 : n + lcp (c :: x) (d :: y) = n + 1 + lcp x y := by rw [e1]; omega
          rw [e3]
          simp only [e2]
          exact .nx hg (run_ifF (evt_is hc (by simp [e])) run_next) h
        · have e1 : lcp (c :: x) (d :: y) = 0 := by
            show (if c = d then lcp x y + 1 else 0) = _
            rw [if_neg e]
          rw [e1, if_pos (by simp)]
          exact .rt hg (run_ifT (evt_is hc (by simp [e])) (run_ret (evd_var rfl)))
  obtain ⟨u', v', z', L⟩ := loop a b 0 .un .un .un
  have it := run_for (K := K) (E := E0) (itd_enumZ (Γ := [.dat (T a), .dat (T b), .un, .un, .un]) (eva_cons (evd_var (i := 0) rfl) (eva_cons (evd_var (i := 1) rfl) eva_nil))) (by rw [enumD_eq]; exact L)
  by_cases hlt : lcp a b < min a.length b.length
  · rw [if_pos hlt, Nat.zero_add] at it
    exact run_rt it
  · rw [if_neg hlt] at it
    refine run_nx it (run_ret ?_)
    have e : (lcp a b : Int) = min (a.length : Int) (b.length : Int) := by
      have h1 := lcp_le1 a b
      have h2 := lcp_le2 a b
      omega
    rw [e]
    exact evd_cb (eva_cons (evd_cb (eva_cons (evd_var rfl) eva_nil) rlen_T) (eva_cons (evd_cb (eva_cons (evd_var rfl) eva_nil) rlen_T) eva_nil)) rmin2
theorem ok_tail_length {fd : FuncData} (Fu : FnP K "tail_length" s_tail_length [] fd) (B : Bl mg)  (h_need_text : HasF P w K mg base 6 "need_text" ["value", "at"] [] (spD K F_need_text)) (h_shared_length : HasF P w K mg base 1 "shared_length" ["one", "other"] [] (spD K F_shared_length)) : FnOk P w K mg base (L2.CX P w) 7 (He.ga K "tail_length") fd ["one", "other"] (spD K F_tail_length) := by
  refine fnD Fu sc_tail_length (fun ds r ⟨a, b, h, _, _, _, _, e⟩ => ⟨by rw [h]; rfl, _, e⟩) fun cdv A outer s H E hr => ⟨_, (pss_cons (ps_par (i := 0) (j := 1) rfl sc_tail_length.nd rfl rfl (by decide) rfl rfl (pa_cons (pe_f h_need_text (hr.mono (by decide)) (pa_cons (pv 0) (pa_cons pe_int pa_nil))) (pa_cons (pe_f h_need_text (hr.mono (by decide)) (pa_cons (pv 1) (pa_cons pe_int pa_nil))) pa_nil)) (by rfl))
      (pss_one (ps_ret (pe_f h_shared_length (hr.mono (by decide)) (pa_cons (pe_revU (pv 0)) (pa_cons (pe_revU (pv 1)) pa_nil)))))), fun ds d ⟨a, b, h, ha, hb, la, lb, e⟩ => ?_⟩
  subst h
  cases e
  refine run_nx (run_par (a := T a) (b := T b) (eva_cons (evd_call0 (eva_cons (evd_var rfl) (eva_cons evd_int eva_nil)) ⟨T a, 0, rfl, by rw [lenD_T]; omega, (needT_T ha).symm⟩) (eva_cons (evd_call0 (eva_cons (evd_var rfl) (eva_cons evd_int eva_nil)) ⟨T b, 1, rfl, by rw [lenD_T]; omega, (needT_T hb).symm⟩) eva_nil))) ?_
  exact run_ret (evd_call0 (eva_cons (evd_revTx (evd_var rfl)) (eva_cons (evd_revTx (evd_var rfl)) eva_nil)) ⟨_, _, rfl, rfl⟩)
theorem ok_need_three {fd : FuncData} (Fu : FnP K "need_three" s_need_three [] fd) (B : Bl mg)  (h_need_text : HasF P w K mg base 6 "need_text" ["value", "at"] [] (spD K F_need_text)) : FnOk P w K mg base (L2.CX P w) 7 (He.ga K "need_three") fd ["base", "mine", "yours"] (spD K F_need_three) := by
  refine fnD Fu sc_need_three (fun ds r ⟨a, b, c, h, _, _, _, _, _, _, e⟩ => ⟨by rw [h]; rfl, _, e⟩) fun cdv A outer s H E hr => ⟨_, (pss_one (ps_ret (pe_tup (pa_cons (pe_f h_need_text (hr.mono (by decide)) (pa_cons (pv 0) (pa_cons pe_int pa_nil))) (pa_cons (pe_f h_need_text (hr.mono (by decide)) (pa_cons (pv 1) (pa_cons pe_int pa_nil))) (pa_cons (pe_f h_need_text (hr.mono (by decide)) (pa_cons (pv 2) (pa_cons pe_int pa_nil))) pa_nil)))))), fun ds d ⟨a, b, c, h, ha, hb, hc, la, lb, lc, e⟩ => ?_⟩
  subst h
  cases e
  exact run_ret (evd_tup (eva_cons (evd_call0 (eva_cons (evd_var rfl) (eva_cons evd_int eva_nil)) ⟨T a, 0, rfl, by rw [lenD_T]; omega, (needT_T ha).symm⟩) (eva_cons (evd_call0 (eva_cons (evd_var rfl) (eva_cons evd_int eva_nil)) ⟨T b, 1, rfl, by rw [lenD_T]; omega, (needT_T hb).symm⟩)
    (eva_cons (evd_call0 (eva_cons (evd_var rfl) (eva_cons evd_int eva_nil)) ⟨T c, 2, rfl, by rw [lenD_T]; omega, (needT_T hc).symm⟩) eva_nil))))
theorem ok_claimed_ends {fd : FuncData} (Fu : FnP K "claimed_ends" s_claimed_ends [] fd) (B : Bl mg)  (h_shared_length : HasF P w K mg base 1 "shared_length" ["one", "other"] [] (spD K F_shared_length)) : FnOk P w K mg base (L2.CX P w) 2 (He.ga K "claimed_ends") fd ["base", "mine", "yours"] (spD K F_claimed_ends) := by
  refine fnD Fu sc_claimed_ends (fun ds r ⟨a, b, c, h, e⟩ => ⟨by rw [h]; rfl, _, e⟩) fun cdv A outer s H E hr => ⟨_, (pss_cons (ps_set (i := 3) sc_claimed_ends.nd rfl (Or.inl rfl) (pe_f h_shared_length (hr.mono (by decide)) (pa_cons (pe_revU (pv 0)) (pa_cons (pe_revU (pv 1)) pa_nil))))
      (pss_one (ps_ret (pe_tup (pa_cons (pe_op op_sub (pe_callB (id := "len") (r := rLenA K) call_lenA rfl B.len boot_len (pa_cons (pv 0) pa_nil)) (pv 3)) (pa_cons (pe_f h_shared_length (hr.mono (by decide)) (pa_cons (pv 0) (pa_cons (pv 2) pa_nil))) pa_nil)))))), fun ds d ⟨a, b, c, h, e⟩ => ?_⟩
  subst h
  cases e
  refine run_nx (run_asg (d := .int (lcs a b : Nat)) (evd_call0 (eva_cons (evd_revTx (evd_var rfl)) (eva_cons (evd_revTx (evd_var rfl)) eva_nil)) ⟨_, _, rfl, rfl⟩) gd_name) ?_
  have e1 : ((a.length - lcs a b : Nat) : Int) = (a.length : Int) - (lcs a b : Nat) := by have := lcs_le1 a b; omega
  rw [e1]
  exact run_ret (evd_tup (eva_cons (evd_op (evd_cb (eva_cons (evd_var rfl) eva_nil) rlen_T) (evd_var rfl) rop_I0) (eva_cons (evd_call0 (eva_cons (evd_var rfl) (eva_cons (evd_var rfl) eva_nil)) ⟨_, _, rfl, rfl⟩) eva_nil)))
theorem ok_came_text {fd : FuncData} (Fu : FnP K "came_text" s_came_text [] fd) (B : Bl mg)  (h_claimed_ends : HasF P w K mg base 2 "claimed_ends" ["base", "mine", "yours"] [] (spD K F_claimed_ends)) : FnOk P w K mg base (L2.CX P w) 3 (He.ga K "came_text") fd ["base", "mine", "yours"] (spD K F_came_text) := by
  refine fnD Fu sc_came_text (fun ds r ⟨a, b, c, h, _, e⟩ => ⟨by rw [h]; rfl, _, e⟩) fun cdv A outer s H E hr => ⟨_, (pss_cons (ps_asg (pe_f h_claimed_ends (hr.mono (by decide)) (pa_cons (pv 0) (pa_cons (pv 1) (pa_cons (pv 2) pa_nil)))) (pg_tup rfl (pgs_cons (pg_name (i := 3) sc_came_text.nd rfl (Or.inl rfl)) (pgs_cons (pg_name (i := 4) sc_came_text.nd rfl (Or.inl rfl)) pgs_nil))))
      (pss_cons (ps_if (pt_cmpR op_gt (pv 3) (pv 4) (nomark _)) (pss_one (ps_ret pe_non)) pss_nil)
      (pss_one (ps_ret (pe_op (r := rAddU K) op_addU (pe_slice (r := rSlU K) sl_U (pv 1) po_none (po_some (pe_op (r := rAddU K) op_addU (pe_op op_sub (pe_callB (id := "len") (r := rLenA K) call_lenA rfl B.len boot_len (pa_cons (pv 1) pa_nil)) (pe_callB (id := "len") (r := rLenA K) call_lenA rfl B.len boot_len (pa_cons (pv 0) pa_nil))) (pv 3)))) (pe_slice (r := rSlU K) sl_U (pv 2) (po_some (pv 3)) po_none)))))), fun ds d ⟨a, b, c, h, hl, e⟩ => ?_⟩
  subst h
  cases e
  refine run_nx (run_asg (evd_call0 (eva_cons (evd_var rfl) (eva_cons (evd_var rfl) (eva_cons (evd_var rfl) eva_nil))) ⟨_, _, _, rfl, rfl⟩) (gd_tup (gds_cons gd_name (gds_cons gd_name gds_nil)))) ?_
  have ht : EvT K (tTest (tOp (rI0 fun i j => .bl (decide (j < i))) (tVar 3) (tVar 4))) [.dat (T a), .dat (T b), .dat (T c), .dat (.int (a.length - lcs a b : Nat)), .dat (.int (lcp a c : Nat))] (decide (((lcp a c : Nat) : Int) < (a.length - lcs a b : Nat))) := evt_test (evd_op (evd_var rfl) (evd_var rfl) rop_B0)
  unfold merge
  by_cases h : lcp a c < a.length - lcs a b
  · rw [if_pos h]
    exact run_rt (run_ifT (evt_is ht (by simp; omega)) (run_ret evd_non))
  · rw [if_neg h]
    refine run_nx (run_ifF (evt_is ht (by simp; omega)) run_next) ?_
    have h1 := lcs_le1 a b
    have h2 := lcs_le2 a b
    have e1 : cutX b none (some ((b.length : Int) - (a.length : Int) + (a.length - lcs a b : Nat))) = b.take (b.length - lcs a b) := cut_pre (by omega)
    have e2 : cutX c (some ((a.length - lcs a b : Nat) : Int)) none = c.drop (a.length - lcs a b) := cut_suf rfl
    refine run_ret (evd_op (a := T (b.take (b.length - lcs a b))) (b := T (c.drop (a.length - lcs a b))) ?_ ?_ (radd_T ?_))
    · rw [← e1]
      exact evd_sl (evd_var rfl) evo_no (evo_some (evd_op (evd_op (evd_cb (eva_cons (evd_var rfl) eva_nil) rlen_T) (evd_cb (eva_cons (evd_var rfl) eva_nil) rlen_T) rop_I0) (evd_var rfl) radd_int)) rsl_T
    · rw [← e2]
      exact evd_sl (evd_var rfl) (evo_some (evd_var rfl)) evo_no rsl_T
    · rw [List.length_take, List.length_drop]; omega
theorem ok_merge_texts {fd : FuncData} (Fu : FnP K "merge_texts" s_merge_texts [] fd) (B : Bl mg)  (h_came_text : HasF P w K mg base 3 "came_text" ["base", "mine", "yours"] [] (spD K F_came_text)) (h_need_three : HasF P w K mg base 7 "need_three" ["base", "mine", "yours"] [] (spD K F_need_three)) : FnOk P w K mg base (L2.CX P w) 8 (He.ga K "merge_texts") fd ["base", "mine", "yours"] (spD K F_merge_texts) := by
  refine fnD Fu sc_merge_texts (fun ds r ⟨a, b, c, h, _, _, _, _, _, _, e⟩ => ⟨by rw [h]; rfl, _, e⟩) fun cdv A outer s H E hr => ⟨_, (pss_cons (ps_asg (pe_f h_need_three (hr.mono (by decide)) (pa_cons (pv 0) (pa_cons (pv 1) (pa_cons (pv 2) pa_nil)))) (pg_tup rfl (pgs_cons (pg_name (i := 0) sc_merge_texts.nd rfl (Or.inl rfl)) (pgs_cons (pg_name (i := 1) sc_merge_texts.nd rfl (Or.inl rfl)) (pgs_cons (pg_name (i := 2) sc_merge_texts.nd rfl (Or.inl rfl)) pgs_nil)))))
      (pss_one (ps_ret (pe_f h_came_text (hr.mono (by decide)) (pa_cons (pv 0) (pa_cons (pv 1) (pa_cons (pv 2) pa_nil))))))), fun ds d ⟨a, b, c, h, ha, hb, hc, la, lb, lc, e⟩ => ?_⟩
  subst h
  cases e
  refine run_nx (run_asg (evd_call0 (eva_cons (evd_var rfl) (eva_cons (evd_var rfl) (eva_cons (evd_var rfl) eva_nil))) ⟨a, b, c, rfl, ha, hb, hc, la, lb, lc, rfl⟩) (gd_tup (gds_cons gd_name (gds_cons gd_name (gds_cons gd_name gds_nil))))) ?_
  exact run_ret (evd_call0 (eva_cons (evd_var rfl) (eva_cons (evd_var rfl) (eva_cons (evd_var rfl) eva_nil))) ⟨a, b, c, rfl, by omega, rfl⟩)
end CB

/-! W4 -/
set_option Elab.async false
set_option linter.all false
set_option maxRecDepth 100000
set_option maxHeartbeats 4000000
namespace CB
open PySem PySem.Spec PyProof.Rows L2
theorem shaped_str {s : Str} (h : PyData.strOk s = true) : SeqAt.shaped (.str s) = true := by simp [SeqAt.shaped, PyData.canLay0, PyData.depth, h]
theorem atI_nat {α : Type} {xs : List α} {i : Int} {n : Nat} {x : α} (e : i = (n : Int)) (h : xs[n]? = some x) : atI xs i = some x := by
  have hn := (List.getElem?_eq_some_iff.mp h).1
  unfold atI ixN
  rw [if_pos (by omega), if_pos (by omega)]
  subst e
  exact h
theorem atI_last {α : Type} {xs : List α} {x : α} : atI (xs ++ [x]) (-1) = some x := by
  unfold atI ixN
  rw [if_neg (by decide), if_pos (by simp; omega)]
  have e : (-1 + ((xs ++ [x]).length : Int)).toNat = xs.length := by rw [List.length_append, List.length_singleton]; omega
  rw [e]
  simp
theorem req_str {K : Fg} {s t : Str} (hs : PyData.strOk s = true) (ht : PyData.strOk t = true) : ROp K (rEqD K) (.str s) (.str t) (.bool (decide (s = t))) := by
  have e : PyData.eqv (.str s) (.str t) = decide (s = t) := by simp only [PyData.eqv]; exact Bool.beq_eq_decide_eq s t
  rw [← e]; exact req (hu := 0) (shaped_str hs) (shaped_str ht)
/-- the length of the smallest piece that the text repeats -/
def rootL (t : Tx) : Nat := ((List.range' 1 (t.length - 1)).find? fun s => decide (t.length % s = 0) && decide (t.drop s = t.take (t.length - s))).getD t.length
/-- how often the text begins by the block -/
def leadGo : Nat → Tx → Tx → Nat
  | 0, _, _ => 0
  | n + 1, t, b => if t.take b.length = b then leadGo n (t.drop b.length) b + 1 else 0
def lead (t b : Tx) : Nat := leadGo t.length t b
structure Form where
  front : Tx
  block : Tx
  back : Tx
  times : Nat
  others : Nat
def Form.d (f : Form) : D := .tuple [T f.front, T f.block, T f.back, .int f.times, .int f.others]
def formD : Option Form → D
  | none => .none
  | some f => f.d
/-- lesser, greater -/
def formLG (l g : Tx) : Option Form :=
  let a := l.length - lcs l g
  if g.take a = l.take a then
    let added := (g.drop a).take (g.length - l.length)
    let block := added.take (rootL added)
    let rest := l.drop a
    let times := lead rest block
    some ⟨l.take a, block, rest.drop (times * block.length), times, times + added.length / block.length⟩
  else none
def blockForm (one other : Tx) : Option Form :=
  if one.length = other.length then none
  else if one.length < other.length then formLG one other
  else (formLG other one).map fun f => { f with times := f.others, others := f.times }
def isPaper (d : D) (w : Str) (n : Int) : Bool := match d with
  | .tuple (.str s :: ds) => decide (((ds.length + 1 : Nat) : Int) = n) && decide (s = w)
  | _ => false
variable {P : Program} {w : World} {K : PySem.W.Frag} {mg : Str → Option Value} {base : Heap}
def F_is_paper (ds : List D) (r : Res) : Prop := ∃ d s n, ds = [d, .str s, .int n] ∧ 1 ≤ n ∧ PyData.strOk s = true ∧ (∀ z es, d = .tuple (.str z :: es) → PyData.strOk z = true) ∧ r = .ok (.bool (isPaper d s n))
def F_root_length (ds : List D) (r : Res) : Prop := ∃ a, ds = [T a] ∧ a.length ≤ 10000 ∧ r = .ok (.int (rootL a : Nat))
def F_leading_times (ds : List D) (r : Res) : Prop := ∃ a b, ds = [T a, T b] ∧ b ≠ [] ∧ a.length ≤ 10000 ∧ b.length ≤ 10000 ∧ r = .ok (.int (lead a b : Nat))
def F_block_form (ds : List D) (r : Res) : Prop := ∃ a b, ds = [T a, T b] ∧ isTextB (T a) = true ∧ isTextB (T b) = true ∧ a.length ≤ 10000 ∧ b.length ≤ 10000 ∧ r = .ok (formD (blockForm a b))
def F_block_number (ds : List D) (r : Res) : Prop := ∃ t f b k, ds = [T t, T f, T b, T k] ∧ b ≠ [] ∧ b.length ≤ 10000 ∧ r = .ok (.int (((t.length : Int) - f.length - k.length) / b.length))
theorem sc_is_paper : FnScope ["value", "word", "many"] ["value", "word", "many"] (defScope s_is_paper) := ⟨rfl, rfl, rfl, by decide +kernel, rfl, by decide +kernel, by decide +kernel⟩
theorem sc_root_length : FnScope ["text", "size"] ["text"] (defScope s_root_length) := ⟨rfl, rfl, rfl, by decide +kernel, rfl, by decide +kernel, by decide +kernel⟩
theorem sc_leading_times : FnScope ["text", "block", "times"] ["text", "block"] (defScope s_leading_times) := ⟨rfl, rfl, rfl, by decide +kernel, rfl, by decide +kernel, by decide +kernel⟩
theorem sc_block_form : FnScope ["one", "other", "lesser", "greater", "ahead", "front", "rest", "added", "block", "times", "others", "back"] ["one", "other"] (defScope s_block_form) := ⟨rfl, rfl, rfl, by decide +kernel, rfl, by decide +kernel, by decide +kernel⟩
theorem sc_block_number : FnScope ["text", "front", "block", "back"] ["text", "front", "block", "back"] (defScope s_block_number) := ⟨rfl, rfl, rfl, by decide +kernel, rfl, by decide +kernel, by decide +kernel⟩
theorem isTuple_iff {d : D} (h : isTy "tuple" d = true) : ∃ ds, d = .tuple ds := by
  cases d <;> first | exact ⟨_, rfl⟩ | cases h
theorem isStr_iff {d : D} (h : isTy "str" d = true) : ∃ s, d = .str s := by
  cases d <;> first | exact ⟨_, rfl⟩ | cases h
theorem ok_is_paper {fd : FuncData} (Fu : FnP K "is_paper" s_is_paper [] fd) (B : Bl mg)  (h_is_string : HasF P w K mg base 1 "is_string" ["value"] [] (spD K F_is_string)) : FnOk P w K mg base (L2.CX P w) 2 (He.ga K "is_paper") fd ["value", "word", "many"] (spD K F_is_paper) := by
  refine fnD Fu sc_is_paper (fun ds r ⟨d, s, n, h, _, _, _, e⟩ => ⟨by rw [h]; rfl, _, e⟩) fun cdv A outer s H E hr => ⟨_, (pss_one (ps_ret (pe_and (pe_callB (id := "isinstance") (r := rIsi K) call_isi rfl B.isinstance (by decide +kernel) (pa_cons (pv 0) (pa_cons (pe_bltn (v := .ty "tuple") rfl B.tuple (by decide +kernel) rfl) pa_nil))) (pe_and (pe_cmpR (r := rEqD K) (op_eqD hr.units) (pe_callB (id := "len") (r := rLenA K) call_lenA rfl B.len boot_len (pa_cons (pv 0) pa_nil)) (pv 2) (nomark _)) (pe_and (pe_f h_is_string (hr.mono (by decide)) (pa_cons (pe_ix (r := rIx K) ix_seq (pv 0) pe_int (fun _ _ => rfl)) pa_nil)) (pe_one (pe_cmpR (r := rEqD K) (op_eqD hr.units) (pe_ix (r := rIx K) ix_seq (pv 0) pe_int (fun _ _ => rfl)) (pv 1) (nomark _)))))))), fun ds d ⟨v, s, n, h, hn, hso, hzo, e⟩ => ?_⟩
  subst h
  cases e
  have e1 : isPaper v s n = (isTy "tuple" v && (decide ((lenD v : Int) = n) && (isTy "str" ((seqOf v).getD [] |>.getD 0 .none) && isPaper v s n))) := by
    cases v with
    | tuple ds =>
      cases ds with
      | nil => rw [show isPaper (.tuple []) s n = false from rfl]; simp
      | cons e es =>
        cases e with
        | str z =>
          show (decide (((es.length + 1 : Nat) : Int) = n) && decide (z = s)) = (true && (decide (((es.length + 1 : Nat) : Int) = n) && (true && (decide (((es.length + 1 : Nat) : Int) = n) && decide (z = s)))))
          cases decide (((es.length + 1 : Nat) : Int) = n) <;> cases decide (z = s) <;> rfl
        | _ => rw [show isPaper (.tuple (_ :: es)) s n = false from rfl]; simp
    | _ => rfl
  rw [e1]
  refine run_ret (evd_andV (evd_isi kit_tuple (evd_var rfl)) fun hb => ?_)
  obtain ⟨ds, rfl⟩ := isTuple_iff hb
  refine evd_andV (evd_op (evd_cb (eva_cons (evd_var rfl) eva_nil) rlen_tup) (evd_var rfl) (by
    have : lenD (.tuple ds) = ds.length := rfl
    rw [this]; exact req_int)) fun hl => ?_
  have hl' : (ds.length : Int) = n := of_decide_eq_true hl
  cases ds with
  | nil => exact absurd hl' (by simp; omega)
  | cons e es =>
    have hx : EvD K (tOp (rIx K) (tVar 0) (tC (.int 0))) (startG ["value", "word", "many"] [.tuple (e :: es), .str s, .int n]) e := evd_op (evd_var rfl) evd_int (rix_tup (atI_nat (n := 0) rfl rfl))
    refine evd_andV (evd_call0 (eva_cons hx eva_nil) ⟨e, rfl, rfl⟩) fun hs => ?_
    obtain ⟨z, rfl⟩ := isStr_iff hs
    refine evd_is (evd_op hx (evd_var rfl) (req_str (hzo z es rfl) hso)) ?_
    have : ((es.length : Int) + 1 = n) := by simpa using hl'
    simp [isPaper, this]
theorem ok_block_number {fd : FuncData} (Fu : FnP K "block_number" s_block_number [] fd) (B : Bl mg)   : FnOk P w K mg base (L2.CX P w) 1 (He.ga K "block_number") fd ["text", "front", "block", "back"] (spD K F_block_number) := by
  refine fnD Fu sc_block_number (fun ds r ⟨t, f, b, k, h, _, _, e⟩ => ⟨by rw [h]; rfl, _, e⟩) fun cdv A outer s H E hr => ⟨_, (pss_one (ps_ret (pe_op op_fdiv (pe_op op_sub (pe_op op_sub (pe_callB (id := "len") (r := rLenA K) call_lenA rfl B.len boot_len (pa_cons (pv 0) pa_nil)) (pe_callB (id := "len") (r := rLenA K) call_lenA rfl B.len boot_len (pa_cons (pv 1) pa_nil))) (pe_callB (id := "len") (r := rLenA K) call_lenA rfl B.len boot_len (pa_cons (pv 3) pa_nil))) (pe_callB (id := "len") (r := rLenA K) call_lenA rfl B.len boot_len (pa_cons (pv 2) pa_nil))))), fun ds d ⟨t, f, b, k, h, hb, hl, e⟩ => ?_⟩
  subst h
  cases e
  have hp : 0 < b.length := List.length_pos_iff.mpr hb
  exact run_ret (evd_op (evd_op (evd_op (evd_cb (eva_cons (evd_var rfl) eva_nil) rlen_T) (evd_cb (eva_cons (evd_var rfl) eva_nil) rlen_T) rop_I0) (evd_cb (eva_cons (evd_var rfl) eva_nil) rlen_T) rop_I0) (evd_cb (eva_cons (evd_var rfl) eva_nil) rlen_T)
    (rop_I ⟨by omega, by omega⟩))
end CB

/-! W5 -/
set_option Elab.async false
set_option linter.all false
set_option maxRecDepth 100000
set_option maxHeartbeats 4000000
namespace CB
open PySem PySem.Spec PyProof.Rows L2
theorem rngD_eq (lo n : Nat) : rngD (lo : Int) n = (List.range' lo n).map fun (s : Nat) => PyData.int (s : Int) := by
  unfold rngD
  apply List.ext_getElem?
  intro i
  rw [List.getElem?_map, List.getElem?_map]
  by_cases h : i < n
  · rw [List.getElem?_range h, List.getElem?_range' h]
    simp
  · rw [List.getElem?_eq_none (by simpa using h), List.getElem?_eq_none (by simpa using h)]
    rfl
theorem leadGo_nil {b : Tx} (hb : b ≠ []) : ∀ n, leadGo n [] b = 0
  | 0 => rfl
  | n + 1 => by
    unfold leadGo
    rw [if_neg]
    intro h
    rw [List.take_nil] at h
    exact hb h.symm
/-- enough fuel is enough -/
theorem leadGo_fuel {b : Tx} (hb : b ≠ []) : ∀ (n m : Nat) (t : Tx), t.length ≤ n → t.length ≤ m → leadGo n t b = leadGo m t b
  | 0, m, t, h, _ => by
    have e : t = [] := List.length_eq_zero_iff.mp (by omega)
    subst e
    rw [leadGo_nil hb, leadGo_nil hb]
  | n + 1, 0, t, _, h => by
    have e : t = [] := List.length_eq_zero_iff.mp (by omega)
    subst e
    rw [leadGo_nil hb, leadGo_nil hb]
  | n + 1, m + 1, t, h, h' => by
    have hp : 0 < b.length := List.length_pos_iff.mpr hb
    unfold leadGo
    by_cases e : t.take b.length = b
    · rw [if_pos e, if_pos e, leadGo_fuel hb n m (t.drop b.length) (by rw [List.length_drop]; omega) (by rw [List.length_drop]; omega)]
    · rw [if_neg e, if_neg e]
theorem lead_yes {t b : Tx} (hb : b ≠ []) (h : t.take b.length = b) : lead t b = lead (t.drop b.length) b + 1 := by
  have hp : 0 < b.length := List.length_pos_iff.mpr hb
  unfold lead
  have hl : b.length ≤ t.length := by
    have := congrArg List.length h
    rw [List.length_take] at this
    omega
  obtain ⟨n, hn⟩ : ∃ n, t.length = n + 1 := ⟨t.length - 1, by omega⟩
  rw [hn]
  show (if t.take b.length = b then leadGo n (t.drop b.length) b + 1 else 0) = _
  rw [if_pos h, leadGo_fuel hb n (t.drop b.length).length (t.drop b.length) (by rw [List.length_drop]; omega) (Nat.le_refl _)]
theorem lead_no {t b : Tx} (h : ¬ t.take b.length = b) : lead t b = 0 := by
  unfold lead
  cases hn : t.length with
  | zero => rfl
  | succ n =>
    show (if t.take b.length = b then leadGo n (t.drop b.length) b + 1 else 0) = _
    rw [if_neg h]
theorem lead_le {t b : Tx} (hb : b ≠ []) : lead t b * b.length ≤ t.length := by
  have : ∀ (n : Nat) (t : Tx), t.length ≤ n → lead t b * b.length ≤ t.length := by
    intro n
    induction n with
    | zero =>
      intro t h
      have e : t = [] := List.length_eq_zero_iff.mp (by omega)
      subst e
      have : lead [] b = 0 := rfl
      rw [this]; simp
    | succ n ih =>
      intro t h
      have hp : 0 < b.length := List.length_pos_iff.mpr hb
      by_cases e : t.take b.length = b
      · rw [lead_yes hb e]
        have hl : b.length ≤ t.length := by
          have := congrArg List.length e
          rw [List.length_take] at this
          omega
        have := ih (t.drop b.length) (by rw [List.length_drop]; omega)
        rw [List.length_drop] at this
        rw [Nat.add_mul, Nat.one_mul]
        omega
      · rw [lead_no e]; simp
  exact this t.length t (Nat.le_refl _)
variable {P : Program} {w : World} {K : PySem.W.Frag} {mg : Str → Option Value} {base : Heap}
theorem ok_root_length {fd : FuncData} (Fu : FnP K "root_length" s_root_length [] fd) (B : Bl mg)   : FnOk P w K mg base (L2.CX P w) 1 (He.ga K "root_length") fd ["text"] (spD K F_root_length) := by
  refine fnD Fu sc_root_length (fun ds r ⟨a, h, _, e⟩ => ⟨by rw [h]; rfl, _, e⟩) fun cdv A outer s H E hr => ⟨_, (pss_cons (ps_for PassesOwn.never rfl (pi_range2 rfl B.range (pa_cons pe_int (pa_cons (pe_callB (id := "len") (r := rLenA K) call_lenA rfl B.len boot_len (pa_cons (pv 0) pa_nil)) pa_nil))) (pg_name (i := 1) sc_root_length.nd rfl (Or.inl rfl))
      (pss_one (ps_if (PW.pt (pw_and (pt_cmpR (r := rEqD K) (op_eqD hr.units) (pe_op op_mod (pe_callB (id := "len") (r := rLenA K) call_lenA rfl B.len boot_len (pa_cons (pv 0) pa_nil)) (pv 1)) pe_int (nomark _)) (pw_and1 (pt_cmpR (r := rEqD K) (op_eqD hr.units) (pe_slice (r := rSlU K) sl_U (pv 0) (po_some (pv 1)) po_none) (pe_slice (r := rSlU K) sl_U (pv 0) po_none (po_some (pe_un un_neg (pv 1)))) (nomark _))))) (pss_one (ps_ret (pv 1))) pss_nil)))
      (pss_one (ps_ret (pe_callB (id := "len") (r := rLenA K) call_lenA rfl B.len boot_len (pa_cons (pv 0) pa_nil))))), fun ds d ⟨a, h, hl, e⟩ => ?_⟩
  subst h
  cases e
  have loop : ∀ (ss : List Nat), (∀ s ∈ ss, 1 ≤ s ∧ s ≤ a.length) → ∀ u : Sl, ∃ u', Loop K E0 (gName 1) (tIfS (tAnd (tTest (tOp (rEqD K) (tOp (rI (fun _ j => 0 < j) fun i j => .int (i % j)) (tCB (rLenA K) (tCons (tVar 0) tNil)) (tVar 1)) (tC (.int 0))))
      (tTest (tOp (rEqD K) (tSl (rSlU K) (tVar 0) (tPart (tVar 1)) tNoPart) (tSl (rSlU K) (tVar 0) tNoPart (tPart (tUn (rU fun i => .int (-i)) (tVar 1))))))) (tRet (tVar 1)) tNext)
      (ss.map fun (s : Nat) => PyData.int (s : Int)) [.dat (T a), u] (match ss.find? (fun s => decide (a.length % s = 0) && decide (a.drop s = a.take (a.length - s))) with | some s => .rt (.int (s : Nat)) | none => .nx [.dat (T a), u']) := by
    intro ss
    induction ss with
    | nil => exact fun _ u => ⟨u, .nil⟩
    | cons s ss ih =>
      intro hs u
      obtain ⟨h1, h2⟩ := hs s List.mem_cons_self
      obtain ⟨u', ih⟩ := ih (fun s' h' => hs s' (List.mem_cons_of_mem _ h')) (.dat (.int s))
      have hc : EvT K (tAnd (tTest (tOp (rEqD K) (tOp (rI (fun _ j => 0 < j) fun i j => .int (i % j)) (tCB (rLenA K) (tCons (tVar 0) tNil)) (tVar 1)) (tC (.int 0))))
          (tTest (tOp (rEqD K) (tSl (rSlU K) (tVar 0) (tPart (tVar 1)) tNoPart) (tSl (rSlU K) (tVar 0) tNoPart (tPart (tUn (rU fun i => .int (-i)) (tVar 1))))))) [.dat (T a), .dat (.int s)]
          (decide (((a.length : Int) % (s : Int)) = 0) && decide (cutX a (some (s : Int)) none = cutX a none (some (-(s : Int))))) :=
        evt_and (evt_test (evd_op (evd_op (evd_cb (eva_cons (evd_var rfl) eva_nil) rlen_T) (evd_var rfl) (rop_I (by omega))) evd_int req_int)) fun _ =>
          evt_test (evd_op (evd_sl (evd_var rfl) (evo_some (evd_var rfl)) evo_no rsl_T) (evd_sl (evd_var rfl) evo_no (evo_some (evd_un (evd_var rfl) run_neg)) rsl_T) req_T)
      have e1 : (decide (((a.length : Int) % (s : Int)) = 0) && decide (cutX a (some (s : Int)) none = cutX a none (some (-(s : Int))))) = (decide (a.length % s = 0) && decide (a.drop s = a.take (a.length - s))) := by
        rw [cut_suf rfl, cut_neg h1 h2]
        congr 2
        apply propext
        omega
      rw [e1] at hc
      have hg : GD K (gName 1) (.int (s : Nat)) [.dat (T a), u] [.dat (T a), .dat (.int s)] := gd_name
      refine ⟨u', ?_⟩
      rw [List.find?_cons]
      show Loop K E0 _ _ (PyData.int (s : Nat) :: ss.map fun (s : Nat) => PyData.int (s : Int)) _ _
      cases hp : (decide (a.length % s = 0) && decide (a.drop s = a.take (a.length - s))) with
      | true =>
        rw [hp] at hc
        exact .rt hg (run_ifT hc (run_ret (evd_var rfl)))
      | false =>
        rw [hp] at hc
        exact .nx hg (run_ifF hc run_next) ih
  obtain ⟨u', L⟩ := loop (List.range' 1 (a.length - 1)) (fun s hs => by
    have := List.mem_range'_1.mp hs
    omega) .un
  have it := run_for (K := K) (E := E0) (itd_rng2 (l := 1) (n := a.length) (Γ := [.dat (T a), .un]) (eva_cons evd_int (eva_cons (evd_cb (eva_cons (evd_var (i := 0) rfl) eva_nil) rlen_T) eva_nil))) (by
    have e : ((a.length : Int) - 1).toNat = a.length - 1 := by omega
    rw [e, show (1 : Int) = ((1 : Nat) : Int) from rfl, rngD_eq]
    exact L)
  unfold rootL
  cases hf : (List.range' 1 (a.length - 1)).find? (fun s => decide (a.length % s = 0) && decide (a.drop s = a.take (a.length - s))) with
  | some s =>
    rw [hf] at it
    exact run_rt it
  | none =>
    rw [hf] at it
    exact run_nx it (run_ret (evd_cb (eva_cons (evd_var rfl) eva_nil) rlen_T))
theorem ok_leading_times {fd : FuncData} (Fu : FnP K "leading_times" s_leading_times [] fd) (B : Bl mg)   : FnOk P w K mg base (L2.CX P w) 1 (He.ga K "leading_times") fd ["text", "block"] (spD K F_leading_times) := by
  refine fnD Fu sc_leading_times (fun ds r ⟨a, b, h, _, _, _, e⟩ => ⟨by rw [h]; rfl, _, e⟩) fun cdv A outer s H E hr => ⟨_, (pss_cons (ps_set (i := 2) sc_leading_times.nd rfl (Or.inl rfl) pe_int)
      (pss_cons (ps_while PassesOwn.never (pt_cmpR (r := rEqD K) (op_eqD hr.units) (pe_slice (r := rSlU K) sl_U (pv 0) (po_some (pe_op (r := rMulU K) op_mulU (pv 2) (pe_callB (id := "len") (r := rLenA K) call_lenA rfl B.len boot_len (pa_cons (pv 1) pa_nil)))) (po_some (pe_op (r := rMulU K) op_mulU (pe_op (r := rAddU K) op_addU (pv 2) pe_int) (pe_callB (id := "len") (r := rLenA K) call_lenA rfl B.len boot_len (pa_cons (pv 1) pa_nil))))) (pv 1) (nomark _)) (pss_one (ps_aug (i := 2) sc_leading_times.nd rfl (Or.inl rfl) pe_int ip_add)))
      (pss_one (ps_ret (pv 2))))), fun ds d ⟨a, b, h, hb, la, lb, e⟩ => ?_⟩
  subst h
  cases e
  have hp : 0 < b.length := List.length_pos_iff.mpr hb
  have loop : ∀ (n k : Nat), k * b.length ≤ a.length → a.length - k * b.length ≤ n → Whl K E0 (tTest (tOp (rEqD K) (tSl (rSlU K) (tVar 0) (tPart (tOp (rMulU K) (tVar 2) (tCB (rLenA K) (tCons (tVar 1) tNil)))) (tPart (tOp (rMulU K) (tOp (rAddU K) (tVar 2) (tC (.int 1))) (tCB (rLenA K) (tCons (tVar 1) tNil))))) (tVar 1)))
      (tAug 2 (tC (.int 1)) (ipI fun i j => i + j)) n [.dat (T a), .dat (T b), .dat (.int k)] (.nx [.dat (T a), .dat (T b), .dat (.int (k + lead (a.drop (k * b.length)) b : Nat))]) := by
    intro n
    induction n with
    | zero =>
      intro k h1 h2
      have e : a.drop (k * b.length) = [] := List.drop_eq_nil_of_le (by omega)
      have hc := evt_test (K := K) (Γ := [.dat (T a), .dat (T b), .dat (.int k)]) (evd_op (evd_sl (evd_var (i := 0) rfl) (evo_some (evd_op (evd_var (i := 2) rfl) (evd_cb (eva_cons (evd_var (i := 1) rfl) eva_nil) rlen_T) (rmul_int (i := (k : Int)) (j := (b.length : Int)) (.inr ⟨by omega, by omega⟩))))
        (evo_some (evd_op (evd_op (evd_var (i := 2) rfl) evd_int radd_int) (evd_cb (eva_cons (evd_var (i := 1) rfl) eva_nil) rlen_T) (rmul_int (i := (k : Int) + 1) (j := (b.length : Int)) (.inr ⟨by omega, by omega⟩)))) rsl_T) (evd_var (i := 1) rfl) req_T)
      rw [cut_mid (k := k * b.length) (l := (k + 1) * b.length) (by simp) (by simp), e] at hc
      rw [e]
      have : lead ([] : Tx) b = 0 := rfl
      rw [this, Nat.add_zero]
      exact .stop (evt_is hc (by simp; exact hb))
    | succ n ih =>
      intro k h1 h2
      have hc := evt_test (K := K) (Γ := [.dat (T a), .dat (T b), .dat (.int k)]) (evd_op (evd_sl (evd_var (i := 0) rfl) (evo_some (evd_op (evd_var (i := 2) rfl) (evd_cb (eva_cons (evd_var (i := 1) rfl) eva_nil) rlen_T) (rmul_int (i := (k : Int)) (j := (b.length : Int)) (.inr ⟨by omega, by omega⟩))))
        (evo_some (evd_op (evd_op (evd_var (i := 2) rfl) evd_int radd_int) (evd_cb (eva_cons (evd_var (i := 1) rfl) eva_nil) rlen_T) (rmul_int (i := (k : Int) + 1) (j := (b.length : Int)) (.inr ⟨by omega, by omega⟩)))) rsl_T) (evd_var (i := 1) rfl) req_T)
      rw [cut_mid (k := k * b.length) (l := (k + 1) * b.length) (by simp) (by simp)] at hc
      have e2 : (k + 1) * b.length - k * b.length = b.length := by rw [Nat.add_mul, Nat.one_mul]; omega
      rw [e2] at hc
      by_cases h : (a.drop (k * b.length)).take b.length = b
      · have hl : b.length ≤ a.length - k * b.length := by
          have := congrArg List.length h
          rw [List.length_take, List.length_drop] at this
          omega
        rw [lead_yes hb h, List.drop_drop]
        have e3 : k * b.length + b.length = (k + 1) * b.length := by rw [Nat.add_mul, Nat.one_mul]
        rw [e3]
        have e4 : k + (lead (a.drop ((k + 1) * b.length)) b + 1) = k + 1 + lead (a.drop ((k + 1) * b.length)) b := by omega
        rw [e4]
        exact .nx (evt_is hc (by simp [h])) (run_aug (r := ((k + 1 : Nat) : Int)) rfl evd_int (by simp)) (ih (k + 1) (by omega) (by omega))
      · rw [lead_no h, Nat.add_zero]
        exact .stop (evt_is hc (by simp [h]))
  have L := loop a.length 0 (by simp) (by simp)
  rw [Nat.zero_mul, List.drop_zero, Nat.zero_add] at L
  refine run_nx (run_asg evd_int gd_name) (run_nx (run_while L) (run_ret (evd_var rfl)))
theorem rootL_le (t : Tx) : rootL t ≤ t.length := by
  unfold rootL
  cases hf : (List.range' 1 (t.length - 1)).find? (fun s => decide (t.length % s = 0) && decide (t.drop s = t.take (t.length - s))) with
  | none => exact Nat.le_refl _
  | some s =>
    have := List.mem_range'_1.mp (List.mem_of_find?_eq_some hf)
    show s ≤ _
    omega
theorem rootL_pos {t : Tx} (h : t ≠ []) : 1 ≤ rootL t := by
  have hp : 0 < t.length := List.length_pos_iff.mpr h
  unfold rootL
  cases hf : (List.range' 1 (t.length - 1)).find? (fun s => decide (t.length % s = 0) && decide (t.drop s = t.take (t.length - s))) with
  | none => exact hp
  | some s => exact (List.mem_range'_1.mp (List.mem_of_find?_eq_some hf)).1
theorem formLG_of {l g added block : Tx} {ah times : Nat} (hah : l.length - lcs l g = ah) (hf : g.take ah = l.take ah) (hadd : (g.drop ah).take (g.length - l.length) = added) (hblk : added.take (rootL added) = block) (ht : lead (l.drop ah) block = times) :
    formLG l g = some ⟨l.take ah, block, (l.drop ah).drop (times * block.length), times, times + added.length / block.length⟩ := by
  subst hah hadd hblk ht
  unfold formLG
  exact if_pos hf
theorem formLG_no {l g : Tx} {ah : Nat} (hah : l.length - lcs l g = ah) (hf : ¬ g.take ah = l.take ah) : formLG l g = none := by
  subst hah
  unfold formLG
  exact if_neg hf
theorem ok_block_form {fd : FuncData} (Fu : FnP K "block_form" s_block_form [] fd) (B : Bl mg)  (h_leading_times : HasF P w K mg base 1 "leading_times" ["text", "block"] [] (spD K F_leading_times)) (h_need_text : HasF P w K mg base 6 "need_text" ["value", "at"] [] (spD K F_need_text)) (h_root_length : HasF P w K mg base 1 "root_length" ["text"] [] (spD K F_root_length)) (h_tail_length : HasF P w K mg base 7 "tail_length" ["one", "other"] [] (spD K F_tail_length)) : FnOk P w K mg base (L2.CX P w) 8 (He.ga K "block_form") fd ["one", "other"] (spD K F_block_form) := by
  refine fnD Fu sc_block_form (fun ds r ⟨a, b, h, _, _, _, _, e⟩ => ⟨by rw [h]; rfl, _, e⟩) fun cdv A outer s H E hr => ⟨_, (pss_cons (ps_par (i := 0) (j := 1) rfl sc_block_form.nd rfl rfl (by decide) rfl rfl (pa_cons (pe_f h_need_text (hr.mono (by decide)) (pa_cons (pv 0) (pa_cons pe_int pa_nil))) (pa_cons (pe_f h_need_text (hr.mono (by decide)) (pa_cons (pv 1) (pa_cons pe_int pa_nil))) pa_nil)) (by rfl))
      (pss_cons (ps_if (pt_cmpR (r := rEqD K) (op_eqD hr.units) (pe_callB (id := "len") (r := rLenA K) call_lenA rfl B.len boot_len (pa_cons (pv 0) pa_nil)) (pe_callB (id := "len") (r := rLenA K) call_lenA rfl B.len boot_len (pa_cons (pv 1) pa_nil)) (nomark _)) (pss_one (ps_ret pe_non)) pss_nil)
      (pss_cons (ps_asg (pe_ifExp (pt_cmpR op_lt (pe_callB (id := "len") (r := rLenA K) call_lenA rfl B.len boot_len (pa_cons (pv 0) pa_nil)) (pe_callB (id := "len") (r := rLenA K) call_lenA rfl B.len boot_len (pa_cons (pv 1) pa_nil)) (nomark _)) (pe_tup (pa_cons (pv 0) (pa_cons (pv 1) pa_nil))) (pe_tup (pa_cons (pv 1) (pa_cons (pv 0) pa_nil)))) (pg_tup rfl (pgs_cons (pg_name (i := 2) sc_block_form.nd rfl (Or.inl rfl)) (pgs_cons (pg_name (i := 3) sc_block_form.nd rfl (Or.inl rfl)) pgs_nil))))
      (pss_cons (ps_set (i := 4) sc_block_form.nd rfl (Or.inl rfl) (pe_op op_sub (pe_callB (id := "len") (r := rLenA K) call_lenA rfl B.len boot_len (pa_cons (pv 2) pa_nil)) (pe_f h_tail_length (hr.mono (by decide)) (pa_cons (pv 2) (pa_cons (pv 3) pa_nil)))))
      (pss_cons (ps_par (i := 5) (j := 6) rfl sc_block_form.nd rfl rfl (by decide) rfl rfl (pa_cons (pe_slice (r := rSlU K) sl_U (pv 2) po_none (po_some (pv 4))) (pa_cons (pe_slice (r := rSlU K) sl_U (pv 2) (po_some (pv 4)) po_none) pa_nil)) (by rfl))
      (pss_cons (ps_if (pt_cmpR (r := rNeD K) (op_neD hr.units) (pe_slice (r := rSlU K) sl_U (pv 3) po_none (po_some (pv 4))) (pv 5) (nomark _)) (pss_one (ps_ret pe_non)) pss_nil)
      (pss_cons (ps_set (i := 7) sc_block_form.nd rfl (Or.inl rfl) (pe_slice (r := rSlU K) sl_U (pv 3) (po_some (pv 4)) (po_some (pe_op op_sub (pe_op (r := rAddU K) op_addU (pv 4) (pe_callB (id := "len") (r := rLenA K) call_lenA rfl B.len boot_len (pa_cons (pv 3) pa_nil))) (pe_callB (id := "len") (r := rLenA K) call_lenA rfl B.len boot_len (pa_cons (pv 2) pa_nil))))))
      (pss_cons (ps_set (i := 8) sc_block_form.nd rfl (Or.inl rfl) (pe_slice (r := rSlU K) sl_U (pv 7) po_none (po_some (pe_f h_root_length (hr.mono (by decide)) (pa_cons (pv 7) pa_nil)))))
      (pss_cons (ps_set (i := 9) sc_block_form.nd rfl (Or.inl rfl) (pe_f h_leading_times (hr.mono (by decide)) (pa_cons (pv 6) (pa_cons (pv 8) pa_nil))))
      (pss_cons (ps_set (i := 10) sc_block_form.nd rfl (Or.inl rfl) (pe_op (r := rAddU K) op_addU (pv 9) (pe_op op_fdiv (pe_callB (id := "len") (r := rLenA K) call_lenA rfl B.len boot_len (pa_cons (pv 7) pa_nil)) (pe_callB (id := "len") (r := rLenA K) call_lenA rfl B.len boot_len (pa_cons (pv 8) pa_nil)))))
      (pss_cons (ps_set (i := 11) sc_block_form.nd rfl (Or.inl rfl) (pe_slice (r := rSlU K) sl_U (pv 6) (po_some (pe_op (r := rMulU K) op_mulU (pv 9) (pe_callB (id := "len") (r := rLenA K) call_lenA rfl B.len boot_len (pa_cons (pv 8) pa_nil)))) po_none))
      (pss_cons (ps_if (pt_cmpR op_gt (pe_callB (id := "len") (r := rLenA K) call_lenA rfl B.len boot_len (pa_cons (pv 0) pa_nil)) (pe_callB (id := "len") (r := rLenA K) call_lenA rfl B.len boot_len (pa_cons (pv 1) pa_nil)) (nomark _)) (pss_one (ps_par (i := 9) (j := 10) rfl sc_block_form.nd rfl rfl (by decide) rfl rfl (pa_cons (pv 10) (pa_cons (pv 9) pa_nil)) (by rfl))) pss_nil)
      (pss_one (ps_ret (pe_tup (pa_cons (pv 5) (pa_cons (pv 8) (pa_cons (pv 11) (pa_cons (pv 9) (pa_cons (pv 10) pa_nil)))))))))))))))))))), fun ds d ⟨a, b, h, ha, hb, la, lb, e⟩ => ?_⟩
  subst h
  cases e
  refine run_nx (run_par (a := T a) (b := T b) (eva_cons (evd_call0 (eva_cons (evd_var rfl) (eva_cons evd_int eva_nil)) ⟨T a, 0, rfl, by rw [lenD_T]; omega, (needT_T ha).symm⟩) (eva_cons (evd_call0 (eva_cons (evd_var rfl) (eva_cons evd_int eva_nil)) ⟨T b, 1, rfl, by rw [lenD_T]; omega, (needT_T hb).symm⟩) eva_nil))) ?_
  show RunD K E0 _ [.dat (T a), .dat (T b), .un, .un, .un, .un, .un, .un, .un, .un, .un, .un] _
  have heq := evt_test (K := K) (Γ := [.dat (T a), .dat (T b), .un, .un, .un, .un, .un, .un, .un, .un, .un, .un]) (evd_op (evd_cb (eva_cons (evd_var (i := 0) rfl) eva_nil) rlen_T) (evd_cb (eva_cons (evd_var (i := 1) rfl) eva_nil) rlen_T) req_int)
  unfold blockForm
  by_cases hlen : a.length = b.length
  · rw [if_pos hlen]
    exact run_rt (run_ifT (evt_is heq (by simp [hlen])) (run_ret evd_non))
  rw [if_neg hlen]
  refine run_nx (run_ifF (evt_is heq (by simp; omega)) run_next) ?_
  have hlt' := evt_test (K := K) (Γ := [.dat (T a), .dat (T b), .un, .un, .un, .un, .un, .un, .un, .un, .un, .un]) (evd_op (evd_cb (eva_cons (evd_var (i := 0) rfl) eva_nil) rlen_T) (evd_cb (eva_cons (evd_var (i := 1) rfl) eva_nil) rlen_T) (rop_B0 (g := fun i j => decide (i < j))))
  obtain ⟨l, g, hl, hg, hlt, hgl, hab⟩ : ∃ l g : Tx, isTextB (T l) = true ∧ isTextB (T g) = true ∧ l.length < g.length ∧ g.length ≤ 10000 ∧ (a.length < b.length ∧ l = a ∧ g = b ∨ ¬ a.length < b.length ∧ l = b ∧ g = a) := by
    by_cases z : a.length < b.length
    · exact ⟨a, b, ha, hb, z, lb, .inl ⟨z, rfl, rfl⟩⟩
    · exact ⟨b, a, hb, ha, by omega, la, .inr ⟨z, rfl, rfl⟩⟩
  have hres : (if a.length < b.length then formLG a b else (formLG b a).map fun f => { f with times := f.others, others := f.times }) = (if a.length < b.length then formLG l g else (formLG l g).map fun f => { f with times := f.others, others := f.times }) := by
    rcases hab with ⟨z, rfl, rfl⟩ | ⟨z, rfl, rfl⟩
    · rw [if_pos z, if_pos z]
    · rw [if_neg z, if_neg z]
  rw [hres]
  refine run_nx (run_asg (d := .tuple [T l, T g]) ?_ (gd_tup (gds_cons gd_name (gds_cons gd_name gds_nil)))) ?_
  · rcases hab with ⟨z, rfl, rfl⟩ | ⟨z, rfl, rfl⟩
    · exact evd_if hlt' (fun _ => evd_tup (eva_cons (evd_var rfl) (eva_cons (evd_var rfl) eva_nil))) (fun y => absurd y (by simp; omega))
    · exact evd_if hlt' (fun y => absurd y (by simp; omega)) (fun _ => evd_tup (eva_cons (evd_var rfl) (eva_cons (evd_var rfl) eva_nil)))
  have h1 := lcs_le1 l g
  generalize hah : l.length - lcs l g = ah
  have hah' : ah ≤ l.length := by omega
  refine run_nx (run_asg (d := .int (ah : Nat)) ?_ gd_name) ?_
  · have e : (ah : Int) = (l.length : Int) - (lcs l g : Nat) := by omega
    rw [e]
    exact evd_op (evd_cb (eva_cons (evd_var rfl) eva_nil) rlen_T) (evd_call0 (eva_cons (evd_var rfl) (eva_cons (evd_var rfl) eva_nil)) ⟨l, g, rfl, hl, hg, by omega, by omega, rfl⟩) rop_I0
  refine run_nx (run_par (a := T (l.take ah)) (b := T (l.drop ah)) (eva_cons ?_ (eva_cons ?_ eva_nil))) ?_
  · rw [← cut_pre (xs := l) (i := (ah : Int)) rfl]
    exact evd_sl (evd_var rfl) evo_no (evo_some (evd_var rfl)) rsl_T
  · rw [← cut_suf (xs := l) (i := (ah : Int)) rfl]
    exact evd_sl (evd_var rfl) (evo_some (evd_var rfl)) evo_no rsl_T
  have hne := evt_test (K := K) (Γ := [.dat (T a), .dat (T b), .dat (T l), .dat (T g), .dat (.int ah), .dat (T (l.take ah)), .dat (T (l.drop ah)), .un, .un, .un, .un, .un]) (evd_op (evd_sl (evd_var (i := 3) rfl) evo_no (evo_some (evd_var (i := 4) rfl)) rsl_T) (evd_var (i := 5) rfl) rne_T)
  rw [cut_pre rfl] at hne
  by_cases hf : g.take ah = l.take ah
  · refine run_nx (run_ifF (evt_is hne (by simp [hf])) run_next) ?_
    generalize hadd : (g.drop ah).take (g.length - l.length) = added
    have hal : added.length = g.length - l.length := by rw [← hadd, List.length_take, List.length_drop]; omega
    have hane : added ≠ [] := fun z => by rw [z] at hal; simp at hal; omega
    refine run_nx (run_asg (d := T added) ?_ gd_name) ?_
    · have e : (ah + (g.length - l.length)) - ah = g.length - l.length := by omega
      rw [← hadd, ← e, ← cut_mid (xs := g) (i := (ah : Int)) (j := (ah : Int) + (g.length : Int) - (l.length : Int)) rfl (by omega)]
      exact evd_sl (evd_var rfl) (evo_some (evd_var rfl)) (evo_some (evd_op (evd_op (evd_var rfl) (evd_cb (eva_cons (evd_var rfl) eva_nil) rlen_T) radd_int) (evd_cb (eva_cons (evd_var rfl) eva_nil) rlen_T) rop_I0)) rsl_T
    generalize hblk : added.take (rootL added) = block
    have hr1 := rootL_pos hane
    have hr2 := rootL_le added
    have hbl : block.length = rootL added := by rw [← hblk, List.length_take]; omega
    have hbne : block ≠ [] := fun z => by rw [z] at hbl; simp at hbl; omega
    refine run_nx (run_asg (d := T block) ?_ gd_name) ?_
    · rw [← hblk, ← cut_pre (xs := added) (i := ((rootL added : Nat) : Int)) rfl]
      exact evd_sl (evd_var rfl) evo_no (evo_some (evd_call0 (eva_cons (evd_var rfl) eva_nil) ⟨added, rfl, by omega, rfl⟩)) rsl_T
    generalize ht : lead (l.drop ah) block = times
    have htl : times * block.length ≤ (l.drop ah).length := by rw [← ht]; exact lead_le hbne
    have hdl : (l.drop ah).length ≤ 10000 := by rw [List.length_drop]; omega
    refine run_nx (run_asg (d := .int (times : Nat)) (evd_call0 (eva_cons (evd_var rfl) (eva_cons (evd_var rfl) eva_nil)) ⟨l.drop ah, block, rfl, hbne, hdl, by omega, by rw [ht]⟩) gd_name) ?_
    refine run_nx (run_asg (d := .int (times + added.length / block.length : Nat)) ?_ gd_name) ?_
    · have e : ((times + added.length / block.length : Nat) : Int) = (times : Int) + (added.length : Int) / (block.length : Int) := by omega
      rw [e]
      exact evd_op (evd_var rfl) (evd_op (evd_cb (eva_cons (evd_var rfl) eva_nil) rlen_T) (evd_cb (eva_cons (evd_var rfl) eva_nil) rlen_T) (rop_I ⟨by omega, by omega⟩)) radd_int
    have htm : times ≤ 10000 := by
      have : times * 1 ≤ times * block.length := Nat.mul_le_mul_left _ (by omega)
      omega
    refine run_nx (run_asg (d := T ((l.drop ah).drop (times * block.length))) ?_ gd_name) ?_
    · rw [← cut_suf (xs := l.drop ah) (i := (times : Int) * (block.length : Int)) (by simp)]
      exact evd_sl (evd_var rfl) (evo_some (evd_op (evd_var rfl) (evd_cb (eva_cons (evd_var rfl) eva_nil) rlen_T) (rmul_int (.inl ⟨by omega, by omega⟩)))) evo_no rsl_T
    rw [formLG_of hah hf hadd hblk ht]
    generalize (l.drop ah).drop (times * block.length) = back
    generalize times + added.length / block.length = others
    have hgt := evt_test (K := K) (Γ := [.dat (T a), .dat (T b), .dat (T l), .dat (T g), .dat (.int ah), .dat (T (l.take ah)), .dat (T (l.drop ah)), .dat (T added), .dat (T block), .dat (.int times), .dat (.int others), .dat (T back)]) (evd_op (evd_cb (eva_cons (evd_var (i := 0) rfl) eva_nil) rlen_T) (evd_cb (eva_cons (evd_var (i := 1) rfl) eva_nil) rlen_T) (rop_B0 (g := fun i j => decide (j < i))))
    by_cases hab2 : a.length < b.length
    · rw [if_pos hab2]
      refine run_nx (run_ifF (evt_is hgt (by simp; omega)) run_next) (run_ret ?_)
      exact evd_tup (eva_cons (evd_var rfl) (eva_cons (evd_var rfl) (eva_cons (evd_var rfl) (eva_cons (evd_var rfl) (eva_cons (evd_var rfl) eva_nil)))))
    · rw [if_neg hab2]
      refine run_nx (run_ifT (evt_is hgt (by simp; omega)) (run_par (eva_cons (evd_var rfl) (eva_cons (evd_var rfl) eva_nil)))) (run_ret ?_)
      exact evd_tup (eva_cons (evd_var rfl) (eva_cons (evd_var rfl) (eva_cons (evd_var rfl) (eva_cons (evd_var rfl) (eva_cons (evd_var rfl) eva_nil)))))
  · rw [formLG_no hah hf]
    have e : formD (if a.length < b.length then none else (none : Option Form).map fun f => { f with times := f.others, others := f.times }) = .none := by
      by_cases z : a.length < b.length
      · rw [if_pos z]; rfl
      · rw [if_neg z]; rfl
    rw [e]
    exact run_rt (run_ifT (evt_is hne (by simp [hf])) (run_ret evd_non))
end CB

/-! W6 -/
set_option Elab.async false
set_option linter.all false
set_option maxRecDepth 100000
set_option maxHeartbeats 4000000
namespace CB
open PySem PySem.Spec PyProof.Rows L2
/-- the places of an order, one by one -/
def needGo (n : Int) : List D → Tx → Nat → Except Nat Tx
  | [], acc, _ => .ok acc
  | d :: ds, acc, i => if isBelow d n && !decide (intOf d ∈ acc) then needGo n ds (acc ++ [intOf d]) (i + 1) else .error i
def needH (o : D) (n : Int) : Res := match seqOf o with
  | none => .er .order (-1)
  | some ds => match needGo n ds [] 0 with
    | .ok t => .ok (T t)
    | .error i => .er .order i
theorem below_int {d : D} {n : Int} (h : isBelow d n = true) : d = .int (intOf d) := by
  cases d <;> first | rfl | cases h
variable {P : Program} {w : World} {K : PySem.W.Frag} {mg : Str → Option Value} {base : Heap}
def F_need_hands (ds : List D) (r : Res) : Prop := ∃ o n, ds = [o, .int n] ∧ lenD o ≤ 1000 ∧ r = needH o n
theorem sc_need_hands : FnScope ["value", "many", "places", "at", "place"] ["value", "many"] (defScope s_need_hands) := ⟨rfl, rfl, rfl, by decide +kernel, rfl, by decide +kernel, by decide +kernel⟩
theorem inF_ints (i : Int) : ∀ t : Tx, inF (.int i) (t.map PyData.int) = decide (i ∈ t)
  | [] => by simp [inF]
  | x :: t => by
    have ih := inF_ints i t
    unfold inF at ih ⊢
    rw [List.map_cons, List.any_cons, ih]
    have e : eqF (.int x) (.int i) = decide (i = x) := by
      show (x == i) = _
      rw [Bool.beq_eq_decide_eq]
      congr 1
      exact propext ⟨Eq.symm, Eq.symm⟩
    rw [e]
    by_cases h : i = x <;> by_cases h' : i ∈ t <;> simp [h, h']
theorem flat_ints : ∀ t : Tx, (t.map PyData.int).all flatD = true
  | [] => rfl
  | _ :: t => flat_ints t
theorem ok_need_hands {fd : FuncData} (Fu : FnP K "need_hands" s_need_hands [] fd) (B : Bl mg) (e_order : ErT P K mg .order) (h_is_below : HasF P w K mg base 3 "is_below" ["value", "many"] [] (spD K F_is_below)) (h_is_sequence : HasF P w K mg base 1 "is_sequence" ["value"] [] (spD K F_is_sequence)) : FnOk P w K mg base (L2.CX P w) 4 (He.ga K "need_hands") fd ["value", "many"] (spD K F_need_hands) := by
  refine fnMX Fu sc_need_hands (fun ds r ⟨o, n, h, _, e⟩ => by rw [h]; rfl) fun cdv A outer s H E hr tk hx hpo => ⟨_, (pss_cons (ps_if (pt_not (pt_val (pe_f h_is_sequence (hr.mono (by decide)) (pa_cons (pv 0) pa_nil)))) (pss_one (ps_raiseI (j := 0) e_order (hr.mono (by decide)) tk (pa_cons (pe_un un_neg pe_int) pa_nil))) pss_nil)
      (pss_cons (ps_set (i := 2) sc_need_hands.nd rfl (Or.inl rfl) (pe_lst pa_nil))
      (pss_cons (ps_for hpo rfl (pi_enumS rfl B.enumerate (pa_cons (pv 0) pa_nil)) (pg_tup rfl (pgs_cons (pg_name (i := 3) sc_need_hands.nd rfl (Or.inl rfl)) (pgs_cons (pg_name (i := 4) sc_need_hands.nd rfl (Or.inl rfl)) pgs_nil)))
      (pss_cons (ps_if (PW.pt (pw_or (pt_not (pt_val (pe_f h_is_below (hr.mono (by decide)) (pa_cons (pv 4) (pa_cons (pv 1) pa_nil))))) (pw_or1 (pt_cmpR (r := rIn K false) op_in_seq (pv 4) (pv 2) (by with_unfolding_all rfl))))) (pss_one (ps_raiseI (j := 0) e_order (hr.mono (by decide)) tk (pa_cons (pv 3) pa_nil))) pss_nil)
      (pss_one (ps_expr (pe_bm PySem.F.plainAttrs_list PySem.F.slot_list_append PySem.F.type_list_append mt_append (pv 2) (pa_cons (pv 4) pa_nil))))))
      (pss_one (ps_ret (pe_callTy (T := "tuple") (r := rTupA K) call_tupA rfl B.tuple (by decide +kernel) (pa_cons (pv 2) pa_nil))))))), fun ds r Mx ⟨o, n, h, hl, e⟩ => ?_⟩
  subst h e
  have hq : EvT K (tNot (tB (tCall (spD K F_is_sequence) [] E0 (tCons (tVar 0) tNil)))) [.dat o, .dat (.int n), .un, .un, .un] (!isSeq o) := evt_not (evt_B (evd_call0 (eva_cons (evd_var rfl) eva_nil) ⟨o, rfl, rfl⟩))
  unfold needH
  cases hs : seqOf o with
  | none =>
    have e2 : isSeq o = false := by rw [isSeq_iff, hs]; rfl
    rw [e2] at hq
    exact runm_end (run_er (run_ifT hq (run_raise (eva_cons (evd_un evd_int run_neg) eva_nil)))) rfl
  | some ds =>
    have e2 : isSeq o = true := by rw [isSeq_iff, hs]; rfl
    rw [e2] at hq
    have hlen : ds.length ≤ 1000 := by unfold lenD at hl; rw [hs] at hl; exact hl
    refine runm_nx (run_ifF hq run_next) (runm_new (Γ := [.dat o, .dat (.int n), .un, .un, .un]) (j := 2) eva_nil (by simp) fun a => ?_)
    have hlast : ∀ (acc : Tx) (s3 s4 : Sl), needGo n ds [] 0 = .ok acc → RunM K Mx [] (fun _ => True) E (tRet (tCB (rTupA K) (tCons (tVar 2) tNil))) [(a, acc.map PyData.int)] [.dat o, .dat (.int n), .ref a, s3, s4] (fun o' _ => o' = outOf (match needGo n ds [] 0 with | .ok t => .ok (T t) | .error i => .er .order i)) := fun acc s3 s4 h => by
      rw [h]
      exact runm_retT (Γ' := [.dat o, .dat (.int n), .dat (.list (acc.map PyData.int)), s3, s4]) (.same (.same (.own List.mem_cons_self (.same (.same .nil))))) (evd_cb (eva_cons (evd_var rfl) eva_nil) rtup_lst) rfl
    refine runm_seq (Ψ' := fun o' ms' => (∃ acc s3 s4, needGo n ds [] 0 = .ok acc ∧ o' = .nx [.dat o, .dat (.int n), .ref a, s3, s4] ∧ ms' = [(a, acc.map PyData.int)]) ∨ ∃ i : Nat, needGo n ds [] 0 = .error i ∧ o' = .er .order i) ?_ (fun Γ1 ms1 h => ?_) (fun o' ms1 h hn => ?_)
    · refine runm_for (R := fun es ms Γ => ∃ (rest : List D) (acc : Tx) (i : Nat) (s3 s4 : Sl), es = enumF i rest ∧ ms = [(a, acc.map PyData.int)] ∧ Γ = [.dat o, .dat (.int n), .ref a, s3, s4] ∧ needGo n rest acc i = needGo n ds [] 0 ∧ acc.length + rest.length ≤ 1000)
        (itd_enum (evd_var rfl) hs) ⟨ds, [], 0, .un, .un, enumD_eq ds, rfl, rfl, rfl, by simpa using hlen⟩ ?_ ?_
      · rintro d es ms Γ ⟨rest, acc, i, s3, s4, h1, rfl, rfl, h4, h5⟩
        cases rest with
        | nil => cases h1
        | cons e rest =>
          obtain ⟨rfl, rfl⟩ := List.cons.inj h1
          refine ⟨[.dat o, .dat (.int n), .ref a, .dat (.int i), .dat e], gd_tup (gds_cons gd_name (gds_cons gd_name gds_nil)), ?_⟩
          have th : Thw [(a, acc.map PyData.int)] [.dat o, .dat (.int n), .ref a, .dat (.int i), .dat e] [.dat o, .dat (.int n), .dat (.list (acc.map PyData.int)), .dat (.int i), .dat e] := .same (.same (.own List.mem_cons_self (.same (.same .nil))))
          have hc : EvT K (tOr (tNot (tB (tCall (spD K F_is_below) [] E0 (tCons (tVar 4) (tCons (tVar 1) tNil))))) (tTest (tOp (rIn K false) (tVar 4) (tVar 2)))) [.dat o, .dat (.int n), .dat (.list (acc.map PyData.int)), .dat (.int i), .dat e] (!isBelow e n || decide (intOf e ∈ acc)) :=
            evt_or (evt_not (evt_B (evd_call0 (eva_cons (evd_var rfl) (eva_cons (evd_var rfl) eva_nil)) ⟨e, n, rfl, rfl⟩))) fun hb => by
              have hb' : isBelow e n = true := by simpa using hb
              refine evt_test (evd_op (evd_var rfl) (evd_var rfl) ?_)
              have ei := below_int hb'
              generalize intOf e = z at ei ⊢
              subst ei
              rw [← inF_ints z acc]
              exact rin_lst (neg := false) rfl (flat_ints acc)
          have hgo : needGo n (e :: rest) acc i = if isBelow e n && !decide (intOf e ∈ acc) then needGo n rest (acc ++ [intOf e]) (i + 1) else .error i := rfl
          refine runm_ifN th hc (fun hb => ?_) fun hb => ?_
          · have hn : (isBelow e n && !decide (intOf e ∈ acc)) = false := by
              cases h1 : isBelow e n <;> cases h2 : decide (intOf e ∈ acc) <;> simp_all
            rw [hn, if_neg (by simp)] at hgo
            exact runm_end (run_er (run_raise (eva_cons (evd_var rfl) eva_nil))) (.inr ⟨i, by rw [← h4, hgo], rfl⟩)
          · have hb' : isBelow e n = true ∧ ¬ intOf e ∈ acc := by
              cases h1 : isBelow e n <;> cases h2 : decide (intOf e ∈ acc) <;> simp_all
            rw [hb'.1, decide_eq_false hb'.2] at hgo
            refine runm_skip (runm_appE (tr := tNil) (j := 2) rfl List.mem_cons_self rfl (by rw [List.length_map]; omega) (evm_of (evd_var (i := 4) rfl)) fun d hd => ?_)
            have hd' : d = e := hd
            subst d
            refine ⟨rest, acc ++ [intOf e], i + 1, _, _, rfl, ?_, rfl, ?_, ?_⟩
            · unfold setM
              rw [List.map_cons, List.map_nil, if_pos rfl, List.map_append, List.map_singleton, ← below_int hb'.1]
            · rw [← h4, hgo]; rfl
            · rw [List.length_append, List.length_singleton]
              rw [List.length_cons] at h5
              omega
      · rintro ms Γ ⟨rest, acc, i, s3, s4, h1, rfl, rfl, h4, h5⟩
        cases rest with
        | nil => exact .inl ⟨acc, s3, s4, h4.symm, rfl, rfl⟩
        | cons e rest => cases h1
    · rcases h with ⟨acc, s3, s4, h1, h2, rfl⟩ | ⟨i, _, h2⟩
      · cases h2
        exact hlast acc s3 s4 h1
      · cases h2
    · rcases h with ⟨acc, s3, s4, h1, h2, rfl⟩ | ⟨i, h1, h2⟩
      · exact absurd h2 (hn _)
      · show o' = outOf (match needGo n ds [] 0 with | .ok t => .ok (T t) | .error i => .er .order i)
        rw [h1]; exact h2
end CB

/-! W7 -/
set_option Elab.async false
set_option linter.all false
set_option maxRecDepth 100000
set_option maxHeartbeats 4000000
namespace CB
open PySem PySem.Spec PyProof.Rows L2
theorem isTextB_T (t : Tx) : isTextB (T t) = t.all fun x => decide (0 ≤ x) && decide (x < 100) := by
  unfold isTextB T seqOf
  show (t.map PyData.int).all isLet = _
  rw [List.all_map]
  rfl
def tOk (t : Tx) : Prop := ∀ x ∈ t, 0 ≤ x ∧ x < 100
theorem tOk_iff {t : Tx} : isTextB (T t) = true ↔ tOk t := by
  rw [isTextB_T, List.all_eq_true]
  exact ⟨fun h x hx => by have := h x hx; simpa using this, fun h x hx => by have := h x hx; simpa using this⟩
theorem merge_ok {a b c t : Tx} (hb : tOk b) (hc : tOk c) (h : merge a b c = some t) : tOk t := by
  unfold merge at h
  by_cases z : lcp a c < a.length - lcs a b
  · rw [if_pos z] at h; cases h
  · rw [if_neg z] at h
    cases h
    intro x hx
    rcases List.mem_append.mp hx with y | y
    · exact hb x (List.mem_of_mem_take y)
    · exact hc x (List.mem_of_mem_drop y)
theorem merge_len {a b c t : Tx} (h : merge a b c = some t) : t.length ≤ b.length + c.length := by
  unfold merge at h
  by_cases z : lcp a c < a.length - lcs a b
  · rw [if_pos z] at h; cases h
  · rw [if_neg z] at h
    cases h
    rw [List.length_append, List.length_take, List.length_drop]
    omega
/-- one by one, each into the text so far -/
def endGo (base : Tx) (vs : List Tx) : Tx → List Nat → Option Tx
  | t, [] => some t
  | t, p :: ps => match merge base (vs.getD p []) t with
    | none => none
    | some t' => endGo base vs t' ps
def ends (base : Tx) (vs : List Tx) (o : List Nat) : Option Tx := endGo base vs base o
def vsOf (d : D) : List Tx := ((seqOf d).getD []).map txOf
def nats (t : Tx) : List Nat := t.map Int.toNat
def handsR (b vs o : D) : Res := match needT b (-1) with
  | .er k i => .er k i
  | .ok _ => match needV vs with
    | .er k i => .er k i
    | .ok _ => match seqOf o with
      | none => .er .order (-1)
      | some os => match needGo (vsOf vs).length os [] 0 with
        | .error i => .er .order i
        | .ok t => .ok (optT (ends (txOf b) (vsOf vs) (nats t)))
variable {P : Program} {w : World} {K : PySem.W.Frag} {mg : Str → Option Value} {base : Heap}
def smallV (vs : D) : Prop := lenD vs ≤ 8 ∧ ∀ es, seqOf vs = some es → ∀ e ∈ es, lenD e ≤ 200
def F_hands_end (ds : List D) (r : Res) : Prop := ∃ b vs o, ds = [b, vs, o] ∧ lenD b ≤ 200 ∧ smallV vs ∧ lenD o ≤ 8 ∧ r = handsR b vs o
theorem sc_hands_end : FnScope ["base", "versions", "order", "text", "place"] ["base", "versions", "order"] (defScope s_hands_end) := ⟨rfl, rfl, rfl, by decide +kernel, rfl, by decide +kernel, by decide +kernel⟩
theorem badAt_none : ∀ {ds : List D} {n : Nat}, badAt ds n = none → ∀ d ∈ ds, isTextB d = true
  | [], _, _, d, h => by cases h
  | e :: es, n, hb, d, h => by
    unfold badAt at hb
    cases he : isTextB e with
    | false => rw [he] at hb; cases hb
    | true =>
      rw [he, if_pos rfl] at hb
      rcases List.mem_cons.mp h with z | z
      · rw [z]; exact he
      · exact badAt_none hb d z
/-- what need_versions hands back -/
theorem needV_ok {vs d : D} (h : needV vs = .ok d) : d = .tuple ((vsOf vs).map T) ∧ vsOf vs ≠ [] ∧ (∀ t ∈ vsOf vs, tOk t) ∧ (∀ es, seqOf vs = some es → es.length = (vsOf vs).length ∧ ∀ e ∈ es, isTextB e = true) := by
  unfold needV at h
  cases hs : seqOf vs with
  | none => rw [hs] at h; cases h
  | some es =>
    rw [hs] at h
    cases es with
    | nil => cases h
    | cons e es =>
      have h' : (match badAt (e :: es) 0 with | some n => Res.er .versions n | none => .ok (.tuple ((e :: es).map fun d => T (txOf d)))) = .ok d := h
      cases hb : badAt (e :: es) 0 with
      | some m => rw [hb] at h'; cases h'
      | none =>
        rw [hb] at h'
        have ev : vsOf vs = (e :: es).map txOf := by unfold vsOf; rw [hs]; rfl
        have al := badAt_none hb
        refine ⟨?_, by rw [ev]; simp, ?_, ?_⟩
        · rw [ev, List.map_map]
          cases h'
          rfl
        · rw [ev]
          intro t ht
          obtain ⟨x, hx, rfl⟩ := List.mem_map.mp ht
          rw [← tOk_iff]
          have hx2 := al x hx
          obtain ⟨xs, hxs⟩ : ∃ xs, seqOf x = some xs := by
            unfold isTextB at hx2
            cases q : seqOf x with
            | none => rw [q] at hx2; cases hx2
            | some xs => exact ⟨xs, rfl⟩
          rw [← tx_of hxs hx2]
          unfold isTextB at hx2 ⊢
          rw [hxs] at hx2
          exact hx2
        · intro es' he
          cases he
          rw [ev, List.length_map]
          exact ⟨rfl, al⟩
theorem needT_ok {b d : D} {i : Int} (h : needT b i = .ok d) : d = T (txOf b) ∧ tOk (txOf b) := by
  unfold needT at h
  cases hb : isTextB b with
  | false => rw [hb] at h; cases h
  | true =>
    rw [hb] at h
    cases h
    refine ⟨rfl, ?_⟩
    rw [← tOk_iff]
    obtain ⟨xs, hxs⟩ : ∃ xs, seqOf b = some xs := by
      unfold isTextB at hb
      cases q : seqOf b with
      | none => rw [q] at hb; cases hb
      | some xs => exact ⟨xs, rfl⟩
    rw [← tx_of hxs hb]
    unfold isTextB at hb ⊢
    rw [hxs] at hb
    exact hb
theorem needGo_ok {n : Int} : ∀ {ds : List D} {acc t : Tx} {i : Nat}, needGo n ds acc i = .ok t → (∀ x ∈ acc, 0 ≤ x ∧ x < n) → (∀ x ∈ t, 0 ≤ x ∧ x < n) ∧ t.length = acc.length + ds.length ∧ t = acc ++ ds.map intOf
  | [], acc, t, i, h, ha => by
    cases h
    exact ⟨ha, rfl, by simp⟩
  | d :: ds, acc, t, i, h, ha => by
    unfold needGo at h
    cases hb : (isBelow d n && !decide (intOf d ∈ acc)) with
    | false => rw [hb] at h; cases h
    | true =>
      rw [hb, if_pos rfl] at h
      rw [Bool.and_eq_true] at hb
      have hd : 0 ≤ intOf d ∧ intOf d < n := by
        have e := below_int hb.1
        have h1 := hb.1
        rw [e] at h1
        simpa [isBelow] using h1
      obtain ⟨h1, h2, h3⟩ := needGo_ok h (fun x hx => by
        rcases List.mem_append.mp hx with z | z
        · exact ha x z
        · have : x = intOf d := by simpa using z
          rw [this]; exact hd)
      refine ⟨h1, ?_, ?_⟩
      · rw [h2, List.length_append, List.length_singleton, List.length_cons]; omega
      · rw [h3, List.append_assoc]; rfl
theorem ok_hands_end {fd : FuncData} (Fu : FnP K "hands_end" s_hands_end [] fd) (B : Bl mg)  (h_merge_texts : HasF P w K mg base 8 "merge_texts" ["base", "mine", "yours"] [] (spD K F_merge_texts)) (h_need_hands : HasF P w K mg base 4 "need_hands" ["value", "many"] [] (spD K F_need_hands)) (h_need_text : HasF P w K mg base 6 "need_text" ["value", "at"] [] (spD K F_need_text)) (h_need_versions : HasF P w K mg base 6 "need_versions" ["value"] [] (spD K F_need_versions)) {vm1 : Value} (vals_m1 : L2.Vals [V.int (-1)] [vm1]) (h_need_text1 : HasF P w K mg base 6 "need_text" ["value", "at"] [vm1] (spD K F_need_text)) : FnOk P w K mg base (L2.CX P w) 9 (He.ga K "hands_end") fd ["base", "versions", "order"] (spD K F_hands_end) := by
  refine fnX Fu sc_hands_end (fun ds r ⟨b, vs, o, h, _, _, _, e⟩ => by rw [h]; rfl) fun cdv A outer s H E hr tk hx hpo => ⟨_, (pss_cons (ps_par (i := 0) (j := 1) rfl sc_hands_end.nd rfl rfl (by decide) rfl rfl (pa_cons (pe_fd h_need_text1 (hr.mono (by decide)) rfl vals_m1 hx (pa_cons (pv 0) pa_nil)) (pa_cons (pe_fd h_need_versions (hr.mono (by decide)) rfl .nil hx (pa_cons (pv 1) pa_nil)) pa_nil)) (by rfl))
      (pss_cons (ps_set (i := 3) sc_hands_end.nd rfl (Or.inl rfl) (pv 0))
      (pss_cons (ps_for hpo rfl (pi_seq (pe_fd h_need_hands (hr.mono (by decide)) rfl .nil hx (pa_cons (pv 2) (pa_cons (pe_callB (id := "len") (r := rLenA K) call_lenA rfl B.len boot_len (pa_cons (pv 1) pa_nil)) pa_nil)))) (pg_name (i := 4) sc_hands_end.nd rfl (Or.inl rfl))
      (pss_cons (ps_set (i := 3) sc_hands_end.nd rfl (Or.inl rfl) (pe_f h_merge_texts (hr.mono (by decide)) (pa_cons (pv 0) (pa_cons (pe_ix (r := rIx K) ix_seq (pv 1) (pv 4) (fun _ _ => rfl)) (pa_cons (pv 3) pa_nil)))))
      (pss_one (ps_if (pt_cmpR op_isNN (pv 3) pe_non (nomark _)) (pss_one (ps_ret pe_non)) pss_nil))))
      (pss_one (ps_ret (pv 3)))))), fun ds r ⟨b, vs, o, h, hlb, ⟨hlv, hle⟩, hlo, e⟩ => ?_⟩
  subst h e
  unfold handsR
  have m1 : ∀ G, DqAll K G [V.int (-1)] [PyData.int (-1)] := fun G => .cons (.int _) .nil
  have hT : F_need_text ([b] ++ [.int (-1)]) (needT b (-1)) := ⟨b, -1, rfl, by omega, rfl⟩
  cases h1 : needT b (-1) with
  | er k i =>
    rw [h1] at hT
    exact run_er (run_parE (evae_here (eve_call (eva_cons (evd_var rfl) eva_nil) m1 hT)))
  | ok db =>
  rw [h1] at hT
  obtain ⟨rfl, hbk⟩ := needT_ok h1
  have hV : F_need_versions [vs] (needV vs) := ⟨vs, rfl, by omega, fun es he e hm => by have := hle es he e hm; omega, rfl⟩
  cases h2 : needV vs with
  | er k i =>
    rw [h2] at hV
    exact run_er (run_parE (evae_next (evd_call (eva_cons (evd_var rfl) eva_nil) m1 hT) (evae_here (eve_call0 (eva_cons (evd_var rfl) eva_nil) hV))))
  | ok dv =>
  rw [h2] at hV
  obtain ⟨rfl, hvn, hvk, hve⟩ := needV_ok h2
  refine run_nx (run_par (eva_cons (evd_call (eva_cons (evd_var rfl) eva_nil) m1 hT) (eva_cons (evd_call0 (eva_cons (evd_var rfl) eva_nil) hV) eva_nil))) (run_nx (run_asg (evd_var rfl) gd_name) ?_)
  show RunD K E _ [.dat (T (txOf b)), .dat (.tuple ((vsOf vs).map T)), .dat o, .dat (T (txOf b)), .un] _
  have hlen : EvD K (tCB (rLenA K) (tCons (tVar 1) tNil)) [.dat (T (txOf b)), .dat (.tuple ((vsOf vs).map T)), .dat o, .dat (T (txOf b)), .un] (.int (vsOf vs).length) := evd_is (evd_cb (eva_cons (evd_var rfl) eva_nil) rlen_tup) (by rw [List.length_map])
  have hH : F_need_hands [o, .int (vsOf vs).length] (needH o (vsOf vs).length) := ⟨o, _, rfl, by omega, rfl⟩
  unfold needH at hH
  cases h3 : seqOf o with
  | none =>
    rw [h3] at hH
    exact run_er (run_forE (eve_call0 (eva_cons (evd_var rfl) (eva_cons hlen eva_nil)) hH))
  | some os =>
  rw [h3] at hH
  cases h4 : needGo (vsOf vs).length os [] 0 with
  | error i =>
    have hH' : F_need_hands [o, .int (vsOf vs).length] (.er .order i) := by
      have : (match needGo (vsOf vs).length os [] 0 with | .ok t => Res.ok (T t) | .error i => .er .order i) = .er .order i := by rw [h4]
      rw [← this]; exact hH
    show RunD K E _ _ (outOf (match needGo (vsOf vs).length os [] 0 with | .error i => .er .order i | .ok t => .ok (optT (ends (txOf b) (vsOf vs) (nats t)))))
    rw [h4]
    exact run_er (run_forE (eve_call0 (eva_cons (evd_var rfl) (eva_cons hlen eva_nil)) hH'))
  | ok t =>
  have hH' : F_need_hands [o, .int (vsOf vs).length] (.ok (T t)) := by
    have : (match needGo (vsOf vs).length os [] 0 with | .ok t => Res.ok (T t) | .error i => .er .order i) = .ok (T t) := by rw [h4]
    rw [← this]; exact hH
  show RunD K E _ _ (outOf (match needGo (vsOf vs).length os [] 0 with | .error i => .er .order i | .ok t => .ok (optT (ends (txOf b) (vsOf vs) (nats t)))))
  rw [h4]
  obtain ⟨hb1, hb2, _⟩ := needGo_ok h4 (fun x hx => by cases hx)
  have htl : t.length ≤ 8 := by
    have : os.length ≤ 8 := by unfold lenD at hlo; rw [h3] at hlo; exact hlo
    have hb2' : t.length = os.length := by simpa using hb2
    omega
  have hvl : (vsOf vs).length ≤ 8 ∧ ∀ t ∈ vsOf vs, t.length ≤ 200 := by
    have hss : ∃ es, seqOf vs = some es := by
      cases q : seqOf vs with
      | none => unfold needV at h2; rw [q] at h2; cases h2
      | some es => exact ⟨es, rfl⟩
    obtain ⟨es, hes⟩ := hss
    have ev : vsOf vs = es.map txOf := by unfold vsOf; rw [hes]; rfl
    refine ⟨by rw [ev, List.length_map]; unfold lenD at hlv; rw [hes] at hlv; exact hlv, fun t ht => ?_⟩
    rw [ev] at ht
    obtain ⟨x, hx, rfl⟩ := List.mem_map.mp ht
    have h1 := hle es hes x hx
    have h2 := (hve es hes).2 x hx
    unfold isTextB at h2
    unfold txOf
    unfold lenD at h1
    cases q : seqOf x with
    | none => rw [q] at h2; cases h2
    | some xs => rw [q] at h1; simpa using h1
  have hbl : (txOf b).length ≤ 200 := by
    unfold txOf
    unfold lenD at hlb
    cases q : seqOf b with
    | none => simp
    | some xs => rw [q] at hlb; simpa using hlb
  generalize txOf b = bt at hbk hbl hlen ⊢
  generalize vsOf vs = vt at hvn hvk hvl h4 hb1 hlen hH' ⊢
  -- the loop
  have loop : ∀ (ps : Tx) (x : Tx) (z : Sl), (∀ p ∈ ps, 0 ≤ p ∧ p < (vt.length : Int)) → tOk x → x.length + 200 * ps.length ≤ 2000 → ∃ z', Loop K E (gName 4) (tSeq (tAsg (tCall (spD K F_merge_texts) [] E0 (tCons (tVar 0) (tCons (tOp (rIx K) (tVar 1) (tVar 4)) (tCons (tVar 3) tNil)))) (gName 3)) (tIfS (tTest (tOp rIsN (tVar 3) (tC .non))) (tRet (tC .non)) tNext))
      (ps.map PyData.int) [.dat (T bt), .dat (.tuple (vt.map T)), .dat o, .dat (T x), z] (match endGo bt vt x (nats ps) with | none => .rt .none | some y => .nx [.dat (T bt), .dat (.tuple (vt.map T)), .dat o, .dat (T y), z']) := by
    intro ps
    induction ps with
    | nil => exact fun x z _ _ _ => ⟨z, .nil⟩
    | cons p ps ih =>
      intro x z hp hx hl
      obtain ⟨p0, p1⟩ := hp p List.mem_cons_self
      have hpn : p.toNat < vt.length := by omega
      have hget : (vt.map T)[p.toNat]? = some (T (vt.getD p.toNat [])) := by
        rw [List.getElem?_map, List.getD_eq_getElem?_getD, List.getElem?_eq_getElem hpn]; rfl
      have hmem : vt.getD p.toNat [] ∈ vt := by
        rw [List.getD_eq_getElem?_getD, List.getElem?_eq_getElem hpn]
        exact List.getElem_mem hpn
      have h200 := hvl.2 _ hmem
      rw [List.length_cons] at hl
      have hbody : RunD K E (tAsg (tCall (spD K F_merge_texts) [] E0 (tCons (tVar 0) (tCons (tOp (rIx K) (tVar 1) (tVar 4)) (tCons (tVar 3) tNil)))) (gName 3)) [.dat (T bt), .dat (.tuple (vt.map T)), .dat o, .dat (T x), .dat (.int p)] (.nx [.dat (T bt), .dat (.tuple (vt.map T)), .dat o, .dat (optT (merge bt (vt.getD p.toNat []) x)), .dat (.int p)]) :=
        run_asg (evd_call0 (eva_cons (evd_var rfl) (eva_cons (evd_op (evd_var rfl) (evd_var rfl) (rix_tup (atI_nat (n := p.toNat) (by omega) hget))) (eva_cons (evd_var rfl) eva_nil))) ⟨bt, vt.getD p.toNat [], x, rfl, tOk_iff.mpr hbk, tOk_iff.mpr (hvk _ hmem), tOk_iff.mpr hx, by omega, by omega, by omega, rfl⟩) gd_name
      have htest : EvT K (tTest (tOp rIsN (tVar 3) (tC .non))) [.dat (T bt), .dat (.tuple (vt.map T)), .dat o, .dat (optT (merge bt (vt.getD p.toNat []) x)), .dat (.int p)] (isNon (optT (merge bt (vt.getD p.toNat []) x))) := evt_test (evd_op (evd_var rfl) evd_non ris_N)
      show ∃ z', Loop K E _ _ (PyData.int p :: ps.map PyData.int) _ (match endGo bt vt x (p.toNat :: nats ps) with | none => .rt .none | some y => .nx [.dat (T bt), .dat (.tuple (vt.map T)), .dat o, .dat (T y), z'])
      unfold endGo
      cases hm : merge bt (vt.getD p.toNat []) x with
      | none =>
        rw [hm] at hbody htest
        exact ⟨.un, .rt gd_name (run_nx hbody (run_ifT htest (run_ret evd_non)))⟩
      | some y =>
        rw [hm] at hbody htest
        have hml := merge_len hm
        obtain ⟨z', L⟩ := ih y (.dat (.int p)) (fun q hq => hp q (List.mem_cons_of_mem _ hq)) (merge_ok (hvk _ hmem) hx hm) (by omega)
        exact ⟨z', .nx gd_name (run_nx hbody (run_ifF htest run_next)) L⟩
  obtain ⟨z', L⟩ := loop t bt .un hb1 hbk (by omega)
  have it := run_for (E := E) (itd_seqT (K := K) (te := tCall (spD K F_need_hands) [] E (tCons (tVar 2) (tCons (tCB (rLenA K) (tCons (tVar 1) tNil)) tNil))) (Γ := [.dat (T bt), .dat (.tuple (vt.map T)), .dat o, .dat (T bt), .un]) (ds := t.map PyData.int) (evd_call0 (eva_cons (evd_var rfl) (eva_cons hlen eva_nil)) hH')) L
  show RunD K E _ _ (.rt (optT (ends bt vt (nats t))))
  unfold ends
  cases he : endGo bt vt bt (nats t) with
  | none =>
    rw [he] at it
    exact run_rt it
  | some y =>
    rw [he] at it
    exact run_nx it (run_ret (evd_var rfl))
end CB

/-! W8 -/
set_option Elab.async false
set_option linter.all false
set_option maxRecDepth 100000
set_option maxHeartbeats 4000000
namespace CB
open PySem PySem.Spec PyProof.Rows L2
def ordD (o : List Nat) : D := .tuple (o.map fun (n : Nat) => PyData.int (n : Int))
def ordOk (n : Nat) (o : List Nat) : Prop := o.Nodup ∧ ∀ p ∈ o, p < n
theorem needGo_nats {n : Nat} : ∀ (o : List Nat) (acc : List Nat) (i : Nat), (acc ++ o).Nodup → (∀ p ∈ o, p < n) → needGo (n : Int) (o.map fun (n : Nat) => PyData.int (n : Int)) (acc.map fun (n : Nat) => (n : Int)) i = .ok ((acc ++ o).map fun (n : Nat) => (n : Int))
  | [], acc, i, _, _ => by rw [List.append_nil]; rfl
  | p :: o, acc, i, hd, hp => by
    have h1 : isBelow (.int (p : Int)) (n : Int) = true := by
      have := hp p List.mem_cons_self
      simp [isBelow]; omega
    have h2 : decide (intOf (.int (p : Int)) ∈ acc.map fun (n : Nat) => (n : Int)) = false := by
      apply decide_eq_false
      intro h
      obtain ⟨q, hq, e⟩ := List.mem_map.mp h
      have e' : q = p := by
        have : (q : Int) = (p : Int) := e
        omega
      subst e'
      exact (List.nodup_append.mp hd).2.2 q hq q List.mem_cons_self rfl
    show (if isBelow (.int (p : Int)) (n : Int) && !decide (intOf (.int (p : Int)) ∈ acc.map fun (n : Nat) => (n : Int)) then needGo (n : Int) (o.map fun (n : Nat) => PyData.int (n : Int)) ((acc.map fun (n : Nat) => (n : Int)) ++ [intOf (.int (p : Int))]) (i + 1) else .error i) = _
    rw [h1, h2]
    show needGo (n : Int) (o.map fun (n : Nat) => PyData.int (n : Int)) ((acc.map fun (n : Nat) => (n : Int)) ++ [intOf (.int (p : Int))]) (i + 1) = _
    have ih := needGo_nats (n := n) o (acc ++ [p]) (i + 1) (by rw [List.append_assoc]; exact hd) fun q hq => hp q (List.mem_cons_of_mem _ hq)
    rw [List.map_append, List.append_assoc] at ih
    exact ih
theorem nats_map (o : List Nat) : nats (o.map fun (n : Nat) => (n : Int)) = o := by
  unfold nats
  rw [List.map_map]
  exact List.map_id'' (fun x => by simp) o
/-- hands_end where nothing is refused -/
theorem handsR_ok {b vs o : D} {bt : Tx} {vt : List Tx} {ot : List Nat} (hb : needT b (-1) = .ok (T bt)) (hbt : txOf b = bt) (hv : ∃ d, needV vs = .ok d) (hvt : vsOf vs = vt) (ho : seqOf o = some (ot.map fun (n : Nat) => PyData.int (n : Int))) (hok : ordOk vt.length ot) :
    handsR b vs o = .ok (optT (ends bt vt ot)) := by
  obtain ⟨d, hd⟩ := hv
  unfold handsR
  rw [hb, hd, ho, hvt, hbt]
  have h := needGo_nats (n := vt.length) ot [] 0 hok.1 hok.2
  rw [List.nil_append] at h
  show (match needGo (vt.length : Int) (ot.map fun (n : Nat) => PyData.int (n : Int)) (([] : List Nat).map fun (n : Nat) => (n : Int)) 0 with | .error i => Res.er .order i | .ok t => .ok (optT (ends bt vt (nats t)))) = _
  rw [h]
  show Res.ok (optT (ends bt vt (nats (ot.map fun (n : Nat) => (n : Int))))) = _
  rw [nats_map]
/-- base, versions as they stand behind the checks -/
structure Okv (bt : Tx) (vt : List Tx) : Prop where
  b : tOk bt
  bl : bt.length ≤ 200
  v : ∀ t ∈ vt, tOk t ∧ t.length ≤ 200
  vl : vt.length ≤ 8
  ne : vt ≠ []
def vsD (vt : List Tx) : D := .tuple (vt.map T)
theorem needT_T' {bt : Tx} {i : Int} (h : tOk bt) : needT (T bt) i = .ok (T bt) := needT_T (tOk_iff.mpr h)
theorem badAt_T : ∀ (vt : List Tx) (n : Nat), (∀ t ∈ vt, tOk t) → badAt (vt.map T) n = none
  | [], _, _ => rfl
  | t :: vt, n, h => by
    rw [List.map_cons]
    unfold badAt
    rw [tOk_iff.mpr (h t List.mem_cons_self), if_pos rfl]
    exact badAt_T vt (n + 1) fun x hx => h x (List.mem_cons_of_mem _ hx)
theorem vsOf_seq {d : D} {vt : List Tx} (hs : seqOf d = some (vt.map T)) : vsOf d = vt := by
  unfold vsOf
  rw [hs]
  show (vt.map T).map txOf = vt
  rw [List.map_map]
  exact List.map_id'' (fun x => txOf_T x) vt
theorem needV_T {d : D} {vt : List Tx} (hs : seqOf d = some (vt.map T)) (hn : vt ≠ []) (h : ∀ t ∈ vt, tOk t) : needV d = .ok (vsD vt) := by
  unfold needV
  rw [hs]
  have hb := badAt_T vt 0 h
  cases vt with
  | nil => exact absurd rfl hn
  | cons t vt =>
    show (match badAt ((t :: vt).map T) 0 with | some n => Res.er .versions n | none => .ok (.tuple (((t :: vt).map T).map fun d => T (txOf d)))) = _
    rw [hb, List.map_map]
    have : ((fun d => T (txOf d)) ∘ T) = T := funext fun x => congrArg T (txOf_T x)
    rw [this]
    rfl
theorem lenD_V (vt : List Tx) : lenD (vsD vt) = vt.length := by
  show (vt.map T).length = _
  rw [List.length_map]
theorem small_V {d : D} {bt : Tx} {vt : List Tx} (hs : seqOf d = some (vt.map T)) (k : Okv bt vt) : smallV d := by
  refine ⟨by unfold lenD; rw [hs]; show (vt.map T).length ≤ 8; rw [List.length_map]; exact k.vl, fun es he e hm => ?_⟩
  rw [hs] at he
  cases he
  obtain ⟨t, ht, rfl⟩ := List.mem_map.mp hm
  rw [lenD_T]
  exact (k.v t ht).2
/-- what the two orders of two hands tell -/
def pairD (i j : Nat) : D := ordD [i, j]
def faultO (bt : Tx) (vt : List Tx) (i j : Nat) : Option D := match ends bt vt [i, j] with
  | none => some (.tuple [.str "clash", pairD i j])
  | some x => match ends bt vt [j, i] with
    | none => some (.tuple [.str "clash", pairD j i])
    | some y => if x = y then none else some (.tuple [.str "apart", pairD i j, pairD j i])
def optD : Option D → D
  | none => .none
  | some d => d
variable {P : Program} {w : World} {K : PySem.W.Frag} {mg : Str → Option Value} {base : Heap}
def F_pair_fault (ds : List D) (r : Res) : Prop := ∃ bt vt i j, ds = [T bt, vsD vt, .int (i : Nat), .int (j : Nat)] ∧ Okv bt vt ∧ i < vt.length ∧ j < vt.length ∧ i ≠ j ∧ r = .ok (optD (faultO bt vt i j))
theorem sc_pair_fault : FnScope ["base", "versions", "one", "other", "ends", "order"] ["base", "versions", "one", "other"] (defScope s_pair_fault) := ⟨rfl, rfl, rfl, by decide +kernel, rfl, by decide +kernel, by decide +kernel⟩
theorem ok_pair_fault {fd : FuncData} (Fu : FnP K "pair_fault" s_pair_fault [] fd) (B : Bl mg)  (h_hands_end : HasF P w K mg base 9 "hands_end" ["base", "versions", "order"] [] (spD K F_hands_end)) : FnOk P w K mg base (L2.CX P w) 10 (He.ga K "pair_fault") fd ["base", "versions", "one", "other"] (spD K F_pair_fault) := by
  refine fnMD Fu sc_pair_fault (fun ds r ⟨bt, vt, i, j, h, _, _, _, _, e⟩ => ⟨by rw [h]; rfl, _, e⟩) fun cdv A outer s H E hr => ⟨_, (pss_cons (ps_set (i := 4) sc_pair_fault.nd rfl (Or.inl rfl) (pe_lst pa_nil))
      (pss_cons (ps_for PassesOwn.never rfl (pi_seq (pe_tup (pa_cons (pe_tup (pa_cons (pv 2) (pa_cons (pv 3) pa_nil))) (pa_cons (pe_tup (pa_cons (pv 3) (pa_cons (pv 2) pa_nil))) pa_nil)))) (pg_name (i := 5) sc_pair_fault.nd rfl (Or.inl rfl))
      (pss_cons (ps_expr (pe_bm PySem.F.plainAttrs_list PySem.F.slot_list_append PySem.F.type_list_append mt_append (pv 4) (pa_cons (pe_f h_hands_end (hr.mono (by decide)) (pa_cons (pv 0) (pa_cons (pv 1) (pa_cons (pv 5) pa_nil)))) pa_nil)))
      (pss_one (ps_if (pt_cmpR op_isNN (pe_ix (r := rIx K) ix_seq (pv 4) (pe_un un_neg pe_int) (fun _ _ => rfl)) pe_non (nomark _)) (pss_one (ps_ret (pe_tup (pa_cons pe_str (pa_cons (pv 5) pa_nil))))) pss_nil))))
      (pss_cons (ps_if (pt_cmpR (r := rNeD K) (op_neD hr.units) (pe_ix (r := rIx K) ix_seq (pv 4) pe_int (fun _ _ => rfl)) (pe_ix (r := rIx K) ix_seq (pv 4) pe_int (fun _ _ => rfl)) (nomark _)) (pss_one (ps_ret (pe_tup (pa_cons pe_str (pa_cons (pe_tup (pa_cons (pv 2) (pa_cons (pv 3) pa_nil))) (pa_cons (pe_tup (pa_cons (pv 3) (pa_cons (pv 2) pa_nil))) pa_nil)))))) pss_nil)
      (pss_one (ps_ret pe_non))))), fun ds d Mx ⟨bt, vt, i, j, h, k, hi, hj, hij, e⟩ => ?_⟩
  subst h
  cases e
  have call : ∀ (p q : Nat) (z : Sl), p < vt.length → q < vt.length → p ≠ q → ∀ a : Addr, EvD K (tCall (spD K F_hands_end) [] E0 (tCons (tVar 0) (tCons (tVar 1) (tCons (tVar 5) tNil)))) [.dat (T bt), .dat (vsD vt), .dat (.int (i : Nat)), .dat (.int (j : Nat)), .ref a, .dat (pairD p q)] (optT (ends bt vt [p, q])) := fun p q z hp hq hpq a =>
    evd_call0 (eva_cons (evd_var rfl) (eva_cons (evd_var rfl) (eva_cons (evd_var rfl) eva_nil))) ⟨T bt, vsD vt, pairD p q, rfl, by rw [lenD_T]; exact k.bl, small_V rfl k, by show (2 : Nat) ≤ 8; decide,
      (handsR_ok (needT_T' k.b) (txOf_T bt) ⟨_, needV_T rfl k.ne fun t ht => (k.v t ht).1⟩ (vsOf_seq rfl) rfl ⟨by simp [hpq], fun x hx => by
        have : x = p ∨ x = q := by simpa using hx
        rcases this with z | z <;> subst z <;> assumption⟩).symm⟩
  refine runm_new (Γ := [.dat (T bt), .dat (vsD vt), .dat (.int (i : Nat)), .dat (.int (j : Nat)), .un, .un]) (j := 4) eva_nil (by simp) fun a => ?_
  show RunM K Mx [] _ E0 _ [(a, [])] [.dat (T bt), .dat (vsD vt), .dat (.int (i : Nat)), .dat (.int (j : Nat)), .ref a, .un] _
  refine runm_seq (Ψ' := fun o' ms' => (∃ x y s5, ends bt vt [i, j] = some x ∧ ends bt vt [j, i] = some y ∧ o' = .nx [.dat (T bt), .dat (vsD vt), .dat (.int (i : Nat)), .dat (.int (j : Nat)), .ref a, s5] ∧ ms' = [(a, [T x, T y])]) ∨ ∃ d, faultO bt vt i j = some d ∧ o' = .rt d) ?_ (fun Γ1 ms1 h => ?_) (fun o' ms1 h hn => ?_)
  · refine runm_for (R := fun es ms Γ => ∃ s5, Γ = [.dat (T bt), .dat (vsD vt), .dat (.int (i : Nat)), .dat (.int (j : Nat)), .ref a, s5] ∧ ((es = [pairD i j, pairD j i] ∧ ms = [(a, [])]) ∨ (∃ x, ends bt vt [i, j] = some x ∧ es = [pairD j i] ∧ ms = [(a, [T x])]) ∨ ∃ x y, ends bt vt [i, j] = some x ∧ ends bt vt [j, i] = some y ∧ es = [] ∧ ms = [(a, [T x, T y])]))
      (itd_seqT (ds := [pairD i j, pairD j i]) (evd_tup (eva_cons (evd_tup (ds := [.int (i : Nat), .int (j : Nat)]) (eva_cons (evd_var rfl) (eva_cons (evd_var rfl) eva_nil))) (eva_cons (evd_tup (ds := [.int (j : Nat), .int (i : Nat)]) (eva_cons (evd_var rfl) (eva_cons (evd_var rfl) eva_nil))) eva_nil)) )) ⟨.un, rfl, .inl ⟨rfl, rfl⟩⟩ ?_ ?_
    · rintro d es ms Γ ⟨s5, rfl, h⟩
      have hp : ∃ (p q : Nat) (pre : List D), d = pairD p q ∧ p < vt.length ∧ q < vt.length ∧ p ≠ q ∧ ms = [(a, pre)] ∧ pre.length ≤ 2 ∧
          (ends bt vt [p, q] = none → faultO bt vt i j = some (.tuple [.str "clash", pairD p q])) ∧
          ∀ y, ends bt vt [p, q] = some y → ∃ s5, ([.dat (T bt), .dat (vsD vt), .dat (.int (i : Nat)), .dat (.int (j : Nat)), .ref a, .dat (pairD p q)] : List Sl) = [.dat (T bt), .dat (vsD vt), .dat (.int (i : Nat)), .dat (.int (j : Nat)), .ref a, s5] ∧
            ((es = [pairD i j, pairD j i] ∧ ([(a, pre ++ [T y])] : Ms) = [(a, [])]) ∨ (∃ x, ends bt vt [i, j] = some x ∧ es = [pairD j i] ∧ ([(a, pre ++ [T y])] : Ms) = [(a, [T x])]) ∨ ∃ x y', ends bt vt [i, j] = some x ∧ ends bt vt [j, i] = some y' ∧ es = [] ∧ ([(a, pre ++ [T y])] : Ms) = [(a, [T x, T y'])]) := by
        rcases h with ⟨h1, rfl⟩ | ⟨x, hx, h1, rfl⟩ | ⟨x, y, _, _, h1, _⟩
        · obtain ⟨rfl, rfl⟩ := List.cons.inj h1
          exact ⟨i, j, [], rfl, hi, hj, hij, rfl, by simp, fun hn => by unfold faultO; rw [hn], fun y hy => ⟨_, rfl, .inr (.inl ⟨y, hy, rfl, rfl⟩)⟩⟩
        · obtain ⟨rfl, rfl⟩ := List.cons.inj h1
          exact ⟨j, i, [T x], rfl, hj, hi, Ne.symm hij, rfl, by simp, fun hn => by unfold faultO; rw [hx, hn], fun y hy => ⟨_, rfl, .inr (.inr ⟨x, y, hx, hy, rfl, rfl⟩)⟩⟩
        · cases h1
      obtain ⟨p, q, pre, rfl, hp1, hq1, hpq, rfl, hpl, hbad, hgood⟩ := hp
      refine ⟨_, gd_name, ?_⟩
      refine runm_app (tr := tNil) (j := 4) (x := a) (ds := pre) rfl List.mem_cons_self rfl (by omega) (evm_of (call p q .un hp1 hq1 hpq a)) fun d hd => ?_
      have hd' : d = optT (ends bt vt [p, q]) := hd
      subst hd'
      have hset : setM [(a, pre)] a (pre ++ [optT (ends bt vt [p, q])]) = [(a, pre ++ [optT (ends bt vt [p, q])])] := by
        unfold setM
        rw [List.map_cons, List.map_nil, if_pos rfl]
      rw [hset]
      have th : Thw [(a, pre ++ [optT (ends bt vt [p, q])])] [.dat (T bt), .dat (vsD vt), .dat (.int (i : Nat)), .dat (.int (j : Nat)), .ref a, .dat (pairD p q)] [.dat (T bt), .dat (vsD vt), .dat (.int (i : Nat)), .dat (.int (j : Nat)), .dat (.list (pre ++ [optT (ends bt vt [p, q])])), .dat (pairD p q)] := .same (.same (.same (.same (.own List.mem_cons_self (.same .nil)))))
      have hc : EvT K (tTest (tOp rIsN (tOp (rIx K) (tVar 4) (tUn (rU fun i => .int (-i)) (tC (.int 1)))) (tC .non))) [.dat (T bt), .dat (vsD vt), .dat (.int (i : Nat)), .dat (.int (j : Nat)), .dat (.list (pre ++ [optT (ends bt vt [p, q])])), .dat (pairD p q)] (isNon (optT (ends bt vt [p, q]))) :=
        evt_test (evd_op (evd_op (evd_var rfl) (evd_un evd_int run_neg) (rix_lst atI_last)) evd_non ris_N)
      cases he : ends bt vt [p, q] with
      | none =>
        rw [he] at hc th
        exact runm_ifT th hc (runm_end (run_ret (evd_tup (eva_cons evd_str (eva_cons (evd_var rfl) eva_nil)))) (.inr ⟨_, hbad he, rfl⟩))
      | some y =>
        rw [he] at hc th
        exact runm_ifF th hc (runm_end run_next (hgood y he))
    · rintro ms Γ ⟨s5, rfl, h⟩
      rcases h with ⟨h1, _⟩ | ⟨x, hx, h1, _⟩ | ⟨x, y, hx, hy, _, rfl⟩
      · cases h1
      · cases h1
      · exact .inl ⟨x, y, s5, hx, hy, rfl, rfl⟩
  · rcases h with ⟨x, y, s5, hx, hy, h2, rfl⟩ | ⟨d, h1, h2⟩
    · cases h2
      have th : Thw [(a, [T x, T y])] [.dat (T bt), .dat (vsD vt), .dat (.int (i : Nat)), .dat (.int (j : Nat)), .ref a, s5] [.dat (T bt), .dat (vsD vt), .dat (.int (i : Nat)), .dat (.int (j : Nat)), .dat (.list [T x, T y]), s5] := .same (.same (.same (.same (.own List.mem_cons_self (.same .nil)))))
      have hc : EvT K (tTest (tOp (rNeD K) (tOp (rIx K) (tVar 4) (tC (.int 0))) (tOp (rIx K) (tVar 4) (tC (.int 1))))) [.dat (T bt), .dat (vsD vt), .dat (.int (i : Nat)), .dat (.int (j : Nat)), .dat (.list [T x, T y]), s5] (!decide (x = y)) :=
        evt_test (evd_op (evd_op (evd_var rfl) evd_int (rix_lst (atI_nat (n := 0) rfl rfl))) (evd_op (evd_var rfl) evd_int (rix_lst (atI_nat (n := 1) rfl rfl))) rne_T)
      have hf : faultO bt vt i j = if x = y then none else some (.tuple [.str "apart", pairD i j, pairD j i]) := by unfold faultO; rw [hx, hy]
      rw [hf]
      by_cases hxy : x = y
      · rw [if_pos hxy]
        exact runm_ifN th hc (fun z => by simp [hxy] at z) fun _ => runm_skip (runm_end (run_ret evd_non) rfl)
      · rw [if_neg hxy]
        refine runm_ifN th hc (fun _ => ?_) (fun z => by simp [hxy] at z)
        exact runm_end (run_rt (run_ret (evd_tup (eva_cons evd_str (eva_cons (evd_tup (eva_cons (evd_var rfl) (eva_cons (evd_var rfl) eva_nil))) (eva_cons (evd_tup (eva_cons (evd_var rfl) (eva_cons (evd_var rfl) eva_nil))) eva_nil)))))) rfl
    · cases h2
  · rcases h with ⟨x, y, s5, _, _, h2, _⟩ | ⟨d, h1, h2⟩
    · exact absurd h2 (hn _)
    · rw [h1]; exact h2
end CB

/-! W9 -/
set_option Elab.async false
set_option linter.all false
set_option maxRecDepth 100000
set_option maxHeartbeats 4000000
namespace CB
open PySem PySem.Spec PyProof.Rows L2
/-- the changed versions -/
def chFrom (bt : Tx) : Nat → List Tx → List Nat
  | _, [] => []
  | n, t :: ts => if t = bt then chFrom bt (n + 1) ts else n :: chFrom bt (n + 1) ts
def chg (bt : Tx) (vt : List Tx) : List Nat := chFrom bt 0 vt
theorem chFrom_mem {bt : Tx} : ∀ {ts : List Tx} {n p : Nat}, p ∈ chFrom bt n ts ↔ ∃ k, p = n + k ∧ ∃ t, ts[k]? = some t ∧ t ≠ bt
  | [], n, p => by simp [chFrom]
  | t :: ts, n, p => by
    unfold chFrom
    have ih := chFrom_mem (bt := bt) (ts := ts) (n := n + 1) (p := p)
    have split : (∃ k, p = n + k ∧ ∃ x, (t :: ts)[k]? = some x ∧ x ≠ bt) ↔ (p = n ∧ t ≠ bt) ∨ ∃ k, p = n + 1 + k ∧ ∃ x, ts[k]? = some x ∧ x ≠ bt := by
      constructor
      · rintro ⟨k, h1, x, h2, h3⟩
        cases k with
        | zero =>
          have : t = x := by simpa using h2
          exact .inl ⟨h1, this ▸ h3⟩
        | succ k => exact .inr ⟨k, by omega, x, by simpa using h2, h3⟩
      · rintro (⟨h1, h2⟩ | ⟨k, h1, x, h2, h3⟩)
        · exact ⟨0, h1, t, rfl, h2⟩
        · exact ⟨k + 1, by omega, x, by simpa using h2, h3⟩
    rw [split]
    by_cases e : t = bt
    · rw [if_pos e, ih]
      exact ⟨.inr, fun z => z.elim (fun y => absurd e y.2) id⟩
    · rw [if_neg e, List.mem_cons, ih]
      exact ⟨fun z => z.elim (fun y => .inl ⟨y, e⟩) .inr, fun z => z.elim (fun y => .inl y.1) .inr⟩
theorem chFrom_pw {bt : Tx} : ∀ {ts : List Tx} {n : Nat}, (chFrom bt n ts).Pairwise (· < ·)
  | [], n => List.Pairwise.nil
  | t :: ts, n => by
    unfold chFrom
    by_cases e : t = bt
    · rw [if_pos e]; exact chFrom_pw
    · rw [if_neg e]
      refine List.pairwise_cons.mpr ⟨fun p hp => ?_, chFrom_pw⟩
      obtain ⟨k, h, _⟩ := chFrom_mem.mp hp
      omega
theorem chFrom_len {bt : Tx} : ∀ {ts : List Tx} {n : Nat}, (chFrom bt n ts).length ≤ ts.length
  | [], n => Nat.le_refl _
  | t :: ts, n => by
    unfold chFrom
    have := chFrom_len (bt := bt) (ts := ts) (n := n + 1)
    by_cases e : t = bt
    · rw [if_pos e]; exact Nat.le_succ_of_le this
    · rw [if_neg e]; exact Nat.succ_le_succ this
theorem chg_mem {bt : Tx} {vt : List Tx} {p : Nat} : p ∈ chg bt vt ↔ p < vt.length ∧ vt.getD p [] ≠ bt := by
  unfold chg
  rw [chFrom_mem]
  constructor
  · rintro ⟨k, h1, x, h2, h3⟩
    have e : p = k := by omega
    subst e
    refine ⟨(List.getElem?_eq_some_iff.mp h2).1, ?_⟩
    rw [List.getD_eq_getElem?_getD, h2]
    exact h3
  · rintro ⟨h1, h2⟩
    rw [List.getD_eq_getElem?_getD, List.getElem?_eq_getElem h1] at h2
    exact ⟨p, by omega, _, List.getElem?_eq_getElem h1, h2⟩
def firstF (bt : Tx) (vt : List Tx) (i : Nat) : List Nat → Option D
  | [] => none
  | j :: js => match faultO bt vt i j with
    | some d => some d
    | none => firstF bt vt i js
def anyF (bt : Tx) (vt : List Tx) : List Nat → Option D
  | [] => none
  | i :: is => match firstF bt vt i is with
    | some d => some d
    | none => anyF bt vt is
def numb (f : Form) (t : Tx) : Int := ((t.length : Int) - f.front.length - f.back.length) / f.block.length
def takeGo (times : Int) : List Int → Nat → Int → List Nat → Option (List Nat)
  | [], _, _, _ => none
  | n :: ns, p, left, ts =>
    if (if n < times then left - (times - n) else left) < 0 then some (if n < times then ts ++ [p] else ts)
    else takeGo times ns (p + 1) (if n < times then left - (times - n) else left) (if n < times then ts ++ [p] else ts)
def paperF (f : Form) (vt : List Tx) : D := match takeGo f.times (vt.map (numb f)) 0 f.times [] with
  | some ts => .tuple [.str "clash", ordD ts]
  | none => .tuple [.str "block", T f.front, T f.block, T f.back, .int f.times, T (vt.map (numb f))]
def paperD (bt : Tx) (vt : List Tx) : D := match chg bt vt with
  | [] => .tuple [.str "one", .int (-1)]
  | [i] => .tuple [.str "one", .int i]
  | i :: j :: r => match anyF bt vt (i :: j :: r) with
    | some d => d
    | none => match blockForm bt (vt.getD i []) with
      | none => .none
      | some f => paperF f vt
def papOk (bt : Tx) (vt : List Tx) : Prop := ∀ i j r, chg bt vt = i :: j :: r → anyF bt vt (i :: j :: r) = none → ∃ f, blockForm bt (vt.getD i []) = some f
def paperR (b vs : D) : Res := match needT b (-1) with
  | .er k i => .er k i
  | .ok _ => match needV vs with
    | .er k i => .er k i
    | .ok _ => .ok (paperD (txOf b) (vsOf vs))
theorem txOf_len {b : D} : (txOf b).length = lenD b := by
  unfold txOf lenD
  cases seqOf b with
  | none => rfl
  | some xs => simp
theorem okv_of {b vs db dv : D} {i : Int} (h1 : needT b i = .ok db) (h2 : needV vs = .ok dv) (hlb : lenD b ≤ 200) (hsm : smallV vs) : db = T (txOf b) ∧ dv = vsD (vsOf vs) ∧ Okv (txOf b) (vsOf vs) := by
  obtain ⟨rfl, hbk⟩ := needT_ok h1
  obtain ⟨rfl, hvn, hvk, hve⟩ := needV_ok h2
  obtain ⟨hlv, hle⟩ := hsm
  have hss : ∃ es, seqOf vs = some es := by
    cases q : seqOf vs with
    | none => unfold needV at h2; rw [q] at h2; cases h2
    | some es => exact ⟨es, rfl⟩
  obtain ⟨es, hes⟩ := hss
  have ev : vsOf vs = es.map txOf := by unfold vsOf; rw [hes]; rfl
  refine ⟨rfl, rfl, hbk, by rw [txOf_len]; exact hlb, fun t ht => ⟨hvk t ht, ?_⟩, by rw [ev, List.length_map]; unfold lenD at hlv; rw [hes] at hlv; exact hlv, hvn⟩
  rw [ev] at ht
  obtain ⟨x, hx, rfl⟩ := List.mem_map.mp ht
  rw [txOf_len]
  exact hle es hes x hx
theorem formLG_blk {l g : Tx} {f : Form} (hlt : l.length < g.length) (h : formLG l g = some f) : f.block ≠ [] ∧ f.block.length ≤ g.length := by
  have h1 := lcs_le1 l g
  generalize hah : l.length - lcs l g = ah
  by_cases hf : g.take ah = l.take ah
  · rw [formLG_of hah hf rfl rfl rfl] at h
    cases h
    have hal : ((g.drop ah).take (g.length - l.length)).length = g.length - l.length := by rw [List.length_take, List.length_drop]; omega
    generalize (g.drop ah).take (g.length - l.length) = added at hal
    have hane : added ≠ [] := fun z => by rw [z] at hal; simp at hal; omega
    have hr1 := rootL_pos hane
    have hr2 := rootL_le added
    have hbl : (added.take (rootL added)).length = rootL added := by rw [List.length_take]; omega
    exact ⟨fun z => by rw [show added.take (rootL added) = [] from z] at hbl; simp at hbl; omega, by rw [show (added.take (rootL added)).length = rootL added from hbl]; omega⟩
  · rw [formLG_no hah hf] at h
    cases h
theorem blockForm_blk {a b : Tx} {f : Form} (h : blockForm a b = some f) : f.block ≠ [] ∧ f.block.length ≤ a.length + b.length := by
  unfold blockForm at h
  by_cases e : a.length = b.length
  · rw [if_pos e] at h; cases h
  · rw [if_neg e] at h
    by_cases hl : a.length < b.length
    · rw [if_pos hl] at h
      obtain ⟨q1, q2⟩ := formLG_blk hl h
      exact ⟨q1, by omega⟩
    · rw [if_neg hl] at h
      cases hg : formLG b a with
      | none => rw [hg] at h; cases h
      | some f' =>
        rw [hg] at h
        cases h
        obtain ⟨q1, q2⟩ := formLG_blk (by omega) hg
        exact ⟨q1, by show f'.block.length ≤ _; omega⟩
theorem enumF_len : ∀ (ds : List D) (n : Nat), (enumF n ds).length = ds.length
  | [], _ => rfl
  | _ :: ds, n => by
    show (enumF (n + 1) ds).length + 1 = _
    rw [enumF_len ds]; rfl
variable {P : Program} {w : World} {K : PySem.W.Frag} {mg : Str → Option Value} {base : Heap}
def F_orders_paper (ds : List D) (r : Res) : Prop := ∃ b vs, ds = [b, vs] ∧ lenD b ≤ 200 ∧ smallV vs ∧ (∀ db dv, needT b (-1) = .ok db → needV vs = .ok dv → papOk (txOf b) (vsOf vs)) ∧ r = paperR b vs
theorem enumF_nats (n : Nat) (os : List Nat) : enumF n (os.map fun (i : Nat) => PyData.int (i : Int)) = enumF n ((os.map fun (i : Nat) => (i : Int)).map PyData.int) := by
  rw [List.map_map]; rfl
theorem sc_orders_paper : FnScope ["base", "versions", "changed", "place", "text", "at", "one", "other", "fault", "front", "block", "back", "times", "others", "row", "left", "takers", "number"] ["base", "versions"] (defScope s_orders_paper) := ⟨rfl, rfl, rfl, by decide +kernel, rfl, by decide +kernel, by decide +kernel⟩
theorem ok_orders_paper {fd : FuncData} (Fu : FnP K "orders_paper" s_orders_paper [] fd) (B : Bl mg)  (h_block_form : HasF P w K mg base 8 "block_form" ["one", "other"] [] (spD K F_block_form)) (h_block_number : HasF P w K mg base 1 "block_number" ["text", "front", "block", "back"] [] (spD K F_block_number)) (h_need_text : HasF P w K mg base 6 "need_text" ["value", "at"] [] (spD K F_need_text)) (h_need_versions : HasF P w K mg base 6 "need_versions" ["value"] [] (spD K F_need_versions)) (h_pair_fault : HasF P w K mg base 10 "pair_fault" ["base", "versions", "one", "other"] [] (spD K F_pair_fault)) {vm1 : Value} (vals_m1 : L2.Vals [V.int (-1)] [vm1]) (h_need_text1 : HasF P w K mg base 6 "need_text" ["value", "at"] [vm1] (spD K F_need_text)) : FnOk P w K mg base (L2.CX P w) 11 (He.ga K "orders_paper") fd ["base", "versions"] (spD K F_orders_paper) := by
  refine fnMX Fu sc_orders_paper (fun ds r ⟨b, vs, h, _, _, _, e⟩ => by rw [h]; rfl) fun cdv A outer s H E hr tk hx hpo => ⟨_, (pss_cons (ps_asg (pe_tup (pa_cons (pe_fd h_need_text1 (hr.mono (by decide)) rfl vals_m1 hx (pa_cons (pv 0) pa_nil)) (pa_cons (pe_fd h_need_versions (hr.mono (by decide)) rfl .nil hx (pa_cons (pv 1) pa_nil)) pa_nil))) (pg_tup rfl (pgs_cons (pg_name (i := 0) sc_orders_paper.nd rfl (Or.inr rfl)) (pgs_cons (pg_name (i := 1) sc_orders_paper.nd rfl (Or.inl rfl)) pgs_nil))))
      (pss_cons (ps_setLc (own := [("place", 3), ("text", 4)]) (g := gTup K 2 (gCons (gName 3) (gCons (gName 4) (gNil)))) (i := 2) rfl sc_orders_paper.nd rfl rfl (sw_true rfl rfl rfl (by decide +kernel)) (pi_enumS rfl B.enumerate (pa_cons (pv 1) pa_nil)) (blkOk_by (N := ["base", "versions", "changed", "place", "text", "at", "one", "other", "fault", "front", "block", "back", "times", "others", "row", "left", "takers", "number"]) (sc := defScope s_orders_paper) (by decide +kernel)) (fun _ _ _ _ _ => (pg_tup rfl (pgs_cons (pg_name (i := 3) sc_orders_paper.nd rfl (Or.inl rfl)) (pgs_cons (pg_name (i := 4) sc_orders_paper.nd rfl (Or.inl rfl)) pgs_nil)))) (fun _ _ _ _ _ => (pts_one (pt_cmpR (r := rNeD K) (op_neD hr.units) (pv 4) (pv 0) (nomark _)))) (fun _ _ _ _ _ => (pv 3)))
      (pss_cons (ps_if (pt_cmpR op_lt (pe_callB (id := "len") (r := rLenA K) call_lenA rfl B.len boot_len (pa_cons (pv 2) pa_nil)) pe_int (nomark _)) (pss_one (ps_ret (pe_tup (pa_cons pe_str (pa_cons (pe_ifExp (pt_cmpR (r := rEqD K) (op_eqD hr.units) (pe_callB (id := "len") (r := rLenA K) call_lenA rfl B.len boot_len (pa_cons (pv 2) pa_nil)) pe_int (nomark _)) (pe_ix (r := rIx K) ix_seq (pv 2) pe_int (fun _ _ => rfl)) (pe_un un_neg pe_int)) pa_nil))))) pss_nil)
      (pss_cons (ps_for hpo rfl (pi_enumS rfl B.enumerate (pa_cons (pv 2) pa_nil)) (pg_tup rfl (pgs_cons (pg_name (i := 5) sc_orders_paper.nd rfl (Or.inl rfl)) (pgs_cons (pg_name (i := 6) sc_orders_paper.nd rfl (Or.inl rfl)) pgs_nil)))
      (pss_one (ps_for hpo rfl (pi_seq (pe_slice (r := rSlU K) sl_U (pv 2) (po_some (pe_op (r := rAddU K) op_addU (pv 5) pe_int)) po_none)) (pg_name (i := 7) sc_orders_paper.nd rfl (Or.inl rfl))
      (pss_cons (ps_set (i := 8) sc_orders_paper.nd rfl (Or.inl rfl) (pe_f h_pair_fault (hr.mono (by decide)) (pa_cons (pv 0) (pa_cons (pv 1) (pa_cons (pv 6) (pa_cons (pv 7) pa_nil))))))
      (pss_one (ps_if (pt_cmpR op_notNN (pv 8) pe_non (nomark _)) (pss_one (ps_ret (pv 8))) pss_nil))))))
      (pss_cons (ps_asg (pe_f h_block_form (hr.mono (by decide)) (pa_cons (pv 0) (pa_cons (pe_ix (r := rIx K) ix_seq (pv 1) (pe_ix (r := rIx K) ix_seq (pv 2) pe_int (fun _ _ => rfl)) (fun _ _ => rfl)) pa_nil))) (pg_tup rfl (pgs_cons (pg_name (i := 9) sc_orders_paper.nd rfl (Or.inr rfl)) (pgs_cons (pg_name (i := 10) sc_orders_paper.nd rfl (Or.inr rfl)) (pgs_cons (pg_name (i := 11) sc_orders_paper.nd rfl (Or.inr rfl)) (pgs_cons (pg_name (i := 12) sc_orders_paper.nd rfl (Or.inl rfl)) (pgs_cons (pg_name (i := 13) sc_orders_paper.nd rfl (Or.inl rfl)) pgs_nil)))))))
      (pss_cons (ps_set (i := 14) sc_orders_paper.nd rfl (Or.inl rfl) (pe_callTy (T := "tuple") (r := rTupA K) call_tupA rfl B.tuple (by decide +kernel) (pa_cons (pe_lc (own := [("text", 4)]) rfl sc_orders_paper.nd (pi_seq (pv 1)) (blkOk_by (N := ["base", "versions", "changed", "place", "text", "at", "one", "other", "fault", "front", "block", "back", "times", "others", "row", "left", "takers", "number"]) (sc := defScope s_orders_paper) (by decide +kernel)) (fun _ _ _ _ _ => (pg_name (i := 4) sc_orders_paper.nd rfl (Or.inl rfl))) (fun _ _ _ _ _ => pts_nil) (fun _ _ _ _ _ => (pe_f h_block_number (hr.mono (by decide)) (pa_cons (pv 4) (pa_cons (pv 9) (pa_cons (pv 10) (pa_cons (pv 11) pa_nil))))))) pa_nil)))
      (pss_cons (ps_par (i := 15) (j := 16) rfl sc_orders_paper.nd rfl rfl (by decide) rfl rfl (pa_cons (pv 12) (pa_cons (pe_lst pa_nil) pa_nil)) (by rfl))
      (pss_cons (ps_for hpo rfl (pi_enumS rfl B.enumerate (pa_cons (pv 14) pa_nil)) (pg_tup rfl (pgs_cons (pg_name (i := 3) sc_orders_paper.nd rfl (Or.inl rfl)) (pgs_cons (pg_name (i := 17) sc_orders_paper.nd rfl (Or.inl rfl)) pgs_nil)))
      (pss_cons (ps_if (pt_cmpR op_lt (pv 17) (pv 12) (nomark _)) (pss_cons (ps_aug (i := 15) sc_orders_paper.nd rfl (Or.inl rfl) (pe_op op_sub (pv 12) (pv 17)) ip_sub)
      (pss_one (ps_expr (pe_bm PySem.F.plainAttrs_list PySem.F.slot_list_append PySem.F.type_list_append mt_append (pv 16) (pa_cons (pv 3) pa_nil))))) pss_nil)
      (pss_one (ps_if (pt_cmpR op_lt (pv 15) pe_int (nomark _)) (pss_one (ps_ret (pe_tup (pa_cons pe_str (pa_cons (pe_callTy (T := "tuple") (r := rTupA K) call_tupA rfl B.tuple (by decide +kernel) (pa_cons (pv 16) pa_nil)) pa_nil))))) pss_nil))))
      (pss_one (ps_ret (pe_tup (pa_cons pe_str (pa_cons (pv 9) (pa_cons (pv 10) (pa_cons (pv 11) (pa_cons (pv 12) (pa_cons (pv 14) pa_nil))))))))))))))))), fun ds r Mx ⟨b, vs, h, hlb, hsm, hpk, e⟩ => ?_⟩
  subst h e
  unfold paperR
  have m1 : ∀ G, DqAll K G [V.int (-1)] [PyData.int (-1)] := fun G => .cons (.int _) .nil
  have hT : F_need_text ([b] ++ [.int (-1)]) (needT b (-1)) := ⟨b, -1, rfl, by omega, rfl⟩
  cases h1 : needT b (-1) with
  | er k i =>
    rw [h1] at hT
    exact runm_end (run_er (run_asgE (eve_tup (evae_here (eve_call (eva_cons (evd_var rfl) eva_nil) m1 hT))))) rfl
  | ok db =>
  rw [h1] at hT
  have hV : F_need_versions [vs] (needV vs) := ⟨vs, rfl, by have := hsm.1; omega, fun es he e hm => by have := hsm.2 es he e hm; omega, rfl⟩
  cases h2 : needV vs with
  | er k i =>
    rw [h2] at hV
    obtain ⟨rfl, _⟩ := needT_ok h1
    exact runm_end (run_er (run_asgE (eve_tup (evae_next (evd_call (eva_cons (evd_var rfl) eva_nil) m1 hT) (evae_here (eve_call0 (eva_cons (evd_var rfl) eva_nil) hV)))))) rfl
  | ok dv =>
  rw [h2] at hV
  obtain ⟨rfl, rfl, ok⟩ := okv_of h1 h2 hlb hsm
  have hpk := hpk _ _ h1 h2
  refine runm_nx (run_asg (evd_tup (eva_cons (evd_call (eva_cons (evd_var rfl) eva_nil) m1 hT) (eva_cons (evd_call0 (eva_cons (evd_var rfl) eva_nil) hV) eva_nil))) (gd_tup (gds_cons gd_name (gds_cons gd_name gds_nil)))) ?_
  show RunM K Mx [] _ E _ [] [.dat (T (txOf b)), .dat (vsD (vsOf vs)), .un, .un, .un, .un, .un, .un, .un, .un, .un, .un, .un, .un, .un, .un, .un, .un] (fun o _ => o = .rt (paperD (txOf b) (vsOf vs)))
  generalize txOf b = bt at ok hpk ⊢
  generalize vsOf vs = vt at ok hpk ⊢
  clear h1 h2 hT hV hsm hlb
  have cmp : ∀ (ts : List Tx) (n : Nat), Cmp K (gTup K 2 (gCons (gName 3) (gCons (gName 4) gNil))) (tTest (tOp (rNeD K) (tVar 4) (tVar 0))) (tVar 3) [3, 4] [.dat (T bt), .dat (vsD vt), .un, .un, .un, .un, .un, .un, .un, .un, .un, .un, .un, .un, .un, .un, .un, .un] (enumF n (ts.map T)) ((chFrom bt n ts).map fun (i : Nat) => PyData.int (i : Int)) := by
    intro ts
    induction ts with
    | nil => exact fun n => .nil
    | cons t ts ih =>
      intro n
      have hg : GDw K (gTup K 2 (gCons (gName 3) (gCons (gName 4) gNil))) [3, 4] (.tuple [.int (n : Nat), T t]) [.dat (T bt), .dat (vsD vt), .un, .un, .un, .un, .un, .un, .un, .un, .un, .un, .un, .un, .un, .un, .un, .un] [.dat (T bt), .dat (vsD vt), .un, .dat (.int n), .dat (T t), .un, .un, .un, .un, .un, .un, .un, .un, .un, .un, .un, .un, .un] := gdw_tup (gdsw_cons gdw_name (gdsw_cons gdw_name gdsw_nil))
      have ht : EvT K (tTest (tOp (rNeD K) (tVar 4) (tVar 0))) [.dat (T bt), .dat (vsD vt), .un, .dat (.int n), .dat (T t), .un, .un, .un, .un, .un, .un, .un, .un, .un, .un, .un, .un, .un] (!decide (t = bt)) := evt_test (evd_op (evd_var rfl) (evd_var rfl) rne_T)
      unfold chFrom
      by_cases e : t = bt
      · rw [if_pos e]
        exact .no hg (evt_is ht (by simp [e])) (ih (n + 1))
      · rw [if_neg e]
        exact .yes hg (evt_is ht (by simp [e])) (evd_var rfl) (ih (n + 1))
  have hvl := ok.vl
  refine runm_nx (run_asg (evd_lc (itd_enumT (eva_cons (evd_var rfl) eva_nil)) (by rw [enumD_eq]; exact cmp vt 0) (by rw [enumD_eq, enumF_len, List.length_map]; omega)) gd_name) ?_
  show RunM K Mx [] _ E _ [] [.dat (T bt), .dat (vsD vt), .dat (.list ((chg bt vt).map fun (i : Nat) => PyData.int (i : Int))), .un, .un, .un, .un, .un, .un, .un, .un, .un, .un, .un, .un, .un, .un, .un] _
  have hmem : ∀ p ∈ chg bt vt, p < vt.length := fun p hp => (chg_mem.mp hp).1
  have hpw : (chg bt vt).Pairwise (· < ·) := chFrom_pw
  have hcl : (chg bt vt).length ≤ vt.length := chFrom_len
  generalize hcs : chg bt vt = cs at hmem hpw hcl
  have hlen : EvD K (tCB (rLenA K) (tCons (tVar 2) tNil)) [.dat (T bt), .dat (vsD vt), .dat (.list (cs.map fun (i : Nat) => PyData.int (i : Int))), .un, .un, .un, .un, .un, .un, .un, .un, .un, .un, .un, .un, .un, .un, .un] (.int (cs.length : Nat)) := evd_is (evd_cb (eva_cons (evd_var rfl) eva_nil) rlen_lst) (by rw [List.length_map])
  have hlt2 := evt_test (evd_op hlen evd_int (rop_B0 (j := 2) (g := fun i j => decide (i < j))))
  have heq1 := evt_test (evd_op hlen evd_int (req_int (j := 1)))
  by_cases h2 : cs.length < 2
  · refine runm_rt (runm_end (run_ifT (evt_is hlt2 (by simp; omega)) (run_ret (d := paperD bt vt) ?_)) rfl) (fun _ _ z => by cases z)
    unfold paperD
    rw [hcs]
    match cs, h2, heq1 with
    | [], _, heq1 => exact evd_tup (eva_cons evd_str (eva_cons (evd_if heq1 (fun z => by simp at z) fun _ => evd_un evd_int run_neg) eva_nil))
    | [i], _, heq1 => exact evd_tup (eva_cons evd_str (eva_cons (evd_if heq1 (fun _ => evd_op (evd_var rfl) evd_int (rix_lst (atI_nat (n := 0) rfl rfl))) (fun z => by simp at z)) eva_nil))
    | _ :: _ :: _, h, _ => exact absurd h (by simp)
  refine runm_nx (run_ifF (evt_is hlt2 (by simp; omega)) run_next) ?_
  -- the pairs
  have inner : ∀ (i : Nat), i < vt.length → ∀ (js : List Nat) (p : Int) (s7 s8 : Sl), (∀ j ∈ js, j < vt.length ∧ i ≠ j) → ∃ s7' s8', Loop K E (gName 7) (tSeq (tAsg (tCall (spD K F_pair_fault) [] E0 (tCons (tVar 0) (tCons (tVar 1) (tCons (tVar 6) (tCons (tVar 7) tNil))))) (gName 8)) (tIfS (tTest (tOp rNotN (tVar 8) (tC .non))) (tRet (tVar 8)) tNext))
      (js.map fun (i : Nat) => PyData.int (i : Int)) [.dat (T bt), .dat (vsD vt), .dat (.list (cs.map fun (i : Nat) => PyData.int (i : Int))), .un, .un, .dat (.int p), .dat (.int i), s7, s8, .un, .un, .un, .un, .un, .un, .un, .un, .un]
      (match firstF bt vt i js with | some d => .rt d | none => .nx [.dat (T bt), .dat (vsD vt), .dat (.list (cs.map fun (i : Nat) => PyData.int (i : Int))), .un, .un, .dat (.int p), .dat (.int i), s7', s8', .un, .un, .un, .un, .un, .un, .un, .un, .un]) := by
    intro i hi js
    induction js with
    | nil => exact fun p s7 s8 _ => ⟨s7, s8, .nil⟩
    | cons j js ih =>
      intro p s7 s8 hj
      obtain ⟨hj1, hj2⟩ := hj j List.mem_cons_self
      have hset : RunD K E (tAsg (tCall (spD K F_pair_fault) [] E0 (tCons (tVar 0) (tCons (tVar 1) (tCons (tVar 6) (tCons (tVar 7) tNil))))) (gName 8)) [.dat (T bt), .dat (vsD vt), .dat (.list (cs.map fun (i : Nat) => PyData.int (i : Int))), .un, .un, .dat (.int p), .dat (.int i), .dat (.int j), s8, .un, .un, .un, .un, .un, .un, .un, .un, .un]
          (.nx [.dat (T bt), .dat (vsD vt), .dat (.list (cs.map fun (i : Nat) => PyData.int (i : Int))), .un, .un, .dat (.int p), .dat (.int i), .dat (.int j), .dat (optD (faultO bt vt i j)), .un, .un, .un, .un, .un, .un, .un, .un, .un]) :=
        run_asg (evd_call0 (eva_cons (evd_var rfl) (eva_cons (evd_var rfl) (eva_cons (evd_var rfl) (eva_cons (evd_var rfl) eva_nil)))) ⟨bt, vt, i, j, rfl, ok, hi, hj1, hj2, rfl⟩) gd_name
      have ht : EvT K (tTest (tOp rNotN (tVar 8) (tC .non))) [.dat (T bt), .dat (vsD vt), .dat (.list (cs.map fun (i : Nat) => PyData.int (i : Int))), .un, .un, .dat (.int p), .dat (.int i), .dat (.int j), .dat (optD (faultO bt vt i j)), .un, .un, .un, .un, .un, .un, .un, .un, .un] (!isNon (optD (faultO bt vt i j))) := evt_test (evd_op (evd_var rfl) evd_non rnot_N)
      unfold firstF
      cases hf : faultO bt vt i j with
      | some d =>
        rw [hf] at ht hset
        have hd : isNon d = false := by
          unfold faultO at hf
          split at hf
          · cases hf; rfl
          · split at hf
            · cases hf; rfl
            · split at hf
              · cases hf
              · cases hf; rfl
        exact ⟨s7, s8, .rt gd_name (run_nx hset (run_ifT (evt_is ht (by show (!isNon d) = true; rw [hd]; rfl)) (run_ret (evd_var rfl))))⟩
      | none =>
        rw [hf] at ht hset
        obtain ⟨s7', s8', L⟩ := ih p (.dat (.int j)) (.dat .none) fun q hq => hj q (List.mem_cons_of_mem _ hq)
        exact ⟨s7', s8', .nx gd_name (run_nx hset (run_ifF ht run_next)) L⟩
  have outer' : ∀ (is pre : List Nat) (s5 s6 s7 s8 : Sl), cs = pre ++ is → ∃ s5' s6' s7' s8', Loop K E (gTup K 2 (gCons (gName 5) (gCons (gName 6) gNil))) (tFor (iSeq K (tSl (rSlU K) (tVar 2) (tPart (tOp (rAddU K) (tVar 5) (tC (.int 1)))) tNoPart)) (gName 7) (tSeq (tAsg (tCall (spD K F_pair_fault) [] E0 (tCons (tVar 0) (tCons (tVar 1) (tCons (tVar 6) (tCons (tVar 7) tNil))))) (gName 8)) (tIfS (tTest (tOp rNotN (tVar 8) (tC .non))) (tRet (tVar 8)) tNext)))
      (enumF pre.length (is.map fun (i : Nat) => PyData.int (i : Int))) [.dat (T bt), .dat (vsD vt), .dat (.list (cs.map fun (i : Nat) => PyData.int (i : Int))), .un, .un, s5, s6, s7, s8, .un, .un, .un, .un, .un, .un, .un, .un, .un]
      (match anyF bt vt is with | some d => .rt d | none => .nx [.dat (T bt), .dat (vsD vt), .dat (.list (cs.map fun (i : Nat) => PyData.int (i : Int))), .un, .un, s5', s6', s7', s8', .un, .un, .un, .un, .un, .un, .un, .un, .un]) := by
    intro is
    induction is with
    | nil => exact fun pre s5 s6 s7 s8 _ => ⟨s5, s6, s7, s8, .nil⟩
    | cons i is ih =>
      intro pre s5 s6 s7 s8 hpre
      have hi : i < vt.length := hmem i (by rw [hpre]; simp)
      have hjs : ∀ j ∈ is, j < vt.length ∧ i ≠ j := fun j hj => ⟨hmem j (by rw [hpre]; simp [hj]), fun e => by
        have h1 := hpw
        rw [hpre] at h1
        have h2 := (List.pairwise_cons.mp (List.pairwise_append.mp h1).2.1).1 j hj
        omega⟩
      obtain ⟨s7', s8', L⟩ := inner i hi is pre.length s7 s8 hjs
      have hsl : EvD K (tSl (rSlU K) (tVar 2) (tPart (tOp (rAddU K) (tVar 5) (tC (.int 1)))) tNoPart) [.dat (T bt), .dat (vsD vt), .dat (.list (cs.map fun (i : Nat) => PyData.int (i : Int))), .un, .un, .dat (.int (pre.length : Nat)), .dat (.int i), s7, s8, .un, .un, .un, .un, .un, .un, .un, .un, .un] (.list (is.map fun (i : Nat) => PyData.int (i : Int))) := by
        have h1 := evd_sl (K := K) (Γ := [.dat (T bt), .dat (vsD vt), .dat (.list (cs.map fun (i : Nat) => PyData.int (i : Int))), .un, .un, .dat (.int (pre.length : Nat)), .dat (.int i), s7, s8, .un, .un, .un, .un, .un, .un, .un, .un, .un]) (evd_var (i := 2) rfl) (evo_some (evd_op (evd_var (i := 5) rfl) (evd_int (i := 1)) radd_int)) evo_no rsl_lst
        refine evd_is h1 ?_
        rw [cut_suf (k := pre.length + 1) (by simp)]
        have e : (pre ++ i :: is).map (fun (i : Nat) => PyData.int (i : Int)) = (pre ++ [i]).map (fun (i : Nat) => PyData.int (i : Int)) ++ is.map (fun (i : Nat) => PyData.int (i : Int)) := by rw [← List.map_append]; simp
        rw [hpre, e, List.drop_left' (by simp)]
      have it := run_for (E := E) (itd_seqL hsl) L
      have hg : GD K (gTup K 2 (gCons (gName 5) (gCons (gName 6) gNil))) (.tuple [.int (pre.length : Nat), .int i]) [.dat (T bt), .dat (vsD vt), .dat (.list (cs.map fun (i : Nat) => PyData.int (i : Int))), .un, .un, s5, s6, s7, s8, .un, .un, .un, .un, .un, .un, .un, .un, .un] [.dat (T bt), .dat (vsD vt), .dat (.list (cs.map fun (i : Nat) => PyData.int (i : Int))), .un, .un, .dat (.int (pre.length : Nat)), .dat (.int i), s7, s8, .un, .un, .un, .un, .un, .un, .un, .un, .un] := gd_tup (gds_cons gd_name (gds_cons gd_name gds_nil))
      unfold anyF
      cases hf : firstF bt vt i is with
      | some d =>
        rw [hf] at it
        exact ⟨s5, s6, s7, s8, .rt hg it⟩
      | none =>
        rw [hf] at it
        obtain ⟨a, b, c, d, L2⟩ := ih (pre ++ [i]) (.dat (.int (pre.length : Nat))) (.dat (.int i)) s7' s8' (by rw [hpre]; simp)
        rw [List.length_append, List.length_singleton] at L2
        exact ⟨a, b, c, d, .nx hg it L2⟩
  obtain ⟨s5, s6, s7, s8, L⟩ := outer' cs [] .un .un .un .un rfl
  have it := run_for (E := E) (itd_enumL (K := K) (Γ := [.dat (T bt), .dat (vsD vt), .dat (.list (cs.map fun (i : Nat) => PyData.int (i : Int))), .un, .un, .un, .un, .un, .un, .un, .un, .un, .un, .un, .un, .un, .un, .un]) (eva_cons (evd_var (i := 2) rfl) eva_nil)) (by rw [enumD_eq]; exact L)
  have hpk' : ∀ i j r, cs = i :: j :: r → anyF bt vt cs = none → ∃ f, blockForm bt (vt.getD i []) = some f := fun i j r e h => by
    subst e
    exact hpk i j r hcs h
  cases hany : anyF bt vt cs with
  | some d =>
    rw [hany] at it
    refine runm_rt (runm_end it ?_) (fun _ _ z => by cases z)
    show Out.rt d = .rt (paperD bt vt)
    unfold paperD
    rw [hcs]
    match cs, h2, hany with
    | [], h, _ => exact absurd (by simp) h
    | [i], h, _ => exact absurd (by simp) h
    | i :: j :: r, _, hany =>
      show _ = Out.rt (match anyF bt vt (i :: j :: r) with | some d => d | none => _)
      rw [hany]
  | none =>
  rw [hany] at it
  refine runm_nx it ?_
  obtain ⟨i0, i1, ir, he⟩ : ∃ i j r, cs = i :: j :: r := by
    match cs, h2 with
    | [], h => exact absurd (by simp) h
    | [i], h => exact absurd (by simp) h
    | i :: j :: r, _ => exact ⟨i, j, r, rfl⟩
  obtain ⟨f, hf⟩ := hpk' i0 i1 ir he hany
  have hpd : paperD bt vt = paperF f vt := by
    unfold paperD
    rw [hcs, he]
    show (match anyF bt vt (i0 :: i1 :: ir) with | some d => d | none => match blockForm bt (vt.getD i0 []) with | none => .none | some f => paperF f vt) = _
    rw [← he, hany, hf]
  rw [hpd]
  have hi0 : i0 < vt.length := hmem i0 (by rw [he]; simp)
  have hg0 : (vt.map T)[i0]? = some (T (vt.getD i0 [])) := by
    rw [List.getElem?_map, List.getD_eq_getElem?_getD, List.getElem?_eq_getElem hi0]; rfl
  have hm0 : vt.getD i0 [] ∈ vt := by
    rw [List.getD_eq_getElem?_getD, List.getElem?_eq_getElem hi0]
    exact List.getElem_mem hi0
  have hv0 := ok.v _ hm0
  have hbl := ok.bl
  have hbk := blockForm_blk hf
  refine runm_nx (run_asg (d := formD (blockForm bt (vt.getD i0 []))) (g := gTup K 5 (gCons (gName 9) (gCons (gName 10) (gCons (gName 11) (gCons (gName 12) (gCons (gName 13) gNil))))))
    (Γ1 := [.dat (T bt), .dat (vsD vt), .dat (.list (cs.map fun (i : Nat) => PyData.int (i : Int))), .un, .un, s5, s6, s7, s8, .dat (T f.front), .dat (T f.block), .dat (T f.back), .dat (.int (f.times : Nat)), .dat (.int (f.others : Nat)), .un, .un, .un, .un])
    (evd_call0 (eva_cons (evd_var rfl) (eva_cons (evd_op (evd_var rfl) (evd_op (evd_var rfl) evd_int (rix_lst (d := .int (i0 : Nat)) (by rw [he]; exact atI_nat (n := 0) rfl rfl))) (rix_tup (atI_nat (n := i0) rfl hg0))) eva_nil)) ⟨bt, _, rfl, tOk_iff.mpr ok.b, tOk_iff.mpr hv0.1, by omega, by omega, rfl⟩) (by
      rw [hf]
      exact gd_tup (gds_cons gd_name (gds_cons gd_name (gds_cons gd_name (gds_cons gd_name (gds_cons gd_name gds_nil))))))) ?_
  have cmp2 : ∀ ts : List Tx, Cmp K (gName 4) tYes (tCall (spD K F_block_number) [] E0 (tCons (tVar 4) (tCons (tVar 9) (tCons (tVar 10) (tCons (tVar 11) tNil))))) [4] [.dat (T bt), .dat (vsD vt), .dat (.list (cs.map fun (i : Nat) => PyData.int (i : Int))), .un, .un, s5, s6, s7, s8, .dat (T f.front), .dat (T f.block), .dat (T f.back), .dat (.int (f.times : Nat)), .dat (.int (f.others : Nat)), .un, .un, .un, .un] (ts.map T) ((ts.map (numb f)).map PyData.int) := by
    intro ts
    induction ts with
    | nil => exact .nil
    | cons t ts ih => exact .yes gdw_name evt_yes (evd_call0 (eva_cons (evd_var rfl) (eva_cons (evd_var rfl) (eva_cons (evd_var rfl) (eva_cons (evd_var rfl) eva_nil)))) ⟨t, f.front, f.block, f.back, rfl, hbk.1, by omega, rfl⟩) ih
  refine runm_nx (run_asg (d := T (vt.map (numb f))) (evd_cb (eva_cons (evd_lc (itd_seqT (evd_var rfl)) (cmp2 vt) (by rw [List.length_map]; omega)) eva_nil) rtup_lst) gd_name) ?_
  refine runm_parN (d := .int (f.times : Nat)) (ds := []) (evd_var rfl) eva_nil (by simp) fun a => ?_
  show RunM K Mx [] _ E _ [(a, [])] [.dat (T bt), .dat (vsD vt), .dat (.list (cs.map fun (i : Nat) => PyData.int (i : Int))), .un, .un, s5, s6, s7, s8, .dat (T f.front), .dat (T f.block), .dat (T f.back), .dat (.int (f.times : Nat)), .dat (.int (f.others : Nat)), .dat (T (vt.map (numb f))), .dat (.int (f.times : Nat)), .ref a, .un] _
  refine runm_seq (Ψ' := fun o' ms' => (∃ ts s3 s15 s17, takeGo f.times (vt.map (numb f)) 0 f.times [] = none ∧ o' = .nx [.dat (T bt), .dat (vsD vt), .dat (.list (cs.map fun (i : Nat) => PyData.int (i : Int))), s3, .un, s5, s6, s7, s8, .dat (T f.front), .dat (T f.block), .dat (T f.back), .dat (.int (f.times : Nat)), .dat (.int (f.others : Nat)), .dat (T (vt.map (numb f))), s15, .ref a, s17] ∧ ms' = [(a, ts)]) ∨ ∃ ts, takeGo f.times (vt.map (numb f)) 0 f.times [] = some ts ∧ o' = .rt (.tuple [.str "clash", ordD ts])) ?_ (fun Γ1 ms1 h => ?_) (fun o' ms1 h hn => ?_)
  · refine runm_for (R := fun es ms Γ => ∃ (rest : List Int) (p : Nat) (left : Int) (ts : List Nat) (s3 s17 : Sl), es = enumF p (rest.map PyData.int) ∧ ms = [(a, ts.map fun (i : Nat) => PyData.int (i : Int))] ∧ Γ = [.dat (T bt), .dat (vsD vt), .dat (.list (cs.map fun (i : Nat) => PyData.int (i : Int))), s3, .un, s5, s6, s7, s8, .dat (T f.front), .dat (T f.block), .dat (T f.back), .dat (.int (f.times : Nat)), .dat (.int (f.others : Nat)), .dat (T (vt.map (numb f))), .dat (.int left), .ref a, s17] ∧ ts.length + rest.length ≤ 8 ∧ takeGo f.times rest p left ts = takeGo f.times (vt.map (numb f)) 0 f.times [])
      (itd_enumT (eva_cons (evd_var rfl) eva_nil)) ⟨vt.map (numb f), 0, f.times, [], .un, .un, by rw [enumD_eq], rfl, rfl, by simp; omega, rfl⟩ ?_ ?_
    · rintro d es ms Γ ⟨rest, p, left, ts, s3, s17, h1, rfl, rfl, hl, htk⟩
      cases rest with
      | nil => cases h1
      | cons n rest =>
      obtain ⟨rfl, rfl⟩ := List.cons.inj h1
      refine ⟨[.dat (T bt), .dat (vsD vt), .dat (.list (cs.map fun (i : Nat) => PyData.int (i : Int))), .dat (.int p), .un, s5, s6, s7, s8, .dat (T f.front), .dat (T f.block), .dat (T f.back), .dat (.int (f.times : Nat)), .dat (.int (f.others : Nat)), .dat (T (vt.map (numb f))), .dat (.int left), .ref a, .dat (.int n)], gd_tup (gds_cons gd_name (gds_cons gd_name gds_nil)), ?_⟩
      have hl' : ts.length + rest.length + 1 ≤ 8 := by rw [List.length_cons] at hl; omega
      have th : ∀ ts : List Nat, Thw [(a, ts.map fun (i : Nat) => PyData.int (i : Int))] [.dat (T bt), .dat (vsD vt), .dat (.list (cs.map fun (i : Nat) => PyData.int (i : Int))), .dat (.int p), .un, s5, s6, s7, s8, .dat (T f.front), .dat (T f.block), .dat (T f.back), .dat (.int (f.times : Nat)), .dat (.int (f.others : Nat)), .dat (T (vt.map (numb f))), .dat (.int left), .ref a, .dat (.int n)] [.dat (T bt), .dat (vsD vt), .dat (.list (cs.map fun (i : Nat) => PyData.int (i : Int))), .dat (.int p), .un, s5, s6, s7, s8, .dat (T f.front), .dat (T f.block), .dat (T f.back), .dat (.int (f.times : Nat)), .dat (.int (f.others : Nat)), .dat (T (vt.map (numb f))), .dat (.int left), .ref a, .dat (.int n)] := fun ts => Thw.refl _
      have thO : ∀ (ts : List Nat) (left : Int), Thw [(a, ts.map fun (i : Nat) => PyData.int (i : Int))] [.dat (T bt), .dat (vsD vt), .dat (.list (cs.map fun (i : Nat) => PyData.int (i : Int))), .dat (.int p), .un, s5, s6, s7, s8, .dat (T f.front), .dat (T f.block), .dat (T f.back), .dat (.int (f.times : Nat)), .dat (.int (f.others : Nat)), .dat (T (vt.map (numb f))), .dat (.int left), .ref a, .dat (.int n)] [.dat (T bt), .dat (vsD vt), .dat (.list (cs.map fun (i : Nat) => PyData.int (i : Int))), .dat (.int p), .un, s5, s6, s7, s8, .dat (T f.front), .dat (T f.block), .dat (T f.back), .dat (.int (f.times : Nat)), .dat (.int (f.others : Nat)), .dat (T (vt.map (numb f))), .dat (.int left), .dat (.list (ts.map fun (i : Nat) => PyData.int (i : Int))), .dat (.int n)] := fun ts left =>
        .same (.same (.same (.same (.same (.same (.same (.same (.same (.same (.same (.same (.same (.same (.same (.same (.own List.mem_cons_self (.same .nil)))))))))))))))))
      have hc : EvT K (tTest (tOp (rI0 fun i j => .bl (decide (i < j))) (tVar 17) (tVar 12))) [.dat (T bt), .dat (vsD vt), .dat (.list (cs.map fun (i : Nat) => PyData.int (i : Int))), .dat (.int p), .un, s5, s6, s7, s8, .dat (T f.front), .dat (T f.block), .dat (T f.back), .dat (.int (f.times : Nat)), .dat (.int (f.others : Nat)), .dat (T (vt.map (numb f))), .dat (.int left), .ref a, .dat (.int n)] (decide (n < f.times)) := evt_test (evd_op (evd_var rfl) (evd_var rfl) rop_B0)
      generalize htg : takeGo (f.times : Int) (vt.map (numb f)) 0 (f.times : Int) [] = tg at htk
      unfold takeGo at htk
      refine runm_seq (Ψ' := fun o' ms' => o' = .nx [.dat (T bt), .dat (vsD vt), .dat (.list (cs.map fun (i : Nat) => PyData.int (i : Int))), .dat (.int p), .un, s5, s6, s7, s8, .dat (T f.front), .dat (T f.block), .dat (T f.back), .dat (.int (f.times : Nat)), .dat (.int (f.others : Nat)), .dat (T (vt.map (numb f))), .dat (.int (if n < (f.times : Int) then left - (f.times - n) else left)), .ref a, .dat (.int n)] ∧ ms' = [(a, (if n < (f.times : Int) then ts ++ [p] else ts).map fun (i : Nat) => PyData.int (i : Int))]) ?_ ?_ (fun o' ms' h hn => absurd h.1 (hn _))
      · by_cases hn : n < (f.times : Int)
        · rw [if_pos hn, if_pos hn]
          refine runm_ifT (th ts) (evt_is hc (by simp [hn])) (runm_nx (run_aug (r := left - (f.times - n)) rfl (evd_op (evd_var rfl) (evd_var rfl) rop_I0) rfl) ?_)
          refine runm_appE (tr := tNil) (j := 16) (x := a) (ds := ts.map fun (i : Nat) => PyData.int (i : Int)) rfl List.mem_cons_self rfl (by rw [List.length_map]; omega) (evm_of (evd_var rfl)) fun d hd => ⟨rfl, ?_⟩
          have hd' : d = .int p := hd
          subst hd'
          unfold setM
          rw [List.map_cons, List.map_nil, if_pos rfl, List.map_append]
          rfl
        · rw [if_neg hn, if_neg hn]
          exact runm_ifF (th ts) (evt_is hc (by simp; omega)) (runm_end run_next ⟨rfl, rfl⟩)
      · rintro Γ1 ms1 ⟨h1, rfl⟩
        cases h1
        have hts : (if n < (f.times : Int) then ts ++ [p] else ts).length ≤ ts.length + 1 := by
          by_cases hn : n < (f.times : Int)
          · rw [if_pos hn]; simp
          · rw [if_neg hn]; omega
        generalize (if n < (f.times : Int) then ts ++ [p] else ts) = ts' at htk hts ⊢
        generalize (if n < (f.times : Int) then left - (f.times - n) else left) = left' at htk ⊢
        have hc2 : EvT K (tTest (tOp (rI0 fun i j => .bl (decide (i < j))) (tVar 15) (tC (.int 0)))) [.dat (T bt), .dat (vsD vt), .dat (.list (cs.map fun (i : Nat) => PyData.int (i : Int))), .dat (.int p), .un, s5, s6, s7, s8, .dat (T f.front), .dat (T f.block), .dat (T f.back), .dat (.int (f.times : Nat)), .dat (.int (f.others : Nat)), .dat (T (vt.map (numb f))), (.dat (.int left')), (.dat (.list (ts'.map fun (i : Nat) => PyData.int (i : Int)))), .dat (.int n)] (decide (left' < 0)) := evt_test (evd_op (evd_var rfl) evd_int rop_B0)
        by_cases hneg : left' < 0
        · rw [if_pos hneg] at htk
          refine runm_ifT (thO ts' left') (evt_is hc2 (by simp [hneg])) (runm_retT (thO ts' left') (evd_tup (eva_cons evd_str (eva_cons (evd_cb (eva_cons (evd_var rfl) eva_nil) rtup_lst) eva_nil))) ?_)
          exact .inr ⟨ts', htk.symm, rfl⟩
        · rw [if_neg hneg] at htk
          refine runm_ifF (thO ts' left') (evt_is hc2 (by simp; omega)) (runm_end run_next ?_)
          exact ⟨rest, p + 1, left', ts', _, _, rfl, rfl, rfl, by omega, htk⟩
    · rintro ms Γ ⟨rest, p, left, ts, s3, s17, h1, rfl, rfl, hl, htk⟩
      cases rest with
      | nil => exact .inl ⟨_, _, _, _, htk.symm, rfl, rfl⟩
      | cons n rest => cases h1
  · rcases h with ⟨ts, s3, s15, s17, hn, h2, rfl⟩ | ⟨ts, h1, h2⟩
    · cases h2
      refine runm_end (run_ret ?_) rfl
      unfold paperF
      rw [hn]
      exact evd_tup (eva_cons evd_str (eva_cons (evd_var rfl) (eva_cons (evd_var rfl) (eva_cons (evd_var rfl) (eva_cons (evd_var rfl) (eva_cons (evd_var rfl) eva_nil))))))
    · cases h2
  · rcases h with ⟨ts, s3, s15, s17, _, h2, _⟩ | ⟨ts, h1, h2⟩
    · exact absurd h2 (hn _)
    · unfold paperF
      rw [h1]
      exact h2
end CB

/-! W10 -/
set_option Elab.async false
set_option linter.all false
set_option maxRecDepth 100000
set_option maxHeartbeats 4000000
namespace CB
open PySem PySem.Spec PyProof.Rows L2
/-- data of no more than n levels, small enough -/
def gd : Nat → D → Bool
  | 0, _ => false
  | n + 1, d => match d with
    | .tuple ds => decide (ds.length ≤ 1000) && ds.all (gd n)
    | .list ds => decide (ds.length ≤ 1000) && ds.all (gd n)
    | .str s => PyData.strOk s
    | .dict _ => false
    | _ => true
theorem gd_all {n : Nat} (ih : ∀ d, gd n d = true → d.canLay0 = true ∧ d.depth ≤ n) : ∀ ds : List D, ds.all (gd n) = true → PyData.canLayAll0 ds = true ∧ PyData.depthAll ds ≤ n
  | [], _ => ⟨rfl, by simp [PyData.depthAll]⟩
  | d :: ds, h => by
    rw [List.all_cons, Bool.and_eq_true] at h
    obtain ⟨h1, h2⟩ := ih d h.1
    obtain ⟨h3, h4⟩ := gd_all ih ds h.2
    exact ⟨by simp [PyData.canLayAll0, h1, h3], by simp only [PyData.depthAll]; omega⟩
theorem gd_lay : ∀ (n : Nat) (d : D), gd n d = true → d.canLay0 = true ∧ d.depth ≤ n
  | 0, _, h => by cases h
  | n + 1, .none, _ => ⟨rfl, by simp [PyData.depth]⟩
  | n + 1, .bool _, _ => ⟨rfl, by simp [PyData.depth]⟩
  | n + 1, .int _, _ => ⟨rfl, by simp [PyData.depth]⟩
  | n + 1, .str s, h => ⟨by rw [PyData.canLay0]; exact h, by simp [PyData.depth]⟩
  | n + 1, .list ds, h => by
    have h' : (decide (ds.length ≤ 1000) && ds.all (gd n)) = true := h
    rw [Bool.and_eq_true] at h'
    obtain ⟨h1, h2⟩ := gd_all (gd_lay n) ds h'.2
    exact ⟨by simpa [PyData.canLay0] using h1, by simp only [PyData.depth]; omega⟩
  | n + 1, .tuple ds, h => by
    have h' : (decide (ds.length ≤ 1000) && ds.all (gd n)) = true := h
    rw [Bool.and_eq_true] at h'
    obtain ⟨h1, h2⟩ := gd_all (gd_lay n) ds h'.2
    exact ⟨by simpa [PyData.canLay0] using h1, by simp only [PyData.depth]; omega⟩
  | n + 1, .dict _, h => by cases h
theorem gd_shaped {n : Nat} {d : D} (h : gd n d = true) (hn : n ≤ 64 := by decide) : SeqAt.shaped d = true := by
  obtain ⟨h1, h2⟩ := gd_lay n d h
  unfold SeqAt.shaped
  rw [h1, Bool.true_and]
  exact decide_eq_true (by omega)
theorem gd_tuple {n : Nat} {ds : List D} : gd (n + 1) (.tuple ds) = true ↔ ds.length ≤ 1000 ∧ ∀ d ∈ ds, gd n d = true := by
  show (decide (ds.length ≤ 1000) && ds.all (gd n)) = true ↔ _
  rw [Bool.and_eq_true, decide_eq_true_eq, List.all_eq_true]
theorem gd_list {n : Nat} {ds : List D} : gd (n + 1) (.list ds) = true ↔ ds.length ≤ 1000 ∧ ∀ d ∈ ds, gd n d = true := by
  show (decide (ds.length ≤ 1000) && ds.all (gd n)) = true ↔ _
  rw [Bool.and_eq_true, decide_eq_true_eq, List.all_eq_true]
theorem gd_up : ∀ {n : Nat} {d : D}, gd n d = true → gd (n + 1) d = true
  | 0, _, h => by cases h
  | n + 1, d, h => by
    cases d with
    | tuple ds => exact gd_tuple.mpr ⟨(gd_tuple.mp h).1, fun x hx => gd_up ((gd_tuple.mp h).2 x hx)⟩
    | list ds => exact gd_list.mpr ⟨(gd_list.mp h).1, fun x hx => gd_up ((gd_list.mp h).2 x hx)⟩
    | _ => exact h
def sameD : Nat → D → D → Bool
  | 0, _, _ => false
  | n + 1, v, p => match p with
    | .tuple ps => match v with
      | .tuple vs => decide (vs.length = ps.length) && (vs.zip ps).all fun q => sameD n q.1 q.2
      | _ => false
    | p => decide (isTy "bool" v = isTy "bool" p) && PyData.eqv v p
def isOrd (d : D) (n : Int) : Bool := match d with
  | .tuple ds => ds.all (fun d => isBelow d n) && decide (ds.map intOf).Nodup
  | _ => false
variable {P : Program} {w : World} {K : PySem.W.Frag} {mg : Str → Option Value} {base : Heap}
def F_is_order (ds : List D) (r : Res) : Prop := ∃ d n, ds = [d, .int n] ∧ lenD d ≤ 1000 ∧ r = .ok (.bool (isOrd d n))
def F_same (n : Nat) (ds : List D) (r : Res) : Prop := ∃ v p, ds = [v, p] ∧ gd 16 v = true ∧ gd n p = true ∧ n ≤ 16 ∧ r = .ok (.bool (sameD n v p))
def F_are_same := F_same 4
theorem sc_is_order : FnScope ["value", "many", "place"] ["value", "many"] (defScope s_is_order) := ⟨rfl, rfl, rfl, by decide +kernel, rfl, by decide +kernel, by decide +kernel⟩
theorem sc_are_same : FnScope ["value", "paper", "one", "other"] ["value", "paper"] (defScope s_are_same) := ⟨rfl, rfl, rfl, by decide +kernel, rfl, by decide +kernel, by decide +kernel⟩
theorem below_all {n : Int} : ∀ {ds : List D}, ds.all (fun d => isBelow d n) = true → ds = (ds.map intOf).map PyData.int
  | [], _ => rfl
  | d :: ds, h => by
    rw [List.all_cons, Bool.and_eq_true] at h
    rw [List.map_cons, List.map_cons, ← below_int h.1, ← below_all h.2]
theorem ok_is_order {fd : FuncData} (Fu : FnP K "is_order" s_is_order [] fd) (B : Bl mg)  (h_is_below : HasF P w K mg base 3 "is_below" ["value", "many"] [] (spD K F_is_below)) : FnOk P w K mg base (L2.CX P w) 4 (He.ga K "is_order") fd ["value", "many"] (spD K F_is_order) := by
  refine fnD Fu sc_is_order (fun ds r ⟨d, n, h, _, e⟩ => ⟨by rw [h]; rfl, _, e⟩) fun cdv A outer s H E hr => ⟨_, (pss_cons (ps_if (PW.pt (pw_or (pt_not (pt_val (pe_callB (id := "isinstance") (r := rIsi K) call_isi rfl B.isinstance (by decide +kernel) (pa_cons (pv 0) (pa_cons (pe_bltn (v := .ty "tuple") rfl B.tuple (by decide +kernel) rfl) pa_nil))))) (pw_or1 (pt_not (pt_val (pe_callB (id := "all") (r := rAll K) (cr_all rfl) rfl B.all (by decide +kernel) (pa_cons (pe_lc (own := [("place", 2)]) rfl sc_is_order.nd (pi_seq (pv 0)) (blkOk_by (N := ["value", "many", "place"]) (sc := defScope s_is_order) (by decide +kernel)) (fun _ _ _ _ _ => (pg_name (i := 2) sc_is_order.nd rfl (Or.inl rfl))) (fun _ _ _ _ _ => pts_nil) (fun _ _ _ _ _ => (pe_f h_is_below (hr.mono (by decide)) (pa_cons (pv 2) (pa_cons (pv 1) pa_nil))))) pa_nil))))))) (pss_one (ps_ret pe_bl)) pss_nil)
      (pss_one (ps_ret (pe_cmpR (r := rEqD K) (op_eqD hr.units) (pe_lenSet rfl B.len rfl B.set (pv 0)) (pe_callB (id := "len") (r := rLenA K) call_lenA rfl B.len boot_len (pa_cons (pv 0) pa_nil)) (nomark _))))), fun ds d ⟨v, n, h, hl, e⟩ => ?_⟩
  subst h
  cases e
  have h1 : EvT K (tNot (tB (tCB (rIsi K) (tCons (tVar 0) (tCons (tC (.ty "tuple")) tNil))))) [.dat v, .dat (.int n), .un] (!isTy "tuple" v) := evt_not (evt_B (evd_isi kit_tuple (evd_var rfl)))
  cases hb : isTy "tuple" v with
  | false =>
    rw [hb] at h1
    have e1 : isOrd v n = false := by cases v <;> first | rfl | cases hb
    rw [e1]
    exact run_rt (run_ifT (evt_is (evt_or h1 (c := true) fun z => by cases z) rfl) (run_ret evd_bl))
  | true =>
  rw [hb] at h1
  obtain ⟨es, rfl⟩ := isTuple_iff hb
  have hl' : es.length ≤ 1000 := hl
  have cmp : ∀ xs : List D, Cmp K (gName 2) tYes (tCall (spD K F_is_below) [] E0 (tCons (tVar 2) (tCons (tVar 1) tNil))) [2] [.dat (.tuple es), .dat (.int n), .un] xs (xs.map fun d => .bool (isBelow d n)) := by
    intro xs
    induction xs with
    | nil => exact .nil
    | cons d xs ih => exact .yes gdw_name evt_yes (evd_call0 (eva_cons (evd_var rfl) (eva_cons (evd_var rfl) eva_nil)) ⟨d, n, rfl, rfl⟩) ih
  have cm := cmp es
  have e3 : es.map (fun d => PyData.bool (isBelow d n)) = (es.map fun d => isBelow d n).map PyData.bool := by rw [List.map_map]; rfl
  rw [e3] at cm
  have e4 : (es.map fun d => isBelow d n).all id = es.all fun d => isBelow d n := by rw [List.all_map]; rfl
  have h2 := evt_or h1 (fun _ => evt_not (evt_B (evd_cb (eva_cons (evd_lc (itd_seqT (evd_var (i := 0) rfl)) cm (by omega)) eva_nil) rall)))
  rw [e4] at h2
  cases ha : es.all fun d => isBelow d n with
  | false =>
    rw [ha] at h2
    have e1 : isOrd (.tuple es) n = false := by
      show (es.all (fun d => isBelow d n) && _) = false
      rw [ha]; rfl
    rw [e1]
    exact run_rt (run_ifT (evt_is h2 rfl) (run_ret evd_bl))
  | true =>
    rw [ha] at h2
    refine run_nx (run_ifF (evt_is h2 rfl) run_next) (run_ret ?_)
    have e1 : isOrd (.tuple es) n = decide (((dd (es.map intOf)).length : Int) = (es.length : Int)) := by
      show (es.all (fun d => isBelow d n) && decide (es.map intOf).Nodup) = _
      rw [ha, Bool.true_and]
      congr 1
      apply propext
      rw [← dd_eq, List.length_map]
      omega
    rw [e1]
    have hT : (.tuple es : D) = T (es.map intOf) := by unfold T; rw [← below_all ha]
    refine evd_op (evd_lenSet (t := es.map intOf) (evd_is (evd_var rfl) hT) (by rw [List.length_map]; omega)) (evd_cb (eva_cons (evd_var rfl) eva_nil) rlen_tup) req_int
theorem lenD_tup {ds : List D} : lenD (.tuple ds) = ds.length := rfl
theorem ok_are_same {fd : FuncData} (n k : Nat) (Fu : FnP K "are_same" s_are_same [] fd) (B : Bl mg) (h_are_same : HasF P w K mg base k "are_same" ["value", "paper"] [] (spD K (F_same n))) : FnOk P w K mg base (L2.CX P w) (k + 1) (He.ga K "are_same") fd ["value", "paper"] (spD K (F_same (n + 1))) := by
  refine fnD Fu sc_are_same (fun ds r ⟨v, p, h, _, _, _, e⟩ => ⟨by rw [h]; rfl, _, e⟩) fun cdv A outer s H E hr => ⟨_, (pss_cons (ps_if (pt_val (pe_callB (id := "isinstance") (r := rIsi K) call_isi rfl B.isinstance (by decide +kernel) (pa_cons (pv 1) (pa_cons (pe_bltn (v := .ty "tuple") rfl B.tuple (by decide +kernel) rfl) pa_nil)))) (pss_cons (ps_if (PW.pt (pw_or (pt_not (pt_val (pe_callB (id := "isinstance") (r := rIsi K) call_isi rfl B.isinstance (by decide +kernel) (pa_cons (pv 0) (pa_cons (pe_bltn (v := .ty "tuple") rfl B.tuple (by decide +kernel) rfl) pa_nil))))) (pw_or1 (pt_cmpR (r := rNeD K) (op_neD hr.units) (pe_callB (id := "len") (r := rLenA K) call_lenA rfl B.len boot_len (pa_cons (pv 0) pa_nil)) (pe_callB (id := "len") (r := rLenA K) call_lenA rfl B.len boot_len (pa_cons (pv 1) pa_nil)) (nomark _))))) (pss_one (ps_ret pe_bl)) pss_nil)
      (pss_one (ps_ret (pe_callB (id := "all") (r := rAll K) (cr_all rfl) rfl B.all (by decide +kernel) (pa_cons (pe_lc (own := [("one", 2), ("other", 3)]) (g := gTup K 2 (gCons (gName 2) (gCons (gName 3) (gNil)))) rfl sc_are_same.nd (RZ.pi_zipA rfl B.zip (pa_cons (pv 0) (pa_cons (pv 1) pa_nil))) (blkOk_by (N := ["value", "paper", "one", "other"]) (sc := defScope s_are_same) (by decide +kernel)) (fun _ _ _ _ _ => (pg_tup rfl (pgs_cons (pg_name (i := 2) sc_are_same.nd rfl (Or.inl rfl)) (pgs_cons (pg_name (i := 3) sc_are_same.nd rfl (Or.inl rfl)) pgs_nil)))) (fun _ _ _ _ _ => pts_nil) (fun _ _ _ _ _ => (pe_f h_are_same hr (pa_cons (pv 2) (pa_cons (pv 3) pa_nil))))) pa_nil))))) pss_nil)
      (pss_one (ps_ret (pe_and (pe_cmpR (r := rEqD K) (op_eqD hr.units) (pe_callB (id := "isinstance") (r := rIsi K) call_isi rfl B.isinstance (by decide +kernel) (pa_cons (pv 0) (pa_cons (pe_bltn (v := .ty "bool") rfl B.bool (by decide +kernel) rfl) pa_nil))) (pe_callB (id := "isinstance") (r := rIsi K) call_isi rfl B.isinstance (by decide +kernel) (pa_cons (pv 1) (pa_cons (pe_bltn (v := .ty "bool") rfl B.bool (by decide +kernel) rfl) pa_nil))) (nomark _)) (pe_one (pe_cmpR (r := rEqD K) (op_eqD hr.units) (pv 0) (pv 1) (nomark _))))))), fun ds d ⟨v, p, h, hv, hp, hn, e⟩ => ?_⟩
  subst h
  cases e
  have h1 : EvT K (tB (tCB (rIsi K) (tCons (tVar 1) (tCons (tC (.ty "tuple")) tNil)))) [.dat v, .dat p, .un, .un] (isTy "tuple" p) := evt_B (evd_isi kit_tuple (evd_var rfl))
  cases hb : isTy "tuple" p with
  | false =>
    rw [hb] at h1
    have e1 : sameD (n + 1) v p = (decide (isTy "bool" v = isTy "bool" p) && PyData.eqv v p) := by cases p <;> first | rfl | cases hb
    rw [e1]
    have eb : decide (isTy "bool" v = isTy "bool" p) = PyData.eqv (.bool (isTy "bool" v)) (.bool (isTy "bool" p)) := by
      simp only [PyData.eqv]
      cases isTy "bool" v <;> cases isTy "bool" p <;> rfl
    refine run_nx (run_ifF h1 run_next) (run_ret (evd_andV ?_ fun _ => evd_op (evd_var rfl) (evd_var rfl) (req (hu := 0) (gd_shaped hv) (gd_shaped hp (by omega)))))
    rw [eb]
    exact evd_op (evd_isi kit_bool (evd_var rfl)) (evd_isi kit_bool (evd_var rfl)) (req (hu := 0) shaped_bool shaped_bool)
  | true =>
  rw [hb] at h1
  obtain ⟨ps, rfl⟩ := isTuple_iff hb
  obtain ⟨hp1, hp2⟩ := gd_tuple.mp hp
  refine run_rt (run_ifT h1 ?_)
  have h2 : EvT K (tNot (tB (tCB (rIsi K) (tCons (tVar 0) (tCons (tC (.ty "tuple")) tNil))))) [.dat v, .dat (.tuple ps), .un, .un] (!isTy "tuple" v) := evt_not (evt_B (evd_isi kit_tuple (evd_var rfl)))
  cases hb2 : isTy "tuple" v with
  | false =>
    rw [hb2] at h2
    have e1 : sameD (n + 1) v (.tuple ps) = false := by cases v <;> first | rfl | cases hb2
    rw [e1]
    exact run_rt (run_ifT (evt_is (evt_or h2 (c := true) fun z => by cases z) rfl) (run_ret evd_bl))
  | true =>
  rw [hb2] at h2
  obtain ⟨vs, rfl⟩ := isTuple_iff hb2
  obtain ⟨hv1, hv2⟩ := gd_tuple.mp hv
  have h3 := evt_or h2 fun _ => evt_test (evd_op (evd_cb (eva_cons (evd_var (i := 0) rfl) eva_nil) rlen_tup) (evd_cb (eva_cons (evd_var (i := 1) rfl) eva_nil) rlen_tup) rne_int)
  by_cases hl : vs.length = ps.length
  · refine run_nx (run_ifF (evt_is h3 (by simp [hl])) run_next) (run_ret ?_)
    have e1 : sameD (n + 1) (.tuple vs) (.tuple ps) = ((vs.zip ps).map fun q => sameD n q.1 q.2).all id := by
      show (decide (vs.length = ps.length) && (vs.zip ps).all fun q => sameD n q.1 q.2) = _
      rw [hl, List.all_map]
      simp
    rw [e1]
    have cmp : ∀ qs : List (D × D), (∀ q ∈ qs, gd 16 q.1 = true ∧ gd n q.2 = true) → Cmp K (gTup K 2 (gCons (gName 2) (gCons (gName 3) gNil))) tYes (tCall (spD K (F_same n)) [] E0 (tCons (tVar 2) (tCons (tVar 3) tNil))) [2, 3] [.dat (.tuple vs), .dat (.tuple ps), .un, .un] (qs.map fun p => .tuple [p.1, p.2]) ((qs.map fun q => sameD n q.1 q.2).map PyData.bool) := by
      intro qs
      induction qs with
      | nil => exact fun _ => .nil
      | cons q qs ih =>
        intro hq
        obtain ⟨q1, q2⟩ := hq q List.mem_cons_self
        exact .yes (gdw_tup (gdsw_cons gdw_name (gdsw_cons gdw_name gdsw_nil))) evt_yes (evd_call0 (eva_cons (evd_var rfl) (eva_cons (evd_var rfl) eva_nil)) ⟨q.1, q.2, rfl, q1, q2, by omega, rfl⟩) (ih fun x hx => hq x (List.mem_cons_of_mem _ hx))
    have cm := cmp (vs.zip ps) fun q hq => ⟨gd_up (hv2 _ (List.of_mem_zip hq).1), hp2 _ (List.of_mem_zip hq).2⟩
    refine evd_cb (eva_cons (evd_lc (itd_zipT (eva_cons (evd_var (i := 0) rfl) (eva_cons (evd_var (i := 1) rfl) eva_nil))) cm ?_) eva_nil) rall
    rw [zipD_len]; omega
  · have e1 : sameD (n + 1) (.tuple vs) (.tuple ps) = false := by
      show (decide (vs.length = ps.length) && _) = false
      rw [decide_eq_false hl]; rfl
    rw [e1]
    exact run_rt (run_ifT (evt_is h3 (by simp; omega)) (run_ret evd_bl))
end CB

/-! W11 -/
set_option Elab.async false
set_option linter.all false
set_option maxRecDepth 100000
set_option maxHeartbeats 4000000
namespace CB
open PySem PySem.Spec PyProof.Rows L2
theorem shaped_L (t : Tx) : SeqAt.shaped (L' t) = true := by
  have h1 := lay_ints t
  have h2 := depth_ints t
  simp only [SeqAt.shaped, L', PyData.canLay0, PyData.depth, h1, Bool.true_and, decide_eq_true_eq]
  omega
theorem rne_L {K : Fg} {s t : Tx} : ROp K (rNeD K) (L' s) (L' t) (.bool (!decide (s = t))) := by
  have e : PyData.eqv (L' s) (L' t) = decide (s = t) := by
    unfold L'
    simp only [PyData.eqv]
    exact eqv_ints s t
  rw [← e]; exact rne (hu := 0) (shaped_L s) (shaped_L t)
def ordL (o : D) : List Nat := nats (txOf o)
def itemD (v : D) (i : Nat) : D := ((seqOf v).getD []).getD i .none
def holdsB (bt : Tx) (vt : List Tx) (v : D) : Bool :=
  if isPaper v "clash" 2 then
    isOrd (itemD v 1) vt.length && (!decide (lenD (itemD v 1) = 0) && ((ends bt vt (ordL (itemD v 1)).dropLast).isSome && (ends bt vt (ordL (itemD v 1))).isNone))
  else if isPaper v "apart" 3 then
    isOrd (itemD v 1) vt.length && (isOrd (itemD v 2) vt.length && (decide (srt (txOf (itemD v 1)) = srt (txOf (itemD v 2))) && ((ends bt vt (ordL (itemD v 1))).isSome && ((ends bt vt (ordL (itemD v 2))).isSome && !decide (ends bt vt (ordL (itemD v 1)) = ends bt vt (ordL (itemD v 2)))))))
  else if isPaper v "one" 2 || isPaper v "block" 6 then sameD 4 v (paperD bt vt)
  else false
def holdsR (b vs v : D) : Res := match needT b (-1) with
  | .er k i => .er k i
  | .ok _ => match needV vs with
    | .er k i => .er k i
    | .ok _ => .ok (.bool (holdsB (txOf b) (vsOf vs) v))
theorem isPaper_iff {v : D} {w : Str} {n : Int} : isPaper v w n = true → ∃ ds, v = .tuple (.str w :: ds) ∧ ((ds.length + 1 : Nat) : Int) = n := fun h => by
  cases v with
  | tuple ds =>
    cases ds with
    | nil => cases h
    | cons e ds =>
      cases e with
      | str s =>
        have h' : (decide (((ds.length + 1 : Nat) : Int) = n) && decide (s = w)) = true := h
        rw [Bool.and_eq_true, decide_eq_true_eq, decide_eq_true_eq] at h'
        exact ⟨ds, by rw [h'.2], h'.1⟩
      | _ => cases h
  | _ => cases h
theorem paper2 {v : D} {w : Str} (h : isPaper v w 2 = true) : ∃ a, v = .tuple [.str w, a] := by
  obtain ⟨ds, rfl, hl⟩ := isPaper_iff h
  match ds, hl with
  | [a], _ => exact ⟨a, rfl⟩
  | [], h => exact absurd h (by simp)
  | _ :: _ :: _, h => exact absurd h (by simp; omega)
theorem paper3 {v : D} {w : Str} (h : isPaper v w 3 = true) : ∃ a b, v = .tuple [.str w, a, b] := by
  obtain ⟨ds, rfl, hl⟩ := isPaper_iff h
  match ds, hl with
  | [a, b], _ => exact ⟨a, b, rfl⟩
  | [], h => exact absurd h (by simp)
  | [_], h => exact absurd h (by simp)
  | _ :: _ :: _ :: _, h => exact absurd h (by simp; omega)
theorem nodup_len : ∀ (n : Nat) (o : List Nat), o.Nodup → (∀ p ∈ o, p < n) → o.length ≤ n
  | 0, [], _, _ => Nat.le_refl _
  | 0, p :: _, _, h => absurd (h p List.mem_cons_self) (by omega)
  | n + 1, o, h1, h2 => by
    by_cases hm : n ∈ o
    · have := nodup_len n (o.erase n) (h1.erase n) fun p hp => by
        have q := (h1.mem_erase_iff).mp hp
        have := h2 p q.2
        have := q.1
        omega
      rw [List.length_erase_of_mem hm] at this
      omega
    · have := nodup_len n o h1 fun p hp => by
        have := h2 p hp
        have : p ≠ n := fun e => hm (e ▸ hp)
        omega
      omega
theorem gd_str {n : Nat} {s : Str} (h : PyData.strOk s = true := by decide +kernel) : gd (n + 1) (.str s) = true := h
theorem gd_int {n : Nat} {i : Int} : gd (n + 1) (.int i) = true := rfl
theorem gd_l1 {n : Nat} {a : D} {ds : List D} (ha : gd n a = true) (h : ∀ d ∈ ds, gd n d = true) : ∀ d ∈ a :: ds, gd n d = true := fun d hd => by
  rcases List.mem_cons.mp hd with z | z
  · rw [z]; exact ha
  · exact h d z
theorem gd_l0 {n : Nat} : ∀ d ∈ ([] : List D), gd n d = true := fun _ h => by cases h
theorem isOrd_iff {o : D} {n : Nat} (h : isOrd o n = true) : o = ordD (ordL o) ∧ ordOk n (ordL o) ∧ txOf o = (ordL o).map fun (p : Nat) => (p : Int) := by
  cases o with
  | tuple ds =>
    have h' : (ds.all (fun d => isBelow d n) && decide (ds.map intOf).Nodup) = true := h
    rw [Bool.and_eq_true, decide_eq_true_eq] at h'
    obtain ⟨h1, h2⟩ := h'
    have hi := below_all h1
    have hb : ∀ x ∈ ds.map intOf, 0 ≤ x ∧ x < (n : Int) := fun x hx => by
      obtain ⟨d, hd, rfl⟩ := List.mem_map.mp hx
      have h3 := List.all_eq_true.mp h1 d hd
      have e := below_int h3
      rw [e] at h3
      simpa [isBelow] using h3
    have hc : ∀ t : Tx, (∀ x ∈ t, 0 ≤ x ∧ x < (n : Int)) → (nats t).map (fun (p : Nat) => (p : Int)) = t := by
      intro t
      induction t with
      | nil => exact fun _ => rfl
      | cons x t ih =>
        intro h
        unfold nats at ih ⊢
        rw [List.map_cons, List.map_cons, ih fun y hy => h y (List.mem_cons_of_mem _ hy)]
        have := h x List.mem_cons_self
        congr 1
        omega
    have e1 : txOf (.tuple ds) = ds.map intOf := rfl
    have e2 : txOf (.tuple ds) = (ordL (.tuple ds)).map fun (p : Nat) => (p : Int) := by
      unfold ordL
      rw [e1, hc _ hb]
    refine ⟨?_, ⟨?_, fun p hp => ?_⟩, e2⟩
    · unfold ordD
      have : (ordL (.tuple ds)).map (fun (p : Nat) => PyData.int (p : Int)) = ((ordL (.tuple ds)).map fun (p : Nat) => (p : Int)).map PyData.int := by rw [List.map_map]; rfl
      rw [this, ← e2, e1, ← hi]
    · unfold ordL nats
      rw [e1]
      rw [← hc _ hb] at h2
      exact (List.pairwise_map.mp h2).imp fun {a b} h e => h (by rw [e])
    · unfold ordL nats at hp
      obtain ⟨x, hx, rfl⟩ := List.mem_map.mp hp
      have := hb x hx
      omega
  | _ => cases h
theorem gd_T {t : Tx} (h : t.length ≤ 1000) : gd 2 (T t) = true := gd_tuple.mpr ⟨by rw [List.length_map]; exact h, fun d hd => by
  obtain ⟨x, _, rfl⟩ := List.mem_map.mp hd
  rfl⟩
theorem gd_ord {o : List Nat} (h : o.length ≤ 1000) : gd 2 (ordD o) = true := gd_tuple.mpr ⟨by rw [List.length_map]; exact h, fun d hd => by
  obtain ⟨x, _, rfl⟩ := List.mem_map.mp hd
  rfl⟩
theorem takeGo_len {times : Int} : ∀ {ns : List Int} {p : Nat} {left : Int} {ts tk : List Nat}, takeGo times ns p left ts = some tk → tk.length ≤ ts.length + ns.length
  | [], _, _, _, _, h => by cases h
  | n :: ns, p, left, ts, tk, h => by
    have hts : (if n < times then ts ++ [p] else ts).length ≤ ts.length + 1 := by
      by_cases hn : n < times
      · rw [if_pos hn]; simp
      · rw [if_neg hn]; omega
    unfold takeGo at h
    rw [List.length_cons]
    by_cases hl : (if n < times then left - (times - n) else left) < 0
    · rw [if_pos hl] at h
      cases h
      omega
    · rw [if_neg hl] at h
      have := takeGo_len h
      omega
theorem formLG_len {l g : Tx} {f : Form} (h : formLG l g = some f) : f.front.length ≤ l.length ∧ f.back.length ≤ l.length ∧ f.block.length ≤ g.length := by
  generalize hah : l.length - lcs l g = ah
  by_cases hf : g.take ah = l.take ah
  · rw [formLG_of hah hf rfl rfl rfl] at h
    cases h
    refine ⟨?_, ?_, ?_⟩
    · show (l.take ah).length ≤ _
      rw [List.length_take]; omega
    · show ((l.drop ah).drop _).length ≤ _
      rw [List.length_drop, List.length_drop]; omega
    · show (List.take _ (List.take _ (List.drop _ _))).length ≤ _
      rw [List.length_take, List.length_take, List.length_drop]; omega
  · rw [formLG_no hah hf] at h
    cases h
theorem blockForm_len {a b : Tx} {f : Form} {n : Nat} (h : blockForm a b = some f) (ha : a.length ≤ n) (hb : b.length ≤ n) : f.front.length ≤ n ∧ f.back.length ≤ n ∧ f.block.length ≤ n := by
  unfold blockForm at h
  by_cases e : a.length = b.length
  · rw [if_pos e] at h; cases h
  · rw [if_neg e] at h
    by_cases hl : a.length < b.length
    · rw [if_pos hl] at h
      obtain ⟨q1, q2, q3⟩ := formLG_len h
      exact ⟨by omega, by omega, by omega⟩
    · rw [if_neg hl] at h
      cases hg : formLG b a with
      | none => rw [hg] at h; cases h
      | some f' =>
        rw [hg] at h
        cases h
        obtain ⟨q1, q2, q3⟩ := formLG_len hg
        exact ⟨by show f'.front.length ≤ _; omega, by show f'.back.length ≤ _; omega, by show f'.block.length ≤ _; omega⟩
theorem gd_fault {bt : Tx} {vt : List Tx} {i j : Nat} {d : D} (h : faultO bt vt i j = some d) : gd 4 d = true := by
  have h2 : ∀ i j, gd 3 (pairD i j) = true := fun i j => gd_up (gd_ord (by simp))
  unfold faultO at h
  split at h
  · cases h
    exact gd_tuple.mpr ⟨by simp, gd_l1 gd_str (gd_l1 (h2 _ _) gd_l0)⟩
  · split at h
    · cases h
      exact gd_tuple.mpr ⟨by simp, gd_l1 gd_str (gd_l1 (h2 _ _) gd_l0)⟩
    · split at h
      · cases h
      · cases h
        exact gd_tuple.mpr ⟨by simp, gd_l1 gd_str (gd_l1 (h2 _ _) (gd_l1 (h2 _ _) gd_l0))⟩
theorem gd_first {bt : Tx} {vt : List Tx} {i : Nat} : ∀ {js : List Nat} {d : D}, firstF bt vt i js = some d → gd 4 d = true
  | [], _, h => by cases h
  | j :: js, d, h => by
    unfold firstF at h
    cases hf : faultO bt vt i j with
    | some d' => rw [hf] at h; cases h; exact gd_fault hf
    | none => rw [hf] at h; exact gd_first h
theorem gd_any {bt : Tx} {vt : List Tx} : ∀ {is : List Nat} {d : D}, anyF bt vt is = some d → gd 4 d = true
  | [], _, h => by cases h
  | i :: is, d, h => by
    unfold anyF at h
    cases hf : firstF bt vt i is with
    | some d' => rw [hf] at h; cases h; exact gd_first hf
    | none => rw [hf] at h; exact gd_any h
theorem gd_paper {bt : Tx} {vt : List Tx} (ok : Okv bt vt) : gd 4 (paperD bt vt) = true := by
  have hc : ∀ p ∈ chg bt vt, p < vt.length := fun p hp => (chg_mem.mp hp).1
  unfold paperD
  match chg bt vt, hc with
  | [], _ => exact gd_tuple.mpr ⟨by simp, gd_l1 gd_str (gd_l1 gd_int gd_l0)⟩
  | [i], _ => exact gd_tuple.mpr ⟨by simp, gd_l1 gd_str (gd_l1 gd_int gd_l0)⟩
  | i :: j :: r, hc =>
    show gd 4 (match anyF bt vt (i :: j :: r) with | some d => d | none => match blockForm bt (vt.getD i []) with | none => .none | some f => paperF f vt) = true
    cases ha : anyF bt vt (i :: j :: r) with
    | some d => exact gd_any ha
    | none =>
      cases hf : blockForm bt (vt.getD i []) with
      | none => rfl
      | some f =>
        have hi := hc i List.mem_cons_self
        have hm : vt.getD i [] ∈ vt := by
          rw [List.getD_eq_getElem?_getD, List.getElem?_eq_getElem hi]
          exact List.getElem_mem hi
        have hv := (ok.v _ hm).2
        have hl := ok.vl
        obtain ⟨q1, q2, q3⟩ := blockForm_len hf ok.bl hv
        show gd 4 (paperF f vt) = true
        unfold paperF
        cases ht : takeGo f.times (vt.map (numb f)) 0 f.times [] with
        | some ts =>
          have := takeGo_len ht
          rw [List.length_map] at this
          simp at this
          exact gd_tuple.mpr ⟨by simp, gd_l1 gd_str (gd_l1 (gd_up (gd_ord (by omega))) gd_l0)⟩
        | none =>
          exact gd_tuple.mpr ⟨by simp, gd_l1 gd_str (gd_l1 (gd_up (gd_T (by omega))) (gd_l1 (gd_up (gd_T (by omega))) (gd_l1 (gd_up (gd_T (by omega))) (gd_l1 gd_int (gd_l1 (gd_up (gd_T (by rw [List.length_map]; omega))) gd_l0)))))⟩
variable {P : Program} {w : World} {K : PySem.W.Frag} {mg : Str → Option Value} {base : Heap}
def F_orders_holds (ds : List D) (r : Res) : Prop := ∃ b vs v, ds = [b, vs, v] ∧ lenD b ≤ 200 ∧ smallV vs ∧ gd 16 v = true ∧ (∀ db dv, needT b (-1) = .ok db → needV vs = .ok dv → papOk (txOf b) (vsOf vs)) ∧ r = holdsR b vs v
theorem sc_orders_holds : FnScope ["base", "versions", "value", "many", "ends"] ["base", "versions", "value"] (defScope s_orders_holds) := ⟨rfl, rfl, rfl, by decide +kernel, rfl, by decide +kernel, by decide +kernel⟩
theorem ok_orders_holds {fd : FuncData} (Fu : FnP K "orders_holds" s_orders_holds [] fd) (B : Bl mg)  (h_are_same : HasF P w K mg base 5 "are_same" ["value", "paper"] [] (spD K F_are_same)) (h_hands_end : HasF P w K mg base 9 "hands_end" ["base", "versions", "order"] [] (spD K F_hands_end)) (h_is_order : HasF P w K mg base 4 "is_order" ["value", "many"] [] (spD K F_is_order)) (h_is_paper : HasF P w K mg base 2 "is_paper" ["value", "word", "many"] [] (spD K F_is_paper)) (h_need_text : HasF P w K mg base 6 "need_text" ["value", "at"] [] (spD K F_need_text)) (h_need_versions : HasF P w K mg base 6 "need_versions" ["value"] [] (spD K F_need_versions)) (h_orders_paper : HasF P w K mg base 11 "orders_paper" ["base", "versions"] [] (spD K F_orders_paper)) {vm1 : Value} (vals_m1 : L2.Vals [V.int (-1)] [vm1]) (h_need_text1 : HasF P w K mg base 6 "need_text" ["value", "at"] [vm1] (spD K F_need_text)) : FnOk P w K mg base (L2.CX P w) 12 (He.ga K "orders_holds") fd ["base", "versions", "value"] (spD K F_orders_holds) := by
  refine fnX Fu sc_orders_holds (fun ds r ⟨b, vs, v, h, _, _, _, _, e⟩ => by rw [h]; rfl) fun cdv A outer s H E hr tk hx hpo => ⟨_, (pss_cons (ps_par (i := 0) (j := 1) rfl sc_orders_holds.nd rfl rfl (by decide) rfl rfl (pa_cons (pe_fd h_need_text1 (hr.mono (by decide)) rfl vals_m1 hx (pa_cons (pv 0) pa_nil)) (pa_cons (pe_fd h_need_versions (hr.mono (by decide)) rfl .nil hx (pa_cons (pv 1) pa_nil)) pa_nil)) (by rfl))
      (pss_cons (ps_set (i := 3) sc_orders_holds.nd rfl (Or.inl rfl) (pe_callB (id := "len") (r := rLenA K) call_lenA rfl B.len boot_len (pa_cons (pv 1) pa_nil)))
      (pss_cons (ps_if (pt_val (pe_f h_is_paper (hr.mono (by decide)) (pa_cons (pv 2) (pa_cons pe_str (pa_cons pe_int pa_nil))))) (pss_cons (ps_if (PW.pt (pw_or (pt_not (pt_val (pe_f h_is_order (hr.mono (by decide)) (pa_cons (pe_ix (r := rIx K) ix_seq (pv 2) pe_int (fun _ _ => rfl)) (pa_cons (pv 3) pa_nil))))) (pw_or1 (pt_cmpR (r := rEqD K) (op_eqD hr.units) (pe_callB (id := "len") (r := rLenA K) call_lenA rfl B.len boot_len (pa_cons (pe_ix (r := rIx K) ix_seq (pv 2) pe_int (fun _ _ => rfl)) pa_nil)) pe_int (nomark _))))) (pss_one (ps_ret pe_bl)) pss_nil)
      (pss_one (ps_ret (pe_and (pe_cmpR op_notNN (pe_f h_hands_end (hr.mono (by decide)) (pa_cons (pv 0) (pa_cons (pv 1) (pa_cons (pe_slice (r := rSlU K) sl_U (pe_ix (r := rIx K) ix_seq (pv 2) pe_int (fun _ _ => rfl)) po_none (po_some (pe_un un_neg pe_int))) pa_nil)))) pe_non (nomark _)) (pe_one (pe_cmpR op_isNN (pe_f h_hands_end (hr.mono (by decide)) (pa_cons (pv 0) (pa_cons (pv 1) (pa_cons (pe_ix (r := rIx K) ix_seq (pv 2) pe_int (fun _ _ => rfl)) pa_nil)))) pe_non (nomark _))))))) pss_nil)
      (pss_cons (ps_if (pt_val (pe_f h_is_paper (hr.mono (by decide)) (pa_cons (pv 2) (pa_cons pe_str (pa_cons pe_int pa_nil))))) (pss_cons (ps_if (PW.pt (pw_or (pt_not (pt_val (pe_f h_is_order (hr.mono (by decide)) (pa_cons (pe_ix (r := rIx K) ix_seq (pv 2) pe_int (fun _ _ => rfl)) (pa_cons (pv 3) pa_nil))))) (pw_or (pt_not (pt_val (pe_f h_is_order (hr.mono (by decide)) (pa_cons (pe_ix (r := rIx K) ix_seq (pv 2) pe_int (fun _ _ => rfl)) (pa_cons (pv 3) pa_nil))))) (pw_or1 (pt_cmpR (r := rNeD K) (op_neD hr.units) (pe_callB (id := "sorted") (r := rSortT K) call_sortedA rfl B.sorted (by decide +kernel) (pa_cons (pe_ix (r := rIx K) ix_seq (pv 2) pe_int (fun _ _ => rfl)) pa_nil)) (pe_callB (id := "sorted") (r := rSortT K) call_sortedA rfl B.sorted (by decide +kernel) (pa_cons (pe_ix (r := rIx K) ix_seq (pv 2) pe_int (fun _ _ => rfl)) pa_nil)) (nomark _)))))) (pss_one (ps_ret pe_bl)) pss_nil)
      (pss_cons (ps_set (i := 4) sc_orders_holds.nd rfl (Or.inl rfl) (pe_lst (pa_cons (pe_f h_hands_end (hr.mono (by decide)) (pa_cons (pv 0) (pa_cons (pv 1) (pa_cons (pe_ix (r := rIx K) ix_seq (pv 2) pe_int (fun _ _ => rfl)) pa_nil)))) (pa_cons (pe_f h_hands_end (hr.mono (by decide)) (pa_cons (pv 0) (pa_cons (pv 1) (pa_cons (pe_ix (r := rIx K) ix_seq (pv 2) pe_int (fun _ _ => rfl)) pa_nil)))) pa_nil))))
      (pss_one (ps_ret (pe_and (pe_cmpR op_notNN (pe_ix (r := rIx K) ix_seq (pv 4) pe_int (fun _ _ => rfl)) pe_non (nomark _)) (pe_and (pe_cmpR op_notNN (pe_ix (r := rIx K) ix_seq (pv 4) pe_int (fun _ _ => rfl)) pe_non (nomark _)) (pe_one (pe_cmpR (r := rNeD K) (op_neD hr.units) (pe_ix (r := rIx K) ix_seq (pv 4) pe_int (fun _ _ => rfl)) (pe_ix (r := rIx K) ix_seq (pv 4) pe_int (fun _ _ => rfl)) (nomark _))))))))) pss_nil)
      (pss_cons (ps_if (PW.pt (pw_or (pt_val (pe_f h_is_paper (hr.mono (by decide)) (pa_cons (pv 2) (pa_cons pe_str (pa_cons pe_int pa_nil))))) (pw_or1 (pt_val (pe_f h_is_paper (hr.mono (by decide)) (pa_cons (pv 2) (pa_cons pe_str (pa_cons pe_int pa_nil)))))))) (pss_one (ps_ret (pe_f h_are_same (hr.mono (by decide)) (pa_cons (pv 2) (pa_cons (pe_fd h_orders_paper (hr.mono (by decide)) rfl .nil hx (pa_cons (pv 0) (pa_cons (pv 1) pa_nil))) pa_nil))))) pss_nil)
      (pss_one (ps_ret pe_bl))))))), fun ds r ⟨b, vs, v, h, hlb, hsm, hgd, hpk, e⟩ => ?_⟩
  subst h e
  unfold holdsR
  have m1 : ∀ G, DqAll K G [V.int (-1)] [PyData.int (-1)] := fun G => .cons (.int _) .nil
  have hT : F_need_text ([b] ++ [.int (-1)]) (needT b (-1)) := ⟨b, -1, rfl, by omega, rfl⟩
  cases h1 : needT b (-1) with
  | er k i =>
    rw [h1] at hT
    exact run_er (run_parE (evae_here (eve_call (eva_cons (evd_var rfl) eva_nil) m1 hT)))
  | ok db =>
  rw [h1] at hT
  have hV : F_need_versions [vs] (needV vs) := ⟨vs, rfl, by have := hsm.1; omega, fun es he e hm => by have := hsm.2 es he e hm; omega, rfl⟩
  cases h2 : needV vs with
  | er k i =>
    rw [h2] at hV
    obtain ⟨rfl, _⟩ := needT_ok h1
    exact run_er (run_parE (evae_next (evd_call (eva_cons (evd_var rfl) eva_nil) m1 hT) (evae_here (eve_call0 (eva_cons (evd_var rfl) eva_nil) hV))))
  | ok dv =>
  rw [h2] at hV
  obtain ⟨rfl, rfl, ok⟩ := okv_of h1 h2 hlb hsm
  have hpk := hpk _ _ h1 h2
  refine run_nx (run_par (eva_cons (evd_call (eva_cons (evd_var rfl) eva_nil) m1 hT) (eva_cons (evd_call0 (eva_cons (evd_var rfl) eva_nil) hV) eva_nil))) ?_
  show RunD K E _ [.dat (T (txOf b)), .dat (vsD (vsOf vs)), .dat v, .un, .un] (.rt (.bool (holdsB (txOf b) (vsOf vs) v)))
  generalize txOf b = bt at ok hpk ⊢
  generalize vsOf vs = vt at ok hpk ⊢
  clear h1 h2 hT hV hsm hlb
  refine run_nx (run_asg (d := .int (vt.length : Nat)) (evd_is (evd_cb (eva_cons (evd_var (i := 1) rfl) eva_nil) rlen_tup) (by rw [List.length_map])) gd_name) ?_
  show RunD K E _ [.dat (T bt), .dat (vsD vt), .dat v, .dat (.int (vt.length : Nat)), .un] _
  have hvl := ok.vl
  have paper : ∀ (w : Str) (n : Int), 1 ≤ n → PyData.strOk w = true → EvT K (tB (tCall (spD K F_is_paper) [] E0 (tCons (tVar 2) (tCons (tC (.str w)) (tCons (tC (.int n)) tNil))))) [.dat (T bt), .dat (vsD vt), .dat v, .dat (.int (vt.length : Nat)), .un] (isPaper v w n) := fun w n hn hw =>
    evt_B (evd_call0 (eva_cons (evd_var rfl) (eva_cons evd_str (eva_cons evd_int eva_nil))) ⟨v, w, n, rfl, hn, hw, fun z es e => by
      subst e
      exact (gd_tuple.mp hgd).2 _ List.mem_cons_self, rfl⟩)
  have item : ∀ (i : Nat) (s4 : Sl) (ds : List D), v = .tuple ds → i < ds.length → EvD K (tOp (rIx K) (tVar 2) (tC (.int i))) [.dat (T bt), .dat (vsD vt), .dat v, .dat (.int (vt.length : Nat)), s4] (itemD v i) := fun i s4 ds e hi => by
    subst e
    refine evd_op (evd_var rfl) evd_int (rix_tup (atI_nat (n := i) rfl ?_))
    show ds[i]? = some (ds.getD i .none)
    rw [List.getD_eq_getElem?_getD, List.getElem?_eq_getElem hi]
    rfl
  have gdi : ∀ (i : Nat) (ds : List D), v = .tuple ds → i < ds.length → gd 15 (itemD v i) = true := fun i ds e hi => by
    subst e
    show gd 15 (ds.getD i .none) = true
    rw [List.getD_eq_getElem?_getD, List.getElem?_eq_getElem hi]
    exact (gd_tuple.mp hgd).2 _ (List.getElem_mem hi)
  have lgd : ∀ d : D, gd 15 d = true → lenD d ≤ 1000 := fun d h => by
    cases d with
    | tuple ds => exact (gd_tuple.mp h).1
    | list ds => exact (gd_list.mp h).1
    | _ => exact Nat.zero_le _
  have ordT : ∀ (i : Nat) (ds : List D), v = .tuple ds → i < ds.length → EvT K (tNot (tB (tCall (spD K F_is_order) [] E0 (tCons (tOp (rIx K) (tVar 2) (tC (.int i))) (tCons (tVar 3) tNil))))) [.dat (T bt), .dat (vsD vt), .dat v, .dat (.int (vt.length : Nat)), .un] (!isOrd (itemD v i) vt.length) := fun i ds e hi =>
    evt_not (evt_B (evd_call0 (eva_cons (item i _ ds e hi) (eva_cons (evd_var rfl) eva_nil)) ⟨itemD v i, _, rfl, lgd _ (gdi i ds e hi), rfl⟩))
  have hands : ∀ (te : TE) (s4 : Sl) (o : List Nat), EvD K te [.dat (T bt), .dat (vsD vt), .dat v, .dat (.int (vt.length : Nat)), s4] (ordD o) → ordOk vt.length o → EvD K (tCall (spD K F_hands_end) [] E0 (tCons (tVar 0) (tCons (tVar 1) (tCons te tNil)))) [.dat (T bt), .dat (vsD vt), .dat v, .dat (.int (vt.length : Nat)), s4] (optT (ends bt vt o)) := fun te s4 o he ho =>
    evd_call0 (eva_cons (evd_var rfl) (eva_cons (evd_var rfl) (eva_cons he eva_nil))) ⟨T bt, vsD vt, ordD o, rfl, by rw [lenD_T]; exact ok.bl, small_V rfl ok, by
      have := nodup_len _ o ho.1 ho.2
      show (o.map _).length ≤ 8
      rw [List.length_map]; omega,
      (handsR_ok (needT_T' ok.b) (txOf_T bt) ⟨_, needV_T rfl ok.ne fun t ht => (ok.v t ht).1⟩ (vsOf_seq rfl) rfl ho).symm⟩
  unfold holdsB
  cases hc : isPaper v "clash" 2 with
  | true =>
    have hpT := paper "clash" 2 (by decide) (by decide +kernel)
    rw [hc] at hpT
    obtain ⟨o, hvo⟩ := paper2 hc
    rw [if_pos rfl]
    refine run_rt (run_ifT hpT ?_)
    have hi : 1 < [PyData.str "clash", o].length := by simp
    have h1 := ordT 1 _ hvo hi
    cases ho : isOrd (itemD v 1) vt.length with
    | false =>
      rw [ho] at h1
      rw [Bool.false_and]
      exact run_rt (run_ifT (evt_is (evt_or h1 (c := true) fun z => by cases z) rfl) (run_ret evd_bl))
    | true =>
    rw [ho] at h1
    obtain ⟨e1, e2, e3⟩ := isOrd_iff ho
    have it := item 1 .un _ hvo hi
    rw [e1] at it
    have hlD : lenD (itemD v 1) = (ordL (itemD v 1)).length := by
      conv => lhs; rw [e1]
      show (List.map _ _).length = _
      rw [List.length_map]
    rw [hlD]
    generalize ordL (itemD v 1) = o' at e2 it ⊢
    rw [Bool.true_and]
    have h2 := evt_or h1 fun _ => evt_test (evd_op (evd_cb (eva_cons it eva_nil) rlen_tup) (evd_int (i := 0)) req_int)
    rw [List.length_map] at h2
    by_cases h0 : o'.length = 0
    · rw [decide_eq_true h0]
      exact run_rt (run_ifT (evt_is h2 (by simp [h0])) (run_ret evd_bl))
    · rw [decide_eq_false h0]
      refine run_nx (run_ifF (evt_is h2 (by rw [decide_eq_false (show ¬ ((o'.length : Int) = 0) by omega)]; rfl)) run_next) (run_ret ?_)
      have hsl : EvD K (tSl (rSlU K) (tOp (rIx K) (tVar 2) (tC (.int 1))) tNoPart (tPart (tUn (rU fun i => .int (-i)) (tC (.int 1))))) [.dat (T bt), .dat (vsD vt), .dat v, .dat (.int (vt.length : Nat)), .un] (ordD o'.dropLast) := by
        refine evd_is (evd_sl it evo_no (evo_some (evd_un evd_int run_neg)) rsl_tup) ?_
        refine (congrArg PyData.tuple (cut_neg (k := 1) (by decide) (by rw [List.length_map]; omega))).trans ?_
        unfold ordD
        rw [List.map_dropLast, List.dropLast_eq_take]
      have ok' : ordOk vt.length o'.dropLast := ⟨e2.1.sublist (List.dropLast_sublist o'), fun p hp => e2.2 p ((List.dropLast_sublist o').subset hp)⟩
      have n1 := evd_op (hands _ .un o'.dropLast hsl ok') evd_non rnot_N
      have n2 := evd_op (hands _ .un o' it e2) evd_non ris_N
      rw [isNon_optT] at n1 n2
      have e4 : (ends bt vt o'.dropLast).isSome = !(ends bt vt o'.dropLast).isNone := by cases ends bt vt o'.dropLast <;> rfl
      rw [e4, Bool.not_false, Bool.true_and]
      exact evd_andV n1 fun _ => n2
  | false =>
  have hpT := paper "clash" 2 (by decide) (by decide +kernel)
  rw [hc] at hpT
  refine run_nx (run_ifF hpT run_next) ?_
  rw [if_neg (by decide)]
  cases ha : isPaper v "apart" 3 with
  | true =>
    have hpT := paper "apart" 3 (by decide) (by decide +kernel)
    rw [ha] at hpT
    obtain ⟨a, b, hvo⟩ := paper3 ha
    rw [if_pos rfl]
    refine run_rt (run_ifT hpT ?_)
    have hi1 : 1 < [PyData.str "apart", a, b].length := by simp
    have hi2 : 2 < [PyData.str "apart", a, b].length := by simp
    have h1 := ordT 1 _ hvo hi1
    have h2 := ordT 2 _ hvo hi2
    cases ho1 : isOrd (itemD v 1) vt.length with
    | false =>
      rw [ho1] at h1
      rw [Bool.false_and]
      exact run_rt (run_ifT (evt_is (evt_or h1 (c := true) fun z => by cases z) rfl) (run_ret evd_bl))
    | true =>
    rw [ho1] at h1
    rw [Bool.true_and]
    cases ho2 : isOrd (itemD v 2) vt.length with
    | false =>
      rw [ho2] at h2
      rw [Bool.false_and]
      exact run_rt (run_ifT (evt_is (evt_or h1 fun _ => evt_or h2 (c := true) fun z => by cases z) rfl) (run_ret evd_bl))
    | true =>
    rw [ho2] at h2
    rw [Bool.true_and]
    obtain ⟨e1, e2, e3⟩ := isOrd_iff ho1
    obtain ⟨f1, f2, f3⟩ := isOrd_iff ho2
    have it1 := item 1 .un _ hvo hi1
    have it2 := item 2 .un _ hvo hi2
    have t1 : itemD v 1 = T (txOf (itemD v 1)) := by
      conv => lhs; rw [e1]
      unfold T ordD
      rw [e3, List.map_map]
      rfl
    have t2 : itemD v 2 = T (txOf (itemD v 2)) := by
      conv => lhs; rw [f1]
      unfold T ordD
      rw [f3, List.map_map]
      rfl
    have hne : EvT K (tTest (tOp (rNeD K) (tCB (rSortT K) (tCons (tOp (rIx K) (tVar 2) (tC (.int 1))) tNil)) (tCB (rSortT K) (tCons (tOp (rIx K) (tVar 2) (tC (.int 2))) tNil)))) [.dat (T bt), .dat (vsD vt), .dat v, .dat (.int (vt.length : Nat)), .un] (!decide (srt (txOf (itemD v 1)) = srt (txOf (itemD v 2)))) :=
      evt_test (evd_op (evd_cb (eva_cons (evd_is it1 t1) eva_nil) rsort) (evd_cb (eva_cons (evd_is it2 t2) eva_nil) rsort) rne_L)
    have h3 := evt_or h1 fun _ => evt_or h2 fun _ => hne
    by_cases hs : srt (txOf (itemD v 1)) = srt (txOf (itemD v 2))
    · rw [decide_eq_true hs] at h3 ⊢
      rw [Bool.true_and]
      refine run_nx (run_ifF (evt_is h3 rfl) run_next) ?_
      have hi1' := it1
      have hi2' := it2
      rw [e1] at hi1'
      rw [f1] at hi2'
      have n1 := hands _ .un (ordL (itemD v 1)) hi1' e2
      have n2 := hands _ .un (ordL (itemD v 2)) hi2' f2
      generalize ends bt vt (ordL (itemD v 1)) = x at n1 ⊢
      generalize ends bt vt (ordL (itemD v 2)) = y at n2 ⊢
      refine run_nx (run_asg (d := .list [optT x, optT y]) (evd_lst (eva_cons n1 (eva_cons n2 eva_nil))) gd_name) (run_ret ?_)
      have j0 : EvD K (tOp (rIx K) (tVar 4) (tC (.int 0))) [.dat (T bt), .dat (vsD vt), .dat v, .dat (.int (vt.length : Nat)), .dat (.list [optT x, optT y])] (optT x) := evd_op (evd_var rfl) evd_int (rix_lst (atI_nat (n := 0) rfl rfl))
      have j1 : EvD K (tOp (rIx K) (tVar 4) (tC (.int 1))) [.dat (T bt), .dat (vsD vt), .dat v, .dat (.int (vt.length : Nat)), .dat (.list [optT x, optT y])] (optT y) := evd_op (evd_var rfl) evd_int (rix_lst (atI_nat (n := 1) rfl rfl))
      have e4 : x.isSome = !isNon (optT x) := by rw [isNon_optT]; cases x <;> rfl
      have e5 : y.isSome = !isNon (optT y) := by rw [isNon_optT]; cases y <;> rfl
      rw [e4, e5]
      exact evd_andV (evd_op j0 evd_non rnot_N) fun _ => evd_andV (evd_op j1 evd_non rnot_N) fun _ => evd_op j0 j1 rne_optT
    · rw [decide_eq_false hs] at h3 ⊢
      rw [Bool.false_and]
      exact run_rt (run_ifT (evt_is h3 rfl) (run_ret evd_bl))
  | false =>
  have hpT := paper "apart" 3 (by decide) (by decide +kernel)
  rw [ha] at hpT
  refine run_nx (run_ifF hpT run_next) ?_
  rw [if_neg (by decide)]
  have h1 := evt_or (paper "one" 2 (by decide) (by decide +kernel)) fun _ => paper "block" 6 (by decide) (by decide +kernel)
  cases hob : (isPaper v "one" 2 || isPaper v "block" 6) with
  | true =>
    rw [hob] at h1
    rw [if_pos rfl]
    refine run_rt (run_ifT h1 (run_ret ?_))
    refine evd_call0 (eva_cons (evd_var rfl) (eva_cons (evd_call0 (eva_cons (evd_var rfl) (eva_cons (evd_var rfl) eva_nil)) (d := paperD bt vt) ⟨T bt, vsD vt, rfl, by rw [lenD_T]; exact ok.bl, small_V rfl ok, fun _ _ _ _ => ?_, ?_⟩) eva_nil)) ⟨v, _, rfl, hgd, gd_paper ok, by decide, rfl⟩
    · rw [txOf_T, vsOf_seq (vt := vt) rfl]; exact hpk
    · unfold paperR
      rw [needT_T' ok.b, needV_T (vt := vt) rfl ok.ne fun t ht => (ok.v t ht).1, txOf_T, vsOf_seq (vt := vt) rfl]
  | false =>
    rw [hob] at h1
    rw [if_neg (by decide)]
    exact run_nx (run_ifF h1 run_next) (run_ret evd_bl)
end CB

/-! W12 -/
set_option Elab.async false
set_option linter.all false
set_option maxRecDepth 100000
set_option maxHeartbeats 4000000
namespace CB
open PySem PySem.Spec PyProof.Rows L2
def lmP (b m y : Tx) (c : Nat) : Bool := decide (b.length - c ≤ m.length) && (decide (m.drop (m.length - (b.length - c)) = b.drop c) && decide (y.take c = b.take c))
/-- the law's merge -/
def lmerge (b m y : Tx) : Option Tx := ((List.range (b.length + 1)).find? (lmP b m y)).map fun c => m.take (m.length - (b.length - c)) ++ y.drop c
def isRep (b : Tx) : Bool := (List.range' 1 (b.length - 1)).any fun s => decide (b = rep (b.take s) (b.length / s))
def optI : Option Int → D
  | none => .none
  | some i => .int i
def moreO (f b k t : Tx) : Option Int :=
  if decide (0 ≤ ((t.length : Int) - f.length - k.length) / b.length) && decide (f ++ rep b (((t.length : Int) - f.length - k.length) / b.length).toNat ++ k = t) then some (((t.length : Int) - f.length - k.length) / b.length) else none
variable {P : Program} {w : World} {K : PySem.W.Frag} {mg : Str → Option Value} {base : Heap}
def F_law_merge (ds : List D) (r : Res) : Prop := ∃ b m y, ds = [T b, T m, T y] ∧ b.length ≤ 1000 ∧ m.length ≤ 1000 ∧ y.length ≤ 1000 ∧ r = .ok (optT (lmerge b m y))
def F_law_is_repeat (ds : List D) (r : Res) : Prop := ∃ b, ds = [T b] ∧ b.length ≤ 1000 ∧ r = .ok (.bool (isRep b))
def F_law_leading (ds : List D) (r : Res) : Prop := ∃ a b, ds = [T a, T b] ∧ b ≠ [] ∧ a.length ≤ 1000 ∧ b.length ≤ 1000 ∧ r = .ok (.int (lead a b : Nat))
def F_law_more (ds : List D) (r : Res) : Prop := ∃ f b k t es, ds = [.tuple (T f :: T b :: T k :: es), T t] ∧ b ≠ [] ∧ f.length ≤ 1000 ∧ b.length ≤ 1000 ∧ k.length ≤ 1000 ∧ t.length ≤ 1000 ∧ r = .ok (optI (moreO f b k t))
theorem sc_law_merge : FnScope ["_law_base", "_law_mine", "_law_yours", "_law_cut", "_law_rest"] ["_law_base", "_law_mine", "_law_yours"] (defScope s_law_merge) := ⟨rfl, rfl, rfl, by decide +kernel, rfl, by decide +kernel, by decide +kernel⟩
theorem sc_law_is_repeat : FnScope ["_law_block_here", "_law_sizes", "_law_size"] ["_law_block_here"] (defScope s_law_is_repeat) := ⟨rfl, rfl, rfl, by decide +kernel, rfl, by decide +kernel, by decide +kernel⟩
theorem sc_law_leading : FnScope ["_law_text_here", "_law_block_here", "_law_times"] ["_law_text_here", "_law_block_here"] (defScope s_law_leading) := ⟨rfl, rfl, rfl, by decide +kernel, rfl, by decide +kernel, by decide +kernel⟩
theorem sc_law_more : FnScope ["_law_form_here", "_law_text_here", "_law_front", "_law_block_here", "_law_back", "_law_number"] ["_law_form_here", "_law_text_here"] (defScope s_law_more) := ⟨rfl, rfl, rfl, by decide +kernel, rfl, by decide +kernel, by decide +kernel⟩
theorem rep_len (t : Tx) (n : Nat) : (rep t n).length = n * t.length := by
  unfold rep
  induction n with
  | zero => simp
  | succ n ih => rw [List.replicate_succ, List.flatten_cons, List.length_append, ih, Nat.add_mul]; omega
theorem ok_law_merge {fd : FuncData} (Fu : FnP K "_law_merge" s_law_merge [] fd) (B : Bl mg)   : FnOk P w K mg base (L2.CX P w) 1 (He.ga K "_law_merge") fd ["_law_base", "_law_mine", "_law_yours"] (spD K F_law_merge) := by
  refine fnD Fu sc_law_merge (fun ds r ⟨b, m, y, h, _, _, _, e⟩ => ⟨by rw [h]; rfl, _, e⟩) fun cdv A outer s H E hr => ⟨_, (pss_cons (ps_for PassesOwn.never rfl (pi_range1 rfl B.range (pa_cons (pe_op (r := rAddU K) op_addU (pe_callB (id := "len") (r := rLenA K) call_lenA rfl B.len boot_len (pa_cons (pv 0) pa_nil)) pe_int) pa_nil)) (pg_name (i := 3) sc_law_merge.nd rfl (Or.inl rfl))
      (pss_cons (ps_set (i := 4) sc_law_merge.nd rfl (Or.inl rfl) (pe_op op_sub (pe_callB (id := "len") (r := rLenA K) call_lenA rfl B.len boot_len (pa_cons (pv 0) pa_nil)) (pv 3)))
      (pss_one (ps_if (PW.pt (pw_and (pt_cmpR op_le (pv 4) (pe_callB (id := "len") (r := rLenA K) call_lenA rfl B.len boot_len (pa_cons (pv 1) pa_nil)) (nomark _)) (pw_and (pt_cmpR (r := rEqD K) (op_eqD hr.units) (pe_slice (r := rSlU K) sl_U (pv 1) (po_some (pe_op op_sub (pe_callB (id := "len") (r := rLenA K) call_lenA rfl B.len boot_len (pa_cons (pv 1) pa_nil)) (pv 4))) po_none) (pe_slice (r := rSlU K) sl_U (pv 0) (po_some (pv 3)) po_none) (nomark _)) (pw_and1 (pt_cmpR (r := rEqD K) (op_eqD hr.units) (pe_slice (r := rSlU K) sl_U (pv 2) po_none (po_some (pv 3))) (pe_slice (r := rSlU K) sl_U (pv 0) po_none (po_some (pv 3))) (nomark _)))))) (pss_one (ps_ret (pe_op (r := rAddU K) op_addU (pe_slice (r := rSlU K) sl_U (pv 1) po_none (po_some (pe_op op_sub (pe_callB (id := "len") (r := rLenA K) call_lenA rfl B.len boot_len (pa_cons (pv 1) pa_nil)) (pv 4)))) (pe_slice (r := rSlU K) sl_U (pv 2) (po_some (pv 3)) po_none)))) pss_nil))))
      (pss_one (ps_ret pe_non))), fun ds d ⟨b, m, y, h, lb, lm, ly, e⟩ => ?_⟩
  subst h
  cases e
  have loop : ∀ (cs : List Nat), (∀ c ∈ cs, c ≤ b.length) → ∀ s3 s4 : Sl, ∃ s3' s4', Loop K E0 (gName 3) (tSeq (tAsg (tOp (rI0 fun i j => .int (i - j)) (tCB (rLenA K) (tCons (tVar 0) tNil)) (tVar 3)) (gName 4))
      (tIfS (tAnd (tTest (tOp (rI0 fun i j => .bl (decide (i ≤ j))) (tVar 4) (tCB (rLenA K) (tCons (tVar 1) tNil)))) (tAnd (tTest (tOp (rEqD K) (tSl (rSlU K) (tVar 1) (tPart (tOp (rI0 fun i j => .int (i - j)) (tCB (rLenA K) (tCons (tVar 1) tNil)) (tVar 4))) tNoPart) (tSl (rSlU K) (tVar 0) (tPart (tVar 3)) tNoPart)))
        (tTest (tOp (rEqD K) (tSl (rSlU K) (tVar 2) tNoPart (tPart (tVar 3))) (tSl (rSlU K) (tVar 0) tNoPart (tPart (tVar 3)))))))
        (tRet (tOp (rAddU K) (tSl (rSlU K) (tVar 1) tNoPart (tPart (tOp (rI0 fun i j => .int (i - j)) (tCB (rLenA K) (tCons (tVar 1) tNil)) (tVar 4)))) (tSl (rSlU K) (tVar 2) (tPart (tVar 3)) tNoPart))) tNext))
      (cs.map fun (c : Nat) => PyData.int (c : Int)) [.dat (T b), .dat (T m), .dat (T y), s3, s4]
      (match cs.find? (lmP b m y) with | some c => .rt (T (m.take (m.length - (b.length - c)) ++ y.drop c)) | none => .nx [.dat (T b), .dat (T m), .dat (T y), s3', s4']) := by
    intro cs
    induction cs with
    | nil => exact fun _ s3 s4 => ⟨s3, s4, .nil⟩
    | cons c cs ih =>
      intro hc s3 s4
      have hcb := hc c List.mem_cons_self
      have hset : RunD K E0 (tAsg (tOp (rI0 fun i j => .int (i - j)) (tCB (rLenA K) (tCons (tVar 0) tNil)) (tVar 3)) (gName 4)) [.dat (T b), .dat (T m), .dat (T y), .dat (.int c), s4] (.nx [.dat (T b), .dat (T m), .dat (T y), .dat (.int c), .dat (.int (b.length - c : Nat))]) := by
        have e : ((b.length - c : Nat) : Int) = (b.length : Int) - c := by omega
        rw [e]
        exact run_asg (evd_op (evd_cb (eva_cons (evd_var rfl) eva_nil) rlen_T) (evd_var rfl) rop_I0) gd_name
      have hsub : EvD K (tOp (rI0 fun i j => .int (i - j)) (tCB (rLenA K) (tCons (tVar 1) tNil)) (tVar 4)) [.dat (T b), .dat (T m), .dat (T y), .dat (.int c), .dat (.int (b.length - c : Nat))] (.int ((m.length : Int) - (b.length - c : Nat))) := evd_op (evd_cb (eva_cons (evd_var rfl) eva_nil) rlen_T) (evd_var rfl) rop_I0
      have t1 : EvT K (tTest (tOp (rI0 fun i j => .bl (decide (i ≤ j))) (tVar 4) (tCB (rLenA K) (tCons (tVar 1) tNil)))) [.dat (T b), .dat (T m), .dat (T y), .dat (.int c), .dat (.int (b.length - c : Nat))] (decide (((b.length - c : Nat) : Int) ≤ m.length)) := evt_test (evd_op (evd_var rfl) (evd_cb (eva_cons (evd_var rfl) eva_nil) rlen_T) rop_B0)
      have e1 : decide (((b.length - c : Nat) : Int) ≤ m.length) = decide (b.length - c ≤ m.length) := by congr 1; apply propext; omega
      rw [e1] at t1
      have t2 : b.length - c ≤ m.length → EvT K (tTest (tOp (rEqD K) (tSl (rSlU K) (tVar 1) (tPart (tOp (rI0 fun i j => .int (i - j)) (tCB (rLenA K) (tCons (tVar 1) tNil)) (tVar 4))) tNoPart) (tSl (rSlU K) (tVar 0) (tPart (tVar 3)) tNoPart))) [.dat (T b), .dat (T m), .dat (T y), .dat (.int c), .dat (.int (b.length - c : Nat))] (decide (m.drop (m.length - (b.length - c)) = b.drop c)) := fun hl => by
        rw [← cut_suf (xs := m) (i := (m.length : Int) - (b.length - c : Nat)) (by omega), ← cut_suf (xs := b) (i := (c : Int)) rfl]
        exact evt_test (evd_op (evd_sl (evd_var rfl) (evo_some hsub) evo_no rsl_T) (evd_sl (evd_var rfl) (evo_some (evd_var rfl)) evo_no rsl_T) req_T)
      have t3 : EvT K (tTest (tOp (rEqD K) (tSl (rSlU K) (tVar 2) tNoPart (tPart (tVar 3))) (tSl (rSlU K) (tVar 0) tNoPart (tPart (tVar 3))))) [.dat (T b), .dat (T m), .dat (T y), .dat (.int c), .dat (.int (b.length - c : Nat))] (decide (y.take c = b.take c)) := by
        rw [← cut_pre (xs := y) (i := (c : Int)) rfl, ← cut_pre (xs := b) (i := (c : Int)) rfl]
        exact evt_test (evd_op (evd_sl (evd_var rfl) evo_no (evo_some (evd_var rfl)) rsl_T) (evd_sl (evd_var rfl) evo_no (evo_some (evd_var rfl)) rsl_T) req_T)
      have ht := evt_and t1 fun h => evt_and (t2 (of_decide_eq_true h)) fun _ => t3
      obtain ⟨s3', s4', L⟩ := ih (fun c' h' => hc c' (List.mem_cons_of_mem _ h')) (.dat (.int c)) (.dat (.int (b.length - c : Nat)))
      refine ⟨s3', s4', ?_⟩
      rw [List.find?_cons]
      cases hp : lmP b m y c with
      | true =>
        have hp' : (decide (b.length - c ≤ m.length) && (decide (m.drop (m.length - (b.length - c)) = b.drop c) && decide (y.take c = b.take c))) = true := hp
        rw [hp'] at ht
        have hl : b.length - c ≤ m.length := by
          rw [Bool.and_eq_true] at hp'
          exact of_decide_eq_true hp'.1
        refine .rt gd_name (run_nx hset (run_ifT ht (run_ret ?_)))
        rw [← cut_pre (xs := m) (i := (m.length : Int) - (b.length - c : Nat)) (by omega), ← cut_suf (xs := y) (i := (c : Int)) rfl]
        refine evd_op (evd_sl (evd_var rfl) evo_no (evo_some hsub) rsl_T) (evd_sl (evd_var rfl) (evo_some (evd_var rfl)) evo_no rsl_T) (radd_T ?_)
        rw [cut_pre (xs := m) (k := m.length - (b.length - c)) (by omega), cut_suf (xs := y) (i := (c : Int)) rfl, List.length_take, List.length_drop]
        omega
      | false =>
        have hp' : (decide (b.length - c ≤ m.length) && (decide (m.drop (m.length - (b.length - c)) = b.drop c) && decide (y.take c = b.take c))) = false := hp
        rw [hp'] at ht
        exact .nx gd_name (run_nx hset (run_ifF ht run_next)) L
  obtain ⟨s3, s4, L⟩ := loop (List.range (b.length + 1)) (fun c hc => by have := List.mem_range.mp hc; omega) .un .un
  have it := run_for (K := K) (E := E0) (itd_rng1 (n := (b.length : Int) + 1) (Γ := [.dat (T b), .dat (T m), .dat (T y), .un, .un]) (eva_cons (evd_op (evd_cb (eva_cons (evd_var (i := 0) rfl) eva_nil) rlen_T) evd_int radd_int) eva_nil)) (by
    have e : ((b.length : Int) + 1).toNat = b.length + 1 := by omega
    rw [e, show (0 : Int) = ((0 : Nat) : Int) from rfl, rngD_eq, ← List.range_eq_range']
    exact L)
  unfold lmerge
  cases hf : (List.range (b.length + 1)).find? (lmP b m y) with
  | some c =>
    rw [hf] at it
    exact run_rt it
  | none =>
    rw [hf] at it
    exact run_nx it (run_ret evd_non)
theorem ok_law_is_repeat {fd : FuncData} (Fu : FnP K "_law_is_repeat" s_law_is_repeat [] fd) (B : Bl mg)   : FnOk P w K mg base (L2.CX P w) 1 (He.ga K "_law_is_repeat") fd ["_law_block_here"] (spD K F_law_is_repeat) := by
  refine fnD Fu sc_law_is_repeat (fun ds r ⟨b, h, _, e⟩ => ⟨by rw [h]; rfl, _, e⟩) fun cdv A outer s H E hr => ⟨_, (pss_cons (ps_setLc (own := [("_law_size", 2)]) (i := 1) rfl sc_law_is_repeat.nd rfl rfl (sw_true rfl rfl rfl (by decide +kernel)) (pi_range2 rfl B.range (pa_cons pe_int (pa_cons (pe_callB (id := "len") (r := rLenA K) call_lenA rfl B.len boot_len (pa_cons (pv 0) pa_nil)) pa_nil))) (blkOk_by (N := ["_law_block_here", "_law_sizes", "_law_size"]) (sc := defScope s_law_is_repeat) (by decide +kernel)) (fun _ _ _ _ _ => (pg_name (i := 2) sc_law_is_repeat.nd rfl (Or.inl rfl))) (fun _ _ _ _ _ => (pts_one (pt_cmpR (r := rEqD K) (op_eqD hr.units) (pv 0) (pe_op (r := rMulU K) op_mulU (pe_slice (r := rSlU K) sl_U (pv 0) po_none (po_some (pv 2))) (pe_op op_fdiv (pe_callB (id := "len") (r := rLenA K) call_lenA rfl B.len boot_len (pa_cons (pv 0) pa_nil)) (pv 2))) (nomark _)))) (fun _ _ _ _ _ => (pv 2)))
      (pss_one (ps_ret (pe_cmpR (r := rNeD K) (op_neD hr.units) (pv 1) (pe_lst pa_nil) (nomark _))))), fun ds d ⟨b, h, lb, e⟩ => ?_⟩
  subst h
  cases e
  have cmp : ∀ ss : List Nat, (∀ s ∈ ss, 1 ≤ s ∧ s < b.length) → Cmp K (gName 2) (tTest (tOp (rEqD K) (tVar 0) (tOp (rMulU K) (tSl (rSlU K) (tVar 0) tNoPart (tPart (tVar 2))) (tOp (rI CDiv fun i j => .int (i / j)) (tCB (rLenA K) (tCons (tVar 0) tNil)) (tVar 2))))) (tVar 2) [2] [.dat (T b), .un, .un]
      (ss.map fun (s : Nat) => PyData.int (s : Int)) ((ss.filter fun s => decide (b = rep (b.take s) (b.length / s))).map fun (s : Nat) => PyData.int (s : Int)) := by
    intro ss
    induction ss with
    | nil => exact fun _ => .nil
    | cons s ss ih =>
      intro hs
      obtain ⟨h1, h2⟩ := hs s List.mem_cons_self
      have ih := ih fun x hx => hs x (List.mem_cons_of_mem _ hx)
      have hd : ((b.length : Int) / (s : Int)) = ((b.length / s : Nat) : Int) := by omega
      have hdl : b.length / s ≤ 1000 := Nat.le_trans (Nat.div_le_self _ _) lb
      have ht : EvT K (tTest (tOp (rEqD K) (tVar 0) (tOp (rMulU K) (tSl (rSlU K) (tVar 0) tNoPart (tPart (tVar 2))) (tOp (rI CDiv fun i j => .int (i / j)) (tCB (rLenA K) (tCons (tVar 0) tNil)) (tVar 2))))) [.dat (T b), .un, .dat (.int s)] (decide (b = rep (b.take s) (b.length / s))) := by
        have e : (b.length / s) = ((b.length : Int) / (s : Int)).toNat := by rw [hd]; rfl
        rw [e, ← cut_pre (xs := b) (i := (s : Int)) rfl]
        refine evt_test (evd_op (evd_var rfl) (evd_op (evd_sl (evd_var rfl) evo_no (evo_some (evd_var rfl)) rsl_T) (evd_op (evd_cb (eva_cons (evd_var rfl) eva_nil) rlen_T) (evd_var rfl) (rop_I ⟨by omega, by omega⟩)) (rmul_T ?_ ?_ (by rw [hd]; omega) (by rw [hd]; omega))) req_T)
        · rw [cut_pre rfl]
          intro z
          have h := congrArg List.length z
          rw [List.length_take, List.length_nil] at h
          omega
        · rw [cut_pre rfl, List.length_take]; omega
      rw [List.map_cons, List.filter_cons]
      cases hp : decide (b = rep (b.take s) (b.length / s)) with
      | true =>
        rw [hp] at ht
        exact .yes gdw_name ht (evd_var rfl) ih
      | false =>
        rw [hp] at ht
        exact .no gdw_name ht ih
  have cm := cmp (List.range' 1 (b.length - 1)) fun s hs => by
    have := List.mem_range'_1.mp hs
    omega
  refine run_nx (run_asg (evd_lc (itd_rng2 (l := 1) (n := b.length) (Γ := [.dat (T b), .un, .un]) (eva_cons evd_int (eva_cons (evd_cb (eva_cons (evd_var (i := 0) rfl) eva_nil) rlen_T) eva_nil))) (by
    have e : ((b.length : Int) - 1).toNat = b.length - 1 := by omega
    rw [e, show (1 : Int) = ((1 : Nat) : Int) from rfl, rngD_eq]
    exact cm) (by rw [rngD_len]; omega)) gd_name) (run_ret ?_)
  have e1 : isRep b = !decide (((List.range' 1 (b.length - 1)).filter fun s => decide (b = rep (b.take s) (b.length / s))).map (fun (s : Nat) => (s : Int)) = []) := by
    unfold isRep
    generalize List.range' 1 (b.length - 1) = ss
    induction ss with
    | nil => rfl
    | cons s ss ih =>
      rw [List.any_cons, List.filter_cons, ih]
      cases decide (b = rep (b.take s) (b.length / s)) with
      | true => simp
      | false => simp
  rw [e1]
  have e2 : (((List.range' 1 (b.length - 1)).filter fun s => decide (b = rep (b.take s) (b.length / s))).map fun (s : Nat) => PyData.int (s : Int)) = (((List.range' 1 (b.length - 1)).filter fun s => decide (b = rep (b.take s) (b.length / s))).map (fun (s : Nat) => (s : Int))).map PyData.int := by rw [List.map_map]; rfl
  rw [e2]
  exact evd_op (evd_var rfl) (evd_lst eva_nil) (rne_L (t := []))
theorem ok_law_leading {fd : FuncData} (Fu : FnP K "_law_leading" s_law_leading [] fd) (B : Bl mg)   : FnOk P w K mg base (L2.CX P w) 1 (He.ga K "_law_leading") fd ["_law_text_here", "_law_block_here"] (spD K F_law_leading) := by
  refine fnD Fu sc_law_leading (fun ds r ⟨a, b, h, _, _, _, e⟩ => ⟨by rw [h]; rfl, _, e⟩) fun cdv A outer s H E hr => ⟨_, (pss_cons (ps_set (i := 2) sc_law_leading.nd rfl (Or.inl rfl) pe_int)
      (pss_cons (ps_while PassesOwn.never (PW.pt (pw_and (pt_cmpR op_ge (pe_callB (id := "len") (r := rLenA K) call_lenA rfl B.len boot_len (pa_cons (pv 0) pa_nil)) (pe_op (r := rMulU K) op_mulU (pe_callB (id := "len") (r := rLenA K) call_lenA rfl B.len boot_len (pa_cons (pv 1) pa_nil)) (pe_op (r := rAddU K) op_addU (pv 2) pe_int)) (nomark _)) (pw_and1 (pt_cmpR (r := rEqD K) (op_eqD hr.units) (pe_slice (r := rSlU K) sl_U (pv 0) (po_some (pe_op (r := rMulU K) op_mulU (pe_callB (id := "len") (r := rLenA K) call_lenA rfl B.len boot_len (pa_cons (pv 1) pa_nil)) (pv 2))) (po_some (pe_op (r := rMulU K) op_mulU (pe_callB (id := "len") (r := rLenA K) call_lenA rfl B.len boot_len (pa_cons (pv 1) pa_nil)) (pe_op (r := rAddU K) op_addU (pv 2) pe_int)))) (pv 1) (nomark _))))) (pss_one (ps_set (i := 2) sc_law_leading.nd rfl (Or.inl rfl) (pe_op (r := rAddU K) op_addU (pv 2) pe_int))))
      (pss_one (ps_ret (pv 2))))), fun ds d ⟨a, b, h, hb, la, lb, e⟩ => ?_⟩
  subst h
  cases e
  have hp : 0 < b.length := List.length_pos_iff.mpr hb
  have loop : ∀ (n k : Nat), k * b.length ≤ a.length → a.length - k * b.length ≤ n → Whl K E0 (tAnd (tTest (tOp (rI0 fun i j => .bl (decide (j ≤ i))) (tCB (rLenA K) (tCons (tVar 0) tNil)) (tOp (rMulU K) (tCB (rLenA K) (tCons (tVar 1) tNil)) (tOp (rAddU K) (tVar 2) (tC (.int 1))))))
      (tTest (tOp (rEqD K) (tSl (rSlU K) (tVar 0) (tPart (tOp (rMulU K) (tCB (rLenA K) (tCons (tVar 1) tNil)) (tVar 2))) (tPart (tOp (rMulU K) (tCB (rLenA K) (tCons (tVar 1) tNil)) (tOp (rAddU K) (tVar 2) (tC (.int 1)))))) (tVar 1))))
      (tAsg (tOp (rAddU K) (tVar 2) (tC (.int 1))) (gName 2)) n [.dat (T a), .dat (T b), .dat (.int k)] (.nx [.dat (T a), .dat (T b), .dat (.int (k + lead (a.drop (k * b.length)) b : Nat))]) := by
    intro n
    induction n with
    | zero =>
      intro k h1 h2
      have e : a.drop (k * b.length) = [] := List.drop_eq_nil_of_le (by omega)
      have e2 : (k + 1) * b.length = k * b.length + b.length := by rw [Nat.add_mul, Nat.one_mul]
      have h3 : EvT K (tTest (tOp (rI0 fun i j => .bl (decide (j ≤ i))) (tCB (rLenA K) (tCons (tVar 0) tNil)) (tOp (rMulU K) (tCB (rLenA K) (tCons (tVar 1) tNil)) (tOp (rAddU K) (tVar 2) (tC (.int 1)))))) [.dat (T a), .dat (T b), .dat (.int k)] (decide ((b.length : Int) * ((k : Int) + 1) ≤ (a.length : Int))) :=
        evt_test (evd_op (evd_cb (eva_cons (evd_var rfl) eva_nil) rlen_T) (evd_op (evd_cb (eva_cons (evd_var rfl) eva_nil) rlen_T) (evd_op (evd_var rfl) evd_int radd_int) (rmul_int (.inl ⟨by omega, by omega⟩))) (rop_B0 (g := fun i j => decide (j ≤ i))))
      have hf : decide ((b.length : Int) * ((k : Int) + 1) ≤ (a.length : Int)) = false := by
        apply decide_eq_false
        have : (b.length : Int) * ((k : Int) + 1) = (((k + 1) * b.length : Nat) : Int) := by rw [Int.mul_comm]; push_cast; rfl
        rw [this]; omega
      rw [hf] at h3
      rw [e]
      have : lead ([] : Tx) b = 0 := rfl
      rw [this, Nat.add_zero]
      exact .stop (evt_is (evt_and h3 (c := false) fun z => by cases z) rfl)
    | succ n ih =>
      intro k h1 h2
      have e2 : (k + 1) * b.length = k * b.length + b.length := by rw [Nat.add_mul, Nat.one_mul]
      have em : (b.length : Int) * ((k : Int) + 1) = (((k + 1) * b.length : Nat) : Int) := by rw [Int.mul_comm]; push_cast; rfl
      have em0 : (b.length : Int) * (k : Int) = ((k * b.length : Nat) : Int) := by rw [Int.mul_comm]; push_cast; rfl
      have h3 : EvT K (tTest (tOp (rI0 fun i j => .bl (decide (j ≤ i))) (tCB (rLenA K) (tCons (tVar 0) tNil)) (tOp (rMulU K) (tCB (rLenA K) (tCons (tVar 1) tNil)) (tOp (rAddU K) (tVar 2) (tC (.int 1)))))) [.dat (T a), .dat (T b), .dat (.int k)] (decide ((b.length : Int) * ((k : Int) + 1) ≤ (a.length : Int))) :=
        evt_test (evd_op (evd_cb (eva_cons (evd_var rfl) eva_nil) rlen_T) (evd_op (evd_cb (eva_cons (evd_var rfl) eva_nil) rlen_T) (evd_op (evd_var rfl) evd_int radd_int) (rmul_int (.inl ⟨by omega, by omega⟩))) (rop_B0 (g := fun i j => decide (j ≤ i))))
      have h4 := evt_test (K := K) (Γ := [.dat (T a), .dat (T b), .dat (.int k)]) (evd_op (evd_sl (evd_var (i := 0) rfl) (evo_some (evd_op (evd_cb (eva_cons (evd_var (i := 1) rfl) eva_nil) rlen_T) (evd_var (i := 2) rfl) (rmul_int (.inl ⟨by omega, by omega⟩))))
        (evo_some (evd_op (evd_cb (eva_cons (evd_var (i := 1) rfl) eva_nil) rlen_T) (evd_op (evd_var (i := 2) rfl) (evd_int (i := 1)) radd_int) (rmul_int (.inl ⟨by omega, by omega⟩)))) rsl_T) (evd_var (i := 1) rfl) req_T)
      rw [cut_mid (k := k * b.length) (l := (k + 1) * b.length) em0 em] at h4
      have e3 : (k + 1) * b.length - k * b.length = b.length := by omega
      rw [e3] at h4
      have hc := evt_and h3 fun _ => h4
      by_cases h : (a.drop (k * b.length)).take b.length = b
      · have hl : b.length ≤ a.length - k * b.length := by
          have := congrArg List.length h
          rw [List.length_take, List.length_drop] at this
          omega
        have ht : decide ((b.length : Int) * ((k : Int) + 1) ≤ (a.length : Int)) = true := by
          apply decide_eq_true
          rw [em]; omega
        rw [lead_yes hb h, List.drop_drop]
        have e4 : k * b.length + b.length = (k + 1) * b.length := by omega
        rw [e4]
        have e5 : k + (lead (a.drop ((k + 1) * b.length)) b + 1) = k + 1 + lead (a.drop ((k + 1) * b.length)) b := by omega
        rw [e5]
        refine .nx (evt_is hc (by rw [ht]; simp [h])) (run_asg (d := .int ((k + 1 : Nat) : Int)) ?_ gd_name) (ih (k + 1) (by omega) (by omega))
        exact evd_op (evd_var rfl) evd_int radd_int
      · rw [lead_no h, Nat.add_zero]
        exact .stop (evt_is hc (by simp [h]))
  have L := loop a.length 0 (by simp) (by simp)
  rw [Nat.zero_mul, List.drop_zero, Nat.zero_add] at L
  exact run_nx (run_asg evd_int gd_name) (run_nx (run_while L) (run_ret (evd_var rfl)))
theorem ok_law_more {fd : FuncData} (Fu : FnP K "_law_more" s_law_more [] fd) (B : Bl mg)   : FnOk P w K mg base (L2.CX P w) 1 (He.ga K "_law_more") fd ["_law_form_here", "_law_text_here"] (spD K F_law_more) := by
  refine fnD Fu sc_law_more (fun ds r ⟨f, b, k, t, es, h, _, _, _, _, _, e⟩ => ⟨by rw [h]; rfl, _, e⟩) fun cdv A outer s H E hr => ⟨_, (pss_cons (ps_asg (pe_slice (r := rSlU K) sl_U (pv 0) po_none (po_some pe_int)) (pg_tup rfl (pgs_cons (pg_name (i := 2) sc_law_more.nd rfl (Or.inl rfl)) (pgs_cons (pg_name (i := 3) sc_law_more.nd rfl (Or.inl rfl)) (pgs_cons (pg_name (i := 4) sc_law_more.nd rfl (Or.inl rfl)) pgs_nil)))))
      (pss_cons (ps_set (i := 5) sc_law_more.nd rfl (Or.inl rfl) (pe_op op_fdiv (pe_op op_sub (pe_op op_sub (pe_callB (id := "len") (r := rLenA K) call_lenA rfl B.len boot_len (pa_cons (pv 1) pa_nil)) (pe_callB (id := "len") (r := rLenA K) call_lenA rfl B.len boot_len (pa_cons (pv 2) pa_nil))) (pe_callB (id := "len") (r := rLenA K) call_lenA rfl B.len boot_len (pa_cons (pv 4) pa_nil))) (pe_callB (id := "len") (r := rLenA K) call_lenA rfl B.len boot_len (pa_cons (pv 3) pa_nil))))
      (pss_one (ps_ret (pe_ifExp (PW.pt (pw_and (pt_cmpR op_ge (pv 5) pe_int (nomark _)) (pw_and1 (pt_cmpR (r := rEqD K) (op_eqD hr.units) (pe_op (r := rAddU K) op_addU (pe_op (r := rAddU K) op_addU (pv 2) (pe_op (r := rMulU K) op_mulU (pv 3) (pv 5))) (pv 4)) (pv 1) (nomark _))))) (pv 5) pe_non))))), fun ds d ⟨f, b, k, t, es, h, hb, lf, lb, lk, lt, e⟩ => ?_⟩
  subst h
  cases e
  have hp : 0 < b.length := List.length_pos_iff.mpr hb
  refine run_nx (run_asg (d := .tuple [T f, T b, T k]) (evd_is (evd_sl (evd_var rfl) evo_no (evo_some evd_int) rsl_tup) (congrArg PyData.tuple (cut_pre (k := 3) rfl))) (gd_tup (gds_cons gd_name (gds_cons gd_name (gds_cons gd_name gds_nil))))) ?_
  generalize hn : ((t.length : Int) - f.length - k.length) / b.length = n
  have hnb : n * b.length ≤ 1000 := by
    rw [← hn]
    have h1 : (t.length : Int) - f.length - k.length ≤ 1000 := by omega
    exact Int.le_trans (Int.ediv_mul_le _ (by omega)) h1
  have hn1 : n ≤ 1000 := by
    by_cases h0 : n ≤ 0
    · omega
    · have : n * 1 ≤ n * b.length := Int.mul_le_mul_of_nonneg_left (by omega) (by omega)
      omega
  refine run_nx (run_asg (d := .int n) ?_ gd_name) (run_ret ?_)
  · rw [← hn]
    exact evd_op (evd_op (evd_op (evd_cb (eva_cons (evd_var rfl) eva_nil) rlen_T) (evd_cb (eva_cons (evd_var rfl) eva_nil) rlen_T) rop_I0) (evd_cb (eva_cons (evd_var rfl) eva_nil) rlen_T) rop_I0) (evd_cb (eva_cons (evd_var rfl) eva_nil) rlen_T) (rop_I ⟨by omega, by omega⟩)
  · show EvD K _ [.dat (.tuple (T f :: T b :: T k :: es)), .dat (T t), .dat (T f), .dat (T b), .dat (T k), .dat (.int n)] _
    unfold moreO
    rw [hn]
    have hg : ∀ i j : Int, decide (j ≤ i) = decide (j ≤ i) := fun _ _ => rfl
    have h1 : EvT K (tTest (tOp (rI0 fun i j => .bl (decide (j ≤ i))) (tVar 5) (tC (.int 0)))) [.dat (.tuple (T f :: T b :: T k :: es)), .dat (T t), .dat (T f), .dat (T b), .dat (T k), .dat (.int n)] (decide (0 ≤ n)) := evt_test (evd_op (evd_var rfl) evd_int (rop_B0 (g := fun i j => decide (j ≤ i))))
    have h2 : 0 ≤ n → EvT K (tTest (tOp (rEqD K) (tOp (rAddU K) (tOp (rAddU K) (tVar 2) (tOp (rMulU K) (tVar 3) (tVar 5))) (tVar 4)) (tVar 1))) [.dat (.tuple (T f :: T b :: T k :: es)), .dat (T t), .dat (T f), .dat (T b), .dat (T k), .dat (.int n)] (decide (f ++ rep b n.toNat ++ k = t)) := fun h0 => by
      have hrl : (rep b n.toNat).length ≤ 1000 := by
        rw [rep_len]
        have : ((n.toNat * b.length : Nat) : Int) = n * b.length := by push_cast; rw [Int.toNat_of_nonneg h0]
        omega
      exact evt_test (evd_op (evd_op (evd_op (evd_var rfl) (evd_op (evd_var rfl) (evd_var rfl) (rmul_T hb lb h0 hn1)) (radd_T (by omega))) (evd_var rfl) (radd_T (by rw [List.length_append]; omega))) (evd_var rfl) req_T)
    have hc := evt_and h1 fun h => h2 (of_decide_eq_true h)
    cases hb2 : (decide (0 ≤ n) && decide (f ++ rep b n.toNat ++ k = t)) with
    | true =>
      rw [hb2] at hc
      exact evd_if hc (fun _ => evd_var rfl) (fun z => by cases z)
    | false =>
      rw [hb2] at hc
      exact evd_if hc (fun z => by cases z) (fun _ => evd_non)
end CB

/-! W13 -/
set_option Elab.async false
set_option linter.all false
set_option maxRecDepth 100000
set_option maxHeartbeats 4000000
namespace CB
open PySem PySem.Spec PyProof.Rows L2
def blkAt (g : Tx) (ah sz : Nat) : Tx := (g.drop ah).take sz
def formAt (l g : Tx) (ah sz : Nat) : Option Form :=
  if decide (lead (l.drop ah) (blkAt g ah sz) = lead (g.drop ah) (blkAt g ah sz)) || (!decide (g.drop (ah + sz * lead (g.drop ah) (blkAt g ah sz)) = l.drop (ah + sz * lead (l.drop ah) (blkAt g ah sz))) || isRep (blkAt g ah sz)) then none
  else if decide (0 < ah) && decide (l.getD (ah - 1) 0 = (blkAt g ah sz).getD (sz - 1) 0) then none
  else some ⟨l.take ah, blkAt g ah sz, l.drop (ah + sz * lead (l.drop ah) (blkAt g ah sz)), lead (l.drop ah) (blkAt g ah sz), lead (g.drop ah) (blkAt g ah sz)⟩
def ahGo (l g : Tx) : List Nat → List Form
  | [] => []
  | a :: as => if l.take a = g.take a then (List.range' 1 (g.length - a)).filterMap (formAt l g a) ++ ahGo l g as else []
def lawForms (l g : Tx) : List Form := ahGo l g (List.range (l.length + 1))
def Form.sw (f : Form) : Form := { f with times := f.others, others := f.times }
def lawFormLG (a l g : Tx) : D := match lawForms l g with
  | [] => .none
  | [f] => if l = a then f.d else f.sw.d
  | _ => .str "two"
def lawFormD (a b : Tx) : D := if a.length > b.length then lawFormLG a b a else lawFormLG a a b
variable {P : Program} {w : World} {K : PySem.W.Frag} {mg : Str → Option Value} {base : Heap}
def F_law_form (ds : List D) (r : Res) : Prop := ∃ a b, ds = [T a, T b] ∧ a.length ≤ 200 ∧ b.length ≤ 200 ∧ r = .ok (lawFormD a b)
theorem sc_law_form : FnScope ["_law_one", "_law_other", "_law_less", "_law_more_here", "_law_found", "_law_ahead", "_law_size", "_law_block_here", "_law_times", "_law_others", "_law_back", "_law_front"] ["_law_one", "_law_other"] (defScope s_law_form) := ⟨rfl, rfl, rfl, by decide +kernel, rfl, by decide +kernel, by decide +kernel⟩
theorem lf_form (f : Form) : lf f.d = true := by
  show lfs [T f.front, T f.block, T f.back, .int f.times, .int f.others] = true
  simp [lfs]
theorem atI_m1 {α : Type} {xs : List α} (h : xs ≠ []) : atI xs (-1) = xs[xs.length - 1]? := by
  have hp : 0 < xs.length := List.length_pos_iff.mpr h
  unfold atI ixN
  rw [if_neg (by decide), if_pos (by omega)]
  have e : (-1 + (xs.length : Int)).toNat = xs.length - 1 := by omega
  rw [e]
  rfl
theorem lay_forms : ∀ fs : List Form, PyData.canLayAll0 (fs.map Form.d) = true ∧ PyData.depthAll (fs.map Form.d) ≤ 3
  | [] => ⟨rfl, by simp [PyData.depthAll]⟩
  | f :: fs => by
    obtain ⟨h1, h2⟩ := lay_forms fs
    have a1 := lay_ints f.front
    have a2 := lay_ints f.block
    have a3 := lay_ints f.back
    have b1 := depth_ints f.front
    have b2 := depth_ints f.block
    have b3 := depth_ints f.back
    rw [List.map_cons]
    refine ⟨?_, ?_⟩
    · simp [PyData.canLayAll0, PyData.canLay0, Form.d, T, a1, a2, a3, h1]
    · simp only [PyData.depthAll, PyData.depth, Form.d, T]
      omega
theorem shaped_forms (fs : List Form) : SeqAt.shaped (.list (fs.map Form.d)) = true := by
  obtain ⟨h1, h2⟩ := lay_forms fs
  have e1 : PyData.canLay0 (.list (fs.map Form.d)) = true := by rw [PyData.canLay0]; exact h1
  unfold SeqAt.shaped
  rw [e1, Bool.true_and]
  exact decide_eq_true (by simp only [PyData.depth]; omega)
theorem ok_law_form {fd : FuncData} (Fu : FnP K "_law_form" s_law_form [] fd) (B : Bl mg)  (h_law_is_repeat : HasF P w K mg base 1 "_law_is_repeat" ["_law_block_here"] [] (spD K F_law_is_repeat)) (h_law_leading : HasF P w K mg base 1 "_law_leading" ["_law_text_here", "_law_block_here"] [] (spD K F_law_leading)) : FnOk P w K mg base (L2.CX P w) 2 (He.ga K "_law_form") fd ["_law_one", "_law_other"] (spD K F_law_form) := by
  refine fnMD Fu sc_law_form (fun ds r ⟨a, b, h, _, _, e⟩ => ⟨by rw [h]; rfl, _, e⟩) fun cdv A outer s H E hr => ⟨_, (pss_cons (ps_par (i := 2) (j := 3) rfl sc_law_form.nd rfl rfl (by decide) rfl rfl (pa_cons (pv 0) (pa_cons (pv 1) pa_nil)) (by rfl))
      (pss_cons (ps_if (pt_cmpR op_gt (pe_callB (id := "len") (r := rLenA K) call_lenA rfl B.len boot_len (pa_cons (pv 0) pa_nil)) (pe_callB (id := "len") (r := rLenA K) call_lenA rfl B.len boot_len (pa_cons (pv 1) pa_nil)) (nomark _)) (pss_one (ps_par (i := 2) (j := 3) rfl sc_law_form.nd rfl rfl (by decide) rfl rfl (pa_cons (pv 1) (pa_cons (pv 0) pa_nil)) (by rfl))) pss_nil)
      (pss_cons (ps_set (i := 4) sc_law_form.nd rfl (Or.inl rfl) (pe_lst pa_nil))
      (pss_cons (ps_for PassesOwn.never rfl (pi_range1 rfl B.range (pa_cons (pe_op (r := rAddU K) op_addU (pe_callB (id := "len") (r := rLenA K) call_lenA rfl B.len boot_len (pa_cons (pv 2) pa_nil)) pe_int) pa_nil)) (pg_name (i := 5) sc_law_form.nd rfl (Or.inl rfl))
      (pss_cons (ps_if (pt_cmpR (r := rNeD K) (op_neD hr.units) (pe_slice (r := rSlU K) sl_U (pv 2) po_none (po_some (pv 5))) (pe_slice (r := rSlU K) sl_U (pv 3) po_none (po_some (pv 5))) (nomark _)) (pss_one ps_break) pss_nil)
      (pss_one (ps_for PassesOwn.never rfl (pi_range2 rfl B.range (pa_cons pe_int (pa_cons (pe_op (r := rAddU K) op_addU (pe_op op_sub (pe_callB (id := "len") (r := rLenA K) call_lenA rfl B.len boot_len (pa_cons (pv 3) pa_nil)) (pv 5)) pe_int) pa_nil))) (pg_name (i := 6) sc_law_form.nd rfl (Or.inl rfl))
      (pss_cons (ps_set (i := 7) sc_law_form.nd rfl (Or.inl rfl) (pe_slice (r := rSlU K) sl_U (pv 3) (po_some (pv 5)) (po_some (pe_op (r := rAddU K) op_addU (pv 5) (pv 6)))))
      (pss_cons (ps_par (i := 8) (j := 9) rfl sc_law_form.nd rfl rfl (by decide) rfl rfl (pa_cons (pe_f h_law_leading (hr.mono (by decide)) (pa_cons (pe_slice (r := rSlU K) sl_U (pv 2) (po_some (pv 5)) po_none) (pa_cons (pv 7) pa_nil))) (pa_cons (pe_f h_law_leading (hr.mono (by decide)) (pa_cons (pe_slice (r := rSlU K) sl_U (pv 3) (po_some (pv 5)) po_none) (pa_cons (pv 7) pa_nil))) pa_nil)) (by rfl))
      (pss_cons (ps_set (i := 10) sc_law_form.nd rfl (Or.inl rfl) (pe_slice (r := rSlU K) sl_U (pv 2) (po_some (pe_op (r := rAddU K) op_addU (pv 5) (pe_op (r := rMulU K) op_mulU (pv 6) (pv 8)))) po_none))
      (pss_cons (ps_if (PW.pt (pw_or (pt_cmpR (r := rEqD K) (op_eqD hr.units) (pv 8) (pv 9) (nomark _)) (pw_or (pt_cmpR (r := rNeD K) (op_neD hr.units) (pe_slice (r := rSlU K) sl_U (pv 3) (po_some (pe_op (r := rAddU K) op_addU (pv 5) (pe_op (r := rMulU K) op_mulU (pv 6) (pv 9)))) po_none) (pv 10) (nomark _)) (pw_or1 (pt_val (pe_f h_law_is_repeat (hr.mono (by decide)) (pa_cons (pv 7) pa_nil))))))) (pss_one ps_continue) pss_nil)
      (pss_cons (ps_if (PW.pt (pw_and (pt_cmpR op_gt (pv 5) pe_int (nomark _)) (pw_and1 (pt_cmpR (r := rEqD K) (op_eqD hr.units) (pe_ix (r := rIx K) ix_seq (pv 2) (pe_op op_sub (pv 5) pe_int) (fun _ _ => rfl)) (pe_ix (r := rIx K) ix_seq (pv 7) (pe_un un_neg pe_int) (fun _ _ => rfl)) (nomark _))))) (pss_one ps_continue) pss_nil)
      (pss_one (ps_expr (pe_bm PySem.F.plainAttrs_list PySem.F.slot_list_append PySem.F.type_list_append mt_append (pv 4) (pa_cons (pe_tup (pa_cons (pe_slice (r := rSlU K) sl_U (pv 2) po_none (po_some (pv 5))) (pa_cons (pv 7) (pa_cons (pv 10) (pa_cons (pv 8) (pa_cons (pv 9) pa_nil)))))) pa_nil)))))))))))))
      (pss_cons (ps_if (pt_cmpR (r := rNeD K) (op_neD hr.units) (pe_callB (id := "len") (r := rLenA K) call_lenA rfl B.len boot_len (pa_cons (pv 4) pa_nil)) pe_int (nomark _)) (pss_one (ps_ret (pe_ifExp (pt_cmpR (r := rEqD K) (op_eqD hr.units) (pv 4) (pe_lst pa_nil) (nomark _)) pe_non pe_str))) pss_nil)
      (pss_cons (ps_asg (pe_ix (r := rIx K) ix_seq (pv 4) pe_int (fun _ _ => rfl)) (pg_tup rfl (pgs_cons (pg_name (i := 11) sc_law_form.nd rfl (Or.inl rfl)) (pgs_cons (pg_name (i := 7) sc_law_form.nd rfl (Or.inl rfl)) (pgs_cons (pg_name (i := 10) sc_law_form.nd rfl (Or.inl rfl)) (pgs_cons (pg_name (i := 8) sc_law_form.nd rfl (Or.inl rfl)) (pgs_cons (pg_name (i := 9) sc_law_form.nd rfl (Or.inl rfl)) pgs_nil)))))))
      (pss_one (ps_ret (pe_ifExp (pt_cmpR (r := rEqD K) (op_eqD hr.units) (pv 2) (pv 0) (nomark _)) (pe_ix (r := rIx K) ix_seq (pv 4) pe_int (fun _ _ => rfl)) (pe_tup (pa_cons (pv 11) (pa_cons (pv 7) (pa_cons (pv 10) (pa_cons (pv 9) (pa_cons (pv 8) pa_nil))))))))))))))), fun ds d Mx ⟨a, b, h, la, lb, e⟩ => ?_⟩
  subst h
  cases e
  refine runm_nx (run_par (a := T a) (b := T b) (eva_cons (evd_var rfl) (eva_cons (evd_var rfl) eva_nil))) ?_
  obtain ⟨l, g, hll, hgl, hlg, hd⟩ : ∃ l g : Tx, l.length ≤ 200 ∧ g.length ≤ 200 ∧ (a.length > b.length ∧ l = b ∧ g = a ∨ ¬ a.length > b.length ∧ l = a ∧ g = b) ∧ lawFormD a b = lawFormLG a l g := by
    unfold lawFormD
    by_cases z : a.length > b.length
    · exact ⟨b, a, lb, la, .inl ⟨z, rfl, rfl⟩, if_pos z⟩
    · exact ⟨a, b, la, lb, .inr ⟨z, rfl, rfl⟩, if_neg z⟩
  rw [hd]
  refine runm_nx (Γ1 := [.dat (T a), .dat (T b), .dat (T l), .dat (T g), .un, .un, .un, .un, .un, .un, .un, .un]) ?_ ?_
  · have hgt := evt_test (K := K) (Γ := [.dat (T a), .dat (T b), .dat (T a), .dat (T b), .un, .un, .un, .un, .un, .un, .un, .un]) (evd_op (evd_cb (eva_cons (evd_var (i := 0) rfl) eva_nil) rlen_T) (evd_cb (eva_cons (evd_var (i := 1) rfl) eva_nil) rlen_T) (rop_B0 (g := fun i j => decide (j < i))))
    rcases hlg with ⟨z, rfl, rfl⟩ | ⟨z, rfl, rfl⟩
    · exact run_ifT (evt_is hgt (by simp; omega)) (run_par (eva_cons (evd_var rfl) (eva_cons (evd_var rfl) eva_nil)))
    · exact run_ifF (evt_is hgt (by simp; omega)) run_next
  refine runm_new eva_nil (by simp) fun x => ?_
  show RunM K Mx [] _ E0 _ [(x, [])] [.dat (T a), .dat (T b), .dat (T l), .dat (T g), .ref x, .un, .un, .un, .un, .un, .un, .un] _
  have leadT : ∀ (te : TE) (s5 s6 s8 s9 s10 s11 : Sl) (t blk : Tx), blk ≠ [] → t.length ≤ 200 → blk.length ≤ 200 → EvD K te [.dat (T a), .dat (T b), .dat (T l), .dat (T g), .ref x, s5, s6, .dat (T blk), s8, s9, s10, s11] (T t) →
      EvD K (tCall (spD K F_law_leading) [] E0 (tCons te (tCons (tVar 7) tNil))) [.dat (T a), .dat (T b), .dat (T l), .dat (T g), .ref x, s5, s6, .dat (T blk), s8, s9, s10, s11] (.int (lead t blk : Nat)) := fun te s5 s6 s8 s9 s10 s11 t blk hb ht hbl he =>
    evd_call0 (eva_cons he (eva_cons (evd_var rfl) eva_nil)) ⟨t, blk, rfl, hb, by omega, by omega, rfl⟩
  refine runm_seq (Ψ' := fun o' ms' => ∃ s5 s6 s7 s8 s9 s10 s11, o' = .nx [.dat (T a), .dat (T b), .dat (T l), .dat (T g), .ref x, s5, s6, s7, s8, s9, s10, s11] ∧ ms' = [(x, (lawForms l g).map Form.d)]) ?_ (fun Γ1 ms1 h => ?_) (fun o' ms1 h hn => by
    obtain ⟨_, _, _, _, _, _, _, h1, _⟩ := h
    exact absurd h1 (hn _))
  · refine runm_for (R := fun es ms Γ => ∃ (as : List Nat) (fs : List Form) (s5 s6 s7 s8 s9 s10 s11 : Sl), es = as.map (fun (c : Nat) => PyData.int (c : Int)) ∧ ms = [(x, fs.map Form.d)] ∧ Γ = [.dat (T a), .dat (T b), .dat (T l), .dat (T g), .ref x, s5, s6, s7, s8, s9, s10, s11] ∧ (∀ c ∈ as, c ≤ l.length) ∧ fs ++ ahGo l g as = lawForms l g ∧ fs.length + 201 * as.length ≤ 201 * 201)
      (itd_rng1 (n := (l.length : Int) + 1) (eva_cons (evd_op (evd_cb (eva_cons (evd_var (i := 2) rfl) eva_nil) rlen_T) evd_int radd_int) eva_nil)) ⟨List.range (l.length + 1), [], .un, .un, .un, .un, .un, .un, .un, by
        have e : ((l.length : Int) + 1).toNat = l.length + 1 := by omega
        rw [e, show (0 : Int) = ((0 : Nat) : Int) from rfl, rngD_eq, ← List.range_eq_range'], rfl, rfl, fun c hc => by have := List.mem_range.mp hc; omega, rfl, by rw [List.length_range, List.length_nil]; omega⟩ ?_ ?_
    · rintro d es ms Γ ⟨as, fs, s5, s6, s7, s8, s9, s10, s11, h1, rfl, rfl, has, hfs, hln⟩
      cases as with
      | nil => cases h1
      | cons c as =>
      obtain ⟨rfl, rfl⟩ := List.cons.inj h1
      have hc := has c List.mem_cons_self
      rw [List.length_cons] at hln
      refine ⟨_, gd_name, ?_⟩
      show RunM K Mx [] _ E0 _ _ [.dat (T a), .dat (T b), .dat (T l), .dat (T g), .ref x, .dat (.int c), s6, s7, s8, s9, s10, s11] _
      have ht : EvT K (tTest (tOp (rNeD K) (tSl (rSlU K) (tVar 2) tNoPart (tPart (tVar 5))) (tSl (rSlU K) (tVar 3) tNoPart (tPart (tVar 5))))) [.dat (T a), .dat (T b), .dat (T l), .dat (T g), .ref x, .dat (.int c), s6, s7, s8, s9, s10, s11] (!decide (l.take c = g.take c)) := by
        rw [← cut_pre (xs := l) (i := (c : Int)) rfl, ← cut_pre (xs := g) (i := (c : Int)) rfl]
        exact evt_test (evd_op (evd_sl (evd_var rfl) evo_no (evo_some (evd_var rfl)) rsl_T) (evd_sl (evd_var rfl) evo_no (evo_some (evd_var rfl)) rsl_T) rne_T)
      unfold ahGo at hfs
      by_cases hpre : l.take c = g.take c
      · rw [if_pos hpre] at hfs
        refine runm_ifN (b := false) (Thw.refl _) (evt_is ht (by simp [hpre])) (fun z => by cases z) fun _ => runm_skip ?_
        refine runm_mono (Ψ := fun o' ms' => ∃ (fs' : List Form) (s6 s7 s8 s9 s10 : Sl), o' = .nx [.dat (T a), .dat (T b), .dat (T l), .dat (T g), .ref x, .dat (.int c), s6, s7, s8, s9, s10, s11] ∧ ms' = [(x, fs'.map Form.d)] ∧ fs' ++ ahGo l g as = lawForms l g ∧ fs'.length + 201 * as.length ≤ 201 * 201) ?_ (fun o' ms' ⟨fs', s6, s7, s8, s9, s10, h1, h2, h3, h4⟩ => by
          subst h1 h2
          exact ⟨as, fs', _, _, _, _, _, _, _, rfl, rfl, rfl, fun c' h' => has c' (List.mem_cons_of_mem _ h'), h3, h4⟩)
        refine runm_for (R := fun es ms Γ => ∃ (ss : List Nat) (fs' : List Form) (s6 s7 s8 s9 s10 : Sl), es = ss.map (fun (c : Nat) => PyData.int (c : Int)) ∧ ms = [(x, fs'.map Form.d)] ∧ Γ = [.dat (T a), .dat (T b), .dat (T l), .dat (T g), .ref x, .dat (.int c), s6, s7, s8, s9, s10, s11] ∧ (∀ s ∈ ss, 1 ≤ s ∧ s ≤ g.length - c) ∧ fs' ++ (ss.filterMap (formAt l g c) ++ ahGo l g as) = lawForms l g ∧ fs'.length + ss.length + 201 * as.length ≤ 201 * 201)
          (itd_rng2 (l := 1) (n := (g.length : Int) - c + 1) (eva_cons evd_int (eva_cons (evd_op (evd_op (evd_cb (eva_cons (evd_var (i := 3) rfl) eva_nil) rlen_T) (evd_var (i := 5) rfl) rop_I0) evd_int radd_int) eva_nil))) ⟨List.range' 1 (g.length - c), fs, _, _, _, _, _, by
            have e : ((g.length : Int) - c + 1 - 1).toNat = g.length - c := by omega
            rw [e, show (1 : Int) = ((1 : Nat) : Int) from rfl, rngD_eq], rfl, rfl, fun s hs => by have := List.mem_range'_1.mp hs; omega, hfs, by rw [List.length_range']; omega⟩ ?_ ?_
        · rintro d es ms Γ ⟨ss, fs', s6, s7, s8, s9, s10, h1, rfl, rfl, hss, hfs', hln'⟩
          cases ss with
          | nil => cases h1
          | cons sz ss =>
          obtain ⟨rfl, rfl⟩ := List.cons.inj h1
          obtain ⟨hs1, hs2⟩ := hss sz List.mem_cons_self
          have hss' : ∀ s ∈ ss, 1 ≤ s ∧ s ≤ g.length - c := fun s hs => hss s (List.mem_cons_of_mem _ hs)
          rw [List.length_cons] at hln'
          rw [List.filterMap_cons] at hfs'
          refine ⟨_, gd_name, ?_⟩
          show RunM K Mx [] _ E0 _ _ [.dat (T a), .dat (T b), .dat (T l), .dat (T g), .ref x, .dat (.int c), .dat (.int sz), s7, s8, s9, s10, s11] _
          have hbl : (blkAt g c sz).length = sz := by unfold blkAt; rw [List.length_take, List.length_drop]; omega
          have hbn : blkAt g c sz ≠ [] := fun z => by rw [z, List.length_nil] at hbl; omega
          refine runm_nx (run_asg (d := T (blkAt g c sz)) ?_ gd_name) ?_
          · have e : (g.drop c).take sz = (g.drop c).take (c + sz - c) := by congr 1; omega
            unfold blkAt
            rw [e, ← cut_mid (xs := g) (i := (c : Int)) (j := (c : Int) + (sz : Int)) rfl (by omega)]
            exact evd_sl (evd_var rfl) (evo_some (evd_var rfl)) (evo_some (evd_op (evd_var rfl) (evd_var rfl) radd_int)) rsl_T
          unfold formAt at hfs'
          generalize blkAt g c sz = blk at hbl hbn hfs'
          have hl1 : lead (l.drop c) blk * blk.length ≤ (l.drop c).length := lead_le hbn
          have hl2 : lead (g.drop c) blk * blk.length ≤ (g.drop c).length := lead_le hbn
          rw [List.length_drop, hbl] at hl1 hl2
          refine runm_nx (run_par (a := .int (lead (l.drop c) blk : Nat)) (b := .int (lead (g.drop c) blk : Nat)) (eva_cons ?_ (eva_cons ?_ eva_nil))) ?_
          · refine leadT _ _ _ _ _ _ _ (l.drop c) blk hbn (by rw [List.length_drop]; omega) (by omega) ?_
            rw [← cut_suf (xs := l) (i := (c : Int)) rfl]
            exact evd_sl (evd_var rfl) (evo_some (evd_var rfl)) evo_no rsl_T
          · refine leadT _ _ _ _ _ _ _ (g.drop c) blk hbn (by rw [List.length_drop]; omega) (by omega) ?_
            rw [← cut_suf (xs := g) (i := (c : Int)) rfl]
            exact evd_sl (evd_var rfl) (evo_some (evd_var rfl)) evo_no rsl_T
          generalize lead (l.drop c) blk = t at hfs' hl1
          generalize lead (g.drop c) blk = o at hfs' hl2
          refine runm_nx (run_asg (d := T (l.drop (c + sz * t))) ?_ gd_name) ?_
          · rw [← cut_suf (xs := l) (i := (c : Int) + (sz : Int) * (t : Int)) (by simp)]
            exact evd_sl (evd_var rfl) (evo_some (evd_op (evd_var rfl) (evd_op (evd_var rfl) (evd_var rfl) (rmul_int (.inl ⟨by omega, by omega⟩))) radd_int)) evo_no rsl_T
          show RunM K Mx [] _ E0 _ _ [.dat (T a), .dat (T b), .dat (T l), .dat (T g), .ref x, .dat (.int c), .dat (.int sz), .dat (T blk), .dat (.int t), .dat (.int o), .dat (T (l.drop (c + sz * t))), s11] _
          have c1 : EvT K (tOr (tTest (tOp (rEqD K) (tVar 8) (tVar 9))) (tOr (tTest (tOp (rNeD K) (tSl (rSlU K) (tVar 3) (tPart (tOp (rAddU K) (tVar 5) (tOp (rMulU K) (tVar 6) (tVar 9)))) tNoPart) (tVar 10))) (tB (tCall (spD K F_law_is_repeat) [] E0 (tCons (tVar 7) tNil))))) [.dat (T a), .dat (T b), .dat (T l), .dat (T g), .ref x, .dat (.int c), .dat (.int sz), .dat (T blk), .dat (.int t), .dat (.int o), .dat (T (l.drop (c + sz * t))), s11]
              (decide (t = o) || (!decide (g.drop (c + sz * o) = l.drop (c + sz * t)) || isRep blk)) := by
            have e : decide (t = o) = decide ((t : Int) = (o : Int)) := by congr 1; apply propext; omega
            rw [e, ← cut_suf (xs := g) (i := (c : Int) + (sz : Int) * (o : Int)) (by simp)]
            exact evt_or (evt_test (evd_op (evd_var rfl) (evd_var rfl) req_int)) fun _ => evt_or (evt_test (evd_op (evd_sl (evd_var rfl) (evo_some (evd_op (evd_var rfl) (evd_op (evd_var rfl) (evd_var rfl) (rmul_int (.inl ⟨by omega, by omega⟩))) radd_int)) evo_no rsl_T) (evd_var rfl) rne_T)) fun _ => evt_B (evd_call0 (eva_cons (evd_var rfl) eva_nil) ⟨blk, rfl, by omega, rfl⟩)
          have c2 : EvT K (tAnd (tTest (tOp (rI0 fun i j => .bl (decide (j < i))) (tVar 5) (tC (.int 0)))) (tTest (tOp (rEqD K) (tOp (rIx K) (tVar 2) (tOp (rI0 fun i j => .int (i - j)) (tVar 5) (tC (.int 1)))) (tOp (rIx K) (tVar 7) (tUn (rU fun i => .int (-i)) (tC (.int 1))))))) [.dat (T a), .dat (T b), .dat (T l), .dat (T g), .ref x, .dat (.int c), .dat (.int sz), .dat (T blk), .dat (.int t), .dat (.int o), .dat (T (l.drop (c + sz * t))), s11]
              (decide (0 < c) && decide (l.getD (c - 1) 0 = blk.getD (sz - 1) 0)) := by
            have e : decide (0 < c) = decide ((0 : Int) < (c : Int)) := by congr 1; apply propext; omega
            rw [e]
            refine evt_and (evt_test (evd_op (evd_var rfl) evd_int (rop_B0 (g := fun i j => decide (j < i))))) fun h0 => ?_
            have hc0 : 0 < c := by have := of_decide_eq_true h0; omega
            refine evt_test (evd_op (evd_op (evd_var rfl) (evd_op (evd_var rfl) evd_int rop_I0) (rix_tup (d := .int (l.getD (c - 1) 0)) (atI_nat (n := c - 1) (by omega) ?_))) (evd_op (evd_var rfl) (evd_un evd_int run_neg) (rix_tup (d := .int (blk.getD (sz - 1) 0)) ?_)) req_int)
            · rw [List.getElem?_map, List.getD_eq_getElem?_getD, List.getElem?_eq_getElem (by omega)]; rfl
            · rw [atI_m1 (fun z => hbn (List.map_eq_nil_iff.mp z)), List.length_map, hbl, List.getElem?_map, List.getD_eq_getElem?_getD, List.getElem?_eq_getElem (by omega)]; rfl
          cases hb1 : (decide (t = o) || (!decide (g.drop (c + sz * o) = l.drop (c + sz * t)) || isRep blk)) with
          | true =>
            rw [hb1] at c1 hfs'
            rw [if_pos rfl] at hfs'
            refine runm_ifN (Thw.refl _) c1 (fun _ => ?_) (fun z => by cases z)
            exact runm_end (run_ct run_cont) ⟨ss, fs', _, _, _, _, _, rfl, rfl, rfl, hss', hfs', by omega⟩
          | false =>
          rw [hb1] at c1 hfs'
          rw [if_neg (by decide)] at hfs'
          refine runm_ifN (Thw.refl _) c1 (fun z => by cases z) fun _ => runm_skip ?_
          cases hb2 : (decide (0 < c) && decide (l.getD (c - 1) 0 = blk.getD (sz - 1) 0)) with
          | true =>
            rw [hb2] at c2 hfs'
            rw [if_pos rfl] at hfs'
            refine runm_ifN (Thw.refl _) c2 (fun _ => ?_) (fun z => by cases z)
            exact runm_end (run_ct run_cont) ⟨ss, fs', _, _, _, _, _, rfl, rfl, rfl, hss', hfs', by omega⟩
          | false =>
          rw [hb2] at c2 hfs'
          rw [if_neg (by decide)] at hfs'
          refine runm_ifN (Thw.refl _) c2 (fun z => by cases z) fun _ => runm_skip ?_
          refine runm_appE (tr := tNil) (j := 4) (x := x) (ds := fs'.map Form.d) (Φ := (· = Form.d ⟨l.take c, blk, l.drop (c + sz * t), t, o⟩)) rfl List.mem_cons_self rfl (by rw [List.length_map]; omega) (evm_of ?_) fun d hd => ?_
          · rw [Form.d]
            refine evd_tup (eva_cons ?_ (eva_cons (evd_var rfl) (eva_cons (evd_var rfl) (eva_cons (evd_var rfl) (eva_cons (evd_var rfl) eva_nil)))))
            rw [← cut_pre (xs := l) (i := (c : Int)) rfl]
            exact evd_sl (evd_var rfl) evo_no (evo_some (evd_var rfl)) rsl_T
          · subst hd
            refine ⟨ss, fs' ++ [⟨l.take c, blk, l.drop (c + sz * t), t, o⟩], _, _, _, _, _, rfl, ?_, rfl, hss', ?_, by rw [List.length_append, List.length_singleton]; omega⟩
            · unfold setM
              rw [List.map_cons, List.map_nil, if_pos rfl, List.map_append]
              rfl
            · rw [List.append_assoc]; exact hfs'
        · rintro ms Γ ⟨ss, fs', s6, s7, s8, s9, s10, h1, rfl, rfl, hss, hfs', hln'⟩
          cases ss with
          | nil => exact ⟨fs', _, _, _, _, _, rfl, rfl, hfs', by rw [List.length_nil] at hln'; omega⟩
          | cons sz ss => cases h1
      · rw [if_neg hpre] at hfs
        refine runm_ifN (b := true) (Thw.refl _) (evt_is ht (by simp [hpre])) (fun _ => ?_) (fun z => by cases z)
        exact runm_end (run_bk run_break) ⟨_, _, _, _, _, _, _, rfl, by rw [← hfs, List.append_nil]⟩
    · rintro ms Γ ⟨as, fs, s5, s6, s7, s8, s9, s10, s11, h1, rfl, rfl, has, hfs, hln⟩
      cases as with
      | nil => exact ⟨_, _, _, _, _, _, _, rfl, by rw [← hfs]; simp [ahGo]⟩
      | cons c as => cases h1
  · obtain ⟨s5, s6, s7, s8, s9, s10, s11, h1, rfl⟩ := h
    cases h1
    refine runm_freeze (Γ' := [.dat (T a), .dat (T b), .dat (T l), .dat (T g), .dat (.list ((lawForms l g).map Form.d)), s5, s6, s7, s8, s9, s10, s11]) (.same (.same (.same (.same (.own List.mem_cons_self (Thw.refl _)))))) (runm_end (o := .rt (lawFormLG a l g)) ?_ rfl)
    unfold lawFormLG
    generalize lawForms l g = fs
    have hlen := evt_test (K := K) (Γ := [.dat (T a), .dat (T b), .dat (T l), .dat (T g), .dat (.list (fs.map Form.d)), s5, s6, s7, s8, s9, s10, s11]) (evd_op (evd_cb (eva_cons (evd_var (i := 4) rfl) eva_nil) rlen_lst) (evd_int (i := 1)) rne_int)
    have hnil := evt_test (K := K) (Γ := [.dat (T a), .dat (T b), .dat (T l), .dat (T g), .dat (.list (fs.map Form.d)), s5, s6, s7, s8, s9, s10, s11]) (evd_op (evd_var (i := 4) rfl) (evd_lst eva_nil) (req (hu := 0) (shaped_forms fs) (shaped_forms [])))
    rw [List.length_map] at hlen
    match fs, hlen, hnil with
    | [], hlen, hnil => exact run_rt (run_ifT (evt_is hlen rfl) (run_ret (evd_if hnil (fun _ => evd_non) (fun z => by simp [PyData.eqv, PyData.eqvAll] at z))))
    | [f], hlen, _ =>
      refine run_nx (run_ifF (evt_is hlen rfl) run_next) ?_
      have h0 : ∀ (s7 s8 s9 s10 s11 : Sl), EvD K (tOp (rIx K) (tVar 4) (tC (.int 0))) [.dat (T a), .dat (T b), .dat (T l), .dat (T g), .dat (.list ([f].map Form.d)), s5, s6, s7, s8, s9, s10, s11] f.d := fun _ _ _ _ _ => evd_op (evd_var rfl) evd_int (rix_lst (atI_nat (n := 0) rfl rfl))
      refine run_nx (run_asg (h0 _ _ _ _ _) (gd_tup (gds_cons gd_name (gds_cons gd_name (gds_cons gd_name (gds_cons gd_name (gds_cons gd_name gds_nil))))))) (run_ret ?_)
      show EvD K _ [.dat (T a), .dat (T b), .dat (T l), .dat (T g), .dat (.list ([f].map Form.d)), s5, s6, .dat (T f.block), .dat (.int f.times), .dat (.int f.others), .dat (T f.back), .dat (T f.front)] (if l = a then f.d else f.sw.d)
      have ht := evt_test (K := K) (Γ := [.dat (T a), .dat (T b), .dat (T l), .dat (T g), .dat (.list ([f].map Form.d)), s5, s6, .dat (T f.block), .dat (.int f.times), .dat (.int f.others), .dat (T f.back), .dat (T f.front)]) (evd_op (evd_var (i := 2) rfl) (evd_var (i := 0) rfl) req_T)
      by_cases e : l = a
      · rw [if_pos e]
        exact evd_if (evt_is ht (b' := true) (by simp [e])) (fun _ => h0 _ _ _ _ _) (fun z => by cases z)
      · rw [if_neg e]
        exact evd_if (evt_is ht (b' := false) (by simp [e])) (fun z => by cases z) (fun _ => evd_tup (eva_cons (evd_var rfl) (eva_cons (evd_var rfl) (eva_cons (evd_var rfl) (eva_cons (evd_var rfl) (eva_cons (evd_var rfl) eva_nil))))))
    | f :: f2 :: fs, hlen, hnil =>
      exact run_rt (run_ifT (evt_is hlen (by simp; omega)) (run_ret (evd_if hnil (fun z => by simp [PyData.eqv, PyData.eqvAll] at z) (fun _ => evd_str))))
end CB

/-! W14 -/
set_option Elab.async false
set_option linter.all false
set_option maxRecDepth 100000
set_option maxHeartbeats 4000000
namespace CB
open PySem PySem.Spec PyProof.Rows L2
def extR (n : Nat) (r : List Nat) : List (List Nat) := ((List.range n).filter fun p => !decide (p ∈ r)).map fun p => r ++ [p]
def rowsAt (n : Nat) : Nat → List (List Nat)
  | 0 => [[]]
  | i + 1 => (rowsAt n i).flatMap (extR n)
def foundAt (n : Nat) : Nat → List (List Nat)
  | 0 => [[]]
  | i + 1 => foundAt n i ++ rowsAt n (i + 1)
def lawOrders (n : Nat) : List (List Nat) := foundAt n n
theorem rowsAt_row : ∀ n, n ≤ 4 → ∀ i, i ≤ n → ∀ r ∈ rowsAt n i, r.length ≤ 4 := by decide +kernel
theorem rowsAt_len : ∀ n, n ≤ 4 → ∀ i, i ≤ n → (rowsAt n i).length ≤ 100 ∧ (foundAt n i).length ≤ 100 := by decide +kernel
def lordD (os : List (List Nat)) : D := .list (os.map ordD)
variable {P : Program} {w : World} {K : PySem.W.Frag} {mg : Str → Option Value} {base : Heap}
def F_law_orders (ds : List D) (r : Res) : Prop := ∃ n : Nat, ds = [.int n] ∧ n ≤ 4 ∧ r = .ok (lordD (lawOrders n))
theorem sc_law_orders : FnScope ["_law_many", "_law_found", "_law_rows", "_law_turn", "_law_longer", "_law_row", "_law_place"] ["_law_many"] (defScope s_law_orders) := ⟨rfl, rfl, rfl, by decide +kernel, rfl, by decide +kernel, by decide +kernel⟩
theorem extR_len (n : Nat) (r : List Nat) : (extR n r).length ≤ n := by
  unfold extR
  rw [List.length_map]
  have := List.length_filter_le (fun p => !decide (p ∈ r)) (List.range n)
  rwa [List.length_range] at this
def nts (o : List Nat) : Tx := o.map fun (p : Nat) => (p : Int)
theorem ordD_T (o : List Nat) : ordD o = T (nts o) := by
  unfold ordD T nts
  rw [List.map_map]
  rfl
theorem mem_ints {p : Nat} {o : List Nat} : ((p : Int) ∈ nts o) ↔ p ∈ o := by
  unfold nts
  rw [List.mem_map]
  constructor
  · rintro ⟨q, h, e⟩
    have : q = p := by omega
    rw [← this]; exact h
  · exact fun h => ⟨p, h, rfl⟩
theorem inF_nats (p : Nat) (o : List Nat) : inF (.int (p : Int)) (o.map fun (p : Nat) => PyData.int (p : Int)) = decide (p ∈ o) := by
  have e : (o.map fun (p : Nat) => PyData.int (p : Int)) = (nts o).map PyData.int := by unfold nts; rw [List.map_map]; rfl
  rw [e, inF_ints]
  congr 1
  exact propext mem_ints
theorem flat_nats : ∀ o : List Nat, (o.map fun (p : Nat) => PyData.int (p : Int)).all flatD = true
  | [] => rfl
  | _ :: o => flat_nats o
theorem runm_nodup {Mx M0 : List Addr} {I : Hp → Prop} {E : XK} {t : TS} {ms : Ms} {Γ : List Sl} {Ψ : Out → Ms → Prop} (h : (ms.map (·.1)).Nodup → RunM K Mx M0 I E t ms Γ Ψ) : RunM K Mx M0 I E t ms Γ Ψ := fun B wf σ H D S P => h S.nd B wf σ H D S P
theorem ok_law_orders {fd : FuncData} (Fu : FnP K "_law_orders" s_law_orders [] fd) (B : Bl mg)   : FnOk P w K mg base (L2.CX P w) 1 (He.ga K "_law_orders") fd ["_law_many"] (spD K F_law_orders) := by
  refine fnMD Fu sc_law_orders (fun ds r ⟨n, h, _, e⟩ => ⟨by rw [h]; rfl, _, e⟩) fun cdv A outer s H E hr => ⟨_, (pss_cons (ps_par (i := 1) (j := 2) rfl sc_law_orders.nd rfl rfl (by decide) rfl rfl (pa_cons (pe_lst (pa_cons (pe_tup pa_nil) pa_nil)) (pa_cons (pe_lst (pa_cons (pe_tup pa_nil) pa_nil)) pa_nil)) (by rfl))
      (pss_cons (ps_for PassesOwn.never rfl (pi_range1 rfl B.range (pa_cons (pv 0) pa_nil)) (pg_name (i := 3) sc_law_orders.nd rfl (Or.inl rfl))
      (pss_cons (ps_set (i := 4) sc_law_orders.nd rfl (Or.inl rfl) (pe_lst pa_nil))
      (pss_cons (ps_for PassesOwn.never rfl (pi_seq (pv 2)) (pg_name (i := 5) sc_law_orders.nd rfl (Or.inr rfl))
      (pss_one (ps_expr (pe_bm PySem.F.plainAttrs_list PySem.F.slot_list_extend PySem.F.type_list_extend mt_extend (pv 4) (pa_cons (pe_lc (own := [("_law_place", 6)]) rfl sc_law_orders.nd (pi_range1 rfl B.range (pa_cons (pv 0) pa_nil)) (blkOk_by (N := ["_law_many", "_law_found", "_law_rows", "_law_turn", "_law_longer", "_law_row", "_law_place"]) (sc := defScope s_law_orders) (by decide +kernel)) (fun _ _ _ _ _ => (pg_name (i := 6) sc_law_orders.nd rfl (Or.inl rfl))) (fun _ _ _ _ _ => (pts_one (pt_cmpR (r := rIn K true) op_notIn_seq (pv 6) (pv 5) (by with_unfolding_all rfl)))) (fun _ _ _ _ _ => (pe_op (r := rAddU K) op_addU (pv 5) (pe_tup (pa_cons (pv 6) pa_nil))))) pa_nil)))))
      (pss_cons (ps_expr (pe_bm PySem.F.plainAttrs_list PySem.F.slot_list_extend PySem.F.type_list_extend mt_extend (pv 1) (pa_cons (pv 4) pa_nil)))
      (pss_one (ps_set (i := 2) sc_law_orders.nd rfl (Or.inl rfl) (pv 4)))))))
      (pss_one (ps_ret (pv 1))))), fun ds d Mx ⟨n, h, hn, e⟩ => ?_⟩
  subst h
  cases e
  refine runm_parL (ds := [ordD []]) (d := lordD [[]]) (eva_cons (evd_tup eva_nil) eva_nil) (by simp) (evd_lst (eva_cons (evd_tup eva_nil) eva_nil)) fun x => ?_
  show RunM K Mx [] _ E0 _ [(x, (foundAt n 0).map ordD)] [.dat (.int n), .ref x, .dat (lordD (rowsAt n 0)), .un, .un, .un, .un] _
  refine runm_seq (Ψ' := fun o' ms' => ∃ s3 s4 s5 s6, o' = .nx [.dat (.int n), .ref x, .dat (lordD (rowsAt n n)), s3, s4, s5, s6] ∧ ms' = [(x, (foundAt n n).map ordD)]) ?_ (fun Γ1 ms1 h => ?_) (fun o' ms1 h hn => by
    obtain ⟨_, _, _, _, h1, _⟩ := h
    exact absurd h1 (hn _))
  · refine runm_for (R := fun es ms Γ => ∃ (i : Nat) (s3 s4 s5 s6 : Sl), es = (List.range' i (n - i)).map (fun (c : Nat) => PyData.int (c : Int)) ∧ i ≤ n ∧ ms = [(x, (foundAt n i).map ordD)] ∧ Γ = [.dat (.int n), .ref x, .dat (lordD (rowsAt n i)), s3, s4, s5, s6])
      (itd_rng1 (n := (n : Int)) (eva_cons (evd_var rfl) eva_nil)) ⟨0, .un, .un, .un, .un, by rw [show (0 : Int) = ((0 : Nat) : Int) from rfl, rngD_eq]; rfl, Nat.zero_le _, rfl, rfl⟩ ?_ ?_
    · rintro d es ms Γ ⟨i, s3, s4, s5, s6, h1, hi, rfl, rfl⟩
      cases hm : n - i with
      | zero => rw [hm] at h1; cases h1
      | succ m =>
      rw [hm, List.range'_succ, List.map_cons] at h1
      obtain ⟨rfl, rfl⟩ := List.cons.inj h1
      have hb := rowsAt_len n hn (i + 1) (by omega)
      have hb0 := rowsAt_len n hn i (by omega)
      refine ⟨_, gd_name, runm_new eva_nil (by simp) fun y => ?_⟩
      show RunM K Mx [] _ E0 _ [(y, []), (x, (foundAt n i).map ordD)] [.dat (.int n), .ref x, .dat (lordD (rowsAt n i)), .dat (.int i), .ref y, s5, s6] _
      refine runm_seq (Ψ' := fun o' ms' => ∃ s5 s6, o' = .nx [.dat (.int n), .ref x, .dat (lordD (rowsAt n i)), .dat (.int i), .ref y, s5, s6] ∧ ms' = [(y, (rowsAt n (i + 1)).map ordD), (x, (foundAt n i).map ordD)] ∧ y ≠ x) ?_ (fun Γ1 ms1 h => ?_) (fun o' ms1 h hn => by
        obtain ⟨_, _, h1, _⟩ := h
        exact absurd h1 (hn _))
      · refine runm_nodup fun hnd => ?_
        have hyx : y ≠ x := fun e => by
          have h1 := (List.nodup_cons.mp (show ([y, x] : List Addr).Nodup from hnd)).1
          exact h1 (by rw [e]; exact List.mem_cons_self)
        refine runm_for (R := fun es ms Γ => ∃ (rs acc : List (List Nat)) (s5 s6 : Sl), es = rs.map ordD ∧ ms = [(y, acc.map ordD), (x, (foundAt n i).map ordD)] ∧ Γ = [.dat (.int n), .ref x, .dat (lordD (rowsAt n i)), .dat (.int i), .ref y, s5, s6] ∧ acc ++ rs.flatMap (extR n) = rowsAt n (i + 1) ∧ ∀ r ∈ rs, r.length ≤ 4)
          (itd_seqL (ds := (rowsAt n i).map ordD) (evd_var rfl)) ⟨rowsAt n i, [], _, _, rfl, rfl, rfl, rfl, rowsAt_row n hn i (by omega)⟩ ?_ ?_
        · rintro d es ms Γ ⟨rs, acc, s5, s6, h1, rfl, rfl, hacc, hrl⟩
          cases rs with
          | nil => cases h1
          | cons r rs =>
          obtain ⟨rfl, rfl⟩ := List.cons.inj h1
          refine ⟨_, gd_name, ?_⟩
          show RunM K Mx [] _ E0 _ _ [.dat (.int n), .ref x, .dat (lordD (rowsAt n i)), .dat (.int i), .ref y, .dat (ordD r), s6] _
          rw [List.flatMap_cons] at hacc
          have hr4 := hrl r List.mem_cons_self
          have hal : acc.length + (extR n r).length ≤ 100 := by
            have := congrArg List.length hacc
            rw [List.length_append, List.length_append] at this
            omega
          have cmp : ∀ ps : List Nat, Cmp K (gName 6) (tTest (tOp (rIn K true) (tVar 6) (tVar 5))) (tOp (rAddU K) (tVar 5) (tTup (tCons (tVar 6) tNil))) [6] [.dat (.int n), .ref x, .dat (lordD (rowsAt n i)), .dat (.int i), .ref y, .dat (ordD r), .un]
              (ps.map fun (p : Nat) => PyData.int (p : Int)) (((ps.filter fun p => !decide (p ∈ r)).map fun p => r ++ [p]).map ordD) := by
            intro ps
            induction ps with
            | nil => exact .nil
            | cons p ps ih =>
              have ht : EvT K (tTest (tOp (rIn K true) (tVar 6) (tVar 5))) [.dat (.int n), .ref x, .dat (lordD (rowsAt n i)), .dat (.int i), .ref y, .dat (ordD r), .dat (.int p)] (!decide (p ∈ r)) := by
                rw [← inF_nats]
                exact evt_test (evd_op (evd_var rfl) (evd_var rfl) (rin_tup (neg := true) rfl (flat_nats r)))
              rw [List.map_cons, List.filter_cons]
              cases hp : !decide (p ∈ r) with
              | true =>
                rw [hp] at ht
                refine .yes gdw_name ht ?_ ih
                show EvD K _ _ (ordD (r ++ [p]))
                have e : ordD (r ++ [p]) = .tuple ((r.map fun (p : Nat) => PyData.int (p : Int)) ++ [.int p]) := by unfold ordD; rw [List.map_append]; rfl
                rw [e]
                exact evd_op (evd_var rfl) (evd_tup (eva_cons (evd_var rfl) eva_nil)) (radd_tup (by
                  rw [List.length_map, List.length_singleton]; omega))
              | false =>
                rw [hp] at ht
                exact .no gdw_name ht ih
          refine runm_extE (tr := tNil) (j := 4) (x := y) (ds := acc.map ordD) rfl List.mem_cons_self rfl (evm_of (d := lordD (extR n r)) (evd_lc (itd_rng1 (n := (n : Int)) (eva_cons (evd_var (i := 0) rfl) eva_nil)) (by
            rw [show (0 : Int) = ((0 : Nat) : Int) from rfl, rngD_eq, Int.toNat_natCast, ← List.range_eq_range']
            exact cmp (List.range n)) (by rw [rngD_len]; omega))) (fun d hd => ⟨_, hd, by rw [List.length_map, List.length_map]; omega⟩) fun es he => ?_
          cases he
          refine ⟨rs, acc ++ extR n r, _, _, rfl, ?_, rfl, by rw [List.append_assoc]; exact hacc, fun q hq => hrl q (List.mem_cons_of_mem _ hq)⟩
          unfold setM
          rw [List.map_cons, List.map_cons, List.map_nil, if_pos rfl, if_neg (Ne.symm hyx), List.map_append]
        · rintro ms Γ ⟨rs, acc, s5, s6, h1, rfl, rfl, hacc, hrl⟩
          cases rs with
          | nil => exact ⟨_, _, rfl, by rw [← hacc, List.flatMap_nil, List.append_nil], hyx⟩
          | cons r rs => cases h1
      · obtain ⟨s5, s6, h1, rfl, hyx⟩ := h
        cases h1
        refine runm_freeze (Γ' := [.dat (.int n), .ref x, .dat (lordD (rowsAt n i)), .dat (.int i), .dat (lordD (rowsAt n (i + 1))), s5, s6]) (.same (.same (.same (.same (.own List.mem_cons_self (Thw.refl _)))))) ?_
        refine runm_ext (tr := tNil) (j := 1) (x := x) (ds := (foundAt n i).map ordD) rfl List.mem_cons_self rfl (evm_of (d := lordD (rowsAt n (i + 1))) (evd_var rfl)) (fun d hd => ⟨_, hd, by rw [List.length_map, List.length_map]; omega⟩) fun es he => ?_
        cases he
        refine runm_end (run_asg (evd_var rfl) gd_name) ?_
        refine ⟨i + 1, _, _, _, _, ?_, by omega, ?_, rfl⟩
        · rw [show n - (i + 1) = m by omega]
        · unfold setM
          rw [List.map_cons, List.map_nil, if_pos rfl]
          show [(x, _)] = [(x, (foundAt n i ++ rowsAt n (i + 1)).map ordD)]
          rw [List.map_append]
    · rintro ms Γ ⟨i, s3, s4, s5, s6, h1, hi, rfl, rfl⟩
      have : i = n := by
        cases hm : n - i with
        | zero => omega
        | succ m => rw [hm, List.range'_succ] at h1; cases h1
      subst this
      exact ⟨_, _, _, _, rfl, rfl⟩
  · obtain ⟨s3, s4, s5, s6, h1, rfl⟩ := h
    cases h1
    exact runm_retT (Γ' := [.dat (.int n), .dat (lordD (foundAt n n)), .dat (lordD (rowsAt n n)), s3, s4, s5, s6]) (.same (.own List.mem_cons_self (Thw.refl _))) (evd_var rfl) rfl
end CB

/-! M1 -/
set_option Elab.async false
set_option linter.all false
set_option maxRecDepth 100000
set_option maxHeartbeats 4000000
namespace CB
theorem lcp_iff : ∀ {a b : Tx} {k : Nat}, k ≤ lcp a b ↔ k ≤ a.length ∧ k ≤ b.length ∧ a.take k = b.take k
  | _, _, 0 => by simp
  | [], b, k + 1 => by simp [lcp]
  | _ :: _, [], k + 1 => by simp [lcp]
  | a :: as, b :: bs, k + 1 => by
    unfold lcp
    by_cases h : a = b
    · rw [if_pos h, List.take_succ_cons, List.take_succ_cons, List.length_cons, List.length_cons]
      have ih := lcp_iff (a := as) (b := bs) (k := k)
      constructor
      · intro z
        obtain ⟨h1, h2, h3⟩ := ih.mp (by omega)
        exact ⟨by omega, by omega, by rw [h, h3]⟩
      · rintro ⟨h1, h2, h3⟩
        have := ih.mpr ⟨by omega, by omega, (List.cons.inj h3).2⟩
        omega
    · rw [if_neg h]
      constructor
      · intro z; omega
      · rintro ⟨_, _, h3⟩
        rw [List.take_succ_cons, List.take_succ_cons] at h3
        exact absurd (List.cons.inj h3).1 h
theorem lcs_iff {a b : Tx} {k : Nat} : k ≤ lcs a b ↔ k ≤ a.length ∧ k ≤ b.length ∧ a.drop (a.length - k) = b.drop (b.length - k) := by
  unfold lcs
  rw [lcp_iff, List.length_reverse, List.length_reverse, List.take_reverse, List.take_reverse]
  constructor
  · rintro ⟨h1, h2, h3⟩
    exact ⟨h1, h2, by rw [← List.reverse_reverse (a.drop _), h3, List.reverse_reverse]⟩
  · rintro ⟨h1, h2, h3⟩
    exact ⟨h1, h2, by rw [h3]⟩
theorem lmP_iff {b m y : Tx} {c : Nat} (hc : c ≤ b.length) : lmP b m y c = true ↔ b.length - c ≤ lcs b m ∧ c ≤ lcp b y := by
  unfold lmP
  rw [Bool.and_eq_true, Bool.and_eq_true, decide_eq_true_eq, decide_eq_true_eq, decide_eq_true_eq, lcs_iff, lcp_iff]
  have e : b.length - (b.length - c) = c := by omega
  rw [e]
  constructor
  · rintro ⟨h1, h2, h3⟩
    refine ⟨⟨by omega, h1, h2.symm⟩, hc, ?_, h3.symm⟩
    have := congrArg List.length h3
    rw [List.length_take, List.length_take] at this
    omega
  · rintro ⟨⟨h1, h2, h3⟩, h4, h5, h6⟩
    exact ⟨h2, h3.symm, h6.symm⟩
theorem lmerge_eq (b m y : Tx) : lmerge b m y = merge b m y := by
  unfold lmerge merge
  have h1 := lcs_le1 b m
  by_cases h : lcp b y < b.length - lcs b m
  · rw [if_pos h]
    have : (List.range (b.length + 1)).find? (lmP b m y) = none := by
      rw [List.find?_eq_none]
      intro c hc hp
      have hc' : c ≤ b.length := by have := List.mem_range.mp hc; omega
      have := (lmP_iff hc').mp hp
      omega
    rw [this]; rfl
  · rw [if_neg h]
    have : (List.range (b.length + 1)).find? (lmP b m y) = some (b.length - lcs b m) := by
      rw [List.find?_range_eq_some]
      refine ⟨(lmP_iff (by omega)).mpr ⟨by omega, by omega⟩, List.mem_range.mpr (by omega), fun j hj => ?_⟩
      cases hp : lmP b m y j with
      | false => rfl
      | true =>
        have := (lmP_iff (by omega)).mp hp
        omega
    rw [this]
    have e : b.length - (b.length - lcs b m) = lcs b m := by omega
    show some (m.take (m.length - (b.length - (b.length - lcs b m))) ++ y.drop (b.length - lcs b m)) = _
    rw [e]
/-- one more hand -/
theorem endGo_snoc {b : Tx} {vs : List Tx} {p : Nat} : ∀ {o : List Nat} {t : Tx}, endGo b vs t (o ++ [p]) = (endGo b vs t o).bind fun x => merge b (vs.getD p []) x
  | [], t => by
    show (match merge b (vs.getD p []) t with | none => none | some t' => some t') = merge b (vs.getD p []) t
    cases merge b (vs.getD p []) t <;> rfl
  | q :: o, t => by
    rw [List.cons_append]
    unfold endGo
    cases merge b (vs.getD q []) t with
    | none => rfl
    | some t' => exact endGo_snoc
theorem ends_nil {b : Tx} {vs : List Tx} : ends b vs [] = some b := rfl
theorem ends_snoc {b : Tx} {vs : List Tx} {p : Nat} {o : List Nat} : ends b vs (o ++ [p]) = (ends b vs o).bind fun x => merge b (vs.getD p []) x := endGo_snoc
theorem endGo_len {b : Tx} {vs : List Tx} {L : Nat} (hv : ∀ t ∈ vs, t.length ≤ L) : ∀ {o : List Nat} {t x : Tx}, endGo b vs t o = some x → x.length ≤ t.length + L * o.length
  | [], t, x, h => by cases h; simp
  | p :: o, t, x, h => by
    unfold endGo at h
    cases hm : merge b (vs.getD p []) t with
    | none => rw [hm] at h; cases h
    | some t' =>
      rw [hm] at h
      have h1 := merge_len hm
      have h2 := endGo_len hv h
      have h3 : (vs.getD p []).length ≤ L := by
        rw [List.getD_eq_getElem?_getD]
        cases hp : vs[p]? with
        | none => exact Nat.zero_le _
        | some v => exact hv v (List.mem_of_getElem? hp)
      rw [List.length_cons, Nat.mul_add]
      omega
end CB

/-! W15 -/
set_option Elab.async false
set_option linter.all false
set_option maxRecDepth 100000
set_option maxHeartbeats 4000000
namespace CB
open PySem PySem.Spec PyProof.Rows L2
/-- the law's table -/
def tabOf (bt : Tx) (vt : List Tx) (os : List (List Nat)) : List (Tx × D) := os.map fun o => (nts o, optT (ends bt vt o))
def tabD (bt : Tx) (vt : List Tx) : List (Tx × D) := tabOf bt vt (lawOrders vt.length)
def chkPre : List (List Nat) → List (List Nat) → Bool
  | _, [] => true
  | pre, o :: os => !decide (o ∈ pre) && (decide (o = []) || decide (o.dropLast ∈ pre)) && chkPre (pre ++ [o]) os
def ordB (n : Nat) (o : List Nat) : Bool := decide o.Nodup && o.all fun p => decide (p < n)
theorem lawOrders_chk : ∀ n, n ≤ 4 → chkPre [] (lawOrders n) = true ∧ (lawOrders n).length ≤ 100 ∧ (lawOrders n).all (ordB n) = true ∧ (lawOrders n).all (fun o => decide (o.length ≤ n)) = true := by decide +kernel
theorem chkPre_at {o : List Nat} : ∀ {os pre : List (List Nat)} {i : Nat}, chkPre pre os = true → os[i]? = some o → o ∉ pre ++ os.take i ∧ (o = [] ∨ o.dropLast ∈ pre ++ os.take i)
  | [], _, _, _, h => by simp at h
  | p :: os, pre, 0, hc, h => by
    have e : p = o := by simpa using h
    subst e
    have hc' : (!decide (p ∈ pre) && (decide (p = []) || decide (p.dropLast ∈ pre)) && chkPre (pre ++ [p]) os) = true := hc
    simp only [Bool.and_eq_true, Bool.or_eq_true, Bool.not_eq_true', decide_eq_true_eq, decide_eq_false_iff_not] at hc'
    rw [List.take_zero, List.append_nil]
    exact hc'.1
  | p :: os, pre, i + 1, hc, h => by
    have hc' : (!decide (p ∈ pre) && (decide (p = []) || decide (p.dropLast ∈ pre)) && chkPre (pre ++ [p]) os) = true := hc
    rw [Bool.and_eq_true] at hc'
    have := chkPre_at (os := os) (pre := pre ++ [p]) (i := i) hc'.2 (by simpa using h)
    rw [List.append_assoc] at this
    rw [List.take_succ_cons]
    exact this
theorem nts_inj : ∀ {a b : List Nat}, nts a = nts b → a = b
  | [], [], _ => rfl
  | [], _ :: _, h => by cases h
  | _ :: _, [], h => by cases h
  | x :: a, y :: b, h => by
    unfold nts at h
    rw [List.map_cons, List.map_cons] at h
    injection h with h1 h2
    have : x = y := by omega
    rw [this, nts_inj h2]
theorem lkV_none {bt : Tx} {vt : List Tx} {o : List Nat} : ∀ {os : List (List Nat)}, o ∉ os → lkV (tabOf bt vt os) (nts o) = none
  | [], _ => rfl
  | p :: os, h => by
    unfold lkV tabOf
    rw [List.map_cons, List.find?_cons, decide_eq_false (fun z => h (by rw [nts_inj z]; exact List.mem_cons_self))]
    exact lkV_none fun z => h (List.mem_cons_of_mem _ z)
theorem lkV_some {bt : Tx} {vt : List Tx} {o : List Nat} : ∀ {os : List (List Nat)}, o ∈ os → lkV (tabOf bt vt os) (nts o) = some (optT (ends bt vt o))
  | [], h => by cases h
  | p :: os, h => by
    unfold lkV tabOf
    rw [List.map_cons, List.find?_cons]
    by_cases e : p = o
    · subst e
      rw [decide_eq_true rfl]; rfl
    · rw [decide_eq_false (fun z => e (nts_inj z))]
      exact lkV_some (by
        rcases List.mem_cons.mp h with z | z
        · exact absurd z.symm e
        · exact z)
theorem kvE_app (a b : List (Tx × D)) : kvE (a ++ b) = kvE a ++ kvE b := by unfold kvE; rw [List.map_append]
theorem dqkv_app {K : Fg} {G : Hp} : ∀ {kvs : List (List Key × V)} {es : List (D × D)} {kvs' : List (List Key × V)} {es' : List (D × D)}, DqKv K G kvs es → DqKv K G kvs' es' → DqKv K G (kvs ++ kvs') (es ++ es')
  | _, _, _, _, .nil, h => h
  | _, _, _, _, .cons h0 h1 h2, h => .cons h0 h1 (dqkv_app h2 h)
/-- own dict: state -/
structure Dst (K : Fg) (M : List Addr) (P : Addr) (kv : List (Tx × D)) (Γ : List Sl) (σ : L2.St) (H : Hp) : Prop where
  trk : Trk (P :: M) H
  env : EnvD K (hide (P :: M) H) σ Γ
  dic : ∃ kvs, H P = some (.dT kvs) ∧ DqKv K (hide (P :: M) H) kvs (kvE kv)
section
variable {K : Fg} {M : List Addr} {P : Addr} {kv : List (Tx × D)} {Γ : List Sl} {σ : L2.St} {H H' : Hp} {td ty tv te : TE} {d : D}
theorem Dst.grow (S : Dst K M P kv Γ σ H) (e : Same H H') : Dst K M P kv Γ σ H' :=
  ⟨S.trk.mono e, S.env.mono (hsame e), let ⟨kvs, h1, h2⟩ := S.dic; ⟨kvs, e _ _ h1, dpkm (hsame e) _ h2⟩⟩
/-- d[k] = v, a new key -/
theorem dst_put {j : Nat} {t : Tx} {D : Ends} (S : Dst K M P kv Γ σ H) (hj : Γ[j]? = some (.ref P)) (hv : EvD K tv Γ d) (hk : EvD K ty Γ (T t)) (hn : lkV kv t = none) (hl : kv.length ≤ 100000)
    (h : ∀ H', Same (hide [P] H) (hide [P] H') → Dst K M P (kv ++ [(t, d)]) Γ σ H' → D.nx σ H') : sDPut (tVar j) ty tv D σ H :=
  hv _ σ H S.trk S.env _ fun v H1 e1 d1 => by
    have S1 := S.grow e1
    refine ⟨.ref P, envd_ref S1.env hj, hk _ σ H1 S1.trk S1.env _ fun y H2 e2 d2 => ?_⟩
    have S2 := S1.grow e2
    obtain ⟨b, rfl, hb⟩ := key_at d2
    obtain ⟨kvs, hP, hkv⟩ := S2.dic
    have hnone : valV kvs (t.map Sum.inl) = none := by
      rcases kv_val (t := t) hkv with ⟨_, z⟩ | ⟨_, _, z, _⟩
      · exact z
      · rw [hn] at z; cases z
    have hlen : kvs.length = kv.length := by
      have := congrArg List.length (kv_keys hkv)
      rwa [List.length_map, List.length_map] at this
    refine ⟨P, _, rfl, DPut.t hP (hide_le _ _ hb) (Nat.lt_of_le_of_lt (by rw [hlen]; exact hl) (by decide)), h _ ?_ ?_⟩
    · rw [hide_upd (List.mem_singleton_self P)]
      exact hsame (e1.trans e2)
    · have hid : hide (P :: M) (L2.upd H2 P (.dT (putK kvs (t.map Sum.inl) v))) = hide (P :: M) H2 := hide_upd List.mem_cons_self
      refine ⟨fun m hm => ?_, ?_, ?_⟩
      · by_cases e : m = P
        · subst e; exact ⟨_, upd_same, fun _ z => by cases z⟩
        · rw [upd_ne e]; exact S2.trk m hm
      · rw [hid]; exact S2.env
      · rw [hid, putK_new v hnone, kvE_app]
        exact ⟨_, upd_same, dqkv_app hkv (.cons rfl (d1.mono' (hsame e2)) .nil)⟩
/-- x = d[k] -/
theorem dst_get {i j : Nat} {t : Tx} {D : Ends} {u : TS} (S : Dst K M P kv Γ σ H) (hj : Γ[j]? = some (.ref P)) (hk : EvD K ty Γ (T t)) (hv : lkV kv t = some d) 
    (h : ∀ σ' H', Same (hide [P] H) (hide [P] H') → Dst K M P kv (Γ.set i (.dat d)) σ' H' → u D σ' H') : tSeq (tAsg (tDGet (tVar j) ty) (gName i)) u D σ H := by
  refine ⟨.ref P, envd_ref S.env hj, hk _ σ H S.trk S.env _ fun y H2 e2 d2 => ?_⟩
  have S2 := S.grow e2
  obtain ⟨b, rfl, hb⟩ := key_at d2
  obtain ⟨kvs, hP, hkv⟩ := S2.dic
  rcases kv_val (t := t) hkv with ⟨z, _⟩ | ⟨v, d', z, hvv, dv⟩
  · rw [hv] at z; cases z
  · rw [hv] at z
    cases z
    exact ⟨P, v, rfl, .inr ⟨kvs, t.map Sum.inl, b, .inl hP, rfl, hide_le _ _ hb, hvv.symm⟩, h _ H2 (hsame e2) ⟨S2.trk, envd_set (o := some v) (s := .dat d) dv i S2.env, S2.dic⟩⟩
end
variable {P : Program} {w : World} {K : PySem.W.Frag} {mg : Str → Option Value} {base : Heap}
structure Sv (bt : Tx) (vt : List Tx) : Prop where
  bl : bt.length ≤ 100
  v : ∀ t ∈ vt, t.length ≤ 100
  vl : vt.length ≤ 4
def lvD (vt : List Tx) : D := .list (vt.map T)
def F_law_ends (ds : List D) (r : Res) : Prop := ∃ bt vt, ds = [T bt, lvD vt] ∧ Sv bt vt ∧ r = .ok (.dict (kvE (tabD bt vt)))
theorem sc_law_ends : FnScope ["_law_base", "_law_versions_here", "_law_ends_here", "_law_order", "_law_text_here"] ["_law_base", "_law_versions_here"] (defScope s_law_ends) := ⟨rfl, rfl, rfl, by decide +kernel, rfl, by decide +kernel, by decide +kernel⟩
theorem ok_law_ends {fd : FuncData} (Fu : FnP K "_law_ends" s_law_ends [] fd) (B : Bl mg)  (h_law_merge : HasF P w K mg base 1 "_law_merge" ["_law_base", "_law_mine", "_law_yours"] [] (spD K F_law_merge)) (h_law_orders : HasF P w K mg base 1 "_law_orders" ["_law_many"] [] (spD K F_law_orders)) : FnOk P w K mg base (L2.CX P w) 2 (He.ga K "_law_ends") fd ["_law_base", "_law_versions_here"] (spD K F_law_ends) := by
  refine fnD Fu sc_law_ends (fun ds r ⟨bt, vt, h, _, e⟩ => ⟨by rw [h]; rfl, _, e⟩) fun cdv A outer s H E hr => ⟨_, (pss_cons (ps_set (i := 2) sc_law_ends.nd rfl (Or.inl rfl) pe_dnewT)
      (pss_cons (ps_for PassesOwn.never rfl (pi_seq (pe_f h_law_orders (hr.mono (by decide)) (pa_cons (pe_callB (id := "len") (r := rLenA K) call_lenA rfl B.len boot_len (pa_cons (pv 1) pa_nil)) pa_nil))) (pg_name (i := 3) sc_law_ends.nd rfl (Or.inl rfl))
      (pss_one (ps_if (pt_cmpR (r := rEqD K) (op_eqD hr.units) (pv 3) (pe_tup pa_nil) (nomark _)) (pss_one (ps_dput (hu_of hr) (pv 2) (pv 3) (pv 0) rfl)) (pss_cons (ps_set (i := 4) sc_law_ends.nd rfl (Or.inl rfl) (pe_dget (hu_of hr) (pv 2) (pe_slice (r := rSlU K) sl_U (pv 3) po_none (po_some (pe_un un_neg pe_int))) (fun _ _ => rfl)))
      (pss_one (ps_dput (hu_of hr) (pv 2) (pv 3) (pe_ifExp (pt_cmpR op_isNN (pv 4) pe_non (nomark _)) pe_non (pe_f h_law_merge (hr.mono (by decide)) (pa_cons (pv 0) (pa_cons (pe_ix (r := rIx K) ix_seq (pv 1) (pe_ix (r := rIx K) ix_seq (pv 3) (pe_un un_neg pe_int) (fun _ _ => rfl)) (fun _ _ => rfl)) (pa_cons (pv 4) pa_nil))))) rfl))))))
      (pss_one (ps_ret (pv 2))))), fun ds d ⟨bt, vt, h, sv, e⟩ => ?_⟩
  subst h
  cases e
  intro M σ H D Tr S Q
  intro p hp
  have hpM : p ∉ M := Tr.ne hp
  -- the state behind ends = {}
  have S0 : Dst K M p [] [.dat (T bt), .dat (lvD vt), .ref p, .un, .un] (σ.set 2 (some (.ref p))) (L2.upd H p (.dT [])) := by
    have hid : hide (p :: M) (L2.upd H p (.dT [])) = hide (p :: M) H := hide_upd List.mem_cons_self
    refine ⟨fun m hm => ?_, ?_, ⟨[], upd_same, .nil⟩⟩
    · rcases List.mem_cons.mp hm with z | z
      · subst z; exact ⟨_, upd_same, fun _ z => by cases z⟩
      · obtain ⟨o, q1, q2⟩ := Tr m z
        exact ⟨o, by rw [upd_ne (fun e : m = p => hpM (e ▸ z))]; exact q1, q2⟩
    · rw [hid]
      exact envd_set (o := some (.ref p)) (s := .ref p) rfl 2 (S.mono fun a o q => by
        obtain ⟨q1, q2⟩ := hide_of q
        rw [hide_in (fun z => by
          rcases List.mem_cons.mp z with z | z
          · exact ne_of_none q1 hp z
          · exact q2 z)]
        exact q1)
  obtain ⟨hck, hol, hob, hon⟩ := lawOrders_chk vt.length sv.vl
  have hlen : EvD K (tCB (rLenA K) (tCons (tVar 1) tNil)) [.dat (T bt), .dat (lvD vt), .ref p, .un, .un] (.int (vt.length : Nat)) := evd_is (evd_cb (eva_cons (evd_var (i := 1) rfl) eva_nil) rlen_lst) (by rw [List.length_map])
  have hcall : EvD K (tCall (spD K F_law_orders) [] E0 (tCons (tCB (rLenA K) (tCons (tVar 1) tNil)) tNil)) [.dat (T bt), .dat (lvD vt), .ref p, .un, .un] (.list ((lawOrders vt.length).map ordD)) := evd_call0 (eva_cons hlen eva_nil) ⟨vt.length, rfl, sv.vl, rfl⟩
  have tabR : tabD bt vt = tabOf bt vt ((lawOrders vt.length).take ((lawOrders vt.length).map ordD).length) := by
    rw [List.length_map, List.take_length]; rfl
  rw [tabR] at Q
  generalize hos : lawOrders vt.length = os at hck hol hob hon hcall Q
  refine itd_seqL hcall (p :: M) _ _ S0.trk S0.env _ fun J H1 e1 ⟨G, Y, w, hG, hY⟩ => ?_
  refine ⟨fun i m σ' H' => m = (os.map ordD).length - i ∧ i ≤ (os.map ordD).length ∧ Same (hide [p] H1) (hide [p] H') ∧ ∃ s3 s4, Dst K M p (tabOf bt vt (os.take i)) [.dat (T bt), .dat (lvD vt), .ref p, s3, s4] σ' H', ⟨_, rfl, Nat.zero_le _, Same.refl _, _, _, S0.grow e1⟩, ?_⟩
  rintro i m σ' H' ⟨rfl, hi, es, s3, s4, S'⟩
  have es' : Same (hide (p :: M) H1) (hide (p :: M) H') := hide_more (fun a ha => by rw [List.mem_singleton.mp ha]; exact List.mem_cons_self) es
  have q := hG (p :: M) H' es'
  by_cases hlt : i < (os.map ordD).length
  · refine .inr ⟨w.goes i H' hlt q, fun σ2 H2 => Same (hide [p] H1) (hide [p] H2) ∧ ∃ s3 s4, Dst K M p (tabOf bt vt (os.take (i + 1))) [.dat (T bt), .dat (lvD vt), .ref p, s3, s4] σ2 H2, fun σ2 H2 ⟨s2, s3, s4, S2⟩ => ⟨(os.map ordD).length - (i + 1), by omega, rfl, hlt, s2, s3, s4, S2⟩, fun x H2' y => ?_⟩
    obtain ⟨s2, d, hd, hx⟩ := hY i H' x H2' (p :: M) hlt S'.trk es' (w.yields i H' x H2' hlt q y)
    rw [List.getElem?_map] at hd
    obtain ⟨o, ho, rfl⟩ : ∃ o, os[i]? = some o ∧ ordD o = d := by
      cases h : os[i]? with
      | none => rw [h] at hd; cases hd
      | some o => rw [h] at hd; exact ⟨o, rfl, Option.some.inj hd⟩
    obtain ⟨hn1, hn2⟩ := chkPre_at (pre := []) hck ho
    rw [List.nil_append] at hn1 hn2
    have homem := List.mem_of_getElem? ho
    have hok : o.Nodup ∧ ∀ q ∈ o, q < vt.length := by
      have := List.all_eq_true.mp hob o homem
      unfold ordB at this
      rw [Bool.and_eq_true, decide_eq_true_eq, List.all_eq_true] at this
      exact ⟨this.1, fun q hq => of_decide_eq_true (this.2 q hq)⟩
    have hole : o.length ≤ 4 := by
      have := of_decide_eq_true (List.all_eq_true.mp hon o homem)
      have := sv.vl
      omega
    have hsnoc : tabOf bt vt (os.take (i + 1)) = tabOf bt vt (os.take i) ++ [(nts o, optT (ends bt vt o))] := by
      rw [List.take_succ, ho]
      unfold tabOf
      rw [List.map_append]
      rfl
    have htl : (tabOf bt vt (os.take i)).length ≤ 100000 := by
      unfold tabOf
      rw [List.length_map, List.length_take]; omega
    have S2 : Dst K M p (tabOf bt vt (os.take i)) [.dat (T bt), .dat (lvD vt), .ref p, .dat (ordD o), s4] (σ'.set 3 (some x)) H2' := ⟨(S'.grow s2).trk, envd_set (o := some x) (s := .dat (ordD o)) hx 3 (S'.grow s2).env, (S'.grow s2).dic⟩
    rw [hsnoc]
    have ht : EvT K (tTest (tOp (rEqD K) (tVar 3) (tTup tNil))) [.dat (T bt), .dat (lvD vt), .ref p, .dat (ordD o), s4] (decide (nts o = [])) :=
      evt_test (evd_op (evd_is (evd_var (i := 3) rfl) (ordD_T o)) (evd_tup (ds := []) eva_nil) (req_T (t := [])))
    refine ht _ _ H2' S2.trk S2.env _ fun H3 e3 => ?_
    have S3 := S2.grow e3
    have e13 : Same (hide [p] H1) (hide [p] H3) := es.trans (hsame (s2.trans e3))
    rcases List.eq_nil_or_concat o with rfl | ⟨q, l, hql⟩
    · refine dst_put S3 rfl (evd_var (i := 0) rfl) (evd_is (evd_var (i := 3) rfl) (ordD_T [])) (lkV_none hn1) htl fun H4 e4 S4 => ⟨e13.trans e4, _, _, S4⟩
    · rw [List.concat_eq_append] at hql
      subst hql
      have hne : decide (nts (q ++ [l]) = []) = false := decide_eq_false fun z => by
        have := congrArg List.length z
        unfold nts at this
        simp at this
      rw [hne]
      rw [List.dropLast_concat] at hn2
      have hq : q ∈ os.take i := by
        rcases hn2 with z | z
        · exact absurd z (by simp)
        · exact z
      have hord : ordD (q ++ [l]) = .tuple ((q.map fun (p : Nat) => PyData.int (p : Int)) ++ [.int (l : Nat)]) := by unfold ordD; rw [List.map_append]; rfl
      rw [List.length_append, List.length_singleton] at hole
      refine dst_get (t := nts q) (d := optT (ends bt vt q)) S3 rfl ?_ (lkV_some hq) fun σ4 H4 e4 S4 => ?_
      · rw [← ordD_T]
        refine evd_is (evd_sl (evd_is (evd_var (i := 3) rfl) hord) evo_no (evo_some (evd_un evd_int run_neg)) rsl_tup) ?_
        refine (congrArg PyData.tuple (cut_neg (k := 1) (by decide) (by rw [List.length_append, List.length_singleton]; omega))).trans ?_
        unfold ordD
        rw [List.length_append, List.length_singleton, List.take_left' (by omega)]
      · refine dst_put (d := optT (ends bt vt (q ++ [l]))) S4 rfl ?_ (evd_is (evd_var (i := 3) rfl) (ordD_T _)) (lkV_none hn1) htl fun H5 e5 S5 => ⟨(e13.trans e4).trans e5, _, _, S5⟩
        have hl : l < vt.length := hok.2 l (by simp)
        have hlast : EvD K (tOp (rIx K) (tVar 3) (tUn (rU fun i => .int (-i)) (tC (.int 1)))) [.dat (T bt), .dat (lvD vt), .ref p, .dat (ordD (q ++ [l])), .dat (optT (ends bt vt q))] (.int (l : Nat)) := evd_op (evd_is (evd_var (i := 3) rfl) hord) (evd_un evd_int run_neg) (rix_tup atI_last)
        have hmine : EvD K (tOp (rIx K) (tVar 1) (tOp (rIx K) (tVar 3) (tUn (rU fun i => .int (-i)) (tC (.int 1))))) [.dat (T bt), .dat (lvD vt), .ref p, .dat (ordD (q ++ [l])), .dat (optT (ends bt vt q))] (T (vt.getD l [])) := evd_op (evd_var rfl) hlast (rix_lst (atI_nat (n := l) rfl (by
          rw [List.getElem?_map, List.getD_eq_getElem?_getD, List.getElem?_eq_getElem hl]; rfl)))
        have hisn := evt_test (K := K) (Γ := [.dat (T bt), .dat (lvD vt), .ref p, .dat (ordD (q ++ [l])), .dat (optT (ends bt vt q))]) (evd_op (evd_var (i := 4) rfl) evd_non ris_N)
        rw [ends_snoc]
        have hml : (vt.getD l []).length ≤ 100 := by
          rw [List.getD_eq_getElem?_getD, List.getElem?_eq_getElem hl]
          exact sv.v _ (List.getElem_mem hl)
        cases hq2 : ends bt vt q with
        | none =>
          rw [hq2] at hisn
          exact evd_if hisn (fun _ => evd_non) (fun z => by cases z)
        | some t =>
          rw [hq2] at hisn hmine
          have htl := endGo_len sv.v hq2
          have hbl := sv.bl
          refine evd_if hisn (fun z => by cases z) (fun _ => ?_)
          show EvD K _ _ (optT (merge bt (vt.getD l []) t))
          rw [← lmerge_eq]
          exact evd_call0 (eva_cons (evd_var rfl) (eva_cons hmine (eva_cons (evd_var rfl) eva_nil))) ⟨bt, vt.getD l [], t, rfl, by omega, by omega, by omega, rfl⟩
  · have e : i = (os.map ordD).length := by omega
    subst e
    refine .inl ⟨w.stops H' q, .ref p, envd_ref S'.env rfl, ?_⟩
    obtain ⟨kvs, hP, hkv⟩ := S'.dic
    refine Q (.ref p) H' (fun a o z => ?_) (.dic ((hide_in hpM).trans hP) (dpkm (hide_sub fun a ha => List.mem_cons_of_mem _ ha) _ hkv))
    have na : a ≠ p := ne_of_none z hp
    have z1 : H1 a = some o := e1 _ _ (by rw [upd_ne na]; exact z)
    have := es a o (by rw [hide_in (fun y => na (List.mem_singleton.mp y))]; exact z1)
    exact (hide_of this).1
end CB

/-! W16 -/
set_option Elab.async false
set_option linter.all false
set_option maxRecDepth 100000
set_option maxHeartbeats 4000000
namespace CB
open PySem PySem.Spec PyProof.Rows L2
def clashB (bt : Tx) (vt : List Tx) (o : List Nat) : Bool := !decide (o = []) && ((ends bt vt o).isNone && (ends bt vt o.dropLast).isSome)
def apartB (bt : Tx) (vt : List Tx) (o p : List Nat) : Bool := decide (srt (nts o) = srt (nts p)) && (!(ends bt vt o).isNone && !(ends bt vt p).isNone) && !decide (ends bt vt o = ends bt vt p)
def wholeL (bt : Tx) (vt : List Tx) : List (Option Tx) := ((lawOrders vt.length).filter fun o => decide (o.length = vt.length)).map (ends bt vt)
def alikeB (bt : Tx) (vt : List Tx) : Bool := decide ((wholeL bt vt).filter (fun t => t.isNone || !decide (t = (wholeL bt vt).getD 0 none)) = [])
variable {P : Program} {w : World} {K : PySem.W.Frag} {mg : Str → Option Value} {base : Heap}
def F_law_is_clash (ds : List D) (r : Res) : Prop := ∃ bt vt o, ds = [.dict (kvE (tabD bt vt)), ordD o] ∧ Sv bt vt ∧ o ∈ lawOrders vt.length ∧ r = .ok (.bool (clashB bt vt o))
def F_law_is_apart (ds : List D) (r : Res) : Prop := ∃ bt vt o p, ds = [.dict (kvE (tabD bt vt)), ordD o, ordD p] ∧ Sv bt vt ∧ o ∈ lawOrders vt.length ∧ p ∈ lawOrders vt.length ∧ r = .ok (.bool (apartB bt vt o p))
def F_law_all_alike (ds : List D) (r : Res) : Prop := ∃ bt vt, ds = [.dict (kvE (tabD bt vt)), .int vt.length] ∧ Sv bt vt ∧ r = .ok (.bool (alikeB bt vt))
theorem sc_law_is_clash : FnScope ["_law_ends_here", "_law_order"] ["_law_ends_here", "_law_order"] (defScope s_law_is_clash) := ⟨rfl, rfl, rfl, by decide +kernel, rfl, by decide +kernel, by decide +kernel⟩
theorem sc_law_is_apart : FnScope ["_law_ends_here", "_law_order", "_law_other"] ["_law_ends_here", "_law_order", "_law_other"] (defScope s_law_is_apart) := ⟨rfl, rfl, rfl, by decide +kernel, rfl, by decide +kernel, by decide +kernel⟩
theorem sc_law_all_alike : FnScope ["_law_ends_here", "_law_many", "_law_whole", "_law_order", "_law_text_here"] ["_law_ends_here", "_law_many"] (defScope s_law_all_alike) := ⟨rfl, rfl, rfl, by decide +kernel, rfl, by decide +kernel, by decide +kernel⟩
theorem lawOrders_pre {n : Nat} (hn : n ≤ 4) {o : List Nat} (h : o ∈ lawOrders n) (h0 : o ≠ []) : o.dropLast ∈ lawOrders n := by
  obtain ⟨i, hi⟩ := List.getElem?_of_mem h
  rcases (chkPre_at (pre := []) (lawOrders_chk n hn).1 hi).2 with z | z
  · exact absurd z h0
  · rw [List.nil_append] at z
    exact List.mem_of_mem_take z
theorem lk_tab {bt : Tx} {vt : List Tx} {o : List Nat} (h : o ∈ lawOrders vt.length) : lkV (tabD bt vt) (nts o) = some (optT (ends bt vt o)) := lkV_some h
theorem evd_dropLast {Γ : List Sl} {te : TE} {o : List Nat} (h0 : o ≠ []) (h : EvD K te Γ (ordD o)) : EvD K (tSl (rSlU K) te tNoPart (tPart (tUn (rU fun i => .int (-i)) (tC (.int 1))))) Γ (ordD o.dropLast) := by
  have hp : 0 < o.length := List.length_pos_iff.mpr h0
  refine evd_is (evd_sl h evo_no (evo_some (evd_un evd_int run_neg)) rsl_tup) ?_
  refine (congrArg PyData.tuple (cut_neg (k := 1) (by decide) (by rw [List.length_map]; omega))).trans ?_
  unfold ordD
  rw [List.map_dropLast, List.dropLast_eq_take]
theorem nts_nil {o : List Nat} : nts o = [] ↔ o = [] := by
  unfold nts
  exact List.map_eq_nil_iff
theorem ok_law_is_clash {fd : FuncData} (Fu : FnP K "_law_is_clash" s_law_is_clash [] fd) (B : Bl mg)   : FnOk P w K mg base (L2.CX P w) 1 (He.ga K "_law_is_clash") fd ["_law_ends_here", "_law_order"] (spD K F_law_is_clash) := by
  refine fnD Fu sc_law_is_clash (fun ds r ⟨bt, vt, o, h, _, _, e⟩ => ⟨by rw [h]; rfl, _, e⟩) fun cdv A outer s H E hr => ⟨_, (pss_one (ps_ret (pe_and (pe_cmpR (r := rNeD K) (op_neD hr.units) (pv 1) (pe_tup pa_nil) (nomark _)) (pe_and (pe_cmpR op_isNN (pe_dget (hu_of hr) (pv 0) (pv 1) (fun _ _ => rfl)) pe_non (nomark _)) (pe_one (pe_cmpR op_notNN (pe_dget (hu_of hr) (pv 0) (pe_slice (r := rSlU K) sl_U (pv 1) po_none (po_some (pe_un un_neg pe_int))) (fun _ _ => rfl)) pe_non (nomark _))))))), fun ds d ⟨bt, vt, o, h, sv, ho, e⟩ => ?_⟩
  subst h
  cases e
  unfold clashB
  have e1 : (!decide (o = [])) = !decide (nts o = []) := by congr 2; exact propext nts_nil.symm
  rw [e1]
  refine run_ret (evd_andV (evd_op (evd_is (evd_var rfl) (ordD_T o)) (evd_tup (ds := []) eva_nil) (rne_T (t := []))) fun h0 => ?_)
  have h0' : o ≠ [] := fun z => by subst z; cases h0
  have e2 : (ends bt vt o).isNone = isNon (optT (ends bt vt o)) := (isNon_optT _).symm
  have e3 : (ends bt vt o.dropLast).isSome = !isNon (optT (ends bt vt o.dropLast)) := by rw [isNon_optT]; cases ends bt vt o.dropLast <;> rfl
  rw [e2, e3]
  exact evd_andV (evd_op (evd_dget .free (evd_var rfl) (evd_is (evd_var rfl) (ordD_T o)) (lk_tab ho)) evd_non ris_N) fun _ =>
    evd_op (evd_dget .free (evd_var rfl) (evd_is (evd_dropLast h0' (evd_var rfl)) (ordD_T _)) (lk_tab (lawOrders_pre sv.vl ho h0'))) evd_non rnot_N
theorem ok_law_is_apart {fd : FuncData} (Fu : FnP K "_law_is_apart" s_law_is_apart [] fd) (B : Bl mg)   : FnOk P w K mg base (L2.CX P w) 1 (He.ga K "_law_is_apart") fd ["_law_ends_here", "_law_order", "_law_other"] (spD K F_law_is_apart) := by
  refine fnD Fu sc_law_is_apart (fun ds r ⟨bt, vt, o, p, h, _, _, _, e⟩ => ⟨by rw [h]; rfl, _, e⟩) fun cdv A outer s H E hr => ⟨_, (pss_cons (ps_if (PW.pt (pw_or (pt_cmpR (r := rNeD K) (op_neD hr.units) (pe_callB (id := "sorted") (r := rSortT K) call_sortedA rfl B.sorted (by decide +kernel) (pa_cons (pv 1) pa_nil)) (pe_callB (id := "sorted") (r := rSortT K) call_sortedA rfl B.sorted (by decide +kernel) (pa_cons (pv 2) pa_nil)) (nomark _)) (pw_or (pt_cmpR op_isNN (pe_dget (hu_of hr) (pv 0) (pv 1) (fun _ _ => rfl)) pe_non (nomark _)) (pw_or1 (pt_cmpR op_isNN (pe_dget (hu_of hr) (pv 0) (pv 2) (fun _ _ => rfl)) pe_non (nomark _)))))) (pss_one (ps_ret pe_bl)) pss_nil)
      (pss_one (ps_ret (pe_cmpR (r := rNeD K) (op_neD hr.units) (pe_dget (hu_of hr) (pv 0) (pv 1) (fun _ _ => rfl)) (pe_dget (hu_of hr) (pv 0) (pv 2) (fun _ _ => rfl)) (nomark _))))), fun ds d ⟨bt, vt, o, p, h, sv, ho, hp, e⟩ => ?_⟩
  subst h
  cases e
  have g1 : EvD K (tDGet (tVar 0) (tVar 1)) [.dat (.dict (kvE (tabD bt vt))), .dat (ordD o), .dat (ordD p)] (optT (ends bt vt o)) := evd_dget .free (evd_var rfl) (evd_is (evd_var rfl) (ordD_T o)) (lk_tab ho)
  have g2 : EvD K (tDGet (tVar 0) (tVar 2)) [.dat (.dict (kvE (tabD bt vt))), .dat (ordD o), .dat (ordD p)] (optT (ends bt vt p)) := evd_dget .free (evd_var rfl) (evd_is (evd_var rfl) (ordD_T p)) (lk_tab hp)
  have ht := evt_or (evt_test (K := K) (Γ := [.dat (.dict (kvE (tabD bt vt))), .dat (ordD o), .dat (ordD p)]) (evd_op (evd_cb (eva_cons (evd_is (evd_var (i := 1) rfl) (ordD_T o)) eva_nil) rsort) (evd_cb (eva_cons (evd_is (evd_var (i := 2) rfl) (ordD_T p)) eva_nil) rsort) rne_L)) fun _ => evt_or (evt_test (evd_op g1 evd_non ris_N)) fun _ => evt_test (evd_op g2 evd_non ris_N)
  rw [isNon_optT, isNon_optT] at ht
  have e1 : (!decide (srt (nts o) = srt (nts p)) || ((ends bt vt o).isNone || (ends bt vt p).isNone)) = !(decide (srt (nts o) = srt (nts p)) && (!(ends bt vt o).isNone && !(ends bt vt p).isNone)) := by
    cases decide (srt (nts o) = srt (nts p)) <;> cases (ends bt vt o).isNone <;> cases (ends bt vt p).isNone <;> rfl
  rw [e1] at ht
  unfold apartB
  cases hb : (decide (srt (nts o) = srt (nts p)) && (!(ends bt vt o).isNone && !(ends bt vt p).isNone)) with
  | false =>
    rw [hb] at ht
    exact run_rt (run_ifT ht (run_ret evd_bl))
  | true =>
    rw [hb] at ht
    rw [Bool.true_and]
    exact run_nx (run_ifF ht run_next) (run_ret (evd_op g1 g2 rne_optT))
theorem nd_ints : ∀ t : Tx, nds (t.map PyData.int) = true
  | [] => rfl
  | _ :: t => nd_ints t
theorem nd_optT : ∀ t : Option Tx, nd (optT t) = true
  | none => rfl
  | some t => nd_ints t
theorem nds_optT : ∀ ts : List (Option Tx), nds (ts.map optT) = true
  | [] => rfl
  | t :: ts => by
    show (nd (optT t) && nds (ts.map optT)) = true
    rw [nd_optT, nds_optT ts]; rfl
theorem nd_tab (bt : Tx) (vt : List Tx) : ((tabD bt vt).all fun p => nd p.2) = true := by
  unfold tabD tabOf
  rw [List.all_map, List.all_eq_true]
  exact fun o _ => nd_optT _
theorem lay_opts : ∀ ts : List (Option Tx), PyData.canLayAll0 (ts.map optT) = true ∧ PyData.depthAll (ts.map optT) ≤ 3
  | [] => ⟨rfl, by simp [PyData.depthAll]⟩
  | none :: ts => by
    obtain ⟨h1, h2⟩ := lay_opts ts
    rw [List.map_cons]
    exact ⟨by simp [PyData.canLayAll0, PyData.canLay0, optT, h1], by simp only [PyData.depthAll, PyData.depth, optT]; omega⟩
  | some t :: ts => by
    obtain ⟨h1, h2⟩ := lay_opts ts
    have a1 := lay_ints t
    have b1 := depth_ints t
    rw [List.map_cons]
    exact ⟨by simp [PyData.canLayAll0, PyData.canLay0, optT, T, a1, h1], by simp only [PyData.depthAll, PyData.depth, optT, T]; omega⟩
theorem shaped_opts (ts : List (Option Tx)) : SeqAt.shaped (.list (ts.map optT)) = true := by
  obtain ⟨h1, h2⟩ := lay_opts ts
  have e1 : PyData.canLay0 (.list (ts.map optT)) = true := by rw [PyData.canLay0]; exact h1
  unfold SeqAt.shaped
  rw [e1, Bool.true_and]
  exact decide_eq_true (by simp only [PyData.depth]; omega)
theorem ok_law_all_alike {fd : FuncData} (Fu : FnP K "_law_all_alike" s_law_all_alike [] fd) (B : Bl mg)   : FnOk P w K mg base (L2.CX P w) 1 (He.ga K "_law_all_alike") fd ["_law_ends_here", "_law_many"] (spD K F_law_all_alike) := by
  refine fnD Fu sc_law_all_alike (fun ds r ⟨bt, vt, h, _, e⟩ => ⟨by rw [h]; rfl, _, e⟩) fun cdv A outer s H E hr => ⟨_, (pss_cons (ps_set (i := 2) sc_law_all_alike.nd rfl (Or.inr rfl) (pe_lock (pe_lc (own := [("_law_order", 3)]) rfl sc_law_all_alike.nd (pi_keys (pv 0)) (blkOk_by (N := ["_law_ends_here", "_law_many", "_law_whole", "_law_order", "_law_text_here"]) (sc := defScope s_law_all_alike) (by decide +kernel)) (fun _ _ _ _ _ => (pg_name (i := 3) sc_law_all_alike.nd rfl (Or.inl rfl))) (fun _ _ _ _ _ => (pts_one (pt_cmpR (r := rEqD K) (op_eqD hr.units) (pe_callB (id := "len") (r := rLenA K) call_lenA rfl B.len boot_len (pa_cons (pv 3) pa_nil)) (pv 1) (nomark _)))) (fun _ _ _ _ _ => (pe_dget (hu_of hr) (pv 0) (pv 3) (fun _ _ => rfl))))))
      (pss_one (ps_ret (pe_cmpR (r := rEqD K) (op_eqD hr.units) (pe_lc (own := [("_law_text_here", 4)]) rfl sc_law_all_alike.nd (pi_seq (pv 2)) (blkOk_by (N := ["_law_ends_here", "_law_many", "_law_whole", "_law_order", "_law_text_here"]) (sc := defScope s_law_all_alike) (by decide +kernel)) (fun _ _ _ _ _ => (pg_name (i := 4) sc_law_all_alike.nd rfl (Or.inl rfl))) (fun _ _ _ _ _ => (pts_one (PW.pt (pw_or (pt_cmpR op_isNN (pv 4) pe_non (nomark _)) (pw_or1 (pt_cmpR (r := rNeD K) (op_neD hr.units) (pv 4) (pe_ix (r := rIx K) ix_seq (pv 2) pe_int (fun _ _ => rfl)) (nomark _))))))) (fun _ _ _ _ _ => (pv 4))) (pe_lst pa_nil) (nomark _))))), fun ds d ⟨bt, vt, h, sv, e⟩ => ?_⟩
  subst h
  cases e
  obtain ⟨hck, hol, hob, hon⟩ := lawOrders_chk vt.length sv.vl
  have cmp : ∀ os : List (List Nat), (∀ o ∈ os, o ∈ lawOrders vt.length) → Cmp K (gName 3) (tTest (tOp (rEqD K) (tCB (rLenA K) (tCons (tVar 3) tNil)) (tVar 1))) (tDGet (tVar 0) (tVar 3)) [3] [.dat (.dict ((.none, .none) :: kvE (tabD bt vt))), .dat (.int vt.length), .un, .un, .un]
      ((tabOf bt vt os).map fun p => T p.1) (((os.filter fun o => decide (o.length = vt.length)).map (ends bt vt)).map optT) := by
    intro os
    induction os with
    | nil => exact fun _ => .nil
    | cons o os ih =>
      intro hos
      have ih := ih fun x hx => hos x (List.mem_cons_of_mem _ hx)
      have ht : EvT K (tTest (tOp (rEqD K) (tCB (rLenA K) (tCons (tVar 3) tNil)) (tVar 1))) [.dat (.dict ((.none, .none) :: kvE (tabD bt vt))), .dat (.int vt.length), .un, .dat (T (nts o)), .un] (decide (o.length = vt.length)) := by
        have e : decide (o.length = vt.length) = decide (((nts o).length : Int) = (vt.length : Int)) := by
          congr 1
          unfold nts
          rw [List.length_map]
          exact propext (by omega)
        rw [e]
        exact evt_test (evd_op (evd_cb (eva_cons (evd_var rfl) eva_nil) rlen_T) (evd_var rfl) req_int)
      rw [List.filter_cons]
      cases hp : decide (o.length = vt.length) with
      | true =>
        rw [hp] at ht
        exact .yes gdw_name ht (evd_dget .lock (evd_var rfl) (evd_var rfl) (lk_tab (hos o List.mem_cons_self))) ih
      | false =>
        rw [hp] at ht
        exact .no gdw_name ht ih
  refine run_nx (run_asg (d := .list ((wholeL bt vt).map optT)) (evd_lock (j := 0) rfl rfl (nd_tab bt vt) (nds_optT _) (evd_lc (itd_keys (evd_var rfl)) (cmp (lawOrders vt.length) fun _ h => h) (by
    unfold tabD tabOf
    rw [List.length_map, List.length_map]; omega))) gd_name) (run_ret ?_)
  have hwl : (wholeL bt vt).length ≤ 100 := by
    unfold wholeL
    rw [List.length_map]
    exact Nat.le_trans (List.length_filter_le _ _) hol
  unfold alikeB
  generalize hW : wholeL bt vt = W at hwl
  show EvD K _ [.dat (.dict (kvE (tabD bt vt))), .dat (.int vt.length), .dat (.list (W.map optT)), .un, .un] _
  have cmp2 : ∀ ts : List (Option Tx), (∀ t ∈ ts, t ∈ W) → Cmp K (gName 4) (tOr (tTest (tOp rIsN (tVar 4) (tC .non))) (tTest (tOp (rNeD K) (tVar 4) (tOp (rIx K) (tVar 2) (tC (.int 0)))))) (tVar 4) [4] [.dat (.dict (kvE (tabD bt vt))), .dat (.int vt.length), .dat (.list (W.map optT)), .un, .un]
      (ts.map optT) ((ts.filter fun t => t.isNone || !decide (t = W.getD 0 none)).map optT) := by
    intro ts
    induction ts with
    | nil => exact fun _ => .nil
    | cons t ts ih =>
      intro hts
      have ih := ih fun x hx => hts x (List.mem_cons_of_mem _ hx)
      have h0 : (W.map optT)[0]? = some (optT (W.getD 0 none)) := by
        cases W with
        | nil => exact absurd (hts t List.mem_cons_self) (by simp)
        | cons x W => rfl
      have ht : EvT K (tOr (tTest (tOp rIsN (tVar 4) (tC .non))) (tTest (tOp (rNeD K) (tVar 4) (tOp (rIx K) (tVar 2) (tC (.int 0)))))) [.dat (.dict (kvE (tabD bt vt))), .dat (.int vt.length), .dat (.list (W.map optT)), .un, .dat (optT t)] (t.isNone || !decide (t = W.getD 0 none)) := by
        rw [← isNon_optT]
        exact evt_or (evt_test (evd_op (evd_var rfl) evd_non ris_N)) fun _ => evt_test (evd_op (evd_var rfl) (evd_op (evd_var rfl) evd_int (rix_lst (atI_nat (n := 0) rfl h0))) rne_optT)
      rw [List.filter_cons]
      cases hp : (t.isNone || !decide (t = W.getD 0 none)) with
      | true =>
        rw [hp] at ht
        exact .yes gdw_name ht (evd_var rfl) ih
      | false =>
        rw [hp] at ht
        exact .no gdw_name ht ih
  have hres := evd_op (K := K) (Γ := [.dat (.dict (kvE (tabD bt vt))), .dat (.int vt.length), .dat (.list (W.map optT)), .un, .un]) (evd_lc (ws := [4]) (ds := W.map optT) (itd_seqL (evd_var (i := 2) rfl)) (cmp2 W fun _ h => h) (by rw [List.length_map]; omega)) (evd_lst (ds := []) eva_nil) (req (hu := 0) (shaped_opts _) (shaped_opts []))
  refine evd_is hres ?_
  generalize W.filter _ = F
  cases F with
  | nil => rfl
  | cons x F => simp [PyData.eqv, PyData.eqvAll]
end CB

/-! W17 -/
set_option Elab.async false
set_option linter.all false
set_option maxRecDepth 100000
set_option maxHeartbeats 4000000
namespace CB
open PySem PySem.Spec PyProof.Rows L2
def lawFsw (a l g : Tx) : Option Form := match lawForms l g with
  | [f] => some (if l = a then f else f.sw)
  | _ => none
def lawF (a b : Tx) : Option Form := if a.length > b.length then lawFsw a b a else lawFsw a a b
def rowO (f : Form) (vt : List Tx) : List (Option Int) := vt.map (moreO f.front f.block f.back)
def rowI (f : Form) (vt : List Tx) : Tx := vt.map fun t => (moreO f.front f.block f.back t).getD 0
def lawBlk (bt v0 : Tx) (vt : List Tx) : Option D := match lawF bt v0 with
  | none => none
  | some f => if none ∈ rowO f vt then none
    else if ((rowI f vt).map fun n => max 0 ((f.times : Int) - n)).sum > f.times then none
    else some (.tuple [.str "block", T f.front, T f.block, T f.back, .int f.times, T (rowI f vt)])
theorem formAt_ok {l g : Tx} {ah sz : Nat} {f : Form} (h1 : 1 ≤ sz) (h2 : sz ≤ g.length - ah) (h : formAt l g ah sz = some f) : f.block ≠ [] ∧ f.front.length ≤ l.length ∧ f.block.length ≤ g.length ∧ f.back.length ≤ l.length := by
  have hbl : (blkAt g ah sz).length = sz := by unfold blkAt; rw [List.length_take, List.length_drop]; omega
  unfold formAt at h
  split at h
  · cases h
  · split at h
    · cases h
    · cases h
      refine ⟨fun z => ?_, ?_, ?_, ?_⟩
      · have z' : blkAt g ah sz = [] := z
        rw [z', List.length_nil] at hbl; omega
      · show (l.take ah).length ≤ _
        rw [List.length_take]; omega
      · show (blkAt g ah sz).length ≤ _
        omega
      · show (l.drop _).length ≤ _
        rw [List.length_drop]; omega
theorem ahGo_ok {l g : Tx} {f : Form} : ∀ {as : List Nat}, f ∈ ahGo l g as → ∃ ah sz, ah ∈ as ∧ l.take ah = g.take ah ∧ 1 ≤ sz ∧ sz ≤ g.length - ah ∧ formAt l g ah sz = some f
  | [], h => by cases h
  | a :: as, h => by
    unfold ahGo at h
    by_cases e : l.take a = g.take a
    · rw [if_pos e] at h
      rcases List.mem_append.mp h with z | z
      · obtain ⟨sz, h1, h2⟩ := List.mem_filterMap.mp z
        have := List.mem_range'_1.mp h1
        exact ⟨a, sz, List.mem_cons_self, e, by omega, by omega, h2⟩
      · obtain ⟨ah, sz, h1, h2⟩ := ahGo_ok z
        exact ⟨ah, sz, List.mem_cons_of_mem _ h1, h2⟩
    · rw [if_neg e] at h; cases h
theorem lawF_ok {a b : Tx} {f : Form} {n : Nat} (h : lawF a b = some f) (ha : a.length ≤ n) (hb : b.length ≤ n) : f.block ≠ [] ∧ f.front.length ≤ n ∧ f.block.length ≤ n ∧ f.back.length ≤ n := by
  have key : ∀ l g : Tx, l.length ≤ n → g.length ≤ n → lawFsw a l g = some f → f.block ≠ [] ∧ f.front.length ≤ n ∧ f.block.length ≤ n ∧ f.back.length ≤ n := fun l g hl hg hs => by
    unfold lawFsw at hs
    cases hf : lawForms l g with
    | nil => rw [hf] at hs; cases hs
    | cons f1 fs =>
      cases fs with
      | cons f2 fs => rw [hf] at hs; cases hs
      | nil =>
        rw [hf] at hs
        have hm : f1 ∈ lawForms l g := by rw [hf]; exact List.mem_cons_self
        obtain ⟨ah, sz, _, _, h3, h4, h5⟩ := ahGo_ok hm
        obtain ⟨q1, q2, q3, q4⟩ := formAt_ok h3 h4 h5
        have hs' : (if l = a then f1 else f1.sw) = f := Option.some.inj hs
        by_cases e : l = a
        · rw [if_pos e] at hs'; subst hs'
          exact ⟨q1, by omega, by omega, by omega⟩
        · rw [if_neg e] at hs'; subst hs'
          exact ⟨q1, by show f1.front.length ≤ n; omega, by show f1.block.length ≤ n; omega, by show f1.back.length ≤ n; omega⟩
  unfold lawF at h
  by_cases e : a.length > b.length
  · rw [if_pos e] at h; exact key b a hb ha h
  · rw [if_neg e] at h; exact key a b ha hb h
theorem lawF_D {a b : Tx} : (∃ f, lawF a b = some f ∧ lawFormD a b = f.d) ∨ (lawF a b = none ∧ (lawFormD a b = .none ∨ lawFormD a b = .str "two")) := by
  have key : ∀ l g : Tx, (∃ f, lawFsw a l g = some f ∧ lawFormLG a l g = f.d) ∨ (lawFsw a l g = none ∧ (lawFormLG a l g = .none ∨ lawFormLG a l g = .str "two")) := fun l g => by
    unfold lawFsw lawFormLG
    cases lawForms l g with
    | nil => exact .inr ⟨rfl, .inl rfl⟩
    | cons f1 fs =>
      cases fs with
      | cons f2 fs => exact .inr ⟨rfl, .inr rfl⟩
      | nil =>
        refine .inl ⟨_, rfl, ?_⟩
        show (if l = a then f1.d else f1.sw.d) = (if l = a then f1 else f1.sw).d
        by_cases e : l = a
        · rw [if_pos e, if_pos e]
        · rw [if_neg e, if_neg e]
  unfold lawF lawFormD
  by_cases e : a.length > b.length
  · rw [if_pos e, if_pos e]; exact key b a
  · rw [if_neg e, if_neg e]; exact key a b
variable {P : Program} {w : World} {K : PySem.W.Frag} {mg : Str → Option Value} {base : Heap}
def F_law_block (ds : List D) (r : Res) : Prop := ∃ bt vt c cs, ds = [T bt, lvD vt, .list ((c :: cs).map fun (i : Nat) => PyData.int (i : Int))] ∧ Sv bt vt ∧ c < vt.length ∧ r = .ok (optD (lawBlk bt (vt.getD c []) vt))
theorem sc_law_block : FnScope ["_law_base", "_law_versions_here", "_law_changed", "_law_form_here", "_law_row", "_law_text_here", "_law_number"] ["_law_base", "_law_versions_here", "_law_changed"] (defScope s_law_block) := ⟨rfl, rfl, rfl, by decide +kernel, rfl, by decide +kernel, by decide +kernel⟩
theorem inF_opt : ∀ os : List (Option Int), inF .none (os.map optI) = decide (none ∈ os)
  | [] => by simp [inF]
  | none :: os => by
    unfold inF
    rw [List.map_cons, List.any_cons]
    simp [optI, eqF]
  | some i :: os => by
    have ih := inF_opt os
    unfold inF at ih ⊢
    rw [List.map_cons, List.any_cons, ih]
    simp [optI, eqF]
theorem flat_opt : ∀ os : List (Option Int), (os.map optI).all flatD = true
  | [] => rfl
  | none :: os => flat_opt os
  | some _ :: os => flat_opt os
theorem rowO_I {f : Form} : ∀ {vt : List Tx}, none ∉ rowO f vt → (rowO f vt).map optI = (rowI f vt).map PyData.int
  | [], _ => rfl
  | t :: vt, h => by
    unfold rowO at h
    rw [List.map_cons] at h
    have h1 : moreO f.front f.block f.back t ≠ none := fun z => h (by rw [z]; exact List.mem_cons_self)
    have ih := rowO_I (f := f) (vt := vt) fun z => h (List.mem_cons_of_mem _ z)
    unfold rowO rowI at ih ⊢
    rw [List.map_cons, List.map_cons, List.map_cons, List.map_cons, ih]
    cases hm : moreO f.front f.block f.back t with
    | none => exact absurd hm h1
    | some i => rfl
theorem ok_law_block {fd : FuncData} (Fu : FnP K "_law_block" s_law_block [] fd) (B : Bl mg)  (h_law_form : HasF P w K mg base 2 "_law_form" ["_law_one", "_law_other"] [] (spD K F_law_form)) (h_law_more : HasF P w K mg base 1 "_law_more" ["_law_form_here", "_law_text_here"] [] (spD K F_law_more)) : FnOk P w K mg base (L2.CX P w) 3 (He.ga K "_law_block") fd ["_law_base", "_law_versions_here", "_law_changed"] (spD K F_law_block) := by
  refine fnD Fu sc_law_block (fun ds r ⟨bt, vt, c, cs, h, _, _, e⟩ => ⟨by rw [h]; rfl, _, e⟩) fun cdv A outer s H E hr => ⟨_, (pss_cons (ps_set (i := 3) sc_law_block.nd rfl (Or.inr rfl) (pe_f h_law_form (hr.mono (by decide)) (pa_cons (pv 0) (pa_cons (pe_ix (r := rIx K) ix_seq (pv 1) (pe_ix (r := rIx K) ix_seq (pv 2) pe_int (fun _ _ => rfl)) (fun _ _ => rfl)) pa_nil))))
      (pss_cons (ps_if (PW.pt (pw_or (pt_cmpR op_isNN (pv 3) pe_non (nomark _)) (pw_or1 (pt_cmpR (r := rEqD K) (op_eqD hr.units) (pv 3) pe_str (nomark _))))) (pss_one (ps_ret pe_non)) pss_nil)
      (pss_cons (ps_setLc (own := [("_law_text_here", 5)]) (i := 4) rfl sc_law_block.nd rfl rfl (sw_true rfl rfl rfl (by decide +kernel)) (pi_seq (pv 1)) (blkOk_by (N := ["_law_base", "_law_versions_here", "_law_changed", "_law_form_here", "_law_row", "_law_text_here", "_law_number"]) (sc := defScope s_law_block) (by decide +kernel)) (fun _ _ _ _ _ => (pg_name (i := 5) sc_law_block.nd rfl (Or.inl rfl))) (fun _ _ _ _ _ => pts_nil) (fun _ _ _ _ _ => (pe_f h_law_more (hr.mono (by decide)) (pa_cons (pv 3) (pa_cons (pv 5) pa_nil)))))
      (pss_cons (ps_if (pt_cmpR (r := rIn K false) op_in_seq pe_non (pv 4) (by with_unfolding_all rfl)) (pss_one (ps_ret pe_non)) pss_nil)
      (pss_cons (ps_if (pt_cmpR op_gt (pe_callB (id := "sum") (r := rSum K) (cr_sum rfl) rfl B.sum (by decide +kernel) (pa_cons (pe_lc (own := [("_law_number", 6)]) rfl sc_law_block.nd (pi_seq (pv 4)) (blkOk_by (N := ["_law_base", "_law_versions_here", "_law_changed", "_law_form_here", "_law_row", "_law_text_here", "_law_number"]) (sc := defScope s_law_block) (by decide +kernel)) (fun _ _ _ _ _ => (pg_name (i := 6) sc_law_block.nd rfl (Or.inl rfl))) (fun _ _ _ _ _ => pts_nil) (fun _ _ _ _ _ => (pe_callB (id := "max") (r := rMax2) (call_max2A rfl) rfl B.max (by decide +kernel) (pa_cons pe_int (pa_cons (pe_op op_sub (pe_ix (r := rIx K) ix_seq (pv 3) pe_int (fun _ _ => rfl)) (pv 6)) pa_nil))))) pa_nil)) (pe_ix (r := rIx K) ix_seq (pv 3) pe_int (fun _ _ => rfl)) (nomark _)) (pss_one (ps_ret pe_non)) pss_nil)
      (pss_one (ps_ret (pe_tup (pa_cons pe_str (pa_cons (pe_ix (r := rIx K) ix_seq (pv 3) pe_int (fun _ _ => rfl)) (pa_cons (pe_ix (r := rIx K) ix_seq (pv 3) pe_int (fun _ _ => rfl)) (pa_cons (pe_ix (r := rIx K) ix_seq (pv 3) pe_int (fun _ _ => rfl)) (pa_cons (pe_ix (r := rIx K) ix_seq (pv 3) pe_int (fun _ _ => rfl)) (pa_cons (pe_callTy (T := "tuple") (r := rTupA K) call_tupA rfl B.tuple (by decide +kernel) (pa_cons (pv 4) pa_nil)) pa_nil)))))))))))))), fun ds d ⟨bt, vt, c, cs, h, sv, hc, e⟩ => ?_⟩
  subst h
  cases e
  have hv0 : (vt.getD c []).length ≤ 100 := by
    rw [List.getD_eq_getElem?_getD, List.getElem?_eq_getElem hc]
    exact sv.v _ (List.getElem_mem hc)
  have hbl := sv.bl
  refine run_nx (run_asg (d := lawFormD bt (vt.getD c [])) (evd_call0 (eva_cons (evd_var rfl) (eva_cons (evd_op (evd_var rfl) (evd_op (evd_var rfl) evd_int (rix_lst (d := .int (c : Nat)) (atI_nat (n := 0) rfl rfl))) (rix_lst (atI_nat (n := c) rfl (by
    rw [List.getElem?_map, List.getD_eq_getElem?_getD, List.getElem?_eq_getElem hc]; rfl)))) eva_nil)) ⟨bt, _, rfl, by omega, by omega, rfl⟩) gd_name) ?_
  show RunD K E0 _ [.dat (T bt), .dat (lvD vt), .dat (.list ((c :: cs).map fun (i : Nat) => PyData.int (i : Int))), .dat (lawFormD bt (vt.getD c [])), .un, .un, .un] _
  unfold lawBlk
  rcases lawF_D (a := bt) (b := vt.getD c []) with ⟨f, h1, h2⟩ | ⟨h1, h2⟩
  · rw [h1, h2]
    have hfd : SeqAt.shaped f.d = true := by
      have a1 := lay_ints f.front
      have a2 := lay_ints f.block
      have a3 := lay_ints f.back
      have b1 := depth_ints f.front
      have b2 := depth_ints f.block
      have b3 := depth_ints f.back
      have e1 : PyData.canLay0 f.d = true := by simp [PyData.canLayAll0, PyData.canLay0, Form.d, T, a1, a2, a3]
      unfold SeqAt.shaped
      rw [e1, Bool.true_and]
      exact decide_eq_true (by simp only [PyData.depthAll, PyData.depth, Form.d, T]; omega)
    have ht : EvT K (tOr (tTest (tOp rIsN (tVar 3) (tC .non))) (tTest (tOp (rEqD K) (tVar 3) (tC (.str "two"))))) [.dat (T bt), .dat (lvD vt), .dat (.list ((c :: cs).map fun (i : Nat) => PyData.int (i : Int))), .dat f.d, .un, .un, .un] (isNon f.d || PyData.eqv f.d (.str "two")) :=
      evt_or (evt_test (evd_op (evd_var rfl) evd_non ris_N)) fun _ => evt_test (evd_op (evd_var rfl) evd_str (req (hu := 0) hfd (shaped_str (by decide +kernel))))
    refine run_nx (run_ifF (evt_is ht (by unfold Form.d; simp [isNon, PyData.eqv])) run_next) ?_
    obtain ⟨q1, q2, q3, q4⟩ := lawF_ok h1 (n := 100) hbl hv0
    have cmp : ∀ ts : List Tx, (∀ t ∈ ts, t.length ≤ 100) → Cmp K (gName 5) tYes (tCall (spD K F_law_more) [] E0 (tCons (tVar 3) (tCons (tVar 5) tNil))) [5] [.dat (T bt), .dat (lvD vt), .dat (.list ((c :: cs).map fun (i : Nat) => PyData.int (i : Int))), .dat f.d, .un, .un, .un] (ts.map T) ((rowO f ts).map optI) := by
      intro ts
      induction ts with
      | nil => exact fun _ => .nil
      | cons t ts ih =>
        intro h
        have ht := h t List.mem_cons_self
        exact .yes gdw_name evt_yes (evd_call0 (eva_cons (evd_var rfl) (eva_cons (evd_var rfl) eva_nil)) ⟨f.front, f.block, f.back, t, _, rfl, q1, by omega, by omega, by omega, by omega, rfl⟩) (ih fun x hx => h x (List.mem_cons_of_mem _ hx))
    have hvl := sv.vl
    refine run_nx (run_asg (d := .list ((rowO f vt).map optI)) (evd_lc (itd_seqL (evd_var rfl)) (cmp vt sv.v) (by rw [List.length_map]; omega)) gd_name) ?_
    show RunD K E0 _ [.dat (T bt), .dat (lvD vt), .dat (.list ((c :: cs).map fun (i : Nat) => PyData.int (i : Int))), .dat f.d, .dat (.list ((rowO f vt).map optI)), .un, .un] (.rt (optD (if none ∈ rowO f vt then none else if ((rowI f vt).map fun n => max 0 ((f.times : Int) - n)).sum > f.times then none else some (.tuple [.str "block", T f.front, T f.block, T f.back, .int f.times, T (rowI f vt)]))))
    have hin : EvT K (tTest (tOp (rIn K false) (tC .non) (tVar 4))) [.dat (T bt), .dat (lvD vt), .dat (.list ((c :: cs).map fun (i : Nat) => PyData.int (i : Int))), .dat f.d, .dat (.list ((rowO f vt).map optI)), .un, .un] (decide (none ∈ rowO f vt)) := by
      rw [← inF_opt]
      exact evt_test (evd_op evd_non (evd_var rfl) (rin_lst (neg := false) rfl (flat_opt _)))
    by_cases hno : none ∈ rowO f vt
    · rw [if_pos hno]
      exact run_rt (run_ifT (evt_is hin (by simp [hno])) (run_ret evd_non))
    · rw [if_neg hno]
      refine run_nx (run_ifF (evt_is hin (by simp [hno])) run_next) ?_
      rw [rowO_I hno]
      have hnl : (rowI f vt).length ≤ 4 := by unfold rowI; rw [List.length_map]; exact hvl
      generalize rowI f vt = ns at hnl
      have ix : ∀ (i : Nat) (d : D) (s5 s6 : Sl), [T f.front, T f.block, T f.back, .int f.times, .int f.others][i]? = some d → EvD K (tOp (rIx K) (tVar 3) (tC (.int i))) [.dat (T bt), .dat (lvD vt), .dat (.list ((c :: cs).map fun (i : Nat) => PyData.int (i : Int))), .dat f.d, .dat (.list (ns.map PyData.int)), s5, s6] d := fun i d s5 s6 h =>
        evd_op (evd_var rfl) evd_int (rix_tup (atI_nat (n := i) rfl h))
      have cmp3 : ∀ ms : Tx, Cmp K (gName 6) tYes (tCB rMax2 (tCons (tC (.int 0)) (tCons (tOp (rI0 fun i j => .int (i - j)) (tOp (rIx K) (tVar 3) (tC (.int 3))) (tVar 6)) tNil))) [6] [.dat (T bt), .dat (lvD vt), .dat (.list ((c :: cs).map fun (i : Nat) => PyData.int (i : Int))), .dat f.d, .dat (.list (ns.map PyData.int)), .un, .un] (ms.map PyData.int) ((ms.map fun n => max 0 ((f.times : Int) - n)).map PyData.int) := by
        intro ms
        induction ms with
        | nil => exact .nil
        | cons n ms ih => exact .yes gdw_name evt_yes (evd_cb (eva_cons evd_int (eva_cons (evd_op (ix 3 _ _ _ rfl) (evd_var rfl) rop_I0) eva_nil)) rmax2) ih
      have ht : EvT K (tTest (tOp (rI0 fun i j => .bl (decide (j < i))) (tCB (rSum K) (tCons (tLc (iSeq K (tVar 4)) (gName 6) tYes (tCB rMax2 (tCons (tC (.int 0)) (tCons (tOp (rI0 fun i j => .int (i - j)) (tOp (rIx K) (tVar 3) (tC (.int 3))) (tVar 6)) tNil))) [6]) tNil)) (tOp (rIx K) (tVar 3) (tC (.int 3))))) [.dat (T bt), .dat (lvD vt), .dat (.list ((c :: cs).map fun (i : Nat) => PyData.int (i : Int))), .dat f.d, .dat (.list (ns.map PyData.int)), .un, .un] (decide ((f.times : Int) < (ns.map fun n => max 0 ((f.times : Int) - n)).sum)) :=
        evt_test (evd_op (evd_cb (eva_cons (evd_lc (itd_seqL (evd_var rfl)) (cmp3 ns) (by rw [List.length_map]; omega)) eva_nil) rsum) (ix 3 _ _ _ rfl) (rop_B0 (g := fun i j => decide (j < i))))
      by_cases hs : (ns.map fun n => max 0 ((f.times : Int) - n)).sum > f.times
      · rw [if_pos hs]
        exact run_rt (run_ifT (evt_is ht (decide_eq_true hs)) (run_ret evd_non))
      · rw [if_neg hs]
        refine run_nx (run_ifF (evt_is ht (decide_eq_false hs)) run_next) (run_ret ?_)
        exact evd_tup (eva_cons evd_str (eva_cons (ix 0 _ _ _ rfl) (eva_cons (ix 1 _ _ _ rfl) (eva_cons (ix 2 _ _ _ rfl) (eva_cons (ix 3 _ _ _ rfl) (eva_cons (evd_cb (eva_cons (evd_var rfl) eva_nil) rtup_lst) eva_nil))))))
  · rw [h1]
    have ht : EvT K (tOr (tTest (tOp rIsN (tVar 3) (tC .non))) (tTest (tOp (rEqD K) (tVar 3) (tC (.str "two"))))) [.dat (T bt), .dat (lvD vt), .dat (.list ((c :: cs).map fun (i : Nat) => PyData.int (i : Int))), .dat (lawFormD bt (vt.getD c [])), .un, .un, .un] true := by
      rcases h2 with h2 | h2
      · rw [h2]
        exact evt_is (evt_or (c := true) (evt_test (evd_op (evd_var rfl) evd_non ris_N)) fun z => by cases z) rfl
      · rw [h2]
        exact evt_is (evt_or (evt_test (evd_op (evd_var rfl) evd_non ris_N)) fun _ => evt_test (evd_op (evd_var rfl) evd_str (req_str (by decide +kernel) (by decide +kernel)))) rfl
    exact run_rt (run_ifT ht (run_ret evd_non))
end CB

/-! W18 -/
set_option Elab.async false
set_option linter.all false
set_option maxRecDepth 100000
set_option maxHeartbeats 4000000
namespace CB
open PySem PySem.Spec PyProof.Rows L2
def ltD (n : Nat) (d : D) : Prop := ∃ r : Nat, d = .int r ∧ r < n
def F_law_draw (ds : List D) (Φ : D → Prop) : Prop := ∃ n : Nat, ds = [.int n] ∧ 1 ≤ n ∧ n ≤ 1000000 ∧ Φ = ltD n
section
variable {K : Fg} {Mx : List Addr} {Tb : Tbl} {a b : Addr} {B : Bs} {Γ : List Sl} {σ : L2.St} {H H' : Hp} {n : Nat} {s2 : Sl} {xs : Tx} {m : Int}
/-- the deal as it stands -/
structure Ds (K : Fg) (Mx : List Addr) (Tb : Tbl) (a b : Addr) (B : Bs) (n : Nat) (s2 : Sl) (xs : Tx) (m : Int) (σ : L2.St) (H : Hp) : Prop where
  stt : Stt K Mx (Mv Tb a b) (Dl Tb a b) B [] [.ref a, .dat (.int n), s2] σ H
  sl : s2 = .un ∨ ∃ r, s2 = .dat (.int r)
  ln : xs.length ≤ 50
  ha : H a = some (.lst [.ref b, .int m])
  hb : H b = some (.lst (xs.map V.int))
theorem Ds.rd (S : Ds K Mx Tb a b B n s2 xs m σ H) : EnvD K (hide [] H) σ [.dat (.list [.list (xs.map PyData.int), .int m]), .dat (.int n), s2] := by
  rw [hide_nil]
  have e := S.stt.env
  have hs := S.sl
  have ha := S.ha
  have hb := S.hb
  clear S
  cases e with
  | @cons o0 _ _ _ r0 t0 =>
    cases t0 with
    | @cons o1 _ _ _ r1 t1 =>
      cases t1 with
      | @cons o2 _ _ _ r2 t2 =>
        cases t2
        refine .cons ?_ (.cons ?_ (.cons ?_ .nil))
        · cases o0 with
          | none => exact (show False from r0).elim
          | some v =>
            have e : v = .ref a := r0
            subst e
            exact (show Dq K H (.ref a) (.list [.list (xs.map PyData.int), .int m]) from .lst ha (.cons (.lst hb (DqAll.ints xs)) (.cons (.int m) .nil)))
        · cases o1 with
          | none => exact (show False from r1).elim
          | some v =>
            have e : v = .int n := (show Dq K _ v (.int n) from r1).intI
            subst e
            exact (show Dq K H (.int n) (.int n) from .int _)
        · rcases hs with rfl | ⟨r, rfl⟩
          · cases o2 <;> exact trivial
          · cases o2 with
            | none => exact (show False from r2).elim
            | some v =>
              have e : v = .int r := (show Dq K _ v (.int r) from r2).intI
              subst e
              exact (show Dq K H (.int r) (.int r) from .int _)
theorem Ds.grow (wf : Wf Mx (Mv Tb a b) (Dl Tb a b) B) (S : Ds K Mx Tb a b B n s2 xs m σ H) (e : Same H H') : Ds K Mx Tb a b B n s2 xs m σ H' := ⟨S.stt.grow wf e, S.sl, S.ln, e _ _ S.ha, e _ _ S.hb⟩
theorem Ds.setB (wf : Wf Mx (Mv Tb a b) (Dl Tb a b) B) (S : Ds K Mx Tb a b B n s2 xs m σ H) (ys : Tx) (hl : ys.length ≤ 50) : Ds K Mx Tb a b B n s2 ys m σ (L2.upd H b (.lst (ys.map V.int))) := by
  have hab : a ≠ b := S.stt.inv.1.1
  have h1 : L2.upd H b (.lst (ys.map V.int)) a = some (.lst [.ref b, .int m]) := by rw [upd_ne hab]; exact S.ha
  refine ⟨S.stt.deal wf ?_ ⟨⟨hab, ys, m, hl, h1, upd_same⟩, tabs_nl (fun c o q n => by rw [upd_ne (fun z => by rw [z, S.hb] at q; exact n _ (Option.some.inj q).symm)]; exact q) S.stt.inv.2⟩, S.sl, hl, h1, upd_same⟩
  rw [hide_upd (List.mem_cons_of_mem _ List.mem_cons_self)]
  exact Same.refl _
theorem Ds.setA (wf : Wf Mx (Mv Tb a b) (Dl Tb a b) B) (S : Ds K Mx Tb a b B n s2 xs m σ H) (m' : Int) : Ds K Mx Tb a b B n s2 xs m' σ (L2.upd H a (.lst [.ref b, .int m'])) := by
  have hab : a ≠ b := S.stt.inv.1.1
  have h1 : L2.upd H a (.lst [.ref b, .int m']) b = some (.lst (xs.map V.int)) := by rw [upd_ne (Ne.symm hab)]; exact S.hb
  refine ⟨S.stt.deal wf ?_ ⟨⟨hab, xs, m', S.ln, upd_same, h1⟩, tabs_nl (fun c o q n => by rw [upd_ne (fun z => by rw [z, S.ha] at q; exact n _ (Option.some.inj q).symm)]; exact q) S.stt.inv.2⟩, S.sl, S.ln, upd_same, h1⟩
  rw [hide_upd List.mem_cons_self]
  exact Same.refl _
theorem Ds.at0 (S : Ds K Mx Tb a b B n s2 xs m σ H) {Q : VK} (q : Q (.ref b) H) : tOp (rIx K) (tVar 0) (tC (.int 0)) σ H Q :=
  ⟨.ref a, envd_ref S.stt.env rfl, .inl ⟨a, _, 0, .ref b, rfl, rfl, SqL.of S.ha, rfl, q⟩⟩
end
variable {P : Program} {w : World} {K : PySem.W.Frag} {mg : Str → Option Value} {base : Heap} {Tb : Tbl}
theorem sc_law_draw : FnScope ["_law_deal_here", "_law_bound", "_law_rest"] ["_law_deal_here", "_law_bound"] (defScope s_law_draw) := ⟨rfl, rfl, rfl, by decide +kernel, rfl, by decide +kernel, by decide +kernel⟩
theorem ok_law_draw {fd : FuncData} (Fu : FnP K "_law_draw" s_law_draw [] fd) (B : Bl mg) : FnOk P w K mg base (L2.CX P w) 1 (He.ga K "_law_draw") fd ["_law_deal_here", "_law_bound"] (spW K Tb F_law_draw) := by
  refine fnMW Fu sc_law_draw (fun ds Φ ⟨n, h, _, _, _⟩ => by rw [h]; rfl) fun cdv A outer s H E hr => ⟨_, (pss_cons (ps_while PassesOwn.never (PW.pt (pw_and (pt_cmpR (r := rNeD K) (op_neD hr.units) (pe_ix (r := rIx K) ix_seq (pv 0) pe_int (fun _ _ => rfl)) (pe_lst pa_nil) (nomark _)) (pw_and1 (pt_cmpR (r := rEqD K) (op_eqD hr.units) (pe_ix (r := rIx K) ix_seq (pe_ix (r := rIx K) ix_seq (pv 0) pe_int (fun _ _ => rfl)) (pe_un un_neg pe_int) (fun _ _ => rfl)) pe_int (nomark _))))) (pss_one (ps_expr (pe_bm0 PySem.F.plainAttrs_list PySem.F.slot_list_pop PySem.F.type_list_pop mt_pop (pe_ix (r := rIx K) ix_seq (pv 0) pe_int (fun _ _ => rfl))))))
      (pss_cons (ps_if (pt_cmpR (r := rNeD K) (op_neD hr.units) (pe_ix (r := rIx K) ix_seq (pv 0) pe_int (fun _ _ => rfl)) (pe_lst pa_nil) (nomark _)) (pss_cons (ps_set (i := 2) sc_law_draw.nd rfl (Or.inl rfl) (pe_bm0 PySem.F.plainAttrs_list PySem.F.slot_list_pop PySem.F.type_list_pop mt_pop (pe_ix (r := rIx K) ix_seq (pv 0) pe_int (fun _ _ => rfl))))
      (pss_cons (ps_expr (pe_bm PySem.F.plainAttrs_list PySem.F.slot_list_append PySem.F.type_list_append mt_append (pe_ix (r := rIx K) ix_seq (pv 0) pe_int (fun _ _ => rfl)) (pa_cons (pe_op op_fdiv (pv 2) (pv 1)) pa_nil)))
      (pss_one (ps_ret (pe_op op_mod (pe_callTy (T := "int") (r := rInt1) call_int1A rfl B.int (by decide +kernel) (pa_cons (pv 2) pa_nil)) (pv 1)))))) pss_nil)
      (pss_cons (ps_asg (pe_op op_mod (pe_callTy (T := "int") (r := rInt1) call_int1A rfl B.int (by decide +kernel) (pa_cons (pe_op (r := rAddU K) op_addU (pe_op (r := rMulU K) op_mulU (pe_ix (r := rIx K) ix_seq (pv 0) pe_int (fun _ _ => rfl)) pe_int) pe_int) pa_nil)) pe_int) (pg_sub (pv 0) pe_int set_list))
      (pss_one (ps_ret (pe_op op_mod (pe_callTy (T := "int") (r := rInt1) call_int1A rfl B.int (by decide +kernel) (pa_cons (pe_op op_fdiv (pe_ix (r := rIx K) ix_seq (pv 0) pe_int (fun _ _ => rfl)) pe_int) pa_nil)) (pv 1))))))), fun ds Φ a b Mx ⟨n, h, hn1, hn2, hΦ⟩ => ?_⟩
  subst h hΦ
  intro B' wf σ H D S P'
  obtain ⟨⟨hab, xs, m, hln, ha, hb⟩, _⟩ := id S.inv
  have S0 : Ds K Mx Tb a b B' n .un xs m σ H := ⟨S, .inl rfl, hln, ha, hb⟩
  have ret : ∀ (v : V) (H' : Hp) (s2 : Sl) (ys : Tx) (m' x : Int) (σ' : L2.St), Ds K Mx Tb a b B' n s2 ys m' σ' H' → v = .int (x % n) → D.rt v H' := fun v H' s2 ys m' x σ' S' hv => by
    subst hv
    have h0 := Int.emod_nonneg x (show (n : Int) ≠ 0 by omega)
    have h1 := Int.emod_lt_of_pos x (show (0 : Int) < n by omega)
    have hp := P' (.rt (.int (x % n))) [] ⟨_, rfl, (x % n).toNat, by rw [Int.toNat_of_nonneg h0], by omega⟩
    exact hp _ H' S'.stt.old S'.stt.mxtrk S'.stt.inv (.int _)
  have d0 : ∀ (ys : Tx) (m' : Int) (s2 : Sl), EvD K (tOp (rIx K) (tVar 0) (tC (.int 0))) [.dat (.list [.list (ys.map PyData.int), .int m']), .dat (.int n), s2] (L' ys) := fun ys m' s2 => evd_op (evd_var rfl) evd_int (rix_lst (atI_nat (n := 0) rfl rfl))
  have d1 : ∀ (ys : Tx) (m' : Int) (s2 : Sl), EvD K (tOp (rIx K) (tVar 0) (tC (.int 1))) [.dat (.list [.list (ys.map PyData.int), .int m']), .dat (.int n), s2] (.int m') := fun ys m' s2 => evd_op (evd_var rfl) evd_int (rix_lst (atI_nat (n := 1) rfl rfl))
  have ne0 : ∀ (ys : Tx) (m' : Int) (s2 : Sl), EvT K (tTest (tOp (rNeD K) (tOp (rIx K) (tVar 0) (tC (.int 0))) (tLst tNil))) [.dat (.list [.list (ys.map PyData.int), .int m']), .dat (.int n), s2] (!decide (ys = [])) := fun ys m' s2 => evt_test (evd_op (d0 ys m' s2) (evd_lst (ds := []) eva_nil) (rne_L (t := [])))
  have rest : ∀ (ys : Tx) (σ1 : L2.St) (H1 : Hp), Ds K Mx Tb a b B' n .un ys m σ1 H1 → (tSeq (tIfS (tTest (tOp (rNeD K) (tOp (rIx K) (tVar 0) (tC (.int 0))) (tLst tNil))) (tSeq (tAsg (tBM0 K "list" rPop (tOp (rIx K) (tVar 0) (tC (.int 0)))) (gName 2)) (tSeq (tDrop (tBM K "list" rAppend (tOp (rIx K) (tVar 0) (tC (.int 0))) (tCons (tOp (rI CDiv fun i j => .int (i / j)) (tVar 2) (tVar 1)) tNil)))
      (tRet (tOp (rI (fun _ j => 0 < j) fun i j => .int (i % j)) (tCB rInt1 (tCons (tVar 2) tNil)) (tVar 1))))) tNext)
      (tSeq (tAsg (tOp (rI (fun _ j => 0 < j) fun i j => .int (i % j)) (tCB rInt1 (tCons (tOp (rAddU K) (tOp (rMulU K) (tOp (rIx K) (tVar 0) (tC (.int 1))) (tC (.int 44491))) (tC (.int 91))) tNil)) (tC (.int 2147483647))) (gSub (tVar 0) (tC (.int 1)) rSetL))
      (tRet (tOp (rI (fun _ j => 0 < j) fun i j => .int (i % j)) (tCB rInt1 (tCons (tOp (rI CDiv fun i j => .int (i / j)) (tOp (rIx K) (tVar 0) (tC (.int 1))) (tC (.int 64))) tNil)) (tVar 1))))) D σ1 H1 := by
    intro ys σ1 H1 S1
    refine ne0 ys m .un [] σ1 H1 Trk.nil S1.rd _ fun H2 e2 => ?_
    have S2 := S1.grow wf e2
    rcases List.eq_nil_or_concat ys with rfl | ⟨zs, z, hz⟩
    · -- the blend
      refine (evd_op (evd_cb (eva_cons (evd_op (evd_op (d1 [] m .un) evd_int (rmul_int (j := 44491) (.inr ⟨by decide, by decide⟩))) (evd_int (i := 91)) radd_int) eva_nil) rint1) (evd_int (i := 2147483647)) (rop_I (by decide))) [] σ1 H2 Trk.nil S2.rd _ fun v H3 e3 dv => ?_
      have hv := dv.intI
      subst hv
      have S3 := S2.grow wf e3
      refine ⟨.ref a, envd_ref S3.stt.env rfl, a, _, 1, 1, rfl, rfl, S3.ha, rfl, ?_⟩
      have S4 := S3.setA wf ((m * 44491 + 91) % 2147483647)
      refine (evd_op (evd_cb (eva_cons (evd_op (d1 [] _ .un) (evd_int (i := 64)) (rop_I ⟨by decide, by decide⟩)) eva_nil) rint1) (evd_var (i := 1) rfl) (rop_I (by omega))) [] σ1 _ Trk.nil S4.rd _ fun v H5 e5 dv => ?_
      exact ret v H5 _ _ _ _ σ1 (S4.grow wf e5) dv.intI
    · rw [List.concat_eq_append] at hz
      subst hz
      have hln := S2.ln
      rw [List.length_append, List.length_singleton] at hln
      have hne : (!decide (zs ++ [z] = [])) = true := by simp
      rw [hne]
      refine S2.at0 ⟨.inl ⟨rfl, _, SqL.of S2.hb⟩, b, _, .int z, rfl, rfl, S2.hb, by simp, ?_⟩
      have hdl : ((zs ++ [z]).map V.int).dropLast = zs.map V.int := by rw [List.map_append]; exact List.dropLast_concat
      rw [hdl]
      have S3 := S2.setB wf zs (by omega)
      have S4 : Ds K Mx Tb a b B' n (.dat (.int z)) zs m (σ1.set 2 (some (.int z))) (L2.upd H2 b (.lst (zs.map V.int))) := ⟨S3.stt.envs (envd_set (o := some (V.int z)) (s := .dat (.int z)) (show Dq K _ (V.int z) (.int z) from .int z) 2 S3.stt.env), .inr ⟨z, rfl⟩, S3.ln, S3.ha, S3.hb⟩
      refine S4.at0 ⟨.inl ⟨rfl, _, SqL.of S4.hb⟩, ?_⟩
      refine (eva_cons (evd_op (evd_var (i := 2) rfl) (evd_var (i := 1) rfl) (rop_I (i := z) (j := n) ⟨by omega, by omega⟩)) eva_nil) [] _ _ Trk.nil S4.rd _ fun vs H5 e5 dvs => ?_
      obtain ⟨v, rfl, dv⟩ := dpa1 dvs
      have hv := dv.intI
      subst hv
      have S5 := S4.grow wf e5
      refine ⟨b, _, _, rfl, rfl, S5.hb, Nat.lt_of_le_of_lt (show (zs.map V.int).length ≤ 50 by rw [List.length_map]; omega) (by decide), ?_⟩
      have S6 := S5.setB wf (zs ++ [z / n]) (by rw [List.length_append, List.length_singleton]; omega)
      rw [List.map_append] at S6
      refine (evd_op (evd_cb (eva_cons (evd_var (i := 2) rfl) eva_nil) rint1) (evd_var (i := 1) rfl) (rop_I (i := z) (j := n) (by omega))) [] _ _ Trk.nil S6.rd _ fun v H7 e7 dv => ?_
      exact ret v H7 _ _ _ _ _ (S6.grow wf e7) dv.intI
  refine ⟨fun k σ' H' => ∃ ys, ys.length = k ∧ Ds K Mx Tb a b B' n .un ys m σ' H', ⟨xs.length, xs, rfl, S0⟩, ?_⟩
  rintro k σ1 H1 ⟨ys, rfl, S1⟩
  rcases List.eq_nil_or_concat ys with rfl | ⟨zs, z, hz⟩
  · exact (evt_and (c := false) (ne0 [] m .un) fun z => by cases z) [] σ1 H1 Trk.nil S1.rd _ fun H2 e2 => rest _ _ _ (S1.grow wf e2)
  · rw [List.concat_eq_append] at hz
    subst hz
    have hln := S1.ln
    rw [List.length_append, List.length_singleton] at hln
    have hc := evt_and (ne0 (zs ++ [z]) m .un) fun _ => evt_test (evd_op (evd_op (d0 (zs ++ [z]) m .un) (evd_un (evd_int (i := 1)) run_neg) (rix_lst (d := .int z) (by rw [List.map_append]; exact atI_last))) (evd_int (i := 0)) req_int)
    have hne : (!decide (zs ++ [z] = [])) = true := by simp
    rw [hne, Bool.true_and] at hc
    refine hc [] σ1 H1 Trk.nil S1.rd _ fun H2 e2 => ?_
    have S2 := S1.grow wf e2
    by_cases h0 : z = 0
    · rw [decide_eq_true h0]
      refine ⟨fun σ2 H2 => ∃ ys, ys.length = zs.length ∧ Ds K Mx Tb a b B' n .un ys m σ2 H2, fun σ2 H2 ⟨ys, h1, h2⟩ => ⟨zs.length, by rw [List.length_append, List.length_singleton]; omega, ys, h1, h2⟩, ?_⟩
      refine S2.at0 ⟨.inl ⟨rfl, _, SqL.of S2.hb⟩, b, _, .int z, rfl, rfl, S2.hb, by simp, ?_⟩
      have hdl : ((zs ++ [z]).map V.int).dropLast = zs.map V.int := by rw [List.map_append]; exact List.dropLast_concat
      rw [hdl]
      exact ⟨zs, rfl, S2.setB wf zs (by omega)⟩
    · rw [decide_eq_false h0]
      exact rest _ _ _ S2
end CB

/-! W19 -/
set_option Elab.async false
set_option linter.all false
set_option maxRecDepth 100000
set_option maxHeartbeats 4000000
namespace CB
open PySem PySem.Spec PyProof.Rows L2
def F_law_pick (ds : List D) (Φ : D → Prop) : Prop := ∃ es : List D, ds = [.list es] ∧ 1 ≤ es.length ∧ es.length ≤ 1000 ∧ Φ = fun d => d ∈ es
/-- a text of no more than n letters below m -/
def tB (n : Nat) (m : Int) (d : D) : Prop := ∃ t : Tx, d = T t ∧ t.length ≤ n ∧ ∀ x ∈ t, 0 ≤ x ∧ x < m
def F_law_text (ds : List D) (Φ : D → Prop) : Prop := ∃ (L m : Nat), ds = [.int L, .int m] ∧ 1 ≤ L ∧ L ≤ 1000 ∧ m ≤ 1000 ∧ Φ = tB m L
variable {P : Program} {w : World} {K : PySem.W.Frag} {mg : Str → Option Value} {base : Heap} {Tb : Tbl}
theorem sc_law_pick : FnScope ["_law_deal_here", "_law_some"] ["_law_deal_here", "_law_some"] (defScope s_law_pick) := ⟨rfl, rfl, rfl, by decide +kernel, rfl, by decide +kernel, by decide +kernel⟩
theorem sc_law_text : FnScope ["_law_deal_here", "_law_letters", "_law_most", "_law_turn"] ["_law_deal_here", "_law_letters", "_law_most"] (defScope s_law_text) := ⟨rfl, rfl, rfl, by decide +kernel, rfl, by decide +kernel, by decide +kernel⟩
section
variable {Mx : List Addr} {Tb : Tbl} {a b : Addr} {ms : Ms} {Γ : List Sl} {tr te : TE}
/-- draw(deal, n) -/
theorem evm_draw {j n : Nat} (hj : Γ[j]? = some (.ref a)) (hn : EvM K Mx (Mv Tb a b) (Dl Tb a b) te ms Γ (· = .int n)) (h1 : 1 ≤ n := by omega) (h2 : n ≤ 1000000 := by omega) : EvM K Mx (Mv Tb a b) (Dl Tb a b) (tCall (spW K Tb F_law_draw) [] E0 (tCons (tVar j) (tCons te tNil))) ms Γ (ltD n) :=
  evm_callW (Φa := (· = [.int n])) hj (evma_cons hn evma_nil fun d ds h1 h2 => by rw [h1, h2]) fun ds h => ⟨n, h, h1, h2, rfl⟩
end
theorem ok_law_pick {fd : FuncData} (Fu : FnP K "_law_pick" s_law_pick [] fd) (B : Bl mg)  (h_law_draw : HasF P w K mg base 1 "_law_draw" ["_law_deal_here", "_law_bound"] [] (spW K Tb F_law_draw)) : FnOk P w K mg base (L2.CX P w) 2 (He.ga K "_law_pick") fd ["_law_deal_here", "_law_some"] (spW K Tb F_law_pick) := by
  refine fnMW Fu sc_law_pick (fun ds Φ ⟨es, h, _, _, _⟩ => by rw [h]; rfl) fun cdv A outer s H E hr => ⟨_, (pss_one (ps_ret (pe_ix (r := rIx K) ix_seq (pv 1) (pe_f h_law_draw (hr.mono (by decide)) (pa_cons (pv 0) (pa_cons (pe_callB (id := "len") (r := rLenA K) call_lenA rfl B.len boot_len (pa_cons (pv 1) pa_nil)) pa_nil))) (fun _ _ => rfl)))), fun ds Φ a b Mx ⟨es, h, h1, h2, hΦ⟩ => ?_⟩
  subst h hΦ
  refine runm_ret (Φ := fun d => d ∈ es) (evm_op (Φa := (· = .list es)) (evm_of (evd_var rfl)) (evm_draw (n := es.length) (Γ := startW ["_law_deal_here", "_law_some"] a [.list es]) (j := 0) rfl (evm_of (evd_cb (eva_cons (evd_var (i := 1) rfl) eva_nil) rlen_lst)) h1) fun x y hx hy => ?_) fun d hd => ⟨d, rfl, hd⟩
  obtain ⟨r, rfl, hr⟩ := hy
  subst hx
  exact ⟨es[r], List.getElem_mem hr, rix_lst (atI_nat (n := r) rfl (List.getElem?_eq_getElem hr))⟩
theorem ok_law_text {fd : FuncData} (Fu : FnP K "_law_text" s_law_text [] fd) (B : Bl mg)  (h_law_draw : HasF P w K mg base 1 "_law_draw" ["_law_deal_here", "_law_bound"] [] (spW K Tb F_law_draw)) : FnOk P w K mg base (L2.CX P w) 2 (He.ga K "_law_text") fd ["_law_deal_here", "_law_letters", "_law_most"] (spW K Tb F_law_text) := by
  refine fnMW Fu sc_law_text (fun ds Φ ⟨L, m, h, _, _, _, _⟩ => by rw [h]; rfl) fun cdv A outer s H E hr => ⟨_, (pss_one (ps_ret (pe_callTy (T := "tuple") (r := rTupA K) call_tupA rfl B.tuple (by decide +kernel) (pa_cons (pe_lc (own := [("_law_turn", 3)]) rfl sc_law_text.nd (pi_range1 rfl B.range (pa_cons (pe_f h_law_draw (hr.mono (by decide)) (pa_cons (pv 0) (pa_cons (pe_op (r := rAddU K) op_addU (pv 2) pe_int) pa_nil))) pa_nil)) (blkOk_by (N := ["_law_deal_here", "_law_letters", "_law_most", "_law_turn"]) (sc := defScope s_law_text) (by decide +kernel)) (fun _ _ _ _ _ => (pg_name (i := 3) sc_law_text.nd rfl (Or.inl rfl))) (fun _ _ _ _ _ => pts_nil) (fun _ _ _ _ _ => (pe_f h_law_draw (hr.mono (by decide)) (pa_cons (pv 0) (pa_cons (pv 1) pa_nil))))) pa_nil)))), fun ds Φ a b Mx ⟨L, m, h, h1, h2, h3, hΦ⟩ => ?_⟩
  subst h hΦ
  show RunM K Mx (Mv Tb a b) (Dl Tb a b) E0 _ [] [.ref a, .dat (.int L), .dat (.int m), .un] _
  refine runm_ret (Φ := tB m L) (evm_cb (Φa := fun ds => ∃ t : Tx, ds = [.list (t.map PyData.int)] ∧ t.length ≤ m ∧ ∀ x ∈ t, 0 ≤ x ∧ x < (L : Int)) (evma_cons (evm_lc
    (R := fun ds acc => ∃ t : Tx, acc = t.map PyData.int ∧ t.length + ds.length ≤ m ∧ ∀ x ∈ t, 0 ≤ x ∧ x < (L : Int))
    (iterm_rng1 (Φa := fun ds => ∃ n : Nat, ds = [.int n] ∧ n < m + 1) (evma_cons (evm_draw (n := m + 1) (j := 0) rfl (evm_of (evd_op (evd_var (i := 2) rfl) evd_int radd_int))) evma_nil fun d ds hd hds => ?_) fun ds ⟨n, h1, h2⟩ => ⟨n, h1, by omega⟩)
    (fun ds ⟨n, ⟨k, hk, hlt⟩, hds⟩ => ⟨[], rfl, by
      have e : n = k := by
        have := (List.cons.inj hk).1
        injection this with this
        omega
      rw [hds, rngD_len, List.length_nil]; omega, fun _ h => by cases h⟩) fun d ds acc ⟨t, ht, hl, hx⟩ => ⟨by rw [ht, List.length_map]; omega, _, gdw_name, fun x => evm_mono (evm_draw (n := L) (j := 0) rfl (evm_of (evd_var rfl))) fun r ⟨q, hq, hlt⟩ => ?_⟩) evma_nil fun d ds ⟨rs, hd, t, ht, hl, hx⟩ hds => ?_) fun ds ⟨t, hds, hl, hx⟩ => ?_) fun d hd => ⟨d, rfl, hd⟩
  · obtain ⟨n, rfl, hn⟩ := hd
    exact ⟨n, by rw [hds], hn⟩
  · refine ⟨t ++ [(q : Int)], by rw [ht, hq, List.map_append]; rfl, by rw [List.length_append, List.length_singleton]; rw [List.length_cons] at hl; omega, fun x hx' => ?_⟩
    rcases List.mem_append.mp hx' with z | z
    · exact hx x z
    · rw [List.mem_singleton.mp z]; omega
  · exact ⟨t, by rw [hd, hds, ht], by simpa using hl, hx⟩
  · subst hds
    exact ⟨T t, ⟨t, rfl, hl, hx⟩, rtup_lst⟩
end CB

/-! W20 -/
set_option Elab.async false
set_option linter.all false
set_option maxRecDepth 100000
set_option maxHeartbeats 4000000
namespace CB
open PySem PySem.Spec PyProof.Rows L2
/-- a dealt case -/
structure Gv (bt : Tx) (vt : List Tx) : Prop where
  b : tOk bt
  bl : bt.length ≤ 40
  v : ∀ t ∈ vt, tOk t ∧ t.length ≤ 40
  ne : vt ≠ []
  vl : vt.length ≤ 4
def gvD (d : D) : Prop := ∃ bt vt, d = .tuple [T bt, lvD vt] ∧ Gv bt vt
def F_law_versions (ds : List D) (Φ : D → Prop) : Prop := ∃ L : Nat, ds = [.int L] ∧ 1 ≤ L ∧ L ≤ 3 ∧ Φ = gvD
def okVs (n : Nat) (vt : List Tx) : Prop := vt.length = n ∧ ∀ t ∈ vt, tOk t ∧ t.length ≤ 40
variable {P : Program} {w : World} {K : PySem.W.Frag} {mg : Str → Option Value} {base : Heap} {Tb : Tbl}
theorem sc_law_versions : FnScope ["_law_deal_here", "_law_letters", "_law_kind", "_law_many", "_law_front", "_law_back", "_law_block_here", "_law_base", "_law_versions_here", "_law_turn", "_law_at"] ["_law_deal_here", "_law_letters"] (defScope s_law_versions) := ⟨rfl, rfl, rfl, by decide +kernel, rfl, by decide +kernel, by decide +kernel⟩
theorem tB_up {n n' : Nat} {L : Nat} {d : D} (h : tB n L d) (hn : n ≤ n') (hL : L ≤ 100) : tB n' 100 d := by
  obtain ⟨t, e, h1, h2⟩ := h
  exact ⟨t, e, by omega, fun x hx => by have := h2 x hx; omega⟩
theorem tB_add {n n' : Nat} {m : Int} {x y : D} (h : tB n m x) (h' : tB n' m y) (hz : n + n' ≤ 1000) : ∃ d, tB (n + n') m d ∧ ROp K (rAddU K) x y d := by
  obtain ⟨s, rfl, h1, h2⟩ := h
  obtain ⟨t, rfl, h3, h4⟩ := h'
  refine ⟨T (s ++ t), ⟨s ++ t, rfl, by rw [List.length_append]; omega, fun x hx => ?_⟩, radd_T (by omega)⟩
  rcases List.mem_append.mp hx with z | z
  · exact h2 x z
  · exact h4 x z
theorem tB_T {n : Nat} {m : Int} {t : Tx} (h1 : t.length ≤ n) (h2 : ∀ x ∈ t, 0 ≤ x ∧ x < m) : tB n m (T t) := ⟨t, rfl, h1, h2⟩
theorem rep_mem {x : Int} {t : Tx} {n : Nat} (h : x ∈ rep t n) : x ∈ t := by
  unfold rep at h
  obtain ⟨l, h1, h2⟩ := List.mem_flatten.mp h
  rw [(List.mem_replicate.mp h1).2] at h2
  exact h2
section
variable {Mx M0 : List Addr} {I : Hp → Prop} {Tb : Tbl} {a b : Addr} {ms : Ms} {Γ : List Sl} {te ti : TE} {tr : TA}
theorem evma_c {Φ : D → Prop} {Φr : List D → Prop} (h : EvM K Mx M0 I te ms Γ Φ) (hr : EvMA K Mx M0 I tr ms Γ Φr) : EvMA K Mx M0 I (tCons te tr) ms Γ (fun l => ∃ d ds, l = d :: ds ∧ Φ d ∧ Φr ds) := evma_cons h hr fun d ds a b => ⟨d, ds, rfl, a, b⟩
theorem evma_1 {Φ : D → Prop} (h : EvM K Mx M0 I te ms Γ Φ) : EvMA K Mx M0 I (tCons te tNil) ms Γ (fun l => ∃ d, l = [d] ∧ Φ d) := evma_cons h evma_nil fun d ds a b => ⟨d, by rw [b], a⟩
theorem evma_2 {Φ Φ2 : D → Prop} (h : EvM K Mx M0 I te ms Γ Φ) (h2 : EvM K Mx M0 I ti ms Γ Φ2) : EvMA K Mx M0 I (tCons te (tCons ti tNil)) ms Γ (fun l => ∃ d e, l = [d, e] ∧ Φ d ∧ Φ2 e) := evma_cons h (evma_1 h2) fun d ds a ⟨e, he, b⟩ => ⟨d, e, by rw [he], a, b⟩
theorem evm_text {j L m : Nat} (hj : Γ[j]? = some (.ref a)) (hL : EvM K Mx (Mv Tb a b) (Dl Tb a b) te ms Γ (· = .int L)) (hm : EvM K Mx (Mv Tb a b) (Dl Tb a b) ti ms Γ (· = .int m)) (h1 : 1 ≤ L := by omega) (h2 : L ≤ 1000 := by omega) (h3 : m ≤ 1000 := by omega) :
    EvM K Mx (Mv Tb a b) (Dl Tb a b) (tCall (spW K Tb F_law_text) [] E0 (tCons (tVar j) (tCons te (tCons ti tNil)))) ms Γ (tB m L) :=
  evm_callW hj (evma_2 hL hm) fun ds ⟨d, e, h, hd, he⟩ => ⟨L, m, by rw [h, hd, he], h1, h2, h3, rfl⟩
theorem evm_add {ta tb : TE} {n n' : Nat} {m : Int} (ha : EvM K Mx (Mv Tb a b) (Dl Tb a b) ta ms Γ (tB n m)) (hb : EvM K Mx (Mv Tb a b) (Dl Tb a b) tb ms Γ (tB n' m)) (hz : n + n' ≤ 1000 := by omega) : EvM K Mx (Mv Tb a b) (Dl Tb a b) (tOp (rAddU K) ta tb) ms Γ (tB (n + n') m) :=
  evm_op ha hb fun x y hx hy => tB_add hx hy hz
end
theorem ok_law_versions {fd : FuncData} (Fu : FnP K "_law_versions" s_law_versions [] fd) (B : Bl mg)  (h_law_draw : HasF P w K mg base 1 "_law_draw" ["_law_deal_here", "_law_bound"] [] (spW K Tb F_law_draw)) (h_law_text : HasF P w K mg base 2 "_law_text" ["_law_deal_here", "_law_letters", "_law_most"] [] (spW K Tb F_law_text)) : FnOk P w K mg base (L2.CX P w) 3 (He.ga K "_law_versions") fd ["_law_deal_here", "_law_letters"] (spW K Tb F_law_versions) := by
  refine fnMW Fu sc_law_versions (fun ds Φ ⟨L, h, _, _, _⟩ => by rw [h]; rfl) fun cdv A outer s H E hr => ⟨_, (pss_cons (ps_par (i := 2) (j := 3) rfl sc_law_versions.nd rfl rfl (by decide) rfl rfl (pa_cons (pe_f h_law_draw (hr.mono (by decide)) (pa_cons (pv 0) (pa_cons pe_int pa_nil))) (pa_cons (pe_op (r := rAddU K) op_addU pe_int (pe_f h_law_draw (hr.mono (by decide)) (pa_cons (pv 0) (pa_cons pe_int pa_nil)))) pa_nil)) (by rfl))
      (pss_cons (ps_asg (pe_tup (pa_cons (pe_f h_law_text (hr.mono (by decide)) (pa_cons (pv 0) (pa_cons (pv 1) (pa_cons pe_int pa_nil)))) (pa_cons (pe_f h_law_text (hr.mono (by decide)) (pa_cons (pv 0) (pa_cons (pv 1) (pa_cons pe_int pa_nil)))) pa_nil))) (pg_tup rfl (pgs_cons (pg_name (i := 4) sc_law_versions.nd rfl (Or.inr rfl)) (pgs_cons (pg_name (i := 5) sc_law_versions.nd rfl (Or.inr rfl)) pgs_nil))))
      (pss_cons (ps_set (i := 6) sc_law_versions.nd rfl (Or.inr rfl) (pe_op (r := rAddU K) op_addU (pe_tup (pa_cons (pe_f h_law_draw (hr.mono (by decide)) (pa_cons (pv 0) (pa_cons (pv 1) pa_nil))) pa_nil)) (pe_f h_law_text (hr.mono (by decide)) (pa_cons (pv 0) (pa_cons (pv 1) (pa_cons pe_int pa_nil))))))
      (pss_cons (ps_if (pt_cmpR (r := rEqD K) (op_eqD hr.units) (pv 2) pe_int (nomark _)) (pss_cons (ps_set (i := 7) sc_law_versions.nd rfl (Or.inl rfl) (pe_tup pa_nil))
      (pss_one (ps_setLc (own := [("_law_turn", 9)]) (i := 8) rfl sc_law_versions.nd rfl rfl (sw_true rfl rfl rfl (by decide +kernel)) (pi_range1 rfl B.range (pa_cons (pv 3) pa_nil)) (blkOk_by (N := ["_law_deal_here", "_law_letters", "_law_kind", "_law_many", "_law_front", "_law_back", "_law_block_here", "_law_base", "_law_versions_here", "_law_turn", "_law_at"]) (sc := defScope s_law_versions) (by decide +kernel)) (fun _ _ _ _ _ => (pg_name (i := 9) sc_law_versions.nd rfl (Or.inl rfl))) (fun _ _ _ _ _ => pts_nil) (fun _ _ _ _ _ => (pe_f h_law_text (hr.mono (by decide)) (pa_cons (pv 0) (pa_cons (pv 1) (pa_cons pe_int pa_nil)))))))) (pss_one (ps_if (pt_cmpR (r := rEqD K) (op_eqD hr.units) (pv 2) pe_int (nomark _)) (pss_cons (ps_set (i := 7) sc_law_versions.nd rfl (Or.inl rfl) (pe_op (r := rAddU K) op_addU (pe_op (r := rAddU K) op_addU (pv 4) (pv 6)) (pv 5)))
      (pss_cons (ps_set (i := 8) sc_law_versions.nd rfl (Or.inl rfl) (pe_lst pa_nil))
      (pss_one (ps_for PassesOwn.never rfl (pi_range1 rfl B.range (pa_cons (pv 3) pa_nil)) (pg_name (i := 9) sc_law_versions.nd rfl (Or.inl rfl))
      (pss_cons (ps_set (i := 10) sc_law_versions.nd rfl (Or.inl rfl) (pe_f h_law_draw (hr.mono (by decide)) (pa_cons (pv 0) (pa_cons (pe_op (r := rAddU K) op_addU (pe_callB (id := "len") (r := rLenA K) call_lenA rfl B.len boot_len (pa_cons (pv 7) pa_nil)) pe_int) pa_nil))))
      (pss_one (ps_expr (pe_bm PySem.F.plainAttrs_list PySem.F.slot_list_append PySem.F.type_list_append mt_append (pv 8) (pa_cons (pe_op (r := rAddU K) op_addU (pe_op (r := rAddU K) op_addU (pe_slice (r := rSlU K) sl_U (pv 7) po_none (po_some (pv 10))) (pe_f h_law_text (hr.mono (by decide)) (pa_cons (pv 0) (pa_cons (pv 1) (pa_cons pe_int pa_nil))))) (pe_slice (r := rSlU K) sl_U (pv 7) (po_some (pe_op (r := rAddU K) op_addU (pv 10) (pe_f h_law_draw (hr.mono (by decide)) (pa_cons (pv 0) (pa_cons pe_int pa_nil))))) po_none)) pa_nil))))))))) (pss_cons (ps_set (i := 7) sc_law_versions.nd rfl (Or.inl rfl) (pe_op (r := rAddU K) op_addU (pe_op (r := rAddU K) op_addU (pv 4) (pe_op (r := rMulU K) op_mulU (pv 6) (pe_f h_law_draw (hr.mono (by decide)) (pa_cons (pv 0) (pa_cons pe_int pa_nil))))) (pv 5)))
      (pss_cons (ps_setLc (own := [("_law_turn", 9)]) (i := 8) rfl sc_law_versions.nd rfl rfl (sw_true rfl rfl rfl (by decide +kernel)) (pi_range1 rfl B.range (pa_cons (pv 3) pa_nil)) (blkOk_by (N := ["_law_deal_here", "_law_letters", "_law_kind", "_law_many", "_law_front", "_law_back", "_law_block_here", "_law_base", "_law_versions_here", "_law_turn", "_law_at"]) (sc := defScope s_law_versions) (by decide +kernel)) (fun _ _ _ _ _ => (pg_name (i := 9) sc_law_versions.nd rfl (Or.inl rfl))) (fun _ _ _ _ _ => pts_nil) (fun _ _ _ _ _ => (pe_op (r := rAddU K) op_addU (pe_op (r := rAddU K) op_addU (pv 4) (pe_op (r := rMulU K) op_mulU (pv 6) (pe_f h_law_draw (hr.mono (by decide)) (pa_cons (pv 0) (pa_cons pe_int pa_nil))))) (pv 5))))
      (pss_one (ps_if (pt_cmpR (r := rEqD K) (op_eqD hr.units) (pv 2) pe_int (nomark _)) (pss_one (ps_asg (pe_f h_law_text (hr.mono (by decide)) (pa_cons (pv 0) (pa_cons (pv 1) (pa_cons pe_int pa_nil)))) (pg_sub (pv 8) (pe_f h_law_draw (hr.mono (by decide)) (pa_cons (pv 0) (pa_cons (pv 3) pa_nil))) set_list))) pss_nil)))))))
      (pss_cons (ps_if (pt_cmpR (r := rEqD K) (op_eqD hr.units) (pe_f h_law_draw (hr.mono (by decide)) (pa_cons (pv 0) (pa_cons pe_int pa_nil))) pe_int (nomark _)) (pss_one (ps_asg (pv 7) (pg_sub (pv 8) (pe_f h_law_draw (hr.mono (by decide)) (pa_cons (pv 0) (pa_cons (pv 3) pa_nil))) set_list))) pss_nil)
      (pss_one (ps_ret (pe_tup (pa_cons (pv 7) (pa_cons (pv 8) pa_nil)))))))))), fun ds Φ a b Mx ⟨L, h, hL1, hL2, hΦ⟩ => ?_⟩
  subst h hΦ
  refine runm_parM (evma_2 (evm_draw (n := 5) (j := 0) rfl (evm_of evd_int)) (evm_op (Φ' := fun d => ∃ n : Nat, d = .int n ∧ 1 ≤ n ∧ n ≤ 4) (evm_of (evd_int (i := 1))) (evm_draw (n := 4) (j := 0) rfl (evm_of evd_int)) fun x y hx hy => ?_)) fun ds ⟨d, e, hds, ⟨k, hk, _⟩, n, hn, hn1, hn2⟩ => ⟨.int (k : Nat), .int (n : Nat), by rw [hds, hk, hn], ?_⟩
  · obtain ⟨r, rfl, hr⟩ := hy
    subst hx
    exact ⟨.int ((1 + r : Nat) : Int), ⟨1 + r, rfl, by omega, by omega⟩, by
      have : ((1 + r : Nat) : Int) = 1 + (r : Int) := by omega
      rw [this]; exact radd_int⟩
  show RunM K Mx (Mv Tb a b) (Dl Tb a b) E0 _ [] [.ref a, .dat (.int L), .dat (.int k), .dat (.int n), .un, .un, .un, .un, .un, .un, .un] _
  refine runm_asgT (Φ := fun d => ∃ x y, d = .tuple [x, y] ∧ tB 2 100 x ∧ tB 2 100 y) (evm_tup (evma_2 (evm_text (L := L) (m := 2) (j := 0) rfl (evm_of (evd_var rfl)) (evm_of evd_int)) (evm_text (L := L) (m := 2) (j := 0) rfl (evm_of (evd_var rfl)) (evm_of evd_int))) (fun ds ⟨x, y, h, _, _⟩ => by rw [h]; simp) fun ds ⟨x, y, h, h1, h2⟩ => ⟨x, y, by rw [h], tB_up h1 (by omega) (by omega), tB_up h2 (by omega) (by omega)⟩) fun d ⟨x, y, hd, hx, hy⟩ => ?_
  subst hd
  obtain ⟨f, rfl, hf1, hf2⟩ := hx
  obtain ⟨bk, rfl, hk1, hk2⟩ := hy
  refine ⟨[.ref a, .dat (.int L), .dat (.int k), .dat (.int n), .dat (T f), .dat (T bk), .un, .un, .un, .un, .un], gd_tup (gds_cons gd_name (gds_cons gd_name gds_nil)), ?_⟩
  refine runm_asgN (Φ := fun d => ∃ t : Tx, d = T t ∧ t ≠ [] ∧ t.length ≤ 3 ∧ ∀ x ∈ t, 0 ≤ x ∧ x < (100 : Int)) (evm_op (Φa := fun d => ∃ r : Nat, d = T [(r : Int)] ∧ r < L) (evm_tup (evma_1 (evm_draw (n := L) (j := 0) rfl (evm_of (evd_var rfl)))) (fun ds ⟨d, h, _⟩ => by rw [h]; simp) fun ds ⟨d, h1, r, h2, h3⟩ => ⟨r, by rw [h1, h2]; rfl, h3⟩) (evm_text (L := L) (m := 2) (j := 0) rfl (evm_of (evd_var rfl)) (evm_of evd_int)) fun x y ⟨r, hx, hr⟩ ⟨t, hy, ht1, ht2⟩ => ?_) fun d ⟨blk, hd, hb0, hb1, hb2⟩ => ?_
  · subst hx hy
    refine ⟨T ([(r : Int)] ++ t), ⟨_, rfl, by simp, by rw [List.length_append, List.length_singleton]; omega, fun x hx => ?_⟩, radd_T (by rw [List.length_singleton]; omega)⟩
    rcases List.mem_append.mp hx with z | z
    · rw [List.mem_singleton.mp z]; omega
    · have := ht2 x z; omega
  subst hd
  show RunM K Mx (Mv Tb a b) (Dl Tb a b) E0 _ [] [.ref a, .dat (.int L), .dat (.int k), .dat (.int n), .dat (T f), .dat (T bk), .dat (T blk), .un, .un, .un, .un] _
  refine runm_seq (Ψ' := fun o' ms' => ∃ x bt vt s9 s10, o' = .nx [.ref a, .dat (.int L), .dat (.int k), .dat (.int n), .dat (T f), .dat (T bk), .dat (T blk), .dat (T bt), .ref x, s9, s10] ∧ ms' = [(x, vt.map T)] ∧ tOk bt ∧ bt.length ≤ 40 ∧ okVs n vt) ?_ (fun Γ1 ms1 h => ?_) (fun o' ms1 h hn => by
    obtain ⟨_, _, _, _, _, h1, _⟩ := h
    exact absurd h1 (hn _))
  · have hLt : ∀ (j : Nat) (ms : Ms) (Γ : List Sl), j ≤ 1000 → Γ[0]? = some (.ref a) → Γ[1]? = some (.dat (.int L)) → EvM K Mx (Mv Tb a b) (Dl Tb a b) (tCall (spW K Tb F_law_text) [] E0 (tCons (tVar 0) (tCons (tVar 1) (tCons (tC (.int j)) tNil)))) ms Γ (tB j 100) := fun j ms Γ hj h0 h1 =>
      evm_mono (evm_text (L := L) (m := j) (j := 0) h0 (evm_of (evd_var h1)) (evm_of evd_int)) fun d hd => tB_up hd (by omega) (by omega)
    have hmul : ∀ (j : Nat) (ms : Ms) (Γ : List Sl), 1 ≤ j → j ≤ 10 → Γ[0]? = some (.ref a) → Γ[6]? = some (.dat (T blk)) → EvM K Mx (Mv Tb a b) (Dl Tb a b) (tOp (rMulU K) (tVar 6) (tCall (spW K Tb F_law_draw) [] E0 (tCons (tVar 0) (tCons (tC (.int j)) tNil)))) ms Γ (tB (3 * j) 100) := fun j ms Γ h1 h2 h0 h6 =>
      evm_op (evm_of (evd_var h6)) (evm_draw (n := j) (j := 0) h0 (evm_of evd_int)) fun x y hx ⟨r, hy, hr⟩ => by
        subst hx hy
        refine ⟨T (rep blk (r : Int).toNat), ⟨_, rfl, ?_, fun x hx => hb2 x (rep_mem hx)⟩, rmul_T hb0 (by omega) (by omega) (by omega)⟩
        rw [rep_len, Int.toNat_natCast]
        have : r * blk.length ≤ r * 3 := Nat.mul_le_mul_left _ hb1
        omega
    have hvar : ∀ (i m : Nat) (t : Tx) (ms : Ms) (Γ : List Sl), Γ[i]? = some (.dat (T t)) → t.length ≤ m → (∀ x ∈ t, 0 ≤ x ∧ x < (100 : Int)) → EvM K Mx (Mv Tb a b) (Dl Tb a b) (tVar i) ms Γ (tB m 100) := fun i m t ms Γ h h1 h2 => evm_mono (evm_of (evd_var h)) fun d hd => by rw [hd]; exact tB_T h1 h2
    have hnext : ∀ (vt : List Tx) (acc : List D) (r : D) (ds : List D) (d : D), acc = vt.map T → vt.length + (d :: ds).length = n → (∀ t ∈ vt, tOk t ∧ t.length ≤ 40) → tB 40 100 r → ∃ vt' : List Tx, acc ++ [r] = vt'.map T ∧ vt'.length + ds.length = n ∧ ∀ t ∈ vt', tOk t ∧ t.length ≤ 40 := fun vt acc r ds d h1 h2 h3 ⟨t, hr, ht1, ht2⟩ => by
      refine ⟨vt ++ [t], by rw [h1, hr, List.map_append]; rfl, by rw [List.length_append, List.length_singleton]; rw [List.length_cons] at h2; omega, fun q hq => ?_⟩
      rcases List.mem_append.mp hq with z | z
      · exact h3 q z
      · rw [List.mem_singleton.mp z]; exact ⟨ht2, ht1⟩
    have hup : ∀ {m : Nat} {d : D}, tB m 100 d → m ≤ 40 → tB 40 100 d := fun ⟨t, e, h1, h2⟩ h => ⟨t, e, by omega, h2⟩
    have ht : ∀ (c : Int) (s7 s8 s9 s10 : Sl), EvT K (tTest (tOp (rEqD K) (tVar 2) (tC (.int c)))) [.ref a, .dat (.int L), .dat (.int k), .dat (.int n), .dat (T f), .dat (T bk), .dat (T blk), s7, s8, s9, s10] (decide ((k : Int) = c)) := fun c s7 s8 s9 s10 => evt_test (evd_op (evd_var rfl) evd_int req_int)
    have iter : ∀ (ms : Ms) (s7 s8 s9 s10 : Sl), IterM K Mx (Mv Tb a b) (Dl Tb a b) (iRng1 (tCons (tVar 3) tNil)) ms [.ref a, .dat (.int L), .dat (.int k), .dat (.int n), .dat (T f), .dat (T bk), .dat (T blk), s7, s8, s9, s10] (· = rngD 0 n) := fun ms s7 s8 s9 s10 => by
      have := iterm_of (Mx := Mx) (M0 := Mv Tb a b) (I := Dl Tb a b) (ms := ms) (itd_rng1 (K := K) (n := (n : Int)) (Γ := [.ref a, .dat (.int L), .dat (.int k), .dat (.int n), .dat (T f), .dat (T bk), .dat (T blk), s7, s8, s9, s10]) (eva_cons (evd_var (i := 3) rfl) eva_nil))
      exact this
    refine runm_if (Thw.refl _) (ht 0 _ _ _ _) (fun _ => ?_) fun _ => runm_if (Thw.refl _) (ht 1 _ _ _ _) (fun _ => ?_) fun _ => ?_
    · -- an empty base
      refine runm_nx (run_asg (d := T []) (evd_tup (ds := []) eva_nil) gd_name) ?_
      refine runm_lcE (R := fun ds acc => ∃ vt : List Tx, acc = vt.map T ∧ vt.length + ds.length = n ∧ ∀ t ∈ vt, tOk t ∧ t.length ≤ 40) (iter _ _ _ _ _) (fun ds h => ⟨[], rfl, by rw [h, rngD_len, List.length_nil]; omega, fun _ h => (by cases h)⟩) (fun d ds acc ⟨vt, h1, h2, h3⟩ => ⟨by rw [h1, List.length_map]; omega, _, gdw_name, fun x => evm_mono (hLt 3 _ _ (by omega) rfl rfl) fun r hr => hnext vt acc r ds d h1 h2 h3 (hup hr (by omega))⟩) fun x rs ⟨vt, h1, h2, h3⟩ => ⟨x, [], vt, _, _, rfl, by rw [h1], (fun _ h => (by cases h)), by simp, by simpa using h2, h3⟩
    · -- the base cut and spliced
      refine runm_asgN (Φ := tB 7 100) (evm_mono (evm_add (evm_add (hvar 4 2 f _ _ rfl hf1 hf2) (hvar 6 3 blk _ _ rfl hb1 hb2)) (hvar 5 2 bk _ _ rfl hk1 hk2)) fun d h => h) fun d ⟨bt, hd, hl, hb⟩ => ?_
      subst hd
      refine runm_new (j := 8) eva_nil (by simp) fun x => ?_
      show RunM K Mx (Mv Tb a b) (Dl Tb a b) E0 _ [(x, [])] [.ref a, .dat (.int L), .dat (.int k), .dat (.int n), .dat (T f), .dat (T bk), .dat (T blk), .dat (T bt), .ref x, .un, .un] _
      refine runm_for (R := fun es ms Γ => ∃ (vt : List Tx) (s9 s10 : Sl), ms = [(x, vt.map T)] ∧ Γ = [.ref a, .dat (.int L), .dat (.int k), .dat (.int n), .dat (T f), .dat (T bk), .dat (T blk), .dat (T bt), .ref x, s9, s10] ∧ vt.length + es.length = n ∧ ∀ t ∈ vt, tOk t ∧ t.length ≤ 40) (itd_rng1 (n := (n : Int)) (eva_cons (evd_var (i := 3) rfl) eva_nil)) ⟨[], _, _, rfl, rfl, by rw [rngD_len, List.length_nil]; omega, fun _ h => (by cases h)⟩ ?_ ?_
      · rintro d es ms Γ ⟨vt, s9, s10, rfl, rfl, hvl, hv⟩
        refine ⟨_, gd_name, ?_⟩
        refine runm_asgN (Φ := ltD (bt.length + 1)) (evm_draw (n := bt.length + 1) (j := 0) rfl (evm_of (evd_op (evd_cb (eva_cons (evd_var (i := 7) rfl) eva_nil) rlen_T) evd_int radd_int))) fun d' ⟨r, hr, hrl⟩ => ?_
        subst hr
        show RunM K Mx (Mv Tb a b) (Dl Tb a b) E0 _ _ [.ref a, .dat (.int L), .dat (.int k), .dat (.int n), .dat (T f), .dat (T bk), .dat (T blk), .dat (T bt), .ref x, .dat d, .dat (.int r)] _
        have hpre : EvM K Mx (Mv Tb a b) (Dl Tb a b) (tSl (rSlU K) (tVar 7) tNoPart (tPart (tVar 10))) [(x, vt.map T)] [.ref a, .dat (.int L), .dat (.int k), .dat (.int n), .dat (T f), .dat (T bk), .dat (T blk), .dat (T bt), .ref x, .dat d, .dat (.int r)] (tB 7 100) := evm_mono (evm_of (d := T (bt.take r)) (by
          rw [← cut_pre (xs := bt) (i := (r : Int)) rfl]
          exact evd_sl (evd_var rfl) evo_no (evo_some (evd_var rfl)) rsl_T)) fun d hd => by
            rw [hd]
            exact tB_T (by rw [List.length_take]; omega) fun y hy => hb y (List.mem_of_mem_take hy)
        have hsuf : EvM K Mx (Mv Tb a b) (Dl Tb a b) (tSl (rSlU K) (tVar 7) (tPart (tOp (rAddU K) (tVar 10) (tCall (spW K Tb F_law_draw) [] E0 (tCons (tVar 0) (tCons (tC (.int 2)) tNil))))) tNoPart) [(x, vt.map T)] [.ref a, .dat (.int L), .dat (.int k), .dat (.int n), .dat (T f), .dat (T bk), .dat (T blk), .dat (T bt), .ref x, .dat d, .dat (.int r)] (tB 7 100) :=
          evm_sl (th := tVar 0) (evm_of (evd_var rfl)) (evm_op (Φ' := fun d => ∃ q : Nat, d = .int q) (evm_of (evd_var rfl)) (evm_draw (n := 2) (j := 0) rfl (evm_of evd_int)) fun x y hx ⟨q, hy, _⟩ => by
            subst hx hy
            exact ⟨.int ((r + q : Nat) : Int), ⟨r + q, rfl⟩, by
              have : ((r + q : Nat) : Int) = (r : Int) + (q : Int) := by omega
              rw [this]; exact radd_int⟩) fun x y hx ⟨q, hy⟩ => by
            subst hx hy
            refine ⟨q, T (bt.drop q), rfl, tB_T (by rw [List.length_drop]; omega) fun y hy => hb y (List.mem_of_mem_drop hy), ?_⟩
            rw [← cut_suf (xs := bt) (i := (q : Int)) rfl]
            exact rsl_T
        refine runm_appE (tr := tNil) (j := 8) (x := x) (ds := vt.map T) rfl List.mem_cons_self rfl (by rw [List.length_map]; omega) (evm_add (evm_add hpre (hLt 1 _ _ (by omega) rfl rfl)) hsuf) fun r' hr' => ?_
        obtain ⟨vt', h1, h2, h3⟩ := hnext vt (vt.map T) r' es d rfl hvl hv (hup hr' (by omega))
        refine ⟨vt', _, _, ?_, rfl, h2, h3⟩
        unfold setM
        rw [List.map_cons, List.map_nil, if_pos rfl, h1]
      · rintro ms Γ ⟨vt, s9, s10, rfl, rfl, hvl, hv⟩
        exact ⟨x, bt, vt, _, _, rfl, rfl, hb, by omega, by simpa using hvl, hv⟩
    · -- so many blocks
      refine runm_asgN (Φ := tB 19 100) (evm_mono (evm_add (evm_add (hvar 4 2 f _ _ rfl hf1 hf2) (hmul 5 _ _ (by omega) (by omega) rfl rfl)) (hvar 5 2 bk _ _ rfl hk1 hk2)) fun d h => h) fun d ⟨bt, hd, hl, hb⟩ => ?_
      subst hd
      refine runm_lcN (R := fun ds acc => ∃ vt : List Tx, acc = vt.map T ∧ vt.length + ds.length = n ∧ ∀ t ∈ vt, tOk t ∧ t.length ≤ 40) (iter _ _ _ _ _) (fun ds h => ⟨[], rfl, by rw [h, rngD_len, List.length_nil]; omega, fun _ h => (by cases h)⟩) (fun d ds acc ⟨vt, h1, h2, h3⟩ => ⟨by rw [h1, List.length_map]; omega, _, gdw_name, fun x => evm_mono (evm_add (evm_add (hvar 4 2 f _ _ rfl hf1 hf2) (hmul 4 _ _ (by omega) (by omega) rfl rfl)) (hvar 5 2 bk _ _ rfl hk1 hk2)) fun r hr => hnext vt acc r ds d h1 h2 h3 (hup hr (by omega))⟩) fun x rs ⟨vt, h1, h2, h3⟩ => ?_
      subst h1
      have hv : okVs n vt := ⟨by simpa using h2, h3⟩
      refine runm_if (Thw.refl _) (ht 2 _ _ _ _) (fun _ => ?_) fun _ => runm_end run_next ⟨x, bt, vt, _, _, rfl, rfl, hb, by omega, hv⟩
      refine runm_setI (j := 8) (x := x) (ds := vt.map T) (Φ := tB 4 100) (Φ' := ltD n) rfl List.mem_cons_self (hLt 4 _ _ (by omega) rfl rfl) (evm_draw (n := n) (j := 0) rfl (evm_of (evd_var rfl))) (fun d' ⟨r, h, hr⟩ => ⟨r, h, by rw [List.length_map, hv.1]; exact hr⟩) fun d r ⟨t, hd, ht1, ht2⟩ _ hr => ⟨x, bt, vt.set r t, _, _, rfl, ?_, hb, by omega, by rw [List.length_set]; exact hv.1, fun q hq => ?_⟩
      · subst hd
        unfold setM
        rw [List.map_cons, List.map_nil, if_pos rfl, List.map_set]
      · rcases List.mem_or_eq_of_mem_set hq with z | z
        · exact hv.2 q z
        · rw [z]; exact ⟨ht2, by omega⟩
  · obtain ⟨x, bt, vt, s9, s10, h1, rfl, hb, hbl, hv⟩ := h
    cases h1
    refine runm_seq (Ψ' := fun o' ms' => ∃ vt, o' = .nx [.ref a, .dat (.int L), .dat (.int k), .dat (.int n), .dat (T f), .dat (T bk), .dat (T blk), .dat (T bt), .ref x, s9, s10] ∧ ms' = [(x, vt.map T)] ∧ okVs n vt) ?_ (fun Γ1 ms1 h => ?_) (fun o' ms1 h hn => by
      obtain ⟨_, h1, _⟩ := h
      exact absurd h1 (hn _))
    · refine runm_ifM (evm_op (evm_draw (n := 4) (j := 0) rfl (evm_of evd_int)) (evm_of (evd_int (i := 0))) fun x y ⟨r, hx, _⟩ hy => ?_) ?_ (runm_end run_next ⟨vt, rfl, rfl, hv⟩)
      · subst hx hy
        exact ⟨_, ⟨_, rfl⟩, req_int⟩
      · refine runm_setI (j := 8) (x := x) (ds := vt.map T) (Φ := (· = T bt)) (Φ' := ltD n) rfl List.mem_cons_self (evm_of (evd_var rfl)) (evm_draw (n := n) (j := 0) rfl (evm_of (evd_var rfl))) (fun d' ⟨r, h, hr⟩ => ⟨r, h, by rw [List.length_map, hv.1]; exact hr⟩) fun d r hd _ hr => ⟨vt.set r bt, rfl, ?_, by rw [List.length_set]; exact hv.1, fun t ht => ?_⟩
        · subst hd
          unfold setM
          rw [List.map_cons, List.map_nil, if_pos rfl, List.map_set]
        · rcases List.mem_or_eq_of_mem_set ht with z | z
          · exact hv.2 t z
          · rw [z]; exact ⟨hb, hbl⟩
    · obtain ⟨vt, h1, rfl, hv⟩ := h
      cases h1
      refine runm_retT (d := .tuple [T bt, lvD vt]) (Γ' := [.ref a, .dat (.int L), .dat (.int k), .dat (.int n), .dat (T f), .dat (T bk), .dat (T blk), .dat (T bt), .dat (.list (vt.map T)), s9, s10]) (.same (.same (.same (.same (.same (.same (.same (.same (.own List.mem_cons_self (Thw.refl _)))))))))) (evd_tup (eva_cons (evd_var rfl) (eva_cons (evd_var rfl) eva_nil))) ⟨_, rfl, bt, vt, rfl, hb, hbl, hv.2, fun z => ?_, by rw [hv.1]; omega⟩
      have := hv.1
      rw [z, List.length_nil] at this
      omega
end CB

/-! R5 -/
set_option Elab.async false
set_option linter.all false
set_option maxRecDepth 100000
set_option maxHeartbeats 4000000
namespace CB
open PySem PySem.Spec PyProof.Rows L2
/-! ### defs that show data: nothing is being shown around them -/
structure FnOkG (P : Program) (w : World) (K : PySem.W.Frag) (mg : Str → Option Value) (base : Heap) (CX : CXT) (k : Nat) (f : Addr) (fd : FuncData) (ps : List Str) (sp : Sp) : Prop where
  len : ∀ vs H Q E, sp vs H Q E → vs.length = ps.length
  run : ∀ (A : Around) (outer : List Env) (s : Shared) (H : Hp) (args : Args) (us : List Value) (vs : List V) (Q : VK) (E : XK), Room k A → A.guards = some [] → Env0 P w K mg base A outer s H → BindsTo s fd args (ps.zip us) → Vals vs us → sp vs H Q E →
    codeAny (model P w) A (.call (.ref f) args) (CR CX outer P w H s Q E) s
structure HasFG (P : Program) (w : World) (K : Fg) (mg : Str → Option Value) (base : Heap) (k : Nat) (x : Str) (ps : List Str) (ds : List Value) (sp : Sp) : Prop where
  mgx : mg x = some (.ref (He.ga K x))
  kp : PySem.W.keepIn K (.ref (He.ga K x)) = true
  ex : ∃ fd, FnOkG P w K mg base (L2.CX P w) k (He.ga K x) fd ps sp ∧ Binds K fd ps ds
section
variable {P : Program} {w : World} {K : PySem.W.Frag} {mg : Str → Option Value} {base : Heap} {x qual : Str} {params : Arguments} {body : List Stmt} {scope : Scope} {dvs : List V} {kws : List (Str × V)} {f : Addr} {fd : FuncData}
theorem funD_okG {CX : CXT} {N ps : List Str} {k : Nat} {sp : Sp} (F : FunD K x qual params body scope dvs kws f fd) (S : FnScope N ps scope) (len : ∀ vs H Q E, sp vs H Q E → vs.length = ps.length)
    (hbody : ∀ (cdv : Value) (A : Around) (outer : List Env) (s : Shared) (H : Hp) (vs : List V) (Q : VK) (E : XK), Room k (A.deeper (envOfC qual scope s.heap.objs.size f cdv)) → A.guards = some [] → sp vs H Q E →
      ∃ t, PSs (cxOf CX P w K mg base N qual scope f cdv A outer s H E) body t ∧ t { nx := fun _ H' => Q .non H', rt := Q } (L2.start N vs) H) : FnOkG P w K mg base CX (k + 1) f fd ps sp := by
  obtain ⟨oc, od, dV, kV, doc, pm, an, cdv, ct, osl, rfl, lk, hcd, _, _⟩ := F.ex
  exact ⟨len, fun A outer s H args us vs Q E hr hg e0 hb r hsp => LamX.run_ofS lk hcd S hr e0 hb r (len _ _ _ _ hsp) fun hr' => hbody cdv A outer s H vs Q E hr' hg hsp⟩
end
section
variable {X : Cx} {k : Nat} {x : Str} {ps : List Str} {sp : Sp} {dvs : List V} {ds : List Value} {E : XK} {p pos : Pos} {e : Expr} {es : List Expr} {t : TA} {f : Addr} {fd : FuncData}
theorem run_fnG {CX : CXT} {pins : List (Addr × Obj)} {σ : L2.St} {H : Hp} {s : Shared} {Q : VK} {us : List Value} {vs : List V} (F : FnOkG X.prog X.w X.K X.mg X.base CX k f fd ps sp) (hgd : X.A.guards = some []) (hr : Room k X.A) (hb : Binds X.K fd ps ds) (hd : Vals dvs ds) (hx : Passes CX X E)
    (I : Inv X pins σ H s) (r : Vals vs us) (h : sp (vs ++ dvs) H Q E) : wpAny (model X.prog X.w) X.A (call (.ref f) us) (EP X pins σ Q) X.xe s := by
  have r2 : Vals (vs ++ dvs) (us ++ ds) := r.append hd
  have hl : (us ++ ds).length = ps.length := by rw [← r2.length]; exact F.len _ _ _ _ h
  refine wpAny_call (codeAny_mono (F.run X.A X.stack s H ⟨us, []⟩ (us ++ ds) (vs ++ dvs) Q E hr hgd I.env0 (hb s us I.kIn hl) r2 h) fun r s' hq => ?_)
  cases r with
  | error e => exact hx pins σ H s e s' I hq
  | ok fl =>
    cases fl with
    | ret u => exact I.after hq
    | next => exact False.elim hq
    | brk => exact False.elim hq
    | cont => exact False.elim hq
theorem pe_fG (F : HasFG X.prog X.w X.K X.mg X.base k x ps [] sp) (hgd : X.A.guards = some []) (hr : Room k X.A) (ha : PA X (e :: es) t) (hg : Gl X x := by rfl) (hdb : (x == ("__debug__" : Str)) = false := by decide)
    (he : starEach (e :: es) X.env = (false, eval e X.env) :: starEach es X.env := by rfl) (hpl : (backTo pos (starEach es X.env)).any (·.1) = false := by rfl) : PE X (.Call (.Name x p) (e :: es) [] pos) (tCall sp [] E0 t) := by
  obtain ⟨fd, G, b⟩ := F.ex
  refine ⟨fun pins s σ H Q I h => ?_⟩
  refine wpAny_Call_Name_kw (ld_glob I hg F.mgx ?_ hdb)
  refine PySem.W.callWith_K (h₀ := X.base) I.ok.mod.kin F.kp (thn (ha.run pos pins s σ H _ I h) fun us s1 ⟨vs, H1, I1, r, q⟩ => ⟨I1.kIn, ?_⟩) he hpl
  exact run_fnG G hgd hr b .nil passL I1 r q
/-! ### repr -/
def rRepr (K : Fg) : List V → Hp → VK → Prop := fun xs H Q => ∃ v d, xs = [v] ∧ Dp K H v d ∧ (v = .non ∨ ∃ a, v = .ref a) ∧ d.showable = true ∧ d.hasDict = false ∧ d.depth ≤ 64 ∧ d.shown.length ≤ sizeLine ∧ Q (.str d.shown) H
theorem call_repr (hg : X.A.guards = some []) (hu : X.A.units + 100 < cLine) : CallR X (.builtin "repr") (rRepr X.K) := by
  intro pins s σ H xs us Q I r h
  obtain ⟨v, d, rfl, dp, hv, hs, hd, hdp, hz, q⟩ := h
  obtain ⟨u, rfl, ru⟩ := r.one
  obtain ⟨as, rd⟩ := Dp.reads I d v u dp ru
  rcases hv with rfl | ⟨a, rfl⟩
  · cases dp
    cases (show u = Value.none from ru)
    exact PySem.P.repr_of_none ⟨.str _, H, I.tok _, ⟨_, rfl⟩, q⟩
  · obtain rfl : u = Value.ref a := ru
    exact repr_of_reads' rd hs (PyData.noDict_hsm hd) hg (by omega) (fun _ _ e => e) (fun h' u tk hk => ⟨.str _, H, I.kept (t' := tk) hk, ⟨_, rfl⟩, q⟩) hz
end
end CB

/-! R6 -/
set_option Elab.async false
set_option linter.all false
set_option maxRecDepth 100000
set_option maxHeartbeats 4000000
namespace CB
open PySem PySem.Spec PyProof.Rows L2
mutual
/-- shown without dicts and lists, its ints not too long -/
def sh : D → Bool
  | .none => true
  | .bool _ => true
  | .int i => decide (i.natAbs.log2 < 1920)
  | .str _ => true
  | .tuple ds => shs ds
  | .list _ => false
  | .dict _ => false
def shs : List D → Bool
  | [] => true
  | d :: ds => sh d && shs ds
end
mutual
/-- no less than the letters that it is shown by -/
def wt : D → Nat
  | .none => 4
  | .bool _ => 5
  | .int _ => 1921
  | .str x => (reprText x).length
  | .tuple ds => wts ds + 3
  | .list _ => 0
  | .dict _ => 0
def wts : List D → Nat
  | [] => 0
  | d :: ds => wt d + 2 + wts ds
end
mutual
theorem sh_ok : ∀ d : D, sh d = true → d.showable = true ∧ d.hasDict = false ∧ d.shown.length ≤ wt d
  | .none, _ => ⟨by simp [PyData.showable], by simp [PyData.hasDict], by simp [PyData.shown, wt]; decide⟩
  | .bool b, _ => ⟨by simp [PyData.showable], by simp [PyData.hasDict], by simp only [PyData.shown, wt]; cases b <;> decide⟩
  | .int i, h => by
    have h' : decide (i.natAbs.log2 < 1920) = true := h
    refine ⟨by simp only [PyData.showable]; exact h', by simp [PyData.hasDict], ?_⟩
    simp only [PyData.shown, wt]
    rw [PySem.ofString_length]
    exact int_text_length_le (by decide) (of_decide_eq_true h')
  | .str x, _ => ⟨by simp [PyData.showable], by simp [PyData.hasDict], by simp [PyData.shown, wt]⟩
  | .list _, h => by cases h
  | .dict _, h => by cases h
  | .tuple ds, h => by
    obtain ⟨h1, h2, h3⟩ := shs_ok ds h
    refine ⟨by simp only [PyData.showable]; exact h1, by simp only [PyData.hasDict]; exact h2, ?_⟩
    simp only [PyData.shown, wt]
    unfold tupleText
    rw [strLen_append, strLen_append]
    have e1 : ((("(" : String) : Str)).length = 1 := rfl
    have e3 : (((if (PyData.shownAll ds).length == 1 then ",)" else ")" : String) : Str)).length ≤ 2 := by split <;> decide
    rw [e1]
    by_cases hn : PyData.shownAll ds = []
    · rw [hn]
      have e4 : (Str.join ", " []).length = 0 := rfl
      rw [hn] at e3
      rw [e4]
      omega
    · have := join_length_add (PyData.shownAll ds) hn
      omega
theorem shs_ok : ∀ ds : List D, shs ds = true → PyData.showableAll ds = true ∧ PyData.hasDictAll ds = false ∧ piled (PyData.shownAll ds) ≤ wts ds
  | [], _ => ⟨by simp [PyData.showableAll], by simp [PyData.hasDictAll], by simp [PyData.shownAll, wts, piled]⟩
  | d :: ds, h => by
    have h' : (sh d && shs ds) = true := h
    rw [Bool.and_eq_true] at h'
    obtain ⟨a1, a2, a3⟩ := sh_ok d h'.1
    obtain ⟨b1, b2, b3⟩ := shs_ok ds h'.2
    refine ⟨by simp [PyData.showableAll, a1, b1], by simp [PyData.hasDictAll, a2, b2], ?_⟩
    simp only [PyData.shownAll, wts]
    rw [piled_cons]
    omega
end
def showsUp (d : D) : Prop := sh d = true ∧ SeqAt.shaped d = true ∧ wt d ≤ 16777216 ∧ (d = .none ∨ ∃ ds, d = .tuple ds)
section
variable {K : Fg} {Γ : List Sl} {ta : TE} {d : D}
theorem rrepr (h : showsUp d) : RCa K (rRepr K) [d] (.str d.shown) := fun M H xs t dx Q q => by
  obtain ⟨v, rfl, h1⟩ := dpa1 dx
  obtain ⟨s1, s2, s3, s4⟩ := h
  obtain ⟨a1, a2, a3⟩ := sh_ok d s1
  have hdp : d.depth ≤ 64 := by
    unfold SeqAt.shaped at s2
    rw [Bool.and_eq_true] at s2
    exact of_decide_eq_true s2.2
  refine ⟨v, d, rfl, shd s2 (h1.mono' hide_le), ?_, a1, a2, hdp, Nat.le_trans a3 (by rw [sizeLine_eq]; exact s3), q _ H (Same.refl H) (.str _)⟩
  rcases s4 with rfl | ⟨ds, rfl⟩
  · exact .inl h1.nonI
  · obtain ⟨a, _, e, _⟩ := h1.tupI
    exact .inr ⟨a, e⟩
theorem shs_ints {m : Int} (hm : m ≤ 1000000) : ∀ {t : Tx}, (∀ x ∈ t, -m ≤ x ∧ x ≤ m) → shs (t.map PyData.int) = true ∧ wts (t.map PyData.int) = 1923 * t.length
  | [], _ => ⟨rfl, rfl⟩
  | x :: t, h => by
    obtain ⟨h1, h2⟩ := shs_ints hm (t := t) fun y hy => h y (List.mem_cons_of_mem _ hy)
    have hx := h x List.mem_cons_self
    rw [List.map_cons]
    refine ⟨?_, ?_⟩
    · show (decide (x.natAbs.log2 < 1920) && shs (t.map PyData.int)) = true
      rw [h1, Bool.and_true]
      apply decide_eq_true
      by_cases h0 : x.natAbs = 0
      · rw [h0]; decide
      · have h3 : x.natAbs < 2 ^ 20 := Nat.lt_of_le_of_lt (show x.natAbs ≤ 1000000 by omega) (by decide)
        have := (Nat.log2_lt h0).mpr h3
        omega
    · show 1921 + 2 + wts (t.map PyData.int) = _
      rw [h2, List.length_cons]; omega
end
end CB

/-! W21 -/
set_option Elab.async false
set_option linter.all false
set_option maxRecDepth 100000
set_option maxHeartbeats 4000000
namespace CB
open PySem PySem.Spec PyProof.Rows L2
def oneD (i : Int) : D := .tuple [.str "one", .int i]
def clashD (o : List Nat) : D := .tuple [.str "clash", ordD o]
def apartD (o p : List Nat) : D := .tuple [.str "apart", ordD o, ordD p]
/-- what the law asks of the told paper -/
def toldOk (bt : Tx) (vt : List Tx) (told : D) : Prop := match chg bt vt with
  | [] => told = oneD (-1)
  | [i] => told = oneD i
  | i :: _ => match lawBlk bt (vt.getD i []) vt with
    | some due => told = due
    | none => (∃ o ∈ lawOrders vt.length, told = clashD o ∧ clashB bt vt o = true) ∨ ∃ o ∈ lawOrders vt.length, ∃ p ∈ lawOrders vt.length, told = apartD o p ∧ apartB bt vt o p = true
section
variable {P : Program} {w : World} {K : PySem.W.Frag} {mg : Str → Option Value} {base : Heap}
theorem fnDG {x : Str} {st : Stmt} {N ps : List Str} {k : Nat} {F : List D → Res → Prop} {dvs : List V} {f : Addr} {fd : FuncData} (Fu : FunD K x x (defArgs st) (defBody st) (defScope st) dvs [] f fd) (S : FnScope N ps (defScope st))
    (hF : ∀ ds r, F ds r → ds.length = ps.length ∧ ∃ d, r = .ok d)
    (hb : ∀ (cdv : Value) (A : Around) (outer : List Env) (s : Shared) (H : Hp) (E : XK), Room k (A.deeper (envOfC x (defScope st) s.heap.objs.size f cdv)) → A.guards = some [] →
      ∃ t, PSs (cxOf (L2.CX P w) P w K mg base N x (defScope st) f cdv A outer s H E) (defBody st) t ∧ ∀ ds d, F ds (.ok d) → RunD K E0 t (startG N ds) (.rt d)) : FnOkG P w K mg base (L2.CX P w) (k + 1) f fd ps (spD K F) := by
  refine funD_okG Fu S (fun vs H Q E h => ?_) (fun cdv A outer s H vs Q E hr hg h => ?_)
  · obtain ⟨M, ds, r, _, dp, hf, _⟩ := h
    rw [DqAll.len dp]
    exact (hF ds r hf).1
  · obtain ⟨M, ds, r, T, dp, hf, hq⟩ := h
    obtain ⟨d, rfl⟩ := (hF ds r hf).2
    obtain ⟨t, h1, h2⟩ := hb cdv A outer s H E hr hg
    refine ⟨t, h1, h2 ds d hf M _ H _ T (envd_startG dp) ?_⟩
    exact fun v H' e d' => hq v H' e d'
theorem rm100 {k : Nat} {A : Around} (hr : Room k A) : A.units + 100 < cLine := by have := hr.un; omega
theorem rne_str {s t : Str} (hs : PyData.strOk s = true) (ht : PyData.strOk t = true) : ROp K (rNeD K) (.str s) (.str t) (.bool (!decide (s = t))) := by
  have e : PyData.eqv (.str s) (.str t) = decide (s = t) := by simp only [PyData.eqv]; exact Bool.beq_eq_decide_eq s t
  rw [← e]; exact rne (hu := 0) (shaped_str hs) (shaped_str ht)
theorem reqs {s t : Str} : ROp K rEq (.str s) (.str t) (.bool (decide (s = t))) := fun M H x y _ dx dy Q q => by
  rw [dx.strI, dy.strI]
  refine ⟨rfl, ?_⟩
  have e : decide (V.str s = V.str t) = decide (s = t) := by congr 1; exact propext ⟨fun z => by injection z, fun z => by rw [z]⟩
  rw [e]
  exact q _ H (Same.refl H) (.bl _)
theorem rnes {s t : Str} : ROp K rNe (.str s) (.str t) (.bool (!decide (s = t))) := fun M H x y _ dx dy Q q => by
  rw [dx.strI, dy.strI]
  refine ⟨rfl, ?_⟩
  have e : decide (V.str s = V.str t) = decide (s = t) := by congr 1; exact propext ⟨fun z => by injection z, fun z => by rw [z]⟩
  rw [e]
  exact q _ H (Same.refl H) (.bl _)
end
variable {P : Program} {w : World} {K : PySem.W.Frag} {mg : Str → Option Value} {base : Heap}
def F_law_told_right (ds : List D) (r : Res) : Prop := ∃ bt vt told, ds = [T bt, lvD vt, .dict (kvE (tabD bt vt)), told] ∧ Sv bt vt ∧ toldOk bt vt told ∧ showsUp told ∧ told ≠ .none ∧ r = .ok (.bool true)
theorem sc_law_told_right : FnScope ["_law_base", "_law_versions_here", "_law_ends_here", "_law_told", "_law_changed", "_law_place", "_law_due"] ["_law_base", "_law_versions_here", "_law_ends_here", "_law_told"] (defScope s_law_told_right) := ⟨rfl, rfl, rfl, by decide +kernel, rfl, by decide +kernel, by decide +kernel⟩
theorem chF_range {bt : Tx} : ∀ (ts pre : List Tx), chFrom bt pre.length ts = (List.range' pre.length ts.length).filter fun i => !decide ((pre ++ ts).getD i [] = bt)
  | [], pre => rfl
  | t :: ts, pre => by
    have ih := chF_range ts (pre ++ [t]) (bt := bt)
    rw [List.length_append, List.length_singleton, List.append_assoc] at ih
    have e : (pre ++ t :: ts).getD pre.length [] = t := by
      rw [List.getD_eq_getElem?_getD, List.getElem?_append_right (Nat.le_refl _), Nat.sub_self]; rfl
    rw [List.length_cons, List.range'_succ, List.filter_cons, e]
    unfold chFrom
    rw [ih]
    by_cases h : t = bt
    · rw [if_pos h, decide_eq_true h]; rfl
    · rw [if_neg h, decide_eq_false h]; rfl
theorem ok_law_told_right {fd : FuncData} (Fu : FnP K "_law_told_right" s_law_told_right [] fd) (B : Bl mg)  (h_law_block : HasF P w K mg base 3 "_law_block" ["_law_base", "_law_versions_here", "_law_changed"] [] (spD K F_law_block)) (h_law_is_apart : HasF P w K mg base 1 "_law_is_apart" ["_law_ends_here", "_law_order", "_law_other"] [] (spD K F_law_is_apart)) (h_law_is_clash : HasF P w K mg base 1 "_law_is_clash" ["_law_ends_here", "_law_order"] [] (spD K F_law_is_clash)) : FnOkG P w K mg base (L2.CX P w) 4 (He.ga K "_law_told_right") fd ["_law_base", "_law_versions_here", "_law_ends_here", "_law_told"] (spD K F_law_told_right) := by
  refine fnDG Fu sc_law_told_right (fun ds r ⟨bt, vt, told, h, _, _, _, _, e⟩ => ⟨by rw [h]; rfl, _, e⟩) fun cdv A outer s H E hr hgd => ⟨_, (pss_cons (ps_setLc (own := [("_law_place", 5)]) (i := 4) rfl sc_law_told_right.nd rfl rfl (sw_true rfl rfl rfl (by decide +kernel)) (pi_range1 rfl B.range (pa_cons (pe_callB (id := "len") (r := rLenA K) call_lenA rfl B.len boot_len (pa_cons (pv 1) pa_nil)) pa_nil)) (blkOk_by (N := ["_law_base", "_law_versions_here", "_law_ends_here", "_law_told", "_law_changed", "_law_place", "_law_due"]) (sc := defScope s_law_told_right) (by decide +kernel)) (fun _ _ _ _ _ => (pg_name (i := 5) sc_law_told_right.nd rfl (Or.inl rfl))) (fun _ _ _ _ _ => (pts_one (pt_cmpR (r := rNeD K) (op_neD hr.units) (pe_ix (r := rIx K) ix_seq (pv 1) (pv 5) (fun _ _ => rfl)) (pv 0) (nomark _)))) (fun _ _ _ _ _ => (pv 5)))
      (pss_cons (ps_if (pt_cmpR op_lt (pe_callB (id := "len") (r := rLenA K) call_lenA rfl B.len boot_len (pa_cons (pv 4) pa_nil)) pe_int (nomark _)) (pss_one (ps_ret (pe_cmpR (r := rEq) op_eq (pe_callB (id := "repr") (r := rRepr K) (call_repr hgd (rm100 hr)) rfl B.repr (by decide +kernel) (pa_cons (pv 3) pa_nil)) (pe_callB (id := "repr") (r := rRepr K) (call_repr hgd (rm100 hr)) rfl B.repr (by decide +kernel) (pa_cons (pe_tup (pa_cons pe_str (pa_cons (pe_ifExp (pt_cmpR (r := rNeD K) (op_neD hr.units) (pv 4) (pe_lst pa_nil) (nomark _)) (pe_ix (r := rIx K) ix_seq (pv 4) pe_int (fun _ _ => rfl)) (pe_op op_sub pe_int pe_int)) pa_nil))) pa_nil)) (nomark _)))) pss_nil)
      (pss_cons (ps_set (i := 6) sc_law_told_right.nd rfl (Or.inl rfl) (pe_f h_law_block (hr.mono (by decide)) (pa_cons (pv 0) (pa_cons (pv 1) (pa_cons (pv 4) pa_nil)))))
      (pss_cons (ps_if (pt_cmpR op_notNN (pv 6) pe_non (nomark _)) (pss_one (ps_ret (pe_cmpR (r := rEq) op_eq (pe_callB (id := "repr") (r := rRepr K) (call_repr hgd (rm100 hr)) rfl B.repr (by decide +kernel) (pa_cons (pv 3) pa_nil)) (pe_callB (id := "repr") (r := rRepr K) (call_repr hgd (rm100 hr)) rfl B.repr (by decide +kernel) (pa_cons (pv 6) pa_nil)) (nomark _)))) pss_nil)
      (pss_cons (ps_if (PW.pt (pw_or (pt_not (pt_val (pe_callB (id := "isinstance") (r := rIsi K) call_isi rfl B.isinstance (by decide +kernel) (pa_cons (pv 3) (pa_cons (pe_bltn (v := .ty "tuple") rfl B.tuple (by decide +kernel) rfl) pa_nil))))) (pw_or (pt_cmpR op_lt (pe_callB (id := "len") (r := rLenA K) call_lenA rfl B.len boot_len (pa_cons (pv 3) pa_nil)) pe_int (nomark _)) (pw_or (pt_not (pt_val (pe_callB (id := "isinstance") (r := rIsi K) call_isi rfl B.isinstance (by decide +kernel) (pa_cons (pe_ix (r := rIx K) ix_seq (pv 3) pe_int (fun _ _ => rfl)) (pa_cons (pe_bltn (v := .ty "tuple") rfl B.tuple (by decide +kernel) rfl) pa_nil))))) (pw_or1 (pt_cmp (pc_dnotin (hu_of hr) (pe_ix (r := rIx K) ix_seq (pv 3) pe_int (fun _ _ => rfl)) (pv 2)) (by with_unfolding_all rfl))))))) (pss_one (ps_ret pe_bl)) pss_nil)
      (pss_cons (ps_if (PW.pt (pw_and (pt_cmpR (r := rEqD K) (op_eqD hr.units) (pe_ix (r := rIx K) ix_seq (pv 3) pe_int (fun _ _ => rfl)) pe_str (nomark _)) (pw_and1 (pt_cmpR (r := rEqD K) (op_eqD hr.units) (pe_callB (id := "len") (r := rLenA K) call_lenA rfl B.len boot_len (pa_cons (pv 3) pa_nil)) pe_int (nomark _))))) (pss_one (ps_ret (pe_f h_law_is_clash (hr.mono (by decide)) (pa_cons (pv 2) (pa_cons (pe_ix (r := rIx K) ix_seq (pv 3) pe_int (fun _ _ => rfl)) pa_nil))))) pss_nil)
      (pss_cons (ps_if (PW.pt (pw_or (pt_cmpR (r := rNeD K) (op_neD hr.units) (pe_ix (r := rIx K) ix_seq (pv 3) pe_int (fun _ _ => rfl)) pe_str (nomark _)) (pw_or (pt_cmpR (r := rNeD K) (op_neD hr.units) (pe_callB (id := "len") (r := rLenA K) call_lenA rfl B.len boot_len (pa_cons (pv 3) pa_nil)) pe_int (nomark _)) (pw_or (pt_not (pt_val (pe_callB (id := "isinstance") (r := rIsi K) call_isi rfl B.isinstance (by decide +kernel) (pa_cons (pe_ix (r := rIx K) ix_seq (pv 3) pe_int (fun _ _ => rfl)) (pa_cons (pe_bltn (v := .ty "tuple") rfl B.tuple (by decide +kernel) rfl) pa_nil))))) (pw_or1 (pt_cmp (pc_dnotin (hu_of hr) (pe_ix (r := rIx K) ix_seq (pv 3) pe_int (fun _ _ => rfl)) (pv 2)) (by with_unfolding_all rfl))))))) (pss_one (ps_ret pe_bl)) pss_nil)
      (pss_one (ps_ret (pe_f h_law_is_apart (hr.mono (by decide)) (pa_cons (pv 2) (pa_cons (pe_ix (r := rIx K) ix_seq (pv 3) pe_int (fun _ _ => rfl)) (pa_cons (pe_ix (r := rIx K) ix_seq (pv 3) pe_int (fun _ _ => rfl)) pa_nil))))))))))))), fun ds d ⟨bt, vt, told, h, sv, hok, hsu, htn, e⟩ => ?_⟩
  subst h
  cases e
  have cmp : ∀ ss : List Nat, (∀ p ∈ ss, p < vt.length) → Cmp K (gName 5) (tTest (tOp (rNeD K) (tOp (rIx K) (tVar 1) (tVar 5)) (tVar 0))) (tVar 5) [5] [.dat (T bt), .dat (lvD vt), .dat (.dict (kvE (tabD bt vt))), .dat told, .un, .un, .un]
      (ss.map fun (p : Nat) => PyData.int (p : Int)) ((ss.filter fun p => !decide (vt.getD p [] = bt)).map fun (p : Nat) => PyData.int (p : Int)) := by
    intro ss
    induction ss with
    | nil => exact fun _ => .nil
    | cons p ss ih =>
      intro hp
      have hlt := hp p List.mem_cons_self
      have ih := ih fun x hx => hp x (List.mem_cons_of_mem _ hx)
      have ht : EvT K (tTest (tOp (rNeD K) (tOp (rIx K) (tVar 1) (tVar 5)) (tVar 0))) [.dat (T bt), .dat (lvD vt), .dat (.dict (kvE (tabD bt vt))), .dat told, .un, .dat (.int p), .un] (!decide (vt.getD p [] = bt)) :=
        evt_test (evd_op (evd_op (evd_var rfl) (evd_var rfl) (rix_lst (atI_nat (n := p) rfl (by
          rw [List.getElem?_map, List.getD_eq_getElem?_getD, List.getElem?_eq_getElem hlt]; rfl)))) (evd_var rfl) rne_T)
      rw [List.map_cons, List.filter_cons]
      cases hq : !decide (vt.getD p [] = bt) with
      | true =>
        rw [hq] at ht
        exact .yes gdw_name ht (evd_var rfl) ih
      | false =>
        rw [hq] at ht
        exact .no gdw_name ht ih
  have hcf : chg bt vt = (List.range vt.length).filter fun p => !decide (vt.getD p [] = bt) := by
    have := chF_range (bt := bt) vt []
    rw [List.length_nil, List.nil_append, ← List.range_eq_range'] at this
    exact this
  have hvl := sv.vl
  have hlen : EvD K (tCB (rLenA K) (tCons (tVar 1) tNil)) [.dat (T bt), .dat (lvD vt), .dat (.dict (kvE (tabD bt vt))), .dat told, .un, .un, .un] (.int (vt.length : Nat)) := evd_is (evd_cb (eva_cons (evd_var rfl) eva_nil) rlen_lst) (by rw [List.length_map])
  refine run_nx (run_asg (d := .list ((chg bt vt).map fun (i : Nat) => PyData.int (i : Int))) (evd_lc (itd_rng1 (n := (vt.length : Int)) (eva_cons hlen eva_nil)) (by
    rw [Int.toNat_natCast, show (0 : Int) = ((0 : Nat) : Int) from rfl, rngD_eq, ← List.range_eq_range', hcf]
    exact cmp (List.range vt.length) fun p hp => List.mem_range.mp hp) (by rw [rngD_len]; omega)) gd_name) ?_
  show RunD K E0 _ [.dat (T bt), .dat (lvD vt), .dat (.dict (kvE (tabD bt vt))), .dat told, .dat (.list ((chg bt vt).map fun (i : Nat) => PyData.int (i : Int))), .un, .un] _
  have hcm : ∀ p ∈ chg bt vt, p < vt.length := fun p hp => (chg_mem.mp hp).1
  have told2 : ∀ (a b : D) (s5 s6 : Sl), told = .tuple [a, b] → True := fun _ _ _ _ _ => trivial
  unfold toldOk at hok
  generalize chg bt vt = cs at hok hcm ⊢
  have hl2 : EvD K (tCB (rLenA K) (tCons (tVar 4) tNil)) [.dat (T bt), .dat (lvD vt), .dat (.dict (kvE (tabD bt vt))), .dat told, .dat (.list (cs.map fun (i : Nat) => PyData.int (i : Int))), .un, .un] (.int (cs.length : Nat)) := evd_is (evd_cb (eva_cons (evd_var rfl) eva_nil) rlen_lst) (by rw [List.length_map])
  have ht2 := evt_test (evd_op hl2 (evd_int (i := 2)) (rop_B0 (g := fun i j => decide (i < j))))
  have hrp : ∀ (s4 s5 s6 : Sl), EvD K (tCB (rRepr K) (tCons (tVar 3) tNil)) [.dat (T bt), .dat (lvD vt), .dat (.dict (kvE (tabD bt vt))), .dat told, s4, s5, s6] (.str told.shown) := fun s4 s5 s6 => evd_cb (eva_cons (evd_var rfl) eva_nil) (rrepr hsu)
  have same : ∀ {te : TE} {s4 s5 s6 : Sl}, EvD K te [.dat (T bt), .dat (lvD vt), .dat (.dict (kvE (tabD bt vt))), .dat told, s4, s5, s6] told → EvD K (tOp rEq (tCB (rRepr K) (tCons (tVar 3) tNil)) (tCB (rRepr K) (tCons te tNil))) [.dat (T bt), .dat (lvD vt), .dat (.dict (kvE (tabD bt vt))), .dat told, s4, s5, s6] (.bool true) := fun h => evd_is (evd_op (hrp _ _ _) (evd_cb (eva_cons h eva_nil) (rrepr hsu)) reqs) (by simp)
  match cs, hok, hcm, ht2 with
  | [], hok, _, ht2 =>
    have hok' : told = oneD (-1) := hok
    subst hok'
    have hn := evt_test (K := K) (Γ := [.dat (T bt), .dat (lvD vt), .dat (.dict (kvE (tabD bt vt))), .dat (oneD (-1)), .dat (.list (([] : List Nat).map fun (i : Nat) => PyData.int (i : Int))), .un, .un]) (evd_op (evd_var (i := 4) rfl) (evd_lst (ds := []) eva_nil) (rne_L (s := []) (t := [])))
    exact run_rt (run_ifT (evt_is ht2 rfl) (run_ret (same (evd_tup (eva_cons evd_str (eva_cons (evd_if hn (fun z => by cases z) fun _ => evd_op evd_int evd_int rop_I0) eva_nil))))))
  | [i], hok, _, ht2 =>
    have hok' : told = oneD i := hok
    subst hok'
    have hn := evt_test (K := K) (Γ := [.dat (T bt), .dat (lvD vt), .dat (.dict (kvE (tabD bt vt))), .dat (oneD i), .dat (.list (([i] : List Nat).map fun (i : Nat) => PyData.int (i : Int))), .un, .un]) (evd_op (evd_var (i := 4) rfl) (evd_lst (ds := []) eva_nil) (rne_L (s := [(i : Int)]) (t := [])))
    exact run_rt (run_ifT (evt_is ht2 rfl) (run_ret (same (evd_tup (eva_cons evd_str (eva_cons (evd_if hn (fun _ => evd_op (evd_var rfl) evd_int (rix_lst (atI_nat (n := 0) rfl rfl))) (fun z => by simp at z)) eva_nil))))))
  | i :: j :: r, hok, hcm, ht2 =>
    have hi := hcm i List.mem_cons_self
    refine run_nx (run_ifF (evt_is ht2 (by simp; omega)) run_next) ?_
    refine run_nx (run_asg (d := optD (lawBlk bt (vt.getD i []) vt)) (evd_call0 (eva_cons (evd_var rfl) (eva_cons (evd_var rfl) (eva_cons (evd_var rfl) eva_nil))) ⟨bt, vt, i, j :: r, rfl, sv, hi, rfl⟩) gd_name) ?_
    have hok' : (match lawBlk bt (vt.getD i []) vt with
      | some due => told = due
      | none => (∃ o ∈ lawOrders vt.length, told = clashD o ∧ clashB bt vt o = true) ∨ ∃ o ∈ lawOrders vt.length, ∃ p ∈ lawOrders vt.length, told = apartD o p ∧ apartB bt vt o p = true) := hok
    generalize lawBlk bt (vt.getD i []) vt = due at hok' ⊢
    show RunD K E0 _ [.dat (T bt), .dat (lvD vt), .dat (.dict (kvE (tabD bt vt))), .dat told, .dat (.list ((i :: j :: r).map fun (i : Nat) => PyData.int (i : Int))), .un, .dat (optD due)] _
    cases due with
    | some due =>
      have e : told = due := hok'
      subst e
      have hnn : isNon told = false := by
        rcases hsu.2.2.2 with z | ⟨ds, z⟩
        · exact absurd z htn
        · rw [z]; rfl
      exact run_rt (run_ifT (evt_is (evt_test (evd_op (evd_var rfl) evd_non rnot_N)) (by show (!isNon told) = true; rw [hnn]; rfl)) (run_ret (same (evd_var rfl))))
    | none =>
      refine run_nx (run_ifF (evt_is (evt_test (evd_op (evd_var rfl) evd_non rnot_N)) rfl) run_next) ?_
      have ix : ∀ (ds : List D) (n : Nat) (d : D), ds[n]? = some d → EvD K (tOp (rIx K) (tVar 3) (tC (.int n))) [.dat (T bt), .dat (lvD vt), .dat (.dict (kvE (tabD bt vt))), .dat (.tuple ds), .dat (.list ((i :: j :: r).map fun (i : Nat) => PyData.int (i : Int))), .un, .dat .none] d := fun ds n d h => evd_op (evd_var rfl) evd_int (rix_tup (atI_nat (n := n) rfl h))
      have c1 : ∀ (w : Str) (o : List Nat) (rest : List D), o ∈ lawOrders vt.length → EvT K (tOr (tNot (L2.tB (tCB (rIsi K) (tCons (tVar 3) (tCons (tC (.ty "tuple")) tNil))))) (tOr (tTest (tOp (rI0 fun i j => .bl (decide (i < j))) (tCB (rLenA K) (tCons (tVar 3) tNil)) (tC (.int 2)))) (tOr (tNot (L2.tB (tCB (rIsi K) (tCons (tOp (rIx K) (tVar 3) (tC (.int 1))) (tCons (tC (.ty "tuple")) tNil))))) (L2.tB (tDNotIn (tOp (rIx K) (tVar 3) (tC (.int 1))) (tVar 2))))))
          [.dat (T bt), .dat (lvD vt), .dat (.dict (kvE (tabD bt vt))), .dat (.tuple (.str w :: ordD o :: rest)), .dat (.list ((i :: j :: r).map fun (i : Nat) => PyData.int (i : Int))), .un, .dat .none] false := fun w o rest ho => by
        refine evt_is (evt_or (evt_not (evt_B (evd_isi kit_tuple (evd_var rfl)))) fun _ => evt_or (evt_test (evd_op (evd_cb (eva_cons (evd_var rfl) eva_nil) rlen_tup) (evd_int (i := 2)) (rop_B0 (g := fun i j => decide (i < j))))) fun _ => evt_or (evt_not (evt_B (evd_isi kit_tuple (ix (.str w :: ordD o :: rest) 1 (ordD o) rfl)))) fun _ => evt_B (evd_dnotin .free (evd_var rfl) (evd_is (ix (.str w :: ordD o :: rest) 1 (ordD o) rfl) (ordD_T o)))) ?_
        rw [lk_tab ho]
        have e2 : decide (((.str w :: ordD o :: rest : List D).length : Int) < 2) = false := by
          apply decide_eq_false
          simp only [List.length_cons]
          omega
        rw [e2]
        rfl
      rcases hok' with ⟨o, ho, rfl, hc⟩ | ⟨o, ho, p, hp, rfl, hc⟩
      · refine run_nx (run_ifF (c1 "clash" o [] ho) run_next) ?_
        have t1 := evt_and (evt_test (evd_op (ix [.str "clash", ordD o] 0 _ rfl) (evd_str (i := "clash")) (req_str (by decide +kernel) (by decide +kernel)))) fun _ => evt_test (evd_op (evd_cb (eva_cons (evd_var (i := 3) rfl) eva_nil) rlen_tup) (evd_int (i := 2)) req_int)
        refine run_rt (run_ifT (evt_is t1 (by simp)) (run_ret ?_))
        rw [← hc]
        exact evd_call0 (eva_cons (evd_var rfl) (eva_cons (ix [.str "clash", ordD o] 1 _ rfl) eva_nil)) ⟨bt, vt, o, rfl, sv, ho, rfl⟩
      · refine run_nx (run_ifF (c1 "apart" o [ordD p] ho) run_next) ?_
        have hna : decide (("apart" : Str) = "clash") = false := by decide +kernel
        have t1 := evt_and (evt_test (evd_op (ix [.str "apart", ordD o, ordD p] 0 _ rfl) (evd_str (i := "clash")) (req_str (by decide +kernel) (by decide +kernel)))) fun _ => evt_test (evd_op (evd_cb (eva_cons (evd_var (i := 3) rfl) eva_nil) rlen_tup) (evd_int (i := 2)) req_int)
        refine run_nx (run_ifF (evt_is t1 (by rw [hna]; rfl)) run_next) ?_
        have t2 := evt_or (evt_test (evd_op (ix [.str "apart", ordD o, ordD p] 0 _ rfl) (evd_str (i := "apart")) (rne_str (by decide +kernel) (by decide +kernel)))) fun _ => evt_or (evt_test (evd_op (evd_cb (eva_cons (evd_var (i := 3) rfl) eva_nil) rlen_tup) (evd_int (i := 3)) rne_int)) fun _ => evt_or (evt_not (evt_B (evd_isi kit_tuple (ix [.str "apart", ordD o, ordD p] 2 (ordD p) rfl)))) fun _ => evt_B (evd_dnotin .free (evd_var (i := 2) rfl) (evd_is (ix [.str "apart", ordD o, ordD p] 2 (ordD p) rfl) (ordD_T p)))
        rw [lk_tab hp] at t2
        refine run_nx (run_ifF (evt_is t2 (by simp; rfl)) run_next) (run_ret ?_)
        rw [← hc]
        exact evd_call0 (eva_cons (evd_var rfl) (eva_cons (ix [.str "apart", ordD o, ordD p] 1 _ rfl) (eva_cons (ix [.str "apart", ordD o, ordD p] 2 _ rfl) eva_nil))) ⟨bt, vt, o, p, rfl, sv, ho, hp, rfl⟩
end CB

/-! M2 -/
set_option Elab.async false
set_option linter.all false
set_option maxRecDepth 100000
set_option maxHeartbeats 4000000
namespace CB
open PySem PySem.Spec PyProof.Rows L2
/-! ### orders_holds of the law's papers -/
theorem ne_ca : decide (("clash" : Str) = "apart") = false := by decide +kernel
theorem ne_ac : decide (("apart" : Str) = "clash") = false := by decide +kernel
theorem ne_oc : decide (("one" : Str) = "clash") = false := by decide +kernel
theorem ne_oa : decide (("one" : Str) = "apart") = false := by decide +kernel
theorem ne_ob : decide (("one" : Str) = "block") = false := by decide +kernel
theorem ne_bc : decide (("block" : Str) = "clash") = false := by decide +kernel
theorem ne_ba : decide (("block" : Str) = "apart") = false := by decide +kernel
theorem ne_bo : decide (("block" : Str) = "one") = false := by decide +kernel
theorem ne_co : decide (("clash" : Str) = "one") = false := by decide +kernel
theorem ne_cb : decide (("clash" : Str) = "block") = false := by decide +kernel
theorem ne_ao : decide (("apart" : Str) = "one") = false := by decide +kernel
theorem ne_ab : decide (("apart" : Str) = "block") = false := by decide +kernel
theorem isPaper_str {s w : Str} {ds : List D} {n : Int} : isPaper (.tuple (.str s :: ds)) w n = (decide (((ds.length + 1 : Nat) : Int) = n) && decide (s = w)) := rfl
theorem ordL_ord (o : List Nat) : ordL (ordD o) = o := by
  unfold ordL
  rw [ordD_T, txOf_T]
  exact nats_map o
theorem lenD_ord (o : List Nat) : lenD (ordD o) = o.length := by
  show (List.map _ _).length = _
  rw [List.length_map]
theorem isOrd_ord {n : Nat} {o : List Nat} (h : ordB n o = true) : isOrd (ordD o) n = true := by
  unfold ordB at h
  rw [Bool.and_eq_true, decide_eq_true_eq, List.all_eq_true] at h
  show ((o.map fun (p : Nat) => PyData.int (p : Int)).all (fun d => isBelow d n) && decide ((o.map fun (p : Nat) => PyData.int (p : Int)).map intOf).Nodup) = true
  rw [Bool.and_eq_true, decide_eq_true_eq, List.all_eq_true, List.map_map]
  refine ⟨fun d hd => ?_, ?_⟩
  · obtain ⟨p, hp, rfl⟩ := List.mem_map.mp hd
    have := of_decide_eq_true (h.2 p hp)
    simp [isBelow]; omega
  · refine List.pairwise_map.mpr (h.1.imp fun {a b} hab e => hab ?_)
    have e' : (a : Int) = (b : Int) := e
    omega
theorem ordB_mem {n : Nat} (hn : n ≤ 4) {o : List Nat} (h : o ∈ lawOrders n) : ordB n o = true := List.all_eq_true.mp (lawOrders_chk n hn).2.2.1 o h
theorem holds_clash {bt : Tx} {vt : List Tx} {o : List Nat} (h : ordB vt.length o = true) : holdsB bt vt (clashD o) = clashB bt vt o := by
  have e1 : isPaper (clashD o) "clash" 2 = true := by unfold clashD; rw [isPaper_str]; simp
  unfold holdsB
  rw [if_pos e1]
  show (isOrd (ordD o) vt.length && (!decide (lenD (ordD o) = 0) && ((ends bt vt (ordL (ordD o)).dropLast).isSome && (ends bt vt (ordL (ordD o))).isNone))) = _
  rw [isOrd_ord h, ordL_ord, lenD_ord, Bool.true_and]
  unfold clashB
  have e2 : decide (o.length = 0) = decide (o = []) := by congr 1; exact propext List.length_eq_zero_iff
  rw [e2, Bool.and_comm (ends bt vt o.dropLast).isSome]
theorem holds_apart {bt : Tx} {vt : List Tx} {o p : List Nat} (h : ordB vt.length o = true) (h' : ordB vt.length p = true) : holdsB bt vt (apartD o p) = apartB bt vt o p := by
  have e1 : isPaper (apartD o p) "clash" 2 = false := by unfold apartD; rw [isPaper_str, ne_ac]; simp
  have e2 : isPaper (apartD o p) "apart" 3 = true := by unfold apartD; rw [isPaper_str]; simp
  unfold holdsB
  rw [e1, if_neg (by decide), if_pos e2]
  show (isOrd (ordD o) vt.length && (isOrd (ordD p) vt.length && (decide (srt (txOf (ordD o)) = srt (txOf (ordD p))) && ((ends bt vt (ordL (ordD o))).isSome && ((ends bt vt (ordL (ordD p))).isSome && !decide (ends bt vt (ordL (ordD o)) = ends bt vt (ordL (ordD p)))))))) = _
  rw [isOrd_ord h, isOrd_ord h', ordL_ord, ordL_ord, ordD_T, ordD_T, txOf_T, txOf_T, Bool.true_and, Bool.true_and]
  unfold apartB
  cases decide (srt (nts o) = srt (nts p)) <;> cases ends bt vt o <;> cases ends bt vt p <;> simp
theorem holds_list {bt : Tx} {vt : List Tx} {ds : List D} : holdsB bt vt (.list ds) = false := rfl
theorem holds_clashL {bt : Tx} {vt : List Tx} {ds : List D} : holdsB bt vt (.tuple [.str "clash", .list ds]) = false := by
  have e1 : isPaper (.tuple [.str "clash", .list ds]) "clash" 2 = true := by rw [isPaper_str]; simp
  unfold holdsB
  rw [if_pos e1]
  rfl
theorem holds_one {bt : Tx} {vt : List Tx} {d : D} : holdsB bt vt (.tuple [.str "one", d]) = sameD 4 (.tuple [.str "one", d]) (paperD bt vt) := by
  have e1 : isPaper (.tuple [.str "one", d]) "clash" 2 = false := by rw [isPaper_str, ne_oc]; simp
  have e2 : isPaper (.tuple [.str "one", d]) "apart" 3 = false := by rw [isPaper_str, ne_oa]; simp
  have e3 : isPaper (.tuple [.str "one", d]) "one" 2 = true := by rw [isPaper_str]; simp
  unfold holdsB
  rw [e1, e2, e3, if_neg (by decide), if_neg (by decide), Bool.true_or, if_pos rfl]
theorem holds_block {bt : Tx} {vt : List Tx} {a b c d e : D} : holdsB bt vt (.tuple [.str "block", a, b, c, d, e]) = sameD 4 (.tuple [.str "block", a, b, c, d, e]) (paperD bt vt) := by
  have e1 : isPaper (.tuple [.str "block", a, b, c, d, e]) "clash" 2 = false := by rw [isPaper_str, ne_bc]; simp
  have e2 : isPaper (.tuple [.str "block", a, b, c, d, e]) "apart" 3 = false := by rw [isPaper_str, ne_ba]; simp
  have e3 : isPaper (.tuple [.str "block", a, b, c, d, e]) "block" 6 = true := by rw [isPaper_str]; simp
  unfold holdsB
  rw [e1, e2, e3, if_neg (by decide), if_neg (by decide), Bool.or_true, if_pos rfl]
end CB

/-! M3 -/
set_option Elab.async false
set_option linter.all false
set_option maxRecDepth 100000
set_option maxHeartbeats 4000000
namespace CB
open PySem PySem.Spec PyProof.Rows L2
def cpsL (s : Str) : List Nat := s.cps.toList
theorem cpsL_app (a b : Str) : cpsL (a ++ b) = cpsL a ++ cpsL b := by
  show (a.cps ++ b.cps).toList = _
  simp [cpsL]
theorem shown2 (w : Str) (d : D) (ds : List D) : ∃ r, cpsL (PyData.shown (.tuple (.str w :: d :: ds))) = 40 :: (cpsL (reprText w) ++ r) := by
  have e : PyData.shown (.tuple (.str w :: d :: ds)) = tupleText (reprText w :: PyData.shown d :: PyData.shownAll ds) := by simp only [PyData.shown, PyData.shownAll]
  rw [e]
  unfold tupleText
  have e2 : Str.join ", " (reprText w :: PyData.shown d :: PyData.shownAll ds) = reprText w ++ ", " ++ Str.join ", " (PyData.shown d :: PyData.shownAll ds) := rfl
  rw [e2, cpsL_app, cpsL_app, cpsL_app, cpsL_app]
  have e3 : cpsL (("(" : String) : Str) = [40] := by decide +kernel
  rw [e3]
  exact ⟨_, by rw [List.append_assoc, List.append_assoc, List.append_assoc]; rfl⟩
theorem rp_one : cpsL (reprText "one") = [39, 111, 110, 101, 39] := by decide +kernel
theorem rp_clash : ∃ r, cpsL (reprText "clash") = 39 :: 99 :: r := ⟨_, by show _ = 39 :: 99 :: [108, 97, 115, 104, 39]; decide +kernel⟩
theorem rp_apart : ∃ r, cpsL (reprText "apart") = 39 :: 97 :: r := ⟨_, by show _ = 39 :: 97 :: [112, 97, 114, 116, 39]; decide +kernel⟩
theorem rp_block : ∃ r, cpsL (reprText "block") = 39 :: 98 :: r := ⟨_, by show _ = 39 :: 98 :: [108, 111, 99, 107, 39]; decide +kernel⟩
theorem shown_ne {w : Str} {c : Nat} {d e : D} {ds es : List D} (hw : ∃ r, cpsL (reprText w) = 39 :: c :: r) (hc : c ≠ 111) : (PyData.shown (.tuple (.str w :: d :: ds)) = PyData.shown (.tuple (.str "one" :: e :: es))) = False := eq_false fun h => by
  obtain ⟨r1, h1⟩ := shown2 w d ds
  obtain ⟨r2, h2⟩ := shown2 "one" e es
  obtain ⟨r3, h3⟩ := hw
  rw [h, h2, rp_one, h3] at h1
  injection h1 with _ h1
  injection h1 with _ h1
  injection h1 with h1 _
  exact hc h1.symm
theorem shown_one : ∀ i j : Fin 6, (PyData.shown (oneD ((i : Nat) - 1)) = PyData.shown (oneD ((j : Nat) - 1))) → i = j := by decide +kernel
theorem shown_one' {i j : Int} (h1 : -1 ≤ i) (h2 : i ≤ 4) (h3 : -1 ≤ j) (h4 : j ≤ 4) : (PyData.shown (oneD i) = PyData.shown (oneD j)) ↔ i = j := by
  constructor
  · intro h
    have := shown_one ⟨(i + 1).toNat, by omega⟩ ⟨(j + 1).toNat, by omega⟩ (by
      show PyData.shown (oneD (((i + 1).toNat : Int) - 1)) = PyData.shown (oneD (((j + 1).toNat : Int) - 1))
      have e1 : (((i + 1).toNat : Int) - 1) = i := by omega
      have e2 : (((j + 1).toNat : Int) - 1) = j := by omega
      rw [e1, e2, h])
    have := congrArg Fin.val this
    have h5 : (i + 1).toNat = (j + 1).toNat := this
    omega
  · intro h; rw [h]
end CB

/-! M4 -/
set_option Elab.async false
set_option linter.all false
set_option maxRecDepth 100000
set_option maxHeartbeats 4000000
namespace CB
open PySem PySem.Spec PyProof.Rows L2
def blockD (f b k : Tx) (t : Int) (row : Tx) : D := .tuple [.str "block", T f, T b, T k, .int t, T row]
inductive Kind (n : Nat) : D → Prop
  | one {i : Int} : -1 ≤ i → i ≤ 4 → Kind n (oneD i)
  | clash {o : List Nat} : o.length ≤ 8 → Kind n (clashD o)
  | apart {o p : List Nat} : o.length ≤ 8 → p.length ≤ 8 → Kind n (apartD o p)
  | block {f b k row : Tx} {t : Int} : b ≠ [] → f.length ≤ 200 → b.length ≤ 200 → k.length ≤ 200 → row.length = n → Kind n (blockD f b k t row)
theorem same_str {n : Nat} {s t : Str} : sameD (n + 1) (.str s) (.str t) = decide (s = t) := by
  show (decide (isTy "bool" (.str s) = isTy "bool" (.str t)) && PyData.eqv (.str s) (.str t)) = _
  have e : PyData.eqv (.str s) (.str t) = decide (s = t) := by simp only [PyData.eqv]; exact Bool.beq_eq_decide_eq s t
  rw [e]
  show (decide (false = false) && _) = _
  simp
theorem same_int {n : Nat} {i j : Int} : sameD (n + 1) (.int i) (.int j) = decide (i = j) := by
  show (decide (isTy "bool" (.int i) = isTy "bool" (.int j)) && PyData.eqv (.int i) (.int j)) = _
  have e : PyData.eqv (.int i) (.int j) = decide (i = j) := by simp only [PyData.eqv]; exact Bool.beq_eq_decide_eq i j
  rw [e]
  show (decide (false = false) && _) = _
  simp
theorem same_tup {n : Nat} {vs ps : List D} : sameD (n + 1) (.tuple vs) (.tuple ps) = (decide (vs.length = ps.length) && (vs.zip ps).all fun q => sameD n q.1 q.2) := rfl
theorem same_ints {n : Nat} : ∀ (a b : Tx), (((a.map PyData.int).zip (b.map PyData.int)).all fun q => sameD (n + 1) q.1 q.2) = true → a.length = b.length → a = b
  | [], [], _, _ => rfl
  | [], _ :: _, _, h => by cases h
  | _ :: _, [], _, h => by cases h
  | x :: a, y :: b, h, hl => by
    rw [List.map_cons, List.map_cons, List.zip_cons_cons, List.all_cons, Bool.and_eq_true] at h
    have h1 := h.1
    rw [same_int] at h1
    rw [of_decide_eq_true h1, same_ints a b h.2 (Nat.succ.inj hl)]
theorem same_refl_ints {n : Nat} : ∀ (a : Tx), (((a.map PyData.int).zip (a.map PyData.int)).all fun q => sameD (n + 1) q.1 q.2) = true
  | [] => rfl
  | x :: a => by
    rw [List.map_cons, List.zip_cons_cons, List.all_cons, same_refl_ints a, same_int]; simp
theorem same_T {n : Nat} {a b : Tx} : sameD (n + 2) (T a) (T b) = decide (a = b) := by
  show (decide ((a.map PyData.int).length = (b.map PyData.int).length) && _) = _
  rw [List.length_map, List.length_map]
  by_cases h : a = b
  · subst h
    rw [same_refl_ints]; simp
  · rw [decide_eq_false h]
    by_cases hl : a.length = b.length
    · rw [decide_eq_true hl, Bool.true_and]
      cases hq : ((a.map PyData.int).zip (b.map PyData.int)).all fun q => sameD (n + 1) q.1 q.2 with
      | false => rfl
      | true => exact absurd (same_ints a b hq hl) h
    · rw [decide_eq_false hl]; rfl
theorem same_one_one {d : D} {i : Int} : sameD 4 (.tuple [.str "one", d]) (oneD i) = sameD 3 d (.int i) := by
  unfold oneD
  rw [same_tup]
  show (decide (2 = 2) && (sameD 3 (.str "one") (.str "one") && (sameD 3 d (.int i) && true))) = _
  rw [same_str]; simp
theorem same_one_no {n : Nat} {d told : D} (k : Kind n told) (h : ∀ i, told ≠ oneD i) : sameD 4 (.tuple [.str "one", d]) told = false := by
  cases k with
  | one => exact absurd rfl (h _)
  | clash =>
    unfold clashD
    rw [same_tup]
    show (decide (2 = 2) && (sameD 3 (.str "one") (.str "clash") && _)) = _
    rw [same_str, ne_oc]; simp
  | apart => rfl
  | block => rfl
theorem same_block_no {n : Nat} {a b c d e told : D} (k : Kind n told) (h : ∀ f bl bk t row, told ≠ blockD f bl bk t row) : sameD 4 (.tuple [.str "block", a, b, c, d, e]) told = false := by
  cases k with
  | block => exact absurd rfl (h _ _ _ _ _)
  | _ => rfl
theorem same_block {a b c d e : D} {f bl bk row : Tx} {t : Int} : sameD 4 (.tuple [.str "block", a, b, c, d, e]) (blockD f bl bk t row) = (sameD 3 a (T f) && (sameD 3 b (T bl) && (sameD 3 c (T bk) && (sameD 3 d (.int t) && sameD 3 e (T row))))) := by
  unfold blockD
  rw [same_tup]
  show (decide (6 = 6) && (sameD 3 (.str "block") (.str "block") && (sameD 3 a (T f) && (sameD 3 b (T bl) && (sameD 3 c (T bk) && (sameD 3 d (.int t) && (sameD 3 e (T row) && true))))))) = _
  rw [same_str]; simp
/-- one's paper against the told one -/
theorem one_told {n : Nat} {told : D} {at' : Int} (k : Kind n told) (h1 : -1 ≤ at') (h2 : at' ≤ 4) : sameD 4 (oneD at') told = decide (PyData.shown told = PyData.shown (oneD at')) := by
  cases k with
  | @one i h3 h4 =>
    have e0 : sameD 4 (oneD at') (oneD i) = decide (at' = i) := by
      rw [show sameD 4 (oneD at') (oneD i) = sameD 4 (.tuple [.str "one", .int at']) (oneD i) from rfl, same_one_one, same_int]
    rw [e0]
    have := shown_one' h3 h4 h1 h2
    by_cases e : at' = i
    · subst e; simp
    · rw [decide_eq_false e, decide_eq_false (fun z => e (this.mp z).symm)]
  | @clash o _ =>
    rw [show oneD at' = .tuple [.str "one", .int at'] from rfl, same_one_no (n := n) (.clash (o := o) ‹_›) (fun i z => by unfold clashD oneD at z; simp at z; exact absurd z.1 (by decide +kernel))]
    exact (decide_eq_false (fun z => (shown_ne rp_clash (by decide)).mp z)).symm
  | @apart o p _ _ =>
    rw [show oneD at' = .tuple [.str "one", .int at'] from rfl, same_one_no (n := n) (.apart (o := o) (p := p) ‹_› ‹_›) (fun i z => by unfold apartD oneD at z; simp at z)]
    exact (decide_eq_false (fun z => (shown_ne rp_apart (by decide)).mp z)).symm
  | @block f b k row t hb q1 q2 q3 q4 =>
    rw [show oneD at' = .tuple [.str "one", .int at'] from rfl, same_one_no (n := n) (.block (f := f) (b := b) (k := k) (row := row) (t := t) hb q1 q2 q3 q4) (fun i z => by unfold blockD oneD at z; simp at z)]
    exact (decide_eq_false (fun z => (shown_ne rp_block (by decide)).mp z)).symm
end CB

/-! M5 -/
set_option Elab.async false
set_option linter.all false
set_option maxRecDepth 100000
set_option maxHeartbeats 4000000
namespace CB
open PySem PySem.Spec PyProof.Rows L2
def bads1 : List D := [.none, .str "one", .tuple [.str "one"], .tuple [.str "one", .none], .tuple [.str "one", .bool false], .tuple [.str "one", .bool true], .tuple [.str "clash"], .tuple [.str "clash", .tuple []], .tuple [.str "apart"]]
def bads2 : List D := [.tuple [.str "clash", .tuple [.int 0, .int 0]], .tuple [.str "clash", .tuple [.int 9]], .tuple [.str "apart", .tuple [], .tuple []], .tuple [.str "apart", .tuple [.int 0], .tuple [.bool true]], .tuple [.str "clash", .tuple [.none]]]
def bads3 : List D := [.tuple [.str "block", .tuple [], .tuple [], .tuple [], .int 0, .tuple []], .tuple [.str "apart", .tuple [.int 0], .none], .tuple [.int 1, .int 2], .int 0, .tuple [.str "clash", .int 0]]
theorem bads_gd : (bads1 ++ bads2 ++ bads3).all (gd 16) = true := by decide +kernel
theorem holds_cl {bt : Tx} {vt : List Tx} {d : D} : holdsB bt vt (.tuple [.str "clash", d]) = (isOrd d vt.length && (!decide (lenD d = 0) && ((ends bt vt (ordL d).dropLast).isSome && (ends bt vt (ordL d)).isNone))) := by
  have e1 : isPaper (.tuple [.str "clash", d]) "clash" 2 = true := by rw [isPaper_str]; simp
  unfold holdsB
  rw [if_pos e1]
  rfl
theorem holds_ap {bt : Tx} {vt : List Tx} {d e : D} (h : isOrd d vt.length = true → isOrd e vt.length = false) : holdsB bt vt (.tuple [.str "apart", d, e]) = false := by
  have e1 : isPaper (.tuple [.str "apart", d, e]) "clash" 2 = false := by rw [isPaper_str, ne_ac]; simp
  have e2 : isPaper (.tuple [.str "apart", d, e]) "apart" 3 = true := by rw [isPaper_str]; simp
  unfold holdsB
  rw [e1, if_neg (by decide), if_pos e2]
  show (isOrd d vt.length && (isOrd e vt.length && _)) = false
  cases hd : isOrd d vt.length with
  | false => rfl
  | true => rw [h hd]; rfl
theorem holds_one_bad {bt : Tx} {vt : List Tx} {d : D} (k : Kind vt.length (paperD bt vt)) (h : ∀ i, sameD 3 d (.int i) = false) : holdsB bt vt (.tuple [.str "one", d]) = false := by
  rw [holds_one]
  generalize paperD bt vt = told at k
  cases k with
  | @one i h1 h2 => rw [same_one_one]; exact h i
  | clash hl => exact same_one_no (n := vt.length) (.clash hl) fun i z => by unfold clashD oneD at z; simp at z; exact absurd z.1 (by decide +kernel)
  | apart hl hl' => exact same_one_no (n := vt.length) (.apart hl hl') fun i z => by unfold apartD oneD at z; simp at z
  | block hb q1 q2 q3 q4 => exact same_one_no (n := vt.length) (.block hb q1 q2 q3 q4) fun i z => by unfold blockD oneD at z; simp at z
theorem bads_no {bt : Tx} {vt : List Tx} (k : Kind vt.length (paperD bt vt)) (hn : vt.length ≤ 4) : ∀ d ∈ bads1 ++ bads2 ++ bads3, holdsB bt vt d = false := by
  have one : ∀ {a : D} {l : List D}, holdsB bt vt a = false → (∀ d ∈ l, holdsB bt vt d = false) → ∀ d ∈ a :: l, holdsB bt vt d = false := fun h1 h2 d hd => by
    rcases List.mem_cons.mp hd with z | z
    · rw [z]; exact h1
    · exact h2 d z
  show ∀ d ∈ [_, _, _, _, _, _, _, _, _, _, _, _, _, _, _, _, _, _, _], _
  refine one rfl (one rfl (one rfl (one ?_ (one ?_ (one ?_ (one rfl (one ?_ (one rfl (one ?_ (one ?_ (one ?_ (one ?_ (one ?_ (one ?_ (one ?_ (one rfl (one rfl (one ?_ fun _ h => (by cases h)))))))))))))))))))
  · exact holds_one_bad k fun i => by
      show (decide (isTy "bool" .none = isTy "bool" (.int i)) && PyData.eqv .none (.int i)) = false
      simp [PyData.eqv]
  · exact holds_one_bad k fun i => rfl
  · exact holds_one_bad k fun i => rfl
  · rw [holds_cl]; rfl
  · rw [holds_cl]
    have : isOrd (.tuple [.int 0, .int 0]) vt.length = false := by
      show (([.int 0, .int 0] : List D).all (fun d => isBelow d vt.length) && decide ([(0 : Int), 0]).Nodup) = false
      have : decide ([(0 : Int), 0]).Nodup = false := by decide
      rw [this, Bool.and_false]
    rw [this]; rfl
  · rw [holds_cl]
    have : isOrd (.tuple [.int 9]) vt.length = false := by
      show ((isBelow (.int 9) vt.length && true) && _) = false
      have : isBelow (.int 9) vt.length = false := by
        show (decide ((0 : Int) ≤ 9) && decide ((9 : Int) < vt.length)) = false
        have : decide ((9 : Int) < (vt.length : Int)) = false := decide_eq_false (by omega)
        rw [this]; rfl
      rw [this]; rfl
    rw [this]; rfl
  · have := holds_apart (bt := bt) (vt := vt) (o := []) (p := []) rfl rfl
    have e : apartB bt vt [] [] = false := by unfold apartB; simp
    rw [e] at this
    exact this
  · exact holds_ap fun _ => rfl
  · rw [holds_cl]; rfl
  · rw [holds_block]
    generalize paperD bt vt = told at k
    cases k with
    | one => rfl
    | clash => rfl
    | apart => rfl
    | @block f b k' row t hb q1 q2 q3 q4 =>
      rw [same_block]
      have : sameD 3 (.tuple []) (T b) = false := by
        have h := same_T (n := 1) (a := []) (b := b)
        rw [decide_eq_false (fun z => hb z.symm)] at h
        exact h
      rw [this, Bool.false_and, Bool.and_false]
  · exact holds_ap fun _ => rfl
  · rw [holds_cl]; rfl
end CB

/-! D12 -/
set_option Elab.async false
set_option linter.all false
set_option maxRecDepth 100000
set_option maxHeartbeats 4000000
namespace CB
open PySem PySem.Spec PyProof.Rows L2
section
variable {P : Program} {w : World} {K : PySem.W.Frag} {mg : Str → Option Value} {base : Heap}
theorem wideFG {CX : CXT} {k : Nat} {f : Addr} {fd : FuncData} {ps : List Str} {sp : Sp} (F : FnOkG P w K mg base CX0 k f fd ps sp) : FnOkG P w K mg base CX k f fd ps sp :=
  ⟨F.len, fun A outer s H args us vs Q E hr hg e0 hb hv hs => codeAny_mono (F.run A outer s H args us vs Q E hr hg e0 hb hv hs) fun r s' h => by
    cases r with
    | ok fl => cases fl <;> exact h
    | error e => exact (show False from h).elim⟩
theorem fnMWG {x : Str} {st : Stmt} {N ps : List Str} {p0 : Str} {k : Nat} {Tb : Tbl} {F : List D → (D → Prop) → Prop} {dvs : List V} {f : Addr} {fd : FuncData} (Fu : FunD K x x (defArgs st) (defBody st) (defScope st) dvs [] f fd) (S : FnScope N (p0 :: ps) (defScope st))
    (hF : ∀ ds Φ, F ds Φ → ds.length = ps.length)
    (hb : ∀ (cdv : Value) (A : Around) (outer : List Env) (s : Shared) (H : Hp) (E : XK), Room k (A.deeper (envOfC x (defScope st) s.heap.objs.size f cdv)) → A.guards = some [] →
      ∃ t, PSs (cxOf CX0 P w K mg base N x (defScope st) f cdv A outer s H E).nox (defBody st) t ∧ ∀ ds Φ a b Mx, F ds Φ → RunM K Mx (Mv Tb a b) (Dl Tb a b) E0 t [] (startW N a ds) (fun o _ => ∃ d, o = .rt d ∧ Φ d)) : FnOkG P w K mg base (L2.CX P w) (k + 1) f fd (p0 :: ps) (spW K Tb F) := by
  refine wideFG (funD_okG Fu S (fun vs H Q E h => ?_) (fun cdv A outer s H vs Q E hr hg h => ?_))
  · obtain ⟨M, a, b, vs', ds, Φ, rfl, _, _, _, dp, hf, _⟩ := h
    rw [List.length_cons, DqAll.len dp, hF ds Φ hf, List.length_cons]
  · obtain ⟨M, a, b, vs', ds, Φ, rfl, ha, T, dl, dp, hf, hq⟩ := h
    obtain ⟨t, h1, h2⟩ := hb cdv A outer s H E hr hg
    refine ⟨t, h1.nox, h2 ds Φ a b M hf _ (wfW (H := H) ha) _ H _ ?_ ?_⟩
    · refine ⟨fun p hp => ?_, fun p hp m hm => (by cases hm), T, fun _ h => (by cases h), List.nodup_nil, dl, ?_, fun _ h => (by cases h)⟩
      · rw [List.mem_singleton.mp hp]; exact Same.refl _
      · show EnvD K _ (L2.start N (.ref a :: vs')) (startW N a ds)
        unfold L2.start startW
        rw [List.length_cons, DqAll.len dp]
        exact .cons (show SlOk K _ (some (.ref a)) (.ref a) from rfl) (envd_start dp)
    · rintro o ms' ⟨d, rfl, hd⟩
      exact fun v H' o t i d' => hq v d H' hd (o _ List.mem_cons_self) i d'
end
section
variable {K : Fg} {Mx M0 : List Addr} {I : Hp → Prop} {E : XK} {B : Bs} {ms : Ms} {Γ Γ1 Γ2 Γ' : List Sl} {σ : L2.St} {H H' : Hp}
variable {ta tb te : TE} {t u : TS} {c : TT} {d : D} {g : TG} {k : EK} {i : Int} {Ψ Ψ' : Out → Ms → Prop} {Φ : D → Prop}
theorem evm_lst {ta : TA} {Φa : List D → Prop} (ha : EvMA K Mx M0 I ta ms Γ Φa) (hz : ∀ ds, Φa ds → ds.length ≤ 100000) (f : ∀ ds, Φa ds → Φ (.list ds)) : EvM K Mx M0 I (tLst ta) ms Γ Φ := fun B wf σ H S Q q =>
  ha B wf σ H S _ fun xs ds H1 p S1 e1 d1 => ⟨Nat.le_trans (by rw [DqAll.len d1]; exact hz ds p) (by decide), fun x hx => q _ _ _ (f ds p) (S1.grow wf (same_new hx)) (e1.trans (hsame (same_new hx))) (.lst (S1.trk.upd hx) (d1.mono' (hsame (same_new hx))))⟩
/-- x = list(e), an own list -/
theorem runm_lstN {j : Nat} {ds : List D} (h : EvD K te Γ (.tuple ds)) (h2 : ∀ a, RunM K Mx M0 I E u ((a, ds) :: ms) (Γ.set j (.ref a)) Ψ) : RunM K Mx M0 I E (tSeq (tAsg (tCB (rLstA K) (tCons te tNil)) (gName j)) u) ms Γ Ψ := fun B wf σ H D S P =>
  h _ σ H S.trk S.env _ fun v H1 e1 d1 => by
    obtain ⟨p, ys, rfl, s1, d2⟩ := d1.tupI
    exact ⟨p, ys, rfl, .inr (seqT hide_le s1), fun l hl => h2 l B wf _ _ D ((S.grow wf e1).newL wf hl d2).setR P⟩
theorem runm_lstL {j : Nat} {ds : List D} (h : EvD K te Γ (.list ds)) (h2 : ∀ a, RunM K Mx M0 I E u ((a, ds) :: ms) (Γ.set j (.ref a)) Ψ) : RunM K Mx M0 I E (tSeq (tAsg (tCB (rLstA K) (tCons te tNil)) (gName j)) u) ms Γ Ψ := fun B wf σ H D S P =>
  h _ σ H S.trk S.env _ fun v H1 e1 d1 => by
    obtain ⟨p, ys, rfl, s1, d2⟩ := d1.lstI
    exact ⟨p, ys, rfl, .inl (hide_le.seq s1), fun l hl => h2 l B wf _ _ D ((S.grow wf e1).newL wf hl d2).setR P⟩
end
end CB

/-! W22 -/
set_option Elab.async false
set_option linter.all false
set_option maxRecDepth 100000
set_option maxHeartbeats 4000000
namespace CB
open PySem PySem.Spec PyProof.Rows L2
def pairB (p : D × Bool) : D := .tuple [p.1, .bool p.2]
def okI (bt : Tx) (vt : List Tx) (items : List (D × Bool)) : Prop := ∀ p ∈ items, gd 16 p.1 = true ∧ holdsB bt vt p.1 = p.2
/-- what is known of the told paper -/
structure Told (bt : Tx) (vt : List Tx) (told : D) : Prop where
  eq : told = paperD bt vt
  kind : Kind vt.length told
  shows : showsUp told
  holds : holdsB bt vt told = true
  gd : gd 4 told = true
def papersD (bt : Tx) (vt : List Tx) (d : D) : Prop := ∃ items : List (D × Bool), d = .list (items.map pairB) ∧ items.length ≤ 100 ∧ okI bt vt items
variable {P : Program} {w : World} {K : PySem.W.Frag} {mg : Str → Option Value} {base : Heap} {Tb : Tbl}
def F_law_papers (ds : List D) (Φ : D → Prop) : Prop := ∃ bt vt told, ds = [.dict (kvE (tabD bt vt)), lvD vt, told] ∧ Sv bt vt ∧ 1 ≤ vt.length ∧ Told bt vt told ∧ Φ = papersD bt vt
theorem sc_law_papers : FnScope ["_law_deal_here", "_law_ends_here", "_law_versions_here", "_law_told", "_law_orders_here", "_law_found", "_law_turn", "_law_order", "_law_other", "_law_row", "_law_at", "_law_spot", "_law_some"] ["_law_deal_here", "_law_ends_here", "_law_versions_here", "_law_told"] (defScope s_law_papers) := ⟨rfl, rfl, rfl, by decide +kernel, rfl, by decide +kernel, by decide +kernel⟩
theorem shows_one {i : Int} (h1 : -1 ≤ i) (h2 : i ≤ 4) : showsUp (oneD i) := by
  obtain ⟨q1, q2⟩ := shs_ints (m := 4) (by decide) (t := [i]) fun x hx => by rw [List.mem_singleton.mp hx]; omega
  refine ⟨?_, gd_shaped (n := 2) (gd_tuple.mpr ⟨by simp, gd_l1 gd_str (gd_l1 gd_int gd_l0)⟩), ?_, .inr ⟨_, rfl⟩⟩
  · show (true && shs ([i].map PyData.int)) = true
    rw [q1]; rfl
  · show (reprText "one").length + 2 + wts ([i].map PyData.int) + 3 ≤ _
    rw [q2]
    have : (reprText "one").length = 5 := by decide +kernel
    rw [this, List.length_singleton]
    decide
theorem req_L {s t : Tx} : ROp K (rEqD K) (L' s) (L' t) (.bool (decide (s = t))) := by
  have e : PyData.eqv (L' s) (L' t) = decide (s = t) := by
    unfold L'
    simp only [PyData.eqv]
    exact eqv_ints s t
  rw [← e]; exact req (hu := 0) (shaped_L s) (shaped_L t)
theorem okI_nil {bt : Tx} {vt : List Tx} : okI bt vt [] := fun _ h => by cases h
theorem okI_snoc {bt : Tx} {vt : List Tx} {items : List (D × Bool)} {v : D} {b : Bool} (h : okI bt vt items) (h1 : gd 16 v = true) (h2 : holdsB bt vt v = b) : okI bt vt (items ++ [(v, b)]) := fun p hp => by
  rcases List.mem_append.mp hp with z | z
  · exact h p z
  · rw [List.mem_singleton.mp z]; exact ⟨h1, h2⟩
theorem gd_le {n m : Nat} {d : D} (h : gd n d = true) (hm : n ≤ m) : gd m d = true := by
  induction hm with
  | refl => exact h
  | step _ ih => exact gd_up ih
theorem tab_keys (bt : Tx) (vt : List Tx) : (tabD bt vt).map (fun p => T p.1) = (lawOrders vt.length).map ordD := by
  unfold tabD tabOf
  rw [List.map_map]
  apply List.map_congr_left
  intro o _
  exact (ordD_T o).symm
section
variable {Mx : List Addr} {a b : Addr} {ms : Ms} {Γ : List Sl} {te : TE}
theorem evm_pick {j : Nat} {es : List D} (hj : Γ[j]? = some (.ref a)) (h : EvM K Mx (Mv Tb a b) (Dl Tb a b) te ms Γ (· = .list es)) (h1 : 1 ≤ es.length) (h2 : es.length ≤ 1000) : EvM K Mx (Mv Tb a b) (Dl Tb a b) (tCall (spW K Tb F_law_pick) [] E0 (tCons (tVar j) (tCons te tNil))) ms Γ (fun d => d ∈ es) :=
  evm_callW hj (evma_1 h) fun ds ⟨d, hd, hh⟩ => ⟨es, by rw [hd, hh], h1, h2, rfl⟩
end
theorem ok_law_papers {fd : FuncData} (Fu : FnP K "_law_papers" s_law_papers [] fd) (B : Bl mg)  (h_law_draw : HasF P w K mg base 1 "_law_draw" ["_law_deal_here", "_law_bound"] [] (spW K Tb F_law_draw)) (h_law_is_apart : HasF P w K mg base 1 "_law_is_apart" ["_law_ends_here", "_law_order", "_law_other"] [] (spD K F_law_is_apart)) (h_law_is_clash : HasF P w K mg base 1 "_law_is_clash" ["_law_ends_here", "_law_order"] [] (spD K F_law_is_clash)) (h_law_pick : HasF P w K mg base 2 "_law_pick" ["_law_deal_here", "_law_some"] [] (spW K Tb F_law_pick)) : FnOkG P w K mg base (L2.CX P w) 3 (He.ga K "_law_papers") fd ["_law_deal_here", "_law_ends_here", "_law_versions_here", "_law_told"] (spW K Tb F_law_papers) := by
  refine fnMWG Fu sc_law_papers (fun ds Φ ⟨bt, vt, told, h, _, _, _, _⟩ => by rw [h]; rfl) fun cdv A outer s H E hr hgd => ⟨_, (pss_cons (ps_par (i := 4) (j := 5) rfl sc_law_papers.nd rfl rfl (by decide) rfl rfl (pa_cons (pe_callTy (T := "list") (r := rLstK) (call_lstK rfl) rfl B.list (by decide +kernel) (pa_cons (pv 1) pa_nil)) (pa_cons (pe_lst (pa_cons (pe_tup (pa_cons (pv 3) (pa_cons pe_bl pa_nil))) (pa_cons (pe_tup (pa_cons (pe_callTy (T := "list") (r := rLstA K) call_lstA rfl B.list (by decide +kernel) (pa_cons (pv 3) pa_nil)) (pa_cons pe_bl pa_nil))) pa_nil))) pa_nil)) (by rfl))
      (pss_cons (ps_for PassesOwn.never rfl (pi_range1 rfl B.range (pa_cons pe_int pa_nil)) (pg_name (i := 6) sc_law_papers.nd rfl (Or.inl rfl))
      (pss_cons (ps_set (i := 7) sc_law_papers.nd rfl (Or.inr rfl) (pe_f h_law_pick (hr.mono (by decide)) (pa_cons (pv 0) (pa_cons (pv 4) pa_nil))))
      (pss_cons (ps_expr (pe_bm PySem.F.plainAttrs_list PySem.F.slot_list_append PySem.F.type_list_append mt_append (pv 5) (pa_cons (pe_tup (pa_cons (pe_tup (pa_cons pe_str (pa_cons (pv 7) pa_nil))) (pa_cons (pe_f h_law_is_clash (hr.mono (by decide)) (pa_cons (pv 1) (pa_cons (pv 7) pa_nil))) pa_nil))) pa_nil)))
      (pss_cons (ps_set (i := 8) sc_law_papers.nd rfl (Or.inl rfl) (pe_f h_law_pick (hr.mono (by decide)) (pa_cons (pv 0) (pa_cons (pe_lc (own := [("_law_row", 9)]) rfl sc_law_papers.nd (pi_seq (pv 4)) (blkOk_by (N := ["_law_deal_here", "_law_ends_here", "_law_versions_here", "_law_told", "_law_orders_here", "_law_found", "_law_turn", "_law_order", "_law_other", "_law_row", "_law_at", "_law_spot", "_law_some"]) (sc := defScope s_law_papers) (by decide +kernel)) (fun _ _ _ _ _ => (pg_name (i := 9) sc_law_papers.nd rfl (Or.inl rfl))) (fun _ _ _ _ _ => (pts_one (pt_cmpR (r := rEqD K) (op_eqD hr.units) (pe_callB (id := "sorted") (r := rSortT K) call_sortedA rfl B.sorted (by decide +kernel) (pa_cons (pv 9) pa_nil)) (pe_callB (id := "sorted") (r := rSortT K) call_sortedA rfl B.sorted (by decide +kernel) (pa_cons (pv 7) pa_nil)) (nomark _)))) (fun _ _ _ _ _ => (pv 9))) pa_nil))))
      (pss_cons (ps_expr (pe_bm PySem.F.plainAttrs_list PySem.F.slot_list_append PySem.F.type_list_append mt_append (pv 5) (pa_cons (pe_tup (pa_cons (pe_tup (pa_cons pe_str (pa_cons (pv 7) (pa_cons (pv 8) pa_nil)))) (pa_cons (pe_f h_law_is_apart (hr.mono (by decide)) (pa_cons (pv 1) (pa_cons (pv 7) (pa_cons (pv 8) pa_nil)))) pa_nil))) pa_nil)))
      (pss_one (ps_expr (pe_bm PySem.F.plainAttrs_list PySem.F.slot_list_append PySem.F.type_list_append mt_append (pv 5) (pa_cons (pe_tup (pa_cons (pe_tup (pa_cons pe_str (pa_cons (pe_callTy (T := "list") (r := rLstA K) call_lstA rfl B.list (by decide +kernel) (pa_cons (pv 7) pa_nil)) pa_nil))) (pa_cons pe_bl pa_nil))) pa_nil)))))))))
      (pss_cons (ps_set (i := 10) sc_law_papers.nd rfl (Or.inl rfl) (pe_op op_sub (pe_f h_law_draw (hr.mono (by decide)) (pa_cons (pv 0) (pa_cons (pe_op (r := rAddU K) op_addU (pe_callB (id := "len") (r := rLenA K) call_lenA rfl B.len boot_len (pa_cons (pv 2) pa_nil)) pe_int) pa_nil))) pe_int))
      (pss_cons (ps_expr (pe_bm PySem.F.plainAttrs_list PySem.F.slot_list_append PySem.F.type_list_append mt_append (pv 5) (pa_cons (pe_tup (pa_cons (pe_tup (pa_cons pe_str (pa_cons (pv 10) pa_nil))) (pa_cons (pe_cmpR (r := rEq) op_eq (pe_callB (id := "repr") (r := rRepr K) (call_repr hgd (rm100 hr)) rfl B.repr (by decide +kernel) (pa_cons (pv 3) pa_nil)) (pe_callB (id := "repr") (r := rRepr K) (call_repr hgd (rm100 hr)) rfl B.repr (by decide +kernel) (pa_cons (pe_tup (pa_cons pe_str (pa_cons (pv 10) pa_nil))) pa_nil)) (nomark _)) pa_nil))) pa_nil)))
      (pss_cons (ps_if (pt_cmpR (r := rEqD K) (op_eqD hr.units) (pe_ix (r := rIx K) ix_seq (pv 3) pe_int (fun _ _ => rfl)) pe_str (nomark _)) (pss_cons (ps_set (i := 9) sc_law_papers.nd rfl (Or.inl rfl) (pe_callTy (T := "list") (r := rLstA K) call_lstA rfl B.list (by decide +kernel) (pa_cons (pe_ix (r := rIx K) ix_seq (pv 3) pe_int (fun _ _ => rfl)) pa_nil)))
      (pss_cons (ps_set (i := 11) sc_law_papers.nd rfl (Or.inl rfl) (pe_f h_law_draw (hr.mono (by decide)) (pa_cons (pv 0) (pa_cons (pe_callB (id := "len") (r := rLenA K) call_lenA rfl B.len boot_len (pa_cons (pv 9) pa_nil)) pa_nil))))
      (pss_cons (ps_asg (pe_op (r := rAddU K) op_addU (pe_ix (r := rIx K) ix_seq (pv 9) (pv 11) (fun _ _ => rfl)) pe_int) (pg_sub (pv 9) (pv 11) set_list))
      (pss_cons (ps_expr (pe_bm PySem.F.plainAttrs_list PySem.F.slot_list_append PySem.F.type_list_append mt_append (pv 5) (pa_cons (pe_tup (pa_cons (pe_tup (pa_cons pe_str (pa_cons (pe_ix (r := rIx K) ix_seq (pv 3) pe_int (fun _ _ => rfl)) (pa_cons (pe_ix (r := rIx K) ix_seq (pv 3) pe_int (fun _ _ => rfl)) (pa_cons (pe_ix (r := rIx K) ix_seq (pv 3) pe_int (fun _ _ => rfl)) (pa_cons (pe_ix (r := rIx K) ix_seq (pv 3) pe_int (fun _ _ => rfl)) (pa_cons (pe_callTy (T := "tuple") (r := rTupA K) call_tupA rfl B.tuple (by decide +kernel) (pa_cons (pv 9) pa_nil)) pa_nil))))))) (pa_cons pe_bl pa_nil))) pa_nil)))
      (pss_one (ps_expr (pe_bm PySem.F.plainAttrs_list PySem.F.slot_list_append PySem.F.type_list_append mt_append (pv 5) (pa_cons (pe_tup (pa_cons (pe_tup (pa_cons pe_str (pa_cons (pe_ix (r := rIx K) ix_seq (pv 3) pe_int (fun _ _ => rfl)) (pa_cons (pe_op (r := rAddU K) op_addU (pe_ix (r := rIx K) ix_seq (pv 3) pe_int (fun _ _ => rfl)) (pe_ix (r := rIx K) ix_seq (pv 3) pe_int (fun _ _ => rfl))) (pa_cons (pe_ix (r := rIx K) ix_seq (pv 3) pe_int (fun _ _ => rfl)) (pa_cons (pe_ix (r := rIx K) ix_seq (pv 3) pe_int (fun _ _ => rfl)) (pa_cons (pe_ix (r := rIx K) ix_seq (pv 3) pe_int (fun _ _ => rfl)) pa_nil))))))) (pa_cons pe_bl pa_nil))) pa_nil)))))))) pss_nil)
      (pss_cons (ps_set (i := 12) sc_law_papers.nd rfl (Or.inl rfl) (pe_lst (pa_cons pe_non (pa_cons pe_str (pa_cons (pe_tup (pa_cons pe_str pa_nil)) (pa_cons (pe_tup (pa_cons pe_str (pa_cons pe_non pa_nil))) (pa_cons (pe_tup (pa_cons pe_str (pa_cons pe_bl pa_nil))) (pa_cons (pe_tup (pa_cons pe_str (pa_cons pe_bl pa_nil))) (pa_cons (pe_tup (pa_cons pe_str pa_nil)) (pa_cons (pe_tup (pa_cons pe_str (pa_cons (pe_tup pa_nil) pa_nil))) (pa_cons (pe_tup (pa_cons pe_str pa_nil)) pa_nil)))))))))))
      (pss_cons (ps_set (i := 12) sc_law_papers.nd rfl (Or.inl rfl) (pe_op (r := rAddU K) op_addU (pv 12) (pe_lst (pa_cons (pe_tup (pa_cons pe_str (pa_cons (pe_tup (pa_cons pe_int (pa_cons pe_int pa_nil))) pa_nil))) (pa_cons (pe_tup (pa_cons pe_str (pa_cons (pe_tup (pa_cons pe_int pa_nil)) pa_nil))) (pa_cons (pe_tup (pa_cons pe_str (pa_cons (pe_tup pa_nil) (pa_cons (pe_tup pa_nil) pa_nil)))) (pa_cons (pe_tup (pa_cons pe_str (pa_cons (pe_tup (pa_cons pe_int pa_nil)) (pa_cons (pe_tup (pa_cons pe_bl pa_nil)) pa_nil)))) (pa_cons (pe_tup (pa_cons pe_str (pa_cons (pe_tup (pa_cons pe_non pa_nil)) pa_nil))) pa_nil))))))))
      (pss_cons (ps_set (i := 12) sc_law_papers.nd rfl (Or.inl rfl) (pe_op (r := rAddU K) op_addU (pv 12) (pe_lst (pa_cons (pe_tup (pa_cons pe_str (pa_cons (pe_tup pa_nil) (pa_cons (pe_tup pa_nil) (pa_cons (pe_tup pa_nil) (pa_cons pe_int (pa_cons (pe_tup pa_nil) pa_nil))))))) (pa_cons (pe_tup (pa_cons pe_str (pa_cons (pe_tup (pa_cons pe_int pa_nil)) (pa_cons pe_non pa_nil)))) (pa_cons (pe_tup (pa_cons pe_int (pa_cons pe_int pa_nil))) (pa_cons pe_int (pa_cons (pe_tup (pa_cons pe_str (pa_cons pe_int pa_nil))) pa_nil))))))))
      (pss_one (ps_ret (pe_op (r := rAddU K) op_addU (pv 5) (pe_lst (pa_cons (pe_tup (pa_cons (pe_f h_law_pick (hr.mono (by decide)) (pa_cons (pv 0) (pa_cons (pv 12) pa_nil))) (pa_cons pe_bl pa_nil))) pa_nil))))))))))))), fun ds Φ a b Mx ⟨bt, vt, told, h, sv, hn1, ht, hΦ⟩ => ?_⟩
  subst h hΦ
  have hvl := sv.vl
  obtain ⟨hck, hol, hob, hon⟩ := lawOrders_chk vt.length sv.vl
  have h0mem : [] ∈ lawOrders vt.length := by
    have : ∀ n, n ≤ 4 → [] ∈ lawOrders n := by decide +kernel
    exact this _ sv.vl
  have ord16 : ∀ o ∈ lawOrders vt.length, gd 2 (ordD o) = true := fun o ho => gd_ord (by
    have := of_decide_eq_true (List.all_eq_true.mp hon o ho)
    omega)
  have htup : ∃ ds, told = .tuple ds := by
    cases ht.kind with
    | _ => exact ⟨_, rfl⟩
  refine runm_parN (ds := [(told, true), (.list ((seqOf told).getD []), false)].map pairB) (d := .list ((lawOrders vt.length).map ordD)) (by
    have := evd_cb (K := K) (Γ := startW ["_law_deal_here", "_law_ends_here", "_law_versions_here", "_law_told", "_law_orders_here", "_law_found", "_law_turn", "_law_order", "_law_other", "_law_row", "_law_at", "_law_spot", "_law_some"] a [.dict (kvE (tabD bt vt)), lvD vt, told]) (eva_cons (evd_var (i := 1) rfl) eva_nil) (rlst_keys (kv := tabD bt vt) .free)
    rw [tab_keys] at this
    exact this) ?_ (by simp) fun x => ?_
  · refine eva_cons (evd_tup (eva_cons (evd_var rfl) (eva_cons evd_bl eva_nil))) (eva_cons (evd_tup (ds := [_, _]) (eva_cons (evd_cb (eva_cons (evd_var (i := 3) rfl) eva_nil) ?_) (eva_cons evd_bl eva_nil))) eva_nil)
    obtain ⟨ds, e⟩ := htup
    subst e
    exact rlst_tup
  show RunM K Mx (Mv Tb a b) (Dl Tb a b) E0 _ [(x, [(told, true), (.list ((seqOf told).getD []), false)].map pairB)] [.ref a, .dat (.dict (kvE (tabD bt vt))), .dat (lvD vt), .dat told, .dat (.list ((lawOrders vt.length).map ordD)), .ref x, .un, .un, .un, .un, .un, .un, .un] _
  have start : okI bt vt [(told, true), (.list ((seqOf told).getD []), false)] := by
    refine okI_snoc (items := [(told, true)]) (okI_snoc (items := []) okI_nil (gd_le ht.gd (by decide)) ht.holds) ?_ holds_list
    obtain ⟨ds, e⟩ := htup
    have hg := ht.gd
    subst e
    exact gd_le (n := 4) (gd_list.mpr (gd_tuple.mp hg)) (by decide)
  refine runm_seq (Ψ' := fun o' ms' => ∃ items s6 s7 s8 s9 s10 s11 s12, o' = .nx [.ref a, .dat (.dict (kvE (tabD bt vt))), .dat (lvD vt), .dat told, .dat (.list ((lawOrders vt.length).map ordD)), .ref x, s6, s7, s8, s9, s10, s11, s12] ∧ ms' = [(x, items.map pairB)] ∧ items.length ≤ 8 ∧ okI bt vt items) ?_ (fun Γ1 ms1 h => ?_) (fun o' ms1 h hn => by
    obtain ⟨_, _, _, _, _, _, _, _, h1, _⟩ := h
    exact absurd h1 (hn _))
  · refine runm_for (R := fun es ms Γ => ∃ (items : List (D × Bool)) (s6 s7 s8 s9 s10 s11 s12 : Sl), Γ = [.ref a, .dat (.dict (kvE (tabD bt vt))), .dat (lvD vt), .dat told, .dat (.list ((lawOrders vt.length).map ordD)), .ref x, s6, s7, s8, s9, s10, s11, s12] ∧ ms = [(x, items.map pairB)] ∧ items.length + 3 * es.length ≤ 8 ∧ okI bt vt items) (itd_rng1 (n := 2) (eva_cons evd_int eva_nil)) ⟨_, _, _, _, _, _, _, _, rfl, rfl, by rw [rngD_len]; show 2 + 3 * 2 ≤ 8; decide, start⟩ ?_ ?_
    · rintro d es ms Γ ⟨items, s6, s7, s8, s9, s10, s11, s12, rfl, rfl, hl, hok⟩
      rw [List.length_cons] at hl
      refine ⟨_, gd_name, ?_⟩
      refine runm_asgN (evm_pick (es := (lawOrders vt.length).map ordD) (j := 0) rfl (evm_of (evd_var rfl)) (by rw [List.length_map]; exact List.length_pos_iff.mpr (fun z => by rw [z] at h0mem; cases h0mem)) (by rw [List.length_map]; omega)) fun d' hd' => ?_
      obtain ⟨o, ho, rfl⟩ := List.mem_map.mp hd'
      refine runm_app (tr := tNil) (j := 5) (x := x) (ds := items.map pairB) rfl List.mem_cons_self rfl (by rw [List.length_map]; omega) (evm_of (d := pairB (clashD o, clashB bt vt o)) (evd_tup (eva_cons (evd_tup (eva_cons evd_str (eva_cons (evd_var rfl) eva_nil))) (eva_cons (evd_call0 (eva_cons (evd_var rfl) (eva_cons (evd_var rfl) eva_nil)) ⟨bt, vt, o, rfl, sv, ho, rfl⟩) eva_nil)))) fun d1 hd1 => ?_
      subst hd1
      have hset : ∀ (its : List (D × Bool)) (p : D × Bool), setM [(x, its.map pairB)] x (its.map pairB ++ [pairB p]) = [(x, (its ++ [p]).map pairB)] := fun its p => by
        unfold setM
        rw [List.map_cons, List.map_nil, if_pos rfl, List.map_append]
        rfl
      rw [hset]
      have ok1 := okI_snoc (v := clashD o) (b := clashB bt vt o) hok (gd_le (n := 3) (gd_tuple.mpr ⟨by simp, gd_l1 gd_str (gd_l1 (ord16 o ho) gd_l0)⟩) (by decide)) (holds_clash (ordB_mem sv.vl ho))
      have hfil : (lawOrders vt.length).filter (fun r => decide (srt (nts r) = srt (nts o))) ≠ [] := fun z => by
        have : o ∈ (lawOrders vt.length).filter (fun r => decide (srt (nts r) = srt (nts o))) := List.mem_filter.mpr ⟨ho, by simp⟩
        rw [z] at this
        cases this
      have cmp : ∀ os : List (List Nat), Cmp K (gName 9) (tTest (tOp (rEqD K) (tCB (rSortT K) (tCons (tVar 9) tNil)) (tCB (rSortT K) (tCons (tVar 7) tNil)))) (tVar 9) [9] [.ref a, .dat (.dict (kvE (tabD bt vt))), .dat (lvD vt), .dat told, .dat (.list ((lawOrders vt.length).map ordD)), .ref x, .dat d, .dat (ordD o), s8, .un, s10, s11, s12]
          (os.map ordD) ((os.filter fun r => decide (srt (nts r) = srt (nts o))).map ordD) := by
        intro os
        induction os with
        | nil => exact .nil
        | cons r os ih =>
          have hte : EvT K (tTest (tOp (rEqD K) (tCB (rSortT K) (tCons (tVar 9) tNil)) (tCB (rSortT K) (tCons (tVar 7) tNil)))) [.ref a, .dat (.dict (kvE (tabD bt vt))), .dat (lvD vt), .dat told, .dat (.list ((lawOrders vt.length).map ordD)), .ref x, .dat d, .dat (ordD o), s8, .dat (ordD r), s10, s11, s12] (decide (srt (nts r) = srt (nts o))) :=
            evt_test (evd_op (evd_cb (eva_cons (evd_is (evd_var rfl) (ordD_T r)) eva_nil) rsort) (evd_cb (eva_cons (evd_is (evd_var rfl) (ordD_T o)) eva_nil) rsort) req_L)
          rw [List.map_cons, List.filter_cons]
          cases hp : decide (srt (nts r) = srt (nts o)) with
          | true =>
            rw [hp] at hte
            exact .yes gdw_name hte (evd_var rfl) ih
          | false =>
            rw [hp] at hte
            exact .no gdw_name hte ih
      have hfl := List.length_filter_le (fun r => decide (srt (nts r) = srt (nts o))) (lawOrders vt.length)
      refine runm_asgN (evm_pick (es := ((lawOrders vt.length).filter fun r => decide (srt (nts r) = srt (nts o))).map ordD) (j := 0) rfl (evm_of (evd_lc (ws := [9]) (itd_seqL (evd_var (i := 4) rfl)) (cmp _) (by rw [List.length_map]; omega))) (by rw [List.length_map]; exact List.length_pos_iff.mpr hfil) (by rw [List.length_map]; omega)) fun d2 hd2 => ?_
      obtain ⟨p, hp, rfl⟩ := List.mem_map.mp hd2
      have hpm := (List.mem_filter.mp hp).1
      refine runm_app (tr := tNil) (j := 5) (x := x) (ds := (items ++ [(clashD o, clashB bt vt o)]).map pairB) rfl List.mem_cons_self rfl (by rw [List.length_map, List.length_append, List.length_singleton]; omega) (evm_of (d := pairB (apartD o p, apartB bt vt o p)) (evd_tup (eva_cons (evd_tup (eva_cons evd_str (eva_cons (evd_var rfl) (eva_cons (evd_var rfl) eva_nil)))) (eva_cons (evd_call0 (eva_cons (evd_var rfl) (eva_cons (evd_var rfl) (eva_cons (evd_var rfl) eva_nil))) ⟨bt, vt, o, p, rfl, sv, ho, hpm, rfl⟩) eva_nil)))) fun d3 hd3 => ?_
      subst hd3
      rw [hset]
      have ok2 := okI_snoc (v := apartD o p) (b := apartB bt vt o p) ok1 (gd_le (n := 3) (gd_tuple.mpr ⟨by simp, gd_l1 gd_str (gd_l1 (ord16 o ho) (gd_l1 (ord16 p hpm) gd_l0))⟩) (by decide)) (holds_apart (ordB_mem sv.vl ho) (ordB_mem sv.vl hpm))
      refine runm_appE (tr := tNil) (j := 5) (x := x) (ds := (items ++ [(clashD o, clashB bt vt o)] ++ [(apartD o p, apartB bt vt o p)]).map pairB) rfl List.mem_cons_self rfl (by rw [List.length_map, List.length_append, List.length_append, List.length_singleton, List.length_singleton]; omega) (evm_of (d := pairB (.tuple [.str "clash", .list (o.map fun (p : Nat) => PyData.int (p : Int))], false)) (evd_tup (eva_cons (evd_tup (eva_cons evd_str (eva_cons (evd_cb (eva_cons (evd_var rfl) eva_nil) rlst_tup) eva_nil))) (eva_cons evd_bl eva_nil)))) fun d4 hd4 => ?_
      subst hd4
      rw [hset]
      refine ⟨_, _, _, _, _, _, _, _, rfl, rfl, ?_, okI_snoc ok2 ?_ holds_clashL⟩
      · rw [List.length_append, List.length_append, List.length_append, List.length_singleton, List.length_singleton, List.length_singleton]; omega
      · refine gd_le (n := 3) (gd_tuple.mpr ⟨by simp, gd_l1 gd_str (gd_l1 ?_ gd_l0)⟩) (by decide)
        exact gd_list.mpr (gd_tuple.mp (ord16 o ho))
    · rintro ms Γ ⟨items, s6, s7, s8, s9, s10, s11, s12, rfl, rfl, hl, hok⟩
      exact ⟨items, _, _, _, _, _, _, _, rfl, rfl, by simpa using hl, hok⟩
  · obtain ⟨items, s6, s7, s8, s9, s10, s11, s12, h1, rfl, hl, hok⟩ := h
    cases h1
    have hset : ∀ (its : List (D × Bool)) (p : D × Bool), setM [(x, its.map pairB)] x (its.map pairB ++ [pairB p]) = [(x, (its ++ [p]).map pairB)] := fun its p => by
      unfold setM
      rw [List.map_cons, List.map_nil, if_pos rfl, List.map_append]
      rfl
    have hlen : ∀ (Γ : List Sl), Γ[2]? = some (.dat (lvD vt)) → EvD K (tOp (rAddU K) (tCB (rLenA K) (tCons (tVar 2) tNil)) (tC (.int 1))) Γ (.int (vt.length + 1 : Nat)) := fun Γ h => evd_is (evd_op (evd_cb (eva_cons (evd_var h) eva_nil) rlen_lst) evd_int radd_int) (by rw [List.length_map]; rfl)
    refine runm_asgN (Φ := fun d => ∃ i : Int, d = .int i ∧ -1 ≤ i ∧ i ≤ 4) (evm_op (evm_draw (n := vt.length + 1) (j := 0) rfl (evm_of (hlen _ rfl))) (evm_of (evd_int (i := 1))) fun u v ⟨r, hu, hr⟩ hv => ⟨.int ((r : Int) - 1), ⟨_, rfl, by omega, by omega⟩, by subst hu hv; exact rop_I0⟩) fun d ⟨i, hd, hi1, hi2⟩ => ?_
    subst hd
    show RunM K Mx (Mv Tb a b) (Dl Tb a b) E0 _ _ [.ref a, .dat (.dict (kvE (tabD bt vt))), .dat (lvD vt), .dat told, .dat (.list ((lawOrders vt.length).map ordD)), .ref x, s6, s7, s8, s9, .dat (.int i), s11, s12] _
    refine runm_app (tr := tNil) (j := 5) (x := x) (ds := items.map pairB) rfl List.mem_cons_self rfl (by rw [List.length_map]; omega) (evm_of (d := pairB (oneD i, decide (PyData.shown told = PyData.shown (oneD i)))) (evd_tup (eva_cons (evd_tup (eva_cons evd_str (eva_cons (evd_var rfl) eva_nil))) (eva_cons (evd_op (evd_cb (eva_cons (evd_var rfl) eva_nil) (rrepr ht.shows)) (evd_cb (eva_cons (evd_tup (eva_cons evd_str (eva_cons (evd_var rfl) eva_nil))) eva_nil) (rrepr (shows_one hi1 hi2))) reqs) eva_nil)))) fun d1 hd1 => ?_
    subst hd1
    rw [hset]
    have ok1 := okI_snoc (v := oneD i) (b := decide (PyData.shown told = PyData.shown (oneD i))) hok (gd_le (n := 2) (gd_tuple.mpr ⟨by simp, gd_l1 gd_str (gd_l1 gd_int gd_l0)⟩) (by decide)) (by
      have h1 := one_told ht.kind hi1 hi2
      rw [show holdsB bt vt (oneD i) = sameD 4 (oneD i) (paperD bt vt) from holds_one, ← ht.eq]
      exact h1)
    have hl9 : (items ++ [(oneD i, decide (PyData.shown told = PyData.shown (oneD i)))]).length ≤ 9 := by rw [List.length_append, List.length_singleton]; omega
    generalize items ++ [(oneD i, decide (PyData.shown told = PyData.shown (oneD i)))] = items at ok1 hl9 ⊢
    refine runm_seq (Ψ' := fun o' ms' => ∃ items s9 s11, o' = .nx [.ref a, .dat (.dict (kvE (tabD bt vt))), .dat (lvD vt), .dat told, .dat (.list ((lawOrders vt.length).map ordD)), .ref x, s6, s7, s8, s9, .dat (.int i), s11, s12] ∧ ms' = [(x, items.map pairB)] ∧ items.length ≤ 11 ∧ okI bt vt items) ?_ (fun Γ1 ms1 h => ?_) (fun o' ms1 h hn => by
      obtain ⟨_, _, _, h1, _⟩ := h
      exact absurd h1 (hn _))
    · have hd0 : ∀ (w : Str) (ds : List D), told = .tuple (.str w :: ds) → PyData.strOk w = true → EvT K (tTest (tOp (rEqD K) (tOp (rIx K) (tVar 3) (tC (.int 0))) (tC (.str "block")))) [.ref a, .dat (.dict (kvE (tabD bt vt))), .dat (lvD vt), .dat told, .dat (.list ((lawOrders vt.length).map ordD)), .ref x, s6, s7, s8, s9, .dat (.int i), s11, s12] (decide (w = "block")) := fun w ds h hw => by
        subst h
        exact evt_test (evd_op (evd_op (evd_var rfl) evd_int (rix_tup (atI_nat (n := 0) rfl rfl))) evd_str (req_str hw (by decide +kernel)))
      have hk := ht.kind
      have heq := ht.eq
      have no : ∀ (w : Str) (ds : List D), told = .tuple (.str w :: ds) → PyData.strOk w = true → decide (w = "block") = false → ∀ (t : TS) (Ψ : Out → Ms → Prop), Ψ (.nx [.ref a, .dat (.dict (kvE (tabD bt vt))), .dat (lvD vt), .dat told, .dat (.list ((lawOrders vt.length).map ordD)), .ref x, s6, s7, s8, s9, .dat (.int i), s11, s12]) [(x, items.map pairB)] → RunM K Mx (Mv Tb a b) (Dl Tb a b) E0 (tIfS (tTest (tOp (rEqD K) (tOp (rIx K) (tVar 3) (tC (.int 0))) (tC (.str "block")))) t tNext) [(x, items.map pairB)] [.ref a, .dat (.dict (kvE (tabD bt vt))), .dat (lvD vt), .dat told, .dat (.list ((lawOrders vt.length).map ordD)), .ref x, s6, s7, s8, s9, .dat (.int i), s11, s12] Ψ := fun w ds h hw hne t Ψ hp => runm_ifF (Thw.refl _) (evt_is (hd0 w ds h hw) hne) (runm_end run_next hp)
      generalize hto : told = tt at hk
      cases hk with
      | one _ _ => subst hto; exact no "one" _ rfl (by decide +kernel) (by decide +kernel) _ _ ⟨items, _, _, rfl, rfl, by omega, ok1⟩
      | clash _ => subst hto; exact no "clash" _ rfl (by decide +kernel) (by decide +kernel) _ _ ⟨items, _, _, rfl, rfl, by omega, ok1⟩
      | apart _ _ => subst hto; exact no "apart" _ rfl (by decide +kernel) (by decide +kernel) _ _ ⟨items, _, _, rfl, rfl, by omega, ok1⟩
      | @block f bl bk row t hb q1 q2 q3 q4 =>
        subst hto
        have ix : ∀ (n : Nat) (d : D) (ms9 : Sl) (m11 : Sl), [.str "block", T f, T bl, T bk, .int t, T row][n]? = some d → EvD K (tOp (rIx K) (tVar 3) (tC (.int n))) [.ref a, .dat (.dict (kvE (tabD bt vt))), .dat (lvD vt), .dat (blockD f bl bk t row), .dat (.list ((lawOrders vt.length).map ordD)), .ref x, s6, s7, s8, ms9, .dat (.int i), m11, s12] d := fun n d ms9 m11 h => evd_op (evd_var rfl) evd_int (rix_tup (atI_nat (n := n) rfl h))
        refine runm_ifT (Thw.refl _) (evt_is (hd0 "block" _ rfl (by decide +kernel)) (by decide +kernel)) ?_
        refine runm_lstN (ds := row.map PyData.int) (ix 5 (T row) _ _ rfl) fun y => ?_
        refine runm_nodup fun hnd => ?_
        have hyx : y ≠ x := fun e => (List.nodup_cons.mp (show ([y, x] : List Addr).Nodup from hnd)).1 (by rw [e]; exact List.mem_cons_self)
        show RunM K Mx (Mv Tb a b) (Dl Tb a b) E0 _ [(y, row.map PyData.int), (x, items.map pairB)] [.ref a, .dat (.dict (kvE (tabD bt vt))), .dat (lvD vt), .dat (blockD f bl bk t row), .dat (.list ((lawOrders vt.length).map ordD)), .ref x, s6, s7, s8, .ref y, .dat (.int i), s11, s12] _
        have th : ∀ (s11 : Sl) (r : Tx), Thw [(y, r.map PyData.int), (x, items.map pairB)] [.ref a, .dat (.dict (kvE (tabD bt vt))), .dat (lvD vt), .dat (blockD f bl bk t row), .dat (.list ((lawOrders vt.length).map ordD)), .ref x, s6, s7, s8, .ref y, .dat (.int i), s11, s12] [.ref a, .dat (.dict (kvE (tabD bt vt))), .dat (lvD vt), .dat (blockD f bl bk t row), .dat (.list ((lawOrders vt.length).map ordD)), .ref x, s6, s7, s8, .dat (L' r), .dat (.int i), s11, s12] := fun s11 r => .same (.same (.same (.same (.same (.same (.same (.same (.same (.own List.mem_cons_self (Thw.refl _))))))))))
        refine runm_asgN (evm_draw (n := row.length) (j := 0) rfl (evm_thw (th _ row) (evd_is (evd_cb (eva_cons (evd_var rfl) eva_nil) rlen_lst) (by rw [List.length_map])) rfl) (by omega) (by omega)) fun d ⟨r, hd, hr⟩ => ?_
        subst hd
        show RunM K Mx (Mv Tb a b) (Dl Tb a b) E0 _ [(y, row.map PyData.int), (x, items.map pairB)] [.ref a, .dat (.dict (kvE (tabD bt vt))), .dat (lvD vt), .dat (blockD f bl bk t row), .dat (.list ((lawOrders vt.length).map ordD)), .ref x, s6, s7, s8, .ref y, .dat (.int i), .dat (.int r), s12] _
        have hget : (row.map PyData.int)[r]? = some (.int (row.getD r 0)) := by
          rw [List.getElem?_map, List.getD_eq_getElem?_getD, List.getElem?_eq_getElem hr]; rfl
        refine runm_seq (Ψ' := fun o' ms' => o' = .nx [.ref a, .dat (.dict (kvE (tabD bt vt))), .dat (lvD vt), .dat (blockD f bl bk t row), .dat (.list ((lawOrders vt.length).map ordD)), .ref x, s6, s7, s8, .ref y, .dat (.int i), .dat (.int r), s12] ∧ ms' = [(y, (row.set r (row.getD r 0 + 1)).map PyData.int), (x, items.map pairB)]) ?_ (fun Γ1 ms1 h => ?_) (fun o' ms1 h hn => absurd h.1 (hn _))
        · refine runm_setI (j := 9) (x := y) (ds := row.map PyData.int) (Φ := (· = .int (row.getD r 0 + 1))) (Φ' := (· = .int r)) rfl List.mem_cons_self (evm_thw (th _ row) (evd_op (evd_op (evd_var rfl) (evd_var rfl) (rix_lst (atI_nat (n := r) rfl hget))) evd_int radd_int) rfl) (evm_of (evd_var rfl)) (fun d' h => ⟨r, h, by rw [List.length_map]; exact hr⟩) fun d n hd hn _ => ⟨rfl, ?_⟩
          have hn' : n = r := by
            injection hn with hn
            omega
          subst hd hn'
          unfold setM
          rw [List.map_cons, List.map_cons, List.map_nil, if_pos rfl, if_neg (Ne.symm hyx), List.map_set]
        · obtain ⟨h1, rfl⟩ := h
          cases h1
          have hrow : row.set r (row.getD r 0 + 1) ≠ row := fun z => by
            have h1 := congrArg (fun l => l.getD r 0) z
            simp only [List.getD_eq_getElem?_getD, List.getElem?_set_self hr, Option.getD_some] at h1
            omega
          have hrl : (row.set r (row.getD r 0 + 1)).length = vt.length := by rw [List.length_set]; exact q4
          generalize row.set r (row.getD r 0 + 1) = row' at hrow hrl
          refine runm_freeze (Γ' := [.ref a, .dat (.dict (kvE (tabD bt vt))), .dat (lvD vt), .dat (blockD f bl bk t row), .dat (.list ((lawOrders vt.length).map ordD)), .ref x, s6, s7, s8, .dat (L' row'), .dat (.int i), .dat (.int r), s12]) (.same (.same (.same (.same (.same (.same (.same (.same (.same (.own List.mem_cons_self (Thw.refl _))))))))))) ?_
          have g6 : ∀ (x1 x2 : Tx), x1.length ≤ 1000 → x2.length ≤ 1000 → gd 16 (blockD f x1 bk t x2) = true := fun x1 x2 h1 h2 => gd_le (n := 3) (gd_tuple.mpr ⟨by simp, gd_l1 gd_str (gd_l1 (gd_T (by omega)) (gd_l1 (gd_T h1) (gd_l1 (gd_T (by omega)) (gd_l1 gd_int (gd_l1 (gd_T h2) gd_l0)))))⟩) (by decide)
          have hb1 : holdsB bt vt (blockD f bl bk t row') = false := by
            rw [show holdsB bt vt (blockD f bl bk t row') = sameD 4 (blockD f bl bk t row') (paperD bt vt) from holds_block, ← heq]
            rw [show sameD 4 (blockD f bl bk t row') (blockD f bl bk t row) = sameD 4 (.tuple [.str "block", T f, T bl, T bk, .int t, T row']) (blockD f bl bk t row) from rfl, same_block, same_T (a := row') (b := row), decide_eq_false hrow]
            simp
          have hb2 : holdsB bt vt (blockD f (bl ++ bl) bk t row) = false := by
            rw [show holdsB bt vt (blockD f (bl ++ bl) bk t row) = sameD 4 (blockD f (bl ++ bl) bk t row) (paperD bt vt) from holds_block, ← heq]
            rw [show sameD 4 (blockD f (bl ++ bl) bk t row) (blockD f bl bk t row) = sameD 4 (.tuple [.str "block", T f, T (bl ++ bl), T bk, .int t, T row]) (blockD f bl bk t row) from rfl, same_block, same_T (a := bl ++ bl) (b := bl), decide_eq_false (fun z => hb (by simpa using z))]
            simp
          refine runm_app (tr := tNil) (j := 5) (x := x) (ds := items.map pairB) rfl List.mem_cons_self rfl (by rw [List.length_map]; omega) (evm_of (d := pairB (blockD f bl bk t row', false)) (evd_tup (eva_cons (evd_tup (eva_cons evd_str (eva_cons (ix 1 _ _ _ rfl) (eva_cons (ix 2 _ _ _ rfl) (eva_cons (ix 3 _ _ _ rfl) (eva_cons (ix 4 _ _ _ rfl) (eva_cons (evd_cb (eva_cons (evd_var rfl) eva_nil) rtup_lst) eva_nil))))))) (eva_cons evd_bl eva_nil)))) fun d1 hd1 => ?_
          subst hd1
          rw [hset]
          refine runm_appE (tr := tNil) (j := 5) (x := x) (ds := (items ++ [(blockD f bl bk t row', false)]).map pairB) rfl List.mem_cons_self rfl (by rw [List.length_map, List.length_append, List.length_singleton]; omega) (evm_of (d := pairB (blockD f (bl ++ bl) bk t row, false)) (evd_tup (eva_cons (evd_tup (eva_cons evd_str (eva_cons (ix 1 _ _ _ rfl) (eva_cons (evd_op (ix 2 _ _ _ rfl) (ix 2 _ _ _ rfl) (radd_T (by omega))) (eva_cons (ix 3 _ _ _ rfl) (eva_cons (ix 4 _ _ _ rfl) (eva_cons (ix 5 _ _ _ rfl) eva_nil))))))) (eva_cons evd_bl eva_nil)))) fun d2 hd2 => ?_
          subst hd2
          rw [hset]
          exact ⟨_, _, _, rfl, rfl, by rw [List.length_append, List.length_append, List.length_singleton, List.length_singleton]; omega, okI_snoc (okI_snoc ok1 (g6 _ _ (by omega) (by omega)) hb1) (g6 _ _ (by rw [List.length_append]; omega) (by omega)) hb2⟩
    · obtain ⟨items, s9, s11, h1, rfl, hl, hok⟩ := h
      cases h1
      refine runm_nx (run_asg (d := .list bads1) (evd_lst (eva_cons evd_non (eva_cons evd_str (eva_cons (evd_tup (eva_cons evd_str eva_nil)) (eva_cons (evd_tup (eva_cons evd_str (eva_cons evd_non eva_nil))) (eva_cons (evd_tup (eva_cons evd_str (eva_cons evd_bl eva_nil))) (eva_cons (evd_tup (eva_cons evd_str (eva_cons evd_bl eva_nil))) (eva_cons (evd_tup (eva_cons evd_str eva_nil)) (eva_cons (evd_tup (eva_cons evd_str (eva_cons (evd_tup eva_nil) eva_nil))) (eva_cons (evd_tup (eva_cons evd_str eva_nil)) eva_nil))))))))) (by decide)) gd_name) ?_
      refine runm_nx (run_asg (d := .list (bads1 ++ bads2)) (evd_op (evd_var rfl) (evd_lst (ds := bads2) (eva_cons (evd_tup (eva_cons evd_str (eva_cons (evd_tup (eva_cons evd_int (eva_cons evd_int eva_nil))) eva_nil))) (eva_cons (evd_tup (eva_cons evd_str (eva_cons (evd_tup (eva_cons evd_int eva_nil)) eva_nil))) (eva_cons (evd_tup (eva_cons evd_str (eva_cons (evd_tup eva_nil) (eva_cons (evd_tup eva_nil) eva_nil)))) (eva_cons (evd_tup (eva_cons evd_str (eva_cons (evd_tup (eva_cons evd_int eva_nil)) (eva_cons (evd_tup (eva_cons evd_bl eva_nil)) eva_nil)))) (eva_cons (evd_tup (eva_cons evd_str (eva_cons (evd_tup (eva_cons evd_non eva_nil)) eva_nil))) eva_nil))))) (by decide)) (radd_lst (by decide))) gd_name) ?_
      refine runm_nx (run_asg (d := .list (bads1 ++ bads2 ++ bads3)) (evd_op (evd_var rfl) (evd_lst (ds := bads3) (eva_cons (evd_tup (eva_cons evd_str (eva_cons (evd_tup eva_nil) (eva_cons (evd_tup eva_nil) (eva_cons (evd_tup eva_nil) (eva_cons evd_int (eva_cons (evd_tup eva_nil) eva_nil))))))) (eva_cons (evd_tup (eva_cons evd_str (eva_cons (evd_tup (eva_cons evd_int eva_nil)) (eva_cons evd_non eva_nil)))) (eva_cons (evd_tup (eva_cons evd_int (eva_cons evd_int eva_nil))) (eva_cons evd_int (eva_cons (evd_tup (eva_cons evd_str (eva_cons evd_int eva_nil))) eva_nil))))) (by decide)) (radd_lst (by decide))) gd_name) ?_
      refine runm_freeze (Γ' := [.ref a, .dat (.dict (kvE (tabD bt vt))), .dat (lvD vt), .dat told, .dat (.list ((lawOrders vt.length).map ordD)), .dat (.list (items.map pairB)), s6, s7, s8, s9, .dat (.int i), s11, .dat (.list (bads1 ++ bads2 ++ bads3))]) (.same (.same (.same (.same (.same (.own List.mem_cons_self (Thw.refl _))))))) ?_
      refine runm_ret (Φ := papersD bt vt) (evm_op (evm_of (evd_var rfl)) (evm_lst (Φ := fun d => ∃ v ∈ bads1 ++ bads2 ++ bads3, d = .list [pairB (v, false)]) (evma_1 (evm_tup (Φ := fun d => ∃ v ∈ bads1 ++ bads2 ++ bads3, d = pairB (v, false)) (evma_2 (evm_pick (es := bads1 ++ bads2 ++ bads3) (j := 0) rfl (evm_of (evd_var rfl)) (by decide) (by decide)) (evm_of evd_bl)) (fun ds ⟨p, q, h, _, _⟩ => by rw [h]; simp) fun ds ⟨p, q, h, hp, hq⟩ => ⟨p, hp, by rw [h, hq]; rfl⟩)) (fun ds ⟨p, h, _⟩ => by rw [h]; simp) fun ds ⟨p, h, v, hv, hp⟩ => ⟨v, hv, by rw [h, hp]⟩) fun u z hu ⟨v, hv, hz⟩ => ?_) fun d hd => ⟨d, rfl, hd⟩
      subst hu hz
      refine ⟨.list ((items ++ [(v, false)]).map pairB), ⟨_, rfl, by rw [List.length_append, List.length_singleton]; omega, okI_snoc hok (List.all_eq_true.mp bads_gd v hv) (bads_no (ht.eq ▸ ht.kind) sv.vl v hv)⟩, ?_⟩
      rw [List.map_append]
      exact radd_lst (by rw [List.length_map]; show items.length + 1 ≤ _; omega)
end CB

/-! X1 -/
set_option Elab.async false
set_option linter.all false
set_option maxRecDepth 100000
set_option maxHeartbeats 4000000
/-! try with several clauses `except x as n`, for work of which every exception is met by one of the clauses -/
namespace CB
open PySem PySem.Spec PyProof.Rows L2
/-- an exception a (class cls, fields at d) that this def is about to handle; sI: the state without it -/
structure Met (X : Cx) (pins : List (Addr × Obj)) (σ : L2.St) (H : Hp) (a : Addr) (cls : Value) (d : Option Addr) (B : Heap) (sI s : Shared) : Prop where
  org : Inv X pins σ H sI
  grd : ∀ b o, sI.heap.get? b = some o → b ∉ frs X.stack → B.get? b = some o
  ups : sI.heap.UpToSlots s.heap
  out : s.os = sI.os
  gen : AllBare s.gens
  fly : HandSPX.FlyingZ B (X.env :: X.outer) a (Zc cls d) s.heap
  new : H a = none
/-- what is left once the name is gone -/
def offName (i : Nat) (D : Ends) : Ends := { nx := fun σ H => D.nx (σ.set i none) H, rt := D.rt, bk := fun σ H => D.bk (σ.set i none) H, ct := fun σ H => D.ct (σ.set i none) H }
/-- the first clause whose class fits gets the exception -/
def pickW (K : Fg) (i : Nat) (D : Ends) : List (Value × (Addr → Value → Option Addr → TS)) → WX
  | [] => fun _ _ _ _ => False
  | (c, ts) :: r => fun cls d σ H => (PySem.W.exmOne K cls c = some true ∧ ∀ a, H a = none → ts a cls d (offName i D) (σ.set i (some (.ref a))) H) ∨ (PySem.W.exmOne K cls c = some false ∧ pickW K i D r cls d σ H)
inductive Clauses (X : Cx) (n : Str) : List ExceptHandler → List (Value × (Addr → Value → Option Addr → TS)) → Prop
  | none : Clauses X n [] []
  | more {x : Str} {c : Value} {ts : Addr → Value → Option Addr → TS} {b : Stmt} {bs : List Stmt} {p q : Pos} {hs : List ExceptHandler} {l : List (Value × (Addr → Value → Option Addr → TS))} (nm : Names X x c)
      (run : ∀ (a : Addr) (o : Obj) (cls : Value) (d : Option Addr) (pn : List (Addr × Obj)), Zc cls d o → (∃ vs, o.data = .fields vs) → PSs (X.suite a ((a, o) :: pn)) (b :: bs) (ts a cls d)) (rest : Clauses X n hs l) :
      Clauses X n (.ExceptHandler (some (.Name x p)) (some n) (b :: bs) q :: hs) ((c, ts) :: l)
section
variable {X : Cx} {pins : List (Addr × Obj)} {σ : L2.St} {H : Hp} {a : Addr} {cls : Value} {d : Option Addr} {B : Heap} {sI s : Shared} {D : Ends} {i : Nat} {n : Str}
theorem Met.inv (m : Met X pins σ H a cls d B sI s) : Inv X pins σ H s := m.org.landed m.grd m.fly.1 m.ups m.out m.gen
theorem Met.moved {h' : Heap} (m : Met X pins σ H a cls d B sI s) (f : HandSPX.FlyingZ B (X.env :: X.outer) a (Zc cls d) h') (u : s.heap.UpToSlots h') : Met X pins σ H a cls d B sI { s with heap := h' } :=
  ⟨m.org, m.grd, m.ups.trans u, m.out, m.gen, f, m.new⟩
/-- the exception is no frame -/
theorem Met.away (m : Met X pins σ H a cls d B sI s) (hf : X.env.frame = some X.env.locals) : a ≠ X.env.locals ∧ a ∉ X.fs := by
  obtain ⟨o, vs, ho, _, hv⟩ := m.fly.there
  have no : ∀ e ∈ X.env :: X.outer, e.frame ≠ some a := fun e he q => by
    obtain ⟨_, o', ho', hn⟩ := m.fly.2.2.1.mem (List.mem_filterMap.mpr ⟨e, he, q⟩)
    rw [ho] at ho'
    injection ho' with z
    exact hn vs (z ▸ hv)
  exact ⟨fun e => no _ List.mem_cons_self (by rw [hf, e]), fun h => let ⟨e, he, q⟩ := List.mem_filterMap.mp h; no e (List.mem_cons_of_mem _ he) q⟩
/-- into a clause's suite -/
theorem Met.enter (m : Met X pins σ H a cls d B sI s) (hf : X.env.frame = some X.env.locals) : ∃ o, s.heap.get? a = some o ∧ Zc cls d o ∧ (∃ vs, o.data = .fields vs) ∧ Inv (X.suite a ((a, o) :: (X.pn ++ pins))) [] σ H s := by
  obtain ⟨o, vs, ho, hz, hv⟩ := m.fly.there
  obtain ⟨n1, n2⟩ := m.away hf
  exact ⟨o, ho, hz, ⟨vs, hv⟩, m.inv.suite ho hv m.new n1 n2⟩
/-- out of the suite: the name goes -/
theorem suite_out {o : Obj} {q : Pos} {f : Flow} (ok : X.Ok) (hN : X.N.Nodup) (hi : X.N[i]? = some n) (hl : X.env.kindOf n = some .local) {s' : Shared} (h : SP (X.suite a ((a, o) :: (X.pn ++ pins))) [] (offName i D) f s') :
    wpAny (model X.prog X.w) X.A (do bindName X.env n .none; unbindBehindTheSuite X.env n q) (fun _ s3 => SP X pins D f s3) X.xe s' := by
  cases f with
  | ret u => exact let ⟨v, σ', H', I, r, z⟩ := h; gone_ok (I.unsuite ok) hN hi hl fun _ J => ⟨v, _, _, J, r, z⟩
  | next => exact let ⟨σ', H', I, z⟩ := h; gone_ok (I.unsuite ok) hN hi hl fun _ J => ⟨_, _, J, z⟩
  | brk => exact let ⟨σ', H', I, z⟩ := h; gone_ok (I.unsuite ok) hN hi hl fun _ J => ⟨_, _, J, z⟩
  | cont => exact let ⟨σ', H', I, z⟩ := h; gone_ok (I.unsuite ok) hN hi hl fun _ J => ⟨_, _, J, z⟩
/-- the name that a clause asks for -/
theorem Met.asks {x : Str} {c : Value} {p : Pos} (m : Met X pins σ H a cls d B sI s) (hf : X.env.frame = some X.env.locals) (nm : Names X x c) {Q E : Value → Shared → Prop} (h : Q c s) : wpAny (model X.prog X.w) (X.A.mark (some (.ref a))) (eval (.Name x p) X.env) Q E s := by
  obtain ⟨o, _, _, _, S⟩ := m.enter hf
  rcases nm with ⟨g, nd, h1 | ⟨h1, h2, h3⟩⟩
  · exact ld_glob (X := X.suite a ((a, o) :: (X.pn ++ pins))) S g h1 h nd
  · exact ld_blt (X := X.suite a ((a, o) :: (X.pn ++ pins))) S g h1 h2 h h3 nd
theorem Met.handle (hf : X.env.frame = some X.env.locals) (hN : X.N.Nodup) (hi : X.N[i]? = some n) (hl : X.env.kindOf n = some .local) : ∀ {hs : List ExceptHandler} {l : List (Value × (Addr → Value → Option Addr → TS))}, Clauses X n hs l → Met X pins σ H a cls d B sI s → pickW X.K i D l cls d σ H →
    wpAny (model X.prog X.w) X.A (handleBy (.ref a) X.env hs) (SP X pins D) X.xe s
  | _, _, .none, _, w => False.elim w
  | _, _, .more (c := c) nm run rest, m, w => by
    have cut : ∀ b, PySem.W.exmOne X.K cls c = some b → ∀ {Q : Bool → Shared → Prop} {E : Value → Shared → Prop}, Q b s → wpAny (model X.prog X.w) (X.A.mark (some (.ref a))) (excMatches (.ref a) c) Q E s := fun b hb Q E q => by
      obtain ⟨o, _, ho, hz, _⟩ := m.fly.there
      exact (PySem.W.exm_one (M := model X.prog X.w) m.inv.kIn (fun _ _ _ _ k z => wpAny_typeOf_ref (k _ _ ho) (by rw [hz.1]; exact z)) hb).here q
    refine wpAny_handleBy_cons (codeAny_handlers_test (m.asks hf nm ?_)) (fun z => by cases z)
    rcases w with ⟨hb, ht⟩ | ⟨hb, ht⟩
    · refine cut true hb (codeAny_handlers_suite_as (HandSPX.lands_againZ m.fly fun h' f u => ?_))
      have m' := m.moved f u
      obtain ⟨o, _, hz, hv, S⟩ := m'.enter hf
      refine store_ok (X := X.suite a ((a, o) :: (X.pn ++ pins))) (v := .ref a) S hN hi (.inl hl) rfl (fun s5 S5 => ?_) (.inr hl)
      exact wpAny_mono ((run a o cls d (X.pn ++ pins) hz hv).run [] s5 _ H _ S5 (ht a m.new)) (fun f s6 z => suite_out m.org.ok hN hi hl z) fun _ _ z => False.elim z
    · exact cut false hb (Met.handle hf hN hi hl rest m ht)
end
section
variable {X : Cx} {body : List Stmt} {h0 : ExceptHandler} {hs : List ExceptHandler} {l : List (Value × (Addr → Value → Option Addr → TS))} {pos : Pos} {tb : WX → TS} {i : Nat} {n : Str}
theorem ps_try_clauses (hst : X.stack = X.env :: X.outer) (hf : X.env.frame = some X.env.locals) (hN : X.N.Nodup) (hi : X.N[i]? = some n) (hl : X.env.kindOf n = some .local)
    (hb : ∀ (W : WX) (pn : List (Addr × Obj)) (xe : Value → Shared → Prop), Takes (X.tr pn xe) W → PSs (X.tr pn xe) body (tb W)) (hc : Clauses X n (h0 :: hs) l) :
    PS X (.Try body (h0 :: hs) [] [] pos) (fun D σ H => tb (pickW X.K i D l) D σ H) := by
  refine ⟨fun pins s σ H D I h => wpAny_Try_except ?_⟩
  refine wpAny_mono ((hb _ (X.pn ++ pins) _ (fun u s' z => ?_)).run [] s σ H D (I.toTry _) h) (fun f s1 z => ?_) fun _ _ z => z
  · obtain ⟨a, B, sI, pins', σ', H', cls, d, rfl, J, nb, up, sky, na, os, ag, w⟩ := z
    refine Sky.land Zc.steady (I.ok.frames.trans (by rw [hst])) hf (hst ▸ sky) fun h' f u => ?_
    exact Met.handle (B := B) (sI := sI) hf hN hi hl hc ⟨J.ofTry I.ok, nb, up.trans u, os, ag, f, na⟩ w
  · cases f with
    | ret u => exact let ⟨v, σ', H', J, r, q⟩ := z; ⟨v, σ', H', J.ofTry I.ok, r, q⟩
    | next => exact let ⟨σ', H', J, q⟩ := z; wpAny_execs_nil ⟨σ', H', J.ofTry I.ok, q⟩
    | brk => exact let ⟨σ', H', J, q⟩ := z; ⟨σ', H', J.ofTry I.ok, q⟩
    | cont => exact let ⟨σ', H', J, q⟩ := z; ⟨σ', H', J.ofTry I.ok, q⟩
end
end CB

/-! W23 -/
set_option Elab.async false
set_option linter.all false
set_option maxRecDepth 100000
set_option maxHeartbeats 4000000
namespace CB
open PySem PySem.Spec PyProof.Rows L2
def ekB : EK → EK → Bool
  | .text, .text => true
  | .versions, .versions => true
  | .order, .order => true
  | _, _ => false
def tagS : EK → Str
  | .text => "text"
  | .versions => "versions"
  | .order => "order"
/-- what _law_refused makes of the work -/
def TRef (K : Fg) : (XK → Hp → VK → Prop) → Hp → VK → Prop := fun tl H Q =>
  tl (fun cls d H' => ∃ k dx i, cls = .ref (eka K k) ∧ d = some dx ∧ H' dx = some (atF i) ∧ ∀ p, H' p = none → Q (.ref p) (L2.upd H' p (.tup [.str (tagS k), .int i]))) H (fun _ H' => Q .non H')
/-- what the handlers ask of the classes -/
structure XcOk (K : Fg) (mg : Str → Option Value) : Prop where
  m : ∀ k, mg (ekName k) = some (.ref (eka K k))
  xf : ∀ k, XfC K (eka K k)
  no : ∀ k, PySem.W.findIn K (.ref (eka K k)) "at" = some none
  ex : ∀ k j, PySem.W.exmOne K (.ref (eka K k)) (.ref (eka K j)) = some (ekB k j)
theorem sc_law_refused : FnScope ["_law_work", "fault"] ["_law_work"] (defScope s_law_refused) := ⟨rfl, rfl, rfl, by decide +kernel, rfl, by decide +kernel, by decide +kernel⟩
theorem takes_len {X : Cx} {W : WX} (tk : Takes X W) : Takes X (fun cls d σ H => σ.length = X.N.length → W cls d σ H) := fun e s' z => by
  obtain ⟨a, B, sI, pins, σ, H, cls, d, e1, J, nb, up, sky, na, os, ag, w⟩ := z
  exact tk e s' ⟨a, B, sI, pins, σ, H, cls, d, e1, J, nb, up, sky, na, os, ag, w J.len⟩
theorem refused_gives {X : Cx} {g : Addr} {cdg : Value} {q : Str} (O : XcOk X.K X.mg) : LamX.GivesTo X ["_law_work", "fault"] "_law_refused" (defScope s_law_refused) g cdg (defBody s_law_refused) "_law_work" q (TRef X.K) := by
  intro f c' s H Q tl act hc h
  have nm : ∀ k : EK, Names ((cxOf C8.CX0 X.prog X.w X.K X.mg X.base ["_law_work", "fault"] "_law_refused" (defScope s_law_refused) g cdg X.A X.stack s H C8.E0).nox) (ekName k) (.ref (eka X.K k)) := fun k => ⟨by cases k <;> rfl, by cases k <;> decide, .inl (O.m k)⟩
  refine ⟨_, pss_cons (ps_try_clauses (X := (cxOf C8.CX0 X.prog X.w X.K X.mg X.base ["_law_work", "fault"] "_law_refused" (defScope s_law_refused) g cdg X.A X.stack s H C8.E0).nox) (i := 1) (n := "fault")
      (tb := fun W D σ H => ∃ Ech : XK, (∀ cls d σ' H', Ech cls d H' → σ'.length = 2 → W cls d σ' H') ∧ σ[0]? = some (some (.ref f)) ∧ H c' = some (LamX.CodeO c' q) ∧ tl Ech H (fun _ H' => D.nx σ H'))
      rfl rfl sc_law_refused.nd rfl rfl (fun W pn xe tk => ?_)
      (.more (nm .text) (fun a oe cls d pn hz hf => pss_one (ps_ret (pe_tup (pa_cons pe_str (pa_cons (pe_xf (O.xf .text) (O.no .text) hz hf (pv 1)) pa_nil)))))
      (.more (nm .versions) (fun a oe cls d pn hz hf => pss_one (ps_ret (pe_tup (pa_cons pe_str (pa_cons (pe_xf (O.xf .versions) (O.no .versions) hz hf (pv 1)) pa_nil)))))
      (.more (nm .order) (fun a oe cls d pn hz hf => pss_one (ps_ret (pe_tup (pa_cons pe_str (pa_cons (pe_xf (O.xf .order) (O.no .order) hz hf (pv 1)) pa_nil))))) .none)))) (pss_one (ps_ret pe_non)), ?_⟩
  · refine ⟨fun pins s' σ H' D I h' => ?_⟩
    obtain ⟨Ech, hW, h1, h2, h3⟩ := h'
    exact (pss_one (ps_expr (act _ pn xe Ech _ _ (takes_len tk) hW))).run pins s' σ H' D I ⟨h1, h2, h3⟩
  · have one : ∀ (k : EK) (dx a : Addr) (i : Int) (σ' : L2.St) (H' : Hp) (D : Ends), σ'.length = 2 → H' dx = some (atF i) → (∀ p, H' p = none → D.rt (.ref p) (L2.upd H' p (.tup [.str (tagS k), .int i]))) →
        tRet (tTup (tCons (tC (.str (tagS k))) (tCons (tXf a (.ref (eka X.K k)) (some dx) (eka X.K k) "at" (tVar 1)) tNil))) D (σ'.set 1 (some (.ref a))) H' := fun k dx a i σ' H' D hl hx hq =>
      ⟨.ref a, by rw [List.getElem?_set_self (by omega)], rfl, rfl, dx, _, .int i, rfl, hx, rfl, (show 2 ≤ sizeLine by decide), hq⟩
    refine ⟨fun cls d H' => ∃ k dx i, cls = .ref (eka X.K k) ∧ d = some dx ∧ H' dx = some (atF i) ∧ ∀ p, H' p = none → Q (.ref p) (L2.upd H' p (.tup [.str (tagS k), .int i])), fun cls d σ' H' hE hl => ?_, rfl, hc, h⟩
    obtain ⟨k, dx, i, rfl, rfl, hx, hq⟩ := hE
    have e1 := O.ex k .text
    have e2 := O.ex k .versions
    have e3 := O.ex k .order
    cases k with
    | text => exact .inl ⟨e1, fun a _ => one .text dx a i σ' H' _ hl hx hq⟩
    | versions => exact .inr ⟨e1, .inl ⟨e2, fun a _ => one .versions dx a i σ' H' _ hl hx hq⟩⟩
    | order => exact .inr ⟨e1, .inr ⟨e2, .inl ⟨e3, fun a _ => one .order dx a i σ' H' _ hl hx hq⟩⟩⟩
end CB

/-! X2 -/
set_option Elab.async false
set_option linter.all false
set_option maxRecDepth 100000
set_option maxHeartbeats 4000000
/-! f(lambda: ..) where it must be known that of the tables only the maker's own one, at P, is written -/
namespace CB
open PySem PySem.Spec PyProof.Rows L2 LamX
/-- all but the object at P stays -/
def But (P : Addr) (H H1 : Hp) : Prop := ∀ b o, b ≠ P → H b = some o → H1 b = some o
theorem But.code {P : Addr} {H H1 : Hp} {ps : Array Value} (e : But P H H1) (hP : H P = some (.tbl ps)) {c : Addr} {q : Str} (h : H c = some (CodeO c q)) : H1 c = some (CodeO c q) := e c _ (fun z => by
  subst z
  rw [hP] at h
  exact codeO_ne ps (Option.some.inj h).symm) h
/-- one more code object in the table at P -/
abbrev putCode (H : Hp) (P c : Addr) (q : Str) (ps : Array Value) (pos : Pos) : Hp := L2.upd (L2.upd H P (.tbl (ps ++ #[rawInt pos.line, rawInt pos.col, .ref c]))) c (CodeO c q)
section
variable {H : Hp} {P c : Addr} {q : Str} {ps : Array Value} {pos : Pos}
theorem putCode_but (n : H c = none) : But P H (putCode H P c q ps pos) := fun b o hb h => (upd_ne (ne_of_none h n)).trans ((upd_ne hb).trans h)
theorem putCode_tabs {T : List (Addr × Str)} (hT : Tabs T H) (hm : (P, q) ∈ T) (hu : ∀ p ∈ T, p.1 = P → p.2 = q) (n : H c = none) (hP : H P = some (.tbl ps)) : Tabs T (putCode H P c q ps pos) := fun p hp => by
  have e := putCode_but (P := P) (q := q) (ps := ps) (pos := pos) n
  obtain ⟨ps', h1, h2, h3⟩ := hT p hp
  by_cases hb : p.1 = P
  · rw [hb, hP] at h1
    injection h1 with h1
    injection h1 with h1
    subst h1
    have el : (ps ++ #[rawInt pos.line, rawInt pos.col, .ref c]).toList = ps.toList ++ [rawInt pos.line, rawInt pos.col, .ref c] := by simp
    rw [hb, hu p hp hb]
    rw [hu p hp hb] at h3
    refine ⟨_, (upd_ne (ne_of_none hP n)).trans upd_same, el ▸ PySem.TriplesOk_snoc _ _ _ _ h2, fun pos' cv hc => ?_⟩
    rcases among_app _ h2 (el ▸ hc) with z | z
    · exact let ⟨x, z1, z2⟩ := h3 pos' cv z; ⟨x, z1, e.code hP z2⟩
    · exact ⟨c, z, upd_same⟩
  · exact ⟨ps', e _ _ hb h1, h2, fun pos' cv hc => let ⟨x, z1, z2⟩ := h3 pos' cv hc; ⟨x, z1, e.code hP z2⟩⟩
end
section
variable {X : Cx} {pins : List (Addr × Obj)} {σ : L2.St} {H : Hp} {s : Shared}
theorem new_off (I : Inv X pins σ H s) {f : Addr} (h : s.heap.objs.size ≤ f) : f ∉ frs X.stack := fun z => (List.mem_cons.mp (I.stkSub _ z)).elim (fun e => Nat.not_le_of_lt I.lt (e ▸ h)) (I.nofs h)
/-- the function object of a lambda -/
abbrev lamObj (X : Cx) (params : Arguments) (body : Expr) (scope : Scope) (pm : Value) (c : Addr) (ct : Value) : Obj := PySem.W.kla_obj "<lambda>" (X.env.qual ++ "<lambda>") params body scope (cloFrom X.env.cells scope.names []) pm c ct
/-- what is known once the lambda stands at f, its code object at c -/
structure Made (X : Cx) (pins : List (Addr × Obj)) (σ : L2.St) (H : Hp) (T : List (Addr × Str)) (P : Addr) (params : Arguments) (body : Expr) (scope : Scope) (f c : Addr) (pm ct : Value) (H1 : Hp) (s' : Shared) : Prop where
  inv : Inv X pins σ H1 s'
  but : But P H H1
  tabs : Tabs T H1
  obj : s'.heap.get? f = some (lamObj X params body scope pm c ct)
  off : H1 f = none
  nofr : f ∉ frs X.stack
  code : H1 c = some (CodeO c (X.env.qual ++ "<lambda>"))
theorem lam_made {T : List (Addr × Str)} {k P : Addr} {params : Arguments} {body : Expr} {scope : Scope} {pos : Pos} {E Q : Value → Shared → Prop} (I : Inv X pins σ H s) (TB : TabB X.base X.mg k P) (hk : X.env.code = .ref k)
    (hm : (P, X.env.qual ++ "<lambda>") ∈ T) (hu : ∀ p ∈ T, p.1 = P → p.2 = X.env.qual ++ "<lambda>") (hT : Tabs T H) (hd : defaultsOf params X.env = ([], [])) (hfree : ∀ y ∈ scope.names, y.2 = .free → ∃ c, X.env.cells.lookup y.1 = some c)
    (h : ∀ f c pm ct H1 s', Made X pins σ H T P params body scope f c pm ct H1 s' → Q (.ref f) s') : wpAny (model X.prog X.w) X.A (eval (.Lambda params body scope pos) X.env) Q E s := by
  obtain ⟨ps, hP, tri, mem⟩ := hT _ hm
  have oP := I.hok P _ hP
  refine PySem.W.kla_eval hd ?_
  rcases hc : codeAmong pos ps.toList with _ | v
  · refine PySem.W.kla_makeFunction (mg := X.mg) (closure_ok hfree) I.ok.glob (I.mod.glob.keeps I.bk) hk (TB.code.keeps I.bk) oP tri hc TB.gP (TB.bm.keeps I.bk) fun c ct h' tk kp ge lt rec tb => ?_
    obtain ⟨_, oc, vs, t, e, r1, r2, r3⟩ := rec
    cases e
    have n : H c = none := I.hok.fresh ge
    have big : s.heap.objs.size ≤ h'.objs.size := Nat.le_of_lt (Nat.lt_of_le_of_lt ge lt)
    refine h h'.objs.size c _ ct _ _ ⟨inv_table (t' := tk) (h' := h'.push (lamObj X params body scope _ c ct)) I hP (fun b o nb z => Heap.get?_push_of_some _ (kp b o nb z)) (Heap.get?_push_of_some _ tb) ge ⟨oc, vs, t, Heap.get?_push_of_some _ r1, r2, r3⟩,
      putCode_but n, putCode_tabs hT hm hu n hP, Heap.get?_push_size _ rfl, ?_, new_off I big, upd_same⟩
    rw [upd_ne (Nat.ne_of_gt lt), upd_ne (Nat.ne_of_gt (Nat.lt_of_lt_of_le (Heap.lt_size oP) big))]
    exact I.hok.fresh big
  · obtain ⟨c, rfl, hco⟩ := mem pos v hc
    refine PySem.W.kla_makeFunctionHit (mg := X.mg) (closure_ok hfree) I.ok.glob (I.mod.glob.keeps I.bk) hk (TB.code.keeps I.bk) oP tri hc (TB.bm.keeps I.bk) fun ct h' tk kp big => ?_
    exact h h'.objs.size c _ ct H _ ⟨I.kept fun b o z => Heap.get?_push_of_some _ (kp b o z), fun _ _ _ z => z, hT, Heap.get?_push_size _ rfl, I.hok.fresh big, new_off I big, hco⟩
end
/-- reading of f(lambda: ..) -/
def tLamB (P : Addr) (T : List (Addr × Str)) (TT : (XK → Hp → VK → Prop) → Hp → VK → Prop) (t : XK → TE) : TE := fun σ H Q => Tabs T H ∧ ∀ H1, But P H H1 → Tabs T H1 → TT (fun E H' Q' => t E σ H' Q') H1 Q
section
variable {X : Cx}
/-- x(lambda: body), x a def of one parameter, known by its text st -/
theorem pe_lamB {T : List (Addr × Str)} {TT : (XK → Hp → VK → Prop) → Hp → VK → Prop} {x p : Str} {N : List Str} {st : Stmt} {g k P : Addr} {fd : FuncData} {n : Nat} {params : Arguments} {body : Expr} {scope : Scope} {t : XK → TE} {p1 lp p2 : Pos}
    (gl : Gl X x) (hg : X.mg x = some (.ref g)) (F : FunD X.K x x (defArgs st) (defBody st) (defScope st) [] [] g fd) (hb : L2.Binds X.K fd [p] []) (S : FnScope N [p] (defScope st)) (h0 : N[0]? = some p) (hv : Vis (defScope st) p)
    (hG : ∀ cdg : Value, GivesTo X N x (defScope st) g cdg (defBody st) p (X.env.qual ++ "<lambda>") TT)
    (TB : TabB X.base X.mg k P) (hk : X.env.code = .ref k) (hm : (P, X.env.qual ++ "<lambda>") ∈ T) (hu : ∀ p ∈ T, p.1 = P → p.2 = X.env.qual ++ "<lambda>") (room : Room (n + 2) X.A) (L : LamS X.env.scope scope) (hdef : defaultsOf params X.env = ([], []))
    (hbind : ∀ (q : Str) (cl : List (Str × Addr)) (pm cv ctv : Value), bindArgs (PySem.W.kla_fn "<lambda>" q params body scope cl pm cv ctv) ⟨[], []⟩ = pure [])
    (hbody : ∀ (A : Around) (outer : List Env) (s : Shared) (H : Hp) (E : XK) (f c : Addr), Room n (A.deeper (lamEnv X scope s.heap.objs.size f c)) → PE (lamCx X A outer s H E scope f c) body (t E))
    (d1 : (x == ("__debug__" : Str)) = false := by decide) (d2 : (p == ("__debug__" : Str)) = false := by decide) (d3 : (p == ("__classdict__" : Str)) = false := by decide) :
    PE X (.Call (.Name x p1) [.Lambda params body scope lp] [] p2) (tLamB P T TT t) := by
  obtain ⟨_, _, _, _, _, _, _, cdv, _, _, rfl, lk, hcd, _, _⟩ := F.ex
  refine ⟨fun pins s σ H Q I ⟨hT, h⟩ => wpAny_Call_Name_kw (ld_glob I gl hg (PySem.W.callWith_K (h₀ := X.base) I.ok.mod.kin F.kp ?_ (by rfl) (by rfl)) d1)⟩
  show wpAny _ _ (spliced ((false, eval (.Lambda params body scope lp) X.env) :: backTo p2 (starEach [] X.env))) _ _ s
  refine Calls.spliced_cons (lam_made I TB hk hm hu hT hdef (L.has I.ok) fun f c pm ct H1 s' M => Calls.spliced_nil ⟨M.inv.kIn, wpAny_call (codeAny_mono (run_ofS (CX := C8.CX0) (E := C8.E0) (H := H1) (Q := Q) (N := N) (ps := [p]) (us := [.ref f]) (vs := [.ref f]) lk hcd S room M.inv.env0 (hb s' [.ref f] M.inv.kIn rfl) (.cons rfl .nil) rfl fun room' => ?_) fun r s2 z => ?_)⟩)
  · obtain ⟨t', ht, hq⟩ := hG cdv f c s' H1 Q (fun E H' Q' => t E σ H' Q') (fun W pn xe E q1 q2 tk hW => pe_act (i := 0) M.inv L M.obj M.off M.nofr (hbind _ _ _ _ _) tk hW room' (fun A outer s H r2 => hbody A outer s H E f c r2) h0 hv d2 d3) M.code (h H1 M.but M.tabs)
    exact ⟨t', ht.nox, hq⟩
  · rcases r with e | fl
    · exact False.elim (show False from z)
    · cases fl with
      | ret u => exact M.inv.after z
      | _ => exact False.elim z
end
end CB

/-! X3 -/
set_option Elab.async false
set_option linter.all false
set_option maxRecDepth 100000
set_option maxHeartbeats 4000000
namespace CB
open PySem PySem.Spec PyProof.Rows L2
def refD : Res → D
  | .ok _ => .none
  | .er k i => .tuple [.str (tagS k), .int i]
section
variable {K : Fg} {Mx : List Addr} {Tb : Tbl} {a b P : Addr} {ms : Ms} {Γ : List Sl} {t : XK → TE}
theorem evm_lam {r : Res} {n : Str} (hP : (P, n) ∈ Tb) (h : match r with
  | .ok d => ∀ E, EvD K (t E) Γ d
  | .er k i => ∀ E, EvE K E (t E) Γ k i) : EvM K Mx (Mv Tb a b) (Dl Tb a b) (tLamB P Tb (TRef K) t) ms Γ (· = refD r) := fun B wf σ H S Q q => ⟨S.inv.2, fun H1 e1 t1 => by
    have hPm : P ∈ Mv Tb a b := List.mem_cons_of_mem _ (List.mem_cons_of_mem _ (List.mem_map_of_mem (f := (·.1)) hP))
    obtain ⟨ps, hPs, _⟩ := S.inv.2 _ hP
    obtain ⟨⟨hab, xs, m, hln, ha, hb⟩, _⟩ := id S.inv
    have na : a ≠ P := fun e => by rw [e] at ha; rw [ha] at hPs; cases hPs
    have nb : b ≠ P := fun e => by rw [e] at hb; rw [hb] at hPs; cases hPs
    have hs : Same (hide (Mv Tb a b) H) (hide (Mv Tb a b) H1) := fun x o z => by
      obtain ⟨z1, z2⟩ := hide_of z
      rw [hide_in z2]
      exact e1 x o (fun e => z2 (e ▸ hPm)) z1
    have S1 := S.deal wf hs ⟨⟨hab, xs, m, hln, e1 a _ na ha, e1 b _ nb hb⟩, t1⟩
    have hsub : ∀ m ∈ Mv Tb a b, m ∈ hid ms Mx := fun m hm => sub_hid m (wf.sub m hm)
    have hs' : Same (hide (hid ms Mx) H) (hide (hid ms Mx) H1) := hide_more hsub hs
    cases r with
    | ok d => exact h _ _ σ H1 S1.trk S1.env _ fun v H2 e2 d2 => q .non .none H2 rfl (S1.grow wf e2) (hs'.trans (hsame e2)) .non
    | er k i => exact h _ _ σ H1 S1.trk S1.env (fun dx H2 e2 hx => ⟨k, dx, i, rfl, rfl, hx, fun p hp => q (.ref p) _ _ rfl ((S1.grow wf e2).grow wf (same_new hp)) (hs'.trans ((hsame e2).trans (hsame (same_new hp)))) (.tup ((S1.grow wf e2).trk.upd hp) (.cons (.str _) (.cons (.int _) .nil)))⟩) _⟩
end
end CB

/-! X4 -/
set_option Elab.async false
set_option linter.all false
set_option maxRecDepth 100000
set_option maxHeartbeats 4000000
namespace CB
open PySem PySem.Spec PyProof.Rows L2
section
variable {P : Program} {w : World} {K : PySem.W.Frag} {mg : Str → Option Value} {base : Heap}
/-- a def whose code object is known -/
theorem funD_okC {CX : CXT} {x qual : Str} {params : Arguments} {body : List Stmt} {scope : Scope} {dvs : List V} {kws : List (Str × V)} {p : He.Defn} {fd : FuncData} {N ps : List Str} {k : Nat} {sp : Sp} (F : FunD K x qual params body scope dvs kws (He.fAd K p) fd) (S : FnScope N ps scope)
    (len : ∀ vs H Q E, sp vs H Q E → vs.length = ps.length)
    (hb : ∀ (A : Around) (outer : List Env) (s : Shared) (H : Hp) (vs : List V) (Q : VK) (E : XK), Room k (A.deeper (envOfC qual scope s.heap.objs.size (He.fAd K p) (.ref (He.codeOf K p)))) → sp vs H Q E →
      ∃ t, PSs (cxOf CX P w K mg base N qual scope (He.fAd K p) (.ref (He.codeOf K p)) A outer s H E) body t ∧ t { nx := fun _ H' => Q .non H', rt := Q } (L2.start N vs) H) : FnOk P w K mg base CX (k + 1) (He.fAd K p) fd ps sp := by
  obtain ⟨_, _, _, _, _, _, _, cdv, _, _, rfl, lk, hcd, _, _⟩ := F.ex
  obtain ⟨c, rfl⟩ := He.codeIn_ref hcd
  have e := He.codeOf_eq lk rfl
  subst e
  exact fn_of lk hcd S len fun A outer s H vs Q E hr hsp => hb A outer s H vs Q E hr hsp
theorem fnMWC {x : Str} {st : Stmt} {N ps : List Str} {p0 : Str} {k : Nat} {Tb : Tbl} {F : List D → (D → Prop) → Prop} {dvs : List V} {fd : FuncData} (Fu : FnP K x st dvs fd) (S : FnScope N (p0 :: ps) (defScope st))
    (hF : ∀ ds Φ, F ds Φ → ds.length = ps.length)
    (hb : ∀ (A : Around) (outer : List Env) (s : Shared) (H : Hp) (E : XK), Room k (A.deeper (envOfC x (defScope st) s.heap.objs.size (He.ga K x) (.ref (He.codeOf K (x, none))))) →
      ∃ t, PSs (cxOf CX0 P w K mg base N x (defScope st) (He.ga K x) (.ref (He.codeOf K (x, none))) A outer s H E).nox (defBody st) t ∧ ∀ ds Φ a b Mx, F ds Φ → RunM K Mx (Mv Tb a b) (Dl Tb a b) E0 t [] (startW N a ds) (fun o _ => ∃ d, o = .rt d ∧ Φ d)) : FnOk P w K mg base (L2.CX P w) (k + 1) (He.ga K x) fd (p0 :: ps) (spW K Tb F) := by
  refine wideF (funD_okC (p := (x, none)) Fu S (fun vs H Q E h => ?_) (fun A outer s H vs Q E hr h => ?_))
  · obtain ⟨M, a, b, vs', ds, Φ, rfl, _, _, _, dp, hf, _⟩ := h
    rw [List.length_cons, DqAll.len dp, hF ds Φ hf, List.length_cons]
  · obtain ⟨M, a, b, vs', ds, Φ, rfl, ha, T, dl, dp, hf, hq⟩ := h
    obtain ⟨t, h1, h2⟩ := hb A outer s H E hr
    refine ⟨t, h1.nox, h2 ds Φ a b M hf _ (wfW (H := H) ha) _ H _ ?_ ?_⟩
    · refine ⟨fun p hp => ?_, fun p hp m hm => (by cases hm), T, fun _ h => (by cases h), List.nodup_nil, dl, ?_, fun _ h => (by cases h)⟩
      · rw [List.mem_singleton.mp hp]; exact Same.refl _
      · show EnvD K _ (L2.start N (.ref a :: vs')) (startW N a ds)
        unfold L2.start startW
        rw [List.length_cons, DqAll.len dp]
        exact .cons (show SlOk K _ (some (.ref a)) (.ref a) from rfl) (envd_start dp)
    · rintro o ms' ⟨d, rfl, hd⟩
      exact fun v H' o t i d' => hq v d H' hd (o _ List.mem_cons_self) i d'
/-- what a lambda's body calls may leave it -/
theorem lam_passes {X : Cx} {A : Around} {outer : List Env} {s : Shared} {H : Hp} {E : XK} {scope : Scope} {f c : Addr} : Passes (L2.CX (LamX.lamCx X A outer s H E scope f c).prog (LamX.lamCx X A outer s H E scope f c).w) (LamX.lamCx X A outer s H E scope f c) E :=
  passes_call (takes_of (E := E) rfl rfl rfl rfl) fun _ _ _ _ h => h
end
section
variable {K : Fg} {Mx M0 : List Addr} {I : Hp → Prop} {E : XK} {B : Bs} {ms : Ms} {Γ Γ1 : List Sl} {u : TS} {Ψ : Out → Ms → Prop}
/-- x = [..], the items with effects -/
theorem runm_newM {j : Nat} {tr : TA} {Φa : List D → Prop} (h : EvMA K Mx M0 I tr ms Γ Φa) (hz : ∀ ds, Φa ds → ds.length ≤ 100000) (h2 : ∀ a ds, Φa ds → RunM K Mx M0 I E u ((a, ds) :: ms) (Γ.set j (.ref a)) Ψ) : RunM K Mx M0 I E (tSeq (tAsg (tLst tr) (gName j)) u) ms Γ Ψ := fun B wf σ H D S P =>
  h B wf σ H S _ fun vs ds H1 p S1 e1 d1 => ⟨Nat.le_trans (by rw [DqAll.len d1]; exact hz ds p) (by decide), fun x hx => h2 x ds p B wf _ _ D (S1.newL wf hx d1).setR P⟩
end
end CB

/-! W24 -/
set_option Elab.async false
set_option linter.all false
set_option maxRecDepth 100000
set_option maxHeartbeats 4000000
namespace CB
open PySem PySem.Spec PyProof.Rows L2
/-! ### what is refused: the data -/
def badB (d : D) : Prop := isTextB d = false ∧ lenD d ≤ 2
def bads : List D := [.none, .int 3, .tuple [.bool true], .tuple [.int 100], .str "a", .tuple [.int 0, .int (0 - 1)]]
theorem bads_ok : ∀ d ∈ bads, badB d := by
  have h : bads.all (fun d => !isTextB d && decide (lenD d ≤ 2)) = true := by decide +kernel
  intro d hd
  have := List.all_eq_true.mp h d hd
  rw [Bool.and_eq_true, Bool.not_eq_true', decide_eq_true_eq] at this
  exact this
theorem badAt_app {bad : D} (hb : isTextB bad = false) (r : List D) : ∀ (vt : List Tx) (n : Nat), (∀ t ∈ vt, tOk t) → badAt (vt.map T ++ bad :: r) n = some (n + vt.length)
  | [], n, _ => by
    show badAt (bad :: r) n = some n
    unfold badAt
    rw [hb]; rfl
  | t :: vt, n, h => by
    show badAt (T t :: (vt.map T ++ bad :: r)) n = _
    unfold badAt
    rw [tOk_iff.mpr (h t List.mem_cons_self), if_pos rfl, badAt_app hb r vt (n + 1) fun x hx => h x (List.mem_cons_of_mem _ hx), List.length_cons]
    congr 1
    omega
def wrongs (bad : D) (vt : List Tx) : List D := [.tuple [.none, .int (0 - 1)], .tuple [.tuple [], .int (0 - 1)], .tuple [.list [], .int (0 - 1)], .tuple [.str "ab", .int (0 - 1)], .tuple [.list (vt.map T ++ [bad, .none]), .int (vt.length : Nat)]]
def wrongB (p : D) : Prop := ∃ (w : D) (i : Int), p = .tuple [w, .int i] ∧ smallV w ∧ needV w = .er .versions i
theorem small_no {d : D} (h : seqOf d = none) : smallV d := ⟨by unfold lenD; rw [h]; exact Nat.zero_le _, fun es z => by rw [h] at z; cases z⟩
theorem small_nil {d : D} (h : seqOf d = some []) : smallV d := ⟨by unfold lenD; rw [h]; exact Nat.zero_le _, fun es z => by rw [h] at z; cases z; intro e he; cases he⟩
theorem wrongs_ok {bad : D} {bt : Tx} {vt : List Tx} (hb : badB bad) (gv : Gv bt vt) : ∀ p ∈ wrongs bad vt, wrongB p := by
  intro p hp
  unfold wrongs at hp
  simp only [List.mem_cons, List.not_mem_nil, or_false] at hp
  rcases hp with rfl | rfl | rfl | rfl | rfl
  · exact ⟨_, _, rfl, small_no rfl, rfl⟩
  · exact ⟨_, _, rfl, small_nil rfl, rfl⟩
  · exact ⟨_, _, rfl, small_nil rfl, rfl⟩
  · exact ⟨_, _, rfl, small_no rfl, rfl⟩
  · refine ⟨_, _, rfl, ⟨?_, fun es z e he => ?_⟩, ?_⟩
    · show (vt.map T ++ [bad, .none]).length ≤ 8
      have := gv.vl
      rw [List.length_append, List.length_map]
      show vt.length + 2 ≤ 8
      omega
    · injection z with z
      subst z
      rcases List.mem_append.mp he with y | y
      · obtain ⟨t, ht, rfl⟩ := List.mem_map.mp y
        have := (gv.v t ht).2
        show (t.map PyData.int).length ≤ 200
        rw [List.length_map]; omega
      · rcases List.mem_cons.mp y with y | y
        · rw [y]; exact Nat.le_trans hb.2 (by decide)
        · rw [List.mem_singleton.mp y]; exact Nat.zero_le _
    · obtain ⟨t, ts, e⟩ := List.exists_cons_of_ne_nil gv.ne
      have h := badAt_app hb.1 [.none] vt 0 fun t ht => (gv.v t ht).1
      subst e
      show (match badAt (T t :: (ts.map T ++ [bad, .none])) 0 with | some n => Res.er .versions n | none => .ok (.tuple ((T t :: (ts.map T ++ [bad, .none])).map fun d => T (txOf d)))) = _
      rw [show (T t :: (ts.map T ++ [bad, .none])) = (t :: ts).map T ++ [bad, .none] from rfl, h, Nat.zero_add]
def ordErrs (n : Nat) : List D := [.tuple [.none, .int (0 - 1)], .tuple [.tuple [.int 0, .int 0], .int 1], .tuple [.tuple [.int n], .int 0], .tuple [.tuple [.bool true], .int 0], .tuple [.list [.int 0, .none], .int 1], .tuple [.str "0", .int (0 - 1)]]
def ordErr (bt : Tx) (vt : List Tx) (p : D) : Prop := ∃ (o : D) (i : Int), p = .tuple [o, .int i] ∧ lenD o ≤ 8 ∧ handsR (T bt) (lvD vt) o = .er .order i
theorem needV_lv {bt : Tx} {vt : List Tx} (gv : Gv bt vt) : needV (lvD vt) = .ok (.tuple ((vt.map T).map fun d => T (txOf d))) := by
  have h := badAt_T vt 0 fun t ht => (gv.v t ht).1
  obtain ⟨t, ts, e⟩ := List.exists_cons_of_ne_nil gv.ne
  subst e
  show (match badAt ((t :: ts).map T) 0 with | some n => Res.er .versions n | none => .ok _) = _
  rw [h]
theorem vsOf_lv (vt : List Tx) : vsOf (lvD vt) = vt := by
  show (vt.map T).map txOf = vt
  rw [List.map_map]
  exact List.map_id'' (fun t => txOf_T t) vt
theorem hands_lv {bt : Tx} {vt : List Tx} (gv : Gv bt vt) (o : D) : handsR (T bt) (lvD vt) o = match seqOf o with
      | none => .er .order (-1)
      | some os => match needGo vt.length os [] 0 with
        | .error i => .er .order i
        | .ok t => .ok (optT (ends bt vt (nats t))) := by
  unfold handsR
  rw [needT_T' gv.b, needV_lv gv, vsOf_lv, txOf_T]
  all_goals (cases seqOf o <;> rfl)
theorem ordErrs_ok {bt : Tx} {vt : List Tx} (gv : Gv bt vt) : ∀ p ∈ ordErrs vt.length, ordErr bt vt p := by
  have hn : 1 ≤ vt.length := List.length_pos_iff.mpr gv.ne
  have h0 : isBelow (.int 0) (vt.length : Int) = true := by simp [isBelow]; omega
  intro p hp
  unfold ordErrs at hp
  simp only [List.mem_cons, List.not_mem_nil, or_false] at hp
  rcases hp with rfl | rfl | rfl | rfl | rfl | rfl
  · exact ⟨_, _, rfl, by decide, by rw [hands_lv gv]; rfl⟩
  · refine ⟨_, _, rfl, by decide, ?_⟩
    rw [hands_lv gv]
    show (match (if isBelow (.int 0) (vt.length : Int) && !decide ((0 : Int) ∈ ([] : Tx)) then needGo (vt.length : Int) [.int 0] [0] 1 else .error 0) with | .error i => Res.er .order i | .ok t => _) = _
    rw [h0]
    show (match (if isBelow (.int 0) (vt.length : Int) && !decide ((0 : Int) ∈ ([0] : Tx)) then needGo (vt.length : Int) [] [0, 0] 2 else .error 1) with | .error i => Res.er .order i | .ok t => _) = _
    rw [h0]; rfl
  · refine ⟨_, _, rfl, by show 1 ≤ 8; decide, ?_⟩
    rw [hands_lv gv]
    have h1 : isBelow (.int (vt.length : Int)) (vt.length : Int) = false := by simp [isBelow]
    show (match (if isBelow (.int (vt.length : Int)) (vt.length : Int) && !decide ((vt.length : Int) ∈ ([] : Tx)) then needGo (vt.length : Int) [] [(vt.length : Int)] 1 else .error 0) with | .error i => Res.er .order i | .ok t => _) = _
    rw [h1]; rfl
  · exact ⟨_, _, rfl, by decide, by rw [hands_lv gv]; rfl⟩
  · refine ⟨_, _, rfl, by decide, ?_⟩
    rw [hands_lv gv]
    show (match (if isBelow (.int 0) (vt.length : Int) && !decide ((0 : Int) ∈ ([] : Tx)) then needGo (vt.length : Int) [.none] [0] 1 else .error 0) with | .error i => Res.er .order i | .ok t => _) = _
    rw [h0]; rfl
  · exact ⟨_, _, rfl, by decide, by rw [hands_lv gv]; rfl⟩
/-! what is refused, call by call -/
section
variable {bad w : D} {bt : Tx} {vt : List Tx} {at' : Int}
theorem needT_bad (h : isTextB bad = false) {i : Int} : needT bad i = .er .text i := by unfold needT; rw [h]; rfl
theorem smallV_lv (gv : Gv bt vt) : smallV (lvD vt) := ⟨by show (vt.map T).length ≤ 8; have := gv.vl; rw [List.length_map]; omega, fun es z e he => by
  injection z with z
  subst z
  obtain ⟨t, ht, rfl⟩ := List.mem_map.mp he
  have := (gv.v t ht).2
  show (t.map PyData.int).length ≤ 200
  rw [List.length_map]; omega⟩
theorem F1 (hb : badB bad) : F_hands_end [bad, .none, .none] (.er .text (-1)) := ⟨bad, .none, .none, rfl, Nat.le_trans hb.2 (by decide), small_no rfl, by decide, by unfold handsR; rw [needT_bad hb.1]⟩
theorem F2 (gv : Gv bt vt) (hs : smallV w) (hw : needV w = .er .versions at') : F_hands_end [T bt, w, .none] (.er .versions at') := ⟨T bt, w, .none, rfl, by rw [lenD_T]; have := gv.bl; omega, hs, by decide, by unfold handsR; rw [needT_T' gv.b, hw]⟩
theorem F3 (gv : Gv bt vt) {o : D} (hl : lenD o ≤ 8) (h : handsR (T bt) (lvD vt) o = .er .order at') : F_hands_end [T bt, lvD vt, o] (.er .order at') := ⟨T bt, lvD vt, o, rfl, by rw [lenD_T]; have := gv.bl; omega, smallV_lv gv, hl, h.symm⟩
theorem F4 (hb : badB bad) (hs : smallV w) : F_orders_paper [bad, w] (.er .text (-1)) := ⟨bad, w, rfl, Nat.le_trans hb.2 (by decide), hs, fun db dv h => (by rw [needT_bad hb.1] at h; cases h), by unfold paperR; rw [needT_bad hb.1]⟩
theorem F5 (gv : Gv bt vt) (hs : smallV w) (hw : needV w = .er .versions at') : F_orders_paper [T bt, w] (.er .versions at') := ⟨T bt, w, rfl, by rw [lenD_T]; have := gv.bl; omega, hs, fun db dv _ h => (by rw [hw] at h; cases h), by unfold paperR; rw [needT_T' gv.b, hw]⟩
theorem F6 (hb : badB bad) (gv : Gv bt vt) : F_orders_holds [bad, lvD vt, .none] (.er .text (-1)) := ⟨bad, lvD vt, .none, rfl, Nat.le_trans hb.2 (by decide), smallV_lv gv, by decide, fun db dv h => (by rw [needT_bad hb.1] at h; cases h), by unfold holdsR; rw [needT_bad hb.1]⟩
theorem F7 (gv : Gv bt vt) (hs : smallV w) (hw : needV w = .er .versions at') : F_orders_holds [T bt, w, .tuple [.str "one", .int 0]] (.er .versions at') := ⟨T bt, w, _, rfl, by rw [lenD_T]; have := gv.bl; omega, hs, by decide +kernel, fun db dv _ h => (by rw [hw] at h; cases h), by unfold holdsR; rw [needT_T' gv.b, hw]⟩
end
def errD (k : EK) (i : Int) : D := .tuple [.str (tagS k), .int i]
def dueD (i j : Int) : List D := [errD .text (0 - 1), errD .versions i, errD .order j, errD .text (0 - 1), errD .versions i, errD .text (0 - 1)]
theorem eqv_refl_errs : ∀ l : List (EK × Int), PyData.eqv (.list (l.map fun p => errD p.1 p.2)) (.list (l.map fun p => errD p.1 p.2)) = true := by
  have one : ∀ k i, PyData.eqv (errD k i) (errD k i) = true := fun k i => by
    unfold errD
    simp [PyData.eqv, PyData.eqvAll]
  have all : ∀ l : List (EK × Int), PyData.eqvAll (l.map fun p => errD p.1 p.2) (l.map fun p => errD p.1 p.2) = true := fun l => by
    induction l with
    | nil => simp [PyData.eqvAll]
    | cons p l ih => rw [List.map_cons]; simp [PyData.eqvAll, one, ih]
  intro l
  simp only [PyData.eqv]
  exact all l
theorem gd_errs : ∀ l : List (EK × Int), l.length ≤ 1000 → gd 3 (.list (l.map fun p => errD p.1 p.2)) = true := fun l hl => by
  refine gd_list.mpr ⟨by rw [List.length_map]; exact hl, ?_⟩
  induction l with
  | nil => exact gd_l0
  | cons p l ih =>
    rw [List.map_cons]
    exact gd_l1 (gd_tuple.mpr ⟨by simp, gd_l1 (gd_str (h := by cases p.1 <;> decide +kernel)) (gd_l1 gd_int gd_l0)⟩) (ih (by rw [List.length_cons] at hl; omega))
variable {P : Program} {w : World} {K : PySem.W.Frag} {mg : Str → Option Value} {base : Heap} {Tb : Tbl}
def F_law_errors (ds : List D) (Φ : D → Prop) : Prop := ∃ bt vt, ds = [T bt, lvD vt] ∧ Gv bt vt ∧ Φ = (· = .bool true)
theorem sc_law_errors : FnScope ["_law_deal_here", "_law_base", "_law_versions_here", "_law_many", "_law_bad", "_law_some", "_law_wrong", "_law_at", "_law_order", "_law_spot", "_law_found", "_law_due"] ["_law_deal_here", "_law_base", "_law_versions_here"] (defScope s_law_errors) := ⟨rfl, rfl, rfl, by decide +kernel, rfl, by decide +kernel, by decide +kernel⟩
theorem ok_law_errors {fd fdr : FuncData} (Fu : FnP K "_law_errors" s_law_errors [] fd) (Fr : FnP K "_law_refused" s_law_refused [] fdr) (Br : L2.Binds K fdr ["_law_work"] []) (gR : mg "_law_refused" = some (.ref (He.ga K "_law_refused"))) (XO : XcOk K mg) (B : Bl mg)
    {Pt : Addr} (TBc : LamX.TabB base mg (He.codeOf K ("_law_errors", none)) Pt) (hTb : Tb = [(Pt, ("_law_errors.<locals>.<lambda>" : Str))])
    (h_law_pick : HasF P w K mg base 2 "_law_pick" ["_law_deal_here", "_law_some"] [] (spW K Tb F_law_pick)) (h_hands_end : HasF P w K mg base 9 "hands_end" ["base", "versions", "order"] [] (spD K F_hands_end)) (h_orders_holds : HasF P w K mg base 12 "orders_holds" ["base", "versions", "value"] [] (spD K F_orders_holds)) (h_orders_paper : HasF P w K mg base 11 "orders_paper" ["base", "versions"] [] (spD K F_orders_paper)) : FnOk P w K mg base (L2.CX P w) 15 (He.ga K "_law_errors") fd ["_law_deal_here", "_law_base", "_law_versions_here"] (spW K Tb F_law_errors) := by
  have hmem : (Pt, ("_law_errors.<locals>.<lambda>" : Str)) ∈ Tb := by rw [hTb]; exact List.mem_cons_self
  have huni : ∀ p ∈ Tb, p.1 = Pt → p.2 = ("_law_errors.<locals>.<lambda>" : Str) := fun p hp _ => by rw [hTb] at hp; rw [List.mem_singleton.mp hp]
  refine fnMWC Fu sc_law_errors (fun ds Φ ⟨bt, vt, h, _, _⟩ => by rw [h]; rfl) fun A outer s H E hr => ⟨_, (pss_cons (ps_set (i := 3) sc_law_errors.nd rfl (Or.inl rfl) (pe_callB (id := "len") (r := rLenA K) call_lenA rfl B.len boot_len (pa_cons (pv 2) pa_nil)))
      (pss_cons (ps_set (i := 4) sc_law_errors.nd rfl (Or.inr rfl) (pe_f h_law_pick (hr.mono (by decide)) (pa_cons (pv 0) (pa_cons (pe_lst (pa_cons pe_non (pa_cons pe_int (pa_cons (pe_tup (pa_cons pe_bl pa_nil)) (pa_cons (pe_tup (pa_cons pe_int pa_nil)) (pa_cons pe_str (pa_cons (pe_tup (pa_cons pe_int (pa_cons (pe_op op_sub pe_int pe_int) pa_nil))) pa_nil))))))) pa_nil))))
      (pss_cons (ps_set (i := 5) sc_law_errors.nd rfl (Or.inl rfl) (pe_lst (pa_cons (pe_tup (pa_cons pe_non (pa_cons (pe_op op_sub pe_int pe_int) pa_nil))) (pa_cons (pe_tup (pa_cons (pe_tup pa_nil) (pa_cons (pe_op op_sub pe_int pe_int) pa_nil))) (pa_cons (pe_tup (pa_cons (pe_lst pa_nil) (pa_cons (pe_op op_sub pe_int pe_int) pa_nil))) (pa_cons (pe_tup (pa_cons pe_str (pa_cons (pe_op op_sub pe_int pe_int) pa_nil))) (pa_cons (pe_tup (pa_cons (pe_op (r := rAddU K) op_addU (pv 2) (pe_lst (pa_cons (pv 4) (pa_cons pe_non pa_nil)))) (pa_cons (pv 3) pa_nil))) pa_nil)))))))
      (pss_cons (ps_asg (pe_f h_law_pick (hr.mono (by decide)) (pa_cons (pv 0) (pa_cons (pv 5) pa_nil))) (pg_tup rfl (pgs_cons (pg_name (i := 6) sc_law_errors.nd rfl (Or.inr rfl)) (pgs_cons (pg_name (i := 7) sc_law_errors.nd rfl (Or.inl rfl)) pgs_nil))))
      (pss_cons (ps_set (i := 5) sc_law_errors.nd rfl (Or.inl rfl) (pe_lst (pa_cons (pe_tup (pa_cons pe_non (pa_cons (pe_op op_sub pe_int pe_int) pa_nil))) (pa_cons (pe_tup (pa_cons (pe_tup (pa_cons pe_int (pa_cons pe_int pa_nil))) (pa_cons pe_int pa_nil))) (pa_cons (pe_tup (pa_cons (pe_tup (pa_cons (pv 3) pa_nil)) (pa_cons pe_int pa_nil))) (pa_cons (pe_tup (pa_cons (pe_tup (pa_cons pe_bl pa_nil)) (pa_cons pe_int pa_nil))) (pa_cons (pe_tup (pa_cons (pe_lst (pa_cons pe_int (pa_cons pe_non pa_nil))) (pa_cons pe_int pa_nil))) (pa_cons (pe_tup (pa_cons pe_str (pa_cons (pe_op op_sub pe_int pe_int) pa_nil))) pa_nil))))))))
      (pss_cons (ps_asg (pe_f h_law_pick (hr.mono (by decide)) (pa_cons (pv 0) (pa_cons (pv 5) pa_nil))) (pg_tup rfl (pgs_cons (pg_name (i := 8) sc_law_errors.nd rfl (Or.inr rfl)) (pgs_cons (pg_name (i := 9) sc_law_errors.nd rfl (Or.inl rfl)) pgs_nil))))
      (pss_cons (ps_set (i := 10) sc_law_errors.nd rfl (Or.inl rfl) (pe_lst (pa_cons (pe_lamB (n := 12) (T := Tb) (P := Pt) (k := He.codeOf K ("_law_errors", none)) rfl gR Fr Br sc_law_refused rfl (Or.inl rfl) (fun _ => refused_gives XO) TBc rfl hmem huni (hr.mono (by decide)) (show LamX.LamS (defScope s_law_errors) _ from LamX.lamS_by (by decide +kernel)) rfl (fun _ _ _ _ _ => rfl) (fun A outer s H E f c hr2 => (pe_fd h_hands_end (hr2.mono (by decide)) rfl .nil lam_passes (pa_cons (pv 4) (pa_cons pe_non (pa_cons pe_non pa_nil)))))) pa_nil)))
      (pss_cons (ps_expr (pe_bm PySem.F.plainAttrs_list PySem.F.slot_list_append PySem.F.type_list_append mt_append (pv 10) (pa_cons (pe_lamB (n := 12) (T := Tb) (P := Pt) (k := He.codeOf K ("_law_errors", none)) rfl gR Fr Br sc_law_refused rfl (Or.inl rfl) (fun _ => refused_gives XO) TBc rfl hmem huni (hr.mono (by decide)) (show LamX.LamS (defScope s_law_errors) _ from LamX.lamS_by (by decide +kernel)) rfl (fun _ _ _ _ _ => rfl) (fun A outer s H E f c hr2 => (pe_fd h_hands_end (hr2.mono (by decide)) rfl .nil lam_passes (pa_cons (pv 1) (pa_cons (pv 6) (pa_cons pe_non pa_nil)))))) pa_nil)))
      (pss_cons (ps_expr (pe_bm PySem.F.plainAttrs_list PySem.F.slot_list_append PySem.F.type_list_append mt_append (pv 10) (pa_cons (pe_lamB (n := 12) (T := Tb) (P := Pt) (k := He.codeOf K ("_law_errors", none)) rfl gR Fr Br sc_law_refused rfl (Or.inl rfl) (fun _ => refused_gives XO) TBc rfl hmem huni (hr.mono (by decide)) (show LamX.LamS (defScope s_law_errors) _ from LamX.lamS_by (by decide +kernel)) rfl (fun _ _ _ _ _ => rfl) (fun A outer s H E f c hr2 => (pe_fd h_hands_end (hr2.mono (by decide)) rfl .nil lam_passes (pa_cons (pv 1) (pa_cons (pv 2) (pa_cons (pv 8) pa_nil)))))) pa_nil)))
      (pss_cons (ps_expr (pe_bm PySem.F.plainAttrs_list PySem.F.slot_list_append PySem.F.type_list_append mt_append (pv 10) (pa_cons (pe_lamB (n := 12) (T := Tb) (P := Pt) (k := He.codeOf K ("_law_errors", none)) rfl gR Fr Br sc_law_refused rfl (Or.inl rfl) (fun _ => refused_gives XO) TBc rfl hmem huni (hr.mono (by decide)) (show LamX.LamS (defScope s_law_errors) _ from LamX.lamS_by (by decide +kernel)) rfl (fun _ _ _ _ _ => rfl) (fun A outer s H E f c hr2 => (pe_fd h_orders_paper (hr2.mono (by decide)) rfl .nil lam_passes (pa_cons (pv 4) (pa_cons (pv 6) pa_nil))))) pa_nil)))
      (pss_cons (ps_expr (pe_bm PySem.F.plainAttrs_list PySem.F.slot_list_append PySem.F.type_list_append mt_append (pv 10) (pa_cons (pe_lamB (n := 12) (T := Tb) (P := Pt) (k := He.codeOf K ("_law_errors", none)) rfl gR Fr Br sc_law_refused rfl (Or.inl rfl) (fun _ => refused_gives XO) TBc rfl hmem huni (hr.mono (by decide)) (show LamX.LamS (defScope s_law_errors) _ from LamX.lamS_by (by decide +kernel)) rfl (fun _ _ _ _ _ => rfl) (fun A outer s H E f c hr2 => (pe_fd h_orders_paper (hr2.mono (by decide)) rfl .nil lam_passes (pa_cons (pv 1) (pa_cons (pv 6) pa_nil))))) pa_nil)))
      (pss_cons (ps_expr (pe_bm PySem.F.plainAttrs_list PySem.F.slot_list_append PySem.F.type_list_append mt_append (pv 10) (pa_cons (pe_lamB (n := 12) (T := Tb) (P := Pt) (k := He.codeOf K ("_law_errors", none)) rfl gR Fr Br sc_law_refused rfl (Or.inl rfl) (fun _ => refused_gives XO) TBc rfl hmem huni (hr.mono (by decide)) (show LamX.LamS (defScope s_law_errors) _ from LamX.lamS_by (by decide +kernel)) rfl (fun _ _ _ _ _ => rfl) (fun A outer s H E f c hr2 => (pe_fd h_orders_holds (hr2.mono (by decide)) rfl .nil lam_passes (pa_cons (pv 4) (pa_cons (pv 2) (pa_cons pe_non pa_nil)))))) pa_nil)))
      (pss_cons (ps_expr (pe_bm PySem.F.plainAttrs_list PySem.F.slot_list_append PySem.F.type_list_append mt_append (pv 10) (pa_cons (pe_lamB (n := 12) (T := Tb) (P := Pt) (k := He.codeOf K ("_law_errors", none)) rfl gR Fr Br sc_law_refused rfl (Or.inl rfl) (fun _ => refused_gives XO) TBc rfl hmem huni (hr.mono (by decide)) (show LamX.LamS (defScope s_law_errors) _ from LamX.lamS_by (by decide +kernel)) rfl (fun _ _ _ _ _ => rfl) (fun A outer s H E f c hr2 => (pe_fd h_orders_holds (hr2.mono (by decide)) rfl .nil lam_passes (pa_cons (pv 1) (pa_cons (pv 6) (pa_cons (pe_tup (pa_cons pe_str (pa_cons pe_int pa_nil))) pa_nil)))))) pa_nil)))
      (pss_cons (ps_set (i := 11) sc_law_errors.nd rfl (Or.inl rfl) (pe_lst (pa_cons (pe_tup (pa_cons pe_str (pa_cons (pe_op op_sub pe_int pe_int) pa_nil))) (pa_cons (pe_tup (pa_cons pe_str (pa_cons (pv 7) pa_nil))) (pa_cons (pe_tup (pa_cons pe_str (pa_cons (pv 9) pa_nil))) (pa_cons (pe_tup (pa_cons pe_str (pa_cons (pe_op op_sub pe_int pe_int) pa_nil))) (pa_cons (pe_tup (pa_cons pe_str (pa_cons (pv 7) pa_nil))) (pa_cons (pe_tup (pa_cons pe_str (pa_cons (pe_op op_sub pe_int pe_int) pa_nil))) pa_nil))))))))
      (pss_one (ps_ret (pe_cmpR (r := rEqD K) (op_eqD hr.units) (pv 10) (pe_op (r := rAddU K) op_addU (pv 11) (pe_lst (pa_cons (pe_tup (pa_cons pe_str (pa_cons (pv 7) pa_nil))) pa_nil))) (nomark _)))))))))))))))))), fun ds Φ a b Mx ⟨bt, vt, h, gv, hΦ⟩ => ?_⟩
  subst h hΦ
  have setM1 : ∀ (x : Addr) (l : List D) (d : D), setM [(x, l)] x (l ++ [d]) = [(x, l ++ [d])] := fun x l d => by
    unfold setM
    rw [List.map_cons, List.map_nil, if_pos rfl]
  have hlen : ∀ {s3 s4 s5 s6 s7 s8 s9 s10 s11 : Sl}, EvD K (tCB (rLenA K) (tCons (tVar 2) tNil)) [.ref a, .dat (T bt), .dat (lvD vt), s3, s4, s5, s6, s7, s8, s9, s10, s11] (.int (vt.length : Nat)) := evd_is (evd_cb (eva_cons (evd_var (i := 2) rfl) eva_nil) rlen_lst) (by rw [List.length_map])
  refine runm_asgN (Φ := (· = .int (vt.length : Nat))) (evm_of hlen) fun d hd => ?_
  subst hd
  refine runm_asgN (evm_pick (es := bads) (j := 0) rfl (evm_of (evd_lst (eva_cons evd_non (eva_cons evd_int (eva_cons (evd_tup (eva_cons evd_bl eva_nil)) (eva_cons (evd_tup (eva_cons evd_int eva_nil)) (eva_cons evd_str (eva_cons (evd_tup (eva_cons evd_int (eva_cons (evd_op evd_int evd_int rop_I0) eva_nil))) eva_nil)))))))) (by decide) (by decide)) fun bad hbad => ?_
  have hb := bads_ok bad hbad
  show RunM K Mx (Mv Tb a b) (Dl Tb a b) E0 _ [] [.ref a, .dat (T bt), .dat (lvD vt), .dat (.int (vt.length : Nat)), .dat bad, .un, .un, .un, .un, .un, .un, .un] _
  refine runm_asgN (Φ := (· = .list (wrongs bad vt))) (evm_of (evd_lst (ds := wrongs bad vt) (eva_cons (evd_tup (eva_cons evd_non (eva_cons (evd_op evd_int evd_int rop_I0) eva_nil))) (eva_cons (evd_tup (eva_cons (evd_tup eva_nil) (eva_cons (evd_op evd_int evd_int rop_I0) eva_nil))) (eva_cons (evd_tup (eva_cons (evd_lst eva_nil) (eva_cons (evd_op evd_int evd_int rop_I0) eva_nil))) (eva_cons (evd_tup (eva_cons evd_str (eva_cons (evd_op evd_int evd_int rop_I0) eva_nil)))
    (eva_cons (evd_tup (eva_cons (evd_op (evd_var (i := 2) rfl) (evd_lst (eva_cons (evd_var (i := 4) rfl) (eva_cons evd_non eva_nil))) (radd_lst (by rw [List.length_map]; show vt.length + 2 ≤ _; have := gv.vl; omega))) (eva_cons (evd_var (i := 3) rfl) eva_nil))) eva_nil))))) (by show 5 ≤ _; decide))) fun d hd => ?_
  subst hd
  refine runm_asgT (evm_pick (es := wrongs bad vt) (j := 0) rfl (evm_of (evd_var (i := 5) rfl)) (by show 1 ≤ 5; decide) (by show 5 ≤ 1000; decide)) fun d hd => ?_
  obtain ⟨wv, at', rfl, hs, hw⟩ := wrongs_ok hb gv d hd
  refine ⟨[.ref a, .dat (T bt), .dat (lvD vt), .dat (.int (vt.length : Nat)), .dat bad, .dat (.list (wrongs bad vt)), .dat wv, .dat (.int at'), .un, .un, .un, .un], gd_tup (gds_cons gd_name (gds_cons gd_name gds_nil)), ?_⟩
  refine runm_asgN (Φ := (· = .list (ordErrs vt.length))) (evm_of (evd_lst (ds := ordErrs vt.length) (eva_cons (evd_tup (eva_cons evd_non (eva_cons (evd_op evd_int evd_int rop_I0) eva_nil))) (eva_cons (evd_tup (eva_cons (evd_tup (eva_cons evd_int (eva_cons evd_int eva_nil))) (eva_cons evd_int eva_nil))) (eva_cons (evd_tup (eva_cons (evd_tup (eva_cons (evd_var (i := 3) rfl) eva_nil)) (eva_cons evd_int eva_nil))) (eva_cons (evd_tup (eva_cons (evd_tup (eva_cons evd_bl eva_nil)) (eva_cons evd_int eva_nil)))
    (eva_cons (evd_tup (eva_cons (evd_lst (eva_cons evd_int (eva_cons evd_non eva_nil))) (eva_cons evd_int eva_nil))) (eva_cons (evd_tup (eva_cons evd_str (eva_cons (evd_op evd_int evd_int rop_I0) eva_nil))) eva_nil)))))) (by show 6 ≤ _; decide))) fun d hd => ?_
  subst hd
  refine runm_asgT (evm_pick (es := ordErrs vt.length) (j := 0) rfl (evm_of (evd_var (i := 5) rfl)) (by show 1 ≤ 6; decide) (by show 6 ≤ 1000; decide)) fun d hd => ?_
  obtain ⟨ov, spot, rfl, hol, ho⟩ := ordErrs_ok gv d hd
  refine ⟨[.ref a, .dat (T bt), .dat (lvD vt), .dat (.int (vt.length : Nat)), .dat bad, .dat (.list (ordErrs vt.length)), .dat wv, .dat (.int at'), .dat ov, .dat (.int spot), .un, .un], gd_tup (gds_cons gd_name (gds_cons gd_name gds_nil)), ?_⟩
  refine runm_newM (Φa := (· = [errD .text (-1)])) (evma_cons (evm_lam (r := .er .text (-1)) hmem (fun E => eve_call0 (eva_cons (evd_var (i := 4) rfl) (eva_cons evd_non (eva_cons evd_non eva_nil))) (F1 hb))) evma_nil fun d ds h1 h2 => by rw [h1, h2]; rfl) (fun ds h => by rw [h]; decide) fun x ds h => ?_
  subst h
  show RunM K Mx (Mv Tb a b) (Dl Tb a b) E0 _ [(x, [errD .text (-1)])] [.ref a, .dat (T bt), .dat (lvD vt), .dat (.int (vt.length : Nat)), .dat bad, .dat (.list (ordErrs vt.length)), .dat wv, .dat (.int at'), .dat ov, .dat (.int spot), .ref x, .un] _
  refine runm_app (tr := tNil) (j := 10) (x := x) rfl List.mem_cons_self rfl (Nat.le_of_ble_eq_true rfl) (evm_lam (r := .er .versions at') hmem (fun E => eve_call0 (eva_cons (evd_var (i := 1) rfl) (eva_cons (evd_var (i := 6) rfl) (eva_cons evd_non eva_nil))) (F2 gv hs hw))) fun d hd => ?_
  subst hd
  rw [setM1]
  refine runm_app (tr := tNil) (j := 10) (x := x) rfl List.mem_cons_self rfl (Nat.le_of_ble_eq_true rfl) (evm_lam (r := .er .order spot) hmem (fun E => eve_call0 (eva_cons (evd_var (i := 1) rfl) (eva_cons (evd_var (i := 2) rfl) (eva_cons (evd_var (i := 8) rfl) eva_nil))) (F3 gv hol ho))) fun d hd => ?_
  subst hd
  rw [setM1]
  refine runm_app (tr := tNil) (j := 10) (x := x) rfl List.mem_cons_self rfl (Nat.le_of_ble_eq_true rfl) (evm_lam (r := .er .text (-1)) hmem (fun E => eve_call0 (eva_cons (evd_var (i := 4) rfl) (eva_cons (evd_var (i := 6) rfl) eva_nil)) (F4 hb hs))) fun d hd => ?_
  subst hd
  rw [setM1]
  refine runm_app (tr := tNil) (j := 10) (x := x) rfl List.mem_cons_self rfl (Nat.le_of_ble_eq_true rfl) (evm_lam (r := .er .versions at') hmem (fun E => eve_call0 (eva_cons (evd_var (i := 1) rfl) (eva_cons (evd_var (i := 6) rfl) eva_nil)) (F5 gv hs hw))) fun d hd => ?_
  subst hd
  rw [setM1]
  refine runm_app (tr := tNil) (j := 10) (x := x) rfl List.mem_cons_self rfl (Nat.le_of_ble_eq_true rfl) (evm_lam (r := .er .text (-1)) hmem (fun E => eve_call0 (eva_cons (evd_var (i := 4) rfl) (eva_cons (evd_var (i := 2) rfl) (eva_cons evd_non eva_nil))) (F6 hb gv))) fun d hd => ?_
  subst hd
  rw [setM1]
  refine runm_app (tr := tNil) (j := 10) (x := x) rfl List.mem_cons_self rfl (Nat.le_of_ble_eq_true rfl) (evm_lam (r := .er .versions at') hmem (fun E => eve_call0 (eva_cons (evd_var (i := 1) rfl) (eva_cons (evd_var (i := 6) rfl) (eva_cons (evd_tup (eva_cons evd_str (eva_cons evd_int eva_nil))) eva_nil))) (F7 gv hs hw))) fun d hd => ?_
  subst hd
  rw [setM1]
  have two : ∀ {Γ : List Sl} {x y : TE} {d e : D}, EvD K x Γ d → EvD K y Γ e → EvD K (tTup (tCons x (tCons y tNil))) Γ (.tuple [d, e]) := fun h1 h2 => evd_tup (eva_cons h1 (eva_cons h2 eva_nil))
  refine runm_asgN (Φ := (· = .list (dueD at' spot))) (evm_of (evd_lst (ds := dueD at' spot) (eva_cons (two evd_str (evd_op evd_int evd_int rop_I0)) (eva_cons (two evd_str (evd_var (i := 7) rfl)) (eva_cons (two evd_str (evd_var (i := 9) rfl)) (eva_cons (two evd_str (evd_op evd_int evd_int rop_I0)) (eva_cons (two evd_str (evd_var (i := 7) rfl)) (eva_cons (two evd_str (evd_op evd_int evd_int rop_I0)) eva_nil)))))) (by show 6 ≤ _; decide))) fun d hd => ?_
  subst hd
  have hg := gd_errs [(.text, -1), (.versions, at'), (.order, spot), (.text, -1), (.versions, at'), (.text, -1), (.versions, at')] (Nat.le_of_ble_eq_true rfl)
  refine runm_retT (d := .bool true) (Γ' := [.ref a, .dat (T bt), .dat (lvD vt), .dat (.int (vt.length : Nat)), .dat bad, .dat (.list (ordErrs vt.length)), .dat wv, .dat (.int at'), .dat ov, .dat (.int spot), .dat (.list (([(.text, -1), (.versions, at'), (.order, spot), (.text, -1), (.versions, at'), (.text, -1), (.versions, at')] : List (EK × Int)).map fun p => errD p.1 p.2)), .dat (.list (dueD at' spot))])
    (.same (.same (.same (.same (.same (.same (.same (.same (.same (.same (.own List.mem_cons_self (.same .nil))))))))))))
    (evd_is (evd_op (evd_var (i := 10) rfl) (evd_op (evd_var (i := 11) rfl) (evd_lst (eva_cons (two evd_str (evd_var (i := 7) rfl)) eva_nil)) (radd_lst (by show 6 + 1 ≤ _; decide))) (req (hu := 0) (gd_shaped hg) (gd_shaped hg))) (congrArg PyData.bool (eqv_refl_errs [(.text, -1), (.versions, at'), (.order, spot), (.text, -1), (.versions, at'), (.text, -1), (.versions, at')]))) ⟨_, rfl, rfl⟩
end CB

/-! X5 -/
set_option Elab.async false
set_option linter.all false
set_option maxRecDepth 100000
set_option maxHeartbeats 4000000
namespace CB
open PySem PySem.Spec PyProof.Rows L2
/-! ### calls by names alone: f(k = v, ..), the names in the parameters' order -/
structure HasK (P : Program) (w : World) (K : Fg) (mg : Str → Option Value) (base : Heap) (k : Nat) (x : Str) (ps : List Str) (sp : Sp) : Prop where
  mgx : mg x = some (.ref (He.ga K x))
  kp : PySem.W.keepIn K (.ref (He.ga K x)) = true
  ex : ∃ fd, FnOk P w K mg base (L2.CX P w) k (He.ga K x) fd ps sp ∧ ∀ (s : Shared) (ws : List Value), K.In s.heap → ws.length = ps.length → BindsTo s fd ⟨[], ps.zip ws⟩ (ps.zip ws)
section
variable {X : Cx} {k : Nat} {x : Str} {ps : List Str} {sp : Sp} {E : XK} {p pos : Pos} {kws : List Keyword} {t : TA}
theorem pe_kw (F : HasK X.prog X.w X.K X.mg X.base k x ps sp) (hr : Room k X.A) (hx : Passes (L2.CX X.prog X.w) X E) (ha : PK X kws t) (hg : Gl X x := by rfl) (hall : (backToKw pos (keywordEach kws X.env)).all (·.1.isSome) = true := by rfl) (hks : (backToKw pos (keywordEach kws X.env)).filterMap (·.1) = ps := by rfl)
    (hdb : (x == ("__debug__" : Str)) = false := by decide) (hpl : ((backTo pos (starEach [] X.env)).any (·.1) || (backToKw pos (keywordEach kws X.env)).any (·.1.isNone)) = false := by rfl) : PE X (.Call (.Name x p) [] kws pos) (tCall sp [] E t) := by
  obtain ⟨fd, G, b⟩ := F.ex
  refine ⟨fun pins s σ H Q I h => wpAny_Call_Name_kw (ld_glob I hg F.mgx ?_ hdb)⟩
  refine PySem.W.callWith_KW0 (h₀ := X.base) I.ok.mod.kin F.kp hall (thn (ha.run pos pins s σ H _ I h) fun ws s1 ⟨vs, H1, I1, r, q⟩ => ⟨I1.kIn, ?_⟩) hpl
  rw [hks]
  have q2 : sp (vs ++ []) H1 Q E := q
  rw [List.append_nil] at q2
  have hl : ws.length = ps.length := by rw [← r.length]; exact G.len _ _ _ _ q2
  refine wpAny_call (codeAny_mono (G.run X.A X.stack s1 H1 ⟨[], ps.zip ws⟩ ws vs Q E hr I1.env0 (b s1 ws I1.kIn hl) r q2) fun r' s' z => ?_)
  rcases r' with e | fl
  · exact hx pins σ H1 s1 e s' I1 z
  · cases fl with
    | ret u => exact I1.after z
    | _ => exact False.elim z
end
/-! ### a loop over a list that a call with effects hands back -/
section
variable {K : Fg} {Mx M0 : List Addr} {I : Hp → Prop} {E : XK} {B : Bs} {ms : Ms} {Γ Γ1 : List Sl} {t u : TS} {te : TE} {g : TG} {Ψ : Out → Ms → Prop} {σ : L2.St} {H : Hp}
theorem iterm_seqL {Φ : List D → Prop} (h : EvM K Mx M0 I te ms Γ (fun d => ∃ ds, d = .list ds ∧ Φ ds)) : IterM K Mx M0 I (iSeq K te) ms Γ Φ := fun B wf σ H S R q => .inl (by
  show te σ H _
  refine h B wf σ H S _ fun v d H1 ⟨ds, hd, hp⟩ S1 e1 d1 => ?_
  subst hd
  obtain ⟨v', hv, hr⟩ := itd_list (K := K) (te := tVar 0) (Γ := [.dat (.list ds)]) (evd_var rfl) (hid ms Mx) [some v] H1 S1.trk (.cons d1 .nil) R fun J H2 e2 w => q J H2 ds hp (S1.grow wf e2) (e1.trans (hsame e2)) w
  have e : v = v' := by
    have : some (some v) = some (some v') := hv
    injection this with this
    injection this
  subst e
  exact hr)
theorem runm_forM {wi : TI} {Φ : List D → Prop} {R : List D → Ms → List Sl → Prop} (hi : IterM K Mx M0 I wi ms Γ Φ) (h0 : ∀ ds, Φ ds → R ds ms Γ) (step : ∀ d ds ms Γ, R (d :: ds) ms Γ → ∃ Γ1, GD K g d Γ Γ1 ∧ RunM K Mx M0 I E t ms Γ1 (stepM (R ds) Ψ))
    (fin : ∀ ms Γ, R [] ms Γ → Ψ (.nx Γ) ms) : RunM K Mx M0 I E (tFor wi g t) ms Γ Ψ := fun B wf σ H D S P =>
  hi B wf σ H S _ fun J H1 ds p S1 e1 ⟨G, Y, w, hG, hY⟩ => by
    obtain ⟨wf2, S2⟩ := S1.base wf
    refine ⟨fun i m σ' H' => m = ds.length - i ∧ i ≤ ds.length ∧ ∃ Γ' ms', Stt K Mx M0 I ((H1, ms.map (·.1) ++ M0) :: B) ms' Γ' σ' H' ∧ R (ds.drop i) ms' Γ', ⟨_, rfl, Nat.zero_le _, Γ, ms, S2, h0 ds p⟩, ?_⟩
    rintro i m σ' H' ⟨rfl, hi, Γ', ms', S', L⟩
    have hs := S'.since wf
    have q := hG _ H' hs
    by_cases hlt : i < ds.length
    · refine .inr ⟨w.goes i H' hlt q, fun σ2 H2 => ∃ Γ2 ms2, Stt K Mx M0 I ((H1, ms.map (·.1) ++ M0) :: B) ms2 Γ2 σ2 H2 ∧ R (ds.drop (i + 1)) ms2 Γ2, fun σ2 H2 ⟨Γ2, ms2, x, y⟩ => ⟨ds.length - (i + 1), by omega, rfl, hlt, Γ2, ms2, x, y⟩, fun x H2' y => ?_⟩
      obtain ⟨s2, d, hd, hx⟩ := hY i H' x H2' _ hlt S'.trk hs (w.yields i H' x H2' hlt q y)
      have hdr : ds.drop i = d :: ds.drop (i + 1) := by
        have h1 := List.drop_eq_getElem_cons hlt
        have h2 := (List.getElem?_eq_some_iff.mp hd).2
        rw [h1, h2]
      rw [hdr] at L
      have S3 := S'.grow wf2 s2
      obtain ⟨Γ1, hg, hb⟩ := step d _ ms' Γ' L
      refine hg _ x σ' H2' _ S3.trk hx S3.env fun σ4 H4 e4 S4 => hb _ wf2 σ4 H4 _ ((S3.grow wf2 e4).envs S4) fun o ms5 p => ?_
      cases o with
      | nx Γ5 => exact fun σ5 H5 S5 => ⟨Γ5, ms5, S5, p⟩
      | ct Γ5 => exact fun σ5 H5 S5 => ⟨Γ5, ms5, S5, p⟩
      | bk Γ5 => exact fun σ5 H5 S5 => P _ _ p σ5 H5 S5.unbase
      | rt d => exact fun v H5 o5 t5 i5 d5 => P _ _ p v H5 (fun q hq => o5 q (List.mem_cons_of_mem _ hq)) t5 i5 d5
      | er k i => exact fun dx H5 o5 i5 x5 => P _ _ p dx H5 (fun q hq => o5 q (List.mem_cons_of_mem _ hq)) i5 x5
    · have e : i = ds.length := by omega
      subst e
      rw [List.drop_length] at L
      exact .inl ⟨w.stops H' q, P _ _ (fin ms' Γ' L) σ' H' S'.unbase⟩
end
/-! ### given = [list(t) for t in versions]; told = f(list(base), given); given[0].append(0) -/
/-- new lists of ints -/
inductive NewLs (H H1 : Hp) : List Addr → List Tx → Prop
  | nil : NewLs H H1 [] []
  | cons {p : Addr} {t : Tx} {ps : List Addr} {ts : List Tx} : H p = none → H1 p = some (.lst (t.map V.int)) → NewLs H H1 ps ts → NewLs H H1 (p :: ps) (t :: ts)
theorem NewLs.mono {H H1 H2 : Hp} : ∀ {ps : List Addr} {ts : List Tx}, NewLs H H1 ps ts → (∀ p xs, p ∈ ps → H1 p = some (.lst (xs : List V)) → H2 p = some (.lst xs)) → NewLs H H2 ps ts
  | _, _, .nil, _ => .nil
  | _, _, .cons h1 h2 r, e => .cons h1 (e _ _ List.mem_cons_self h2) (r.mono fun p xs hp => e p xs (List.mem_cons_of_mem _ hp))
theorem NewLs.snoc {H H1 : Hp} {p : Addr} {t : Tx} (h1 : H p = none) (h2 : H1 p = some (.lst (t.map V.int))) : ∀ {ps : List Addr} {ts : List Tx}, NewLs H H1 ps ts → NewLs H H1 (ps ++ [p]) (ts ++ [t])
  | _, _, .nil => .cons h1 h2 .nil
  | _, _, .cons a b r => .cons a b (NewLs.snoc h1 h2 r)
theorem NewLs.len {H H1 : Hp} : ∀ {ps : List Addr} {ts : List Tx}, NewLs H H1 ps ts → ps.length = ts.length
  | _, _, .nil => rfl
  | _, _, .cons _ _ r => congrArg Nat.succ r.len
theorem NewLs.dat {K : Fg} {M : List Addr} {H H1 : Hp} (T' : Trk M H) : ∀ {ps : List Addr} {ts : List Tx}, NewLs H H1 ps ts → DqAll K (hide M H1) (ps.map V.ref) (ts.map L')
  | _, _, .nil => .nil
  | _, _, .cons h1 h2 r => .cons (.lst ((hide_in (T'.ne h1)).trans h2) (DqAll.ints _)) (r.dat T')
section
variable {K : Fg} {M : List Addr} {Γ : List Sl} {σ : L2.St} {H : Hp}
theorem lc_new {vt : List Tx} {jv jt : Nat} (T' : Trk M H) (S : EnvD K (hide M H) σ Γ) (hv : Γ[jv]? = some (.dat (lvD vt))) (ht : ∀ d, ((wipeG Γ [jt]).set jt (.dat d))[jt]? = some (.dat d)) (hz : vt.length ≤ 1000) {Q : VK}
    (q : ∀ g ps H1, Same H H1 → H g = none → H1 g = some (.lst (ps.map V.ref)) → NewLs H H1 ps vt → Q (.ref g) H1) : tLc (iSeq K (tVar jv)) (gName jt) tYes (tCB (rLstA K) (tCons (tVar jt) tNil)) [jt] σ H Q :=
  itd_seqL (evd_var hv) M σ H T' S _ fun J H1 e1 ⟨G, Y, w, hG, hY⟩ Dl hD => by
    have T1 : Trk M H1 := T'.mono e1
    have sub : ∀ {H'}, Same H1 H' → Same (hide M H1) (hide (Dl :: M) H') := fun s a o h => by
      obtain ⟨h1, h2⟩ := hide_of h
      have na : a ≠ Dl := ne_of_none h1 hD
      rw [hide_in (by intro z; rcases List.mem_cons.mp z with z | z; exact na z; exact h2 z)]
      exact s a o h1
    have hDH : H Dl = none := by
      cases z : H Dl with
      | none => rfl
      | some o => rw [e1 _ _ z] at hD; cases hD
    refine lc_it w (fun i H' => Same H1 H' ∧ ∃ ps : List Addr, H' Dl = some (.lst (ps.map V.ref)) ∧ Dl ∉ ps ∧ NewLs H H' ps (vt.take i)) ⟨same_new hD, [], upd_same, (fun z => by cases z), .nil⟩ (fun i H' hi ⟨s, _⟩ => hG (Dl :: M) H' (sub s)) (fun i x H' H2 hlt ⟨s, ps, hacc, hnd, hn⟩ hy => ?_) fun H' ⟨s, ps, hacc, hnd, hn⟩ => ?_
    · have trk : Trk (Dl :: M) H' := fun m hm => by
        rcases List.mem_cons.mp hm with z | z
        · subst z; exact ⟨_, hacc, fun _ z => by cases z⟩
        · exact (T1.mono s) m z
      obtain ⟨s2, d, hdx, hx⟩ := hY i H' x H2 (Dl :: M) hlt trk (sub s) hy
      rw [List.getElem?_map] at hdx
      obtain ⟨tx, htx, rfl⟩ : ∃ tx, vt[i]? = some tx ∧ T tx = d := by
        cases z : vt[i]? with
        | none => rw [z] at hdx; cases hdx
        | some tx => rw [z] at hdx; exact ⟨tx, rfl, Option.some.inj hdx⟩
      have Tk2 := trk.mono s2
      have S2 : EnvD K (hide (Dl :: M) H2) (wipe σ [jt]) (wipeG Γ [jt]) := (envd_wipe (S.mono (hsame e1)) [jt]).mono (sub (s.trans s2))
      have hgd : GDw K (gName jt) [jt] (T tx) (wipeG Γ [jt]) ((wipeG Γ [jt]).set jt (.dat (T tx))) := gdw_name (h := List.mem_cons_self)
      refine hgd (Dl :: M) x (wipe σ [jt]) H2 _ Tk2 hx S2 fun σ3 H3 e3 w3 S3 => ⟨by rw [w3, wipe_idem], ?_⟩
      show tCB (rLstA K) (tCons (tVar jt) tNil) σ3 H3 _
      obtain ⟨v, h1, h2⟩ := envd_dat S3 (ht (T tx))
      obtain ⟨p, ys, rfl, hs, hd⟩ := h2.tupS
      obtain rfl := DqAll.of_ints hd
      have s03 : Same H H3 := (e1.trans s).trans (s2.trans e3)
      have hacc3 := e3 _ _ (s2 _ _ hacc)
      refine ⟨.ref p, h1, p, _, rfl, .inr (SqT.of (hide_of hs).1), fun l hl => ?_⟩
      have nl : Dl ≠ l := ne_of_none hacc3 hl
      have hHl : H l = none := by
        cases z : H l with
        | none => rfl
        | some o => rw [s03 _ _ z] at hl; cases hl
      refine ⟨ps.map V.ref, by rw [upd_ne nl]; exact hacc3, ?_, ?_, ps ++ [l], ?_, ?_, ?_⟩
      · have := hn.len
        rw [List.length_map, this, List.length_take]
        exact Nat.lt_of_le_of_lt (Nat.min_le_right _ _) (Nat.lt_of_le_of_lt hz (by decide))
      · intro a o z
        have na : a ≠ Dl := ne_of_none z hD
        have z3 : H3 a = some o := e3 _ _ (s2 _ _ (s a o z))
        rw [upd_ne na, upd_ne (ne_of_none z3 hl)]
        exact z3
      · rw [List.map_append]; exact upd_same
      · intro z
        rcases List.mem_append.mp z with z | z
        · exact hnd z
        · exact nl (List.mem_singleton.mp z)
      · have ht2 : vt.take (i + 1) = vt.take i ++ [tx] := by
          rw [List.take_succ, htx]; rfl
        rw [ht2]
        refine NewLs.snoc hHl ((upd_ne (Ne.symm nl)).trans upd_same) (hn.mono fun p xs hp z => ?_)
        have z3 := e3 _ _ (s2 _ _ z)
        have np : p ≠ Dl := fun e => hnd (e ▸ hp)
        rw [upd_ne np, upd_ne (ne_of_none z3 hl)]
        exact z3
    · rw [List.length_map, List.take_length] at hn
      exact q Dl ps H' (e1.trans s) hDH hacc hn
/-- .. and what follows; told has no list in it -/
theorem runm_given {Mx M0 : List Addr} {I : Hp → Prop} {E : XK} {ms : Ms} {bt : Tx} {vt : List Tx} {told : D} {F : List D → Res → Prop} {T' : String} {jb jv jg jt jr : Nat} {u : TS} {Ψ : Out → Ms → Prop} (hT : T' = "list") (h1 : Γ[jb]? = some (.dat (T bt))) (h2 : Γ[jv]? = some (.dat (lvD vt)))
    (ht : ∀ d, ((wipeG Γ [jt]).set jt (.dat d))[jt]? = some (.dat d)) (hg1 : (Γ.set jg (.dat (.list (vt.map L'))))[jb]? = some (.dat (T bt))) (hg2 : (Γ.set jg (.dat (.list (vt.map L'))))[jg]? = some (.dat (.list (vt.map L')))) (hjr : jr ≠ jg) (hne : vt ≠ []) (hz : vt.length ≤ 1000) (hz2 : ∀ t ∈ vt, t.length ≤ 1000)
    (hF : F [L' bt, .list (vt.map L')] (.ok told)) (hlf : lf told = true) (h : RunM K Mx M0 I E u ms ((Γ.set jg .un).set jr (.dat told)) Ψ) :
    RunM K Mx M0 I E (tSeq (tAsg (tLc (iSeq K (tVar jv)) (gName jt) tYes (tCB (rLstA K) (tCons (tVar jt) tNil)) [jt]) (gName jg)) (tSeq (tAsg (tCall (spD K F) [] E0 (tCons (tCB (rLstA K) (tCons (tVar jb) tNil)) (tCons (tVar jg) tNil))) (gName jr))
      (tSeq (tDrop (tBM K T' rAppend (tOp (rIx K) (tVar jg) (tC (.int 0))) (tCons (tC (.int 0)) tNil))) u))) ms Γ Ψ := fun B wf σ H D S P => by
  show tLc (iSeq K (tVar jv)) (gName jt) tYes (tCB (rLstA K) (tCons (tVar jt) tNil)) [jt] σ H (fun x H1 => tSeq (tAsg (tCall (spD K F) [] E0 (tCons (tCB (rLstA K) (tCons (tVar jb) tNil)) (tCons (tVar jg) tNil))) (gName jr))
      (tSeq (tDrop (tBM K T' rAppend (tOp (rIx K) (tVar jg) (tC (.int 0))) (tCons (tC (.int 0)) tNil))) u) D (σ.set jg (some x)) H1)
  refine lc_new S.trk S.env h2 ht hz fun g ps H1 e1 ng hgl hps => ?_
  · have T1 : Trk (hid ms Mx) H1 := S.trk.mono e1
    have dg : Dq K (hide (hid ms Mx) H1) (.ref g) (.list (vt.map L')) := .lst ((hide_in (S.trk.ne ng)).trans hgl) (hps.dat S.trk)
    have E1 := envd_set (o := some (.ref g)) (s := .dat (.list (vt.map L'))) dg jg (S.env.mono (hsame e1))
    refine (evd_call0 (eva_cons (evd_cb (eva_cons (evd_var hg1) eva_nil) rlst_tup) (eva_cons (evd_var hg2) eva_nil)) hF) (hid ms Mx) _ H1 T1 E1 _ fun v H2 e2 d2 => ?_
    obtain ⟨t0, ts, rfl⟩ := List.exists_cons_of_ne_nil hne
    cases hps with
    | @cons p0 _ ps _ hp0 hp1 hps =>
      have hg2' := e2 _ _ hgl
      have hp2 := e2 _ _ hp1
      have hlt : jg < (σ.set jg (some (V.ref g))).length := by
        obtain ⟨o, ho, _⟩ := envd_get E1 hg2
        exact (List.getElem?_eq_some_iff.mp ho).1
      have hjg : ((σ.set jg (some (V.ref g))).set jr (some v))[jg]? = some (some (.ref g)) := by
        rw [List.getElem?_set_ne hjr, List.getElem?_set_self (by simpa using hlt)]
      subst hT
      refine ⟨.ref g, hjg, .inl ⟨g, _, 0, .ref p0, rfl, rfl, SqL.of hg2', atI_nat (n := 0) rfl rfl, .inl ⟨rfl, _, SqL.of hp2⟩, p0, _, .int 0, rfl, rfl, hp2, ?_, ?_⟩⟩
      · rw [List.length_map]
        exact Nat.lt_of_le_of_lt (hz2 _ List.mem_cons_self) (by decide)
      · have e03 : Same H (L2.upd H2 p0 (.lst (t0.map V.int ++ [.int 0]))) := fun a o z => by
          rw [upd_ne (fun e => by rw [e, hp0] at z; cases z)]
          exact e2 _ _ (e1 _ _ z)
        have S3 := S.grow wf e03
        refine h B wf _ _ D (S3.envs ?_) P
        refine envd_set (o := some v) (s := .dat told) ?_ jr (envd_set (o := some (.ref g)) (s := .un) trivial jg S3.env)
        refine lf_dp (fun a o z n => ?_) told hlf d2
        obtain ⟨z1, z2⟩ := hide_of z
        rw [hide_in z2, upd_ne (fun e => by rw [e, hp2] at z1; exact n _ (Option.some.inj z1).symm)]
        exact z1
end
end CB

/-! W25 -/
set_option Elab.async false
set_option linter.all false
set_option maxRecDepth 100000
set_option maxHeartbeats 4000000
namespace CB
open PySem PySem.Spec PyProof.Rows L2
def tagD : D → Str
  | .tuple (.str s :: _) => s
  | _ => ""
/-- what is shown of a dealt case, in plain mathematics -/
structure Maths (bt : Tx) (vt : List Tx) : Prop where
  pap : papOk bt vt
  ok : toldOk bt vt (paperD bt vt)
  told : Told bt vt (paperD bt vt)
  alike : alikeB bt vt = (decide (tagD (paperD bt vt) = "one") || decide (tagD (paperD bt vt) = "block"))
variable {P : Program} {w : World} {K : PySem.W.Frag} {mg : Str → Option Value} {base : Heap} {Tb : Tbl}
def F_law_right (ds : List D) (Φ : D → Prop) : Prop := ∃ bt vt, ds = [T bt, lvD vt] ∧ Gv bt vt ∧ Maths bt vt ∧ Φ = (· = .bool true)
theorem sc_law_right : FnScope ["_law_deal_here", "_law_base", "_law_versions_here", "_law_ends_here", "_law_given", "_law_text_here", "_law_told", "_law_turn", "_law_order", "_law_value", "_law_right_here", "_law_holds"] ["_law_deal_here", "_law_base", "_law_versions_here"] (defScope s_law_right) := ⟨rfl, rfl, rfl, by decide +kernel, rfl, by decide +kernel, by decide +kernel⟩
theorem kind_lf {n : Nat} {d : D} (k : Kind n d) : lf d = true := by
  have hT : ∀ o, lf (ordD o) = true := fun o => by rw [ordD_T]; exact lf_T _
  cases k with
  | one _ _ => rfl
  | clash _ => show (true && (lf (ordD _) && true)) = true; rw [hT]; rfl
  | apart _ _ => show (true && (lf (ordD _) && (lf (ordD _) && true))) = true; rw [hT, hT]; rfl
  | block _ _ _ _ _ => show (true && (lf (T _) && (lf (T _) && (lf (T _) && (true && (lf (T _) && true)))))) = true; rw [lf_T, lf_T, lf_T, lf_T]; rfl
theorem kind_tag {n : Nat} {d : D} (k : Kind n d) : ∃ ds, d = .tuple (.str (tagD d) :: ds) := by
  cases k with
  | _ => exact ⟨_, rfl⟩
theorem seqOf_T (t : Tx) : seqOf (T t) = some (t.map PyData.int) := rfl
theorem txOf_L (t : Tx) : txOf (L' t) = t := txOf_T t
theorem needT_L {t : Tx} {i : Int} (h : tOk t) : needT (L' t) i = .ok (T t) := by
  have h1 : isTextB (L' t) = true := tOk_iff.mpr h
  unfold needT
  rw [h1, txOf_L]; rfl
theorem badAt_all {f : Tx → D} (hf : ∀ t, tOk t → isTextB (f t) = true) : ∀ (vt : List Tx) (n : Nat), (∀ t ∈ vt, tOk t) → badAt (vt.map f) n = none
  | [], _, _ => rfl
  | t :: vt, n, h => by
    rw [List.map_cons]
    unfold badAt
    rw [hf t (h t List.mem_cons_self), if_pos rfl]
    exact badAt_all hf vt (n + 1) fun x hx => h x (List.mem_cons_of_mem _ hx)
theorem needV_fl {f : Tx → D} (hf : ∀ t, tOk t → isTextB (f t) = true) {bt : Tx} {vt : List Tx} (gv : Gv bt vt) {d : D} (hd : seqOf d = some (vt.map f)) : needV d = .ok (.tuple ((vt.map f).map fun d => T (txOf d))) := by
  have h := badAt_all hf vt 0 fun t ht => (gv.v t ht).1
  obtain ⟨t, ts, e⟩ := List.exists_cons_of_ne_nil gv.ne
  subst e
  unfold needV
  rw [hd]
  show (match badAt ((t :: ts).map f) 0 with | some n => Res.er .versions n | none => .ok _) = _
  rw [h]
theorem smallV_fl {f : Tx → D} (hf : ∀ t, lenD (f t) = t.length) {bt : Tx} {vt : List Tx} (gv : Gv bt vt) {d : D} (hd : seqOf d = some (vt.map f)) : smallV d := by
  refine ⟨?_, fun es z e he => ?_⟩
  · have := gv.vl
    unfold lenD
    rw [hd]
    show (vt.map f).length ≤ 8
    rw [List.length_map]; omega
  · rw [hd] at z
    injection z with z
    subst z
    obtain ⟨t, ht, rfl⟩ := List.mem_map.mp he
    have := (gv.v t ht).2
    rw [hf]; omega
theorem vsOf_fl {f : Tx → D} (hf : ∀ t, txOf (f t) = t) {vt : List Tx} {d : D} (hd : seqOf d = some (vt.map f)) : vsOf d = vt := by
  unfold vsOf
  rw [hd]
  show (vt.map f).map txOf = vt
  rw [List.map_map]
  exact List.map_id'' hf vt
theorem paper_fl {f : Tx → D} (hf : ∀ t, tOk t → isTextB (f t) = true) (hf2 : ∀ t, lenD (f t) = t.length) (hf3 : ∀ t, txOf (f t) = t) {bt : Tx} {vt : List Tx} (gv : Gv bt vt) (m : Maths bt vt) {db d : D} (hb : needT db (-1) = .ok (T bt)) (hb2 : txOf db = bt) (hb3 : lenD db ≤ 200) (hd : seqOf d = some (vt.map f)) :
    F_orders_paper [db, d] (.ok (paperD bt vt)) := by
  refine ⟨db, d, rfl, hb3, smallV_fl hf2 gv hd, fun _ _ _ _ => by rw [hb2, vsOf_fl hf3 hd]; exact m.pap, ?_⟩
  unfold paperR
  rw [hb, needV_fl hf gv hd, hb2, vsOf_fl hf3 hd]
theorem holds_lv {bt : Tx} {vt : List Tx} (gv : Gv bt vt) (m : Maths bt vt) {v : D} (hv : gd 16 v = true) : F_orders_holds [T bt, lvD vt, v] (.ok (.bool (holdsB bt vt v))) := by
  refine ⟨T bt, lvD vt, v, rfl, by rw [lenD_T]; have := gv.bl; omega, smallV_lv gv, hv, fun _ _ _ _ => by rw [txOf_T, vsOf_lv]; exact m.pap, ?_⟩
  unfold holdsR
  rw [needT_T' gv.b, needV_lv gv, txOf_T, vsOf_lv]
theorem endGo_tok {b : Tx} {vs : List Tx} (hv : ∀ t ∈ vs, tOk t) : ∀ {o : List Nat} {t x : Tx}, tOk t → endGo b vs t o = some x → tOk x
  | [], t, x, ht, h => by cases h; exact ht
  | p :: o, t, x, ht, h => by
    unfold endGo at h
    cases hm : merge b (vs.getD p []) t with
    | none => rw [hm] at h; cases h
    | some t' =>
      rw [hm] at h
      refine endGo_tok hv (merge_ok ?_ ht hm) h
      rw [List.getD_eq_getElem?_getD]
      cases hp : vs[p]? with
      | none => exact fun x h => by cases h
      | some v => exact hv v (List.mem_of_getElem? hp)
theorem ends_shows {bt : Tx} {vt : List Tx} (gv : Gv bt vt) {o : List Nat} (hl : o.length ≤ 4) : showsUp (optT (ends bt vt o)) := by
  cases h : ends bt vt o with
  | none => exact ⟨rfl, shaped_non, by show 4 ≤ _; decide, .inl rfl⟩
  | some t =>
    have h1 := endGo_len (L := 40) (fun t ht => (gv.v t ht).2) h
    have h2 := gv.bl
    have hlen : t.length ≤ 200 := by
      have : 40 * o.length ≤ 40 * 4 := Nat.mul_le_mul_left _ hl
      omega
    have hk := endGo_tok (fun t ht => (gv.v t ht).1) gv.b h
    obtain ⟨q1, q2⟩ := shs_ints (m := 100) (by decide) (t := t) fun x hx => by have := hk x hx; omega
    refine ⟨q1, shaped_T t, ?_, .inr ⟨_, rfl⟩⟩
    show wts (t.map PyData.int) + 3 ≤ _
    rw [q2]; omega
theorem ok_law_right {fd : FuncData} (Fu : FnP K "_law_right" s_law_right [] fd) (B : Bl mg)  (k_orders_paper : HasK P w K mg base 11 "orders_paper" ["base", "versions"] (spD K F_orders_paper)) (k_hands_end : HasK P w K mg base 9 "hands_end" ["base", "versions", "order"] (spD K F_hands_end)) (k_orders_holds : HasK P w K mg base 12 "orders_holds" ["base", "versions", "value"] (spD K F_orders_holds)) (h_law_all_alike : HasF P w K mg base 1 "_law_all_alike" ["_law_ends_here", "_law_many"] [] (spD K F_law_all_alike)) (h_law_ends : HasF P w K mg base 2 "_law_ends" ["_law_base", "_law_versions_here"] [] (spD K F_law_ends)) (h_law_papers : HasFG P w K mg base 3 "_law_papers" ["_law_deal_here", "_law_ends_here", "_law_versions_here", "_law_told"] [] (spW K Tb F_law_papers)) (h_law_pick : HasF P w K mg base 2 "_law_pick" ["_law_deal_here", "_law_some"] [] (spW K Tb F_law_pick)) (h_law_told_right : HasFG P w K mg base 4 "_law_told_right" ["_law_base", "_law_versions_here", "_law_ends_here", "_law_told"] [] (spD K F_law_told_right)) (h_hands_end : HasF P w K mg base 9 "hands_end" ["base", "versions", "order"] [] (spD K F_hands_end)) (h_orders_holds : HasF P w K mg base 12 "orders_holds" ["base", "versions", "value"] [] (spD K F_orders_holds)) (h_orders_paper : HasF P w K mg base 11 "orders_paper" ["base", "versions"] [] (spD K F_orders_paper)) : FnOkG P w K mg base (L2.CX P w) 13 (He.ga K "_law_right") fd ["_law_deal_here", "_law_base", "_law_versions_here"] (spW K Tb F_law_right) := by
  refine fnMWG Fu sc_law_right (fun ds Φ ⟨bt, vt, h, _, _, _⟩ => by rw [h]; rfl) fun cdv A outer s H E hr hgd => ⟨_, (pss_cons (ps_set (i := 3) sc_law_right.nd rfl (Or.inl rfl) (pe_f h_law_ends (hr.mono (by decide)) (pa_cons (pv 1) (pa_cons (pv 2) pa_nil))))
      (pss_cons (ps_setLc (own := [("_law_text_here", 5)]) (i := 4) rfl sc_law_right.nd rfl rfl (sw_true rfl rfl rfl (by decide +kernel)) (pi_seq (pv 2)) (blkOk_by (N := ["_law_deal_here", "_law_base", "_law_versions_here", "_law_ends_here", "_law_given", "_law_text_here", "_law_told", "_law_turn", "_law_order", "_law_value", "_law_right_here", "_law_holds"]) (sc := defScope s_law_right) (by decide +kernel)) (fun _ _ _ _ _ => (pg_name (i := 5) sc_law_right.nd rfl (Or.inl rfl))) (fun _ _ _ _ _ => pts_nil) (fun _ _ _ _ _ => (pe_callTy (T := "list") (r := rLstA K) call_lstA rfl B.list (by decide +kernel) (pa_cons (pv 5) pa_nil))))
      (pss_cons (ps_set (i := 6) sc_law_right.nd rfl (Or.inl rfl) (pe_f h_orders_paper (hr.mono (by decide)) (pa_cons (pe_callTy (T := "list") (r := rLstA K) call_lstA rfl B.list (by decide +kernel) (pa_cons (pv 1) pa_nil)) (pa_cons (pv 4) pa_nil))))
      (pss_cons (ps_expr (pe_bm PySem.F.plainAttrs_list PySem.F.slot_list_append PySem.F.type_list_append mt_append (pe_ix (r := rIx K) ix_seq (pv 4) pe_int (fun _ _ => rfl)) (pa_cons pe_int pa_nil)))
      (pss_cons (ps_if (pt_cmpR (r := rNe) op_ne (pe_callB (id := "repr") (r := rRepr K) (call_repr hgd (rm100 hr)) rfl B.repr (by decide +kernel) (pa_cons (pe_kw k_orders_paper (hr.mono (by decide)) passL (pk_cons (pv 1) (pk_cons (pe_callTy (T := "tuple") (r := rTupA K) call_tupA rfl B.tuple (by decide +kernel) (pa_cons (pv 2) pa_nil)) pk_nil))) pa_nil)) (pe_callB (id := "repr") (r := rRepr K) (call_repr hgd (rm100 hr)) rfl B.repr (by decide +kernel) (pa_cons (pv 6) pa_nil)) (nomark _)) (pss_one (ps_ret pe_bl)) pss_nil)
      (pss_cons (ps_if (pt_not (pt_val (pe_fG h_law_told_right hgd (hr.mono (by decide)) (pa_cons (pv 1) (pa_cons (pv 2) (pa_cons (pv 3) (pa_cons (pv 6) pa_nil))))))) (pss_one (ps_ret pe_bl)) pss_nil)
      (pss_cons (ps_if (pt_cmpR (r := rNeD K) (op_neD hr.units) (pe_f h_law_all_alike (hr.mono (by decide)) (pa_cons (pv 3) (pa_cons (pe_callB (id := "len") (r := rLenA K) call_lenA rfl B.len boot_len (pa_cons (pv 2) pa_nil)) pa_nil))) (pe_cmpR (r := rIn K false) op_in_seq (pe_ix (r := rIx K) ix_seq (pv 6) pe_int (fun _ _ => rfl)) (pe_tup (pa_cons pe_str (pa_cons pe_str pa_nil))) (by with_unfolding_all rfl)) (nomark _)) (pss_one (ps_ret pe_bl)) pss_nil)
      (pss_cons (ps_for PassesOwn.never rfl (pi_range1 rfl B.range (pa_cons pe_int pa_nil)) (pg_name (i := 7) sc_law_right.nd rfl (Or.inl rfl))
      (pss_cons (ps_set (i := 8) sc_law_right.nd rfl (Or.inl rfl) (pe_f h_law_pick (hr.mono (by decide)) (pa_cons (pv 0) (pa_cons (pe_callTy (T := "list") (r := rLstK) (call_lstK rfl) rfl B.list (by decide +kernel) (pa_cons (pv 3) pa_nil)) pa_nil))))
      (pss_one (ps_if (pt_cmpR (r := rNe) op_ne (pe_callB (id := "repr") (r := rRepr K) (call_repr hgd (rm100 hr)) rfl B.repr (by decide +kernel) (pa_cons (pe_kw k_hands_end (hr.mono (by decide)) passL (pk_cons (pv 1) (pk_cons (pv 2) (pk_cons (pe_callTy (T := "list") (r := rLstA K) call_lstA rfl B.list (by decide +kernel) (pa_cons (pv 8) pa_nil)) pk_nil)))) pa_nil)) (pe_callB (id := "repr") (r := rRepr K) (call_repr hgd (rm100 hr)) rfl B.repr (by decide +kernel) (pa_cons (pe_dget (hu_of hr) (pv 3) (pv 8) (fun _ _ => rfl)) pa_nil)) (nomark _)) (pss_one (ps_ret pe_bl)) pss_nil))))
      (pss_cons (ps_for PassesOwn.never rfl (pi_seq (pe_fG h_law_papers hgd (hr.mono (by decide)) (pa_cons (pv 0) (pa_cons (pv 3) (pa_cons (pv 2) (pa_cons (pv 6) pa_nil)))))) (pg_tup rfl (pgs_cons (pg_name (i := 9) sc_law_right.nd rfl (Or.inl rfl)) (pgs_cons (pg_name (i := 10) sc_law_right.nd rfl (Or.inl rfl)) pgs_nil)))
      (pss_cons (ps_set (i := 11) sc_law_right.nd rfl (Or.inl rfl) (pe_kw k_orders_holds (hr.mono (by decide)) passL (pk_cons (pv 1) (pk_cons (pv 2) (pk_cons (pv 9) pk_nil)))))
      (pss_one (ps_if (PW.pt (pw_or (pt_cmpR (r := rNeD K) (op_neD hr.units) (pe_cmpR op_isBl (pv 11) pe_bl (nomark _)) (pv 10) (nomark _)) (pw_or1 (pt_cmpR (r := rEqD K) (op_eqD hr.units) (pe_cmpR op_isBl (pv 11) pe_bl (nomark _)) (pv 10) (nomark _))))) (pss_one (ps_ret pe_bl)) pss_nil))))
      (pss_one (ps_ret pe_bl))))))))))), fun ds Φ a b Mx ⟨bt, vt, h, gv, m, hΦ⟩ => ?_⟩
  subst h hΦ
  have hvl := gv.vl
  have sv : Sv bt vt := ⟨by have := gv.bl; omega, fun t ht => by have := (gv.v t ht).2; omega, gv.vl⟩
  have hs := m.told.shows
  obtain ⟨hck, hol, hob, hon⟩ := lawOrders_chk vt.length gv.vl
  have h0mem : [] ∈ lawOrders vt.length := by
    have : ∀ n, n ≤ 4 → [] ∈ lawOrders n := by decide +kernel
    exact this _ gv.vl
  have hlf : lf (paperD bt vt) = true := kind_lf m.told.kind
  have htag := kind_tag m.told.kind
  refine runm_asgN (Φ := (· = .dict (kvE (tabD bt vt)))) (evm_of (evd_call0 (eva_cons (evd_var (i := 1) rfl) (eva_cons (evd_var (i := 2) rfl) eva_nil)) ⟨bt, vt, rfl, sv, rfl⟩)) fun d hd => ?_
  subst hd
  refine runm_given (bt := bt) (vt := vt) (told := paperD bt vt) (jb := 1) (jv := 2) (jg := 4) (jt := 5) (jr := 6) rfl rfl rfl (fun d => rfl) rfl rfl (by decide) gv.ne (by omega) (fun t ht => by have := (gv.v t ht).2; omega)
    (paper_fl (f := L') (fun t ht => tOk_iff.mpr ht) (fun t => lenD_T t) txOf_L gv m (needT_L gv.b) (txOf_L bt) (by have := gv.bl; show lenD (L' bt) ≤ 200; rw [show lenD (L' bt) = bt.length from lenD_T bt]; omega) rfl) hlf ?_
  show RunM K Mx (Mv Tb a b) (Dl Tb a b) E0 _ [] [.ref a, .dat (T bt), .dat (lvD vt), .dat (.dict (kvE (tabD bt vt))), .un, .un, .dat (paperD bt vt), .un, .un, .un, .un, .un] _
  refine runm_ifN (Thw.refl _) (b := false) (evt_is (evt_test (evd_op (evd_cb (eva_cons (evd_call0 (eva_cons (evd_var (i := 1) rfl) (eva_cons (evd_cb (eva_cons (evd_var (i := 2) rfl) eva_nil) rtup_lst) eva_nil))
    (paper_fl (f := T) (fun t ht => tOk_iff.mpr ht) (fun t => lenD_T t) txOf_T gv m (needT_T' gv.b) (txOf_T bt) (by rw [lenD_T]; have := gv.bl; omega) rfl)) eva_nil) (rrepr hs)) (evd_cb (eva_cons (evd_var (i := 6) rfl) eva_nil) (rrepr hs)) rnes)) (by simp)) (fun z => by cases z) fun _ => runm_skip ?_
  refine runm_ifN (Thw.refl _) (b := false) (evt_is (evt_not (evt_test (evd_call0 (eva_cons (evd_var (i := 1) rfl) (eva_cons (evd_var (i := 2) rfl) (eva_cons (evd_var (i := 3) rfl) (eva_cons (evd_var (i := 6) rfl) eva_nil)))) ⟨bt, vt, paperD bt vt, rfl, sv, m.ok, hs, (fun z => by rw [z] at htag; obtain ⟨_, h⟩ := htag; cases h), rfl⟩))) rfl) (fun z => by cases z) fun _ => runm_skip ?_
  have hlen : EvD K (tCB (rLenA K) (tCons (tVar 2) tNil)) [.ref a, .dat (T bt), .dat (lvD vt), .dat (.dict (kvE (tabD bt vt))), .un, .un, .dat (paperD bt vt), .un, .un, .un, .un, .un] (.int (vt.length : Nat)) := evd_is (evd_cb (eva_cons (evd_var (i := 2) rfl) eva_nil) rlen_lst) (by rw [List.length_map])
  obtain ⟨tds, htd⟩ := htag
  have hin : inF (.str (tagD (paperD bt vt))) [.str "one", .str "block"] = alikeB bt vt := by
    rw [m.alike]
    have eq : ∀ s t : Str, eqF (.str s) (.str t) = decide (t = s) := fun s t => by
      show (s == t) = _
      rw [Bool.beq_eq_decide_eq]
      congr 1; exact propext ⟨Eq.symm, Eq.symm⟩
    unfold inF
    rw [List.any_cons, List.any_cons, List.any_nil, eq, eq, Bool.or_false]
  refine runm_ifN (Thw.refl _) (b := false) (evt_is (evt_test (evd_op (evd_call0 (eva_cons (evd_var (i := 3) rfl) (eva_cons hlen eva_nil)) ⟨bt, vt, rfl, sv, rfl⟩) (evd_is (evd_op (evd_op (evd_is (evd_var (i := 6) rfl) htd) evd_int (rix_tup (atI_nat (n := 0) rfl rfl))) (evd_tup (eva_cons evd_str (eva_cons evd_str eva_nil))) (rin_tup (neg := false) rfl rfl)) (congrArg PyData.bool hin)) (rne (hu := 0) shaped_bool shaped_bool))) (by simp [PyData.eqv])) (fun z => by cases z) fun _ => runm_skip ?_
  have hkeys : ∀ {s7 s8 s9 s10 s11 : Sl}, EvD K (tCB rLstK (tCons (tVar 3) tNil)) [.ref a, .dat (T bt), .dat (lvD vt), .dat (.dict (kvE (tabD bt vt))), .un, .un, .dat (paperD bt vt), s7, s8, s9, s10, s11] (.list ((lawOrders vt.length).map ordD)) := by
    intro s7 s8 s9 s10 s11
    have := evd_cb (K := K) (Γ := [.ref a, .dat (T bt), .dat (lvD vt), .dat (.dict (kvE (tabD bt vt))), .un, .un, .dat (paperD bt vt), s7, s8, s9, s10, s11]) (eva_cons (evd_var (i := 3) rfl) eva_nil) (rlst_keys (kv := tabD bt vt) .free)
    rw [tab_keys] at this
    exact this
  refine runm_seq (Ψ' := fun o ms' => ∃ s7 s8, o = .nx [.ref a, .dat (T bt), .dat (lvD vt), .dat (.dict (kvE (tabD bt vt))), .un, .un, .dat (paperD bt vt), s7, s8, .un, .un, .un] ∧ ms' = []) ?_ (fun Γ1 ms1 h => ?_) (fun o ms1 h hn => by
    obtain ⟨_, _, h1, _⟩ := h
    exact absurd h1 (hn _))
  · refine runm_for (R := fun es ms Γ => ms = [] ∧ ∃ s7 s8, Γ = [.ref a, .dat (T bt), .dat (lvD vt), .dat (.dict (kvE (tabD bt vt))), .un, .un, .dat (paperD bt vt), s7, s8, .un, .un, .un]) (itd_rng1 (n := 4) (eva_cons evd_int eva_nil)) ⟨rfl, _, _, rfl⟩ ?_ ?_
    · rintro d es ms Γ ⟨rfl, s7, s8, rfl⟩
      refine ⟨_, gd_name, ?_⟩
      refine runm_asgN (evm_pick (es := (lawOrders vt.length).map ordD) (j := 0) rfl (evm_of hkeys) (by rw [List.length_map]; exact List.length_pos_iff.mpr (fun z => by rw [z] at h0mem; cases h0mem)) (by rw [List.length_map]; omega)) fun d' hd' => ?_
      obtain ⟨o, ho, rfl⟩ := List.mem_map.mp hd'
      have hlo : o.length ≤ 4 := by
        have := of_decide_eq_true (List.all_eq_true.mp hon o ho)
        omega
      have hob' := ordB_mem gv.vl ho
      have hord : ordOk vt.length o := by
        unfold ordB at hob'
        rw [Bool.and_eq_true, decide_eq_true_eq, List.all_eq_true] at hob'
        exact ⟨hob'.1, fun p hp => of_decide_eq_true (hob'.2 p hp)⟩
      have hh : F_hands_end [T bt, lvD vt, .list (o.map fun (n : Nat) => PyData.int (n : Int))] (.ok (optT (ends bt vt o))) := ⟨T bt, lvD vt, _, rfl, by rw [lenD_T]; have := gv.bl; omega, smallV_lv gv, by show (o.map fun (n : Nat) => PyData.int (n : Int)).length ≤ 8; rw [List.length_map]; omega,
        (handsR_ok (needT_T' gv.b) (txOf_T bt) ⟨_, needV_lv gv⟩ (vsOf_lv vt) rfl hord).symm⟩
      refine runm_ifF (Thw.refl _) (evt_is (evt_test (evd_op (evd_cb (eva_cons (evd_call0 (eva_cons (evd_var (i := 1) rfl) (eva_cons (evd_var (i := 2) rfl) (eva_cons (evd_cb (eva_cons (evd_var (i := 8) rfl) eva_nil) rlst_tup) eva_nil))) hh) eva_nil) (rrepr (ends_shows gv hlo)))
        (evd_cb (eva_cons (evd_dget .free (evd_var (i := 3) rfl) (evd_is (evd_var (i := 8) rfl) (ordD_T o)) (lk_tab ho)) eva_nil) (rrepr (ends_shows gv hlo))) rnes)) (by simp)) (runm_end run_next ⟨rfl, _, _, rfl⟩)
    · rintro ms Γ ⟨rfl, s7, s8, rfl⟩
      exact ⟨_, _, rfl, rfl⟩
  obtain ⟨s7, s8, h1, rfl⟩ := h
  cases h1
  refine runm_seq (Ψ' := fun o ms' => (∃ Γ', o = .nx Γ') ∧ ms' = []) ?_ (fun Γ1 ms1 h => ?_) (fun o ms1 h hn => by
    obtain ⟨⟨_, h1⟩, _⟩ := h
    exact absurd h1 (hn _))
  · refine runm_forM (R := fun es ms Γ => ms = [] ∧ ∃ (items : List (D × Bool)) (s9 s10 s11 : Sl), es = items.map pairB ∧ okI bt vt items ∧ Γ = [.ref a, .dat (T bt), .dat (lvD vt), .dat (.dict (kvE (tabD bt vt))), .un, .un, .dat (paperD bt vt), s7, s8, s9, s10, s11])
      (iterm_seqL (Φ := fun ds => ∃ items, ds = items.map pairB ∧ okI bt vt items) (evm_mono (evm_callW (F := F_law_papers) (j := 0) rfl (evma_of (eva_cons (evd_var (i := 3) rfl) (eva_cons (evd_var (i := 2) rfl) (eva_cons (evd_var (i := 6) rfl) eva_nil)))) fun ds h => ⟨bt, vt, paperD bt vt, h, sv, List.length_pos_iff.mpr gv.ne, m.told, rfl⟩) fun d ⟨items, h1, _, h3⟩ => ⟨_, h1, items, rfl, h3⟩))
      (fun ds ⟨items, h1, h2⟩ => ⟨rfl, items, _, _, _, h1, h2, rfl⟩) ?_ ?_
    · rintro d es ms Γ ⟨rfl, items, s9, s10, s11, he, hok, rfl⟩
      obtain ⟨⟨v, bv⟩, items', rfl⟩ : ∃ p ps, items = p :: ps := by
        cases items with
        | nil => cases he
        | cons p ps => exact ⟨p, ps, rfl⟩
      rw [List.map_cons] at he
      injection he with he1 he2
      subst he1 he2
      obtain ⟨hg, hh⟩ := hok (v, bv) List.mem_cons_self
      refine ⟨[.ref a, .dat (T bt), .dat (lvD vt), .dat (.dict (kvE (tabD bt vt))), .un, .un, .dat (paperD bt vt), s7, s8, .dat v, .dat (.bool bv), s11], gd_tup (gds_cons gd_name (gds_cons gd_name gds_nil)), ?_⟩
      refine runm_asgN (Φ := (· = .bool bv)) (evm_of (evd_is (evd_call0 (eva_cons (evd_var (i := 1) rfl) (eva_cons (evd_var (i := 2) rfl) (eva_cons (evd_var (i := 9) rfl) eva_nil))) (holds_lv gv m hg)) (congrArg PyData.bool hh))) fun d hd => ?_
      subst hd
      refine runm_ifF (Thw.refl _) (evt_is (evt_or (evt_test (evd_op (evd_op (evd_var (i := 11) rfl) evd_bl ris_B) (evd_var (i := 10) rfl) (rne (hu := 0) shaped_bool shaped_bool))) fun _ => evt_test (evd_op (evd_op (evd_var (i := 11) rfl) evd_bl ris_B) (evd_var (i := 10) rfl) (req (hu := 0) shaped_bool shaped_bool)))
        (by cases bv <;> simp [PyData.eqv])) (runm_end run_next ⟨rfl, items', _, _, _, rfl, fun p hp => hok p (List.mem_cons_of_mem _ hp), rfl⟩)
    · rintro ms Γ ⟨rfl, items, s9, s10, s11, he, hok, rfl⟩
      exact ⟨⟨_, rfl⟩, rfl⟩
  obtain ⟨⟨Γ', h1⟩, rfl⟩ := h
  cases h1
  exact runm_end (run_ret evd_bl) ⟨_, rfl, rfl⟩
end CB

/-! W26 -/
set_option Elab.async false
set_option linter.all false
set_option maxRecDepth 100000
set_option maxHeartbeats 4000000
namespace CB
open PySem PySem.Spec PyProof.Rows L2
section
variable {K : Fg} {Γ : List Sl} {M : List Addr} {σ : L2.St} {H : Hp}
/-- a comprehension whose iterable is known at one state alone -/
theorem lc_at {wi : TI} {g : TG} {tt : TT} {te : TE} {ws : List Nat} {ds rs : List D} (T' : Trk M H) (S : EnvD K (hide M H) σ Γ) (hi : ∀ M, Trk M H → ∀ R : It → Hp → Prop, (∀ J H1, Same H H1 → WalkD K M J H1 ds → R J H1) → wi σ H R) (hc : Cmp K g tt te ws (wipeG Γ ws) ds rs) (hz : ds.length ≤ 100000) {Q : VK}
    (q : ∀ v H', Same H H' → Dq K (hide M H') v (.list rs) → Q v H') : tLc wi g tt te ws σ H Q := by
  have h := evd_lc (K := K) (Γ := Γ) (wi := fun σ' H' R => σ' = σ → H' = H → wi σ H R) (fun M' σ' H' T2 S2 R r e1 e2 => by subst e1 e2; exact hi M' T2 R r) hc hz M σ H T' S Q q
  exact h rfl rfl
/-- a slice of a list that is not tracked -/
theorem it_slice {tl th : TO} {s : Addr} {ns : Tx} {lo hi : Option Int} {j : Nat} (hj : σ[j]? = some (some (.ref s))) (hS : SqL K H s (ns.map V.int)) (hl : ∀ Q : Option Int → Hp → Prop, Q lo H → tl σ H Q) (hh : ∀ Q : Option Int → Hp → Prop, Q hi H → th σ H Q) (T' : Trk M H) {R : It → Hp → Prop}
    (q : ∀ J H1, Same H H1 → WalkD K M J H1 ((cutX ns lo hi).map PyData.int) → R J H1) : iSeq K (tSl (rSlU K) (tVar j) tl th) σ H R := by
  refine .inl ⟨.ref s, hj, hl _ (hh _ (.inr ⟨s, _, rfl, hS, fun p hp => ?_⟩))⟩
  have d1 : Dq K (hide M (L2.upd H p (.lst (cutV (ns.map V.int) lo hi)))) (.ref p) (.list ((cutX ns lo hi).map PyData.int)) := by
    refine .lst (T'.upd hp) ?_
    have := cutX_dp (K := K) (H := hide M (L2.upd H p (.lst (cutV (ns.map V.int) lo hi)))) (DqAll.ints ns) lo hi
    rw [cutX_map] at this
    exact this
  obtain ⟨v', hv, hr⟩ := itd_list (K := K) (te := tVar 0) (Γ := [.dat (.list ((cutX ns lo hi).map PyData.int))]) (evd_var rfl) M [some (.ref p)] _ (T'.mono (same_new hp)) (.cons d1 .nil) R fun J H2 e2 w => q J H2 ((same_new hp).trans e2) w
  have e : V.ref p = v' := by
    have : some (some (V.ref p)) = some (some v') := hv
    injection this with this
    injection this
  subst e
  exact hr
end
variable {P : Program} {w : World} {K : PySem.W.Frag} {mg : Str → Option Value} {base : Heap} {Tb : Tbl}
def spDeal (K : Fg) : Sp := fun vs H Q _ => ∃ (s : Addr) (ns : Tx), vs = [.ref s, .int 0] ∧ SqL K H s (ns.map V.int) ∧ ns.length ≤ 63 ∧ ∀ v H' (xs : Tx) (m : Int), Same H H' → xs.length ≤ 50 → Dq K H' v (.list [.list (xs.map PyData.int), .int m]) → Q v H'
theorem sc_law_deal : FnScope ["_law_script", "_law_base", "_law_cells", "_law_cell", "_law_blend"] ["_law_script", "_law_base"] (defScope s_law_deal) := ⟨rfl, rfl, rfl, by decide +kernel, rfl, by decide +kernel, by decide +kernel⟩
theorem cut50 (ns : Tx) : (cutX ns (some 0) (some 50)).length ≤ 50 := by
  unfold cutX
  rw [List.length_take]
  have : HT.sIx ns.length ns.length (some 50) ≤ 50 := by
    have := HT.sIx_nat ns.length ns.length 50
    rw [show (some 50 : Option Int) = some ((50 : Nat) : Int) from rfl, this]
    exact Nat.min_le_left _ _
  omega
theorem ok_law_deal {fd : FuncData} (Fu : FnP K "_law_deal" s_law_deal [] fd) (B : Bl mg) : FnOk P w K mg base (L2.CX P w) 1 (He.ga K "_law_deal") fd ["_law_script", "_law_base"] (spDeal K) := by
  refine wideF (Fu.ok sc_law_deal (fun vs H Q E h => ?_) (fun cdv A outer s H vs Q E hr h => ?_))
  · obtain ⟨_, _, rfl, _⟩ := h; rfl
  · have hp : PSs (cxOf CX0 P w K mg base ["_law_script", "_law_base", "_law_cells", "_law_cell", "_law_blend"] "_law_deal" (defScope s_law_deal) (He.ga K "_law_deal") cdv A outer s H E).nox (defBody s_law_deal) _ := (pss_cons (ps_setLc (own := [("_law_cell", 3)]) (i := 2) rfl sc_law_deal.nd rfl rfl (sw_true rfl rfl rfl (by decide +kernel)) (pi_seq (pe_slice (r := rSlU K) sl_U (pv 0) (po_some (pv 1)) (po_some pe_int))) (blkOk_by (N := ["_law_script", "_law_base", "_law_cells", "_law_cell", "_law_blend"]) (sc := defScope s_law_deal) (by decide +kernel)) (fun _ _ _ _ _ => (pg_name (i := 3) sc_law_deal.nd rfl (Or.inl rfl))) (fun _ _ _ _ _ => pts_nil) (fun _ _ _ _ _ => (pe_callB (id := "abs") (r := rAbs) call_absA rfl B.abs (by decide +kernel) (pa_cons (pe_callTy (T := "int") (r := rInt1) call_int1A rfl B.int (by decide +kernel) (pa_cons (pv 3) pa_nil)) pa_nil))))
      (pss_cons (ps_set (i := 4) sc_law_deal.nd rfl (Or.inl rfl) (pe_op (r := rAddU K) op_addU pe_int (pe_op (r := rMulU K) op_mulU pe_int (pv 1))))
      (pss_cons (ps_for PassesOwn.never rfl (pi_seq (pv 2)) (pg_name (i := 3) sc_law_deal.nd rfl (Or.inl rfl))
      (pss_one (ps_set (i := 4) sc_law_deal.nd rfl (Or.inl rfl) (pe_op op_mod (pe_callTy (T := "int") (r := rInt1) call_int1A rfl B.int (by decide +kernel) (pa_cons (pe_op (r := rAddU K) op_addU (pe_op (r := rAddU K) op_addU (pe_op (r := rMulU K) op_mulU (pv 4) pe_int) (pe_op op_mod (pe_callTy (T := "int") (r := rInt1) call_int1A rfl B.int (by decide +kernel) (pa_cons (pv 3) pa_nil)) pe_int)) pe_int) pa_nil)) pe_int))))
      (pss_one (ps_ret (pe_lst (pa_cons (pe_revU (pe_lc (own := [("_law_cell", 3)]) rfl sc_law_deal.nd (pi_seq (pv 2)) (blkOk_by (N := ["_law_script", "_law_base", "_law_cells", "_law_cell", "_law_blend"]) (sc := defScope s_law_deal) (by decide +kernel)) (fun _ _ _ _ _ => (pg_name (i := 3) sc_law_deal.nd rfl (Or.inl rfl))) (fun _ _ _ _ _ => (pts_one (pt_cmpR op_ge (pv 3) (pe_op op_pow pe_int pe_int) (nomark _)))) (fun _ _ _ _ _ => (pv 3)))) (pa_cons (pv 4) pa_nil))))))))
    refine ⟨_, hp.nox, ?_⟩
    obtain ⟨sa, ns, rfl, hS, hl, hq⟩ := h
    clear hp
    show tLc _ (gName 3) tYes _ [3] [some (.ref sa), some (.int 0), none, none, none] H (fun x H1 => tSeq _ _ _ ([some (.ref sa), some (.int 0), none, none, none].set 2 (some x)) H1)
    have hc : ∀ l : Tx, Cmp K (gName 3) tYes (tCB rAbs (tCons (tCB rInt1 (tCons (tVar 3) tNil)) tNil)) [3] [.ref sa, .dat (.int 0), .un, .un, .un] (l.map PyData.int) ((l.map fun i => (i.natAbs : Int)).map PyData.int) := by
      intro l
      induction l with
      | nil => exact .nil
      | cons i l ih => exact .yes gdw_name evt_yes (evd_cb (eva_cons (evd_cb (eva_cons (evd_var (i := 3) rfl) eva_nil) rint1) eva_nil) rabs) ih
    refine lc_at (Γ := [.ref sa, .dat (.int 0), .un, .un, .un]) (Trk.nil (H := H)) ?_ (fun M T' R q => it_slice (j := 0) (lo := some 0) (hi := some 50) rfl hS (fun Q q => ⟨.int 0, rfl, 0, rfl, q⟩) (fun Q q => ⟨50, rfl, q⟩) T' q) (hc _) (by rw [List.length_map]; have := cut50 ns; omega) fun v H1 e1 d1 => ?_
    · exact .cons rfl (.cons (.int 0) (.cons trivial (.cons trivial (.cons trivial .nil))))
    generalize hcs : (cutX ns (some 0) (some 50)).map (fun i => (i.natAbs : Int)) = cs at d1
    have hcl : cs.length ≤ 50 := by rw [← hcs, List.length_map]; exact cut50 ns
    have S1 : EnvD K (hide [] H1) ([some (.ref sa), some (.int 0), none, none, none].set 2 (some v)) [.ref sa, .dat (.int 0), .dat (.list (cs.map PyData.int)), .un, .un] := .cons rfl (.cons (.int 0) (.cons d1 (.cons trivial (.cons trivial .nil))))
    have loop : ∀ (l : Tx) (s3 : Sl) (m : Int), ∃ s3' m', Loop K E0 (gName 3) (tAsg (tOp (rI (fun _ j => 0 < j) fun i j => .int (i % j)) (tCB rInt1 (tCons (tOp (rAddU K) (tOp (rAddU K) (tOp (rMulU K) (tVar 4) (tC (.int 44491))) (tOp (rI (fun _ j => 0 < j) fun i j => .int (i % j)) (tCB rInt1 (tCons (tVar 3) tNil)) (tC (.int 2147483549)))) (tC (.int 61))) tNil)) (tC (.int 2147483647))) (gName 4)) (l.map PyData.int) [.ref sa, .dat (.int 0), .dat (.list (cs.map PyData.int)), s3, .dat (.int m)] (.nx [.ref sa, .dat (.int 0), .dat (.list (cs.map PyData.int)), s3', .dat (.int m')]) := by
      intro l
      induction l with
      | nil => exact fun s3 m => ⟨s3, m, .nil⟩
      | cons i l ih =>
        intro s3 m
        obtain ⟨s3', m', h⟩ := ih (.dat (.int i)) ((m * 44491 + i % 2147483549 + 61) % 2147483647)
        exact ⟨s3', m', .nx gd_name (run_asg (evd_op (evd_cb (eva_cons (evd_op (evd_op (evd_op (evd_var (i := 4) rfl) evd_int (rmul_int (j := 44491) (.inr ⟨by decide, by decide⟩))) (evd_op (evd_cb (eva_cons (evd_var (i := 3) rfl) eva_nil) rint1) evd_int (rop_I (by decide))) radd_int) evd_int radd_int) eva_nil) rint1) evd_int (rop_I (by decide))) gd_name) h⟩
    obtain ⟨s3', m', hloop⟩ := loop cs .un (51387193 + 71 * 0)
    have hf : ∀ l : Tx, Cmp K (gName 3) (tTest (tOp (rI0 fun i j => .bl (decide (j ≤ i))) (tVar 3) (tOp (rI CPow fun i j => .int (i ^ j.toNat)) (tC (.int 10)) (tC (.int 18))))) (tVar 3) [3] [.ref sa, .dat (.int 0), .dat (.list (cs.map PyData.int)), .un, .dat (.int m')] (l.map PyData.int) ((l.filter fun i => decide ((10 : Int) ^ (18 : Int).toNat ≤ i)).map PyData.int) := by
      intro l
      induction l with
      | nil => exact .nil
      | cons i l ih =>
        have ht : EvT K (tTest (tOp (rI0 fun i j => .bl (decide (j ≤ i))) (tVar 3) (tOp (rI CPow fun i j => .int (i ^ j.toNat)) (tC (.int 10)) (tC (.int 18))))) [.ref sa, .dat (.int 0), .dat (.list (cs.map PyData.int)), .dat (.int i), .dat (.int m')] (decide ((10 : Int) ^ (18 : Int).toNat ≤ i)) :=
          evt_test (evd_op (evd_var (i := 3) rfl) (evd_op evd_int evd_int (rop_I ⟨by decide, by decide, by decide⟩)) (rop_B0 (g := fun i j => decide (j ≤ i))))
        rw [List.map_cons, List.filter_cons]
        cases hp : decide ((10 : Int) ^ (18 : Int).toNat ≤ i) with
        | true => rw [hp] at ht; exact .yes gdw_name ht (evd_var (i := 3) rfl) ih
        | false => rw [hp] at ht; exact .no gdw_name ht ih
    have lenF := List.length_filter_le (fun i => decide ((10 : Int) ^ (18 : Int).toNat ≤ i)) cs
    refine (run_nx (o := .rt (.list [.list (((cs.filter fun i => decide ((10 : Int) ^ (18 : Int).toNat ≤ i)).map PyData.int).reverse), .int m'])) (run_asg (d := .int (51387193 + 71 * 0)) (evd_op evd_int (evd_op evd_int (evd_var (i := 1) rfl) (rmul_int (i := 71) (.inl ⟨by decide, by decide⟩))) radd_int) gd_name)
      (run_nx (run_for (itd_seqL (evd_var (i := 2) rfl)) hloop) (run_ret (evd_lst (eva_cons (evd_revL (evd_lc (itd_seqL (evd_var (i := 2) rfl)) (hf cs) (by rw [List.length_map]; omega))) (eva_cons (evd_var (i := 4) rfl) eva_nil)))))) [] _ H1 _ Trk.nil S1 ?_
    rw [← List.map_reverse]
    exact fun v' H' e' d' => hq v' H' (cs.filter fun i => decide ((10 : Int) ^ (18 : Int).toNat ≤ i)).reverse m' (e1.trans e') (by rw [List.length_reverse]; omega) (by rw [hide_nil] at d'; exact d')
end CB

/-! W27 -/
set_option Elab.async false
set_option linter.all false
set_option maxRecDepth 100000
set_option maxHeartbeats 4000000
namespace CB
open PySem PySem.Spec PyProof.Rows L2
variable {P : Program} {w : World} {K : PySem.W.Frag} {mg : Str → Option Value} {base : Heap} {Tb : Tbl}
def spLaw (K : Fg) (Tb : Tbl) : Sp := fun vs H Q _ => ∃ (s : Addr) (ns : Tx), vs = [.ref s] ∧ SqL K H s (ns.map V.int) ∧ ns.length ≤ 63 ∧ LamX.Tabs Tb H ∧ ∀ H', Q (.bl true) H'
theorem sc_law : FnScope ["_law_script", "_law_deal_here", "_law_told", "_law_turn", "_law_base", "_law_versions_here"] ["_law_script"] (defScope s_law) := ⟨rfl, rfl, rfl, by decide +kernel, rfl, by decide +kernel, by decide +kernel⟩
/-- the anchor: the base and its versions -/
def anB : Tx := [0, 1, 1]
def anV : List Tx := [[0, 1], [0, 1, 1, 1], [0, 1, 1]]
theorem an_paper : paperD anB anV = blockD [0] [1] [] 2 [1, 3, 2] := by kernel_rfl
theorem an_gv : Gv anB anV := ⟨tOk_iff.mp (by decide +kernel), by decide, by
  intro t ht
  have h : anV.all (fun t => (t.all fun x => decide (0 ≤ x) && decide (x < 100)) && decide (t.length ≤ 40)) = true := by decide +kernel
  have := List.all_eq_true.mp h t ht
  rw [Bool.and_eq_true, decide_eq_true_eq] at this
  refine ⟨tOk_iff.mp ?_, this.2⟩
  rw [isTextB_T]
  exact this.1, by decide, by decide⟩
theorem an_hands : F_hands_end [T anB, .list [T [0, 1], T [0]], T [1, 0]] (.ok .none) := ⟨T anB, .list [T [0, 1], T [0]], T [1, 0], rfl, by decide, ⟨by decide, fun es z e he => by
  injection z with z
  subst z
  rcases List.mem_cons.mp he with y | y
  · rw [y]; decide
  · rw [List.mem_singleton.mp y]; decide⟩, by decide, by kernel_rfl⟩
section
variable {Mx M0 : List Addr} {I : Hp → Prop} {E : XK} {B : Bs} {ms : Ms} {Γ : List Sl} {t u : TS} {te tf : TE} {Ψ : Out → Ms → Prop}
/-- if not e or not f: .., both hold -/
theorem runm_if2 (h1 : EvM K Mx M0 I te ms Γ (· = .bool true)) (h2 : EvM K Mx M0 I tf ms Γ (· = .bool true)) (h : RunM K Mx M0 I E u ms Γ Ψ) : RunM K Mx M0 I E (tIfS (tOr (tNot (tTest te)) (tNot (tTest tf))) t u) ms Γ Ψ := fun B wf σ H D S P =>
  h1 B wf σ H S _ fun v d H1 p S1 e1 d1 => by
    subst p
    refine ⟨true, d1.blI, ?_⟩
    refine h2 B wf σ H1 S1 _ fun v2 dd H2 p2 S2 e2 d2 => ?_
    subst p2
    exact ⟨true, d2.blI, h B wf σ H2 D S2 P⟩
end
theorem ok_law {fd : FuncData} (Fu : FnP K "law" s_law [] fd) (B : Bl mg) (maths : ∀ bt vt, Gv bt vt → Maths bt vt) (h_law_deal : HasF P w K mg base 1 "_law_deal" ["_law_script", "_law_base"] [] (spDeal K)) (h_law_draw : HasF P w K mg base 1 "_law_draw" ["_law_deal_here", "_law_bound"] [] (spW K Tb F_law_draw)) (h_law_errors : HasF P w K mg base 15 "_law_errors" ["_law_deal_here", "_law_base", "_law_versions_here"] [] (spW K Tb F_law_errors)) (h_law_right : HasFG P w K mg base 13 "_law_right" ["_law_deal_here", "_law_base", "_law_versions_here"] [] (spW K Tb F_law_right)) (h_law_versions : HasF P w K mg base 3 "_law_versions" ["_law_deal_here", "_law_letters"] [] (spW K Tb F_law_versions)) (h_hands_end : HasF P w K mg base 9 "hands_end" ["base", "versions", "order"] [] (spD K F_hands_end)) (h_orders_paper : HasF P w K mg base 11 "orders_paper" ["base", "versions"] [] (spD K F_orders_paper)) :
    FnOkG P w K mg base (L2.CX P w) 16 (He.ga K "law") fd ["_law_script"] (spLaw K Tb) := by
  refine wideFG (funD_okG Fu sc_law (fun vs H Q E h => ?_) (fun cdv A outer s H vs Q E hr hgd h => ?_))
  · obtain ⟨_, _, rfl, _⟩ := h; rfl
  · have hp : PSs (cxOf CX0 P w K mg base ["_law_script", "_law_deal_here", "_law_told", "_law_turn", "_law_base", "_law_versions_here"] "law" (defScope s_law) (He.ga K "law") cdv A outer s H E).nox (defBody s_law) _ := (pss_cons (ps_set (i := 1) sc_law.nd rfl (Or.inl rfl) (pe_f h_law_deal (hr.mono (by decide)) (pa_cons (pv 0) (pa_cons pe_int pa_nil))))
      (pss_cons (ps_set (i := 2) sc_law.nd rfl (Or.inl rfl) (pe_f h_orders_paper (hr.mono (by decide)) (pa_cons (pe_tup (pa_cons pe_int (pa_cons pe_int (pa_cons pe_int pa_nil)))) (pa_cons (pe_lst (pa_cons (pe_tup (pa_cons pe_int (pa_cons pe_int pa_nil))) (pa_cons (pe_tup (pa_cons pe_int (pa_cons pe_int (pa_cons pe_int (pa_cons pe_int pa_nil))))) (pa_cons (pe_tup (pa_cons pe_int (pa_cons pe_int (pa_cons pe_int pa_nil)))) pa_nil)))) pa_nil))))
      (pss_cons (ps_if (PW.pt (pw_or (pt_cmpR (r := rNeD K) (op_neD hr.units) (pv 2) (pe_tup (pa_cons pe_str (pa_cons (pe_tup (pa_cons pe_int pa_nil)) (pa_cons (pe_tup (pa_cons pe_int pa_nil)) (pa_cons (pe_tup pa_nil) (pa_cons pe_int (pa_cons (pe_tup (pa_cons pe_int (pa_cons pe_int (pa_cons pe_int pa_nil)))) pa_nil))))))) (nomark _)) (pw_or1 (pt_cmpR op_notNN (pe_f h_hands_end (hr.mono (by decide)) (pa_cons (pe_tup (pa_cons pe_int (pa_cons pe_int (pa_cons pe_int pa_nil)))) (pa_cons (pe_lst (pa_cons (pe_tup (pa_cons pe_int (pa_cons pe_int pa_nil))) (pa_cons (pe_tup (pa_cons pe_int pa_nil)) pa_nil))) (pa_cons (pe_tup (pa_cons pe_int (pa_cons pe_int pa_nil))) pa_nil)))) pe_non (nomark _))))) (pss_one (ps_ret pe_bl)) pss_nil)
      (pss_cons (ps_for PassesOwn.never rfl (pi_range1 rfl B.range (pa_cons pe_int pa_nil)) (pg_name (i := 3) sc_law.nd rfl (Or.inl rfl))
      (pss_cons (ps_asg (pe_f h_law_versions (hr.mono (by decide)) (pa_cons (pv 1) (pa_cons (pe_op (r := rAddU K) op_addU pe_int (pe_f h_law_draw (hr.mono (by decide)) (pa_cons (pv 1) (pa_cons pe_int pa_nil)))) pa_nil))) (pg_tup rfl (pgs_cons (pg_name (i := 4) sc_law.nd rfl (Or.inl rfl)) (pgs_cons (pg_name (i := 5) sc_law.nd rfl (Or.inl rfl)) pgs_nil))))
      (pss_one (ps_if (PW.pt (pw_or (pt_not (pt_val (pe_fG h_law_right hgd (hr.mono (by decide)) (pa_cons (pv 1) (pa_cons (pv 4) (pa_cons (pv 5) pa_nil)))))) (pw_or1 (pt_not (pt_val (pe_f h_law_errors (hr.mono (by decide)) (pa_cons (pv 1) (pa_cons (pv 4) (pa_cons (pv 5) pa_nil))))))))) (pss_one (ps_ret pe_bl)) pss_nil))))
      (pss_one (ps_ret pe_bl))))))
    refine ⟨_, hp.nox, ?_⟩
    obtain ⟨sa, ns, rfl, hS, hl, hT, hq⟩ := h
    clear hp
    refine ⟨.ref sa, rfl, sa, ns, rfl, hS, hl, fun v H1 xs m e1 hxs hv => ?_⟩
    obtain ⟨a, xa, rfl, ha, hda⟩ := Dq.lstS hv
    cases hda with
    | @cons v1 _ _ _ q1 hda =>
    cases hda with
    | @cons v2 _ _ _ q2 hda =>
    cases hda
    obtain ⟨b, xb, rfl, hb, hdb⟩ := Dq.lstS q1
    obtain rfl := q2.intI
    obtain rfl := DqAll.of_ints hdb
    have hab : a ≠ b := fun e => by
      subst e
      rw [ha] at hb
      injection hb with hb
      injection hb with hb
      cases xs with
      | nil => cases hb
      | cons x xs => injection hb with hb; cases hb
    have dl : Dl Tb a b H1 := ⟨⟨hab, xs, m, hxs, ha, hb⟩, hT.ext e1⟩
    have trk : Trk (Mv Tb a b) H1 := fun x hx => by
      rcases List.mem_cons.mp hx with y | y
      · subst y; exact ⟨_, ha, fun _ z => by cases z⟩
      · rcases List.mem_cons.mp y with y | y
        · subst y; exact ⟨_, hb, fun _ z => by cases z⟩
        · obtain ⟨p, hp, rfl⟩ := List.mem_map.mp y
          obtain ⟨ps, h5, _⟩ := dl.2 p hp
          exact ⟨_, h5, fun _ z => by cases z⟩
    show tSeq _ _ _ _ _
    have go : ∀ {t : TS} {D : Ends} {σ : L2.St}, RunM K (Mv Tb a b) (Mv Tb a b) (Dl Tb a b) E0 t [] [.un, .ref a, .un, .un, .un, .un] (fun o _ => o = .rt (.bool true)) → EnvD K (hide (Mv Tb a b) H1) σ [.un, .ref a, .un, .un, .un, .un] → (∀ H', D.rt (.bl true) H') → t D σ H1 := fun {t D σ} run env hD => by
      refine run [(H1, Mv Tb a b)] (wfW (H := H1) fun _ h => h) σ H1 D ⟨fun p hp => ?_, fun p hp m hm => (by cases hm), trk, fun _ h => (by cases h), List.nodup_nil, dl, env, fun _ h => (by cases h)⟩ ?_
      · rw [List.mem_singleton.mp hp]; exact Same.refl _
      · rintro o ms' rfl
        exact fun v H' _ _ _ d' => by
          have := d'.blI
          subst this
          exact hD H'
    refine go ?_ (.cons trivial (.cons rfl (.cons trivial (.cons trivial (.cons trivial (.cons trivial .nil)))))) hq
    -- the anchor
    have hT2 : ∀ {Γ : List Sl} (x y : Int), EvD K (tTup (tCons (tC (.int x)) (tCons (tC (.int y)) tNil))) Γ (T [x, y]) := fun x y => evd_tup (eva_cons evd_int (eva_cons evd_int eva_nil)) (by show 2 ≤ 100000; decide)
    have hT3 : ∀ {Γ : List Sl} (x y z : Int), EvD K (tTup (tCons (tC (.int x)) (tCons (tC (.int y)) (tCons (tC (.int z)) tNil)))) Γ (T [x, y, z]) := fun x y z => evd_tup (eva_cons evd_int (eva_cons evd_int (eva_cons evd_int eva_nil))) (by show 3 ≤ 100000; decide)
    have hT1 : ∀ {Γ : List Sl} (x : Int), EvD K (tTup (tCons (tC (.int x)) tNil)) Γ (T [x]) := fun x => evd_tup (eva_cons evd_int eva_nil) (by show 1 ≤ 100000; decide)
    have hT4 : ∀ {Γ : List Sl} (x y z u : Int), EvD K (tTup (tCons (tC (.int x)) (tCons (tC (.int y)) (tCons (tC (.int z)) (tCons (tC (.int u)) tNil))))) Γ (T [x, y, z, u]) := fun x y z u => evd_tup (eva_cons evd_int (eva_cons evd_int (eva_cons evd_int (eva_cons evd_int eva_nil)))) (by show 4 ≤ 100000; decide)
    have han := paper_fl (f := T) (fun t ht => tOk_iff.mpr ht) (fun t => lenD_T t) txOf_T an_gv (maths _ _ an_gv) (db := T anB) (d := .list (anV.map T)) (needT_T' an_gv.b) (txOf_T anB) (by decide) rfl
    rw [an_paper] at han
    refine runm_asgN (Φ := (· = blockD [0] [1] [] 2 [1, 3, 2])) (evm_of (evd_call0 (ds := [T anB, .list (anV.map T)]) (eva_cons (hT3 0 1 1) (eva_cons (evd_lst (eva_cons (hT2 0 1) (eva_cons (hT4 0 1 1 1) (eva_cons (hT3 0 1 1) eva_nil)))) eva_nil)) han)) fun d hd => ?_
    subst hd
    have hgb : gd 3 (blockD [0] [1] [] 2 [1, 3, 2]) = true := by decide +kernel
    refine runm_ifN (Thw.refl _) (b := false) (evt_is (evt_or (evt_test (evd_op (evd_var (i := 2) rfl) (evd_tup (ds := [.str "block", T [0], T [1], T [], .int 2, T [1, 3, 2]]) (eva_cons evd_str (eva_cons (hT1 0) (eva_cons (hT1 1) (eva_cons (evd_tup eva_nil) (eva_cons evd_int (eva_cons (hT3 1 3 2) eva_nil)))))) (by decide)) (rne (hu := 0) (gd_shaped hgb) (gd_shaped hgb))))
      fun _ => evt_test (evd_op (evd_call0 (ds := [T anB, .list [T [0, 1], T [0]], T [1, 0]]) (eva_cons (hT3 0 1 1) (eva_cons (evd_lst (eva_cons (hT2 0 1) (eva_cons (hT1 0) eva_nil))) (eva_cons (hT2 1 0) eva_nil))) an_hands) evd_non rnot_N)) (by decide +kernel)) (fun z => by cases z) fun _ => runm_skip ?_
    refine runm_seq (Ψ' := fun o ms' => (∃ Γ', o = .nx Γ') ∧ ms' = []) ?_ (fun Γ1 ms1 h => ?_) (fun o ms1 h hn => by
      obtain ⟨⟨_, h1⟩, _⟩ := h
      exact absurd h1 (hn _))
    · refine runm_for (R := fun es ms Γ => ms = [] ∧ ∃ s2 s3 s4 s5, Γ = [.un, .ref a, s2, s3, s4, s5]) (itd_rng1 (n := 2) (eva_cons evd_int eva_nil)) ⟨rfl, _, _, _, _, rfl⟩ ?_ ?_
      · rintro d es ms Γ ⟨rfl, s2, s3, s4, s5, rfl⟩
        refine ⟨_, gd_name, ?_⟩
        refine runm_asgT (Φ := gvD) (evm_callW (F := F_law_versions) (j := 1) rfl (evma_1 (evm_op (Φ' := fun d => ∃ n : Nat, d = .int n ∧ 1 ≤ n ∧ n ≤ 3) (evm_of (evd_int (i := 1))) (evm_draw (n := 3) (j := 1) rfl (evm_of evd_int)) fun x y hx hy => ?_)) fun ds ⟨d, hd, n, hn, h1, h2⟩ => ⟨n, by rw [hd, hn], h1, h2, rfl⟩) fun d ⟨bt, vt, hd, gv⟩ => ?_
        · obtain ⟨r, rfl, hr⟩ := hy
          subst hx
          exact ⟨.int ((1 + r : Nat) : Int), ⟨1 + r, rfl, by omega, by omega⟩, by
            have : ((1 + r : Nat) : Int) = 1 + (r : Int) := by omega
            rw [this]; exact radd_int⟩
        subst hd
        refine ⟨[.un, .ref a, s2, .dat d, .dat (T bt), .dat (lvD vt)], gd_tup (gds_cons gd_name (gds_cons gd_name gds_nil)), ?_⟩
        refine runm_if2 (evm_callW (F := F_law_right) (j := 1) rfl (evma_of (eva_cons (evd_var (i := 4) rfl) (eva_cons (evd_var (i := 5) rfl) eva_nil))) fun ds h => ⟨bt, vt, h, gv, maths _ _ gv, rfl⟩) (evm_callW (F := F_law_errors) (j := 1) rfl (evma_of (eva_cons (evd_var (i := 4) rfl) (eva_cons (evd_var (i := 5) rfl) eva_nil))) fun ds h => ⟨bt, vt, h, gv, rfl⟩) (runm_end run_next ⟨rfl, _, _, _, _, rfl⟩)
      · rintro ms Γ ⟨rfl, s2, s3, s4, s5, rfl⟩
        exact ⟨⟨_, rfl⟩, rfl⟩
    obtain ⟨⟨Γ', h1⟩, rfl⟩ := h
    cases h1
    exact runm_end (run_ret evd_bl) rfl
end CB

/-! M6 -/
set_option Elab.async false
set_option linter.all false
set_option maxRecDepth 100000
set_option maxHeartbeats 4000000
namespace CB
/-! ### words: powers, words that commute, primitive words -/
theorem rep_0 {t : Tx} : rep t 0 = [] := rfl
theorem rep_s {t : Tx} {n : Nat} : rep t (n + 1) = t ++ rep t n := by unfold rep; rw [List.replicate_succ, List.flatten_cons]
theorem rep_1 {t : Tx} : rep t 1 = t := by rw [rep_s, rep_0, List.append_nil]
theorem rep_add {t : Tx} {n : Nat} : ∀ {m : Nat}, rep t (m + n) = rep t m ++ rep t n
  | 0 => by rw [Nat.zero_add, rep_0, List.nil_append]
  | m + 1 => by rw [Nat.succ_add, rep_s, rep_s, rep_add (m := m), List.append_assoc]
theorem rep_s' {t : Tx} {n : Nat} : rep t (n + 1) = rep t n ++ t := by rw [rep_add, rep_1]
theorem rep_mul {t : Tx} {m : Nat} : ∀ {n : Nat}, rep (rep t m) n = rep t (m * n)
  | 0 => rfl
  | n + 1 => by rw [rep_s, rep_mul (n := n), Nat.mul_succ, Nat.add_comm, rep_add]
theorem rep_nil : ∀ {n : Nat}, rep [] n = []
  | 0 => rfl
  | n + 1 => by rw [rep_s, rep_nil (n := n)]; rfl
theorem repLen {t : Tx} : ∀ {n : Nat}, (rep t n).length = n * t.length
  | 0 => by rw [rep_0, Nat.zero_mul]; rfl
  | n + 1 => by rw [rep_s, List.length_append, repLen (n := n), Nat.succ_mul, Nat.add_comm]
/-- of two words that begin one, the shorter begins the longer -/
theorem app_split {a b c d : Tx} (h : a ++ b = c ++ d) (hl : a.length ≤ c.length) : ∃ e, c = a ++ e ∧ b = e ++ d := by
  have h1 := congrArg (List.take a.length) h
  rw [List.take_left, List.take_append_of_le_length hl] at h1
  refine ⟨c.drop a.length, ?_, ?_⟩
  · conv => lhs; rw [← List.take_append_drop a.length c, ← h1]
  · have h2 := congrArg (List.drop a.length) h
    rw [List.drop_left, List.drop_append_of_le_length hl] at h2
    exact h2
theorem comm_pow : ∀ (n : Nat) (x y : Tx), x.length + y.length ≤ n → x ++ y = y ++ x → ∃ z i j, x = rep z i ∧ y = rep z j
  | n, [], y, _, _ => ⟨y, 0, 1, rfl, rep_1.symm⟩
  | n, x, [], _, _ => ⟨x, 1, 0, rep_1.symm, rfl⟩
  | 0, _ :: _, _ :: _, h, _ => by rw [List.length_cons] at h; omega
  | n + 1, a :: x, b :: y, hn, h => by
    rw [List.length_cons, List.length_cons] at hn
    by_cases hl : (a :: x).length ≤ (b :: y).length
    · obtain ⟨e, h1, h2⟩ := app_split h hl
      have he := congrArg List.length h1
      rw [List.length_append, List.length_cons, List.length_cons] at he
      obtain ⟨z, i, j, q1, q2⟩ := comm_pow n (a :: x) e (by rw [List.length_cons]; omega) (h1.symm.trans h2)
      exact ⟨z, i, i + j, q1, by rw [h1, rep_add, ← q1, ← q2]⟩
    · obtain ⟨e, h1, h2⟩ := app_split h.symm (by omega)
      have he := congrArg List.length h1
      rw [List.length_append, List.length_cons, List.length_cons] at he
      obtain ⟨z, i, j, q1, q2⟩ := comm_pow n e (b :: y) (by rw [List.length_cons]; omega) (h2.symm.trans h1)
      exact ⟨z, j + i, j, by rw [h1, rep_add, ← q1, ← q2], q2⟩
theorem comm_pow' {x y : Tx} (h : x ++ y = y ++ x) : ∃ z i j, x = rep z i ∧ y = rep z j := comm_pow _ x y (Nat.le_refl _) h
/-- words that commute with one word commute -/
theorem centr : ∀ (n : Nat) (r s w : Tx), r.length + s.length ≤ n → w ≠ [] → r ++ w = w ++ r → s ++ w = w ++ s → r ++ s = s ++ r
  | n, [], s, _, _, _, _, _ => by rw [List.nil_append, List.append_nil]
  | n, r, [], _, _, _, _, _ => by rw [List.nil_append, List.append_nil]
  | 0, _ :: _, _ :: _, _, h, _, _, _ => by rw [List.length_cons] at h; omega
  | n + 1, a :: r, b :: s, w, hn, hw, h1, h2 => by
    rw [List.length_cons, List.length_cons] at hn
    have hwl : 1 ≤ w.length := List.length_pos_iff.mpr hw
    by_cases c1 : w.length ≤ (a :: r).length
    · obtain ⟨e, q1, q2⟩ := app_split h1.symm c1
      have he := congrArg List.length q1
      rw [List.length_append, List.length_cons] at he
      have ih := centr n e (b :: s) w (by rw [List.length_cons]; omega) hw (by rw [← q2, ← q1]) h2
      rw [q1, List.append_assoc, ih, ← List.append_assoc, ← h2, List.append_assoc]
    · by_cases c2 : w.length ≤ (b :: s).length
      · obtain ⟨e, q1, q2⟩ := app_split h2.symm c2
        have he := congrArg List.length q1
        rw [List.length_append, List.length_cons] at he
        have ih := centr n (a :: r) e w (by rw [List.length_cons]; omega) hw h1 (by rw [← q2, ← q1])
        rw [q1, List.append_assoc, ← ih, ← List.append_assoc, h1, List.append_assoc]
      · obtain ⟨u, q1, q2⟩ := app_split h1 (by omega)
        obtain ⟨v, p1, p2⟩ := app_split h2 (by omega)
        by_cases c3 : (a :: r).length ≤ (b :: s).length
        · obtain ⟨e, z1, z2⟩ := app_split (q1.symm.trans p1) c3
          have he := congrArg List.length z1
          rw [List.length_append, List.length_cons, List.length_cons] at he
          have hew : e ++ w = w ++ e := by
            have := h2
            rw [z1, List.append_assoc, ← List.append_assoc w, ← h1, List.append_assoc] at this
            exact List.append_cancel_left this
          have ih := centr n (a :: r) e w (by rw [List.length_cons]; omega) hw h1 hew
          rw [z1, List.append_assoc, ih]
        · obtain ⟨e, z1, z2⟩ := app_split (p1.symm.trans q1) (by omega)
          have he := congrArg List.length z1
          rw [List.length_append, List.length_cons, List.length_cons] at he
          have hew : e ++ w = w ++ e := by
            have := h1
            rw [z1, List.append_assoc, ← List.append_assoc w, ← h2, List.append_assoc] at this
            exact List.append_cancel_left this
          have ih := centr n e (b :: s) w (by rw [List.length_cons]; omega) hw hew h2
          rw [z1, List.append_assoc, ih]
/-- no power of another word -/
def Prim (r : Tx) : Prop := r ≠ [] ∧ ∀ z k, r = rep z k → k = 1
theorem prim_root : ∀ (n : Nat) (x : Tx), x.length ≤ n → x ≠ [] → ∃ r m, Prim r ∧ 1 ≤ m ∧ x = rep r m
  | 0, x, h, hx => absurd (List.length_eq_zero_iff.mp (by omega)) hx
  | n + 1, x, h, hx => by
    by_cases hp : ∀ z k, x = rep z k → k = 1
    · exact ⟨x, 1, ⟨hx, hp⟩, Nat.le_refl _, rep_1.symm⟩
    · obtain ⟨z, hp⟩ := Classical.not_forall.mp hp
      obtain ⟨k, hp⟩ := Classical.not_forall.mp hp
      obtain ⟨e, hk⟩ := Classical.not_imp.mp hp
      have hk0 : k ≠ 0 := fun q => hx (by rw [e, q]; rfl)
      have hz : z ≠ [] := fun q => hx (by rw [e, q, rep_nil])
      have hzl : 1 ≤ z.length := List.length_pos_iff.mpr hz
      have hl := congrArg List.length e
      rw [repLen] at hl
      have : 2 * z.length ≤ k * z.length := Nat.mul_le_mul_right _ (by omega)
      obtain ⟨r, m, q1, q2, q3⟩ := prim_root n z (by omega) hz
      exact ⟨r, m * k, q1, Nat.mul_pos q2 (by omega), by rw [e, q3, rep_mul]⟩
theorem rep_comm {r : Tx} {m : Nat} : r ++ rep r m = rep r m ++ r := by rw [← rep_s, rep_s']
theorem prim_uniq {r s : Tx} {m n : Nat} (hr : Prim r) (hs : Prim s) (hm : 1 ≤ m) (h : rep r m = rep s n) : r = s := by
  have hw : rep r m ≠ [] := fun q => by
    have := congrArg List.length q
    rw [repLen, List.length_nil] at this
    have h1 := List.length_pos_iff.mpr hr.1
    rcases Nat.mul_eq_zero.mp this with z | z <;> omega
  have hc := centr _ r s (rep r m) (Nat.le_refl _) hw rep_comm (by rw [h]; exact rep_comm)
  obtain ⟨z, i, j, q1, q2⟩ := comm_pow' hc
  have hi := hr.2 z i q1
  have hj := hs.2 z j q2
  subst hi hj
  rw [q1, q2]
end CB

/-! M7 -/
set_option Elab.async false
set_option linter.all false
set_option maxRecDepth 100000
set_option maxHeartbeats 4000000
namespace CB
theorem take_rep1 {r : Tx} {m : Nat} : (rep r (m + 1)).take r.length = r := by rw [rep_s, List.take_left]
theorem drop_rep1 {r : Tx} {m : Nat} : (rep r (m + 1)).drop r.length = rep r m := by rw [rep_s, List.drop_left]
theorem period : ∀ (k : Nat) (t : Tx) (s : Nat), t.length = k * s → t.drop s = t.take (t.length - s) → t = rep (t.take s) k
  | 0, t, s, h, _ => by
    rw [Nat.zero_mul] at h
    rw [List.length_eq_zero_iff.mp h]; rfl
  | k + 1, t, s, h, hp => by
    rw [Nat.succ_mul] at h
    have hl : (t.drop s).length = k * s := by rw [List.length_drop]; omega
    have h2 : (t.drop s).drop s = (t.drop s).take ((t.drop s).length - s) := by
      conv => lhs; rw [hp, List.drop_take]
      congr 1
      rw [List.length_drop]
    have ih := period k (t.drop s) s hl h2
    rw [rep_s]
    conv => lhs; rw [← List.take_append_drop s t]
    congr 1
    cases k with
    | zero =>
      rw [Nat.zero_mul] at hl
      rw [List.length_eq_zero_iff.mp hl]; rfl
    | succ k =>
      have e : (t.drop s).take s = t.take s := by
        rw [hp, List.take_take]
        congr 1
        rw [Nat.succ_mul] at h
        omega
      rw [e] at ih
      exact ih
def perT (t : Tx) (s : Nat) : Bool := decide (t.length % s = 0) && decide (t.drop s = t.take (t.length - s))
theorem perT_pow {t : Tx} {s : Nat} (hs : 1 ≤ s) (h : perT t s = true) : t = rep (t.take s) (t.length / s) := by
  unfold perT at h
  rw [Bool.and_eq_true, decide_eq_true_eq, decide_eq_true_eq] at h
  exact period _ t s (by have := Nat.div_add_mod t.length s; rw [h.1, Nat.add_zero, Nat.mul_comm] at this; exact this.symm) h.2
theorem root_le {r : Tx} {m s : Nat} (hr : Prim r) (hm : 1 ≤ m) (h1 : 1 ≤ s) (h2 : s ≤ (rep r m).length) (h : perT (rep r m) s = true) : r.length ≤ s := by
  have e := perT_pow h1 h
  have hzl : ((rep r m).take s).length = s := by rw [List.length_take]; omega
  have hz : (rep r m).take s ≠ [] := fun q => by rw [q, List.length_nil] at hzl; omega
  obtain ⟨r', m', q1, q2, q3⟩ := prim_root _ _ (Nat.le_refl _) hz
  have e2 : rep r m = rep r' (m' * ((rep r m).length / s)) := by
    conv => lhs; rw [e, q3, rep_mul]
  have e3 := prim_uniq hr q1 hm e2
  have := congrArg List.length q3
  rw [hzl, repLen, ← e3] at this
  rw [this]
  exact Nat.le_mul_of_pos_left _ q2
theorem root_rep {r : Tx} {m : Nat} (hr : Prim r) (hm : 1 ≤ m) : rootL (rep r m) = r.length := by
  have hrl := List.length_pos_iff.mpr hr.1
  unfold rootL
  show ((List.range' 1 ((rep r m).length - 1)).find? (perT (rep r m))).getD (rep r m).length = r.length
  by_cases h1 : m = 1
  · subst h1
    rw [rep_1]
    have : (List.range' 1 (r.length - 1)).find? (perT r) = none := by
      rw [List.find?_eq_none]
      intro s hs hp
      have := List.mem_range'_1.mp hs
      have h := root_le (m := 1) hr (Nat.le_refl _) this.1 (by rw [rep_1]; omega) (by rw [rep_1]; exact hp)
      omega
    rw [this]; rfl
  · obtain ⟨k, rfl⟩ : ∃ k, m = k + 2 := ⟨m - 2, by omega⟩
    have hlen : (rep r (k + 2)).length = (k + 2) * r.length := repLen
    have hlen2 : (k + 2) * r.length = (k + 1) * r.length + r.length := Nat.succ_mul _ _
    have hp : perT (rep r (k + 2)) r.length = true := by
      unfold perT
      rw [Bool.and_eq_true, decide_eq_true_eq, decide_eq_true_eq, hlen]
      refine ⟨Nat.mul_mod_left _ _, ?_⟩
      rw [drop_rep1, hlen2, Nat.add_sub_cancel, rep_s' (n := k + 1), ← repLen, List.take_left]
    have : (List.range' 1 ((rep r (k + 2)).length - 1)).find? (perT (rep r (k + 2))) = some r.length := by
      rw [List.find?_range'_eq_some]
      refine ⟨hp, List.mem_range'_1.mpr ⟨hrl, ?_⟩, fun j hj1 hj2 => ?_⟩
      · rw [hlen, hlen2, Nat.succ_mul]; omega
      · cases q : perT (rep r (k + 2)) j with
        | false => rfl
        | true =>
          have := root_le hr hm hj1 (by rw [hlen, hlen2]; omega) q
          omega
    rw [this]; rfl
theorem isRep_prim {b : Tx} (hb : b ≠ []) : isRep b = false ↔ Prim b := by
  have hbl := List.length_pos_iff.mpr hb
  unfold isRep
  rw [List.any_eq_false]
  constructor
  · intro h
    refine ⟨hb, fun z k e => ?_⟩
    have hk0 : k ≠ 0 := fun q => hb (by rw [e, q]; rfl)
    have hz : z ≠ [] := fun q => hb (by rw [e, q, rep_nil])
    have hzl := List.length_pos_iff.mpr hz
    have hl := congrArg List.length e
    rw [repLen] at hl
    by_cases hk : k = 1
    · exact hk
    · exfalso
      have h2 : 2 * z.length ≤ k * z.length := Nat.mul_le_mul_right _ (by omega)
      refine h z.length (List.mem_range'_1.mpr ⟨hzl, by omega⟩) ?_
      obtain ⟨j, rfl⟩ : ∃ j, k = j + 1 := ⟨k - 1, by omega⟩
      have e1 : b.take z.length = z := by rw [e, take_rep1]
      have e2 : b.length / z.length = j + 1 := by rw [hl]; exact Nat.mul_div_cancel _ hzl
      rw [decide_eq_true_eq, e1, e2]
      exact e
  · intro h s hs hd
    have hm := List.mem_range'_1.mp hs
    have e := of_decide_eq_true hd
    have h1 := h.2 _ _ e
    rw [h1, rep_1] at e
    have := congrArg List.length e
    rw [List.length_take] at this
    omega
/-- a word does not begin by another -/
def NoPre (r k : Tx) : Prop := ∀ z, k ≠ r ++ z
theorem noPre_take {r k : Tx} (h : NoPre r k) : ¬ k.take r.length = r := fun e => h (k.drop r.length) (by conv => lhs; rw [← List.take_append_drop r.length k, e])
theorem lead_rep {r k : Tx} (hr : r ≠ []) (h : NoPre r k) : ∀ n, lead (rep r n ++ k) r = n
  | 0 => by rw [rep_0, List.nil_append]; exact lead_no (noPre_take h)
  | n + 1 => by
    rw [rep_s, List.append_assoc, lead_yes hr (by rw [List.take_left]), List.drop_left, lead_rep hr h n]
theorem lead_split {r : Tx} (hr : r ≠ []) : ∀ (n : Nat) (t : Tx), t.length ≤ n → ∃ m k, t = rep r m ++ k ∧ NoPre r k
  | n, t, hn => by
    by_cases h : ∃ z, t = r ++ z
    · obtain ⟨z, rfl⟩ := h
      have hrl := List.length_pos_iff.mpr hr
      rw [List.length_append] at hn
      cases n with
      | zero => omega
      | succ n =>
        obtain ⟨m, k, e, q⟩ := lead_split hr n z (by omega)
        exact ⟨m + 1, k, by rw [e, rep_s, List.append_assoc], q⟩
    · exact ⟨0, t, rfl, fun z e => h ⟨z, e⟩⟩
/-! ### the form front, so many blocks, back -/
def tx (f r k : Tx) (n : Nat) : Tx := f ++ (rep r n ++ k)
structure NF (f r k : Tx) : Prop where
  prim : Prim r
  red : f ≠ [] → f.getLast? ≠ r.getLast?
  nk : NoPre r k
theorem tx_len {f r k : Tx} {n : Nat} : (tx f r k n).length = f.length + (n * r.length + k.length) := by
  unfold tx
  rw [List.length_append, List.length_append, repLen]
theorem tx_inj {f r k : Tx} (h : NF f r k) {m n : Nat} (e : tx f r k m = tx f r k n) : m = n := by
  have e2 := List.append_cancel_left e
  have := congrArg (fun t => lead t r) e2
  simp only [lead_rep h.prim.1 h.nk] at this
  exact this
theorem tx_lt {f r k : Tx} (h : NF f r k) {m n : Nat} : (tx f r k m).length < (tx f r k n).length ↔ m < n := by
  have hr := List.length_pos_iff.mpr h.prim.1
  rw [tx_len, tx_len]
  constructor
  · intro q
    apply Nat.lt_of_not_le
    intro hle
    have := Nat.mul_le_mul_right r.length hle
    omega
  · intro q
    have := Nat.mul_lt_mul_of_pos_right q hr
    omega
end CB

/-! M8 -/
set_option Elab.async false
set_option linter.all false
set_option maxRecDepth 100000
set_option maxHeartbeats 4000000
namespace CB
theorem nil_or_snoc (l : Tx) : l = [] ∨ ∃ b x, l = b ++ [x] := (List.eq_nil_or_concat l).imp id fun ⟨b, x, h⟩ => ⟨b, x, by rw [h, List.concat_eq_append]⟩
/-- one of them is empty, or they end unlike -/
def Red (a b : Tx) : Prop := a ≠ [] → b ≠ [] → a.getLast? ≠ b.getLast?
theorem Red.symm {a b : Tx} (h : Red a b) : Red b a := fun h1 h2 e => h h2 h1 e.symm
theorem last_app {a b : Tx} (h : b ≠ []) : (a ++ b).getLast? = b.getLast? := by
  rcases nil_or_snoc b with rfl | ⟨b', x, rfl⟩
  · exact absurd rfl h
  · rw [← List.append_assoc, List.getLast?_concat, List.getLast?_concat]
theorem last_rep {r : Tx} {n : Nat} (h : r ≠ []) : (rep r (n + 1)).getLast? = r.getLast? := by rw [rep_s', last_app h]
theorem lcs_app {x y s : Tx} (h : Red x y) : lcs (x ++ s) (y ++ s) = s.length := by
  have h1 : s.length ≤ lcs (x ++ s) (y ++ s) := lcs_iff.mpr ⟨by rw [List.length_append]; omega, by rw [List.length_append]; omega, by
    rw [List.length_append, List.length_append, Nat.add_sub_cancel, Nat.add_sub_cancel, List.drop_left, List.drop_left]⟩
  apply Nat.le_antisymm _ h1
  apply Nat.le_of_lt_succ
  apply Nat.lt_of_not_le
  intro h2
  obtain ⟨q1, q2, q3⟩ := lcs_iff.mp h2
  rcases nil_or_snoc x with rfl | ⟨x', a, rfl⟩
  · rw [List.nil_append] at q1; omega
  · rcases nil_or_snoc y with rfl | ⟨y', b, rfl⟩
    · rw [List.nil_append] at q2; omega
    · have e1 : (x' ++ [a] ++ s).length - (s.length + 1) = x'.length := by simp
      have e2 : (y' ++ [b] ++ s).length - (s.length + 1) = y'.length := by simp
      rw [e1, e2, List.append_assoc, List.append_assoc, List.drop_left, List.drop_left] at q3
      injection q3 with q3 _
      refine h (by simp) (by simp) ?_
      rw [List.getLast?_concat, List.getLast?_concat, q3]
theorem split_red : ∀ (n : Nat) (b v : Tx), b.length ≤ n → ∃ x y s, b = x ++ s ∧ v = y ++ s ∧ Red x y
  | n, b, v, hn => by
    rcases nil_or_snoc b with rfl | ⟨b', x, rfl⟩
    · exact ⟨[], v, [], rfl, by rw [List.append_nil], fun h _ => absurd rfl h⟩
    · rcases nil_or_snoc v with rfl | ⟨v', y, rfl⟩
      · exact ⟨b' ++ [x], [], [], by rw [List.append_nil], rfl, fun _ h => absurd rfl h⟩
      · by_cases e : x = y
        · subst e
          cases n with
          | zero => rw [List.length_append] at hn; simp at hn
          | succ n =>
            obtain ⟨p, q, s, e1, e2, e3⟩ := split_red n b' v' (by rw [List.length_append, List.length_singleton] at hn; omega)
            exact ⟨p, q, s ++ [x], by rw [e1, List.append_assoc], by rw [e2, List.append_assoc], e3⟩
        · refine ⟨b' ++ [x], v' ++ [y], [], by rw [List.append_nil], by rw [List.append_nil], fun _ _ h => ?_⟩
          rw [List.getLast?_concat, List.getLast?_concat] at h
          exact e (Option.some.inj h)
/-- what a merge does: the changed beginning is exchanged -/
theorem merge_app {x y s z : Tx} (h : Red x y) : merge (x ++ s) (y ++ s) (x ++ z) = some (y ++ z) := by
  unfold merge
  rw [lcs_app h, List.length_append, Nat.add_sub_cancel, List.length_append, Nat.add_sub_cancel]
  have : x.length ≤ lcp (x ++ s) (x ++ z) := lcp_iff.mpr ⟨by rw [List.length_append]; omega, by rw [List.length_append]; omega, by rw [List.take_left, List.take_left]⟩
  rw [if_neg (by omega), List.take_left, List.drop_left]
theorem merge_none {x y s t : Tx} (h : Red x y) (hn : NoPre x t) : merge (x ++ s) (y ++ s) t = none := by
  unfold merge
  rw [lcs_app h, List.length_append, Nat.add_sub_cancel]
  rw [if_pos]
  apply Nat.lt_of_not_le
  intro q
  obtain ⟨_, _, q3⟩ := lcp_iff.mp q
  rw [List.take_left] at q3
  exact noPre_take hn q3.symm
/-- the changed beginnings of a form's texts -/
theorem red_tx {f r k : Tx} (h : NF f r k) {d : Nat} : Red f (f ++ rep r (d + 1)) := fun h1 h2 e => by
  have hr : rep r (d + 1) ≠ [] := fun z => h.prim.1 (by
    rw [rep_s] at z
    exact (List.append_eq_nil_iff.mp z).1)
  rw [last_app hr, last_rep h.prim.1] at e
  exact h.red h1 e
theorem tx_add {f r k : Tx} {d n : Nat} : tx f r k (d + n) = f ++ rep r d ++ (rep r n ++ k) := by
  unfold tx
  rw [rep_add, List.append_assoc, List.append_assoc]
/-- merges of a form's texts -/
theorem merge_tx {f r k : Tx} (h : NF f r k) {p q s : Nat} : merge (tx f r k p) (tx f r k q) (tx f r k s) = if p ≤ s + q then some (tx f r k (s + q - p)) else none := by
  rcases Nat.lt_trichotomy p q with hl | rfl | hl
  · obtain ⟨d, rfl⟩ : ∃ d, q = (d + 1) + p := ⟨q - p - 1, by omega⟩
    rw [if_pos (by omega), tx_add (d := d + 1) (n := p)]
    have := merge_app (s := rep r p ++ k) (z := rep r s ++ k) (red_tx h (d := d))
    have e : s + (d + 1 + p) - p = (d + 1) + s := by omega
    rw [e, tx_add (d := d + 1) (n := s)]
    exact this
  · rw [if_pos (by omega), Nat.add_sub_cancel]
    have := merge_app (x := []) (y := []) (s := tx f r k p) (z := tx f r k s) (fun h => absurd rfl h)
    simpa using this
  · obtain ⟨d, rfl⟩ : ∃ d, p = (d + 1) + q := ⟨p - q - 1, by omega⟩
    rw [tx_add (d := d + 1) (n := q)]
    by_cases hs : d + 1 + q ≤ s + q
    · obtain ⟨e, rfl⟩ : ∃ e, s = (d + 1) + e := ⟨s - (d + 1), by omega⟩
      rw [if_pos hs, tx_add (d := d + 1) (n := e)]
      have := merge_app (s := rep r q ++ k) (z := rep r e ++ k) (red_tx h (d := d)).symm
      have e2 : d + 1 + e + q - (d + 1 + q) = e := by omega
      rw [e2]
      exact this
    · rw [if_neg hs]
      refine merge_none (y := f) (s := rep r q ++ k) (red_tx h (d := d)).symm fun z e => ?_
      obtain ⟨c, hc⟩ : ∃ c, d + 1 = s + (c + 1) := ⟨d - s, by omega⟩
      unfold tx at e
      rw [hc, rep_add, rep_s, List.append_assoc, List.append_assoc, List.append_assoc] at e
      have e2 := List.append_cancel_left (List.append_cancel_left e)
      exact h.nk _ e2
/-! ### block_form -/
theorem formLG_nf {f r k : Tx} (h : NF f r k) {p q : Nat} (hpq : p < q) : formLG (tx f r k p) (tx f r k q) = some ⟨f, r, k, p, q⟩ := by
  obtain ⟨d, rfl⟩ : ∃ d, q = (d + 1) + p := ⟨q - p - 1, by omega⟩
  have hr := List.length_pos_iff.mpr h.prim.1
  have e1 : lcs (tx f r k p) (tx f r k (d + 1 + p)) = (rep r p ++ k).length := by
    rw [tx_add]
    exact lcs_app (red_tx h)
  have e2 : (tx f r k p).length - lcs (tx f r k p) (tx f r k (d + 1 + p)) = f.length := by
    rw [e1]
    unfold tx
    rw [List.length_append, Nat.add_sub_cancel]
  have e3 : (tx f r k (d + 1 + p)).length - (tx f r k p).length = (rep r (d + 1)).length := by
    rw [tx_add]
    unfold tx
    simp only [List.length_append]
    omega
  unfold formLG
  simp only [e2, e3]
  have t1 : (tx f r k p).take f.length = f := by unfold tx; rw [List.take_left]
  have t2 : (tx f r k (d + 1 + p)).take f.length = f := by unfold tx; rw [List.take_left]
  have t3 : (tx f r k p).drop f.length = rep r p ++ k := by unfold tx; rw [List.drop_left]
  have t4 : (tx f r k (d + 1 + p)).drop f.length = rep r (d + 1) ++ (rep r p ++ k) := by rw [tx_add, List.append_assoc, List.drop_left]
  rw [t1, t2, if_pos rfl, t3, t4, List.take_left, root_rep h.prim (by omega), take_rep1, lead_rep h.prim.1 h.nk]
  have t5 : (rep r p ++ k).drop (p * r.length) = k := by rw [← repLen, List.drop_left]
  have t6 : (rep r (d + 1)).length / r.length = d + 1 := by rw [repLen]; exact Nat.mul_div_cancel _ hr
  rw [t5, t6, Nat.add_comm p]
theorem formLG_some {l g : Tx} {fo : Form} (hl : l.length < g.length) (h : formLG l g = some fo) : NF fo.front fo.block fo.back ∧ l = tx fo.front fo.block fo.back fo.times ∧ g = tx fo.front fo.block fo.back fo.others ∧ fo.times < fo.others := by
  obtain ⟨x, y, s, rfl, rfl, hr⟩ := split_red _ l g (Nat.le_refl _)
  rw [List.length_append, List.length_append] at hl
  have e2 : (x ++ s).length - lcs (x ++ s) (y ++ s) = x.length := by rw [lcs_app hr, List.length_append, Nat.add_sub_cancel]
  have hx : y.take x.length = x := by
    have h' := h
    unfold formLG at h'
    simp only [e2] at h'
    split at h'
    · rename_i q
      rw [List.take_left, List.take_append_of_le_length (by omega)] at q
      exact q
    · cases h'
  obtain ⟨a, ha⟩ : ∃ a, y = x ++ a := ⟨y.drop x.length, by conv => lhs; rw [← List.take_append_drop x.length y, hx]⟩
  subst ha
  rw [List.length_append] at hl
  have ha : a ≠ [] := fun z => by rw [z, List.length_nil] at hl; omega
  obtain ⟨r, m, hp, hm, rfl⟩ := prim_root _ a (Nat.le_refl _) ha
  obtain ⟨t, k, rfl, hk⟩ := lead_split hp.1 _ s (Nat.le_refl _)
  obtain ⟨m, rfl⟩ : ∃ j, m = j + 1 := ⟨m - 1, by omega⟩
  have nf : NF x r k := ⟨hp, fun hx0 e => hr hx0 (fun z => ha (List.append_eq_nil_iff.mp z).2) (by rw [last_app ha, last_rep hp.1]; exact e), hk⟩
  have eg : x ++ rep r (m + 1) ++ (rep r t ++ k) = tx x r k (m + 1 + t) := tx_add.symm
  rw [eg] at h ⊢
  have h2 := formLG_nf nf (p := t) (q := m + 1 + t) (by omega)
  have e : formLG (tx x r k t) (tx x r k (m + 1 + t)) = some fo := h
  rw [h2] at e
  injection e with e
  subst e
  exact ⟨nf, rfl, rfl, by show t < m + 1 + t; omega⟩
end CB

/-! M9 -/
set_option Elab.async false
set_option linter.all false
set_option maxRecDepth 100000
set_option maxHeartbeats 4000000
namespace CB
/-! ### the law's forms are the form -/
theorem getD_snoc {b c : Tx} {x : Int} : (b ++ [x] ++ c).getD b.length 0 = x := by
  rw [List.append_assoc, List.getD_eq_getElem?_getD, List.getElem?_append_right (Nat.le_refl _), Nat.sub_self]; rfl
theorem formAt_some {l g : Tx} {ah sz : Nat} {fo : Form} (h0 : ah ≤ l.length) (hc : l.take ah = g.take ah) (h1 : 1 ≤ sz) (h2 : sz ≤ g.length - ah) (h : formAt l g ah sz = some fo) :
    NF fo.front fo.block fo.back ∧ l = tx fo.front fo.block fo.back fo.times ∧ g = tx fo.front fo.block fo.back fo.others ∧ fo.times ≠ fo.others ∧ fo.front.length = ah ∧ fo.block.length = sz := by
  have hbl : (blkAt g ah sz).length = sz := by unfold blkAt; rw [List.length_take, List.length_drop]; omega
  have hb : blkAt g ah sz ≠ [] := fun z => by rw [z, List.length_nil] at hbl; omega
  unfold formAt at h
  generalize blkAt g ah sz = r at hbl hb h
  obtain ⟨m, k, e1, n1⟩ := lead_split hb _ (l.drop ah) (Nat.le_refl _)
  obtain ⟨m', k', e2, n2⟩ := lead_split hb _ (g.drop ah) (Nat.le_refl _)
  have l1 : lead (l.drop ah) r = m := by rw [e1, lead_rep hb n1]
  have l2 : lead (g.drop ah) r = m' := by rw [e2, lead_rep hb n2]
  have d1 : l.drop (ah + sz * m) = k := by rw [← List.drop_drop, e1, ← hbl, Nat.mul_comm, ← repLen, List.drop_left]
  have d2 : g.drop (ah + sz * m') = k' := by rw [← List.drop_drop, e2, ← hbl, Nat.mul_comm, ← repLen, List.drop_left]
  rw [l1, l2, d1, d2] at h
  split at h
  · cases h
  · rename_i hn
    simp only [Bool.or_eq_true, decide_eq_true_eq, Bool.not_eq_true', decide_eq_false_iff_not, not_or, Bool.not_eq_true] at hn
    obtain ⟨q1, q2, q3⟩ := hn
    have q2 := Classical.not_not.mp q2
    subst q2
    split at h
    · cases h
    · rename_i hr
      injection h with h
      subst h
      have hfl : (l.take ah).length = ah := by rw [List.length_take]; omega
      refine ⟨⟨(isRep_prim hb).mp q3, fun hf e => ?_, n1⟩, ?_, ?_, q1, hfl, hbl⟩
      · rcases nil_or_snoc (l.take ah) with z | ⟨f', x, hf'⟩
        · exact hf z
        · rcases nil_or_snoc r with z | ⟨r', y, hr'⟩
          · exact hb z
          · have e : (l.take ah).getLast? = r.getLast? := e
            rw [hf', hr', List.getLast?_concat, List.getLast?_concat] at e
            have e := Option.some.inj e
            subst e
            refine hr ?_
            have hf'l : f'.length = ah - 1 := by
              have := congrArg List.length hf'
              rw [hfl, List.length_append, List.length_singleton] at this
              omega
            have hr'l : r'.length = sz - 1 := by
              have := congrArg List.length hr'
              rw [hbl, List.length_append, List.length_singleton] at this
              omega
            rw [Bool.and_eq_true, decide_eq_true_eq, decide_eq_true_eq]
            refine ⟨?_, ?_⟩
            · have := congrArg List.length hf'
              rw [hfl, List.length_append, List.length_singleton] at this
              omega
            · have g1 : l.getD (ah - 1) 0 = x := by
                rw [← List.take_append_drop ah l, hf', ← hf'l]
                exact getD_snoc
              have g2 : r.getD (sz - 1) 0 = x := by
                rw [hr', ← hr'l]
                have := getD_snoc (b := r') (x := x) (c := [])
                rw [List.append_nil] at this
                exact this
              rw [g1, g2]
      · show l = l.take ah ++ (rep r m ++ k')
        rw [← e1, List.take_append_drop]
      · show g = l.take ah ++ (rep r m' ++ k')
        rw [hc, ← e2, List.take_append_drop]
theorem formAt_nf {f r k : Tx} (h : NF f r k) {p q : Nat} (hpq : p ≠ q) (hq : 1 ≤ q) : formAt (tx f r k p) (tx f r k q) f.length r.length = some ⟨f, r, k, p, q⟩ := by
  have hb : blkAt (tx f r k q) f.length r.length = r := by
    obtain ⟨j, rfl⟩ : ∃ j, q = j + 1 := ⟨q - 1, by omega⟩
    unfold blkAt tx
    rw [List.drop_left, rep_s, List.append_assoc, List.take_left]
  have t0 : ∀ n, (tx f r k n).drop f.length = rep r n ++ k := fun n => by unfold tx; rw [List.drop_left]
  have t1 : ∀ n, (tx f r k n).drop (f.length + r.length * n) = k := fun n => by rw [← List.drop_drop, t0, Nat.mul_comm, ← repLen, List.drop_left]
  unfold formAt
  rw [hb, t0, t0, lead_rep h.prim.1 h.nk, lead_rep h.prim.1 h.nk, t1, t1, (isRep_prim h.prim.1).mpr h.prim]
  rw [if_neg (by simp [hpq])]
  have t2 : (tx f r k p).take f.length = f := by unfold tx; rw [List.take_left]
  rw [if_neg, t2]
  rw [Bool.and_eq_true, decide_eq_true_eq, decide_eq_true_eq]
  rintro ⟨h1, h2⟩
  rcases nil_or_snoc f with rfl | ⟨f', x, rfl⟩
  · simp at h1
  · rcases nil_or_snoc r with rfl | ⟨r', y, rfl⟩
    · exact h.prim.1 rfl
    · have g1 : (tx (f' ++ [x]) (r' ++ [y]) k p).getD ((f' ++ [x]).length - 1) 0 = x := by
        have : (f' ++ [x]).length - 1 = f'.length := by simp
        rw [this]
        exact getD_snoc
      have g2 : (r' ++ [y]).getD ((r' ++ [y]).length - 1) 0 = y := by
        have e : (r' ++ [y]).length - 1 = r'.length := by simp
        have := getD_snoc (b := r') (x := y) (c := [])
        rw [e]
        rw [List.append_nil] at this
        exact this
      rw [g1, g2] at h2
      refine h.red (by simp) ?_
      rw [List.getLast?_concat, List.getLast?_concat, h2]
theorem filterMap_uniq {α β : Type} {f : α → Option β} {a : α} {b : β} : ∀ {L : List α}, L.Nodup → a ∈ L → f a = some b → (∀ x ∈ L, x ≠ a → f x = none) → L.filterMap f = [b]
  | [], _, h, _, _ => by cases h
  | x :: L, hn, hm, hf, ho => by
    obtain ⟨n1, n2⟩ := List.nodup_cons.mp hn
    by_cases e : x = a
    · subst e
      rw [List.filterMap_cons, hf]
      have : L.filterMap f = [] := by
        rw [List.filterMap_eq_nil_iff]
        intro y hy
        exact ho y (List.mem_cons_of_mem _ hy) (fun z => n1 (z ▸ hy))
      rw [this]
    · rw [List.filterMap_cons, ho x List.mem_cons_self e]
      rcases List.mem_cons.mp hm with z | z
      · exact absurd z.symm e
      · exact filterMap_uniq n2 z hf fun y hy => ho y (List.mem_cons_of_mem _ hy)
def inAt (l g : Tx) (a : Nat) : List Form := (List.range' 1 (g.length - a)).filterMap (formAt l g a)
theorem ahGo_nil {l g : Tx} : ∀ {as : List Nat}, (∀ a ∈ as, l.take a = g.take a → inAt l g a = []) → ahGo l g as = []
  | [], _ => rfl
  | a :: as, h => by
    unfold ahGo
    by_cases e : l.take a = g.take a
    · rw [if_pos e, ahGo_nil fun x hx => h x (List.mem_cons_of_mem _ hx)]
      have := h a List.mem_cons_self e
      unfold inAt at this
      rw [this]; rfl
    · rw [if_neg e]
theorem ahGo_one {l g : Tx} {a0 : Nat} {b : Form} : ∀ (n s : Nat), s ≤ a0 → a0 < s + n → (∀ a, a ≤ a0 → l.take a = g.take a) → inAt l g a0 = [b] → (∀ a, a < s + n → l.take a = g.take a → a ≠ a0 → inAt l g a = []) → ahGo l g (List.range' s n) = [b]
  | 0, s, h1, h2, _, _, _ => by omega
  | n + 1, s, h1, h2, h3, h4, h5 => by
    rw [List.range'_succ]
    unfold ahGo
    rw [if_pos (h3 s h1)]
    by_cases e : s = a0
    · subst e
      have := h4
      unfold inAt at this
      rw [this, ahGo_nil fun a ha hq => ?_]
      · rfl
      · have := List.mem_range'_1.mp ha
        exact h5 a (by omega) hq (by omega)
    · have := h5 s (by omega) (h3 s h1) e
      unfold inAt at this
      rw [this, List.nil_append]
      exact ahGo_one n (s + 1) (by omega) (by omega) h3 h4 fun a ha => h5 a (by omega)
/-- nothing is found where there is no form -/
theorem lawForms_none {l g : Tx} (h : ∀ f r k p q, NF f r k → l = tx f r k p → g = tx f r k q → p = q) : lawForms l g = [] := by
  unfold lawForms
  refine ahGo_nil fun a ha hq => ?_
  have ha := List.mem_range.mp ha
  unfold inAt
  rw [List.filterMap_eq_nil_iff]
  intro sz hsz
  have hsz := List.mem_range'_1.mp hsz
  cases e : formAt l g a sz with
  | none => rfl
  | some fo =>
    obtain ⟨n1, n2, n3, n4, _⟩ := formAt_some (by omega) hq hsz.1 (by omega) e
    exact absurd (h _ _ _ _ _ n1 n2 n3) n4
theorem lawForms_nf {f r k : Tx} (h : NF f r k) {p q : Nat} (hpq : p < q) : lawForms (tx f r k p) (tx f r k q) = [⟨f, r, k, p, q⟩] := by
  have hr := List.length_pos_iff.mpr h.prim.1
  have uniq : ∀ a sz fo, a ≤ (tx f r k p).length → (tx f r k p).take a = (tx f r k q).take a → 1 ≤ sz → sz ≤ (tx f r k q).length - a → formAt (tx f r k p) (tx f r k q) a sz = some fo → a = f.length ∧ sz = r.length := by
    intro a sz fo h1 h2 h3 h4 h5
    obtain ⟨n1, n2, n3, n4, n5, n6⟩ := formAt_some h1 h2 h3 h4 h5
    have hlt : fo.times < fo.others := by
      have := (tx_lt h).mpr hpq
      rw [n2, n3] at this
      exact (tx_lt n1).mp this
    have e := formLG_nf n1 hlt
    rw [← n2, ← n3, formLG_nf h hpq] at e
    injection e with e
    injection e with e1 e2 _ _ _
    rw [← n5, ← n6, ← e1, ← e2]
    exact ⟨rfl, rfl⟩
  have hlq : f.length + r.length ≤ (tx f r k q).length := by
    rw [tx_len]
    have : 1 * r.length ≤ q * r.length := Nat.mul_le_mul_right _ (by omega)
    omega
  have hlp : f.length ≤ (tx f r k p).length := by rw [tx_len]; omega
  unfold lawForms
  rw [List.range_eq_range']
  refine ahGo_one (a0 := f.length) _ 0 (Nat.zero_le _) (by omega) (fun a ha => ?_) ?_ (fun a ha hq hne => ?_)
  · unfold tx
    rw [List.take_append_of_le_length ha, List.take_append_of_le_length ha]
  · unfold inAt
    refine filterMap_uniq (a := r.length) (List.nodup_range' ..) (List.mem_range'_1.mpr ⟨hr, by omega⟩) (formAt_nf h (by omega) (by omega)) fun x hx hne => ?_
    have hx := List.mem_range'_1.mp hx
    cases e : formAt (tx f r k p) (tx f r k q) f.length x with
    | none => rfl
    | some fo => exact absurd (uniq _ _ _ hlp (by unfold tx; rw [List.take_left, List.take_left]) hx.1 (by omega) e).2 hne
  · unfold inAt
    rw [List.filterMap_eq_nil_iff]
    intro sz hsz
    have hsz := List.mem_range'_1.mp hsz
    cases e : formAt (tx f r k p) (tx f r k q) a sz with
    | none => rfl
    | some fo => exact absurd (uniq _ _ _ (by omega) hq hsz.1 (by omega) e).1 hne
theorem lawForms_LG {l g : Tx} (hl : l.length < g.length) : lawForms l g = match formLG l g with
    | some fo => [fo]
    | none => [] := by
  cases e : formLG l g with
  | some fo =>
    obtain ⟨n1, n2, n3, n4⟩ := formLG_some hl e
    have := lawForms_nf n1 n4
    rw [← n2, ← n3] at this
    exact this
  | none =>
    refine lawForms_none fun f r k p q nf e1 e2 => ?_
    have hlt : p < q := by
      rw [e1, e2] at hl
      exact (tx_lt nf).mp hl
    rw [e1, e2, formLG_nf nf hlt] at e
    cases e
theorem lawF_eq (a b : Tx) : lawF a b = blockForm a b := by
  unfold lawF blockForm lawFsw
  rcases Nat.lt_trichotomy a.length b.length with hl | hl | hl
  · rw [if_neg (by omega), if_neg (by omega), if_pos hl, lawForms_LG hl]
    cases formLG a b with
    | none => rfl
    | some fo => simp
  · rw [if_neg (by omega), if_pos hl, lawForms_none fun f r k p q nf e1 e2 => ?_]
    rcases Nat.lt_trichotomy p q with h | h | h
    · have := (tx_lt nf).mpr h
      rw [← e1, ← e2] at this
      omega
    · exact h
    · have := (tx_lt nf).mpr h
      rw [← e1, ← e2] at this
      omega
  · rw [if_pos hl, if_neg (by omega), if_neg (by omega), lawForms_LG hl]
    cases formLG b a with
    | none => rfl
    | some fo =>
      have : b ≠ a := fun z => by rw [z] at hl; omega
      simp [this, Form.sw]
end CB

/-! M10 -/
set_option Elab.async false
set_option linter.all false
set_option maxRecDepth 100000
set_option maxHeartbeats 4000000
namespace CB
/-! ### two versions that go both ways and end alike -/
def Three (b v w : Tx) : Prop := ∃ f r k p q s, NF f r k ∧ b = tx f r k p ∧ v = tx f r k q ∧ w = tx f r k s
theorem Three.swap {b v w : Tx} : Three b v w → Three b w v := fun ⟨f, r, k, p, q, s, h, e1, e2, e3⟩ => ⟨f, r, k, p, s, q, h, e1, e3, e2⟩
/-- powers of one block in front of one text -/
theorem pow_front {x y s : Tx} (hx : x ≠ []) (h : x ++ y = y ++ x) : ∃ r k i j t, NF [] r k ∧ (∀ a b, rep x a ++ (rep y b ++ s) = tx [] r k (i * a + (j * b + t))) := by
  obtain ⟨z, i, j, e1, e2⟩ := comm_pow' h
  have hz : z ≠ [] := fun q => hx (by rw [e1, q, rep_nil])
  obtain ⟨r, m, hp, _, rfl⟩ := prim_root _ z (Nat.le_refl _) hz
  obtain ⟨t, k, rfl, hk⟩ := lead_split hp.1 _ s (Nat.le_refl _)
  refine ⟨r, k, m * i, m * j, t, ⟨hp, fun h => absurd rfl h, hk⟩, fun a b => ?_⟩
  unfold tx
  rw [e1, e2, rep_mul, rep_mul, rep_mul, rep_mul, List.nil_append, rep_add, rep_add, List.append_assoc, List.append_assoc, Nat.mul_assoc, Nat.mul_assoc]
theorem last_eq {x y a : Tx} (h1 : a ++ x = x ++ y) (hx : x ≠ []) (hy : y ≠ []) : x.getLast? = y.getLast? := by
  have := congrArg List.getLast? h1
  rw [last_app hx, last_app hy] at this
  exact this
theorem both_last {a x y c : Tx} (h1 : a ++ x = x ++ c) (h2 : a ++ y = y ++ c) (ha : a ≠ []) (hr : Red x y) : x = [] ∨ y = [] := by
  have hc : c ≠ [] := fun z => by
    have := congrArg List.length h1
    rw [z, List.length_append, List.length_append, List.length_nil] at this
    have := List.length_pos_iff.mpr ha
    omega
  by_cases hx : x = []
  · exact .inl hx
  · by_cases hy : y = []
    · exact .inr hy
    · exact absurd ((last_eq h1 hx hc).trans (last_eq h2 hy hc).symm) (hr hx hy)
/-- the first version only puts in -/
theorem case_ins {a c d s1 s2 z z' : Tx} (ha : a ≠ []) (hr : Red d c) (e1 : s1 = d ++ s2) (e2 : a ++ s1 = d ++ z') (e3 : c ++ s2 = z) (e4 : a ++ z = c ++ z') : Three s1 (a ++ s1) (c ++ s2) := by
  subst e1 e3
  rw [← List.append_assoc] at e2
  obtain ⟨x, h1, h2⟩ := app_split (a := d) (c := a ++ d) e2.symm (by rw [List.length_append]; omega)
  subst h2
  rw [← List.append_assoc, ← List.append_assoc] at e4
  have h2 := List.append_cancel_right e4
  rcases both_last h1 h2 ha hr with rfl | rfl
  · have hx : x = a := by simpa using h1.symm
    subst hx
    obtain ⟨r, k, i, j, t, nf, hp⟩ := pow_front (s := s2) ha h2
    refine ⟨[], r, k, i * 0 + (j * 0 + t), i * 1 + (j * 0 + t), i * 0 + (j * 1 + t), nf, ?_, ?_, ?_⟩
    · rw [← hp, rep_0, rep_0] <;> rfl
    · rw [← hp, rep_1, rep_0] <;> rfl
    · rw [← hp, rep_0, rep_1] <;> rfl
  · have hx : x = a := by simpa using h2.symm
    subst hx
    obtain ⟨r, k, i, j, t, nf, hp⟩ := pow_front (s := s2) ha h1
    refine ⟨[], r, k, i * 0 + (j * 1 + t), i * 1 + (j * 1 + t), i * 0 + (j * 0 + t), nf, ?_, ?_, ?_⟩
    · rw [← hp, rep_0, rep_1] <;> rfl
    · rw [← hp, rep_1, rep_1]
    · rw [← hp, rep_0, rep_0] <;> rfl
/-- the first version only takes out -/
theorem case_del {b c d s1 s2 z z' : Tx} (hb : b ≠ []) (hr : Red d c) (e1 : b ++ s1 = d ++ s2) (e2 : s1 = d ++ z') (e3 : c ++ s2 = b ++ z) (e4 : z = c ++ z') : Three (b ++ s1) s1 (c ++ s2) := by
  subst e2 e4
  rw [← List.append_assoc] at e1
  obtain ⟨x, h1, h2⟩ := app_split (a := d) (c := b ++ d) e1.symm (by rw [List.length_append]; omega)
  subst h2
  rw [← List.append_assoc, ← List.append_assoc] at e3
  have h2 := List.append_cancel_right e3
  rcases both_last h1 h2.symm hb hr with rfl | rfl
  · have hx : x = b := by simpa using h1.symm
    subst hx
    obtain ⟨r, k, i, j, t, nf, hp⟩ := pow_front (s := z') hb h2.symm
    refine ⟨[], r, k, i * 1 + (j * 0 + t), i * 0 + (j * 0 + t), i * 1 + (j * 1 + t), nf, ?_, ?_, ?_⟩
    · rw [← hp, rep_1, rep_0] <;> rfl
    · rw [← hp, rep_0, rep_0] <;> rfl
    · rw [← hp, rep_1, rep_1, ← List.append_assoc, h2, List.append_assoc]
  · have hx : x = b := by simpa using h2
    subst hx
    obtain ⟨r, k, i, j, t, nf, hp⟩ := pow_front (s := z') hb h1
    refine ⟨[], r, k, i * 1 + (j * 1 + t), i * 0 + (j * 1 + t), i * 1 + (j * 0 + t), nf, ?_, ?_, ?_⟩
    · rw [← hp, rep_1, rep_1]
    · rw [← hp, rep_0, rep_1] <;> rfl
    · rw [← hp, rep_1, rep_0] <;> rfl
theorem lcs_tx {f r k : Tx} (h : NF f r k) {p q : Nat} (hpq : p < q) : lcs (tx f r k p) (tx f r k q) = (rep r p ++ k).length := by
  obtain ⟨d, rfl⟩ : ∃ d, q = (d + 1) + p := ⟨q - p - 1, by omega⟩
  rw [tx_add]
  exact lcs_app (red_tx h)
theorem last_cons {x : Int} {a : Tx} (h : a ≠ []) : (x :: a).getLast? = a.getLast? := by
  show ([x] ++ a).getLast? = _
  exact last_app h
/-- one letter in front of a form -/
theorem nf_cons {x : Int} {a b s : Tx} {f r k : Tx} {p q : Nat} (h : NF f r k) (hr : Red (x :: b) (x :: a)) (e1 : b ++ s = tx f r k p) (e2 : a ++ s = tx f r k q) (hne : a ≠ b) : NF (x :: f) r k := by
  refine ⟨h.prim, fun _ e => ?_, h.nk⟩
  by_cases hf : f = []
  · subst hf
    have hx : r.getLast? = some x := by rw [← e]; rfl
    have hred : Red b a := fun hb ha e => hr (by simp) (by simp) (by rw [last_cons hb, last_cons ha, e])
    have hl := lcs_app (s := s) hred
    have cut : ∀ {u : Tx} {n d : Nat}, u ++ s = tx [] r k ((d + 1) + n) → s.length = (rep r n ++ k).length → u = rep r (d + 1) := by
      intro u n d e hl
      rw [tx_add, List.nil_append] at e
      have : u.length = (rep r (d + 1)).length := by
        have := congrArg List.length e
        rw [List.length_append, List.length_append] at this
        omega
      exact (List.append_inj e this).1
    have nil : ∀ {u : Tx} {n : Nat}, u ++ s = tx [] r k n → s.length = (rep r n ++ k).length → u = [] := by
      intro u n e hl
      unfold tx at e
      rw [List.nil_append] at e
      have := congrArg List.length e
      rw [List.length_append] at this
      exact List.length_eq_zero_iff.mp (by omega)
    rcases Nat.lt_trichotomy p q with hlt | rfl | hlt
    · rw [e1, e2, lcs_tx h hlt] at hl
      obtain ⟨d, rfl⟩ : ∃ d, q = (d + 1) + p := ⟨q - p - 1, by omega⟩
      have ha := cut e2 hl.symm
      have hb := nil e1 hl.symm
      have han : a ≠ [] := fun z => by
        rw [ha, rep_s] at z
        exact h.prim.1 (List.append_eq_nil_iff.mp z).1
      subst hb
      exact hr (by simp) (by simp) (by rw [last_cons han, ha, last_rep h.prim.1, hx]; rfl)
    · exact hne (List.append_cancel_right (e2.trans e1.symm))
    · have hl' := lcs_app (s := s) hred.symm
      rw [e1, e2, lcs_tx h hlt] at hl'
      obtain ⟨d, rfl⟩ : ∃ d, p = (d + 1) + q := ⟨p - q - 1, by omega⟩
      have hb := cut e1 hl'.symm
      have ha := nil e2 hl'.symm
      have hbn : b ≠ [] := fun z => by
        rw [hb, rep_s] at z
        exact h.prim.1 (List.append_eq_nil_iff.mp z).1
      subst ha
      exact hr (by simp) (by simp) (by rw [last_cons hbn, hb, last_rep h.prim.1, hx]; rfl)
  · rw [last_cons hf] at e
    exact h.red hf e
theorem comm_core : ∀ (n : Nat) (a b c d s1 s2 z z' : Tx), b.length ≤ n → Red b a → Red d c → a ≠ b → c ≠ d → b ++ s1 = d ++ s2 → a ++ s1 = d ++ z' → c ++ s2 = b ++ z → a ++ z = c ++ z' → Three (b ++ s1) (a ++ s1) (c ++ s2)
  | n, a, [], c, d, s1, s2, z, z', _, _, hr2, hn1, _, e1, e2, e3, e4 => by
    rw [List.nil_append] at e1 e3 ⊢
    exact case_ins hn1 hr2 e1 e2 e3 e4
  | n, [], b, c, d, s1, s2, z, z', _, _, hr2, hn1, _, e1, e2, e3, e4 => by
    rw [List.nil_append] at e2 e4 ⊢
    exact case_del (Ne.symm hn1) hr2 e1 e2 e3 e4
  | n, a, b, c, [], s1, s2, z, z', _, hr1, _, _, hn2, e1, e2, e3, e4 => by
    rw [List.nil_append] at e1 e2
    have := case_ins hn2 hr1 e1.symm e3 e2 e4.symm
    rw [e1]
    exact this.swap
  | n, a, b, [], d, s1, s2, z, z', _, hr1, _, _, hn2, e1, e2, e3, e4 => by
    rw [List.nil_append] at e3 e4 ⊢
    have := case_del (Ne.symm hn2) hr1 e1.symm e3 e2 e4.symm
    rw [e1]
    exact this.swap
  | 0, _ :: _, _ :: _, _ :: _, _ :: _, _, _, _, _, hl, _, _, _, _, _, _, _, _ => by rw [List.length_cons] at hl; omega
  | n + 1, x :: a, y :: b, u :: c, t :: d, s1, s2, z, z', hl, hr1, hr2, hn1, hn2, e1, e2, e3, e4 => by
    rw [List.cons_append, List.cons_append] at e1 e2 e3
    injection e1 with q1 e1
    injection e2 with q2 e2
    injection e3 with q3 e3
    injection e4 with q4 e4
    subst q1 q2 q3
    have hr1' : Red b a := fun hb ha e => hr1 (by simp) (by simp) (by rw [last_cons hb, last_cons ha, e])
    have hr2' : Red d c := fun hb ha e => hr2 (by simp) (by simp) (by rw [last_cons hb, last_cons ha, e])
    have hn1' : a ≠ b := fun e => hn1 (by rw [e])
    have hn2' : c ≠ d := fun e => hn2 (by rw [e])
    rw [List.length_cons] at hl
    obtain ⟨f, r, k, p, q, s, nf, h1, h2, h3⟩ := comm_core n a b c d s1 s2 z z' (by omega) hr1' hr2' hn1' hn2' e1 e2 e3 e4
    refine ⟨_, r, k, p, q, s, nf_cons nf hr1 h1 h2 hn1', ?_, ?_, ?_⟩
    · rw [List.cons_append, h1]; rfl
    · rw [List.cons_append, h2]; rfl
    · rw [List.cons_append, h3]; rfl
/-- two changed versions that go both ways and end alike are blocks put in or taken out at one place -/
theorem comm_three {b v w x : Tx} (hv : v ≠ b) (hw : w ≠ b) (h1 : merge b v w = some x) (h2 : merge b w v = some x) : Three b v w := by
  obtain ⟨B, A, s1, e1, e2, hr1⟩ := split_red _ b v (Nat.le_refl _)
  obtain ⟨D, C, s2, e3, e4, hr2⟩ := split_red _ b w (Nat.le_refl _)
  obtain ⟨z, hz⟩ : ∃ z, w = B ++ z := by
    apply Classical.byContradiction
    intro q
    have := merge_none (s := s1) hr1 (t := w) fun z e => q ⟨z, e⟩
    rw [← e1, ← e2, h1] at this
    cases this
  obtain ⟨z', hz'⟩ : ∃ z, v = D ++ z := by
    apply Classical.byContradiction
    intro q
    have := merge_none (s := s2) hr2 (t := v) fun z e => q ⟨z, e⟩
    rw [← e3, ← e4, h2] at this
    cases this
  have m1 := merge_app (s := s1) (z := z) hr1
  have m2 := merge_app (s := s2) (z := z') hr2
  rw [← e1, ← e2, ← hz, h1] at m1
  rw [← e3, ← e4, ← hz', h2] at m2
  have e5 : A ++ z = C ++ z' := by
    injection m1 with m1
    injection m2 with m2
    rw [← m1, ← m2]
  have := comm_core _ A B C D s1 s2 z z' (Nat.le_refl _) hr1 hr2 (fun q => hv (by rw [e2, q, e1])) (fun q => hw (by rw [e4, q, e3])) (e1.symm.trans e3) (e2.symm.trans hz') (e4.symm.trans hz) e5
  rw [← e1, ← e2, ← e4] at this
  exact this
end CB

/-! M11 -/
set_option Elab.async false
set_option linter.all false
set_option maxRecDepth 100000
set_option maxHeartbeats 4000000
namespace CB
/-! ### all versions of one form -/
theorem merge_self {b v : Tx} : merge b v b = some v := by
  obtain ⟨x, y, s, e1, e2, h⟩ := split_red _ b v (Nat.le_refl _)
  have := merge_app (s := s) (z := s) h
  rw [← e1, ← e2] at this
  exact this
theorem merge_base {b y : Tx} : merge b b y = some y := by
  have := merge_app (x := []) (y := []) (s := b) (z := y) fun h => absurd rfl h
  simpa using this
theorem blockForm_nf {f r k : Tx} (h : NF f r k) {p q : Nat} (hne : p ≠ q) : blockForm (tx f r k p) (tx f r k q) = some ⟨f, r, k, p, q⟩ := by
  unfold blockForm
  rcases Nat.lt_or_gt_of_ne hne with hl | hl
  · have := (tx_lt h).mpr hl
    rw [if_neg (by omega), if_pos this, formLG_nf h hl]
  · have := (tx_lt h).mpr hl
    rw [if_neg (by omega), if_neg (by omega), formLG_nf h hl]
    rfl
/-- the texts of a case are of one form -/
structure AllF (bt : Tx) (vt : List Tx) (fo : Form) : Prop where
  nf : NF fo.front fo.block fo.back
  b : bt = tx fo.front fo.block fo.back fo.times
  v : ∀ t ∈ vt, ∃ n, t = tx fo.front fo.block fo.back n
theorem ends_one {bt : Tx} {vt : List Tx} {i : Nat} : ends bt vt [i] = some (vt.getD i []) := by
  show endGo bt vt bt [i] = _
  unfold endGo
  rw [merge_self]
  rfl
theorem ends_two {bt : Tx} {vt : List Tx} {i j : Nat} : ends bt vt [i, j] = merge bt (vt.getD j []) (vt.getD i []) := by
  have := ends_snoc (b := bt) (vs := vt) (p := j) (o := [i])
  rw [ends_one] at this
  exact this
theorem fault_none {bt : Tx} {vt : List Tx} {i j : Nat} (h : faultO bt vt i j = none) : ∃ x, merge bt (vt.getD j []) (vt.getD i []) = some x ∧ merge bt (vt.getD i []) (vt.getD j []) = some x := by
  unfold faultO at h
  rw [ends_two, ends_two] at h
  cases h1 : merge bt (vt.getD j []) (vt.getD i []) with
  | none => rw [h1] at h; cases h
  | some x =>
    rw [h1] at h
    cases h2 : merge bt (vt.getD i []) (vt.getD j []) with
    | none => rw [h2] at h; cases h
    | some y =>
      rw [h2] at h
      by_cases e : x = y
      · subst e; exact ⟨x, rfl, rfl⟩
      · have h' : (if x = y then none else some (PySem.PyData.tuple [.str "apart", pairD i j, pairD j i])) = none := h
        rw [if_neg e] at h'
        cases h'
theorem first_none {bt : Tx} {vt : List Tx} {i : Nat} : ∀ {js : List Nat}, firstF bt vt i js = none → ∀ j ∈ js, faultO bt vt i j = none
  | [], _, j, h => by cases h
  | j :: js, h, p, hp => by
    unfold firstF at h
    cases hf : faultO bt vt i j with
    | some d => rw [hf] at h; cases h
    | none =>
      rw [hf] at h
      rcases List.mem_cons.mp hp with z | z
      · rw [z]; exact hf
      · exact first_none h p z
theorem getD_mem {vt : List Tx} {p : Nat} (h : p < vt.length) : vt.getD p [] ∈ vt := by
  rw [List.getD_eq_getElem?_getD, List.getElem?_eq_getElem h]
  exact List.getElem_mem h
theorem mem_getD {vt : List Tx} {t : Tx} (h : t ∈ vt) : ∃ p, p < vt.length ∧ vt.getD p [] = t := by
  obtain ⟨p, hp, e⟩ := List.mem_iff_getElem.mp h
  exact ⟨p, hp, by rw [List.getD_eq_getElem?_getD, List.getElem?_eq_getElem hp, e]; rfl⟩
theorem all_form {bt : Tx} {vt : List Tx} {i j : Nat} {r : List Nat} (hc : chg bt vt = i :: j :: r) (hn : anyF bt vt (i :: j :: r) = none) : ∃ fo, blockForm bt (vt.getD i []) = some fo ∧ AllF bt vt fo := by
  have hi := chg_mem.mp (by rw [hc]; exact List.mem_cons_self : i ∈ chg bt vt)
  have hf : firstF bt vt i (j :: r) = none := by
    unfold anyF at hn
    cases q : firstF bt vt i (j :: r) with
    | none => rfl
    | some d => rw [q] at hn; cases hn
  have three : ∀ m ∈ j :: r, Three bt (vt.getD i []) (vt.getD m []) := fun m hm => by
    obtain ⟨x, h1, h2⟩ := fault_none (first_none hf m hm)
    have hm' := chg_mem.mp (by rw [hc]; exact List.mem_cons_of_mem _ hm : m ∈ chg bt vt)
    exact comm_three hi.2 hm'.2 h2 h1
  obtain ⟨f, rr, k, p, q, s, nf, e1, e2, e3⟩ := three j List.mem_cons_self
  have hpq : p ≠ q := fun e => hi.2 (by rw [e1, e2, e])
  have hb : blockForm bt (vt.getD i []) = some ⟨f, rr, k, p, q⟩ := by rw [e1, e2]; exact blockForm_nf nf hpq
  refine ⟨_, hb, nf, e1, fun t ht => ?_⟩
  obtain ⟨m, hm, rfl⟩ := mem_getD ht
  by_cases hmb : vt.getD m [] = bt
  · exact ⟨p, hmb.trans e1⟩
  · have hmc : m ∈ i :: j :: r := hc ▸ chg_mem.mpr ⟨hm, hmb⟩
    rcases List.mem_cons.mp hmc with z | z
    · exact ⟨q, by rw [z]; exact e2⟩
    · obtain ⟨f', r', k', p', q', s', nf', e1', e2', e3'⟩ := three m z
      have hpq' : p' ≠ q' := fun e => hi.2 (by rw [e1', e2', e])
      have hb' : blockForm bt (vt.getD i []) = some ⟨f', r', k', p', q'⟩ := by rw [e1', e2']; exact blockForm_nf nf' hpq'
      rw [hb] at hb'
      injection hb' with hb'
      injection hb' with h1 h2 h3 h4 h5
      subst h1 h2 h3
      exact ⟨s', e3'⟩
/-! numbers of blocks -/
theorem div_tx {f r k : Tx} (hr : r ≠ []) {n : Nat} : (((tx f r k n).length : Int) - f.length - k.length) / r.length = n := by
  have h := List.length_pos_iff.mpr hr
  have e : (((tx f r k n).length : Int) - f.length - k.length) = (n : Int) * (r.length : Int) := by
    rw [tx_len]
    push_cast
    omega
  rw [e]
  exact Int.mul_ediv_cancel _ (by omega)
theorem numb_tx {fo : Form} (h : NF fo.front fo.block fo.back) {n : Nat} : numb fo (tx fo.front fo.block fo.back n) = n := div_tx h.prim.1
theorem moreO_tx {f r k : Tx} (h : NF f r k) {n : Nat} : moreO f r k (tx f r k n) = some (n : Int) := by
  unfold moreO
  rw [div_tx h.prim.1]
  have e1 : decide ((0 : Int) ≤ (n : Int)) = true := decide_eq_true (by omega)
  have e2 : decide (f ++ rep r ((n : Int)).toNat ++ k = tx f r k n) = true := decide_eq_true (by
    rw [Int.toNat_natCast, List.append_assoc]; rfl)
  rw [e1, e2]; rfl
theorem moreO_some {f r k t : Tx} {n : Int} (h : moreO f r k t = some n) : ∃ m : Nat, n = m ∧ t = tx f r k m := by
  unfold moreO at h
  split at h
  · rename_i q
    rw [Bool.and_eq_true, decide_eq_true_eq, decide_eq_true_eq] at q
    injection h with h
    rw [h] at q
    refine ⟨n.toNat, by omega, ?_⟩
    rw [← q.2, List.append_assoc]; rfl
  · cases h
/-- how many blocks are lacking -/
def lack (t : Int) (ns : List Int) : Int := (ns.map fun n => max 0 (t - n)).sum
theorem lack_nn {t : Int} : ∀ ns : List Int, 0 ≤ lack t ns
  | [] => by unfold lack; simp
  | n :: ns => by
    have := lack_nn (t := t) ns
    unfold lack at this ⊢
    rw [List.map_cons, List.sum_cons]
    omega
theorem takeGo_none {t : Int} : ∀ (ns : List Int) (p : Nat) (left : Int) (ts : List Nat), lack t ns ≤ left → takeGo t ns p left ts = none
  | [], _, _, _, _ => rfl
  | n :: ns, p, left, ts, h => by
    have h0 := lack_nn (t := t) ns
    have e : lack t (n :: ns) = max 0 (t - n) + lack t ns := by unfold lack; rw [List.map_cons, List.sum_cons]
    rw [e] at h
    unfold takeGo
    have h1 : ¬ (if n < t then left - (t - n) else left) < 0 := by split <;> omega
    rw [if_neg h1]
    exact takeGo_none ns _ _ _ (by split <;> omega)
/-- the places that are told where more is taken out than stands there -/
theorem takeGo_some {t : Int} : ∀ (ns : List Int) (p : Nat) (left : Int) (ts : List Nat), left < lack t ns → 0 ≤ left → ∃ ms m : List Nat, ∃ x, takeGo t ns p left ts = some (ts ++ (ms ++ [x])) ∧ (ms ++ [x]).Pairwise (· < ·) ∧ (∀ y ∈ ms ++ [x], p ≤ y ∧ y < p + ns.length ∧ ns.getD (y - p) 0 < t) ∧
    lack t (ms.map fun y => ns.getD (y - p) 0) ≤ left ∧ left < lack t ((ms ++ [x]).map fun y => ns.getD (y - p) 0)
  | [], p, left, ts, h, h0 => by unfold lack at h; simp at h; omega
  | n :: ns, p, left, ts, h, h0 => by
    have e : lack t (n :: ns) = max 0 (t - n) + lack t ns := by unfold lack; rw [List.map_cons, List.sum_cons]
    rw [e] at h
    have shift : ∀ y, p + 1 ≤ y → (n :: ns).getD (y - p) 0 = ns.getD (y - (p + 1)) 0 := fun y hy => by
      have : y - p = (y - (p + 1)) + 1 := by omega
      rw [this]; rfl
    have here : (n :: ns).getD (p - p) 0 = n := by rw [Nat.sub_self]; rfl
    unfold takeGo
    by_cases hnt : n < t
    · rw [if_pos hnt, if_pos hnt]
      by_cases hl : left - (t - n) < 0
      · rw [if_pos hl]
        refine ⟨[], [], p, rfl, List.pairwise_singleton _ _, fun y hy => ?_, ?_, ?_⟩
        · rw [List.mem_singleton.mp hy]
          exact ⟨Nat.le_refl _, by rw [List.length_cons]; omega, by rw [here]; exact hnt⟩
        · unfold lack; simp; exact h0
        · unfold lack
          rw [List.nil_append, List.map_cons, List.map_nil, List.map_cons, List.map_nil, here, List.sum_cons, List.sum_nil]
          omega
      · rw [if_neg hl]
        obtain ⟨ms, _, x, q1, q2, q3, q4, q5⟩ := takeGo_some (t := t) ns (p + 1) (left - (t - n)) (ts ++ [p]) (by omega) (by omega)
        have hm : ∀ l : List Nat, (∀ y ∈ l, p + 1 ≤ y) → (l.map fun y => (n :: ns).getD (y - p) 0) = l.map fun y => ns.getD (y - (p + 1)) 0 := fun l hl => List.map_congr_left fun y hy => shift y (hl y hy)
        have hge : ∀ y ∈ ms ++ [x], p + 1 ≤ y := fun y hy => (q3 y hy).1
        refine ⟨p :: ms, [], x, by rw [q1, List.append_assoc]; rfl, List.pairwise_cons.mpr ⟨fun y hy => by have := hge y hy; omega, q2⟩, fun y hy => ?_, ?_, ?_⟩
        · rcases List.mem_cons.mp hy with z | z
          · rw [z]; exact ⟨Nat.le_refl _, by rw [List.length_cons]; omega, by rw [here]; exact hnt⟩
          · obtain ⟨a, b, c⟩ := q3 y z
            exact ⟨by omega, by rw [List.length_cons]; omega, by rw [shift y a]; exact c⟩
        · rw [List.map_cons, here, hm ms fun y hy => hge y (List.mem_append_left _ hy)]
          have e : ∀ l, lack t (n :: l) = max 0 (t - n) + lack t l := fun l => by unfold lack; rw [List.map_cons, List.sum_cons]
          rw [e]; omega
        · rw [List.cons_append, List.map_cons, here, hm _ hge]
          have e : ∀ l, lack t (n :: l) = max 0 (t - n) + lack t l := fun l => by unfold lack; rw [List.map_cons, List.sum_cons]
          rw [e]; omega
    · rw [if_neg hnt, if_neg hnt, if_neg (by omega)]
      obtain ⟨ms, _, x, q1, q2, q3, q4, q5⟩ := takeGo_some (t := t) ns (p + 1) left ts (by omega) h0
      have hge : ∀ y ∈ ms ++ [x], p + 1 ≤ y := fun y hy => (q3 y hy).1
      have hm : ∀ l : List Nat, (∀ y ∈ l, p + 1 ≤ y) → (l.map fun y => (n :: ns).getD (y - p) 0) = l.map fun y => ns.getD (y - (p + 1)) 0 := fun l hl => List.map_congr_left fun y hy => shift y (hl y hy)
      refine ⟨ms, [], x, q1, q2, fun y hy => ?_, ?_, ?_⟩
      · obtain ⟨a, b, c⟩ := q3 y hy
        exact ⟨by omega, by rw [List.length_cons]; omega, by rw [shift y a]; exact c⟩
      · rw [hm ms fun y hy => hge y (List.mem_append_left _ hy)]; exact q4
      · rw [hm _ hge]; exact q5
end CB

/-! M12 -/
set_option Elab.async false
set_option linter.all false
set_option maxRecDepth 100000
set_option maxHeartbeats 4000000
namespace CB
/-! ### orders -/
theorem nil_or_snocN (l : List Nat) : l = [] ∨ ∃ b x, l = b ++ [x] := (List.eq_nil_or_concat l).imp id fun ⟨b, x, h⟩ => ⟨b, x, by rw [h, List.concat_eq_append]⟩
theorem mem_rows {n : Nat} : ∀ (k : Nat) (o : List Nat), o.length = k → o.Nodup → (∀ p ∈ o, p < n) → o ∈ rowsAt n k
  | 0, o, h, _, _ => by rw [List.length_eq_zero_iff.mp h]; exact List.mem_cons_self
  | k + 1, o, h, hn, hp => by
    rcases nil_or_snocN o with rfl | ⟨o', x, rfl⟩
    · cases h
    · rw [List.length_append, List.length_singleton] at h
      obtain ⟨n1, _, n3⟩ := List.nodup_append.mp hn
      refine List.mem_flatMap.mpr ⟨o', mem_rows k o' (by omega) n1 fun p hp' => hp p (List.mem_append_left _ hp'), List.mem_map.mpr ⟨x, List.mem_filter.mpr ⟨List.mem_range.mpr (hp x (List.mem_append_right _ List.mem_cons_self)), ?_⟩, rfl⟩⟩
      rw [Bool.not_eq_true', decide_eq_false_iff_not]
      exact fun z => n3 x z x List.mem_cons_self rfl
theorem mem_found {n : Nat} {o : List Nat} : ∀ {i j : Nat}, j ≤ i → o ∈ rowsAt n j → o ∈ foundAt n i
  | 0, j, h, ho => by
    have : j = 0 := by omega
    subst this; exact ho
  | i + 1, j, h, ho => by
    by_cases e : j = i + 1
    · subst e; exact List.mem_append_right _ ho
    · exact List.mem_append_left _ (mem_found (by omega) ho)
theorem mem_orders {n : Nat} {o : List Nat} (hn : o.Nodup) (hp : ∀ p ∈ o, p < n) : o ∈ lawOrders n := mem_found (nodup_len n o hn hp) (mem_rows o.length o rfl hn hp)
def restO (n : Nat) (o : List Nat) : List Nat := (List.range n).filter fun p => !decide (p ∈ o)
theorem rest_mem {n : Nat} {o : List Nat} (hn : o.Nodup) (hp : ∀ p ∈ o, p < n) : o ++ restO n o ∈ lawOrders n := by
  refine mem_orders ?_ fun p hp' => ?_
  · refine List.nodup_append.mpr ⟨hn, List.nodup_range.filter _, fun a ha b hb e => ?_⟩
    have := (List.mem_filter.mp hb).2
    rw [Bool.not_eq_true', decide_eq_false_iff_not] at this
    exact this (e ▸ ha)
  · rcases List.mem_append.mp hp' with z | z
    · exact hp p z
    · exact List.mem_range.mp (List.mem_filter.mp z).1
theorem perm_rest : ∀ n, n ≤ 4 → ∀ o ∈ lawOrders n, (o ++ restO n o).isPerm (List.range n) = true := by decide +kernel
theorem whole_perm : ∀ n, n ≤ 4 → ∀ o ∈ lawOrders n, o.length = n → o.isPerm (List.range n) = true := by decide +kernel
theorem ordB_ok {n : Nat} (hn : n ≤ 4) {o : List Nat} (h : o ∈ lawOrders n) : o.Nodup ∧ ∀ p ∈ o, p < n := by
  have := ordB_mem hn h
  unfold ordB at this
  rw [Bool.and_eq_true, decide_eq_true_eq, List.all_eq_true] at this
  exact ⟨this.1, fun p hp => of_decide_eq_true (this.2 p hp)⟩
theorem rest_len {n : Nat} (hn : n ≤ 4) {o : List Nat} (h : o ∈ lawOrders n) : (o ++ restO n o).length = n := by
  have := (List.isPerm_iff.mp (perm_rest n hn o h)).length_eq
  rw [List.length_range] at this
  exact this
theorem perm_sum {a b : List Int} (h : a.Perm b) : a.sum = b.sum := by
  induction h with
  | nil => rfl
  | cons x _ ih => rw [List.sum_cons, List.sum_cons, ih]
  | swap x y l => rw [List.sum_cons, List.sum_cons, List.sum_cons, List.sum_cons]; omega
  | trans _ _ ih1 ih2 => exact ih1.trans ih2
/-! ### what comes behind orders -/
theorem endGo_app {b : Tx} {vs : List Tx} {q : List Nat} : ∀ {o : List Nat} {t : Tx}, endGo b vs t (o ++ q) = (endGo b vs t o).bind fun x => endGo b vs x q
  | [], t => rfl
  | p :: o, t => by
    show (match merge b (vs.getD p []) t with | none => none | some t' => endGo b vs t' (o ++ q)) = (match merge b (vs.getD p []) t with | none => none | some t' => endGo b vs t' o).bind fun x => endGo b vs x q
    cases merge b (vs.getD p []) t with
    | none => rfl
    | some t' => exact endGo_app
theorem merge_back {b v y u : Tx} (h : merge b v y = some u) : ∃ x a z, (∃ s, b = x ++ s ∧ v = a ++ s) ∧ Red x a ∧ y = x ++ z ∧ u = a ++ z := by
  obtain ⟨x, a, s, e1, e2, hr⟩ := split_red _ b v (Nat.le_refl _)
  obtain ⟨z, hz⟩ : ∃ z, y = x ++ z := by
    apply Classical.byContradiction
    intro q
    have := merge_none (s := s) hr (t := y) fun z e => q ⟨z, e⟩
    rw [← e1, ← e2, h] at this
    cases this
  have := merge_app (s := s) (z := z) hr
  rw [← e1, ← e2, ← hz, h] at this
  exact ⟨x, a, z, ⟨s, e1, e2⟩, hr, hz, Option.some.inj this⟩
theorem merge_inj {b v y z u : Tx} (h1 : merge b v y = some u) (h2 : merge b v z = some u) : y = z := by
  obtain ⟨x, a, s, e1, e2, hr⟩ := split_red _ b v (Nat.le_refl _)
  have key : ∀ {y : Tx}, merge b v y = some u → ∃ w, y = x ++ w ∧ u = a ++ w := fun {y} h => by
    obtain ⟨w, hw⟩ : ∃ w, y = x ++ w := by
      apply Classical.byContradiction
      intro q
      have := merge_none (s := s) hr (t := y) fun z e => q ⟨z, e⟩
      rw [← e1, ← e2, h] at this
      cases this
    have := merge_app (s := s) (z := w) hr
    rw [← e1, ← e2, ← hw, h] at this
    exact ⟨w, hw, Option.some.inj this⟩
  obtain ⟨w1, q1, q2⟩ := key h1
  obtain ⟨w2, q3, q4⟩ := key h2
  rw [q2] at q4
  rw [q1, q3, List.append_cancel_left q4]
theorem endGo_inj {b : Tx} {vs : List Tx} : ∀ {o : List Nat} {y z u : Tx}, endGo b vs y o = some u → endGo b vs z o = some u → y = z
  | [], y, z, u, h1, h2 => by
    have h1 : some y = some u := h1
    have h2 : some z = some u := h2
    rw [Option.some.inj h1, Option.some.inj h2]
  | p :: o, y, z, u, h1, h2 => by
    unfold endGo at h1 h2
    cases m1 : merge b (vs.getD p []) y with
    | none => rw [m1] at h1; cases h1
    | some y' =>
      cases m2 : merge b (vs.getD p []) z with
      | none => rw [m2] at h2; cases h2
      | some z' =>
        rw [m1] at h1
        rw [m2] at h2
        have := endGo_inj h1 h2
        subst this
        exact merge_inj m1 m2
/-! ### all orders alike -/
theorem whole_mem {bt : Tx} {vt : List Tx} {o : List Nat} (h : o ∈ lawOrders vt.length) (hl : o.length = vt.length) : ends bt vt o ∈ wholeL bt vt := List.mem_map.mpr ⟨o, List.mem_filter.mpr ⟨h, decide_eq_true hl⟩, rfl⟩
theorem alike_true {bt : Tx} {vt : List Tx} {x : Tx} (h : ∀ o ∈ lawOrders vt.length, o.length = vt.length → ends bt vt o = some x) : alikeB bt vt = true := by
  have hall : ∀ t ∈ wholeL bt vt, t = some x := fun t ht => by
    obtain ⟨o, ho, rfl⟩ := List.mem_map.mp ht
    obtain ⟨h1, h2⟩ := List.mem_filter.mp ho
    exact h o h1 (of_decide_eq_true h2)
  unfold alikeB
  rw [decide_eq_true_eq, List.filter_eq_nil_iff]
  intro t ht
  have e : (wholeL bt vt).getD 0 none = some x := by
    cases hw : wholeL bt vt with
    | nil => rw [hw] at ht; cases ht
    | cons a l => exact hall a (by rw [hw]; exact List.mem_cons_self)
  rw [e, hall t ht]
  simp
theorem alike_false {bt : Tx} {vt : List Tx} {o p : List Nat} (h1 : o ∈ lawOrders vt.length) (h2 : o.length = vt.length) (h3 : p ∈ lawOrders vt.length) (h4 : p.length = vt.length) (h : ends bt vt o = none ∨ ends bt vt o ≠ ends bt vt p) : alikeB bt vt = false := by
  unfold alikeB
  rw [decide_eq_false_iff_not, List.filter_eq_nil_iff]
  intro q
  have a1 := q _ (whole_mem (bt := bt) h1 h2)
  have a2 := q _ (whole_mem (bt := bt) h3 h4)
  simp only [Bool.or_eq_true, Option.isNone_iff_eq_none, Bool.not_eq_true', decide_eq_false_iff_not, not_or, Classical.not_not] at a1 a2
  rcases h with h | h
  · exact a1.1 h
  · exact h (a1.2.trans a2.2.symm)
/-- an order that does not go -/
theorem alike_clash {bt : Tx} {vt : List Tx} (hv : vt.length ≤ 4) {o : List Nat} (ho : o ∈ lawOrders vt.length) (h : ends bt vt o = none) : alikeB bt vt = false := by
  obtain ⟨n1, n2⟩ := ordB_ok hv ho
  have hm := rest_mem n1 n2
  have hl := rest_len hv ho
  refine alike_false hm hl hm hl (.inl ?_)
  show endGo bt vt bt (o ++ _) = none
  rw [endGo_app]
  have h' : endGo bt vt bt o = none := h
  rw [h']; rfl
theorem alike_apart {bt : Tx} {vt : List Tx} (hv : vt.length ≤ 4) {o p : List Nat} (ho : o ∈ lawOrders vt.length) (hp : p ∈ lawOrders vt.length) (hop : ∀ x, x ∈ o ↔ x ∈ p) {x y : Tx} (h1 : ends bt vt o = some x) (h2 : ends bt vt p = some y) (hne : x ≠ y) : alikeB bt vt = false := by
  obtain ⟨n1, n2⟩ := ordB_ok hv ho
  obtain ⟨n3, n4⟩ := ordB_ok hv hp
  have hr : restO vt.length o = restO vt.length p := by
    unfold restO
    congr 1
    funext z
    congr 1
    exact decide_eq_decide.mpr (hop z)
  have e1 : ends bt vt (o ++ restO vt.length o) = endGo bt vt x (restO vt.length o) := by
    show endGo bt vt bt (o ++ _) = _
    rw [endGo_app]
    have h' : endGo bt vt bt o = some x := h1
    rw [h']; rfl
  have e2 : ends bt vt (p ++ restO vt.length p) = endGo bt vt y (restO vt.length o) := by
    show endGo bt vt bt (p ++ _) = _
    rw [endGo_app, hr]
    have h' : endGo bt vt bt p = some y := h2
    rw [h']; rfl
  refine alike_false (rest_mem n1 n2) (rest_len hv ho) (rest_mem n3 n4) (rest_len hv hp) ?_
  rw [e1, e2]
  cases q : endGo bt vt x (restO vt.length o) with
  | none => exact .inl rfl
  | some u => exact .inr fun e => hne (endGo_inj q e.symm)
/-! ### one changed version at most -/
theorem endGo_base {bt : Tx} {vt : List Tx} : ∀ {o : List Nat} {t : Tx}, (∀ p ∈ o, vt.getD p [] = bt) → endGo bt vt t o = some t
  | [], _, _ => rfl
  | p :: o, t, h => by
    unfold endGo
    rw [h p List.mem_cons_self, merge_base]
    exact endGo_base fun q hq => h q (List.mem_cons_of_mem _ hq)
theorem endGo_once {bt : Tx} {vt : List Tx} {i : Nat} : ∀ {o : List Nat}, o.Nodup → i ∈ o → (∀ p ∈ o, p ≠ i → vt.getD p [] = bt) → endGo bt vt bt o = some (vt.getD i [])
  | [], _, h, _ => by cases h
  | p :: o, hn, hi, h => by
    obtain ⟨n1, n2⟩ := List.nodup_cons.mp hn
    unfold endGo
    by_cases e : p = i
    · subst e
      rw [merge_self]
      exact endGo_base fun q hq => h q (List.mem_cons_of_mem _ hq) fun z => n1 (z ▸ hq)
    · rw [h p List.mem_cons_self e, merge_base]
      rcases List.mem_cons.mp hi with z | z
      · exact absurd z.symm e
      · exact endGo_once n2 z fun q hq => h q (List.mem_cons_of_mem _ hq)
theorem alike_few {bt : Tx} {vt : List Tx} (hv : vt.length ≤ 4) (h : (chg bt vt).length < 2) : alikeB bt vt = true := by
  have hch : ∀ p, p < vt.length → p ∉ chg bt vt → vt.getD p [] = bt := fun p hp hn => Classical.byContradiction fun q => hn (chg_mem.mpr ⟨hp, q⟩)
  cases hc : chg bt vt with
  | nil =>
    refine alike_true (x := bt) fun o ho _ => endGo_base fun p hp => hch p ((ordB_ok hv ho).2 p hp) (by rw [hc]; exact fun h => by cases h)
  | cons i r =>
    rw [hc] at h
    have hr : r = [] := List.length_eq_zero_iff.mp (by rw [List.length_cons] at h; omega)
    subst hr
    have hi := (chg_mem.mp (by rw [hc]; exact List.mem_cons_self : i ∈ chg bt vt)).1
    refine alike_true (x := vt.getD i []) fun o ho hl => ?_
    obtain ⟨n1, n2⟩ := ordB_ok hv ho
    have hp := List.isPerm_iff.mp (whole_perm _ hv o ho hl)
    refine endGo_once n1 (hp.mem_iff.mpr (List.mem_range.mpr hi)) fun p hp' hne => hch p (n2 p hp') ?_
    rw [hc]
    exact fun z => hne (List.mem_singleton.mp z)
end CB

/-! M13 -/
set_option Elab.async false
set_option linter.all false
set_option maxRecDepth 100000
set_option maxHeartbeats 4000000
namespace CB
open PySem
/-! ### numbers of blocks behind orders -/
theorem blockForm_some {a b : Tx} {fo : Form} (h : blockForm a b = some fo) : NF fo.front fo.block fo.back ∧ a = tx fo.front fo.block fo.back fo.times ∧ b = tx fo.front fo.block fo.back fo.others := by
  unfold blockForm at h
  rcases Nat.lt_trichotomy a.length b.length with hl | hl | hl
  · rw [if_neg (by omega), if_pos hl] at h
    obtain ⟨h1, h2, h3, _⟩ := formLG_some hl h
    exact ⟨h1, h2, h3⟩
  · rw [if_pos hl] at h; cases h
  · rw [if_neg (by omega), if_neg (by omega)] at h
    cases q : formLG b a with
    | none => rw [q] at h; cases h
    | some f =>
      rw [q] at h
      cases h
      obtain ⟨h1, h2, h3, _⟩ := formLG_some hl q
      exact ⟨h1, h3, h2⟩
def runN (t : Nat) (g : Nat → Nat) : Nat → List Nat → Option Nat
  | s, [] => some s
  | s, m :: o => if t ≤ s + g m then runN t g (s + g m - t) o else none
theorem run_ok {t : Nat} {g : Nat → Nat} : ∀ (o : List Nat) (s : Nat), lack t (o.map fun m => (g m : Int)) ≤ s → ∃ e : Nat, runN t g s o = some e ∧ (e : Int) = s + (o.map fun m => (g m : Int) - t).sum
  | [], s, _ => ⟨s, rfl, by simp⟩
  | m :: o, s, h => by
    have e : lack t ((m :: o).map fun m => (g m : Int)) = max 0 ((t : Int) - g m) + lack t (o.map fun m => (g m : Int)) := by unfold lack; rw [List.map_cons, List.map_cons, List.sum_cons]
    have h0 := lack_nn (t := t) (o.map fun m => (g m : Int))
    rw [e] at h
    have hle : t ≤ s + g m := by omega
    obtain ⟨e', h1, h2⟩ := run_ok (t := t) (g := g) o (s + g m - t) (by omega)
    refine ⟨e', ?_, ?_⟩
    · unfold runN
      rw [if_pos hle, h1]
    · rw [h2, List.map_cons, List.sum_cons]
      omega
section
variable {bt : Tx} {vt : List Tx} {fo : Form}
def num (fo : Form) (vt : List Tx) (m : Nat) : Nat := (numb fo (vt.getD m [])).toNat
theorem AllF.at (a : AllF bt vt fo) {m : Nat} (h : m < vt.length) : vt.getD m [] = tx fo.front fo.block fo.back (num fo vt m) ∧ numb fo (vt.getD m []) = (num fo vt m : Int) := by
  obtain ⟨n, e⟩ := a.v _ (getD_mem h)
  unfold num
  rw [e, numb_tx a.nf, Int.toNat_natCast]
  exact ⟨rfl, rfl⟩
theorem AllF.row (a : AllF bt vt fo) : vt.map (numb fo) = (List.range vt.length).map fun m => (num fo vt m : Int) := by
  apply List.ext_getElem
  · rw [List.length_map, List.length_map, List.length_range]
  · intro i h1 h2
    rw [List.length_map] at h1
    rw [List.getElem_map, List.getElem_map, List.getElem_range, ← (a.at h1).2, List.getD_eq_getElem?_getD, List.getElem?_eq_getElem h1]
    rfl
theorem AllF.ends (a : AllF bt vt fo) : ∀ {o : List Nat} {s : Nat}, (∀ p ∈ o, p < vt.length) → endGo bt vt (tx fo.front fo.block fo.back s) o = (runN fo.times (num fo vt) s o).map (tx fo.front fo.block fo.back)
  | [], _, _ => rfl
  | m :: o, s, h => by
    have hm := (a.at (h m List.mem_cons_self)).1
    show (match merge bt (vt.getD m []) (tx fo.front fo.block fo.back s) with | none => none | some t' => endGo bt vt t' o) = _
    have e := merge_tx a.nf (p := fo.times) (q := num fo vt m) (s := s)
    rw [← a.b, ← hm] at e
    rw [e]
    unfold runN
    by_cases q : fo.times ≤ s + num fo vt m
    · rw [if_pos q, if_pos q]
      exact AllF.ends a fun p hp => h p (List.mem_cons_of_mem _ hp)
    · rw [if_neg q, if_neg q]
      rfl
theorem AllF.endsB (a : AllF bt vt fo) {o : List Nat} (h : ∀ p ∈ o, p < vt.length) : CB.ends bt vt o = (runN fo.times (num fo vt) fo.times o).map (tx fo.front fo.block fo.back) := by
  show endGo bt vt bt o = _
  have e := AllF.ends a (s := fo.times) h
  rw [← a.b] at e
  exact e
theorem lack_perm {t : Int} {a b : List Int} (h : a.Perm b) : lack t a = lack t b := perm_sum (h.map _)
/-- one block, no more taken out than stands there: all orders go and end alike -/
theorem AllF.alike (a : AllF bt vt fo) (hv : vt.length ≤ 4) (h : lack fo.times (vt.map (numb fo)) ≤ fo.times) : alikeB bt vt = true := by
  rw [a.row] at h
  refine alike_true (x := tx fo.front fo.block fo.back ((fo.times : Int) + ((List.range vt.length).map fun m => (num fo vt m : Int) - fo.times).sum).toNat) fun o ho hl => ?_
  have hp := List.isPerm_iff.mp (whole_perm _ hv o ho hl)
  have hlk := lack_perm (t := fo.times) (hp.map fun m => (num fo vt m : Int))
  obtain ⟨e, h1, h2⟩ := run_ok (t := fo.times) (g := num fo vt) o fo.times (by rw [hlk]; exact h)
  rw [a.endsB (ordB_ok hv ho).2, h1]
  have hs := perm_sum (hp.map fun m => (num fo vt m : Int) - fo.times)
  rw [hs] at h2
  rw [← h2, Int.toNat_natCast]
  rfl
/-- more is taken out than stands there: the places that are told clash -/
theorem AllF.clash (a : AllF bt vt fo) (hv : vt.length ≤ 4) (h : (fo.times : Int) < lack fo.times (vt.map (numb fo))) : ∃ o, takeGo fo.times (vt.map (numb fo)) 0 fo.times [] = some o ∧ o ∈ lawOrders vt.length ∧ clashB bt vt o = true := by
  obtain ⟨ms, _, x, q1, q2, q3, q4, q5⟩ := takeGo_some (t := fo.times) (vt.map (numb fo)) 0 fo.times [] h (by omega)
  have hlt : ∀ y ∈ ms ++ [x], y < vt.length := fun y hy => by
    have := (q3 y hy).2.1
    rw [List.length_map] at this
    omega
  have hget : ∀ y ∈ ms ++ [x], (vt.map (numb fo)).getD (y - 0) 0 = (num fo vt y : Int) := fun y hy => by
    have hy' := hlt y hy
    rw [Nat.sub_zero, List.getD_eq_getElem?_getD, List.getElem?_map, List.getElem?_eq_getElem hy', ← (a.at hy').2, List.getD_eq_getElem?_getD, List.getElem?_eq_getElem hy']
    rfl
  have e1 : (ms.map fun y => (vt.map (numb fo)).getD (y - 0) 0) = ms.map fun m => (num fo vt m : Int) := List.map_congr_left fun y hy => hget y (List.mem_append_left _ hy)
  have e2 : ((ms ++ [x]).map fun y => (vt.map (numb fo)).getD (y - 0) 0) = (ms ++ [x]).map fun m => (num fo vt m : Int) := List.map_congr_left fun y hy => hget y hy
  rw [e1] at q4
  rw [e2] at q5
  have hnd : (ms ++ [x]).Nodup := q2.imp fun {a b} h => Nat.ne_of_lt h
  obtain ⟨e, h1, h2⟩ := run_ok (t := fo.times) (g := num fo vt) ms fo.times q4
  have hms : ∀ p ∈ ms, p < vt.length := fun p hp => hlt p (List.mem_append_left _ hp)
  have em : CB.ends bt vt ms = some (tx fo.front fo.block fo.back e) := by rw [a.endsB hms, h1]; rfl
  refine ⟨ms ++ [x], q1, mem_orders hnd hlt, ?_⟩
  -- all that are told take out
  have hneg : ∀ l : List Nat, (∀ y ∈ l, (num fo vt y : Int) < fo.times) → (l.map fun m => (num fo vt m : Int) - fo.times).sum = - lack fo.times (l.map fun m => (num fo vt m : Int)) := by
    intro l
    induction l with
    | nil => intro _; unfold lack; simp
    | cons y l ih =>
      intro hl
      have i1 := ih fun z hz => hl z (List.mem_cons_of_mem _ hz)
      have i2 := hl y List.mem_cons_self
      unfold lack at i1 ⊢
      rw [List.map_cons, List.map_cons, List.map_cons, List.sum_cons, List.sum_cons, i1]
      omega
  have hsm : ∀ y ∈ ms ++ [x], (num fo vt y : Int) < fo.times := fun y hy => by rw [← hget y hy]; exact (q3 y hy).2.2
  rw [hneg ms fun y hy => hsm y (List.mem_append_left _ hy)] at h2
  have hlx : lack fo.times ((ms ++ [x]).map fun m => (num fo vt m : Int)) = lack fo.times (ms.map fun m => (num fo vt m : Int)) + (fo.times - num fo vt x) := by
    have := hsm x (List.mem_append_right _ List.mem_cons_self)
    unfold lack
    rw [List.map_append, List.map_append, List.sum_append, List.map_cons, List.map_nil, List.map_cons, List.map_nil, List.sum_cons, List.sum_nil]
    omega
  rw [hlx] at q5
  have hx := (a.at (hlt x (List.mem_append_right _ List.mem_cons_self))).1
  have eall : CB.ends bt vt (ms ++ [x]) = none := by
    rw [ends_snoc, em]
    show merge bt (vt.getD x []) (tx fo.front fo.block fo.back e) = none
    have em := merge_tx a.nf (p := fo.times) (q := num fo vt x) (s := e)
    rw [← a.b, ← hx, if_neg (by omega)] at em
    exact em
  unfold clashB
  rw [eall, List.dropLast_concat, em]
  simp
/-- what is due -/
theorem AllF.blk (a : AllF bt vt fo) {v0 : Tx} (hb : blockForm bt v0 = some fo) : lawBlk bt v0 vt = if lack fo.times (vt.map (numb fo)) > fo.times then none else some (blockD fo.front fo.block fo.back fo.times (vt.map (numb fo))) := by
  have hmore : ∀ t ∈ vt, moreO fo.front fo.block fo.back t = some (numb fo t) := fun t ht => by
    obtain ⟨n, rfl⟩ := a.v t ht
    rw [moreO_tx a.nf, numb_tx a.nf]
  have h1 : none ∉ rowO fo vt := fun h => by
    obtain ⟨t, ht, e⟩ := List.mem_map.mp h
    rw [hmore t ht] at e
    cases e
  have h2 : rowI fo vt = vt.map (numb fo) := List.map_congr_left fun t ht => by rw [hmore t ht]; rfl
  unfold lawBlk
  rw [lawF_eq, hb]
  show (if none ∈ rowO fo vt then none else if ((rowI fo vt).map fun n => max 0 ((fo.times : Int) - n)).sum > fo.times then none else some (PyData.tuple [.str "block", T fo.front, T fo.block, T fo.back, .int fo.times, T (rowI fo vt)])) = _
  rw [if_neg h1, h2]
  rfl
/-- what is due tells one form of all -/
theorem blk_some {v0 : Tx} {due : PyData} (h : lawBlk bt v0 vt = some due) : ∃ fo, blockForm bt v0 = some fo ∧ AllF bt vt fo ∧ lack fo.times (vt.map (numb fo)) ≤ fo.times := by
  unfold lawBlk at h
  rw [lawF_eq] at h
  cases hb : blockForm bt v0 with
  | none => rw [hb] at h; cases h
  | some fo =>
    rw [hb] at h
    have h' : (if none ∈ rowO fo vt then none else if ((rowI fo vt).map fun n => max 0 ((fo.times : Int) - n)).sum > fo.times then none else some (PyData.tuple [.str "block", T fo.front, T fo.block, T fo.back, .int fo.times, T (rowI fo vt)])) = some due := h
    split at h'
    · cases h'
    · rename_i hn
      obtain ⟨n1, n2, _⟩ := blockForm_some hb
      have a : AllF bt vt fo := ⟨n1, n2, fun t ht => by
        cases hm : moreO fo.front fo.block fo.back t with
        | none => exact absurd (List.mem_map.mpr ⟨t, ht, hm⟩) hn
        | some n =>
          obtain ⟨m, _, e⟩ := moreO_some hm
          exact ⟨m, e⟩⟩
      refine ⟨fo, rfl, a, ?_⟩
      have e := a.blk hb
      apply Int.not_lt.mp
      intro q
      rw [if_pos q] at e
      unfold lawBlk at e
      rw [lawF_eq, hb] at e
      have e' : (if none ∈ rowO fo vt then none else if ((rowI fo vt).map fun n => max 0 ((fo.times : Int) - n)).sum > fo.times then none else some (PyData.tuple [.str "block", T fo.front, T fo.block, T fo.back, .int fo.times, T (rowI fo vt)])) = none := e
      rw [if_neg hn, h'] at e'
      cases e'
end
end CB

/-! M14 -/
set_option Elab.async false
set_option linter.all false
set_option maxRecDepth 100000
set_option maxHeartbeats 4000000
namespace CB
open PySem
/-! ### the told paper -/
inductive Outcome (bt : Tx) (vt : List Tx) : PyData → Prop
  | one {i : Int} : -1 ≤ i → i ≤ 4 → alikeB bt vt = true → Outcome bt vt (oneD i)
  | block {fo : Form} : AllF bt vt fo → tOk fo.block → fo.front.length ≤ 40 → fo.block.length ≤ 40 → fo.back.length ≤ 40 → alikeB bt vt = true → Outcome bt vt (blockD fo.front fo.block fo.back fo.times (vt.map (numb fo)))
  | clash {o : List Nat} : o ∈ lawOrders vt.length → clashB bt vt o = true → alikeB bt vt = false → Outcome bt vt (clashD o)
  | apart {o p : List Nat} : o ∈ lawOrders vt.length → p ∈ lawOrders vt.length → apartB bt vt o p = true → alikeB bt vt = false → Outcome bt vt (apartD o p)
theorem pair_mem {n i j : Nat} (hi : i < n) (hj : j < n) (hij : i ≠ j) : [i, j] ∈ lawOrders n := by
  refine mem_orders (List.nodup_cons.mpr ⟨fun h => hij (List.mem_singleton.mp h), List.nodup_cons.mpr ⟨fun h => (by cases h), List.nodup_nil⟩⟩) fun p hp => ?_
  rcases List.mem_cons.mp hp with z | z
  · rw [z]; exact hi
  · rw [List.mem_singleton.mp z]; exact hj
theorem pair_srt (i j : Nat) : srt (nts [i, j]) = srt (nts [j, i]) := srt_eq.mpr (List.Perm.swap _ _ _)
/-- a fault tells rightly that not all orders are alike -/
theorem fault_right {bt : Tx} {vt : List Tx} {i j : Nat} {d : PyData} (hv : vt.length ≤ 4) (hi : i < vt.length) (hj : j < vt.length) (hij : i ≠ j) (h : faultO bt vt i j = some d) :
    alikeB bt vt = false ∧ ((∃ o ∈ lawOrders vt.length, d = clashD o ∧ clashB bt vt o = true) ∨ ∃ o ∈ lawOrders vt.length, ∃ p ∈ lawOrders vt.length, d = apartD o p ∧ apartB bt vt o p = true) := by
  have m1 := pair_mem hi hj hij
  have m2 := pair_mem hj hi (Ne.symm hij)
  have cl : ∀ {a b : Nat}, [a, b] ∈ lawOrders vt.length → ends bt vt [a, b] = none → clashB bt vt [a, b] = true := fun {a b} _ e => by
    unfold clashB
    rw [e, show ([a, b] : List Nat).dropLast = [a] from rfl, ends_one]
    simp
  unfold faultO at h
  cases h1 : ends bt vt [i, j] with
  | none =>
    rw [h1] at h
    have h : some (PyData.tuple [.str "clash", pairD i j]) = some d := h
    injection h with h
    exact ⟨alike_clash hv m1 h1, .inl ⟨_, m1, h.symm, cl m1 h1⟩⟩
  | some x =>
    rw [h1] at h
    cases h2 : ends bt vt [j, i] with
    | none =>
      rw [h2] at h
      have h : some (PyData.tuple [.str "clash", pairD j i]) = some d := h
      injection h with h
      exact ⟨alike_clash hv m2 h2, .inl ⟨_, m2, h.symm, cl m2 h2⟩⟩
    | some y =>
      rw [h2] at h
      have h : (if x = y then none else some (PyData.tuple [.str "apart", pairD i j, pairD j i])) = some d := h
      by_cases e : x = y
      · rw [if_pos e] at h; cases h
      · rw [if_neg e] at h
        injection h with h
        refine ⟨alike_apart hv m1 m2 (fun z => by simp [or_comm]) h1 h2 e, .inr ⟨_, m1, _, m2, h.symm, ?_⟩⟩
        unfold apartB
        rw [h1, h2, pair_srt]
        simp [e]
theorem first_some {bt : Tx} {vt : List Tx} {i : Nat} {d : PyData} : ∀ {js : List Nat}, firstF bt vt i js = some d → ∃ j ∈ js, faultO bt vt i j = some d
  | [], h => by cases h
  | j :: js, h => by
    unfold firstF at h
    cases hf : faultO bt vt i j with
    | some d' => rw [hf] at h; cases h; exact ⟨j, List.mem_cons_self, hf⟩
    | none =>
      rw [hf] at h
      obtain ⟨p, hp, e⟩ := first_some h
      exact ⟨p, List.mem_cons_of_mem _ hp, e⟩
theorem any_some {bt : Tx} {vt : List Tx} {d : PyData} : ∀ {is : List Nat}, is.Pairwise (· < ·) → anyF bt vt is = some d → ∃ i ∈ is, ∃ j ∈ is, i ≠ j ∧ faultO bt vt i j = some d
  | [], _, h => by cases h
  | i :: is, hp, h => by
    obtain ⟨p1, p2⟩ := List.pairwise_cons.mp hp
    unfold anyF at h
    cases hf : firstF bt vt i is with
    | some d' =>
      rw [hf] at h
      cases h
      obtain ⟨j, hj, e⟩ := first_some hf
      exact ⟨i, List.mem_cons_self, j, List.mem_cons_of_mem _ hj, Nat.ne_of_lt (p1 j hj), e⟩
    | none =>
      rw [hf] at h
      obtain ⟨a, ha, b, hb, e⟩ := any_some p2 h
      exact ⟨a, List.mem_cons_of_mem _ ha, b, List.mem_cons_of_mem _ hb, e⟩
theorem form_len {bt v0 : Tx} {fo : Form} (h : blockForm bt v0 = some fo) (h1 : bt.length ≤ 40) (h2 : v0.length ≤ 40) : fo.front.length ≤ 40 ∧ fo.block.length ≤ 40 ∧ fo.back.length ≤ 40 := by
  obtain ⟨a, b, c⟩ := blockForm_len h h1 h2
  exact ⟨a, c, b⟩
theorem toldOk_many {bt : Tx} {vt : List Tx} {told : PyData} {i j : Nat} {r : List Nat} (hc : chg bt vt = i :: j :: r) : toldOk bt vt told = (match lawBlk bt (vt.getD i []) vt with
    | some due => told = due
    | none => (∃ o ∈ lawOrders vt.length, told = clashD o ∧ clashB bt vt o = true) ∨ ∃ o ∈ lawOrders vt.length, ∃ p ∈ lawOrders vt.length, told = apartD o p ∧ apartB bt vt o p = true) := by
  unfold toldOk
  rw [hc]
  all_goals rfl
theorem paperD_some {bt : Tx} {vt : List Tx} {d : PyData} {i j : Nat} {r : List Nat} (hc : chg bt vt = i :: j :: r) (ha : anyF bt vt (i :: j :: r) = some d) : paperD bt vt = d := by
  unfold paperD
  rw [hc]
  show (match anyF bt vt (i :: j :: r) with | some d => d | none => match blockForm bt (vt.getD i []) with | none => PyData.none | some f => paperF f vt) = d
  rw [ha]
theorem paperD_form {bt : Tx} {vt : List Tx} {fo : Form} {i j : Nat} {r : List Nat} (hc : chg bt vt = i :: j :: r) (ha : anyF bt vt (i :: j :: r) = none) (hb : blockForm bt (vt.getD i []) = some fo) : paperD bt vt = paperF fo vt := by
  unfold paperD
  rw [hc]
  show (match anyF bt vt (i :: j :: r) with | some d => d | none => match blockForm bt (vt.getD i []) with | none => PyData.none | some f => paperF f vt) = _
  rw [ha]
  show (match blockForm bt (vt.getD i []) with | none => PyData.none | some f => paperF f vt) = _
  rw [hb]
theorem told_few {bt : Tx} {vt : List Tx} (gv : Gv bt vt) (h : (chg bt vt).length < 2) : toldOk bt vt (paperD bt vt) ∧ Outcome bt vt (paperD bt vt) := by
  have hv := gv.vl
  have few := alike_few hv h
  cases hc : chg bt vt with
  | nil =>
    have hp : paperD bt vt = oneD (-1) := by unfold paperD; rw [hc]; rfl
    rw [hp]
    refine ⟨?_, .one (by omega) (by omega) few⟩
    unfold toldOk
    rw [hc]
  | cons i r =>
    rw [hc, List.length_cons] at h
    have hr : r = [] := List.length_eq_zero_iff.mp (by omega)
    subst hr
    have hi := (chg_mem.mp (by rw [hc]; exact List.mem_cons_self : i ∈ chg bt vt)).1
    have hp : paperD bt vt = oneD i := by unfold paperD; rw [hc]; rfl
    rw [hp]
    refine ⟨?_, .one (by omega) (by omega) few⟩
    unfold toldOk
    rw [hc]
theorem told_all {bt : Tx} {vt : List Tx} (gv : Gv bt vt) : papOk bt vt ∧ toldOk bt vt (paperD bt vt) ∧ Outcome bt vt (paperD bt vt) := by
  have hv := gv.vl
  refine ⟨fun i j r hc hn => ?_, ?_⟩
  · obtain ⟨fo, hb, _⟩ := all_form hc hn
    exact ⟨fo, hb⟩
  · have hmem : ∀ p ∈ chg bt vt, p < vt.length := fun p hp => (chg_mem.mp hp).1
    have hpw : (chg bt vt).Pairwise (· < ·) := chFrom_pw
    rcases Nat.lt_or_ge (chg bt vt).length 2 with hlt | hge
    · exact told_few gv hlt
    · obtain ⟨i, j, r, hc⟩ : ∃ i j r, chg bt vt = i :: j :: r := by
        match chg bt vt, hge with
        | [], h => exact absurd h (by decide)
        | [_], h => exact absurd h (by show ¬ 2 ≤ 1; decide)
        | i :: j :: r, _ => exact ⟨i, j, r, rfl⟩
      have hi := hmem i (by rw [hc]; exact List.mem_cons_self)
      have hvi := (gv.v _ (getD_mem hi)).2
      rw [toldOk_many hc]
      cases ha : anyF bt vt (i :: j :: r) with
      | some d =>
        rw [paperD_some hc ha]
        obtain ⟨a, ha1, b, hb1, hab, hf⟩ := any_some (hc ▸ hpw) ha
        obtain ⟨h1, h2⟩ := fault_right hv (hmem a (hc ▸ ha1)) (hmem b (hc ▸ hb1)) hab hf
        cases hd : lawBlk bt (vt.getD i []) vt with
        | some due =>
          obtain ⟨fo, _, al, hl⟩ := blk_some hd
          rw [al.alike hv hl] at h1
          cases h1
        | none =>
          refine ⟨h2, ?_⟩
          rcases h2 with ⟨o, ho, rfl, hcl⟩ | ⟨o, ho, p, hp, rfl, hap⟩
          · exact .clash ho hcl h1
          · exact .apart ho hp hap h1
      | none =>
        obtain ⟨fo, hb, al⟩ := all_form hc ha
        obtain ⟨l1, l2, l3⟩ := form_len hb gv.bl hvi
        have hd := al.blk hb
        rw [paperD_form hc ha hb, hd]
        by_cases hl : lack fo.times (vt.map (numb fo)) > fo.times
        · rw [if_pos hl]
          obtain ⟨o, ho, hm, hcl⟩ := al.clash hv hl
          have hp : paperF fo vt = clashD o := by
            unfold paperF
            rw [ho]; rfl
          have hna : alikeB bt vt = false := alike_clash hv hm (by
            unfold clashB at hcl
            simp only [Bool.and_eq_true, Option.isNone_iff_eq_none] at hcl
            exact hcl.2.1)
          rw [hp]
          exact ⟨.inl ⟨o, hm, rfl, hcl⟩, .clash hm hcl hna⟩
        · rw [if_neg hl]
          have hp : paperF fo vt = blockD fo.front fo.block fo.back fo.times (vt.map (numb fo)) := by
            unfold paperF
            rw [takeGo_none _ _ _ _ (by omega)]; rfl
          rw [hp]
          refine ⟨rfl, .block al ?_ l1 l2 l3 (al.alike hv (by omega))⟩
          obtain ⟨_, b1, b2⟩ := blockForm_some hb
          have hin : ∀ {t : Tx} {n : Nat}, tOk t → t = tx fo.front fo.block fo.back n → 1 ≤ n → tOk fo.block := fun {t n} h1 h2 h3 x hx => h1 x (by
            obtain ⟨m, rfl⟩ : ∃ m, n = m + 1 := ⟨n - 1, by omega⟩
            rw [h2]
            unfold tx
            rw [rep_s]
            exact List.mem_append_right _ (List.mem_append_left _ (List.mem_append_left _ hx)))
          by_cases ht : 1 ≤ fo.times
          · exact hin gv.b b1 ht
          · refine hin (gv.v _ (getD_mem hi)).1 b2 ?_
            have hne := (chg_mem.mp (by rw [hc]; exact List.mem_cons_self : i ∈ chg bt vt)).2
            apply Classical.byContradiction
            intro q
            have e1 : fo.times = 0 := by omega
            have e2 : fo.others = 0 := by omega
            rw [e1] at b1
            rw [e2] at b2
            exact hne (b2.trans b1.symm)
/-! ### what is known of it -/
theorem same_refl_one {n : Nat} {i : Int} : sameD 4 (oneD i) (oneD i) = true := by
  rw [show sameD 4 (oneD i) (oneD i) = sameD 4 (.tuple [.str "one", .int i]) (oneD i) from rfl, same_one_one, same_int]; simp
theorem sh_T {t : Tx} (h : ∀ x ∈ t, -1000 ≤ x ∧ x ≤ 1000) : sh (T t) = true ∧ wt (T t) = 1923 * t.length + 3 := by
  obtain ⟨h1, h2⟩ := shs_ints (m := 1000) (by decide) h
  exact ⟨h1, by show wts (t.map PyData.int) + 3 = _; rw [h2]⟩
theorem sh_ord {n : Nat} {o : List Nat} (hn : n ≤ 4) (h : o ∈ lawOrders n) : sh (ordD o) = true ∧ wt (ordD o) ≤ 8000 := by
  obtain ⟨h1, h2⟩ := ordB_ok hn h
  have hl := nodup_len n o h1 h2
  obtain ⟨a, b⟩ := sh_T (t := nts o) fun x hx => by
    obtain ⟨p, hp, rfl⟩ := List.mem_map.mp hx
    have := h2 p hp
    omega
  rw [ordD_T, b]
  refine ⟨a, ?_⟩
  show 1923 * (o.map _).length + 3 ≤ 8000
  rw [List.length_map]
  omega
theorem outcome_told {bt : Tx} {vt : List Tx} (gv : Gv bt vt) {told : PyData} (e : told = paperD bt vt) (ho : Outcome bt vt told) (hg : gd 4 told = true) : Told bt vt told ∧ alikeB bt vt = (decide (tagD told = "one") || decide (tagD told = "block")) := by
  have hv := gv.vl
  cases ho with
  | @one i h1 h2 h3 =>
    refine ⟨⟨e, .one h1 h2, shows_one h1 h2, ?_, hg⟩, ?_⟩
    · rw [show holdsB bt vt (oneD i) = sameD 4 (oneD i) (paperD bt vt) from holds_one, ← e, same_refl_one (n := 0)]
    · rw [h3]; show true = (decide (("one" : Str) = "one") || decide (("one" : Str) = "block")); decide +kernel
  | @block fo al hbk l1 l2 l3 h3 =>
    have hnum : ∀ x ∈ vt.map (numb fo), -1000 ≤ x ∧ x ≤ 1000 := fun x hx => by
      obtain ⟨t, ht, rfl⟩ := List.mem_map.mp hx
      obtain ⟨n, rfl⟩ := al.v t ht
      have hl := (gv.v _ ht).2
      rw [tx_len] at hl
      have hr := List.length_pos_iff.mpr al.nf.prim.1
      have := Nat.le_mul_of_pos_right n hr
      rw [numb_tx al.nf]
      omega
    have htm : (fo.times : Int) ≤ 1000 := by
      have hl := gv.bl
      rw [al.b, tx_len] at hl
      have hr := List.length_pos_iff.mpr al.nf.prim.1
      have := Nat.le_mul_of_pos_right fo.times hr
      omega
    have hlet : ∀ {t : Tx}, tOk t → ∀ x ∈ t, -1000 ≤ x ∧ x ≤ 1000 := fun h x hx => by have := h x hx; omega
    have hb := gv.b
    rw [al.b] at hb
    have hf : tOk fo.front := fun x hx => hb x (by unfold tx; exact List.mem_append_left _ hx)
    have hk : tOk fo.back := fun x hx => hb x (by unfold tx; exact List.mem_append_right _ (List.mem_append_right _ hx))
    obtain ⟨a1, a2⟩ := sh_T (hlet hf)
    obtain ⟨b1, b2⟩ := sh_T (hlet hbk)
    obtain ⟨c1, c2⟩ := sh_T (hlet hk)
    obtain ⟨d1, d2⟩ := sh_T hnum
    have hil : (fo.times : Int).natAbs.log2 < 1920 := by
      by_cases h0 : fo.times = 0
      · rw [h0]; decide
      · have h3 : (fo.times : Int).natAbs < 2 ^ 10 := Nat.lt_of_le_of_lt (show (fo.times : Int).natAbs ≤ 1000 by omega) (by decide)
        have := (Nat.log2_lt (by omega)).mpr h3
        omega
    refine ⟨⟨e, .block al.nf.prim.1 (by omega) (by omega) (by omega) (by rw [List.length_map]), ⟨?_, gd_shaped hg, ?_, .inr ⟨_, rfl⟩⟩, ?_, hg⟩, ?_⟩
    · show (true && (sh (T fo.front) && (sh (T fo.block) && (sh (T fo.back) && (decide ((fo.times : Int).natAbs.log2 < 1920) && (sh (T (vt.map (numb fo))) && true)))))) = true
      rw [a1, b1, c1, d1, decide_eq_true hil]; rfl
    · show (reprText "block").length + 2 + (wt (T fo.front) + 2 + (wt (T fo.block) + 2 + (wt (T fo.back) + 2 + (1921 + 2 + (wt (T (vt.map (numb fo))) + 2 + 0))))) + 3 ≤ _
      have : (reprText "block").length = 7 := by decide +kernel
      rw [this, a2, b2, c2, d2, List.length_map]
      omega
    · rw [show holdsB bt vt (blockD fo.front fo.block fo.back fo.times (vt.map (numb fo))) = sameD 4 (blockD fo.front fo.block fo.back fo.times (vt.map (numb fo))) (paperD bt vt) from holds_block, ← e]
      rw [show sameD 4 (blockD fo.front fo.block fo.back fo.times (vt.map (numb fo))) (blockD fo.front fo.block fo.back fo.times (vt.map (numb fo))) = sameD 4 (.tuple [.str "block", T fo.front, T fo.block, T fo.back, .int fo.times, T (vt.map (numb fo))]) (blockD fo.front fo.block fo.back fo.times (vt.map (numb fo))) from rfl, same_block, same_T, same_T, same_T, same_T, same_int]
      simp
    · rw [h3]; show true = (decide (("block" : Str) = "one") || decide (("block" : Str) = "block")); decide +kernel
  | @clash o h1 h2 h3 =>
    obtain ⟨n1, n2⟩ := ordB_ok hv h1
    have hl := nodup_len _ o n1 n2
    obtain ⟨s1, s2⟩ := sh_ord hv h1
    refine ⟨⟨e, .clash (by omega), ⟨?_, gd_shaped hg, ?_, .inr ⟨_, rfl⟩⟩, ?_, hg⟩, ?_⟩
    · show (true && (sh (ordD o) && true)) = true
      rw [s1]; rfl
    · show (reprText "clash").length + 2 + (wt (ordD o) + 2 + 0) + 3 ≤ _
      have : (reprText "clash").length = 7 := by decide +kernel
      rw [this]; omega
    · rw [holds_clash (ordB_mem hv h1)]; exact h2
    · rw [h3]; show false = (decide (("clash" : Str) = "one") || decide (("clash" : Str) = "block")); decide +kernel
  | @apart o p h1 h2 h3 h4 =>
    obtain ⟨n1, n2⟩ := ordB_ok hv h1
    have hl := nodup_len _ o n1 n2
    obtain ⟨n3, n4⟩ := ordB_ok hv h2
    have hl2 := nodup_len _ p n3 n4
    obtain ⟨s1, s2⟩ := sh_ord hv h1
    obtain ⟨s3, s4⟩ := sh_ord hv h2
    refine ⟨⟨e, .apart (by omega) (by omega), ⟨?_, gd_shaped hg, ?_, .inr ⟨_, rfl⟩⟩, ?_, hg⟩, ?_⟩
    · show (true && (sh (ordD o) && (sh (ordD p) && true))) = true
      rw [s1, s3]; rfl
    · show (reprText "apart").length + 2 + (wt (ordD o) + 2 + (wt (ordD p) + 2 + 0)) + 3 ≤ _
      have : (reprText "apart").length = 7 := by decide +kernel
      rw [this]; omega
    · rw [holds_apart (ordB_mem hv h1) (ordB_mem hv h2)]; exact h3
    · rw [h4]; show false = (decide (("apart" : Str) = "one") || decide (("apart" : Str) = "block")); decide +kernel
theorem okv_gv {bt : Tx} {vt : List Tx} (gv : Gv bt vt) : Okv bt vt := ⟨gv.b, by have := gv.bl; omega, fun t ht => ⟨(gv.v t ht).1, by have := (gv.v t ht).2; omega⟩, by have := gv.vl; omega, gv.ne⟩
theorem maths_all (bt : Tx) (vt : List Tx) (gv : Gv bt vt) : Maths bt vt := by
  obtain ⟨h1, h2, h3⟩ := told_all gv
  obtain ⟨h4, h5⟩ := outcome_told gv rfl h3 (gd_paper (okv_gv gv))
  exact ⟨h1, h2, h4, h5⟩
end CB

/-! H2 -/
set_option Elab.async false
set_option linter.all false
set_option maxRecDepth 100000
set_option maxHeartbeats 0
namespace CB
open PySem PySem.Spec PyProof.Rows L2
abbrev prg : Program := PySem.Challenge.rw_cancelsback_k37_whole_all_orders_of_hand.prog
abbrev ExW : Type := Option (Str × Str × Arguments × FuncBody × Scope × Addr × Addr)
def fnV (K : PySem.W.Frag) (p : He.Defn) : ExW := match K.lookup (He.fAd K p) with
  | some ⟨_, _, .func fd, _⟩ => some (fd.name, fd.qualname, fd.params, fd.body, fd.scope, fd.globals, fd.builtins)
  | _ => none
def ers : List He.Defn := [("InvalidText", some "__init__"), ("InvalidVersions", some "__init__"), ("InvalidOrder", some "__init__")]
def erVal (q : Str) (st : Stmt) : ExW := some ("__init__", q, defArgs st, .stmts (defBody st), defScope st, mainGlobals, builtinsNs)
def ersVal : List ExW := [erVal "InvalidText.__init__" s_InvalidText, erVal "InvalidVersions.__init__" s_InvalidVersions, erVal "InvalidOrder.__init__" s_InvalidOrder]
def closB (K : PySem.W.Frag) (C : Addr) : List (Str × Addr) → Bool
  | [(y, cc)] => decide (y = "__class__") && (match K.lookup cc with
    | some ⟨_, _, .cell (some v), _⟩ => decide (v = .ref C)
    | _ => false)
  | _ => false
def fileB (K : PySem.W.Frag) : Value → Bool
  | .ref cda => (match K.lookup cda with
    | some ⟨_, _, .fields vs, _⟩ => (match (vs[2]? : Option Value) with
      | some (.str f _) => (prg.main.file : Str) == f
      | _ => false)
    | _ => false)
  | _ => false
def inB (K : PySem.W.Frag) (C fI : Addr) : Bool := match K.lookup fI with
  | some ⟨_, _, .func fd, _⟩ => PySem.W.codeIn K fd.code fd.qualname && (closB K C fd.closure && (fileB K fd.code && He.dflB K fd.defaults [.int (-1)]))
  | _ => false
theorem closB_ok {K : PySem.W.Frag} {C : Addr} {cl : List (Str × Addr)} (h : closB K C cl = true) : ∃ cc c d s, cl = [(("__class__" : Str), cc)] ∧ K.lookup cc = some ⟨c, d, .cell (some (.ref C)), s⟩ := by
  unfold closB at h
  split at h
  · rename_i y cc
    rw [Bool.and_eq_true, decide_eq_true_eq] at h
    obtain ⟨rfl, h⟩ := h
    split at h
    · rename_i c d v s hcc
      rw [decide_eq_true_eq] at h
      subst h
      exact ⟨cc, c, d, s, rfl, hcc⟩
    · cases h
  · cases h
theorem fileB_ok {K : PySem.W.Frag} {v : Value} (h : fileB K v = true) : ∃ cda c d vs s tf, v = .ref cda ∧ K.lookup cda = some ⟨c, d, .fields vs, s⟩ ∧ vs[2]? = some (.str prg.main.file tf) := by
  unfold fileB at h
  split at h
  · rename_i cda
    split at h
    · rename_i c d vs s hcd
      split at h
      · rename_i f tf hvs
        have := eq_of_beq h
        subst this
        exact ⟨cda, c, d, vs, s, tf, rfl, hcd, hvs⟩
      · cases h
    · cases h
  · cases h
def erB (K : PySem.W.Frag) (x : Str) : Bool :=
  PySem.W.excInitIn K (He.ga K x) exB "Exception.__new__" && (PySem.W.excOver K (He.ga K x) exB && (PySem.W.hasDictIn K (He.ga K x) && (decide (PySem.W.findIn K (.ref (He.ga K x)) "__init__" = some (some (.ref (He.ma K (He.ga K x) "__init__")))) &&
  (decide (PySem.W.typeIn K (.ref (He.ma K (He.ga K x) "__init__")) = some (.type "function")) && (decide (PySem.W.findIn K (.ref (He.ga K x)) "__setattr__" = some (some (.builtin "object.__setattr__"))) && (decide (PySem.W.takerIn K (He.ga K x) "at" = some none) &&
  (decide (PySem.W.ks_superIn K (He.ga K x) (He.ga K x) "__init__" = some (some (.builtin "Exception.__init__"))) && (decide (PySem.W.subIn K (.ref (He.ga K x)) (.type "Exception") = some true) && (decide (PySem.W.subIn K (.ref (He.ga K x)) (.type "BaseException") = some true) &&
  (decide (PySem.W.mroIn K (He.ga K x) (.ref (He.ga K x)) = some true) && (decide (PySem.W.typeIn K (.ref (He.ga K x)) = some (.type "type")) && (PySem.W.keepIn K (.ref (He.ga K x)) && (decide (PySem.W.nsIn K cStatics "thirdparty.any" = some none) && (inB K (He.ga K x) (He.ma K (He.ga K x) "__init__") &&
  (L2.xfB K (He.ga K x) && decide (PySem.W.findIn K (.ref (He.ga K x)) "at" = some none))))))))))))))))
def exmB (K : PySem.W.Frag) : Bool := ([("InvalidText", "InvalidText", true), ("InvalidText", "InvalidVersions", false), ("InvalidText", "InvalidOrder", false), ("InvalidVersions", "InvalidText", false), ("InvalidVersions", "InvalidVersions", true), ("InvalidVersions", "InvalidOrder", false), ("InvalidOrder", "InvalidText", false), ("InvalidOrder", "InvalidVersions", false), ("InvalidOrder", "InvalidOrder", true)] : List (Str × Str × Bool)).all fun (p : Str × Str × Bool) => decide (PySem.W.exmOne K (.ref (He.ga K p.1)) (.ref (He.ga K p.2.1)) = some p.2.2)
def ex2 (K : PySem.W.Frag) : Bool := erB K "InvalidText" && (erB K "InvalidVersions" && (erB K "InvalidOrder" && exmB K))
abbrev pE : He.Defn := ("_law_errors", none)
def part2 (g : Addr → Option Obj) : PySem.W.Frag := He.frT g (He.asD g 5 ++ [cStatics])
def tabB2 (g : Addr → Option Obj) (K : PySem.W.Frag) : Bool := PySem.W.codeHdIn K (He.cT K pE).1 (He.cT K pE).2 && (match g (He.cT K pE).2 with
  | some o => He.emptyTab o
  | none => false)
abbrev Al2 : Type := He.AlD × Bool × List ExW
def obs2 (g : Addr → Option Obj) : Al2 := (He.obsD fa fn (part2 g), ex2 (part2 g) && tabB2 g (part2 g), ers.map (fnV (part2 g)))
/-- what the head tells of the written part K -/
structure Says2 (h : Heap) (K : PySem.W.Frag) : Prop where
  d : He.SaysD fa fn K
  more : ex2 K = true
  v : ers.map (fnV K) = ersVal
  hd : PySem.W.codeHdIn K (He.cT K pE).1 (He.cT K pE).2 = true
  out : K.lookup (He.cT K pE).2 = none
  emp : h.get? (He.cT K pE).2 = some { cls := .none, data := .fields #[] }
theorem says2_of {h : Heap} (e : obs2 h.get? = (He.valD fn, true, ersVal)) : Says2 h (part2 h.get?) := by
  obtain ⟨e1, e2, e3⟩ : He.obsD fa fn (part2 h.get?) = He.valD fn ∧ (ex2 (part2 h.get?) && tabB2 h.get? (part2 h.get?)) = true ∧ ers.map (fnV (part2 h.get?)) = ersVal := by
    unfold obs2 at e
    exact ⟨congrArg (·.1) e, congrArg (·.2.1) e, congrArg (·.2.2) e⟩
  rw [Bool.and_eq_true] at e2
  have e4 := e2.2
  unfold tabB2 at e4
  rw [Bool.and_eq_true] at e4
  have e5 := e4.2
  cases q : h.get? (He.cT (part2 h.get?) pE).2 with
  | none => rw [q] at e5; cases e5
  | some o =>
    rw [q] at e5
    exact ⟨e1, e2.1, e3, e4.1, He.frT_none q e5, by rw [q, He.emptyTab_eq e5]⟩
def hk2 : PySem.W.Hook where
  α := Al2
  obs := fun s => obs2 s.heap.get?
  val := fun _ => (He.valD fn, true, ersVal)
  says := fun _ h => ∃ K : PySem.W.Frag, K.In h ∧ Says2 h K
  of := fun _ _ e => ⟨_, He.frT_in, says2_of e⟩
  keeps := fun _ _ _ ⟨K, hK, c⟩ k => ⟨K, PySem.W.Frag.In.keeps hK k, ⟨c.d, c.more, c.v, c.hd, c.out, k _ _ c.emp⟩⟩
def ob2 (s : PySem.W.SharedT) : Al2 := obs2 (HandSHeadRun.getT s)
theorem ob2_eq (s : PySem.W.SharedT) : ob2 s = hk2.obs s.abs := by
  have e : HandSHeadRun.getT s = s.abs.heap.get? := funext (HandSHeadRun.getT_eq s)
  show obs2 (HandSHeadRun.getT s) = obs2 s.abs.heap.get?
  rw [e]
end CB

/-! H3 -/
set_option Elab.async false
set_option linter.all false
set_option maxRecDepth 100000
set_option maxHeartbeats 4000000
namespace CB
open PySem PySem.Spec PyProof.Rows L2
theorem callEq1 {p0 p1 p2 pc p3 : Pos} {k : Nat} {msg : Str} (hl : (p2.endLine == p3.line) = true) : CallEq p0 p1 p2 pc p3 k msg := fun env => by
  refine ⟨L2.plainOf (.Call (.Name "super" p0) [] [] p1) env, ?_⟩
  rw [arm_eval_Call]
  have e : (fun ov => methodCall (.Call (.Name "super" p0) [] [] p1) "__init__" p2 p3 env ov ([Expr.Constant (.str msg) k pc].length + ([] : List Keyword).length) (backTo p3 (starEach [.Constant (.str msg) k pc] env)) (backToKw p3 (keywordEach [] env))) = fun ov => (do
      let (f, first) ← holding [ov] (getMethod ov "__init__" (L2.plainOf (.Call (.Name "super" p0) [] [] p1) env))
      callWith p3 f first (backTo p3 (starEach [.Constant (.str msg) k pc] env)) []) := funext fun ov => L2.mcall_line (by rfl) hl
  have key : ∀ t : Value → Sem Value, (fun ov => methodCall (.Call (.Name "super" p0) [] [] p1) "__init__" p2 p3 env ov ([Expr.Constant (.str msg) k pc].length + ([] : List Keyword).length) (backTo p3 (starEach [.Constant (.str msg) k pc] env)) (backToKw p3 (keywordEach [] env))) = t → (do
      let ov ← attributeBase (.Call (.Name "super" p0) [] [] p1) "__init__" env (eval (.Call (.Name "super" p0) [] [] p1) env)
      standAt p2.atName
      methodCall (.Call (.Name "super" p0) [] [] p1) "__init__" p2 p3 env ov ([Expr.Constant (.str msg) k pc].length + ([] : List Keyword).length) (backTo p3 (starEach [.Constant (.str msg) k pc] env)) (backToKw p3 (keywordEach [] env))) = (do
      let ov ← attributeBase (.Call (.Name "super" p0) [] [] p1) "__init__" env (eval (.Call (.Name "super" p0) [] [] p1) env)
      standAt p2.atName
      t ov) := fun t h => by rw [← h]
  exact key _ e
/-- the __init__ of an exception's class, by its text -/
theorem inB_ok {K : PySem.W.Frag} {C fI : Addr} {q : Str} {st : Stmt} {p0 p1 p2 pc p3 p4 q0 q1 q2 q3 : Pos} {k : Nat} {msg : Str} {a1 a2 : Arg} (h : inB K C fI = true)
    (hv : (match K.lookup fI with
      | some ⟨_, _, .func fd, _⟩ => some (fd.name, fd.qualname, fd.params, fd.body, fd.scope, fd.globals, fd.builtins)
      | _ => none : ExW) = erVal q st) (hb : defBody st = initBody p0 p1 p2 pc p3 p4 q0 q1 q2 q3 k msg) (hm : msg.length ≤ 1000) (ha1 : (defArgs st).posonlyargs = []) (ha2 : (defArgs st).args = [a1, a2]) (ha3 : a1.arg = "self")
    (hbind : ∀ (Td : Addr) (kV doc pm : Value) (an : Option Addr) (cda : Addr) (ct : Value) (cc : Addr) (us its : List Value), us.length = 2 → its.length = 1 → ∃ kk, bindArgs (PySem.W.ksFn "__init__" q (defArgs st) (initBody p0 p1 p2 pc p3 p4 q0 q1 q2 q3 k msg) (defScope st) (.ref Td) kV doc pm an (.ref cda) ct cc) ⟨us, []⟩ = seqItems? (.ref Td) >>= kk ∧ kk (some its.toArray) = pure ([("self" : Str), ("at" : Str)].zip us))
    (hn : (defScope st).names = initNames) (hce : CallEq p0 p1 p2 pc p3 k msg) (hk1 : (defScope st).kind = .function) (hk2 : (defScope st).isCoroutine = false) (hk3 : (defScope st).isGenerator = false) :
    ∃ (oc : Value) (od : Option Addr) (osl : Array (Option Value)) (qual : Str) (params : Arguments) (scope : Scope) (dV kV doc pm : Value) (an : Option Addr) (cda : Addr) (ct : Value) (cc : Addr) (p0 p1 p2 pc p3 p4 q0 q1 q2 q3 : Pos) (k : Nat) (msg : Str) (cl : Value) (cld : Option Addr) (csl : Array (Option Value))
      (ccl : Value) (cdd : Option Addr) (vs : Array Value) (ccs : Array (Option Value)) (tf : Tok) (a1 a2 : Arg),
    K.lookup fI = some ⟨oc, od, .func (PySem.W.ksFn "__init__" qual params (initBody p0 p1 p2 pc p3 p4 q0 q1 q2 q3 k msg) scope dV kV doc pm an (.ref cda) ct cc), osl⟩ ∧ PySem.W.codeIn K (.ref cda) qual = true ∧
    K.lookup cc = some ⟨cl, cld, .cell (some (.ref C)), csl⟩ ∧ K.lookup cda = some ⟨ccl, cdd, .fields vs, ccs⟩ ∧ vs[2]? = some (.str prg.main.file tf) ∧ msg.length ≤ 1000 ∧
    params.posonlyargs = [] ∧ params.args = [a1, a2] ∧ a1.arg = "self" ∧
    (∀ (s : Shared) (us : List Value), K.In s.heap → us.length = 2 → BindsTo s (PySem.W.ksFn "__init__" qual params (initBody p0 p1 p2 pc p3 p4 q0 q1 q2 q3 k msg) scope dV kV doc pm an (.ref cda) ct cc) ⟨us, []⟩ ([("self" : Str), ("at" : Str)].zip us)) ∧
    scope.names = initNames ∧ CallEq p0 p1 p2 pc p3 k msg ∧ scope.kind = .function ∧ scope.isCoroutine = false ∧ scope.isGenerator = false := by
  unfold inB at h
  rcases hl : K.lookup fI with _ | ⟨oc, od, dt, osl⟩
  · rw [hl] at h; cases h
  · rw [hl] at h hv
    cases dt with
    | func fd =>
      obtain ⟨n1, n2, n3, n4, n5, n6, n7, n8, n9, n10, n11, n12, n13, n14, n15⟩ := fd
      have hv' : (some (n1, n2, n3, n4, n5, n6, n15) : ExW) = some (("__init__" : Str), q, defArgs st, FuncBody.stmts (defBody st), defScope st, mainGlobals, builtinsNs) := hv
      simp only [Option.some.injEq, Prod.mk.injEq] at hv'
      obtain ⟨h1, h2, h3, h4, h5, h6, h7⟩ := hv'
      subst h1 h2 h3 h4 h5 h6 h7
      have h' : (PySem.W.codeIn K n13 n2 && (closB K C n7 && (fileB K n13 && He.dflB K n8 [.int (-1)]))) = true := h
      rw [Bool.and_eq_true, Bool.and_eq_true, Bool.and_eq_true] at h'
      obtain ⟨c1, c2, c3, c4⟩ := h'
      obtain ⟨cc, cl, cld, csl, rfl, ecc⟩ := closB_ok c2
      obtain ⟨cda, ccl, cdd, vs, ccs, tf, rfl, ecd, evs⟩ := fileB_ok c3
      rcases He.dflB_ok c4 with ⟨e, _⟩ | ⟨_, Td, o, its, m, rfl, lT, oT, rT⟩
      · cases e
      have hbd : ∀ (s : Shared) (us : List Value), K.In s.heap → us.length = 2 → BindsTo s (PySem.W.ksFn "__init__" n2 (defArgs st) (initBody p0 p1 p2 pc p3 p4 q0 q1 q2 q3 k msg) (defScope st) (.ref Td) n9 n10 n11 n12 (.ref cda) n14 cc) ⟨us, []⟩ ([("self" : Str), ("at" : Str)].zip us) := fun s us X hus => by
        obtain ⟨kk, e1, e2⟩ := hbind Td n9 n10 n11 n12 cda n14 cc us its hus rT.length.symm
        refine BindsTo.of_looks fun M => ?_
        rw [e1]
        exact looks_items X lT oT (.of_pure e2)
      exact ⟨oc, od, osl, n2, defArgs st, defScope st, .ref Td, n9, n10, n11, n12, cda, n14, cc, p0, p1, p2, pc, p3, p4, q0, q1, q2, q3, k, msg, cl, cld, csl, ccl, cdd, vs, ccs, tf, a1, a2, by rw [← hb], c1, ecc, ecd, evs, hm, ha1, ha2, ha3, hbd, hn, hce, hk1, hk2, hk3⟩
    | _ => cases h
/-- what the text of an exception's __init__ is -/
structure TxtOk (q : Str) (st : Stmt) : Prop where
  ex : ∃ (p0 p1 p2 pc p3 p4 q0 q1 q2 q3 : Pos) (k : Nat) (msg : Str) (a1 a2 : Arg), defBody st = initBody p0 p1 p2 pc p3 p4 q0 q1 q2 q3 k msg ∧ msg.length ≤ 1000 ∧ (defArgs st).posonlyargs = [] ∧ (defArgs st).args = [a1, a2] ∧ a1.arg = "self" ∧
    (∀ (Td : Addr) (kV doc pm : Value) (an : Option Addr) (cda : Addr) (ct : Value) (cc : Addr) (us its : List Value), us.length = 2 → its.length = 1 → ∃ kk, bindArgs (PySem.W.ksFn "__init__" q (defArgs st) (initBody p0 p1 p2 pc p3 p4 q0 q1 q2 q3 k msg) (defScope st) (.ref Td) kV doc pm an (.ref cda) ct cc) ⟨us, []⟩ = seqItems? (.ref Td) >>= kk ∧ kk (some its.toArray) = pure ([("self" : Str), ("at" : Str)].zip us)) ∧
    (defScope st).names = initNames ∧ CallEq p0 p1 p2 pc p3 k msg ∧ (defScope st).kind = .function ∧ (defScope st).isCoroutine = false ∧ (defScope st).isGenerator = false
theorem txt1 : TxtOk "InvalidText.__init__" s_InvalidText := ⟨_, _, _, _, _, _, _, _, _, _, _, _, _, _, rfl, by decide +kernel, rfl, rfl, rfl, fun _ _ _ _ _ _ _ _ us its hl hi => (match us, its, hl, hi with | [_, _], [_], _, _ => ⟨_, rfl, rfl⟩), rfl, callEq1 (by rfl), rfl, rfl, rfl⟩
theorem txt2 : TxtOk "InvalidVersions.__init__" s_InvalidVersions := ⟨_, _, _, _, _, _, _, _, _, _, _, _, _, _, rfl, by decide +kernel, rfl, rfl, rfl, fun _ _ _ _ _ _ _ _ us its hl hi => (match us, its, hl, hi with | [_, _], [_], _, _ => ⟨_, rfl, rfl⟩), rfl, callEq1 (by rfl), rfl, rfl, rfl⟩
theorem txt3 : TxtOk "InvalidOrder.__init__" s_InvalidOrder := ⟨_, _, _, _, _, _, _, _, _, _, _, _, _, _, rfl, by decide +kernel, rfl, rfl, rfl, fun _ _ _ _ _ _ _ _ us its hl hi => (match us, its, hl, hi with | [_, _], [_], _, _ => ⟨_, rfl, rfl⟩), rfl, callEq1 (by rfl), rfl, rfl, rfl⟩
theorem erC_of {K : PySem.W.Frag} {x q : Str} {st : Stmt} (h : erB K x = true) (hv : fnV K (x, some "__init__") = erVal q st) (T : TxtOk q st) :
    ErC K (He.ga K x) (He.ma K (He.ga K x) "__init__") prg.main.file ∧ XfC K (He.ga K x) ∧ PySem.W.findIn K (.ref (He.ga K x)) "at" = some none := by
  unfold erB at h
  simp only [Bool.and_eq_true, decide_eq_true_eq] at h
  obtain ⟨h1, h2, h3, h4, h5, h6, h7, h8, h9, h10, h11, h12, h13, h14, h15, h16, h17⟩ := h
  obtain ⟨p0, p1, p2, pc, p3, p4, q0, q1, q2, q3, k, msg, a1, a2, t1, t2, t3, t4, t5, t6, t7, t8, t9, t10, t11⟩ := T.ex
  exact ⟨⟨h1, h2, h3, h4, h5, h6, h7, h8, h9, h10, h11, h12, h13, h14, inB_ok h15 hv t1 t2 t3 t4 t5 t6 t7 t8 t9 t10 t11⟩, xfB_ok h16, h17⟩
theorem says_er {h : Heap} {K : PySem.W.Frag} (c : Says2 h K) (k : EK) : ErC K (eka K k) (He.ma K (eka K k) "__init__") prg.main.file ∧ XfC K (eka K k) ∧ PySem.W.findIn K (.ref (eka K k)) "at" = some none := by
  have h := c.more
  have v := c.v
  unfold ex2 at h
  simp only [Bool.and_eq_true] at h
  obtain ⟨h1, h2, h3, _⟩ := h
  have v0 : (ers.map (fnV K))[0]? = ersVal[0]? := by rw [v]
  have v1 : (ers.map (fnV K))[1]? = ersVal[1]? := by rw [v]
  have v2 : (ers.map (fnV K))[2]? = ersVal[2]? := by rw [v]
  cases k with
  | text => exact erC_of h1 (Option.some.inj v0) txt1
  | versions => exact erC_of h2 (Option.some.inj v1) txt2
  | order => exact erC_of h3 (Option.some.inj v2) txt3
theorem says_exm {h : Heap} {K : PySem.W.Frag} (c : Says2 h K) : exmB K = true := by
  have h := c.more
  unfold ex2 at h
  simp only [Bool.and_eq_true] at h
  exact h.2.2.2
end CB

/-! H6 -/
set_option Elab.async false
set_option linter.all false
set_option maxRecDepth 100000
set_option maxHeartbeats 4000000
/-! the law's call from where the top has left the heap, for a promise that wants to know that nothing is being shown around it -/
namespace CB
open PySem PySem.Spec PyProof.Rows L2
abbrev lstO (vs : List Value) : Obj := { cls := .type "list", data := .seq vs.toArray }
/-- tracked at the start: the table at Pt, and the script at a if K does not tell it -/
def startH (K : Fg) (a Pt : Addr) (vs : List Value) (ns : Tx) : Hp := fun b => if b = Pt then some (.tbl #[]) else if b = a ∧ K.lookup a = none then some (.frz (lstO vs) (.lst (ns.map V.int))) else none
section
variable {P : Program} {w : World} {K : Fg} {mg mb : Str → Option Value} {a c Pt : Addr} {s : Shared} {vs : List Value} {ns : Tx}
theorem startH_t : startH K a Pt vs ns Pt = some (.tbl #[]) := if_pos rfl
theorem startH_some {b : Addr} {u : HO} (h : startH K a Pt vs ns b = some u) : (b = Pt ∧ u = .tbl #[]) ∨ (b = a ∧ K.lookup a = none ∧ u = .frz (lstO vs) (.lst (ns.map V.int))) := by
  unfold startH at h
  split at h
  · rename_i e; exact .inl ⟨e, (Option.some.inj h).symm⟩
  · split at h
    · rename_i e; exact .inr ⟨e.1, e.2, (Option.some.inj h).symm⟩
    · cases h
structure At0 (K : Fg) (mg mb : Str → Option Value) (a c Pt : Addr) (vs : List Value) (ns : Tx) (s : Shared) : Prop where
  kin : K.In s.heap
  glob : s.heap.Ns mainGlobals mg
  blt : s.heap.Ns builtinsNs mb
  boot : ∀ x : Str, x ≠ "__name__" → mb x = bootBuiltins x
  lim : s.heap.NoLimit
  gens : s.gens = #[]
  tab : s.heap.get? Pt = some { cls := .none, data := .fields #[] }
  out : K.lookup Pt = none
  code : PySem.W.CodeHd s.heap c Pt
  main : ∃ (bm : Addr) (ob : Obj), mg "__builtins__" = some (.ref bm) ∧ bm ≠ builtinsNs ∧ s.heap.get? bm = some ob ∧ ob.cls = .type "module" ∧ ob.dict = some builtinsNs ∧ ob.data = .plain
  lst : s.heap.get? a = some (lstO vs)
  vals : IntsAre vs ns
  len : ns.length ≤ sizeLine
theorem At0.apart (h : At0 K mg mb a c Pt vs ns s) : a ≠ Pt := fun e => by
  have q := h.lst
  rw [e, h.tab] at q
  cases Option.some.inj q
theorem At0.seq (h : At0 K mg mb a c Pt vs ns s) : SqL K (startH K a Pt vs ns) a (ns.map V.int) := by
  cases q : K.lookup a with
  | none => exact .inl (.inr ⟨lstO vs, (if_neg h.apart).trans (if_pos ⟨rfl, q⟩)⟩)
  | some o =>
    have e := h.kin a o q
    rw [h.lst] at e
    cases e
    exact .inr ⟨_, vs.toArray, _, q, rfl, rfl, rfl, by rw [List.size_toArray, h.vals.length]; exact h.len, by simpa using vals_ints h.vals⟩
theorem At0.hok (h : At0 K mg mb a c Pt vs ns s) : HOk P w (startH K a Pt vs ns) s.heap := fun b u e => by
  rcases startH_some e with ⟨rfl, rfl⟩ | ⟨rfl, _, rfl⟩
  · exact h.tab
  · exact ⟨h.lst, by rw [List.length_map]; exact h.len, vs, _, vals_ints h.vals, h.lst⟩
/-- what stands untracked -/
theorem At0.stands (h : At0 K mg mb a c Pt vs ns s) {b : Addr} {o : Obj} (e : s.heap.get? b = some o) (h1 : o ≠ lstO vs) (h2 : o ≠ { cls := .none, data := .fields #[] }) : (hidT s.heap (startH K a Pt vs ns)).get? b = some o := hidT_get e (by
  cases q : startH K a Pt vs ns b with
  | none => rfl
  | some u =>
    rcases startH_some q with ⟨rfl, _⟩ | ⟨rfl, _, _⟩
    · rw [h.tab] at e; exact absurd (Option.some.inj e).symm h2
    · rw [h.lst] at e; exact absurd (Option.some.inj e).symm h1)
theorem At0.nsOk (h : At0 K mg mb a c Pt vs ns s) {b : Addr} {m : Str → Option Value} : s.heap.Ns b m → (hidT s.heap (startH K a Pt vs ns)).Ns b m := fun ⟨o, es, ep, e, d, r⟩ => ⟨o, es, ep, h.stands e (fun z => by rw [z] at d; cases d) (fun z => by rw [z] at d; cases d), d, r⟩
theorem At0.kin0 (h : At0 K mg mb a c Pt vs ns s) : K.In (hidT s.heap (startH K a Pt vs ns)) := fun b o e => hidT_get (h.kin b o e) (by
  cases q : startH K a Pt vs ns b with
  | none => rfl
  | some u =>
    rcases startH_some q with ⟨rfl, _⟩ | ⟨rfl, n, _⟩
    · rw [h.out] at e; cases e
    · rw [n] at e; cases e)
theorem At0.tabB (h : At0 K mg mb a c Pt vs ns s) : LamX.TabB (hidT s.heap (startH K a Pt vs ns)) mg c Pt := by
  refine ⟨?_, ?_, fun z => ?_⟩
  · obtain ⟨o, us, file, tf, flags, tg, inF, text, tt, e1, r1, r2, r3, r⟩ := h.code
    exact ⟨o, us, file, tf, flags, tg, inF, text, tt, h.stands e1 (fun z => by rw [z] at r2; cases r2) (fun z => by rw [z] at r2; cases r2; simp at r3), r1, r2, r3, r⟩
  · obtain ⟨bm, ob, b1, b2, b3, b4, b5, b6⟩ := h.main
    have nG : bm ≠ mainGlobals := fun q => by
      obtain ⟨o, es, ep, e, hd, _⟩ := h.glob
      rw [q, e] at b3
      cases b3
      rw [hd] at b6
      cases b6
    have nP : bm ≠ Pt := fun q => by
      rw [q, h.tab] at b3
      cases b3
      cases b6
    exact ⟨bm, ob, b1, b2, nG, nP, h.stands b3 (fun z => by rw [z] at b6; cases b6) (fun z => by rw [z] at b6; cases b6), b4, b5, b6⟩
  · obtain ⟨o, es, ep, e, hd, _⟩ := h.glob
    rw [z, h.tab] at e
    cases e
    cases hd
theorem At0.env0 (h : At0 K mg mb a c Pt vs ns s) : Env0 P w K mg (hidT s.heap (startH K a Pt vs ns)) callerA [] s (startH K a Pt vs ns) :=
  ⟨rfl, ⟨h.kin0, h.nsOk h.glob, ⟨mb, h.nsOk h.blt, h.boot⟩, let ⟨mc, h1, h2⟩ := h.lim; ⟨mc, h.nsOk h1, h2⟩⟩, fun b o e => of_hidT e, Nat.le_of_eq (hidT_size _ _), trivial, fun b hb => absurd (show b ∈ ([] : List Addr) from hb) (by simp), h.hok, .of_eq h.gens⟩
theorem call_tabs {k : Nat} {fa : Addr} {fd : FuncData} {x : Str} {sp : Sp} (h : At0 K mg mb a c Pt vs ns s) (hr : Room k callerA) (F : ∀ base : Heap, K.In base → base.Ns mainGlobals mg → LamX.TabB base mg c Pt → FnOkG P w K mg base (L2.CX P w) k fa fd [x] sp)
    (hbind : BindsTo s fd ⟨[.ref a], []⟩ [(x, .ref a)]) (hsp : ∀ H : Hp, H Pt = some (.tbl #[]) → SqL K H a (ns.map V.int) → sp [.ref a] H (fun v _ => v = .bl true) fun _ _ _ => False) :
    codeAny (model P w) callerA (.call (.ref fa) ⟨[.ref a], []⟩) (fun r s' => r = .ok (.ret (.bool true)) ∧ OldK s.heap s'.heap ∧ s'.os = s.os ∧ AllBare s'.gens) s := by
  refine codeAny_mono ((F _ h.kin0 (h.nsOk h.glob) h.tabB).run callerA [] s (startH K a Pt vs ns) ⟨[.ref a], []⟩ [.ref a] [.ref a] _ _ hr rfl h.env0 hbind (.cons rfl .nil) (hsp _ startH_t h.seq)) fun r s' z => ?_
  rcases r with e | fl
  · obtain ⟨_, _, _, _, _, _, _, _, _, _, _, _, f⟩ := z
    exact f.elim
  · cases fl with
    | ret u =>
      obtain ⟨v, H', os, bare, un, hok, r', q⟩ := z
      have q' : v = .bl true := q
      subst q'
      obtain rfl : u = Value.bool true := r'
      obtain ⟨more, hm⟩ := un.tbls Pt #[] startH_t
      have hgrown : s'.heap.get? Pt = some { cls := .none, data := .fields (#[] ++ more) } := hok Pt _ hm
      have keeps : ∀ b o, b ≠ Pt → s.heap.get? b = some o → s'.heap.get? b = some o := fun b o nb e => by
        cases q : startH K a Pt vs ns b with
        | none => exact un.keep b o e q (by intro z; exact absurd (show b ∈ ([] : List Addr) from z) (by simp)) (by simp)
        | some u =>
          rcases startH_some q with ⟨rfl, _⟩ | ⟨rfl, _, rfl⟩
          · exact absurd rfl nb
          · have z2 := hok b _ (un.frzs b _ _ q)
            rw [h.lst] at e
            cases e
            exact z2.1
      refine ⟨rfl, ⟨fun b o e => ?_, fun b o e => ?_⟩, os, bare⟩
      · by_cases hb : b = Pt
        · subst hb
          rw [h.tab] at e
          cases e
          exact .inr (.inl ⟨(h.code.tab h.tab).isCodeTable, rfl, #[], #[] ++ more, rfl, by rw [Array.empty_append]; exact hgrown⟩)
        · exact .inl (keeps b o hb e)
      · by_cases hb : b = Pt
        · rw [hb]; exact ⟨_, hgrown⟩
        · exact ⟨o, keeps b o hb e⟩
    | _ => exact False.elim z
/-- the row's walk -/
theorem walk_tabs {l : PySem.W.OpenLaw} {n k : Nat} {q : Program} {loose : List Str} {XP : (Str → Option Value) → Heap → Prop} {YP : World → Heap → Prop} {d : DefRec} {x : Str} {sp : PySem.W.Frag → Addr → Sp}
    (hn : l.most = some n) (hn2 : n ≤ sizeLine) (hdf : d.params.defaults = []) (hr : Room k callerA)
    (F : ∀ (w : World) (mg : Str → Option Value) (fa : Addr) (h : Heap), YP w h → h.Ns mainGlobals mg → mg d.name = some (.ref fa) → ∃ (K : PySem.W.Frag) (c Pt : Addr) (fd : FuncData), K.In h ∧ h.get? Pt = some { cls := .none, data := .fields #[] } ∧ K.lookup Pt = none ∧ PySem.W.CodeHd h c Pt ∧
      (∀ (s : Shared) (u : Value), BindsTo s fd ⟨[u], []⟩ [(x, u)]) ∧ (∀ (H : Hp) (a : Addr) (ns : List Int), ns.length ≤ n → H Pt = some (.tbl #[]) → SqL K H a (ns.map V.int) → sp K Pt [.ref a] H (fun v _ => v = .bl true) fun _ _ _ => False) ∧
      ∀ base : Heap, K.In base → base.Ns mainGlobals mg → LamX.TabB base mg c Pt → FnOkG l.prog w K mg base (L2.CX l.prog w) k fa fd [x] (sp K Pt)) :
    PySem.W.WalkO q loose XP YP l.row.toRowW d [] (fun f vs => PySem.call f vs) := by
  refine Att.attach_callB hn hdf fun w s₀ s₁ mg mb fa o pm cd doc a vs ns G Y ho hd hcd hmg hobj hints hlen hbits hg => ?_
  obtain ⟨K, c, Pt, fd, KX, hT, nT, C, hb, hsp, hF⟩ := F w mg fa _ Y G.T.g hmg
  exact call_tabs ⟨KX, G.T.g, G.T.b, G.T.builtins, G.T.nolimit, hg, hT, nT, C, G.T.bmain, hobj, hints, Nat.le_trans hlen hn2⟩ hr hF (hb s₁ (.ref a)) fun H hH hS => hsp H a ns hlen hH hS
end
end CB

/-! H4 -/
set_option Elab.async false
set_option linter.all false
set_option maxRecDepth 100000
set_option maxHeartbeats 0
namespace CB
open PySem PySem.Spec PyProof.Rows L2
theorem run2 (w : World) : HandSHeadRun.RunEq R (PySem.W.view R.prog [59]) hk2 ob2 4000 loose w := by
  intro os
  kernel_rfl
end CB

/-! H5 -/
set_option Elab.async false
set_option linter.all false
set_option maxRecDepth 100000
set_option maxHeartbeats 4000000
namespace CB
open PySem PySem.Spec PyProof.Rows L2
/-- parameters by their names alone -/
theorem bindsK {K : PySem.W.Frag} {x qual : Str} {params : Arguments} {body : List Stmt} {scope : Scope} {f : Addr} {fd : FuncData} {ps : List Str} (F : FunD K x qual params body scope [] [] f fd)
    (h : ∀ (kV doc pm : Value) (an : Option Addr) (cdv ct : Value) (ws : List Value), ws.length = ps.length → bindArgs (PySem.W.fnOf x qual params body scope .none kV doc pm an cdv ct) ⟨[], ps.zip ws⟩ = pure (ps.zip ws)) (s : Shared) (ws : List Value) (_ : K.In s.heap) (hl : ws.length = ps.length) : BindsTo s fd ⟨[], ps.zip ws⟩ (ps.zip ws) := by
  obtain ⟨oc, od, dV, kV, doc, pm, an, cdv, ct, osl, rfl, lk, hcd, hD, hK⟩ := F.ex
  rcases hD with ⟨_, rfl⟩ | ⟨e, _⟩
  · exact .of_eq (h kV doc pm an cdv ct ws hl)
  · exact absurd rfl e
theorem same0 {P : Program} {w : World} {K : PySem.W.Frag} {mg : Str → Option Value} {base : Heap} {CX : CXT} {k : Nat} {f : Addr} {fd : FuncData} {ps : List Str} : FnOk P w K mg base CX k f fd ps (spD K (F_same 0)) :=
  ⟨fun vs H Q E ⟨M, ds, r, _, _, hf, _⟩ => (by obtain ⟨v, p, _, _, hp, _⟩ := hf; cases hp), fun A outer s H args us vs Q E hr e0 hb hv ⟨M, ds, r, _, _, hf, _⟩ => by obtain ⟨v, p, _, _, hp, _⟩ := hf; cases hp⟩
theorem facts {w : World} {K : PySem.W.Frag} {h : Heap} {mg : Str → Option Value} {base : Heap} (KX : K.In h) (G : h.Ns mainGlobals mg) (c : Says2 h K) (maths : ∀ bt vt, Gv bt vt → Maths bt vt) {Pt : Addr} (TBc : LamX.TabB base mg (He.codeOf K pE) Pt) :
    ∀ fd : FuncData, FnP K "law" s_law [] fd → FnOkG prg w K mg base (L2.CX prg w) 16 (He.ga K "law") fd ["_law_script"] (spLaw K [(Pt, ("_law_errors.<locals>.<lambda>" : Str))]) := by
  intro fd_law U_law
  have hTb : ([(Pt, ("_law_errors.<locals>.<lambda>" : Str))] : Tbl) = [(Pt, ("_law_errors.<locals>.<lambda>" : Str))] := rfl
  have eT : ∀ k : EK, ErT prg K mg k := fun k => by
    obtain ⟨e1, _, _⟩ := says_er c k
    refine ⟨⟨_, _, e1, by simp⟩, ?_, He.free_ok KX G (c.d.fact 72 (f := .free "super") rfl), by kernel_rfl⟩
    cases k with
    | text => exact He.glo_ok KX G (c.d.fact 1 (f := .glo "InvalidText") rfl)
    | versions => exact He.glo_ok KX G (c.d.fact 2 (f := .glo "InvalidVersions") rfl)
    | order => exact He.glo_ok KX G (c.d.fact 3 (f := .glo "InvalidOrder") rfl)
  have XO : XcOk K mg := ⟨fun k => (eT k).mgx, fun k => (says_er c k).2.1, fun k => (says_er c k).2.2, fun k j => by
    have := says_exm c
    unfold exmB at this
    simp only [List.all_cons, List.all_nil, Bool.and_eq_true, decide_eq_true_eq, Bool.and_true] at this
    obtain ⟨a1, a2, a3, a4, a5, a6, a7, a8, a9⟩ := this
    cases k <;> cases j <;> assumption⟩
  have B : Bl mg := ⟨He.free_ok KX G (c.d.fact 54 (f := .free "isinstance") rfl), He.free_ok KX G (c.d.fact 55 (f := .free "int") rfl), He.free_ok KX G (c.d.fact 56 (f := .free "bool") rfl), He.free_ok KX G (c.d.fact 57 (f := .free "str") rfl), He.free_ok KX G (c.d.fact 58 (f := .free "list") rfl), He.free_ok KX G (c.d.fact 59 (f := .free "tuple") rfl), He.free_ok KX G (c.d.fact 60 (f := .free "all") rfl), He.free_ok KX G (c.d.fact 61 (f := .free "len") rfl), He.free_ok KX G (c.d.fact 62 (f := .free "enumerate") rfl), He.free_ok KX G (c.d.fact 63 (f := .free "zip") rfl), He.free_ok KX G (c.d.fact 64 (f := .free "min") rfl), He.free_ok KX G (c.d.fact 65 (f := .free "range") rfl), He.free_ok KX G (c.d.fact 66 (f := .free "set") rfl), He.free_ok KX G (c.d.fact 67 (f := .free "sorted") rfl), He.free_ok KX G (c.d.fact 68 (f := .free "abs") rfl), He.free_ok KX G (c.d.fact 69 (f := .free "max") rfl), He.free_ok KX G (c.d.fact 70 (f := .free "sum") rfl), He.free_ok KX G (c.d.fact 71 (f := .free "repr") rfl), He.free_ok KX G (c.d.fact 72 (f := .free "super") rfl), He.int_ok KX G (c.d.fact 53 (f := .int "MANY_LETTERS" 100) rfl)⟩
  obtain ⟨fd_law_deal, F0_law_deal⟩ := c.d.def_ 27 (d := d_law_deal) rfl
  have U_law_deal : FnP K "_law_deal" s_law_deal [] fd_law_deal := F0_law_deal
  have g_law_deal : mg "_law_deal" = some (.ref (He.ga K "_law_deal")) := He.glo_ok KX G (c.d.fact 31 (f := .glo "_law_deal") rfl)
  have b_law_deal : Binds K fd_law_deal ["_law_script", "_law_base"] [] := U_law_deal.bindsN fun _ _ _ _ _ _ us hl => match us, hl with | [_, _], _ => rfl
  have h_law_deal : HasF prg w K mg base 1 "_law_deal" ["_law_script", "_law_base"] [] (spDeal K) := ⟨g_law_deal, U_law_deal.kp, _, ok_law_deal U_law_deal B , b_law_deal⟩
  obtain ⟨fd_law_draw, F0_law_draw⟩ := c.d.def_ 28 (d := d_law_draw) rfl
  have U_law_draw : FnP K "_law_draw" s_law_draw [] fd_law_draw := F0_law_draw
  have g_law_draw : mg "_law_draw" = some (.ref (He.ga K "_law_draw")) := He.glo_ok KX G (c.d.fact 32 (f := .glo "_law_draw") rfl)
  have b_law_draw : Binds K fd_law_draw ["_law_deal_here", "_law_bound"] [] := U_law_draw.bindsN fun _ _ _ _ _ _ us hl => match us, hl with | [_, _], _ => rfl
  have h_law_draw : HasF prg w K mg base 1 "_law_draw" ["_law_deal_here", "_law_bound"] [] (spW K [(Pt, ("_law_errors.<locals>.<lambda>" : Str))] F_law_draw) := ⟨g_law_draw, U_law_draw.kp, _, ok_law_draw U_law_draw B , b_law_draw⟩
  obtain ⟨fd_law_pick, F0_law_pick⟩ := c.d.def_ 29 (d := d_law_pick) rfl
  have U_law_pick : FnP K "_law_pick" s_law_pick [] fd_law_pick := F0_law_pick
  have g_law_pick : mg "_law_pick" = some (.ref (He.ga K "_law_pick")) := He.glo_ok KX G (c.d.fact 33 (f := .glo "_law_pick") rfl)
  have b_law_pick : Binds K fd_law_pick ["_law_deal_here", "_law_some"] [] := U_law_pick.bindsN fun _ _ _ _ _ _ us hl => match us, hl with | [_, _], _ => rfl
  have h_law_pick : HasF prg w K mg base 2 "_law_pick" ["_law_deal_here", "_law_some"] [] (spW K [(Pt, ("_law_errors.<locals>.<lambda>" : Str))] F_law_pick) := ⟨g_law_pick, U_law_pick.kp, _, ok_law_pick U_law_pick B h_law_draw, b_law_pick⟩
  obtain ⟨fd_law_refused, F0_law_refused⟩ := c.d.def_ 45 (d := d_law_refused) rfl
  have U_law_refused : FnP K "_law_refused" s_law_refused [] fd_law_refused := F0_law_refused
  have g_law_refused : mg "_law_refused" = some (.ref (He.ga K "_law_refused")) := He.glo_ok KX G (c.d.fact 49 (f := .glo "_law_refused") rfl)
  have b_law_refused : Binds K fd_law_refused ["_law_work"] [] := U_law_refused.bindsN fun _ _ _ _ _ _ us hl => match us, hl with | [_], _ => rfl
  obtain ⟨fd_shared_length, F0_shared_length⟩ := c.d.def_ 9 (d := d_shared_length) rfl
  have U_shared_length : FnP K "shared_length" s_shared_length [] fd_shared_length := F0_shared_length
  have g_shared_length : mg "shared_length" = some (.ref (He.ga K "shared_length")) := He.glo_ok KX G (c.d.fact 13 (f := .glo "shared_length") rfl)
  have b_shared_length : Binds K fd_shared_length ["one", "other"] [] := U_shared_length.bindsN fun _ _ _ _ _ _ us hl => match us, hl with | [_, _], _ => rfl
  have h_shared_length : HasF prg w K mg base 1 "shared_length" ["one", "other"] [] (spD K F_shared_length) := ⟨g_shared_length, U_shared_length.kp, _, ok_shared_length U_shared_length B , b_shared_length⟩
  obtain ⟨fd_claimed_ends, F0_claimed_ends⟩ := c.d.def_ 12 (d := d_claimed_ends) rfl
  have U_claimed_ends : FnP K "claimed_ends" s_claimed_ends [] fd_claimed_ends := F0_claimed_ends
  have g_claimed_ends : mg "claimed_ends" = some (.ref (He.ga K "claimed_ends")) := He.glo_ok KX G (c.d.fact 16 (f := .glo "claimed_ends") rfl)
  have b_claimed_ends : Binds K fd_claimed_ends ["base", "mine", "yours"] [] := U_claimed_ends.bindsN fun _ _ _ _ _ _ us hl => match us, hl with | [_, _, _], _ => rfl
  have h_claimed_ends : HasF prg w K mg base 2 "claimed_ends" ["base", "mine", "yours"] [] (spD K F_claimed_ends) := ⟨g_claimed_ends, U_claimed_ends.kp, _, ok_claimed_ends U_claimed_ends B h_shared_length, b_claimed_ends⟩
  obtain ⟨fd_came_text, F0_came_text⟩ := c.d.def_ 13 (d := d_came_text) rfl
  have U_came_text : FnP K "came_text" s_came_text [] fd_came_text := F0_came_text
  have g_came_text : mg "came_text" = some (.ref (He.ga K "came_text")) := He.glo_ok KX G (c.d.fact 17 (f := .glo "came_text") rfl)
  have b_came_text : Binds K fd_came_text ["base", "mine", "yours"] [] := U_came_text.bindsN fun _ _ _ _ _ _ us hl => match us, hl with | [_, _, _], _ => rfl
  have h_came_text : HasF prg w K mg base 3 "came_text" ["base", "mine", "yours"] [] (spD K F_came_text) := ⟨g_came_text, U_came_text.kp, _, ok_came_text U_came_text B h_claimed_ends, b_came_text⟩
  obtain ⟨fd_is_integer, F0_is_integer⟩ := c.d.def_ 0 (d := d_is_integer) rfl
  have U_is_integer : FnP K "is_integer" s_is_integer [] fd_is_integer := F0_is_integer
  have g_is_integer : mg "is_integer" = some (.ref (He.ga K "is_integer")) := He.glo_ok KX G (c.d.fact 4 (f := .glo "is_integer") rfl)
  have b_is_integer : Binds K fd_is_integer ["value"] [] := U_is_integer.bindsN fun _ _ _ _ _ _ us hl => match us, hl with | [_], _ => rfl
  have h_is_integer : HasF prg w K mg base 1 "is_integer" ["value"] [] (spD K F_is_integer) := ⟨g_is_integer, U_is_integer.kp, _, ok_is_integer U_is_integer B , b_is_integer⟩
  obtain ⟨fd_is_number, F0_is_number⟩ := c.d.def_ 1 (d := d_is_number) rfl
  have U_is_number : FnP K "is_number" s_is_number [] fd_is_number := F0_is_number
  have g_is_number : mg "is_number" = some (.ref (He.ga K "is_number")) := He.glo_ok KX G (c.d.fact 5 (f := .glo "is_number") rfl)
  have b_is_number : Binds K fd_is_number ["value"] [] := U_is_number.bindsN fun _ _ _ _ _ _ us hl => match us, hl with | [_], _ => rfl
  have h_is_number : HasF prg w K mg base 2 "is_number" ["value"] [] (spD K F_is_number) := ⟨g_is_number, U_is_number.kp, _, ok_is_number U_is_number B h_is_integer, b_is_number⟩
  obtain ⟨fd_is_below, F0_is_below⟩ := c.d.def_ 2 (d := d_is_below) rfl
  have U_is_below : FnP K "is_below" s_is_below [] fd_is_below := F0_is_below
  have g_is_below : mg "is_below" = some (.ref (He.ga K "is_below")) := He.glo_ok KX G (c.d.fact 6 (f := .glo "is_below") rfl)
  have b_is_below : Binds K fd_is_below ["value", "many"] [] := U_is_below.bindsN fun _ _ _ _ _ _ us hl => match us, hl with | [_, _], _ => rfl
  have h_is_below : HasF prg w K mg base 3 "is_below" ["value", "many"] [] (spD K F_is_below) := ⟨g_is_below, U_is_below.kp, _, ok_is_below U_is_below B h_is_number, b_is_below⟩
  obtain ⟨fd_is_letter, F0_is_letter⟩ := c.d.def_ 5 (d := d_is_letter) rfl
  have U_is_letter : FnP K "is_letter" s_is_letter [] fd_is_letter := F0_is_letter
  have g_is_letter : mg "is_letter" = some (.ref (He.ga K "is_letter")) := He.glo_ok KX G (c.d.fact 9 (f := .glo "is_letter") rfl)
  have b_is_letter : Binds K fd_is_letter ["value"] [] := U_is_letter.bindsN fun _ _ _ _ _ _ us hl => match us, hl with | [_], _ => rfl
  have h_is_letter : HasF prg w K mg base 4 "is_letter" ["value"] [] (spD K F_is_letter) := ⟨g_is_letter, U_is_letter.kp, _, ok_is_letter U_is_letter B h_is_below, b_is_letter⟩
  obtain ⟨fd_is_sequence, F0_is_sequence⟩ := c.d.def_ 4 (d := d_is_sequence) rfl
  have U_is_sequence : FnP K "is_sequence" s_is_sequence [] fd_is_sequence := F0_is_sequence
  have g_is_sequence : mg "is_sequence" = some (.ref (He.ga K "is_sequence")) := He.glo_ok KX G (c.d.fact 8 (f := .glo "is_sequence") rfl)
  have b_is_sequence : Binds K fd_is_sequence ["value"] [] := U_is_sequence.bindsN fun _ _ _ _ _ _ us hl => match us, hl with | [_], _ => rfl
  have h_is_sequence : HasF prg w K mg base 1 "is_sequence" ["value"] [] (spD K F_is_sequence) := ⟨g_is_sequence, U_is_sequence.kp, _, ok_is_sequence U_is_sequence B , b_is_sequence⟩
  obtain ⟨fd_is_text, F0_is_text⟩ := c.d.def_ 6 (d := d_is_text) rfl
  have U_is_text : FnP K "is_text" s_is_text [] fd_is_text := F0_is_text
  have g_is_text : mg "is_text" = some (.ref (He.ga K "is_text")) := He.glo_ok KX G (c.d.fact 10 (f := .glo "is_text") rfl)
  have b_is_text : Binds K fd_is_text ["value"] [] := U_is_text.bindsN fun _ _ _ _ _ _ us hl => match us, hl with | [_], _ => rfl
  have h_is_text : HasF prg w K mg base 5 "is_text" ["value"] [] (spD K F_is_text) := ⟨g_is_text, U_is_text.kp, _, ok_is_text U_is_text B h_is_letter h_is_sequence, b_is_text⟩
  obtain ⟨fd_need_text, F0_need_text⟩ := c.d.def_ 7 (d := d_need_text) rfl
  have U_need_text : FnP K "need_text" s_need_text [.int (-1)] fd_need_text := F0_need_text
  have g_need_text : mg "need_text" = some (.ref (He.ga K "need_text")) := He.glo_ok KX G (c.d.fact 11 (f := .glo "need_text") rfl)
  have ok_need_text_ : FnOk prg w K mg base (L2.CX prg w) 6 (He.ga K "need_text") fd_need_text ["value", "at"] (spD K F_need_text) := ok_need_text U_need_text B (eT .text) h_is_text
  obtain ⟨ds0, vals0, bn0⟩ := FunD.binds1 (ps := ["value", "at"]) U_need_text 2 1 (by simp) rfl fun _ _ _ _ _ _ _ us its hl hi => match us, its, hl, hi with | [_, _], [_], _, _ => ⟨_, rfl, rfl⟩
  cases vals0
  obtain ⟨ds1, vals1, bn1⟩ := FunD.binds1 (ps := ["value", "at"]) U_need_text 1 0 (by simp) rfl fun _ _ _ _ _ _ _ us its hl hi => match us, its, hl, hi with | [_], [_], _, _ => ⟨_, rfl, rfl⟩
  obtain ⟨vm1, rfl, vals_m1⟩ : ∃ vm1, ds1 = [vm1] ∧ L2.Vals [V.int (-1)] [vm1] := by
    cases vals1 with
    | cons r rr => cases rr; exact ⟨_, rfl, .cons r .nil⟩
  have h_need_text : HasF prg w K mg base 6 "need_text" ["value", "at"] [] (spD K F_need_text) := ⟨g_need_text, U_need_text.kp, _, ok_need_text_, bn0⟩
  have h_need_text1 : HasF prg w K mg base 6 "need_text" ["value", "at"] [vm1] (spD K F_need_text) := ⟨g_need_text, U_need_text.kp, _, ok_need_text_, bn1⟩
  obtain ⟨fd_need_three, F0_need_three⟩ := c.d.def_ 11 (d := d_need_three) rfl
  have U_need_three : FnP K "need_three" s_need_three [] fd_need_three := F0_need_three
  have g_need_three : mg "need_three" = some (.ref (He.ga K "need_three")) := He.glo_ok KX G (c.d.fact 15 (f := .glo "need_three") rfl)
  have b_need_three : Binds K fd_need_three ["base", "mine", "yours"] [] := U_need_three.bindsN fun _ _ _ _ _ _ us hl => match us, hl with | [_, _, _], _ => rfl
  have h_need_three : HasF prg w K mg base 7 "need_three" ["base", "mine", "yours"] [] (spD K F_need_three) := ⟨g_need_three, U_need_three.kp, _, ok_need_three U_need_three B h_need_text, b_need_three⟩
  obtain ⟨fd_merge_texts, F0_merge_texts⟩ := c.d.def_ 14 (d := d_merge_texts) rfl
  have U_merge_texts : FnP K "merge_texts" s_merge_texts [] fd_merge_texts := F0_merge_texts
  have g_merge_texts : mg "merge_texts" = some (.ref (He.ga K "merge_texts")) := He.glo_ok KX G (c.d.fact 18 (f := .glo "merge_texts") rfl)
  have b_merge_texts : Binds K fd_merge_texts ["base", "mine", "yours"] [] := U_merge_texts.bindsN fun _ _ _ _ _ _ us hl => match us, hl with | [_, _, _], _ => rfl
  have h_merge_texts : HasF prg w K mg base 8 "merge_texts" ["base", "mine", "yours"] [] (spD K F_merge_texts) := ⟨g_merge_texts, U_merge_texts.kp, _, ok_merge_texts U_merge_texts B h_came_text h_need_three, b_merge_texts⟩
  obtain ⟨fd_need_hands, F0_need_hands⟩ := c.d.def_ 16 (d := d_need_hands) rfl
  have U_need_hands : FnP K "need_hands" s_need_hands [] fd_need_hands := F0_need_hands
  have g_need_hands : mg "need_hands" = some (.ref (He.ga K "need_hands")) := He.glo_ok KX G (c.d.fact 20 (f := .glo "need_hands") rfl)
  have b_need_hands : Binds K fd_need_hands ["value", "many"] [] := U_need_hands.bindsN fun _ _ _ _ _ _ us hl => match us, hl with | [_, _], _ => rfl
  have h_need_hands : HasF prg w K mg base 4 "need_hands" ["value", "many"] [] (spD K F_need_hands) := ⟨g_need_hands, U_need_hands.kp, _, ok_need_hands U_need_hands B (eT .order) h_is_below h_is_sequence, b_need_hands⟩
  obtain ⟨fd_need_versions, F0_need_versions⟩ := c.d.def_ 8 (d := d_need_versions) rfl
  have U_need_versions : FnP K "need_versions" s_need_versions [] fd_need_versions := F0_need_versions
  have g_need_versions : mg "need_versions" = some (.ref (He.ga K "need_versions")) := He.glo_ok KX G (c.d.fact 12 (f := .glo "need_versions") rfl)
  have b_need_versions : Binds K fd_need_versions ["value"] [] := U_need_versions.bindsN fun _ _ _ _ _ _ us hl => match us, hl with | [_], _ => rfl
  have h_need_versions : HasF prg w K mg base 6 "need_versions" ["value"] [] (spD K F_need_versions) := ⟨g_need_versions, U_need_versions.kp, _, ok_need_versions U_need_versions B (eT .versions) h_is_sequence h_is_text, b_need_versions⟩
  obtain ⟨fd_hands_end, F0_hands_end⟩ := c.d.def_ 21 (d := d_hands_end) rfl
  have U_hands_end : FnP K "hands_end" s_hands_end [] fd_hands_end := F0_hands_end
  have g_hands_end : mg "hands_end" = some (.ref (He.ga K "hands_end")) := He.glo_ok KX G (c.d.fact 25 (f := .glo "hands_end") rfl)
  have b_hands_end : Binds K fd_hands_end ["base", "versions", "order"] [] := U_hands_end.bindsN fun _ _ _ _ _ _ us hl => match us, hl with | [_, _, _], _ => rfl
  have ok_hands_end_ : FnOk prg w K mg base (L2.CX prg w) 9 (He.ga K "hands_end") fd_hands_end ["base", "versions", "order"] (spD K F_hands_end) := ok_hands_end U_hands_end B h_merge_texts h_need_hands h_need_text h_need_versions vals_m1 h_need_text1
  have h_hands_end : HasF prg w K mg base 9 "hands_end" ["base", "versions", "order"] [] (spD K F_hands_end) := ⟨g_hands_end, U_hands_end.kp, _, ok_hands_end_, b_hands_end⟩
  obtain ⟨fd_are_same, F0_are_same⟩ := c.d.def_ 25 (d := d_are_same) rfl
  have U_are_same : FnP K "are_same" s_are_same [] fd_are_same := F0_are_same
  have g_are_same : mg "are_same" = some (.ref (He.ga K "are_same")) := He.glo_ok KX G (c.d.fact 29 (f := .glo "are_same") rfl)
  have b_are_same : Binds K fd_are_same ["value", "paper"] [] := U_are_same.bindsN fun _ _ _ _ _ _ us hl => match us, hl with | [_, _], _ => rfl
  have same_0 : HasF prg w K mg base 1 "are_same" ["value", "paper"] [] (spD K (F_same 0)) := ⟨g_are_same, U_are_same.kp, _, same0, b_are_same⟩
  have same_1 : HasF prg w K mg base 2 "are_same" ["value", "paper"] [] (spD K (F_same 1)) := ⟨g_are_same, U_are_same.kp, _, ok_are_same 0 1 U_are_same B same_0, b_are_same⟩
  have same_2 : HasF prg w K mg base 3 "are_same" ["value", "paper"] [] (spD K (F_same 2)) := ⟨g_are_same, U_are_same.kp, _, ok_are_same 1 2 U_are_same B same_1, b_are_same⟩
  have same_3 : HasF prg w K mg base 4 "are_same" ["value", "paper"] [] (spD K (F_same 3)) := ⟨g_are_same, U_are_same.kp, _, ok_are_same 2 3 U_are_same B same_2, b_are_same⟩
  have same_4 : HasF prg w K mg base 5 "are_same" ["value", "paper"] [] (spD K (F_same 4)) := ⟨g_are_same, U_are_same.kp, _, ok_are_same 3 4 U_are_same B same_3, b_are_same⟩
  have h_are_same : HasF prg w K mg base 5 "are_same" ["value", "paper"] [] (spD K F_are_same) := same_4
  obtain ⟨fd_is_order, F0_is_order⟩ := c.d.def_ 24 (d := d_is_order) rfl
  have U_is_order : FnP K "is_order" s_is_order [] fd_is_order := F0_is_order
  have g_is_order : mg "is_order" = some (.ref (He.ga K "is_order")) := He.glo_ok KX G (c.d.fact 28 (f := .glo "is_order") rfl)
  have b_is_order : Binds K fd_is_order ["value", "many"] [] := U_is_order.bindsN fun _ _ _ _ _ _ us hl => match us, hl with | [_, _], _ => rfl
  have h_is_order : HasF prg w K mg base 4 "is_order" ["value", "many"] [] (spD K F_is_order) := ⟨g_is_order, U_is_order.kp, _, ok_is_order U_is_order B h_is_below, b_is_order⟩
  obtain ⟨fd_is_string, F0_is_string⟩ := c.d.def_ 3 (d := d_is_string) rfl
  have U_is_string : FnP K "is_string" s_is_string [] fd_is_string := F0_is_string
  have g_is_string : mg "is_string" = some (.ref (He.ga K "is_string")) := He.glo_ok KX G (c.d.fact 7 (f := .glo "is_string") rfl)
  have b_is_string : Binds K fd_is_string ["value"] [] := U_is_string.bindsN fun _ _ _ _ _ _ us hl => match us, hl with | [_], _ => rfl
  have h_is_string : HasF prg w K mg base 1 "is_string" ["value"] [] (spD K F_is_string) := ⟨g_is_string, U_is_string.kp, _, ok_is_string U_is_string B , b_is_string⟩
  obtain ⟨fd_is_paper, F0_is_paper⟩ := c.d.def_ 15 (d := d_is_paper) rfl
  have U_is_paper : FnP K "is_paper" s_is_paper [] fd_is_paper := F0_is_paper
  have g_is_paper : mg "is_paper" = some (.ref (He.ga K "is_paper")) := He.glo_ok KX G (c.d.fact 19 (f := .glo "is_paper") rfl)
  have b_is_paper : Binds K fd_is_paper ["value", "word", "many"] [] := U_is_paper.bindsN fun _ _ _ _ _ _ us hl => match us, hl with | [_, _, _], _ => rfl
  have h_is_paper : HasF prg w K mg base 2 "is_paper" ["value", "word", "many"] [] (spD K F_is_paper) := ⟨g_is_paper, U_is_paper.kp, _, ok_is_paper U_is_paper B h_is_string, b_is_paper⟩
  obtain ⟨fd_leading_times, F0_leading_times⟩ := c.d.def_ 18 (d := d_leading_times) rfl
  have U_leading_times : FnP K "leading_times" s_leading_times [] fd_leading_times := F0_leading_times
  have g_leading_times : mg "leading_times" = some (.ref (He.ga K "leading_times")) := He.glo_ok KX G (c.d.fact 22 (f := .glo "leading_times") rfl)
  have b_leading_times : Binds K fd_leading_times ["text", "block"] [] := U_leading_times.bindsN fun _ _ _ _ _ _ us hl => match us, hl with | [_, _], _ => rfl
  have h_leading_times : HasF prg w K mg base 1 "leading_times" ["text", "block"] [] (spD K F_leading_times) := ⟨g_leading_times, U_leading_times.kp, _, ok_leading_times U_leading_times B , b_leading_times⟩
  obtain ⟨fd_root_length, F0_root_length⟩ := c.d.def_ 17 (d := d_root_length) rfl
  have U_root_length : FnP K "root_length" s_root_length [] fd_root_length := F0_root_length
  have g_root_length : mg "root_length" = some (.ref (He.ga K "root_length")) := He.glo_ok KX G (c.d.fact 21 (f := .glo "root_length") rfl)
  have b_root_length : Binds K fd_root_length ["text"] [] := U_root_length.bindsN fun _ _ _ _ _ _ us hl => match us, hl with | [_], _ => rfl
  have h_root_length : HasF prg w K mg base 1 "root_length" ["text"] [] (spD K F_root_length) := ⟨g_root_length, U_root_length.kp, _, ok_root_length U_root_length B , b_root_length⟩
  obtain ⟨fd_tail_length, F0_tail_length⟩ := c.d.def_ 10 (d := d_tail_length) rfl
  have U_tail_length : FnP K "tail_length" s_tail_length [] fd_tail_length := F0_tail_length
  have g_tail_length : mg "tail_length" = some (.ref (He.ga K "tail_length")) := He.glo_ok KX G (c.d.fact 14 (f := .glo "tail_length") rfl)
  have b_tail_length : Binds K fd_tail_length ["one", "other"] [] := U_tail_length.bindsN fun _ _ _ _ _ _ us hl => match us, hl with | [_, _], _ => rfl
  have h_tail_length : HasF prg w K mg base 7 "tail_length" ["one", "other"] [] (spD K F_tail_length) := ⟨g_tail_length, U_tail_length.kp, _, ok_tail_length U_tail_length B h_need_text h_shared_length, b_tail_length⟩
  obtain ⟨fd_block_form, F0_block_form⟩ := c.d.def_ 19 (d := d_block_form) rfl
  have U_block_form : FnP K "block_form" s_block_form [] fd_block_form := F0_block_form
  have g_block_form : mg "block_form" = some (.ref (He.ga K "block_form")) := He.glo_ok KX G (c.d.fact 23 (f := .glo "block_form") rfl)
  have b_block_form : Binds K fd_block_form ["one", "other"] [] := U_block_form.bindsN fun _ _ _ _ _ _ us hl => match us, hl with | [_, _], _ => rfl
  have h_block_form : HasF prg w K mg base 8 "block_form" ["one", "other"] [] (spD K F_block_form) := ⟨g_block_form, U_block_form.kp, _, ok_block_form U_block_form B h_leading_times h_need_text h_root_length h_tail_length, b_block_form⟩
  obtain ⟨fd_block_number, F0_block_number⟩ := c.d.def_ 20 (d := d_block_number) rfl
  have U_block_number : FnP K "block_number" s_block_number [] fd_block_number := F0_block_number
  have g_block_number : mg "block_number" = some (.ref (He.ga K "block_number")) := He.glo_ok KX G (c.d.fact 24 (f := .glo "block_number") rfl)
  have b_block_number : Binds K fd_block_number ["text", "front", "block", "back"] [] := U_block_number.bindsN fun _ _ _ _ _ _ us hl => match us, hl with | [_, _, _, _], _ => rfl
  have h_block_number : HasF prg w K mg base 1 "block_number" ["text", "front", "block", "back"] [] (spD K F_block_number) := ⟨g_block_number, U_block_number.kp, _, ok_block_number U_block_number B , b_block_number⟩
  obtain ⟨fd_pair_fault, F0_pair_fault⟩ := c.d.def_ 22 (d := d_pair_fault) rfl
  have U_pair_fault : FnP K "pair_fault" s_pair_fault [] fd_pair_fault := F0_pair_fault
  have g_pair_fault : mg "pair_fault" = some (.ref (He.ga K "pair_fault")) := He.glo_ok KX G (c.d.fact 26 (f := .glo "pair_fault") rfl)
  have b_pair_fault : Binds K fd_pair_fault ["base", "versions", "one", "other"] [] := U_pair_fault.bindsN fun _ _ _ _ _ _ us hl => match us, hl with | [_, _, _, _], _ => rfl
  have h_pair_fault : HasF prg w K mg base 10 "pair_fault" ["base", "versions", "one", "other"] [] (spD K F_pair_fault) := ⟨g_pair_fault, U_pair_fault.kp, _, ok_pair_fault U_pair_fault B h_hands_end, b_pair_fault⟩
  obtain ⟨fd_orders_paper, F0_orders_paper⟩ := c.d.def_ 23 (d := d_orders_paper) rfl
  have U_orders_paper : FnP K "orders_paper" s_orders_paper [] fd_orders_paper := F0_orders_paper
  have g_orders_paper : mg "orders_paper" = some (.ref (He.ga K "orders_paper")) := He.glo_ok KX G (c.d.fact 27 (f := .glo "orders_paper") rfl)
  have b_orders_paper : Binds K fd_orders_paper ["base", "versions"] [] := U_orders_paper.bindsN fun _ _ _ _ _ _ us hl => match us, hl with | [_, _], _ => rfl
  have ok_orders_paper_ : FnOk prg w K mg base (L2.CX prg w) 11 (He.ga K "orders_paper") fd_orders_paper ["base", "versions"] (spD K F_orders_paper) := ok_orders_paper U_orders_paper B h_block_form h_block_number h_need_text h_need_versions h_pair_fault vals_m1 h_need_text1
  have h_orders_paper : HasF prg w K mg base 11 "orders_paper" ["base", "versions"] [] (spD K F_orders_paper) := ⟨g_orders_paper, U_orders_paper.kp, _, ok_orders_paper_, b_orders_paper⟩
  obtain ⟨fd_orders_holds, F0_orders_holds⟩ := c.d.def_ 26 (d := d_orders_holds) rfl
  have U_orders_holds : FnP K "orders_holds" s_orders_holds [] fd_orders_holds := F0_orders_holds
  have g_orders_holds : mg "orders_holds" = some (.ref (He.ga K "orders_holds")) := He.glo_ok KX G (c.d.fact 30 (f := .glo "orders_holds") rfl)
  have b_orders_holds : Binds K fd_orders_holds ["base", "versions", "value"] [] := U_orders_holds.bindsN fun _ _ _ _ _ _ us hl => match us, hl with | [_, _, _], _ => rfl
  have ok_orders_holds_ : FnOk prg w K mg base (L2.CX prg w) 12 (He.ga K "orders_holds") fd_orders_holds ["base", "versions", "value"] (spD K F_orders_holds) := ok_orders_holds U_orders_holds B h_are_same h_hands_end h_is_order h_is_paper h_need_text h_need_versions h_orders_paper vals_m1 h_need_text1
  have h_orders_holds : HasF prg w K mg base 12 "orders_holds" ["base", "versions", "value"] [] (spD K F_orders_holds) := ⟨g_orders_holds, U_orders_holds.kp, _, ok_orders_holds_, b_orders_holds⟩
  obtain ⟨fd_law_errors, F0_law_errors⟩ := c.d.def_ 46 (d := d_law_errors) rfl
  have U_law_errors : FnP K "_law_errors" s_law_errors [] fd_law_errors := F0_law_errors
  have g_law_errors : mg "_law_errors" = some (.ref (He.ga K "_law_errors")) := He.glo_ok KX G (c.d.fact 50 (f := .glo "_law_errors") rfl)
  have b_law_errors : Binds K fd_law_errors ["_law_deal_here", "_law_base", "_law_versions_here"] [] := U_law_errors.bindsN fun _ _ _ _ _ _ us hl => match us, hl with | [_, _, _], _ => rfl
  have h_law_errors : HasF prg w K mg base 15 "_law_errors" ["_law_deal_here", "_law_base", "_law_versions_here"] [] (spW K [(Pt, ("_law_errors.<locals>.<lambda>" : Str))] F_law_errors) := ⟨g_law_errors, U_law_errors.kp, _, ok_law_errors U_law_errors U_law_refused b_law_refused g_law_refused XO B TBc hTb h_law_pick h_hands_end h_orders_holds h_orders_paper, b_law_errors⟩
  obtain ⟨fd_law_all_alike, F0_law_all_alike⟩ := c.d.def_ 39 (d := d_law_all_alike) rfl
  have U_law_all_alike : FnP K "_law_all_alike" s_law_all_alike [] fd_law_all_alike := F0_law_all_alike
  have g_law_all_alike : mg "_law_all_alike" = some (.ref (He.ga K "_law_all_alike")) := He.glo_ok KX G (c.d.fact 43 (f := .glo "_law_all_alike") rfl)
  have b_law_all_alike : Binds K fd_law_all_alike ["_law_ends_here", "_law_many"] [] := U_law_all_alike.bindsN fun _ _ _ _ _ _ us hl => match us, hl with | [_, _], _ => rfl
  have h_law_all_alike : HasF prg w K mg base 1 "_law_all_alike" ["_law_ends_here", "_law_many"] [] (spD K F_law_all_alike) := ⟨g_law_all_alike, U_law_all_alike.kp, _, ok_law_all_alike U_law_all_alike B , b_law_all_alike⟩
  obtain ⟨fd_law_merge, F0_law_merge⟩ := c.d.def_ 31 (d := d_law_merge) rfl
  have U_law_merge : FnP K "_law_merge" s_law_merge [] fd_law_merge := F0_law_merge
  have g_law_merge : mg "_law_merge" = some (.ref (He.ga K "_law_merge")) := He.glo_ok KX G (c.d.fact 35 (f := .glo "_law_merge") rfl)
  have b_law_merge : Binds K fd_law_merge ["_law_base", "_law_mine", "_law_yours"] [] := U_law_merge.bindsN fun _ _ _ _ _ _ us hl => match us, hl with | [_, _, _], _ => rfl
  have h_law_merge : HasF prg w K mg base 1 "_law_merge" ["_law_base", "_law_mine", "_law_yours"] [] (spD K F_law_merge) := ⟨g_law_merge, U_law_merge.kp, _, ok_law_merge U_law_merge B , b_law_merge⟩
  obtain ⟨fd_law_orders, F0_law_orders⟩ := c.d.def_ 36 (d := d_law_orders) rfl
  have U_law_orders : FnP K "_law_orders" s_law_orders [] fd_law_orders := F0_law_orders
  have g_law_orders : mg "_law_orders" = some (.ref (He.ga K "_law_orders")) := He.glo_ok KX G (c.d.fact 40 (f := .glo "_law_orders") rfl)
  have b_law_orders : Binds K fd_law_orders ["_law_many"] [] := U_law_orders.bindsN fun _ _ _ _ _ _ us hl => match us, hl with | [_], _ => rfl
  have h_law_orders : HasF prg w K mg base 1 "_law_orders" ["_law_many"] [] (spD K F_law_orders) := ⟨g_law_orders, U_law_orders.kp, _, ok_law_orders U_law_orders B , b_law_orders⟩
  obtain ⟨fd_law_ends, F0_law_ends⟩ := c.d.def_ 37 (d := d_law_ends) rfl
  have U_law_ends : FnP K "_law_ends" s_law_ends [] fd_law_ends := F0_law_ends
  have g_law_ends : mg "_law_ends" = some (.ref (He.ga K "_law_ends")) := He.glo_ok KX G (c.d.fact 41 (f := .glo "_law_ends") rfl)
  have b_law_ends : Binds K fd_law_ends ["_law_base", "_law_versions_here"] [] := U_law_ends.bindsN fun _ _ _ _ _ _ us hl => match us, hl with | [_, _], _ => rfl
  have h_law_ends : HasF prg w K mg base 2 "_law_ends" ["_law_base", "_law_versions_here"] [] (spD K F_law_ends) := ⟨g_law_ends, U_law_ends.kp, _, ok_law_ends U_law_ends B h_law_merge h_law_orders, b_law_ends⟩
  obtain ⟨fd_law_is_apart, F0_law_is_apart⟩ := c.d.def_ 42 (d := d_law_is_apart) rfl
  have U_law_is_apart : FnP K "_law_is_apart" s_law_is_apart [] fd_law_is_apart := F0_law_is_apart
  have g_law_is_apart : mg "_law_is_apart" = some (.ref (He.ga K "_law_is_apart")) := He.glo_ok KX G (c.d.fact 46 (f := .glo "_law_is_apart") rfl)
  have b_law_is_apart : Binds K fd_law_is_apart ["_law_ends_here", "_law_order", "_law_other"] [] := U_law_is_apart.bindsN fun _ _ _ _ _ _ us hl => match us, hl with | [_, _, _], _ => rfl
  have h_law_is_apart : HasF prg w K mg base 1 "_law_is_apart" ["_law_ends_here", "_law_order", "_law_other"] [] (spD K F_law_is_apart) := ⟨g_law_is_apart, U_law_is_apart.kp, _, ok_law_is_apart U_law_is_apart B , b_law_is_apart⟩
  obtain ⟨fd_law_is_clash, F0_law_is_clash⟩ := c.d.def_ 41 (d := d_law_is_clash) rfl
  have U_law_is_clash : FnP K "_law_is_clash" s_law_is_clash [] fd_law_is_clash := F0_law_is_clash
  have g_law_is_clash : mg "_law_is_clash" = some (.ref (He.ga K "_law_is_clash")) := He.glo_ok KX G (c.d.fact 45 (f := .glo "_law_is_clash") rfl)
  have b_law_is_clash : Binds K fd_law_is_clash ["_law_ends_here", "_law_order"] [] := U_law_is_clash.bindsN fun _ _ _ _ _ _ us hl => match us, hl with | [_, _], _ => rfl
  have h_law_is_clash : HasF prg w K mg base 1 "_law_is_clash" ["_law_ends_here", "_law_order"] [] (spD K F_law_is_clash) := ⟨g_law_is_clash, U_law_is_clash.kp, _, ok_law_is_clash U_law_is_clash B , b_law_is_clash⟩
  obtain ⟨fd_law_papers, F0_law_papers⟩ := c.d.def_ 44 (d := d_law_papers) rfl
  have U_law_papers : FnP K "_law_papers" s_law_papers [] fd_law_papers := F0_law_papers
  have g_law_papers : mg "_law_papers" = some (.ref (He.ga K "_law_papers")) := He.glo_ok KX G (c.d.fact 48 (f := .glo "_law_papers") rfl)
  have b_law_papers : Binds K fd_law_papers ["_law_deal_here", "_law_ends_here", "_law_versions_here", "_law_told"] [] := U_law_papers.bindsN fun _ _ _ _ _ _ us hl => match us, hl with | [_, _, _, _], _ => rfl
  have h_law_papers : HasFG prg w K mg base 3 "_law_papers" ["_law_deal_here", "_law_ends_here", "_law_versions_here", "_law_told"] [] (spW K [(Pt, ("_law_errors.<locals>.<lambda>" : Str))] F_law_papers) := ⟨g_law_papers, U_law_papers.kp, _, ok_law_papers U_law_papers B h_law_draw h_law_is_apart h_law_is_clash h_law_pick, b_law_papers⟩
  obtain ⟨fd_law_is_repeat, F0_law_is_repeat⟩ := c.d.def_ 32 (d := d_law_is_repeat) rfl
  have U_law_is_repeat : FnP K "_law_is_repeat" s_law_is_repeat [] fd_law_is_repeat := F0_law_is_repeat
  have g_law_is_repeat : mg "_law_is_repeat" = some (.ref (He.ga K "_law_is_repeat")) := He.glo_ok KX G (c.d.fact 36 (f := .glo "_law_is_repeat") rfl)
  have b_law_is_repeat : Binds K fd_law_is_repeat ["_law_block_here"] [] := U_law_is_repeat.bindsN fun _ _ _ _ _ _ us hl => match us, hl with | [_], _ => rfl
  have h_law_is_repeat : HasF prg w K mg base 1 "_law_is_repeat" ["_law_block_here"] [] (spD K F_law_is_repeat) := ⟨g_law_is_repeat, U_law_is_repeat.kp, _, ok_law_is_repeat U_law_is_repeat B , b_law_is_repeat⟩
  obtain ⟨fd_law_leading, F0_law_leading⟩ := c.d.def_ 33 (d := d_law_leading) rfl
  have U_law_leading : FnP K "_law_leading" s_law_leading [] fd_law_leading := F0_law_leading
  have g_law_leading : mg "_law_leading" = some (.ref (He.ga K "_law_leading")) := He.glo_ok KX G (c.d.fact 37 (f := .glo "_law_leading") rfl)
  have b_law_leading : Binds K fd_law_leading ["_law_text_here", "_law_block_here"] [] := U_law_leading.bindsN fun _ _ _ _ _ _ us hl => match us, hl with | [_, _], _ => rfl
  have h_law_leading : HasF prg w K mg base 1 "_law_leading" ["_law_text_here", "_law_block_here"] [] (spD K F_law_leading) := ⟨g_law_leading, U_law_leading.kp, _, ok_law_leading U_law_leading B , b_law_leading⟩
  obtain ⟨fd_law_form, F0_law_form⟩ := c.d.def_ 34 (d := d_law_form) rfl
  have U_law_form : FnP K "_law_form" s_law_form [] fd_law_form := F0_law_form
  have g_law_form : mg "_law_form" = some (.ref (He.ga K "_law_form")) := He.glo_ok KX G (c.d.fact 38 (f := .glo "_law_form") rfl)
  have b_law_form : Binds K fd_law_form ["_law_one", "_law_other"] [] := U_law_form.bindsN fun _ _ _ _ _ _ us hl => match us, hl with | [_, _], _ => rfl
  have h_law_form : HasF prg w K mg base 2 "_law_form" ["_law_one", "_law_other"] [] (spD K F_law_form) := ⟨g_law_form, U_law_form.kp, _, ok_law_form U_law_form B h_law_is_repeat h_law_leading, b_law_form⟩
  obtain ⟨fd_law_more, F0_law_more⟩ := c.d.def_ 35 (d := d_law_more) rfl
  have U_law_more : FnP K "_law_more" s_law_more [] fd_law_more := F0_law_more
  have g_law_more : mg "_law_more" = some (.ref (He.ga K "_law_more")) := He.glo_ok KX G (c.d.fact 39 (f := .glo "_law_more") rfl)
  have b_law_more : Binds K fd_law_more ["_law_form_here", "_law_text_here"] [] := U_law_more.bindsN fun _ _ _ _ _ _ us hl => match us, hl with | [_, _], _ => rfl
  have h_law_more : HasF prg w K mg base 1 "_law_more" ["_law_form_here", "_law_text_here"] [] (spD K F_law_more) := ⟨g_law_more, U_law_more.kp, _, ok_law_more U_law_more B , b_law_more⟩
  obtain ⟨fd_law_block, F0_law_block⟩ := c.d.def_ 40 (d := d_law_block) rfl
  have U_law_block : FnP K "_law_block" s_law_block [] fd_law_block := F0_law_block
  have g_law_block : mg "_law_block" = some (.ref (He.ga K "_law_block")) := He.glo_ok KX G (c.d.fact 44 (f := .glo "_law_block") rfl)
  have b_law_block : Binds K fd_law_block ["_law_base", "_law_versions_here", "_law_changed"] [] := U_law_block.bindsN fun _ _ _ _ _ _ us hl => match us, hl with | [_, _, _], _ => rfl
  have h_law_block : HasF prg w K mg base 3 "_law_block" ["_law_base", "_law_versions_here", "_law_changed"] [] (spD K F_law_block) := ⟨g_law_block, U_law_block.kp, _, ok_law_block U_law_block B h_law_form h_law_more, b_law_block⟩
  obtain ⟨fd_law_told_right, F0_law_told_right⟩ := c.d.def_ 43 (d := d_law_told_right) rfl
  have U_law_told_right : FnP K "_law_told_right" s_law_told_right [] fd_law_told_right := F0_law_told_right
  have g_law_told_right : mg "_law_told_right" = some (.ref (He.ga K "_law_told_right")) := He.glo_ok KX G (c.d.fact 47 (f := .glo "_law_told_right") rfl)
  have b_law_told_right : Binds K fd_law_told_right ["_law_base", "_law_versions_here", "_law_ends_here", "_law_told"] [] := U_law_told_right.bindsN fun _ _ _ _ _ _ us hl => match us, hl with | [_, _, _, _], _ => rfl
  have h_law_told_right : HasFG prg w K mg base 4 "_law_told_right" ["_law_base", "_law_versions_here", "_law_ends_here", "_law_told"] [] (spD K F_law_told_right) := ⟨g_law_told_right, U_law_told_right.kp, _, ok_law_told_right U_law_told_right B h_law_block h_law_is_apart h_law_is_clash, b_law_told_right⟩
  obtain ⟨fd_law_right, F0_law_right⟩ := c.d.def_ 47 (d := d_law_right) rfl
  have U_law_right : FnP K "_law_right" s_law_right [] fd_law_right := F0_law_right
  have g_law_right : mg "_law_right" = some (.ref (He.ga K "_law_right")) := He.glo_ok KX G (c.d.fact 51 (f := .glo "_law_right") rfl)
  have b_law_right : Binds K fd_law_right ["_law_deal_here", "_law_base", "_law_versions_here"] [] := U_law_right.bindsN fun _ _ _ _ _ _ us hl => match us, hl with | [_, _, _], _ => rfl
  have k_orders_paper : HasK prg w K mg base 11 "orders_paper" ["base", "versions"] (spD K F_orders_paper) := ⟨g_orders_paper, U_orders_paper.kp, _, ok_orders_paper_, bindsK U_orders_paper fun _ _ _ _ _ _ ws hl => match ws, hl with | [_, _], _ => rfl⟩
  have k_hands_end : HasK prg w K mg base 9 "hands_end" ["base", "versions", "order"] (spD K F_hands_end) := ⟨g_hands_end, U_hands_end.kp, _, ok_hands_end_, bindsK U_hands_end fun _ _ _ _ _ _ ws hl => match ws, hl with | [_, _, _], _ => rfl⟩
  have k_orders_holds : HasK prg w K mg base 12 "orders_holds" ["base", "versions", "value"] (spD K F_orders_holds) := ⟨g_orders_holds, U_orders_holds.kp, _, ok_orders_holds_, bindsK U_orders_holds fun _ _ _ _ _ _ ws hl => match ws, hl with | [_, _, _], _ => rfl⟩
  have h_law_right : HasFG prg w K mg base 13 "_law_right" ["_law_deal_here", "_law_base", "_law_versions_here"] [] (spW K [(Pt, ("_law_errors.<locals>.<lambda>" : Str))] F_law_right) := ⟨g_law_right, U_law_right.kp, _, ok_law_right U_law_right B k_orders_paper k_hands_end k_orders_holds h_law_all_alike h_law_ends h_law_papers h_law_pick h_law_told_right h_hands_end h_orders_holds h_orders_paper, b_law_right⟩
  obtain ⟨fd_law_text, F0_law_text⟩ := c.d.def_ 30 (d := d_law_text) rfl
  have U_law_text : FnP K "_law_text" s_law_text [] fd_law_text := F0_law_text
  have g_law_text : mg "_law_text" = some (.ref (He.ga K "_law_text")) := He.glo_ok KX G (c.d.fact 34 (f := .glo "_law_text") rfl)
  have b_law_text : Binds K fd_law_text ["_law_deal_here", "_law_letters", "_law_most"] [] := U_law_text.bindsN fun _ _ _ _ _ _ us hl => match us, hl with | [_, _, _], _ => rfl
  have h_law_text : HasF prg w K mg base 2 "_law_text" ["_law_deal_here", "_law_letters", "_law_most"] [] (spW K [(Pt, ("_law_errors.<locals>.<lambda>" : Str))] F_law_text) := ⟨g_law_text, U_law_text.kp, _, ok_law_text U_law_text B h_law_draw, b_law_text⟩
  obtain ⟨fd_law_versions, F0_law_versions⟩ := c.d.def_ 38 (d := d_law_versions) rfl
  have U_law_versions : FnP K "_law_versions" s_law_versions [] fd_law_versions := F0_law_versions
  have g_law_versions : mg "_law_versions" = some (.ref (He.ga K "_law_versions")) := He.glo_ok KX G (c.d.fact 42 (f := .glo "_law_versions") rfl)
  have b_law_versions : Binds K fd_law_versions ["_law_deal_here", "_law_letters"] [] := U_law_versions.bindsN fun _ _ _ _ _ _ us hl => match us, hl with | [_, _], _ => rfl
  have h_law_versions : HasF prg w K mg base 3 "_law_versions" ["_law_deal_here", "_law_letters"] [] (spW K [(Pt, ("_law_errors.<locals>.<lambda>" : Str))] F_law_versions) := ⟨g_law_versions, U_law_versions.kp, _, ok_law_versions U_law_versions B h_law_draw h_law_text, b_law_versions⟩
  exact ok_law U_law B maths h_law_deal h_law_draw h_law_errors h_law_right h_law_versions h_hands_end h_orders_paper
end CB

/-! H7 -/
set_option Elab.async false
set_option linter.all false
set_option maxRecDepth 100000
set_option maxHeartbeats 0
open PySem PySem.W PySem.Calls PyProof.Rows
theorem PySem.Challenge.cw_cancelsback_k37_whole_all_orders_of_hand_holds : PySem.Challenge.rw_cancelsback_k37_whole_all_orders_of_hand.Holds := by
  w_on; o_law
  refine HandSHeadRun.head_any (r := OpenLaw.row PySem.Challenge.rw_cancelsback_k37_whole_all_orders_of_hand) (q := view (OpenLaw.row PySem.Challenge.rw_cancelsback_k37_whole_all_orders_of_hand).prog [59]) (H := CB.hk2) (ob := CB.ob2) (M := 4000) (loose := CB.loose) (d := HandSHeadRun.topDef (OpenLaw.row PySem.Challenge.rw_cancelsback_k37_whole_all_orders_of_hand).prog 59) (kwd := []) CB.ob2_eq
    (by kernel_rfl) (fun s => by kernel_rfl) CB.run2 (by kernel_rfl) (by kernel_rfl) (by kernel_rfl) (by rfl) (by first | assumption | decide +kernel) (by decide +kernel) ⟨rfl, rfl, rfl, rfl, rfl, by decide +kernel⟩ ?hw ?hc
  case hw => w_witness2
  case hc =>
    refine CB.walk_tabs (l := PySem.Challenge.rw_cancelsback_k37_whole_all_orders_of_hand) (n := 63) (k := 16) (x := "_law_script") (sp := fun K Pt => CB.spLaw K [(Pt, ("_law_errors.<locals>.<lambda>" : PySem.Str))]) rfl (by decide) (by kernel_rfl) ⟨rfl, by decide, by decide⟩ ?F
    intro w mg fa h Y G hmg0
    obtain ⟨K, KX, c⟩ := Y
    have hmg : mg ("law" : PySem.Str) = some (.ref fa) := by
      have e : (HandSHeadRun.topDef (OpenLaw.row PySem.Challenge.rw_cancelsback_k37_whole_all_orders_of_hand).prog 59).name = ("law" : PySem.Str) := by kernel_rfl
      rw [← e]
      exact hmg0
    obtain ⟨fd, F0⟩ := c.d.def_ 48 (d := CB.d_law) rfl
    have U : CB.FnP K "law" CB.s_law [] fd := F0
    have e := hmg.symm.trans (He.glo_ok KX G (c.d.fact 52 (f := .glo "law") rfl))
    cases e
    refine ⟨K, (He.cT K CB.pE).1, (He.cT K CB.pE).2, fd, KX, c.emp, c.out, ?_, fun s u => ?_, fun H a ns hl hT hS => ⟨a, ns, rfl, hS, hl, ?_, fun _ => rfl⟩, fun base _ _ TB => CB.facts KX G c CB.maths_all TB fd U⟩
    · exact PySem.W.codeHd_of_K KX c.hd
    · exact L2.FunD.bindsA (ps := ["_law_script"]) U (fun _ _ _ _ _ _ us hl => match us, hl with | [_], _ => rfl) s [u] rfl
    · intro p hp
      rw [List.mem_singleton.mp hp]
      exact LamX.TabS.nil hT
