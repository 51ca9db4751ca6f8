import PyProof.Rows.All
import Wide.All
import OpenK.AllK
import Wide.FinOn
import KE.KStateDown
import Lean
import HandS.Base
import HandS.Call
import HandS.Ends
import HandS.More
import HandS.Words
import HandS.WordsExc
import HandS.Defaults
import HandS.Head0
import HandS.Head1
import HandS.Head2
import HandS.HeadEnd
import HandS.HeadHook1
import HandS.HeadHook2
import HandS.HeadHook3
import HandS.HeadHook4
import HandS.HeadNt
import HandS.ExcIs
import PySem.Challenge.RW_bindreads_k02_whole_values
import HandS.ForMost
import HandS.Conv
import HandS.Style
import HandS.TupAny
import HandS.TupMul
import HandS.Deep
import HandS.Walk
import HandS.Zip
import HandS.IsInst
import HandS.Exc
import HandS.TryOnly
import HandS.ExcOwn
import HandS.Wide
import KE.KDictKeyed
import HandS.Replace
import KE.GoesEnum
import KE.GoesMore
import KE.GoesZip
import KE.KDictDisplayH
import HandS.Dict
import HandS.Text
import HandS.ExcValue
set_option Elab.async false
set_option linter.all false
set_option maxRecDepth 100000
set_option maxHeartbeats 0
/-! The text by places, and the head. -/
namespace Bk
open PySem PySem.Spec PyProof.Rows L2
def top (i : Nat) : Stmt := PySem.Challenge.pw_bindreads_k02_whole_values.main.body.getD i (.Pass ⟨0, 0, 0, 0⟩)
abbrev s_is_int : Stmt := top 8
abbrev s_is_choice : Stmt := top 13
abbrev s_is_level : Stmt := top 14
abbrev s_all_signs : Stmt := top 15
abbrev s_is_table : Stmt := top 16
abbrev s_check_table : Stmt := top 17
abbrev s_check_two : Stmt := top 18
abbrev s_places_of : Stmt := top 19
abbrev s_kind_of : Stmt := top 22
abbrev s_can_follow : Stmt := top 23
abbrev s_is_row : Stmt := top 24
abbrev s_has_signs : Stmt := top 25
abbrev s_check_row : Stmt := top 26
abbrev s_is_line : Stmt := top 30
abbrev s_is_square : Stmt := top 31
abbrev s_is_meaning : Stmt := top 32
abbrev s_same_counts : Stmt := top 33
abbrev s_fits : Stmt := top 34
abbrev s_check_meaning : Stmt := top 35
abbrev s_unlike_row : Stmt := top 37
abbrev s_check_pair : Stmt := top 38
abbrev s_same_values : Stmt := top 39
abbrev s_value_row : Stmt := top 40
abbrev s_finished : Stmt := top 42
abbrev s_tree_of : Stmt := top 43
abbrev s_worth : Stmt := top 44
abbrev s_value_of : Stmt := top 45
abbrev s_read_value : Stmt := top 46
abbrev s_law_start : Stmt := top 48
abbrev s_law_draw : Stmt := top 49
abbrev s_law_pick : Stmt := top 50
abbrev s_law_error : Stmt := top 51
abbrev s_law_true : Stmt := top 52
abbrev s_law_many : Stmt := top 53
abbrev s_law_signs : Stmt := top 54
abbrev s_law_table : Stmt := top 55
abbrev s_law_square : Stmt := top 56
abbrev s_law_meaning : Stmt := top 57
abbrev s_law_row : Stmt := top 58
abbrev s_law_place : Stmt := top 59
abbrev s_law_tree : Stmt := top 60
abbrev s_law_worth : Stmt := top 61
abbrev s_law_told : Stmt := top 62
abbrev s_law_next : Stmt := top 63
abbrev s_law_end : Stmt := top 64
abbrev s_law_items : Stmt := top 65
abbrev s_law_parting : Stmt := top 66
abbrev s_law_call : Stmt := top 67
abbrev s_law : Stmt := top 68
abbrev m_init : Stmt := inClass (top 28) 0
abbrev m_start : Stmt := inClass (top 28) 1
abbrev m_is_ready : Stmt := inClass (top 28) 2
abbrev m_told : Stmt := inClass (top 28) 3
abbrev m_closed : Stmt := inClass (top 28) 4
abbrev m_ahead : Stmt := inClass (top 28) 5
abbrev m_infix : Stmt := inClass (top 28) 6
abbrev m_step : Stmt := inClass (top 28) 7
abbrev m_following : Stmt := inClass (top 28) 8
/-! the defs as data -/
def d_is_int : He.DefD := ⟨("is_int", none), "is_int", "is_int", defArgs s_is_int, defBody s_is_int, defScope s_is_int, [], []⟩
def d_is_choice : He.DefD := ⟨("is_choice", none), "is_choice", "is_choice", defArgs s_is_choice, defBody s_is_choice, defScope s_is_choice, [], []⟩
def d_is_level : He.DefD := ⟨("is_level", none), "is_level", "is_level", defArgs s_is_level, defBody s_is_level, defScope s_is_level, [], []⟩
def d_all_signs : He.DefD := ⟨("all_signs", none), "all_signs", "all_signs", defArgs s_all_signs, defBody s_all_signs, defScope s_all_signs, [], []⟩
def d_is_table : He.DefD := ⟨("is_table", none), "is_table", "is_table", defArgs s_is_table, defBody s_is_table, defScope s_is_table, [], []⟩
def d_check_table : He.DefD := ⟨("check_table", none), "check_table", "check_table", defArgs s_check_table, defBody s_check_table, defScope s_check_table, [], []⟩
def d_check_two : He.DefD := ⟨("check_two", none), "check_two", "check_two", defArgs s_check_two, defBody s_check_two, defScope s_check_two, [], []⟩
def d_places_of : He.DefD := ⟨("places_of", none), "places_of", "places_of", defArgs s_places_of, defBody s_places_of, defScope s_places_of, [], []⟩
def d_kind_of : He.DefD := ⟨("kind_of", none), "kind_of", "kind_of", defArgs s_kind_of, defBody s_kind_of, defScope s_kind_of, [], []⟩
def d_can_follow : He.DefD := ⟨("can_follow", none), "can_follow", "can_follow", defArgs s_can_follow, defBody s_can_follow, defScope s_can_follow, [], []⟩
def d_is_row : He.DefD := ⟨("is_row", none), "is_row", "is_row", defArgs s_is_row, defBody s_is_row, defScope s_is_row, [], []⟩
def d_has_signs : He.DefD := ⟨("has_signs", none), "has_signs", "has_signs", defArgs s_has_signs, defBody s_has_signs, defScope s_has_signs, [], []⟩
def d_check_row : He.DefD := ⟨("check_row", none), "check_row", "check_row", defArgs s_check_row, defBody s_check_row, defScope s_check_row, [], []⟩
def d_is_line : He.DefD := ⟨("is_line", none), "is_line", "is_line", defArgs s_is_line, defBody s_is_line, defScope s_is_line, [], []⟩
def d_is_square : He.DefD := ⟨("is_square", none), "is_square", "is_square", defArgs s_is_square, defBody s_is_square, defScope s_is_square, [], []⟩
def d_is_meaning : He.DefD := ⟨("is_meaning", none), "is_meaning", "is_meaning", defArgs s_is_meaning, defBody s_is_meaning, defScope s_is_meaning, [], []⟩
def d_same_counts : He.DefD := ⟨("same_counts", none), "same_counts", "same_counts", defArgs s_same_counts, defBody s_same_counts, defScope s_same_counts, [], []⟩
def d_fits : He.DefD := ⟨("fits", none), "fits", "fits", defArgs s_fits, defBody s_fits, defScope s_fits, [], []⟩
def d_check_meaning : He.DefD := ⟨("check_meaning", none), "check_meaning", "check_meaning", defArgs s_check_meaning, defBody s_check_meaning, defScope s_check_meaning, [], []⟩
def d_unlike_row : He.DefD := ⟨("unlike_row", none), "unlike_row", "unlike_row", defArgs s_unlike_row, defBody s_unlike_row, defScope s_unlike_row, [], []⟩
def d_check_pair : He.DefD := ⟨("check_pair", none), "check_pair", "check_pair", defArgs s_check_pair, defBody s_check_pair, defScope s_check_pair, [], []⟩
def d_same_values : He.DefD := ⟨("same_values", none), "same_values", "same_values", defArgs s_same_values, defBody s_same_values, defScope s_same_values, [], []⟩
def d_value_row : He.DefD := ⟨("value_row", none), "value_row", "value_row", defArgs s_value_row, defBody s_value_row, defScope s_value_row, [], []⟩
def d_finished : He.DefD := ⟨("finished", none), "finished", "finished", defArgs s_finished, defBody s_finished, defScope s_finished, [], []⟩
def d_tree_of : He.DefD := ⟨("tree_of", none), "tree_of", "tree_of", defArgs s_tree_of, defBody s_tree_of, defScope s_tree_of, [], []⟩
def d_worth : He.DefD := ⟨("worth", none), "worth", "worth", defArgs s_worth, defBody s_worth, defScope s_worth, [], []⟩
def d_value_of : He.DefD := ⟨("value_of", none), "value_of", "value_of", defArgs s_value_of, defBody s_value_of, defScope s_value_of, [], []⟩
def d_read_value : He.DefD := ⟨("read_value", none), "read_value", "read_value", defArgs s_read_value, defBody s_read_value, defScope s_read_value, [], []⟩
def d_law_start : He.DefD := ⟨("_law_start", none), "_law_start", "_law_start", defArgs s_law_start, defBody s_law_start, defScope s_law_start, [], []⟩
def d_law_draw : He.DefD := ⟨("_law_draw", none), "_law_draw", "_law_draw", defArgs s_law_draw, defBody s_law_draw, defScope s_law_draw, [], []⟩
def d_law_pick : He.DefD := ⟨("_law_pick", none), "_law_pick", "_law_pick", defArgs s_law_pick, defBody s_law_pick, defScope s_law_pick, [], []⟩
def d_law_error : He.DefD := ⟨("_law_error", none), "_law_error", "_law_error", defArgs s_law_error, defBody s_law_error, defScope s_law_error, [], []⟩
def d_law_true : He.DefD := ⟨("_law_true", none), "_law_true", "_law_true", defArgs s_law_true, defBody s_law_true, defScope s_law_true, [], []⟩
def d_law_many : He.DefD := ⟨("_law_many", none), "_law_many", "_law_many", defArgs s_law_many, defBody s_law_many, defScope s_law_many, [], []⟩
def d_law_signs : He.DefD := ⟨("_law_signs", none), "_law_signs", "_law_signs", defArgs s_law_signs, defBody s_law_signs, defScope s_law_signs, [], []⟩
def d_law_table : He.DefD := ⟨("_law_table", none), "_law_table", "_law_table", defArgs s_law_table, defBody s_law_table, defScope s_law_table, [], []⟩
def d_law_square : He.DefD := ⟨("_law_square", none), "_law_square", "_law_square", defArgs s_law_square, defBody s_law_square, defScope s_law_square, [], []⟩
def d_law_meaning : He.DefD := ⟨("_law_meaning", none), "_law_meaning", "_law_meaning", defArgs s_law_meaning, defBody s_law_meaning, defScope s_law_meaning, [], []⟩
def d_law_row : He.DefD := ⟨("_law_row", none), "_law_row", "_law_row", defArgs s_law_row, defBody s_law_row, defScope s_law_row, [], []⟩
def d_law_place : He.DefD := ⟨("_law_place", none), "_law_place", "_law_place", defArgs s_law_place, defBody s_law_place, defScope s_law_place, [], []⟩
def d_law_tree : He.DefD := ⟨("_law_tree", none), "_law_tree", "_law_tree", defArgs s_law_tree, defBody s_law_tree, defScope s_law_tree, [], []⟩
def d_law_worth : He.DefD := ⟨("_law_worth", none), "_law_worth", "_law_worth", defArgs s_law_worth, defBody s_law_worth, defScope s_law_worth, [], []⟩
def d_law_told : He.DefD := ⟨("_law_told", none), "_law_told", "_law_told", defArgs s_law_told, defBody s_law_told, defScope s_law_told, [], []⟩
def d_law_next : He.DefD := ⟨("_law_next", none), "_law_next", "_law_next", defArgs s_law_next, defBody s_law_next, defScope s_law_next, [], []⟩
def d_law_end : He.DefD := ⟨("_law_end", none), "_law_end", "_law_end", defArgs s_law_end, defBody s_law_end, defScope s_law_end, [], []⟩
def d_law_items : He.DefD := ⟨("_law_items", none), "_law_items", "_law_items", defArgs s_law_items, defBody s_law_items, defScope s_law_items, [], []⟩
def d_law_parting : He.DefD := ⟨("_law_parting", none), "_law_parting", "_law_parting", defArgs s_law_parting, defBody s_law_parting, defScope s_law_parting, [], []⟩
def d_law_call : He.DefD := ⟨("_law_call", none), "_law_call", "_law_call", defArgs s_law_call, defBody s_law_call, defScope s_law_call, [], []⟩
def d_law : He.DefD := ⟨("law", none), "law", "law", defArgs s_law, defBody s_law, defScope s_law, [], []⟩
def dm_init : He.DefD := ⟨("Machine", some "__init__"), "__init__", "Machine.__init__", defArgs m_init, defBody m_init, defScope m_init, [], []⟩
def dm_start : He.DefD := ⟨("Machine", some "start"), "start", "Machine.start", defArgs m_start, defBody m_start, defScope m_start, [], []⟩
def dm_is_ready : He.DefD := ⟨("Machine", some "is_ready"), "is_ready", "Machine.is_ready", defArgs m_is_ready, defBody m_is_ready, defScope m_is_ready, [], []⟩
def dm_told : He.DefD := ⟨("Machine", some "told"), "told", "Machine.told", defArgs m_told, defBody m_told, defScope m_told, [], []⟩
def dm_closed : He.DefD := ⟨("Machine", some "closed"), "closed", "Machine.closed", defArgs m_closed, defBody m_closed, defScope m_closed, [], []⟩
def dm_ahead : He.DefD := ⟨("Machine", some "ahead"), "ahead", "Machine.ahead", defArgs m_ahead, defBody m_ahead, defScope m_ahead, [], []⟩
def dm_infix : He.DefD := ⟨("Machine", some "infix"), "infix", "Machine.infix", defArgs m_infix, defBody m_infix, defScope m_infix, [], []⟩
def dm_step : He.DefD := ⟨("Machine", some "step"), "step", "Machine.step", defArgs m_step, defBody m_step, defScope m_step, [], []⟩
def dm_following : He.DefD := ⟨("Machine", some "following"), "following", "Machine.following", defArgs m_following, defBody m_following, defScope m_following, [], []⟩
def fn : List He.DefD := [d_is_int, d_is_choice, d_is_level, d_all_signs, d_is_table, d_check_table, d_check_two, d_places_of, d_kind_of, d_can_follow, d_is_row, d_has_signs, d_check_row, d_is_line, d_is_square, d_is_meaning, d_same_counts, d_fits, d_check_meaning, d_unlike_row, d_check_pair, d_same_values, d_value_row, d_finished, d_tree_of, d_worth, d_value_of, d_read_value, d_law_start, d_law_draw, d_law_pick, d_law_error, d_law_true, d_law_many, d_law_signs, d_law_table, d_law_square, d_law_meaning, d_law_row, d_law_place, d_law_tree, d_law_worth, d_law_told, d_law_next, d_law_end, d_law_items, d_law_parting, d_law_call, d_law, dm_init, dm_start, dm_is_ready, dm_told, dm_closed, dm_ahead, dm_infix, dm_step, dm_following]
def fa : List He.Fa := [.glo "is_int", .glo "is_choice", .glo "is_level", .glo "all_signs", .glo "is_table", .glo "check_table", .glo "check_two", .glo "places_of", .glo "kind_of", .glo "can_follow", .glo "is_row", .glo "has_signs", .glo "check_row", .glo "is_line", .glo "is_square", .glo "is_meaning", .glo "same_counts", .glo "fits", .glo "check_meaning", .glo "unlike_row", .glo "check_pair", .glo "same_values", .glo "value_row", .glo "finished", .glo "tree_of", .glo "worth", .glo "value_of", .glo "read_value", .glo "_law_start", .glo "_law_draw", .glo "_law_pick", .glo "_law_error", .glo "_law_true", .glo "_law_many", .glo "_law_signs", .glo "_law_table", .glo "_law_square", .glo "_law_meaning", .glo "_law_row", .glo "_law_place", .glo "_law_tree", .glo "_law_worth", .glo "_law_told", .glo "_law_next", .glo "_law_end", .glo "_law_items", .glo "_law_parting", .glo "_law_call", .glo "law", .glo "BindError", .glo "BadTable", .glo "BadMeaning", .glo "BadRow", .glo "BadNumber", .glo "BadText", .glo "NotFound", .glo "Machine", .free "len", .free "isinstance", .free "int", .free "bool", .free "tuple", .free "list", .free "str", .free "all", .free "zip", .free "sorted", .free "enumerate", .free "range", .free "min", .free "ValueError", .str "INFIX" "abc", .str "AHEAD" "pq", .int "MOST_ITEMS" 40, .glo "WORDS", .cls "Machine", .mkr "Machine", .meth "Machine" "start", .meth "Machine" "is_ready", .meth "Machine" "told", .meth "Machine" "closed", .meth "Machine" "ahead", .meth "Machine" "infix", .meth "Machine" "step", .meth "Machine" "following", .noat "Machine" "table", .noat "Machine" "meaning", .noat "Machine" "places", .noat "Machine" "size", .noat "Machine" "choices", .noat "Machine" "known", .exc "NotFound", .exm "NotFound" "BindError" true]
/-- more of the top: the words, and what isinstance asks of a caught NotFound -/
def exB (K : PySem.W.Frag) : Bool :=
  He.tupB K "WORDS" [.str "left", .str "right", .str "none"] &&
  (decide (PySem.W.kitOne K (.ref (He.ga K "NotFound")) (.ref (He.ga K "BadTable")) = some false) &&
  (decide (PySem.W.kitOne K (.ref (He.ga K "NotFound")) (.ref (He.ga K "BadMeaning")) = some false) &&
  (decide (PySem.W.kitOne K (.ref (He.ga K "NotFound")) (.ref (He.ga K "BadRow")) = some false) &&
  (decide (PySem.W.kitOne K (.ref (He.ga K "NotFound")) (.ref (He.ga K "BadNumber")) = some false) &&
  (decide (PySem.W.kitOne K (.ref (He.ga K "NotFound")) (.ref (He.ga K "BadText")) = some false) &&
  (decide (PySem.W.kitOne K (.ref (He.ga K "NotFound")) (.ref (He.ga K "NotFound")) = some true) &&
  (decide (PySem.W.kitOne K (.ref (He.ga K "NotFound")) (.ref (He.ga K "BindError")) = some true) &&
  (decide (PySem.W.kitOne K (.ref (He.ga K "NotFound")) (.type "ValueError") = some true) &&
  (He.eqO (PySem.W.findIn K (.ref (He.ga K "NotFound")) "__getattribute__") (some (some (.builtin "BaseException.__getattribute__"))) &&
  (He.eqO (PySem.W.findIn K (.ref (He.ga K "NotFound")) "__getattr__") (some none) &&
  (PySem.W.hasDictIn K (He.ga K "NotFound") &&
  (He.eqO (PySem.W.findIn K (.ref (He.ga K "NotFound")) "__class__") (some (some (.builtin "object.__class__"))) &&
  (He.eqO (PySem.W.specialIn K (.builtin "object.__class__") "__get__") (some (some (.builtin "getset_descriptor.__get__"))) &&
  (decide (PySem.W.takesIn K (.builtin "object.__class__") = some true) &&
  decide (PySem.W.mroIn K (He.ga K "NotFound") (.type "object") = some true)))))))))))))))
abbrev R : PySem.W.OpenRow := PySem.W.OpenLaw.row PySem.Challenge.rw_bindreads_k02_whole_values
abbrev hk : PySem.W.Hook := He.hookX 5 fa fn [] [] exB
def ob (s : PySem.W.SharedT) : He.AlX := He.obsX 5 fa fn [] [] exB (HandSHeadRun.getT s)
theorem ob_eq (s : PySem.W.SharedT) : ob s = hk.obs s.abs := He.obsX_eq (HandSHeadRun.getT_eq s)
def names1 : List PySem.Str := ["BindError", "BadTable", "BadMeaning", "BadRow", "BadNumber", "BadText", "NotFound", "is_int", "INFIX", "AHEAD", "WORDS", "is_choice", "is_level", "all_signs", "is_table", "check_table", "check_two", "places_of", "MOST_ITEMS", "kind_of", "can_follow", "is_row", "has_signs", "check_row", "Machine", "is_line", "is_square", "is_meaning", "same_counts", "fits"]
def names2 : List PySem.Str := ["check_meaning", "unlike_row", "check_pair", "same_values", "value_row", "finished", "tree_of", "worth", "value_of", "read_value", "_law_start", "_law_draw", "_law_pick", "_law_error", "_law_true", "_law_many", "_law_signs", "_law_table", "_law_square", "_law_meaning", "_law_row", "_law_place", "_law_tree", "_law_worth", "_law_told", "_law_next", "_law_end", "_law_items", "_law_parting", "_law_call"]
def names : List PySem.Str := names1 ++ names2
theorem run (w : World) : HandSHeadRun.RunEq R (PySem.W.view R.prog [68]) hk ob 4000 names w := by
  intro os
  kernel_rfl
end Bk
set_option linter.all false
set_option maxRecDepth 10000
/-! The machine of a table under a meaning of the size 2, in plain Lean: what waits in each level, and how short rows do for long ones. -/
namespace Bk

/-- the values at 0 and at 1 of a function of values -/
abbrev Ln := Bool × Bool
def lat (l : Ln) (v : Bool) : Bool := match v with | true => l.2 | false => l.1
def comp (f g : Ln) : Ln := (lat f g.1, lat f g.2)
theorem lat_comp (f g : Ln) (v : Bool) : lat (comp f g) v = lat f (lat g v) := by cases v <;> rfl
theorem ln_ext {f g : Ln} (h : ∀ v, lat f v = lat g v) : f = g := by
  obtain ⟨a, b⟩ := f; obtain ⟨c, d⟩ := g
  have h0 := h false; have h1 := h true
  simp [lat] at h0 h1; rw [h0, h1]

inductive Wd where | left | right | non
  deriving DecidableEq
inductive Sg where | inf (k : Nat) | ahd (k : Nat)
  deriving DecidableEq

structure Mc where
  n : Nat
  word : Nat → Wd
  place : Sg → Nat
  sq : Nat → Bool → Ln
  ln : Nat → Ln

abbrev Wt := List (Option Ln)
def ap (o : Option Ln) (v : Bool) : Bool := match o with | none => v | some l => lat l v
def close : Wt → Bool → Bool
  | [], v => v
  | o :: r, v => ap o (close r v)
def allN (w : Wt) : Prop := ∀ o ∈ w, o = none
def anyS (w : Wt) : Bool := w.any Option.isSome

theorem anyS_false {w : Wt} : anyS w = false ↔ allN w := by
  unfold anyS allN
  rw [List.any_eq_false]
  constructor
  · intro h o ho
    have := h o ho
    cases o with
    | none => rfl
    | some l => exact absurd rfl this
  · intro h o ho
    rw [h o ho]; decide
theorem close_none : ∀ {w : Wt}, allN w → ∀ v, close w v = v
  | [], _, _ => rfl
  | o :: r, h, v => by
    have h1 : o = none := h o List.mem_cons_self
    have h2 : allN r := fun x hx => h x (List.mem_cons_of_mem _ hx)
    rw [close, close_none h2, h1]; rfl
theorem allN_rep (k : Nat) : allN (List.replicate k none) := fun o ho => (List.mem_replicate.mp ho).2
theorem allN_drop {w : Wt} {p q : Nat} (h : allN (w.drop p)) (hq : p ≤ q) : allN (w.drop q) := by
  intro o ho
  have e : w.drop q = (w.drop p).drop (q - p) := by rw [List.drop_drop]; congr 1; omega
  rw [e] at ho
  exact h o (List.mem_of_mem_drop ho)
theorem allN_eq : ∀ {w : Wt}, allN w → w = List.replicate w.length none
  | [], _ => rfl
  | o :: r, h => by
    have h1 : o = none := h o List.mem_cons_self
    have h2 : allN r := fun x hx => h x (List.mem_cons_of_mem _ hx)
    rw [h1, List.length_cons, List.replicate_succ, ← allN_eq h2]

/-! ### macro letters: a sign ahead; a value and an infix sign -/
inductive Mv where | pre (a : Nat) | inf (v : Bool) (k : Nat)
  deriving DecidableEq
def Mv.sg : Mv → Sg | .pre a => .ahd a | .inf _ k => .inf k
def Mv.len : Mv → Nat | .pre _ => 1 | .inf _ _ => 2
def mlen (ms : List Mv) : Nat := (ms.map Mv.len).sum
theorem mlen_nil : mlen [] = 0 := rfl
theorem mlen_cons (a : Mv) (ms : List Mv) : mlen (a :: ms) = a.len + mlen ms := by simp [mlen]
theorem mlen_append (a b : List Mv) : mlen (a ++ b) = mlen a + mlen b := by simp [mlen]
theorem len_le (a : Mv) : a.len ≤ 2 := by cases a <;> simp [Mv.len]

/-- level p holds l, what is tighter is empty -/
def build (w : Wt) (p : Nat) (l : Ln) : Wt := w.take p ++ some l :: List.replicate (w.length - p - 1) none

def mstep (M : Mc) (w : Wt) : Mv → Option Wt
  | .pre a => if anyS (w.drop (M.place (.ahd a))) = true then none else some (w.set (M.place (.ahd a)) (some (M.ln a)))
  | .inf v k =>
    let p := M.place (.inf k)
    let x := close (w.drop (p + 1)) v
    match w.getD p none, M.word p with
    | some _, .non => none
    | some f, .left => some (build w p (M.sq k (lat f x)))
    | some f, .right => some (build w p (comp f (M.sq k x)))
    | none, _ => some (build w p (M.sq k x))
def mrun (M : Mc) : Option Wt → List Mv → Option Wt
  | o, [] => o
  | none, _ :: _ => none
  | some w, a :: ms => mrun M (mstep M w a) ms
def act (M : Mc) (p : Nat) (w : Wt) (ms : List Mv) (b : Bool) : Option Bool := (mrun M (some w) ms).map fun w' => close (w'.drop p) b

theorem mrun_none (M : Mc) : ∀ ms, mrun M none ms = none
  | [] => rfl
  | _ :: _ => rfl
theorem mrun_append (M : Mc) : ∀ (a b : List Mv) (o : Option Wt), mrun M o (a ++ b) = mrun M (mrun M o a) b
  | [], b, o => by cases o <;> rfl
  | x :: a, b, none => by rw [List.cons_append]; show none = _; rw [show mrun M none (x :: a) = none from rfl, mrun_none]
  | x :: a, b, some w => by
    show mrun M (mstep M w x) (a ++ b) = mrun M (mrun M (mstep M w x) a) b
    exact mrun_append M a b _

theorem build_length {w : Wt} {p : Nat} (l : Ln) (h : p < w.length) : (build w p l).length = w.length := by
  unfold build
  simp [List.length_append, List.length_take]
  omega
theorem build_set {w : Wt} {p : Nat} (l : Ln) (h : p < w.length) (hn : allN (w.drop (p + 1))) : build w p l = w.set p (some l) := by
  unfold build
  rw [List.set_eq_take_append_cons_drop, if_pos h]
  congr 2
  have := allN_eq hn
  rw [this, List.length_drop]
  congr 1
theorem build_drop {w : Wt} {p : Nat} (l : Ln) (h : p < w.length) : (build w p l).drop (p + 1) = List.replicate (w.length - p - 1) none := by
  unfold build
  have e : (w.take p ++ some l :: List.replicate (w.length - p - 1) none) = (w.take p ++ [some l]) ++ List.replicate (w.length - p - 1) none := by simp
  have el : (w.take p ++ [some l]).length = p + 1 := by simp; omega
  rw [e, List.drop_append, el, List.drop_of_length_le (by omega)]
  simp
theorem build_get {w : Wt} {p : Nat} (l : Ln) (h : p < w.length) : (build w p l).getD p none = some l := by
  unfold build
  rw [List.getD_eq_getElem?_getD, List.getElem?_append_right (by simp [List.length_take]; omega)]
  simp [List.length_take, Nat.min_eq_left (Nat.le_of_lt h)]
theorem build_take {w : Wt} {p : Nat} (l : Ln) (h : p < w.length) : (build w p l).take p = w.take p := by
  unfold build
  rw [List.take_append_of_le_length (by simp [List.length_take]; omega)]
  rw [List.take_take, Nat.min_self]
theorem build_get_lt {w : Wt} {p q : Nat} (l : Ln) (h : p < w.length) (hq : q < p) : (build w p l)[q]? = w[q]? := by
  unfold build
  rw [List.getElem?_append_left (by simp [List.length_take]; omega), List.getElem?_take, if_pos hq]

structure Mc.Ok (M : Mc) (ok : Sg → Prop) : Prop where
  pl : ∀ s, ok s → M.place s < M.n

section
variable {M : Mc} {ok : Sg → Prop} (h : M.Ok ok)
include h
theorem mstep_length {w w' : Wt} {a : Mv} (hw : w.length = M.n) (ha : ok a.sg) (e : mstep M w a = some w') : w'.length = M.n := by
  cases a with
  | pre a =>
    simp only [mstep] at e
    split at e
    · cases e
    · cases e; simpa using hw
  | inf v k =>
    have hp := h.pl _ ha
    simp only [Mv.sg] at hp
    simp only [mstep] at e
    split at e
    · cases e
    all_goals (cases e; rw [build_length _ (by omega)]; exact hw)
theorem mrun_length : ∀ {ms : List Mv} {w w' : Wt}, w.length = M.n → (∀ a ∈ ms, ok a.sg) → mrun M (some w) ms = some w' → w'.length = M.n
  | [], w, w', hw, _, e => by cases e; exact hw
  | a :: ms, w, w', hw, ha, e => by
    have e' : mrun M (mstep M w a) ms = some w' := e
    cases q : mstep M w a with
    | none => rw [q, mrun_none] at e'; cases e'
    | some w1 =>
      rw [q] at e'
      exact mrun_length (mstep_length h hw (ha a List.mem_cons_self) q) (fun b hb => ha b (List.mem_cons_of_mem _ hb)) e'
end

/-! ### products of three functions are products of two of them -/
theorem three (f g k : Ln) : (∃ a, (a = f ∨ a = g ∨ a = k) ∧ comp f (comp g k) = a) ∨ ∃ a b, (a = f ∨ a = g ∨ a = k) ∧ (b = f ∨ b = g ∨ b = k) ∧ comp f (comp g k) = comp a b := by
  obtain ⟨f0, f1⟩ := f; obtain ⟨g0, g1⟩ := g; obtain ⟨k0, k1⟩ := k
  have key : ∀ f0 f1 g0 g1 k0 k1 : Bool,
      (comp (f0, f1) (comp (g0, g1) (k0, k1)) = (f0, f1) ∨ comp (f0, f1) (comp (g0, g1) (k0, k1)) = (g0, g1) ∨ comp (f0, f1) (comp (g0, g1) (k0, k1)) = (k0, k1)) ∨
      (comp (f0, f1) (comp (g0, g1) (k0, k1)) = comp (f0, f1) (f0, f1) ∨ comp (f0, f1) (comp (g0, g1) (k0, k1)) = comp (f0, f1) (g0, g1) ∨ comp (f0, f1) (comp (g0, g1) (k0, k1)) = comp (f0, f1) (k0, k1) ∨
       comp (f0, f1) (comp (g0, g1) (k0, k1)) = comp (g0, g1) (f0, f1) ∨ comp (f0, f1) (comp (g0, g1) (k0, k1)) = comp (g0, g1) (g0, g1) ∨ comp (f0, f1) (comp (g0, g1) (k0, k1)) = comp (g0, g1) (k0, k1) ∨
       comp (f0, f1) (comp (g0, g1) (k0, k1)) = comp (k0, k1) (f0, f1) ∨ comp (f0, f1) (comp (g0, g1) (k0, k1)) = comp (k0, k1) (g0, g1) ∨ comp (f0, f1) (comp (g0, g1) (k0, k1)) = comp (k0, k1) (k0, k1)) := by decide
  rcases key f0 f1 g0 g1 k0 k1 with (e | e | e) | (e | e | e | e | e | e | e | e | e)
  · exact .inl ⟨_, .inl rfl, e⟩
  · exact .inl ⟨_, .inr (.inl rfl), e⟩
  · exact .inl ⟨_, .inr (.inr rfl), e⟩
  · exact .inr ⟨_, _, .inl rfl, .inl rfl, e⟩
  · exact .inr ⟨_, _, .inl rfl, .inr (.inl rfl), e⟩
  · exact .inr ⟨_, _, .inl rfl, .inr (.inr rfl), e⟩
  · exact .inr ⟨_, _, .inr (.inl rfl), .inl rfl, e⟩
  · exact .inr ⟨_, _, .inr (.inl rfl), .inr (.inl rfl), e⟩
  · exact .inr ⟨_, _, .inr (.inl rfl), .inr (.inr rfl), e⟩
  · exact .inr ⟨_, _, .inr (.inr rfl), .inl rfl, e⟩
  · exact .inr ⟨_, _, .inr (.inr rfl), .inr (.inl rfl), e⟩
  · exact .inr ⟨_, _, .inr (.inr rfl), .inr (.inr rfl), e⟩
theorem comp_assoc (f g k : Ln) : comp (comp f g) k = comp f (comp g k) := ln_ext fun v => by simp only [lat_comp]

/-! ### what a level can hold -/
section
variable (M : Mc) (ok : Sg → Prop)
def GA (p : Nat) (f : Ln) : Prop := ∃ a, ok (.ahd a) ∧ M.place (.ahd a) = p ∧ f = M.ln a
def GB (p : Nat) (f : Ln) : Prop := ∃ k x, ok (.inf k) ∧ M.place (.inf k) = p ∧ f = M.sq k x
def Gen (p : Nat) (f : Ln) : Prop :=
  GA M ok p f ∨ GB M ok p f ∨ (M.word p = .right ∧ ((∃ g k, GA M ok p g ∧ GB M ok p k ∧ f = comp g k) ∨ (∃ g k, GB M ok p g ∧ GB M ok p k ∧ f = comp g k) ∨
    ∃ a g k, GA M ok p a ∧ GB M ok p g ∧ GB M ok p k ∧ f = comp a (comp g k)))
variable {M ok}
theorem gb_three {p : Nat} {f g k : Ln} (hf : GB M ok p f) (hg : GB M ok p g) (hk : GB M ok p k) : GB M ok p (comp f (comp g k)) ∨ ∃ a b, GB M ok p a ∧ GB M ok p b ∧ comp f (comp g k) = comp a b := by
  have pick : ∀ a : Ln, (a = f ∨ a = g ∨ a = k) → GB M ok p a := fun a ha => by rcases ha with rfl | rfl | rfl <;> assumption
  rcases three f g k with ⟨a, ha, e⟩ | ⟨a, b, ha, hb, e⟩
  · exact .inl (e ▸ pick a ha)
  · exact .inr ⟨a, b, pick a ha, pick b hb, e⟩
theorem Gen.more {p : Nat} {f k : Ln} (hr : M.word p = .right) (hf : Gen M ok p f) (hk : GB M ok p k) : Gen M ok p (comp f k) := by
  rcases hf with ha | hb | ⟨_, ⟨g, l, hg, hl, rfl⟩ | ⟨g, l, hg, hl, rfl⟩ | ⟨a, g, l, ha, hg, hl, rfl⟩⟩
  · exact .inr (.inr ⟨hr, .inl ⟨f, k, ha, hk, rfl⟩⟩)
  · exact .inr (.inr ⟨hr, .inr (.inl ⟨f, k, hb, hk, rfl⟩)⟩)
  · rw [comp_assoc]
    exact .inr (.inr ⟨hr, .inr (.inr ⟨g, l, k, hg, hl, hk, rfl⟩)⟩)
  · rw [comp_assoc]
    rcases gb_three hg hl hk with h1 | ⟨a, b, h1, h2, e⟩
    · exact .inr (.inl h1)
    · exact .inr (.inr ⟨hr, .inr (.inl ⟨a, b, h1, h2, e⟩)⟩)
  · rw [comp_assoc, comp_assoc]
    rcases gb_three hg hl hk with h1 | ⟨b, c, h1, h2, e⟩
    · exact .inr (.inr ⟨hr, .inl ⟨a, _, ha, h1, rfl⟩⟩)
    · exact .inr (.inr ⟨hr, .inr (.inr ⟨a, b, c, ha, h1, h2, by rw [e]⟩)⟩)

/-! ### short words to a level's content -/
theorem set_drop_lt {w : Wt} {p : Nat} {o : Option Ln} (hn : allN (w.drop p)) : allN ((w.set p o).drop (p + 1)) := by
  rw [List.drop_set_of_lt (by omega)]
  exact allN_drop hn (by omega)
theorem step_pre {w : Wt} {a p : Nat} (e : M.place (.ahd a) = p) (hn : allN (w.drop p)) : mstep M w (.pre a) = some (w.set p (some (M.ln a))) := by
  simp only [mstep, e]
  rw [anyS_false.mpr hn]
  simp
theorem getD_none {w : Wt} {p : Nat} (hn : allN (w.drop p)) : w.getD p none = none := by
  rw [List.getD_eq_getElem?_getD]
  cases q : w[p]? with
  | none => rfl
  | some o =>
    have hm : o ∈ w.drop p := by
      have : (w.drop p)[0]? = some o := by rw [List.getElem?_drop]; simpa using q
      exact List.mem_of_getElem? this
    rw [hn o hm]; rfl
theorem step_inf0 {w : Wt} {k p : Nat} {v : Bool} (e : M.place (.inf k) = p) (hp : p < w.length) (hn : allN (w.drop p)) : mstep M w (.inf v k) = some (w.set p (some (M.sq k v))) := by
  simp only [mstep, e]
  rw [getD_none hn, close_none (allN_drop hn (by omega : p ≤ p + 1))]
  simp only
  rw [build_set _ hp (allN_drop hn (by omega))]
theorem getD_set {w : Wt} {p : Nat} (o : Option Ln) (hp : p < w.length) : (w.set p o).getD p none = o := by
  rw [List.getD_eq_getElem?_getD, List.getElem?_set_self hp]; rfl
theorem step_infR {w : Wt} {k p : Nat} {v : Bool} {f : Ln} (e : M.place (.inf k) = p) (hr : M.word p = .right) (hp : p < w.length) (hn : allN (w.drop p)) :
    mstep M (w.set p (some f)) (.inf v k) = some (w.set p (some (comp f (M.sq k v)))) := by
  simp only [mstep, e]
  rw [getD_set _ hp, hr, close_none (set_drop_lt hn)]
  simp only
  rw [build_set _ (by simpa using hp) (set_drop_lt hn), List.set_set]

theorem Gen.word {p : Nat} {f : Ln} (hf : Gen M ok p f) : ∃ u : List Mv, (∀ a ∈ u, ok a.sg) ∧ mlen u ≤ 5 ∧
    ∀ w : Wt, p < w.length → allN (w.drop p) → mrun M (some w) u = some (w.set p (some f)) := by
  rcases hf with ⟨a, h1, h2, rfl⟩ | ⟨k, x, h1, h2, rfl⟩ | ⟨hr, ⟨_, _, ⟨a, h1, h2, rfl⟩, ⟨k, x, h3, h4, rfl⟩, rfl⟩ | ⟨_, _, ⟨k', x', h1, h2, rfl⟩, ⟨k, x, h3, h4, rfl⟩, rfl⟩ |
    ⟨_, _, _, ⟨a, h1, h2, rfl⟩, ⟨k', x', h5, h6, rfl⟩, ⟨k, x, h3, h4, rfl⟩, rfl⟩⟩
  · refine ⟨[.pre a], by simpa [Mv.sg] using h1, by simp [mlen, Mv.len], fun w hp hn => ?_⟩
    show mrun M (mstep M w _) [] = _
    rw [step_pre h2 hn]; rfl
  · refine ⟨[.inf x k], by simpa [Mv.sg] using h1, by simp [mlen, Mv.len], fun w hp hn => ?_⟩
    show mrun M (mstep M w _) [] = _
    rw [step_inf0 h2 hp hn]; rfl
  · refine ⟨[.pre a, .inf x k], by simp [Mv.sg, h1, h3], by simp [mlen, Mv.len], fun w hp hn => ?_⟩
    show mrun M (mstep M w _) [_] = _
    rw [step_pre h2 hn]
    show mrun M (mstep M _ _) [] = _
    rw [step_infR h4 hr hp hn]; rfl
  · refine ⟨[.inf x' k', .inf x k], by simp [Mv.sg, h1, h3], by simp [mlen, Mv.len], fun w hp hn => ?_⟩
    show mrun M (mstep M w _) [_] = _
    rw [step_inf0 h2 hp hn]
    show mrun M (mstep M _ _) [] = _
    rw [step_infR h4 hr hp hn]; rfl
  · refine ⟨[.pre a, .inf x' k', .inf x k], by simp [Mv.sg, h1, h3, h5], by simp [mlen, Mv.len], fun w hp hn => ?_⟩
    show mrun M (mstep M w _) [_, _] = _
    rw [step_pre h2 hn]
    show mrun M (mstep M _ _) [_] = _
    rw [step_infR h6 hr hp hn]
    show mrun M (mstep M _ _) [] = _
    rw [step_infR h4 hr hp hn, comp_assoc]; rfl

/-! ### what is reached holds such contents alone -/
def Good (M : Mc) (ok : Sg → Prop) (w : Wt) : Prop := ∀ p f, w[p]? = some (some f) → Gen M ok p f
theorem good_init (n : Nat) : Good M ok (List.replicate n none) := fun p f e => by
  have := List.mem_of_getElem? e
  have := (List.mem_replicate.mp this).2
  cases this
theorem good_build {w : Wt} {p : Nat} {l : Ln} (g : Good M ok w) (hp : p < w.length) (hl : Gen M ok p l) : Good M ok (build w p l) := fun q f e => by
  by_cases h1 : q < p
  · rw [build_get_lt l hp h1] at e
    exact g q f e
  · by_cases h2 : q = p
    · subst h2
      have := build_get l hp
      rw [List.getD_eq_getElem?_getD, e] at this
      have e' : some f = some l := this
      cases e'; exact hl
    · have hd := build_drop l hp
      have : ((build w p l).drop (p + 1))[q - (p + 1)]? = some (some f) := by
        rw [List.getElem?_drop]
        have : p + 1 + (q - (p + 1)) = q := by omega
        rw [this]; exact e
      rw [hd] at this
      have := (List.mem_replicate.mp (List.mem_of_getElem? this)).2
      cases this
theorem good_step {w w' : Wt} {a : Mv} (hM : M.Ok ok) (hw : w.length = M.n) (g : Good M ok w) (ha : ok a.sg) (e : mstep M w a = some w') : Good M ok w' := by
  cases a with
  | pre a =>
    simp only [mstep] at e
    split at e
    · cases e
    · cases e
      intro q f e
      by_cases hq : q = M.place (.ahd a)
      · subst hq
        have hp := hM.pl _ ha
        simp only [Mv.sg] at hp
        rw [List.getElem?_set_self (by omega)] at e
        cases e
        exact .inl ⟨a, ha, rfl, rfl⟩
      · rw [List.getElem?_set_ne (Ne.symm hq)] at e
        exact g q f e
  | inf v k =>
    have hp := hM.pl _ ha
    simp only [Mv.sg] at hp
    simp only [mstep] at e
    have hB : ∀ x, GB M ok (M.place (.inf k)) (M.sq k x) := fun x => ⟨k, x, ha, rfl, rfl⟩
    split at e
    · cases e
    · cases e
      exact good_build g (by omega) (.inr (.inl (hB _)))
    · rename_i f e1 e2
      cases e
      refine good_build g (by omega) (Gen.more e2 (g _ f ?_) (hB _))
      rw [List.getD_eq_getElem?_getD] at e1
      cases q : w[M.place (.inf k)]? with
      | none => rw [q] at e1; cases e1
      | some o => rw [q] at e1; simp at e1; rw [e1]
    · cases e
      exact good_build g (by omega) (.inr (.inl (hB _)))
theorem good_run (hM : M.Ok ok) : ∀ {ms : List Mv} {w w' : Wt}, w.length = M.n → Good M ok w → (∀ a ∈ ms, ok a.sg) → mrun M (some w) ms = some w' → Good M ok w'
  | [], w, w', _, g, _, e => by cases e; exact g
  | a :: ms, w, w', hw, g, ha, e => by
    have e' : mrun M (mstep M w a) ms = some w' := e
    cases q : mstep M w a with
    | none => rw [q, mrun_none] at e'; cases e'
    | some w1 =>
      rw [q] at e'
      exact good_run hM (mstep_length hM hw (ha a List.mem_cons_self) q) (good_step hM hw g (ha a List.mem_cons_self) q) (fun b hb => ha b (List.mem_cons_of_mem _ hb)) e'

theorem reach_good (hM : M.Ok ok) {w : Wt} (hw : w.length = M.n) (g : Good M ok w) : ∀ q, q ≤ M.n → ∃ u : List Mv, (∀ a ∈ u, ok a.sg) ∧ mlen u ≤ 5 * q ∧
    mrun M (some (List.replicate M.n none)) u = some (w.take q ++ List.replicate (M.n - q) none)
  | 0, _ => ⟨[], by simp, by simp [mlen], by simp [mrun]⟩
  | q + 1, hq => by
    obtain ⟨u, h1, h2, h3⟩ := reach_good hM hw g q (by omega)
    obtain ⟨o, ho⟩ : ∃ o, w[q]? = some o := ⟨w[q]'(by omega), by simp⟩
    have et : w.take (q + 1) = w.take q ++ [o] := by
      rw [List.take_succ, ho]; rfl
    have lt : (w.take q).length = q := by simp; omega
    cases o with
    | none =>
      refine ⟨u, h1, by omega, ?_⟩
      rw [h3, et]
      have : M.n - q = (M.n - (q + 1)) + 1 := by omega
      rw [this, List.replicate_succ]
      simp
    | some f =>
      obtain ⟨v, v1, v2, v3⟩ := (g q f ho).word
      refine ⟨u ++ v, ?_, by rw [mlen_append]; omega, ?_⟩
      · intro a ha
        rcases List.mem_append.mp ha with z | z
        · exact h1 a z
        · exact v1 a z
      · rw [mrun_append, h3]
        have hn : allN ((w.take q ++ List.replicate (M.n - q) none).drop q) := by
          rw [List.drop_append, lt]
          simp only [Nat.sub_self, List.drop_zero]
          rw [List.drop_of_length_le (by omega)]
          exact allN_rep _
        rw [v3 _ (by simp; omega) hn, et]
        have e2 : M.n - q = (M.n - (q + 1)) + 1 := by omega
        rw [e2, List.replicate_succ, List.set_append_right _ _ (by omega), lt]
        simp

/-- every state that comes, comes by a short word -/
theorem short_word (hM : M.Ok ok) {ms : List Mv} (ha : ∀ a ∈ ms, ok a.sg) :
    ∃ u : List Mv, (∀ a ∈ u, ok a.sg) ∧ mlen u ≤ 5 * M.n + 2 ∧ mrun M (some (List.replicate M.n none)) u = mrun M (some (List.replicate M.n none)) ms := by
  have whole : ∀ {w : Wt} {ms : List Mv}, (∀ a ∈ ms, ok a.sg) → mrun M (some (List.replicate M.n none)) ms = some w → ∃ u : List Mv, (∀ a ∈ u, ok a.sg) ∧ mlen u ≤ 5 * M.n ∧ mrun M (some (List.replicate M.n none)) u = some w := by
    intro w ms ha e
    have hl := mrun_length hM (by simp) ha e
    obtain ⟨u, h1, h2, h3⟩ := reach_good hM hl (good_run hM (by simp) (good_init _) ha e) M.n (Nat.le_refl _)
    refine ⟨u, h1, h2, ?_⟩
    rw [h3, ← hl]
    simp
  have dead : ∀ (ms : List Mv) (m0 : List Mv) (w : Wt), (∀ a ∈ m0, ok a.sg) → (∀ a ∈ ms, ok a.sg) → mrun M (some (List.replicate M.n none)) m0 = some w → mrun M (some w) ms = none →
      ∃ u : List Mv, (∀ a ∈ u, ok a.sg) ∧ mlen u ≤ 5 * M.n + 2 ∧ mrun M (some (List.replicate M.n none)) u = none := by
    intro ms
    induction ms with
    | nil => intro m0 w _ _ _ e; cases e
    | cons a ms ih =>
      intro m0 w h0 h1 e0 e1
      have e1' : mrun M (mstep M w a) ms = none := e1
      cases q : mstep M w a with
      | none =>
        obtain ⟨u, u1, u2, u3⟩ := whole h0 e0
        refine ⟨u ++ [a], ?_, ?_, ?_⟩
        · intro b hb
          rcases List.mem_append.mp hb with z | z
          · exact u1 b z
          · rw [List.mem_singleton.mp z]; exact h1 a List.mem_cons_self
        · rw [mlen_append]
          have := len_le a
          simp [mlen]; simp [mlen] at u2; omega
        · rw [mrun_append, u3]
          show mrun M (mstep M w a) [] = none
          rw [q]; rfl
      | some w1 =>
        rw [q] at e1'
        refine ih (m0 ++ [a]) w1 ?_ (fun b hb => h1 b (List.mem_cons_of_mem _ hb)) ?_ e1'
        · intro b hb
          rcases List.mem_append.mp hb with z | z
          · exact h0 b z
          · rw [List.mem_singleton.mp z]; exact h1 a List.mem_cons_self
        · rw [mrun_append, e0]
          show mrun M (mstep M w a) [] = _
          rw [q]; rfl
  cases e : mrun M (some (List.replicate M.n none)) ms with
  | some w =>
    obtain ⟨u, u1, u2, u3⟩ := whole ha e
    exact ⟨u, u1, by omega, u3⟩
  | none => exact dead ms [] _ (by simp) ha rfl e
end
end Bk
set_option linter.all false
set_option maxRecDepth 10000
namespace Bk

/-- what is told behind the letters and a last value, from the content w -/
def out (M : Mc) (w : Wt) (ms : List Mv) (b : Bool) : Option Bool := (mrun M (some w) ms).map fun w' => close w' b
theorem out_nil (M : Mc) (w : Wt) (b : Bool) : out M w [] b = some (close w b) := rfl
theorem out_cons (M : Mc) (w : Wt) (a : Mv) (ms : List Mv) (b : Bool) : out M w (a :: ms) b = (mstep M w a).bind fun w' => out M w' ms b := by
  unfold out
  show (mrun M (mstep M w a) ms).map _ = _
  cases mstep M w a with
  | none => rw [mrun_none]; rfl
  | some w' => rfl
theorem out_append (M : Mc) (w : Wt) (ms zs : List Mv) (b : Bool) : out M w (ms ++ zs) b = (mrun M (some w) ms).bind fun w' => out M w' zs b := by
  unfold out
  rw [mrun_append]
  cases mrun M (some w) ms with
  | none => rw [mrun_none]; rfl
  | some w' => rfl

/-! ### the levels but the loosest -/
def Mc.sub (M : Mc) : Mc := { n := M.n - 1, word := fun q => M.word (q + 1), place := fun s => M.place s - 1, sq := M.sq, ln := M.ln }
def oks (M : Mc) (ok : Sg → Prop) (s : Sg) : Prop := ok s ∧ 1 ≤ M.place s
theorem sub_ok {M : Mc} {ok : Sg → Prop} (h : M.Ok ok) : M.sub.Ok (oks M ok) := ⟨fun s hs => by
  have := h.pl s hs.1
  have := hs.2
  show M.place s - 1 < M.n - 1
  omega⟩
theorem step_sub {M : Mc} {o : Option Ln} {r : Wt} {a : Mv} (h : 1 ≤ M.place a.sg) : mstep M (o :: r) a = (mstep M.sub r a).map (o :: ·) := by
  cases a with
  | pre a =>
    simp only [Mv.sg] at h
    obtain ⟨p, hp⟩ : ∃ p, M.place (.ahd a) = p + 1 := ⟨M.place (.ahd a) - 1, by omega⟩
    have hs : M.sub.place (.ahd a) = p := by show M.place (.ahd a) - 1 = p; omega
    simp only [mstep, hp, hs, List.drop_succ_cons, List.set_cons_succ]
    split <;> rfl
  | inf v k =>
    simp only [Mv.sg] at h
    obtain ⟨p, hp⟩ : ∃ p, M.place (.inf k) = p + 1 := ⟨M.place (.inf k) - 1, by omega⟩
    have hs : M.sub.place (.inf k) = p := by show M.place (.inf k) - 1 = p; omega
    have hw : M.sub.word p = M.word (p + 1) := rfl
    have hq : M.sub.sq = M.sq := rfl
    have hb : ∀ l, build (o :: r) (p + 1) l = o :: build r p l := fun l => by
      unfold build
      simp only [List.take_succ_cons, List.length_cons, List.cons_append]
      have : r.length + 1 - (p + 1) - 1 = r.length - p - 1 := by omega
      rw [this]
    simp only [mstep, hp, hs, hw, hq, List.drop_succ_cons, List.getD_cons_succ, hb]
    cases r.getD p none with
    | none => simp
    | some f => cases M.word (p + 1) <;> simp
theorem run_sub {M : Mc} {o : Option Ln} : ∀ {ms : List Mv} {r : Wt}, (∀ a ∈ ms, 1 ≤ M.place a.sg) → mrun M (some (o :: r)) ms = (mrun M.sub (some r) ms).map (o :: ·)
  | [], r, _ => rfl
  | a :: ms, r, h => by
    show mrun M (mstep M (o :: r) a) ms = (mrun M.sub (mstep M.sub r a) ms).map (o :: ·)
    rw [step_sub (h a List.mem_cons_self)]
    cases mstep M.sub r a with
    | none => simp [mrun_none]
    | some r' => exact run_sub fun b hb => h b (List.mem_cons_of_mem _ hb)

/-! ### what the loosest level makes of told values -/
def tailA (M : Mc) : Option Ln → List (Nat × Bool) → Bool → Option Bool
  | o, [], x => some (ap o x)
  | o, (k, y) :: ts, x => match o, M.word 0 with
    | some _, .non => none
    | some f, .left => tailA M (some (M.sq k (lat f x))) ts y
    | some f, .right => tailA M (some (comp f (M.sq k x))) ts y
    | none, _ => tailA M (some (M.sq k x)) ts y
def tlw (v : Bool) : List (Nat × Bool) → List Mv × Bool
  | [] => ([], v)
  | (k, y) :: ts => (.inf v k :: (tlw y ts).1, (tlw y ts).2)
theorem build0 (o : Option Ln) (r : Wt) (l : Ln) : build (o :: r) 0 l = some l :: List.replicate r.length none := by
  unfold build; simp
theorem out_tail {M : Mc} : ∀ {ts : List (Nat × Bool)} {o : Option Ln} {r : Wt} {v : Bool}, (∀ t ∈ ts, M.place (.inf t.1) = 0) →
    out M (o :: r) (tlw v ts).1 (tlw v ts).2 = tailA M o ts (close r v)
  | [], o, r, v, _ => rfl
  | (k, y) :: ts, o, r, v, h => by
    have hk : M.place (.inf k) = 0 := h (k, y) List.mem_cons_self
    have ih : ∀ l : Ln, out M (some l :: List.replicate r.length none) (tlw y ts).1 (tlw y ts).2 = tailA M (some l) ts y := fun l => by
      rw [out_tail fun t ht => h t (List.mem_cons_of_mem _ ht), close_none (allN_rep _)]
    show out M (o :: r) (.inf v k :: (tlw y ts).1) (tlw y ts).2 = _
    rw [out_cons]
    simp only [mstep, hk, tailA, build0]
    have e1 : (o :: r).getD 0 none = o := by simp
    have e2 : (o :: r).drop (0 + 1) = r := rfl
    rw [e1, e2]
    cases o with
    | none => simp only [Option.bind_some, ih]
    | some f =>
      cases hw : M.word 0 with
      | left => simp only [Option.bind_some, ih]
      | right => simp only [Option.bind_some, ih]
      | non => rfl
theorem out_two {M : Mc} {z : List Mv} {v : Bool} {ts : List (Nat × Bool)} {o : Option Ln} {r : Wt} (hz : ∀ a ∈ z, 1 ≤ M.place a.sg) (ht : ∀ t ∈ ts, M.place (.inf t.1) = 0) :
    out M (o :: r) (z ++ (tlw v ts).1) (tlw v ts).2 = (out M.sub r z v).bind (tailA M o ts) := by
  rw [out_append, run_sub hz]
  unfold out
  cases q : mrun M.sub (some r) z with
  | none => rfl
  | some r' =>
    show out M (o :: r') (tlw v ts).1 (tlw v ts).2 = _
    rw [out_tail ht]; rfl
theorem tlw_len (v : Bool) : ∀ ts : List (Nat × Bool), mlen (tlw v ts).1 = 2 * ts.length
  | [] => rfl
  | (k, y) :: ts => by
    show mlen (.inf v k :: (tlw y ts).1) = _
    rw [mlen_cons, tlw_len y ts]; simp [Mv.len]; omega
theorem tlw_sg (v : Bool) : ∀ {ts : List (Nat × Bool)} {a : Mv}, a ∈ (tlw v ts).1 → ∃ t ∈ ts, a.sg = .inf t.1
  | [], a, h => by cases h
  | (k, y) :: ts, a, h => by
    rcases List.mem_cons.mp (show a ∈ .inf v k :: (tlw y ts).1 from h) with e | e
    · exact ⟨(k, y), List.mem_cons_self, by rw [e]; rfl⟩
    · obtain ⟨t, h1, h2⟩ := tlw_sg y e
      exact ⟨t, List.mem_cons_of_mem _ h1, h2⟩

/-- the column of a sign at a value -/
def col (M : Mc) (k : Nat) (y : Bool) : Ln := (lat (M.sq k false) y, lat (M.sq k true) y)
theorem lat_col (M : Mc) (k : Nat) (y x : Bool) : lat (col M k y) x = lat (M.sq k x) y := by cases x <;> rfl
theorem tail_left {M : Mc} (hw : M.word 0 = .left) : ∀ (o : Option Ln) (k : Nat) (y : Bool) (ts : List (Nat × Bool)) (x : Bool), tailA M o ((k, y) :: ts) x = tailA M (some (M.sq k (ap o x))) ts y := by
  intro o k y ts x
  cases o with
  | none => simp only [tailA, hw]; rfl
  | some f => simp only [tailA, hw]; rfl
theorem tail_left1 {M : Mc} (hw : M.word 0 = .left) (o : Option Ln) (k : Nat) (y x : Bool) : tailA M o [(k, y)] x = some (lat (col M k y) (ap o x)) := by
  rw [tail_left hw, lat_col]; rfl
theorem tail_left2 {M : Mc} (hw : M.word 0 = .left) (o : Option Ln) (k k' : Nat) (y y' x : Bool) : tailA M o [(k, y), (k', y')] x = some (lat (comp (col M k' y') (col M k y)) (ap o x)) := by
  rw [tail_left hw, tail_left1 hw, lat_comp, lat_col M k y]; rfl
theorem tail_left3 {M : Mc} (hw : M.word 0 = .left) (o : Option Ln) (k k' k2 : Nat) (y y' y2 x : Bool) :
    tailA M o [(k, y), (k', y'), (k2, y2)] x = some (lat (comp (col M k2 y2) (comp (col M k' y') (col M k y))) (ap o x)) := by
  rw [tail_left hw, tail_left2 hw, lat_comp (col M k2 y2), lat_comp, lat_comp, lat_col M k y]; rfl
theorem tail_right {M : Mc} (hw : M.word 0 = .right) : ∀ (o : Option Ln) (k : Nat) (y : Bool) (ts : List (Nat × Bool)) (x : Bool), tailA M o ((k, y) :: ts) x = tailA M (some (match o with | none => M.sq k x | some f => comp f (M.sq k x))) ts y := by
  intro o k y ts x
  cases o with
  | none => simp only [tailA, hw]
  | some f => simp only [tailA, hw]
theorem tail_right1 {M : Mc} (hw : M.word 0 = .right) (o : Option Ln) (k : Nat) (y x : Bool) : tailA M o [(k, y)] x = some (ap o (lat (M.sq k x) y)) := by
  rw [tail_right hw]
  cases o with
  | none => rfl
  | some f => show some (lat _ y) = _; rw [lat_comp]; rfl
theorem tail_right2 {M : Mc} (hw : M.word 0 = .right) (o : Option Ln) (k k' : Nat) (y y' x : Bool) : tailA M o [(k, y), (k', y')] x = some (ap o (lat (M.sq k x) (lat (M.sq k' y) y'))) := by
  rw [tail_right hw, tail_right1 hw]
  cases o with
  | none => rfl
  | some f => show some (lat _ _) = _; rw [lat_comp]; rfl
theorem tail_right3 {M : Mc} (hw : M.word 0 = .right) (o : Option Ln) (k k' k2 : Nat) (y y' y2 x : Bool) :
    tailA M o [(k, y), (k', y'), (k2, y2)] x = some (ap o (lat (M.sq k x) (lat (M.sq k' y) (lat (M.sq k2 y') y2)))) := by
  rw [tail_right hw, tail_right2 hw]
  cases o with
  | none => rfl
  | some f => show some (lat _ _) = _; rw [lat_comp]; rfl

/-- dead words: behind them nothing is read -/
def Dead (M : Mc) (dm : List Mv) : Prop := ∀ w : Wt, w.length = M.n → mrun M (some w) dm = none
def TsOk (M : Mc) (ok : Sg → Prop) (ts : List (Nat × Bool)) : Prop := ∀ t ∈ ts, ok (.inf t.1) ∧ M.place (.inf t.1) = 0

section
variable {M : Mc} {ok : Sg → Prop}
theorem step0_some {o : Option Ln} {r : Wt} {v : Bool} {k : Nat} (hk : M.place (.inf k) = 0) : mstep M (o :: r) (.inf v k) = none ∨ ∃ l, mstep M (o :: r) (.inf v k) = some (some l :: List.replicate r.length none) := by
  simp only [mstep, hk, build0]
  have e1 : (o :: r).getD 0 none = o := by simp
  rw [e1]
  cases o with
  | none => exact .inr ⟨_, rfl⟩
  | some f =>
    cases M.word 0 with
    | left => exact .inr ⟨_, rfl⟩
    | right => exact .inr ⟨_, rfl⟩
    | non => exact .inl rfl
/-- three of them come to at most two, or to nothing read -/
theorem tail_short {t1 t2 t3 : Nat × Bool} (hn : 0 < M.n) (h1 : ok (.inf t1.1) ∧ M.place (.inf t1.1) = 0) (h2 : ok (.inf t2.1) ∧ M.place (.inf t2.1) = 0) (h3 : ok (.inf t3.1) ∧ M.place (.inf t3.1) = 0) :
    (∃ ts, TsOk M ok ts ∧ ts.length ≤ 2 ∧ ∀ o x, tailA M o ts x = tailA M o [t1, t2, t3] x) ∨
    ((∀ o x, tailA M o [t1, t2, t3] x = none) ∧ ∃ dm, (∀ a ∈ dm, ok a.sg) ∧ mlen dm ≤ 4 ∧ Dead M dm) := by
  obtain ⟨k1, y1⟩ := t1; obtain ⟨k2, y2⟩ := t2; obtain ⟨k3, y3⟩ := t3
  have one : ∀ {k : Nat} {y : Bool}, (ok (.inf k) ∧ M.place (.inf k) = 0) → TsOk M ok [(k, y)] := fun h t ht => by
    rw [List.mem_singleton.mp ht]; exact h
  cases hw : M.word 0 with
  | right =>
    exact .inl ⟨[(k1, lat (M.sq k2 y1) (lat (M.sq k3 y2) y3))], one h1, by simp, fun o x => by rw [tail_right1 hw, tail_right3 hw]⟩
  | left =>
    have pick : ∀ c : Ln, (c = col M k3 y3 ∨ c = col M k2 y2 ∨ c = col M k1 y1) → ∃ k y, (ok (.inf k) ∧ M.place (.inf k) = 0) ∧ c = col M k y := fun c hc => by
      rcases hc with rfl | rfl | rfl
      · exact ⟨_, _, h3, rfl⟩
      · exact ⟨_, _, h2, rfl⟩
      · exact ⟨_, _, h1, rfl⟩
    rcases three (col M k3 y3) (col M k2 y2) (col M k1 y1) with ⟨a, ha, e⟩ | ⟨a, b, ha, hb, e⟩
    · obtain ⟨k, y, hk, rfl⟩ := pick a ha
      exact .inl ⟨[(k, y)], one hk, by simp, fun o x => by rw [tail_left1 hw, tail_left3 hw, e]⟩
    · obtain ⟨k, y, hk, rfl⟩ := pick a ha
      obtain ⟨k', y', hk', rfl⟩ := pick b hb
      refine .inl ⟨[(k', y'), (k, y)], fun t ht => ?_, by simp, fun o x => by rw [tail_left2 hw, tail_left3 hw, e]⟩
      rcases List.mem_cons.mp ht with rfl | ht
      · exact hk'
      · rw [List.mem_singleton.mp ht]; exact hk
  | non =>
    refine .inr ⟨fun o x => ?_, [.inf false k1, .inf y1 k2], ?_, by simp [mlen, Mv.len], fun w hl => ?_⟩
    · cases o with
      | none => simp only [tailA, hw]
      | some f => simp only [tailA, hw]
    · intro a ha
      rcases List.mem_cons.mp ha with rfl | ha
      · exact h1.1
      · rw [List.mem_singleton.mp ha]; exact h2.1
    · cases w with
      | nil => simp at hl; omega
      | cons o r =>
        show mrun M (mstep M (o :: r) _) [_] = none
        rcases step0_some (M := M) (o := o) (r := r) (v := false) h1.2 with e | ⟨l, e⟩
        · rw [e]; rfl
        · rw [e]
          show mrun M (mstep M _ _) [] = none
          simp only [mstep, h2.2, hw]
          simp [mrun]

def Lb : Nat → Nat
  | 0 => 1
  | 1 => 6
  | n + 2 => Lb (n + 1) + 4
theorem Lb_pos : ∀ n, 1 ≤ Lb n
  | 0 => Nat.le_refl _
  | 1 => by decide
  | n + 2 => by have := Lb_pos (n + 1); show 1 ≤ Lb (n + 1) + 4; omega
theorem Lb_succ (n : Nat) : Lb n + 4 ≤ Lb (n + 1) ∧ 6 ≤ Lb (n + 1) := by
  cases n with
  | zero => decide
  | succ n =>
    have e : Lb (n + 1 + 1) = Lb (n + 1) + 4 := rfl
    have h : 6 ≤ Lb (n + 1) := by
      clear e
      induction n with
      | zero => decide
      | succ n ih => have e : Lb (n + 1 + 1) = Lb (n + 1) + 4 := rfl; omega
    omega

/-- the three forms that rows come to -/
def Form (M : Mc) (ok : Sg → Prop) (m : Nat) (ms : List Mv) (b : Bool) : Prop :=
  (∃ z v ts, (∀ a ∈ z, oks M ok a.sg) ∧ mlen z + 1 ≤ Lb m ∧ TsOk M ok ts ∧ ts.length ≤ 2 ∧ ∀ w : Wt, w.length = M.n → out M w (z ++ (tlw v ts).1) (tlw v ts).2 = out M w ms b) ∨
  (∃ a x ts, (ok (.ahd a) ∧ M.place (.ahd a) = 0) ∧ TsOk M ok ts ∧ ts.length ≤ 2 ∧ ∀ w : Wt, w.length = M.n → out M w (.pre a :: (tlw x ts).1) (tlw x ts).2 = out M w ms b) ∨
  ((∀ w : Wt, w.length = M.n → out M w ms b = none) ∧ ∃ dm, (∀ a ∈ dm, ok a.sg) ∧ mlen dm + 1 ≤ Lb (m + 1) ∧ Dead M dm)

theorem out_dead {dm : List Mv} (h : Dead M dm) {w : Wt} (hw : w.length = M.n) (b : Bool) : out M w dm b = none := by
  unfold out; rw [h w hw]; rfl

theorem form_cons (hM : M.Ok ok) {m : Nat} (hn : M.n = m + 1)
    (ih : ∀ (ms : List Mv) (b : Bool), (∀ a ∈ ms, oks M ok a.sg) → ∃ ms' b', (∀ a ∈ ms', oks M ok a.sg) ∧ mlen ms' + 1 ≤ Lb m ∧ ∀ w : Wt, w.length = m → out M.sub w ms' b' = out M.sub w ms b) :
    ∀ (ms : List Mv) (b : Bool), (∀ a ∈ ms, ok a.sg) → Form M ok m ms b := by
  have L := Lb_succ m
  have P := Lb_pos m
  -- what the loosest level does first
  have zlist : ∀ {z : List Mv}, (∀ a ∈ z, oks M ok a.sg) → ∀ a ∈ z, 1 ≤ M.place a.sg := fun h a ha => (h a ha).2
  have tlist : ∀ {ts : List (Nat × Bool)}, TsOk M ok ts → ∀ t ∈ ts, M.place (.inf t.1) = 0 := fun h t ht => (h t ht).2
  have preDead : ∀ {w : Wt} {a : Nat}, w.length = M.n → M.place (.ahd a) = 0 → anyS w = true → mstep M w (.pre a) = none := fun {w a} hl hp ha => by
    simp only [mstep, hp, List.drop_zero, ha, if_true]
  intro ms
  induction ms with
  | nil => exact fun b _ => .inl ⟨[], b, [], by simp, by simpa [mlen] using P, (fun _ h => nomatch h), by simp, fun w hw => rfl⟩
  | cons a ms ihm =>
    intro b ha
    have hms := ihm b fun c hc => ha c (List.mem_cons_of_mem _ hc)
    have ha0 := ha a List.mem_cons_self
    by_cases hp : 1 ≤ M.place a.sg
    · -- a tighter letter
      rcases hms with ⟨z, v, ts, hz, lz, ht, lt, e⟩ | ⟨a0, x, ts, h0, ht, lt, e⟩ | ⟨e, dm, h1, h2, h3⟩
      · obtain ⟨z', v', hz', lz', e'⟩ := ih (a :: z) v (fun c hc => by
          rcases List.mem_cons.mp hc with rfl | hc
          · exact ⟨ha0, hp⟩
          · exact hz c hc)
        refine .inl ⟨z', v', ts, hz', lz', ht, lt, fun w hw => ?_⟩
        cases w with
        | nil => simp at hw; omega
        | cons o r =>
          have hr : r.length = m := by simp at hw; omega
          rw [out_two (zlist hz') (tlist ht), e' r hr, out_cons, out_cons, step_sub hp]
          cases q : mstep M.sub r a with
          | none => rfl
          | some r' =>
            have hr' : r'.length = m := by
              have := mstep_length (sub_ok hM) (w := r) (by show r.length = M.n - 1; omega) ⟨ha0, hp⟩ q
              show r'.length = m
              have h2 : M.sub.n = M.n - 1 := rfl
              omega
            show (out M.sub r' z v).bind (tailA M o ts) = out M (o :: r') ms b
            rw [← e (o :: r') (by simp; omega), out_two (zlist hz) (tlist ht)]
      · -- then a sign ahead of the loosest level: never read
        have dd : Dead M [a, .pre a0] := fun w hw => by
          cases w with
          | nil => simp at hw; omega
          | cons o r =>
            have hr : r.length = m := by simp at hw; omega
            show mrun M (mstep M (o :: r) a) [.pre a0] = none
            rw [step_sub hp]
            cases q : mstep M.sub r a with
            | none => rfl
            | some r' =>
              show mrun M (mstep M (o :: r') (.pre a0)) [] = none
              have hl' : r'.length = M.sub.n := mstep_length (sub_ok hM) (w := r) (by show r.length = M.n - 1; omega) ⟨ha0, hp⟩ q
              have hs : anyS r' = true := by
                have pl := (sub_ok hM).pl _ (show oks M ok a.sg from ⟨ha0, hp⟩)
                cases a with
                | pre a =>
                  simp only [mstep] at q
                  split at q
                  · cases q
                  · cases q
                    unfold anyS
                    simp only [Mv.sg] at pl
                    refine List.any_eq_true.mpr ⟨some (M.sub.ln a), ?_, rfl⟩
                    refine List.mem_of_getElem? (i := M.sub.place (.ahd a)) ?_
                    rw [List.getElem?_set_self (by show _ < r.length; have h2 : M.sub.n = M.n - 1 := rfl; omega)]
                | inf v k =>
                  simp only [Mv.sg] at pl
                  have hb : ∀ l, anyS (build r (M.sub.place (.inf k)) l) = true := fun l => by
                    unfold anyS
                    refine List.any_eq_true.mpr ⟨some l, ?_, rfl⟩
                    unfold build
                    simp
                  simp only [mstep] at q
                  split at q
                  · cases q
                  all_goals (cases q; exact hb _)
              rw [preDead (by simp; have h2 : M.sub.n = M.n - 1 := rfl; omega) h0.2 (by
                unfold anyS at hs ⊢
                rw [List.any_cons, hs, Bool.or_true])]
              rfl
        refine .inr (.inr ⟨fun w hw => ?_, [a, .pre a0], ?_, ?_, dd⟩)
        · rw [out_cons]
          have d := dd w hw
          have d' : mrun M (mstep M w a) [.pre a0] = none := d
          cases q : mstep M w a with
          | none => rfl
          | some w' =>
            have hw' := mstep_length hM hw ha0 q
            show out M w' ms b = none
            rw [← e w' hw', out_cons]
            rw [q] at d'
            have d2 : mrun M (mstep M w' (.pre a0)) [] = none := d'
            cases q2 : mstep M w' (.pre a0) with
            | none => rfl
            | some w2 => rw [q2] at d2; cases d2
        · intro c hc
          rcases List.mem_cons.mp hc with rfl | hc
          · exact ha0
          · rw [List.mem_singleton.mp hc]; exact h0.1
        · rw [mlen_cons, mlen_cons, mlen_nil]
          have := len_le a
          simp only [Mv.len]; simp only [Mv.len] at this; omega
      · refine .inr (.inr ⟨fun w hw => ?_, dm, h1, h2, h3⟩)
        rw [out_cons]
        cases q : mstep M w a with
        | none => rfl
        | some w' => exact e w' (mstep_length hM hw ha0 q)
    · have hp0 : M.place a.sg = 0 := by omega
      -- what stands behind the letter, where it is read
      have lvl : ∀ {w w' : Wt}, w.length = M.n → mstep M w a = some w' → ∃ l, w' = some l :: List.replicate m none := fun {w w'} hw q => by
        cases w with
        | nil => simp at hw; omega
        | cons o r =>
          have hr : r.length = m := by simp at hw; omega
          cases a with
          | pre a =>
            simp only [Mv.sg] at hp0
            simp only [mstep, hp0, List.drop_zero] at q
            split at q
            · cases q
            · rename_i hs
              cases q
              have hn0 : allN (o :: r) := anyS_false.mp (by simpa using hs)
              have hr0 : allN r := fun x hx => hn0 x (List.mem_cons_of_mem _ hx)
              refine ⟨M.ln a, ?_⟩
              show some (M.ln a) :: r = _
              rw [allN_eq hr0, hr]
          | inf v k =>
            simp only [Mv.sg] at hp0
            rcases step0_some (M := M) (o := o) (r := r) (v := v) hp0 with e | ⟨l, e⟩
            · rw [e] at q; cases q
            · rw [e] at q; cases q
              exact ⟨l, by rw [hr]⟩
      rcases hms with ⟨z, v, ts, hz, lz, ht, lt, e⟩ | ⟨a0, x, ts, h0, ht, lt, e⟩ | ⟨e, dm, h1, h2, h3⟩
      · -- the tighter part is read from nothing: a value, or nothing
        cases hx : out M.sub (List.replicate m none) z v with
        | none =>
          have dd : Dead M (a :: z) := fun w hw => by
            show mrun M (mstep M w a) z = none
            cases q : mstep M w a with
            | none => rw [mrun_none]
            | some w' =>
              obtain ⟨l, rfl⟩ := lvl hw q
              rw [run_sub (zlist hz)]
              unfold out at hx
              cases q2 : mrun M.sub (some (List.replicate m none)) z with
              | none => rfl
              | some r2 => rw [q2] at hx; cases hx
          refine .inr (.inr ⟨fun w hw => ?_, a :: z, ?_, ?_, dd⟩)
          · rw [out_cons]
            cases q : mstep M w a with
            | none => rfl
            | some w' =>
              obtain ⟨l, rfl⟩ := lvl hw q
              show out M _ ms b = none
              rw [← e _ (by simp; omega), out_two (zlist hz) (tlist ht), hx]; rfl
          · intro c hc
            rcases List.mem_cons.mp hc with rfl | hc
            · exact ha0
            · exact (hz c hc).1
          · rw [mlen_cons]
            have := len_le a
            omega
        | some x1 =>
          cases a with
          | pre a =>
            simp only [Mv.sg] at hp0 ha0
            refine .inr (.inl ⟨a, x1, ts, ⟨ha0, hp0⟩, ht, lt, fun w hw => ?_⟩)
            rw [out_cons, out_cons]
            cases q : mstep M w (.pre a) with
            | none => rfl
            | some w' =>
              obtain ⟨l, rfl⟩ := lvl hw q
              show out M _ _ _ = out M _ ms b
              rw [← e _ (by simp; omega), out_two (zlist hz) (tlist ht), hx, out_tail (tlist ht), close_none (allN_rep _)]; rfl
          | inf y k =>
            simp only [Mv.sg] at hp0 ha0
            -- the letter joins the tail
            have join : ∀ w : Wt, w.length = M.n → out M w (tlw y ((k, x1) :: ts)).1 (tlw y ((k, x1) :: ts)).2 = out M w (.inf y k :: ms) b := fun w hw => by
              show out M w (.inf y k :: (tlw x1 ts).1) (tlw x1 ts).2 = _
              rw [out_cons, out_cons]
              cases q : mstep M w (.inf y k) with
              | none => rfl
              | some w' =>
                obtain ⟨l, rfl⟩ := lvl hw q
                show out M _ _ _ = out M _ ms b
                rw [← e _ (by simp; omega), out_two (zlist hz) (tlist ht), hx, out_tail (tlist ht), close_none (allN_rep _)]; rfl
            have ht1 : TsOk M ok ((k, x1) :: ts) := fun t h => by
              rcases List.mem_cons.mp h with rfl | h
              · exact ⟨ha0, hp0⟩
              · exact ht t h
            by_cases l2 : ts.length ≤ 1
            · exact .inl ⟨[], y, (k, x1) :: ts, by simp, by simpa [mlen] using P, ht1, by simp; omega, fun w hw => by rw [List.nil_append]; exact join w hw⟩
            · obtain ⟨t1, t2, rfl⟩ : ∃ t1 t2, ts = [t1, t2] := by
                match ts, lt, l2 with
                | [t1, t2], _, _ => exact ⟨t1, t2, rfl⟩
                | [], _, h => simp at h
                | [_], _, h => simp at h
                | _ :: _ :: _ :: _, h, _ => simp at h
              rcases tail_short (by omega) (ht1 _ List.mem_cons_self) (ht1 t1 (by simp)) (ht1 t2 (by simp)) with ⟨ts', o1, o2, o3⟩ | ⟨d1, dm, d2, d3, d4⟩
              · refine .inl ⟨[], y, ts', by simp, by simpa [mlen] using P, o1, o2, fun w hw => ?_⟩
                rw [List.nil_append, ← join w hw]
                cases w with
                | nil => simp at hw; omega
                | cons o r => rw [out_tail (tlist o1), out_tail (tlist ht1), o3]
              · refine .inr (.inr ⟨fun w hw => ?_, dm, d2, by omega, d4⟩)
                rw [← join w hw]
                cases w with
                | nil => simp at hw; omega
                | cons o r => rw [out_tail (tlist ht1), d1]
      · -- a sign ahead of the loosest level behind a sign of it: never read
        have pd : ∀ l : Ln, mstep M (some l :: List.replicate m none) (.pre a0) = none := fun l => preDead (by simp; omega) h0.2 rfl
        have dd : Dead M [a, .pre a0] := fun w hw => by
          show mrun M (mstep M w a) [.pre a0] = none
          cases q : mstep M w a with
          | none => rfl
          | some w' =>
            obtain ⟨l, rfl⟩ := lvl hw q
            show mrun M (mstep M _ (.pre a0)) [] = none
            rw [pd]; rfl
        refine .inr (.inr ⟨fun w hw => ?_, [a, .pre a0], ?_, ?_, dd⟩)
        · rw [out_cons]
          cases q : mstep M w a with
          | none => rfl
          | some w' =>
            obtain ⟨l, rfl⟩ := lvl hw q
            show out M _ ms b = none
            rw [← e _ (by simp; omega), out_cons, pd]; rfl
        · intro c hc
          rcases List.mem_cons.mp hc with rfl | hc
          · exact ha0
          · rw [List.mem_singleton.mp hc]; exact h0.1
        · rw [mlen_cons, mlen_cons, mlen_nil]
          have := len_le a
          simp only [Mv.len]; simp only [Mv.len] at this; omega
      · refine .inr (.inr ⟨fun w hw => ?_, dm, h1, h2, h3⟩)
        rw [out_cons]
        cases q : mstep M w a with
        | none => rfl
        | some w' => exact e w' (mstep_length hM hw ha0 q)
end

/-- what a row tells of any content, a short one tells -/
theorem short_out : ∀ (m : Nat) {M : Mc} {ok : Sg → Prop}, M.Ok ok → M.n = m → ∀ (ms : List Mv) (b : Bool), (∀ a ∈ ms, ok a.sg) →
    ∃ ms' b', (∀ a ∈ ms', ok a.sg) ∧ mlen ms' + 1 ≤ Lb m ∧ ∀ w : Wt, w.length = m → out M w ms' b' = out M w ms b
  | 0, M, ok, hM, hn, ms, b, ha => by
    have : ms = [] := by
      cases ms with
      | nil => rfl
      | cons a ms => exact absurd (hM.pl _ (ha a List.mem_cons_self)) (by omega)
    subst this
    exact ⟨[], b, ha, by simp [mlen, Lb], fun w _ => rfl⟩
  | m + 1, M, ok, hM, hn, ms, b, ha => by
    have sn : M.sub.n = m := by show M.n - 1 = m; omega
    have L := Lb_succ m
    rcases form_cons hM hn (fun ms b h => short_out m (sub_ok hM) sn ms b h) ms b ha with ⟨z, v, ts, hz, lz, ht, lt, e⟩ | ⟨a0, x, ts, h0, ht, lt, e⟩ | ⟨e, dm, h1, h2, h3⟩
    · refine ⟨_, _, fun c hc => ?_, ?_, fun w hw => e w (by omega)⟩
      · rcases List.mem_append.mp hc with h | h
        · exact (hz c h).1
        · obtain ⟨t, h5, h6⟩ := tlw_sg v h
          rw [h6]; exact (ht t h5).1
      · rw [mlen_append, tlw_len]; omega
    · refine ⟨_, _, fun c hc => ?_, ?_, fun w hw => e w (by omega)⟩
      · rcases List.mem_cons.mp hc with rfl | h
        · exact h0.1
        · obtain ⟨t, h5, h6⟩ := tlw_sg x h
          rw [h6]; exact (ht t h5).1
      · rw [mlen_cons, tlw_len]; simp only [Mv.len]; omega
    · exact ⟨dm, false, h1, by omega, fun w hw => by rw [e w (by omega), out_dead h3 (by omega)]⟩

def init (M : Mc) : Wt := List.replicate M.n none
def told (M : Mc) (ms : List Mv) (b : Bool) : Option Bool := out M (init M) ms b

/-- two tables that tell the same of all rows of at most 40 items tell the same of all rows -/
theorem short_tells {T U : Mc} {ok : Sg → Prop} (hT : T.Ok ok) (hU : U.Ok ok) (nT : T.n ≤ 3) (nU : U.n ≤ 3)
    (h : ∀ ms b, (∀ a ∈ ms, ok a.sg) → mlen ms + 1 ≤ 40 → told T ms b = told U ms b) :
    ∀ ms b, (∀ a ∈ ms, ok a.sg) → told T ms b = told U ms b := by
  have LU : Lb U.n ≤ 14 := by
    have : U.n = 0 ∨ U.n = 1 ∨ U.n = 2 ∨ U.n = 3 := by omega
    rcases this with e | e | e | e <;> rw [e] <;> decide
  have main : ∀ (rs : List Mv), (∀ a ∈ rs, ok a.sg) → ∃ p, (∀ a ∈ p, ok a.sg) ∧ mlen p ≤ 17 ∧ mrun T (some (init T)) p = mrun T (some (init T)) rs.reverse ∧
      ∀ z b, (∀ a ∈ z, ok a.sg) → told U (rs.reverse ++ z) b = told U (p ++ z) b := by
    intro rs
    induction rs with
    | nil => exact fun _ => ⟨[], by simp, by simp [mlen], rfl, fun _ _ _ => rfl⟩
    | cons a rs ih =>
      intro ha
      have ha0 := ha a List.mem_cons_self
      obtain ⟨p, p1, p2, p3, p4⟩ := ih fun c hc => ha c (List.mem_cons_of_mem _ hc)
      have pa : ∀ c ∈ p ++ [a], ok c.sg := fun c hc => by
        rcases List.mem_append.mp hc with h | h
        · exact p1 c h
        · rw [List.mem_singleton.mp h]; exact ha0
      obtain ⟨p', q1, q2, q3⟩ := short_word hT pa
      refine ⟨p', q1, by omega, ?_, fun z b hz => ?_⟩
      · rw [show mrun T (some (init T)) p' = mrun T (some (init T)) (p ++ [a]) from q3, mrun_append, p3, List.reverse_cons, mrun_append]
      · obtain ⟨z', b', z1, z2, z3⟩ := short_out U.n hU rfl z b hz
        have la := len_le a
        -- on U the short future tells as the long one
        have fut : ∀ u : List Mv, (∀ c ∈ u, ok c.sg) → told U (u ++ z) b = told U (u ++ z') b' := fun u hu => by
          unfold told
          rw [out_append, out_append]
          cases q : mrun U (some (init U)) u with
          | none => rfl
          | some w => exact (z3 w (mrun_length hU (by simp [init]) hu q)).symm
        have app : ∀ {x y : List Mv}, (∀ c ∈ x, ok c.sg) → (∀ c ∈ y, ok c.sg) → ∀ c ∈ x ++ y, ok c.sg := fun hx hy c hc => by
          rcases List.mem_append.mp hc with h | h
          · exact hx c h
          · exact hy c h
        have e1 : told U ((a :: rs).reverse ++ z) b = told U ((p ++ [a]) ++ z) b := by
          rw [List.reverse_cons, List.append_assoc, p4 ([a] ++ z) b (app (fun c hc => by rw [List.mem_singleton.mp hc]; exact ha0) hz), List.append_assoc]
        have e2 : told T ((p ++ [a]) ++ z') b' = told T (p' ++ z') b' := by
          unfold told
          rw [out_append, out_append, show mrun T (some (init T)) p' = mrun T (some (init T)) (p ++ [a]) from q3]
        have m1 : mlen ((p ++ [a]) ++ z') + 1 ≤ 40 := by
          rw [mlen_append, mlen_append, mlen_cons, mlen_nil]; omega
        have m2 : mlen (p' ++ z') + 1 ≤ 40 := by rw [mlen_append]; omega
        rw [e1, fut _ pa, ← h _ b' (app pa z1) m1, e2, h _ b' (app q1 z1) m2, ← fut _ q1]
  intro ms b ha
  obtain ⟨p, p1, p2, p3, p4⟩ := main ms.reverse fun a h => ha a (by simpa using h)
  have e := p4 [] b (by simp)
  rw [List.reverse_reverse] at e p3
  rw [List.append_nil, List.append_nil] at e
  rw [e, ← h p b p1 (by omega)]
  unfold told out
  rw [p3]
end Bk
set_option linter.all false
/-! A search in breadth with known states finds the first bad row: the shortest, of these the first in the order of the items. -/
namespace Bk
/-- two lists, place by place -/
inductive All2 {A B : Type} (R : A → B → Prop) : List A → List B → Prop
  | nil : All2 R [] []
  | cons {a : A} {b : B} {l : List A} {l' : List B} : R a b → All2 R l l' → All2 R (a :: l) (b :: l')
section
variable {S I : Type} (nx : S → List (I × S)) (bad : S → Bool)

/-- the first bad row of just k items -/
def fb : Nat → S → Option (List I)
  | 0, s => if bad s = true then some [] else none
  | k + 1, s => (nx s).findSome? fun p => (fb k p.2).map (p.1 :: ·)

/-- what a search is to give -/
def First (s0 : S) (o : Option (List I)) : Prop :=
  match o with
  | some r => ∃ k, fb nx bad k s0 = some r ∧ ∀ j, j < k → fb nx bad j s0 = none
  | none => ∀ k, fb nx bad k s0 = none
variable {nx bad}
theorem First.uniq {s0 : S} {o o' : Option (List I)} (h : First nx bad s0 o) (h' : First nx bad s0 o') : o = o' := by
  cases o with
  | none =>
    cases o' with
    | none => rfl
    | some r => obtain ⟨k, e, _⟩ := h'; rw [h k] at e; cases e
  | some r =>
    obtain ⟨k, e, l⟩ := h
    cases o' with
    | none => rw [h' k] at e; cases e
    | some r' =>
      obtain ⟨k', e', l'⟩ := h'
      have : k = k' := by
        rcases Nat.lt_trichotomy k k' with z | z | z
        · rw [l' k z] at e; cases e
        · exact z
        · rw [l k' z] at e'; cases e'
      subst this
      rw [e] at e'; exact e'

/-- two systems alike: the same items, related states -/
theorem fb_rel {S' : Type} {nx' : S' → List (I × S')} {bad' : S' → Bool} (R : S → S' → Prop)
    (hb : ∀ s s', R s s' → bad s = bad' s') (hn : ∀ s s', R s s' → All2 (fun p q => p.1 = q.1 ∧ R p.2 q.2) (nx s) (nx' s')) :
    ∀ k s s', R s s' → fb nx bad k s = fb nx' bad' k s'
  | 0, s, s', r => by simp only [fb, hb s s' r]
  | k + 1, s, s', r => by
    simp only [fb]
    have h := hn s s' r
    generalize nx s = l at h ⊢
    generalize nx' s' = l' at h ⊢
    induction h with
    | nil => rfl
    | @cons p q l l' hpq _ ih =>
      rw [List.findSome?_cons, List.findSome?_cons, fb_rel R hb hn k _ _ hpq.2, hpq.1, ih]
theorem First.rel {S' : Type} {nx' : S' → List (I × S')} {bad' : S' → Bool} (R : S → S' → Prop)
    (hb : ∀ s s', R s s' → bad s = bad' s') (hn : ∀ s s', R s s' → All2 (fun p q => p.1 = q.1 ∧ R p.2 q.2) (nx s) (nx' s')) {s : S} {s' : S'} (r : R s s') {o : Option (List I)}
    (h : First nx bad s o) : First nx' bad' s' o := by
  have e := fun k => fb_rel R hb hn k s s' r
  cases o with
  | none => exact fun k => by rw [← e]; exact h k
  | some w =>
    obtain ⟨k, h1, h2⟩ := h
    exact ⟨k, by rw [← e]; exact h1, fun j hj => by rw [← e]; exact h2 j hj⟩

/-! ### the search's word: the nodes of depth d that are left, the items of the first of them that are left, the nodes of depth d + 1 -/
def part (k : Nat) (Q : List (S × List I)) : Option (List I) := Q.findSome? fun q => (fb nx bad k q.1).map (q.2 ++ ·)
def partI (k : Nat) (r : List I) (its : List (I × S)) : Option (List I) := its.findSome? fun p => (fb nx bad k p.2).map ((r ++ [p.1]) ++ ·)
theorem map_isSome {α β : Type} {o : Option α} {f : α → β} : o.map f = none ↔ o = none := by cases o <;> simp

variable (nx bad) in
structure Bi (s0 : S) (d : Nat) (r : List I) (its : List (I × S)) (Q1 Q2 : List (S × List I)) (K : List S) : Prop where
  low : ∀ k, k ≤ d → fb nx bad k s0 = none
  main : ∀ k, d < k → (∀ j, j < k → fb nx bad j s0 = none) → fb nx bad k s0 = ((part (nx := nx) (bad := bad) (k - d - 1) Q2).or (partI (nx := nx) (bad := bad) (k - d - 1) r its)).or (part (nx := nx) (bad := bad) (k - d) Q1)
  good : ∀ q ∈ Q2, bad q.1 = false
  dep1 : ∀ q ∈ Q1, ∀ m, fb nx bad m q.1 ≠ none → fb nx bad (d + m) s0 ≠ none
  depI : ∀ p ∈ its, ∀ m, fb nx bad m p.2 ≠ none → fb nx bad (d + 1 + m) s0 ≠ none
  dep2 : ∀ q ∈ Q2, ∀ m, fb nx bad m q.1 ≠ none → fb nx bad (d + 1 + m) s0 ≠ none
  kn : ∀ s ∈ K, (∃ j, j ≤ d ∧ ∀ m, fb nx bad m s ≠ none → fb nx bad (j + m) s0 ≠ none) ∨ s ∈ Q2.map (·.1)

theorem Bi.start {s0 : S} (h : bad s0 = false) (K : List S) (hK : ∀ s ∈ K, s = s0) : Bi nx bad s0 0 [] [] [(s0, [])] [] K where
  low := fun k hk => by
    have : k = 0 := by omega
    subst this
    simp [fb, h]
  main := fun k hk _ => by
    simp only [part, partI, List.findSome?_nil, Option.or, List.findSome?_cons]
    cases fb nx bad k s0 with
    | none => simp
    | some w => simp
  good := fun _ h => nomatch h
  dep1 := fun q hq m hm => by
    rw [List.mem_singleton.mp hq] at hm
    simpa using hm
  depI := fun _ h => nomatch h
  dep2 := fun _ h => nomatch h
  kn := fun s hs => .inl ⟨0, Nat.le_refl _, fun m hm => by rw [hK s hs] at hm; simpa using hm⟩

/-- the next node of depth d -/
theorem Bi.node {s0 : S} {d : Nat} {r0 : List I} {s : S} {r : List I} {Q1 Q2 : List (S × List I)} {K : List S} (h : Bi nx bad s0 d r0 [] ((s, r) :: Q1) Q2 K) : Bi nx bad s0 d r (nx s) Q1 Q2 K where
  low := h.low
  main := fun k hk hl => by
    rw [h.main k hk hl]
    have e : part (nx := nx) (bad := bad) (k - d) ((s, r) :: Q1) = (partI (nx := nx) (bad := bad) (k - d - 1) r (nx s)).or (part (nx := nx) (bad := bad) (k - d) Q1) := by
      unfold part partI
      rw [List.findSome?_cons]
      obtain ⟨m, hm⟩ : ∃ m, k - d = m + 1 := ⟨k - d - 1, by omega⟩
      have hm' : k - d - 1 = m := by omega
      rw [hm, show m + 1 - 1 = m from rfl]
      simp only [fb]
      have key : ∀ l : List (I × S), (l.findSome? fun p => (fb nx bad m p.2).map (p.1 :: ·)).map (r ++ ·) = l.findSome? fun p => (fb nx bad m p.2).map ((r ++ [p.1]) ++ ·) := fun l => by
        induction l with
        | nil => rfl
        | cons p l ih =>
          rw [List.findSome?_cons, List.findSome?_cons]
          cases fb nx bad m p.2 with
          | none => simpa using ih
          | some w => simp
      rw [key]
      cases (nx s).findSome? fun p => (fb nx bad m p.2).map ((r ++ [p.1]) ++ ·) with
      | none => rfl
      | some w => rfl
    rw [e]
    have e0 : partI (nx := nx) (bad := bad) (k - d - 1) r0 [] = none := rfl
    rw [e0]
    cases part (nx := nx) (bad := bad) (k - d - 1) Q2 <;> rfl
  good := h.good
  dep1 := fun q hq => h.dep1 q (List.mem_cons_of_mem _ hq)
  depI := fun p hp m hm => by
    have := h.dep1 (s, r) List.mem_cons_self (m + 1) (by
      simp only [fb]
      intro z
      rw [List.findSome?_eq_none_iff] at z
      exact hm (map_isSome.mp (z p hp)))
    have e : d + 1 + m = d + (m + 1) := by omega
    rw [e]; exact this
  dep2 := h.dep2
  kn := h.kn

/-- a bad one: it is the first -/
theorem Bi.found {s0 : S} {d : Nat} {r : List I} {i : I} {s : S} {its : List (I × S)} {Q1 Q2 : List (S × List I)} {K : List S} (h : Bi nx bad s0 d r ((i, s) :: its) Q1 Q2 K) (hb : bad s = true) : First nx bad s0 (some (r ++ [i])) := by
  refine ⟨d + 1, ?_, fun j hj => h.low j (by omega)⟩
  rw [h.main (d + 1) (by omega) fun j hj => h.low j (by omega)]
  have e : d + 1 - d - 1 = 0 := by omega
  rw [e]
  have e1 : part (nx := nx) (bad := bad) 0 Q2 = none := by
    unfold part
    rw [List.findSome?_eq_none_iff]
    intro q hq
    simp [fb, h.good q hq]
  rw [e1]
  simp [partI, fb, hb]

/-- a known one -/
theorem Bi.skip {s0 : S} {d : Nat} {r : List I} {i : I} {s : S} {its : List (I × S)} {Q1 Q2 : List (S × List I)} {K : List S} (h : Bi nx bad s0 d r ((i, s) :: its) Q1 Q2 K) (hk : s ∈ K) : Bi nx bad s0 d r its Q1 Q2 K where
  low := h.low
  main := fun k hd hl => by
    rw [h.main k hd hl]
    have e : (part (nx := nx) (bad := bad) (k - d - 1) Q2).or (partI (nx := nx) (bad := bad) (k - d - 1) r ((i, s) :: its)) = (part (nx := nx) (bad := bad) (k - d - 1) Q2).or (partI (nx := nx) (bad := bad) (k - d - 1) r its) := by
      cases q : part (nx := nx) (bad := bad) (k - d - 1) Q2 with
      | some w => rfl
      | none =>
        show partI _ r ((i, s) :: its) = partI _ r its
        have z : fb nx bad (k - d - 1) s = none := by
          rcases h.kn s hk with ⟨j, hj, hm⟩ | hm
          · cases z : fb nx bad (k - d - 1) s with
            | none => rfl
            | some w => exact absurd (hl (j + (k - d - 1)) (by omega)) (hm _ (by rw [z]; exact fun q => nomatch q))
          · obtain ⟨p, hp, rfl⟩ := List.mem_map.mp hm
            unfold part at q
            rw [List.findSome?_eq_none_iff] at q
            exact map_isSome.mp (q p hp)
        unfold partI
        rw [List.findSome?_cons, z]; rfl
    rw [e]
  good := h.good
  dep1 := h.dep1
  depI := fun p hp => h.depI p (List.mem_cons_of_mem _ hp)
  dep2 := h.dep2
  kn := h.kn

theorem or_assoc3 {α : Type} (a b c : Option α) : (a.or b).or c = a.or (b.or c) := by cases a <;> rfl
/-- a new one -/
theorem Bi.push {s0 : S} {d : Nat} {r : List I} {i : I} {s : S} {its : List (I × S)} {Q1 Q2 : List (S × List I)} {K K' : List S} (h : Bi nx bad s0 d r ((i, s) :: its) Q1 Q2 K) (hb : bad s = false) (hK : ∀ x ∈ K', x ∈ K ∨ x = s) :
    Bi nx bad s0 d r its Q1 (Q2 ++ [(s, r ++ [i])]) K' where
  low := h.low
  main := fun k hd hl => by
    rw [h.main k hd hl]
    have e : (part (nx := nx) (bad := bad) (k - d - 1) Q2).or (partI (nx := nx) (bad := bad) (k - d - 1) r ((i, s) :: its)) = (part (nx := nx) (bad := bad) (k - d - 1) (Q2 ++ [(s, r ++ [i])])).or (partI (nx := nx) (bad := bad) (k - d - 1) r its) := by
      unfold part partI
      rw [List.findSome?_append, or_assoc3, List.findSome?_cons, List.findSome?_cons]
      cases fb nx bad (k - d - 1) s with
      | none => simp
      | some w => simp
    rw [e]
  good := fun q hq => by
    rcases List.mem_append.mp hq with z | z
    · exact h.good q z
    · rw [List.mem_singleton.mp z]; exact hb
  dep1 := h.dep1
  depI := fun p hp => h.depI p (List.mem_cons_of_mem _ hp)
  dep2 := fun q hq => by
    rcases List.mem_append.mp hq with z | z
    · exact h.dep2 q z
    · rw [List.mem_singleton.mp z]; exact h.depI (i, s) List.mem_cons_self
  kn := fun x hx => by
    rcases hK x hx with z | z
    · rcases h.kn x z with y | y
      · exact .inl y
      · exact .inr (by rw [List.map_append]; exact List.mem_append_left _ y)
    · exact .inr (by rw [List.map_append, z]; simp)

/-- all of depth d are done -/
theorem Bi.deeper {s0 : S} {d : Nat} {r r' : List I} {Q2 : List (S × List I)} {K : List S} (h : Bi nx bad s0 d r [] [] Q2 K) : Bi nx bad s0 (d + 1) r' [] Q2 [] K := by
  have z : fb nx bad (d + 1) s0 = none := by
    rw [h.main (d + 1) (by omega) fun j hj => h.low j (by omega)]
    have e : d + 1 - d - 1 = 0 := by omega
    rw [e]
    have e1 : part (nx := nx) (bad := bad) 0 Q2 = none := by
      unfold part
      rw [List.findSome?_eq_none_iff]
      intro q hq
      simp [fb, h.good q hq]
    rw [e1]; rfl
  refine ⟨fun k hk => ?_, fun k hd hl => ?_, (fun _ h => nomatch h), (fun q hq m hm => h.dep2 q hq m hm), (fun _ h => nomatch h), (fun _ h => nomatch h), fun s hs => ?_⟩
  · by_cases e : k = d + 1
    · rw [e]; exact z
    · exact h.low k (by omega)
  · rw [h.main k (by omega) hl]
    have e : k - d - 1 = k - (d + 1) := by omega
    rw [e]
    show ((part _ Q2).or none).or none = (none : Option (List I)).or (part _ Q2)
    cases part (nx := nx) (bad := bad) (k - (d + 1)) Q2 <;> rfl
  · rcases h.kn s hs with ⟨j, hj, hm⟩ | hm
    · exact .inl ⟨j, by omega, hm⟩
    · obtain ⟨q, hq, rfl⟩ := List.mem_map.mp hm
      exact .inl ⟨d + 1, Nat.le_refl _, h.dep2 q hq⟩

/-- nothing is left -/
theorem Bi.over {s0 : S} {d : Nat} {r : List I} {K : List S} (h : Bi nx bad s0 d r [] [] [] K) : First nx bad s0 none := by
  have all : ∀ k, ∀ j, j ≤ k → fb nx bad j s0 = none := by
    intro k
    induction k with
    | zero => exact fun j hj => h.low j (by omega)
    | succ k ih =>
      intro j hj
      by_cases e : j ≤ k
      · exact ih j e
      · by_cases e2 : j ≤ d
        · exact h.low j e2
        · rw [h.main j (by omega) fun i hi => ih i (by omega)]; rfl
  exact fun k => all k k (Nat.le_refl _)

/-! ### what fb tells of rows -/
/-- the row leads from s to s' -/
inductive Goes' (nx : S → List (I × S)) : S → List I → S → Prop
  | nil (s : S) : Goes' nx s [] s
  | cons {s s1 s' : S} {i : I} {r : List I} : (i, s1) ∈ nx s → Goes' nx s1 r s' → Goes' nx s (i :: r) s'
theorem fb_some : ∀ {k : Nat} {s : S} {r : List I}, fb nx bad k s = some r → r.length = k ∧ ∃ s', Goes' nx s r s' ∧ bad s' = true
  | 0, s, r, e => by
    simp only [fb] at e
    split at e
    · rename_i h
      cases e
      exact ⟨rfl, s, .nil s, h⟩
    · cases e
  | k + 1, s, r, e => by
    simp only [fb] at e
    obtain ⟨p, hp, e⟩ := List.exists_of_findSome?_eq_some e
    cases q : fb nx bad k p.2 with
    | none => rw [q] at e; cases e
    | some w =>
      rw [q] at e
      cases e
      obtain ⟨l, s', g, b⟩ := fb_some q
      exact ⟨by simp [l], s', .cons hp g, b⟩
theorem fb_none : ∀ {k : Nat} {s s' : S} {r : List I}, fb nx bad k s = none → r.length = k → Goes' nx s r s' → bad s' = false
  | 0, s, s', r, e, l, g => by
    cases g with
    | nil =>
      simp only [fb] at e
      split at e
      · cases e
      · rename_i h; simpa using h
    | cons _ _ => simp at l
  | k + 1, s, s', r, e, l, g => by
    cases g with
    | nil => simp at l
    | @cons s s1 s' i r hi g =>
      simp only [fb] at e
      rw [List.findSome?_eq_none_iff] at e
      exact fb_none (map_isSome.mp (e (i, s1) hi)) (by simpa using l) g
end
end Bk
set_option Elab.async false
set_option linter.all false
set_option autoImplicit false
set_option maxRecDepth 100000
set_option maxHeartbeats 1000000
/-! Nested data over the layer: what evaluates to what datum, what is known of the objects of one's own. -/
namespace Bk
open PySem L2

/-- data: nested tuples of flat things; adr: an object at an address -/
inductive Dat where
  | non | bl (b : Bool) | int (i : Int) | str (s : Str) | tup (ds : List Dat) | adr (a : Addr)

mutual
def Is (H : Hp) : Dat → V → Prop
  | .non, v => v = .non
  | .bl b, v => v = .bl b
  | .int i, v => v = .int i
  | .str s, v => v = .str s
  | .adr a, v => v = .ref a
  | .tup ds, v => ∃ a xs, v = .ref a ∧ H a = some (.tup xs) ∧ IsAll H ds xs
def IsAll (H : Hp) : List Dat → List V → Prop
  | [], xs => xs = []
  | d :: ds, xs => ∃ x r, xs = x :: r ∧ Is H d x ∧ IsAll H ds r
end
/-- the tuples stay -/
def TK (H H' : Hp) : Prop := ∀ a xs, H a = some (.tup xs) → H' a = some (.tup xs)
theorem TK.refl (H : Hp) : TK H H := fun _ _ h => h
theorem TK.trans {H H1 H2 : Hp} (a : TK H H1) (b : TK H1 H2) : TK H H2 := fun x xs h => b x xs (a x xs h)
theorem TK.of {H H' : Hp} (h : Same H H') : TK H H' := fun a xs e => h a _ e
def NoTup : Option HO → Prop
  | some (.tup _) => False
  | _ => True
theorem TK.upd {H : Hp} {p : Addr} {o : HO} (h : NoTup (H p)) : TK H (upd H p o) := fun a xs e => by
  have : a ≠ p := fun z => by rw [z] at e; rw [e] at h; exact h
  rw [upd_ne this]; exact e
mutual
theorem Is.mono {H H' : Hp} (t : TK H H') : ∀ (d : Dat) (v : V), Is H d v → Is H' d v
  | .non, _, h => h
  | .bl _, _, h => h
  | .int _, _, h => h
  | .str _, _, h => h
  | .adr _, _, h => h
  | .tup ds, v, h => by
    simp only [Is] at h ⊢
    obtain ⟨a, xs, e1, e2, e3⟩ := h
    exact ⟨a, xs, e1, t a xs e2, IsAll.mono t ds xs e3⟩
theorem IsAll.mono {H H' : Hp} (t : TK H H') : ∀ (ds : List Dat) (xs : List V), IsAll H ds xs → IsAll H' ds xs
  | [], _, h => h
  | d :: ds, xs, h => by
    simp only [IsAll] at h ⊢
    obtain ⟨x, r, e1, e2, e3⟩ := h
    exact ⟨x, r, e1, Is.mono t d x e2, IsAll.mono t ds r e3⟩
end
theorem IsAll.length {H : Hp} : ∀ {ds : List Dat} {xs : List V}, IsAll H ds xs → xs.length = ds.length
  | [], _, h => by simp only [IsAll] at h; rw [h]; rfl
  | d :: ds, xs, h => by
    simp only [IsAll] at h
    obtain ⟨x, r, e1, e2, e3⟩ := h
    rw [e1, List.length_cons, List.length_cons, IsAll.length e3]
theorem IsAll.nil {H : Hp} : IsAll H [] [] := by simp only [IsAll]
theorem IsAll.cons {H : Hp} {d : Dat} {ds : List Dat} {x : V} {xs : List V} (h : Is H d x) (hs : IsAll H ds xs) : IsAll H (d :: ds) (x :: xs) := by
  simp only [IsAll]; exact ⟨x, xs, rfl, h, hs⟩
theorem IsAll.nil_iff {H : Hp} {xs : List V} : IsAll H [] xs ↔ xs = [] := by simp only [IsAll]
theorem IsAll.cons_iff {H : Hp} {d : Dat} {ds : List Dat} {xs : List V} : IsAll H (d :: ds) xs ↔ ∃ x r, xs = x :: r ∧ Is H d x ∧ IsAll H ds r := by simp only [IsAll]
theorem IsAll.append {H : Hp} : ∀ {ds es : List Dat} {xs ys : List V}, IsAll H ds xs → IsAll H es ys → IsAll H (ds ++ es) (xs ++ ys)
  | [], _, _, _, h, h' => by rw [IsAll.nil_iff] at h; rw [h]; exact h'
  | d :: ds, _, _, _, h, h' => by
    obtain ⟨x, r, e1, e2, e3⟩ := IsAll.cons_iff.mp h
    rw [e1]; exact .cons e2 (IsAll.append e3 h')
theorem IsAll.get {H : Hp} : ∀ {ds : List Dat} {xs : List V} {i : Nat} {d : Dat}, IsAll H ds xs → ds[i]? = some d → ∃ x, xs[i]? = some x ∧ Is H d x
  | [], _, _, _, _, e => by simp at e
  | c :: ds, xs, i, d, h, e => by
    obtain ⟨x, r, e1, e2, e3⟩ := IsAll.cons_iff.mp h
    subst e1
    cases i with
    | zero => simp at e; subst e; exact ⟨x, rfl, e2⟩
    | succ i => simpa using IsAll.get (i := i) e3 (by simpa using e)
theorem IsAll.get' {H : Hp} : ∀ {ds : List Dat} {xs : List V} {i : Nat} {x : V}, IsAll H ds xs → xs[i]? = some x → ∃ d, ds[i]? = some d ∧ Is H d x
  | [], _, _, _, h, e => by rw [IsAll.nil_iff] at h; rw [h] at e; simp at e
  | c :: ds, xs, i, d, h, e => by
    obtain ⟨x, r, e1, e2, e3⟩ := IsAll.cons_iff.mp h
    subst e1
    cases i with
    | zero => simp at e; subst e; exact ⟨c, rfl, e2⟩
    | succ i => simpa using IsAll.get' (i := i) e3 (by simpa using e)
theorem IsAll.take {H : Hp} : ∀ {ds : List Dat} {xs : List V} (n : Nat), IsAll H ds xs → IsAll H (ds.take n) (xs.take n)
  | [], _, n, h => by rw [IsAll.nil_iff] at h; subst h; simp [IsAll.nil]
  | d :: ds, _, n, h => by
    obtain ⟨x, r, e1, e2, e3⟩ := IsAll.cons_iff.mp h
    subst e1
    cases n with
    | zero => exact .nil
    | succ n => exact .cons e2 (IsAll.take n e3)
theorem IsAll.drop {H : Hp} : ∀ {ds : List Dat} {xs : List V} (n : Nat), IsAll H ds xs → IsAll H (ds.drop n) (xs.drop n)
  | [], _, n, h => by rw [IsAll.nil_iff] at h; subst h; simp [IsAll.nil]
  | d :: ds, _, n, h => by
    obtain ⟨x, r, e1, e2, e3⟩ := IsAll.cons_iff.mp h
    subst e1
    cases n with
    | zero => exact .cons e2 e3
    | succ n => exact IsAll.drop n e3
theorem IsAll.reverse {H : Hp} : ∀ {ds : List Dat} {xs : List V}, IsAll H ds xs → IsAll H ds.reverse xs.reverse
  | [], _, h => by rw [IsAll.nil_iff] at h; subst h; exact .nil
  | d :: ds, _, h => by
    obtain ⟨x, r, e1, e2, e3⟩ := IsAll.cons_iff.mp h
    subst e1
    rw [List.reverse_cons, List.reverse_cons]
    exact IsAll.append (IsAll.reverse e3) (.cons e2 .nil)
theorem IsAll.set {H : Hp} {d : Dat} {x : V} (hx : Is H d x) : ∀ {ds : List Dat} {xs : List V} (n : Nat), IsAll H ds xs → IsAll H (ds.set n d) (xs.set n x)
  | [], _, n, h => by rw [IsAll.nil_iff] at h; subst h; exact .nil
  | c :: ds, _, n, h => by
    obtain ⟨y, r, e1, e2, e3⟩ := IsAll.cons_iff.mp h
    subst e1
    cases n with
    | zero => exact .cons hx e3
    | succ n => exact .cons e2 (IsAll.set hx n e3)

/-! ### data as the library has them -/
mutual
def Dat.pd : Dat → PyData
  | .non => .none
  | .bl b => .bool b
  | .int i => .int i
  | .str s => .str s
  | .tup ds => .tuple (Dat.pds ds)
  | .adr _ => .none
def Dat.pds : List Dat → List PyData
  | [] => []
  | d :: ds => d.pd :: Dat.pds ds
end
mutual
/-- no address in it -/
def Dat.clean : Dat → Bool
  | .adr _ => false
  | .tup ds => Dat.cleans ds
  | _ => true
def Dat.cleans : List Dat → Bool
  | [] => true
  | d :: ds => d.clean && Dat.cleans ds
end
mutual
theorem Is.dp {K : PySem.W.Frag} {H : Hp} : ∀ (d : Dat) (v : V), d.clean = true → Is H d v → Dp K H v d.pd
  | .non, v, _, h => by simp only [Is] at h; subst h; exact .non
  | .bl b, v, _, h => by simp only [Is] at h; subst h; exact .bl b
  | .int i, v, _, h => by simp only [Is] at h; subst h; exact .int i
  | .str s, v, _, h => by simp only [Is] at h; subst h; exact .str s
  | .adr a, v, c, h => by simp [Dat.clean] at c
  | .tup ds, v, c, h => by
    simp only [Is] at h
    obtain ⟨a, xs, rfl, e2, e3⟩ := h
    simp only [Dat.pd]
    exact .tup (SqT.of e2) (IsAll.dp ds xs (by simpa [Dat.clean] using c) e3)
theorem IsAll.dp {K : PySem.W.Frag} {H : Hp} : ∀ (ds : List Dat) (vs : List V), Dat.cleans ds = true → IsAll H ds vs → DpAll K H vs (Dat.pds ds)
  | [], vs, _, h => by rw [IsAll.nil_iff] at h; subst h; exact .nil
  | d :: ds, vs, c, h => by
    obtain ⟨x, r, e1, e2, e3⟩ := IsAll.cons_iff.mp h
    subst e1
    simp only [Dat.cleans, Bool.and_eq_true] at c
    exact .cons (Is.dp d x c.1 e2) (IsAll.dp ds r c.2 e3)
end

/-! ### keys -/
mutual
def Dat.nk : Dat → NestedKey
  | .non => .none
  | .bl b => .num (if b = true then 1 else 0)
  | .int i => .num i
  | .str s => .text s
  | .tup ds => .tup (Dat.nks ds)
  | .adr _ => .none
def Dat.nks : List Dat → List NestedKey
  | [] => []
  | d :: ds => d.nk :: Dat.nks ds
end
mutual
theorem Is.nk {P : Program} {w : World} {H : Hp} {h : Heap} (ok : HOk P w H h) : ∀ (d : Dat) (v : V) (u : Value), d.clean = true → Is H d v → RelV v u → NestedIs h d.nk u
  | .non, v, u, _, h1, r => by simp only [Is] at h1; subst h1; cases r; exact .none
  | .bl b, v, u, _, h1, r => by simp only [Is] at h1; subst h1; cases r; exact .bool rfl
  | .int i, v, u, _, h1, r => by simp only [Is] at h1; subst h1; obtain ⟨t, rfl⟩ := r; exact .int i t
  | .str s, v, u, _, h1, r => by simp only [Is] at h1; subst h1; obtain ⟨t, rfl⟩ := r; exact .text s t
  | .adr a, v, u, c, h1, r => by simp [Dat.clean] at c
  | .tup ds, v, u, c, h1, r => by
    simp only [Is] at h1
    obtain ⟨a, xs, rfl, e2, e3⟩ := h1
    cases (show u = Value.ref a from r)
    obtain ⟨_, its, rv, o, ho, hc, n, hd⟩ := ok a _ e2
    refine .tup ho hc hd ?_
    exact IsAll.nks ok ds xs its (by simpa [Dat.clean] using c) e3 rv
theorem IsAll.nks {P : Program} {w : World} {H : Hp} {h : Heap} (ok : HOk P w H h) : ∀ (ds : List Dat) (vs : List V) (us : List Value), Dat.cleans ds = true → IsAll H ds vs → Vals vs us → NestedAll h (Dat.nks ds) us
  | [], vs, us, _, h1, r => by rw [IsAll.nil_iff] at h1; subst h1; cases r; exact .nil
  | d :: ds, vs, us, c, h1, r => by
    obtain ⟨x, rr, e1, e2, e3⟩ := IsAll.cons_iff.mp h1
    subst e1
    simp only [Dat.cleans, Bool.and_eq_true] at c
    cases r with
    | cons r1 r2 => exact .cons (Is.nk ok d x _ c.1 e2 r1) (IsAll.nks ok ds rr _ c.2 e3 r2)
end

/-! ### objects of one's own -/
inductive DO where
  /-- a list -/
  | lst (ds : List Dat)
  /-- a dict from texts to ints -/
  | dic (kvs : List (Str × Int))
  /-- an instance of the class at C, its attributes -/
  | ins (C : Addr) (fs : List (Str × Dat))
  /-- a dict whose keys are nested tuples -/
  | nd (kvs : List (Dat × Dat))

/-- the object of a dict with nested keys, entry by entry -/
def ndO (P : Program) (w : World) (p : Addr) (xs : List (NestedKey × Addr × Value)) : HO :=
  .ext fun h => ∃ o es ep, h.get? p = some o ∧ o.ExactDict ∧ o.data = .dict es ep ∧ es.toList = xs.map (entryOfKey (nestedKind P w)) ∧ (xs.map (·.1)).Nodup
def NdRel (H : Hp) (kv : Dat × Dat) (x : NestedKey × Addr × Value) : Prop :=
  x.1 = kv.1.nk ∧ kv.1.clean = true ∧ kv.1.nk.depth ≤ 8 ∧ Is H kv.1 (.ref x.2.1) ∧ ∃ v, RelV v x.2.2 ∧ Is H kv.2 v
def FsIs (H : Hp) (fs : List (Str × Dat)) (fv : List (Str × V)) : Prop :=
  fv.length ≤ fs.length ∧ (∀ f d, fs.lookup f = some d → ∃ v, fv.lookup f = some v ∧ Is H d v) ∧ ∀ f, fs.lookup f = none → fv.lookup f = none
def ORep (P : Program) (w : World) (H : Hp) (p : Addr) : DO → Prop
  | .lst ds => ∃ vs, H p = some (.lst vs) ∧ IsAll H ds vs
  | .dic kvs => H p = some (.dK (kvs.map fun kv => (Sum.inr kv.1, V.int kv.2)))
  | .ins C fs => ∃ dx fv, H p = some (.ins C dx fv) ∧ FsIs H fs fv
  | .nd kvs => ∃ xs, H p = some (ndO P w p xs) ∧ kvs.length ≤ sizeLine ∧ (p == sysModules) = false ∧ Paired (NdRel H) kvs xs

theorem ORep.noTup {P : Program} {w : World} {H : Hp} {p : Addr} {o : DO} (h : ORep P w H p o) : NoTup (H p) := by
  cases o with
  | lst ds => obtain ⟨vs, e, _⟩ := h; rw [e]; trivial
  | dic kvs => have e : H p = some _ := h; rw [e]; trivial
  | ins C fs => obtain ⟨dx, fv, e, _⟩ := h; rw [e]; trivial
  | nd kvs => obtain ⟨xs, e, _⟩ := h; rw [e]; trivial
theorem ORep.there {P : Program} {w : World} {H : Hp} {p : Addr} {o : DO} (h : ORep P w H p o) : ∃ u, H p = some u := by
  cases o with
  | lst ds => obtain ⟨vs, e, _⟩ := h; exact ⟨_, e⟩
  | dic kvs => exact ⟨_, h⟩
  | ins C fs => obtain ⟨dx, fv, e, _⟩ := h; exact ⟨_, e⟩
  | nd kvs => obtain ⟨xs, e, _⟩ := h; exact ⟨_, e⟩
theorem FsIs.mono {H H' : Hp} (t : TK H H') {fs : List (Str × Dat)} {fv : List (Str × V)} (h : FsIs H fs fv) : FsIs H' fs fv :=
  ⟨h.1, fun f d e => let ⟨v, e1, e2⟩ := h.2.1 f d e; ⟨v, e1, Is.mono t _ _ e2⟩, h.2.2⟩
theorem NdRel.mono {H H' : Hp} (t : TK H H') {kv : Dat × Dat} {x : NestedKey × Addr × Value} (h : NdRel H kv x) : NdRel H' kv x :=
  let ⟨h1, h2, h3, h4, v, h5, h6⟩ := h
  ⟨h1, h2, h3, Is.mono t _ _ h4, v, h5, Is.mono t _ _ h6⟩
/-- it stands where its own object and the tuples stand -/
theorem ORep.at_ {P : Program} {w : World} {H H' : Hp} {p : Addr} {o : DO} (h : ORep P w H p o) (t : TK H H') (hp : ∀ u, H p = some u → H' p = some u) : ORep P w H' p o := by
  cases o with
  | lst ds => obtain ⟨vs, e, i⟩ := h; exact ⟨vs, hp _ e, IsAll.mono t _ _ i⟩
  | dic kvs => exact hp _ h
  | ins C fs => obtain ⟨dx, fv, e, i⟩ := h; exact ⟨dx, fv, hp _ e, i.mono t⟩
  | nd kvs => obtain ⟨xs, e, z, m, i⟩ := h; exact ⟨xs, hp _ e, z, m, Paired.mapP i fun _ _ r => r.mono t⟩

abbrev GL := List (Addr × DO)
/-- the base B stands, the objects of G stand beside it -/
structure Rep (P : Program) (w : World) (B : Hp) (G : GL) (H : Hp) : Prop where
  base : Same B H
  own : ∀ x ∈ G, ORep P w H x.1 x.2 ∧ B x.1 = none
  nd : (G.map (·.1)).Nodup
section
variable {P : Program} {w : World} {B : Hp} {G : GL} {H H' : Hp}
theorem Rep.ext (r : Rep P w B G H) (e : Same H H') : Rep P w B G H' :=
  ⟨r.base.trans e, fun x hx => ⟨(r.own x hx).1.at_ (.of e) fun u q => e _ _ q, (r.own x hx).2⟩, r.nd⟩
theorem Rep.all (H : Hp) : Rep P w H [] H := ⟨Same.refl H, (fun _ h => nomatch h), List.nodup_nil⟩
theorem Rep.at_ (r : Rep P w B G H) {j : Nat} {p : Addr} {o : DO} (h : G[j]? = some (p, o)) : ORep P w H p o ∧ B p = none := r.own (p, o) (List.mem_of_getElem? h)
theorem Rep.fresh (r : Rep P w B G H) {p : Addr} (h : H p = none) : B p = none ∧ ∀ x ∈ G, x.1 ≠ p :=
  ⟨r.base.free h, fun x hx e => by
    obtain ⟨u, q⟩ := (r.own x hx).1.there
    rw [e, h] at q; cases q⟩
theorem Rep.new (r : Rep P w B G H) {p : Addr} {ho : HO} {o : DO} (hp : H p = none) (h : ORep P w (upd H p ho) p o) : Rep P w B (G ++ [(p, o)]) (upd H p ho) := by
  obtain ⟨f1, f2⟩ := r.fresh hp
  have e : Same H (upd H p ho) := fun b u q => by rw [upd_ne (ne_of_none q hp)]; exact q
  have r' := r.ext e
  refine ⟨r'.base, fun x hx => ?_, ?_⟩
  · rcases List.mem_append.mp hx with z | z
    · exact r'.own x z
    · rw [List.mem_singleton.mp z]; exact ⟨h, f1⟩
  · rw [List.map_append]
    refine List.nodup_append.mpr ⟨r.nd, by simp, fun a ha b hb => ?_⟩
    obtain ⟨x, hx, rfl⟩ := List.mem_map.mp ha
    rw [List.mem_singleton.mp hb]
    exact f2 x hx
theorem nodup_fst {A B : Type} {l : List (A × B)} (h : (l.map (·.1)).Nodup) {i j : Nat} {a : A} {b c : B} (hi : l[i]? = some (a, b)) (hj : l[j]? = some (a, c)) : i = j := by
  have hi' : (l.map (·.1))[i]? = some a := by rw [List.getElem?_map, hi]; rfl
  have hj' : (l.map (·.1))[j]? = some a := by rw [List.getElem?_map, hj]; rfl
  exact (List.getElem?_inj (List.getElem?_eq_some_iff.mp hi').1 h).mp (hi'.trans hj'.symm)
/-- the object at place j is changed, by a write at its address -/
theorem Rep.put (r : Rep P w B G H) {j : Nat} {p : Addr} {o o' : DO} {ho : HO} (h : G[j]? = some (p, o)) (h' : ORep P w (upd H p ho) p o') : Rep P w B (G.set j (p, o')) (upd H p ho) := by
  obtain ⟨f1, f2⟩ := r.at_ h
  have t : TK H (upd H p ho) := TK.upd f1.noTup
  have hj : j < G.length := (List.getElem?_eq_some_iff.mp h).1
  refine ⟨fun b u q => ?_, fun x hx => ?_, ?_⟩
  · have : b ≠ p := fun z => by rw [z, f2] at q; cases q
    rw [upd_ne this]; exact r.base b u q
  · rcases List.mem_or_eq_of_mem_set hx with z | z
    · by_cases e : x.1 = p
      · -- the element itself, by its address: only at place j
        obtain ⟨i, hi⟩ := List.mem_iff_getElem?.mp hx
        by_cases hij : i = j
        · subst hij
          rw [List.getElem?_set_self hj] at hi
          cases hi
          exact ⟨h', f2⟩
        · rw [List.getElem?_set_ne (Ne.symm hij)] at hi
          have hx' : G[i]? = some (p, x.2) := by rw [hi, ← e]
          exact absurd (nodup_fst r.nd hx' h) hij
      · exact ⟨(r.own x z).1.at_ t fun u q => by rw [upd_ne e]; exact q, (r.own x z).2⟩
    · rw [z]; exact ⟨h', f2⟩
  · have : (G.set j (p, o')).map (·.1) = G.map (·.1) := by
      rw [List.map_set]
      have e : (G.map (·.1))[j]? = some p := by rw [List.getElem?_map, h]; rfl
      refine List.ext_getElem? fun i => ?_
      by_cases hij : i = j
      · subst hij
        rw [List.getElem?_set_self (by simpa using hj), e]
      · rw [List.getElem?_set_ne (Ne.symm hij)]
    rw [this]; exact r.nd
theorem Rep.tk {p : Addr} {ho : HO} (r : Rep P w B G H) {j : Nat} {o : DO} (h : G[j]? = some (p, o)) : TK H (upd H p ho) := TK.upd (r.at_ h).1.noTup
end

/-- a list that stands: one's own, or the base's -/
def Lat (B : Hp) (G : GL) (p : Addr) (ds : List Dat) : Prop := (∃ j : Nat, G[j]? = some (p, DO.lst ds)) ∨ ∃ vs, B p = some (.lst vs) ∧ IsAll B ds vs
theorem Lat.own {B : Hp} {G : GL} {p : Addr} {ds : List Dat} {j : Nat} (h : G[j]? = some (p, DO.lst ds)) : Lat B G p ds := .inl ⟨j, h⟩
theorem Rep.lat {P : Program} {w : World} {B : Hp} {G : GL} {H : Hp} {p : Addr} {ds : List Dat} (r : Rep P w B G H) (h : Lat B G p ds) : ∃ vs, H p = some (.lst vs) ∧ IsAll H ds vs := by
  rcases h with ⟨j, hj⟩ | ⟨vs, h1, h2⟩
  · exact (r.at_ hj).1
  · exact ⟨vs, r.base _ _ h1, IsAll.mono (.of r.base) _ _ h2⟩

/-- an object that stands: one's own, or the base's -/
def Oat (P : Program) (w : World) (B : Hp) (G : GL) (p : Addr) (o : DO) : Prop := (∃ j : Nat, G[j]? = some (p, o)) ∨ ORep P w B p o
theorem Oat.own {P : Program} {w : World} {B : Hp} {G : GL} {p : Addr} {o : DO} {j : Nat} (h : G[j]? = some (p, o)) : Oat P w B G p o := .inl ⟨j, h⟩
theorem Rep.oat {P : Program} {w : World} {B : Hp} {G : GL} {H : Hp} {p : Addr} {o : DO} (r : Rep P w B G H) (h : Oat P w B G p o) : ORep P w H p o := by
  rcases h with ⟨j, hj⟩ | h
  · exact (r.at_ hj).1
  · exact h.at_ (.of r.base) fun u q => r.base _ _ q
theorem Lat.oat {P : Program} {w : World} {B : Hp} {G : GL} {p : Addr} {ds : List Dat} (h : Oat P w B G p (.lst ds)) : Lat B G p ds := h

/-! ### the slots -/
abbrev Sls := List (Option Dat)
/-- what the slots hold -/
structure Sl (H : Hp) (ρ : Sls) (σ : St) : Prop where
  len : σ.length = ρ.length
  get : ∀ (i : Nat) (d : Dat), ρ[i]? = some (some d) → ∃ v : V, σ[i]? = some (some v) ∧ Is H d v
theorem Sl.mono {H H' : Hp} {ρ : Sls} {σ : St} (s : Sl H ρ σ) (t : TK H H') : Sl H' ρ σ := ⟨s.len, fun i d e => let ⟨v, h1, h2⟩ := s.get i d e; ⟨v, h1, Is.mono t _ _ h2⟩⟩
theorem Sl.ext {H H' : Hp} {ρ : Sls} {σ : St} (s : Sl H ρ σ) (t : Same H H') : Sl H' ρ σ := s.mono (.of t)
theorem Sl.set {H : Hp} {ρ : Sls} {σ : St} (s : Sl H ρ σ) (i : Nat) {d : Dat} {v : V} (h : Is H d v) : Sl H (ρ.set i (some d)) (σ.set i (some v)) := by
  refine ⟨by simpa using s.len, fun j c e => ?_⟩
  by_cases hj : i = j
  · subst hj
    by_cases hl : i < ρ.length
    · rw [List.getElem?_set_self hl] at e
      cases e
      exact ⟨v, by rw [List.getElem?_set_self (by rw [s.len]; exact hl)], h⟩
    · rw [List.getElem?_eq_none (by simpa using hl)] at e; cases e
  · rw [List.getElem?_set_ne hj] at e ⊢
    exact s.get j c e
theorem Sl.forget {H : Hp} {ρ ρ' : Sls} {σ : St} (s : Sl H ρ σ) (hl : ρ'.length = ρ.length) (h : ∀ (i : Nat) (d : Dat), ρ'[i]? = some (some d) → ρ[i]? = some (some d)) : Sl H ρ' σ := ⟨by rw [s.len, hl], fun i d e => s.get i d (h i d e)⟩
theorem IsAll.slots {H : Hp} {n : Nat} : ∀ {ds : List Dat} {vs : List V}, IsAll H ds vs → Sl H (ds.map some ++ List.replicate n none) (vs.map some ++ List.replicate n none)
  | ds, vs, h => by
    have hl := h.length
    refine ⟨by simp [hl], fun i d e => ?_⟩
    by_cases hi : i < ds.length
    · rw [List.getElem?_append_left (by simpa using hi), List.getElem?_map] at e
      cases q : ds[i]? with
      | none => rw [q] at e; cases e
      | some c =>
        rw [q] at e
        cases e
        obtain ⟨x, h1, h2⟩ := h.get q
        exact ⟨x, by rw [List.getElem?_append_left (by simp; omega), List.getElem?_map, h1]; rfl, h2⟩
    · rw [List.getElem?_append_right (by simp; omega)] at e
      have := (List.mem_replicate.mp (List.mem_of_getElem? e)).2
      cases this

/-! ### the weakest readings -/
def WE (X : Cx) (e : Expr) : TE := fun σ H Q => ∀ pins s, Inv X pins σ H s → wpAny (model X.prog X.w) X.A (eval e X.env) (EP X pins σ Q) X.xe s
def WT (X : Cx) (e : Expr) : TT := fun σ H Q => ∀ pins s, Inv X pins σ H s → wpAny (model X.prog X.w) X.A (isTrue e X.env (eval e X.env)) (TP X pins σ Q) X.xe s
def WA (X : Cx) (es : List Expr) : TA := fun σ H Q => ∀ (pos : Pos) pins s, Inv X pins σ H s → wpAny (model X.prog X.w) X.A (spliced (backTo pos (starEach es X.env))) (AP X pins σ Q) X.xe s
def WS (X : Cx) (st : Stmt) : TS := fun D σ H => ∀ pins s, Inv X pins σ H s → wpAny (model X.prog X.w) X.A (exec st X.env) (SP X pins D) X.xe s
def WSs (X : Cx) (st : List Stmt) : TS := fun D σ H => ∀ pins s, Inv X pins σ H s → wpAny (model X.prog X.w) X.A (execs st X.env) (SP X pins D) X.xe s
theorem pe_w {X : Cx} {e : Expr} : PE X e (WE X e) := ⟨fun pins s σ H Q I h => h pins s I⟩
theorem pt_w {X : Cx} {e : Expr} : PT X e (WT X e) := ⟨fun pins s σ H Q I h => h pins s I⟩
theorem pa_w {X : Cx} {es : List Expr} : PA X es (WA X es) := ⟨fun pos pins s σ H Q I h => h pos pins s I⟩
theorem ps_w {X : Cx} {st : Stmt} : PS X st (WS X st) := ⟨fun pins s σ H D I h => h pins s I⟩
theorem pss_w {X : Cx} {st : List Stmt} : PSs X st (WSs X st) := ⟨fun pins s σ H D I h => h pins s I⟩
section
variable {X : Cx} {σ : St} {H : Hp}
theorem WE.of {e : Expr} {t : TE} {Q : VK} (h : PE X e t) (q : t σ H Q) : WE X e σ H Q := fun pins s I => h.run pins s σ H Q I q
theorem WT.of {e : Expr} {t : TT} {Q : Bool → Hp → Prop} (h : PT X e t) (q : t σ H Q) : WT X e σ H Q := fun pins s I => h.run pins s σ H Q I q
theorem WA.of {e : List Expr} {t : TA} {Q : List V → Hp → Prop} (h : PA X e t) (q : t σ H Q) : WA X e σ H Q := fun pos pins s I => h.run pos pins s σ H Q I q
theorem WS.of {e : Stmt} {t : TS} {D : Ends} (h : PS X e t) (q : t D σ H) : WS X e D σ H := fun pins s I => h.run pins s σ H D I q
theorem WSs.of {e : List Stmt} {t : TS} {D : Ends} (h : PSs X e t) (q : t D σ H) : WSs X e D σ H := fun pins s I => h.run pins s σ H D I q
end

/-! ### what evaluates to what -/
section
variable (X : Cx) (B : Hp) (ρ : Sls) (G : GL)
/-- e gives the datum d; nothing is changed -/
def Ev (e : Expr) (d : Dat) : Prop := ∀ σ H, Rep X.prog X.w B G H → Sl H ρ σ → ∀ Q : VK, (∀ v H2, Same H H2 → Is H2 d v → Q v H2) → WE X e σ H Q
def Et (e : Expr) (b : Bool) : Prop := ∀ σ H, Rep X.prog X.w B G H → Sl H ρ σ → ∀ Q : Bool → Hp → Prop, (∀ H2, Same H H2 → Q b H2) → WT X e σ H Q
def Ea (es : List Expr) (ds : List Dat) : Prop := ∀ σ H, Rep X.prog X.w B G H → Sl H ρ σ → ∀ Q : List V → Hp → Prop, (∀ vs H2, Same H H2 → IsAll H2 ds vs → Q vs H2) → WA X es σ H Q
/-- e gives a new list -/
def El (e : Expr) (ds : List Dat) : Prop := ∀ σ H, Rep X.prog X.w B G H → Sl H ρ σ → ∀ Q : VK, (∀ p vs H2, H p = none → Same H H2 → H2 p = some (.lst vs) → IsAll H2 ds vs → Q (.ref p) H2) → WE X e σ H Q
/-- e gives some datum, with some objects behind it -/
def Ew (e : Expr) (post : Dat → GL → Prop) : Prop := ∀ σ H, Rep X.prog X.w B G H → Sl H ρ σ → ∀ Q : VK, (∀ v H2 d G', Rep X.prog X.w B G' H2 → TK H H2 → Is H2 d v → post d G' → Q v H2) → WE X e σ H Q
end
section
variable {X : Cx} {B : Hp} {ρ : Sls} {G : GL} {e : Expr}
theorem Ev.w {d : Dat} (h : Ev X B ρ G e d) : Ew X B ρ G e (fun c G' => c = d ∧ G' = G) := fun σ H r s Q q =>
  h σ H r s Q fun v H2 e i => q v H2 d G (r.ext e) (.of e) i ⟨rfl, rfl⟩
theorem El.w {ds : List Dat} (h : El X B ρ G e ds) : Ew X B ρ G e (fun c G' => ∃ p, c = .adr p ∧ B p = none ∧ (∀ x ∈ G, x.1 ≠ p) ∧ G' = G ++ [(p, .lst ds)]) := fun σ H r s Q q =>
  h σ H r s Q fun p vs H2 hp e hl i => by
    obtain ⟨f1, f2⟩ := r.fresh hp
    have r2 := r.ext e
    refine q (.ref p) H2 (.adr p) (G ++ [(p, .lst ds)]) ⟨r2.base, fun x hx => ?_, ?_⟩ (.of e) (by simp only [Is]) ⟨p, rfl, f1, f2, rfl⟩
    · rcases List.mem_append.mp hx with z | z
      · exact r2.own x z
      · rw [List.mem_singleton.mp z]; exact ⟨⟨vs, hl, i⟩, f1⟩
    · rw [List.map_append]
      refine List.nodup_append.mpr ⟨r.nd, by simp, fun a ha b hb => ?_⟩
      obtain ⟨x, hx, rfl⟩ := List.mem_map.mp ha
      rw [List.mem_singleton.mp hb]
      exact f2 x hx
theorem Ew.imp {p q : Dat → GL → Prop} (h : Ew X B ρ G e p) (hq : ∀ d G', p d G' → q d G') : Ew X B ρ G e q := fun σ H r s Q k => h σ H r s Q fun v H2 d G' r' t i z => k v H2 d G' r' t i (hq d G' z)
theorem Ev.to {d d' : Dat} (h : Ev X B ρ G e d) (q : d = d') : Ev X B ρ G e d' := q ▸ h
theorem Et.to {b b' : Bool} (h : Et X B ρ G e b) (q : b = b') : Et X B ρ G e b' := q ▸ h
theorem El.to {d d' : List Dat} (h : El X B ρ G e d) (q : d = d') : El X B ρ G e d' := q ▸ h

/-! ### names, constants -/
theorem ev_var {i : Nat} {x : Str} {pos : Pos} {d : Dat} (hd : ρ[i]? = some (some d)) (h : PE X (.Name x pos) (tVar i)) : Ev X B ρ G (.Name x pos) d := fun σ H r s Q q => by
  obtain ⟨v, e1, e2⟩ := s.get i d hd
  exact WE.of h ⟨v, e1, q v H (Same.refl H) e2⟩
theorem ev_int {i j pos} : Ev X B ρ G (.Constant (.int i) j pos) (.int i) := fun σ H r s Q q => WE.of pe_int (q _ H (Same.refl H) (by simp only [Is]))
theorem ev_bl {b j pos} : Ev X B ρ G (.Constant (.bool b) j pos) (.bl b) := fun σ H r s Q q => WE.of pe_bl (q _ H (Same.refl H) (by simp only [Is]))
theorem ev_non {j pos} : Ev X B ρ G (.Constant .none j pos) .non := fun σ H r s Q q => WE.of pe_non (q _ H (Same.refl H) (by simp only [Is]))
theorem ev_str {x j pos} : Ev X B ρ G (.Constant (.str x) j pos) (.str x) := fun σ H r s Q q => WE.of pe_str (q _ H (Same.refl H) (by simp only [Is]))
/-- a flat value of the module -/
theorem ev_glob {x : Str} {pos : Pos} {v : V} {d : Dat} (h : PE X (.Name x pos) (tC v)) (hd : ∀ H, Is H d v) : Ev X B ρ G (.Name x pos) d := fun σ H r s Q q => WE.of h (q _ H (Same.refl H) (hd H))

/-! ### operators by values -/
def R2D (K : Cx) (B : Hp) (G : GL) (r : R2) (a b d : Dat) : Prop := ∀ H, Rep K.prog K.w B G H → ∀ x y, Is H a x → Is H b y → ∀ Q : VK, (∀ v H2, Same H H2 → Is H2 d v → Q v H2) → r x y H Q
theorem ev_op {op : Operator} {a b : Expr} {r : R2} {da db d : Dat} {pos : Pos} (ho : OpR X (binaryOp op) r) (ha : Ev X B ρ G a da) (hb : Ev X B ρ G b db) (hr : R2D X B G r da db d) : Ev X B ρ G (.BinOp a op b pos) d := fun σ H rp s Q q =>
  WE.of (pe_op ho pe_w pe_w) (ha σ H rp s _ fun x H1 e1 i1 => hb σ H1 (rp.ext e1) (s.ext e1) _ fun y H2 e2 i2 =>
    hr H2 ((rp.ext e1).ext e2) x y (Is.mono (.of e2) _ _ i1) i2 Q fun v H3 e3 i3 => q v H3 ((e1.trans e2).trans e3) i3)
theorem ev_cmp {op : CmpOp} {a b : Expr} {r : R2} {da db d : Dat} {pos : Pos} (ho : OpR X (compareOp op) r) (ha : Ev X B ρ G a da) (hb : Ev X B ρ G b db) (hr : R2D X B G r da db d) (hm : behindInMarks op b = false) : Ev X B ρ G (.Compare a [op] [b] pos) d := fun σ H rp s Q q =>
  WE.of (pe_cmpR ho pe_w pe_w hm) (ha σ H rp s _ fun x H1 e1 i1 => hb σ H1 (rp.ext e1) (s.ext e1) _ fun y H2 e2 i2 =>
    hr H2 ((rp.ext e1).ext e2) x y (Is.mono (.of e2) _ _ i1) i2 Q fun v H3 e3 i3 => q v H3 ((e1.trans e2).trans e3) i3)
/-- a value that is a bool, as a test -/
theorem et_val {b : Bool} (h : Ev X B ρ G e (.bl b)) (he : ∀ whole, isTrue e X.env whole = (do let v ← whole; standAt e.pos; holding [v] (truthy v)) := by intro _; rfl) : Et X B ρ G e b := fun σ H rp s Q q =>
  WT.of (pt_val pe_w he) (h σ H rp s _ fun v H2 e2 i => by
    simp only [Is] at i
    exact ⟨b, i, q H2 e2⟩)
/-- one comparison as a test -/
theorem et_cmp {op : CmpOp} {a b : Expr} {r : R2} {da db : Dat} {c : Bool} {pos : Pos} (ho : OpR X (compareOp op) r) (ha : Ev X B ρ G a da) (hb : Ev X B ρ G b db) (hr : R2D X B G r da db (.bl c)) (hm : behindInMarks op b = false) : Et X B ρ G (.Compare a [op] [b] pos) c := fun σ H rp s Q q =>
  WT.of (pt_cmpR ho pe_w pe_w hm) (ha σ H rp s _ fun x H1 e1 i1 => hb σ H1 (rp.ext e1) (s.ext e1) _ fun y H2 e2 i2 =>
    hr H2 ((rp.ext e1).ext e2) x y (Is.mono (.of e2) _ _ i1) i2 _ fun v H3 e3 i3 => by
      simp only [Is] at i3
      exact ⟨c, i3, q H3 ((e1.trans e2).trans e3)⟩)
/-! ints -/
theorem r2_I0 {g : Int → Int → V} {i j : Int} {d : Dat} (h : ∀ H, Is H d (g i j)) : R2D X B G (rI0 g) (.int i) (.int j) d := fun H r x y hx hy Q q => by
  simp only [Is] at hx hy
  exact ⟨i, j, hx, hy, q _ H (Same.refl H) (h H)⟩
theorem r2_I {C : Int → Int → Prop} {g : Int → Int → V} {i j : Int} {d : Dat} (hc : C i j) (h : ∀ H, Is H d (g i j)) : R2D X B G (rI C g) (.int i) (.int j) d := fun H r x y hx hy Q q => by
  simp only [Is] at hx hy
  exact ⟨i, j, hx, hy, hc, q _ H (Same.refl H) (h H)⟩
section
variable {a b : Expr} {i j : Int} {pos : Pos}
theorem ev_add (ha : Ev X B ρ G a (.int i)) (hb : Ev X B ρ G b (.int j)) : Ev X B ρ G (.BinOp a .Add b pos) (.int (i + j)) := ev_op op_add ha hb (r2_I0 fun H => by simp only [Is])
theorem ev_sub (ha : Ev X B ρ G a (.int i)) (hb : Ev X B ρ G b (.int j)) : Ev X B ρ G (.BinOp a .Sub b pos) (.int (i - j)) := ev_op op_sub ha hb (r2_I0 fun H => by simp only [Is])
theorem ev_mul (ha : Ev X B ρ G a (.int i)) (hb : Ev X B ρ G b (.int j)) (hc : CMul i j) : Ev X B ρ G (.BinOp a .Mult b pos) (.int (i * j)) := ev_op op_mul ha hb (r2_I hc fun H => by simp only [Is])
theorem ev_mod (ha : Ev X B ρ G a (.int i)) (hb : Ev X B ρ G b (.int j)) (hc : 0 < j) : Ev X B ρ G (.BinOp a .Mod b pos) (.int (i % j)) := ev_op op_mod ha hb (r2_I hc fun H => by simp only [Is])
theorem ev_fdiv (ha : Ev X B ρ G a (.int i)) (hb : Ev X B ρ G b (.int j)) (hc : CDiv i j) : Ev X B ρ G (.BinOp a .FloorDiv b pos) (.int (i / j)) := ev_op op_fdiv ha hb (r2_I hc fun H => by simp only [Is])
theorem ev_pow (ha : Ev X B ρ G a (.int i)) (hb : Ev X B ρ G b (.int j)) (hc : CPow i j) : Ev X B ρ G (.BinOp a .Pow b pos) (.int (i ^ j.toNat)) := ev_op op_pow ha hb (r2_I hc fun H => by simp only [Is])
theorem et_lt (ha : Ev X B ρ G a (.int i)) (hb : Ev X B ρ G b (.int j)) : Et X B ρ G (.Compare a [.Lt] [b] pos) (decide (i < j)) := et_cmp op_lt ha hb (r2_I0 fun H => by simp only [Is]) (nomark _)
theorem et_le (ha : Ev X B ρ G a (.int i)) (hb : Ev X B ρ G b (.int j)) : Et X B ρ G (.Compare a [.LtE] [b] pos) (decide (i ≤ j)) := et_cmp op_le ha hb (r2_I0 fun H => by simp only [Is]) (nomark _)
theorem et_gt (ha : Ev X B ρ G a (.int i)) (hb : Ev X B ρ G b (.int j)) : Et X B ρ G (.Compare a [.Gt] [b] pos) (decide (j < i)) := et_cmp op_gt ha hb (r2_I0 fun H => by simp only [Is]) (nomark _)
theorem et_ge (ha : Ev X B ρ G a (.int i)) (hb : Ev X B ρ G b (.int j)) : Et X B ρ G (.Compare a [.GtE] [b] pos) (decide (j ≤ i)) := et_cmp op_ge ha hb (r2_I0 fun H => by simp only [Is]) (nomark _)
theorem ev_lt (ha : Ev X B ρ G a (.int i)) (hb : Ev X B ρ G b (.int j)) : Ev X B ρ G (.Compare a [.Lt] [b] pos) (.bl (decide (i < j))) := ev_cmp op_lt ha hb (r2_I0 fun H => by simp only [Is]) (nomark _)
theorem ev_le (ha : Ev X B ρ G a (.int i)) (hb : Ev X B ρ G b (.int j)) : Ev X B ρ G (.Compare a [.LtE] [b] pos) (.bl (decide (i ≤ j))) := ev_cmp op_le ha hb (r2_I0 fun H => by simp only [Is]) (nomark _)
theorem ev_gt (ha : Ev X B ρ G a (.int i)) (hb : Ev X B ρ G b (.int j)) : Ev X B ρ G (.Compare a [.Gt] [b] pos) (.bl (decide (j < i))) := ev_cmp op_gt ha hb (r2_I0 fun H => by simp only [Is]) (nomark _)
/-- low <= value <= high -/
theorem ev_between {c : Expr} {k : Int} (ha : Ev X B ρ G a (.int i)) (hb : Ev X B ρ G b (.int j)) (hc : Ev X B ρ G c (.int k)) (hm : lastMarks [.LtE, .LtE] [b, c] = false := by with_unfolding_all rfl) :
    Ev X B ρ G (.Compare a [.LtE, .LtE] [b, c] pos) (.bl (decide (i ≤ j) && decide (j ≤ k))) := fun σ H rp s Q q =>
  WE.of (pe_chain op_le op_le pe_w pe_w pe_w hm) (ha σ H rp s _ fun x H1 e1 i1 => hb σ H1 (rp.ext e1) (s.ext e1) _ fun y H2 e2 i2 => by
    simp only [Is] at i1 i2
    refine ⟨i, j, i1, i2, decide (i ≤ j), rfl, ?_⟩
    cases hd : decide (i ≤ j) with
    | false => exact iteF (q _ H2 (e1.trans e2) (by simp only [Is]; rw [hd]; rfl))
    | true =>
      refine iteT ?_
      refine hc σ H2 ((rp.ext e1).ext e2) ((s.ext e1).ext e2) _ fun z H3 e3 i3 => ?_
      simp only [Is] at i3
      exact ⟨j, k, i2, i3, q _ H3 ((e1.trans e2).trans e3) (by simp only [Is]; rw [hd, Bool.true_and])⟩)
end

/-! ### and, or, not, if -/
section
variable {a b c : Expr} {x y : Bool} {rest : List Expr} {pos : Pos}
theorem et_not (h : Et X B ρ G a x) : Et X B ρ G (.UnaryOp .Not a pos) (!x) := fun σ H rp s Q q => WT.of (pt_not pt_w) (h σ H rp s _ fun H2 e => q H2 e)
/-- chains of and, or as tests, whatever stands around -/
def Ew' (X : Cx) (B : Hp) (ρ : Sls) (G : GL) (e : Expr) (b : Bool) : Prop := ∃ t : TT, PW X e t ∧ ∀ σ H, Rep X.prog X.w B G H → Sl H ρ σ → ∀ Q : Bool → Hp → Prop, (∀ H2, Same H H2 → Q b H2) → t σ H Q
theorem ew_and1 (h : Et X B ρ G a x) : Ew' X B ρ G (.BoolOp .And [a] pos) x := ⟨_, pw_and1 pt_w, h⟩
theorem ew_or1 (h : Et X B ρ G a x) : Ew' X B ρ G (.BoolOp .Or [a] pos) x := ⟨_, pw_or1 pt_w, h⟩
theorem ew_and (h : Et X B ρ G a x) (h' : x = true → Ew' X B ρ G (.BoolOp .And (b :: rest) pos) y) (hn : x = false → ∃ t, PW X (.BoolOp .And (b :: rest) pos) t := by intro h; first | cases h | exact ⟨_, pw_and1 pt_w⟩ | exact ⟨_, pw_and pt_w (pw_and1 pt_w)⟩ | exact ⟨_, pw_and pt_w (pw_and pt_w (pw_and1 pt_w))⟩) : Ew' X B ρ G (.BoolOp .And (a :: b :: rest) pos) (x && y) := by
  cases x with
  | true =>
    obtain ⟨t, h1, h2⟩ := h' rfl
    exact ⟨_, pw_and pt_w h1, fun σ H rp s Q q => h σ H rp s _ fun H2 e2 => by
      show t σ H2 Q
      exact h2 σ H2 (rp.ext e2) (s.ext e2) Q fun H3 e3 => q H3 (e2.trans e3)⟩
  | false =>
    obtain ⟨t, h1⟩ := hn rfl
    exact ⟨_, pw_and pt_w h1, fun σ H rp s Q q => h σ H rp s _ fun H2 e2 => by
      show Q false H2
      exact q H2 e2⟩
theorem ew_or (h : Et X B ρ G a x) (h' : x = false → Ew' X B ρ G (.BoolOp .Or (b :: rest) pos) y) (hn : x = true → ∃ t, PW X (.BoolOp .Or (b :: rest) pos) t := by intro h; first | cases h | exact ⟨_, pw_or1 pt_w⟩ | exact ⟨_, pw_or pt_w (pw_or1 pt_w)⟩ | exact ⟨_, pw_or pt_w (pw_or pt_w (pw_or1 pt_w))⟩) : Ew' X B ρ G (.BoolOp .Or (a :: b :: rest) pos) (x || y) := by
  cases x with
  | false =>
    obtain ⟨t, h1, h2⟩ := h' rfl
    exact ⟨_, pw_or pt_w h1, fun σ H rp s Q q => h σ H rp s _ fun H2 e2 => by
      show t σ H2 Q
      exact h2 σ H2 (rp.ext e2) (s.ext e2) Q fun H3 e3 => q H3 (e2.trans e3)⟩
  | true =>
    obtain ⟨t, h1⟩ := hn rfl
    exact ⟨_, pw_or pt_w h1, fun σ H rp s Q q => h σ H rp s _ fun H2 e2 => by
      show Q true H2
      exact q H2 e2⟩
theorem Ew'.t (h : Ew' X B ρ G e x) : Et X B ρ G e x := fun σ H rp s Q q => by
  obtain ⟨t, h1, h2⟩ := h
  exact WT.of h1.pt (h2 σ H rp s Q q)
theorem et_and2 (h : Et X B ρ G a x) (h' : x = true → Et X B ρ G b y) : Et X B ρ G (.BoolOp .And [a, b] pos) (x && y) := (ew_and h (fun z => ew_and1 (h' z)) (fun _ => ⟨_, pw_and1 pt_w⟩)).t
theorem et_or2 (h : Et X B ρ G a x) (h' : x = false → Et X B ρ G b y) : Et X B ρ G (.BoolOp .Or [a, b] pos) (x || y) := (ew_or h (fun z => ew_or1 (h' z)) (fun _ => ⟨_, pw_or1 pt_w⟩)).t
theorem et_and3 {z : Bool} (h : Et X B ρ G a x) (h' : x = true → Et X B ρ G b y) (h2 : x = true → y = true → Et X B ρ G c z) : Et X B ρ G (.BoolOp .And [a, b, c] pos) (x && (y && z)) :=
  (ew_and h (fun q => ew_and (h' q) (fun q' => ew_and1 (h2 q q')) (fun _ => ⟨_, pw_and1 pt_w⟩)) (fun _ => ⟨_, pw_and pt_w (pw_and1 pt_w)⟩)).t
theorem et_or3 {z : Bool} (h : Et X B ρ G a x) (h' : x = false → Et X B ρ G b y) (h2 : x = false → y = false → Et X B ρ G c z) : Et X B ρ G (.BoolOp .Or [a, b, c] pos) (x || (y || z)) :=
  (ew_or h (fun q => ew_or (h' q) (fun q' => ew_or1 (h2 q q')) (fun _ => ⟨_, pw_or1 pt_w⟩)) (fun _ => ⟨_, pw_or pt_w (pw_or1 pt_w)⟩)).t
/-- as values -/
theorem ev_one {op} {d : Dat} (h : Ev X B ρ G a d) : Ev X B ρ G (.BoolOp op [a] pos) d := fun σ H rp s Q q => WE.of (pe_one pe_w) (h σ H rp s Q q)
theorem ev_and (h : Ev X B ρ G a (.bl x)) (h' : x = true → Ev X B ρ G (.BoolOp .And (b :: rest) pos) (.bl y)) : Ev X B ρ G (.BoolOp .And (a :: b :: rest) pos) (.bl (x && y)) := fun σ H rp s Q q =>
  WE.of (pe_and pe_w pe_w) (h σ H rp s _ fun v H2 e2 i2 => by
    simp only [Is] at i2
    refine ⟨x, i2, ?_⟩
    cases x with
    | true => exact iteT (h' rfl σ H2 (rp.ext e2) (s.ext e2) Q fun v H3 e3 i3 => q v H3 (e2.trans e3) i3)
    | false => exact iteF (q _ H2 e2 (by simp [Is])))
theorem ev_or (h : Ev X B ρ G a (.bl x)) (h' : x = false → Ev X B ρ G (.BoolOp .Or (b :: rest) pos) (.bl y)) : Ev X B ρ G (.BoolOp .Or (a :: b :: rest) pos) (.bl (x || y)) := fun σ H rp s Q q =>
  WE.of (pe_or pe_w pe_w) (h σ H rp s _ fun v H2 e2 i2 => by
    simp only [Is] at i2
    refine ⟨x, i2, ?_⟩
    cases x with
    | false => exact iteF (h' rfl σ H2 (rp.ext e2) (s.ext e2) Q fun v H3 e3 i3 => q v H3 (e2.trans e3) i3)
    | true => exact iteT (q _ H2 e2 (by simp [Is])))
theorem ev_and2 (h : Ev X B ρ G a (.bl x)) (h' : x = true → Ev X B ρ G b (.bl y)) : Ev X B ρ G (.BoolOp .And [a, b] pos) (.bl (x && y)) := ev_and h fun z => ev_one (h' z)
theorem ev_and3 {z : Bool} (h : Ev X B ρ G a (.bl x)) (h' : x = true → Ev X B ρ G b (.bl y)) (h2 : x = true → y = true → Ev X B ρ G c (.bl z)) : Ev X B ρ G (.BoolOp .And [a, b, c] pos) (.bl (x && (y && z))) := ev_and h fun q => ev_and (h' q) fun q' => ev_one (h2 q q')
theorem ev_or2 (h : Ev X B ρ G a (.bl x)) (h' : x = false → Ev X B ρ G b (.bl y)) : Ev X B ρ G (.BoolOp .Or [a, b] pos) (.bl (x || y)) := ev_or h fun z => ev_one (h' z)
theorem ev_not (h : Ev X B ρ G a (.bl x)) : Ev X B ρ G (.UnaryOp .Not a pos) (.bl (!x)) := fun σ H rp s Q q =>
  WE.of (pe_not pe_w) (h σ H rp s _ fun v H2 e2 i2 => by
    simp only [Is] at i2
    exact ⟨x, i2, q _ H2 e2 (by simp [Is])⟩)
theorem ev_if {d : Dat} (hc : Et X B ρ G c x) (h1 : x = true → Ev X B ρ G a d) (h2 : x = false → Ev X B ρ G b d) : Ev X B ρ G (.IfExp c a b pos) d := fun σ H rp s Q q =>
  WE.of (pe_ifExp pt_w pe_w pe_w) (hc σ H rp s _ fun H2 e2 => by
    cases x with
    | true => exact iteT (h1 rfl σ H2 (rp.ext e2) (s.ext e2) Q fun v H3 e3 i3 => q v H3 (e2.trans e3) i3)
    | false => exact iteF (h2 rfl σ H2 (rp.ext e2) (s.ext e2) Q fun v H3 e3 i3 => q v H3 (e2.trans e3) i3))
end

/-! ### is None -/
def Dat.isNon : Dat → Bool | .non => true | _ => false
theorem is_non {H : Hp} {d : Dat} {v : V} (h : Is H d v) : decide (v = .non) = d.isNon := by
  cases d with
  | non => simp only [Is] at h; rw [h]; rfl
  | bl b => simp only [Is] at h; rw [h]; rfl
  | int b => simp only [Is] at h; rw [h]; rfl
  | str b => simp only [Is] at h; rw [h]; rfl
  | adr b => simp only [Is] at h; rw [h]; rfl
  | tup ds => simp only [Is] at h; obtain ⟨a, xs, rfl, _⟩ := h; rfl
theorem ev_isN {a : Expr} {d : Dat} {j p pos} (h : Ev X B ρ G a d) : Ev X B ρ G (.Compare a [.Is] [.Constant .none j p] pos) (.bl d.isNon) := fun σ H rp s Q q =>
  WE.of (pe_cmp (pc_isN pe_w)) (h σ H rp s _ fun v H2 e2 i2 => q _ H2 e2 (by simp only [Is]; rw [is_non i2]))
theorem ev_notN {a : Expr} {d : Dat} {j p pos} (h : Ev X B ρ G a d) : Ev X B ρ G (.Compare a [.IsNot] [.Constant .none j p] pos) (.bl (!d.isNon)) := fun σ H rp s Q q =>
  WE.of (pe_cmp (pc_notN pe_w)) (h σ H rp s _ fun v H2 e2 i2 => q _ H2 e2 (by simp only [Is]; rw [is_non i2]))
theorem et_isN {a : Expr} {d : Dat} {j p pos} (h : Ev X B ρ G a d) : Et X B ρ G (.Compare a [.Is] [.Constant .none j p] pos) d.isNon := fun σ H rp s Q q =>
  WT.of (pt_cmp (pc_isN pe_w)) (h σ H rp s _ fun v H2 e2 i2 => ⟨_, rfl, by rw [is_non i2]; exact q H2 e2⟩)
theorem et_notN {a : Expr} {d : Dat} {j p pos} (h : Ev X B ρ G a d) : Et X B ρ G (.Compare a [.IsNot] [.Constant .none j p] pos) (!d.isNon) := fun σ H rp s Q q =>
  WT.of (pt_cmp (pc_notN pe_w)) (h σ H rp s _ fun v H2 e2 i2 => ⟨_, rfl, by rw [is_non i2]; exact q H2 e2⟩)

/-! ### == of data -/
def Dat.eqv (d e : Dat) : Bool := PyData.eqv d.pd e.pd
def Dat.fine (d : Dat) : Bool := d.clean && SeqAt.shaped d.pd
theorem Dat.fine.c {d : Dat} (h : d.fine = true) : d.clean = true := (Bool.and_eq_true_iff.mp h).1
theorem Dat.fine.s {d : Dat} (h : d.fine = true) : SeqAt.shaped d.pd = true := (Bool.and_eq_true_iff.mp h).2
theorem r2_eqD {d e : Dat} (h1 : d.fine = true) (h2 : e.fine = true) : R2D X B G (rEqD X.K) d e (.bl (d.eqv e)) := fun H r x y hx hy Q q =>
  ⟨d.pd, e.pd, Is.dp _ _ (Dat.fine.c h1) hx, Is.dp _ _ (Dat.fine.c h2) hy, Dat.fine.s h1, Dat.fine.s h2, q _ H (Same.refl H) (by simp only [Is]; rfl)⟩
theorem r2_neD {d e : Dat} (h1 : d.fine = true) (h2 : e.fine = true) : R2D X B G (rNeD X.K) d e (.bl (!d.eqv e)) := fun H r x y hx hy Q q =>
  ⟨d.pd, e.pd, Is.dp _ _ (Dat.fine.c h1) hx, Is.dp _ _ (Dat.fine.c h2) hy, Dat.fine.s h1, Dat.fine.s h2, q _ H (Same.refl H) (by simp only [Is]; rfl)⟩
section
variable {a b : Expr} {d c : Dat} {pos : Pos} (hu : X.A.units + 64 < cLine)
include hu
theorem ev_eqD (ha : Ev X B ρ G a d) (hb : Ev X B ρ G b c) (h1 : d.fine = true) (h2 : c.fine = true) : Ev X B ρ G (.Compare a [.Eq] [b] pos) (.bl (d.eqv c)) := ev_cmp (op_eqD hu) ha hb (r2_eqD h1 h2) (nomark _)
theorem et_eqD (ha : Ev X B ρ G a d) (hb : Ev X B ρ G b c) (h1 : d.fine = true) (h2 : c.fine = true) : Et X B ρ G (.Compare a [.Eq] [b] pos) (d.eqv c) := et_cmp (op_eqD hu) ha hb (r2_eqD h1 h2) (nomark _)
theorem ev_neD (ha : Ev X B ρ G a d) (hb : Ev X B ρ G b c) (h1 : d.fine = true) (h2 : c.fine = true) : Ev X B ρ G (.Compare a [.NotEq] [b] pos) (.bl (!d.eqv c)) := ev_cmp (op_neD hu) ha hb (r2_neD h1 h2) (nomark _)
theorem et_neD (ha : Ev X B ρ G a d) (hb : Ev X B ρ G b c) (h1 : d.fine = true) (h2 : c.fine = true) : Et X B ρ G (.Compare a [.NotEq] [b] pos) (!d.eqv c) := et_cmp (op_neD hu) ha hb (r2_neD h1 h2) (nomark _)
end
/-! == of flat things -/
def Dat.flat : Dat → Option V
  | .non => some .non | .bl b => some (.bl b) | .int i => some (.int i) | .str s => some (.str s) | _ => none
theorem Is.flat {H : Hp} {d : Dat} {v u : V} (h : Is H d v) (e : d.flat = some u) : v = u := by
  cases d <;> simp only [Dat.flat] at e <;> first | (cases e; simpa only [Is] using h) | cases e
theorem r2_eq {d e : Dat} {x y : V} (h1 : d.flat = some x) (h2 : e.flat = some y) (hs : scal x y = true) : R2D X B G rEq d e (.bl (decide (x = y))) := fun H r v u hx hy Q q => by
  rw [hx.flat h1, hy.flat h2]
  exact ⟨hs, q _ H (Same.refl H) (by simp only [Is])⟩
theorem r2_ne {d e : Dat} {x y : V} (h1 : d.flat = some x) (h2 : e.flat = some y) (hs : scal x y = true) : R2D X B G rNe d e (.bl (!decide (x = y))) := fun H r v u hx hy Q q => by
  rw [hx.flat h1, hy.flat h2]
  exact ⟨hs, q _ H (Same.refl H) (by simp only [Is])⟩
section
variable {a b : Expr} {s t : Str} {i j : Int} {pos : Pos}
theorem ev_eqS (ha : Ev X B ρ G a (.str s)) (hb : Ev X B ρ G b (.str t)) : Ev X B ρ G (.Compare a [.Eq] [b] pos) (.bl (decide (s = t))) := (ev_cmp op_eq ha hb (r2_eq rfl rfl rfl) (nomark _)).to (by congr 1; simp)
theorem et_eqS (ha : Ev X B ρ G a (.str s)) (hb : Ev X B ρ G b (.str t)) : Et X B ρ G (.Compare a [.Eq] [b] pos) (decide (s = t)) := (et_cmp op_eq ha hb (r2_eq rfl rfl rfl) (nomark _)).to (by simp)
theorem ev_neS (ha : Ev X B ρ G a (.str s)) (hb : Ev X B ρ G b (.str t)) : Ev X B ρ G (.Compare a [.NotEq] [b] pos) (.bl (!decide (s = t))) := (ev_cmp op_ne ha hb (r2_ne rfl rfl rfl) (nomark _)).to (by congr 1; simp)
theorem et_neS (ha : Ev X B ρ G a (.str s)) (hb : Ev X B ρ G b (.str t)) : Et X B ρ G (.Compare a [.NotEq] [b] pos) (!decide (s = t)) := (et_cmp op_ne ha hb (r2_ne rfl rfl rfl) (nomark _)).to (by simp)
theorem ev_eqI (ha : Ev X B ρ G a (.int i)) (hb : Ev X B ρ G b (.int j)) : Ev X B ρ G (.Compare a [.Eq] [b] pos) (.bl (decide (i = j))) := (ev_cmp op_eq ha hb (r2_eq rfl rfl rfl) (nomark _)).to (by congr 1; simp)
theorem et_eqI (ha : Ev X B ρ G a (.int i)) (hb : Ev X B ρ G b (.int j)) : Et X B ρ G (.Compare a [.Eq] [b] pos) (decide (i = j)) := (et_cmp op_eq ha hb (r2_eq rfl rfl rfl) (nomark _)).to (by simp)
theorem ev_neI (ha : Ev X B ρ G a (.int i)) (hb : Ev X B ρ G b (.int j)) : Ev X B ρ G (.Compare a [.NotEq] [b] pos) (.bl (!decide (i = j))) := (ev_cmp op_ne ha hb (r2_ne rfl rfl rfl) (nomark _)).to (by congr 1; simp)
theorem et_neI (ha : Ev X B ρ G a (.int i)) (hb : Ev X B ρ G b (.int j)) : Et X B ρ G (.Compare a [.NotEq] [b] pos) (!decide (i = j)) := (et_cmp op_ne ha hb (r2_ne rfl rfl rfl) (nomark _)).to (by simp)
theorem ev_eqB {x y : Bool} (ha : Ev X B ρ G a (.bl x)) (hb : Ev X B ρ G b (.bl y)) : Ev X B ρ G (.Compare a [.Eq] [b] pos) (.bl (decide (x = y))) := (ev_cmp op_eq ha hb (r2_eq rfl rfl rfl) (nomark _)).to (by congr 1; simp)
theorem ev_neB {x y : Bool} (ha : Ev X B ρ G a (.bl x)) (hb : Ev X B ρ G b (.bl y)) : Ev X B ρ G (.Compare a [.NotEq] [b] pos) (.bl (!decide (x = y))) := (ev_cmp op_ne ha hb (r2_ne rfl rfl rfl) (nomark _)).to (by congr 1; simp)
theorem et_neB {x y : Bool} (ha : Ev X B ρ G a (.bl x)) (hb : Ev X B ρ G b (.bl y)) : Et X B ρ G (.Compare a [.NotEq] [b] pos) (!decide (x = y)) := (et_cmp op_ne ha hb (r2_ne rfl rfl rfl) (nomark _)).to (by simp)
end

/-! ### tuples -/
theorem ea_nil : Ea X B ρ G [] [] := fun σ H rp s Q q => WA.of pa_nil (q [] H (Same.refl H) .nil)
theorem ea_cons {a : Expr} {es : List Expr} {d : Dat} {ds : List Dat} (h : Ev X B ρ G a d) (hs : Ea X B ρ G es ds) (he : starEach (a :: es) X.env = (false, eval a X.env) :: starEach es X.env := by rfl) : Ea X B ρ G (a :: es) (d :: ds) := fun σ H rp s Q q =>
  WA.of (pa_cons pe_w pa_w he) (h σ H rp s _ fun v H2 e2 i2 => hs σ H2 (rp.ext e2) (s.ext e2) _ fun vs H3 e3 i3 => q _ H3 (e2.trans e3) (.cons (Is.mono (.of e3) _ _ i2) i3))
theorem Same.new {H : Hp} {p : Addr} {o : HO} (h : H p = none) : Same H (upd H p o) := fun b u q => by rw [upd_ne (ne_of_none q h)]; exact q
theorem ev_tup {es : List Expr} {ds : List Dat} {x1 pos} (h : Ea X B ρ G es ds) (hl : ds.length ≤ 100000) : Ev X B ρ G (.Tuple es x1 pos) (.tup ds) := fun σ H rp s Q q =>
  WE.of (pe_tup pa_w) (h σ H rp s _ fun vs H2 e2 i2 => ⟨by rw [i2.length]; exact Nat.le_trans hl (by decide), fun p hp =>
    q _ _ (e2.trans (Same.new hp)) (by simp only [Is]; exact ⟨p, vs, rfl, upd_same, IsAll.mono (.of (Same.new hp)) _ _ i2⟩)⟩)
theorem el_lst {es : List Expr} {ds : List Dat} {pos} (h : Ea X B ρ G es ds) (hl : ds.length ≤ 100000) : El X B ρ G (.List es pos) ds := fun σ H rp s Q q =>
  WE.of (pe_lst pa_w) (h σ H rp s _ fun vs H2 e2 i2 => ⟨by rw [i2.length]; exact Nat.le_trans hl (by decide), fun p hp =>
    q p vs _ (e2.free hp) (e2.trans (Same.new hp)) upd_same (IsAll.mono (.of (Same.new hp)) _ _ i2)⟩)
/-- t[i] -/
theorem IsAll.atI {H : Hp} {ds : List Dat} {xs : List V} {i : Int} {d : Dat} (h : IsAll H ds xs) (e : L2.atI ds i = some d) : ∃ x, L2.atI xs i = some x ∧ Is H d x := by
  unfold L2.atI at e ⊢
  rw [h.length]
  cases q : ixN ds.length i with
  | none => rw [q] at e; cases e
  | some j =>
    rw [q] at e
    exact h.get e
theorem ev_ixT {a b : Expr} {ds : List Dat} {i : Int} {d : Dat} {pos : Pos} (ha : Ev X B ρ G a (.tup ds)) (hb : Ev X B ρ G b (.int i)) (hi : L2.atI ds i = some d) (hs : PlainIx b := by exact fun _ _ => rfl) : Ev X B ρ G (.Subscript a b pos) d := fun σ H rp s Q q =>
  WE.of (pe_ix ix_tup pe_w pe_w hs) (ha σ H rp s _ fun x H1 e1 i1 => hb σ H1 (rp.ext e1) (s.ext e1) _ fun y H2 e2 i2 => by
    simp only [Is] at i1 i2
    obtain ⟨p, xs, rfl, hp, hx⟩ := i1
    obtain ⟨v, h1, h2⟩ := (IsAll.mono (.of e2) _ _ hx).atI hi
    exact ⟨p, xs, i, v, rfl, i2, SqT.of (e2 _ _ hp), h1, q v H2 (e1.trans e2) h2⟩)
/-- l[i], a list of one's own -/
theorem ev_ixL {a b : Expr} {p : Addr} {ds : List Dat} {i : Int} {d : Dat} {pos : Pos} (ha : Ev X B ρ G a (.adr p)) (hb : Ev X B ρ G b (.int i)) (hj : Lat B G p ds) (hi : L2.atI ds i = some d) (hs : PlainIx b := by exact fun _ _ => rfl) : Ev X B ρ G (.Subscript a b pos) d := fun σ H rp s Q q =>
  WE.of (pe_ix ix_list pe_w pe_w hs) (ha σ H rp s _ fun x H1 e1 i1 => hb σ H1 (rp.ext e1) (s.ext e1) _ fun y H2 e2 i2 => by
    simp only [Is] at i1 i2
    obtain ⟨vs, hp, hx⟩ := ((rp.ext e1).ext e2).lat hj
    obtain ⟨v, h1, h2⟩ := hx.atI hi
    exact ⟨p, vs, i, v, i1, i2, SqL.of hp, h1, q v H2 (e1.trans e2) h2⟩)
end
end Bk
set_option Elab.async false
set_option linter.all false
set_option autoImplicit false
set_option maxRecDepth 100000
set_option maxHeartbeats 1000000
namespace Bk
open PySem L2

/-! ### statements -/
structure DE where
  nx : Sls → GL → Prop
  rt : Dat → GL → Prop
  bk : Sls → GL → Prop := fun _ _ => False
  ct : Sls → GL → Prop := fun _ _ => False
/-- an end of the layer below: behind H, over the base B -/
def DE.low (D : DE) (P : Program) (w : World) (B H : Hp) : Ends where
  nx := fun σ' H' => ∃ ρ' G', Rep P w B G' H' ∧ Sl H' ρ' σ' ∧ TK H H' ∧ D.nx ρ' G'
  rt := fun v H' => ∃ d G', Rep P w B G' H' ∧ Is H' d v ∧ TK H H' ∧ D.rt d G'
  bk := fun σ' H' => ∃ ρ' G', Rep P w B G' H' ∧ Sl H' ρ' σ' ∧ TK H H' ∧ D.bk ρ' G'
  ct := fun σ' H' => ∃ ρ' G', Rep P w B G' H' ∧ Sl H' ρ' σ' ∧ TK H H' ∧ D.ct ρ' G'
section
variable (X : Cx) (B : Hp) (ρ : Sls) (G : GL)
def S1 (st : Stmt) (D : DE) : Prop := ∀ σ H, Rep X.prog X.w B G H → Sl H ρ σ → WS X st (D.low X.prog X.w B H) σ H
def Ss (st : List Stmt) (D : DE) : Prop := ∀ σ H, Rep X.prog X.w B G H → Sl H ρ σ → WSs X st (D.low X.prog X.w B H) σ H
end
section
variable {X : Cx} {B : Hp} {ρ : Sls} {G : GL} {D : DE}
theorem ends_mono {st : List Stmt} {D D' : Ends} {σ : L2.St} {H : Hp} (h : WSs X st D σ H) (h1 : ∀ σ H, D.nx σ H → D'.nx σ H) (h2 : ∀ v H, D.rt v H → D'.rt v H) (h3 : ∀ σ H, D.bk σ H → D'.bk σ H) (h4 : ∀ σ H, D.ct σ H → D'.ct σ H) : WSs X st D' σ H := fun pins s I =>
  thn (h pins s I) fun f s' q => by
    cases f with
    | next => obtain ⟨σ', H', I', q⟩ := q; exact ⟨σ', H', I', h1 _ _ q⟩
    | brk => obtain ⟨σ', H', I', q⟩ := q; exact ⟨σ', H', I', h3 _ _ q⟩
    | cont => obtain ⟨σ', H', I', q⟩ := q; exact ⟨σ', H', I', h4 _ _ q⟩
    | ret u => obtain ⟨v, σ', H', I', r, q⟩ := q; exact ⟨v, σ', H', I', r, h2 _ _ q⟩
theorem low_tk {D : DE} {H H1 : Hp} {st : List Stmt} {σ : L2.St} {H2 : Hp} (t : TK H H1) (h : WSs X st (D.low X.prog X.w B H1) σ H2) : WSs X st (D.low X.prog X.w B H) σ H2 :=
  ends_mono h (fun _ _ ⟨a, b, c, d, e, f⟩ => ⟨a, b, c, d, t.trans e, f⟩) (fun _ _ ⟨a, b, c, d, e, f⟩ => ⟨a, b, c, d, t.trans e, f⟩) (fun _ _ ⟨a, b, c, d, e, f⟩ => ⟨a, b, c, d, t.trans e, f⟩) (fun _ _ ⟨a, b, c, d, e, f⟩ => ⟨a, b, c, d, t.trans e, f⟩)
theorem Ss.imp {st : List Stmt} {D' : DE} (h : Ss X B ρ G st D) (h1 : ∀ ρ G, D.nx ρ G → D'.nx ρ G) (h2 : ∀ d G, D.rt d G → D'.rt d G) (h3 : ∀ ρ G, D.bk ρ G → D'.bk ρ G) (h4 : ∀ ρ G, D.ct ρ G → D'.ct ρ G) : Ss X B ρ G st D' := fun σ H r s =>
  ends_mono (h σ H r s) (fun _ _ ⟨a, b, c, d, e, f⟩ => ⟨a, b, c, d, e, h1 _ _ f⟩) (fun _ _ ⟨a, b, c, d, e, f⟩ => ⟨a, b, c, d, e, h2 _ _ f⟩) (fun _ _ ⟨a, b, c, d, e, f⟩ => ⟨a, b, c, d, e, h3 _ _ f⟩) (fun _ _ ⟨a, b, c, d, e, f⟩ => ⟨a, b, c, d, e, h4 _ _ f⟩)
theorem ss_nil (h : D.nx ρ G) : Ss X B ρ G [] D := fun σ H r s => WSs.of pss_nil ⟨ρ, G, r, s, TK.refl H, h⟩
theorem ss_cons {st : Stmt} {rest : List Stmt} (h : S1 X B ρ G st { D with nx := fun ρ' G' => Ss X B ρ' G' rest D }) : Ss X B ρ G (st :: rest) D := fun σ H r s =>
  WSs.of (pss_cons ps_w pss_w) fun pins s0 I => thn (h σ H r s pins s0 I) fun f s' q => by
    cases f with
    | next =>
      obtain ⟨σ', H', I', ρ', G', r', sl, t, q⟩ := q
      exact ⟨σ', H', I', low_tk t (q σ' H' r' sl)⟩
    | brk => exact q
    | cont => exact q
    | ret u => exact q
theorem ss_one {st : Stmt} (h : S1 X B ρ G st D) : Ss X B ρ G [st] D := fun σ H r s => WSs.of (pss_one ps_w) (h σ H r s)
/-- x = e -/
theorem s1_set {i : Nat} {x : Str} {e : Expr} {pos pos' : Pos} {post : Dat → GL → Prop} (hN : X.N.Nodup) (hi : X.N[i]? = some x) (hx : Loc X.env.scope x) (he : Ew X B ρ G e post) (hk : ∀ d G', post d G' → D.nx (ρ.set i (some d)) G')
    (hs : swapsWith e (some (.Name x pos')) pos.line X.env = pure false := by rfl) (hf : X.fn x = true ∨ X.env.scope.names.lookup x = some .local := by first | exact .inl rfl | exact .inr rfl) : S1 X B ρ G (.Assign [.Name x pos'] e pos) D := fun σ H r s =>
  WS.of (ps_set hN hi hx pe_w hs hf) (he σ H r s _ fun v H2 d G' r' t i' q => ⟨_, G', r', (s.mono t).set _ i', t, hk d G' q⟩)
theorem s1_expr {e : Expr} {pos : Pos} {post : Dat → GL → Prop} (he : Ew X B ρ G e post) (hk : ∀ d G', post d G' → D.nx ρ G') (hs : swapsWith e none pos.line X.env = pure false := by rfl) : S1 X B ρ G (.Expr e pos) D := fun σ H r s =>
  WS.of (ps_expr pe_w hs) (he σ H r s _ fun v H2 d G' r' t i' q => ⟨ρ, G', r', s.mono t, t, hk d G' q⟩)
theorem s1_ret {e : Expr} {pos : Pos} {post : Dat → GL → Prop} (he : Ew X B ρ G e post) (hk : ∀ d G', post d G' → D.rt d G') : S1 X B ρ G (.Return (some e) pos) D := fun σ H r s =>
  WS.of (ps_ret pe_w) (he σ H r s _ fun v H2 d G' r' t i' q => ⟨d, G', r', i', t, hk d G' q⟩)
theorem s1_retV {e : Expr} {pos : Pos} {d : Dat} (he : Ev X B ρ G e d) (hk : D.rt d G) : S1 X B ρ G (.Return (some e) pos) D := s1_ret he.w fun c G' ⟨h1, h2⟩ => by rw [h1, h2]; exact hk
theorem s1_if {c : Expr} {a b : List Stmt} {pos : Pos} {x : Bool} (hc : Et X B ρ G c x) (h1 : x = true → Ss X B ρ G a D) (h2 : x = false → Ss X B ρ G b D) : S1 X B ρ G (.If c a b pos) D := fun σ H r s =>
  WS.of (ps_if pt_w pss_w pss_w) (hc σ H r s _ fun H2 e => by
    cases x with
    | true => exact iteT (low_tk (.of e) (h1 rfl σ H2 (r.ext e) (s.ext e)))
    | false => exact iteF (low_tk (.of e) (h2 rfl σ H2 (r.ext e) (s.ext e))))
theorem s1_pass {pos : Pos} (h : D.nx ρ G) : S1 X B ρ G (.Pass pos) D := fun σ H r s => WS.of ps_pass ⟨ρ, G, r, s, TK.refl H, h⟩
theorem s1_continue {pos : Pos} (h : D.ct ρ G) : S1 X B ρ G (.Continue pos) D := fun σ H r s => WS.of ps_continue ⟨ρ, G, r, s, TK.refl H, h⟩

/-! short forms of what stands most -/
theorem ss_setV {i : Nat} {x : Str} {e : Expr} {pos pos' : Pos} {d : Dat} {rest : List Stmt} (hN : X.N.Nodup) (hi : X.N[i]? = some x) (hx : Loc X.env.scope x) (he : Ev X B ρ G e d) (hk : Ss X B (ρ.set i (some d)) G rest D)
    (hs : swapsWith e (some (.Name x pos')) pos.line X.env = pure false := by rfl) (hf : X.fn x = true ∨ X.env.scope.names.lookup x = some .local := by first | exact .inl rfl | exact .inr rfl) : Ss X B ρ G (.Assign [.Name x pos'] e pos :: rest) D :=
  ss_cons (s1_set hN hi hx he.w (fun c G' ⟨h1, h2⟩ => by rw [h1, h2]; exact hk) hs hf)
/-- x = a new list -/
theorem ss_setL {i : Nat} {x : Str} {e : Expr} {pos pos' : Pos} {ds : List Dat} {rest : List Stmt} (hN : X.N.Nodup) (hi : X.N[i]? = some x) (hx : Loc X.env.scope x) (he : El X B ρ G e ds) (hk : ∀ p, B p = none → (∀ x ∈ G, x.1 ≠ p) → Ss X B (ρ.set i (some (.adr p))) (G ++ [(p, .lst ds)]) rest D)
    (hs : swapsWith e (some (.Name x pos')) pos.line X.env = pure false := by rfl) (hf : X.fn x = true ∨ X.env.scope.names.lookup x = some .local := by first | exact .inl rfl | exact .inr rfl) : Ss X B ρ G (.Assign [.Name x pos'] e pos :: rest) D :=
  ss_cons (s1_set hN hi hx he.w (fun c G' ⟨p, h1, h2, h3, h4⟩ => by rw [h1, h4]; exact hk p h2 h3) hs hf)
theorem ss_setW {i : Nat} {x : Str} {e : Expr} {pos pos' : Pos} {post : Dat → GL → Prop} {rest : List Stmt} (hN : X.N.Nodup) (hi : X.N[i]? = some x) (hx : Loc X.env.scope x) (he : Ew X B ρ G e post) (hk : ∀ d G', post d G' → Ss X B (ρ.set i (some d)) G' rest D)
    (hs : swapsWith e (some (.Name x pos')) pos.line X.env = pure false := by rfl) (hf : X.fn x = true ∨ X.env.scope.names.lookup x = some .local := by first | exact .inl rfl | exact .inr rfl) : Ss X B ρ G (.Assign [.Name x pos'] e pos :: rest) D :=
  ss_cons (s1_set hN hi hx he hk hs hf)
theorem ss_ret {e : Expr} {pos : Pos} {d : Dat} (he : Ev X B ρ G e d) (hk : D.rt d G) : Ss X B ρ G [.Return (some e) pos] D := ss_one (s1_retV he hk)
/-- if c: .. ; rest -/
theorem ss_if {c : Expr} {a b : List Stmt} {pos : Pos} {x : Bool} {rest : List Stmt} (hc : Et X B ρ G c x) (h1 : x = true → Ss X B ρ G a { D with nx := fun ρ' G' => Ss X B ρ' G' rest D }) (h2 : x = false → Ss X B ρ G b { D with nx := fun ρ' G' => Ss X B ρ' G' rest D }) : Ss X B ρ G (.If c a b pos :: rest) D := ss_cons (s1_if hc h1 h2)
/-- if c: leaves; rest -/
theorem ss_guard {c : Expr} {a : List Stmt} {pos : Pos} {x : Bool} {rest : List Stmt} (hc : Et X B ρ G c x) (h1 : x = true → Ss X B ρ G a { D with nx := fun ρ' G' => Ss X B ρ' G' rest D }) (h2 : x = false → Ss X B ρ G rest D) : Ss X B ρ G (.If c a [] pos :: rest) D := ss_if hc h1 fun h => ss_nil (h2 h)

/-! ### while -/
theorem s1_while {c : Expr} {body : List Stmt} {pos : Pos} (W : Nat → Sls → GL → Prop) (m0 : Nat) (h0 : W m0 ρ G)
    (hs : ∀ m ρ' G', W m ρ' G' → ∃ b, Et X B ρ' G' c b ∧ (b = true → Ss X B ρ' G' body { D with nx := fun ρ2 G2 => ∃ m', m' < m ∧ W m' ρ2 G2, ct := fun ρ2 G2 => ∃ m', m' < m ∧ W m' ρ2 G2, bk := D.nx }) ∧ (b = false → D.nx ρ' G'))
    (hp : PassesOwn (model X.prog X.w) X.A X.env X.xe := by exact PassesOwn.never) : S1 X B ρ G (.While c body [] pos) D := fun σ H r s =>
  WS.of (ps_while hp pt_w pss_w) ⟨fun m σ' H' => ∃ ρ' G', Rep X.prog X.w B G' H' ∧ Sl H' ρ' σ' ∧ TK H H' ∧ W m ρ' G', ⟨m0, ρ, G, r, s, TK.refl H, h0⟩, fun m σ' H' ⟨ρ', G', r', s', t', w'⟩ => by
    obtain ⟨b, hb, h1, h2⟩ := hs m ρ' G' w'
    refine hb σ' H' r' s' _ fun H2 e => ?_
    cases b with
    | true =>
      refine iteT ⟨fun σ2 H3 => ∃ ρ2 G2, Rep X.prog X.w B G2 H3 ∧ Sl H3 ρ2 σ2 ∧ TK H H3 ∧ ∃ m', m' < m ∧ W m' ρ2 G2, fun σ2 H3 ⟨ρ2, G2, r2, s2, t2, m', hm, w2⟩ => ⟨m', hm, ρ2, G2, r2, s2, t2, w2⟩, ?_⟩
      exact low_tk (D := { D with nx := fun ρ2 G2 => ∃ m', m' < m ∧ W m' ρ2 G2, ct := fun ρ2 G2 => ∃ m', m' < m ∧ W m' ρ2 G2, bk := D.nx }) (t'.trans (.of e)) (h1 rfl σ' H2 (r'.ext e) (s'.ext e))
    | false => exact iteF ⟨ρ', G', r'.ext e, s'.ext e, t'.trans (.of e), h2 rfl⟩⟩

/-! ### targets -/
/-- what a target does with a datum -/
def Rd (X : Cx) (g : TG) (d : Dat) (ρ ρ' : Sls) : Prop := ∀ σ H v, Sl H ρ σ → Is H d v → ∀ Q : L2.St → Hp → Prop, (∀ σ', Sl H ρ' σ' → Q σ' H) → g v σ H Q
theorem rd_name {i : Nat} {d : Dat} : Rd X (gName i) d ρ (ρ.set i (some d)) := fun σ H v s h Q q => q _ (s.set i h)
def Rds (X : Cx) (g : TGs) (ds : List Dat) (ρ ρ' : Sls) : Prop := ∀ σ H vs, Sl H ρ σ → IsAll H ds vs → ∀ Q : L2.St → Hp → Prop, (∀ σ', Sl H ρ' σ' → Q σ' H) → g vs σ H Q
theorem rds_nil : Rds X gNil [] ρ ρ := fun σ H vs s h Q q => ⟨IsAll.nil_iff.mp h, q σ s⟩
theorem rds_cons {g : TG} {gs : TGs} {d : Dat} {ds : List Dat} {ρ1 ρ2 : Sls} (h1 : Rd X g d ρ ρ1) (h2 : Rds X gs ds ρ1 ρ2) : Rds X (gCons g gs) (d :: ds) ρ ρ2 := fun σ H vs s h Q q => by
  obtain ⟨x, r, e1, e2, e3⟩ := IsAll.cons_iff.mp h
  exact ⟨x, r, e1, h1 σ H x s e2 _ fun σ' s' => h2 σ' H r s' e3 Q q⟩
theorem rd_tup {K : PySem.W.Frag} {n : Nat} {gs : TGs} {ds : List Dat} {ρ' : Sls} (hn : ds.length = n) (h : Rds X gs ds ρ ρ') : Rd X (gTup K n gs) (.tup ds) ρ ρ' := fun σ H v s i Q q => by
  simp only [Is] at i
  obtain ⟨a, xs, e1, e2, e3⟩ := i
  exact ⟨a, xs, e1, SqT.of e2, by rw [e3.length, hn], h σ H xs s e3 Q q⟩
/-- target = e -/
theorem s1_asg {tg e : Expr} {g : TG} {pos : Pos} {post : Dat → GL → Prop} (hg : PG X tg g) (he : Ew X B ρ G e post) (hk : ∀ d G', post d G' → ∃ ρ', Rd X g d ρ ρ' ∧ D.nx ρ' G')
    (hs : swapsWithSole [tg] e pos.line X.env = pure false := by rfl) (hw : swappedStores [tg] e X.env = pure none := by rfl) (h1 : (assignEach [tg] X.env).map (·.2) = [assign tg X.env] := by rfl) : S1 X B ρ G (.Assign [tg] e pos) D := fun σ H r s =>
  WS.of (ps_asg pe_w hg hs hw h1) (he σ H r s _ fun v H2 d G' r' t i' q => by
    obtain ⟨ρ', h2, h3⟩ := hk d G' q
    exact h2 σ H2 v (s.mono t) i' _ fun σ' s' => ⟨ρ', G', r', s', t, h3⟩)
theorem ss_asgV {tg e : Expr} {g : TG} {pos : Pos} {d : Dat} {ρ' : Sls} {rest : List Stmt} (hg : PG X tg g) (he : Ev X B ρ G e d) (hr : Rd X g d ρ ρ') (hk : Ss X B ρ' G rest D)
    (hs : swapsWithSole [tg] e pos.line X.env = pure false := by rfl) (hw : swappedStores [tg] e X.env = pure none := by rfl) (h1 : (assignEach [tg] X.env).map (·.2) = [assign tg X.env] := by rfl) : Ss X B ρ G (.Assign [tg] e pos :: rest) D :=
  ss_cons (s1_asg hg he.w (fun c G' ⟨h2, h3⟩ => by rw [h2, h3]; exact ⟨ρ', hr, hk⟩) hs hw h1)

/-! ### what is walked -/
/-- a source: its items as data. Gd: while it stands, the walk goes as told -/
structure Src (X : Cx) (B : Hp) (ρ : Sls) (G : GL) (tg iter : Expr) (ds : List Dat) (Inw : Hp → Hp → Prop) : Prop where
  of : ∃ wi, PI X tg iter wi ∧ ∀ σ H, Rep X.prog X.w B G H → Sl H ρ σ → ∀ R : It → Hp → Prop,
    (∀ J H1 (Gd : Hp → Prop), Same H H1 → (∀ H', Inw H1 H' → Gd H') → Walk J ds.length Gd (fun i H x H' => Same H H' ∧ ∃ d, ds[i]? = some d ∧ Is H' d x) → R J H1) → wi σ H R
theorem yat {H H1 : Hp} {ds : List Dat} {vs : List V} {i : Nat} {x : V} (t : TK H1 H) (h : IsAll H1 ds vs) (e : vs[i]? = some x) : Same H H ∧ ∃ d, ds[i]? = some d ∧ Is H d x := by
  obtain ⟨d, h1, h2⟩ := h.get' e
  exact ⟨Same.refl H, d, h1, Is.mono t _ _ h2⟩
/-- a tuple: while the tuples stay -/
theorem src_tup {tg l : Expr} {ds : List Dat} (h : Ev X B ρ G l (.tup ds)) : Src X B ρ G tg l ds TK := ⟨_, pi_tup pe_w, fun σ H r s R q => h σ H r s _ fun v H2 e i => by
  simp only [Is] at i
  obtain ⟨a, xs, e1, e2, e3⟩ := i
  refine ⟨a, e1, ⟨xs, SqT.of e2⟩, q _ H2 (fun H' => H' a = some (.tup xs) ∧ TK H2 H') e (fun H' t => ⟨t a xs e2, t⟩) ?_⟩
  rw [← e3.length]
  exact (walk_tup (K := X.K) (a := a) (xs := xs)).mono (fun H' g => SqT.of g.1) fun i H' x H'' hi g y => by
    obtain ⟨rfl, y⟩ := y
    exact yat g.2 e3 y⟩
/-- a list of one's own: while it stands there with the tuples -/
theorem src_lst {tg l : Expr} {p : Addr} {ds : List Dat} (h : Ev X B ρ G l (.adr p)) (hj : Lat B G p ds) : Src X B ρ G tg l ds (fun H H' => TK H H' ∧ ∃ vs, H' p = some (.lst vs) ∧ IsAll H' ds vs) := ⟨_, pi_list pe_w, fun σ H r s R q => h σ H r s _ fun v H2 e i => by
  simp only [Is] at i
  obtain ⟨vs, h1, h2⟩ := (r.ext e).lat hj
  refine ⟨p, i, ⟨vs, SqL.of h1⟩, q _ H2 (fun H' => ∃ vs, H' p = some (.lst vs) ∧ IsAll H' ds vs) e (fun H' g => g.2) ⟨fun i H' hi g => ?_, fun H' g => ?_, fun i H' x H'' hi g y => ?_⟩⟩
  · obtain ⟨vs', g1, g2⟩ := g
    obtain ⟨y, hy⟩ : ∃ y, vs'[i]? = some y := ⟨vs'[i]'(by rw [g2.length]; exact hi), by simp⟩
    exact ⟨vs', y, SqL.of g1, hy⟩
  · obtain ⟨vs', g1, g2⟩ := g
    exact ⟨vs', SqL.of g1, by rw [g2.length]; exact Nat.le_refl _⟩
  · obtain ⟨vs', g1, g2⟩ := g
    obtain ⟨rfl, y⟩ := y
    exact yat (TK.refl _) g2 (y vs' (SqL.of g1))⟩
/-- a new list -/
theorem src_new {tg l : Expr} {ds : List Dat} (h : El X B ρ G l ds) : Src X B ρ G tg l ds Same := ⟨_, pi_list pe_w, fun σ H r s R q => h σ H r s _ fun p vs H2 hp e hl i => by
  refine ⟨p, rfl, ⟨vs, SqL.of hl⟩, q _ H2 (fun H' => Same H2 H') e (fun H' g => g) ?_⟩
  rw [← i.length]
  exact (walk_list (K := X.K) (a := p) (xs := vs)).mono (fun H' g => SqL.of (g _ _ hl)) fun i' H' x H'' hi g y => by
    obtain ⟨rfl, y⟩ := y
    exact yat (TK.of g) i y⟩
/-- a text, sign by sign -/
def signs (z : Str) : List Dat := z.cps.toList.map fun c => .str ⟨#[c]⟩
theorem src_str {tg l : Expr} {z : Str} (h : Ev X B ρ G l (.str z)) : Src X B ρ G tg l (signs z) (fun _ _ => True) := ⟨_, pi_str pe_w, fun σ H r s R q => h σ H r s _ fun v H2 e i => by
  simp only [Is] at i
  refine ⟨z, i, q _ H2 (fun _ => True) e (fun _ g => g) ?_⟩
  have hl : (signs z).length = z.cps.size := by simp [signs]
  rw [hl]
  exact (walk_str (z := z)).mono (fun H' g => g) fun i' H' x H'' hi g y => by
    obtain ⟨rfl, c, y1, y2⟩ := y
    exact ⟨Same.refl _, .str ⟨#[c]⟩, by simp [signs, y1], by simp only [Is]; exact y2⟩⟩
/-- range(n) -/
def upto (n : Nat) : List Dat := (List.range n).map fun (i : Nat) => Dat.int (i : Int)
theorem src_range {tg l : Expr} {p pos : Pos} {n : Int} (h : Ev X B ρ G l (.int n)) (h1 : -(2 ^ 62) ≤ n) (h2 : n < 2 ^ 62) (hg : Gl X "range") (hm : X.mg "range" = none) (hs : starEach [l] X.env = [(false, eval l X.env)] := by rfl) : Src X B ρ G tg (.Call (.Name "range" p) [l] [] pos) (upto n.toNat) (fun _ _ => True) := ⟨_, pi_range1 hg hm (pa_cons pe_w pa_nil (by rw [hs]; rfl)) hs, fun σ H r s R q => h σ H r s _ fun v H2 e i => by
  simp only [Is] at i
  refine ⟨n, by rw [i], h1, h2, q _ H2 (fun _ => True) e (fun _ g => g) ?_⟩
  have hl : (upto n.toNat).length = n.toNat := by simp [upto]
  rw [hl]
  exact (walk_range (lo := 0) (n := n.toNat)).mono (fun H' g => g) fun i' H' x H'' hi g y => by
    obtain ⟨rfl, y⟩ := y
    refine ⟨Same.refl _, .int (i' : Int), by simp [upto, hi], ?_⟩
    simp only [Is]
    rw [y]; simp⟩

/-! ### for -/
theorem s1_for {tg iter : Expr} {body : List Stmt} {g : TG} {pos : Pos} {ds : List Dat} {Inw : Hp → Hp → Prop} (hS : Src X B ρ G tg iter ds Inw) (hg : PG X tg g) (Pv : Nat → Sls → GL → Prop) (h0 : Pv 0 ρ G)
    (hin : ∀ i ρ' G' H H1 H', Rep X.prog X.w B G H → Same H H1 → Rep X.prog X.w B G' H' → TK H1 H' → Pv i ρ' G' → Inw H1 H')
    (hs : ∀ i d ρ' G', ds[i]? = some d → Pv i ρ' G' → ∃ ρ2, Rd X g d ρ' ρ2 ∧ Ss X B ρ2 G' body { D with nx := Pv (i + 1), ct := Pv (i + 1), bk := D.nx }) (hd : ∀ ρ' G', Pv ds.length ρ' G' → D.nx ρ' G')
    (hc : X.calm = true := by rfl) (hf : ∀ x, foldedSetIterable iter X.env x = pure x := by intro _; rfl) (hp : PassesOwn (model X.prog X.w) X.A X.env X.xe := by exact PassesOwn.never) : S1 X B ρ G (.For tg iter body [] pos) D := fun σ H r s => by
  obtain ⟨wi, hi, hw⟩ := hS.of
  refine WS.of (ps_for hp hc hi hg pss_w hf) (hw σ H r s _ fun J H1 Gd e1 hG W => ?_)
  refine for_it W (fun i σ' H' => ∃ ρ' G', Rep X.prog X.w B G' H' ∧ Sl H' ρ' σ' ∧ TK H1 H' ∧ Pv i ρ' G') ⟨ρ, G, r.ext e1, s.ext e1, TK.refl _, h0⟩ (fun i σ' H' hi ⟨ρ', G', r', s', t', p'⟩ => hG H' (hin i ρ' G' H H1 H' r e1 r' t' p')) ?_ ?_
  · rintro i x σ' H' H'' hi ⟨ρ', G', r', s', t', p'⟩ ⟨e2, d, hd', hx⟩
    obtain ⟨ρ2, h2, h3⟩ := hs i d ρ' G' hd' p'
    refine h2 σ' H'' x (s'.ext e2) hx _ fun σ2 s2 => ?_
    have q := h3 σ2 H'' (r'.ext e2) s2
    have t2 := t'.trans (.of e2)
    refine ends_mono q (fun _ _ ⟨a, b, c, d, e, f⟩ => ⟨a, b, c, d, t2.trans e, f⟩) (fun _ _ ⟨a, b, c, d, e, f⟩ => ⟨a, b, c, d, (TK.of e1).trans (t2.trans e), f⟩) (fun _ _ ⟨a, b, c, d, e, f⟩ => ⟨a, b, c, d, (TK.of e1).trans (t2.trans e), f⟩) (fun _ _ ⟨a, b, c, d, e, f⟩ => ⟨a, b, c, d, t2.trans e, f⟩)
  · rintro σ' H' ⟨ρ', G', r', s', t', p'⟩
    exact ⟨ρ', G', r', s', (TK.of e1).trans t', hd ρ' G' p'⟩
/-- over a tuple, a text, a range -/
theorem s1_forT {tg l : Expr} {body : List Stmt} {g : TG} {pos : Pos} {ds : List Dat} (hl : Ev X B ρ G l (.tup ds)) (hg : PG X tg g) (Pv : Nat → Sls → GL → Prop) (h0 : Pv 0 ρ G)
    (hs : ∀ i d ρ' G', ds[i]? = some d → Pv i ρ' G' → ∃ ρ2, Rd X g d ρ' ρ2 ∧ Ss X B ρ2 G' body { D with nx := Pv (i + 1), ct := Pv (i + 1), bk := D.nx }) (hd : ∀ ρ' G', Pv ds.length ρ' G' → D.nx ρ' G')
    (hc : X.calm = true := by rfl) (hf : ∀ x, foldedSetIterable l X.env x = pure x := by intro _; rfl) (hp : PassesOwn (model X.prog X.w) X.A X.env X.xe := by exact PassesOwn.never) : S1 X B ρ G (.For tg l body [] pos) D :=
  s1_for (src_tup hl) hg Pv h0 (fun _ _ _ _ _ _ _ _ _ t _ => t) hs hd hc hf hp
theorem s1_forF {tg iter : Expr} {body : List Stmt} {g : TG} {pos : Pos} {ds : List Dat} (hS : Src X B ρ G tg iter ds (fun _ _ => True)) (hg : PG X tg g) (Pv : Nat → Sls → GL → Prop) (h0 : Pv 0 ρ G)
    (hs : ∀ i d ρ' G', ds[i]? = some d → Pv i ρ' G' → ∃ ρ2, Rd X g d ρ' ρ2 ∧ Ss X B ρ2 G' body { D with nx := Pv (i + 1), ct := Pv (i + 1), bk := D.nx }) (hd : ∀ ρ' G', Pv ds.length ρ' G' → D.nx ρ' G')
    (hc : X.calm = true := by rfl) (hf : ∀ x, foldedSetIterable iter X.env x = pure x := by intro _; rfl) (hp : PassesOwn (model X.prog X.w) X.A X.env X.xe := by exact PassesOwn.never) : S1 X B ρ G (.For tg iter body [] pos) D :=
  s1_for hS hg Pv h0 (fun _ _ _ _ _ _ _ _ _ t _ => trivial) hs hd hc hf hp
/-- over a list of one's own that the body leaves as it is -/
theorem s1_forL {tg l : Expr} {body : List Stmt} {g : TG} {pos : Pos} {p : Addr} {ds : List Dat} (hl : Ev X B ρ G l (.adr p)) (hj : Lat B G p ds) (hg : PG X tg g) (Pv : Nat → Sls → GL → Prop) (h0 : Pv 0 ρ G) (hst : ∀ i ρ' G', Pv i ρ' G' → Lat B G' p ds)
    (hs : ∀ i d ρ' G', ds[i]? = some d → Pv i ρ' G' → ∃ ρ2, Rd X g d ρ' ρ2 ∧ Ss X B ρ2 G' body { D with nx := Pv (i + 1), ct := Pv (i + 1), bk := D.nx }) (hd : ∀ ρ' G', Pv ds.length ρ' G' → D.nx ρ' G')
    (hc : X.calm = true := by rfl) (hf : ∀ x, foldedSetIterable l X.env x = pure x := by intro _; rfl) (hp : PassesOwn (model X.prog X.w) X.A X.env X.xe := by exact PassesOwn.never) : S1 X B ρ G (.For tg l body [] pos) D :=
  s1_for (src_lst hl hj) hg Pv h0 (fun i ρ' G' _ _ _ _ _ r' t p' => by
    exact ⟨t, r'.lat (hst i ρ' G' p')⟩) hs hd hc hf hp
end
end Bk
set_option Elab.async false
set_option linter.all false
set_option autoImplicit false
set_option maxRecDepth 100000
set_option maxHeartbeats 1000000
namespace Bk
open PySem L2

/-! ### what a def promises, over data -/
/-- arguments, base, own objects, what is wanted -/
abbrev Pre := List Dat → Hp → GL → (Dat → GL → Prop) → Prop
def spD (P : Program) (w : World) (pre : Pre) : Sp := fun vs H Q _ => ∃ ds B G post, IsAll H ds vs ∧ Rep P w B G H ∧ pre ds B G post ∧ ∀ v H' d G', Rep P w B G' H' → TK H H' → Is H' d v → post d G' → Q v H'
/-- a def that reads: what it gives stands in relation to its arguments and the base -/
def preR (R : List Dat → Hp → Dat → Prop) : Pre := fun ds B G post => ∃ d, R ds B d ∧ post d G
/-- a def that reads and gives a new list -/
def preRL (R : List Dat → Hp → List Dat → Prop) : Pre := fun ds B G post => ∃ ys, R ds B ys ∧ ∀ p, B p = none → (∀ x ∈ G, x.1 ≠ p) → post (.adr p) (G ++ [(p, .lst ys)])
/-- a def that reckons f of its arguments -/
def preF (ok : List Dat → Prop) (f : List Dat → Dat) : Pre := fun ds _ G post => ok ds ∧ post (f ds) G

section
variable {P : Program} {w : World} {K : PySem.W.Frag} {mg : Str → Option Value} {base : Heap}
/-- the body of a def keeps pre: what is to be shown -/
abbrev BodyOk (P : Program) (w : World) (K : PySem.W.Frag) (mg : Str → Option Value) (base : Heap) (N ps : List Str) (qual : Str) (st : Stmt) (f : Addr) (k : Nat) (pre : Pre) : Prop :=
  ∀ (cdv : Value) (A : Around) (outer : List Env) (s : Shared) (H : Hp) (E : XK), Room k (cxOf CX0 P w K mg base N qual (defScope st) f cdv A outer s H E).nox.A → ∀ ds B G post, pre ds B G post →
    Ss (cxOf CX0 P w K mg base N qual (defScope st) f cdv A outer s H E).nox B (ds.map some ++ List.replicate (N.length - ps.length) none) G (defBody st) { nx := fun _ G' => post .non G', rt := post }
/-- THE RULE: a def by its body -/
theorem fun_okD {x qual : Str} {st : Stmt} {f : Addr} {fd : FuncData} {N ps : List Str} {k n : Nat} {pre : Pre} (F : Fun K x qual st f fd) (S : FnScope N ps (defScope st)) (hn : ps.length = n) (hlen' : ∀ ds B G post, pre ds B G post → ds.length = n)
    (hb : BodyOk P w K mg base N ps qual st f k pre) : FnOk P w K mg base CX0 (k + 1) f fd ps (spD P w pre) := by
  have hlen : ∀ ds B G post, pre ds B G post → ds.length = ps.length := fun ds B G post h => by rw [hn]; exact hlen' ds B G post h
  refine F.ok S (fun vs H Q E h => ?_) (fun cdv A outer s H vs Q E hr h => ?_)
  · obtain ⟨ds, B, G, post, i, r, p, _⟩ := h
    rw [i.length]; exact hlen ds B G post p
  · obtain ⟨ds, B, G, post, i, r, p, q⟩ := h
    refine ⟨_, pss_w, ?_⟩
    have hl : vs.length = ps.length := by rw [i.length]; exact hlen ds B G post p
    have sl : Sl H (ds.map some ++ List.replicate (N.length - ps.length) none) (L2.start N vs) := by
      unfold L2.start; rw [hl]; exact i.slots
    exact ends_mono (hb cdv A outer s H E hr ds B G post p (L2.start N vs) H r sl)
      (fun _ H' ⟨ρ', G', r', _, t, z⟩ => q _ H' _ G' r' t (by simp only [Is]) z) (fun v H' ⟨d, G', r', i', t, z⟩ => q v H' d G' r' t i' z)
      (fun _ _ ⟨_, _, _, _, _, z⟩ => z) (fun _ _ ⟨_, _, _, _, _, z⟩ => z)

/-- the module's name x stands for a def that keeps the promise pre -/
structure Kn (P : Program) (w : World) (K : PySem.W.Frag) (mg : Str → Option Value) (base : Heap) (x : Str) (k : Nat) (pre : Pre) : Prop where
  ex : ∃ f fd ps, FnOk P w K mg base CX0 k f fd ps (spD P w pre) ∧ PySem.W.keepIn K (.ref f) = true ∧ Binds K fd ps [] ∧ mg x = some (.ref f)
theorem Kn.mono {x : Str} {j k : Nat} {pre : Pre} (h : Kn P w K mg base x j pre) (l : j ≤ k) : Kn P w K mg base x k pre := by
  obtain ⟨f, fd, ps, h1, h2, h3, h4⟩ := h
  exact ⟨f, fd, ps, h1.mono l, h2, h3, h4⟩
theorem Kn.imp {x : Str} {k : Nat} {pre pre' : Pre} (h : Kn P w K mg base x k pre) (hp : ∀ ds B G post, pre' ds B G post → pre ds B G post) : Kn P w K mg base x k pre' := by
  obtain ⟨f, fd, ps, h1, h2, h3, h4⟩ := h
  exact ⟨f, fd, ps, h1.imp fun vs H Q E ⟨ds, B, G, post, i, r, p, q⟩ => ⟨ds, B, G, post, i, r, hp ds B G post p, q⟩, h2, h3, h4⟩
/-- a method of the class at C -/
structure KnM (P : Program) (w : World) (K : PySem.W.Frag) (mg : Str → Option Value) (base : Heap) (C : Addr) (m : Str) (k : Nat) (pre : Pre) : Prop where
  ex : ∃ f fd ps, FnOk P w K mg base CX0 k f fd ps (spD P w pre) ∧ Meth K C m f ∧ Binds K fd ps []
theorem KnM.mono {C : Addr} {m : Str} {j k : Nat} {pre : Pre} (h : KnM P w K mg base C m j pre) (l : j ≤ k) : KnM P w K mg base C m k pre := by
  obtain ⟨f, fd, ps, h1, h2, h3⟩ := h
  exact ⟨f, fd, ps, h1.mono l, h2, h3⟩
end

section
variable {X : Cx} {B : Hp} {ρ : Sls} {G : GL} {D : DE}
/-- f(e, ..) -/
theorem ew_call {x : Str} {p pos : Pos} {e : Expr} {es : List Expr} {k : Nat} {pre : Pre} {ds : List Dat} {post : Dat → GL → Prop} (c : Kn X.prog X.w X.K X.mg X.base x k pre) (hr : Room k X.A) (hg : Gl X x) (ha : Ea X B ρ G (e :: es) ds) (hp : pre ds B G post)
    (hdb : (x == ("__debug__" : Str)) = false := by decide) (he : starEach (e :: es) X.env = (false, eval e X.env) :: starEach es X.env := by rfl) (hpl : (backTo pos (starEach es X.env)).any (·.1) = false := by rfl) : Ew X B ρ G (.Call (.Name x p) (e :: es) [] pos) post := by
  obtain ⟨f, fd, ps, F, hk, hb, hm⟩ := c
  exact fun σ H r s Q q => WE.of (pe_call F hr hg hm hk hb .nil pass0 pa_w hdb he hpl) (ha σ H r s _ fun vs H2 e2 i2 => ⟨ds, B, G, post, by rw [List.append_nil]; exact i2, r.ext e2, hp, fun v H' d G' r' t i z => q v H' d G' r' ((TK.of e2).trans t) i z⟩)
/-- f(e, ..) of a def that reckons: the heap may only grow -/
theorem Ew.callF {x : Str} {p pos : Pos} {e : Expr} {es : List Expr} {k : Nat} {ok : List Dat → Prop} {f : List Dat → Dat} {ds : List Dat} (c : Kn X.prog X.w X.K X.mg X.base x k (preF ok f)) (hr : Room k X.A) (hg : Gl X x) (ha : Ea X B ρ G (e :: es) ds) (hp : ok ds)
    (hdb : (x == ("__debug__" : Str)) = false := by decide) (he : starEach (e :: es) X.env = (false, eval e X.env) :: starEach es X.env := by rfl) (hpl : (backTo pos (starEach es X.env)).any (·.1) = false := by rfl) : Ew X B ρ G (.Call (.Name x p) (e :: es) [] pos) (fun d G' => d = f ds ∧ G' = G) := ew_call c hr hg ha ⟨hp, rfl, rfl⟩ hdb he hpl
/-- .. as a value: with the whole heap as the base, nothing is changed -/
theorem ev_call {x : Str} {p pos : Pos} {e : Expr} {es : List Expr} {k : Nat} {ok : List Dat → Prop} {f : List Dat → Dat} {ds : List Dat} {d : Dat} (c : Kn X.prog X.w X.K X.mg X.base x k (preF ok f)) (hr : Room k X.A) (hg : Gl X x) (ha : Ea X B ρ G (e :: es) ds) (hp : ok ds) (hd : f ds = d)
    (hdb : (x == ("__debug__" : Str)) = false := by decide) (he : starEach (e :: es) X.env = (false, eval e X.env) :: starEach es X.env := by rfl) (hpl : (backTo pos (starEach es X.env)).any (·.1) = false := by rfl) : Ev X B ρ G (.Call (.Name x p) (e :: es) [] pos) d := by
  obtain ⟨f', fd, ps, F, hk, hb, hm⟩ := c
  refine fun σ H r s Q q => WE.of (pe_call F hr hg hm hk hb .nil pass0 pa_w hdb he hpl) (ha σ H r s _ fun vs H2 e2 i2 => ?_)
  refine ⟨ds, H2, [], fun c G' => c = f ds ∧ G' = [], by rw [List.append_nil]; exact i2, Rep.all H2, ⟨hp, rfl, rfl⟩, fun v H' d' G' r' t i z => ?_⟩
  exact q v H' (e2.trans r'.base) (by rw [← hd, ← z.1]; exact i)
/-- f(e, ..) that gives a new list -/
def preL (ok : List Dat → Prop) (f : List Dat → List Dat) : Pre := fun ds B G post => ok ds ∧ ∀ p, B p = none → (∀ x ∈ G, x.1 ≠ p) → post (.adr p) (G ++ [(p, .lst (f ds))])
theorem el_call {x : Str} {p pos : Pos} {e : Expr} {es : List Expr} {k : Nat} {ok : List Dat → Prop} {f : List Dat → List Dat} {ds ys : List Dat} (c : Kn X.prog X.w X.K X.mg X.base x k (preL ok f)) (hr : Room k X.A) (hg : Gl X x) (ha : Ea X B ρ G (e :: es) ds) (hp : ok ds) (hd : f ds = ys)
    (hdb : (x == ("__debug__" : Str)) = false := by decide) (he : starEach (e :: es) X.env = (false, eval e X.env) :: starEach es X.env := by rfl) (hpl : (backTo pos (starEach es X.env)).any (·.1) = false := by rfl) : El X B ρ G (.Call (.Name x p) (e :: es) [] pos) ys := by
  obtain ⟨f', fd, ps, F, hk, hb, hm⟩ := c
  refine fun σ H r s Q q => WE.of (pe_call F hr hg hm hk hb .nil pass0 pa_w hdb he hpl) (ha σ H r s _ fun vs H2 e2 i2 => ?_)
  refine ⟨ds, H2, [], fun c G' => ∃ p, H2 p = none ∧ c = .adr p ∧ G' = [(p, .lst (f ds))], by rw [List.append_nil]; exact i2, Rep.all H2, ⟨hp, fun p hp _ => ⟨p, hp, rfl, rfl⟩⟩, fun v H' d' G' r' t i ⟨p, h1, h2, h3⟩ => ?_⟩
  subst h2 h3
  simp only [Is] at i
  subst i
  obtain ⟨vs', h4, h5⟩ := (r'.at_ (j := 0) rfl).1
  exact q p vs' H' (e2.free h1) (e2.trans r'.base) h4 (by rw [← hd]; exact h5)

/-! ### attributes, methods -/
theorem ev_fld {o : Expr} {f : Str} {pos : Pos} {p C : Addr} {fs : List (Str × Dat)} {d : Dat} (ho : Ev X B ρ G o (.adr p)) (hj : Oat X.prog X.w B G p (.ins C fs)) (hf : fs.lookup f = some d) (hc : Cls X.K C) (hn : NoAttr X.K C f)
    (hb : attributeBase o f X.env (eval o X.env) = eval o X.env := by rfl) : Ev X B ρ G (.Attribute o f pos) d := fun σ H r s Q q =>
  WE.of (pe_fld pe_w hb) (ho σ H r s _ fun v H2 e2 i2 => by
    simp only [Is] at i2
    obtain ⟨dx, fv, h1, h2⟩ := (r.ext e2).oat hj
    obtain ⟨u, h3, h4⟩ := h2.2.1 f d hf
    exact ⟨p, C, dx, fv, u, i2, h1, hc, hn, h3, q u H2 e2 h4⟩)
theorem FsIs.put {H : Hp} {fs : List (Str × Dat)} {fv : List (Str × V)} {f : Str} {d : Dat} {v : V} (h : FsIs H fs fv) (hd : Is H d v) : FsIs H ((f, d) :: fs) (putF f v fv) := by
  refine ⟨Nat.le_trans (length_putF f v fv) (by have := h.1; simp; omega), fun g c e => ?_, fun g e => ?_⟩
  · rw [lookup_putF]
    by_cases hg : g = f
    · subst hg
      rw [List.lookup_cons, beq_self_eq_true] at e
      cases e
      exact ⟨v, if_pos rfl, hd⟩
    · have hg' : (g == f) = false := beq_eq_false_iff_ne.mpr hg
      rw [List.lookup_cons, hg'] at e
      rw [if_neg hg]
      exact h.2.1 g c e
  · rw [lookup_putF]
    by_cases hg : g = f
    · subst hg
      rw [List.lookup_cons, beq_self_eq_true] at e
      cases e
    · have hg' : (g == f) = false := beq_eq_false_iff_ne.mpr hg
      rw [List.lookup_cons, hg'] at e
      rw [if_neg hg]
      exact h.2.2 g e
/-- o.f = e -/
theorem s1_fld {o e : Expr} {f : Str} {pos pos' : Pos} {C : Addr} {post : Dat → GL → Prop} (he : Ew X B ρ G e post)
    (hk : ∀ d G', post d G' → ∃ (j : Nat) (p : Addr) (fs : List (Str × Dat)), Ev X B ρ G' o (.adr p) ∧ G'[j]? = some (p, DO.ins C fs) ∧ fs.length < 50 ∧ D.nx ρ (G'.set j (p, DO.ins C ((f, d) :: fs))))
    (hc : Cls X.K C) (hn : NoAttr X.K C f) (hs : swapsWith e (some (.Attribute o f pos')) pos.line X.env = pure false := by rfl) : S1 X B ρ G (.Assign [.Attribute o f pos'] e pos) D := fun σ H r s =>
  WS.of (ps_fld pe_w pe_w hs) (he σ H r s _ fun y H1 d G' r' t iy z => by
    obtain ⟨j, p, fs, ho, hj, hl, hk'⟩ := hk d G' z
    refine ho σ H1 r' (s.mono t) _ fun x H2 e2 i2 => ?_
    simp only [Is] at i2
    have r2 := r'.ext e2
    obtain ⟨dx, fv, h1, h2⟩ := (r2.at_ hj).1
    have hl2 : fv.length < 100 := by have := h2.1; omega
    refine ⟨p, C, dx, fv, i2, h1, hc, hn, by omega, ρ, G'.set j (p, .ins C ((f, d) :: fs)), ?_, ?_, ?_, hk'⟩
    · have t2 : TK H2 (upd H2 p (.ins C dx (putF f y fv))) := r2.tk hj
      exact r2.put hj ⟨dx, _, upd_same, (h2.put (Is.mono (.of e2) _ _ iy)).mono t2⟩
    · exact (s.mono t).mono ((TK.of e2).trans (r2.tk hj))
    · exact (t.trans (.of e2)).trans (r2.tk hj))
/-- o.m(e, ..) -/
theorem ew_meth {o : Expr} {m : Str} {apos pos : Pos} {e : Expr} {es : List Expr} {k : Nat} {p C : Addr} {fs : List (Str × Dat)} {pre : Pre} {ds : List Dat} {post : Dat → GL → Prop} {pl : Sem Bool} (ho : Ev X B ρ G o (.adr p)) (hj : Oat X.prog X.w B G p (.ins C fs)) (hf : fs.lookup m = none) (hc : Cls X.K C) (c : KnM X.prog X.w X.K X.mg X.base C m k pre) (hr : Room k X.A)
    (ha : Ea X B ρ G (e :: es) ds) (hp : pre (.adr p :: ds) B G post) (hst : starEach (e :: es) X.env = (false, eval e X.env) :: starEach es X.env := by rfl) (hpl : (backTo pos (starEach es X.env)).any (·.1) = false := by rfl)
    (ht : eval (.Call (.Attribute o m apos) (e :: es) [] pos) X.env = (do
      let ov ← eval o X.env
      standAt apos.atName
      let (f, first) ← holding [ov] (getMethod ov m pl)
      callWith pos f first (backTo pos (starEach (e :: es) X.env)) (backToKw pos (keywordEach [] X.env))) := by rfl) : Ew X B ρ G (.Call (.Attribute o m apos) (e :: es) [] pos) post := by
  obtain ⟨f, fd, ps, F, M, hb⟩ := c
  exact fun σ H r s Q q => WE.of (pe_meth pe_w hc M F hr hb .nil pass0 pa_w hst hpl ht) (ho σ H r s _ fun v H1 e1 i1 => by
    simp only [Is] at i1
    obtain ⟨dx, fv, h1, h2⟩ := (r.ext e1).oat hj
    refine ⟨p, dx, fv, i1, h1, h2.2.2 m hf, ha σ H1 (r.ext e1) (s.ext e1) _ fun vs H2 e2 i2 => ?_⟩
    refine ⟨.adr p :: ds, B, G, post, by rw [List.append_nil, i1]; exact .cons (by simp only [Is]) i2, (r.ext e1).ext e2, hp, fun v H' d G' r' t i z => q v H' d G' r' ((TK.of (e1.trans e2)).trans t) i z⟩)
theorem ew_meth0 {o : Expr} {m : Str} {apos pos : Pos} {k : Nat} {p C : Addr} {fs : List (Str × Dat)} {pre : Pre} {post : Dat → GL → Prop} {pl : Sem Bool} (ho : Ev X B ρ G o (.adr p)) (hj : Oat X.prog X.w B G p (.ins C fs)) (hf : fs.lookup m = none) (hc : Cls X.K C) (c : KnM X.prog X.w X.K X.mg X.base C m k pre) (hr : Room k X.A) (hp : pre [.adr p] B G post)
    (ht : eval (.Call (.Attribute o m apos) [] [] pos) X.env = (do
      let ov ← eval o X.env
      standAt apos.atName
      let (f, first) ← holding [ov] (getMethod ov m pl)
      callWith pos f first (backTo pos (starEach [] X.env)) (backToKw pos (keywordEach [] X.env))) := by rfl) : Ew X B ρ G (.Call (.Attribute o m apos) [] [] pos) post := by
  obtain ⟨f, fd, ps, F, M, hb⟩ := c
  exact fun σ H r s Q q => WE.of (pe_meth0 pe_w hc M F hr hb .nil pass0 ht) (ho σ H r s _ fun v H1 e1 i1 => by
    simp only [Is] at i1
    obtain ⟨dx, fv, h1, h2⟩ := (r.ext e1).oat hj
    refine ⟨p, dx, fv, i1, h1, h2.2.2 m hf, ?_⟩
    refine ⟨[.adr p], B, G, post, by rw [i1]; exact .cons (by simp only [Is]) .nil, r.ext e1, hp, fun v H' d G' r' t i z => q v H' d G' r' ((TK.of e1).trans t) i z⟩)
/-! reading defs and methods, all that stands taken for the base -/
theorem ev_callR {x : Str} {p pos : Pos} {e : Expr} {es : List Expr} {k : Nat} {R : List Dat → Hp → Dat → Prop} {ds : List Dat} {d : Dat} (c : Kn X.prog X.w X.K X.mg X.base x k (preR R)) (hr : Room k X.A) (ha : Ea X B ρ G (e :: es) ds) (hp : ∀ H, Rep X.prog X.w B G H → R ds H d)
    (hg : Gl X x := by rfl) (hdb : (x == ("__debug__" : Str)) = false := by decide) (he : starEach (e :: es) X.env = (false, eval e X.env) :: starEach es X.env := by rfl) (hpl : (backTo pos (starEach es X.env)).any (·.1) = false := by rfl) : Ev X B ρ G (.Call (.Name x p) (e :: es) [] pos) d := by
  obtain ⟨f', fd, ps, F, hk, hb, hm⟩ := c
  refine fun σ H r s Q q => WE.of (pe_call F hr hg hm hk hb .nil pass0 pa_w hdb he hpl) (ha σ H r s _ fun vs H2 e2 i2 => ?_)
  refine ⟨ds, H2, [], fun c G' => c = d ∧ G' = [], by rw [List.append_nil]; exact i2, Rep.all H2, ⟨d, hp H2 (r.ext e2), rfl, rfl⟩, fun v H' d' G' r' t i z => ?_⟩
  exact q v H' (e2.trans r'.base) (by rw [← z.1]; exact i)
theorem el_callR {x : Str} {p pos : Pos} {e : Expr} {es : List Expr} {k : Nat} {R : List Dat → Hp → List Dat → Prop} {ds ys : List Dat} (c : Kn X.prog X.w X.K X.mg X.base x k (preRL R)) (hr : Room k X.A) (ha : Ea X B ρ G (e :: es) ds) (hp : ∀ H, Rep X.prog X.w B G H → R ds H ys)
    (hg : Gl X x := by rfl) (hdb : (x == ("__debug__" : Str)) = false := by decide) (he : starEach (e :: es) X.env = (false, eval e X.env) :: starEach es X.env := by rfl) (hpl : (backTo pos (starEach es X.env)).any (·.1) = false := by rfl) : El X B ρ G (.Call (.Name x p) (e :: es) [] pos) ys := by
  obtain ⟨f', fd, ps, F, hk, hb, hm⟩ := c
  refine fun σ H r s Q q => WE.of (pe_call F hr hg hm hk hb .nil pass0 pa_w hdb he hpl) (ha σ H r s _ fun vs H2 e2 i2 => ?_)
  refine ⟨ds, H2, [], fun c G' => ∃ p, H2 p = none ∧ c = .adr p ∧ G' = [(p, .lst ys)], by rw [List.append_nil]; exact i2, Rep.all H2, ⟨ys, hp H2 (r.ext e2), fun p hp _ => ⟨p, hp, rfl, rfl⟩⟩, fun v H' d' G' r' t i ⟨p, h1, h2, h3⟩ => ?_⟩
  subst h2 h3
  simp only [Is] at i
  subst i
  obtain ⟨vs', h4, h5⟩ := (r'.at_ (j := 0) rfl).1
  exact q p vs' H' (e2.free h1) (e2.trans r'.base) h4 h5
theorem ev_methR {o : Expr} {m : Str} {apos pos : Pos} {e : Expr} {es : List Expr} {k : Nat} {p C : Addr} {fs : List (Str × Dat)} {R : List Dat → Hp → Dat → Prop} {ds : List Dat} {d : Dat} {pl : Sem Bool} (ho : Ev X B ρ G o (.adr p)) (hj : Oat X.prog X.w B G p (.ins C fs)) (hf : fs.lookup m = none) (hc : Cls X.K C) (c : KnM X.prog X.w X.K X.mg X.base C m k (preR R)) (hr : Room k X.A)
    (ha : Ea X B ρ G (e :: es) ds) (hp : ∀ H, Rep X.prog X.w B G H → R (.adr p :: ds) H d) (hst : starEach (e :: es) X.env = (false, eval e X.env) :: starEach es X.env := by rfl) (hpl : (backTo pos (starEach es X.env)).any (·.1) = false := by rfl)
    (ht : eval (.Call (.Attribute o m apos) (e :: es) [] pos) X.env = (do
      let ov ← eval o X.env
      standAt apos.atName
      let (f, first) ← holding [ov] (getMethod ov m pl)
      callWith pos f first (backTo pos (starEach (e :: es) X.env)) (backToKw pos (keywordEach [] X.env))) := by rfl) : Ev X B ρ G (.Call (.Attribute o m apos) (e :: es) [] pos) d := by
  obtain ⟨f, fd, ps, F, M, hb⟩ := c
  exact fun σ H r s Q q => WE.of (pe_meth pe_w hc M F hr hb .nil pass0 pa_w hst hpl ht) (ho σ H r s _ fun v H1 e1 i1 => by
    simp only [Is] at i1
    obtain ⟨dx, fv, h1, h2⟩ := (r.ext e1).oat hj
    refine ⟨p, dx, fv, i1, h1, h2.2.2 m hf, ha σ H1 (r.ext e1) (s.ext e1) _ fun vs H2 e2 i2 => ?_⟩
    refine ⟨.adr p :: ds, H2, [], fun c G' => c = d ∧ G' = [], by rw [List.append_nil, i1]; exact .cons (by simp only [Is]) i2, Rep.all H2, ⟨d, hp H2 ((r.ext e1).ext e2), rfl, rfl⟩, fun v H' d' G' r' t i z => ?_⟩
    exact q v H' ((e1.trans e2).trans r'.base) (by rw [← z.1]; exact i))
theorem ev_methR0 {o : Expr} {m : Str} {apos pos : Pos} {k : Nat} {p C : Addr} {fs : List (Str × Dat)} {R : List Dat → Hp → Dat → Prop} {d : Dat} {pl : Sem Bool} (ho : Ev X B ρ G o (.adr p)) (hj : Oat X.prog X.w B G p (.ins C fs)) (hf : fs.lookup m = none) (hc : Cls X.K C) (c : KnM X.prog X.w X.K X.mg X.base C m k (preR R)) (hr : Room k X.A)
    (hp : ∀ H, Rep X.prog X.w B G H → R [.adr p] H d)
    (ht : eval (.Call (.Attribute o m apos) [] [] pos) X.env = (do
      let ov ← eval o X.env
      standAt apos.atName
      let (f, first) ← holding [ov] (getMethod ov m pl)
      callWith pos f first (backTo pos (starEach [] X.env)) (backToKw pos (keywordEach [] X.env))) := by rfl) : Ev X B ρ G (.Call (.Attribute o m apos) [] [] pos) d := by
  obtain ⟨f, fd, ps, F, M, hb⟩ := c
  exact fun σ H r s Q q => WE.of (pe_meth0 pe_w hc M F hr hb .nil pass0 ht) (ho σ H r s _ fun v H1 e1 i1 => by
    simp only [Is] at i1
    obtain ⟨dx, fv, h1, h2⟩ := (r.ext e1).oat hj
    refine ⟨p, dx, fv, i1, h1, h2.2.2 m hf, ?_⟩
    refine ⟨[.adr p], H1, [], fun c G' => c = d ∧ G' = [], by rw [i1]; exact .cons (by simp only [Is]) .nil, Rep.all H1, ⟨d, hp H1 (r.ext e1), rfl, rfl⟩, fun v H' d' G' r' t i z => ?_⟩
    exact q v H' (e1.trans r'.base) (by rw [← z.1]; exact i))
theorem el_methR {o : Expr} {m : Str} {apos pos : Pos} {e : Expr} {es : List Expr} {k : Nat} {p C : Addr} {fs : List (Str × Dat)} {R : List Dat → Hp → List Dat → Prop} {ds ys : List Dat} {pl : Sem Bool} (ho : Ev X B ρ G o (.adr p)) (hj : Oat X.prog X.w B G p (.ins C fs)) (hf : fs.lookup m = none) (hc : Cls X.K C) (c : KnM X.prog X.w X.K X.mg X.base C m k (preRL R)) (hr : Room k X.A)
    (ha : Ea X B ρ G (e :: es) ds) (hp : ∀ H, Rep X.prog X.w B G H → R (.adr p :: ds) H ys) (hst : starEach (e :: es) X.env = (false, eval e X.env) :: starEach es X.env := by rfl) (hpl : (backTo pos (starEach es X.env)).any (·.1) = false := by rfl)
    (ht : eval (.Call (.Attribute o m apos) (e :: es) [] pos) X.env = (do
      let ov ← eval o X.env
      standAt apos.atName
      let (f, first) ← holding [ov] (getMethod ov m pl)
      callWith pos f first (backTo pos (starEach (e :: es) X.env)) (backToKw pos (keywordEach [] X.env))) := by rfl) : El X B ρ G (.Call (.Attribute o m apos) (e :: es) [] pos) ys := by
  obtain ⟨f, fd, ps, F, M, hb⟩ := c
  exact fun σ H r s Q q => WE.of (pe_meth pe_w hc M F hr hb .nil pass0 pa_w hst hpl ht) (ho σ H r s _ fun v H1 e1 i1 => by
    simp only [Is] at i1
    obtain ⟨dx, fv, h1, h2⟩ := (r.ext e1).oat hj
    refine ⟨p, dx, fv, i1, h1, h2.2.2 m hf, ha σ H1 (r.ext e1) (s.ext e1) _ fun vs H2 e2 i2 => ?_⟩
    refine ⟨.adr p :: ds, H2, [], fun c G' => ∃ p, H2 p = none ∧ c = .adr p ∧ G' = [(p, .lst ys)], by rw [List.append_nil, i1]; exact .cons (by simp only [Is]) i2, Rep.all H2, ⟨ys, hp H2 ((r.ext e1).ext e2), fun p hp _ => ⟨p, hp, rfl, rfl⟩⟩, fun v H' d' G' r' t i ⟨p', h1, h2, h3⟩ => ?_⟩
    subst h2 h3
    simp only [Is] at i
    subst i
    obtain ⟨vs', h4, h5⟩ := (r'.at_ (j := 0) rfl).1
    exact q p' vs' H' ((e1.trans e2).free h1) ((e1.trans e2).trans r'.base) h4 h5)
end
end Bk
set_option Elab.async false
set_option linter.all false
set_option autoImplicit false
set_option maxRecDepth 100000
set_option maxHeartbeats 1000000
namespace Bk
open PySem L2

/-! ### lists of flat things -/
theorem isAll_bls {H : Hp} : ∀ {bs : List Bool} {vs : List V}, IsAll H (bs.map Dat.bl) vs → vs = bs.map V.bl
  | [], vs, h => IsAll.nil_iff.mp h
  | b :: bs, vs, h => by
    obtain ⟨x, r, e1, e2, e3⟩ := IsAll.cons_iff.mp (show IsAll H (Dat.bl b :: bs.map Dat.bl) vs from h)
    simp only [Is] at e2
    rw [e1, e2, isAll_bls e3]; rfl
theorem isAll_strs {H : Hp} : ∀ {bs : List Str} {vs : List V}, IsAll H (bs.map Dat.str) vs → vs = bs.map V.str
  | [], vs, h => IsAll.nil_iff.mp h
  | b :: bs, vs, h => by
    obtain ⟨x, r, e1, e2, e3⟩ := IsAll.cons_iff.mp (show IsAll H (Dat.str b :: bs.map Dat.str) vs from h)
    simp only [Is] at e2
    rw [e1, e2, isAll_strs e3]; rfl
theorem isAll_ints {H : Hp} : ∀ {bs : List Int} {vs : List V}, IsAll H (bs.map Dat.int) vs → vs = bs.map V.int
  | [], vs, h => IsAll.nil_iff.mp h
  | b :: bs, vs, h => by
    obtain ⟨x, r, e1, e2, e3⟩ := IsAll.cons_iff.mp (show IsAll H (Dat.int b :: bs.map Dat.int) vs from h)
    simp only [Is] at e2
    rw [e1, e2, isAll_ints e3]; rfl
theorem of_strs {H : Hp} : ∀ (bs : List Str), IsAll H (bs.map Dat.str) (bs.map V.str)
  | [] => .nil
  | b :: bs => .cons (by simp only [Is]) (of_strs bs)
theorem of_ints {H : Hp} : ∀ (bs : List Int), IsAll H (bs.map Dat.int) (bs.map V.int)
  | [] => .nil
  | b :: bs => .cons (by simp only [Is]) (of_ints bs)

section
variable {X : Cx} {B : Hp} {ρ : Sls} {G : GL} {D : DE}

/-! ### calls of built-ins -/
section
variable {x : Str} {p pos : Pos} {e : Expr} {id T : String} {r : List V → Hp → VK → Prop}
theorem ev_cb {d0 d : Dat} (hc : CallR X (.builtin id) r) (hg : Gl X x) (hm : X.mg x = none) (hv : bootBuiltins x = some (.builtin id)) (ha : Ev X B ρ G e d0)
    (hr : ∀ H v, Rep X.prog X.w B G H → Is H d0 v → ∀ Q : VK, (∀ u H2, Same H H2 → Is H2 d u → Q u H2) → r [v] H Q) (hn : x ≠ "__name__" := by decide) (hdb : (x == ("__debug__" : Str)) = false := by decide)
    (he : starEach [e] X.env = (false, eval e X.env) :: starEach [] X.env := by rfl) (hpl : (backTo pos (starEach [] X.env)).any (·.1) = false := by rfl) : Ev X B ρ G (.Call (.Name x p) [e] [] pos) d := fun σ H rp s Q q =>
  WE.of (pe_callB hc hg hm hv (pa_cons pe_w pa_nil he) hn hdb he) (ha σ H rp s _ fun v H1 e1 i1 => hr H1 v (rp.ext e1) i1 Q fun u H2 e2 i2 => q u H2 (e1.trans e2) i2)
theorem ev_cbL {ds : List Dat} {d : Dat} (hc : CallR X (.builtin id) r) (hg : Gl X x) (hm : X.mg x = none) (hv : bootBuiltins x = some (.builtin id)) (ha : El X B ρ G e ds)
    (hr : ∀ H a vs, Rep X.prog X.w B G H → H a = some (.lst vs) → IsAll H ds vs → ∀ Q : VK, (∀ u H2, Same H H2 → Is H2 d u → Q u H2) → r [.ref a] H Q) (hn : x ≠ "__name__" := by decide) (hdb : (x == ("__debug__" : Str)) = false := by decide)
    (he : starEach [e] X.env = (false, eval e X.env) :: starEach [] X.env := by rfl) : Ev X B ρ G (.Call (.Name x p) [e] [] pos) d := fun σ H rp s Q q =>
  WE.of (pe_callB hc hg hm hv (pa_cons pe_w pa_nil he) hn hdb he) (ha σ H rp s _ fun a vs H1 _ e1 hl i1 => hr H1 a vs (rp.ext e1) hl i1 Q fun u H2 e2 i2 => q u H2 (e1.trans e2) i2)
theorem el_cb {d0 : Dat} {ys : List Dat} (hc : CallR X (.builtin id) r) (hg : Gl X x) (hm : X.mg x = none) (hv : bootBuiltins x = some (.builtin id)) (ha : Ev X B ρ G e d0)
    (hr : ∀ H v, Rep X.prog X.w B G H → Is H d0 v → ∀ Q : VK, (∀ a vs H2, H a = none → Same H H2 → H2 a = some (.lst vs) → IsAll H2 ys vs → Q (.ref a) H2) → r [v] H Q) (hn : x ≠ "__name__" := by decide) (hdb : (x == ("__debug__" : Str)) = false := by decide)
    (he : starEach [e] X.env = (false, eval e X.env) :: starEach [] X.env := by rfl) : El X B ρ G (.Call (.Name x p) [e] [] pos) ys := fun σ H rp s Q q =>
  WE.of (pe_callB hc hg hm hv (pa_cons pe_w pa_nil he) hn hdb he) (ha σ H rp s _ fun v H1 e1 i1 => hr H1 v (rp.ext e1) i1 Q fun a vs H2 ha e2 hl i2 => q a vs H2 (e1.free ha) (e1.trans e2) hl i2)
/-- T(e), T a built-in class -/
theorem ev_ct {ds : List Dat} {d : Dat} (hc : CallR X (.type T) r) (hg : Gl X x) (hm : X.mg x = none) (hv : bootBuiltins x = some (.type T)) (ha : El X B ρ G e ds)
    (hr : ∀ H a vs, Rep X.prog X.w B G H → H a = some (.lst vs) → IsAll H ds vs → ∀ Q : VK, (∀ u H2, Same H H2 → Is H2 d u → Q u H2) → r [.ref a] H Q) (hn : x ≠ "__name__" := by decide) (hdb : (x == ("__debug__" : Str)) = false := by decide)
    (he : starEach [e] X.env = (false, eval e X.env) :: starEach [] X.env := by rfl) : Ev X B ρ G (.Call (.Name x p) [e] [] pos) d := fun σ H rp s Q q =>
  WE.of (pe_callTy hc hg hm hv (pa_cons pe_w pa_nil he) hn hdb he) (ha σ H rp s _ fun a vs H1 _ e1 hl i1 => hr H1 a vs (rp.ext e1) hl i1 Q fun u H2 e2 i2 => q u H2 (e1.trans e2) i2)
theorem el_ct {d0 : Dat} {ys : List Dat} (hc : CallR X (.type T) r) (hg : Gl X x) (hm : X.mg x = none) (hv : bootBuiltins x = some (.type T)) (ha : Ev X B ρ G e d0)
    (hr : ∀ H v, Rep X.prog X.w B G H → Is H d0 v → ∀ Q : VK, (∀ a vs H2, H a = none → Same H H2 → H2 a = some (.lst vs) → IsAll H2 ys vs → Q (.ref a) H2) → r [v] H Q) (hn : x ≠ "__name__" := by decide) (hdb : (x == ("__debug__" : Str)) = false := by decide)
    (he : starEach [e] X.env = (false, eval e X.env) :: starEach [] X.env := by rfl) : El X B ρ G (.Call (.Name x p) [e] [] pos) ys := fun σ H rp s Q q =>
  WE.of (pe_callTy hc hg hm hv (pa_cons pe_w pa_nil he) hn hdb he) (ha σ H rp s _ fun v H1 e1 i1 => hr H1 v (rp.ext e1) i1 Q fun a vs H2 ha e2 hl i2 => q a vs H2 (e1.free ha) (e1.trans e2) hl i2)
end
section
variable {p pos : Pos} {e : Expr}
theorem ev_lenS {z : Str} (hg : Gl X "len") (hm : X.mg "len" = none) (ha : Ev X B ρ G e (.str z)) (hz : z.length ≤ sizeLine)
    (he : starEach [e] X.env = (false, eval e X.env) :: starEach [] X.env := by rfl) : Ev X B ρ G (.Call (.Name "len" p) [e] [] pos) (.int z.length) :=
  ev_cb call_len_str hg hm boot_len ha (fun H v _ i Q q => by simp only [Is] at i; exact ⟨z, by rw [i], hz, q _ H (Same.refl H) (by simp only [Is])⟩) (he := he)
theorem ev_lenT {ds : List Dat} (hg : Gl X "len") (hm : X.mg "len" = none) (ha : Ev X B ρ G e (.tup ds))
    (he : starEach [e] X.env = (false, eval e X.env) :: starEach [] X.env := by rfl) : Ev X B ρ G (.Call (.Name "len" p) [e] [] pos) (.int ds.length) :=
  ev_cb call_len_seq hg hm boot_len ha (fun H v _ i Q q => by
    simp only [Is] at i
    obtain ⟨a, xs, e1, e2, e3⟩ := i
    exact ⟨a, xs, by rw [e1], .inr (SqT.of e2), q _ H (Same.refl H) (by simp only [Is]; rw [e3.length])⟩) (he := he)
theorem ev_lenL {a : Addr} {ds : List Dat} (hg : Gl X "len") (hm : X.mg "len" = none) (ha : Ev X B ρ G e (.adr a)) (hj : Lat B G a ds)
    (he : starEach [e] X.env = (false, eval e X.env) :: starEach [] X.env := by rfl) : Ev X B ρ G (.Call (.Name "len" p) [e] [] pos) (.int ds.length) :=
  ev_cb call_len_seq hg hm boot_len ha (fun H v rp i Q q => by
    simp only [Is] at i
    obtain ⟨vs, e2, e3⟩ := rp.lat hj
    exact ⟨a, vs, by rw [i], .inl (SqL.of e2), q _ H (Same.refl H) (by simp only [Is]; rw [e3.length])⟩) (he := he)
theorem ev_lenN {ds : List Dat} (hg : Gl X "len") (hm : X.mg "len" = none) (ha : El X B ρ G e ds)
    (he : starEach [e] X.env = (false, eval e X.env) :: starEach [] X.env := by rfl) : Ev X B ρ G (.Call (.Name "len" p) [e] [] pos) (.int ds.length) :=
  ev_cbL call_len_seq hg hm boot_len ha (fun H a vs _ hl i Q q => ⟨a, vs, rfl, .inl (SqL.of hl), q _ H (Same.refl H) (by simp only [Is]; rw [i.length])⟩) (he := he)
theorem ev_all {bs : List Bool} (hc : X.calm = true) (hg : Gl X "all") (hm : X.mg "all" = none) (ha : El X B ρ G e (bs.map Dat.bl))
    (he : starEach [e] X.env = (false, eval e X.env) :: starEach [] X.env := by rfl) : Ev X B ρ G (.Call (.Name "all" p) [e] [] pos) (.bl (bs.all id)) :=
  ev_cbL (cr_all hc) hg hm (by decide +kernel) ha (fun H a vs _ hl i Q q => ⟨a, bs, rfl, by rw [← isAll_bls i]; exact SqL.of hl, q _ H (Same.refl H) (by simp only [Is])⟩) (he := he)
theorem ev_min {ns : List Int} {m : Int} (hc : X.calm = true) (hg : Gl X "min") (hm : X.mg "min" = none) (ha : El X B ρ G e (ns.map Dat.int)) (h1 : m ∈ ns) (h2 : ∀ y ∈ ns, m ≤ y)
    (he : starEach [e] X.env = (false, eval e X.env) :: starEach [] X.env := by rfl) : Ev X B ρ G (.Call (.Name "min" p) [e] [] pos) (.int m) :=
  ev_cbL (cr_min hc) hg hm (by decide +kernel) ha (fun H a vs _ hl i Q q => ⟨a, ns, rfl, by rw [← isAll_ints i]; exact SqL.of hl, List.length_pos_of_mem h1, fun k k1 k2 => by
    have : k = m := Int.le_antisymm (k2 m h1) (h2 k k1)
    rw [this]; exact q _ H (Same.refl H) (by simp only [Is])⟩) (he := he)
/-- min(a, b) -/
theorem ev_min2 {a b : Expr} {i j : Int} (hc : X.calm = true) (hg : Gl X "min") (hm : X.mg "min" = none) (ha : Ev X B ρ G a (.int i)) (hb : Ev X B ρ G b (.int j))
    (he : starEach [a, b] X.env = (false, eval a X.env) :: starEach [b] X.env := by rfl) (he2 : starEach [b] X.env = (false, eval b X.env) :: starEach [] X.env := by rfl) (hpl : (backTo pos (starEach [b] X.env)).any (·.1) = false := by rfl) : Ev X B ρ G (.Call (.Name "min" p) [a, b] [] pos) (.int (if j < i then j else i)) := fun σ H rp s Q q =>
  WE.of (pe_callB (call_min2 hc) hg hm (by decide +kernel) (pa_cons pe_w (pa_cons pe_w pa_nil he2) he) (he := he) (hpl := hpl)) (ha σ H rp s _ fun v H1 e1 i1 => hb σ H1 (rp.ext e1) (s.ext e1) _ fun u H2 e2 i2 => by
    simp only [Is] at i1 i2
    exact ⟨i, j, by rw [i1, i2], q _ H2 (e1.trans e2) (by simp only [Is])⟩)
theorem ev_tupleOf {ds : List Dat} (hg : Gl X "tuple") (hm : X.mg "tuple" = none) (ha : El X B ρ G e ds)
    (he : starEach [e] X.env = (false, eval e X.env) :: starEach [] X.env := by rfl) : Ev X B ρ G (.Call (.Name "tuple" p) [e] [] pos) (.tup ds) :=
  ev_ct call_tuple_of hg hm (by decide +kernel) ha (fun H a vs _ hl i Q q => ⟨a, vs, rfl, .inl ⟨SqL.of hl, fun l hl' => q _ _ (Same.new hl') (by simp only [Is]; exact ⟨l, vs, rfl, upd_same, IsAll.mono (.of (Same.new hl')) _ _ i⟩)⟩⟩) (he := he)
/-- isinstance(e, T) -/
theorem ev_isi {a : Expr} {d : Dat} {t T : String} {x : Str} {q : Pos} {b : Bool} (hg : Gl X "isinstance") (hm : X.mg "isinstance" = none) (hgT : Gl X x) (hmT : X.mg x = none) (hvT : bootBuiltins x = some (.type T)) (ha : Ev X B ρ G a d)
    (hty : ∀ H v, Rep X.prog X.w B G H → Is H d v → TyX X.K H v (.type t)) (hk : kitB t T = some b) (hnT : x ≠ "__name__" := by decide) (hdT : (x == ("__debug__" : Str)) = false := by decide)
    (he : starEach [a, .Name x q] X.env = (false, eval a X.env) :: starEach [.Name x q] X.env := by rfl) (he2 : starEach [.Name x q] X.env = (false, eval (.Name x q) X.env) :: starEach [] X.env := by rfl) (hpl : (backTo pos (starEach [.Name x q] X.env)).any (·.1) = false := by rfl) : Ev X B ρ G (.Call (.Name "isinstance" p) [a, .Name x q] [] pos) (.bl b) := fun σ H rp s Q k =>
  WE.of (pe_callB call_isi hg hm (by decide +kernel) (pa_cons pe_w (pa_cons (pe_bltn (v := .ty T) hgT hmT hvT rfl hnT hdT) pa_nil he2) he) (he := he) (hpl := hpl)) (ha σ H rp s _ fun v H1 e1 i1 =>
    ⟨v, .ty T, .type t, .type T, b, rfl, .ty T, hty H1 v (rp.ext e1) i1, kit_ty hk, k _ H1 e1 (by simp only [Is])⟩)
def Dat.ty : Dat → String
  | .non => "NoneType" | .bl _ => "bool" | .int _ => "int" | .str _ => "str" | .tup _ => "tuple" | .adr _ => "list"
theorem dat_ty {d : Dat} (h : ∀ a, d ≠ .adr a) {H : Hp} {v : V} (i : Is H d v) : TyX X.K H v (.type d.ty) := by
  cases d with
  | non => simp only [Is] at i; rw [i]; exact .base .non
  | bl b => simp only [Is] at i; rw [i]; exact .base (.bl b)
  | int b => simp only [Is] at i; rw [i]; exact .base (.int b)
  | str b => simp only [Is] at i; rw [i]; exact .base (.str b)
  | tup ds => simp only [Is] at i; obtain ⟨a, xs, rfl, e2, _⟩ := i; exact .base (.tup e2)
  | adr a => exact absurd rfl (h a)
end

/-! ### texts -/
section
variable {a b : Expr} {pos : Pos}
theorem ev_addS {y z : Str} (ha : Ev X B ρ G a (.str y)) (hb : Ev X B ρ G b (.str z)) (hl : y.length + z.length ≤ sizeLine) : Ev X B ρ G (.BinOp a .Add b pos) (.str (y ++ z)) := ev_op op_add_str ha hb fun H _ x u hx hu Q q => by
  simp only [Is] at hx hu
  exact ⟨y, z, hx, hu, hl, q _ H (Same.refl H) (by simp only [Is])⟩
/-- one sign in a text -/
theorem ev_inS {c : Nat} {z : Str} (ha : Ev X B ρ G a (.str ⟨#[c]⟩)) (hb : Ev X B ρ G b (.str z)) (hm : behindInMarks .In b = false := by rfl) : Ev X B ρ G (.Compare a [.In] [b] pos) (.bl (decide (c ∈ z.cps.toList))) := ev_cmp op_in_sign ha hb (fun H _ x u hx hu Q q => by
  simp only [Is] at hx hu
  exact ⟨c, z, hx, hu, q _ H (Same.refl H) (by simp only [Is])⟩) hm
theorem et_inS {c : Nat} {z : Str} (ha : Ev X B ρ G a (.str ⟨#[c]⟩)) (hb : Ev X B ρ G b (.str z)) (hm : behindInMarks .In b = false := by rfl) : Et X B ρ G (.Compare a [.In] [b] pos) (decide (c ∈ z.cps.toList)) := et_cmp op_in_sign ha hb (fun H _ x u hx hu Q q => by
  simp only [Is] at hx hu
  exact ⟨c, z, hx, hu, q _ H (Same.refl H) (by simp only [Is])⟩) hm
theorem ev_ltS {y z : Str} (ha : Ev X B ρ G a (.str y)) (hb : Ev X B ρ G b (.str z)) : Ev X B ρ G (.Compare a [.Lt] [b] pos) (.bl (decide (y.cps.toList < z.cps.toList))) := ev_cmp op_lt_str ha hb (fun H _ x u hx hu Q q => by
  simp only [Is] at hx hu
  exact ⟨y, z, hx, hu, q _ H (Same.refl H) (by simp only [Is])⟩) (nomark _)
/-- z[i] -/
theorem ev_ixS {z : Str} {i : Int} {c : Nat} (ha : Ev X B ρ G a (.str z)) (hb : Ev X B ρ G b (.int i)) (hz : z.length ≤ sizeLine) (hi : L2.atI z.cps.toList i = some c) (hs : PlainIx b := by exact fun _ _ => rfl) : Ev X B ρ G (.Subscript a b pos) (.str ⟨#[c]⟩) := fun σ H r s Q q =>
  WE.of (pe_ix ix_str pe_w pe_w hs) (ha σ H r s _ fun x H1 e1 i1 => hb σ H1 (r.ext e1) (s.ext e1) _ fun y H2 e2 i2 => by
    simp only [Is] at i1 i2
    exact ⟨z, i, c, i1, i2, hz, hi, q _ H2 (e1.trans e2) (by simp only [Is])⟩)
/-- "..".index(c) -/
theorem ev_sindex {apos : Pos} {y z : Str} {k : Nat} {rest : List Nat} (ha : Ev X B ρ G a (.str y)) (hb : Ev X B ρ G b (.str z)) (ho : Builtin.Str.occurrences y z 0 y.length 1 = k :: rest)
    (hbase : attributeBase a "index" X.env (eval a X.env) = eval a X.env := by rfl) (he : starEach [b] X.env = (false, eval b X.env) :: starEach [] X.env := by rfl)
    (hfew : ((backTo pos (starEach [b] X.env)).all (fun x => !x.1) && (backToKw pos (keywordEach [] X.env)).all (fun x => x.1.isSome) && decide ([b].length + ([] : List Keyword).length + (if ([] : List Keyword).isEmpty then 0 else 1) < 30)) = true := by rfl)
    (hline : (apos.endLine == pos.line) = true := by rfl) : Ev X B ρ G (.Call (.Attribute a "index" apos) [b] [] pos) (.int (k : Nat)) := fun σ H r s Q q =>
  WE.of (pe_bm PySem.F.plainAttrs_str PySem.F.slot_str_index PySem.F.type_str_index mt_sindex pe_w (pa_cons pe_w pa_nil he) hbase hfew hline he) (ha σ H r s _ fun x H1 e1 i1 => by
    simp only [Is] at i1
    subst i1
    refine ⟨rfl, hb σ H1 (r.ext e1) (s.ext e1) _ fun u H2 e2 i2 => ?_⟩
    simp only [Is] at i2
    exact ⟨y, z, k, rest, rfl, by rw [i2], ho, q _ H2 (e1.trans e2) (by simp only [Is])⟩)
end

/-! ### slices -/
/-- a part of a slice -/
def Pt (X : Cx) (B : Hp) (ρ : Sls) (G : GL) (e : Option Expr) (o : Option Int) : Prop := ∃ t, PO X e t ∧ ∀ σ H, Rep X.prog X.w B G H → Sl H ρ σ → ∀ Q : Option Int → Hp → Prop, (∀ H2, Same H H2 → Q o H2) → t σ H Q
theorem pt0 : Pt X B ρ G none none := ⟨_, po_none, fun σ H _ _ Q q => q H (Same.refl H)⟩
theorem pt1 {e : Expr} {i : Int} (h : Ev X B ρ G e (.int i)) : Pt X B ρ G (some e) (some i) := ⟨_, po_some pe_w, fun σ H r s Q q => h σ H r s _ fun v H2 e2 i2 => by
  simp only [Is] at i2
  exact ⟨i, i2, q H2 e2⟩⟩
/-- the part of a list of data -/
def cutD (ds : List Dat) (lo hi : Option Int) : List Dat := (ds.drop (HT.sIx ds.length 0 lo)).take (HT.sIx ds.length ds.length hi - HT.sIx ds.length 0 lo)
theorem IsAll.cut {H : Hp} {ds : List Dat} {xs : List V} {lo hi : Option Int} (h : IsAll H ds xs) : IsAll H (cutD ds lo hi) (cutV xs lo hi) := by
  unfold cutD cutV
  rw [h.length]
  exact (h.drop _).take _
section
variable {a : Expr} {lo hi : Option Expr} {l h : Option Int} {pos p2 : Pos}
theorem ev_slS {z : Str} (ha : Ev X B ρ G a (.str z)) (hl : Pt X B ρ G lo l) (hh : Pt X B ρ G hi h) (hz : z.length ≤ sizeLine) : Ev X B ρ G (.Subscript a (.Slice lo hi none p2) pos) (.str (cutS z l h)) := fun σ H r s Q q => by
  obtain ⟨t1, k1, k2⟩ := hl
  obtain ⟨t2, k3, k4⟩ := hh
  refine WE.of (pe_slice sl_str pe_w k1 k3) (ha σ H r s _ fun x H1 e1 i1 => k2 σ H1 (r.ext e1) (s.ext e1) _ fun H2 e2 => k4 σ H2 ((r.ext e1).ext e2) ((s.ext e1).ext e2) _ fun H3 e3 => ?_)
  simp only [Is] at i1
  exact ⟨z, i1, hz, q _ H3 ((e1.trans e2).trans e3) (by simp only [Is])⟩
theorem cut_whole {ds : List Dat} {l h : Option Int} (e : HT.sIx ds.length 0 l = 0 ∧ HT.sIx ds.length ds.length h = ds.length) : cutD ds l h = ds := by
  unfold cutD; rw [e.1, e.2]; simp
theorem ev_slT {ds : List Dat} (ha : Ev X B ρ G a (.tup ds)) (hl : Pt X B ρ G lo l) (hh : Pt X B ρ G hi h) : Ev X B ρ G (.Subscript a (.Slice lo hi none p2) pos) (.tup (cutD ds l h)) := fun σ H r s Q q => by
  obtain ⟨t1, k1, k2⟩ := hl
  obtain ⟨t2, k3, k4⟩ := hh
  refine WE.of (pe_slice sl_tupA pe_w k1 k3) (ha σ H r s _ fun x H1 e1 i1 => k2 σ H1 (r.ext e1) (s.ext e1) _ fun H2 e2 => k4 σ H2 ((r.ext e1).ext e2) ((s.ext e1).ext e2) _ fun H3 e3 => ?_)
  simp only [Is] at i1
  obtain ⟨p, xs, rfl, hp, hx⟩ := i1
  have e23 := e2.trans e3
  have hx3 := IsAll.mono (.of e23) _ _ hx
  refine ⟨p, xs, rfl, SqT.of (e23 _ _ hp), fun w => q _ H3 ((e1.trans e2).trans e3) ?_, fun w p' hp' => q _ _ (((e1.trans e2).trans e3).trans (Same.new hp')) ?_⟩
  · rw [hx.length] at w
    rw [cut_whole w]
    simp only [Is]
    exact ⟨p, xs, rfl, e23 _ _ hp, hx3⟩
  · simp only [Is]
    exact ⟨p', cutV xs l h, rfl, upd_same, IsAll.mono (.of (Same.new hp')) _ _ hx3.cut⟩
theorem el_slL {p : Addr} {ds : List Dat} (ha : Ev X B ρ G a (.adr p)) (hj : Lat B G p ds) (hl : Pt X B ρ G lo l) (hh : Pt X B ρ G hi h) : El X B ρ G (.Subscript a (.Slice lo hi none p2) pos) (cutD ds l h) := fun σ H r s Q q => by
  obtain ⟨t1, k1, k2⟩ := hl
  obtain ⟨t2, k3, k4⟩ := hh
  refine WE.of (pe_slice sl_list pe_w k1 k3) (ha σ H r s _ fun x H1 e1 i1 => k2 σ H1 (r.ext e1) (s.ext e1) _ fun H2 e2 => k4 σ H2 ((r.ext e1).ext e2) ((s.ext e1).ext e2) _ fun H3 e3 => ?_)
  simp only [Is] at i1
  obtain ⟨vs, h1, h2⟩ := (((r.ext e1).ext e2).ext e3).lat hj
  have ee := (e1.trans e2).trans e3
  exact ⟨p, vs, i1, SqL.of h1, fun p' hp' => q p' _ _ (ee.free hp') (ee.trans (Same.new hp')) upd_same (IsAll.mono (.of (Same.new hp')) _ _ h2.cut)⟩
/-- l[::-1] -/
theorem el_revL {p : Addr} {ds : List Dat} {k : Nat} {q1 q2 q3 : Pos} (ha : Ev X B ρ G a (.adr p)) (hj : Lat B G p ds) : El X B ρ G (.Subscript a (.Slice none none (some (.UnaryOp .USub (.Constant (.int 1) k q1) q2)) q3) pos) ds.reverse := fun σ H r s Q q =>
  WE.of (pe_revL pe_w) (ha σ H r s _ fun x H1 e1 i1 => by
    simp only [Is] at i1
    obtain ⟨vs, h1, h2⟩ := (r.ext e1).lat hj
    exact ⟨p, vs, i1, SqL.of h1, fun p' hp' => q p' _ _ (e1.free hp') (e1.trans (Same.new hp')) upd_same (IsAll.mono (.of (Same.new hp')) _ _ h2.reverse)⟩)
theorem el_revN {ds : List Dat} {k : Nat} {q1 q2 q3 : Pos} (ha : El X B ρ G a ds) : El X B ρ G (.Subscript a (.Slice none none (some (.UnaryOp .USub (.Constant (.int 1) k q1) q2)) q3) pos) ds.reverse := fun σ H r s Q q =>
  WE.of (pe_revL pe_w) (ha σ H r s _ fun p vs H1 hp e1 h1 h2 => ⟨p, vs, rfl, SqL.of h1, fun p' hp' => q p' _ _ (e1.free hp') (e1.trans (Same.new hp')) upd_same (IsAll.mono (.of (Same.new hp')) _ _ h2.reverse)⟩)
end
/-- t + u -/
theorem ev_addT {a b : Expr} {ds es : List Dat} {pos : Pos} (ha : Ev X B ρ G a (.tup ds)) (hb : Ev X B ρ G b (.tup es)) (hl : ds.length + es.length ≤ 100000) : Ev X B ρ G (.BinOp a .Add b pos) (.tup (ds ++ es)) := ev_op op_catA ha hb fun H _ x y hx hy Q q => by
  simp only [Is] at hx hy
  obtain ⟨p, xs, rfl, h1, h2⟩ := hx
  obtain ⟨p', ys, rfl, h3, h4⟩ := hy
  refine ⟨p, p', xs, ys, rfl, rfl, SqT.of h1, SqT.of h3, by rw [h2.length, h4.length]; exact Nat.le_trans hl (by decide), fun e => ?_, fun e e' => ?_, fun _ _ p2 hp2 => ?_⟩
  · have : ds = [] := by rw [e] at h2; cases ds with | nil => rfl | cons d ds => obtain ⟨_, _, z, _⟩ := IsAll.cons_iff.mp h2; cases z
    subst this
    exact q _ H (Same.refl H) (by simp only [Is]; exact ⟨p', ys, rfl, h3, h4⟩)
  · have : es = [] := by rw [e'] at h4; cases es with | nil => rfl | cons d es => obtain ⟨_, _, z, _⟩ := IsAll.cons_iff.mp h4; cases z
    subst this
    exact q _ H (Same.refl H) (by simp only [Is]; rw [List.append_nil]; exact ⟨p, xs, rfl, h1, h2⟩)
  · exact q _ _ (Same.new hp2) (by simp only [Is]; exact ⟨p2, xs ++ ys, rfl, upd_same, IsAll.mono (.of (Same.new hp2)) _ _ (h2.append h4)⟩)
/-- xs + ys, both new or one's own -/
theorem el_addNN {a b : Expr} {ds es : List Dat} {pos : Pos} (ha : El X B ρ G a ds) (hb : El X B ρ G b es) (hl : ds.length + es.length ≤ sizeLine) : El X B ρ G (.BinOp a .Add b pos) (ds ++ es) := fun σ H r s Q q =>
  WE.of (pe_op op_cat pe_w pe_w) (ha σ H r s _ fun p vs H1 hp e1 h1 h2 => hb σ H1 (r.ext e1) (s.ext e1) _ fun p' ws H2 hp' e2 h3 h4 =>
    ⟨p, p', vs, ws, rfl, rfl, e2 _ _ h1, h3, by rw [h2.length, h4.length]; exact hl, fun l hl' => q l _ _ ((e1.trans e2).free hl') ((e1.trans e2).trans (Same.new hl')) upd_same (IsAll.mono (.of (Same.new hl')) _ _ (IsAll.append (IsAll.mono (.of e2) _ _ h2) h4))⟩)
theorem el_addLN {a b : Expr} {p : Addr} {ds es : List Dat} {pos : Pos} (ha : Ev X B ρ G a (.adr p)) (hj : Lat B G p ds) (hb : El X B ρ G b es) (hl : ds.length + es.length ≤ sizeLine) : El X B ρ G (.BinOp a .Add b pos) (ds ++ es) := fun σ H r s Q q =>
  WE.of (pe_op op_cat pe_w pe_w) (ha σ H r s _ fun v H1 e1 i1 => hb σ H1 (r.ext e1) (s.ext e1) _ fun p' ws H2 hp' e2 h3 h4 => by
    simp only [Is] at i1
    obtain ⟨vs, h1, h2⟩ := ((r.ext e1).ext e2).lat hj
    exact ⟨p, p', vs, ws, i1, rfl, h1, h3, by rw [h2.length, h4.length]; exact hl, fun l hl' => q l _ _ ((e1.trans e2).free hl') ((e1.trans e2).trans (Same.new hl')) upd_same (IsAll.mono (.of (Same.new hl')) _ _ (IsAll.append h2 h4))⟩)
/-- list(range(n)), list(range(a, b)) -/
theorem rgV_upto (n : Int) {H : Hp} : IsAll H (upto n.toNat) (rgV 0 n) := by
  have e : rgV 0 n = ((List.range n.toNat).map fun i : Nat => (i : Int)).map V.int := by
    unfold rgV
    rw [Int.sub_zero, List.map_map]
    exact List.map_congr_left fun i _ => by simp
  have e2 : upto n.toNat = ((List.range n.toNat).map fun i : Nat => (i : Int)).map Dat.int := by unfold upto; rw [List.map_map]; rfl
  rw [e, e2]; exact of_ints _
theorem el_listRg {a : Expr} {n : Int} {p p2 pos pos2 : Pos} (hc : X.calm = true) (hg : Gl X "list") (hm : X.mg "list" = none) (hg2 : Gl X "range") (hm2 : X.mg "range" = none) (ha : Ev X B ρ G a (.int n)) (h0 : n ≤ 10000) (h1 : -10000 ≤ n)
    (na : starEach [a] X.env = (false, eval a X.env) :: starEach [] X.env := by rfl) (ne : starEach [.Call (.Name "range" p2) [a] [] pos2] X.env = (false, eval (.Call (.Name "range" p2) [a] [] pos2) X.env) :: starEach [] X.env := by rfl) :
    El X B ρ G (.Call (.Name "list" p) [.Call (.Name "range" p2) [a] [] pos2] [] pos) (upto n.toNat) := fun σ H r s Q q =>
  WE.of (pe_listRg hc hg hm (prg_1 hg2 hm2 pe_w na) ne) (ha σ H r s _ fun v H1 e1 i1 => by
    simp only [Is] at i1
    refine ⟨n, i1, ⟨by omega, by omega, by omega, by omega, by omega⟩, fun p' hp' => q p' _ _ (e1.free hp') (e1.trans (Same.new hp')) upd_same (rgV_upto n)⟩)
def fromto (a b : Int) : List Dat := (List.range (b - a).toNat).map fun (i : Nat) => Dat.int (a + (i : Int))
theorem rgV_from (a b : Int) {H : Hp} : IsAll H (fromto a b) (rgV a b) := by
  have e : rgV a b = ((List.range (b - a).toNat).map fun i : Nat => a + (i : Int)).map V.int := by
    unfold rgV; rw [List.map_map]; rfl
  have e2 : fromto a b = ((List.range (b - a).toNat).map fun i : Nat => a + (i : Int)).map Dat.int := by unfold fromto; rw [List.map_map]; rfl
  rw [e, e2]; exact of_ints _
theorem el_listRg2 {a b : Expr} {m n : Int} {p p2 pos pos2 : Pos} (hc : X.calm = true) (hg : Gl X "list") (hm : X.mg "list" = none) (hg2 : Gl X "range") (hm2 : X.mg "range" = none) (ha : Ev X B ρ G a (.int m)) (hb : Ev X B ρ G b (.int n)) (h0 : 0 ≤ m ∧ m ≤ 10000) (h1 : 0 ≤ n ∧ n ≤ 10000)
    (na : starEach [a, b] X.env = (false, eval a X.env) :: starEach [b] X.env := by rfl) (nb : starEach [b] X.env = (false, eval b X.env) :: starEach [] X.env := by rfl) (hp : (backTo pos2 (starEach [b] X.env)).any (·.1) = false := by rfl)
    (ne : starEach [.Call (.Name "range" p2) [a, b] [] pos2] X.env = (false, eval (.Call (.Name "range" p2) [a, b] [] pos2) X.env) :: starEach [] X.env := by rfl) :
    El X B ρ G (.Call (.Name "list" p) [.Call (.Name "range" p2) [a, b] [] pos2] [] pos) (fromto m n) := fun σ H r s Q q =>
  WE.of (pe_listRg hc hg hm (prg_2 hg2 hm2 pe_w pe_w na nb hp) ne) (ha σ H r s _ fun v H1 e1 i1 => hb σ H1 (r.ext e1) (s.ext e1) _ fun u H2 e2 i2 => by
    simp only [Is] at i1 i2
    have ee := e1.trans e2
    exact ⟨m, n, i1, i2, ⟨by omega, by omega, by omega, by omega, by omega⟩, fun p' hp' => q p' _ _ (ee.free hp') (ee.trans (Same.new hp')) upd_same (rgV_from m n)⟩)

/-! ### methods of lists; stores -/
/-- l.append(e) -/
theorem s1_append {o e : Expr} {apos cpos pos : Pos} {p : Addr} {post : Dat → GL → Prop} (ho : Ev X B ρ G o (.adr p)) (hv : Ew X B ρ G e post)
    (hk : ∀ d G', post d G' → ∃ (j : Nat) (ds : List Dat), G'[j]? = some (p, DO.lst ds) ∧ ds.length < sizeLine ∧ D.nx ρ (G'.set j (p, DO.lst (ds ++ [d]))))
    (hl0 : ∃ (j : Nat) (ds : List Dat), G[j]? = some (p, DO.lst ds)) (hbase : attributeBase o "append" X.env (eval o X.env) = eval o X.env := by rfl) (hs : starEach [e] X.env = (false, eval e X.env) :: starEach [] X.env := by rfl)
    (hfew : ((backTo cpos (starEach [e] X.env)).all (fun x => !x.1) && (backToKw cpos (keywordEach [] X.env)).all (fun x => x.1.isSome) && decide ([e].length + ([] : List Keyword).length + (if ([] : List Keyword).isEmpty then 0 else 1) < 30)) = true := by rfl)
    (hline : (apos.endLine == cpos.line) = true := by rfl) (hsw : swapsWith (.Call (.Attribute o "append" apos) [e] [] cpos) none pos.line X.env = pure false := by rfl) :
    S1 X B ρ G (.Expr (.Call (.Attribute o "append" apos) [e] [] cpos) pos) D := fun σ H r s =>
  WS.of (ps_expr (pe_bm PySem.F.plainAttrs_list PySem.F.slot_list_append PySem.F.type_list_append mt_append pe_w (pa_cons pe_w pa_nil hs) hbase hfew hline hs) hsw) (ho σ H r s _ fun x H1 e1 i1 => by
    simp only [Is] at i1
    subst i1
    obtain ⟨j0, ds0, hj0⟩ := hl0
    obtain ⟨vs0, h10, _⟩ := ((r.ext e1).at_ hj0).1
    refine ⟨.inl ⟨rfl, vs0, SqL.of h10⟩, hv σ H1 (r.ext e1) (s.ext e1) _ fun y H2 d G' r' t iy z => ?_⟩
    obtain ⟨j, ds, hj, hz, hk'⟩ := hk d G' z
    obtain ⟨vs, h1, h2⟩ := (r'.at_ hj).1
    have t2 : TK H2 (upd H2 p (.lst (vs ++ [y]))) := r'.tk hj
    refine ⟨p, vs, y, rfl, rfl, h1, by rw [h2.length]; exact hz, ρ, _, r'.put hj (o' := .lst (ds ++ [d])) ⟨_, upd_same, IsAll.mono t2 _ _ (h2.append (.cons iy .nil))⟩, ((s.ext e1).mono t).mono t2, ((TK.of e1).trans t).trans t2, hk'⟩)
/-- l[i] = e -/
theorem s1_setix {o i e : Expr} {tpos pos : Pos} {p : Addr} {k : Int} {post : Dat → GL → Prop} (hv : Ew X B ρ G e post)
    (hk : ∀ d G', post d G' → Ev X B ρ G' o (.adr p) ∧ Ev X B ρ G' i (.int k) ∧ ∃ (j : Nat) (ds : List Dat) (m : Nat), G'[j]? = some (p, DO.lst ds) ∧ ixN ds.length k = some m ∧ D.nx ρ (G'.set j (p, .lst (ds.set m d))))
    (ha : ∀ v, assign (.Subscript o i tpos) X.env v = (do
      let ov ← holding [v] (eval o X.env)
      let iv ← holding [v, ov] (eval i X.env)
      standAt tpos
      holding [v, ov, iv] (setItem ov iv v)
      release [v, ov, iv] []) := by intro _; rfl)
    (hs : swapsWithSole [.Subscript o i tpos] e pos.line X.env = pure false := by rfl) (hw : swappedStores [.Subscript o i tpos] e X.env = pure none := by rfl) (h1 : (assignEach [.Subscript o i tpos] X.env).map (·.2) = [assign (.Subscript o i tpos) X.env] := by rfl) :
    S1 X B ρ G (.Assign [.Subscript o i tpos] e pos) D := fun σ H r s =>
  WS.of (ps_asg pe_w (pg_sub pe_w pe_w set_list ha) hs hw h1) (hv σ H r s _ fun y H1 d G' r' t iy z => by
    obtain ⟨ho, hi, j, ds, m, hj, hm, hk'⟩ := hk d G' z
    refine ho σ H1 r' (s.mono t) _ fun x H2 e2 i2 => hi σ H2 (r'.ext e2) ((s.mono t).ext e2) _ fun u H3 e3 i3 => ?_
    simp only [Is] at i2 i3
    have r3 := (r'.ext e2).ext e3
    obtain ⟨vs, h1, h2⟩ := (r3.at_ hj).1
    have t2 : TK H3 (upd H3 p (.lst (vs.set m y))) := r3.tk hj
    have ty := IsAll.set (Is.mono (.of (e2.trans e3)) _ _ iy) m h2
    refine ⟨p, vs, k, m, i2, i3, h1, by rw [h2.length]; exact hm, ρ, _, r3.put hj (o' := .lst (ds.set m d)) ⟨_, upd_same, IsAll.mono t2 _ _ ty⟩, (((s.mono t).ext e2).ext e3).mono t2, ((t.trans (.of (e2.trans e3)))).trans t2, hk'⟩)
end
end Bk
set_option Elab.async false
set_option linter.all false
set_option autoImplicit false
set_option maxRecDepth 100000
set_option maxHeartbeats 1000000
namespace Bk
open PySem L2

/-! ### slots of a block -/
theorem wipe_set_out {i : Nat} {x : Option V} {σ : L2.St} : ∀ {vs : List Nat}, i ∉ vs → wipe (σ.set i x) vs = (wipe σ vs).set i x
  | [], _ => rfl
  | v :: vs, h => by
    have h1 : i ≠ v := fun e => h (by simp [e])
    have h2 : i ∉ vs := fun e => h (List.mem_cons_of_mem _ e)
    unfold wipe
    rw [wipe_set_out h2, List.set_comm _ _ h1]
theorem wipe_set {i : Nat} {x : Option V} {σ : L2.St} : ∀ {vs : List Nat}, i ∈ vs → wipe (σ.set i x) vs = wipe σ vs
  | v :: vs, h => by
    by_cases h2 : i ∈ vs
    · unfold wipe; rw [wipe_set h2]
    · have : i = v := by
        rcases List.mem_cons.mp h with e | e
        · exact e
        · exact absurd e h2
      subst this
      unfold wipe
      rw [wipe_set_out h2, List.set_set]
theorem wipe_wipe {σ : L2.St} {vs : List Nat} : ∀ {us : List Nat}, (∀ u ∈ us, u ∈ vs) → wipe (wipe σ us) vs = wipe σ vs
  | [], _ => rfl
  | u :: us, h => by
    show wipe ((wipe σ us).set u none) vs = _
    rw [wipe_set (h u (by simp)), wipe_wipe fun w hw => h w (List.mem_cons_of_mem _ hw)]
def wipeD (ρ : Sls) : List Nat → Sls
  | [] => ρ
  | v :: vs => (wipeD ρ vs).set v none
theorem Sl.unset {H : Hp} {ρ : Sls} {σ : L2.St} (s : Sl H ρ σ) (i : Nat) : Sl H (ρ.set i none) (σ.set i none) := by
  refine ⟨by simpa using s.len, fun j c e => ?_⟩
  by_cases hj : i = j
  · subst hj
    by_cases hl : i < ρ.length
    · rw [List.getElem?_set_self hl] at e; cases e
    · rw [List.getElem?_eq_none (by simpa using hl)] at e; cases e
  · rw [List.getElem?_set_ne hj] at e ⊢
    exact s.get j c e
theorem Sl.wipe {H : Hp} {ρ : Sls} {σ : L2.St} (s : Sl H ρ σ) : ∀ vs : List Nat, Sl H (wipeD ρ vs) (L2.wipe σ vs)
  | [] => s
  | v :: vs => (s.wipe vs).unset v
/-- a block's target -/
def RdW (vs : List Nat) (g : TG) (d : Dat) (ρ ρ' : Sls) : Prop := ∀ σ H v, Sl H ρ σ → Is H d v → ∀ Q : L2.St → Hp → Prop, (∀ σ', Sl H ρ' σ' → L2.wipe σ' vs = L2.wipe σ vs → Q σ' H) → g v σ H Q
theorem rdw_name {vs : List Nat} {i : Nat} {d : Dat} {ρ : Sls} (hi : i ∈ vs) : RdW vs (gName i) d ρ (ρ.set i (some d)) := fun σ H v s h Q q => q _ (s.set i h) (wipe_set hi)
def RdsW (vs : List Nat) (g : TGs) (ds : List Dat) (ρ ρ' : Sls) : Prop := ∀ σ H xs, Sl H ρ σ → IsAll H ds xs → ∀ Q : L2.St → Hp → Prop, (∀ σ', Sl H ρ' σ' → L2.wipe σ' vs = L2.wipe σ vs → Q σ' H) → g xs σ H Q
theorem rdsw_nil {vs : List Nat} {ρ : Sls} : RdsW vs gNil [] ρ ρ := fun σ H xs s h Q q => ⟨IsAll.nil_iff.mp h, q σ s rfl⟩
theorem rdsw_cons {vs : List Nat} {g : TG} {gs : TGs} {d : Dat} {ds : List Dat} {ρ ρ1 ρ2 : Sls} (h1 : RdW vs g d ρ ρ1) (h2 : RdsW vs gs ds ρ1 ρ2) : RdsW vs (gCons g gs) (d :: ds) ρ ρ2 := fun σ H xs s h Q q => by
  obtain ⟨x, r, e1, e2, e3⟩ := IsAll.cons_iff.mp h
  exact ⟨x, r, e1, h1 σ H x s e2 _ fun σ' s' w' => h2 σ' H r s' e3 Q fun σ2 s2 w2 => q σ2 s2 (w2.trans w')⟩
theorem rdw_tup {vs : List Nat} {K : PySem.W.Frag} {n : Nat} {gs : TGs} {ds : List Dat} {ρ ρ' : Sls} (hn : ds.length = n) (h : RdsW vs gs ds ρ ρ') : RdW vs (gTup K n gs) (.tup ds) ρ ρ' := fun σ H v s i Q q => by
  simp only [Is] at i
  obtain ⟨a, xs, e1, e2, e3⟩ := i
  exact ⟨a, xs, e1, SqT.of e2, by rw [e3.length, hn], h σ H xs s e3 Q q⟩

section
variable {X : Cx} {B : Hp} {ρ : Sls} {G : GL} {D : DE}
/-- a block's readings, whatever the block -/
def bWE (X : Cx) (scope : Scope) (e : Expr) : TE := fun σ H Q => ∀ (s : Shared) (H0 : Hp) (C : Addr) (cl : List (Str × Addr)) (fp : List Addr), WE (X.blk s H0 scope (compEnvC scope cl C X.env) fp) e σ H Q
def bWT (X : Cx) (scope : Scope) (e : Expr) : TT := fun σ H Q => ∀ (s : Shared) (H0 : Hp) (C : Addr) (cl : List (Str × Addr)) (fp : List Addr), WT (X.blk s H0 scope (compEnvC scope cl C X.env) fp) e σ H Q
theorem pe_bw {scope : Scope} {e : Expr} (s : Shared) (H0 : Hp) (C : Addr) (cl : List (Str × Addr)) (fp : List Addr) : PE (X.blk s H0 scope (compEnvC scope cl C X.env) fp) e (bWE X scope e) := ⟨fun pins s σ H Q I h => h _ _ _ _ _ pins s I⟩
theorem pt_bw {scope : Scope} {e : Expr} (s : Shared) (H0 : Hp) (C : Addr) (cl : List (Str × Addr)) (fp : List Addr) : PT (X.blk s H0 scope (compEnvC scope cl C X.env) fp) e (bWT X scope e) := ⟨fun pins s σ H Q I h => h _ _ _ _ _ pins s I⟩
/-- within any block of the comprehension -/
def InB (X : Cx) (scope : Scope) (J : Cx → Prop) : Prop := ∀ (s : Shared) (H0 : Hp) (C : Addr) (cl : List (Str × Addr)) (fp : List Addr), J (X.blk s H0 scope (compEnvC scope cl C X.env) fp)

/-- a comprehension, before it is a value -/
structure Lc (X : Cx) (B : Hp) (ρ : Sls) (G : GL) (tg iter : Expr) (g : TG) (tt : TT) (te : TE) (vs : List Nat) (ys : List Dat) : Prop where
  of : ∃ wi, PI X tg iter wi ∧ ∀ σ H, Rep X.prog X.w B G H → Sl H ρ σ → ∀ Q : VK, (∀ p vs H2, H p = none → Same H H2 → H2 p = some (.lst vs) → IsAll H2 ys vs → Q (.ref p) H2) → tLc wi g tt te vs σ H Q
structure LcW (X : Cx) (B : Hp) (ρ : Sls) (G : GL) (tg iter : Expr) (g : TG) (tt : TT) (te : TE) (vs : List Nat) (post : Dat → GL → Prop) : Prop where
  of : ∃ wi, PI X tg iter wi ∧ ∀ σ H, Rep X.prog X.w B G H → Sl H ρ σ → ∀ Q : VK, (∀ v H2 d G', Rep X.prog X.w B G' H2 → TK H H2 → Is H2 d v → post d G' → Q v H2) → tLc wi g tt te vs σ H Q

theorem take_filter {A : Type} (t : A → Bool) (as : List A) (i : Nat) (a : A) (h : as[i]? = some a) : (as.take (i + 1)).filter t = (as.take i).filter t ++ (if t a = true then [a] else []) := by
  have : as.take (i + 1) = as.take i ++ [a] := by rw [List.take_add_one, h]; rfl
  rw [this, List.filter_append]
  cases ht : t a <;> simp [ht]
theorem lc_mk {A : Type} {tg iter elt : Expr} {g : TG} {tt : TT} {vs : List Nat} {scope : Scope} (as : List A) (enc : A → Dat) (t : A → Bool) (y : A → Dat) (hS : Src X B ρ G tg iter (as.map enc) Same) (hl : as.length ≤ sizeLine)
    (hs : ∀ a ∈ as, ∃ ρ', RdW vs g (enc a) (wipeD ρ vs) ρ' ∧ (∀ σ H, Rep X.prog X.w B G H → Sl H ρ' σ → ∀ Q : Bool → Hp → Prop, (∀ H2, Same H H2 → Q (t a) H2) → tt σ H Q) ∧ (t a = true → InB X scope fun Y => Ev Y B ρ' G elt (y a))) :
    Lc X B ρ G tg iter g tt (bWE X scope elt) vs ((as.filter t).map y) := by
  obtain ⟨wi, hi, hw⟩ := hS.of
  refine ⟨wi, hi, fun σ H r s Q q => hw σ H r s _ fun J H1 Gd e1 hG W D hD => ?_⟩
  have r1 := r.ext e1
  have grow : ∀ {Hc : Hp} {o : HO}, Same H1 Hc → Same H1 (upd Hc D o) := fun h b u z => by
    have : b ≠ D := fun k => by rw [k, hD] at z; cases z
    rw [upd_ne this]; exact h b u z
  have ext2 : ∀ {Hc H2 : Hp}, Same H1 Hc → Same Hc H2 → Same H1 H2 := fun a b => a.trans b
  refine lc_it W (fun i Hc => Same H1 Hc ∧ ∃ acc, Hc D = some (.lst acc) ∧ IsAll Hc (((as.take i).filter t).map y) acc) ⟨grow (Same.refl H1), [], upd_same, .nil⟩ (fun i Hc _ p => hG Hc p.1) ?_ ?_
  · rintro i x Hc H' hi ⟨p1, acc, p2, p3⟩ ⟨e2, d, hd, hx⟩
    obtain ⟨a, ha, rfl⟩ : ∃ a, as[i]? = some a ∧ d = enc a := by
      rw [List.getElem?_map] at hd
      cases q : as[i]? with
      | none => rw [q] at hd; cases hd
      | some a => rw [q] at hd; exact ⟨a, rfl, by cases hd; rfl⟩
    obtain ⟨ρ', h1, h2, h3⟩ := hs a (List.mem_of_getElem? ha)
    have p1' := p1.trans e2
    refine h1 (L2.wipe σ vs) H' x (((s.ext e1).ext p1').wipe vs) hx _ fun σ' s' w' => ⟨by rw [w', wipe_wipe fun u hu => hu], ?_⟩
    refine h2 σ' H' (r1.ext p1') s' _ fun H2 e3 => ?_
    have p4 := p1'.trans e3
    have e4 := e2.trans e3
    rw [take_filter t as i a ha]
    cases ht : t a with
    | false =>
      refine iteF ⟨p4, acc, e4 _ _ p2, ?_⟩
      simp only [Bool.false_eq_true, if_false, List.append_nil]
      exact IsAll.mono (.of e4) _ _ p3
    | true =>
      refine iteT fun s0 H0 C cl fp => (h3 ht s0 H0 C cl fp) σ' H2 (r1.ext p4) (s'.ext e3) _ fun v H3 e5 i5 => ?_
      have e6 := e4.trans e5
      refine ⟨acc, e6 _ _ p2, ?_, grow (p4.trans e5), acc ++ [v], upd_same, ?_⟩
      · have := p3.length
        rw [List.length_map] at this
        have h8 := List.length_filter_le t (as.take i)
        have h9 : (as.take i).length ≤ i := by rw [List.length_take]; omega
        rw [List.length_map] at hi
        omega
      · have tk : TK H3 (upd H3 D (.lst (acc ++ [v]))) := TK.upd (by rw [e6 _ _ p2]; trivial)
        simp only [if_true, List.map_append, List.map_cons, List.map_nil]
        exact IsAll.mono tk _ _ ((IsAll.mono (.of e6) _ _ p3).append (.cons i5 .nil))
  · rintro Hc ⟨p1, acc, p2, p3⟩
    rw [List.length_map, List.take_length] at p3
    exact q D acc Hc (e1.free hD) (e1.trans p1) p2 p3
theorem lc_no {A : Type} {tg iter elt : Expr} {g : TG} {vs : List Nat} {scope : Scope} (as : List A) (enc : A → Dat) (y : A → Dat) (hS : Src X B ρ G tg iter (as.map enc) Same) (hl : as.length ≤ sizeLine)
    (hs : ∀ a ∈ as, ∃ ρ', RdW vs g (enc a) (wipeD ρ vs) ρ' ∧ InB X scope fun Y => Ev Y B ρ' G elt (y a)) : Lc X B ρ G tg iter g tYes (bWE X scope elt) vs (as.map y) := by
  have := lc_mk (X := X) (B := B) (ρ := ρ) (G := G) (g := g) (tt := tYes) (vs := vs) (scope := scope) (elt := elt) as enc (fun _ => true) y hS hl fun a ha => by
    obtain ⟨ρ', h1, h2⟩ := hs a ha
    exact ⟨ρ', h1, fun σ H _ _ Q q => q H (Same.refl H), fun _ => h2⟩
  rwa [List.filter_eq_self.mpr fun _ _ => rfl] at this
theorem lc_if {A : Type} {tg iter elt c : Expr} {g : TG} {vs : List Nat} {scope : Scope} (as : List A) (enc : A → Dat) (t : A → Bool) (y : A → Dat) (hS : Src X B ρ G tg iter (as.map enc) Same) (hl : as.length ≤ sizeLine)
    (hs : ∀ a ∈ as, ∃ ρ', RdW vs g (enc a) (wipeD ρ vs) ρ' ∧ (InB X scope fun Y => Et Y B ρ' G c (t a)) ∧ (t a = true → InB X scope fun Y => Ev Y B ρ' G elt (y a))) : Lc X B ρ G tg iter g (bWT X scope c) (bWE X scope elt) vs ((as.filter t).map y) :=
  lc_mk as enc t y hS hl fun a ha => by
    obtain ⟨ρ', h1, h2, h3⟩ := hs a ha
    exact ⟨ρ', h1, fun σ H r s Q q s0 H0 C cl fp => (h2 s0 H0 C cl fp) σ H r s Q q, h3⟩

/-- the base with the new list in it -/
theorem Rep.under {P : Program} {w : World} {H : Hp} {p : Addr} {ds : List Dat} {xs : List V} (r : Rep P w B (G ++ [(p, .lst ds)]) H) (hp : H p = some (.lst xs)) : Rep P w (upd B p (.lst xs)) G H ∧ Same B (upd B p (.lst xs)) := by
  have hB : B p = none := (r.own (p, .lst ds) (by simp)).2
  have hn := r.nd
  rw [List.map_append] at hn
  have hd := (List.nodup_append.mp hn)
  have hne : ∀ x ∈ G, x.1 ≠ p := fun x hx => hd.2.2 x.1 (List.mem_map.mpr ⟨x, hx, rfl⟩) p (by simp)
  refine ⟨⟨fun b u z => ?_, fun x hx => ⟨(r.own x (List.mem_append_left _ hx)).1, ?_⟩, hd.1⟩, fun b u z => ?_⟩
  · by_cases hb : b = p
    · subst hb; rw [upd_same] at z; cases z; exact hp
    · rw [upd_ne hb] at z; exact r.base b u z
  · rw [upd_ne (hne x hx)]; exact (r.own x (List.mem_append_left _ hx)).2
  · have : b ≠ p := fun k => by rw [k, hB] at z; cases z
    rw [upd_ne this]; exact z
theorem Rep.over {P : Program} {w : World} {H : Hp} {p : Addr} {ds : List Dat} {xs xs' : List V} (hB : B p = none) (r : Rep P w (upd B p (.lst xs)) G H) (hx : IsAll H ds xs') : Rep P w B (G ++ [(p, .lst ds)]) (upd H p (.lst xs')) := by
  have hp : H p = some (.lst xs) := r.base p _ upd_same
  have tk : TK H (upd H p (.lst xs')) := TK.upd (by rw [hp]; trivial)
  have hne : ∀ x ∈ G, x.1 ≠ p := fun x hx e => by
    have := (r.own x hx).2
    rw [e, upd_same] at this; cases this
  refine ⟨fun b u z => ?_, fun x hx' => ?_, ?_⟩
  · have h : b ≠ p := fun k => by rw [k, hB] at z; cases z
    rw [upd_ne h]; exact r.base b u (by rw [upd_ne h]; exact z)
  · rcases List.mem_append.mp hx' with z | z
    · have h := hne x z
      exact ⟨(r.own x z).1.at_ tk fun u k => by rw [upd_ne h]; exact k, by have := (r.own x z).2; rwa [upd_ne h] at this⟩
    · rw [List.mem_singleton.mp z]
      exact ⟨⟨xs', upd_same, IsAll.mono tk _ _ hx⟩, hB⟩
  · rw [List.map_append]
    refine List.nodup_append.mpr ⟨r.nd, by simp, fun a ha b hb => ?_⟩
    obtain ⟨x, hx', rfl⟩ := List.mem_map.mp ha
    rw [List.mem_singleton.mp hb]
    exact hne x hx'
theorem Ew.mk_lst {P : Program} {w : World} {H H2 : Hp} {p : Addr} {vs : List V} {ds : List Dat} (r : Rep P w B G H) (e : Same H H2) (hp : H p = none) (hl : H2 p = some (.lst vs)) (i : IsAll H2 ds vs) : Rep P w B (G ++ [(p, .lst ds)]) H2 := by
  obtain ⟨f1, f2⟩ := r.fresh hp
  have r2 := r.ext e
  refine ⟨r2.base, fun x hx => ?_, ?_⟩
  · rcases List.mem_append.mp hx with z | z
    · exact r2.own x z
    · rw [List.mem_singleton.mp z]; exact ⟨⟨vs, hl, i⟩, f1⟩
  · rw [List.map_append]
    refine List.nodup_append.mpr ⟨r.nd, by simp, fun a ha b hb => ?_⟩
    obtain ⟨x, hx, rfl⟩ := List.mem_map.mp ha
    rw [List.mem_singleton.mp hb]
    exact f2 x hx

theorem tYes_of {σ : L2.St} {H : Hp} {Q : Bool → Hp → Prop} (h : Q true H) : tYes σ H Q := h
/-- turns that change one's own objects -/
theorem lc_w {tg iter elt : Expr} {g : TG} {vs : List Nat} {scope : Scope} {ds : List Dat} (hS : Src X B ρ G tg iter ds (fun _ _ => True)) (hl : ds.length ≤ sizeLine) (Pv : Nat → List Dat → GL → Prop) (h0 : Pv 0 [] G) (hn : ∀ i ys G', Pv i ys G' → ys.length ≤ i)
    (hs : ∀ i d ys G', ds[i]? = some d → Pv i ys G' → ∃ ρ', RdW vs g d (wipeD ρ vs) ρ' ∧ ∀ B', Same B B' → InB X scope fun Y => Ew Y B' ρ' G' elt (fun y G'' => Pv (i + 1) (ys ++ [y]) G'')) :
    LcW X B ρ G tg iter g tYes (bWE X scope elt) vs (fun d G' => ∃ p ys G0, d = .adr p ∧ Pv ds.length ys G0 ∧ G' = G0 ++ [(p, .lst ys)]) := by
  obtain ⟨wi, hi, hw⟩ := hS.of
  refine ⟨wi, hi, fun σ H r s Q q => hw σ H r s _ fun J H1 Gd e1 hG W D hD => ?_⟩
  have r1 := r.ext e1
  have hBD := (r1.fresh hD).1
  have e0 : Same H1 (upd H1 D (.lst [])) := Same.new hD
  refine lc_it W (fun i Hc => TK H1 Hc ∧ ∃ ys G' acc, Hc D = some (.lst acc) ∧ Rep X.prog X.w B (G' ++ [(D, .lst ys)]) Hc ∧ IsAll Hc ys acc ∧ Pv i ys G') ⟨.of e0, [], G, [], upd_same, Ew.mk_lst r1 e0 hD upd_same .nil, .nil, h0⟩ (fun i Hc _ p => hG Hc trivial) ?_ ?_
  · rintro i x Hc H' hi ⟨p1, ys, G', acc, p2, p3, p4, p5⟩ ⟨e2, d, hd, hx⟩
    obtain ⟨ρ', h1, h2⟩ := hs i d ys G' hd p5
    have p1' := p1.trans (.of e2)
    obtain ⟨r3, sB⟩ := (p3.ext e2).under (e2 _ _ p2)
    refine h1 (L2.wipe σ vs) H' x (((s.ext e1).mono p1').wipe vs) hx _ fun σ' s' w' => ⟨by rw [w', wipe_wipe fun u hu => hu], ?_⟩
    refine tYes_of ?_
    simp only [if_true]
    refine fun s0 H0 C cl fp => (h2 _ sB s0 H0 C cl fp) σ' H' r3 s' _ fun v H3 y G'' r4 t4 i4 z => ?_
    have hD3 : H3 D = some (.lst acc) := r4.base _ _ upd_same
    have tk : TK H3 (upd H3 D (.lst (acc ++ [v]))) := TK.upd (by rw [hD3]; trivial)
    have al : IsAll H3 (ys ++ [y]) (acc ++ [v]) := (IsAll.mono ((TK.of e2).trans t4) _ _ p4).append (.cons i4 .nil)
    refine ⟨acc, hD3, by rw [p4.length]; have := hn _ _ _ p5; omega, (p1'.trans t4).trans tk, ys ++ [y], G'', acc ++ [v], upd_same, r4.over hBD al, IsAll.mono tk _ _ al, z⟩
  · rintro Hc ⟨p1, ys, G', acc, p2, p3, p4, p5⟩
    exact q (.ref D) Hc (.adr D) _ p3 ((TK.of e1).trans p1) (by simp only [Is]) ⟨D, ys, G', rfl, p5, rfl⟩

/-! as values and stored -/
section
variable {tg iter elt : Expr} {ifs : List Expr} {scope : Scope} {own : List (Str × Nat)} {pos : Pos} {g : TG} {tt : TT} {ys : List Dat} {post : Dat → GL → Prop}
theorem el_lc (h : Lc X B ρ G tg iter g tt (bWE X scope elt) (own.map (·.2)) ys) (hN : X.N.Nodup) (ok : BlkOk X.N X.env.scope scope own) (hg : InB X scope fun Y => PG Y tg g) (ht : InB X scope fun Y => PTs Y ifs tt)
    (hc : X.calm = true := by rfl) (hs : ∀ x, foldedSetIterable iter X.env x = pure x := by intro _; rfl) : El X B ρ G (.ListComp elt [⟨tg, iter, ifs, 0⟩] scope pos) ys := fun σ H r s Q q => by
  obtain ⟨wi, h1, h2⟩ := h.of
  exact WE.of (pe_lc hc hN h1 ok hg ht (fun s H C cl fp => pe_bw s H C cl fp) hs) (h2 σ H r s Q q)
theorem ew_lc (h : LcW X B ρ G tg iter g tt (bWE X scope elt) (own.map (·.2)) post) (hN : X.N.Nodup) (ok : BlkOk X.N X.env.scope scope own) (hg : InB X scope fun Y => PG Y tg g) (ht : InB X scope fun Y => PTs Y ifs tt)
    (hc : X.calm = true := by rfl) (hs : ∀ x, foldedSetIterable iter X.env x = pure x := by intro _; rfl) : Ew X B ρ G (.ListComp elt [⟨tg, iter, ifs, 0⟩] scope pos) post := fun σ H r s Q q => by
  obtain ⟨wi, h1, h2⟩ := h.of
  exact WE.of (pe_lc hc hN h1 ok hg ht (fun s H C cl fp => pe_bw s H C cl fp) hs) (h2 σ H r s Q q)
theorem ss_setLc {i : Nat} {y : Str} {py spos : Pos} {rest : List Stmt} (h : Lc X B ρ G tg iter g tt (bWE X scope elt) (own.map (·.2)) ys) (hN : X.N.Nodup) (hy : X.N[i]? = some y) (hyl : X.env.scope.names.lookup y = some .local) (ok : BlkOk X.N X.env.scope scope own) (hg : InB X scope fun Y => PG Y tg g) (ht : InB X scope fun Y => PTs Y ifs tt)
    (hk : ∀ p, B p = none → (∀ x ∈ G, x.1 ≠ p) → Ss X B (ρ.set i (some (.adr p))) (G ++ [(p, .lst ys)]) rest D)
    (hc : X.calm = true := by rfl) (hs : ∀ x, foldedSetIterable iter X.env x = pure x := by intro _; rfl) (hsw : swapsWith (.ListComp elt [⟨tg, iter, ifs, 0⟩] scope pos) (some (.Name y py)) spos.line X.env = pure true := by exact L2.sw_true rfl rfl rfl (by decide +kernel)) :
    Ss X B ρ G (.Assign [.Name y py] (.ListComp elt [⟨tg, iter, ifs, 0⟩] scope pos) spos :: rest) D := ss_cons fun σ H r s => by
  obtain ⟨wi, h1, h2⟩ := h.of
  refine WS.of (ps_setLc hc hN hy hyl hsw h1 ok hg ht (fun s H C cl fp => pe_bw s H C cl fp) hs) (h2 σ H r s _ fun p vs H2 hp e hl i2 => ?_)
  obtain ⟨f1, f2⟩ := r.fresh hp
  exact ⟨_, _, Ew.mk_lst r e hp hl i2, (s.ext e).set i (d := .adr p) (by simp only [Is]), .of e, hk p f1 f2⟩
theorem ss_setLcW {i : Nat} {y : Str} {py spos : Pos} {rest : List Stmt} (h : LcW X B ρ G tg iter g tt (bWE X scope elt) (own.map (·.2)) post) (hN : X.N.Nodup) (hy : X.N[i]? = some y) (hyl : X.env.scope.names.lookup y = some .local) (ok : BlkOk X.N X.env.scope scope own) (hg : InB X scope fun Y => PG Y tg g) (ht : InB X scope fun Y => PTs Y ifs tt)
    (hk : ∀ d G', post d G' → Ss X B (ρ.set i (some d)) G' rest D)
    (hc : X.calm = true := by rfl) (hs : ∀ x, foldedSetIterable iter X.env x = pure x := by intro _; rfl) (hsw : swapsWith (.ListComp elt [⟨tg, iter, ifs, 0⟩] scope pos) (some (.Name y py)) spos.line X.env = pure true := by exact L2.sw_true rfl rfl rfl (by decide +kernel)) :
    Ss X B ρ G (.Assign [.Name y py] (.ListComp elt [⟨tg, iter, ifs, 0⟩] scope pos) spos :: rest) D := ss_cons fun σ H r s => by
  obtain ⟨wi, h1, h2⟩ := h.of
  refine WS.of (ps_setLc hc hN hy hyl hsw h1 ok hg ht (fun s H C cl fp => pe_bw s H C cl fp) hs) (h2 σ H r s _ fun v H2 d G' r' t i2 z => ?_)
  exact ⟨_, G', r', (s.mono t).set i i2, t, hk d G' z⟩
end
/-- sources that only ask that the heap grows -/
theorem Src.mono {tg iter : Expr} {ds : List Dat} {I I' : Hp → Hp → Prop} (h : Src X B ρ G tg iter ds I) (hi : ∀ H H', I' H H' → I H H') : Src X B ρ G tg iter ds I' := by
  obtain ⟨wi, h1, h2⟩ := h.of
  exact ⟨wi, h1, fun σ H r s R q => h2 σ H r s R fun J H1 Gd e hG W => q J H1 Gd e (fun H' z => hG H' (hi H1 H' z)) W⟩
theorem srcS_tup {tg l : Expr} {ds : List Dat} (h : Ev X B ρ G l (.tup ds)) : Src X B ρ G tg l ds Same := (src_tup h).mono fun _ _ e => .of e
theorem srcS_str {tg l : Expr} {z : Str} (h : Ev X B ρ G l (.str z)) : Src X B ρ G tg l (signs z) Same := (src_str h).mono fun _ _ _ => trivial
theorem srcS_range {tg l : Expr} {p pos : Pos} {n : Int} (h : Ev X B ρ G l (.int n)) (h1 : -(2 ^ 62) ≤ n) (h2 : n < 2 ^ 62) (hg : Gl X "range") (hm : X.mg "range" = none) (hs : starEach [l] X.env = [(false, eval l X.env)] := by rfl) : Src X B ρ G tg (.Call (.Name "range" p) [l] [] pos) (upto n.toNat) Same :=
  (src_range h h1 h2 hg hm hs).mono fun _ _ _ => trivial
theorem srcS_lst {tg l : Expr} {p : Addr} {ds : List Dat} (h : Ev X B ρ G l (.adr p)) (hj : Lat B G p ds) : Src X B ρ G tg l ds Same := ⟨_, pi_list pe_w, fun σ H r s R q => h σ H r s _ fun v H2 e i => by
  simp only [Is] at i
  obtain ⟨vs, h1, h2⟩ := (r.ext e).lat hj
  refine ⟨p, i, ⟨vs, SqL.of h1⟩, q _ H2 (fun H' => Same H2 H') e (fun H' g => g) ?_⟩
  rw [← h2.length]
  exact (walk_list (K := X.K) (a := p) (xs := vs)).mono (fun H' g => SqL.of (g _ _ h1)) fun i' H' x H'' hi g y => by
    obtain ⟨rfl, y⟩ := y
    exact yat (TK.of g) h2 y⟩
end
end Bk
set_option Elab.async false
set_option linter.all false
set_option autoImplicit false
set_option maxRecDepth 100000
set_option maxHeartbeats 1000000
namespace Bk
open PySem L2
section
variable {X : Cx} {B : Hp} {ρ : Sls} {G : GL} {D : DE}
theorem Ev.as {e : Expr} {d d' : Dat} (q : d = d') (h : Ev X B ρ G e d) : Ev X B ρ G e d' := q ▸ h
theorem Et.as {e : Expr} {d d' : Bool} (q : d = d') (h : Et X B ρ G e d) : Et X B ρ G e d' := q ▸ h
theorem El.as {e : Expr} {d d' : List Dat} (q : d = d') (h : El X B ρ G e d) : El X B ρ G e d' := q ▸ h
theorem Lc.as {tg iter : Expr} {g : TG} {tt : TT} {te : TE} {vs : List Nat} {d d' : List Dat} (q : d = d') (h : Lc X B ρ G tg iter g tt te vs d) : Lc X B ρ G tg iter g tt te vs d' := q ▸ h
theorem Src.as {tg iter : Expr} {d d' : List Dat} {I : Hp → Hp → Prop} (q : d = d') (h : Src X B ρ G tg iter d I) : Src X B ρ G tg iter d' I := q ▸ h
/-- a name of the def -/
theorem vv (i : Nat) {x : Str} {pos : Pos} {d : Dat} (hd : ρ[i]? = some (some d) := by rfl) (hN : X.N[i]? = some x := by rfl) (hv : Vis X.env.scope x := by first | exact Or.inl rfl | exact Or.inr (Or.inl rfl) | exact Or.inr (Or.inr rfl)) (hb : (x == ("__debug__" : Str)) = false := by decide) (hcd : (x == ("__classdict__" : Str)) = false := by decide) : Ev X B ρ G (.Name x pos) d := ev_var hd (pv i hN hv hb hcd)
theorem bk (N : List Str) (st : Stmt) {scope : Scope} {own : List (Str × Nat)} (h : blkC N (defScope st) scope own = true := by decide +kernel) : BlkOk N (defScope st) scope own := blkOk_by h
section
variable {x : Str} {i : Nat} {px pos : Pos} {iter elt c : Expr} {scope : Scope} {ys : List Dat} {post : Dat → GL → Prop}
theorem el_lc1 (hN : X.N.Nodup) (ok : BlkOk X.N X.env.scope scope [(x, i)]) (h : Lc X B ρ G (.Name x px) iter (gName i) tYes (bWE X scope elt) [i] ys)
    (hg : X.N.Nodup → InB X scope fun Y => PG Y (.Name x px) (gName i) := by exact fun hN _ _ _ _ _ => L2.pg_name hN rfl (Or.inl rfl)) (hc : X.calm = true := by rfl) (hs : ∀ x, foldedSetIterable iter X.env x = pure x := by intro _; rfl) : El X B ρ G (.ListComp elt [⟨.Name x px, iter, [], 0⟩] scope pos) ys :=
  el_lc (own := [(x, i)]) h hN ok (hg hN) (fun _ _ _ _ _ => pts_nil) hc hs
theorem el_lc1I (hN : X.N.Nodup) (ok : BlkOk X.N X.env.scope scope [(x, i)]) (h : Lc X B ρ G (.Name x px) iter (gName i) (bWT X scope c) (bWE X scope elt) [i] ys)
    (hg : X.N.Nodup → InB X scope fun Y => PG Y (.Name x px) (gName i) := by exact fun hN _ _ _ _ _ => L2.pg_name hN rfl (Or.inl rfl)) (hc : X.calm = true := by rfl) (hs : ∀ x, foldedSetIterable iter X.env x = pure x := by intro _; rfl) : El X B ρ G (.ListComp elt [⟨.Name x px, iter, [c], 0⟩] scope pos) ys :=
  el_lc (own := [(x, i)]) h hN ok (hg hN) (fun _ _ _ _ _ => pts_one (pt_bw _ _ _ _ _)) hc hs
theorem ew_lc1 (hN : X.N.Nodup) (ok : BlkOk X.N X.env.scope scope [(x, i)]) (h : LcW X B ρ G (.Name x px) iter (gName i) tYes (bWE X scope elt) [i] post)
    (hg : X.N.Nodup → InB X scope fun Y => PG Y (.Name x px) (gName i) := by exact fun hN _ _ _ _ _ => L2.pg_name hN rfl (Or.inl rfl)) (hc : X.calm = true := by rfl) (hs : ∀ x, foldedSetIterable iter X.env x = pure x := by intro _; rfl) : Ew X B ρ G (.ListComp elt [⟨.Name x px, iter, [], 0⟩] scope pos) post :=
  ew_lc (own := [(x, i)]) h hN ok (hg hN) (fun _ _ _ _ _ => pts_nil) hc hs
/-- y = [..] -/
theorem ss_lc1 {j : Nat} {y : Str} {py spos : Pos} {rest : List Stmt} (hN : X.N.Nodup) (ok : BlkOk X.N X.env.scope scope [(x, i)]) (h : Lc X B ρ G (.Name x px) iter (gName i) tYes (bWE X scope elt) [i] ys) (hk : ∀ p, B p = none → (∀ x ∈ G, x.1 ≠ p) → Ss X B (ρ.set j (some (.adr p))) (G ++ [(p, .lst ys)]) rest D)
    (hy : X.N[j]? = some y := by rfl) (hyl : X.env.scope.names.lookup y = some .local := by rfl)
    (hg : X.N.Nodup → InB X scope fun Y => PG Y (.Name x px) (gName i) := by exact fun hN _ _ _ _ _ => L2.pg_name hN rfl (Or.inl rfl)) (hc : X.calm = true := by rfl) (hs : ∀ x, foldedSetIterable iter X.env x = pure x := by intro _; rfl)
    (hsw : swapsWith (.ListComp elt [⟨.Name x px, iter, [], 0⟩] scope pos) (some (.Name y py)) spos.line X.env = pure true := by exact L2.sw_true rfl rfl rfl (by decide +kernel)) :
    Ss X B ρ G (.Assign [.Name y py] (.ListComp elt [⟨.Name x px, iter, [], 0⟩] scope pos) spos :: rest) D :=
  ss_setLc (own := [(x, i)]) h hN hy hyl ok (hg hN) (fun _ _ _ _ _ => pts_nil) hk hc hs hsw
theorem ss_lc1I {j : Nat} {y : Str} {py spos : Pos} {rest : List Stmt} (hN : X.N.Nodup) (ok : BlkOk X.N X.env.scope scope [(x, i)]) (h : Lc X B ρ G (.Name x px) iter (gName i) (bWT X scope c) (bWE X scope elt) [i] ys) (hk : ∀ p, B p = none → (∀ x ∈ G, x.1 ≠ p) → Ss X B (ρ.set j (some (.adr p))) (G ++ [(p, .lst ys)]) rest D)
    (hy : X.N[j]? = some y := by rfl) (hyl : X.env.scope.names.lookup y = some .local := by rfl)
    (hg : X.N.Nodup → InB X scope fun Y => PG Y (.Name x px) (gName i) := by exact fun hN _ _ _ _ _ => L2.pg_name hN rfl (Or.inl rfl)) (hc : X.calm = true := by rfl) (hs : ∀ x, foldedSetIterable iter X.env x = pure x := by intro _; rfl)
    (hsw : swapsWith (.ListComp elt [⟨.Name x px, iter, [c], 0⟩] scope pos) (some (.Name y py)) spos.line X.env = pure true := by exact L2.sw_true rfl rfl rfl (by decide +kernel)) :
    Ss X B ρ G (.Assign [.Name y py] (.ListComp elt [⟨.Name x px, iter, [c], 0⟩] scope pos) spos :: rest) D :=
  ss_setLc (own := [(x, i)]) h hN hy hyl ok (hg hN) (fun _ _ _ _ _ => pts_one (pt_bw _ _ _ _ _)) hk hc hs hsw
theorem ss_lc1W {j : Nat} {y : Str} {py spos : Pos} {rest : List Stmt} (hN : X.N.Nodup) (ok : BlkOk X.N X.env.scope scope [(x, i)]) (h : LcW X B ρ G (.Name x px) iter (gName i) tYes (bWE X scope elt) [i] post) (hk : ∀ d G', post d G' → Ss X B (ρ.set j (some d)) G' rest D)
    (hy : X.N[j]? = some y := by rfl) (hyl : X.env.scope.names.lookup y = some .local := by rfl)
    (hg : X.N.Nodup → InB X scope fun Y => PG Y (.Name x px) (gName i) := by exact fun hN _ _ _ _ _ => L2.pg_name hN rfl (Or.inl rfl)) (hc : X.calm = true := by rfl) (hs : ∀ x, foldedSetIterable iter X.env x = pure x := by intro _; rfl)
    (hsw : swapsWith (.ListComp elt [⟨.Name x px, iter, [], 0⟩] scope pos) (some (.Name y py)) spos.line X.env = pure true := by exact L2.sw_true rfl rfl rfl (by decide +kernel)) :
    Ss X B ρ G (.Assign [.Name y py] (.ListComp elt [⟨.Name x px, iter, [], 0⟩] scope pos) spos :: rest) D :=
  ss_setLcW (own := [(x, i)]) h hN hy hyl ok (hg hN) (fun _ _ _ _ _ => pts_nil) hk hc hs hsw
end
/-- x = e, x a local -/
theorem ss_v {i : Nat} {x : Str} {e : Expr} {pos pos' : Pos} {d : Dat} {rest : List Stmt} (he : Ev X B ρ G e d) (hk : Ss X B (ρ.set i (some d)) G rest D) (hN : X.N.Nodup) (hi : X.N[i]? = some x := by rfl) (hx : Loc X.env.scope x := by first | exact Or.inl rfl | exact Or.inr rfl)
    (hs : swapsWith e (some (.Name x pos')) pos.line X.env = pure false := by rfl) (hf : X.fn x = true ∨ X.env.scope.names.lookup x = some .local := by first | exact .inl rfl | exact .inr rfl) : Ss X B ρ G (.Assign [.Name x pos'] e pos :: rest) D := ss_setV hN hi hx he hk hs hf
theorem ss_l {i : Nat} {x : Str} {e : Expr} {pos pos' : Pos} {ds : List Dat} {rest : List Stmt} (he : El X B ρ G e ds) (hk : ∀ p, B p = none → (∀ x ∈ G, x.1 ≠ p) → Ss X B (ρ.set i (some (.adr p))) (G ++ [(p, .lst ds)]) rest D) (hN : X.N.Nodup) (hi : X.N[i]? = some x := by rfl) (hx : Loc X.env.scope x := by first | exact Or.inl rfl | exact Or.inr rfl)
    (hs : swapsWith e (some (.Name x pos')) pos.line X.env = pure false := by rfl) (hf : X.fn x = true ∨ X.env.scope.names.lookup x = some .local := by first | exact .inl rfl | exact .inr rfl) : Ss X B ρ G (.Assign [.Name x pos'] e pos :: rest) D := ss_setL hN hi hx he hk hs hf
theorem ss_w {i : Nat} {x : Str} {e : Expr} {pos pos' : Pos} {post : Dat → GL → Prop} {rest : List Stmt} (he : Ew X B ρ G e post) (hk : ∀ d G', post d G' → Ss X B (ρ.set i (some d)) G' rest D) (hN : X.N.Nodup) (hi : X.N[i]? = some x := by rfl) (hx : Loc X.env.scope x := by first | exact Or.inl rfl | exact Or.inr rfl)
    (hs : swapsWith e (some (.Name x pos')) pos.line X.env = pure false := by rfl) (hf : X.fn x = true ∨ X.env.scope.names.lookup x = some .local := by first | exact .inl rfl | exact .inr rfl) : Ss X B ρ G (.Assign [.Name x pos'] e pos :: rest) D := ss_setW hN hi hx he hk hs hf
/-- a text, an int of the top -/
theorem ev_gs {x z : Str} {pos : Pos} {t : Tok} (hm : X.mg x = some (.str z t)) (hg : Gl X x := by rfl) (hd : (x == ("__debug__" : Str)) = false := by decide) : Ev X B ρ G (.Name x pos) (.str z) := ev_glob (v := .str z) (pe_glob hg hm ⟨_, rfl⟩ hd) fun _ => by simp only [Is]
theorem ev_gi {x : Str} {i : Int} {pos : Pos} {t : Tok} (hm : X.mg x = some (.int i t)) (hg : Gl X x := by rfl) (hd : (x == ("__debug__" : Str)) = false := by decide) : Ev X B ρ G (.Name x pos) (.int i) := ev_glob (v := .int i) (pe_glob hg hm ⟨_, rfl⟩ hd) fun _ => by simp only [Is]
end
end Bk
set_option Elab.async false
set_option linter.all false
set_option autoImplicit false
set_option maxRecDepth 100000
set_option maxHeartbeats 1000000
/-! enumerate of a tuple, zip of two texts. -/
namespace Bk
open PySem PySem.Spec PyProof.Rows L2

theorem meets_enumB {v : Value} {o : Obj} {H : Heap → Prop} (B : Begins v o H) :
    Meets (Builtin.«enumerate.__new__» ⟨[.type "enumerate", v], []⟩) (fun _ R s => H s.heap ∧
      R (.ok (.ret (.ref (s.heap.push o).objs.size))) { s with heap := (s.heap.push o).push { cls := .type "enumerate", data := .fields #[.none, .bool false, .ref s.heap.objs.size, rawInt 0, .none, .none] } }) :=
  .of_wp fun prog w A R s h => by
    obtain ⟨hp, g, d, tk, os⟩ := s; obtain ⟨h1, h⟩ := h
    have hsub := sub_enumerate
    have q1 : ∀ {A' : Around} {E : Value → Shared → Prop} {Q : Value → Shared → Prop}, Q (.ref hp.objs.size) ⟨hp.push o, g, d, tk, os⟩ → wpAny (model prog w) A' (pyIter v) Q E ⟨hp, g, d, tk, os⟩ :=
      fun q => B.iter prog w _ _ ⟨hp, g, d, tk, os⟩ _ h1 q
    wp_walk using q1
    refine wpAny_stack_any fun st => wpAny_pure ?_
    split
    · rename_i c _ _ _ _ _
      cases (c == Value.type "enumerate")
      · wp_walk using q1
        exact ⟨_, rfl, h⟩
      · wp_walk using q1
        exact ⟨_, rfl, h⟩
    · wp_walk using q1
      exact ⟨_, rfl, h⟩
section
variable {prog : Program} {w : World} {A : Around} {E : Value → Shared → Prop} {s : Shared}
theorem enum_begins1 {v : Value} {o : Obj} {H : Heap → Prop} {Q : Value → Shared → Prop} (B : Begins v o H) (h1 : H s.heap)
    (h : ∀ h', IsEnum h' (s.heap.objs.size + 1) s.heap.objs.size 0 .none → h'.get? s.heap.objs.size = some o → h'.objs.size = s.heap.objs.size + 2 →
      (∀ b o, s.heap.get? b = some o → h'.get? b = some o) → Q (.ref (s.heap.objs.size + 1)) { s with heap := h' }) :
    wpAny (model prog w) A (call (.type "enumerate") [v]) Q E s := by
  refine callType_new F.called_enumerate (by decide) (F.typeCall_enumerate_1 _) (F.newCall_enumerate_1 _) (fun obj => F.args_object_init_2 obj _) F.entry_enumerate_new (meets_enumB B) ⟨h1, ?_⟩
  have hz : (s.heap.push o).objs.size = s.heap.objs.size + 1 := Heap.size_push ..
  show _ ∧ _
  rw [hz]
  have he : IsEnum ((s.heap.push o).push { cls := .type "enumerate", data := .fields #[.none, .bool false, .ref s.heap.objs.size, rawInt 0, .none, .none] }) (s.heap.objs.size + 1) s.heap.objs.size 0 .none := by
    have := Heap.get?_push_size (s.heap.push o) (o := { cls := .type "enumerate", data := .fields #[.none, .bool false, .ref s.heap.objs.size, rawInt 0, .none, .none] }) rfl
    rw [hz] at this; exact this
  exact ⟨⟨_, he, rfl⟩, h _ he (Heap.get?_push_of_some _ (Heap.get?_push_size _ B.free)) (by rw [Heap.size_push, hz]) fun b o x => Heap.get?_push_of_some _ (Heap.get?_push_of_some _ x)⟩
end
/-- the tuple at a, each item in a new pair -/
def IteT (K : PySem.W.Frag) (a : Addr) : It :=
  ⟨fun i H => ∃ (xs : List V) (x : V), SqT K H a xs ∧ xs[i]? = some x, fun i H v H' => ∃ T x, v = .ref T ∧ H T = none ∧ H' = upd H T (.tup [.int (i : Nat), x]) ∧ ∀ xs, SqT K H a xs → xs[i]? = some x, fun i H => ∃ xs : List V, SqT K H a xs ∧ xs.length = i⟩
theorem turn_enumT {P : Program} {w : World} {K : PySem.W.Frag} {elts : List Expr} {kk : Nat} {tpos : Pos} (a e it : Addr) (hae : a ≠ e) (hai : a ≠ it) :
    Turn P w K (.Tuple elts kk tpos) (IteT K a) [e, it] e (fun i h => (∃ old, IsEnum h e it ((i : Nat) : Int) old) ∧ h.IsTupleIter it a i ∧ e ≠ it) where
  mem := by simp
  obj := fun i h st b hb => by
    obtain ⟨⟨old, he⟩, ⟨o, ho, hc, hd⟩, _⟩ := st
    have e' : b = e ∨ b = it := by simpa using hb
    rcases e' with z | z
    · rw [z]; exact ⟨_, he, fun v q => nomatch q⟩
    · rw [z]; exact ⟨o, ho, fun v q => by rw [hd] at q; cases q⟩
  keep := fun i h h' st k => let ⟨⟨old, he⟩, hi, hne⟩ := st; ⟨⟨old, k e (by simp) _ he⟩, hi.at fun o q => k it (by simp) o q, hne⟩
  item := by
    intro X hP hw hK hc i pins s σ H E I hf st hg
    subst hP hw hK
    obtain ⟨⟨old, he⟩, hit, hne⟩ := st
    obtain ⟨xs, x, hq, hx⟩ := hg
    obtain ⟨its, rv, p, hz⟩ := I.tuple hq
    obtain ⟨u, hu, ru⟩ := rv.get hx
    have hel : e < s.heap.objs.size := Heap.lt_size he
    have hil : it < s.heap.objs.size := by obtain ⟨_, q, _⟩ := hit; exact Heap.lt_size q
    have hlt : i < its.toArray.size := by
      have := (List.getElem?_eq_some_iff.mp hu).1
      simpa using this
    have hpt : s.heap.IsTuple a its.toArray := p
    refine wpAny_pyNext_enum_itemD (fp := [it, a]) (Draws.tuple (by show X.A.handled = none; exact I.ok.hd hc) it a hai its.toArray) he ⟨hit, hpt⟩ hlt hne (by simp [hne, Ne.symm hae]) fun v h' tk hPv ho st' hT hsz hk => ?_
    obtain ⟨hit', _⟩ := st'
    have hvu : v = u := by
      have h1 : its.toArray[i]? = some v := hPv
      have h2 : its.toArray[i]? = some u := by simpa using hu
      rw [h1] at h2; cases h2; rfl
    subst hvu
    refine ⟨_, rfl, wpAny_letOwnedTupleGo_enum (s := { s with heap := h', toks := tk + 1 }) ho fun h'' he' sb => ?_⟩
    have hT2 : h''.get? s.heap.objs.size = some { cls := .type "tuple", data := .seq #[.int i tk, v] } := (sb.2 _ (Nat.ne_of_gt hel)).trans hT
    have new : ObjOk X.prog X.w (upd H s.heap.objs.size (.tup [.int (i : Nat), x])) h'' s.heap.objs.size (.tup [.int (i : Nat), x]) :=
      ⟨by show 2 ≤ sizeLine; decide, [.int i tk, v], .cons ⟨_, rfl⟩ (.cons ru .nil), ⟨_, hT2, rfl, _, rfl⟩⟩
    have I1 : Inv X pins σ (upd H s.heap.objs.size (.tup [.int (i : Nat), x])) { s with heap := h'', toks := tk + 1 } :=
      I.turnedNew (ch := [e, it]) (fun b ob hb q => (sb.2 b (fun z => hb (by simp [z]))).trans (hk b ob (fun z => hb (by simp [z])) (fun z => hb (by simp [z])) q)) hf (Nat.le_refl _) new
    refine ⟨.ref s.heap.objs.size, _, I1, rfl, ⟨_, x, rfl, I.hok.fresh (Nat.le_refl _), rfl, fun ys hy => by rw [I.tuple_inj hy hq]; exact hx⟩, ⟨⟨v, ?_⟩, hit'.at fun o q => (sb.2 it (Ne.symm hne)).trans q, hne⟩, fun b hb => ?_⟩
    · have e1 : ((i + 1 : Nat) : Int) = (i : Int) + 1 := by omega
      rw [e1]; exact he'
    · have hb' : b < s.heap.objs.size := by
        have e' : b = e ∨ b = it := by simpa using hb
        rcases e' with z | z
        · rw [z]; exact hel
        · rw [z]; exact hil
      rw [upd_ne (Nat.ne_of_lt hb')]
      exact (hf b hb).1
  done := by
    intro X hP hw hK hc i pins s σ H E I hf st hg
    subst hP hw hK
    obtain ⟨⟨old, he⟩, hit, hne⟩ := st
    obtain ⟨xs, hq, hx⟩ := hg
    obtain ⟨its, rv, p, hz⟩ := I.tuple hq
    obtain ⟨f0, f1, f2, f3, f4, f5⟩ := hf it (by simp)
    have hl := rv.length
    have hpt : s.heap.IsTuple a its.toArray := p
    have hi : i = its.toArray.size := by simp; omega
    exact wpAny_pyNext_enum_endD (fp := [it, a]) (n := its.toArray.size) (Draws.tuple (by show X.A.handled = none; exact I.ok.hd hc) it a hai its.toArray) he (by rw [← hi]; exact ⟨hit, hpt⟩) fun h' eb => ⟨rfl, I.turned (t' := s.toks) (fun b o hb q => eb b o hb q) f0 f1 f3 f4 f5⟩
  self := fun A i s Q E st h => let ⟨⟨_, he⟩, _⟩ := st; wpAny_pyIter_enum he h
def iEnumT (K : PySem.W.Frag) (ta : TA) : TI := fun σ H R => ta σ H fun vs H1 => ∃ a xs, vs = [.ref a] ∧ SqT K H1 a xs ∧ R (IteT K a) H1
theorem pi_enumT {X : Cx} {e : Expr} {ta : TA} {p pos tpos : Pos} {elts : List Expr} {kk : Nat} (hg : Gl X "enumerate") (hm : X.mg "enumerate" = none) (ha : PA X [e] ta) (hs : starEach [e] X.env = [(false, eval e X.env)] := by rfl) :
    PI X (.Tuple elts kk tpos) (.Call (.Name "enumerate" p) [e] [] pos) (iEnumT X.K ta) := by
  refine ⟨fun pins s σ H R I h => ?_⟩
  refine Call_ (ld_blt I hg hm boot_enumerate (PyProof.Rows.callWith_type1 (thn (ha.run pos pins s σ H _ I h) fun us s1 ⟨vs, H1, I1, r1, q1⟩ => ?_) hs rfl))
  obtain ⟨a, xs, ex, hq, q⟩ := q1
  subst ex
  cases r1 with
  | cons r rr =>
    cases rr
    cases r
    obtain ⟨its, rv, p', hz⟩ := I1.tuple hq
    have hpt : s1.heap.IsTuple a its.toArray := p'
    have hal : a < s1.heap.objs.size := by obtain ⟨o, ho, _⟩ := id p'; exact Heap.lt_size ho
    refine enum_begins1 (begins_tuple a its.toArray) hpt fun h' he hit hsz hk => wpAny_pyIter_enum he ?_
    have I2 : Inv X pins σ H1 { s1 with heap := h' } := I1.kept (t' := s1.toks) hk
    refine ⟨s1.heap.objs.size + 1, [s1.heap.objs.size + 1, s1.heap.objs.size], _, _, H1, rfl, I2, turn_enumT a (s1.heap.objs.size + 1) s1.heap.objs.size (Nat.ne_of_lt (Nat.lt_succ_of_lt hal)) (Nat.ne_of_lt hal), ⟨⟨.none, he⟩, ⟨_, hit, rfl, rfl⟩, Nat.succ_ne_self _⟩, fun b hb => ?_, q⟩
    have e' : b = s1.heap.objs.size + 1 ∨ b = s1.heap.objs.size := by simpa using hb
    have hle : s1.heap.objs.size ≤ b := by
      rcases e' with z | z
      · rw [z]; exact Nat.le_add_right _ _
      · rw [z]; exact Nat.le_refl _
    exact I1.fpOk hle (I1.hok.fresh hle)
theorem walk_enumT {K : PySem.W.Frag} {a : Addr} {xs : List V} : Walk (IteT K a) xs.length (fun H => SqT K H a xs) (YPair (fun i => some (.int (i : Nat))) (fun i => xs[i]?)) :=
  ⟨fun i H hi q => ⟨xs, xs[i], q, by simp [hi]⟩, fun H q => ⟨xs, q, rfl⟩, fun i H x H' hi q y => by
    obtain ⟨T, v, h1, h2, h3, h4⟩ := y
    exact ⟨T, _, v, h1, h2, h3, rfl, h4 xs q⟩⟩

/-! ### zip of two texts -/
def ItzS (x y : Str) : It :=
  ⟨fun i H => i < x.cps.size ∧ i < y.cps.size, fun i H v H' => ∃ T c d, v = .ref T ∧ H T = none ∧ H' = upd H T (.tup [.str ⟨#[c]⟩, .str ⟨#[d]⟩]) ∧ x.cps[i]? = some c ∧ y.cps[i]? = some d, fun i H => i = min x.cps.size y.cps.size⟩
theorem sep_new (n : Nat) : ZipSep2 (n + 4) (n + 2) (n + 3) n (n + 1) [n] [n + 1] := by
  constructor <;> simp <;> omega
theorem turn_zipS {P : Program} {w : World} {K : PySem.W.Frag} {elts : List Expr} {kk : Nat} {tpos : Pos} {x y : Str} {t u : Tok} {z TI TO i1 i2 : Addr} (D : ZipSep2 z TI TO i1 i2 [i1] [i2]) :
    Turn P w K (.Tuple elts kk tpos) (ItzS x y) [z, TI, TO, i1, i2] z (fun i h => IsZip h z TI TO .none ∧ IsTupOf2 h TI (.ref i1) (.ref i2) ∧ (∃ x y, IsTupOf2 h TO x y) ∧ h.IsStrIter i1 (strIterType x) x t i ∧ h.IsStrIter i2 (strIterType y) y u i) where
  mem := by simp
  obj := fun i h st c hc => by
    obtain ⟨hz, hTI, ⟨x, y, hTO⟩, ⟨o1, e1, _, d1⟩, ⟨o2, e2, _, d2⟩⟩ := st
    have e' : c = z ∨ c = TI ∨ c = TO ∨ c = i1 ∨ c = i2 := by simpa using hc
    rcases e' with q | q | q | q | q
    · rw [q]; exact ⟨_, hz, fun v q => nomatch q⟩
    · rw [q]; exact ⟨_, hTI, fun v q => nomatch q⟩
    · rw [q]; exact ⟨_, hTO, fun v q => nomatch q⟩
    · rw [q]; exact ⟨o1, e1, fun v q => by rw [d1] at q; cases q⟩
    · rw [q]; exact ⟨o2, e2, fun v q => by rw [d2] at q; cases q⟩
  keep := fun i h h' st k => by
    obtain ⟨hz, hTI, ⟨x, y, hTO⟩, h1, h2⟩ := st
    exact ⟨k z (by simp) _ hz, k TI (by simp) _ hTI, ⟨x, y, k TO (by simp) _ hTO⟩, (let ⟨o, ho, r⟩ := h1; ⟨o, k i1 (by simp) o ho, r⟩), (let ⟨o, ho, r⟩ := h2; ⟨o, k i2 (by simp) o ho, r⟩)⟩
  item := by
    intro X hP hw hK hc i pins s σ H E I hf st hg
    subst hP hw hK
    obtain ⟨hz, hTI, ⟨x0, y0, hTO⟩, h1, h2⟩ := st
    have hh : X.A.in1.handled = none := by show X.A.handled = none; exact I.ok.hd hc
    have hzl : z < s.heap.objs.size := Heap.lt_size hz
    refine wpAny_pyNext_zipD2_item D (Draws.text hh i1 x t) (Draws.text hh i2 y u) hz hTI hTO h1 h2 hg.1 hg.2 fun v1 v2 h' tk p1 p2 z' TO' h1' h2' hT hsz hk => ?_
    obtain ⟨c, t1, hc1, rfl⟩ := p1
    obtain ⟨d, t2, hd1, rfl⟩ := p2
    refine ⟨_, rfl, wpAny_letOwnedTupleGo_zip (s := { s with heap := h', toks := tk }) z' fun h'' z'' sb => ?_⟩
    have hT2 : h''.get? s.heap.objs.size = some { cls := .type "tuple", data := .seq #[.str ⟨#[c]⟩ t1, .str ⟨#[d]⟩ t2] } := (sb.2 _ (Nat.ne_of_gt hzl)).trans hT
    have new : ObjOk X.prog X.w (upd H s.heap.objs.size (.tup [.str ⟨#[c]⟩, .str ⟨#[d]⟩])) h'' s.heap.objs.size (.tup [.str ⟨#[c]⟩, .str ⟨#[d]⟩]) :=
      ⟨by show 2 ≤ sizeLine; decide, [.str ⟨#[c]⟩ t1, .str ⟨#[d]⟩ t2], .cons ⟨_, rfl⟩ (.cons ⟨_, rfl⟩ .nil), ⟨_, hT2, rfl, _, rfl⟩⟩
    have I1 : Inv X pins σ (upd H s.heap.objs.size (.tup [.str ⟨#[c]⟩, .str ⟨#[d]⟩])) { s with heap := h'', toks := tk } :=
      I.turnedNew (t' := tk) (ch := [z, TI, TO, i1, i2]) (fun c o hb q => (sb.2 c (fun q' => hb (by simp [q']))).trans (hk c o (fun q' => hb (by simp [q'])) (fun q' => hb (by simp [q'])) (fun q' => hb (by simp [q'])) (fun q' => hb (by simp [q'])) q)) hf (Nat.le_refl _) new
    refine ⟨.ref s.heap.objs.size, _, I1, rfl, ⟨_, c, d, rfl, I.hok.fresh (Nat.le_refl _), rfl, hc1, hd1⟩, ⟨z'', ?_, ⟨.str ⟨#[c]⟩ t1, .str ⟨#[d]⟩ t2, ?_⟩, ?_, ?_⟩, fun c hcm => ?_⟩
    · exact (sb.2 _ D.TIz).trans (hk _ _ D.TIz D.TITO D.TIi1 D.TIi2 hTI)
    · exact (sb.2 _ D.TOz).trans TO'
    · exact (let ⟨o, ho, r⟩ := h1'; ⟨o, (sb.2 _ (Ne.symm D.zi1)).trans ho, r⟩)
    · exact (let ⟨o, ho, r⟩ := h2'; ⟨o, (sb.2 _ (Ne.symm D.zi2)).trans ho, r⟩)
    · have hlt : c < s.heap.objs.size := by
        have e' : c = z ∨ c = TI ∨ c = TO ∨ c = i1 ∨ c = i2 := by simpa using hcm
        rcases e' with q | q | q | q | q
        · rw [q]; exact hzl
        · rw [q]; exact Heap.lt_size hTI
        · rw [q]; exact Heap.lt_size hTO
        · rw [q]; obtain ⟨_, e1, _⟩ := h1; exact Heap.lt_size e1
        · rw [q]; obtain ⟨_, e2, _⟩ := h2; exact Heap.lt_size e2
      rw [upd_ne (Nat.ne_of_lt hlt)]
      exact (hf c hcm).1
  done := by
    intro X hP hw hK hc i pins s σ H E I hf st hg
    subst hP hw hK
    obtain ⟨hz, hTI, ⟨x0, y0, hTO⟩, h1, h2⟩ := st
    have hh : X.A.in1.handled = none := by show X.A.handled = none; exact I.ok.hd hc
    have hg' : i = min x.cps.size y.cps.size := hg
    exact wpAny_pyNext_zipD2_end D (Draws.text hh i1 x t) (Draws.text hh i2 y u) hz hTI hTO h1 h2 (by omega) (by omega) (by omega) fun h' tk hk => ⟨rfl, I.turnedL (t' := tk) (ch := [z, TI, TO, i1, i2]) (fun c o hb q =>
      hk c o (fun q' => hb (by simp [q'])) (fun q' => hb (by simp [q'])) (fun q' => hb (by simp [q'])) (fun q' => hb (by simp [q'])) q) hf⟩
  self := fun A i s Q E st h => wpAny_pyIter_zip st.1 h
def iZipS (ta : TA) : TI := fun σ H R => ta σ H fun vs H1 => ∃ x y, vs = [.str x, .str y] ∧ R (ItzS x y) H1
theorem pi_zipS {X : Cx} {e e2 : Expr} {ta : TA} {p pos tpos : Pos} {elts : List Expr} {kk : Nat} (hg : Gl X "zip") (hm : X.mg "zip" = none) (ha : PA X [e, e2] ta)
    (hs : starEach [e, e2] X.env = (false, eval e X.env) :: starEach [e2] X.env := by rfl) (hpl : (backTo pos (starEach [e2] X.env)).any (·.1) = false := by rfl) :
    PI X (.Tuple elts kk tpos) (.Call (.Name "zip" p) [e, e2] [] pos) (iZipS ta) := by
  refine ⟨fun pins s σ H R I h => ?_⟩
  refine Call_ (ld_blt I hg hm PyProof.Rows.boot_zip (PyProof.Rows.callWith_type1 (thn (ha.run pos pins s σ H _ I h) fun us s1 ⟨vs, H1, I1, r1, q1⟩ => ?_) hs hpl))
  obtain ⟨x, y, ex, q⟩ := q1
  subst ex
  cases r1 with
  | cons r rr =>
    cases rr with
    | cons r' rr =>
      cases rr
      obtain ⟨t, rfl⟩ := r
      obtain ⟨u, rfl⟩ := r'
      refine zip_begins2 (begins_text x t) (begins_text y u) trivial trivial fun h' hz hTI hTO h1 h2 hsz hk => wpAny_pyIter_zip hz ?_
      have I2 : Inv X pins σ H1 { s1 with heap := h' } := I1.kept (t' := s1.toks) hk
      refine ⟨s1.heap.objs.size + 4, [s1.heap.objs.size + 4, s1.heap.objs.size + 2, s1.heap.objs.size + 3, s1.heap.objs.size, s1.heap.objs.size + 1], _, _, H1, rfl, I2, turn_zipS (x := x) (y := y) (t := t) (u := u) (sep_new s1.heap.objs.size), ⟨hz, hTI, ⟨_, _, hTO⟩, ⟨_, h1, rfl, rfl⟩, ⟨_, h2, rfl, rfl⟩⟩, fun c hcm => ?_, q⟩
      have e' : c = s1.heap.objs.size + 4 ∨ c = s1.heap.objs.size + 2 ∨ c = s1.heap.objs.size + 3 ∨ c = s1.heap.objs.size ∨ c = s1.heap.objs.size + 1 := by simpa using hcm
      have hle : s1.heap.objs.size ≤ c := by
        rcases e' with z | z | z | z | z
        · rw [z]; exact Nat.le_add_right _ _
        · rw [z]; exact Nat.le_add_right _ _
        · rw [z]; exact Nat.le_add_right _ _
        · rw [z]; exact Nat.le_refl _
        · rw [z]; exact Nat.le_add_right _ _
      exact I1.fpOk hle (I1.hok.fresh hle)
theorem walk_zipS {x y : Str} : Walk (ItzS x y) (min x.cps.size y.cps.size) (fun _ => True) (YPair (fun i => (x.cps[i]?).map fun c => .str ⟨#[c]⟩) (fun i => (y.cps[i]?).map fun c => .str ⟨#[c]⟩)) :=
  ⟨fun i H hi _ => ⟨by omega, by omega⟩, fun H _ => rfl, fun i H v H' hi _ h => by
    obtain ⟨T, c, d, h1, h2, h3, h4, h5⟩ := h
    exact ⟨T, _, _, h1, h2, h3, by show (x.cps[i]?).map _ = _; rw [h4]; rfl, by show (y.cps[i]?).map _ = _; rw [h5]; rfl⟩⟩

/-! ### as sources -/
section
variable {X : Cx} {B : Hp} {ρ : Sls} {G : GL} {D : DE}
/-- pairs of data -/
def pairs (n : Nat) (f g : Nat → Dat) : List Dat := (List.range n).map fun i => .tup [f i, g i]
def enumD (k : Nat) : List Dat → List Dat
  | [] => []
  | d :: ds => .tup [.int (k : Nat), d] :: enumD (k + 1) ds
theorem enumD_get : ∀ {ds : List Dat} {k i : Nat} {d : Dat}, ds[i]? = some d → (enumD k ds)[i]? = some (.tup [.int ((k + i : Nat) : Int), d])
  | [], _, _, _, h => by simp at h
  | c :: ds, k, 0, d, h => by simp at h; subst h; simp [enumD]
  | c :: ds, k, i + 1, d, h => by
    have := enumD_get (ds := ds) (k := k + 1) (i := i) (by simpa using h)
    simp only [enumD, List.getElem?_cons_succ]
    rw [this, show k + 1 + i = k + (i + 1) by omega]
theorem enumD_len : ∀ {ds : List Dat} {k : Nat}, (enumD k ds).length = ds.length
  | [], _ => rfl
  | _ :: ds, k => by simp [enumD, enumD_len (ds := ds)]
theorem src_enumT {elts : List Expr} {kk : Nat} {tpos : Pos} {e : Expr} {p pos : Pos} {ds : List Dat} (hm : X.mg "enumerate" = none) (h : Ev X B ρ G e (.tup ds)) (hg : Gl X "enumerate" := by rfl) (he : starEach [e] X.env = (false, eval e X.env) :: starEach [] X.env := by rfl) (hs : starEach [e] X.env = [(false, eval e X.env)] := by rfl) :
    Src X B ρ G (.Tuple elts kk tpos) (.Call (.Name "enumerate" p) [e] [] pos) (enumD 0 ds) TK := ⟨_, pi_enumT hg hm (pa_cons pe_w pa_nil he) hs, fun σ H r s R q => h σ H r s _ fun v H2 e i => by
  simp only [Is] at i
  obtain ⟨a, xs, e1, e2, e3⟩ := i
  refine ⟨a, xs, by rw [e1], SqT.of e2, q _ H2 (fun H' => H' a = some (.tup xs) ∧ TK H2 H') e (fun H' t => ⟨t a xs e2, t⟩) ?_⟩
  rw [enumD_len, ← e3.length]
  exact (walk_enumT (K := X.K) (a := a) (xs := xs)).mono (fun H' g => SqT.of g.1) fun i H' x H'' hi g y => by
    obtain ⟨T, u, v, h1, h2, h3, h4, h5⟩ := y
    cases h4
    subst h3
    obtain ⟨d, hd, hv⟩ := e3.get' h5
    have t := g.2.trans (.of (Same.new (o := .tup [.int (i : Nat), v]) h2))
    refine ⟨Same.new h2, _, enumD_get hd, ?_⟩
    simp only [Is]
    exact ⟨T, _, h1, upd_same, .cons (by simp only [Is]; simp) (.cons (Is.mono t _ _ hv) .nil)⟩⟩
def zipS (x y : Str) : List Dat := (List.range (min x.cps.size y.cps.size)).map fun i => .tup [.str ⟨#[x.cps.getD i 0]⟩, .str ⟨#[y.cps.getD i 0]⟩]
theorem src_zipS {elts : List Expr} {kk : Nat} {tpos : Pos} {a b : Expr} {p pos : Pos} {x y : Str} (hm : X.mg "zip" = none) (h : Ev X B ρ G a (.str x)) (h' : Ev X B ρ G b (.str y)) (hg : Gl X "zip" := by rfl) (hs : starEach [a, b] X.env = (false, eval a X.env) :: starEach [b] X.env := by rfl) (hs2 : starEach [b] X.env = (false, eval b X.env) :: starEach [] X.env := by rfl) (hpl : (backTo pos (starEach [b] X.env)).any (·.1) = false := by rfl) :
    Src X B ρ G (.Tuple elts kk tpos) (.Call (.Name "zip" p) [a, b] [] pos) (zipS x y) Same := ⟨_, pi_zipS hg hm (pa_cons pe_w (pa_cons pe_w pa_nil hs2) hs) hs hpl, fun σ H r s R q => h σ H r s _ fun v H2 e i => h' σ H2 (r.ext e) (s.ext e) _ fun v' H3 e' i' => by
  simp only [Is] at i i'
  refine ⟨x, y, by rw [i, i'], q _ H3 (fun _ => True) (e.trans e') (fun _ _ => trivial) ?_⟩
  have hl : (zipS x y).length = min x.cps.size y.cps.size := by simp [zipS]
  rw [hl]
  exact walk_zipS.mono (fun _ g => g) fun i H' v H'' hi g hy => by
    obtain ⟨T, u, v, h1, h2, h3, h4, h5⟩ := hy
    subst h3
    obtain ⟨c, hc, rfl⟩ := Option.map_eq_some_iff.mp h4
    obtain ⟨d, hd, rfl⟩ := Option.map_eq_some_iff.mp h5
    refine ⟨Same.new h2, .tup [.str ⟨#[c]⟩, .str ⟨#[d]⟩], ?_, ?_⟩
    · simp only [zipS, List.getElem?_map, List.getElem?_range hi, Option.map_some, Array.getD_eq_getD_getElem?, hc, hd, Option.getD_some]
    · simp only [Is]
      exact ⟨T, _, h1, upd_same, .cons (by simp only [Is]) (.cons (by simp only [Is]) .nil)⟩⟩
end
end Bk
set_option Elab.async false
set_option linter.all false
set_option autoImplicit false
set_option maxRecDepth 100000
set_option maxHeartbeats 1000000
/-! sorted(text), list(text), tuple[::-1], tuple * 1. -/
namespace Bk
open PySem PySem.Spec PyProof.Rows L2
def chars (z : Str) : List Str := z.cps.toList.map fun c => ⟨#[c]⟩
section
variable {X : Cx}
theorem call_sortedTxt (hcalm : X.calm = true) : CallR X (.builtin "sorted") (fun xs H Q => ∃ z : Str, xs = [.str z] ∧ z.cps.size < 64 ∧
    ∀ ys p, ys.Perm (chars z) → sortedS ys = true → H p = none → Q (.ref p) (upd H p (.lst (ys.map V.str)))) := by
  intro pins s σ H xs us Q I r q
  obtain ⟨z, ex, h64, q⟩ := q
  subst ex
  obtain ⟨u, eu, rx⟩ := vals1 r
  subst eu
  obtain ⟨t, rfl⟩ := rx
  have h16 : z.cps.size ≤ sizeLine := by rw [sizeLine_eq]; omega
  refine Calls.call_function_entry PyProof.Rows.kind_sorted PyProof.Rows.plain_sorted PyProof.Rows.entry_sorted (PyProof.Rows.args_sorted1 _) ?_
  unfold Builtin.«sorted»
  refine wpAny_bind (m := checkCount "sorted" 1 1 _) (wpAny_pure ?_)
  refine wpAny_bind (wpAny_collect_str (A := X.A.in1) (by show X.A.handled = none; exact I.ok.hd hcalm) z t (fun s' acc hk hg hd ho hacc => ?_) h16)
  obtain ⟨h', g', d', tk, os'⟩ := s'
  replace hk : ∀ b o, s.heap.get? b = some o → h'.get? b = some o := hk
  replace hg : g' = s.gens := hg
  replace hd : d' = s.drawn := hd
  replace ho : os' = s.os := ho
  subst hg hd ho
  have hal : acc.toList.length = (chars z).length := by simp [chars, hacc.1]
  have hS : StrsAre acc.toList (chars z) := strs_at hal fun j v e => by
    obtain ⟨c, u, e1, e2⟩ := hacc.2 j v (by rw [← Array.getElem?_toList]; exact e)
    exact ⟨⟨#[c]⟩, u, by simp [chars, e1], e2⟩
  have I1 : Inv X pins σ H { s with heap := h', toks := tk } := I.kept hk
  have hcl : (chars z).length < 64 := by simp [chars]; omega
  refine wpAny_bind (wpAny_newList ?_ (by rw [hal, sizeLine_eq]; omega))
  have hoL : (h'.push (seqObj "list" acc.toList.toArray 0)).get? h'.objs.size = some (seqObj "list" acc.toList.toArray 0) := Heap.get?_push_size _ rfl
  show wpAny _ _ _ _ _ { s with heap := h'.push (seqObj "list" acc.toList.toArray 0), toks := tk }
  refine wpAny_bind (wpAny_holding (wpAny_call_entry PyProof.Rows.slot_list_sort ⟨_, hoL, rfl⟩ PyProof.Rows.entry_list_sort
    (list_sort_treeK strKind_oneLt (s := { s with heap := h'.push (seqObj "list" acc.toList.toArray 0), toks := tk }) hoL hS.keysOf (fun v₁ v₂ rest e => keyKind_strs (by rw [← e]; exact hS)) (by rw [hal]; exact hcl) fun st' hp hs => ⟨_, rfl, ?_⟩)
    (PyProof.Rows.args_list_sort _)))
  obtain ⟨ys, g1, g2, g3⟩ := sorted_out_str hS hp hs
  obtain ⟨e', he'⟩ := PyProof.Rows.sortedHeap_at (vs := acc.toList) (out := (arrOf st').map (·.2)) hoL
  have hlen : (ys.map V.str).length ≤ sizeLine := by
    rw [List.length_map, g2.length_eq]
    exact Nat.le_trans (Nat.le_of_lt hcl) (by decide)
  refine wpAny_pure ⟨_, rfl, .ref h'.objs.size, upd H h'.objs.size (.lst (ys.map V.str)), I1.laid (t' := tk) (fun b u e => ?_) (Nat.le_refl _)
    (show ObjOk X.prog X.w _ _ _ (.lst (ys.map V.str)) from ⟨hlen, ((arrOf st').map (·.2)).toList, e', vals_of_strs g1, by rw [Array.toArray_toList]; exact he'⟩), rfl, q ys _ g2 g3 (I1.hok.fresh (Nat.le_refl _))⟩
  have hb : b < h'.objs.size := Heap.lt_size e
  rw [PyProof.Rows.sortedHeap_old (Nat.ne_of_lt hb) (by rw [size_push']; exact Nat.lt_succ_of_lt hb)]
  exact Heap.get?_push_of_some _ e
theorem call_listTxt (hcalm : X.calm = true) : CallR X (.type "list") (fun xs H Q => ∃ z : Str, xs = [.str z] ∧ z.cps.size ≤ sizeLine ∧ ∀ p, H p = none → Q (.ref p) (upd H p (.lst ((chars z).map V.str)))) := by
  intro pins s σ H xs us Q I r q
  obtain ⟨z, ex, h16, q⟩ := q
  subst ex
  obtain ⟨u, eu, rx⟩ := vals1 r
  subst eu
  obtain ⟨t, rfl⟩ := rx
  refine call_list_str (I.ok.hd hcalm) z t (fun h' tk acc c' hk he hacc => ?_) h16
  have hal : acc.toList.length = (chars z).length := by simp [chars, hacc.1]
  have hS : StrsAre acc.toList (chars z) := strs_at hal fun j v e => by
    obtain ⟨c, u, e1, e2⟩ := hacc.2 j v (by rw [← Array.getElem?_toList]; exact e)
    exact ⟨⟨#[c]⟩, u, by simp [chars, e1], e2⟩
  refine ⟨.ref s.heap.objs.size, _, I.laid (t' := tk) (o := .lst ((chars z).map V.str)) hk (Nat.le_refl _) ⟨?_, acc.toList, c', vals_of_strs hS, ?_⟩, rfl, q _ (I.hok.fresh (Nat.le_refl _))⟩
  · simp [chars]; exact h16
  · rw [Array.toArray_toList]; exact he

/-! ### tuple[::-1] -/
theorem adjust_rev (n : Nat) : Builtin.Slice.sliceAdjust none none (-1) (n : Int) = ((n : Int) - 1, -1) := rfl
theorem places_rev (n : Nat) : Builtin.Slice.slicePlaces ((n : Int) - 1) (-1) (-1) = n := by
  unfold Builtin.Slice.slicePlaces
  have h1 : ¬ ((-1 : Int) > 0) := by omega
  rw [if_neg h1, show (-(-1) : Int) = 1 by omega, Int.ediv_one]
  split <;> omega
theorem fm_congr {A B : Type} {f g : A → Option B} : ∀ l : List A, (∀ x ∈ l, f x = g x) → l.filterMap f = l.filterMap g
  | [], _ => rfl
  | x :: l, h => by
    rw [List.filterMap_cons, List.filterMap_cons, h x (by simp), fm_congr l fun y hy => h y (List.mem_cons_of_mem _ hy)]
theorem pick_rev (xs : Array Value) : ((List.range xs.size).filterMap fun (m : Nat) => xs[(((xs.size : Int) - 1) + (m : Int) * (-1)).toNat]?).toArray = xs.toList.reverse.toArray := by
  congr 1
  have e : ((List.range xs.size).filterMap fun (m : Nat) => xs[(((xs.size : Int) - 1) + (m : Int) * (-1)).toNat]?) = ((List.range xs.size).map fun k => xs.size - 1 - k).filterMap (xs[·]?) := by
    rw [List.filterMap_map]
    refine fm_congr _ fun m hm => ?_
    have := List.mem_range.mp hm
    show _ = xs[xs.size - 1 - m]?
    congr 1
    omega
  rw [e, PySem.W.krv_range, List.filterMap_reverse, PySem.W.krv_all]
section
variable {prog : Program} {w : World} {A : Around} {E : Value → Shared → Prop} {s : Shared}
theorem sliceApplied_rev {sl : Addr} {vs : Value} {n : Nat} {Q : Int × Int × Nat → Shared → Prop} (hs : s.heap.IsSliceOf sl .none .none vs) (ps : IsPart vs (some (-1)))
    (h : Q ((n : Int) - 1, -1, n) s) : wpAny (model prog w) A (Builtin.Slice.sliceApplied (.ref sl) (pure (n : Int))) Q E s := by
  obtain ⟨os, hos, hcs, hds⟩ := id hs
  unfold Builtin.Slice.sliceApplied Builtin.Slice.sliceFields
  refine wpAny_bind (wpAny_bind (wpAny_field hos hds (x := .none) rfl (wpAny_bind (wpAny_field hos hds (x := .none) rfl (wpAny_bind (wpAny_field hos hds (x := vs) rfl (wpAny_pure ?_)))))))
  refine wpAny_bind (HT.slicePart_ ps ?_)
  show wpAny _ _ (if ((-1 : Int) == 0) = true then _ else _) _ _ s
  rw [if_neg (by decide)]
  refine wpAny_bind (HT.slicePart_ .none (wpAny_bind (HT.slicePart_ .none (wpAny_bind (wpAny_pure ?_)))))
  show wpAny _ _ (match Builtin.Slice.sliceAdjust none none (-1) (n : Int) with | (lo, hi) => pure (lo, (-1 : Int), Builtin.Slice.slicePlaces lo hi (-1))) _ _ s
  rw [adjust_rev n]
  show wpAny _ _ (pure ((n : Int) - 1, (-1 : Int), Builtin.Slice.slicePlaces ((n : Int) - 1) (-1) (-1))) _ _ s
  rw [places_rev]
  exact wpAny_pure h
theorem getItem_tuple_rev {t sl : Addr} {items : Array Value} {vs : Value} {Q : Value → Shared → Prop} (ht : IsTup s.heap t items) (hs : s.heap.IsSliceOf sl .none .none vs) (ps : IsPart vs (some (-1)))
    (h : Q (.ref s.heap.objs.size) { s with heap := s.heap.push { cls := .type "tuple", data := .seq items.toList.reverse.toArray } })
    (hsz : items.size ≤ sizeLine) : wpAny (model prog w) A (getItem (.ref t) (.ref sl)) Q E s := by
  have htake : sizeOk (.seq items.toList.reverse.toArray) := by
    show items.toList.reverse.toArray.size ≤ sizeLine
    simpa using hsz
  obtain ⟨os, hos, hcs, hds⟩ := id hs
  have hTs : s.TypeIs (.ref sl) "slice" := ⟨os, hos, hcs⟩
  unfold getItem
  try with_reducible refine wpAny_holding ?_
  first | refine wpAny_bind (wpAny_pure ?_) | skip
  refine wpAny_bind (wpAny_sequenceKey ht.typeIs (by decide) ?_)
  refine wpAny_bind (wpAny_callSpecial?_slot (name := Str.ofString "__getitem__") ht.typeIs PyProof.Rows.slot_tuple_getitem
    (wpAny_call_entry PyProof.Rows.slot_tuple_getitem ht.typeIs entry_tuple_getitem ?_ (args_tuple_getitem _ _)))
  show wpAny _ _ (Builtin.Tuple.tupleItemsOf (.ref t) >>= _) _ _ s
  refine wpAny_bind (tupleItemsOf_ ht ?_)
  refine wpAny_bind (wpAny_typeOf hTs ?_)
  rw [if_pos (by decide)]
  refine wpAny_bind (sliceApplied_rev hs ps ?_)
  have hno : ¬ ((((items.size : Int) - 1) == 0 && (-1 : Int) == 1 && items.size == items.size) = true) := by
    intro q
    rw [Bool.and_eq_true, Bool.and_eq_true] at q
    exact absurd q.1.2 (by decide)
  show wpAny _ _ (if (((items.size : Int) - 1) == 0 && (-1 : Int) == 1 && items.size == items.size) = true then _ else _) _ _ s
  rw [if_neg hno, pick_rev]
  first
    | exact wpAny_bind (m := Builtin.Tuple.tupleExact _) (wpAny_newObj_type (wpAny_pure ⟨_, rfl, wpAny_pure h⟩) htake)
    | exact wpAny_bind (m := Builtin.Tuple.tupleExact _) (wpAny_newObj_type (wpAny_bind (wpAny_pure (wpAny_pure ⟨_, rfl, wpAny_pure h⟩))) htake)
    | exact wpAny_bind (wpAny_bind (m := Builtin.Tuple.tupleExact _) (wpAny_newObj_type (wpAny_pure (wpAny_pure ⟨_, rfl, wpAny_pure h⟩)) htake))
    | exact wpAny_bind (wpAny_bind (m := Builtin.Tuple.tupleExact _) (wpAny_newObj_type (wpAny_pure ⟨_, rfl, wpAny_pure h⟩) htake))
end
def tRevT (K : PySem.W.Frag) (te : TE) : TE := fun σ H Q => te σ H fun x H1 => ∃ a xs, x = .ref a ∧ SqT K H1 a xs ∧ ∀ p, H1 p = none → Q (.ref p) (upd H1 p (.tup xs.reverse))
theorem pe_revT {e : Expr} {te : TE} {k : Nat} {p1 p2 p3 pos : Pos} (he : PE X e te) : PE X (.Subscript e (.Slice none none (some (.UnaryOp .USub (.Constant (.int 1) k p1) p2)) p3) pos) (tRevT X.K te) := by
  refine ⟨fun pins s σ H Q I h => ?_⟩
  refine Subscript_ (thn (he.run pins s σ H _ I h) fun v s1 ⟨x, H1, I1, r1, q1⟩ => ?_)
  obtain ⟨a, xs, ex, hx, q⟩ := q1
  subst ex
  cases r1
  have hst : PO X (some (.UnaryOp .USub (.Constant (.int 1) k p1) p2)) (tPart (tUn (rU fun i => .int (-i)) (tC (.int 1)))) := po_some (pe_un un_neg pe_int)
  refine wpAny_Slice (thn (po_none.run pins s1 σ H1 (fun o H2 => o = none ∧ H2 = H1) I1 ⟨rfl, rfl⟩) fun vl s2 ⟨l, H2, I2, pl, el, e2⟩ => ?_)
  subst el e2
  refine thn (po_none.run pins s2 σ H2 (fun o H3 => o = none ∧ H3 = H2) I2 ⟨rfl, rfl⟩) fun vu s3 ⟨u, H3, I3, pu, eu, e3⟩ => ?_
  subst eu e3
  refine thn (hst.run pins s3 σ H3 (fun o H4 => o = some (-1) ∧ H4 = H3) I3 ⟨1, rfl, -1, rfl, rfl, rfl⟩) fun vs s4 ⟨o, H4, I4, ps, eo, e4⟩ => ?_
  subst eo e4
  cases pl
  cases pu
  have I5 : Inv X pins σ H4 { s4 with heap := s4.heap.push { cls := .type "slice", data := .fields #[.none, .none, vs] } } := I4.kept (t' := s4.toks) fun b ob q => Heap.get?_push_of_some _ q
  obtain ⟨its, r, ht, hz⟩ := I5.tuple hx
  have hlen := r.length
  show wpAny (model X.prog X.w) X.A (subscriptTail e (.Slice none none (some (.UnaryOp .USub (.Constant (.int 1) k p1) p2)) p3) (.ref a) (.ref s4.heap.objs.size)) (EP X pins σ Q) X.xe { s4 with heap := s4.heap.push { cls := .type "slice", data := .fields #[.none, .none, vs] } }
  refine tail_any (ops := [.ref a, .ref s4.heap.objs.size]) ht.typeIs (PyProof.Rows.slot_tuple_getitem.lookup) ?_ (by with_unfolding_all rfl)
  refine getItem_tuple_rev ht (Heap.IsSliceOf.new _ _ _ vs) ps ?_ (by rw [List.size_toArray]; omega)
  refine ⟨.ref _, _, I5.laid (t' := s4.toks) (o := .tup xs.reverse) (fun b ob q => Heap.get?_push_of_some _ q) (Nat.le_refl _) ?_, rfl, q _ (I5.hok.fresh (Nat.le_refl _))⟩
  exact ⟨by rw [List.length_reverse]; exact hz, _, r.reverse, IsTup.new _ _⟩

/-! ### tuple * 1 -/
theorem tuple_mul1 (l : Addr) (items : Array Value) (n : Nat) (dd : Option Addr) (sl : Array (Option Value)) (u : Tok) :
    Meets (Builtin.«tuple.__mul__» ⟨[.ref l, .int 1 u], []⟩) (fun _ R s => s.heap.get? l = some { cls := .type "tuple", dict := dd, data := .seq items n, slots := sl } ∧ R (.ok (.ret (Value.ref l))) s) :=
  .of_wp fun prog w A R s h => by
    obtain ⟨hp, g, d, tk, os⟩ := s
    obtain ⟨hl, h⟩ := h
    have f1 := AutoSeq1.idx_int
    wp_walk using wpAny_loadPart' hl
    exact ⟨_, rfl, h⟩
def rRep1 (K : PySem.W.Frag) : R2 := fun x y H Q => ∃ l xs, x = .ref l ∧ y = .int 1 ∧ SqT K H l xs ∧ Q (.ref l) H
theorem op_rep1 : OpR X (binaryOp .Mult) (rRep1 X.K) := by
  intro pins s σ H x y v u Q I rx ry h
  obtain ⟨l, xs, rfl, rfl, hT, q⟩ := h
  cases rx
  obtain ⟨t, rfl⟩ := ry
  obtain ⟨its, r, ⟨⟨cls, dd, data, sl⟩, ho, hc, n, hd⟩, hs⟩ := I.tuple hT
  simp only at hc hd
  subst hc hd
  refine wpAny_binaryOp_repeat_ref (T := "tuple") (U := "int") (by decide) ⟨_, ho, rfl⟩ (fun s' => typeIs_int s' 1 t) noFill_tuple_mul F.fills_int_mul F.slot_int_rmul repeat_tuple F.slot_int_index.lookup
    (call_meets F.slot_int_rmul (typeIs_int s 1 t) F.entry_int_rmul (F.args_int_rmul_2 _ _) (int_rmul_tuple 1 t l its.toArray n dd sl)
      ⟨ho, rfl, ⟨_, ho, rfl⟩, call_meets F.slot_tuple_mul ⟨_, ho, rfl⟩ F.entry_tuple_mul (F.args_tuple_mul_2 _ _) (tuple_mul1 l its.toArray n dd sl t) ⟨ho, ?_⟩⟩)
  exact ⟨.ref l, H, I, rfl, q⟩
end
end Bk
set_option Elab.async false
set_option linter.all false
set_option autoImplicit false
set_option maxRecDepth 100000
set_option maxHeartbeats 1000000
/-! Dicts whose keys are nested tuples; dicts from texts to ints. -/
namespace Bk
open PySem PySem.Spec PyProof.Rows L2
/-- what stands at a key -/
def look (kvs : List (Dat × Dat)) (k : NestedKey) : Option Dat := (kvs.find? fun kv => decide (kv.1.nk = k)).map (·.2)
theorem paired_mem {A B : Type} {F : A → B → Prop} : ∀ {l : List A} {l' : List B}, Paired F l l' → ∀ y ∈ l', ∃ x ∈ l, F x y
  | _, _, .nil, _, h => by cases h
  | _, _, .cons h t, y, hy => by
    rcases List.mem_cons.mp hy with e | e
    · rw [e]; exact ⟨_, List.mem_cons_self, h⟩
    · obtain ⟨x, h1, h2⟩ := paired_mem t y e
      exact ⟨x, List.mem_cons_of_mem _ h1, h2⟩
theorem look_at {H : Hp} {k : NestedKey} : ∀ {kvs : List (Dat × Dat)} {xs : List (NestedKey × Addr × Value)}, Paired (NdRel H) kvs xs →
    (look kvs k = none ∧ atKey xs k = none) ∨ ∃ d p v, look kvs k = some d ∧ atKey xs k = some p ∧ RelV v p.2 ∧ Is H d v
  | _, _, .nil => .inl ⟨rfl, rfl⟩
  | kv :: kvs, x :: xs, .cons h t => by
    obtain ⟨h1, h2, h3, h4, v, h5, h6⟩ := h
    by_cases e : kv.1.nk = k
    · refine .inr ⟨kv.2, x.2, v, ?_, ?_, h5, h6⟩
      · simp [look, List.find?_cons, e]
      · have : x.1 = k := by rw [h1, e]
        simp [atKey, List.find?_cons, this]
    · have e2 : ¬ x.1 = k := by rw [h1]; exact e
      have l1 : look (kv :: kvs) k = look kvs k := by simp [look, List.find?_cons, e]
      have l2 : atKey (x :: xs) k = atKey xs k := by simp [atKey, List.find?_cons, e2]
      rw [l1, l2]
      exact look_at t
section
variable {X : Cx} {pins : List (Addr × Obj)} {σ : L2.St} {H : Hp} {s : Shared} {p : Addr} {kvs : List (Dat × Dat)}
theorem nd_at (I : Inv X pins σ H s) (h : ORep X.prog X.w H p (.nd kvs)) : ∃ xs, H p = some (ndO X.prog X.w p xs) ∧ kvs.length ≤ sizeLine ∧ (p == sysModules) = false ∧ Paired (NdRel H) kvs xs ∧ s.heap.DictOfH (nestedKind X.prog X.w) p xs := by
  obtain ⟨xs, e, z, m, rel⟩ := h
  obtain ⟨⟨o, es, ep, ho, hx, hd, he, hn⟩, _⟩ := I.hok p _ e
  refine ⟨xs, e, z, m, rel, o, es, ep, ho, hx, hd, he, fun x hx' => ?_, hn⟩
  obtain ⟨kv, _, h1, h2, h3, h4, v, h5, h6⟩ := paired_mem rel x hx'
  refine ⟨?_, by rw [h1]; exact h3⟩
  rw [h1]
  exact Is.nk I.hok _ _ _ h2 h4 rfl
/-- a key: a nested tuple -/
def KeyAt (H : Hp) (kd : Dat) (x : V) : Prop := (∃ ds, kd = .tup ds) ∧ kd.clean = true ∧ kd.nk.depth ≤ 8 ∧ Is H kd x
theorem KeyAt.ref {kd : Dat} {x : V} {u : Value} (h : KeyAt H kd x) (r : RelV x u) : ∃ a, x = .ref a ∧ u = .ref a := by
  obtain ⟨⟨ds, rfl⟩, _, _, h⟩ := h
  simp only [Is] at h
  obtain ⟨a, xs, rfl, _⟩ := h
  exact ⟨a, rfl, r⟩
theorem KeyAt.is {kd : Dat} {a : Addr} (I : Inv X pins σ H s) (h : KeyAt H kd (.ref a)) : (nestedKind X.prog X.w).is s.heap kd.nk a :=
  ⟨Is.nk I.hok _ _ _ h.2.1 h.2.2.2 rfl, h.2.2.1⟩
theorem nd_room {A : Around} (hu : A.units + 64 < cLine) : (nestedKind X.prog X.w).room A.in1 := by
  show A.in1.units + 8 < cLine
  have : A.in1.units = A.units + 1 := rfl
  omega
def rNotInN (P : Program) (w : World) : R2 := fun x y H Q => ∃ p kvs kd, y = .ref p ∧ ORep P w H p (.nd kvs) ∧ KeyAt H kd x ∧ Q (.bl (!(look kvs kd.nk).isSome)) H
theorem op_notInN (hu : X.A.units + 64 < cLine) : OpR X (compareOp .NotIn) (rNotInN X.prog X.w) := by
  intro pins s σ H x y v u Q I rx ry h
  obtain ⟨p, kvs, kd, rfl, ho, hk, q⟩ := h
  cases ry
  obtain ⟨a, rfl, rfl⟩ := hk.ref rx
  obtain ⟨xs, e, z, m, rel, dd⟩ := nd_at I ho
  refine wpAny_notIn_heap (nd_room hu) (hk.is I) m dd ?_
  rcases look_at rel (k := kd.nk) with ⟨h1, h2⟩ | ⟨d, pp, v, h1, h2, _, _⟩
  · rw [h1] at q; rw [h2]
    exact ⟨.bl true, H, I.tok _, rfl, q⟩
  · rw [h1] at q; rw [h2]
    exact ⟨.bl false, H, I.tok _, rfl, q⟩
def tNGet (P : Program) (w : World) (td ty : TE) : TE := fun σ H Q => td σ H fun x H1 => ty σ H1 fun y H2 => ∃ p kvs kd d, x = .ref p ∧ ORep P w H2 p (.nd kvs) ∧ KeyAt H2 kd y ∧ look kvs kd.nk = some d ∧ ∀ v, Is H2 d v → Q v H2
theorem pe_nget {o i : Expr} {pos : Pos} {td ty : TE} (hu : X.A.units + 64 < cLine) (ho : PE X o td) (hi : PE X i ty) (hs : NoSl i) : PE X (.Subscript o i pos) (tNGet X.prog X.w td ty) := by
  refine ⟨fun pins s σ H Q I h => ?_⟩
  refine subD_of PySem.F.slot_dict_getitem.lookup hs (thn (ho.run pins s σ H _ I h) fun u s1 ⟨x, H1, I1, rx, q1⟩ => thn (hi.run pins s1 σ H1 _ I1 q1) fun iv s2 ⟨y, H2, I2, ry, p, kvs, kd, d, ex, hp, hk, hl, q2⟩ => ?_)
  subst ex
  obtain rfl : u = Value.ref p := rx
  obtain ⟨a, rfl, rfl⟩ := hk.ref ry
  obtain ⟨xs, e, z, m, rel, dd⟩ := nd_at I2 hp
  rcases look_at rel (k := kd.nk) with ⟨h1, h2⟩ | ⟨d', pp, v, h1, h2, h3, h4⟩
  · rw [h1] at hl; cases hl
  · rw [h1] at hl; cases hl
    exact ⟨dd.typeIs, wpAny_getItem_heap (nd_room hu) (hk.is I2) dd h2 ⟨v, H2, I2.tok _, h3, q2 v h4⟩⟩
/-- the object changed -/
theorem ndO_ok {P : Program} {w : World} {H : Hp} {h : Heap} {xs : List (NestedKey × Addr × Value)} (d : h.DictOfH (nestedKind P w) p xs) : ObjOk P w H h p (ndO P w p xs) := by
  obtain ⟨o, es, ep, ho, hx, hd, he, _, hn⟩ := d
  exact ⟨⟨o, es, ep, ho, hx, hd, he, hn⟩, ⟨o, ho⟩, fun h1 h2 ⟨o1, es1, ep1, ho1, r⟩ k => ⟨o1, es1, ep1, k o1 ho1, r⟩⟩
theorem nd_put {A : Around} {E : Value → Shared → Prop} {Q : Unit → Shared → Prop} {kd d : Dat} {x v : V} {u r : Value} (hu : A.units + 64 < cLine) (I : Inv X pins σ H s) (hp : ORep X.prog X.w H p (.nd kvs)) (hk : KeyAt H kd x) (hl : look kvs kd.nk = none) (hz : kvs.length < sizeLine) (rx : RelV x u) (rv : RelV v r) (hv : Is H d v)
    (h : ∀ s' ho, ORep X.prog X.w (upd H p ho) p (.nd (kvs ++ [(kd, d)])) → Inv X pins σ (upd H p ho) s' → Q () s') : wpAny (model X.prog X.w) A (setItem (.ref p) u r) Q E s := by
  obtain ⟨a, rfl, rfl⟩ := hk.ref rx
  obtain ⟨xs, e, z, m, rel, dd⟩ := nd_at I hp
  have hxl : xs.length ≤ sizeLine := by rw [← Paired.length rel]; exact z
  have hn : atKey xs kd.nk = none := by
    rcases look_at rel (k := kd.nk) with ⟨h1, h2⟩ | ⟨d', pp, v, h1, h2, h3, h4⟩
    · exact h2
    · rw [h1] at hl; cases hl
  refine wpAny_setItem_heap (hsz := hxl) (nd_room (X := X) hu) (hk.is I) dd fun h' dd' hs => ?_
  rw [storedH_new hn] at dd'
  have tk : TK H (upd H p (ndO X.prog X.w p (xs ++ [(kd.nk, a, r)]))) := TK.upd (by rw [e]; trivial)
  have he : ∃ q, h'.get? p = some q := let ⟨q, _, _, hq, _⟩ := dd'; ⟨q, hq⟩
  refine h _ (ndO X.prog X.w p (xs ++ [(kd.nk, a, r)])) ⟨_, upd_same, ?_, m, ?_⟩ (I.write (x := p) (e := p) (by rw [e]; exact True.intro) (.inl rfl) (fun b q hb z => (hs.2 b hb).trans z) he (ndO_ok dd'))
  · rw [List.length_append]; exact hz
  · have r1 := Paired.mapP rel fun _ _ r => NdRel.mono tk r
    have r2 : Paired (NdRel (upd H p (ndO X.prog X.w p (xs ++ [(kd.nk, a, r)])))) [(kd, d)] [(kd.nk, a, r)] := .cons ⟨rfl, hk.2.1, hk.2.2.1, Is.mono tk _ _ hk.2.2.2, v, rv, Is.mono tk _ _ hv⟩ .nil
    exact paired_append r1 r2
where
  paired_append {A B : Type} {F : A → B → Prop} : ∀ {l1 l2 : List A} {m1 m2 : List B}, Paired F l1 m1 → Paired F l2 m2 → Paired F (l1 ++ l2) (m1 ++ m2)
    | _, _, _, _, .nil, h => h
    | _, _, _, _, .cons h t, h' => .cons h (paired_append t h')
end

section
variable {X : Cx} {B : Hp} {ρ : Sls} {G : GL} {D : DE}
theorem nomarkN (b : Expr) (hm : behindInMarks .NotIn b = false) : behindInMarks .NotIn b = false := hm
/-- k not in d -/
theorem et_ninN {a b : Expr} {kd : Dat} {p : Addr} {kvs : List (Dat × Dat)} {pos : Pos} (hu : X.A.units + 64 < cLine) (ha : Ev X B ρ G a kd) (hb : Ev X B ρ G b (.adr p)) (ho : Oat X.prog X.w B G p (.nd kvs)) (hk : (∃ ds, kd = .tup ds) ∧ kd.clean = true ∧ kd.nk.depth ≤ 8) (hm : behindInMarks .NotIn b = false := by rfl) :
    Et X B ρ G (.Compare a [.NotIn] [b] pos) (!(look kvs kd.nk).isSome) := et_cmp (op_notInN hu) ha hb (fun H r x y hx hy Q q => by
  simp only [Is] at hy
  exact ⟨p, kvs, kd, hy, r.oat ho, ⟨hk.1, hk.2.1, hk.2.2, hx⟩, q _ H (Same.refl H) (by simp only [Is])⟩) hm
/-- d[k] -/
theorem ev_nget {a b : Expr} {kd d : Dat} {p : Addr} {kvs : List (Dat × Dat)} {pos : Pos} (hu : X.A.units + 64 < cLine) (ha : Ev X B ρ G a (.adr p)) (hb : Ev X B ρ G b kd) (ho : Oat X.prog X.w B G p (.nd kvs)) (hk : (∃ ds, kd = .tup ds) ∧ kd.clean = true ∧ kd.nk.depth ≤ 8) (hl : look kvs kd.nk = some d) (hs : NoSl b := by exact fun _ _ => rfl) :
    Ev X B ρ G (.Subscript a b pos) d := fun σ H r s Q q =>
  WE.of (pe_nget hu pe_w pe_w hs) (ha σ H r s _ fun x H1 e1 i1 => hb σ H1 (r.ext e1) (s.ext e1) _ fun y H2 e2 i2 => by
    simp only [Is] at i1
    exact ⟨p, kvs, kd, d, i1, ((r.ext e1).ext e2).oat ho, ⟨hk.1, hk.2.1, hk.2.2, i2⟩, hl, fun v hv => q v H2 (e1.trans e2) hv⟩)
/-- d[k] = e, the key is new -/
theorem s1_nput {o i e : Expr} {pos pos' : Pos} {p : Addr} {kd : Dat} {post : Dat → GL → Prop} (hu : X.A.units + 64 < cLine) (hv : Ew X B ρ G e post)
    (hk : ∀ d G', post d G' → Ev X B ρ G' o (.adr p) ∧ Ev X B ρ G' i kd ∧ ∃ (j : Nat) (kvs : List (Dat × Dat)), G'[j]? = some (p, DO.nd kvs) ∧ look kvs kd.nk = none ∧ kvs.length < sizeLine ∧ D.nx ρ (G'.set j (p, DO.nd (kvs ++ [(kd, d)]))))
    (hkd : (∃ ds, kd = .tup ds) ∧ kd.clean = true ∧ kd.nk.depth ≤ 8) (hs : swapsWith e (some (.Subscript o i pos')) pos.line X.env = pure false := by rfl) : S1 X B ρ G (.Assign [.Subscript o i pos'] e pos) D := fun σ H r s pins s0 I => by
  refine wpAny_Assign_Subscript (thn (hv σ H r s (fun v H1 => ∃ d G', Rep X.prog X.w B G' H1 ∧ TK H H1 ∧ Is H1 d v ∧ post d G') (fun v H1 d G' r' t i z => ⟨d, G', r', t, i, z⟩) pins s0 I) fun vv s1 ⟨v, H1, I1, rv, d, G', r', t, iv, z⟩ => ?_) hs
  obtain ⟨h1, h2, j, kvs, hj, hl, hz, hn⟩ := hk d G' z
  refine thn (h1 σ H1 r' (s.mono t) (fun x H2 => Same H1 H2 ∧ Is H2 (.adr p) x) (fun x H2 e i => ⟨e, i⟩) pins s1 I1) fun u s2 ⟨x, H2, I2, rx, e2, ix⟩ => ?_
  refine thn (h2 σ H2 (r'.ext e2) ((s.mono t).ext e2) (fun x H3 => Same H2 H3 ∧ Is H3 kd x) (fun x H3 e i => ⟨e, i⟩) pins s2 I2) fun iv2 s3 ⟨y, H3, I3, ry, e3, iy⟩ => ?_
  simp only [Is] at ix
  subst ix
  obtain rfl : u = Value.ref p := rx
  have r3 := (r'.ext e2).ext e3
  have hp3 := (r3.at_ hj).1
  refine nd_put hu I3 hp3 ⟨hkd.1, hkd.2.1, hkd.2.2, iy⟩ hl hz ry rv (Is.mono (.of (e2.trans e3)) _ _ iv) fun s' ho hr I' => ?_
  have tk := r3.tk hj (ho := ho)
  exact ⟨σ, _, I', ρ, _, r3.put hj hr, (((s.mono t).ext e2).ext e3).mono tk, (t.trans (.of (e2.trans e3))).trans tk, hn⟩
/-- {} of nested keys -/
theorem en_new {pos : Pos} : Ew X B ρ G (.Dict [] [] pos) (fun d G' => ∃ p, d = .adr p ∧ B p = none ∧ (∀ x ∈ G, x.1 ≠ p) ∧ G' = G ++ [(p, .nd [])]) := fun σ H r s Q q pins s0 I => by
  have hn := I.hok.fresh (Nat.le_refl s0.heap.objs.size)
  have hb : (s0.heap.objs.size == sysModules) = false := beq_eq_false_iff_ne.mpr (Ne.symm (Nat.ne_of_lt I.big))
  obtain ⟨f1, f2⟩ := r.fresh hn
  refine wpAny_Dict_empty ⟨.ref s0.heap.objs.size, _, I.laid (a := s0.heap.objs.size) (o := ndO X.prog X.w s0.heap.objs.size []) (t' := s0.toks) (fun _ _ q => Heap.get?_push_of_some _ q) (Nat.le_refl _) (ndO_ok (Heap.DictOfH.new s0.heap)), rfl, ?_⟩
  exact q _ _ (.adr s0.heap.objs.size) _ (r.new (o := .nd []) hn ⟨[], upd_same, Nat.zero_le _, hb, .nil⟩) (.of (Same.new hn)) (by simp only [Is]) ⟨_, rfl, f1, f2, rfl⟩
/-- {k: v} -/
theorem en_disp {k v : Expr} {pos : Pos} {kd d : Dat} (hu : X.A.units + 64 < cLine) (hk : Ev X B ρ G k kd) (hv : Ev X B ρ G v d) (hkd : (∃ ds, kd = .tup ds) ∧ kd.clean = true ∧ kd.nk.depth ≤ 8) :
    Ew X B ρ G (.Dict [some k] [v] pos) (fun c G' => ∃ p, c = .adr p ∧ B p = none ∧ (∀ x ∈ G, x.1 ≠ p) ∧ G' = G ++ [(p, .nd [(kd, d)])]) := fun σ H r s Q q pins s0 I => by
  have hn := I.hok.fresh (Nat.le_refl s0.heap.objs.size)
  have hb : (s0.heap.objs.size == sysModules) = false := beq_eq_false_iff_ne.mpr (Ne.symm (Nat.ne_of_lt I.big))
  obtain ⟨f1, f2⟩ := r.fresh hn
  have I1 := I.laid (a := s0.heap.objs.size) (o := ndO X.prog X.w s0.heap.objs.size []) (h' := s0.heap.push { cls := .type "dict", data := .dict #[] }) (t' := s0.toks) (fun _ _ q => Heap.get?_push_of_some _ q) (Nat.le_refl _) (ndO_ok (Heap.DictOfH.new s0.heap))
  have e0 : Same H (upd H s0.heap.objs.size (ndO X.prog X.w s0.heap.objs.size [])) := Same.new hn
  have room0 : (nestedKind X.prog X.w).room X.A := by show X.A.units + 8 < cLine; omega
  rw [arm_eval_Dict, zip_pairTrees [some k] [v] X.env pos rfl rfl, dictDisplay_pairs (pairTrees [some k] [v] X.env pos) (by simp [pairTrees]) (by simp [pairTrees])]
  refine wpAny_bind (wpAny_standAt (wpAny_bind (wpAny_subDictH (knd := nestedKind X.prog X.w) room0 (by simp [pairTrees]) ?_)))
  refine pairTrees_cons_walk ?_
  refine thn (hk σ _ (r.ext e0) (s.ext e0) (fun x H2 => Same (upd H s0.heap.objs.size (ndO X.prog X.w s0.heap.objs.size [])) H2 ∧ Is H2 kd x) (fun x H2 e i => ⟨e, i⟩) pins _ I1) fun u s2 ⟨x, H2, I2, rx, e2, ix⟩ => ?_
  refine thn (hv σ H2 ((r.ext e0).ext e2) ((s.ext e0).ext e2) (fun x H3 => Same H2 H3 ∧ Is H3 d x) (fun x H3 e i => ⟨e, i⟩) pins s2 I2) fun u2 s3 ⟨y, H3, I3, ry, e3, iy⟩ => ?_
  refine pairTrees_nil_walk ?_
  have hk3 : KeyAt H3 kd x := ⟨hkd.1, hkd.2.1, hkd.2.2, Is.mono (.of e3) _ _ ix⟩
  obtain ⟨a, rfl, rfl⟩ := hk3.ref rx
  have hp3 : ORep X.prog X.w H3 s0.heap.objs.size (.nd []) := ⟨[], e3 _ _ (e2 _ _ upd_same), Nat.zero_le _, hb, .nil⟩
  obtain ⟨xs, e, z, m, rel, dd⟩ := nd_at I3 hp3
  cases rel
  refine ⟨[(kd.nk, a, u2)], ⟨rfl, rfl, hk3.is I3, trivial⟩, dd, fun h' tk dd' hs => wpAny_pure ?_⟩
  have dd2 : h'.DictOfH (nestedKind X.prog X.w) s0.heap.objs.size [(kd.nk, a, u2)] := dd'
  have tk2 : TK H3 (upd H3 s0.heap.objs.size (ndO X.prog X.w s0.heap.objs.size [(kd.nk, a, u2)])) := TK.upd (by rw [e]; trivial)
  have he : ∃ q, h'.get? s0.heap.objs.size = some q := let ⟨q, _, _, hq, _⟩ := dd2; ⟨q, hq⟩
  have hr : ORep X.prog X.w (upd H3 s0.heap.objs.size (ndO X.prog X.w s0.heap.objs.size [(kd.nk, a, u2)])) s0.heap.objs.size (.nd [(kd, d)]) :=
    ⟨_, upd_same, by show 1 ≤ sizeLine; decide, hb, .cons ⟨rfl, hkd.2.1, hkd.2.2, Is.mono tk2 _ _ hk3.2.2.2, y, ry, Is.mono tk2 _ _ iy⟩ .nil⟩
  have r0 : Rep X.prog X.w B (G ++ [(s0.heap.objs.size, .nd [])]) H3 := ((r.new (o := .nd []) hn ⟨[], upd_same, Nat.zero_le _, hb, .nil⟩).ext e2).ext e3
  have hj : (G ++ [(s0.heap.objs.size, DO.nd [])])[G.length]? = some (s0.heap.objs.size, DO.nd []) := by simp
  have r4 := r0.put hj hr
  have hset : (G ++ [(s0.heap.objs.size, DO.nd [])]).set G.length (s0.heap.objs.size, DO.nd [(kd, d)]) = G ++ [(s0.heap.objs.size, DO.nd [(kd, d)])] := by simp
  rw [hset] at r4
  refine ⟨.ref s0.heap.objs.size, _, I3.write (x := s0.heap.objs.size) (e := s0.heap.objs.size) (t' := tk) (by rw [e]; exact True.intro) (.inl rfl) (fun b q hb z => (hs.2 b hb).trans z) he (ndO_ok dd2), rfl, ?_⟩
  exact q _ _ (.adr s0.heap.objs.size) _ r4 (((TK.of e0).trans (.of (e2.trans e3))).trans tk2) (by simp only [Is]) ⟨_, rfl, f1, f2, rfl⟩

/-! ### texts to ints -/
theorem ed_new {pos : Pos} : Ew X B ρ G (.Dict [] [] pos) (fun d G' => ∃ p, d = .adr p ∧ B p = none ∧ (∀ x ∈ G, x.1 ≠ p) ∧ G' = G ++ [(p, .dic [])]) := fun σ H r s Q q =>
  WE.of pe_dnewK fun p hp => by
    obtain ⟨f1, f2⟩ := r.fresh hp
    exact q _ _ (.adr p) _ (r.new (o := .dic []) hp upd_same) (.of (Same.new hp)) (by simp only [Is]) ⟨p, rfl, f1, f2, rfl⟩
def kvD (kvs : List (Str × Int)) : List (Key × V) := kvs.map fun kv => (Sum.inr kv.1, V.int kv.2)
theorem valV_kvD {x : Str} : ∀ {kvs : List (Str × Int)}, valV (kvD kvs) (Sum.inr x) = (kvs.lookup x).map V.int
  | [] => rfl
  | (y, i) :: r => by
    show valV ((Sum.inr y, V.int i) :: kvD r) (Sum.inr x) = _
    rw [List.lookup_cons]
    by_cases e : x = y
    · subst e
      rw [valV_pos rfl, beq_self_eq_true]; rfl
    · rw [valV_neg (by intro z; exact e (Sum.inr.inj z).symm), valV_kvD, beq_eq_false_iff_ne.mpr e]
theorem putK_kvD {x : Str} {i : Int} {kvs : List (Str × Int)} (h : kvs.lookup x = none) : putK (kvD kvs) (Sum.inr x) (.int i) = kvD (kvs ++ [(x, i)]) := by
  have hn : ¬ ((kvD kvs).any fun kv => decide (kv.1 = Sum.inr x)) = true := by
    intro z
    obtain ⟨kv, h1, h2⟩ := List.any_eq_true.mp z
    obtain ⟨q, h3, rfl⟩ := List.mem_map.mp h1
    have e : q.1 = x := by simpa using h2
    have := List.lookup_eq_none_iff.mp h q h3
    rw [e] at this
    simp at this
  unfold putK
  rw [if_neg hn]
  simp [kvD]
/-- d[x] = i, the key is new -/
theorem s1_dput {o i e : Expr} {pos pos' : Pos} {p : Addr} {x : Str} {n : Int} (hu : X.A.units + 64 < cLine) (hv : Ev X B ρ G e (.int n)) (ho : Ev X B ρ G o (.adr p)) (hi : Ev X B ρ G i (.str x)) {j : Nat} {kvs : List (Str × Int)} (hj : G[j]? = some (p, DO.dic kvs)) (hl : kvs.lookup x = none) (hz : kvs.length < sizeLine)
    (hn : D.nx ρ (G.set j (p, DO.dic (kvs ++ [(x, n)])))) (hs : swapsWith e (some (.Subscript o i pos')) pos.line X.env = pure false := by rfl) : S1 X B ρ G (.Assign [.Subscript o i pos'] e pos) D := fun σ H r s =>
  WS.of (ps_dput (by omega) pe_w pe_w pe_w hs) (hv σ H r s _ fun v H1 e1 i1 => ho σ H1 (r.ext e1) (s.ext e1) _ fun u H2 e2 i2 => hi σ H2 ((r.ext e1).ext e2) ((s.ext e1).ext e2) _ fun y H3 e3 i3 => by
    simp only [Is] at i1 i2 i3
    subst i1 i2 i3
    have r3 := ((r.ext e1).ext e2).ext e3
    have hp : H3 p = some (.dK (kvD kvs)) := (r3.at_ hj).1
    have tk := r3.tk hj (ho := .dK (putK (kvD kvs) (Sum.inr x) (.int n)))
    refine ⟨p, _, rfl, DPut.k (k := Sum.inr x) hp (by simpa [kvD] using hz), ρ, _, r3.put hj (o' := .dic (kvs ++ [(x, n)])) ?_, (((s.ext e1).ext e2).ext e3).mono tk, (((TK.of e1).trans (.of e2)).trans (.of e3)).trans tk, hn⟩
    show upd H3 p _ p = some (.dK (kvD (kvs ++ [(x, n)])))
    rw [upd_same, putK_kvD hl])
theorem ev_dget {a b : Expr} {pos : Pos} {p : Addr} {x : Str} {n : Int} {kvs : List (Str × Int)} (hu : X.A.units + 64 < cLine) (ha : Ev X B ρ G a (.adr p)) (hb : Ev X B ρ G b (.str x)) (ho : Oat X.prog X.w B G p (.dic kvs)) (hl : kvs.lookup x = some n) (hs : NoSl b := by exact fun _ _ => rfl) : Ev X B ρ G (.Subscript a b pos) (.int n) := fun σ H r s Q q =>
  WE.of (pe_dget (by omega) pe_w pe_w hs) (ha σ H r s _ fun u H1 e1 i1 => hb σ H1 (r.ext e1) (s.ext e1) _ fun y H2 e2 i2 => by
    simp only [Is] at i1 i2
    subst i1 i2
    have hp : H2 p = some (.dK (kvD kvs)) := ((r.ext e1).ext e2).oat ho
    have g := DGet.k (k := Sum.inr x) hp
    rw [valV_kvD, hl] at g
    exact ⟨p, .int n, rfl, g, q _ H2 (e1.trans e2) (by simp only [Is])⟩)
end
end Bk
set_option Elab.async false
set_option linter.all false
set_option autoImplicit false
set_option maxRecDepth 100000
set_option maxHeartbeats 1000000
/-! The special rules over data. -/
namespace Bk
open PySem L2

theorem Rep.sub {P : Program} {w : World} {B : Hp} {G G' : GL} {H : Hp} (r : Rep P w B G H) (h : G'.Sublist G) : Rep P w B G' H :=
  ⟨r.base, fun x hx => r.own x (h.subset hx), (h.map _).nodup r.nd⟩
section
variable {X : Cx} {B : Hp} {ρ : Sls} {G G0 : GL} {D : DE}
theorem Ss.drop {st : List Stmt} (h : Ss X B ρ G0 st D) (hs : G0.Sublist G) : Ss X B ρ G st D := fun σ H r s => h σ H (r.sub hs) s
theorem Ss.forget {st : List Stmt} {ρ' : Sls} (h : Ss X B ρ' G st D) (hl : ρ'.length = ρ.length) (hf : ∀ (i : Nat) (d : Dat), ρ'[i]? = some (some d) → ρ[i]? = some (some d)) : Ss X B ρ G st D := fun σ H r s => h σ H r (s.forget hl hf)

/-! ### lists of arguments with effects -/
def Eaw (X : Cx) (B : Hp) (ρ : Sls) (G : GL) (es : List Expr) (post : List Dat → GL → Prop) : Prop := ∀ σ H, Rep X.prog X.w B G H → Sl H ρ σ → ∀ Q : List V → Hp → Prop, (∀ vs H2 ds G', Rep X.prog X.w B G' H2 → TK H H2 → IsAll H2 ds vs → post ds G' → Q vs H2) → WA X es σ H Q
theorem eaw_nil {post : List Dat → GL → Prop} (h : post [] G) : Eaw X B ρ G [] post := fun σ H r s Q q => WA.of pa_nil (q [] H [] G r (TK.refl H) .nil h)
theorem eaw_cons {a : Expr} {es : List Expr} {p : Dat → GL → Prop} {post : List Dat → GL → Prop} (h : Ew X B ρ G a p) (hs : ∀ d G', p d G' → Eaw X B ρ G' es (fun ds G2 => post (d :: ds) G2)) (he : starEach (a :: es) X.env = (false, eval a X.env) :: starEach es X.env := by rfl) : Eaw X B ρ G (a :: es) post := fun σ H r s Q q =>
  WA.of (pa_cons pe_w pa_w he) (h σ H r s _ fun v H2 d G' r' t i z => hs d G' z σ H2 r' (s.mono t) _ fun vs H3 ds G2 r2 t2 i2 z2 => q _ H3 _ G2 r2 (t.trans t2) (.cons (Is.mono t2 _ _ i) i2) z2)
theorem eaw_v {a : Expr} {es : List Expr} {d : Dat} {post : List Dat → GL → Prop} (h : Ev X B ρ G a d) (hs : Eaw X B ρ G es (fun ds G2 => post (d :: ds) G2)) (he : starEach (a :: es) X.env = (false, eval a X.env) :: starEach es X.env := by rfl) : Eaw X B ρ G (a :: es) post :=
  eaw_cons h.w (fun c G' ⟨h1, h2⟩ => by rw [h1, h2]; exact hs) he
theorem eaw_l {a : Expr} {es : List Expr} {ys : List Dat} {post : List Dat → GL → Prop} (h : El X B ρ G a ys) (hs : ∀ p, B p = none → (∀ x ∈ G, x.1 ≠ p) → Eaw X B ρ (G ++ [(p, .lst ys)]) es (fun ds G2 => post (.adr p :: ds) G2)) (he : starEach (a :: es) X.env = (false, eval a X.env) :: starEach es X.env := by rfl) : Eaw X B ρ G (a :: es) post :=
  eaw_cons h.w (fun c G' ⟨p, h1, h2, h3, h4⟩ => by rw [h1, h4]; exact hs p h2 h3) he
theorem Ea.w {es : List Expr} {ds : List Dat} (h : Ea X B ρ G es ds) : Eaw X B ρ G es (fun cs G' => cs = ds ∧ G' = G) := fun σ H r s Q q => h σ H r s Q fun vs H2 e i => q vs H2 ds G (r.ext e) (.of e) i ⟨rfl, rfl⟩
theorem ew_tupW {es : List Expr} {x1 pos} {post : List Dat → GL → Prop} (h : Eaw X B ρ G es post) (hl : es.length ≤ 100000) (hn : ∀ ds G', post ds G' → ds.length = es.length) : Ew X B ρ G (.Tuple es x1 pos) (fun d G' => ∃ ds, d = .tup ds ∧ post ds G') := fun σ H r s Q q =>
  WE.of (pe_tup pa_w) (h σ H r s _ fun vs H2 ds G' r' t i z => ⟨by rw [i.length, hn ds G' z]; exact Nat.le_trans hl (by decide), fun p hp =>
    q _ _ _ G' (r'.ext (Same.new hp)) (t.trans (.of (Same.new hp))) (by simp only [Is]; exact ⟨p, vs, rfl, upd_same, IsAll.mono (.of (Same.new hp)) _ _ i⟩) ⟨ds, rfl, z⟩⟩)
theorem ew_lstW {es : List Expr} {pos} {post : List Dat → GL → Prop} (h : Eaw X B ρ G es post) (hl : es.length ≤ 100000) (hn : ∀ ds G', post ds G' → ds.length = es.length) : Ew X B ρ G (.List es pos) (fun d G' => ∃ p ds G2, d = .adr p ∧ post ds G2 ∧ B p = none ∧ (∀ x ∈ G2, x.1 ≠ p) ∧ G' = G2 ++ [(p, .lst ds)]) := fun σ H r s Q q =>
  WE.of (pe_lst pa_w) (h σ H r s _ fun vs H2 ds G2 r' t i z => ⟨by rw [i.length, hn ds G2 z]; exact Nat.le_trans hl (by decide), fun p hp => by
    obtain ⟨f1, f2⟩ := r'.fresh hp
    exact q _ _ (.adr p) _ (r'.new hp (o := .lst ds) ⟨vs, upd_same, IsAll.mono (.of (Same.new hp)) _ _ i⟩) (t.trans (.of (Same.new hp))) (by simp only [Is]) ⟨p, ds, G2, rfl, z, f1, f2, rfl⟩⟩)
/-- f(e, ..) with effects in the arguments -/
theorem ew_callW {x : Str} {p pos : Pos} {e : Expr} {es : List Expr} {k : Nat} {pre : Pre} {pa : List Dat → GL → Prop} {post : Dat → GL → Prop} (c : Kn X.prog X.w X.K X.mg X.base x k pre) (hr : Room k X.A) (ha : Eaw X B ρ G (e :: es) pa) (hp : ∀ ds G', pa ds G' → pre ds B G' post) (hg : Gl X x := by rfl)
    (hdb : (x == ("__debug__" : Str)) = false := by decide) (he : starEach (e :: es) X.env = (false, eval e X.env) :: starEach es X.env := by rfl) (hpl : (backTo pos (starEach es X.env)).any (·.1) = false := by rfl) : Ew X B ρ G (.Call (.Name x p) (e :: es) [] pos) post := by
  obtain ⟨f, fd, ps, F, hk, hb, hm⟩ := c
  exact fun σ H r s Q q => WE.of (pe_call F hr hg hm hk hb .nil pass0 pa_w hdb he hpl) (ha σ H r s _ fun vs H2 ds G2 r' t i z => ⟨ds, B, G2, post, by rw [List.append_nil]; exact i, r', hp ds G2 z, fun v H' d G' r2 t2 i2 z2 => q v H' d G' r2 (t.trans t2) i2 z2⟩)
/-- C(e, ..) -/
theorem ew_make {x : Str} {p pos : Pos} {e : Expr} {es : List Expr} {C f : Addr} {fd : FuncData} {k : Nat} {ps : List Str} {pre : Pre} {ds : List Dat} {post : Dat → GL → Prop} (M : Mk X.K C f) (F : FnOk X.prog X.w X.K X.mg X.base CX0 k f fd ps (spD X.prog X.w pre)) (hb : Binds X.K fd ps []) (hr : Room (k + 1) X.A) (hm : X.mg x = some (.ref C)) (ha : Ea X B ρ G (e :: es) ds)
    (hp : ∀ x, B x = none → (∀ y ∈ G, y.1 ≠ x) → pre (.adr x :: ds) B (G ++ [(x, .ins C [])]) (fun d G' => d = .non ∧ post (.adr x) G')) (hg : Gl X x := by rfl)
    (hdb : (x == ("__debug__" : Str)) = false := by decide) (he : starEach (e :: es) X.env = (false, eval e X.env) :: starEach es X.env := by rfl) (hpl : (backTo pos (starEach es X.env)).any (·.1) = false := by rfl) : Ew X B ρ G (.Call (.Name x p) (e :: es) [] pos) post := fun σ H r s Q q =>
  WE.of (pe_make M F hr hg hm hb .nil pass0 pa_w hdb he hpl) (ha σ H r s _ fun vs H2 e2 i2 => fun y dx hy hdx hne => by
    have r2 := r.ext e2
    have f := r2.fresh hy
    have ed : Same H2 (upd H2 dx (.own y)) := Same.new hdx
    have hy2 : upd H2 dx (.own y) y = none := by rw [upd_ne (Ne.symm hne)]; exact hy
    have eb : Same (upd H2 dx (.own y)) (upd (upd H2 dx (.own y)) y (.ins C dx [])) := Same.new hy2
    have r3 := (r2.ext ed).new (o := .ins C []) hy2 ⟨dx, [], upd_same, by simp [FsIs]⟩
    refine ⟨.adr y :: ds, B, _, _, .cons (by simp only [Is]) ?_, r3, hp y f.1 f.2, fun v H' d G' r' t i z => ?_⟩
    · rw [List.append_nil]; exact IsAll.mono (.of (ed.trans eb)) _ _ i2
    · obtain ⟨h1, h2⟩ := z
      subst h1
      simp only [Is] at i
      exact ⟨i, q _ H' (.adr y) G' r' ((TK.of (e2.trans (ed.trans eb))).trans t) (by simp only [Is]) h2⟩)

/-! ### stores side by side -/
theorem ss_par {i j : Nat} {x y : Str} {a b : Expr} {px py pt pos : Pos} {kt k2 pt2} {post : List Dat → GL → Prop} {rest : List Stmt} (h : Eaw X B ρ G [a, b] post) (hk : ∀ ds G', post ds G' → ∃ d1 d2, ds = [d1, d2] ∧ Ss X B ((ρ.set i (some d1)).set j (some d2)) G' rest D) (hN : X.N.Nodup)
    (hij : i ≠ j := by decide) (hc : X.calm = true := by rfl) (hi : X.N[i]? = some x := by rfl) (hj : X.N[j]? = some y := by rfl) (hx : X.env.scope.names.lookup x = some .local := by rfl) (hy : X.env.scope.names.lookup y = some .local := by rfl)
    (hw : swappedStores [.Tuple [.Name x px, .Name y py] kt pt] (.Tuple [a, b] k2 pt2) X.env = pure (some [x, y]) := by rfl) (hs : swapsWithSole [.Tuple [.Name x px, .Name y py] kt pt] (.Tuple [a, b] k2 pt2) pos.line X.env = pure false := by rfl) :
    Ss X B ρ G (.Assign [.Tuple [.Name x px, .Name y py] kt pt] (.Tuple [a, b] k2 pt2) pos :: rest) D := ss_cons fun σ H r s =>
  WS.of (ps_par hc hN hi hj hij hx hy pa_w hw hs) (h σ H r s _ fun vs H2 ds G' r' t iv z => by
    obtain ⟨d1, d2, rfl, hn⟩ := hk ds G' z
    obtain ⟨v, r1, rfl, i1, i3⟩ := IsAll.cons_iff.mp iv
    obtain ⟨u, r2, rfl, i2, i4⟩ := IsAll.cons_iff.mp i3
    rw [IsAll.nil_iff] at i4
    subst i4
    exact ⟨v, u, rfl, _, G', r', ((s.mono t).set i i1).set j i2, t, hn⟩)

/-! ### texts, tuples -/
section
variable {a b e : Expr} {pos p : Pos}
theorem ev_notWords {z : Str} {W0 : Addr} {V0 : List V} (hm : X.mg "WORDS" = some (.ref (W0))) (hK : ∀ H, SqT X.K H (W0) V0) (hf : V0.all flatV = true) (ha : Ev X B ρ G a (.str z)) (hg : Gl X "WORDS" := by rfl) : Et X B ρ G (.Compare a [.NotIn] [.Name "WORDS" p] pos) (!inV (.str z) V0) :=
  et_cmp op_notIn_seq ha (ev_glob (d := .adr (W0)) (pe_glob (v := V.ref W0) hg hm rfl) fun H => by simp only [Is]) (fun H r x y hx hy Q q => by
    simp only [Is] at hx hy
    exact ⟨_, V0, hy, .inr (hK H), by rw [hx]; rfl, hf, q _ H (Same.refl H) (by simp only [Is]; rw [hx]; rfl)⟩) (by rfl)
theorem el_sortedTxt {z : Str} {us : List Str} (hc : X.calm = true) (hm : X.mg "sorted" = none) (ha : Ev X B ρ G e (.str z)) (hz : z.cps.size < 64) (hu : ∀ ys : List Str, ys.Perm (chars z) → PyProof.Rows.sortedS ys = true → ys = us) (hg : Gl X "sorted" := by rfl)
    (he : starEach [e] X.env = (false, eval e X.env) :: starEach [] X.env := by rfl) : El X B ρ G (.Call (.Name "sorted" p) [e] [] pos) (us.map Dat.str) :=
  el_cb (call_sortedTxt hc) hg hm (by decide +kernel) ha (fun H v _ i Q q => by
    simp only [Is] at i
    refine ⟨z, by rw [i], hz, fun ys a h1 h2 ha => ?_⟩
    rw [hu ys h1 h2]
    exact q a _ _ ha (Same.new ha) upd_same (of_strs us)) (he := he)
theorem el_listTxt {z : Str} (hc : X.calm = true) (hm : X.mg "list" = none) (ha : Ev X B ρ G e (.str z)) (hz : z.cps.size ≤ sizeLine) (hg : Gl X "list" := by rfl)
    (he : starEach [e] X.env = (false, eval e X.env) :: starEach [] X.env := by rfl) : El X B ρ G (.Call (.Name "list" p) [e] [] pos) ((chars z).map Dat.str) :=
  el_ct (call_listTxt hc) hg hm (by decide +kernel) ha (fun H v _ i Q q => by
    simp only [Is] at i
    exact ⟨z, by rw [i], hz, fun a ha => q a _ _ ha (Same.new ha) upd_same (of_strs _)⟩) (he := he)
/-- "".join(a new list) -/
theorem ev_join {apos : Pos} {z : Str} {ys : List Str} (ho : Ev X B ρ G a (.str z)) (hl : El X B ρ G e (ys.map Dat.str)) (hz : (ys.map (·.length)).sum + ys.length * z.length ≤ 16777216) (hs : starEach [e] X.env = [(false, eval e X.env)] := by rfl) (hbase : attributeBase a "join" X.env (eval a X.env) = eval a X.env := by rfl) (hline : (apos.endLine == pos.line) = true := by rfl) :
    Ev X B ρ G (.Call (.Attribute a "join" apos) [e] [] pos) (.str (Txt.join z ys)) := fun σ H r s Q q =>
  WE.of (pe_join pe_w pe_w hs hbase hline) (ho σ H r s _ fun x H1 e1 i1 => by
    simp only [Is] at i1
    subst i1
    refine ⟨⟨z, rfl⟩, hl σ H1 (r.ext e1) (s.ext e1) _ fun p vs H2 hp e2 h2 i2 => ?_⟩
    exact ⟨z, p, ys, rfl, rfl, .inl (by rw [← isAll_strs i2]; exact SqL.of h2), hz, q _ H2 (e1.trans e2) (by simp only [Is])⟩)
theorem ev_revT {ds : List Dat} {k : Nat} {q1 q2 q3 : Pos} (ha : Ev X B ρ G a (.tup ds)) : Ev X B ρ G (.Subscript a (.Slice none none (some (.UnaryOp .USub (.Constant (.int 1) k q1) q2)) q3) pos) (.tup ds.reverse) := fun σ H r s Q q =>
  WE.of (pe_revT pe_w) (ha σ H r s _ fun x H1 e1 i1 => by
    simp only [Is] at i1
    obtain ⟨p, xs, rfl, h1, h2⟩ := i1
    exact ⟨p, xs, rfl, SqT.of h1, fun p' hp' => q _ _ (e1.trans (Same.new hp')) (by simp only [Is]; exact ⟨p', _, rfl, upd_same, IsAll.mono (.of (Same.new hp')) _ _ h2.reverse⟩)⟩)
theorem IsAll.rep {H : Hp} {ds : List Dat} {xs : List V} (h : IsAll H ds xs) : ∀ n, IsAll H (List.replicate n ds).flatten (List.replicate n xs).flatten
  | 0 => .nil
  | n + 1 => by rw [List.replicate_succ, List.replicate_succ, List.flatten_cons, List.flatten_cons]; exact h.append (h.rep n)
theorem ev_repT {ds : List Dat} {n : Nat} (ha : Ev X B ρ G a (.tup ds)) (hb : Ev X B ρ G b (.int n)) (hn : 1 ≤ n ∧ n ≤ 1000) (hd : ds ≠ [] ∧ ds.length ≤ 1000) : Ev X B ρ G (.BinOp a .Mult b pos) (.tup (List.replicate n ds).flatten) := by
  by_cases h1 : n = 1
  · subst h1
    refine ev_op op_rep1 ha hb fun H _ x y hx hy Q q => ?_
    simp only [Is] at hx hy
    obtain ⟨p, xs, rfl, h1, h2⟩ := hx
    refine ⟨p, xs, rfl, hy, SqT.of h1, q _ H (Same.refl H) ?_⟩
    simp only [Is]
    exact ⟨p, xs, rfl, h1, by simpa using h2⟩
  · refine ev_op op_repT ha hb fun H _ x y hx hy Q q => ?_
    simp only [Is] at hx hy
    obtain ⟨p, xs, rfl, h3, h2⟩ := hx
    refine ⟨p, n, xs, rfl, hy, SqT.of h3, fun e => hd.1 ?_, by omega, by omega, by rw [h2.length]; exact hd.2, fun p' hp' => q _ _ (Same.new hp') ?_⟩
    · rw [e] at h2
      cases ds with
      | nil => rfl
      | cons d ds => obtain ⟨_, _, z, _⟩ := IsAll.cons_iff.mp h2; cases z
    · simp only [Is]
      exact ⟨p', _, rfl, by rw [upd_same, Int.toNat_natCast], IsAll.mono (.of (Same.new hp')) _ _ (h2.rep n)⟩

/-! ### is it empty -/
def rEmp (K : PySem.W.Frag) (neg : Bool) : R2 := fun x y H Q => ∃ a b xs, x = .ref a ∧ y = .ref b ∧ SqL K H a xs ∧ SqL K H b [] ∧ Q (.bl (if neg then !xs.isEmpty else xs.isEmpty)) H
theorem op_neEmp (hu : X.A.units < cLine) : OpR X (compareOp .NotEq) (rEmp X.K true) := by
  intro pins s σ H x y v u Q I rx ry h
  obtain ⟨a, b, xs, rfl, rfl, h1, h2, q⟩ := h
  cases rx
  cases ry
  obtain ⟨its, r1, p1, _⟩ := I.list h1
  obtain ⟨its2, r2, p2, _⟩ := I.list h2
  cases r2
  cases xs with
  | nil =>
    cases r1
    exact SeqAt.RcNeAt.lists (e := fun _ => true) p1.isList p2.isList rfl hu (fun j h => absurd h (Nat.not_lt_zero _)) _ _ _ _ ⟨.bl false, H, I, rfl, q⟩
  | cons z zs =>
    cases r1
    exact SeqAt.RcNeAt.lists_lengths p1.isList p2.isList (by simp) hu _ _ _ _ ⟨.bl true, H, I, rfl, q⟩
theorem op_eqEmp (hu : X.A.units < cLine) : OpR X (compareOp .Eq) (rEmp X.K false) := by
  intro pins s σ H x y v u Q I rx ry h
  obtain ⟨a, b, xs, rfl, rfl, h1, h2, q⟩ := h
  cases rx
  cases ry
  obtain ⟨its, r1, p1, _⟩ := I.list h1
  obtain ⟨its2, r2, p2, _⟩ := I.list h2
  cases r2
  cases xs with
  | nil =>
    cases r1
    exact SeqAt.RcAt.lists (e := fun _ => true) p1.isList p2.isList rfl hu (fun j h => absurd h (Nat.not_lt_zero _)) _ _ _ _ ⟨.bl true, H, I, rfl, q⟩
  | cons z zs =>
    cases r1
    exact SeqAt.RcAt.lists_lengths p1.isList p2.isList (by simp) hu _ _ _ _ ⟨.bl false, H, I, rfl, q⟩
theorem isAll_empty {H : Hp} {ds : List Dat} {xs : List V} (h : IsAll H ds xs) : xs.isEmpty = ds.isEmpty := by
  have := h.length
  cases xs <;> cases ds <;> simp_all
/-- l != [] -/
theorem et_neEmp {q1 : Addr} {ds : List Dat} {p2 : Pos} (hu : X.A.units + 64 < cLine) (ha : Ev X B ρ G a (.adr q1)) (hj : Lat B G q1 ds) : Et X B ρ G (.Compare a [.NotEq] [.List [] p2] pos) (!ds.isEmpty) := fun σ H r s Q q =>
  WT.of (pt_cmpR (op_neEmp (by omega)) pe_w (pe_lst pa_nil) (nomark _)) (ha σ H r s _ fun x H1 e1 i1 => ⟨by decide, fun l hl => by
    simp only [Is] at i1
    obtain ⟨vs, h1, h2⟩ := (r.ext e1).lat hj
    exact ⟨q1, l, vs, i1, rfl, SqL.of (Same.new hl _ _ h1), SqL.of upd_same, _, rfl, by rw [isAll_empty h2]; exact q _ (e1.trans (Same.new hl))⟩⟩)
theorem et_eqEmp {q1 : Addr} {ds : List Dat} {p2 : Pos} (hu : X.A.units + 64 < cLine) (ha : Ev X B ρ G a (.adr q1)) (hj : Lat B G q1 ds) : Et X B ρ G (.Compare a [.Eq] [.List [] p2] pos) ds.isEmpty := fun σ H r s Q q =>
  WT.of (pt_cmpR (op_eqEmp (by omega)) pe_w (pe_lst pa_nil) (nomark _)) (ha σ H r s _ fun x H1 e1 i1 => ⟨by decide, fun l hl => by
    simp only [Is] at i1
    obtain ⟨vs, h1, h2⟩ := (r.ext e1).lat hj
    exact ⟨q1, l, vs, i1, rfl, SqL.of (Same.new hl _ _ h1), SqL.of upd_same, _, rfl, by rw [isAll_empty h2]; exact q _ (e1.trans (Same.new hl))⟩⟩)
/-- t != () -/
def rEmpT (K : PySem.W.Frag) : R2 := fun x y H Q => ∃ a b xs, x = .ref a ∧ y = .ref b ∧ SqT K H a xs ∧ SqT K H b [] ∧ Q (.bl (!xs.isEmpty)) H
theorem op_neEmpT (hu : X.A.units < cLine) : OpR X (compareOp .NotEq) (rEmpT X.K) := by
  intro pins s σ H x y v u Q I rx ry h
  obtain ⟨a, b, xs, rfl, rfl, h1, h2, q⟩ := h
  cases rx
  cases ry
  obtain ⟨its, r1, p1, _⟩ := I.tuple h1
  obtain ⟨its2, r2, p2, _⟩ := I.tuple h2
  have q1 : s.heap.IsTuple a its.toArray := p1
  have q2 : s.heap.IsTuple b its2.toArray := p2
  cases r2
  have key := SeqAt.RcNeAt.tuples (e := fun _ => true) (A := X.A) q1 q2 hu (fun j _ h => absurd h (Nat.not_lt_zero _))
  refine key _ _ _ _ ⟨.bl _, H, I, rfl, ?_⟩
  have e : (!((List.range (min its.toArray.size ([] : List Value).toArray.size)).all (fun _ => true) && its.toArray.size == ([] : List Value).toArray.size)) = !xs.isEmpty := by
    have := r1.length
    cases xs with
    | nil => cases r1; rfl
    | cons z zs => cases r1; simp
  rw [e]; exact q
theorem et_neEmpT {ds : List Dat} {k2 : Nat} {p2 : Pos} (hu : X.A.units + 64 < cLine) (ha : Ev X B ρ G a (.tup ds)) : Et X B ρ G (.Compare a [.NotEq] [.Tuple [] k2 p2] pos) (!ds.isEmpty) :=
  et_cmp (op_neEmpT (by omega)) ha (ev_tup ea_nil (by simp)) (fun H r x y hx hy Q q => by
    simp only [Is] at hx hy
    obtain ⟨p, xs, rfl, h1, h2⟩ := hx
    obtain ⟨p', ys, rfl, h3, h4⟩ := hy
    rw [IsAll.nil_iff] at h4
    subst h4
    exact ⟨p, p', xs, rfl, rfl, SqT.of h1, SqT.of h3, q _ H (Same.refl H) (by simp only [Is]; rw [isAll_empty h2])⟩) (nomark _)
end
end
end Bk
set_option Elab.async false
set_option linter.all false
set_option autoImplicit false
set_option maxRecDepth 100000
set_option maxHeartbeats 1000000
namespace Bk
open PySem L2
/-- the slots ρ0 are some of ρ -/
inductive Frg : Sls → Sls → Prop
  | nil : Frg [] []
  | same {o : Option Dat} {r r' : Sls} : Frg r r' → Frg (o :: r) (o :: r')
  | drop {o : Option Dat} {r r' : Sls} : Frg r r' → Frg (none :: r) (o :: r')
theorem Frg.len : ∀ {a b : Sls}, Frg a b → a.length = b.length
  | _, _, .nil => rfl
  | _, _, .same h => by simp [h.len]
  | _, _, .drop h => by simp [h.len]
theorem Frg.get : ∀ {a b : Sls}, Frg a b → ∀ (i : Nat) (d : Dat), a[i]? = some (some d) → b[i]? = some (some d)
  | _, _, .nil, _, _, h => by simp at h
  | _, _, .same _, 0, d, h => by simpa using h
  | _, _, .same f, i + 1, d, h => by simpa using f.get i d (by simpa using h)
  | _, _, .drop _, 0, d, h => by simp at h
  | _, _, .drop f, i + 1, d, h => by simpa using f.get i d (by simpa using h)
theorem Frg.refl : ∀ a : Sls, Frg a a
  | [] => .nil
  | _ :: r => .same (Frg.refl r)
section
variable {X : Cx} {B : Hp} {ρ ρ0 : Sls} {G : GL} {D : DE}
theorem Ss.frg {st : List Stmt} (h : Ss X B ρ0 G st D) (f : Frg ρ0 ρ) : Ss X B ρ G st D := h.forget f.len f.get
theorem Sl.frg {H : Hp} {σ : L2.St} (s : Sl H ρ σ) (f : Frg ρ0 ρ) : Sl H ρ0 σ := s.forget f.len f.get
/-- up to forgotten slots -/
def Up (Pv : Sls → GL → Prop) : Sls → GL → Prop := fun ρ' G' => ∃ ρ0, Frg ρ0 ρ' ∧ Pv ρ0 G'
theorem ss_e {e : Expr} {pos : Pos} {d : Dat} {rest : List Stmt} (he : Ev X B ρ G e d) (hk : Ss X B ρ G rest D) (hs : swapsWith e none pos.line X.env = pure false := by rfl) : Ss X B ρ G (.Expr e pos :: rest) D :=
  ss_cons (s1_expr he.w (fun c G' ⟨_, h2⟩ => by rw [h2]; exact hk) hs)
theorem ss_ew {e : Expr} {pos : Pos} {post : Dat → GL → Prop} {rest : List Stmt} (he : Ew X B ρ G e post) (hk : ∀ d G', post d G' → Ss X B ρ G' rest D) (hs : swapsWith e none pos.line X.env = pure false := by rfl) : Ss X B ρ G (.Expr e pos :: rest) D :=
  ss_cons (s1_expr he hk hs)
theorem ss_for {tg iter : Expr} {body rest : List Stmt} {g : TG} {pos : Pos} {ds : List Dat} {Inw : Hp → Hp → Prop} (hS : Src X B ρ G tg iter ds Inw) (hg : PG X tg g) (Pv : Nat → Sls → GL → Prop) (h0 : Up (Pv 0) ρ G)
    (hin : ∀ i ρ' G' H H1 H', Rep X.prog X.w B G H → Same H H1 → Rep X.prog X.w B G' H' → TK H1 H' → Pv i ρ' G' → Inw H1 H')
    (hs : ∀ i d ρ' G', ds[i]? = some d → Pv i ρ' G' → ∃ ρ2, Rd X g d ρ' ρ2 ∧ Ss X B ρ2 G' body { D with nx := Up (Pv (i + 1)), ct := Up (Pv (i + 1)), bk := fun ρ' G' => Ss X B ρ' G' rest D }) (hd : ∀ ρ' G', Pv ds.length ρ' G' → Ss X B ρ' G' rest D)
    (hc : X.calm = true := by rfl) (hf : ∀ x, foldedSetIterable iter X.env x = pure x := by intro _; rfl) (hp : PassesOwn (model X.prog X.w) X.A X.env X.xe := by exact PassesOwn.never) : Ss X B ρ G (.For tg iter body [] pos :: rest) D :=
  ss_cons (s1_for hS hg (fun i => Up (Pv i)) h0 (fun i ρ' G' H H1 H' a b c d ⟨ρ0, _, q⟩ => hin i ρ0 G' H H1 H' a b c d q) (fun i d ρ' G' hd ⟨ρ0, f, q⟩ => by
    obtain ⟨ρ2, h1, h2⟩ := hs i d ρ0 G' hd q
    exact ⟨ρ2, fun σ H v s i Q q => h1 σ H v (s.frg f) i Q q, h2⟩) (fun ρ' G' ⟨ρ0, f, q⟩ => (hd ρ0 G' q).frg f) hc hf hp)
theorem ss_forT {tg l : Expr} {body rest : List Stmt} {g : TG} {pos : Pos} {ds : List Dat} (hl : Ev X B ρ G l (.tup ds)) (hg : PG X tg g) (Pv : Nat → Sls → GL → Prop) (h0 : Up (Pv 0) ρ G)
    (hs : ∀ i d ρ' G', ds[i]? = some d → Pv i ρ' G' → ∃ ρ2, Rd X g d ρ' ρ2 ∧ Ss X B ρ2 G' body { D with nx := Up (Pv (i + 1)), ct := Up (Pv (i + 1)), bk := fun ρ' G' => Ss X B ρ' G' rest D }) (hd : ∀ ρ' G', Pv ds.length ρ' G' → Ss X B ρ' G' rest D)
    (hc : X.calm = true := by rfl) (hf : ∀ x, foldedSetIterable l X.env x = pure x := by intro _; rfl) (hp : PassesOwn (model X.prog X.w) X.A X.env X.xe := by exact PassesOwn.never) : Ss X B ρ G (.For tg l body [] pos :: rest) D :=
  ss_for (src_tup hl) hg Pv h0 (fun _ _ _ _ _ _ _ _ _ t _ => t) hs hd hc hf hp
/-- over a text, a range -/
theorem ss_forF {tg iter : Expr} {body rest : List Stmt} {g : TG} {pos : Pos} {ds : List Dat} (hS : Src X B ρ G tg iter ds (fun _ _ => True)) (hg : PG X tg g) (Pv : Nat → Sls → GL → Prop) (h0 : Up (Pv 0) ρ G)
    (hs : ∀ i d ρ' G', ds[i]? = some d → Pv i ρ' G' → ∃ ρ2, Rd X g d ρ' ρ2 ∧ Ss X B ρ2 G' body { D with nx := Up (Pv (i + 1)), ct := Up (Pv (i + 1)), bk := fun ρ' G' => Ss X B ρ' G' rest D }) (hd : ∀ ρ' G', Pv ds.length ρ' G' → Ss X B ρ' G' rest D)
    (hc : X.calm = true := by rfl) (hf : ∀ x, foldedSetIterable iter X.env x = pure x := by intro _; rfl) (hp : PassesOwn (model X.prog X.w) X.A X.env X.xe := by exact PassesOwn.never) : Ss X B ρ G (.For tg iter body [] pos :: rest) D :=
  ss_for hS hg Pv h0 (fun _ _ _ _ _ _ _ _ _ t _ => trivial) hs hd hc hf hp
/-- over a list that the body leaves as it is -/
theorem ss_forL {tg l : Expr} {body rest : List Stmt} {g : TG} {pos : Pos} {p : Addr} {ds : List Dat} (hl : Ev X B ρ G l (.adr p)) (hj : Lat B G p ds) (hg : PG X tg g) (Pv : Nat → Sls → GL → Prop) (h0 : Up (Pv 0) ρ G) (hst : ∀ i ρ' G', Pv i ρ' G' → Lat B G' p ds)
    (hs : ∀ i d ρ' G', ds[i]? = some d → Pv i ρ' G' → ∃ ρ2, Rd X g d ρ' ρ2 ∧ Ss X B ρ2 G' body { D with nx := Up (Pv (i + 1)), ct := Up (Pv (i + 1)), bk := fun ρ' G' => Ss X B ρ' G' rest D }) (hd : ∀ ρ' G', Pv ds.length ρ' G' → Ss X B ρ' G' rest D)
    (hc : X.calm = true := by rfl) (hf : ∀ x, foldedSetIterable l X.env x = pure x := by intro _; rfl) (hp : PassesOwn (model X.prog X.w) X.A X.env X.xe := by exact PassesOwn.never) : Ss X B ρ G (.For tg l body [] pos :: rest) D :=
  ss_for (src_lst hl hj) hg Pv h0 (fun i ρ' G' _ _ _ _ _ r' t p' => ⟨t, r'.lat (hst i ρ' G' p')⟩) hs hd hc hf hp
theorem ss_while {c : Expr} {body rest : List Stmt} {pos : Pos} (W : Nat → Sls → GL → Prop) (m0 : Nat) (h0 : Up (W m0) ρ G)
    (hs : ∀ m ρ' G', W m ρ' G' → ∃ b, Et X B ρ' G' c b ∧ (b = true → Ss X B ρ' G' body { D with nx := Up fun ρ2 G2 => ∃ m', m' < m ∧ W m' ρ2 G2, ct := Up fun ρ2 G2 => ∃ m', m' < m ∧ W m' ρ2 G2, bk := fun ρ' G' => Ss X B ρ' G' rest D }) ∧ (b = false → Ss X B ρ' G' rest D))
    (hp : PassesOwn (model X.prog X.w) X.A X.env X.xe := by exact PassesOwn.never) : Ss X B ρ G (.While c body [] pos :: rest) D :=
  ss_cons (s1_while (fun m => Up (W m)) m0 h0 (fun m ρ' G' ⟨ρ0, f, w⟩ => by
    obtain ⟨b, h1, h2, h3⟩ := hs m ρ0 G' w
    refine ⟨b, fun σ H r s => h1 σ H r (s.frg f), fun hb => (Ss.frg ?_ f), fun hb => (h3 hb).frg f⟩
    refine (h2 hb).imp ?_ (fun _ _ z => z) (fun _ _ z => z) ?_
    · rintro ρ1 G1 ⟨ρ2, f2, m', hm, w2⟩
      exact ⟨m', hm, ρ2, f2, w2⟩
    · rintro ρ1 G1 ⟨ρ2, f2, m', hm, w2⟩
      exact ⟨m', hm, ρ2, f2, w2⟩) hp)
/-- an if whose ways come together -/
theorem ss_ifJ {c : Expr} {a b : List Stmt} {pos : Pos} {x : Bool} {rest : List Stmt} (Pv : Sls → GL → Prop) (hc : Et X B ρ G c x) (h1 : x = true → Ss X B ρ G a { D with nx := Up Pv }) (h2 : x = false → Ss X B ρ G b { D with nx := Up Pv }) (hk : ∀ ρ' G', Pv ρ' G' → Ss X B ρ' G' rest D) : Ss X B ρ G (.If c a b pos :: rest) D :=
  ss_if hc (fun h => (h1 h).imp (fun ρ' G' ⟨ρ0, f, q⟩ => (hk ρ0 G' q).frg f) (fun _ _ z => z) (fun _ _ z => z) (fun _ _ z => z)) (fun h => (h2 h).imp (fun ρ' G' ⟨ρ0, f, q⟩ => (hk ρ0 G' q).frg f) (fun _ _ z => z) (fun _ _ z => z) (fun _ _ z => z))
theorem ss_done (h : D.nx ρ G) : Ss X B ρ G [] D := ss_nil h
theorem ss_cont {pos : Pos} {rest : List Stmt} (h : D.ct ρ G) : Ss X B ρ G (.Continue pos :: rest) D := ss_cons fun σ H r s => WS.of ps_continue ⟨ρ, G, r, s, TK.refl H, h⟩
theorem ss_retW {e : Expr} {pos : Pos} {post : Dat → GL → Prop} {rest : List Stmt} (he : Ew X B ρ G e post) (hk : ∀ d G', post d G' → D.rt d G') : Ss X B ρ G (.Return (some e) pos :: rest) D := ss_cons (s1_ret he hk)
theorem ss_r {e : Expr} {pos : Pos} {d : Dat} {rest : List Stmt} (he : Ev X B ρ G e d) (hk : D.rt d G) : Ss X B ρ G (.Return (some e) pos :: rest) D := ss_cons (s1_retV he hk)
theorem pg_t2 {i j : Nat} {x y : Str} {px py pt : Pos} {k : Nat} (hN : X.N.Nodup) (hc : X.calm = true := by rfl) (hi : X.N[i]? = some x := by rfl) (hj : X.N[j]? = some y := by rfl) (hx : Loc X.env.scope x := by first | exact Or.inl rfl | exact Or.inr rfl) (hy : Loc X.env.scope y := by first | exact Or.inl rfl | exact Or.inr rfl)
    (hf : X.fn x = true ∨ X.env.scope.names.lookup x = some .local := by first | exact .inl rfl | exact .inr rfl) (hf2 : X.fn y = true ∨ X.env.scope.names.lookup y = some .local := by first | exact .inl rfl | exact .inr rfl) : PG X (.Tuple [.Name x px, .Name y py] k pt) (gTup X.K 2 (gCons (gName i) (gCons (gName j) gNil))) :=
  pg_tup hc (pgs_cons (pg_name hN hi hx hf) (pgs_cons (pg_name hN hj hy hf2) pgs_nil))
theorem rd_t2 {K : PySem.W.Frag} {i j : Nat} {a b : Dat} : Rd X (gTup K 2 (gCons (gName i) (gCons (gName j) gNil))) (.tup [a, b]) ρ ((ρ.set i (some a)).set j (some b)) := rd_tup rfl (rds_cons rd_name (rds_cons rd_name rds_nil))
theorem pg_t3 {i j l : Nat} {x y z : Str} {px py pz pt : Pos} {k : Nat} (hN : X.N.Nodup) (hc : X.calm = true := by rfl) (hi : X.N[i]? = some x := by rfl) (hj : X.N[j]? = some y := by rfl) (hl : X.N[l]? = some z := by rfl) (hx : Loc X.env.scope x := by first | exact Or.inl rfl | exact Or.inr rfl) (hy : Loc X.env.scope y := by first | exact Or.inl rfl | exact Or.inr rfl) (hz : Loc X.env.scope z := by first | exact Or.inl rfl | exact Or.inr rfl)
    (hf : X.fn x = true ∨ X.env.scope.names.lookup x = some .local := by first | exact .inl rfl | exact .inr rfl) (hf2 : X.fn y = true ∨ X.env.scope.names.lookup y = some .local := by first | exact .inl rfl | exact .inr rfl) (hf3 : X.fn z = true ∨ X.env.scope.names.lookup z = some .local := by first | exact .inl rfl | exact .inr rfl) : PG X (.Tuple [.Name x px, .Name y py, .Name z pz] k pt) (gTup X.K 3 (gCons (gName i) (gCons (gName j) (gCons (gName l) gNil)))) :=
  pg_tup hc (pgs_cons (pg_name hN hi hx hf) (pgs_cons (pg_name hN hj hy hf2) (pgs_cons (pg_name hN hl hz hf3) pgs_nil)))
theorem rd_t3 {K : PySem.W.Frag} {i j l : Nat} {a b c : Dat} : Rd X (gTup K 3 (gCons (gName i) (gCons (gName j) (gCons (gName l) gNil)))) (.tup [a, b, c]) ρ (((ρ.set i (some a)).set j (some b)).set l (some c)) := rd_tup rfl (rds_cons rd_name (rds_cons rd_name (rds_cons rd_name rds_nil)))
theorem pg_n {i : Nat} {x : Str} {pos : Pos} (hN : X.N.Nodup) (hi : X.N[i]? = some x := by rfl) (hx : Loc X.env.scope x := by first | exact Or.inl rfl | exact Or.inr rfl) (hf : X.fn x = true ∨ X.env.scope.names.lookup x = some .local := by first | exact .inl rfl | exact .inr rfl) : PG X (.Name x pos) (gName i) := pg_name hN hi hx hf
end
end Bk
set_option Elab.async false
set_option linter.all false
set_option autoImplicit false
set_option maxRecDepth 100000
set_option maxHeartbeats 1000000
namespace Bk
open PySem PySem.Spec PyProof.Rows L2
/-! ### tuple * 0 -/
theorem tuple_mul0 (l : Addr) (items : Array Value) (n : Nat) (dd : Option Addr) (sl : Array (Option Value)) (u : Tok) (c1 : (items.isEmpty || (0 : Int) == 1) = false) :
    Meets (Builtin.«tuple.__mul__» ⟨[.ref l, .int 0 u], []⟩) (fun _ R s => s.heap.get? l = some { cls := .type "tuple", dict := dd, data := .seq items n, slots := sl } ∧
      R (.ok (.ret (Value.ref s.heap.objs.size))) { s with heap := s.heap.push { cls := Value.type "tuple", data := Data.seq #[] }, toks := s.toks }) :=
  .of_wp fun prog w A R s h => by
    obtain ⟨hp, g, d, tk, os⟩ := s
    obtain ⟨hl, h⟩ := h
    have f1 := AutoSeq1.idx_int
    wp_walk using wpAny_loadPart' hl
    repeat (first
      | (refine wpAny_ite_false (decide_eq_false (by rw [c1]; exact Bool.false_ne_true)) ?_; wp_walk using wpAny_loadPart' hl))
    exact ⟨_, rfl, h⟩
def rRep0 (K : PySem.W.Frag) : R2 := fun x y H Q => ∃ l xs, x = .ref l ∧ y = .int 0 ∧ SqT K H l xs ∧ xs ≠ [] ∧ ∀ p, H p = none → Q (.ref p) (upd H p (.tup []))
section
variable {X : Cx}
theorem op_rep0 : OpR X (binaryOp .Mult) (rRep0 X.K) := by
  intro pins s σ H x y v u Q I rx ry h
  obtain ⟨l, xs, rfl, rfl, hT, hne, q⟩ := h
  cases rx
  obtain ⟨t, rfl⟩ := ry
  obtain ⟨its, r, ⟨⟨cls, dd, data, sl⟩, ho, hc, n, hd⟩, hs⟩ := I.tuple hT
  simp only at hc hd
  subst hc hd
  have hi : its.toArray.isEmpty = false := by
    cases its with
    | nil => have := r.length; simp at this; exact absurd this hne
    | cons a b => rfl
  have c1 : (its.toArray.isEmpty || (0 : Int) == 1) = false := by rw [hi]; rfl
  refine wpAny_binaryOp_repeat_ref (T := "tuple") (U := "int") (by decide) ⟨_, ho, rfl⟩ (fun s' => typeIs_int s' 0 t) noFill_tuple_mul F.fills_int_mul F.slot_int_rmul repeat_tuple F.slot_int_index.lookup
    (call_meets F.slot_int_rmul (typeIs_int s 0 t) F.entry_int_rmul (F.args_int_rmul_2 _ _) (int_rmul_tuple 0 t l its.toArray n dd sl)
      ⟨ho, rfl, ⟨_, ho, rfl⟩, call_meets F.slot_tuple_mul ⟨_, ho, rfl⟩ F.entry_tuple_mul (F.args_tuple_mul_2 _ _) (tuple_mul0 l its.toArray n dd sl t c1) ⟨ho, ?_⟩⟩)
  refine ⟨.ref s.heap.objs.size, _, I.laid (t' := s.toks) (o := .tup []) (fun b ob q => Heap.get?_push_of_some _ q) (Nat.le_refl _) ?_, rfl, q _ (I.hok.fresh (Nat.le_refl _))⟩
  exact ⟨Nat.zero_le _, [], .nil, IsTup.new _ _⟩
end
section
variable {X : Cx} {B : Hp} {ρ : Sls} {G : GL} {D : DE}
/-- a tuple of one thing, n times -/
theorem ev_rep1 {a b : Expr} {pos : Pos} {d : Dat} {n : Nat} (ha : Ev X B ρ G a (.tup [d])) (hb : Ev X B ρ G b (.int n)) (hn : n ≤ 1000) : Ev X B ρ G (.BinOp a .Mult b pos) (.tup (List.replicate n d)) := by
  by_cases h0 : n = 0
  · subst h0
    refine ev_op op_rep0 ha hb fun H _ x y hx hy Q q => ?_
    simp only [Is] at hx hy
    obtain ⟨p, xs, rfl, h1, h2⟩ := hx
    refine ⟨p, xs, rfl, hy, SqT.of h1, fun e => ?_, fun p' hp' => q _ _ (Same.new hp') (by simp only [Is]; exact ⟨p', _, rfl, upd_same, .nil⟩)⟩
    rw [e] at h2
    obtain ⟨_, _, z, _⟩ := IsAll.cons_iff.mp h2
    cases z
  · refine Ev.as ?_ (ev_repT ha hb ⟨by omega, hn⟩ ⟨by simp, by simp⟩)
    congr 1
    clear hb hn h0
    induction n with
    | zero => rfl
    | succ n ih => simp [List.replicate_succ, ih]
theorem ev_neg {a : Expr} {pos : Pos} {i : Int} (ha : Ev X B ρ G a (.int i)) : Ev X B ρ G (.UnaryOp .USub a pos) (.int (-i)) := fun σ H r s Q q =>
  WE.of (pe_un un_neg pe_w) (ha σ H r s _ fun x H1 e1 i1 => by
    simp only [Is] at i1
    exact ⟨i, i1, q _ H1 e1 (by simp only [Is])⟩)
theorem Rep.shrink {P : Program} {w : World} {B' H : Hp} (r : Rep P w B' G H) (e : Same B B') : Rep P w B G H := ⟨e.trans r.base, fun x hx => ⟨(r.own x hx).1, e.free (r.own x hx).2⟩, r.nd⟩
/-- over a new list -/
theorem ss_forN {tg l : Expr} {body rest : List Stmt} {g : TG} {pos : Pos} {ds : List Dat} (hl : El X B ρ G l ds) (hg : PG X tg g) (Pv : Nat → Sls → GL → Prop) (h0 : Up (Pv 0) ρ G)
    (hs : ∀ B', Same B B' → ∀ i d ρ' G', ds[i]? = some d → Pv i ρ' G' → ∃ ρ2, Rd X g d ρ' ρ2 ∧ Ss X B' ρ2 G' body { D with nx := Up (Pv (i + 1)), ct := Up (Pv (i + 1)), bk := fun ρ' G' => Ss X B ρ' G' rest D }) (hd : ∀ ρ' G', Pv ds.length ρ' G' → Ss X B ρ' G' rest D)
    (hc : X.calm = true := by rfl) (hf : ∀ x, foldedSetIterable l X.env x = pure x := by intro _; rfl) (hp : PassesOwn (model X.prog X.w) X.A X.env X.xe := by exact PassesOwn.never) : Ss X B ρ G (.For tg l body [] pos :: rest) D := ss_cons fun σ H r s => by
  refine WS.of (ps_for hp hc (pi_list pe_w) hg pss_w hf) (hl σ H r s _ fun p vs H2 hp2 e2 h2 i2 => ⟨p, rfl, ⟨vs, SqL.of h2⟩, ?_⟩)
  have r0 : Rep X.prog X.w B (G ++ [(p, .lst ds)]) H2 := Ew.mk_lst r e2 hp2 h2 i2
  obtain ⟨r1, sB⟩ := r0.under h2
  refine for_it (walk_list (K := X.K) (a := p) (xs := vs)) (fun i σ' H' => ∃ ρ' G', Rep X.prog X.w (upd B p (.lst vs)) G' H' ∧ Sl H' ρ' σ' ∧ TK H2 H' ∧ Pv i ρ' G') ?_ (fun i σ' H' hi ⟨ρ', G', r', s', t', p'⟩ => SqL.of (r'.base _ _ upd_same)) ?_ ?_
  · obtain ⟨ρ0, f, h⟩ := h0
    exact ⟨ρ0, G, r1, (s.ext e2).frg f, TK.refl _, h⟩
  · rintro i x σ' H' H'' hi ⟨ρ', G', r', s', t', p'⟩ ⟨eH, hx⟩
    subst eH
    obtain ⟨d, hd', hix⟩ := i2.get' hx
    obtain ⟨ρ2, h3, h4⟩ := hs _ sB i d ρ' G' hd' p'
    refine h3 σ' H'' x s' (Is.mono t' _ _ hix) _ fun σ2 s2 => ?_
    have q := h4 σ2 H'' r' s2
    refine ends_mono q (fun _ _ ⟨a, b, c, d, e, ρ0, f0, f⟩ => ⟨ρ0, b, c, d.frg f0, t'.trans e, f⟩) (fun _ _ ⟨a, b, c, d, e, f⟩ => ⟨a, b, c.shrink sB, d, (TK.of e2).trans (t'.trans e), f⟩) (fun _ _ ⟨a, b, c, d, e, f⟩ => ⟨a, b, c.shrink sB, d, (TK.of e2).trans (t'.trans e), f⟩) (fun _ _ ⟨a, b, c, d, e, ρ0, f0, f⟩ => ⟨ρ0, b, c, d.frg f0, t'.trans e, f⟩)
  · rintro σ' H' ⟨ρ', G', r', s', t', p'⟩
    rw [i2.length] at p'
    exact ⟨ρ', G', r'.shrink sB, s', (TK.of e2).trans t', hd ρ' G' p'⟩
theorem get_mid {A : Type} (L R : List A) (a : A) : (L ++ a :: R)[L.length]? = some a := by simp
theorem set_mid {A : Type} (L R : List A) (a b : A) : (L ++ a :: R).set L.length b = L ++ b :: R := by simp
theorem ss_fld {o e : Expr} {f : Str} {pos pos' : Pos} {C : Addr} {post : Dat → GL → Prop} {rest : List Stmt} (he : Ew X B ρ G e post)
    (hk : ∀ d G', post d G' → ∃ (p : Addr) (L R : GL) (fs : List (Str × Dat)), Ev X B ρ G' o (.adr p) ∧ G' = L ++ (p, DO.ins C fs) :: R ∧ fs.length < 50 ∧ Ss X B ρ (L ++ (p, DO.ins C ((f, d) :: fs)) :: R) rest D)
    (hc : Cls X.K C) (hn : NoAttr X.K C f) (hs : swapsWith e (some (.Attribute o f pos')) pos.line X.env = pure false := by rfl) : Ss X B ρ G (.Assign [.Attribute o f pos'] e pos :: rest) D :=
  ss_cons (s1_fld he (fun d G' z => by
    obtain ⟨p, L, R, fs, h1, h2, h3, h4⟩ := hk d G' z
    subst h2
    exact ⟨L.length, p, fs, h1, get_mid _ _ _, h3, by rw [set_mid]; exact h4⟩) hc hn hs)
/-- target = e, the target a tuple -/
theorem ss_asg {tg e : Expr} {g : TG} {pos : Pos} {d : Dat} {ρ' : Sls} {rest : List Stmt} (hg : PG X tg g) (he : Ev X B ρ G e d) (hr : Rd X g d ρ ρ') (hk : Ss X B ρ' G rest D)
    (hs : swapsWithSole [tg] e pos.line X.env = pure false := by rfl) (hw : swappedStores [tg] e X.env = pure none := by rfl) (h1 : (assignEach [tg] X.env).map (·.2) = [assign tg X.env] := by rfl) : Ss X B ρ G (.Assign [tg] e pos :: rest) D := ss_asgV hg he hr hk hs hw h1
end
end Bk
set_option Elab.async false
set_option linter.all false
set_option autoImplicit false
set_option maxRecDepth 100000
set_option maxHeartbeats 1000000
namespace Bk
open PySem L2
section
variable {X : Cx} {B : Hp} {ρ : Sls} {G : GL} {D : DE}
theorem Ew.sub {e : Expr} {p q : Dat → GL → Prop} (h : Ew X B ρ G e p) (hk : ∀ d G', p d G' → ∃ G2, List.Sublist G2 G' ∧ q d G2) : Ew X B ρ G e q := fun σ H r s Q k =>
  h σ H r s Q fun v H2 d G' r' t i z => by
    obtain ⟨G2, h1, h2⟩ := hk d G' z
    exact k v H2 d G2 (r'.sub h1) t i h2
theorem ss_aug {i : Nat} {x : Str} {e : Expr} {pos pos' : Pos} {a b : Int} {rest : List Stmt} (hρ : ρ[i]? = some (some (.int a))) (he : Ev X B ρ G e (.int b)) (hk : Ss X B (ρ.set i (some (.int (a + b)))) G rest D) (hN : X.N.Nodup) (hi : X.N[i]? = some x := by rfl) (hx : Loc X.env.scope x := by first | exact Or.inl rfl | exact Or.inr rfl)
    (hf : X.fn x = true ∨ X.env.scope.names.lookup x = some .local := by first | exact .inl rfl | exact .inr rfl) : Ss X B ρ G (.AugAssign (.Name x pos') .Add e pos :: rest) D := ss_cons fun σ H r s => by
  obtain ⟨v, h1, h2⟩ := s.get i _ hρ
  simp only [Is] at h2
  refine WS.of (ps_aug hN hi hx pe_w ip_add hf) ⟨v, h1, he σ H r s _ fun y H1 e1 i1 => ?_⟩
  simp only [Is] at i1
  exact ⟨a, b, h2, i1, ρ.set i (some (.int (a + b))), G, r.ext e1, (s.ext e1).set i (by simp only [Is]), .of e1, hk⟩
theorem r2_catA {ds es : List Dat} (hl : ds.length + es.length ≤ 100000) : R2D X B G (rCatA X.K) (.tup ds) (.tup es) (.tup (ds ++ es)) := fun H _ x y hx hy Q q => by
  simp only [Is] at hx hy
  obtain ⟨p, xs, rfl, h1, h2⟩ := hx
  obtain ⟨p', ys, rfl, h3, h4⟩ := hy
  refine ⟨p, p', xs, ys, rfl, rfl, SqT.of h1, SqT.of h3, by rw [h2.length, h4.length]; exact Nat.le_trans hl (by decide), fun e => ?_, fun e e' => ?_, fun _ _ p2 hp2 => ?_⟩
  · have : ds = [] := by rw [e] at h2; cases ds with | nil => rfl | cons d ds => obtain ⟨_, _, z, _⟩ := IsAll.cons_iff.mp h2; cases z
    subst this
    exact q _ H (Same.refl H) (by simp only [Is]; exact ⟨p', ys, rfl, h3, h4⟩)
  · have : es = [] := by rw [e'] at h4; cases es with | nil => rfl | cons d es => obtain ⟨_, _, z, _⟩ := IsAll.cons_iff.mp h4; cases z
    subst this
    exact q _ H (Same.refl H) (by simp only [Is]; rw [List.append_nil]; exact ⟨p, xs, rfl, h1, h2⟩)
  · exact q _ _ (Same.new hp2) (by simp only [Is]; exact ⟨p2, xs ++ ys, rfl, upd_same, IsAll.mono (.of (Same.new hp2)) _ _ (h2.append h4)⟩)
theorem ew_addTW {a b : Expr} {pos : Pos} {ds : List Dat} {p post : Dat → GL → Prop} (ha : Ev X B ρ G a (.tup ds)) (hb : Ew X B ρ G b p) (hk : ∀ d G', p d G' → ∃ es, d = .tup es ∧ ds.length + es.length ≤ 100000 ∧ post (.tup (ds ++ es)) G') : Ew X B ρ G (.BinOp a .Add b pos) post := fun σ H r s Q q =>
  WE.of (pe_op op_catA pe_w pe_w) (ha σ H r s _ fun x H1 e1 i1 => hb σ H1 (r.ext e1) (s.ext e1) _ fun y H2 d G' r' t i2 z => by
    obtain ⟨es, rfl, hl, hp⟩ := hk d G' z
    refine r2_catA (X := X) (B := B) (G := G') hl H2 r' x y (Is.mono t _ _ i1) i2 Q fun v H3 e3 i3 => ?_
    exact q v H3 _ G' (r'.ext e3) (((TK.of e1).trans t).trans (.of e3)) i3 hp)
/-- flat things told apart -/
theorem et_neF {a b : Expr} {d e : Dat} {x y : V} {pos : Pos} (ha : Ev X B ρ G a d) (hb : Ev X B ρ G b e) (h1 : d.flat = some x) (h2 : e.flat = some y) (hs : scal x y = true) : Et X B ρ G (.Compare a [.NotEq] [b] pos) (!decide (x = y)) := et_cmp op_ne ha hb (r2_ne h1 h2 hs) (nomark _)
theorem et_eqF {a b : Expr} {d e : Dat} {x y : V} {pos : Pos} (ha : Ev X B ρ G a d) (hb : Ev X B ρ G b e) (h1 : d.flat = some x) (h2 : e.flat = some y) (hs : scal x y = true) : Et X B ρ G (.Compare a [.Eq] [b] pos) (decide (x = y)) := et_cmp op_eq ha hb (r2_eq h1 h2 hs) (nomark _)
theorem ev_eqF {a b : Expr} {d e : Dat} {x y : V} {pos : Pos} (ha : Ev X B ρ G a d) (hb : Ev X B ρ G b e) (h1 : d.flat = some x) (h2 : e.flat = some y) (hs : scal x y = true) : Ev X B ρ G (.Compare a [.Eq] [b] pos) (.bl (decide (x = y))) := ev_cmp op_eq ha hb (r2_eq h1 h2 hs) (nomark _)
/-- l.append(e) -/
theorem ss_append {o e : Expr} {apos cpos pos : Pos} {p : Addr} {post : Dat → GL → Prop} {rest : List Stmt} (ho : Ev X B ρ G o (.adr p)) (hv : Ew X B ρ G e post)
    (hk : ∀ d G', post d G' → ∃ (L R : GL) (ds : List Dat), G' = L ++ (p, DO.lst ds) :: R ∧ ds.length < sizeLine ∧ Ss X B ρ (L ++ (p, DO.lst (ds ++ [d])) :: R) rest D)
    (hl0 : ∃ (j : Nat) (ds : List Dat), G[j]? = some (p, DO.lst ds)) (hbase : attributeBase o "append" X.env (eval o X.env) = eval o X.env := by rfl) (hs : starEach [e] X.env = (false, eval e X.env) :: starEach [] X.env := by rfl)
    (hfew : ((backTo cpos (starEach [e] X.env)).all (fun x => !x.1) && (backToKw cpos (keywordEach [] X.env)).all (fun x => x.1.isSome) && decide ([e].length + ([] : List Keyword).length + (if ([] : List Keyword).isEmpty then 0 else 1) < 30)) = true := by rfl)
    (hline : (apos.endLine == cpos.line) = true := by rfl) (hsw : swapsWith (.Call (.Attribute o "append" apos) [e] [] cpos) none pos.line X.env = pure false := by rfl) :
    Ss X B ρ G (.Expr (.Call (.Attribute o "append" apos) [e] [] cpos) pos :: rest) D :=
  ss_cons (s1_append ho hv (fun d G' z => by
    obtain ⟨L, R, ds, h1, h2, h3⟩ := hk d G' z
    subst h1
    exact ⟨L.length, ds, get_mid _ _ _, h2, by rw [set_mid]; exact h3⟩) hl0 hbase hs hfew hline hsw)
end
end Bk
set_option Elab.async false
set_option linter.all false
set_option autoImplicit false
set_option maxRecDepth 100000
set_option maxHeartbeats 1000000
/-! What the law draws, as typed things and as data. -/
namespace Bk
open PySem L2
inductive It where | v (b : Bool) | s (g : Sg)
  deriving DecidableEq
def sgC : Sg → Nat | .inf k => 97 + k | .ahd k => 112 + k
def sgS (g : Sg) : Str := ⟨#[sgC g]⟩
def txt (gs : List Sg) : Str := ⟨(gs.map sgC).toArray⟩
def vD (b : Bool) : Dat := .int (if b = true then 1 else 0)
def sgD (g : Sg) : Dat := .str (sgS g)
def itD : It → Dat | .v b => vD b | .s g => sgD g
def wdS : Wd → Str | .left => "left" | .right => "right" | .non => "none"
/-- a level: its word, its signs -/
abbrev Lv := Wd × List Sg
abbrev Tb := List Lv
def lvD (l : Lv) : Dat := .tup [.str (wdS l.1), .str (txt l.2)]
def tbD (T : Tb) : Dat := .tup (T.map lvD)
def lnD (l : Ln) : Dat := .tup [vD l.1, vD l.2]
def sqD (q : Ln × Ln) : Dat := .tup [lnD q.1, lnD q.2]
structure Mg where
  sqs : List (Ln × Ln)
  lns : List Ln
def mgD (M : Mg) : Dat := .tup [.int 2, .tup (M.sqs.map sqD), .tup (M.lns.map lnD)]
/-- how many infix signs, how many signs ahead -/
abbrev Mn := Nat × Nat
def okM (m : Mn) : Prop := m ∈ [(1, 0), (1, 1), (1, 2), (2, 0), (2, 1), (3, 0)]
def allS (m : Mn) : List Sg := (List.range m.1).map .inf ++ (List.range m.2).map .ahd
structure TbOk (m : Mn) (T : Tb) : Prop where
  okm : okM m
  len : T.length ≤ 3
  ne : ∀ l ∈ T, l.2 ≠ []
  srt : ∀ l ∈ T, (l.2.map sgC).Pairwise (· < ·)
  perm : (T.flatMap (·.2)).Perm (allS m)
structure MgOk (m : Mn) (M : Mg) : Prop where
  sq : M.sqs.length = m.1
  ln : M.lns.length = m.2
theorem sgC_inj {a b : Sg} {m : Mn} (ha : a ∈ allS m) (hb : b ∈ allS m) (hm : okM m) (h : sgC a = sgC b) : a = b := by
  simp only [allS, List.mem_append, List.mem_map, List.mem_range] at ha hb
  have : m.1 ≤ 3 := by simp only [okM, List.mem_cons, List.mem_nil_iff, or_false] at hm; rcases hm with rfl | rfl | rfl | rfl | rfl | rfl <;> decide
  rcases ha with ⟨i, hi, rfl⟩ | ⟨i, hi, rfl⟩ <;> rcases hb with ⟨j, hj, rfl⟩ | ⟨j, hj, rfl⟩ <;> simp only [sgC] at h <;> first | (congr 1; omega) | omega
theorem signs_txt (gs : List Sg) : signs (txt gs) = gs.map sgD := by
  simp only [signs, txt, List.map_map]
  rfl
theorem txt_len (gs : List Sg) : (txt gs).length = gs.length := by
  show (txt gs).cps.size = _
  simp [txt]
theorem txt_append (a b : List Sg) : txt (a ++ b) = txt a ++ txt b := by
  show _ = Str.mk _
  simp [txt]
theorem allS_len (m : Mn) : (allS m).length = m.1 + m.2 := by simp [allS]
theorem TbOk.pos {m : Mn} {T : Tb} (h : TbOk m T) : 1 ≤ T.length := by
  rcases T with _ | ⟨l, T⟩
  · have := h.perm.length_eq
    rw [allS_len] at this
    have hm := h.okm
    simp only [okM, List.mem_cons, List.mem_nil_iff, or_false] at hm
    rcases hm with rfl | rfl | rfl | rfl | rfl | rfl <;> simp at this
  · simp
theorem TbOk.mem {m : Mn} {T : Tb} (h : TbOk m T) {l : Lv} {g : Sg} (hl : l ∈ T) (hg : g ∈ l.2) : g ∈ allS m := h.perm.mem_iff.mp (List.mem_flatMap.mpr ⟨l, hl, hg⟩)
theorem allS_cases {m : Mn} {g : Sg} (hm : okM m) (hg : g ∈ allS m) : (∃ k, k < m.1 ∧ k < 3 ∧ g = .inf k) ∨ ∃ k, k < m.2 ∧ k < 2 ∧ g = .ahd k := by
  simp only [allS, List.mem_append, List.mem_map, List.mem_range] at hg
  simp only [okM, List.mem_cons, List.mem_nil_iff, or_false] at hm
  rcases hg with ⟨k, hk, rfl⟩ | ⟨k, hk, rfl⟩
  · exact .inl ⟨k, hk, by rcases hm with rfl | rfl | rfl | rfl | rfl | rfl <;> simp at hk <;> omega, rfl⟩
  · exact .inr ⟨k, hk, by rcases hm with rfl | rfl | rfl | rfl | rfl | rfl <;> simp at hk <;> omega, rfl⟩
theorem sg_in_abc {m : Mn} {g : Sg} (hm : okM m) (hg : g ∈ allS m) : decide (sgC g ∈ ("abc" : Str).cps.toList) = (match g with | .inf _ => true | .ahd _ => false) := by
  rcases allS_cases hm hg with ⟨k, h1, h2, rfl⟩ | ⟨k, h1, h2, rfl⟩
  · have : k = 0 ∨ k = 1 ∨ k = 2 := by omega
    rcases this with rfl | rfl | rfl <;> rfl
  · have : k = 0 ∨ k = 1 := by omega
    rcases this with rfl | rfl <;> rfl
theorem sg_in_pq {m : Mn} {g : Sg} (hm : okM m) (hg : g ∈ allS m) : decide (sgC g ∈ ("pq" : Str).cps.toList) = (match g with | .inf _ => false | .ahd _ => true) := by
  rcases allS_cases hm hg with ⟨k, h1, h2, rfl⟩ | ⟨k, h1, h2, rfl⟩
  · have : k = 0 ∨ k = 1 ∨ k = 2 := by omega
    rcases this with rfl | rfl | rfl <;> rfl
  · have : k = 0 ∨ k = 1 := by omega
    rcases this with rfl | rfl <;> rfl
end Bk
set_option Elab.async false
set_option linter.all false
set_option autoImplicit false
set_option maxRecDepth 100000
set_option maxHeartbeats 1000000
namespace Bk
open PySem L2
theorem okM_cases {m : Mn} (h : okM m) {p : Mn → Prop} (h1 : p (1, 0)) (h2 : p (1, 1)) (h3 : p (1, 2)) (h4 : p (2, 0)) (h5 : p (2, 1)) (h6 : p (3, 0)) : p m := by
  simp only [okM, List.mem_cons, List.mem_nil_iff, or_false] at h
  rcases h with rfl | rfl | rfl | rfl | rfl | rfl <;> assumption
theorem okM_le {m : Mn} (hm : okM m) : m.1 ≤ 3 ∧ m.2 ≤ 2 ∧ 1 ≤ m.1 ∧ m.1 + m.2 ≤ 3 := okM_cases (p := fun m => m.1 ≤ 3 ∧ m.2 ≤ 2 ∧ 1 ≤ m.1 ∧ m.1 + m.2 ≤ 3) hm (by decide) (by decide) (by decide) (by decide) (by decide) (by decide)
theorem TL.joinL_nil : ∀ ls : List (List Nat), TL.joinL [] ls = ls.flatten
  | [] => rfl
  | [p] => by simp [TL.joinL]
  | p :: q :: r => by
    rw [TL.joinL, TL.joinL_nil (q :: r)]; simp
theorem str_ext {x y : Str} (h : x.cps.toList = y.cps.toList) : x = y := by
  cases x; cases y
  congr 1
  exact Array.ext' h
theorem joinE (ps : List Str) : (Txt.join "" ps).cps.toList = (ps.map fun p => p.cps.toList).flatten := by
  rw [TL.join_eq]
  have := TL.tl_join "" ps
  have e : TL.tl ("" : Str) = [] := rfl
  rw [e, TL.joinL_nil] at this
  exact this
theorem txt_list (gs : List Sg) : (txt gs).cps.toList = gs.map sgC := by simp [txt]
theorem join_txt (gss : List (List Sg)) : Txt.join "" (gss.map txt) = txt gss.flatten := by
  refine str_ext ?_
  rw [joinE, txt_list, List.map_map, List.map_flatten]
  congr 1
theorem join_one (gs : List Sg) : Txt.join "" (gs.map sgS) = txt gs := by
  have : gs.map sgS = (gs.map fun g => [g]).map txt := by rw [List.map_map]; rfl
  rw [this, join_txt]
  congr 1
  clear this
  induction gs with
  | nil => rfl
  | cons g gs ih => simpa using ih
def one (c : Nat) : Str := ⟨#[c]⟩
theorem chars_one (z : Str) : chars z = z.cps.toList.map one := rfl
theorem lt_one (c d : Nat) : PySem.Spec.ltCps (one c).cps.toList (one d).cps.toList = decide (c < d) := by
  rw [PyProof.Rows.ltCps_eq]
  refine decide_eq_decide.mpr ?_
  show [c] < [d] ↔ c < d
  constructor
  · intro h
    cases h with
    | rel h => exact h
    | cons h => cases h
  · intro h; exact List.Lex.rel h
theorem rising_one : ∀ (cs : List Nat) (p : Nat), PyProof.Rows.risingS (one p) (cs.map one) = true → (∀ c ∈ cs, p ≤ c) ∧ cs.Pairwise (· ≤ ·)
  | [], p, _ => ⟨by simp, .nil⟩
  | c :: cs, p, h => by
    simp only [List.map_cons, PyProof.Rows.risingS, lt_one, Bool.and_eq_true, Bool.not_eq_true', decide_eq_false_iff_not] at h
    obtain ⟨h1, h2⟩ := rising_one cs c h.2
    refine ⟨fun d hd => ?_, .cons h1 h2⟩
    rcases List.mem_cons.mp hd with e | e
    · omega
    · have := h1 d e; omega
theorem sorted_one {cs : List Nat} (h : PyProof.Rows.sortedS (cs.map one) = true) : cs.Pairwise (· ≤ ·) := by
  cases cs with
  | nil => exact .nil
  | cons c cs =>
    obtain ⟨h1, h2⟩ := rising_one cs c h
    exact .cons h1 h2
theorem allS_sorted {m : Mn} (hm : okM m) : ((allS m).map sgC).Pairwise (· ≤ ·) := okM_cases (p := fun m => ((allS m).map sgC).Pairwise (· ≤ ·)) hm (by decide) (by decide) (by decide) (by decide) (by decide) (by decide)
theorem sorted_txt {m : Mn} (hm : okM m) {gs : List Sg} (hp : gs.Perm (allS m)) (ys : List Str) (h1 : ys.Perm (chars (txt gs))) (h2 : PyProof.Rows.sortedS ys = true) : ys = (allS m).map sgS := by
  obtain ⟨cs, rfl⟩ : ∃ cs : List Nat, ys = cs.map one := by
    refine ⟨ys.map fun s => s.cps.getD 0 0, ?_⟩
    rw [List.map_map]
    refine (List.map_id ys).symm.trans (List.map_congr_left fun s hs => ?_)
    have := h1.mem_iff.mp hs
    rw [chars_one] at this
    obtain ⟨c, _, rfl⟩ := List.mem_map.mp this
    rfl
  have inj : ∀ (a b : List Nat), (a.map one).Perm (b.map one) → a.Perm b := fun a b h => by
    have := h.map (fun s : Str => s.cps.getD 0 0)
    simpa [List.map_map, Function.comp_def, one] using this
  rw [chars_one] at h1
  have p1 := inj _ _ h1
  rw [txt_list] at p1
  have p2 : cs.Perm ((allS m).map sgC) := p1.trans (hp.map sgC)
  have e := p2.eq_of_pairwise (fun a b _ _ h h' => Nat.le_antisymm h h') (sorted_one h2) (allS_sorted hm)
  rw [e, List.map_map]
  rfl
theorem signs_range (z : Str) : signs z = z.cps.toList.map fun c => Dat.str (one c) := rfl
theorem txt_size (gs : List Sg) : (txt gs).cps.size = gs.length := by simp [txt]
theorem flat_map2 (T : Tb) : (T.map (·.2)).flatten = T.flatMap (·.2) := by rw [List.flatMap_def]
theorem TbOk.glen {m : Mn} {T : Tb} (h : TbOk m T) : (T.flatMap (·.2)).length ≤ 3 := by
  rw [h.perm.length_eq, allS_len]; exact (okM_le h.okm).2.2.2
end Bk
set_option Elab.async false
set_option linter.all false
set_option autoImplicit false
set_option maxRecDepth 100000
set_option maxHeartbeats 1000000
/-! Each def of the text: its names, what the top knows of it. Printed by gentx.py. -/
namespace Bk
open PySem L2
structure Tx (P : Program) (w : World) (K : PySem.W.Frag) (mg : Str → Option Value) : Prop where
  ex : ∃ h : Heap, K.In h ∧ h.Ns mainGlobals mg ∧ He.SaysX fa fn [] [] exB w h K
section
variable {P : Program} {w : World} {K : PySem.W.Frag} {mg : Str → Option Value} {base : Heap}
theorem Tx.glo (T : Tx P w K mg) (i : Nat) {x : Str} (h : fa[i]? = some (.glo x) := by rfl) : mg x = some (.ref (He.ga K x)) := by
  obtain ⟨_, X, G, c⟩ := T.ex
  exact He.glo_ok X G (c.t.d.fact i (f := .glo x) h)
theorem Tx.free (T : Tx P w K mg) (i : Nat) {x : Str} (h : fa[i]? = some (.free x) := by rfl) : mg x = none := by
  obtain ⟨_, X, G, c⟩ := T.ex
  exact He.free_ok X G (c.t.d.fact i (f := .free x) h)
theorem Tx.str (T : Tx P w K mg) (i : Nat) {x z : Str} (h : fa[i]? = some (.str x z) := by rfl) : ∃ t, mg x = some (.str z t) := by
  obtain ⟨_, X, G, c⟩ := T.ex
  exact He.str_ok X G (c.t.d.fact i (f := .str x z) h)
theorem Tx.int (T : Tx P w K mg) (i : Nat) {x : Str} {z : Int} (h : fa[i]? = some (.int x z) := by rfl) : ∃ t, mg x = some (.int z t) := by
  obtain ⟨_, X, G, c⟩ := T.ex
  exact He.int_ok X G (c.t.d.fact i (f := .int x z) h)
theorem Tx.def_ (T : Tx P w K mg) (i : Nat) {d : He.DefD} (h : fn[i]? = some d := by rfl) : ∃ fd, FunD K d.name d.qual d.params d.body d.scope (d.dvs K) (d.kws K) (He.fAd K d.at_) fd := by
  obtain ⟨_, X, G, c⟩ := T.ex
  exact c.t.d.def_ i h
theorem Tx.more (T : Tx P w K mg) : exB K = true := by
  obtain ⟨_, X, G, c⟩ := T.ex
  exact c.more
abbrev Mcl (K : PySem.W.Frag) : Addr := He.ga K "Machine"
theorem Tx.cls (T : Tx P w K mg) (i : Nat) {x : Str} (h : fa[i]? = some (.cls x) := by rfl) : Cls K (He.ga K x) := by
  obtain ⟨_, X, G, c⟩ := T.ex
  exact He.cls_ok (c.t.d.fact i (f := .cls x) h)
theorem Tx.mkr (T : Tx P w K mg) (i : Nat) {x : Str} (h : fa[i]? = some (.mkr x) := by rfl) : Mk K (He.ga K x) (He.ma K (He.ga K x) "__init__") := by
  obtain ⟨_, X, G, c⟩ := T.ex
  exact He.mkr_ok (c.t.d.fact i (f := .mkr x) h)
theorem Tx.meth (T : Tx P w K mg) (i : Nat) {x m : Str} (h : fa[i]? = some (.meth x m) := by rfl) : Meth K (He.ga K x) m (He.ma K (He.ga K x) m) := by
  obtain ⟨_, X, G, c⟩ := T.ex
  exact He.meth_ok (c.t.d.fact i (f := .meth x m) h)
theorem Tx.noat (T : Tx P w K mg) (i : Nat) {x f : Str} (h : fa[i]? = some (.noat x f) := by rfl) : NoAttr K (He.ga K x) f := by
  obtain ⟨_, X, G, c⟩ := T.ex
  exact He.noat_ok (c.t.d.fact i (f := .noat x f) h)

abbrev n_is_int : List Str := ["value", "low", "high"]
theorem sc_is_int : FnScope n_is_int ["value", "low", "high"] (defScope s_is_int) := ⟨rfl, rfl, rfl, by decide +kernel, rfl, by decide +kernel, by decide +kernel⟩
theorem kn_is_int (T : Tx P w K mg) {k : Nat} {pre : Pre} (hlen : ∀ ds B G post, pre ds B G post → ds.length = 3) (hb : BodyOk P w K mg base n_is_int ["value", "low", "high"] "is_int" s_is_int (He.ga K "is_int") k pre) : Kn P w K mg base "is_int" (k + 1) pre := by
  obtain ⟨fd, F⟩ : ∃ fd, FunD K "is_int" "is_int" (defArgs s_is_int) (defBody s_is_int) (defScope s_is_int) [] [] (He.ga K "is_int") fd := T.def_ 0 (d := d_is_int) rfl
  exact ⟨He.ga K "is_int", fd, ["value", "low", "high"], fun_okD (N := n_is_int) (ps := ["value", "low", "high"]) (pre := pre) (k := k) (He5.fun_of F) sc_is_int rfl hlen @hb, F.kp, F.bindsN (ps := ["value", "low", "high"]) (fun _ _ _ _ _ _ us hl => by match us, hl with | [_, _, _], _ => kernel_rfl), T.glo 0⟩
abbrev n_is_choice : List Str := ["signs", "infix", "sign", "ahead"]
theorem sc_is_choice : FnScope n_is_choice ["signs"] (defScope s_is_choice) := ⟨rfl, rfl, rfl, by decide +kernel, rfl, by decide +kernel, by decide +kernel⟩
theorem kn_is_choice (T : Tx P w K mg) {k : Nat} {pre : Pre} (hlen : ∀ ds B G post, pre ds B G post → ds.length = 1) (hb : BodyOk P w K mg base n_is_choice ["signs"] "is_choice" s_is_choice (He.ga K "is_choice") k pre) : Kn P w K mg base "is_choice" (k + 1) pre := by
  obtain ⟨fd, F⟩ : ∃ fd, FunD K "is_choice" "is_choice" (defArgs s_is_choice) (defBody s_is_choice) (defScope s_is_choice) [] [] (He.ga K "is_choice") fd := T.def_ 1 (d := d_is_choice) rfl
  exact ⟨He.ga K "is_choice", fd, ["signs"], fun_okD (N := n_is_choice) (ps := ["signs"]) (pre := pre) (k := k) (He5.fun_of F) sc_is_choice rfl hlen @hb, F.kp, F.bindsN (ps := ["signs"]) (fun _ _ _ _ _ _ us hl => by match us, hl with | [_], _ => kernel_rfl), T.glo 1⟩
abbrev n_is_level : List Str := ["value", "one", "sign", "other"]
theorem sc_is_level : FnScope n_is_level ["value"] (defScope s_is_level) := ⟨rfl, rfl, rfl, by decide +kernel, rfl, by decide +kernel, by decide +kernel⟩
theorem kn_is_level (T : Tx P w K mg) {k : Nat} {pre : Pre} (hlen : ∀ ds B G post, pre ds B G post → ds.length = 1) (hb : BodyOk P w K mg base n_is_level ["value"] "is_level" s_is_level (He.ga K "is_level") k pre) : Kn P w K mg base "is_level" (k + 1) pre := by
  obtain ⟨fd, F⟩ : ∃ fd, FunD K "is_level" "is_level" (defArgs s_is_level) (defBody s_is_level) (defScope s_is_level) [] [] (He.ga K "is_level") fd := T.def_ 2 (d := d_is_level) rfl
  exact ⟨He.ga K "is_level", fd, ["value"], fun_okD (N := n_is_level) (ps := ["value"]) (pre := pre) (k := k) (He5.fun_of F) sc_is_level rfl hlen @hb, F.kp, F.bindsN (ps := ["value"]) (fun _ _ _ _ _ _ us hl => by match us, hl with | [_], _ => kernel_rfl), T.glo 2⟩
abbrev n_all_signs : List Str := ["table", "word", "signs"]
theorem sc_all_signs : FnScope n_all_signs ["table"] (defScope s_all_signs) := ⟨rfl, rfl, rfl, by decide +kernel, rfl, by decide +kernel, by decide +kernel⟩
theorem kn_all_signs (T : Tx P w K mg) {k : Nat} {pre : Pre} (hlen : ∀ ds B G post, pre ds B G post → ds.length = 1) (hb : BodyOk P w K mg base n_all_signs ["table"] "all_signs" s_all_signs (He.ga K "all_signs") k pre) : Kn P w K mg base "all_signs" (k + 1) pre := by
  obtain ⟨fd, F⟩ : ∃ fd, FunD K "all_signs" "all_signs" (defArgs s_all_signs) (defBody s_all_signs) (defScope s_all_signs) [] [] (He.ga K "all_signs") fd := T.def_ 3 (d := d_all_signs) rfl
  exact ⟨He.ga K "all_signs", fd, ["table"], fun_okD (N := n_all_signs) (ps := ["table"]) (pre := pre) (k := k) (He5.fun_of F) sc_all_signs rfl hlen @hb, F.kp, F.bindsN (ps := ["table"]) (fun _ _ _ _ _ _ us hl => by match us, hl with | [_], _ => kernel_rfl), T.glo 3⟩
abbrev n_is_table : List Str := ["value", "one"]
theorem sc_is_table : FnScope n_is_table ["value"] (defScope s_is_table) := ⟨rfl, rfl, rfl, by decide +kernel, rfl, by decide +kernel, by decide +kernel⟩
theorem kn_is_table (T : Tx P w K mg) {k : Nat} {pre : Pre} (hlen : ∀ ds B G post, pre ds B G post → ds.length = 1) (hb : BodyOk P w K mg base n_is_table ["value"] "is_table" s_is_table (He.ga K "is_table") k pre) : Kn P w K mg base "is_table" (k + 1) pre := by
  obtain ⟨fd, F⟩ : ∃ fd, FunD K "is_table" "is_table" (defArgs s_is_table) (defBody s_is_table) (defScope s_is_table) [] [] (He.ga K "is_table") fd := T.def_ 4 (d := d_is_table) rfl
  exact ⟨He.ga K "is_table", fd, ["value"], fun_okD (N := n_is_table) (ps := ["value"]) (pre := pre) (k := k) (He5.fun_of F) sc_is_table rfl hlen @hb, F.kp, F.bindsN (ps := ["value"]) (fun _ _ _ _ _ _ us hl => by match us, hl with | [_], _ => kernel_rfl), T.glo 4⟩
abbrev n_check_table : List Str := ["value"]
theorem sc_check_table : FnScope n_check_table ["value"] (defScope s_check_table) := ⟨rfl, rfl, rfl, by decide +kernel, rfl, by decide +kernel, by decide +kernel⟩
theorem kn_check_table (T : Tx P w K mg) {k : Nat} {pre : Pre} (hlen : ∀ ds B G post, pre ds B G post → ds.length = 1) (hb : BodyOk P w K mg base n_check_table ["value"] "check_table" s_check_table (He.ga K "check_table") k pre) : Kn P w K mg base "check_table" (k + 1) pre := by
  obtain ⟨fd, F⟩ : ∃ fd, FunD K "check_table" "check_table" (defArgs s_check_table) (defBody s_check_table) (defScope s_check_table) [] [] (He.ga K "check_table") fd := T.def_ 5 (d := d_check_table) rfl
  exact ⟨He.ga K "check_table", fd, ["value"], fun_okD (N := n_check_table) (ps := ["value"]) (pre := pre) (k := k) (He5.fun_of F) sc_check_table rfl hlen @hb, F.kp, F.bindsN (ps := ["value"]) (fun _ _ _ _ _ _ us hl => by match us, hl with | [_], _ => kernel_rfl), T.glo 5⟩
abbrev n_check_two : List Str := ["one", "other"]
theorem sc_check_two : FnScope n_check_two ["one", "other"] (defScope s_check_two) := ⟨rfl, rfl, rfl, by decide +kernel, rfl, by decide +kernel, by decide +kernel⟩
theorem kn_check_two (T : Tx P w K mg) {k : Nat} {pre : Pre} (hlen : ∀ ds B G post, pre ds B G post → ds.length = 2) (hb : BodyOk P w K mg base n_check_two ["one", "other"] "check_two" s_check_two (He.ga K "check_two") k pre) : Kn P w K mg base "check_two" (k + 1) pre := by
  obtain ⟨fd, F⟩ : ∃ fd, FunD K "check_two" "check_two" (defArgs s_check_two) (defBody s_check_two) (defScope s_check_two) [] [] (He.ga K "check_two") fd := T.def_ 6 (d := d_check_two) rfl
  exact ⟨He.ga K "check_two", fd, ["one", "other"], fun_okD (N := n_check_two) (ps := ["one", "other"]) (pre := pre) (k := k) (He5.fun_of F) sc_check_two rfl hlen @hb, F.kp, F.bindsN (ps := ["one", "other"]) (fun _ _ _ _ _ _ us hl => by match us, hl with | [_, _], _ => kernel_rfl), T.glo 6⟩
abbrev n_places_of : List Str := ["table", "found", "place", "word", "signs", "sign"]
theorem sc_places_of : FnScope n_places_of ["table"] (defScope s_places_of) := ⟨rfl, rfl, rfl, by decide +kernel, rfl, by decide +kernel, by decide +kernel⟩
theorem kn_places_of (T : Tx P w K mg) {k : Nat} {pre : Pre} (hlen : ∀ ds B G post, pre ds B G post → ds.length = 1) (hb : BodyOk P w K mg base n_places_of ["table"] "places_of" s_places_of (He.ga K "places_of") k pre) : Kn P w K mg base "places_of" (k + 1) pre := by
  obtain ⟨fd, F⟩ : ∃ fd, FunD K "places_of" "places_of" (defArgs s_places_of) (defBody s_places_of) (defScope s_places_of) [] [] (He.ga K "places_of") fd := T.def_ 7 (d := d_places_of) rfl
  exact ⟨He.ga K "places_of", fd, ["table"], fun_okD (N := n_places_of) (ps := ["table"]) (pre := pre) (k := k) (He5.fun_of F) sc_places_of rfl hlen @hb, F.kp, F.bindsN (ps := ["table"]) (fun _ _ _ _ _ _ us hl => by match us, hl with | [_], _ => kernel_rfl), T.glo 7⟩
abbrev n_kind_of : List Str := ["item"]
theorem sc_kind_of : FnScope n_kind_of ["item"] (defScope s_kind_of) := ⟨rfl, rfl, rfl, by decide +kernel, rfl, by decide +kernel, by decide +kernel⟩
theorem kn_kind_of (T : Tx P w K mg) {k : Nat} {pre : Pre} (hlen : ∀ ds B G post, pre ds B G post → ds.length = 1) (hb : BodyOk P w K mg base n_kind_of ["item"] "kind_of" s_kind_of (He.ga K "kind_of") k pre) : Kn P w K mg base "kind_of" (k + 1) pre := by
  obtain ⟨fd, F⟩ : ∃ fd, FunD K "kind_of" "kind_of" (defArgs s_kind_of) (defBody s_kind_of) (defScope s_kind_of) [] [] (He.ga K "kind_of") fd := T.def_ 8 (d := d_kind_of) rfl
  exact ⟨He.ga K "kind_of", fd, ["item"], fun_okD (N := n_kind_of) (ps := ["item"]) (pre := pre) (k := k) (He5.fun_of F) sc_kind_of rfl hlen @hb, F.kp, F.bindsN (ps := ["item"]) (fun _ _ _ _ _ _ us hl => by match us, hl with | [_], _ => kernel_rfl), T.glo 8⟩
abbrev n_can_follow : List Str := ["ready", "kind"]
theorem sc_can_follow : FnScope n_can_follow ["ready", "kind"] (defScope s_can_follow) := ⟨rfl, rfl, rfl, by decide +kernel, rfl, by decide +kernel, by decide +kernel⟩
theorem kn_can_follow (T : Tx P w K mg) {k : Nat} {pre : Pre} (hlen : ∀ ds B G post, pre ds B G post → ds.length = 2) (hb : BodyOk P w K mg base n_can_follow ["ready", "kind"] "can_follow" s_can_follow (He.ga K "can_follow") k pre) : Kn P w K mg base "can_follow" (k + 1) pre := by
  obtain ⟨fd, F⟩ : ∃ fd, FunD K "can_follow" "can_follow" (defArgs s_can_follow) (defBody s_can_follow) (defScope s_can_follow) [] [] (He.ga K "can_follow") fd := T.def_ 9 (d := d_can_follow) rfl
  exact ⟨He.ga K "can_follow", fd, ["ready", "kind"], fun_okD (N := n_can_follow) (ps := ["ready", "kind"]) (pre := pre) (k := k) (He5.fun_of F) sc_can_follow rfl hlen @hb, F.kp, F.bindsN (ps := ["ready", "kind"]) (fun _ _ _ _ _ _ us hl => by match us, hl with | [_, _], _ => kernel_rfl), T.glo 9⟩
abbrev n_is_row : List Str := ["value", "ready", "item", "kind"]
theorem sc_is_row : FnScope n_is_row ["value"] (defScope s_is_row) := ⟨rfl, rfl, rfl, by decide +kernel, rfl, by decide +kernel, by decide +kernel⟩
theorem kn_is_row (T : Tx P w K mg) {k : Nat} {pre : Pre} (hlen : ∀ ds B G post, pre ds B G post → ds.length = 1) (hb : BodyOk P w K mg base n_is_row ["value"] "is_row" s_is_row (He.ga K "is_row") k pre) : Kn P w K mg base "is_row" (k + 1) pre := by
  obtain ⟨fd, F⟩ : ∃ fd, FunD K "is_row" "is_row" (defArgs s_is_row) (defBody s_is_row) (defScope s_is_row) [] [] (He.ga K "is_row") fd := T.def_ 10 (d := d_is_row) rfl
  exact ⟨He.ga K "is_row", fd, ["value"], fun_okD (N := n_is_row) (ps := ["value"]) (pre := pre) (k := k) (He5.fun_of F) sc_is_row rfl hlen @hb, F.kp, F.bindsN (ps := ["value"]) (fun _ _ _ _ _ _ us hl => by match us, hl with | [_], _ => kernel_rfl), T.glo 10⟩
abbrev n_has_signs : List Str := ["row", "table", "item"]
theorem sc_has_signs : FnScope n_has_signs ["row", "table"] (defScope s_has_signs) := ⟨rfl, rfl, rfl, by decide +kernel, rfl, by decide +kernel, by decide +kernel⟩
theorem kn_has_signs (T : Tx P w K mg) {k : Nat} {pre : Pre} (hlen : ∀ ds B G post, pre ds B G post → ds.length = 2) (hb : BodyOk P w K mg base n_has_signs ["row", "table"] "has_signs" s_has_signs (He.ga K "has_signs") k pre) : Kn P w K mg base "has_signs" (k + 1) pre := by
  obtain ⟨fd, F⟩ : ∃ fd, FunD K "has_signs" "has_signs" (defArgs s_has_signs) (defBody s_has_signs) (defScope s_has_signs) [] [] (He.ga K "has_signs") fd := T.def_ 11 (d := d_has_signs) rfl
  exact ⟨He.ga K "has_signs", fd, ["row", "table"], fun_okD (N := n_has_signs) (ps := ["row", "table"]) (pre := pre) (k := k) (He5.fun_of F) sc_has_signs rfl hlen @hb, F.kp, F.bindsN (ps := ["row", "table"]) (fun _ _ _ _ _ _ us hl => by match us, hl with | [_, _], _ => kernel_rfl), T.glo 11⟩
abbrev n_check_row : List Str := ["row", "table", "size", "item"]
theorem sc_check_row : FnScope n_check_row ["row", "table", "size"] (defScope s_check_row) := ⟨rfl, rfl, rfl, by decide +kernel, rfl, by decide +kernel, by decide +kernel⟩
theorem kn_check_row (T : Tx P w K mg) {k : Nat} {pre : Pre} (hlen : ∀ ds B G post, pre ds B G post → ds.length = 3) (hb : BodyOk P w K mg base n_check_row ["row", "table", "size"] "check_row" s_check_row (He.ga K "check_row") k pre) : Kn P w K mg base "check_row" (k + 1) pre := by
  obtain ⟨fd, F⟩ : ∃ fd, FunD K "check_row" "check_row" (defArgs s_check_row) (defBody s_check_row) (defScope s_check_row) [] [] (He.ga K "check_row") fd := T.def_ 12 (d := d_check_row) rfl
  exact ⟨He.ga K "check_row", fd, ["row", "table", "size"], fun_okD (N := n_check_row) (ps := ["row", "table", "size"]) (pre := pre) (k := k) (He5.fun_of F) sc_check_row rfl hlen @hb, F.kp, F.bindsN (ps := ["row", "table", "size"]) (fun _ _ _ _ _ _ us hl => by match us, hl with | [_, _, _], _ => kernel_rfl), T.glo 12⟩
abbrev n_is_line : List Str := ["value", "size", "one"]
theorem sc_is_line : FnScope n_is_line ["value", "size"] (defScope s_is_line) := ⟨rfl, rfl, rfl, by decide +kernel, rfl, by decide +kernel, by decide +kernel⟩
theorem kn_is_line (T : Tx P w K mg) {k : Nat} {pre : Pre} (hlen : ∀ ds B G post, pre ds B G post → ds.length = 2) (hb : BodyOk P w K mg base n_is_line ["value", "size"] "is_line" s_is_line (He.ga K "is_line") k pre) : Kn P w K mg base "is_line" (k + 1) pre := by
  obtain ⟨fd, F⟩ : ∃ fd, FunD K "is_line" "is_line" (defArgs s_is_line) (defBody s_is_line) (defScope s_is_line) [] [] (He.ga K "is_line") fd := T.def_ 13 (d := d_is_line) rfl
  exact ⟨He.ga K "is_line", fd, ["value", "size"], fun_okD (N := n_is_line) (ps := ["value", "size"]) (pre := pre) (k := k) (He5.fun_of F) sc_is_line rfl hlen @hb, F.kp, F.bindsN (ps := ["value", "size"]) (fun _ _ _ _ _ _ us hl => by match us, hl with | [_, _], _ => kernel_rfl), T.glo 13⟩
abbrev n_is_square : List Str := ["value", "size", "one"]
theorem sc_is_square : FnScope n_is_square ["value", "size"] (defScope s_is_square) := ⟨rfl, rfl, rfl, by decide +kernel, rfl, by decide +kernel, by decide +kernel⟩
theorem kn_is_square (T : Tx P w K mg) {k : Nat} {pre : Pre} (hlen : ∀ ds B G post, pre ds B G post → ds.length = 2) (hb : BodyOk P w K mg base n_is_square ["value", "size"] "is_square" s_is_square (He.ga K "is_square") k pre) : Kn P w K mg base "is_square" (k + 1) pre := by
  obtain ⟨fd, F⟩ : ∃ fd, FunD K "is_square" "is_square" (defArgs s_is_square) (defBody s_is_square) (defScope s_is_square) [] [] (He.ga K "is_square") fd := T.def_ 14 (d := d_is_square) rfl
  exact ⟨He.ga K "is_square", fd, ["value", "size"], fun_okD (N := n_is_square) (ps := ["value", "size"]) (pre := pre) (k := k) (He5.fun_of F) sc_is_square rfl hlen @hb, F.kp, F.bindsN (ps := ["value", "size"]) (fun _ _ _ _ _ _ us hl => by match us, hl with | [_, _], _ => kernel_rfl), T.glo 14⟩
abbrev n_is_meaning : List Str := ["value", "one"]
theorem sc_is_meaning : FnScope n_is_meaning ["value"] (defScope s_is_meaning) := ⟨rfl, rfl, rfl, by decide +kernel, rfl, by decide +kernel, by decide +kernel⟩
theorem kn_is_meaning (T : Tx P w K mg) {k : Nat} {pre : Pre} (hlen : ∀ ds B G post, pre ds B G post → ds.length = 1) (hb : BodyOk P w K mg base n_is_meaning ["value"] "is_meaning" s_is_meaning (He.ga K "is_meaning") k pre) : Kn P w K mg base "is_meaning" (k + 1) pre := by
  obtain ⟨fd, F⟩ : ∃ fd, FunD K "is_meaning" "is_meaning" (defArgs s_is_meaning) (defBody s_is_meaning) (defScope s_is_meaning) [] [] (He.ga K "is_meaning") fd := T.def_ 15 (d := d_is_meaning) rfl
  exact ⟨He.ga K "is_meaning", fd, ["value"], fun_okD (N := n_is_meaning) (ps := ["value"]) (pre := pre) (k := k) (He5.fun_of F) sc_is_meaning rfl hlen @hb, F.kp, F.bindsN (ps := ["value"]) (fun _ _ _ _ _ _ us hl => by match us, hl with | [_], _ => kernel_rfl), T.glo 15⟩
abbrev n_same_counts : List Str := ["table", "meaning"]
theorem sc_same_counts : FnScope n_same_counts ["table", "meaning"] (defScope s_same_counts) := ⟨rfl, rfl, rfl, by decide +kernel, rfl, by decide +kernel, by decide +kernel⟩
theorem kn_same_counts (T : Tx P w K mg) {k : Nat} {pre : Pre} (hlen : ∀ ds B G post, pre ds B G post → ds.length = 2) (hb : BodyOk P w K mg base n_same_counts ["table", "meaning"] "same_counts" s_same_counts (He.ga K "same_counts") k pre) : Kn P w K mg base "same_counts" (k + 1) pre := by
  obtain ⟨fd, F⟩ : ∃ fd, FunD K "same_counts" "same_counts" (defArgs s_same_counts) (defBody s_same_counts) (defScope s_same_counts) [] [] (He.ga K "same_counts") fd := T.def_ 16 (d := d_same_counts) rfl
  exact ⟨He.ga K "same_counts", fd, ["table", "meaning"], fun_okD (N := n_same_counts) (ps := ["table", "meaning"]) (pre := pre) (k := k) (He5.fun_of F) sc_same_counts rfl hlen @hb, F.kp, F.bindsN (ps := ["table", "meaning"]) (fun _ _ _ _ _ _ us hl => by match us, hl with | [_, _], _ => kernel_rfl), T.glo 16⟩
abbrev n_fits : List Str := ["table", "meaning"]
theorem sc_fits : FnScope n_fits ["table", "meaning"] (defScope s_fits) := ⟨rfl, rfl, rfl, by decide +kernel, rfl, by decide +kernel, by decide +kernel⟩
theorem kn_fits (T : Tx P w K mg) {k : Nat} {pre : Pre} (hlen : ∀ ds B G post, pre ds B G post → ds.length = 2) (hb : BodyOk P w K mg base n_fits ["table", "meaning"] "fits" s_fits (He.ga K "fits") k pre) : Kn P w K mg base "fits" (k + 1) pre := by
  obtain ⟨fd, F⟩ : ∃ fd, FunD K "fits" "fits" (defArgs s_fits) (defBody s_fits) (defScope s_fits) [] [] (He.ga K "fits") fd := T.def_ 17 (d := d_fits) rfl
  exact ⟨He.ga K "fits", fd, ["table", "meaning"], fun_okD (N := n_fits) (ps := ["table", "meaning"]) (pre := pre) (k := k) (He5.fun_of F) sc_fits rfl hlen @hb, F.kp, F.bindsN (ps := ["table", "meaning"]) (fun _ _ _ _ _ _ us hl => by match us, hl with | [_, _], _ => kernel_rfl), T.glo 17⟩
abbrev n_check_meaning : List Str := ["table", "meaning", "most"]
theorem sc_check_meaning : FnScope n_check_meaning ["table", "meaning", "most"] (defScope s_check_meaning) := ⟨rfl, rfl, rfl, by decide +kernel, rfl, by decide +kernel, by decide +kernel⟩
theorem kn_check_meaning (T : Tx P w K mg) {k : Nat} {pre : Pre} (hlen : ∀ ds B G post, pre ds B G post → ds.length = 3) (hb : BodyOk P w K mg base n_check_meaning ["table", "meaning", "most"] "check_meaning" s_check_meaning (He.ga K "check_meaning") k pre) : Kn P w K mg base "check_meaning" (k + 1) pre := by
  obtain ⟨fd, F⟩ : ∃ fd, FunD K "check_meaning" "check_meaning" (defArgs s_check_meaning) (defBody s_check_meaning) (defScope s_check_meaning) [] [] (He.ga K "check_meaning") fd := T.def_ 18 (d := d_check_meaning) rfl
  exact ⟨He.ga K "check_meaning", fd, ["table", "meaning", "most"], fun_okD (N := n_check_meaning) (ps := ["table", "meaning", "most"]) (pre := pre) (k := k) (He5.fun_of F) sc_check_meaning rfl hlen @hb, F.kp, F.bindsN (ps := ["table", "meaning", "most"]) (fun _ _ _ _ _ _ us hl => by match us, hl with | [_, _, _], _ => kernel_rfl), T.glo 18⟩
abbrev n_unlike_row : List Str := ["one", "other", "meaning", "first", "second", "found", "here", "known", "mine", "yours", "row", "item", "after"]
theorem sc_unlike_row : FnScope n_unlike_row ["one", "other", "meaning"] (defScope s_unlike_row) := ⟨rfl, rfl, rfl, by decide +kernel, rfl, by decide +kernel, by decide +kernel⟩
theorem kn_unlike_row (T : Tx P w K mg) {k : Nat} {pre : Pre} (hlen : ∀ ds B G post, pre ds B G post → ds.length = 3) (hb : BodyOk P w K mg base n_unlike_row ["one", "other", "meaning"] "unlike_row" s_unlike_row (He.ga K "unlike_row") k pre) : Kn P w K mg base "unlike_row" (k + 1) pre := by
  obtain ⟨fd, F⟩ : ∃ fd, FunD K "unlike_row" "unlike_row" (defArgs s_unlike_row) (defBody s_unlike_row) (defScope s_unlike_row) [] [] (He.ga K "unlike_row") fd := T.def_ 19 (d := d_unlike_row) rfl
  exact ⟨He.ga K "unlike_row", fd, ["one", "other", "meaning"], fun_okD (N := n_unlike_row) (ps := ["one", "other", "meaning"]) (pre := pre) (k := k) (He5.fun_of F) sc_unlike_row rfl hlen @hb, F.kp, F.bindsN (ps := ["one", "other", "meaning"]) (fun _ _ _ _ _ _ us hl => by match us, hl with | [_, _, _], _ => kernel_rfl), T.glo 19⟩
abbrev n_check_pair : List Str := ["one", "other", "meaning"]
theorem sc_check_pair : FnScope n_check_pair ["one", "other", "meaning"] (defScope s_check_pair) := ⟨rfl, rfl, rfl, by decide +kernel, rfl, by decide +kernel, by decide +kernel⟩
theorem kn_check_pair (T : Tx P w K mg) {k : Nat} {pre : Pre} (hlen : ∀ ds B G post, pre ds B G post → ds.length = 3) (hb : BodyOk P w K mg base n_check_pair ["one", "other", "meaning"] "check_pair" s_check_pair (He.ga K "check_pair") k pre) : Kn P w K mg base "check_pair" (k + 1) pre := by
  obtain ⟨fd, F⟩ : ∃ fd, FunD K "check_pair" "check_pair" (defArgs s_check_pair) (defBody s_check_pair) (defScope s_check_pair) [] [] (He.ga K "check_pair") fd := T.def_ 20 (d := d_check_pair) rfl
  exact ⟨He.ga K "check_pair", fd, ["one", "other", "meaning"], fun_okD (N := n_check_pair) (ps := ["one", "other", "meaning"]) (pre := pre) (k := k) (He5.fun_of F) sc_check_pair rfl hlen @hb, F.kp, F.bindsN (ps := ["one", "other", "meaning"]) (fun _ _ _ _ _ _ us hl => by match us, hl with | [_, _, _], _ => kernel_rfl), T.glo 20⟩
abbrev n_same_values : List Str := ["one", "other", "meaning"]
theorem sc_same_values : FnScope n_same_values ["one", "other", "meaning"] (defScope s_same_values) := ⟨rfl, rfl, rfl, by decide +kernel, rfl, by decide +kernel, by decide +kernel⟩
theorem kn_same_values (T : Tx P w K mg) {k : Nat} {pre : Pre} (hlen : ∀ ds B G post, pre ds B G post → ds.length = 3) (hb : BodyOk P w K mg base n_same_values ["one", "other", "meaning"] "same_values" s_same_values (He.ga K "same_values") k pre) : Kn P w K mg base "same_values" (k + 1) pre := by
  obtain ⟨fd, F⟩ : ∃ fd, FunD K "same_values" "same_values" (defArgs s_same_values) (defBody s_same_values) (defScope s_same_values) [] [] (He.ga K "same_values") fd := T.def_ 21 (d := d_same_values) rfl
  exact ⟨He.ga K "same_values", fd, ["one", "other", "meaning"], fun_okD (N := n_same_values) (ps := ["one", "other", "meaning"]) (pre := pre) (k := k) (He5.fun_of F) sc_same_values rfl hlen @hb, F.kp, F.bindsN (ps := ["one", "other", "meaning"]) (fun _ _ _ _ _ _ us hl => by match us, hl with | [_, _, _], _ => kernel_rfl), T.glo 21⟩
abbrev n_value_row : List Str := ["one", "other", "meaning", "found"]
theorem sc_value_row : FnScope n_value_row ["one", "other", "meaning"] (defScope s_value_row) := ⟨rfl, rfl, rfl, by decide +kernel, rfl, by decide +kernel, by decide +kernel⟩
theorem kn_value_row (T : Tx P w K mg) {k : Nat} {pre : Pre} (hlen : ∀ ds B G post, pre ds B G post → ds.length = 3) (hb : BodyOk P w K mg base n_value_row ["one", "other", "meaning"] "value_row" s_value_row (He.ga K "value_row") k pre) : Kn P w K mg base "value_row" (k + 1) pre := by
  obtain ⟨fd, F⟩ : ∃ fd, FunD K "value_row" "value_row" (defArgs s_value_row) (defBody s_value_row) (defScope s_value_row) [] [] (He.ga K "value_row") fd := T.def_ 22 (d := d_value_row) rfl
  exact ⟨He.ga K "value_row", fd, ["one", "other", "meaning"], fun_okD (N := n_value_row) (ps := ["one", "other", "meaning"]) (pre := pre) (k := k) (He5.fun_of F) sc_value_row rfl hlen @hb, F.kp, F.bindsN (ps := ["one", "other", "meaning"]) (fun _ _ _ _ _ _ us hl => by match us, hl with | [_, _, _], _ => kernel_rfl), T.glo 22⟩
abbrev n_finished : List Str := ["waiting", "tree", "thing"]
theorem sc_finished : FnScope n_finished ["waiting", "tree"] (defScope s_finished) := ⟨rfl, rfl, rfl, by decide +kernel, rfl, by decide +kernel, by decide +kernel⟩
theorem kn_finished (T : Tx P w K mg) {k : Nat} {pre : Pre} (hlen : ∀ ds B G post, pre ds B G post → ds.length = 2) (hb : BodyOk P w K mg base n_finished ["waiting", "tree"] "finished" s_finished (He.ga K "finished") k pre) : Kn P w K mg base "finished" (k + 1) pre := by
  obtain ⟨fd, F⟩ : ∃ fd, FunD K "finished" "finished" (defArgs s_finished) (defBody s_finished) (defScope s_finished) [] [] (He.ga K "finished") fd := T.def_ 23 (d := d_finished) rfl
  exact ⟨He.ga K "finished", fd, ["waiting", "tree"], fun_okD (N := n_finished) (ps := ["waiting", "tree"]) (pre := pre) (k := k) (He5.fun_of F) sc_finished rfl hlen @hb, F.kp, F.bindsN (ps := ["waiting", "tree"]) (fun _ _ _ _ _ _ us hl => by match us, hl with | [_, _], _ => kernel_rfl), T.glo 23⟩
abbrev n_tree_of : List Str := ["table", "row", "places", "waiting", "tree", "item", "place", "word"]
theorem sc_tree_of : FnScope n_tree_of ["table", "row"] (defScope s_tree_of) := ⟨rfl, rfl, rfl, by decide +kernel, rfl, by decide +kernel, by decide +kernel⟩
theorem kn_tree_of (T : Tx P w K mg) {k : Nat} {pre : Pre} (hlen : ∀ ds B G post, pre ds B G post → ds.length = 2) (hb : BodyOk P w K mg base n_tree_of ["table", "row"] "tree_of" s_tree_of (He.ga K "tree_of") k pre) : Kn P w K mg base "tree_of" (k + 1) pre := by
  obtain ⟨fd, F⟩ : ∃ fd, FunD K "tree_of" "tree_of" (defArgs s_tree_of) (defBody s_tree_of) (defScope s_tree_of) [] [] (He.ga K "tree_of") fd := T.def_ 24 (d := d_tree_of) rfl
  exact ⟨He.ga K "tree_of", fd, ["table", "row"], fun_okD (N := n_tree_of) (ps := ["table", "row"]) (pre := pre) (k := k) (He5.fun_of F) sc_tree_of rfl hlen @hb, F.kp, F.bindsN (ps := ["table", "row"]) (fun _ _ _ _ _ _ us hl => by match us, hl with | [_, _], _ => kernel_rfl), T.glo 24⟩
abbrev n_worth : List Str := ["meaning", "tree"]
theorem sc_worth : FnScope n_worth ["meaning", "tree"] (defScope s_worth) := ⟨rfl, rfl, rfl, by decide +kernel, rfl, by decide +kernel, by decide +kernel⟩
theorem kn_worth (T : Tx P w K mg) {k : Nat} {pre : Pre} (hlen : ∀ ds B G post, pre ds B G post → ds.length = 2) (hb : BodyOk P w K mg base n_worth ["meaning", "tree"] "worth" s_worth (He.ga K "worth") k pre) : Kn P w K mg base "worth" (k + 1) pre := by
  obtain ⟨fd, F⟩ : ∃ fd, FunD K "worth" "worth" (defArgs s_worth) (defBody s_worth) (defScope s_worth) [] [] (He.ga K "worth") fd := T.def_ 25 (d := d_worth) rfl
  exact ⟨He.ga K "worth", fd, ["meaning", "tree"], fun_okD (N := n_worth) (ps := ["meaning", "tree"]) (pre := pre) (k := k) (He5.fun_of F) sc_worth rfl hlen @hb, F.kp, F.bindsN (ps := ["meaning", "tree"]) (fun _ _ _ _ _ _ us hl => by match us, hl with | [_, _], _ => kernel_rfl), T.glo 25⟩
abbrev n_value_of : List Str := ["table", "meaning", "row", "tree"]
theorem sc_value_of : FnScope n_value_of ["table", "meaning", "row"] (defScope s_value_of) := ⟨rfl, rfl, rfl, by decide +kernel, rfl, by decide +kernel, by decide +kernel⟩
theorem kn_value_of (T : Tx P w K mg) {k : Nat} {pre : Pre} (hlen : ∀ ds B G post, pre ds B G post → ds.length = 3) (hb : BodyOk P w K mg base n_value_of ["table", "meaning", "row"] "value_of" s_value_of (He.ga K "value_of") k pre) : Kn P w K mg base "value_of" (k + 1) pre := by
  obtain ⟨fd, F⟩ : ∃ fd, FunD K "value_of" "value_of" (defArgs s_value_of) (defBody s_value_of) (defScope s_value_of) [] [] (He.ga K "value_of") fd := T.def_ 26 (d := d_value_of) rfl
  exact ⟨He.ga K "value_of", fd, ["table", "meaning", "row"], fun_okD (N := n_value_of) (ps := ["table", "meaning", "row"]) (pre := pre) (k := k) (He5.fun_of F) sc_value_of rfl hlen @hb, F.kp, F.bindsN (ps := ["table", "meaning", "row"]) (fun _ _ _ _ _ _ us hl => by match us, hl with | [_, _, _], _ => kernel_rfl), T.glo 26⟩
abbrev n_read_value : List Str := ["table", "meaning", "row"]
theorem sc_read_value : FnScope n_read_value ["table", "meaning", "row"] (defScope s_read_value) := ⟨rfl, rfl, rfl, by decide +kernel, rfl, by decide +kernel, by decide +kernel⟩
theorem kn_read_value (T : Tx P w K mg) {k : Nat} {pre : Pre} (hlen : ∀ ds B G post, pre ds B G post → ds.length = 3) (hb : BodyOk P w K mg base n_read_value ["table", "meaning", "row"] "read_value" s_read_value (He.ga K "read_value") k pre) : Kn P w K mg base "read_value" (k + 1) pre := by
  obtain ⟨fd, F⟩ : ∃ fd, FunD K "read_value" "read_value" (defArgs s_read_value) (defBody s_read_value) (defScope s_read_value) [] [] (He.ga K "read_value") fd := T.def_ 27 (d := d_read_value) rfl
  exact ⟨He.ga K "read_value", fd, ["table", "meaning", "row"], fun_okD (N := n_read_value) (ps := ["table", "meaning", "row"]) (pre := pre) (k := k) (He5.fun_of F) sc_read_value rfl hlen @hb, F.kp, F.bindsN (ps := ["table", "meaning", "row"]) (fun _ _ _ _ _ _ us hl => by match us, hl with | [_, _, _], _ => kernel_rfl), T.glo 27⟩
abbrev n_law_start : List Str := ["_law_script"]
theorem sc_law_start : FnScope n_law_start ["_law_script"] (defScope s_law_start) := ⟨rfl, rfl, rfl, by decide +kernel, rfl, by decide +kernel, by decide +kernel⟩
theorem kn_law_start (T : Tx P w K mg) {k : Nat} {pre : Pre} (hlen : ∀ ds B G post, pre ds B G post → ds.length = 1) (hb : BodyOk P w K mg base n_law_start ["_law_script"] "_law_start" s_law_start (He.ga K "_law_start") k pre) : Kn P w K mg base "_law_start" (k + 1) pre := by
  obtain ⟨fd, F⟩ : ∃ fd, FunD K "_law_start" "_law_start" (defArgs s_law_start) (defBody s_law_start) (defScope s_law_start) [] [] (He.ga K "_law_start") fd := T.def_ 28 (d := d_law_start) rfl
  exact ⟨He.ga K "_law_start", fd, ["_law_script"], fun_okD (N := n_law_start) (ps := ["_law_script"]) (pre := pre) (k := k) (He5.fun_of F) sc_law_start rfl hlen @hb, F.kp, F.bindsN (ps := ["_law_script"]) (fun _ _ _ _ _ _ us hl => by match us, hl with | [_], _ => kernel_rfl), T.glo 28⟩
abbrev n_law_draw : List Str := ["_law_draws", "_law_limit", "_law_numbers", "_law_at", "_law_cell", "_law_mixed"]
theorem sc_law_draw : FnScope n_law_draw ["_law_draws", "_law_limit"] (defScope s_law_draw) := ⟨rfl, rfl, rfl, by decide +kernel, rfl, by decide +kernel, by decide +kernel⟩
theorem kn_law_draw (T : Tx P w K mg) {k : Nat} {pre : Pre} (hlen : ∀ ds B G post, pre ds B G post → ds.length = 2) (hb : BodyOk P w K mg base n_law_draw ["_law_draws", "_law_limit"] "_law_draw" s_law_draw (He.ga K "_law_draw") k pre) : Kn P w K mg base "_law_draw" (k + 1) pre := by
  obtain ⟨fd, F⟩ : ∃ fd, FunD K "_law_draw" "_law_draw" (defArgs s_law_draw) (defBody s_law_draw) (defScope s_law_draw) [] [] (He.ga K "_law_draw") fd := T.def_ 29 (d := d_law_draw) rfl
  exact ⟨He.ga K "_law_draw", fd, ["_law_draws", "_law_limit"], fun_okD (N := n_law_draw) (ps := ["_law_draws", "_law_limit"]) (pre := pre) (k := k) (He5.fun_of F) sc_law_draw rfl hlen @hb, F.kp, F.bindsN (ps := ["_law_draws", "_law_limit"]) (fun _ _ _ _ _ _ us hl => by match us, hl with | [_, _], _ => kernel_rfl), T.glo 29⟩
abbrev n_law_pick : List Str := ["_law_draws", "_law_choices"]
theorem sc_law_pick : FnScope n_law_pick ["_law_draws", "_law_choices"] (defScope s_law_pick) := ⟨rfl, rfl, rfl, by decide +kernel, rfl, by decide +kernel, by decide +kernel⟩
theorem kn_law_pick (T : Tx P w K mg) {k : Nat} {pre : Pre} (hlen : ∀ ds B G post, pre ds B G post → ds.length = 2) (hb : BodyOk P w K mg base n_law_pick ["_law_draws", "_law_choices"] "_law_pick" s_law_pick (He.ga K "_law_pick") k pre) : Kn P w K mg base "_law_pick" (k + 1) pre := by
  obtain ⟨fd, F⟩ : ∃ fd, FunD K "_law_pick" "_law_pick" (defArgs s_law_pick) (defBody s_law_pick) (defScope s_law_pick) [] [] (He.ga K "_law_pick") fd := T.def_ 30 (d := d_law_pick) rfl
  exact ⟨He.ga K "_law_pick", fd, ["_law_draws", "_law_choices"], fun_okD (N := n_law_pick) (ps := ["_law_draws", "_law_choices"]) (pre := pre) (k := k) (He5.fun_of F) sc_law_pick rfl hlen @hb, F.kp, F.bindsN (ps := ["_law_draws", "_law_choices"]) (fun _ _ _ _ _ _ us hl => by match us, hl with | [_, _], _ => kernel_rfl), T.glo 30⟩
abbrev n_law_error : List Str := ["_law_caught", "_law_kinds"]
theorem sc_law_error : FnScope n_law_error ["_law_caught"] (defScope s_law_error) := ⟨rfl, rfl, rfl, by decide +kernel, rfl, by decide +kernel, by decide +kernel⟩
theorem kn_law_error (T : Tx P w K mg) {k : Nat} {pre : Pre} (hlen : ∀ ds B G post, pre ds B G post → ds.length = 1) (hb : BodyOk P w K mg base n_law_error ["_law_caught"] "_law_error" s_law_error (He.ga K "_law_error") k pre) : Kn P w K mg base "_law_error" (k + 1) pre := by
  obtain ⟨fd, F⟩ : ∃ fd, FunD K "_law_error" "_law_error" (defArgs s_law_error) (defBody s_law_error) (defScope s_law_error) [] [] (He.ga K "_law_error") fd := T.def_ 31 (d := d_law_error) rfl
  exact ⟨He.ga K "_law_error", fd, ["_law_caught"], fun_okD (N := n_law_error) (ps := ["_law_caught"]) (pre := pre) (k := k) (He5.fun_of F) sc_law_error rfl hlen @hb, F.kp, F.bindsN (ps := ["_law_caught"]) (fun _ _ _ _ _ _ us hl => by match us, hl with | [_], _ => kernel_rfl), T.glo 31⟩
abbrev n_law_true : List Str := ["_law_value", "_law_expected"]
theorem sc_law_true : FnScope n_law_true ["_law_value", "_law_expected"] (defScope s_law_true) := ⟨rfl, rfl, rfl, by decide +kernel, rfl, by decide +kernel, by decide +kernel⟩
theorem kn_law_true (T : Tx P w K mg) {k : Nat} {pre : Pre} (hlen : ∀ ds B G post, pre ds B G post → ds.length = 2) (hb : BodyOk P w K mg base n_law_true ["_law_value", "_law_expected"] "_law_true" s_law_true (He.ga K "_law_true") k pre) : Kn P w K mg base "_law_true" (k + 1) pre := by
  obtain ⟨fd, F⟩ : ∃ fd, FunD K "_law_true" "_law_true" (defArgs s_law_true) (defBody s_law_true) (defScope s_law_true) [] [] (He.ga K "_law_true") fd := T.def_ 32 (d := d_law_true) rfl
  exact ⟨He.ga K "_law_true", fd, ["_law_value", "_law_expected"], fun_okD (N := n_law_true) (ps := ["_law_value", "_law_expected"]) (pre := pre) (k := k) (He5.fun_of F) sc_law_true rfl hlen @hb, F.kp, F.bindsN (ps := ["_law_value", "_law_expected"]) (fun _ _ _ _ _ _ us hl => by match us, hl with | [_, _], _ => kernel_rfl), T.glo 32⟩
abbrev n_law_many : List Str := ["_law_draws"]
theorem sc_law_many : FnScope n_law_many ["_law_draws"] (defScope s_law_many) := ⟨rfl, rfl, rfl, by decide +kernel, rfl, by decide +kernel, by decide +kernel⟩
theorem kn_law_many (T : Tx P w K mg) {k : Nat} {pre : Pre} (hlen : ∀ ds B G post, pre ds B G post → ds.length = 1) (hb : BodyOk P w K mg base n_law_many ["_law_draws"] "_law_many" s_law_many (He.ga K "_law_many") k pre) : Kn P w K mg base "_law_many" (k + 1) pre := by
  obtain ⟨fd, F⟩ : ∃ fd, FunD K "_law_many" "_law_many" (defArgs s_law_many) (defBody s_law_many) (defScope s_law_many) [] [] (He.ga K "_law_many") fd := T.def_ 33 (d := d_law_many) rfl
  exact ⟨He.ga K "_law_many", fd, ["_law_draws"], fun_okD (N := n_law_many) (ps := ["_law_draws"]) (pre := pre) (k := k) (He5.fun_of F) sc_law_many rfl hlen @hb, F.kp, F.bindsN (ps := ["_law_draws"]) (fun _ _ _ _ _ _ us hl => by match us, hl with | [_], _ => kernel_rfl), T.glo 33⟩
abbrev n_law_signs : List Str := ["_law_many_here"]
theorem sc_law_signs : FnScope n_law_signs ["_law_many_here"] (defScope s_law_signs) := ⟨rfl, rfl, rfl, by decide +kernel, rfl, by decide +kernel, by decide +kernel⟩
theorem kn_law_signs (T : Tx P w K mg) {k : Nat} {pre : Pre} (hlen : ∀ ds B G post, pre ds B G post → ds.length = 1) (hb : BodyOk P w K mg base n_law_signs ["_law_many_here"] "_law_signs" s_law_signs (He.ga K "_law_signs") k pre) : Kn P w K mg base "_law_signs" (k + 1) pre := by
  obtain ⟨fd, F⟩ : ∃ fd, FunD K "_law_signs" "_law_signs" (defArgs s_law_signs) (defBody s_law_signs) (defScope s_law_signs) [] [] (He.ga K "_law_signs") fd := T.def_ 34 (d := d_law_signs) rfl
  exact ⟨He.ga K "_law_signs", fd, ["_law_many_here"], fun_okD (N := n_law_signs) (ps := ["_law_many_here"]) (pre := pre) (k := k) (He5.fun_of F) sc_law_signs rfl hlen @hb, F.kp, F.bindsN (ps := ["_law_many_here"]) (fun _ _ _ _ _ _ us hl => by match us, hl with | [_], _ => kernel_rfl), T.glo 34⟩
abbrev n_law_table : List Str := ["_law_draws", "_law_many_here", "_law_places", "_law_sign", "_law_found", "_law_place_here", "_law_own", "_law_k"]
theorem sc_law_table : FnScope n_law_table ["_law_draws", "_law_many_here"] (defScope s_law_table) := ⟨rfl, rfl, rfl, by decide +kernel, rfl, by decide +kernel, by decide +kernel⟩
theorem kn_law_table (T : Tx P w K mg) {k : Nat} {pre : Pre} (hlen : ∀ ds B G post, pre ds B G post → ds.length = 2) (hb : BodyOk P w K mg base n_law_table ["_law_draws", "_law_many_here"] "_law_table" s_law_table (He.ga K "_law_table") k pre) : Kn P w K mg base "_law_table" (k + 1) pre := by
  obtain ⟨fd, F⟩ : ∃ fd, FunD K "_law_table" "_law_table" (defArgs s_law_table) (defBody s_law_table) (defScope s_law_table) [] [] (He.ga K "_law_table") fd := T.def_ 35 (d := d_law_table) rfl
  exact ⟨He.ga K "_law_table", fd, ["_law_draws", "_law_many_here"], fun_okD (N := n_law_table) (ps := ["_law_draws", "_law_many_here"]) (pre := pre) (k := k) (He5.fun_of F) sc_law_table rfl hlen @hb, F.kp, F.bindsN (ps := ["_law_draws", "_law_many_here"]) (fun _ _ _ _ _ _ us hl => by match us, hl with | [_, _], _ => kernel_rfl), T.glo 35⟩
abbrev n_law_square : List Str := ["_law_draws", "_law_size", "_law_kind", "_law_found", "_law_x", "_law_line", "_law_y"]
theorem sc_law_square : FnScope n_law_square ["_law_draws", "_law_size"] (defScope s_law_square) := ⟨rfl, rfl, rfl, by decide +kernel, rfl, by decide +kernel, by decide +kernel⟩
theorem kn_law_square (T : Tx P w K mg) {k : Nat} {pre : Pre} (hlen : ∀ ds B G post, pre ds B G post → ds.length = 2) (hb : BodyOk P w K mg base n_law_square ["_law_draws", "_law_size"] "_law_square" s_law_square (He.ga K "_law_square") k pre) : Kn P w K mg base "_law_square" (k + 1) pre := by
  obtain ⟨fd, F⟩ : ∃ fd, FunD K "_law_square" "_law_square" (defArgs s_law_square) (defBody s_law_square) (defScope s_law_square) [] [] (He.ga K "_law_square") fd := T.def_ 36 (d := d_law_square) rfl
  exact ⟨He.ga K "_law_square", fd, ["_law_draws", "_law_size"], fun_okD (N := n_law_square) (ps := ["_law_draws", "_law_size"]) (pre := pre) (k := k) (He5.fun_of F) sc_law_square rfl hlen @hb, F.kp, F.bindsN (ps := ["_law_draws", "_law_size"]) (fun _ _ _ _ _ _ us hl => by match us, hl with | [_, _], _ => kernel_rfl), T.glo 36⟩
abbrev n_law_meaning : List Str := ["_law_draws", "_law_size", "_law_many_here", "_law_squares", "_law_k", "_law_x"]
theorem sc_law_meaning : FnScope n_law_meaning ["_law_draws", "_law_size", "_law_many_here"] (defScope s_law_meaning) := ⟨rfl, rfl, rfl, by decide +kernel, rfl, by decide +kernel, by decide +kernel⟩
theorem kn_law_meaning (T : Tx P w K mg) {k : Nat} {pre : Pre} (hlen : ∀ ds B G post, pre ds B G post → ds.length = 3) (hb : BodyOk P w K mg base n_law_meaning ["_law_draws", "_law_size", "_law_many_here"] "_law_meaning" s_law_meaning (He.ga K "_law_meaning") k pre) : Kn P w K mg base "_law_meaning" (k + 1) pre := by
  obtain ⟨fd, F⟩ : ∃ fd, FunD K "_law_meaning" "_law_meaning" (defArgs s_law_meaning) (defBody s_law_meaning) (defScope s_law_meaning) [] [] (He.ga K "_law_meaning") fd := T.def_ 37 (d := d_law_meaning) rfl
  exact ⟨He.ga K "_law_meaning", fd, ["_law_draws", "_law_size", "_law_many_here"], fun_okD (N := n_law_meaning) (ps := ["_law_draws", "_law_size", "_law_many_here"]) (pre := pre) (k := k) (He5.fun_of F) sc_law_meaning rfl hlen @hb, F.kp, F.bindsN (ps := ["_law_draws", "_law_size", "_law_many_here"]) (fun _ _ _ _ _ _ us hl => by match us, hl with | [_, _, _], _ => kernel_rfl), T.glo 37⟩
abbrev n_law_row : List Str := ["_law_draws", "_law_many_here", "_law_size", "_law_longest", "_law_found", "_law_k", "_law_turn"]
theorem sc_law_row : FnScope n_law_row ["_law_draws", "_law_many_here", "_law_size", "_law_longest"] (defScope s_law_row) := ⟨rfl, rfl, rfl, by decide +kernel, rfl, by decide +kernel, by decide +kernel⟩
theorem kn_law_row (T : Tx P w K mg) {k : Nat} {pre : Pre} (hlen : ∀ ds B G post, pre ds B G post → ds.length = 4) (hb : BodyOk P w K mg base n_law_row ["_law_draws", "_law_many_here", "_law_size", "_law_longest"] "_law_row" s_law_row (He.ga K "_law_row") k pre) : Kn P w K mg base "_law_row" (k + 1) pre := by
  obtain ⟨fd, F⟩ : ∃ fd, FunD K "_law_row" "_law_row" (defArgs s_law_row) (defBody s_law_row) (defScope s_law_row) [] [] (He.ga K "_law_row") fd := T.def_ 38 (d := d_law_row) rfl
  exact ⟨He.ga K "_law_row", fd, ["_law_draws", "_law_many_here", "_law_size", "_law_longest"], fun_okD (N := n_law_row) (ps := ["_law_draws", "_law_many_here", "_law_size", "_law_longest"]) (pre := pre) (k := k) (He5.fun_of F) sc_law_row rfl hlen @hb, F.kp, F.bindsN (ps := ["_law_draws", "_law_many_here", "_law_size", "_law_longest"]) (fun _ _ _ _ _ _ us hl => by match us, hl with | [_, _, _, _], _ => kernel_rfl), T.glo 38⟩
abbrev n_law_place : List Str := ["_law_table_here", "_law_sign", "_law_k"]
theorem sc_law_place : FnScope n_law_place ["_law_table_here", "_law_sign"] (defScope s_law_place) := ⟨rfl, rfl, rfl, by decide +kernel, rfl, by decide +kernel, by decide +kernel⟩
theorem kn_law_place (T : Tx P w K mg) {k : Nat} {pre : Pre} (hlen : ∀ ds B G post, pre ds B G post → ds.length = 2) (hb : BodyOk P w K mg base n_law_place ["_law_table_here", "_law_sign"] "_law_place" s_law_place (He.ga K "_law_place") k pre) : Kn P w K mg base "_law_place" (k + 1) pre := by
  obtain ⟨fd, F⟩ : ∃ fd, FunD K "_law_place" "_law_place" (defArgs s_law_place) (defBody s_law_place) (defScope s_law_place) [] [] (He.ga K "_law_place") fd := T.def_ 39 (d := d_law_place) rfl
  exact ⟨He.ga K "_law_place", fd, ["_law_table_here", "_law_sign"], fun_okD (N := n_law_place) (ps := ["_law_table_here", "_law_sign"]) (pre := pre) (k := k) (He5.fun_of F) sc_law_place rfl hlen @hb, F.kp, F.bindsN (ps := ["_law_table_here", "_law_sign"]) (fun _ _ _ _ _ _ us hl => by match us, hl with | [_, _], _ => kernel_rfl), T.glo 39⟩
abbrev n_law_tree : List Str := ["_law_table_here", "_law_row_here", "_law_signs_here", "_law_item", "_law_place_here", "_law_sign", "_law_word", "_law_own", "_law_first", "_law_rest", "_law_parts", "_law_cuts", "_law_trees", "_law_part_here", "_law_found", "_law_k"]
theorem sc_law_tree : FnScope n_law_tree ["_law_table_here", "_law_row_here"] (defScope s_law_tree) := ⟨rfl, rfl, rfl, by decide +kernel, rfl, by decide +kernel, by decide +kernel⟩
theorem kn_law_tree (T : Tx P w K mg) {k : Nat} {pre : Pre} (hlen : ∀ ds B G post, pre ds B G post → ds.length = 2) (hb : BodyOk P w K mg base n_law_tree ["_law_table_here", "_law_row_here"] "_law_tree" s_law_tree (He.ga K "_law_tree") k pre) : Kn P w K mg base "_law_tree" (k + 1) pre := by
  obtain ⟨fd, F⟩ : ∃ fd, FunD K "_law_tree" "_law_tree" (defArgs s_law_tree) (defBody s_law_tree) (defScope s_law_tree) [] [] (He.ga K "_law_tree") fd := T.def_ 40 (d := d_law_tree) rfl
  exact ⟨He.ga K "_law_tree", fd, ["_law_table_here", "_law_row_here"], fun_okD (N := n_law_tree) (ps := ["_law_table_here", "_law_row_here"]) (pre := pre) (k := k) (He5.fun_of F) sc_law_tree rfl hlen @hb, F.kp, F.bindsN (ps := ["_law_table_here", "_law_row_here"]) (fun _ _ _ _ _ _ us hl => by match us, hl with | [_, _], _ => kernel_rfl), T.glo 40⟩
abbrev n_law_worth : List Str := ["_law_meaning_here", "_law_tree_here", "_law_last"]
theorem sc_law_worth : FnScope n_law_worth ["_law_meaning_here", "_law_tree_here"] (defScope s_law_worth) := ⟨rfl, rfl, rfl, by decide +kernel, rfl, by decide +kernel, by decide +kernel⟩
theorem kn_law_worth (T : Tx P w K mg) {k : Nat} {pre : Pre} (hlen : ∀ ds B G post, pre ds B G post → ds.length = 2) (hb : BodyOk P w K mg base n_law_worth ["_law_meaning_here", "_law_tree_here"] "_law_worth" s_law_worth (He.ga K "_law_worth") k pre) : Kn P w K mg base "_law_worth" (k + 1) pre := by
  obtain ⟨fd, F⟩ : ∃ fd, FunD K "_law_worth" "_law_worth" (defArgs s_law_worth) (defBody s_law_worth) (defScope s_law_worth) [] [] (He.ga K "_law_worth") fd := T.def_ 41 (d := d_law_worth) rfl
  exact ⟨He.ga K "_law_worth", fd, ["_law_meaning_here", "_law_tree_here"], fun_okD (N := n_law_worth) (ps := ["_law_meaning_here", "_law_tree_here"]) (pre := pre) (k := k) (He5.fun_of F) sc_law_worth rfl hlen @hb, F.kp, F.bindsN (ps := ["_law_meaning_here", "_law_tree_here"]) (fun _ _ _ _ _ _ us hl => by match us, hl with | [_, _], _ => kernel_rfl), T.glo 41⟩
abbrev n_law_told : List Str := ["_law_table_here", "_law_meaning_here", "_law_row_here"]
theorem sc_law_told : FnScope n_law_told ["_law_table_here", "_law_meaning_here", "_law_row_here"] (defScope s_law_told) := ⟨rfl, rfl, rfl, by decide +kernel, rfl, by decide +kernel, by decide +kernel⟩
theorem kn_law_told (T : Tx P w K mg) {k : Nat} {pre : Pre} (hlen : ∀ ds B G post, pre ds B G post → ds.length = 3) (hb : BodyOk P w K mg base n_law_told ["_law_table_here", "_law_meaning_here", "_law_row_here"] "_law_told" s_law_told (He.ga K "_law_told") k pre) : Kn P w K mg base "_law_told" (k + 1) pre := by
  obtain ⟨fd, F⟩ : ∃ fd, FunD K "_law_told" "_law_told" (defArgs s_law_told) (defBody s_law_told) (defScope s_law_told) [] [] (He.ga K "_law_told") fd := T.def_ 42 (d := d_law_told) rfl
  exact ⟨He.ga K "_law_told", fd, ["_law_table_here", "_law_meaning_here", "_law_row_here"], fun_okD (N := n_law_told) (ps := ["_law_table_here", "_law_meaning_here", "_law_row_here"]) (pre := pre) (k := k) (He5.fun_of F) sc_law_told rfl hlen @hb, F.kp, F.bindsN (ps := ["_law_table_here", "_law_meaning_here", "_law_row_here"]) (fun _ _ _ _ _ _ us hl => by match us, hl with | [_, _, _], _ => kernel_rfl), T.glo 42⟩
abbrev n_law_next : List Str := ["_law_table_here", "_law_meaning_here", "_law_state", "_law_item", "_law_waiting", "_law_here", "_law_place_here", "_law_word", "_law_least", "_law_line", "_law_one"]
theorem sc_law_next : FnScope n_law_next ["_law_table_here", "_law_meaning_here", "_law_state", "_law_item"] (defScope s_law_next) := ⟨rfl, rfl, rfl, by decide +kernel, rfl, by decide +kernel, by decide +kernel⟩
theorem kn_law_next (T : Tx P w K mg) {k : Nat} {pre : Pre} (hlen : ∀ ds B G post, pre ds B G post → ds.length = 4) (hb : BodyOk P w K mg base n_law_next ["_law_table_here", "_law_meaning_here", "_law_state", "_law_item"] "_law_next" s_law_next (He.ga K "_law_next") k pre) : Kn P w K mg base "_law_next" (k + 1) pre := by
  obtain ⟨fd, F⟩ : ∃ fd, FunD K "_law_next" "_law_next" (defArgs s_law_next) (defBody s_law_next) (defScope s_law_next) [] [] (He.ga K "_law_next") fd := T.def_ 43 (d := d_law_next) rfl
  exact ⟨He.ga K "_law_next", fd, ["_law_table_here", "_law_meaning_here", "_law_state", "_law_item"], fun_okD (N := n_law_next) (ps := ["_law_table_here", "_law_meaning_here", "_law_state", "_law_item"]) (pre := pre) (k := k) (He5.fun_of F) sc_law_next rfl hlen @hb, F.kp, F.bindsN (ps := ["_law_table_here", "_law_meaning_here", "_law_state", "_law_item"]) (fun _ _ _ _ _ _ us hl => by match us, hl with | [_, _, _, _], _ => kernel_rfl), T.glo 43⟩
abbrev n_law_end : List Str := ["_law_state", "_law_waiting", "_law_here", "_law_place_here", "_law_line"]
theorem sc_law_end : FnScope n_law_end ["_law_state"] (defScope s_law_end) := ⟨rfl, rfl, rfl, by decide +kernel, rfl, by decide +kernel, by decide +kernel⟩
theorem kn_law_end (T : Tx P w K mg) {k : Nat} {pre : Pre} (hlen : ∀ ds B G post, pre ds B G post → ds.length = 1) (hb : BodyOk P w K mg base n_law_end ["_law_state"] "_law_end" s_law_end (He.ga K "_law_end") k pre) : Kn P w K mg base "_law_end" (k + 1) pre := by
  obtain ⟨fd, F⟩ : ∃ fd, FunD K "_law_end" "_law_end" (defArgs s_law_end) (defBody s_law_end) (defScope s_law_end) [] [] (He.ga K "_law_end") fd := T.def_ 44 (d := d_law_end) rfl
  exact ⟨He.ga K "_law_end", fd, ["_law_state"], fun_okD (N := n_law_end) (ps := ["_law_state"]) (pre := pre) (k := k) (He5.fun_of F) sc_law_end rfl hlen @hb, F.kp, F.bindsN (ps := ["_law_state"]) (fun _ _ _ _ _ _ us hl => by match us, hl with | [_], _ => kernel_rfl), T.glo 44⟩
abbrev n_law_items : List Str := ["_law_many_here", "_law_ready", "_law_size"]
theorem sc_law_items : FnScope n_law_items ["_law_many_here", "_law_ready", "_law_size"] (defScope s_law_items) := ⟨rfl, rfl, rfl, by decide +kernel, rfl, by decide +kernel, by decide +kernel⟩
theorem kn_law_items (T : Tx P w K mg) {k : Nat} {pre : Pre} (hlen : ∀ ds B G post, pre ds B G post → ds.length = 3) (hb : BodyOk P w K mg base n_law_items ["_law_many_here", "_law_ready", "_law_size"] "_law_items" s_law_items (He.ga K "_law_items") k pre) : Kn P w K mg base "_law_items" (k + 1) pre := by
  obtain ⟨fd, F⟩ : ∃ fd, FunD K "_law_items" "_law_items" (defArgs s_law_items) (defBody s_law_items) (defScope s_law_items) [] [] (He.ga K "_law_items") fd := T.def_ 45 (d := d_law_items) rfl
  exact ⟨He.ga K "_law_items", fd, ["_law_many_here", "_law_ready", "_law_size"], fun_okD (N := n_law_items) (ps := ["_law_many_here", "_law_ready", "_law_size"]) (pre := pre) (k := k) (He5.fun_of F) sc_law_items rfl hlen @hb, F.kp, F.bindsN (ps := ["_law_many_here", "_law_ready", "_law_size"]) (fun _ _ _ _ _ _ us hl => by match us, hl with | [_, _, _], _ => kernel_rfl), T.glo 45⟩
abbrev n_law_parting : List Str := ["_law_one", "_law_other", "_law_meaning_here", "_law_many_here", "_law_layer", "_law_known_ones", "_law_fresh", "_law_mine", "_law_yours", "_law_row_here", "_law_item", "_law_after"]
theorem sc_law_parting : FnScope n_law_parting ["_law_one", "_law_other", "_law_meaning_here", "_law_many_here"] (defScope s_law_parting) := ⟨rfl, rfl, rfl, by decide +kernel, rfl, by decide +kernel, by decide +kernel⟩
theorem kn_law_parting (T : Tx P w K mg) {k : Nat} {pre : Pre} (hlen : ∀ ds B G post, pre ds B G post → ds.length = 4) (hb : BodyOk P w K mg base n_law_parting ["_law_one", "_law_other", "_law_meaning_here", "_law_many_here"] "_law_parting" s_law_parting (He.ga K "_law_parting") k pre) : Kn P w K mg base "_law_parting" (k + 1) pre := by
  obtain ⟨fd, F⟩ : ∃ fd, FunD K "_law_parting" "_law_parting" (defArgs s_law_parting) (defBody s_law_parting) (defScope s_law_parting) [] [] (He.ga K "_law_parting") fd := T.def_ 46 (d := d_law_parting) rfl
  exact ⟨He.ga K "_law_parting", fd, ["_law_one", "_law_other", "_law_meaning_here", "_law_many_here"], fun_okD (N := n_law_parting) (ps := ["_law_one", "_law_other", "_law_meaning_here", "_law_many_here"]) (pre := pre) (k := k) (He5.fun_of F) sc_law_parting rfl hlen @hb, F.kp, F.bindsN (ps := ["_law_one", "_law_other", "_law_meaning_here", "_law_many_here"]) (fun _ _ _ _ _ _ us hl => by match us, hl with | [_, _, _, _], _ => kernel_rfl), T.glo 46⟩
abbrev n_law_call : List Str := ["_law_one", "_law_other", "_law_meaning_here", "_law_found", "_law_caught", "e"]
theorem sc_law_call : FnScope n_law_call ["_law_one", "_law_other", "_law_meaning_here"] (defScope s_law_call) := ⟨rfl, rfl, rfl, by decide +kernel, rfl, by decide +kernel, by decide +kernel⟩
theorem kn_law_call (T : Tx P w K mg) {k : Nat} {pre : Pre} (hlen : ∀ ds B G post, pre ds B G post → ds.length = 3) (hb : BodyOk P w K mg base n_law_call ["_law_one", "_law_other", "_law_meaning_here"] "_law_call" s_law_call (He.ga K "_law_call") k pre) : Kn P w K mg base "_law_call" (k + 1) pre := by
  obtain ⟨fd, F⟩ : ∃ fd, FunD K "_law_call" "_law_call" (defArgs s_law_call) (defBody s_law_call) (defScope s_law_call) [] [] (He.ga K "_law_call") fd := T.def_ 47 (d := d_law_call) rfl
  exact ⟨He.ga K "_law_call", fd, ["_law_one", "_law_other", "_law_meaning_here"], fun_okD (N := n_law_call) (ps := ["_law_one", "_law_other", "_law_meaning_here"]) (pre := pre) (k := k) (He5.fun_of F) sc_law_call rfl hlen @hb, F.kp, F.bindsN (ps := ["_law_one", "_law_other", "_law_meaning_here"]) (fun _ _ _ _ _ _ us hl => by match us, hl with | [_, _, _], _ => kernel_rfl), T.glo 47⟩
abbrev n_law : List Str := ["_law_script", "_law_draws", "_law_many_here", "_law_one", "_law_other", "_law_meaning_here", "_law_due", "_law_told_here", "_law_table_here", "_law_turn", "_law_row_here"]
theorem sc_law : FnScope n_law ["_law_script"] (defScope s_law) := ⟨rfl, rfl, rfl, by decide +kernel, rfl, by decide +kernel, by decide +kernel⟩
theorem kn_law (T : Tx P w K mg) {k : Nat} {pre : Pre} (hlen : ∀ ds B G post, pre ds B G post → ds.length = 1) (hb : BodyOk P w K mg base n_law ["_law_script"] "law" s_law (He.ga K "law") k pre) : Kn P w K mg base "law" (k + 1) pre := by
  obtain ⟨fd, F⟩ : ∃ fd, FunD K "law" "law" (defArgs s_law) (defBody s_law) (defScope s_law) [] [] (He.ga K "law") fd := T.def_ 48 (d := d_law) rfl
  exact ⟨He.ga K "law", fd, ["_law_script"], fun_okD (N := n_law) (ps := ["_law_script"]) (pre := pre) (k := k) (He5.fun_of F) sc_law rfl hlen @hb, F.kp, F.bindsN (ps := ["_law_script"]) (fun _ _ _ _ _ _ us hl => by match us, hl with | [_], _ => kernel_rfl), T.glo 48⟩
abbrev nm_init : List Str := ["self", "table", "meaning"]
theorem scm_init : FnScope nm_init ["self", "table", "meaning"] (defScope m_init) := ⟨rfl, rfl, rfl, by decide +kernel, rfl, by decide +kernel, by decide +kernel⟩
theorem knm_init (T : Tx P w K mg) {k : Nat} {pre : Pre} (hlen : ∀ ds B G post, pre ds B G post → ds.length = 3) (hb : BodyOk P w K mg base nm_init ["self", "table", "meaning"] "Machine.__init__" m_init (He.ma K (Mcl K) "__init__") k pre) : ∃ fd, FnOk P w K mg base CX0 (k + 1) (He.ma K (Mcl K) "__init__") fd ["self", "table", "meaning"] (spD P w pre) ∧ Binds K fd ["self", "table", "meaning"] [] := by
  obtain ⟨fd, F⟩ : ∃ fd, FunD K "__init__" "Machine.__init__" (defArgs m_init) (defBody m_init) (defScope m_init) [] [] (He.ma K (Mcl K) "__init__") fd := T.def_ 49 (d := dm_init) rfl
  exact ⟨fd, fun_okD (N := nm_init) (ps := ["self", "table", "meaning"]) (pre := pre) (k := k) (He5.fun_of F) scm_init rfl hlen @hb, F.bindsN (ps := ["self", "table", "meaning"]) (fun _ _ _ _ _ _ us hl => by match us, hl with | [_, _, _], _ => kernel_rfl)⟩
abbrev nm_start : List Str := ["self"]
theorem scm_start : FnScope nm_start ["self"] (defScope m_start) := ⟨rfl, rfl, rfl, by decide +kernel, rfl, by decide +kernel, by decide +kernel⟩
theorem knm_start (T : Tx P w K mg) {k : Nat} {pre : Pre} (hlen : ∀ ds B G post, pre ds B G post → ds.length = 1) (hb : BodyOk P w K mg base nm_start ["self"] "Machine.start" m_start (He.ma K (Mcl K) "start") k pre) : KnM P w K mg base (Mcl K) "start" (k + 1) pre := by
  obtain ⟨fd, F⟩ : ∃ fd, FunD K "start" "Machine.start" (defArgs m_start) (defBody m_start) (defScope m_start) [] [] (He.ma K (Mcl K) "start") fd := T.def_ 50 (d := dm_start) rfl
  exact ⟨_, fd, _, fun_okD (N := nm_start) (ps := ["self"]) (pre := pre) (k := k) (He5.fun_of F) scm_start rfl hlen @hb, T.meth 77, F.bindsN (ps := ["self"]) (fun _ _ _ _ _ _ us hl => by match us, hl with | [_], _ => kernel_rfl)⟩
abbrev nm_is_ready : List Str := ["self", "state"]
theorem scm_is_ready : FnScope nm_is_ready ["self", "state"] (defScope m_is_ready) := ⟨rfl, rfl, rfl, by decide +kernel, rfl, by decide +kernel, by decide +kernel⟩
theorem knm_is_ready (T : Tx P w K mg) {k : Nat} {pre : Pre} (hlen : ∀ ds B G post, pre ds B G post → ds.length = 2) (hb : BodyOk P w K mg base nm_is_ready ["self", "state"] "Machine.is_ready" m_is_ready (He.ma K (Mcl K) "is_ready") k pre) : KnM P w K mg base (Mcl K) "is_ready" (k + 1) pre := by
  obtain ⟨fd, F⟩ : ∃ fd, FunD K "is_ready" "Machine.is_ready" (defArgs m_is_ready) (defBody m_is_ready) (defScope m_is_ready) [] [] (He.ma K (Mcl K) "is_ready") fd := T.def_ 51 (d := dm_is_ready) rfl
  exact ⟨_, fd, _, fun_okD (N := nm_is_ready) (ps := ["self", "state"]) (pre := pre) (k := k) (He5.fun_of F) scm_is_ready rfl hlen @hb, T.meth 78, F.bindsN (ps := ["self", "state"]) (fun _ _ _ _ _ _ us hl => by match us, hl with | [_, _], _ => kernel_rfl)⟩
abbrev nm_told : List Str := ["self", "state"]
theorem scm_told : FnScope nm_told ["self", "state"] (defScope m_told) := ⟨rfl, rfl, rfl, by decide +kernel, rfl, by decide +kernel, by decide +kernel⟩
theorem knm_told (T : Tx P w K mg) {k : Nat} {pre : Pre} (hlen : ∀ ds B G post, pre ds B G post → ds.length = 2) (hb : BodyOk P w K mg base nm_told ["self", "state"] "Machine.told" m_told (He.ma K (Mcl K) "told") k pre) : KnM P w K mg base (Mcl K) "told" (k + 1) pre := by
  obtain ⟨fd, F⟩ : ∃ fd, FunD K "told" "Machine.told" (defArgs m_told) (defBody m_told) (defScope m_told) [] [] (He.ma K (Mcl K) "told") fd := T.def_ 52 (d := dm_told) rfl
  exact ⟨_, fd, _, fun_okD (N := nm_told) (ps := ["self", "state"]) (pre := pre) (k := k) (He5.fun_of F) scm_told rfl hlen @hb, T.meth 79, F.bindsN (ps := ["self", "state"]) (fun _ _ _ _ _ _ us hl => by match us, hl with | [_, _], _ => kernel_rfl)⟩
abbrev nm_closed : List Str := ["self", "waiting", "least", "value", "place"]
theorem scm_closed : FnScope nm_closed ["self", "waiting", "least", "value"] (defScope m_closed) := ⟨rfl, rfl, rfl, by decide +kernel, rfl, by decide +kernel, by decide +kernel⟩
theorem knm_closed (T : Tx P w K mg) {k : Nat} {pre : Pre} (hlen : ∀ ds B G post, pre ds B G post → ds.length = 4) (hb : BodyOk P w K mg base nm_closed ["self", "waiting", "least", "value"] "Machine.closed" m_closed (He.ma K (Mcl K) "closed") k pre) : KnM P w K mg base (Mcl K) "closed" (k + 1) pre := by
  obtain ⟨fd, F⟩ : ∃ fd, FunD K "closed" "Machine.closed" (defArgs m_closed) (defBody m_closed) (defScope m_closed) [] [] (He.ma K (Mcl K) "closed") fd := T.def_ 53 (d := dm_closed) rfl
  exact ⟨_, fd, _, fun_okD (N := nm_closed) (ps := ["self", "waiting", "least", "value"]) (pre := pre) (k := k) (He5.fun_of F) scm_closed rfl hlen @hb, T.meth 80, F.bindsN (ps := ["self", "waiting", "least", "value"]) (fun _ _ _ _ _ _ us hl => by match us, hl with | [_, _, _, _], _ => kernel_rfl)⟩
abbrev nm_ahead : List Str := ["self", "state", "item", "waiting", "last", "value", "place", "line"]
theorem scm_ahead : FnScope nm_ahead ["self", "state", "item"] (defScope m_ahead) := ⟨rfl, rfl, rfl, by decide +kernel, rfl, by decide +kernel, by decide +kernel⟩
theorem knm_ahead (T : Tx P w K mg) {k : Nat} {pre : Pre} (hlen : ∀ ds B G post, pre ds B G post → ds.length = 3) (hb : BodyOk P w K mg base nm_ahead ["self", "state", "item"] "Machine.ahead" m_ahead (He.ma K (Mcl K) "ahead") k pre) : KnM P w K mg base (Mcl K) "ahead" (k + 1) pre := by
  obtain ⟨fd, F⟩ : ∃ fd, FunD K "ahead" "Machine.ahead" (defArgs m_ahead) (defBody m_ahead) (defScope m_ahead) [] [] (He.ma K (Mcl K) "ahead") fd := T.def_ 54 (d := dm_ahead) rfl
  exact ⟨_, fd, _, fun_okD (N := nm_ahead) (ps := ["self", "state", "item"]) (pre := pre) (k := k) (He5.fun_of F) scm_ahead rfl hlen @hb, T.meth 81, F.bindsN (ps := ["self", "state", "item"]) (fun _ _ _ _ _ _ us hl => by match us, hl with | [_, _, _], _ => kernel_rfl)⟩
abbrev nm_infix : List Str := ["self", "state", "item", "waiting", "last", "value", "place", "word", "square", "own", "line", "one"]
theorem scm_infix : FnScope nm_infix ["self", "state", "item"] (defScope m_infix) := ⟨rfl, rfl, rfl, by decide +kernel, rfl, by decide +kernel, by decide +kernel⟩
theorem knm_infix (T : Tx P w K mg) {k : Nat} {pre : Pre} (hlen : ∀ ds B G post, pre ds B G post → ds.length = 3) (hb : BodyOk P w K mg base nm_infix ["self", "state", "item"] "Machine.infix" m_infix (He.ma K (Mcl K) "infix") k pre) : KnM P w K mg base (Mcl K) "infix" (k + 1) pre := by
  obtain ⟨fd, F⟩ : ∃ fd, FunD K "infix" "Machine.infix" (defArgs m_infix) (defBody m_infix) (defScope m_infix) [] [] (He.ma K (Mcl K) "infix") fd := T.def_ 55 (d := dm_infix) rfl
  exact ⟨_, fd, _, fun_okD (N := nm_infix) (ps := ["self", "state", "item"]) (pre := pre) (k := k) (He5.fun_of F) scm_infix rfl hlen @hb, T.meth 82, F.bindsN (ps := ["self", "state", "item"]) (fun _ _ _ _ _ _ us hl => by match us, hl with | [_, _, _], _ => kernel_rfl)⟩
abbrev nm_step : List Str := ["self", "state", "item", "key"]
theorem scm_step : FnScope nm_step ["self", "state", "item"] (defScope m_step) := ⟨rfl, rfl, rfl, by decide +kernel, rfl, by decide +kernel, by decide +kernel⟩
theorem knm_step (T : Tx P w K mg) {k : Nat} {pre : Pre} (hlen : ∀ ds B G post, pre ds B G post → ds.length = 3) (hb : BodyOk P w K mg base nm_step ["self", "state", "item"] "Machine.step" m_step (He.ma K (Mcl K) "step") k pre) : KnM P w K mg base (Mcl K) "step" (k + 1) pre := by
  obtain ⟨fd, F⟩ : ∃ fd, FunD K "step" "Machine.step" (defArgs m_step) (defBody m_step) (defScope m_step) [] [] (He.ma K (Mcl K) "step") fd := T.def_ 56 (d := dm_step) rfl
  exact ⟨_, fd, _, fun_okD (N := nm_step) (ps := ["self", "state", "item"]) (pre := pre) (k := k) (He5.fun_of F) scm_step rfl hlen @hb, T.meth 83, F.bindsN (ps := ["self", "state", "item"]) (fun _ _ _ _ _ _ us hl => by match us, hl with | [_, _, _], _ => kernel_rfl)⟩
abbrev nm_following : List Str := ["self", "state", "ready", "item"]
theorem scm_following : FnScope nm_following ["self", "state"] (defScope m_following) := ⟨rfl, rfl, rfl, by decide +kernel, rfl, by decide +kernel, by decide +kernel⟩
theorem knm_following (T : Tx P w K mg) {k : Nat} {pre : Pre} (hlen : ∀ ds B G post, pre ds B G post → ds.length = 2) (hb : BodyOk P w K mg base nm_following ["self", "state"] "Machine.following" m_following (He.ma K (Mcl K) "following") k pre) : KnM P w K mg base (Mcl K) "following" (k + 1) pre := by
  obtain ⟨fd, F⟩ : ∃ fd, FunD K "following" "Machine.following" (defArgs m_following) (defBody m_following) (defScope m_following) [] [] (He.ma K (Mcl K) "following") fd := T.def_ 57 (d := dm_following) rfl
  exact ⟨_, fd, _, fun_okD (N := nm_following) (ps := ["self", "state"]) (pre := pre) (k := k) (He5.fun_of F) scm_following rfl hlen @hb, T.meth 84, F.bindsN (ps := ["self", "state"]) (fun _ _ _ _ _ _ us hl => by match us, hl with | [_, _], _ => kernel_rfl)⟩
/-! the names of the top -/
theorem Tx.g_BindError (T : Tx P w K mg) : mg "BindError" = some (.ref (He.ga K "BindError")) := T.glo 49
theorem Tx.g_BadTable (T : Tx P w K mg) : mg "BadTable" = some (.ref (He.ga K "BadTable")) := T.glo 50
theorem Tx.g_BadMeaning (T : Tx P w K mg) : mg "BadMeaning" = some (.ref (He.ga K "BadMeaning")) := T.glo 51
theorem Tx.g_BadRow (T : Tx P w K mg) : mg "BadRow" = some (.ref (He.ga K "BadRow")) := T.glo 52
theorem Tx.g_BadNumber (T : Tx P w K mg) : mg "BadNumber" = some (.ref (He.ga K "BadNumber")) := T.glo 53
theorem Tx.g_BadText (T : Tx P w K mg) : mg "BadText" = some (.ref (He.ga K "BadText")) := T.glo 54
theorem Tx.g_NotFound (T : Tx P w K mg) : mg "NotFound" = some (.ref (He.ga K "NotFound")) := T.glo 55
theorem Tx.g_Machine (T : Tx P w K mg) : mg "Machine" = some (.ref (He.ga K "Machine")) := T.glo 56
theorem Tx.f_len (T : Tx P w K mg) : mg "len" = none := T.free 57
theorem Tx.f_isinstance (T : Tx P w K mg) : mg "isinstance" = none := T.free 58
theorem Tx.f_int (T : Tx P w K mg) : mg "int" = none := T.free 59
theorem Tx.f_bool (T : Tx P w K mg) : mg "bool" = none := T.free 60
theorem Tx.f_tuple (T : Tx P w K mg) : mg "tuple" = none := T.free 61
theorem Tx.f_list (T : Tx P w K mg) : mg "list" = none := T.free 62
theorem Tx.f_str (T : Tx P w K mg) : mg "str" = none := T.free 63
theorem Tx.f_all (T : Tx P w K mg) : mg "all" = none := T.free 64
theorem Tx.f_zip (T : Tx P w K mg) : mg "zip" = none := T.free 65
theorem Tx.f_sorted (T : Tx P w K mg) : mg "sorted" = none := T.free 66
theorem Tx.f_enumerate (T : Tx P w K mg) : mg "enumerate" = none := T.free 67
theorem Tx.f_range (T : Tx P w K mg) : mg "range" = none := T.free 68
theorem Tx.f_min (T : Tx P w K mg) : mg "min" = none := T.free 69
theorem Tx.f_ValueError (T : Tx P w K mg) : mg "ValueError" = none := T.free 70
theorem Tx.g_INFIX (T : Tx P w K mg) : ∃ t, mg "INFIX" = some (.str "abc" t) := T.str 71
theorem Tx.g_AHEAD (T : Tx P w K mg) : ∃ t, mg "AHEAD" = some (.str "pq" t) := T.str 72
theorem Tx.g_MOST_ITEMS (T : Tx P w K mg) : ∃ t, mg "MOST_ITEMS" = some (.int 40 t) := T.int 73
theorem Tx.g_WORDS (T : Tx P w K mg) : mg "WORDS" = some (.ref (He.ga K "WORDS")) := T.glo 74
theorem Tx.mcls (T : Tx P w K mg) : Cls K (Mcl K) := T.cls 75
theorem Tx.mmk (T : Tx P w K mg) : Mk K (Mcl K) (He.ma K (Mcl K) "__init__") := T.mkr 76
theorem Tx.na_table (T : Tx P w K mg) : NoAttr K (Mcl K) "table" := T.noat 85
theorem Tx.na_meaning (T : Tx P w K mg) : NoAttr K (Mcl K) "meaning" := T.noat 86
theorem Tx.na_places (T : Tx P w K mg) : NoAttr K (Mcl K) "places" := T.noat 87
theorem Tx.na_size (T : Tx P w K mg) : NoAttr K (Mcl K) "size" := T.noat 88
theorem Tx.na_choices (T : Tx P w K mg) : NoAttr K (Mcl K) "choices" := T.noat 89
theorem Tx.na_known (T : Tx P w K mg) : NoAttr K (Mcl K) "known" := T.noat 90
end
end Bk
set_option Elab.async false
set_option linter.all false
set_option autoImplicit false
set_option maxRecDepth 100000
set_option maxHeartbeats 1000000
namespace Bk
open PySem L2
/-- isinstance of plain data -/
def Dat.isA : Dat → String → Bool
  | .bl _, "int" => true | .bl _, "bool" => true | .int _, "int" => true | .str _, "str" => true | .tup _, "tuple" => true | _, _ => false
section
variable {X : Cx} {B : Hp} {ρ : Sls} {G : GL} {D : DE} {a : Expr} {p q pos : Pos} {d : Dat}
theorem ev_isT {x : Str} {T : String} {b : Bool} (hm : X.mg "isinstance" = none) (hmT : X.mg x = none) (ha : Ev X B ρ G a d) (hd : ∀ a, d ≠ .adr a) (hk : kitB d.ty T = some b) (hg : Gl X "isinstance" := by rfl) (hgT : Gl X x := by rfl) (hvT : bootBuiltins x = some (.type T) := by decide +kernel)
    (hnT : x ≠ "__name__" := by decide) (hdT : (x == ("__debug__" : Str)) = false := by decide)
    (he : starEach [a, .Name x q] X.env = (false, eval a X.env) :: starEach [.Name x q] X.env := by rfl) (he2 : starEach [.Name x q] X.env = (false, eval (.Name x q) X.env) :: starEach [] X.env := by rfl) (hpl : (backTo pos (starEach [.Name x q] X.env)).any (·.1) = false := by rfl) : Ev X B ρ G (.Call (.Name "isinstance" p) [a, .Name x q] [] pos) (.bl b) :=
  ev_isi hg hm hgT hmT hvT ha (fun H v _ i => dat_ty hd i) hk hnT hdT he he2 hpl
theorem kit_int (d : Dat) (h : ∀ a, d ≠ .adr a) : kitB d.ty "int" = some (d.isA "int") := by cases d <;> first | decide +kernel | exact absurd rfl (h _) | rfl
theorem kit_bool (d : Dat) (h : ∀ a, d ≠ .adr a) : kitB d.ty "bool" = some (d.isA "bool") := by cases d <;> first | decide +kernel | exact absurd rfl (h _) | rfl
theorem kit_str (d : Dat) (h : ∀ a, d ≠ .adr a) : kitB d.ty "str" = some (d.isA "str") := by cases d <;> first | decide +kernel | exact absurd rfl (h _) | rfl
theorem kit_tup (d : Dat) (h : ∀ a, d ≠ .adr a) : kitB d.ty "tuple" = some (d.isA "tuple") := by cases d <;> first | decide +kernel | exact absurd rfl (h _) | rfl
end

section
variable {P : Program} {w : World} {K : PySem.W.Frag} {mg : Str → Option Value} {base : Heap}
/-! ### is_int -/
def isIntD (d : Dat) (lo hi : Int) : Bool := match d with
  | .int i => decide (lo ≤ i) && decide (i ≤ hi)
  | _ => false
def okIsInt (ds : List Dat) : Prop := ∃ v lo hi, ds = [v, .int lo, .int hi] ∧ ∀ a, v ≠ .adr a
def fIsInt : List Dat → Dat
  | [v, .int lo, .int hi] => .bl (isIntD v lo hi)
  | _ => .non
theorem k_is_int (T : Tx P w K mg) : Kn P w K mg base "is_int" 1 (preF okIsInt fIsInt) := by
  refine kn_is_int T (fun ds B G post h => by obtain ⟨⟨v, lo, hi, rfl, _⟩, _⟩ := h; rfl) fun cdv A outer s H E hr ds B G post h => ?_
  obtain ⟨⟨v, lo, hi, rfl, hv⟩, h⟩ := h
  refine ss_ret (d := .bl (isIntD v lo hi)) ?_ h
  cases v with
  | int i => exact ev_and3 (x := true) (y := true) (ev_isT T.f_isinstance T.f_int (ev_var rfl (pv 0)) hv (kit_int _ hv)) (fun _ => (ev_not (ev_isT T.f_isinstance T.f_bool (ev_var rfl (pv 0)) hv (kit_bool _ hv)))) fun _ _ => ev_between (ev_var rfl (pv 1)) (ev_var rfl (pv 0)) (ev_var rfl (pv 2))
  | bl b => exact ev_and3 (x := true) (y := false) (z := false) (ev_isT T.f_isinstance T.f_int (ev_var rfl (pv 0)) hv (kit_int _ hv)) (fun _ => (ev_not (ev_isT T.f_isinstance T.f_bool (ev_var rfl (pv 0)) hv (kit_bool _ hv)))) fun _ h => nomatch h
  | adr a => exact absurd rfl (hv a)
  | _ => exact ev_and3 (x := false) (y := false) (z := false) (ev_isT T.f_isinstance T.f_int (ev_var rfl (pv 0)) hv (kit_int _ hv)) (fun h => nomatch h) fun h => nomatch h
/-! ### is_choice -/
def Sg.isInf : Sg → Bool | .inf _ => true | .ahd _ => false
theorem filt_inf (m : Mn) : ((allS m).filter Sg.isInf).length = m.1 := by
  have h1 : ((List.range m.1).map Sg.inf).filter Sg.isInf = (List.range m.1).map Sg.inf := List.filter_eq_self.mpr fun a h => by obtain ⟨k, _, rfl⟩ := List.mem_map.mp h; rfl
  have h2 : ((List.range m.2).map Sg.ahd).filter Sg.isInf = [] := List.filter_eq_nil_iff.mpr fun a h => by obtain ⟨k, _, rfl⟩ := List.mem_map.mp h; simp [Sg.isInf]
  simp [allS, List.filter_append, h1, h2]
theorem k_is_choice (T : Tx P w K mg) : Kn P w K mg base "is_choice" 1 (preF (fun ds => ∃ m, okM m ∧ ds = [.str (txt (allS m))]) (fun _ => .bl true)) := by
  refine kn_is_choice T (fun ds B G post h => by obtain ⟨⟨m, _, rfl⟩, _⟩ := h; rfl) fun cdv A outer s H E hr ds B G post h => ?_
  obtain ⟨⟨m, hm, rfl⟩, h⟩ := h
  obtain ⟨ti, gi⟩ := T.g_INFIX
  obtain ⟨ta, ga⟩ := T.g_AHEAD
  have hm1 : m.1 ≤ 3 ∧ m.2 ≤ 2 ∧ 1 ≤ m.1 ∧ m.1 + m.2 ≤ 3 := okM_cases (p := fun m => m.1 ≤ 3 ∧ m.2 ≤ 2 ∧ 1 ≤ m.1 ∧ m.1 + m.2 ≤ 3) hm (by decide) (by decide) (by decide) (by decide) (by decide) (by decide)
  refine ss_v (i := 1) (d := .int m.1) (Ev.as ?_ (ev_lenN rfl T.f_len (el_lc1I (i := 2) sc_is_choice.nd (bk n_is_choice s_is_choice) (lc_if (allS m) sgD Sg.isInf sgD (Src.as (signs_txt (allS m)) (srcS_str (vv 0))) ?_ fun g hg =>
    ⟨_, rdw_name (by simp), fun s H0 C cl fp => Et.as ?_ (et_inS (vv 2 (d := sgD g)) (ev_gs gi)), fun _ s H0 C cl fp => vv 2⟩)))) ?_ sc_is_choice.nd
  · rw [List.length_map, filt_inf]
  · rw [allS_len]; exact Nat.le_trans hm1.2.2.2 (by decide)
  · rw [sg_in_abc hm hg]; cases g <;> rfl
  refine ss_v (i := 3) (d := .int m.2) (Ev.as ?_ (ev_sub (ev_lenS rfl T.f_len (vv 0) ?_) (vv 1))) ?_ sc_is_choice.nd
  · rw [txt_len, allS_len]; congr 1; omega
  · rw [txt_len, allS_len]; exact Nat.le_trans hm1.2.2.2 (by decide)
  have e1 : decide ((1 : Int) ≤ m.1) = true := decide_eq_true (by omega)
  have e2 : decide ((m.2 : Int) ≤ 2) = true := decide_eq_true (by omega)
  have e3 : decide ((m.1 : Int) + m.2 ≤ 3) = true := decide_eq_true (by omega)
  have e4 : decide (txt (allS m) = cutS "abc" none (some (m.1 : Int)) ++ cutS "pq" none (some (m.2 : Int))) = true :=
    okM_cases (p := fun m => decide (txt (allS m) = cutS "abc" none (some (m.1 : Int)) ++ cutS "pq" none (some (m.2 : Int))) = true) hm rfl rfl rfl rfl rfl rfl
  refine ss_ret (Ev.as ?_ (ev_and (ev_le ev_int (vv 1)) fun _ => ev_and (ev_le (vv 3) ev_int) fun _ => ev_and2 (ev_le (ev_add (vv 1) (vv 3)) ev_int) fun _ =>
    ev_eqS (vv 0) (ev_addS (ev_slS (ev_gs gi) pt0 (pt1 (vv 1)) (by decide)) (ev_slS (ev_gs ga) pt0 (pt1 (vv 3)) (by decide)) ?_))) h
  · rw [e1, e2, e3, e4]; rfl
  · exact okM_cases (p := fun m => (cutS "abc" none (some (m.1 : Int))).length + (cutS "pq" none (some (m.2 : Int))).length ≤ sizeLine) hm (by decide) (by decide) (by decide) (by decide) (by decide) (by decide)
end
end Bk
set_option Elab.async false
set_option linter.all false
set_option autoImplicit false
set_option maxRecDepth 100000
set_option maxHeartbeats 1000000
namespace Bk
open PySem L2
section
variable {X : Cx} {B : Hp} {ρ : Sls} {G : GL} {D : DE}
/-- two names side by side as a block's target -/
theorem el_lc2 {x y : Str} {i j : Nat} {px py pt pos : Pos} {k : Nat} {iter elt : Expr} {scope : Scope} {ys : List Dat} (hN : X.N.Nodup) (ok : BlkOk X.N X.env.scope scope [(x, i), (y, j)]) (h : Lc X B ρ G (.Tuple [.Name x px, .Name y py] k pt) iter (gTup X.K 2 (gCons (gName i) (gCons (gName j) gNil))) tYes (bWE X scope elt) [i, j] ys)
    (hg : X.N.Nodup → InB X scope fun Y => PG Y (.Tuple [.Name x px, .Name y py] k pt) (gTup X.K 2 (gCons (gName i) (gCons (gName j) gNil))) := by exact fun hN _ _ _ _ _ => L2.pg_tup rfl (L2.pgs_cons (L2.pg_name hN rfl (Or.inl rfl)) (L2.pgs_cons (L2.pg_name hN rfl (Or.inl rfl)) L2.pgs_nil))) (hc : X.calm = true := by rfl) (hs : ∀ x, foldedSetIterable iter X.env x = pure x := by intro _; rfl) : El X B ρ G (.ListComp elt [⟨.Tuple [.Name x px, .Name y py] k pt, iter, [], 0⟩] scope pos) ys :=
  el_lc (own := [(x, i), (y, j)]) h hN ok (hg hN) (fun _ _ _ _ _ => pts_nil) hc hs
theorem rdw_two {K : PySem.W.Frag} {i j : Nat} {a b : Dat} : RdW [i, j] (gTup K 2 (gCons (gName i) (gCons (gName j) gNil))) (.tup [a, b]) ρ ((ρ.set i (some a)).set j (some b)) := rdw_tup rfl (rdsw_cons (rdw_name (by simp)) (rdsw_cons (rdw_name (by simp)) rdsw_nil))
end
theorem wordsV {K : PySem.W.Frag} (h : exB K = true) (H : Hp) : SqT K H (He.ga K "WORDS") [.str "left", .str "right", .str "none"] := He.tupB_ok (vs := [.str "left", .str "right", .str "none"]) (Bool.and_eq_true_iff.mp h).1 H
/-- a good level -/
structure LvOk (m : Mn) (l : Lv) : Prop where
  okm : okM m
  mem : ∀ g ∈ l.2, g ∈ allS m
  ne : l.2 ≠ []
  srt : (l.2.map sgC).Pairwise (· < ·)
  len : l.2.length ≤ 3
theorem TbOk.lv {m : Mn} {T : Tb} (h : TbOk m T) {l : Lv} (hl : l ∈ T) : LvOk m l := ⟨h.okm, fun g hg => h.mem hl hg, h.ne l hl, h.srt l hl, by
  refine Nat.le_trans ?_ h.glen
  rw [List.length_flatMap]
  exact List.single_le_sum' (List.mem_map.mpr ⟨l, hl, rfl⟩)⟩
where
  List.single_le_sum' : ∀ {ns : List Nat} {n : Nat}, n ∈ ns → n ≤ ns.sum
    | a :: ns, n, h => by
      rcases List.mem_cons.mp h with e | e
      · rw [e]; simp
      · have := List.single_le_sum' e
        rw [List.sum_cons]; omega
section
variable {P : Program} {w : World} {K : PySem.W.Frag} {mg : Str → Option Value} {base : Heap}
theorem cut1 (gs : List Sg) : (cutS (txt gs) (some 1) none).cps.toList = (gs.map sgC).drop 1 := by
  have h1 : HT.sIx (txt gs).length 0 (some (1 : Int)) = min 1 (txt gs).length := HT.sIx_nat _ _ 1
  have h2 : HT.sIx (txt gs).length (txt gs).length none = (txt gs).length := rfl
  have h3 : (txt gs).length = gs.length := txt_len gs
  unfold cutS
  rw [h1, h2, h3, txt_list]
  show List.take _ (List.drop _ _) = _
  cases gs with
  | nil => rfl
  | cons g gs =>
    have e1 : min 1 (g :: gs).length = 1 := by simp
    rw [e1]
    exact List.take_of_length_le (by simp)
theorem k_is_level (T : Tx P w K mg) : Kn P w K mg base "is_level" 1 (preF (fun ds => ∃ m l, LvOk m l ∧ ds = [lvD l]) (fun _ => .bl true)) := by
  refine kn_is_level T (fun ds B G post h => by obtain ⟨⟨m, l, _, rfl⟩, _⟩ := h; rfl) fun cdv A outer s H E hr ds B G post h => ?_
  obtain ⟨⟨m, l, hl, rfl⟩, h⟩ := h
  obtain ⟨ti, gi⟩ := T.g_INFIX
  obtain ⟨ta, ga⟩ := T.g_AHEAD
  have hu := hr.units
  have hv : ∀ a, lvD l ≠ .adr a := fun a h => nomatch h
  have l1 : (txt l.2).length ≤ 3 := by rw [txt_len]; exact hl.len
  have l2 : (txt l.2).length ≤ sizeLine := Nat.le_trans l1 (by decide)
  refine ss_guard (x := false) (Et.as ?_ (et_or3 (et_not (et_val (ev_isT T.f_isinstance T.f_tuple (vv 0) hv (kit_tup _ hv)))) (fun _ => et_neI (ev_lenT rfl T.f_len (vv 0)) ev_int)
    (fun _ _ => et_not (et_val ((ev_all (bs := [true, true]) rfl rfl T.f_all (el_lc1 (i := 1) sc_is_level.nd (bk n_is_level s_is_level) (lc_no [Dat.str (wdS l.1), .str (txt l.2)] id (fun _ => .bl true) (srcS_tup (vv 0)) (show 2 ≤ sizeLine by decide) fun a ha => ⟨_, rdw_name (by simp), fun s H0 C cl fp => ?_⟩))))))) ) (fun h => nomatch h) fun _ => ?_
  · rfl
  · have ha' : (∃ z, a = Dat.str z) := by
      rcases List.mem_cons.mp ha with e | e
      · exact ⟨_, e⟩
      · exact ⟨_, List.mem_singleton.mp e⟩
    obtain ⟨z, rfl⟩ := ha'
    exact ev_isT (T := "str") (d := .str z) T.f_isinstance T.f_str (vv 1) (fun _ h => nomatch h) (kit_str _ (fun _ h => nomatch h))
  have w1 : inV (.str (wdS l.1)) [.str "left", .str "right", .str "none"] = true := by cases l.1 <;> decide
  have w2 : decide (txt l.2 = "") = false := by
    refine decide_eq_false fun e => hl.ne ?_
    have : (txt l.2).length = 0 := by rw [e]; rfl
    rw [txt_len] at this
    exact List.length_eq_zero_iff.mp this
  refine ss_guard (x := false) (Et.as ?_ (et_or3 (ev_notWords (T.g_WORDS) (wordsV T.more) (by decide) (ev_ixT (vv 0) ev_int rfl)) (fun _ => et_eqS (ev_ixT (vv 0) ev_int rfl) ev_str)
    (fun _ _ => et_not (et_val ((ev_all (bs := l.2.map fun _ => true) rfl rfl T.f_all (El.as ?_ (el_lc1 (i := 2) sc_is_level.nd (bk n_is_level s_is_level) (lc_no l.2 sgD (fun _ => .bl true) (Src.as (signs_txt l.2) (srcS_str (ev_ixT (vv 0) ev_int rfl))) (Nat.le_trans hl.len (by decide)) fun g hg => ⟨_, rdw_name (by simp), fun s H0 C cl fp => ?_⟩)))))))) ) (fun h => nomatch h) fun _ => ?_
  · rw [w1, w2]; simp
  · simp
  · refine Ev.as ?_ (ev_inS (vv 2 (d := sgD g)) (ev_addS (ev_gs gi) (ev_gs ga) (by decide)))
    have h1 := sg_in_abc hl.okm (hl.mem g hg)
    have h2 := sg_in_pq hl.okm (hl.mem g hg)
    have e : (("abc" : Str) ++ ("pq" : Str)).cps.toList = ("abc" : Str).cps.toList ++ ("pq" : Str).cps.toList := rfl
    congr 1
    rw [e]
    refine decide_eq_true (List.mem_append.mpr ?_)
    cases g with
    | inf k => exact .inl (of_decide_eq_true h1)
    | ahd k => exact .inr (of_decide_eq_true h2)
  refine ss_ret (Ev.as ?_ (ev_all (bs := (zipS (txt l.2) (cutS (txt l.2) (some 1) none)).map fun _ => true) rfl rfl T.f_all (El.as ?_ (el_lc2 (i := 1) (j := 3) sc_is_level.nd (bk n_is_level s_is_level) (lc_no (zipS (txt l.2) (cutS (txt l.2) (some 1) none)) id (fun _ => .bl true) (Src.as (List.map_id _).symm (src_zipS T.f_zip (ev_ixT (vv 0) ev_int rfl) (ev_slS (ev_ixT (vv 0) ev_int rfl) (pt1 ev_int) pt0 l2))) ?_ fun a ha => ?_))))) h
  · simp
  · rw [List.map_map]; rfl
  · simp only [zipS, List.length_map, List.length_range]
    have : (txt l.2).cps.size ≤ 3 := l1
    exact Nat.le_trans (Nat.min_le_left _ _) (Nat.le_trans this (by decide))
  · obtain ⟨i, hi, rfl⟩ := List.mem_map.mp ha
    have hi' := List.mem_range.mp hi
    refine ⟨_, rdw_two, fun s H0 C cl fp => Ev.as ?_ (ev_ltS (vv 1 (d := .str ⟨#[(txt l.2).cps.getD i 0]⟩)) (vv 3 (d := .str ⟨#[(cutS (txt l.2) (some 1) none).cps.getD i 0]⟩)))⟩
    congr 1
    have s1 : (txt l.2).cps.size = (l.2.map sgC).length := by simp [txt]
    have s2 : (cutS (txt l.2) (some 1) none).cps.size = ((l.2.map sgC).drop 1).length := by rw [← cut1]; simp
    have i1 : i < (l.2.map sgC).length := by omega
    have i2 : i + 1 < (l.2.map sgC).length := by
      have := s2 ▸ Nat.lt_of_lt_of_le hi' (Nat.min_le_right _ _)
      rw [List.length_drop] at this
      omega
    have g1 : (txt l.2).cps.getD i 0 = (l.2.map sgC)[i] := by
      rw [Array.getD_eq_getD_getElem?, ← Array.getElem?_toList, txt_list, List.getElem?_eq_getElem i1]; rfl
    have g2 : (cutS (txt l.2) (some 1) none).cps.getD i 0 = (l.2.map sgC)[i + 1] := by
      rw [Array.getD_eq_getD_getElem?, ← Array.getElem?_toList, cut1, List.getElem?_drop, Nat.add_comm 1 i, List.getElem?_eq_getElem i2]; rfl
    rw [g1, g2]
    refine decide_eq_true ?_
    show [(l.2.map sgC)[i]] < [(l.2.map sgC)[i + 1]]
    exact List.Lex.rel (List.pairwise_iff_getElem.mp hl.srt i (i + 1) i1 i2 (by omega))
end
end Bk
set_option Elab.async false
set_option linter.all false
set_option autoImplicit false
set_option maxRecDepth 100000
set_option maxHeartbeats 1000000
namespace Bk
open PySem L2
theorem et_between {X : Cx} {B : Hp} {ρ : Sls} {G : GL} {a b c : Expr} {i j k : Int} {pos : Pos} (ha : Ev X B ρ G a (.int i)) (hb : Ev X B ρ G b (.int j)) (hc : Ev X B ρ G c (.int k)) (hm : lastMarks [.LtE, .LtE] [b, c] = false := by with_unfolding_all rfl) :
    Et X B ρ G (.Compare a [.LtE, .LtE] [b, c] pos) (decide (i ≤ j) && decide (j ≤ k)) := fun σ H rp s Q q =>
  WT.of (pt_chain op_le op_le pe_w pe_w pe_w hm) (ha σ H rp s _ fun x H1 e1 i1 => hb σ H1 (rp.ext e1) (s.ext e1) _ fun y H2 e2 i2 => by
    simp only [Is] at i1 i2
    refine ⟨i, j, i1, i2, decide (i ≤ j), rfl, ?_⟩
    cases hd : decide (i ≤ j) with
    | false =>
      have := q H2 (e1.trans e2)
      rw [hd, Bool.false_and] at this
      exact iteF ⟨_, rfl, this⟩
    | true =>
      refine iteT ?_
      refine hc σ H2 ((rp.ext e1).ext e2) ((s.ext e1).ext e2) _ fun z H3 e3 i3 => ?_
      simp only [Is] at i3
      refine ⟨j, k, i2, i3, _, rfl, ?_⟩
      have := q H3 ((e1.trans e2).trans e3)
      rw [hd, Bool.true_and] at this
      exact this)
section
variable {P : Program} {w : World} {K : PySem.W.Frag} {mg : Str → Option Value} {base : Heap}
/-! ### all_signs -/
def rAllSigns (ds : List Dat) (_ : Hp) (d : Dat) : Prop := ∃ m T, TbOk m T ∧ ds = [tbD T] ∧ d = .str (txt (allS m))
theorem sum_one (m : Mn) : ((allS m).map sgS |>.map (·.length)).sum + ((allS m).map sgS).length * ("" : Str).length = m.1 + m.2 := by
  have h : ∀ gs : List Sg, (gs.map sgS |>.map (·.length)).sum = gs.length := fun gs => by
    induction gs with
    | nil => rfl
    | cons g gs ih => simp only [List.map_cons, List.sum_cons, ih, List.length_cons]; show 1 + _ = _; omega
  rw [h, allS_len]; rfl
theorem sum_txt (T : Tb) : (T.map (fun l => txt l.2) |>.map (·.length)).sum = (T.flatMap (·.2)).length := by
  induction T with
  | nil => rfl
  | cons l T ih => simp only [List.map_cons, List.sum_cons, ih, List.flatMap_cons, List.length_append, txt_len]
theorem k_all_signs (T0 : Tx P w K mg) : Kn P w K mg base "all_signs" 1 (preR rAllSigns) := by
  refine kn_all_signs T0 (fun ds B G post h => by obtain ⟨d, ⟨m, T, _, rfl, _⟩, _⟩ := h; rfl) fun cdv A outer s H E hr ds B G post h => ?_
  obtain ⟨d, ⟨m, T, hT, rfl, rfl⟩, h⟩ := h
  have hm := okM_le hT.okm
  refine ss_ret (Ev.as ?_ (ev_join (z := "") (ys := (allS m).map sgS) ev_str (el_sortedTxt (us := (allS m).map sgS) rfl T0.f_sorted (ev_join (z := "") (ys := T.map fun l => txt l.2) ev_str (El.as ?_ (el_lc2 (i := 1) (j := 2) sc_all_signs.nd (bk n_all_signs s_all_signs) (lc_no T lvD (fun l => .str (txt l.2)) (srcS_tup (vv 0)) ?_ fun l hl => ⟨_, rdw_two, fun s H0 C cl fp => vv 2⟩))) ?_) ?_ ?_) ?_)) h
  · rw [join_one]
  · rw [List.map_map]; rfl
  · exact Nat.le_trans hT.len (by decide)
  · rw [sum_txt, hT.perm.length_eq, allS_len]
    show _ + _ * 0 ≤ _
    omega
  · have : Txt.join "" (T.map fun l => txt l.2) = txt (T.flatMap (·.2)) := by
      have e : (T.map fun l => txt l.2) = (T.map (·.2)).map txt := by rw [List.map_map]; rfl
      rw [e, join_txt, flat_map2]
    rw [this, txt_size, hT.perm.length_eq, allS_len]; omega
  · have : Txt.join "" (T.map fun l => txt l.2) = txt (T.flatMap (·.2)) := by
      have e : (T.map fun l => txt l.2) = (T.map (·.2)).map txt := by rw [List.map_map]; rfl
      rw [e, join_txt, flat_map2]
    rw [this]
    exact sorted_txt hT.okm hT.perm
  · rw [sum_one]; omega
/-! ### is_table -/
def rIsTable (ds : List Dat) (_ : Hp) (d : Dat) : Prop := ∃ m T, TbOk m T ∧ ds = [tbD T] ∧ d = .bl true
theorem k_is_table (T0 : Tx P w K mg) : Kn P w K mg base "is_table" 2 (preR rIsTable) := by
  refine kn_is_table T0 (fun ds B G post h => by obtain ⟨d, ⟨m, T, _, rfl, _⟩, _⟩ := h; rfl) fun cdv A outer s H E hr ds B G post h => ?_
  obtain ⟨d, ⟨m, T, hT, rfl, rfl⟩, h⟩ := h
  have hv : ∀ a, tbD T ≠ .adr a := fun a h => nomatch h
  refine ss_guard (x := false) (Et.as ?_ (et_or3 (et_not (et_val (ev_isT T0.f_isinstance T0.f_tuple (vv 0) hv (kit_tup _ hv)))) (fun _ => et_not (et_between ev_int (ev_lenT rfl T0.f_len (vv 0)) ev_int))
    (fun _ _ => et_not (et_val (ev_all (bs := T.map fun _ => true) rfl rfl T0.f_all (El.as ?_ (el_lc1 (i := 1) sc_is_table.nd (bk n_is_table s_is_table) (lc_no T lvD (fun _ => .bl true) (srcS_tup (vv 0)) ?_ fun l hl => ⟨_, rdw_name (by simp), fun s H0 C cl fp => ?_⟩))))))) ) (fun h => nomatch h) fun _ => ?_
  · have := hT.pos
    have := hT.len
    have e1 : decide ((1 : Int) ≤ ((T.map lvD).length : Nat)) = true := decide_eq_true (by simp; omega)
    have e2 : decide ((((T.map lvD).length : Nat) : Int) ≤ 3) = true := decide_eq_true (by simp; omega)
    rw [e1, e2]
    simp [Dat.isA, tbD]
  · simp
  · exact Nat.le_trans hT.len (by decide)
  · exact ev_call (k_is_level T0) hr rfl (ea_cons (vv 1) ea_nil) ⟨m, l, hT.lv hl, rfl⟩ rfl
  refine ss_ret (ev_call (k_is_choice T0) hr rfl (ea_cons (ev_callR (k_all_signs T0) hr (ea_cons (vv 0) ea_nil) fun H _ => ⟨m, T, hT, rfl, rfl⟩) ea_nil) ⟨m, hT.okm, rfl⟩ rfl) h
/-! ### check_table, check_two -/
def rCheckTable (ds : List Dat) (_ : Hp) (d : Dat) : Prop := ∃ m T, TbOk m T ∧ ds = [tbD T] ∧ d = .non
theorem k_check_table (T0 : Tx P w K mg) : Kn P w K mg base "check_table" 3 (preR rCheckTable) := by
  refine kn_check_table T0 (fun ds B G post h => by obtain ⟨d, ⟨m, T, _, rfl, _⟩, _⟩ := h; rfl) fun cdv A outer s H E hr ds B G post h => ?_
  obtain ⟨d, ⟨m, T, hT, rfl, rfl⟩, h⟩ := h
  refine ss_guard (x := false) (Et.as ?_ (et_not (et_val (ev_callR (k_is_table T0) hr (ea_cons (vv 0) ea_nil) fun H _ => ⟨m, T, hT, rfl, rfl⟩)))) (fun h => nomatch h) fun _ => ss_nil h
  rfl
def rCheckTwo (ds : List Dat) (_ : Hp) (d : Dat) : Prop := ∃ m T U, TbOk m T ∧ TbOk m U ∧ ds = [tbD T, tbD U] ∧ d = .non
theorem k_check_two (T0 : Tx P w K mg) : Kn P w K mg base "check_two" 4 (preR rCheckTwo) := by
  refine kn_check_two T0 (fun ds B G post h => by obtain ⟨d, ⟨m, T, U, _, _, rfl, _⟩, _⟩ := h; rfl) fun cdv A outer s H E hr ds B G post h => ?_
  obtain ⟨d, ⟨m, T, U, hT, hU, rfl, rfl⟩, h⟩ := h
  refine ss_e (ev_callR (k_check_table T0) hr (ea_cons (vv 0) ea_nil) fun H _ => ⟨m, T, hT, rfl, rfl⟩) ?_
  refine ss_e (ev_callR (k_check_table T0) hr (ea_cons (vv 1) ea_nil) fun H _ => ⟨m, U, hU, rfl, rfl⟩) ?_
  refine ss_guard (x := false) (Et.as ?_ (et_neS (ev_callR (k_all_signs T0) (hr.mono (by decide)) (ea_cons (vv 0) ea_nil) fun H _ => ⟨m, T, hT, rfl, rfl⟩) (ev_callR (k_all_signs T0) (hr.mono (by decide)) (ea_cons (vv 1) ea_nil) fun H _ => ⟨m, U, hU, rfl, rfl⟩))) (fun h => nomatch h) fun _ => ss_nil h
  simp
/-! ### places_of -/
def plcL : Nat → Tb → List (Str × Int)
  | _, [] => []
  | k, l :: T => (l.2.map fun g => (sgS g, (k : Int))) ++ plcL (k + 1) T
def prePlaces : Pre := fun ds B G post => ∃ m T, TbOk m T ∧ ds = [tbD T] ∧ ∀ p, B p = none → (∀ x ∈ G, x.1 ≠ p) → post (.adr p) (G ++ [(p, .dic (plcL 0 T))])
theorem plcL_app : ∀ (T : Tb) (k : Nat) (l : Lv), plcL k (T ++ [l]) = plcL k T ++ l.2.map fun g => (sgS g, ((k + T.length : Nat) : Int))
  | [], k, l => by simp [plcL]
  | a :: T, k, l => by
    rw [List.cons_append, plcL, plcL_app T (k + 1) l, plcL, List.append_assoc]
    simp [Nat.add_assoc, Nat.add_comm 1]
theorem plcL_fst : ∀ (T : Tb) (k : Nat), (plcL k T).map (·.1) = (T.flatMap (·.2)).map sgS
  | [], _ => rfl
  | l :: T, k => by rw [plcL, List.map_append, plcL_fst T (k + 1), List.map_map, List.flatMap_cons, List.map_append]; rfl
theorem TbOk.nodup {m : Mn} {T : Tb} (h : TbOk m T) : ((T.flatMap (·.2)).map sgS).Nodup := by
  have : ((allS m).map sgS).Nodup := okM_cases (p := fun m => ((allS m).map sgS).Nodup) h.okm (by decide) (by decide) (by decide) (by decide) (by decide) (by decide)
  exact (h.perm.map sgS).nodup_iff.mpr this
theorem lookup_none {A : Type} {x : Str} : ∀ {l : List (Str × A)}, x ∉ l.map (·.1) → l.lookup x = none
  | [], _ => rfl
  | (y, a) :: l, h => by
    simp only [List.map_cons, List.mem_cons, not_or] at h
    rw [List.lookup_cons, beq_eq_false_iff_ne.mpr h.1]
    exact lookup_none h.2
theorem k_places_of (T0 : Tx P w K mg) : Kn P w K mg base "places_of" 1 prePlaces := by
  refine kn_places_of T0 (fun ds B G post h => by obtain ⟨m, T, _, rfl, _⟩ := h; rfl) fun cdv A outer s H E hr ds B G post h => ?_
  obtain ⟨m, T, hT, rfl, h⟩ := h
  have hu := hr.units
  refine ss_w (i := 1) ed_new (fun d G' ⟨p, h1, h2, h3, h4⟩ => ?_) sc_places_of.nd
  subst h1 h4
  have hj : ∀ kvs, (G ++ [(p, DO.dic kvs)])[G.length]? = some (p, DO.dic kvs) := fun kvs => by simp
  have hset : ∀ kvs kvs', (G ++ [(p, DO.dic kvs)]).set G.length (p, DO.dic kvs') = G ++ [(p, DO.dic kvs')] := fun kvs kvs' => by simp
  have hsz : (T.flatMap (·.2)).length ≤ 3 := hT.glen
  refine ss_for (src_enumT T0.f_enumerate (vv 0)) (g := gTup K 2 (gCons (gName 2) (gCons (gTup K 2 (gCons (gName 3) (gCons (gName 4) gNil))) gNil))) (pg_tup rfl (pgs_cons (pg_n sc_places_of.nd) (pgs_cons (pg_t2 sc_places_of.nd) pgs_nil)))
    (fun i ρ' G' => ρ' = [some (tbD T), some (.adr p), none, none, none, none] ∧ G' = G ++ [(p, .dic (plcL 0 (T.take i)))]) ⟨_, by repeat' (first | exact Frg.nil | apply Frg.same | apply Frg.drop), rfl, rfl⟩ (fun _ _ _ _ _ _ _ _ _ t _ => t) ?_ ?_
  · rintro i d ρ' G' hd ⟨rfl, rfl⟩
    have hi : i < T.length := by
      have := (List.getElem?_eq_some_iff.mp hd).1
      rw [enumD_len, List.length_map] at this
      exact this
    have hl : T[i]? = some T[i] := List.getElem?_eq_getElem hi
    have hd2 := enumD_get (ds := T.map lvD) (k := 0) (i := i) (d := lvD T[i]) (by rw [List.getElem?_map, hl]; rfl)
    rw [hd, Nat.zero_add] at hd2
    cases hd2
    generalize hL : T[i] = l at hl ⊢
    have hmem : l ∈ T := List.mem_of_getElem? hl
    refine ⟨_, rd_tup rfl (rds_cons rd_name (rds_cons rd_t2 rds_nil)), ?_⟩
    have htk : T.take (i + 1) = T.take i ++ [l] := by rw [List.take_add_one, hl]; rfl
    have happ : T.flatMap (·.2) = (T.take i).flatMap (·.2) ++ (l.2 ++ (T.drop (i + 1)).flatMap (·.2)) := by
      conv => lhs; rw [← List.take_append_drop i T, List.drop_eq_getElem_cons hi, hL]
      rw [List.flatMap_append, List.flatMap_cons]
    refine ss_forF (Src.as (signs_txt l.2) (src_str (vv 4))) (g := gName 5) (pg_n sc_places_of.nd)
      (fun j ρ' G' => ρ' = [some (tbD T), some (.adr p), some (.int i), none, none, none] ∧ G' = G ++ [(p, .dic (plcL 0 (T.take i) ++ (l.2.take j).map fun g => (sgS g, (i : Int))))]) ⟨_, by repeat' (first | exact Frg.nil | apply Frg.same | apply Frg.drop), rfl, by simp⟩ ?_ ?_
    · rintro j d ρ' G' hd ⟨rfl, rfl⟩
      rw [List.getElem?_map] at hd
      obtain ⟨g, hg, rfl⟩ := Option.map_eq_some_iff.mp hd
      refine ⟨_, rd_name, ss_one (s1_dput (p := p) (x := sgS g) (n := i) hu (vv 2) (vv 1) (vv 5) (hj _) (lookup_none ?_) ?_ ?_)⟩
      · have nd := hT.nodup
        rw [happ, List.map_append, List.map_append] at nd
        rw [List.map_append, plcL_fst, List.map_map]
        have hsp : l.2 = l.2.take j ++ (g :: l.2.drop (j + 1)) := by
          have hj' := (List.getElem?_eq_some_iff.mp hg)
          obtain ⟨h1, h2⟩ := hj'
          conv => lhs; rw [← List.take_append_drop j l.2, List.drop_eq_getElem_cons h1, h2]
        rw [hsp, List.map_append, List.map_cons] at nd
        intro hx
        have n1 := List.nodup_append.mp nd
        rcases List.mem_append.mp hx with e | e
        · exact n1.2.2 _ e _ (List.mem_append_left _ (List.mem_append_right _ List.mem_cons_self)) rfl
        · have n2 := List.nodup_append.mp (List.nodup_append.mp n1.2.1).1
          exact n2.2.2 _ e _ List.mem_cons_self rfl
      · rw [List.length_append, List.length_map]
        have e1 : (plcL 0 (T.take i)).length = ((T.take i).flatMap (·.2)).length := by
          have := congrArg List.length (plcL_fst (T.take i) 0)
          simpa using this
        have e2 := congrArg List.length happ
        rw [List.length_append, List.length_append] at e2
        have e3 : (l.2.take j).length ≤ l.2.length := List.length_take_le' _ _
        rw [e1]
        exact Nat.lt_of_le_of_lt (Nat.le_trans (by omega) hsz) (by decide)
      · rw [hset]
        refine ⟨_, by repeat' (first | exact Frg.nil | apply Frg.same | apply Frg.drop), rfl, ?_⟩
        rw [List.take_add_one, hg, List.map_append, List.append_assoc]
        rfl
    · rintro ρ' G' ⟨rfl, rfl⟩
      refine ss_done ⟨_, by repeat' (first | exact Frg.nil | apply Frg.same | apply Frg.drop), rfl, ?_⟩
      rw [htk, plcL_app, List.length_take, Nat.min_eq_left (Nat.le_of_lt hi), List.length_map, List.take_length]
      simp
  · rintro ρ' G' ⟨rfl, rfl⟩
    rw [enumD_len, List.length_map, List.take_length]
    exact ss_r (vv 1) (h p h2 h3)
end
end Bk
set_option Elab.async false
set_option linter.all false
set_option autoImplicit false
set_option maxRecDepth 100000
set_option maxHeartbeats 1000000
namespace Bk
open PySem L2
section
variable {X : Cx} {B : Hp} {ρ : Sls} {G : GL} {D : DE}
/-- a list that stands is a list -/
theorem ev_isList {a : Expr} {p q pos : Pos} {l : Addr} {ds : List Dat} (hm : X.mg "isinstance" = none) (hmT : X.mg "list" = none) (ha : Ev X B ρ G a (.adr l)) (hj : Lat B G l ds) (hg : Gl X "isinstance" := by rfl) (hgT : Gl X "list" := by rfl)
    (he : starEach [a, .Name "list" q] X.env = (false, eval a X.env) :: starEach [.Name "list" q] X.env := by rfl) (he2 : starEach [.Name "list" q] X.env = (false, eval (.Name "list" q) X.env) :: starEach [] X.env := by rfl) (hpl : (backTo pos (starEach [.Name "list" q] X.env)).any (·.1) = false := by rfl) : Ev X B ρ G (.Call (.Name "isinstance" p) [a, .Name "list" q] [] pos) (.bl true) :=
  ev_isi (t := "list") (T := "list") hg hm hgT hmT (by decide +kernel) ha (fun H v r i => by
    simp only [Is] at i
    obtain ⟨vs, h1, _⟩ := r.lat hj
    subst i
    exact .base (.lst h1)) (by decide +kernel) (by decide) (by decide) he he2 hpl
/-- one of two texts -/
theorem ev_in2 {a : Expr} {x y z : Str} {j k l : Nat} {p1 p2 p3 pos : Pos} (ha : Ev X B ρ G a (.str x)) : Ev X B ρ G (.Compare a [.In] [.Tuple [.Constant (.str y) j p1, .Constant (.str z) k p2] l p3] pos) (.bl (inV (.str x) [.str y, .str z])) :=
  ev_cmp op_in_seq ha (ev_tup (ea_cons ev_str (ea_cons ev_str ea_nil)) (by simp)) (fun H r u v hx hy Q q => by
    simp only [Is] at hx hy
    obtain ⟨a, xs, rfl, h1, h2⟩ := hy
    obtain ⟨u1, r1, rfl, i1, h3⟩ := IsAll.cons_iff.mp h2
    obtain ⟨u2, r2, rfl, i2, h4⟩ := IsAll.cons_iff.mp h3
    rw [IsAll.nil_iff] at h4
    simp only [Is] at i1 i2
    subst h4 i1 i2
    exact ⟨a, _, rfl, .inr (SqT.of h1), by rw [hx]; rfl, by rfl, q _ H (Same.refl H) (by simp only [Is]; rw [hx]; rfl)⟩) (by rfl)
end
section
variable {P : Program} {w : World} {K : PySem.W.Frag} {mg : Str → Option Value} {base : Heap}
theorem sg_abc {m : Mn} {g : Sg} (hm : okM m) (hg : g ∈ allS m) : decide (sgC g ∈ ("abc" : Str).cps.toList) = g.isInf := by rw [sg_in_abc hm hg]; cases g <;> rfl
theorem sg_pq {m : Mn} {g : Sg} (hm : okM m) (hg : g ∈ allS m) : decide (sgC g ∈ ("pq" : Str).cps.toList) = !g.isInf := by rw [sg_in_pq hm hg]; cases g <;> rfl
def It.isS : It → Bool | .s _ => true | .v _ => false
def ItOk (m : Mn) (it : It) : Prop := ∀ g, it = .s g → g ∈ allS m
def kindS : It → Str | .v _ => "value" | .s (.inf _) => "infix" | .s (.ahd _) => "ahead"
def canF (ready : Bool) (it : It) : Bool := match ready, it with
  | true, .s (.inf _) => true
  | false, .v _ => true
  | false, .s (.ahd _) => true
  | _, _ => false
theorem itD_na (it : It) : ∀ a, itD it ≠ .adr a := fun a h => by cases it <;> exact nomatch h
theorem itD_isStr (it : It) : (itD it).isA "str" = it.isS := by cases it <;> rfl
theorem vD_int (b : Bool) : isIntD (vD b) 0 1 = true := by cases b <;> rfl
theorem vD_int3 (b : Bool) : isIntD (vD b) 0 3 = true := by cases b <;> rfl
def rKind (ds : List Dat) (_ : Hp) (d : Dat) : Prop := ∃ m it, okM m ∧ ItOk m it ∧ ds = [itD it] ∧ d = .str (kindS it)
theorem k_kind_of (T0 : Tx P w K mg) : Kn P w K mg base "kind_of" 2 (preR rKind) := by
  refine kn_kind_of T0 (fun ds B G post h => by obtain ⟨d, ⟨m, it, _, _, rfl, _⟩, _⟩ := h; rfl) fun cdv A outer s H E hr ds B G post h => ?_
  obtain ⟨d, ⟨m, it, hm, hi, rfl, rfl⟩, h⟩ := h
  obtain ⟨ti, gi⟩ := T0.g_INFIX
  obtain ⟨ta, ga⟩ := T0.g_AHEAD
  cases it with
  | v b =>
    refine ss_guard (x := true) (Et.as (vD_int3 b) (et_val (ev_call (k_is_int T0) hr rfl (ea_cons (vv 0) (ea_cons ev_int (ea_cons ev_int ea_nil))) ⟨vD b, 0, 3, rfl, itD_na (.v b)⟩ rfl))) (fun _ => ss_r ev_str h) fun h => nomatch h
  | s g =>
    have hg := hi g rfl
    refine ss_guard (x := false) (Et.as (by rfl) (et_val (ev_call (k_is_int T0) hr rfl (ea_cons (vv 0) (ea_cons ev_int (ea_cons ev_int ea_nil))) ⟨sgD g, 0, 3, rfl, itD_na (.s g)⟩ rfl))) (fun h => nomatch h) fun _ => ?_
    refine ss_guard (x := false) (Et.as ?_ (et_or2 (et_not (et_val (ev_isT T0.f_isinstance T0.f_str (vv 0) (itD_na (.s g)) (kit_str _ (itD_na (.s g)))))) fun _ => et_neI (ev_lenS (z := sgS g) rfl T0.f_len (vv 0) ?_) ev_int)) (fun h => nomatch h) fun _ => ?_
    · rfl
    · show (1 : Nat) ≤ sizeLine; decide
    refine ss_r (d := .str (kindS (.s g))) (ev_if (x := g.isInf) (Et.as (sg_abc hm hg) (et_inS (vv 0) (ev_gs gi))) (fun hx => ?_) (fun hx => ?_)) h
    · cases g with
      | inf k => exact ev_str
      | ahd k => cases hx
    · cases g with
      | inf k => cases hx
      | ahd k => exact ev_if (x := true) (Et.as (sg_pq hm hg) (et_inS (vv 0) (ev_gs ga))) (fun _ => ev_str) (fun h => nomatch h)
def rCan (ds : List Dat) (_ : Hp) (d : Dat) : Prop := ∃ b it, ds = [.bl b, .str (kindS it)] ∧ d = .bl (canF b it)
theorem k_can_follow (T0 : Tx P w K mg) : Kn P w K mg base "can_follow" 1 (preR rCan) := by
  refine kn_can_follow T0 (fun ds B G post h => by obtain ⟨d, ⟨b, it, rfl, _⟩, _⟩ := h; rfl) fun cdv A outer s H E hr ds B G post h => ?_
  obtain ⟨d, ⟨b, it, rfl, rfl⟩, h⟩ := h
  refine ss_r (ev_if (x := b) (et_val (vv 0)) (fun hx => Ev.as ?_ (ev_eqS (vv 1) ev_str)) (fun hx => Ev.as ?_ (ev_in2 (vv 1)))) h
  · subst hx; cases it with
    | v b => rfl
    | s g => cases g <;> rfl
  · subst hx; cases it with
    | v b => rfl
    | s g => cases g <;> rfl
/-! ### rows -/
def rdy : Bool → List It → Option Bool
  | b, [] => some b
  | b, it :: r => if canF b it = true then rdy (!it.isS) r else none
structure RowOk (m : Mn) (its : List It) : Prop where
  okm : okM m
  mem : ∀ it ∈ its, ItOk m it
  run : rdy false its = some true
  len : its.length ≤ 40
def rIsRow (ds : List Dat) (B : Hp) (d : Dat) : Prop := ∃ m its p, RowOk m its ∧ ds = [.adr p] ∧ Lat B [] p (its.map itD) ∧ d = .bl true
theorem Lat.more {B : Hp} {G : GL} {p : Addr} {ds : List Dat} (h : Lat B [] p ds) : Lat B G p ds := by
  rcases h with ⟨j, hj⟩ | h
  · simp at hj
  · exact .inr h
theorem lat_base {P : Program} {w : World} {B : Hp} {G : GL} {H : Hp} {p : Addr} {ds : List Dat} (r : Rep P w B G H) (h : Lat B G p ds) : Lat H [] p ds := .inr (r.lat h)
theorem rdy_pre : ∀ {its : List It} {b c : Bool} {n : Nat}, rdy b its = some c → ∃ b', rdy b (its.take n) = some b' ∧ rdy b' (its.drop n) = some c
  | [], b, c, n, h => ⟨b, by simp [rdy], by simpa using h⟩
  | it :: r, b, c, 0, h => ⟨b, by simp [rdy], by simpa using h⟩
  | it :: r, b, c, n + 1, h => by
    simp only [rdy] at h
    split at h
    · rename_i hc
      obtain ⟨b', h1, h2⟩ := rdy_pre (n := n) h
      exact ⟨b', by rw [List.take_succ_cons]; simp only [rdy, hc, if_true]; exact h1, by simpa using h2⟩
    · cases h
theorem rdy_snoc : ∀ {its : List It} {b c : Bool} {it : It}, rdy b its = some c → canF c it = true → rdy b (its ++ [it]) = some (!it.isS)
  | [], b, c, it, h, hc => by
    simp only [rdy, Option.some.injEq] at h
    subst h
    simp [rdy, hc]
  | i :: r, b, c, it, h, hc => by
    simp only [rdy, List.cons_append] at h ⊢
    split at h
    · rename_i h1
      rw [if_pos h1]
      exact rdy_snoc h hc
    · cases h
theorem k_is_row (T0 : Tx P w K mg) : Kn P w K mg base "is_row" 3 (preR rIsRow) := by
  refine kn_is_row T0 (fun ds B G post h => by obtain ⟨d, ⟨m, its, p, _, rfl, _⟩, _⟩ := h; rfl) fun cdv A outer s H E hr ds B G post h => ?_
  obtain ⟨d, ⟨m, its, p, hR, rfl, hl0, rfl⟩, h⟩ := h
  have hl : Lat B G p (its.map itD) := hl0.more
  obtain ⟨tm, gm⟩ := T0.g_MOST_ITEMS
  refine ss_guard (x := false) (Et.as ?_ (et_or2 (et_not (et_val (ev_isList T0.f_isinstance T0.f_list (vv 0) hl))) fun _ => et_gt (ev_lenL rfl T0.f_len (vv 0) hl) (ev_gi gm))) (fun h => nomatch h) fun _ => ?_
  · have := hR.len
    rw [decide_eq_false (by simp; omega)]; rfl
  refine ss_v (i := 1) ev_bl ?_ sc_is_row.nd
  refine ss_forL (vv 0) hl (pg_n (i := 2) sc_is_row.nd) (fun i ρ' G' => ∃ b, ρ' = [some (.adr p), some (.bl b), none, none] ∧ G' = G ∧ rdy false (its.take i) = some b) ⟨_, by repeat' (first | exact Frg.nil | apply Frg.same | apply Frg.drop), false, rfl, rfl, rfl⟩ (fun i ρ' G' ⟨b, _, e, _⟩ => by rw [e]; exact hl) ?_ ?_
  · rintro i d ρ' G' hd ⟨b, rfl, rfl, hb⟩
    rw [List.getElem?_map] at hd
    obtain ⟨it, hit, rfl⟩ := Option.map_eq_some_iff.mp hd
    have hmem := List.mem_of_getElem? hit
    have hcan : canF b it = true := by
      obtain ⟨b', h1, h2⟩ := rdy_pre (n := i) hR.run
      rw [hb] at h1
      cases h1
      have hi := (List.getElem?_eq_some_iff.mp hit)
      obtain ⟨hi1, hi2⟩ := hi
      rw [List.drop_eq_getElem_cons hi1, hi2] at h2
      simp only [rdy] at h2
      split at h2
      · assumption
      · cases h2
    refine ⟨_, rd_name, ?_⟩
    refine ss_v (i := 3) (ev_callR (k_kind_of T0) (hr.mono (by decide)) (ea_cons (vv 2) ea_nil) fun H _ => ⟨m, it, hR.okm, hR.mem it hmem, rfl, rfl⟩) ?_ sc_is_row.nd
    refine ss_guard (x := false) (Et.as ?_ (et_or2 (et_isN (vv 3)) fun _ => et_not (et_val (ev_callR (k_can_follow T0) (hr.mono (by decide)) (ea_cons (vv 1) (ea_cons (vv 3) ea_nil)) fun H _ => ⟨b, it, rfl, rfl⟩)))) (fun h => nomatch h) fun _ => ?_
    · rw [hcan]; rfl
    refine ss_v (i := 1) (Ev.as (d' := .bl (!it.isS)) ?_ (ev_eqS (vv 3) ev_str)) (ss_done ⟨_, by repeat' (first | exact Frg.nil | apply Frg.same | apply Frg.drop), !it.isS, rfl, rfl, ?_⟩) sc_is_row.nd
    · cases it with
      | v b => rfl
      | s g => cases g <;> rfl
    · rw [List.take_add_one, hit]
      exact rdy_snoc hb hcan
  · rintro ρ' G' ⟨b, rfl, rfl, hb⟩
    rw [List.length_map, List.take_length, hR.run] at hb
    cases hb
    exact ss_r (vv 1) h
def rHasSigns (ds : List Dat) (B : Hp) (d : Dat) : Prop := ∃ m T its p, RowOk m its ∧ TbOk m T ∧ ds = [.adr p, tbD T] ∧ Lat B [] p (its.map itD) ∧ d = .bl true
theorem k_has_signs (T0 : Tx P w K mg) : Kn P w K mg base "has_signs" 2 (preR rHasSigns) := by
  refine kn_has_signs T0 (fun ds B G post h => by obtain ⟨d, ⟨m, T, its, p, _, _, rfl, _⟩, _⟩ := h; rfl) fun cdv A outer s H E hr ds B G post h => ?_
  obtain ⟨d, ⟨m, T, its, p, hR, hT, rfl, hl0, rfl⟩, h⟩ := h
  have hl : Lat B G p (its.map itD) := hl0.more
  refine ss_r (Ev.as ?_ (ev_all (bs := (its.filter It.isS).map fun _ => true) rfl rfl T0.f_all (El.as ?_ (el_lc1I (i := 2) sc_has_signs.nd (bk n_has_signs s_has_signs) (lc_if its itD It.isS (fun _ => .bl true) (srcS_lst (vv 0) hl) (Nat.le_trans hR.len (by decide)) fun it hit => ⟨_, rdw_name (by simp), fun s H0 C cl fp => Et.as (itD_isStr it) (et_val (ev_isT T0.f_isinstance T0.f_str (vv 2) (itD_na it) (kit_str _ (itD_na it)))), fun hs s H0 C cl fp => ?_⟩))))) h
  · simp
  · simp
  · cases it with
    | v b => cases hs
    | s g =>
      have hg := hR.mem _ hit g rfl
      refine Ev.as ?_ (ev_inS (c := sgC g) (vv 2) (ev_callR (k_all_signs T0) hr (ea_cons (vv 1) ea_nil) fun H _ => ⟨m, T, hT, rfl, rfl⟩))
      congr 1
      rw [txt_list]
      exact decide_eq_true (List.mem_map.mpr ⟨g, hg, rfl⟩)
def rCheckRow (ds : List Dat) (B : Hp) (d : Dat) : Prop := ∃ m T its p, RowOk m its ∧ TbOk m T ∧ ds = [.adr p, tbD T, .int 2] ∧ Lat B [] p (its.map itD) ∧ d = .non
theorem k_check_row (T0 : Tx P w K mg) : Kn P w K mg base "check_row" 4 (preR rCheckRow) := by
  refine kn_check_row T0 (fun ds B G post h => by obtain ⟨d, ⟨m, T, its, p, _, _, rfl, _⟩, _⟩ := h; rfl) fun cdv A outer s H E hr ds B G post h => ?_
  obtain ⟨d, ⟨m, T, its, p, hR, hT, rfl, hl0, rfl⟩, h⟩ := h
  have hl : Lat B G p (its.map itD) := hl0.more
  refine ss_guard (x := false) (Et.as ?_ (et_or2 (et_not (et_val (ev_callR (k_is_row T0) (hr.mono (by decide)) (ea_cons (vv 0) ea_nil) fun H r => ⟨m, its, p, hR, rfl, lat_base r hl, rfl⟩))) fun _ => et_not (et_val (ev_callR (k_has_signs T0) (hr.mono (by decide)) (ea_cons (vv 0) (ea_cons (vv 1) ea_nil)) fun H r => ⟨m, T, its, p, hR, hT, rfl, lat_base r hl, rfl⟩)))) (fun h => nomatch h) fun _ => ?_
  · rfl
  refine ss_guard (x := false) (Et.as ?_ (et_not (et_val (ev_all (bs := its.map fun _ => true) rfl rfl T0.f_all (El.as ?_ (el_lc1 (i := 3) sc_check_row.nd (bk n_check_row s_check_row) (lc_no its itD (fun _ => .bl true) (srcS_lst (vv 0) hl) (Nat.le_trans hR.len (by decide)) fun it hit => ⟨_, rdw_name (by simp), fun s H0 C cl fp => ?_⟩))))))) (fun h => nomatch h) fun _ => ss_done h
  · simp
  · simp
  · refine Ev.as ?_ (ev_or2 (y := true) (ev_isT T0.f_isinstance T0.f_str (vv 3) (itD_na it) (kit_str _ (itD_na it))) fun hx => ?_)
    · simp
    · cases it with
      | v b =>
        refine Ev.as ?_ (ev_lt (i := if b = true then 1 else 0) (j := 2) (vv 3) (vv 2))
        cases b <;> rfl
      | s g => cases hx
/-! ### meanings -/
def rIsLine (ds : List Dat) (_ : Hp) (d : Dat) : Prop := ∃ l, ds = [lnD l, .int 2] ∧ d = .bl true
theorem k_is_line (T0 : Tx P w K mg) : Kn P w K mg base "is_line" 2 (preR rIsLine) := by
  refine kn_is_line T0 (fun ds B G post h => by obtain ⟨d, ⟨l, rfl, _⟩, _⟩ := h; rfl) fun cdv A outer s H E hr ds B G post h => ?_
  obtain ⟨d, ⟨l, rfl, rfl⟩, h⟩ := h
  have hv : ∀ a, lnD l ≠ .adr a := fun a h => nomatch h
  refine ss_r (Ev.as ?_ (ev_and3 (ev_isT T0.f_isinstance T0.f_tuple (vv 0) hv (kit_tup _ hv)) (fun _ => ev_eqI (ev_lenT rfl T0.f_len (vv 0)) (vv 1)) (fun _ _ => ev_all (bs := [true, true]) rfl rfl T0.f_all (El.as ?_ (el_lc1 (i := 2) sc_is_line.nd (bk n_is_line s_is_line) (lc_no [l.1, l.2] vD (fun _ => .bl true) (srcS_tup (vv 0)) (show 2 ≤ sizeLine by decide) fun b hb => ⟨_, rdw_name (by simp), fun s H0 C cl fp => ?_⟩)))))) h
  · rfl
  · rfl
  · exact Ev.as (congrArg Dat.bl (vD_int b)) (ev_call (k_is_int T0) (hr.mono (by decide)) rfl (ea_cons (vv 2) (ea_cons ev_int (ea_cons (ev_sub (vv 1) ev_int) ea_nil))) ⟨vD b, 0, 1, rfl, itD_na (.v b)⟩ rfl)
def rIsSquare (ds : List Dat) (_ : Hp) (d : Dat) : Prop := ∃ q, ds = [sqD q, .int 2] ∧ d = .bl true
theorem k_is_square (T0 : Tx P w K mg) : Kn P w K mg base "is_square" 3 (preR rIsSquare) := by
  refine kn_is_square T0 (fun ds B G post h => by obtain ⟨d, ⟨l, rfl, _⟩, _⟩ := h; rfl) fun cdv A outer s H E hr ds B G post h => ?_
  obtain ⟨d, ⟨q, rfl, rfl⟩, h⟩ := h
  have hv : ∀ a, sqD q ≠ .adr a := fun a h => nomatch h
  refine ss_r (Ev.as ?_ (ev_and3 (ev_isT T0.f_isinstance T0.f_tuple (vv 0) hv (kit_tup _ hv)) (fun _ => ev_eqI (ev_lenT rfl T0.f_len (vv 0)) (vv 1)) (fun _ _ => ev_all (bs := [true, true]) rfl rfl T0.f_all (El.as ?_ (el_lc1 (i := 2) sc_is_square.nd (bk n_is_square s_is_square) (lc_no [q.1, q.2] lnD (fun _ => .bl true) (srcS_tup (vv 0)) (show 2 ≤ sizeLine by decide) fun b hb => ⟨_, rdw_name (by simp), fun s H0 C cl fp => ?_⟩)))))) h
  · rfl
  · rfl
  · exact ev_callR (k_is_line T0) (hr.mono (by decide)) (ea_cons (vv 2) (ea_cons (vv 1) ea_nil)) fun H _ => ⟨b, rfl, rfl⟩
def rIsMeaning (ds : List Dat) (_ : Hp) (d : Dat) : Prop := ∃ m M, okM m ∧ MgOk m M ∧ ds = [mgD M] ∧ d = .bl true
theorem k_is_meaning (T0 : Tx P w K mg) : Kn P w K mg base "is_meaning" 4 (preR rIsMeaning) := by
  refine kn_is_meaning T0 (fun ds B G post h => by obtain ⟨d, ⟨m, M, _, _, rfl, _⟩, _⟩ := h; rfl) fun cdv A outer s H E hr ds B G post h => ?_
  obtain ⟨d, ⟨m, M, hm, hM, rfl, rfl⟩, h⟩ := h
  have hv : ∀ a, mgD M ≠ .adr a := fun a h => nomatch h
  have v1 : ∀ a, Dat.tup (M.sqs.map sqD) ≠ .adr a := fun a h => nomatch h
  have v2 : ∀ a, Dat.tup (M.lns.map lnD) ≠ .adr a := fun a h => nomatch h
  have hs := hM.sq
  have hl := hM.ln
  have hle := okM_le hm
  have l1 : Ev (cxOf CX0 P w K mg base n_is_meaning "is_meaning" (defScope s_is_meaning) (He.ga K "is_meaning") cdv A outer s H E).nox B [some (mgD M), none] G (.Name "value" ⟨0, 0, 0, 0⟩) (mgD M) := vv 0
  refine ss_guard (x := false) (Et.as ?_ (et_or3 (et_not (et_val (ev_isT T0.f_isinstance T0.f_tuple (vv 0) hv (kit_tup _ hv)))) (fun _ => et_neI (ev_lenT rfl T0.f_len (vv 0)) ev_int) (fun _ _ => et_not (et_val (ev_call (k_is_int T0) (hr.mono (by decide)) rfl (ea_cons (ev_ixT (vv 0) ev_int rfl) (ea_cons ev_int (ea_cons ev_int ea_nil))) ⟨.int 2, 2, 4, rfl, fun _ h => nomatch h⟩ rfl))))) (fun h => nomatch h) fun _ => ?_
  · rfl
  refine ss_guard (x := false) (Et.as ?_ (et_or2 (et_not (et_val (ev_isT T0.f_isinstance T0.f_tuple (ev_ixT (vv 0) ev_int rfl) v1 (kit_tup _ v1)))) (fun _ => et_not (et_val (ev_isT T0.f_isinstance T0.f_tuple (ev_ixT (vv 0) ev_int rfl) v2 (kit_tup _ v2)))))) (fun h => nomatch h) fun _ => ?_
  · rfl
  refine ss_guard (x := false) (Et.as ?_ (et_or3 (et_not (et_between ev_int (ev_lenT rfl T0.f_len (ev_ixT (vv 0) ev_int rfl)) ev_int)) (fun _ => et_gt (ev_lenT rfl T0.f_len (ev_ixT (vv 0) ev_int rfl)) ev_int) (fun _ _ => et_gt (ev_add (ev_lenT rfl T0.f_len (ev_ixT (vv 0) ev_int rfl)) (ev_lenT rfl T0.f_len (ev_ixT (vv 0) ev_int rfl))) ev_int))) (fun h => nomatch h) fun _ => ?_
  · simp only [List.length_map, hs, hl]
    rw [decide_eq_true (by omega), decide_eq_true (by omega), decide_eq_false (by omega), decide_eq_false (by omega)]; rfl
  refine ss_r (Ev.as ?_ (ev_and2 (ev_all (bs := M.sqs.map fun _ => true) rfl rfl T0.f_all (El.as ?_ (el_lc1 (i := 1) sc_is_meaning.nd (bk n_is_meaning s_is_meaning) (lc_no M.sqs sqD (fun _ => .bl true) (srcS_tup (ev_ixT (vv 0) ev_int rfl)) ?_ fun q hq => ⟨_, rdw_name (by simp), fun s H0 C cl fp => ?_⟩)))) fun _ =>
    (ev_all (bs := M.lns.map fun _ => true) rfl rfl T0.f_all (El.as ?_ (el_lc1 (i := 1) sc_is_meaning.nd (bk n_is_meaning s_is_meaning) (lc_no M.lns lnD (fun _ => .bl true) (srcS_tup (ev_ixT (vv 0) ev_int rfl)) ?_ fun q hq => ⟨_, rdw_name (by simp), fun s H0 C cl fp => ?_⟩)))))) h
  · simp
  · simp
  · rw [hs]; exact Nat.le_trans hle.1 (by decide)
  · exact ev_callR (k_is_square T0) (hr.mono (by decide)) (ea_cons (vv 1) (ea_cons (ev_ixT (vv 0) ev_int rfl) ea_nil)) fun H _ => ⟨q, rfl, rfl⟩
  · simp
  · rw [hl]; exact Nat.le_trans hle.2.1 (by decide)
  · exact ev_callR (k_is_line T0) (hr.mono (by decide)) (ea_cons (vv 1) (ea_cons (ev_ixT (vv 0) ev_int rfl) ea_nil)) fun H _ => ⟨q, rfl, rfl⟩
def rTM (d0 : Dat) (ds : List Dat) (_ : Hp) (d : Dat) : Prop := ∃ m T M, TbOk m T ∧ MgOk m M ∧ ds = [tbD T, mgD M] ∧ d = d0
theorem k_same_counts (T0 : Tx P w K mg) : Kn P w K mg base "same_counts" 2 (preR (rTM (.bl true))) := by
  refine kn_same_counts T0 (fun ds B G post h => by obtain ⟨d, ⟨m, T, M, _, _, rfl, _⟩, _⟩ := h; rfl) fun cdv A outer s H E hr ds B G post h => ?_
  obtain ⟨d, ⟨m, T, M, hT, hM, rfl, rfl⟩, h⟩ := h
  obtain ⟨ti, gi⟩ := T0.g_INFIX
  obtain ⟨ta, ga⟩ := T0.g_AHEAD
  have e4 : decide (txt (allS m) = cutS "abc" none (some (m.1 : Int)) ++ cutS "pq" none (some (m.2 : Int))) = true :=
    okM_cases (p := fun m => decide (txt (allS m) = cutS "abc" none (some (m.1 : Int)) ++ cutS "pq" none (some (m.2 : Int))) = true) hT.okm rfl rfl rfl rfl rfl rfl
  refine ss_r (Ev.as ?_ (ev_eqS (ev_callR (k_all_signs T0) hr (ea_cons (vv 0) ea_nil) fun H _ => ⟨m, T, hT, rfl, rfl⟩) (ev_addS (ev_slS (ev_gs gi) pt0 (pt1 (ev_lenT rfl T0.f_len (ev_ixT (vv 1) ev_int rfl))) (by decide)) (ev_slS (ev_gs ga) pt0 (pt1 (ev_lenT rfl T0.f_len (ev_ixT (vv 1) ev_int rfl))) (by decide)) ?_))) h
  · simp only [List.length_map, hM.sq, hM.ln, e4]
  · simp only [List.length_map, hM.sq, hM.ln]
    exact okM_cases (p := fun m => (cutS "abc" none (some (m.1 : Int))).length + (cutS "pq" none (some (m.2 : Int))).length ≤ sizeLine) hT.okm (by decide) (by decide) (by decide) (by decide) (by decide) (by decide)
theorem k_fits (T0 : Tx P w K mg) : Kn P w K mg base "fits" 5 (preR (rTM (.bl true))) := by
  refine kn_fits T0 (fun ds B G post h => by obtain ⟨d, ⟨m, T, M, _, _, rfl, _⟩, _⟩ := h; rfl) fun cdv A outer s H E hr ds B G post h => ?_
  obtain ⟨d, ⟨m, T, M, hT, hM, rfl, rfl⟩, h⟩ := h
  refine ss_r (Ev.as ?_ (ev_and3 (ev_callR (k_is_table T0) (hr.mono (by decide)) (ea_cons (vv 0) ea_nil) fun H _ => ⟨m, T, hT, rfl, rfl⟩) (fun _ => ev_callR (k_is_meaning T0) (hr.mono (by decide)) (ea_cons (vv 1) ea_nil) fun H _ => ⟨m, M, hT.okm, hM, rfl, rfl⟩) (fun _ _ => ev_callR (k_same_counts T0) (hr.mono (by decide)) (ea_cons (vv 0) (ea_cons (vv 1) ea_nil)) fun H _ => ⟨m, T, M, hT, hM, rfl, rfl⟩))) h
  rfl
def rCheckMeaning (ds : List Dat) (_ : Hp) (d : Dat) : Prop := ∃ m T M, ∃ k : Int, TbOk m T ∧ MgOk m M ∧ 2 ≤ k ∧ ds = [tbD T, mgD M, .int k] ∧ d = .non
theorem k_check_meaning (T0 : Tx P w K mg) : Kn P w K mg base "check_meaning" 6 (preR rCheckMeaning) := by
  refine kn_check_meaning T0 (fun ds B G post h => by obtain ⟨d, ⟨m, T, M, k, _, _, _, rfl, _⟩, _⟩ := h; rfl) fun cdv A outer s H E hr ds B G post h => ?_
  obtain ⟨d, ⟨m, T, M, k, hT, hM, hk, rfl, rfl⟩, h⟩ := h
  refine ss_guard (x := false) (Et.as ?_ (et_or2 (et_not (et_val (ev_callR (k_fits T0) (hr.mono (by decide)) (ea_cons (vv 0) (ea_cons (vv 1) ea_nil)) fun H _ => ⟨m, T, M, hT, hM, rfl, rfl⟩))) (fun _ => et_gt (ev_ixT (vv 1) ev_int rfl) (vv 2)))) (fun h => nomatch h) fun _ => ss_done h
  rw [decide_eq_false (by omega)]; rfl
end
end Bk
set_option Elab.async false
set_option linter.all false
set_option autoImplicit false
set_option maxRecDepth 100000
set_option maxHeartbeats 1000000
/-! The program's machine, as typed things. -/
namespace Bk
open PySem L2
structure PS where
  wait : Option Wt
  last : Int
  val : Option Bool
  deriving DecidableEq
def olD : Option Ln → Dat | none => .non | some l => lnD l
def obD : Option Bool → Dat | none => .non | some b => vD b
def wtD (w : Wt) : Dat := .tup (w.map olD)
def owD : Option Wt → Dat | none => .non | some w => wtD w
def psD (s : PS) : Dat := .tup [owD s.wait, .int s.last, obD s.val]
def deadS : PS := ⟨none, 0, none⟩
def tplace (T : Tb) (g : Sg) : Nat := T.findIdx fun l => l.2.contains g
def tword (T : Tb) (p : Nat) : Wd := (T.getD p (.left, [])).1
def sqAt (M : Mg) (k : Nat) (b : Bool) : Ln := match b with | false => (M.sqs.getD k default).1 | true => (M.sqs.getD k default).2
def lnAt (M : Mg) (k : Nat) : Ln := M.lns.getD k default
def mc (T : Tb) (M : Mg) : Mc := { n := T.length, word := tword T, place := tplace T, sq := sqAt M, ln := lnAt M }
def startS (T : Tb) : PS := ⟨some (List.replicate T.length none), -1, none⟩
def pTold (s : PS) : Option Bool := match s.wait, s.val with
  | some w, some b => some (close w b)
  | _, _ => none
def pAhead (T : Tb) (M : Mg) (w : Wt) (last : Int) (k : Nat) : PS :=
  if (tplace T (.ahd k) : Int) ≤ last then deadS else ⟨some (w.take (tplace T (.ahd k)) ++ some (lnAt M k) :: w.drop (tplace T (.ahd k) + 1)), tplace T (.ahd k), none⟩
def pInfix (T : Tb) (M : Mg) (w : Wt) (k : Nat) (b : Bool) : PS :=
  let p := tplace T (.inf k)
  let x := close (w.drop (p + 1)) b
  match w.getD p none, tword T p with
  | some _, .non => deadS
  | some f, .left => ⟨some (build w p (sqAt M k (lat f x))), p, none⟩
  | some f, .right => ⟨some (build w p (comp f (sqAt M k x))), p, none⟩
  | none, _ => ⟨some (build w p (sqAt M k x)), p, none⟩
def pStep (T : Tb) (M : Mg) (s : PS) (it : It) : PS := match s.wait, it with
  | none, .v _ => ⟨none, 0, some false⟩
  | none, .s _ => deadS
  | some w, .v b => ⟨some w, -1, some b⟩
  | some w, .s (.ahd k) => pAhead T M w s.last k
  | some w, .s (.inf k) => match s.val with
    | some b => pInfix T M w k b
    | none => deadS
def chI (m : Mn) : List It := [.v false, .v true] ++ (allS m).map .s
def machFs (T : Tb) (M : Mg) (pl ch kn : Addr) : List (Str × Dat) := [("known", .adr kn), ("choices", .adr ch), ("size", .int 2), ("places", .adr pl), ("meaning", mgD M), ("table", tbD T)]
/-- what reading methods ask of the object at x -/
structure MB (P : Program) (w : World) (K : PySem.W.Frag) (B : Hp) (x : Addr) (m : Mn) (T : Tb) (M : Mg) (pl ch kn : Addr) : Prop where
  obj : ORep P w B x (.ins (Mcl K) (machFs T M pl ch kn))
  pls : ORep P w B pl (.dic (plcL 0 T))
  chs : ORep P w B ch (.lst ((chI m).map itD))
  tok : TbOk m T
  mok : MgOk m M
theorem lookup_append {A : Type} {x : Str} : ∀ {a b : List (Str × A)}, (a ++ b).lookup x = (a.lookup x).or (b.lookup x)
  | [], b => by simp
  | (y, v) :: a, b => by
    rw [List.cons_append, List.lookup_cons, List.lookup_cons]
    cases h : x == y with
    | true => rfl
    | false => exact lookup_append
theorem lookup_map {gs : List Sg} {g : Sg} {v : Int} (hi : ∀ h ∈ gs, sgS h = sgS g → h = g) : (gs.map fun h => (sgS h, v)).lookup (sgS g) = if gs.contains g = true then some v else none := by
  induction gs with
  | nil => simp
  | cons h gs ih =>
    rw [List.map_cons, List.lookup_cons]
    by_cases e : sgS g = sgS h
    · have : h = g := hi h (by simp) e.symm
      subst this
      simp
    · have hne : g ≠ h := fun z => e (by rw [z])
      rw [beq_eq_false_iff_ne.mpr e, ih fun k hk => hi k (List.mem_cons_of_mem _ hk)]
      simp [List.contains_cons, hne]
theorem sgS_inj {a b : Sg} {m : Mn} (ha : a ∈ allS m) (hb : b ∈ allS m) (hm : okM m) (h : sgS a = sgS b) : a = b := by
  refine sgC_inj ha hb hm ?_
  have := congrArg (fun z : Str => z.cps.getD 0 0) h
  simpa [sgS] using this
theorem plcL_lookup {m : Mn} {g : Sg} (hm : okM m) (hg : g ∈ allS m) : ∀ (T : Tb) (k : Nat), (∀ l ∈ T, ∀ h ∈ l.2, h ∈ allS m) → (∃ l ∈ T, g ∈ l.2) → (plcL k T).lookup (sgS g) = some ((k + tplace T g : Nat) : Int)
  | [], _, _, h => by obtain ⟨_, h, _⟩ := h; cases h
  | l :: T, k, hT, h => by
    rw [plcL, lookup_append, lookup_map fun h hh e => sgS_inj (hT l (by simp) h hh) hg hm e]
    by_cases hc : l.2.contains g = true
    · rw [if_pos hc]
      have hm : g ∈ l.2 := by simpa using hc
      simp [tplace, List.findIdx_cons, hm]
    · rw [if_neg hc]
      have hg' : ∃ l ∈ T, g ∈ l.2 := by
        obtain ⟨l', h1, h2⟩ := h
        rcases List.mem_cons.mp h1 with e | e
        · rw [e] at h2
          exact absurd (by simpa using h2) hc
        · exact ⟨l', e, h2⟩
      rw [Option.none_or, plcL_lookup hm hg T (k + 1) (fun l hl => hT l (List.mem_cons_of_mem _ hl)) hg']
      have hc' : l.2.contains g = false := by simpa using hc
      simp only [tplace, List.findIdx_cons, hc']
      congr 2
      show k + 1 + _ = k + (_ + 1)
      omega
theorem TbOk.place {m : Mn} {T : Tb} (h : TbOk m T) {g : Sg} (hg : g ∈ allS m) : (plcL 0 T).lookup (sgS g) = some ((tplace T g : Nat) : Int) ∧ tplace T g < T.length := by
  have hm : ∃ l ∈ T, g ∈ l.2 := by
    have := h.perm.mem_iff.mpr hg
    exact List.mem_flatMap.mp this
  refine ⟨by rw [plcL_lookup h.okm hg T 0 (fun l hl g hg => h.mem hl hg) hm, Nat.zero_add], ?_⟩
  refine List.findIdx_lt_length.mpr ?_
  obtain ⟨l, h1, h2⟩ := hm
  exact ⟨l, h1, by simpa using h2⟩
/-- the states that come -/
structure StOk (m : Mn) (T : Tb) (s : PS) : Prop where
  len : ∀ w, s.wait = some w → w.length = T.length
  lst : -1 ≤ s.last ∧ s.last ≤ 2
/-- an item that may come behind the state -/
def Fits (m : Mn) (s : PS) (it : It) : Prop := ItOk m it ∧ canF s.val.isSome it = true
theorem MB.mono {P : Program} {w : World} {K : PySem.W.Frag} {B B' : Hp} {x : Addr} {m : Mn} {T : Tb} {M : Mg} {pl ch kn : Addr} (h : MB P w K B x m T M pl ch kn) (e : Same B B') : MB P w K B' x m T M pl ch kn :=
  ⟨h.obj.at_ (.of e) fun u q => e _ _ q, h.pls.at_ (.of e) fun u q => e _ _ q, h.chs.at_ (.of e) fun u q => e _ _ q, h.tok, h.mok⟩
end Bk
set_option Elab.async false
set_option linter.all false
set_option autoImplicit false
set_option maxRecDepth 100000
set_option maxHeartbeats 1000000
/-! States as keys: told apart, few. -/
namespace Bk
open PySem L2
theorem vD_nk (b : Bool) : (vD b).nk = .num (if b = true then 1 else 0) := rfl
theorem vD_inj {a b : Bool} (h : (vD a).nk = (vD b).nk) : a = b := by
  cases a <;> cases b <;> first | rfl | (simp [vD, Dat.nk] at h)
theorem lnD_inj {a b : Ln} (h : (lnD a).nk = (lnD b).nk) : a = b := by
  simp only [lnD, Dat.nk, Dat.nks, NestedKey.tup.injEq, List.cons.injEq, and_true] at h
  exact Prod.ext (vD_inj h.1) (vD_inj h.2)
theorem olD_inj {a b : Option Ln} (h : (olD a).nk = (olD b).nk) : a = b := by
  cases a <;> cases b
  · rfl
  · simp [olD, lnD, Dat.nk] at h
  · simp [olD, lnD, Dat.nk] at h
  · exact congrArg some (lnD_inj h)
theorem obD_inj {a b : Option Bool} (h : (obD a).nk = (obD b).nk) : a = b := by
  cases a <;> cases b
  · rfl
  · simp [obD, vD, Dat.nk] at h
  · simp [obD, vD, Dat.nk] at h
  · exact congrArg some (vD_inj h)
theorem wts_inj : ∀ {a b : Wt}, Dat.nks (a.map olD) = Dat.nks (b.map olD) → a = b
  | [], [], _ => rfl
  | [], _ :: _, h => by simp [Dat.nks] at h
  | _ :: _, [], h => by simp [Dat.nks] at h
  | x :: a, y :: b, h => by
    simp only [List.map_cons, Dat.nks, List.cons.injEq] at h
    rw [olD_inj h.1, wts_inj h.2]
theorem owD_inj {a b : Option Wt} (h : (owD a).nk = (owD b).nk) : a = b := by
  cases a <;> cases b
  · rfl
  · simp [owD, wtD, Dat.nk] at h
  · simp [owD, wtD, Dat.nk] at h
  · simp only [owD, wtD, Dat.nk, NestedKey.tup.injEq] at h
    exact congrArg some (wts_inj h)
theorem psD_inj {a b : PS} (h : (psD a).nk = (psD b).nk) : a = b := by
  simp only [psD, Dat.nk, Dat.nks, NestedKey.tup.injEq, List.cons.injEq, NestedKey.num.injEq, and_true] at h
  obtain ⟨h1, h2, h3⟩ := h
  cases a; cases b
  simp only [PS.mk.injEq]
  exact ⟨owD_inj h1, h2, obD_inj h3⟩
theorem itD_inj {m : Mn} {a b : It} (hm : okM m) (ha : ItOk m a) (hb : ItOk m b) (h : (itD a).nk = (itD b).nk) : a = b := by
  cases a with
  | v x =>
    cases b with
    | v y => exact congrArg It.v (vD_inj h)
    | s g => simp [itD, sgD, vD, Dat.nk] at h
  | s g =>
    cases b with
    | v y => simp [itD, sgD, vD, Dat.nk] at h
    | s g' =>
      have : sgS g = sgS g' := by simpa [itD, sgD, Dat.nk] using h
      exact congrArg It.s (sgS_inj (ha g rfl) (hb g' rfl) hm this)
/-! depth -/
theorem depth_all {ks : List NestedKey} {n : Nat} (h : ∀ k ∈ ks, k.depth ≤ n) : NestedKey.depthAll ks ≤ n := by
  induction ks with
  | nil => simp [NestedKey.depthAll]
  | cons k ks ih =>
    simp only [NestedKey.depthAll]
    have h1 := h k (by simp)
    have h2 := ih fun x hx => h x (List.mem_cons_of_mem _ hx)
    omega
theorem nks_eq : ∀ ds : List Dat, Dat.nks ds = ds.map Dat.nk
  | [] => rfl
  | d :: ds => by rw [Dat.nks, nks_eq ds]; rfl
theorem tup_depth {ds : List Dat} {n : Nat} (h : ∀ d ∈ ds, d.nk.depth ≤ n) : (Dat.tup ds).nk.depth ≤ n + 1 := by
  simp only [Dat.nk, NestedKey.depth]
  have : NestedKey.depthAll (Dat.nks ds) ≤ n := depth_all fun k hk => by
    rw [nks_eq] at hk
    obtain ⟨d, hd, rfl⟩ := List.mem_map.mp hk
    exact h d hd
  omega
theorem vD_depth (b : Bool) : (vD b).nk.depth ≤ 1 := by simp [vD, Dat.nk, NestedKey.depth]
theorem lnD_depth (l : Ln) : (lnD l).nk.depth ≤ 2 := tup_depth fun d hd => by
  simp only [List.mem_cons, List.mem_nil_iff, or_false] at hd
  rcases hd with rfl | rfl <;> exact vD_depth _
theorem olD_depth (l : Option Ln) : (olD l).nk.depth ≤ 2 := by
  cases l with
  | none => simp [olD, Dat.nk, NestedKey.depth]
  | some l => exact lnD_depth l
theorem owD_depth (w : Option Wt) : (owD w).nk.depth ≤ 3 := by
  cases w with
  | none => simp [owD, Dat.nk, NestedKey.depth]
  | some w =>
    refine tup_depth fun d hd => ?_
    obtain ⟨o, _, rfl⟩ := List.mem_map.mp hd
    exact olD_depth o
theorem psD_depth (s : PS) : (psD s).nk.depth ≤ 4 := tup_depth fun d hd => by
  simp only [List.mem_cons, List.mem_nil_iff, or_false] at hd
  rcases hd with rfl | rfl | rfl
  · exact owD_depth _
  · simp [Dat.nk, NestedKey.depth]
  · cases s.val with
    | none => simp [obD, Dat.nk, NestedKey.depth]
    | some b => exact Nat.le_trans (vD_depth b) (by decide)
theorem itD_depth (it : It) : (itD it).nk.depth ≤ 1 := by cases it <;> simp [itD, vD, sgD, Dat.nk, NestedKey.depth]
theorem cleans_all {ds : List Dat} (h : ∀ d ∈ ds, d.clean = true) : Dat.cleans ds = true := by
  induction ds with
  | nil => rfl
  | cons d ds ih => simp only [Dat.cleans, Bool.and_eq_true]; exact ⟨h d (by simp), ih fun x hx => h x (List.mem_cons_of_mem _ hx)⟩
theorem lnD_clean (l : Ln) : (lnD l).clean = true := rfl
theorem psD_clean (s : PS) : (psD s).clean = true := by
  have h1 : (owD s.wait).clean = true := by
    cases s.wait with
    | none => rfl
    | some w => exact cleans_all fun d hd => by obtain ⟨o, _, rfl⟩ := List.mem_map.mp hd; cases o <;> rfl
  have h2 : (obD s.val).clean = true := by cases s.val <;> rfl
  simp [psD, Dat.clean, Dat.cleans, h1, h2]
theorem itD_clean (it : It) : (itD it).clean = true := by cases it <;> rfl
def keyD (s : PS) (it : It) : Dat := .tup [psD s, itD it]
theorem keyD_ok (s : PS) (it : It) : (∃ ds, keyD s it = .tup ds) ∧ (keyD s it).clean = true ∧ (keyD s it).nk.depth ≤ 8 := by
  refine ⟨⟨_, rfl⟩, by simp [keyD, Dat.clean, Dat.cleans, psD_clean, itD_clean], Nat.le_trans (tup_depth (n := 4) fun d hd => ?_) (by decide)⟩
  simp only [List.mem_cons, List.mem_nil_iff, or_false] at hd
  rcases hd with rfl | rfl
  · exact psD_depth s
  · exact Nat.le_trans (itD_depth it) (by decide)
theorem keyD_inj {m : Mn} {s s' : PS} {a b : It} (hm : okM m) (ha : ItOk m a) (hb : ItOk m b) (h : (keyD s a).nk = (keyD s' b).nk) : s = s' ∧ a = b := by
  simp only [keyD, Dat.nk, Dat.nks, NestedKey.tup.injEq, List.cons.injEq, and_true] at h
  refine ⟨psD_inj ?_, itD_inj hm ha hb h.2⟩
  exact h.1
def pairD (s t : PS) : Dat := .tup [psD s, psD t]
theorem pairD_ok (s t : PS) : (∃ ds, pairD s t = .tup ds) ∧ (pairD s t).clean = true ∧ (pairD s t).nk.depth ≤ 8 := by
  refine ⟨⟨_, rfl⟩, by simp [pairD, Dat.clean, Dat.cleans, psD_clean], Nat.le_trans (tup_depth (n := 4) fun d hd => ?_) (by decide)⟩
  simp only [List.mem_cons, List.mem_nil_iff, or_false] at hd
  rcases hd with rfl | rfl <;> exact psD_depth _
theorem pairD_inj {s s' t t' : PS} (h : (pairD s t).nk = (pairD s' t').nk) : s = s' ∧ t = t' := by
  simp only [pairD, Dat.nk, Dat.nks, NestedKey.tup.injEq, List.cons.injEq, and_true] at h
  exact ⟨psD_inj h.1, psD_inj h.2⟩

/-! ### few -/
theorem nodup_sub {A : Type} [DecidableEq A] : ∀ {S U : List A}, S.Nodup → (∀ a ∈ S, a ∈ U) → S.length ≤ U.length
  | [], _, _, _ => Nat.zero_le _
  | a :: S, U, hn, hs => by
    have ha := hs a (by simp)
    have hn' := List.nodup_cons.mp hn
    have h := nodup_sub (U := U.erase a) hn'.2 fun b hb => by
      have hne : b ≠ a := fun e => hn'.1 (e ▸ hb)
      exact (List.mem_erase_of_ne hne).mpr (hs b (List.mem_cons_of_mem _ hb))
    rw [List.length_erase_of_mem ha] at h
    have := List.length_pos_of_mem ha
    rw [List.length_cons]
    omega
def allL : List Ln := [(false, false), (false, true), (true, false), (true, true)]
def allO : List (Option Ln) := none :: allL.map some
def allW : Nat → List Wt
  | 0 => [[]]
  | n + 1 => allO.flatMap fun o => (allW n).map (o :: ·)
theorem mem_allO (o : Option Ln) : o ∈ allO := by
  cases o with
  | none => simp [allO]
  | some l => obtain ⟨a, b⟩ := l; cases a <;> cases b <;> simp [allO, allL]
theorem mem_allW : ∀ w : Wt, w ∈ allW w.length
  | [] => by simp [allW]
  | o :: w => by
    simp only [List.length_cons, allW, List.mem_flatMap, List.mem_map]
    exact ⟨o, mem_allO o, w, mem_allW w, rfl⟩
def allPS (n : Nat) : List PS := (none :: (allW n).map some).flatMap fun w => [(-1 : Int), 0, 1, 2].flatMap fun l => [none, some false, some true].map fun v => ⟨w, l, v⟩
theorem mem_allPS {m : Mn} {T : Tb} {s : PS} (h : StOk m T s) : s ∈ allPS T.length := by
  obtain ⟨wt, l, v⟩ := s
  simp only [allPS, List.mem_flatMap, List.mem_map]
  refine ⟨wt, ?_, l, ?_, v, ?_, rfl⟩
  · cases wt with
    | none => simp
    | some w =>
      have := h.len w rfl
      rw [← this]
      exact List.mem_cons_of_mem _ (List.mem_map.mpr ⟨w, mem_allW w, rfl⟩)
  · have := h.lst
    simp only at this
    have : l = -1 ∨ l = 0 ∨ l = 1 ∨ l = 2 := by omega
    rcases this with rfl | rfl | rfl | rfl <;> simp
  · cases v with
    | none => simp
    | some b => cases b <;> simp
theorem len_allPS {n : Nat} (h : n ≤ 3) : (allPS n).length ≤ 1512 := by
  have : n = 0 ∨ n = 1 ∨ n = 2 ∨ n = 3 := by omega
  rcases this with rfl | rfl | rfl | rfl <;> decide +kernel
theorem mem_chI {m : Mn} {it : It} (h : ItOk m it) : it ∈ chI m := by
  cases it with
  | v b => cases b <;> simp [chI]
  | s g => simp [chI, h g rfl]
/-- what a machine remembers -/
structure Seen (m : Mn) (T : Tb) (S : List (PS × It)) : Prop where
  nd : S.Nodup
  ok : ∀ e ∈ S, StOk m T e.1 ∧ ItOk m e.2
theorem len_flat {A B : Type} {f : A → List B} {n : Nat} (hf : ∀ a, (f a).length = n) : ∀ l : List A, (l.flatMap f).length = l.length * n
  | [] => by simp
  | a :: l => by rw [List.flatMap_cons, List.length_append, hf, len_flat hf l, List.length_cons, Nat.succ_mul, Nat.add_comm]
theorem Seen.few {m : Mn} {T : Tb} {S : List (PS × It)} (h : Seen m T S) (hT : TbOk m T) : S.length ≤ 7560 := by
  have h1 := nodup_sub (U := (allPS T.length).flatMap fun s => (chI m).map fun it => (s, it)) h.nd fun e he => by
    obtain ⟨a, b⟩ := h.ok e he
    refine List.mem_flatMap.mpr ⟨e.1, mem_allPS a, List.mem_map.mpr ⟨e.2, mem_chI b, rfl⟩⟩
  rw [len_flat (n := (chI m).length) (fun s => by simp)] at h1
  have h2 := len_allPS hT.len
  have h3 : (chI m).length ≤ 5 := by
    have := (okM_le hT.okm).2.2.2
    simp [chI, allS_len]; omega
  have : (allPS T.length).length * (chI m).length ≤ 1512 * 5 := Nat.mul_le_mul h2 h3
  omega
structure Seen2 (m : Mn) (T U : Tb) (S : List (PS × PS)) : Prop where
  nd : S.Nodup
  ok : ∀ e ∈ S, StOk m T e.1 ∧ StOk m U e.2
theorem Seen2.few {m : Mn} {T U : Tb} {S : List (PS × PS)} (h : Seen2 m T U S) (hT : TbOk m T) (hU : TbOk m U) : S.length ≤ 2286144 := by
  have h1 := nodup_sub (U := (allPS T.length).flatMap fun s => (allPS U.length).map fun it => (s, it)) h.nd fun e he => by
    obtain ⟨a, b⟩ := h.ok e he
    exact List.mem_flatMap.mpr ⟨e.1, mem_allPS a, List.mem_map.mpr ⟨e.2, mem_allPS b, rfl⟩⟩
  rw [len_flat (n := (allPS U.length).length) (fun s => by simp)] at h1
  have : (allPS T.length).length * (allPS U.length).length ≤ 1512 * 1512 := Nat.mul_le_mul (len_allPS hT.len) (len_allPS hU.len)
  omega
/-! ### what a dict of them tells -/
def memo (T : Tb) (M : Mg) (S : List (PS × It)) : List (Dat × Dat) := S.map fun e => (keyD e.1 e.2, psD (pStep T M e.1 e.2))
theorem look_memo {m : Mn} {T : Tb} {M : Mg} {s : PS} {it : It} (hm : okM m) (hi : ItOk m it) : ∀ {S : List (PS × It)}, (∀ e ∈ S, ItOk m e.2) → look (memo T M S) (keyD s it).nk = if (s, it) ∈ S then some (psD (pStep T M s it)) else none
  | [], _ => rfl
  | e :: S, h => by
    have ih := look_memo (T := T) (M := M) (s := s) hm hi (S := S) fun x hx => h x (List.mem_cons_of_mem _ hx)
    by_cases k : (keyD e.1 e.2).nk = (keyD s it).nk
    · obtain ⟨a, b⟩ := keyD_inj hm (h e (by simp)) hi k
      have e1 : e = (s, it) := Prod.ext a b
      subst e1
      simp [look, memo]
    · have hne : (s, it) ≠ e := fun z => k (by rw [← z])
      have l1 : look (memo T M (e :: S)) (keyD s it).nk = look (memo T M S) (keyD s it).nk := by simp [look, memo, List.find?_cons, k]
      rw [l1, ih]
      simp [hne]
def known2 (v : Dat) (S : List (PS × PS)) : List (Dat × Dat) := S.map fun e => (pairD e.1 e.2, v)
theorem look_known2 {v : Dat} {s t : PS} : ∀ {S : List (PS × PS)}, look (known2 v S) (pairD s t).nk = if (s, t) ∈ S then some v else none
  | [] => rfl
  | e :: S => by
    have ih := look_known2 (v := v) (s := s) (t := t) (S := S)
    by_cases k : (pairD e.1 e.2).nk = (pairD s t).nk
    · obtain ⟨a, b⟩ := pairD_inj k
      have e1 : e = (s, t) := Prod.ext a b
      subst e1
      simp [look, known2]
    · have hne : (s, t) ≠ e := fun z => k (by rw [← z])
      have l1 : look (known2 v (e :: S)) (pairD s t).nk = look (known2 v S) (pairD s t).nk := by simp [look, known2, List.find?_cons, k]
      rw [l1, ih]
      simp [hne]
/-! ### the states stay good -/
theorem dead_ok {m : Mn} {T : Tb} : StOk m T deadS := ⟨(fun w h => nomatch h), by decide⟩
theorem pStep_ok {m : Mn} {T : Tb} {M : Mg} {s : PS} {it : It} (hT : TbOk m T) (h : StOk m T s) (hi : ItOk m it) : StOk m T (pStep T M s it) := by
  have h3 := hT.len
  unfold pStep
  cases hw : s.wait with
  | none =>
    cases it with
    | v b => exact ⟨(fun w h => nomatch h), by simp⟩
    | s g => exact dead_ok
  | some w =>
    have hl := h.len w hw
    cases it with
    | v b => exact ⟨fun w' e => by cases e; exact hl, by simp⟩
    | s g =>
      have hp := (hT.place (hi g rfl)).2
      cases g with
      | ahd k =>
        show StOk m T (pAhead T M w s.last k)
        unfold pAhead
        split
        · exact dead_ok
        · refine ⟨fun w' e => ?_, by simp only; omega⟩
          cases e
          simp; omega
      | inf k =>
        show StOk m T (match s.val with | some b => pInfix T M w k b | none => deadS)
        cases s.val with
        | none => exact dead_ok
        | some b =>
          show StOk m T (pInfix T M w k b)
          have bl : ∀ l, (build w (tplace T (.inf k)) l).length = T.length := fun l => by rw [build_length l (by omega), hl]
          have lt : -1 ≤ ((tplace T (.inf k) : Nat) : Int) ∧ ((tplace T (.inf k) : Nat) : Int) ≤ 2 := by omega
          unfold pInfix
          simp only
          split
          · exact dead_ok
          · exact ⟨fun w' e => by cases e; exact bl _, lt⟩
          · exact ⟨fun w' e => by cases e; exact bl _, lt⟩
          · exact ⟨fun w' e => by cases e; exact bl _, lt⟩
theorem start_ok {m : Mn} {T : Tb} : StOk m T (startS T) := ⟨fun w e => by cases e; simp, by simp [startS]⟩
end Bk
set_option Elab.async false
set_option linter.all false
set_option autoImplicit false
set_option maxRecDepth 100000
set_option maxHeartbeats 1000000
namespace Bk
open PySem L2
section
variable {P : Program} {w : World} {K : PySem.W.Frag} {mg : Str → Option Value} {base : Heap}
/-! ### start, is_ready -/
def rStart (P : Program) (w : World) (K : PySem.W.Frag) (ds : List Dat) (B : Hp) (d : Dat) : Prop := ∃ x m T M pl ch kn, MB P w K B x m T M pl ch kn ∧ ds = [.adr x] ∧ d = psD (startS T)
theorem k_start (T0 : Tx P w K mg) : KnM P w K mg base (Mcl K) "start" 1 (preR (rStart P w K)) := by
  refine knm_start T0 (fun ds B G post h => by obtain ⟨d, ⟨x, m, T, M, pl, ch, kn, _, rfl, _⟩, _⟩ := h; rfl) fun cdv A outer s H E hr ds B G post h => ?_
  obtain ⟨d, ⟨x, m, T, M, pl, ch, kn, hM, rfl, rfl⟩, h⟩ := h
  have e : (List.replicate (T.map lvD).length Dat.non) = ((List.replicate T.length (none : Option Ln)).map olD) := by rw [List.map_replicate, List.length_map]; rfl
  refine ss_r (Ev.as ?_ (ev_tup (ea_cons (ev_rep1 (n := (T.map lvD).length) (ev_tup (ea_cons ev_non ea_nil) (by simp)) (ev_lenT rfl T0.f_len (ev_fld (vv 0) (.inr hM.obj) (by rfl) T0.mcls T0.na_table)) ?_) (ea_cons (ev_neg ev_int) (ea_cons ev_non ea_nil))) (by simp))) h
  · rw [e]; rfl
  · rw [List.length_map]; have := hM.tok.len; omega
def rIsReady (ds : List Dat) (_ : Hp) (d : Dat) : Prop := ∃ x s, ds = [.adr x, psD s] ∧ d = .bl s.val.isSome
theorem k_is_ready (T0 : Tx P w K mg) : KnM P w K mg base (Mcl K) "is_ready" 1 (preR rIsReady) := by
  refine knm_is_ready T0 (fun ds B G post h => by obtain ⟨d, ⟨x, s, rfl, _⟩, _⟩ := h; rfl) fun cdv A outer s H E hr ds B G post h => ?_
  obtain ⟨d, ⟨x, st, rfl, rfl⟩, h⟩ := h
  refine ss_r (Ev.as ?_ (ev_notN (ev_ixT (d := obD st.val) (vv 1) ev_int rfl))) h
  cases st.val <;> rfl
/-! ### closed -/
def rClosed (ds : List Dat) (_ : Hp) (d : Dat) : Prop := ∃ x w k b, k ≤ w.length ∧ w.length ≤ 3 ∧ ds = [.adr x, wtD w, .int (k : Nat), vD b] ∧ d = vD (close (w.drop k) b)
theorem fromto_rev {a n : Nat} (h : a ≤ n) : (fromto a n).reverse = (List.range (n - a)).map fun (i : Nat) => Dat.int ((n - 1 - i : Nat) : Int) := by
  apply List.ext_getElem
  · simp [fromto]
  · intro i h1 h2
    simp only [List.length_map, List.length_range] at h2
    simp [fromto, List.getElem_reverse]
    omega
theorem close_drop (w : Wt) (b : Bool) {i : Nat} (hi : i < w.length) : close (w.drop i) b = ap (w.getD i none) (close (w.drop (i + 1)) b) := by
  rw [List.drop_eq_getElem_cons hi]
  simp only [close]
  congr 1
  simp [List.getD, hi]
theorem lnD_at (l : Ln) (b : Bool) : L2.atI [vD l.1, vD l.2] (if b = true then 1 else 0) = some (vD (lat l b)) := by cases b <;> rfl
theorem atI_nat {A : Type} {l : List A} {i : Nat} {a : A} (h : l[i]? = some a) : L2.atI l (i : Int) = some a := by
  unfold L2.atI
  have hi : i < l.length := (List.getElem?_eq_some_iff.mp h).1
  have e : ixN l.length (i : Int) = some i := by
    unfold ixN
    have h1 : ¬ ((i : Int) < 0) := by omega
    simp [h1, hi]
  rw [e]
  exact h
theorem k_closed (T0 : Tx P w K mg) : KnM P w K mg base (Mcl K) "closed" 1 (preR rClosed) := by
  refine knm_closed T0 (fun ds B G post h => by obtain ⟨d, ⟨x, w, k, b, _, _, rfl, _⟩, _⟩ := h; rfl) fun cdv A outer s H E hr ds B G post h => ?_
  obtain ⟨d, ⟨x, w, k, b, hk, h3, rfl, rfl⟩, h⟩ := h
  have hwl : (w.map olD).length = w.length := List.length_map _
  refine ss_forN (ds := (List.range (w.length - k)).map fun (i : Nat) => Dat.int ((w.length - 1 - i : Nat) : Int)) (El.as ?_ (el_revN (el_listRg2 rfl rfl T0.f_list rfl T0.f_range (vv 2) (ev_lenT rfl T0.f_len (vv 1)) (by omega) (by rw [hwl]; omega)))) (pg_n (i := 4) scm_closed.nd)
    (fun i ρ' G' => G' = G ∧ ρ' = [some (.adr x), some (wtD w), some (.int (k : Nat)), some (vD (close (w.drop (w.length - i)) b)), none]) ⟨_, by repeat' (first | exact Frg.nil | apply Frg.same | apply Frg.drop), rfl, by simp [close]⟩ ?_ ?_
  · rw [hwl]; exact fromto_rev hk
  · rintro B' sB i d ρ' G' hd ⟨rfl, rfl⟩
    rw [List.getElem?_map] at hd
    obtain ⟨j, hj, rfl⟩ := Option.map_eq_some_iff.mp hd
    obtain ⟨hj1, hj2⟩ := List.getElem?_eq_some_iff.mp hj
    have hij : j = i := by rw [← hj2]; simp
    subst hij
    rw [List.length_range] at hj1
    have hp : w.length - 1 - j < w.length := by omega
    have hat : L2.atI (w.map olD) ((w.length - 1 - j : Nat) : Int) = some (olD w[w.length - 1 - j]) := atI_nat (by simp [hp])
    have hcl := close_drop w b hp
    have e1 : w.length - 1 - j + 1 = w.length - j := by omega
    have e2 : w.length - (j + 1) = w.length - 1 - j := by omega
    rw [e1] at hcl
    have hg : w.getD (w.length - 1 - j) none = w[w.length - 1 - j] := by simp [List.getD, hp]
    rw [hg] at hcl
    refine ⟨_, rd_name, ?_⟩
    cases ho : w[w.length - 1 - j] with
    | none =>
      rw [ho] at hat hcl
      refine ss_guard (x := false) (Et.as ?_ (et_notN (ev_ixT (vv 1) (vv 4) hat))) (fun h => nomatch h) fun _ => ss_done ⟨_, ?_, rfl, rfl⟩
      · rfl
      · rw [e2, hcl]
        repeat' (first | exact Frg.nil | apply Frg.same | apply Frg.drop)
    | some l =>
      rw [ho] at hat hcl
      refine ss_if (x := true) (Et.as ?_ (et_notN (ev_ixT (vv 1) (vv 4) hat))) (fun _ => ?_) (fun h => nomatch h)
      · rfl
      · refine ss_v (i := 3) (ev_ixT (ds := [vD l.1, vD l.2]) (i := if close (w.drop (w.length - j)) b = true then 1 else 0) (ev_ixT (vv 1) (vv 4) hat) (vv 3) (lnD_at l _)) (ss_done (ss_done ⟨_, ?_, rfl, rfl⟩)) scm_closed.nd
        rw [e2, hcl]
        repeat' (first | exact Frg.nil | apply Frg.same | apply Frg.drop)
  · rintro ρ' G' ⟨rfl, rfl⟩
    rw [List.length_map, List.length_range]
    have : w.length - (w.length - k) = k := by omega
    rw [this]
    exact ss_r (vv 3) h
/-! ### told -/
def rTold (ds : List Dat) (_ : Hp) (d : Dat) : Prop := ∃ x s, (∀ w, s.wait = some w → w.length ≤ 3) ∧ (s.wait.isSome = true → s.val.isSome = true) ∧ ds = [.adr x, psD s] ∧ d = obD (pTold s)
theorem k_told (T0 : Tx P w K mg) {x : Addr} : KnM P w K mg base (Mcl K) "told" 2 (preR fun ds B d => rTold ds B d ∧ ∃ x m T M pl ch kn, MB P w K B x m T M pl ch kn ∧ ds[0]? = some (.adr x)) := by
  refine knm_told T0 (fun ds B G post h => by obtain ⟨d, ⟨⟨x, s, _, _, rfl, _⟩, _⟩, _⟩ := h; rfl) fun cdv A outer s H E hr ds B G post h => ?_
  obtain ⟨d, ⟨⟨x, st, hw, hv, rfl, rfl⟩, x', m, T, M, pl, ch, kn, hM, hx⟩, h⟩ := h
  cases hx
  cases hst : st.wait with
  | none =>
    refine ss_guard (x := true) (Et.as ?_ (et_isN (ev_ixT (d := owD st.wait) (vv 1) ev_int rfl))) (fun _ => ss_r ev_non ?_) (fun h => nomatch h)
    · rw [hst]; rfl
    · have : pTold st = none := by unfold pTold; rw [hst]
      rw [this] at h; exact h
  | some wt =>
    obtain ⟨b, hb⟩ := Option.isSome_iff_exists.mp (hv (by rw [hst]; rfl))
    refine ss_guard (x := false) (Et.as ?_ (et_isN (ev_ixT (d := owD st.wait) (vv 1) ev_int rfl))) (fun h => nomatch h) fun _ => ?_
    · rw [hst]; rfl
    · refine ss_r (d := obD (pTold st)) (ev_methR (vv 0) (.inr hM.obj) (by rfl) T0.mcls (k_closed T0) hr (ea_cons (ev_ixT (d := wtD wt) (vv 1) ev_int (by rw [hst]; rfl)) (ea_cons ev_int (ea_cons (ev_ixT (d := vD b) (vv 1) ev_int (by rw [hb]; rfl)) ea_nil))) fun H _ => ⟨x, wt, 0, b, Nat.zero_le _, hw wt hst, rfl, ?_⟩) h
      unfold pTold; rw [hst, hb]; rfl
end
end Bk
set_option Elab.async false
set_option linter.all false
set_option autoImplicit false
set_option maxRecDepth 100000
set_option maxHeartbeats 1000000
namespace Bk
open PySem L2
theorem cut_take {ds : List Dat} {p : Nat} (h : p ≤ ds.length) : cutD ds none (some (p : Int)) = ds.take p := by
  unfold cutD
  rw [show HT.sIx ds.length 0 none = 0 from rfl, HT.sIx_nat, Nat.min_eq_left h]
  simp
theorem cut_drop {ds : List Dat} {p : Nat} (h : p ≤ ds.length) : cutD ds (some (p : Int)) none = ds.drop p := by
  unfold cutD
  rw [show HT.sIx ds.length ds.length none = ds.length from rfl, HT.sIx_nat, Nat.min_eq_left h]
  exact List.take_of_length_le (by simp)
theorem occ_pq {k : Nat} (h : k < 2) : ∃ rest, Builtin.Str.occurrences ("pq" : Str) (sgS (.ahd k)) 0 ("pq" : Str).length 1 = k :: rest := by
  have : k = 0 ∨ k = 1 := by omega
  rcases this with rfl | rfl
  · exact ⟨[], by decide +kernel⟩
  · exact ⟨[], by decide +kernel⟩
theorem occ_abc {k : Nat} (h : k < 3) : ∃ rest, Builtin.Str.occurrences ("abc" : Str) (sgS (.inf k)) 0 ("abc" : Str).length 1 = k :: rest := by
  have : k = 0 ∨ k = 1 ∨ k = 2 := by omega
  rcases this with rfl | rfl | rfl
  · exact ⟨[], by decide +kernel⟩
  · exact ⟨[], by decide +kernel⟩
  · exact ⟨[], by decide +kernel⟩
theorem ahd_lt {m : Mn} {k : Nat} (hm : okM m) (h : Sg.ahd k ∈ allS m) : k < m.2 ∧ k < 2 := by
  rcases allS_cases hm h with ⟨j, _, _, e⟩ | ⟨j, h1, h2, e⟩
  · cases e
  · cases e; exact ⟨h1, h2⟩
theorem inf_lt {m : Mn} {k : Nat} (hm : okM m) (h : Sg.inf k ∈ allS m) : k < m.1 ∧ k < 3 := by
  rcases allS_cases hm h with ⟨j, h1, h2, e⟩ | ⟨j, _, _, e⟩
  · cases e; exact ⟨h1, h2⟩
  · cases e
theorem ln_get {m : Mn} {M : Mg} {k : Nat} (hM : MgOk m M) (h : k < m.2) : (M.lns.map lnD)[k]? = some (lnD (lnAt M k)) := by
  have hk : k < M.lns.length := by rw [hM.ln]; exact h
  simp [lnAt, hk]
theorem sq_get {m : Mn} {M : Mg} {k : Nat} (hM : MgOk m M) (h : k < m.1) : (M.sqs.map sqD)[k]? = some (.tup [lnD (sqAt M k false), lnD (sqAt M k true)]) := by
  have hk : k < M.sqs.length := by rw [hM.sq]; exact h
  simp [sqAt, hk, sqD]
section
variable {P : Program} {w : World} {K : PySem.W.Frag} {mg : Str → Option Value} {base : Heap}
def rAhead (P : Program) (w : World) (K : PySem.W.Frag) (ds : List Dat) (B : Hp) (d : Dat) : Prop := ∃ x m T M pl ch kn wt, ∃ (last : Int) (v : Option Bool) (k : Nat), MB P w K B x m T M pl ch kn ∧ wt.length = T.length ∧ Sg.ahd k ∈ allS m ∧ ds = [.adr x, psD ⟨some wt, last, v⟩, sgD (.ahd k)] ∧ d = psD (pAhead T M wt last k)
theorem k_ahead (T0 : Tx P w K mg) : KnM P w K mg base (Mcl K) "ahead" 1 (preR (rAhead P w K)) := by
  refine knm_ahead T0 (fun ds B G post h => by obtain ⟨d, ⟨x, m, T, M, pl, ch, kn, wt, last, v, k, _, _, _, rfl, _⟩, _⟩ := h; rfl) fun cdv A outer s H E hr ds B G post h => ?_
  obtain ⟨d, ⟨x, m, T, M, pl, ch, kn, wt, last, v, k, hM, hw, hk, rfl, rfl⟩, h⟩ := h
  obtain ⟨ta, ga⟩ := T0.g_AHEAD
  have hu := hr.units
  obtain ⟨hp1, hp2⟩ := hM.tok.place hk
  obtain ⟨k1, k2⟩ := ahd_lt hM.tok.okm hk
  obtain ⟨rest, ho⟩ := occ_pq k2
  have hlen : (wt.map olD).length = T.length := by rw [List.length_map, hw]
  refine ss_asg (pg_t3 (i := 3) (j := 4) (l := 5) scm_ahead.nd) (vv 1) rd_t3 ?_
  refine ss_v (i := 6) (ev_dget (p := pl) (x := sgS (.ahd k)) hu (ev_fld (vv 0) (.inr hM.obj) (by rfl) T0.mcls T0.na_places) (vv 2) (.inr hM.pls) hp1) ?_ scm_ahead.nd
  generalize hpl : tplace T (.ahd k) = p at hp1 hp2
  refine ss_guard (et_le (vv 6) (vv 4)) (fun hx => ss_r (Ev.as ?_ (ev_tup (ea_cons ev_non (ea_cons ev_int (ea_cons ev_non ea_nil))) (by simp))) h) fun hx => ?_
  · have : pAhead T M wt last k = deadS := by unfold pAhead; rw [hpl, if_pos (of_decide_eq_true hx)]
    rw [this]; rfl
  refine ss_v (i := 7) (ev_ixT (ev_ixT (ev_fld (vv 0) (.inr hM.obj) (by rfl) T0.mcls T0.na_meaning) ev_int rfl) (ev_sindex (ev_gs ga) (vv 2) ho) (atI_nat (ln_get hM.mok k1))) ?_ scm_ahead.nd
  refine ss_r (Ev.as ?_ (ev_tup (ea_cons (ev_addT (ev_addT (ev_slT (ds := wt.map olD) (vv 3) pt0 (pt1 (vv 6))) (ev_tup (ea_cons (vv 7) ea_nil) (by simp)) ?_) (ev_slT (ds := wt.map olD) (h := none) (vv 3) (pt1 (ev_add (vv 6) ev_int)) pt0) ?_) (ea_cons (vv 6) (ea_cons ev_non ea_nil))) (by simp))) h
  · have e1 : pAhead T M wt last k = ⟨some (wt.take p ++ some (lnAt M k) :: wt.drop (p + 1)), p, none⟩ := by
      unfold pAhead; rw [hpl, if_neg (of_decide_eq_false hx)]
    rw [e1, cut_take (by omega), show ((p : Int) + 1) = ((p + 1 : Nat) : Int) by omega, cut_drop (by omega)]
    show Dat.tup [Dat.tup _, _, _] = Dat.tup [Dat.tup _, _, _]
    simp [olD, obD]
  · rw [cut_take (by omega)]
    have := hM.tok.len
    simp; omega
  · rw [cut_take (by omega), show ((p : Int) + 1) = ((p + 1 : Nat) : Int) by omega, cut_drop (by omega)]
    have := hM.tok.len
    simp; omega
/-! ### infix -/
def rInfix (P : Program) (w : World) (K : PySem.W.Frag) (ds : List Dat) (B : Hp) (d : Dat) : Prop := ∃ x m T M pl ch kn wt, ∃ (last : Int) (b : Bool) (k : Nat), MB P w K B x m T M pl ch kn ∧ wt.length = T.length ∧ Sg.inf k ∈ allS m ∧ ds = [.adr x, psD ⟨some wt, last, some b⟩, sgD (.inf k)] ∧ d = psD (pInfix T M wt k b)
theorem lv_get {T : Tb} {p : Nat} (h : p < T.length) : (T.map lvD)[p]? = some (.tup [.str (wdS (tword T p)), .str (txt (T[p]).2)]) := by
  simp [h, lvD, tword]
theorem wdS_inj {a b : Wd} : decide (wdS a = wdS b) = decide (a = b) := by cases a <;> cases b <;> rfl
theorem k_infix (T0 : Tx P w K mg) : KnM P w K mg base (Mcl K) "infix" 2 (preR (rInfix P w K)) := by
  refine knm_infix T0 (fun ds B G post h => by obtain ⟨d, ⟨x, m, T, M, pl, ch, kn, wt, last, v, k, _, _, _, rfl, _⟩, _⟩ := h; rfl) fun cdv A outer s H E hr ds B G post h => ?_
  obtain ⟨d, ⟨x, m, T, M, pl, ch, kn, wt, last, b, k, hM, hw, hk, rfl, rfl⟩, h⟩ := h
  obtain ⟨ti, gi⟩ := T0.g_INFIX
  have hu := hr.units
  have h3 := hM.tok.len
  obtain ⟨hp1, hp2⟩ := hM.tok.place hk
  obtain ⟨k1, k2⟩ := inf_lt hM.tok.okm hk
  obtain ⟨rest, ho⟩ := occ_abc k2
  have hlen : (wt.map olD).length = T.length := by rw [List.length_map, hw]
  refine ss_asg (pg_t3 (i := 3) (j := 4) (l := 5) scm_infix.nd) (vv 1) rd_t3 ?_
  refine ss_v (i := 6) (ev_dget (p := pl) (x := sgS (.inf k)) hu (ev_fld (vv 0) (.inr hM.obj) (by rfl) T0.mcls T0.na_places) (vv 2) (.inr hM.pls) hp1) ?_ scm_infix.nd
  have hres : pInfix T M wt k b = (match wt.getD (tplace T (.inf k)) none, tword T (tplace T (.inf k)) with
    | some _, .non => deadS
    | some f, .left => ⟨some (build wt (tplace T (.inf k)) (sqAt M k (lat f (close (wt.drop (tplace T (.inf k) + 1)) b)))), tplace T (.inf k), none⟩
    | some f, .right => ⟨some (build wt (tplace T (.inf k)) (comp f (sqAt M k (close (wt.drop (tplace T (.inf k) + 1)) b)))), tplace T (.inf k), none⟩
    | none, _ => ⟨some (build wt (tplace T (.inf k)) (sqAt M k (close (wt.drop (tplace T (.inf k) + 1)) b))), tplace T (.inf k), none⟩) := rfl
  generalize hpl : tplace T (.inf k) = p at hp1 hp2 hres
  refine ss_par (i := 7) (j := 8) (Ea.w (ea_cons (ev_ixT (ev_ixT (ev_fld (vv 0) (.inr hM.obj) (by rfl) T0.mcls T0.na_table) (vv 6) (atI_nat (lv_get hp2))) ev_int rfl) (ea_cons (ev_ixT (ev_ixT (ev_fld (vv 0) (.inr hM.obj) (by rfl) T0.mcls T0.na_meaning) ev_int rfl) (ev_sindex (ev_gs gi) (vv 2) ho) (atI_nat (sq_get hM.mok k1))) ea_nil))) (fun ds G' ⟨e1, e2⟩ => ⟨_, _, e1, ?_⟩) scm_infix.nd
  subst e2
  clear e1
  refine ss_v (i := 5) (d := vD (close (wt.drop (p + 1)) b)) (ev_methR (vv 0) (.inr hM.obj) (by rfl) T0.mcls (k_closed T0) (hr.mono (by decide)) (ea_cons (vv 3) (ea_cons (ev_add (vv 6) ev_int) (ea_cons (vv 5) ea_nil))) fun H _ => ⟨x, wt, p + 1, b, by omega, by omega, rfl, rfl⟩) ?_ scm_infix.nd
  have hown : L2.atI (wt.map olD) (p : Int) = some (olD (wt.getD p none)) := atI_nat (by
    have : p < wt.length := by omega
    simp [List.getD, this])
  refine ss_v (i := 9) (ev_ixT (vv 3) (vv 6) hown) ?_ scm_infix.nd
  -- what follows when the line is known
  have fin : ∀ (l : Ln) (ρ' : Sls), ρ'[3]? = some (some (wtD wt)) → ρ'[6]? = some (some (.int (p : Nat))) → ρ'[10]? = some (some (lnD l)) → pInfix T M wt k b = ⟨some (build wt p l), p, none⟩ →
      Ss (cxOf CX0 P w K mg base nm_infix "Machine.infix" (defScope m_infix) (He.ma K (Mcl K) "infix") cdv A outer s H E).nox B ρ' G' ((defBody m_infix).drop 9) { nx := fun _ G' => post .non G', rt := post } := fun l ρ' r3 r6 r10 e => by
    refine ss_r (Ev.as ?_ (ev_tup (ea_cons (ev_addT (ev_addT (ev_slT (ds := wt.map olD) (vv 3 r3) pt0 (pt1 (vv 6 r6))) (ev_tup (ea_cons (vv 10 r10) ea_nil) (by simp)) ?_) (ev_rep1 (n := wt.length - p - 1) (ev_tup (ea_cons ev_non ea_nil) (by simp)) (Ev.as ?_ (ev_sub (ev_sub (ev_lenT rfl T0.f_len (vv 3 r3)) (vv 6 r6)) ev_int)) (by omega)) ?_) (ea_cons (vv 6 r6) (ea_cons ev_non ea_nil))) (by simp))) h
    · rw [e, cut_take (by omega)]
      show Dat.tup [Dat.tup _, _, _] = Dat.tup [Dat.tup _, _, _]
      simp [build, olD, obD]
    · rw [cut_take (by omega)]; simp; omega
    · congr 1; rw [List.length_map]; omega
    · rw [cut_take (by omega)]; simp; omega
  cases hown' : wt.getD p none with
  | none =>
    rw [hown'] at hres
    have hres' : pInfix T M wt k b = ⟨some (build wt p (sqAt M k (close (wt.drop (p + 1)) b))), p, none⟩ := by rw [hres]
    refine ss_guard (x := false) (Et.as ?_ (et_and2 (et_notN (vv 9)) fun _ => et_eqS (vv 7) ev_str)) (fun h => nomatch h) fun _ => ?_
    · rfl
    refine ss_guard (x := false) (Et.as ?_ (et_and2 (et_notN (vv 9)) fun _ => et_eqS (vv 7) ev_str)) (fun h => nomatch h) fun _ => ?_
    · rfl
    refine ss_v (i := 10) (d := lnD (sqAt M k (close (wt.drop (p + 1)) b))) (ev_ixT (vv 8) (vv 5) (by cases close (wt.drop (p + 1)) b <;> rfl)) ?_ scm_infix.nd
    refine ss_guard (x := false) (Et.as ?_ (et_notN (vv 9))) (fun h => nomatch h) fun _ => ?_
    · rfl
    exact fin _ _ rfl rfl rfl hres'
  | some f =>
    rw [hown'] at hres
    cases hwd : tword T p with
    | non =>
      rw [hwd] at hres
      refine ss_guard (x := true) (Et.as ?_ (et_and2 (et_notN (vv 9)) fun _ => et_eqS (vv 7) ev_str)) (fun _ => ss_r (Ev.as ?_ (ev_tup (ea_cons ev_non (ea_cons ev_int (ea_cons ev_non ea_nil))) (by simp))) h) (fun h => nomatch h)
      · rfl
      · rw [hres]; rfl
    | left =>
      rw [hwd] at hres
      refine ss_guard (x := false) (Et.as ?_ (et_and2 (et_notN (vv 9)) fun _ => et_eqS (vv 7) ev_str)) (fun h => nomatch h) fun _ => ?_
      · rfl
      refine ss_if (x := true) (Et.as ?_ (et_and2 (et_notN (vv 9)) fun _ => et_eqS (vv 7) ev_str)) (fun _ => ?_) (fun h => nomatch h)
      · rfl
      refine ss_asg (pg_t2 (i := 5) (j := 9) scm_infix.nd) (ev_tup (ea_cons (ev_ixT (ds := [vD f.1, vD f.2]) (d := vD (lat f (close (wt.drop (p + 1)) b))) (vv 9) (vv 5) (lnD_at f _)) (ea_cons ev_non ea_nil)) (by simp)) rd_t2 (ss_done ?_)
      refine ss_v (i := 10) (d := lnD (sqAt M k (lat f (close (wt.drop (p + 1)) b)))) (ev_ixT (vv 8) (vv 5) (by cases lat f (close (wt.drop (p + 1)) b) <;> rfl)) ?_ scm_infix.nd
      refine ss_guard (x := false) (Et.as ?_ (et_notN (vv 9))) (fun h => nomatch h) fun _ => ?_
      · rfl
      exact fin _ _ rfl rfl rfl hres
    | right =>
      rw [hwd] at hres
      refine ss_guard (x := false) (Et.as ?_ (et_and2 (et_notN (vv 9)) fun _ => et_eqS (vv 7) ev_str)) (fun h => nomatch h) fun _ => ?_
      · rfl
      refine ss_guard (x := false) (Et.as ?_ (et_and2 (et_notN (vv 9)) fun _ => et_eqS (vv 7) ev_str)) (fun h => nomatch h) fun _ => ?_
      · rfl
      refine ss_v (i := 10) (d := lnD (sqAt M k (close (wt.drop (p + 1)) b))) (ev_ixT (vv 8) (vv 5) (by cases close (wt.drop (p + 1)) b <;> rfl)) ?_ scm_infix.nd
      refine ss_if (x := true) (Et.as ?_ (et_notN (vv 9))) (fun _ => ?_) (fun h => nomatch h)
      · rfl
      generalize sqAt M k (close (wt.drop (p + 1)) b) = q at hres ⊢
      refine ss_v (i := 10) (d := lnD (comp f q)) (ev_tupleOf rfl T0.f_tuple (el_lc1 (i := 11) scm_infix.nd (bk nm_infix m_infix) (lc_no [q.1, q.2] vD (fun b => vD (lat f b)) (srcS_tup (vv 10)) (show 2 ≤ sizeLine by decide) fun b hb => ⟨_, rdw_name (by simp), fun s H0 C cl fp => ev_ixT (ds := [vD f.1, vD f.2]) (i := if b = true then 1 else 0) (vv 9) (vv 11) (lnD_at f b)⟩))) (ss_done ?_) scm_infix.nd
      exact fin _ _ rfl rfl rfl hres
end
end Bk
set_option Elab.async false
set_option linter.all false
set_option autoImplicit false
set_option maxRecDepth 100000
set_option maxHeartbeats 1000000
namespace Bk
open PySem L2
section
variable {P : Program} {w : World} {K : PySem.W.Frag} {mg : Str → Option Value} {base : Heap}
/-- the objects of a machine -/
def mchG (K : PySem.W.Frag) (x : Addr) (m : Mn) (T : Tb) (M : Mg) (pl ch kn : Addr) (S : List (PS × It)) : GL :=
  [(x, .ins (Mcl K) (machFs T M pl ch kn)), (pl, .dic (plcL 0 T)), (ch, .lst ((chI m).map itD)), (kn, .nd (memo T M S))]
theorem mch_oat {B : Hp} {L R : GL} {x : Addr} {m : Mn} {T : Tb} {M : Mg} {pl ch kn : Addr} {S : List (PS × It)} {o : Addr × DO} (h : o ∈ mchG K x m T M pl ch kn S) : Oat P w B (L ++ mchG K x m T M pl ch kn S ++ R) o.1 o.2 := by
  have : o ∈ L ++ mchG K x m T M pl ch kn S ++ R := List.mem_append_left _ (List.mem_append_right _ h)
  obtain ⟨j, hj⟩ := List.mem_iff_getElem?.mp this
  exact .inl ⟨j, hj⟩
theorem mch_mb {B H : Hp} {L R : GL} {x : Addr} {m : Mn} {T : Tb} {M : Mg} {pl ch kn : Addr} {S : List (PS × It)} (hT : TbOk m T) (hM : MgOk m M) (r : Rep P w B (L ++ mchG K x m T M pl ch kn S ++ R) H) : MB P w K H x m T M pl ch kn :=
  ⟨r.oat (mch_oat (o := (x, .ins (Mcl K) (machFs T M pl ch kn))) (by simp [mchG])), r.oat (mch_oat (o := (pl, .dic (plcL 0 T))) (by simp [mchG])), r.oat (mch_oat (o := (ch, .lst ((chI m).map itD))) (by simp [mchG])), hT, hM⟩
/-! ### following -/
def rFollow (P : Program) (w : World) (K : PySem.W.Frag) (ds : List Dat) (B : Hp) (ys : List Dat) : Prop := ∃ x m T M pl ch kn s, MB P w K B x m T M pl ch kn ∧ ds = [.adr x, psD s] ∧ ys = ((chI m).filter (canF s.val.isSome)).map itD
theorem chI_ok {m : Mn} {it : It} (h : it ∈ chI m) : ItOk m it := fun g e => by subst e; simpa [chI] using h
theorem k_following (T0 : Tx P w K mg) : KnM P w K mg base (Mcl K) "following" 3 (preRL (rFollow P w K)) := by
  refine knm_following T0 (fun ds B G post h => by obtain ⟨d, ⟨x, m, T, M, pl, ch, kn, s, _, rfl, _⟩, _⟩ := h; rfl) fun cdv A outer s H E hr ds B G post h => ?_
  obtain ⟨ys, ⟨x, m, T, M, pl, ch, kn, st, hM, rfl, rfl⟩, h⟩ := h
  refine ss_v (i := 2) (ev_methR (vv 0) (.inr hM.obj) (by rfl) T0.mcls (k_is_ready T0) (hr.mono (by decide)) (ea_cons (vv 1) ea_nil) fun H _ => ⟨x, st, rfl, rfl⟩) ?_ scm_following.nd
  refine ss_retW (El.w (el_lc1I (i := 3) scm_following.nd (bk nm_following m_following) (lc_if (chI m) itD (canF st.val.isSome) itD (srcS_lst (ev_fld (vv 0) (.inr hM.obj) (by rfl) T0.mcls T0.na_choices) (.inr hM.chs)) ?_ fun it hit => ⟨_, rdw_name (by simp), fun s H0 C cl fp => et_val (ev_callR (k_can_follow T0) (hr.mono (by decide)) (ea_cons (vv 2) (ea_cons (ev_callR (k_kind_of T0) (hr.mono (by decide)) (ea_cons (vv 3) ea_nil) fun H _ => ⟨m, it, hM.tok.okm, chI_ok hit, rfl, rfl⟩) ea_nil)) fun H _ => ⟨st.val.isSome, it, rfl, rfl⟩), fun _ s H0 C cl fp => vv 3⟩))) (fun d G' ⟨p, h1, h2, h3, h4⟩ => by rw [h1, h4]; exact h p h2 h3)
  have := (okM_le hM.tok.okm).2.2.2
  have e : (chI m).length ≤ 5 := by simp [chI, allS_len]; omega
  exact Nat.le_trans e (by decide)
/-! ### step -/
def preStep (K : PySem.W.Frag) : Pre := fun ds B G post => ∃ x m T M pl ch kn S s it, ∃ (L R : GL), G = L ++ mchG K x m T M pl ch kn S ++ R ∧ TbOk m T ∧ MgOk m M ∧ Seen m T S ∧ StOk m T s ∧ Fits m s it ∧ ds = [.adr x, psD s, itD it] ∧
  ∀ S', Seen m T S' → post (psD (pStep T M s it)) (L ++ mchG K x m T M pl ch kn S' ++ R)
theorem mch_get (L R : GL) (x : Addr) (m : Mn) (T : Tb) (M : Mg) (pl ch kn : Addr) (S : List (PS × It)) : (L ++ mchG K x m T M pl ch kn S ++ R)[L.length + 3]? = some (kn, .nd (memo T M S)) := by
  simp [mchG, List.getElem?_append]
theorem mch_set (L R : GL) (x : Addr) (m : Mn) (T : Tb) (M : Mg) (pl ch kn : Addr) (S S' : List (PS × It)) : (L ++ mchG K x m T M pl ch kn S ++ R).set (L.length + 3) (kn, .nd (memo T M S')) = L ++ mchG K x m T M pl ch kn S' ++ R := by
  rw [List.append_assoc, List.append_assoc, List.set_append_right _ _ (by omega)]
  congr 1
  have : L.length + 3 - L.length = 3 := by omega
  rw [this]
  rfl
theorem k_step (T0 : Tx P w K mg) : KnM P w K mg base (Mcl K) "step" 3 (preStep K) := by
  refine knm_step T0 (fun ds B G post h => by obtain ⟨x, m, T, M, pl, ch, kn, S, s, it, L, R, _, _, _, _, _, _, rfl, _⟩ := h; rfl) fun cdv A outer s H E hr ds B G post h => ?_
  obtain ⟨x, m, T, M, pl, ch, kn, S, st, it, L, R, rfl, hT, hM, hS, hst, hfit, rfl, h⟩ := h
  have hu := hr.units
  obtain ⟨ta, ga⟩ := T0.g_AHEAD
  have hm := hT.okm
  have hi := hfit.1
  have oObj : ∀ S', Oat P w B (L ++ mchG K x m T M pl ch kn S' ++ R) x (.ins (Mcl K) (machFs T M pl ch kn)) := fun S' => mch_oat (o := (x, .ins (Mcl K) (machFs T M pl ch kn))) (by simp [mchG])
  have oKn : ∀ S', Oat P w B (L ++ mchG K x m T M pl ch kn S' ++ R) kn (.nd (memo T M S')) := fun S' => mch_oat (o := (kn, .nd (memo T M S'))) (by simp [mchG])
  refine ss_v (i := 3) (d := keyD st it) (ev_tup (ea_cons (vv 1) (ea_cons (vv 2) ea_nil)) (by simp)) ?_ scm_step.nd
  have hlook := fun S' (h : Seen m T S') => look_memo (T := T) (M := M) (s := st) hm hi (S := S') fun e he => (h.ok e he).2
  have hend : ∀ S', Seen m T S' → (st, it) ∈ S' → Ss (cxOf CX0 P w K mg base nm_step "Machine.step" (defScope m_step) (He.ma K (Mcl K) "step") cdv A outer s H E).nox B [some (.adr x), some (psD st), some (itD it), some (keyD st it)] (L ++ mchG K x m T M pl ch kn S' ++ R) ((defBody m_step).drop 2) { nx := fun _ G' => post .non G', rt := post } := fun S' h1 h2 => by
    refine ss_r (ev_nget hu (ev_fld (vv 0) (oObj S') (by rfl) T0.mcls T0.na_known) (vv 3) (oKn S') (keyD_ok st it) ?_) (h S' h1)
    rw [hlook S' h1, if_pos h2]
  refine ss_if (x := !(look (memo T M S) (keyD st it).nk).isSome) (et_ninN hu (vv 3) (ev_fld (vv 0) (oObj S) (by rfl) T0.mcls T0.na_known) (oKn S) (keyD_ok st it)) (fun hx => ?_) (fun hx => ss_done ?_)
  · have hnot : (st, it) ∉ S := by
      intro hin
      rw [hlook S hS, if_pos hin] at hx
      simp at hx
    have hln : look (memo T M S) (keyD st it).nk = none := by rw [hlook S hS, if_neg hnot]
    have hS' : Seen m T (S ++ [(st, it)]) := ⟨List.nodup_append.mpr ⟨hS.nd, by simp, fun a ha b hb => by rw [List.mem_singleton.mp hb]; exact fun e => hnot (e ▸ ha)⟩, fun e he => by
      rcases List.mem_append.mp he with z | z
      · exact hS.ok e z
      · rw [List.mem_singleton.mp z]; exact ⟨hst, hi⟩⟩
    have hmemo : memo T M S ++ [(keyD st it, psD (pStep T M st it))] = memo T M (S ++ [(st, it)]) := by simp [memo]
    have hsz : (memo T M S).length < sizeLine := by
      have := hS.few hT
      simp only [memo, List.length_map]
      exact Nat.lt_of_le_of_lt this (by decide)
    have key : ∀ (o i ex : Expr) (p1 p2 : Pos), Ev (cxOf CX0 P w K mg base nm_step "Machine.step" (defScope m_step) (He.ma K (Mcl K) "step") cdv A outer s H E).nox B [some (.adr x), some (psD st), some (itD it), some (keyD st it)] (L ++ mchG K x m T M pl ch kn S ++ R) o (.adr kn) →
        Ev (cxOf CX0 P w K mg base nm_step "Machine.step" (defScope m_step) (He.ma K (Mcl K) "step") cdv A outer s H E).nox B [some (.adr x), some (psD st), some (itD it), some (keyD st it)] (L ++ mchG K x m T M pl ch kn S ++ R) i (keyD st it) →
        Ev (cxOf CX0 P w K mg base nm_step "Machine.step" (defScope m_step) (He.ma K (Mcl K) "step") cdv A outer s H E).nox B [some (.adr x), some (psD st), some (itD it), some (keyD st it)] (L ++ mchG K x m T M pl ch kn S ++ R) ex (psD (pStep T M st it)) →
        swapsWith ex (some (.Subscript o i p2)) p1.line (cxOf CX0 P w K mg base nm_step "Machine.step" (defScope m_step) (He.ma K (Mcl K) "step") cdv A outer s H E).nox.env = pure false →
        Ss (cxOf CX0 P w K mg base nm_step "Machine.step" (defScope m_step) (He.ma K (Mcl K) "step") cdv A outer s H E).nox B [some (.adr x), some (psD st), some (itD it), some (keyD st it)] (L ++ mchG K x m T M pl ch kn S ++ R) [.Assign [.Subscript o i p2] ex p1]
          { nx := fun ρ' G' => Ss (cxOf CX0 P w K mg base nm_step "Machine.step" (defScope m_step) (He.ma K (Mcl K) "step") cdv A outer s H E).nox B ρ' G' ((defBody m_step).drop 2) { nx := fun _ G' => post .non G', rt := post }, rt := post } := fun o i ex p1 p2 h1 h2 h3 h4 =>
      ss_one (s1_nput hu h3.w (fun d G' ⟨e1, e2⟩ => by
        subst e1 e2
        refine ⟨h1, h2, L.length + 3, memo T M S, mch_get _ _ _ _ _ _ _ _ _ _, hln, hsz, ?_⟩
        rw [hmemo, mch_set]
        exact hend _ hS' (by simp)) (keyD_ok st it) h4)
    cases hw : st.wait with
    | none =>
      refine ss_one (s1_if (x := true) (Et.as ?_ (et_isN (ev_ixT (d := owD st.wait) (vv 1) ev_int rfl))) (fun _ => key _ _ _ _ _ (ev_fld (vv 0) (oObj S) (by rfl) T0.mcls T0.na_known) (vv 3) ?_ rfl) (fun h => nomatch h))
      · rw [hw]; rfl
      · refine Ev.as ?_ (ev_tup (ea_cons ev_non (ea_cons ev_int (ea_cons (d := obD (if it.isS = true then none else some false)) (ev_if (x := it.isS) (Et.as (itD_isStr it) (et_val (ev_isT T0.f_isinstance T0.f_str (vv 2) (itD_na it) (kit_str _ (itD_na it))))) (fun hs => Ev.as ?_ ev_non) (fun hs => Ev.as ?_ ev_int)) ea_nil))) (by simp))
        · unfold pStep; rw [hw]; cases it <;> rfl
        · rw [hs]; rfl
        · rw [hs]; rfl
    | some wt =>
      have hwl := hst.len wt hw
      refine ss_one (s1_if (x := false) (Et.as ?_ (et_isN (ev_ixT (d := owD st.wait) (vv 1) ev_int rfl))) (fun h => nomatch h) (fun _ => ?_))
      · rw [hw]; rfl
      cases it with
      | v b =>
        refine ss_one (s1_if (x := true) (Et.as ?_ (et_not (et_val (ev_isT T0.f_isinstance T0.f_str (vv 2) (itD_na (.v b)) (kit_str _ (itD_na (.v b))))))) (fun _ => key _ _ _ _ _ (ev_fld (vv 0) (oObj S) (by rfl) T0.mcls T0.na_known) (vv 3) ?_ rfl) (fun h => nomatch h))
        · rfl
        · refine Ev.as ?_ (ev_tup (ea_cons (ev_ixT (d := owD st.wait) (vv 1) ev_int rfl) (ea_cons (ev_neg ev_int) (ea_cons (vv 2) ea_nil))) (by simp))
          unfold pStep; rw [hw]; rfl
      | s g =>
        have hg := hi g rfl
        refine ss_one (s1_if (x := false) (Et.as ?_ (et_not (et_val (ev_isT T0.f_isinstance T0.f_str (vv 2) (itD_na (.s g)) (kit_str _ (itD_na (.s g))))))) (fun h => nomatch h) (fun _ => ?_))
        · rfl
        have hst2 : psD st = psD ⟨some wt, st.last, st.val⟩ := by cases st; simp only at hw; rw [hw]
        refine ss_one (s1_if (x := !g.isInf) (Et.as (sg_pq hm hg) (et_inS (c := sgC g) (vv 2) (ev_gs ga))) (fun hx => ?_) (fun hx => ?_))
        · cases g with
          | inf k => cases hx
          | ahd k =>
            refine key _ _ _ _ _ (ev_fld (vv 0) (oObj S) (by rfl) T0.mcls T0.na_known) (vv 3) (ev_methR (vv 0) (oObj S) (by rfl) T0.mcls (k_ahead T0) (hr.mono (by decide)) (ea_cons (vv 1) (ea_cons (vv 2) ea_nil)) fun H r => ⟨x, m, T, M, pl, ch, kn, wt, st.last, st.val, k, mch_mb hT hM r, hwl, hg, by rw [hst2]; rfl, ?_⟩) rfl
            unfold pStep; rw [hw]
        · cases g with
          | ahd k => cases hx
          | inf k =>
            have hv : ∃ b, st.val = some b := by
              have := hfit.2
              cases hvv : st.val with
              | none => rw [hvv] at this; cases this
              | some b => exact ⟨b, rfl⟩
            obtain ⟨b, hb⟩ := hv
            refine key _ _ _ _ _ (ev_fld (vv 0) (oObj S) (by rfl) T0.mcls T0.na_known) (vv 3) (ev_methR (vv 0) (oObj S) (by rfl) T0.mcls (k_infix T0) (hr.mono (by decide)) (ea_cons (vv 1) (ea_cons (vv 2) ea_nil)) fun H r => ⟨x, m, T, M, pl, ch, kn, wt, st.last, b, k, mch_mb hT hM r, hwl, hg, by rw [hst2, hb]; rfl, ?_⟩) rfl
            unfold pStep; rw [hw, hb]
  · have hin : (st, it) ∈ S := by
      refine Classical.byContradiction fun hn => ?_
      rw [hlook S hS, if_neg hn] at hx
      cases hx
    exact hend S hS hin
/-! ### __init__ -/
def preInit (K : PySem.W.Frag) : Pre := fun ds B G post => ∃ x m T M, ∃ (L : GL), G = L ++ [(x, .ins (Mcl K) [])] ∧ TbOk m T ∧ MgOk m M ∧ ds = [.adr x, tbD T, mgD M] ∧ ∀ pl ch kn, post .non (L ++ mchG K x m T M pl ch kn [])
theorem k_init (T0 : Tx P w K mg) : ∃ fd, FnOk P w K mg base CX0 2 (He.ma K (Mcl K) "__init__") fd ["self", "table", "meaning"] (spD P w (preInit K)) ∧ Binds K fd ["self", "table", "meaning"] [] := by
  refine knm_init T0 (fun ds B G post h => by obtain ⟨x, m, T, M, L, _, _, _, rfl, _⟩ := h; rfl) fun cdv A outer s H E hr ds B G post h => ?_
  obtain ⟨x, m, T, M, L, rfl, hT, hM, rfl, h⟩ := h
  refine ss_fld (Ev.w (d := tbD T) (vv 1)) (fun d G' ⟨e1, e2⟩ => ⟨x, L, [], [], vv 0, e2, by simp, ?_⟩) T0.mcls T0.na_table
  subst e1 e2
  refine ss_fld (Ev.w (d := mgD M) (vv 2)) (fun d G' ⟨e1, e2⟩ => ⟨x, L, [], _, vv 0, e2, by simp, ?_⟩) T0.mcls T0.na_meaning
  subst e1 e2
  refine ss_fld (ew_call (post := fun d G' => ∃ p, d = .adr p ∧ G' = L ++ (x, .ins (Mcl K) [("meaning", mgD M), ("table", tbD T)]) :: [(p, .dic (plcL 0 T))]) (k_places_of T0) (hr.mono (by decide)) rfl (ea_cons (vv 1) ea_nil) ⟨m, T, hT, rfl, fun p h1 h2 => ⟨p, rfl, by simp⟩⟩) (fun d G' ⟨pl, e1, e2⟩ => ⟨x, L, _, _, vv 0, e2, by simp, ?_⟩) T0.mcls T0.na_places
  subst e1 e2
  refine ss_fld (Ev.w (d := .int 2) (ev_ixT (vv 2) ev_int rfl)) (fun d G' ⟨e1, e2⟩ => ⟨x, L, _, _, vv 0, e2, by simp, ?_⟩) T0.mcls T0.na_size
  subst e1 e2
  refine ss_fld (El.w (El.as (d' := (chI m).map itD) ?_ (el_addNN (el_listRg rfl rfl T0.f_list rfl T0.f_range (ev_ixT (d := .int 2) (vv 2) ev_int rfl) (by decide) (by decide)) (el_listTxt (z := txt (allS m)) rfl T0.f_list (ev_callR (k_all_signs T0) (hr.mono (by decide)) (ea_cons (vv 1) ea_nil) fun H _ => ⟨m, T, hT, rfl, rfl⟩) ?_) ?_))) (fun d G' ⟨ch, e1, e2, e3, e4⟩ => ⟨x, L, [(pl, .dic (plcL 0 T)), (ch, .lst ((chI m).map itD))], [("size", .int 2), ("places", .adr pl), ("meaning", mgD M), ("table", tbD T)], vv 0, by rw [e4]; simp, by simp, ?_⟩) T0.mcls T0.na_choices
  · rw [chars_one, txt_list, List.map_map, List.map_map]
    simp only [chI, List.map_append, List.map_map]
    rfl
  · rw [txt_size, allS_len]; have := (okM_le hT.okm).2.2.2; exact Nat.le_trans this (by decide)
  · have := (okM_le hT.okm).2.2.2
    simp only [chars, List.length_map, Array.length_toList, txt_size, allS_len]
    show 2 + (m.1 + m.2) ≤ sizeLine
    exact Nat.le_trans (Nat.add_le_add_left this 2) (by decide)
  subst e1 e4
  refine ss_fld en_new (fun d G' ⟨kn, e1, e2, e3, e4⟩ => ⟨x, L, [(pl, .dic (plcL 0 T)), (ch, .lst ((chI m).map itD)), (kn, .nd [])], [("choices", .adr ch), ("size", .int 2), ("places", .adr pl), ("meaning", mgD M), ("table", tbD T)], vv 0, by rw [e4]; simp, by simp, ?_⟩) T0.mcls T0.na_known
  subst e1
  exact ss_done (h pl ch kn)
end
end Bk
set_option Elab.async false
set_option linter.all false
set_option autoImplicit false
set_option maxRecDepth 100000
set_option maxHeartbeats 2000000
namespace Bk
open PySem L2
/-! ### the program's search, as a system -/
abbrev SS := PS × PS
def nxP (m : Mn) (T U : Tb) (M : Mg) (p : SS) : List (It × SS) := ((chI m).filter (canF p.1.val.isSome)).map fun it => (it, (pStep T M p.1 it, pStep U M p.2 it))
def badP (p : SS) : Bool := p.1.val.isSome && !decide (pTold p.1 = pTold p.2)
theorem pStep_val {T : Tb} {M : Mg} {s : PS} {it : It} : (pStep T M s it).val.isSome = !it.isS := by
  unfold pStep
  cases s.wait with
  | none => cases it <;> rfl
  | some w =>
    cases it with
    | v b => rfl
    | s g =>
      cases g with
      | ahd k => show (pAhead T M w s.last k).val.isSome = false; unfold pAhead; split <;> rfl
      | inf k =>
        show (match s.val with | some b => pInfix T M w k b | none => deadS).val.isSome = false
        cases s.val with
        | none => rfl
        | some b => show (pInfix T M w k b).val.isSome = false; unfold pInfix; simp only; split <;> rfl
structure Nd where
  st : SS
  row : List It
  q : Addr
def nodeD (n : Nd) : Dat := .tup [psD n.st.1, psD n.st.2, .adr n.q]
/-- what stands while the search goes on -/
structure UI (m : Mn) (T U : Tb) (N : List Nd) (S1 S2 : List (PS × It)) (r0 : Addr) (rows : GL) : Prop where
  s1 : Seen m T S1
  s2 : Seen m U S2
  kn : Seen2 m T U (N.map Nd.st)
  rdy : ∀ n ∈ N, n.st.1.val.isSome = n.st.2.val.isSome
  len : ∀ (i : Nat) (n : Nd), N[i]? = some n → n.row.length ≤ i
  row : ∀ n ∈ N, (n.q, DO.lst (n.row.map itD)) ∈ (r0, DO.lst []) :: rows
section
variable {P : Program} {w : World} {K : PySem.W.Frag} {mg : Str → Option Value} {base : Heap}
def tailG (N : List Nd) (r0 f k : Addr) (rows : GL) : GL := (r0, .lst []) :: (f, .lst (N.map nodeD)) :: (k, .nd (known2 (.int 0) (N.map Nd.st))) :: rows
theorem oat_mem {B : Hp} {G : GL} {p : Addr} {o : DO} (h : (p, o) ∈ G) : Oat P w B G p o := by
  obtain ⟨j, hj⟩ := List.mem_iff_getElem?.mp h
  exact .inl ⟨j, hj⟩
theorem lat_mem {B : Hp} {G : GL} {p : Addr} {ds : List Dat} (h : (p, DO.lst ds) ∈ G) : Lat B G p ds := by
  obtain ⟨j, hj⟩ := List.mem_iff_getElem?.mp h
  exact .inl ⟨j, hj⟩
def preUnlike : Pre := fun ds B G post => ∃ m T U M, TbOk m T ∧ TbOk m U ∧ MgOk m M ∧ ds = [tbD T, tbD U, mgD M] ∧
  ∀ o, First (nxP m T U M) badP (startS T, startS U) o → (o = none → post .non G) ∧ ∀ r, o = some r → ∀ p, B p = none → (∀ x ∈ G, x.1 ≠ p) → post (.adr p) (G ++ [(p, .lst (r.map itD))])
theorem obD_flat (o : Option Bool) : (obD o).flat = some (match o with | none => V.non | some b => V.int (if b = true then 1 else 0)) := by cases o <;> rfl
theorem obD_scal (a b : Option Bool) : scal (match a with | none => V.non | some b => V.int (if b = true then 1 else 0)) (match b with | none => V.non | some b => V.int (if b = true then 1 else 0)) = true := by cases a <;> cases b <;> rfl
theorem obD_eq (a b : Option Bool) : decide ((match a with | none => V.non | some b => V.int (if b = true then 1 else 0)) = (match b with | none => V.non | some b => V.int (if b = true then 1 else 0))) = decide (a = b) := by
  cases a with
  | none => cases b <;> simp
  | some a =>
    cases b with
    | none => simp
    | some b => cases a <;> cases b <;> simp
section
variable {X : Cx} {B : Hp} {ρ : Sls} {G : GL} {D : DE}
theorem ss_nput {o i e : Expr} {pos pos' : Pos} {p : Addr} {kd d : Dat} {rest : List Stmt} {L R : GL} {kvs : List (Dat × Dat)} (hu : X.A.units + 64 < cLine) (hv : Ev X B ρ G e d) (ho : Ev X B ρ G o (.adr p)) (hi : Ev X B ρ G i kd) (hG : G = L ++ (p, DO.nd kvs) :: R) (hl : look kvs kd.nk = none) (hz : kvs.length < sizeLine)
    (hk : Ss X B ρ (L ++ (p, DO.nd (kvs ++ [(kd, d)])) :: R) rest D) (hkd : (∃ ds, kd = .tup ds) ∧ kd.clean = true ∧ kd.nk.depth ≤ 8) (hs : swapsWith e (some (.Subscript o i pos')) pos.line X.env = pure false := by rfl) : Ss X B ρ G (.Assign [.Subscript o i pos'] e pos :: rest) D :=
  ss_cons (s1_nput hu hv.w (fun c G' ⟨e1, e2⟩ => by
    rw [e1, e2]
    refine ⟨ho, hi, L.length, kvs, by rw [hG]; exact get_mid _ _ _, hl, hz, ?_⟩
    rw [hG, set_mid]
    exact hk) hkd hs)
end
theorem k_unlike_row (T0 : Tx P w K mg) : Kn P w K mg base "unlike_row" 5 preUnlike := by
  refine kn_unlike_row T0 (fun ds B G post h => by obtain ⟨m, T, U, M, _, _, _, rfl, _⟩ := h; rfl) fun cdv A outer s H E hr ds B G0 post h => ?_
  obtain ⟨m, T, U, M, hT, hU, hM, rfl, h⟩ := h
  have hu := hr.units
  obtain ⟨fdI, FI, bI⟩ := k_init (P := P) (w := w) (base := base) T0
  -- the machines
  refine ss_par (i := 3) (j := 4) (post := fun ds G' => ∃ x1 p1 c1 k1 x2 p2 c2 k2, ds = [.adr x1, .adr x2] ∧ G' = G0 ++ mchG K x1 m T M p1 c1 k1 [] ++ mchG K x2 m U M p2 c2 k2 [])
    (eaw_cons (ew_make (post := fun d G' => ∃ x1 p1 c1 k1, d = .adr x1 ∧ G' = G0 ++ mchG K x1 m T M p1 c1 k1 []) T0.mmk FI bI (hr.mono (by decide)) T0.g_Machine (ea_cons (vv 0) (ea_cons (vv 2) ea_nil)) fun x h1 h2 => ⟨x, m, T, M, G0, rfl, hT, hM, rfl, fun pl ch kn => ⟨rfl, x, pl, ch, kn, rfl, rfl⟩⟩) fun d G' ⟨x1, p1, c1, k1, e1, e2⟩ =>
      eaw_cons (ew_make (post := fun d2 G2 => ∃ x2 p2 c2 k2, d2 = .adr x2 ∧ G2 = G' ++ mchG K x2 m U M p2 c2 k2 []) T0.mmk FI bI (hr.mono (by decide)) T0.g_Machine (ea_cons (vv 1) (ea_cons (vv 2) ea_nil)) fun x h1 h2 => ⟨x, m, U, M, G', rfl, hU, hM, rfl, fun pl ch kn => ⟨rfl, x, pl, ch, kn, rfl, rfl⟩⟩) fun d2 G2 ⟨x2, p2, c2, k2, e3, e4⟩ =>
        eaw_nil ⟨x1, p1, c1, k1, x2, p2, c2, k2, by rw [e1, e3], by rw [e4, e2]⟩) (fun ds G' ⟨x1, p1, c1, k1, x2, p2, c2, k2, e1, e2⟩ => ⟨_, _, e1, ?_⟩) sc_unlike_row.nd
  subst e2
  clear e1
  have oat1 : ∀ (B : Hp) (S1 : List (PS × It)) (R : GL), Oat P w B (G0 ++ mchG K x1 m T M p1 c1 k1 S1 ++ R) x1 (.ins (Mcl K) (machFs T M p1 c1 k1)) := fun B S1 R => mch_oat (o := (x1, .ins (Mcl K) (machFs T M p1 c1 k1))) (by simp [mchG])
  have oat2 : ∀ (B : Hp) (S1 S2 : List (PS × It)) (R : GL), Oat P w B (G0 ++ mchG K x1 m T M p1 c1 k1 S1 ++ (mchG K x2 m U M p2 c2 k2 S2 ++ R)) x2 (.ins (Mcl K) (machFs U M p2 c2 k2)) := fun B S1 S2 R => by
    rw [← List.append_assoc]; exact mch_oat (o := (x2, .ins (Mcl K) (machFs U M p2 c2 k2))) (by simp [mchG])
  have mb1 : ∀ {B H : Hp} {S1 : List (PS × It)} {R : GL}, Rep P w B (G0 ++ mchG K x1 m T M p1 c1 k1 S1 ++ R) H → MB P w K H x1 m T M p1 c1 k1 := fun r => mch_mb hT hM r
  have mb2 : ∀ {B H : Hp} {S1 S2 : List (PS × It)} {R : GL}, Rep P w B (G0 ++ mchG K x1 m T M p1 c1 k1 S1 ++ (mchG K x2 m U M p2 c2 k2 S2 ++ R)) H → MB P w K H x2 m U M p2 c2 k2 := fun r => mch_mb hU hM (by rw [← List.append_assoc] at r; exact r)
  have e0 : G0 ++ mchG K x1 m T M p1 c1 k1 [] ++ mchG K x2 m U M p2 c2 k2 [] = G0 ++ mchG K x1 m T M p1 c1 k1 [] ++ (mchG K x2 m U M p2 c2 k2 [] ++ []) := by simp
  rw [e0]
  have st1 : ∀ {B : Hp} {ρ : Sls} {S1 S2 : List (PS × It)} {R : GL} {p : Pos} {a b : Pos}, ρ[3]? = some (some (.adr x1)) → True := fun _ => trivial
  -- the first node
  refine ss_par (i := 5) (j := 6) (post := fun ds G' => ∃ r0 f, ds = [.adr f, .int 0] ∧ G' = G0 ++ mchG K x1 m T M p1 c1 k1 [] ++ (mchG K x2 m U M p2 c2 k2 [] ++ [(r0, .lst []), (f, .lst [nodeD ⟨(startS T, startS U), [], r0⟩])]))
    (eaw_cons (ew_lstW (post := fun ds G' => ∃ r0, ds = [nodeD ⟨(startS T, startS U), [], r0⟩] ∧ G' = G0 ++ mchG K x1 m T M p1 c1 k1 [] ++ (mchG K x2 m U M p2 c2 k2 [] ++ [(r0, .lst [])]))
      (eaw_cons (ew_tupW (post := fun ds G' => ∃ r0, ds = [psD (startS T), psD (startS U), .adr r0] ∧ G' = G0 ++ mchG K x1 m T M p1 c1 k1 [] ++ (mchG K x2 m U M p2 c2 k2 [] ++ [(r0, .lst [])]))
        (eaw_v (ev_methR0 (vv 3) (oat1 _ _ _) (by rfl) T0.mcls (k_start T0) (hr.mono (by decide)) fun H r => ⟨x1, m, T, M, p1, c1, k1, mb1 r, rfl, rfl⟩)
          (eaw_v (ev_methR0 (vv 4) (oat2 _ _ _ _) (by rfl) T0.mcls (k_start T0) (hr.mono (by decide)) fun H r => ⟨x2, m, U, M, p2, c2, k2, mb2 r, rfl, rfl⟩)
            (eaw_l (el_lst ea_nil (by simp)) fun r0 h1 h2 => eaw_nil ⟨r0, rfl, by simp⟩))) (by simp) (fun ds G' ⟨r0, e, _⟩ => by rw [e]; rfl))
        fun d G' ⟨ds, e1, r0, e2, e3⟩ => eaw_nil ⟨r0, by rw [e1, e2]; rfl, e3⟩) (by simp) (fun ds G' ⟨r0, e, _⟩ => by rw [e]; rfl))
      fun d G' ⟨f, ds, G2, e1, ⟨r0, e2, e3⟩, _, _, e4⟩ => eaw_v ev_int (eaw_nil ⟨r0, f, by rw [e1], by rw [e4, e3, e2]; simp⟩)) (fun ds G' ⟨r0, f, e1, e2⟩ => ⟨_, _, e1, ?_⟩) sc_unlike_row.nd
  subst e2
  clear e1
  refine ss_w (i := 7) (en_disp (kd := pairD (startS T) (startS U)) (d := .int 0) hu (ev_tup (ea_cons (ev_methR0 (vv 3) (oat1 _ _ _) (by rfl) T0.mcls (k_start T0) (hr.mono (by decide)) fun H r => ⟨x1, m, T, M, p1, c1, k1, mb1 r, rfl, rfl⟩)
    (ea_cons (ev_methR0 (vv 4) (oat2 _ _ _ _) (by rfl) T0.mcls (k_start T0) (hr.mono (by decide)) fun H r => ⟨x2, m, U, M, p2, c2, k2, mb2 r, rfl, rfl⟩) ea_nil)) (by simp)) ev_int (pairD_ok _ _)) (fun d G' ⟨k, e1, e2, e3, e4⟩ => ?_) sc_unlike_row.nd
  subst e1
  have e5 : G' = G0 ++ mchG K x1 m T M p1 c1 k1 [] ++ (mchG K x2 m U M p2 c2 k2 [] ++ tailG [⟨(startS T, startS U), [], r0⟩] r0 f k []) := by rw [e4]; simp [tailG, known2]
  rw [e5]
  clear e5 e4 e3 e2
  -- the search
  refine ss_while (fun n ρ' G' => ∃ (N : List Nd) (S1 S2 : List (PS × It)) (rows : GL) (h d : Nat) (r : List It) (Q1 Q2 : List (SS × List It)), UI m T U N S1 S2 r0 rows ∧ h ≤ N.length ∧ n = 3000000 - h ∧ Bi (nxP m T U M) badP (startS T, startS U) d r [] Q1 Q2 (N.map Nd.st) ∧ Q1 ++ Q2 = (N.drop h).map (fun n => (n.st, n.row)) ∧
      ρ' = [some (tbD T), some (tbD U), some (mgD M), some (.adr x1), some (.adr x2), some (.adr f), some (.int (h : Nat)), some (.adr k), none, none, none, none, none] ∧ G' = G0 ++ mchG K x1 m T M p1 c1 k1 S1 ++ (mchG K x2 m U M p2 c2 k2 S2 ++ tailG N r0 f k rows)) 3000000
    ⟨_, ?_, [⟨(startS T, startS U), [], r0⟩], [], [], [], 0, 0, [], [((startS T, startS U), [])], [], ?_, by simp, rfl, Bi.start rfl _ (fun s hs => by simpa using hs), by simp, rfl, rfl⟩ ?_
  · repeat' (first | exact Frg.nil | apply Frg.same | apply Frg.drop)
  · exact ⟨⟨List.nodup_nil, fun _ h => nomatch h⟩, ⟨List.nodup_nil, fun _ h => nomatch h⟩, ⟨by simp, fun e he => by rw [List.mem_singleton.mp he]; exact ⟨start_ok, start_ok⟩⟩, fun n hn => by rw [List.mem_singleton.mp hn]; rfl, fun i n hn => by
      have := List.mem_of_getElem? hn
      rw [List.mem_singleton.mp this]; exact Nat.zero_le _, fun n hn => by rw [List.mem_singleton.mp hn]; simp⟩
  rintro n ρ' G' ⟨N, S1, S2, rows, h0, d, r, Q1, Q2, hI, hle, rfl, hB, hQ, rfl, rfl⟩
  have hfew := hI.kn.few hT hU
  rw [List.length_map] at hfew
  have memF : ∀ (N : List Nd) (S1 S2 : List (PS × It)) (rows : GL), (f, DO.lst (N.map nodeD)) ∈ G0 ++ mchG K x1 m T M p1 c1 k1 S1 ++ (mchG K x2 m U M p2 c2 k2 S2 ++ tailG N r0 f k rows) := fun N S1 S2 rows => by simp [tailG]
  have memK : ∀ (N : List Nd) (S1 S2 : List (PS × It)) (rows : GL), (k, DO.nd (known2 (.int 0) (N.map Nd.st))) ∈ G0 ++ mchG K x1 m T M p1 c1 k1 S1 ++ (mchG K x2 m U M p2 c2 k2 S2 ++ tailG N r0 f k rows) := fun N S1 S2 rows => by simp [tailG]
  refine ⟨_, et_lt (vv 6) (ev_lenL rfl T0.f_len (vv 5) (lat_mem (memF N S1 S2 rows))), fun hx => ?_, fun hx => ?_⟩
  · rw [List.length_map] at hx
    have hlt : h0 < N.length := by have := of_decide_eq_true hx; omega
    -- the node
    obtain ⟨nd, hnd⟩ : ∃ nd, N[h0]? = some nd := ⟨N[h0], List.getElem?_eq_getElem hlt⟩
    have hmem := List.mem_of_getElem? hnd
    have hdrop : N.drop h0 = nd :: N.drop (h0 + 1) := by
      obtain ⟨q1, q2⟩ := List.getElem?_eq_some_iff.mp hnd
      rw [List.drop_eq_getElem_cons q1, q2]
    obtain ⟨d2, r2, Q1', Q2', hB2, hQ2⟩ : ∃ d2 r2 Q1' Q2', Bi (nxP m T U M) badP (startS T, startS U) d2 r2 [] ((nd.st, nd.row) :: Q1') Q2' (N.map Nd.st) ∧ Q1' ++ Q2' = (N.drop (h0 + 1)).map (fun n => (n.st, n.row)) := by
      rw [hdrop, List.map_cons] at hQ
      cases Q1 with
      | cons q Q1 =>
        rw [List.cons_append] at hQ
        injection hQ with a b
        subst a
        exact ⟨d, r, Q1, Q2, hB, b⟩
      | nil =>
        rw [List.nil_append] at hQ
        subst hQ
        exact ⟨d + 1, r, _, [], hB.deeper, by simp⟩
    have hB3 := hB2.node
    have hrl := hI.len h0 nd hnd
    have hso := hI.kn.ok nd.st (List.mem_map.mpr ⟨nd, hmem, rfl⟩)
    have hrd := hI.rdy nd hmem
    refine ss_asg (pg_t3 (i := 8) (j := 9) (l := 10) sc_unlike_row.nd) (ev_ixL (d := nodeD nd) (vv 5) (vv 6) (lat_mem (memF N S1 S2 rows)) (atI_nat (by rw [List.getElem?_map, hnd]; rfl))) rd_t3 ?_
    refine ss_forN (ds := ((chI m).filter (canF nd.st.1.val.isSome)).map itD) (el_methR (vv 3) (oat1 _ _ _) (by rfl) T0.mcls (k_following T0) (hr.mono (by decide)) (ea_cons (vv 8) ea_nil) fun H r => ⟨x1, m, T, M, p1, c1, k1, nd.st.1, mb1 r, rfl, rfl⟩) (pg_n (i := 11) sc_unlike_row.nd)
      (fun j ρ' G' => ∃ (N : List Nd) (S1 S2 : List (PS × It)) (rows : GL) (Q2 : List (SS × List It)), UI m T U N S1 S2 r0 rows ∧ h0 < N.length ∧ N[h0]? = some nd ∧ Bi (nxP m T U M) badP (startS T, startS U) d2 nd.row ((nxP m T U M nd.st).drop j) Q1' Q2 (N.map Nd.st) ∧ Q1' ++ Q2 = (N.drop (h0 + 1)).map (fun n => (n.st, n.row)) ∧
        ρ' = [some (tbD T), some (tbD U), some (mgD M), some (.adr x1), some (.adr x2), some (.adr f), some (.int (h0 : Nat)), some (.adr k), some (psD nd.st.1), some (psD nd.st.2), some (.adr nd.q), none, none] ∧ G' = G0 ++ mchG K x1 m T M p1 c1 k1 S1 ++ (mchG K x2 m U M p2 c2 k2 S2 ++ tailG N r0 f k rows))
      ⟨_, ?_, N, S1, S2, rows, Q2', hI, hlt, hnd, hB3, hQ2, rfl, rfl⟩ ?_ ?_
    · repeat' (first | exact Frg.nil | apply Frg.same | apply Frg.drop)
    · rintro B' sB j d0 ρ' G' hd0 ⟨N, S1, S2, rows, Q2, hI, hlt, hnd, hB4, hQ4, rfl, rfl⟩
      have hmem := List.mem_of_getElem? hnd
      have hso := hI.kn.ok nd.st (List.mem_map.mpr ⟨nd, hmem, rfl⟩)
      have hrd := hI.rdy nd hmem
      have hfew := hI.kn.few hT hU
      rw [List.length_map] at hfew
      rw [List.getElem?_map] at hd0
      obtain ⟨it, hit, rfl⟩ := Option.map_eq_some_iff.mp hd0
      have hitm := List.mem_of_getElem? hit
      obtain ⟨hi1, hi2⟩ := List.mem_filter.mp hitm
      have hio : ItOk m it := chI_ok hi1
      have hits : (nxP m T U M nd.st).drop j = (it, (pStep T M nd.st.1 it, pStep U M nd.st.2 it)) :: (nxP m T U M nd.st).drop (j + 1) := by
        obtain ⟨q1, q2⟩ := List.getElem?_eq_some_iff.mp hit
        have q3 : j < (nxP m T U M nd.st).length := by unfold nxP; rw [List.length_map]; exact q1
        rw [List.drop_eq_getElem_cons q3]
        congr 1
        exact Option.some.inj ((List.getElem?_eq_getElem q3).symm.trans (by unfold nxP; rw [List.getElem?_map, hit]; rfl))
      rw [hits] at hB4
      generalize hA : (pStep T M nd.st.1 it, pStep U M nd.st.2 it) = af at hB4 hits
      have hA1 : pStep T M nd.st.1 it = af.1 := by rw [← hA]
      have hA2 : pStep U M nd.st.2 it = af.2 := by rw [← hA]
      have ok1 : StOk m T af.1 := by rw [← hA1]; exact pStep_ok hT hso.1 hio
      have ok2 : StOk m U af.2 := by rw [← hA2]; exact pStep_ok hU hso.2 hio
      have v1 : af.1.val.isSome = !it.isS := by rw [← hA1]; exact pStep_val
      have v2 : af.2.val.isSome = !it.isS := by rw [← hA2]; exact pStep_val
      refine ⟨_, rd_name, ?_⟩
      refine ss_w (i := 12) (post := fun d G' => d = pairD af.1 af.2 ∧ ∃ S1' S2', Seen m T S1' ∧ Seen m U S2' ∧ G' = G0 ++ mchG K x1 m T M p1 c1 k1 S1' ++ (mchG K x2 m U M p2 c2 k2 S2' ++ tailG N r0 f k rows)) (Ew.imp (ew_tupW (post := fun ds G' => ds = [psD af.1, psD af.2] ∧ ∃ S1' S2', Seen m T S1' ∧ Seen m U S2' ∧ G' = G0 ++ mchG K x1 m T M p1 c1 k1 S1' ++ (mchG K x2 m U M p2 c2 k2 S2' ++ tailG N r0 f k rows))
        (eaw_cons (ew_meth (post := fun d G' => d = psD af.1 ∧ ∃ S1', Seen m T S1' ∧ G' = G0 ++ mchG K x1 m T M p1 c1 k1 S1' ++ (mchG K x2 m U M p2 c2 k2 S2 ++ tailG N r0 f k rows)) (vv 3) (oat1 _ _ _) (by rfl) T0.mcls (k_step T0) (hr.mono (by decide)) (ea_cons (vv 8) (ea_cons (vv 11) ea_nil))
            ⟨x1, m, T, M, p1, c1, k1, S1, nd.st.1, it, G0, _, rfl, hT, hM, hI.s1, hso.1, ⟨hio, hi2⟩, rfl, fun S' hS' => ⟨by rw [hA1], S', hS', rfl⟩⟩) fun d G' ⟨e1, S1', hS1', e2⟩ =>
          eaw_cons (ew_meth (post := fun d G' => d = psD af.2 ∧ ∃ S2', Seen m U S2' ∧ G' = G0 ++ mchG K x1 m T M p1 c1 k1 S1' ++ (mchG K x2 m U M p2 c2 k2 S2' ++ tailG N r0 f k rows)) (vv 4) (show Oat P w B' G' x2 (.ins (Mcl K) (machFs U M p2 c2 k2)) from by rw [e2]; exact oat2 _ _ _ _) (by rfl) T0.mcls (k_step T0) (hr.mono (by decide)) (ea_cons (vv 9) (ea_cons (vv 11) ea_nil))
            ⟨x2, m, U, M, p2, c2, k2, S2, nd.st.2, it, G0 ++ mchG K x1 m T M p1 c1 k1 S1', tailG N r0 f k rows, e2.trans (List.append_assoc _ _ _).symm, hU, hM, hI.s2, hso.2, ⟨hio, by rw [← hrd]; exact hi2⟩, rfl, fun S' hS' => ⟨by rw [hA2], S', hS', List.append_assoc _ _ _⟩⟩) fun d2 G2 ⟨e3, S2', hS2', e4⟩ =>
              eaw_nil ⟨by rw [e1, e3], S1', S2', hS1', hS2', e4⟩) (by simp) (fun ds G' ⟨e, _⟩ => by rw [e]; rfl)) fun d G' ⟨ds, e1, e2, q⟩ => ⟨by rw [e1, e2]; rfl, q⟩) (fun d G' ⟨e1, S1', S2', hS1', hS2', e2⟩ => ?_) sc_unlike_row.nd
      subst e1 e2
      -- is it bad
      have hbad : badP af = (af.1.val.isSome && !decide (pTold af.1 = pTold af.2)) := rfl
      have tld : ∀ {x : Addr} {st : PS}, True := trivial
      refine ss_guard (x := badP af) (Et.as ?_ (et_and2 (et_val (ev_methR (vv 3) (oat1 _ _ _) (by rfl) T0.mcls (k_is_ready T0) (hr.mono (by decide)) (ea_cons (ev_ixT (d := psD af.1) (vv 12) ev_int rfl) ea_nil) fun H r => ⟨x1, af.1, rfl, rfl⟩))
        (fun hrdy => et_neF (d := obD (pTold af.1)) (e := obD (pTold af.2)) (ev_methR (vv 3) (oat1 _ _ _) (by rfl) T0.mcls (k_told (x := x1) T0) (hr.mono (by decide)) (ea_cons (ev_ixT (d := psD af.1) (vv 12) ev_int rfl) ea_nil) fun H r => ⟨⟨x1, af.1, fun w hw => by rw [ok1.len w hw]; exact hT.len, fun _ => hrdy, rfl, rfl⟩, x1, m, T, M, p1, c1, k1, mb1 r, rfl⟩)
          (ev_methR (vv 4) (oat2 _ _ _ _) (by rfl) T0.mcls (k_told (x := x2) T0) (hr.mono (by decide)) (ea_cons (ev_ixT (d := psD af.2) (vv 12) ev_int rfl) ea_nil) fun H r => ⟨⟨x2, af.2, fun w hw => by rw [ok2.len w hw]; exact hU.len, fun _ => by rw [v2, ← v1]; exact hrdy, rfl, rfl⟩, x2, m, U, M, p2, c2, k2, mb2 r, rfl⟩) (obD_flat _) (obD_flat _) (obD_scal _ _)))) (fun hb => ?_) fun hb => ?_
      · rw [hbad, obD_eq]
      · -- found
        have hF := hB4.found hb
        have hrow : Lat B' (G0 ++ mchG K x1 m T M p1 c1 k1 S1' ++ (mchG K x2 m U M p2 c2 k2 S2' ++ tailG N r0 f k rows)) nd.q (nd.row.map itD) := lat_mem (by
          have := hI.row nd hmem
          rcases List.mem_cons.mp this with z | z
          · rw [z]; simp [tailG]
          · simp [tailG, z])
        refine ss_retW (Ew.sub (El.w (el_addLN (es := [itD it]) (vv 10) hrow (el_lst (ea_cons (vv 11) ea_nil) (by simp)) ?_)) (q := fun d G' => ∃ p, d = .adr p ∧ B' p = none ∧ (∀ x ∈ G0, x.1 ≠ p) ∧ G' = G0 ++ [(p, .lst ((nd.row ++ [it]).map itD))]) fun d G' ⟨p, h1, h2, h3, h4⟩ => ?_) (fun d G' ⟨p, h1, h2, h3, h4⟩ => ?_)
        · rw [List.length_map]
          exact Nat.le_trans (show nd.row.length + 1 ≤ 2286145 by omega) (by decide)
        · refine ⟨G0 ++ [(p, .lst ((nd.row ++ [it]).map itD))], ?_, p, h1, h2, fun x hx => h3 x (by simp [hx]), rfl⟩
          rw [h4, List.append_assoc G0]
          refine List.Sublist.append (List.sublist_append_left _ _) ?_
          rw [List.map_append]
          exact List.Sublist.refl _
        · rw [h1, h4]
          exact (h _ hF).2 _ rfl p (by
            cases hBp : B p with
            | none => rfl
            | some u => rw [sB p u hBp] at h2; cases h2) h3
      · have hl2 := look_known2 (v := .int 0) (s := af.1) (t := af.2) (S := N.map Nd.st)
        have hbf : badP af = false := hb
        refine ss_if (x := !(look (known2 (.int 0) (N.map Nd.st)) (pairD af.1 af.2).nk).isSome) (et_ninN hu (vv 12) (vv 7) (oat_mem (memK N S1' S2' rows)) (pairD_ok _ _)) (fun hx => ?_) (fun hx => ss_done (ss_done ⟨_, ?_, N, S1', S2', rows, Q2, ⟨hS1', hS2', hI.kn, hI.rdy, hI.len, hI.row⟩, hlt, hnd, ?_, hQ4, rfl, rfl⟩))
        · have hnot : af ∉ N.map Nd.st := by
            intro hin
            rw [hl2, if_pos (show (af.1, af.2) ∈ _ from hin)] at hx
            simp at hx
          have hln : look (known2 (.int 0) (N.map Nd.st)) (pairD af.1 af.2).nk = none := by rw [hl2, if_neg (show (af.1, af.2) ∉ _ from hnot)]
          refine ss_nput (L := G0 ++ mchG K x1 m T M p1 c1 k1 S1' ++ (mchG K x2 m U M p2 c2 k2 S2' ++ [(r0, .lst []), (f, .lst (N.map nodeD))])) (R := rows) (kvs := known2 (.int 0) (N.map Nd.st)) hu ev_int (vv 7) (vv 12) (by simp [tailG]) hln ?_ ?_ (pairD_ok _ _)
          · simp only [known2, List.length_map]
            exact Nat.lt_of_le_of_lt hfew (by decide)
          have hrow : ∀ (G2 : GL), Lat B' (G0 ++ mchG K x1 m T M p1 c1 k1 S1' ++ (mchG K x2 m U M p2 c2 k2 S2' ++ [(r0, .lst []), (f, .lst (N.map nodeD))]) ++ (k, DO.nd (known2 (.int 0) (N.map Nd.st) ++ [(pairD af.1 af.2, .int 0)])) :: rows) nd.q (nd.row.map itD) := fun G2 => lat_mem (by
            have := hI.row nd hmem
            rcases List.mem_cons.mp this with z | z
            · rw [z]; simp
            · simp [z])
          refine ss_append (p := f) (vv 5) (ew_addTW (ds := [psD af.1, psD af.2]) (post := fun d G' => ∃ q, d = nodeD (Nd.mk af (nd.row ++ [it]) q) ∧ G' = G0 ++ mchG K x1 m T M p1 c1 k1 S1' ++ (mchG K x2 m U M p2 c2 k2 S2' ++ [(r0, .lst []), (f, .lst (N.map nodeD))]) ++ (k, DO.nd (known2 (.int 0) (N.map Nd.st) ++ [(pairD af.1 af.2, .int 0)])) :: rows ++ [(q, .lst ((nd.row ++ [it]).map itD))]) (vv 12)
            (ew_tupW (post := fun ds G' => ∃ q, ds = [.adr q] ∧ G' = G0 ++ mchG K x1 m T M p1 c1 k1 S1' ++ (mchG K x2 m U M p2 c2 k2 S2' ++ [(r0, .lst []), (f, .lst (N.map nodeD))]) ++ (k, DO.nd (known2 (.int 0) (N.map Nd.st) ++ [(pairD af.1 af.2, .int 0)])) :: rows ++ [(q, .lst ((nd.row ++ [it]).map itD))])
              (eaw_l (ys := (nd.row ++ [it]).map itD) (El.as (d := nd.row.map itD ++ [itD it]) (by simp) (el_addLN (vv 10) (hrow []) (el_lst (ea_cons (vv 11) ea_nil) (by simp)) ?_)) fun q h1 h2 => eaw_nil ⟨q, rfl, rfl⟩) (by simp) (fun ds G' ⟨q, e, _⟩ => by rw [e]; rfl))
            (fun d G' ⟨ds, e1, q, e2, e3⟩ => ⟨ds, e1, by rw [e2]; simp, q, by rw [e2]; rfl, e3⟩)) (fun d G' ⟨q, e1, e2⟩ => ?_) ?_
          · rw [List.length_map]
            exact Nat.le_trans (show nd.row.length + 1 ≤ 2286145 by omega) (by decide)
          · have hmd : N.map nodeD ++ [d] = (N ++ [(Nd.mk af (nd.row ++ [it]) q)]).map nodeD := by rw [e1]; simp
            refine ⟨G0 ++ mchG K x1 m T M p1 c1 k1 S1' ++ (mchG K x2 m U M p2 c2 k2 S2' ++ [(r0, .lst [])]), (k, DO.nd (known2 (.int 0) (N.map Nd.st) ++ [(pairD af.1 af.2, .int 0)])) :: (rows ++ [(q, .lst ((nd.row ++ [it]).map itD))]), N.map nodeD, by rw [e2]; simp, ?_, ?_⟩
            · rw [List.length_map]
              exact Nat.lt_of_le_of_lt hfew (by decide)
            · refine ss_done (ss_done ⟨_, ?_, N ++ [(Nd.mk af (nd.row ++ [it]) q)], S1', S2', rows ++ [(q, .lst ((nd.row ++ [it]).map itD))], Q2 ++ [(af, nd.row ++ [it])], ⟨hS1', hS2', ?_, ?_, ?_, ?_⟩, by simp; omega, ?_, ?_, ?_, rfl, ?_⟩)
              · repeat' (first | exact Frg.nil | apply Frg.same | apply Frg.drop)
              · refine ⟨?_, fun e he => ?_⟩
                · rw [List.map_append]
                  exact List.nodup_append.mpr ⟨hI.kn.nd, by simp, fun a ha b hb => by
                    rw [List.mem_singleton.mp hb]
                    intro e
                    have e' : a = af := e
                    exact hnot (by rw [← e']; exact ha)⟩
                · rw [List.map_append] at he
                  rcases List.mem_append.mp he with z | z
                  · exact hI.kn.ok e z
                  · rw [List.mem_singleton.mp z]; exact ⟨ok1, ok2⟩
              · intro n hn
                rcases List.mem_append.mp hn with z | z
                · exact hI.rdy n z
                · rw [List.mem_singleton.mp z]; show af.1.val.isSome = af.2.val.isSome; rw [v1, v2]
              · intro i n hn
                by_cases hi : i < N.length
                · rw [List.getElem?_append_left hi] at hn; exact hI.len i n hn
                · rw [List.getElem?_append_right (by omega)] at hn
                  have := List.mem_of_getElem? hn
                  rw [List.mem_singleton.mp this]
                  have hil := (List.getElem?_eq_some_iff.mp hn).1
                  simp at hil
                  have := hI.len h0 nd hnd
                  simp; omega
              · intro n hn
                rcases List.mem_append.mp hn with z | z
                · have := hI.row n z
                  rcases List.mem_cons.mp this with y | y
                  · rw [y]; simp
                  · simp [y]
                · rw [List.mem_singleton.mp z]; simp
              · rw [List.getElem?_append_left hlt]; exact hnd
              · refine hB4.push hbf fun x hx => ?_
                rw [List.map_append] at hx
                rcases List.mem_append.mp hx with z | z
                · exact .inl z
                · exact .inr (List.mem_singleton.mp z)
              · rw [← List.append_assoc, hQ4, List.drop_append_of_le_length (by omega), List.map_append]; rfl
              · simp [tailG, known2, hmd]
          · obtain ⟨j', hj'⟩ := List.mem_iff_getElem?.mp (show (f, DO.lst (N.map nodeD)) ∈ G0 ++ mchG K x1 m T M p1 c1 k1 S1' ++ (mchG K x2 m U M p2 c2 k2 S2' ++ [(r0, .lst []), (f, .lst (N.map nodeD))]) ++ (k, DO.nd (known2 (.int 0) (N.map Nd.st) ++ [(pairD af.1 af.2, .int 0)])) :: rows from by simp)
            exact ⟨j', _, hj'⟩
        · repeat' (first | exact Frg.nil | apply Frg.same | apply Frg.drop)
        · refine hB4.skip ?_
          refine Classical.byContradiction fun hn => ?_
          rw [hl2, if_neg (show (af.1, af.2) ∉ _ from hn)] at hx
          cases hx
    · rintro ρ' G' ⟨N, S1, S2, rows, Q2, hI, hlt, hnd, hB4, hQ4, rfl, rfl⟩
      have hend : (nxP m T U M nd.st).drop (((chI m).filter (canF nd.st.1.val.isSome)).map itD).length = [] := by
        apply List.drop_eq_nil_of_le
        simp [nxP]
      rw [hend] at hB4
      refine ss_aug (i := 6) rfl ev_int (ss_done ⟨_, ?_, 3000000 - (h0 + 1), by have := hI.kn.few hT hU; rw [List.length_map] at this; omega, N, S1, S2, rows, h0 + 1, d2, nd.row, Q1', Q2, hI, hlt, rfl, hB4, hQ4, rfl, rfl⟩) sc_unlike_row.nd
      repeat' (first | exact Frg.nil | apply Frg.same | apply Frg.drop)
  · rw [List.length_map] at hx
    have hge : h0 = N.length := by have := of_decide_eq_false hx; omega
    have hnil : Q1 ++ Q2 = [] := by rw [hQ, hge]; simp
    obtain ⟨hq1, hq2⟩ := List.append_eq_nil_iff.mp hnil
    subst hq1 hq2
    refine ss_retW (Ew.sub ev_non.w (q := fun d G' => d = .non ∧ G' = G0) fun d G' ⟨e1, e2⟩ => ⟨G0, ?_, e1, rfl⟩) (fun d G' ⟨e1, e2⟩ => by rw [e1, e2]; exact (h _ hB.over).1 rfl)
    rw [e2, List.append_assoc]
    exact List.sublist_append_left _ _
end
end Bk
set_option Elab.async false
set_option linter.all false
set_option autoImplicit false
set_option maxRecDepth 100000
set_option maxHeartbeats 1000000
namespace Bk
open PySem L2
section
variable {X : Cx} {B : Hp} {ρ : Sls} {G : GL} {D : DE}
theorem ew_isN {a : Expr} {p0 : Dat → GL → Prop} {j p pos} (h : Ew X B ρ G a p0) : Ew X B ρ G (.Compare a [.Is] [.Constant .none j p] pos) (fun d G' => ∃ c, p0 c G' ∧ d = .bl c.isNon) := fun σ H r s Q q =>
  WE.of (pe_cmp (pc_isN pe_w)) (h σ H r s _ fun v H2 d G' r' t i z => q _ H2 (.bl d.isNon) G' r' t (by simp only [Is]; rw [is_non i]) ⟨d, z, rfl⟩)
end
section
variable {P : Program} {w : World} {K : PySem.W.Frag} {mg : Str → Option Value} {base : Heap}
def rCheckPair (ds : List Dat) (_ : Hp) (d : Dat) : Prop := ∃ m T U M, TbOk m T ∧ TbOk m U ∧ MgOk m M ∧ ds = [tbD T, tbD U, mgD M] ∧ d = .non
theorem k_check_pair (T0 : Tx P w K mg) : Kn P w K mg base "check_pair" 7 (preR rCheckPair) := by
  refine kn_check_pair T0 (fun ds B G post h => by obtain ⟨d, ⟨m, T, U, M, _, _, _, rfl, _⟩, _⟩ := h; rfl) fun cdv A outer s H E hr ds B G post h => ?_
  obtain ⟨d, ⟨m, T, U, M, hT, hU, hM, rfl, rfl⟩, h⟩ := h
  refine ss_e (ev_callR (k_check_two T0) (hr.mono (by decide)) (ea_cons (vv 0) (ea_cons (vv 1) ea_nil)) fun H _ => ⟨m, T, U, hT, hU, rfl, rfl⟩) ?_
  exact ss_e (ev_callR (k_check_meaning T0) hr (ea_cons (vv 0) (ea_cons (vv 2) (ea_cons ev_int ea_nil))) fun H _ => ⟨m, T, M, 2, hT, hM, by omega, rfl, rfl⟩) (ss_done h)
abbrev FirstP (m : Mn) (T U : Tb) (M : Mg) (o : Option (List It)) : Prop := First (nxP m T U M) badP (startS T, startS U) o
def rSame (ds : List Dat) (_ : Hp) (d : Dat) : Prop := ∃ m T U M o, TbOk m T ∧ TbOk m U ∧ MgOk m M ∧ ds = [tbD T, tbD U, mgD M] ∧ FirstP m T U M o ∧ d = .bl o.isNone
theorem k_same_values (T0 : Tx P w K mg) : Kn P w K mg base "same_values" 8 (preR rSame) := by
  refine kn_same_values T0 (fun ds B G post h => by obtain ⟨d, ⟨m, T, U, M, o, _, _, _, rfl, _⟩, _⟩ := h; rfl) fun cdv A outer s H E hr ds B G post h => ?_
  obtain ⟨d, ⟨m, T, U, M, o, hT, hU, hM, rfl, ho, rfl⟩, h⟩ := h
  refine ss_e (ev_callR (k_check_pair T0) hr (ea_cons (vv 0) (ea_cons (vv 1) (ea_cons (vv 2) ea_nil))) fun H _ => ⟨m, T, U, M, hT, hU, hM, rfl, rfl⟩) ?_
  refine ss_retW (Ew.sub (ew_isN (ew_call (post := fun d G' => d.isNon = o.isNone ∧ List.Sublist G G') (k_unlike_row T0) (hr.mono (by decide)) rfl (ea_cons (vv 0) (ea_cons (vv 1) (ea_cons (vv 2) ea_nil))) ⟨m, T, U, M, hT, hU, hM, rfl, fun o' ho' => ?_⟩)) (q := fun d G' => d = .bl o.isNone ∧ G' = G) fun d G' ⟨c, ⟨h1, h2⟩, h3⟩ => ⟨G, h2, by rw [h3, h1], rfl⟩) (fun d G' ⟨h1, h2⟩ => by rw [h1, h2]; exact h)
  have e : o' = o := First.uniq ho' ho
  subst e
  refine ⟨fun z => ⟨by rw [z]; rfl, List.Sublist.refl _⟩, fun r z p _ _ => ⟨by rw [z]; rfl, List.sublist_append_left _ _⟩⟩
/-! ### trees -/
inductive Tr where | v (b : Bool) | p (k : Nat) (t : Tr) | i (k : Nat) (a b : Tr)
def trD : Tr → Dat
  | .v b => vD b
  | .p k t => .tup [sgD (.ahd k), trD t]
  | .i k a b => .tup [sgD (.inf k), trD a, trD b]
def Tr.ht : Tr → Nat
  | .v _ => 0
  | .p _ t => t.ht + 1
  | .i _ a b => max a.ht b.ht + 1
def Tr.ok (m : Mn) : Tr → Prop
  | .v _ => True
  | .p k t => Sg.ahd k ∈ allS m ∧ t.ok m
  | .i k a b => Sg.inf k ∈ allS m ∧ a.ok m ∧ b.ok m
def Tr.val (M : Mg) : Tr → Bool
  | .v b => b
  | .p k t => lat (lnAt M k) (t.val M)
  | .i k a b => lat (sqAt M k (a.val M)) (b.val M)
def rWorth (n : Nat) (ds : List Dat) (_ : Hp) (d : Dat) : Prop := ∃ m M t, okM m ∧ MgOk m M ∧ t.ok m ∧ t.ht ≤ n ∧ ds = [mgD M, trD t] ∧ d = vD (t.val M)
theorem trD_na (t : Tr) : ∀ a, trD t ≠ .adr a := fun a h => by cases t <;> exact nomatch h
theorem sq_at (M : Mg) (k : Nat) (b : Bool) : L2.atI [lnD (sqAt M k false), lnD (sqAt M k true)] (if b = true then 1 else 0) = some (lnD (sqAt M k b)) := by cases b <;> rfl
theorem k_worth (T0 : Tx P w K mg) : ∀ n : Nat, Kn P w K mg base "worth" (n + 2) (preR (rWorth n))
  | n => by
    have ih : ∀ j, j < n → Kn P w K mg base "worth" (j + 2) (preR (rWorth j)) := fun j hj => k_worth T0 j
    refine kn_worth T0 (fun ds B G post h => by obtain ⟨d, ⟨m, M, t, _, _, _, _, rfl, _⟩, _⟩ := h; rfl) fun cdv A outer s H E hr ds B G post h => ?_
    obtain ⟨d, ⟨m, M, t, hm, hM, ht, hn, rfl, rfl⟩, h⟩ := h
    obtain ⟨ti, gi⟩ := T0.g_INFIX
    obtain ⟨ta, ga⟩ := T0.g_AHEAD
    cases t with
    | v b =>
      refine ss_guard (x := true) (Et.as ?_ (et_val (ev_isT T0.f_isinstance T0.f_int (vv 1) (trD_na (.v b)) (kit_int _ (trD_na (.v b)))))) (fun _ => ss_r (vv 1) h) (fun h => nomatch h)
      rfl
    | p k t =>
      obtain ⟨hk, ht⟩ := ht
      obtain ⟨k1, k2⟩ := ahd_lt hm hk
      obtain ⟨rest, ho⟩ := occ_pq k2
      simp only [Tr.ht] at hn
      have kw := ih (n - 1) (by omega)
      refine ss_guard (x := false) (Et.as ?_ (et_val (ev_isT T0.f_isinstance T0.f_int (vv 1) (trD_na (.p k t)) (kit_int _ (trD_na (.p k t)))))) (fun h => nomatch h) fun _ => ?_
      · rfl
      refine ss_guard (x := true) (Et.as ?_ (et_eqI (ev_lenT (ds := [sgD (.ahd k), trD t]) rfl T0.f_len (vv 1)) ev_int)) (fun _ => ?_) (fun h => nomatch h)
      · rfl
      refine ss_r (ev_ixT (ds := [vD (lnAt M k).1, vD (lnAt M k).2]) (i := if t.val M = true then 1 else 0) (ev_ixT (ev_ixT (ds := [.int 2, .tup (M.sqs.map sqD), .tup (M.lns.map lnD)]) (vv 0) ev_int rfl) (ev_sindex (ev_gs ga) (ev_ixT (ds := [sgD (.ahd k), trD t]) (vv 1) ev_int rfl) ho) (atI_nat (ln_get hM k1)))
        (ev_callR (d := vD (t.val M)) kw (hr.mono (by omega)) (ea_cons (vv 0) (ea_cons (ev_ixT (ds := [sgD (.ahd k), trD t]) (vv 1) ev_int rfl) ea_nil)) fun H _ => ⟨m, M, t, hm, hM, ht, by omega, rfl, rfl⟩) (lnD_at _ _)) h
    | i k a b =>
      obtain ⟨hk, hta, htb⟩ := ht
      obtain ⟨k1, k2⟩ := inf_lt hm hk
      obtain ⟨rest, ho⟩ := occ_abc k2
      simp only [Tr.ht] at hn
      have kw := ih (n - 1) (by omega)
      refine ss_guard (x := false) (Et.as ?_ (et_val (ev_isT T0.f_isinstance T0.f_int (vv 1) (trD_na (.i k a b)) (kit_int _ (trD_na (.i k a b)))))) (fun h => nomatch h) fun _ => ?_
      · rfl
      refine ss_guard (x := false) (Et.as ?_ (et_eqI (ev_lenT (ds := [sgD (.inf k), trD a, trD b]) rfl T0.f_len (vv 1)) ev_int)) (fun h => nomatch h) fun _ => ?_
      · rfl
      refine ss_r (ev_ixT (ds := [vD (sqAt M k (a.val M)).1, vD (sqAt M k (a.val M)).2]) (i := if b.val M = true then 1 else 0) (ev_ixT (d := lnD (sqAt M k (a.val M))) (ds := [lnD (sqAt M k false), lnD (sqAt M k true)]) (i := if a.val M = true then 1 else 0) (ev_ixT (ev_ixT (ds := [.int 2, .tup (M.sqs.map sqD), .tup (M.lns.map lnD)]) (vv 0) ev_int rfl) (ev_sindex (ev_gs gi) (ev_ixT (ds := [sgD (.inf k), trD a, trD b]) (vv 1) ev_int rfl) ho) (atI_nat (sq_get hM k1)))
        (ev_callR (d := vD (a.val M)) kw (hr.mono (by omega)) (ea_cons (vv 0) (ea_cons (ev_ixT (ds := [sgD (.inf k), trD a, trD b]) (vv 1) ev_int rfl) ea_nil)) fun H _ => ⟨m, M, a, hm, hM, hta, by omega, rfl, rfl⟩) (sq_at _ _ _))
        (ev_callR (d := vD (b.val M)) kw (hr.mono (by omega)) (ea_cons (vv 0) (ea_cons (ev_ixT (ds := [sgD (.inf k), trD a, trD b]) (vv 1) ev_int rfl) ea_nil)) fun H _ => ⟨m, M, b, hm, hM, htb, by omega, rfl, rfl⟩) (lnD_at _ _)) h
end
end Bk
set_option Elab.async false
set_option linter.all false
set_option autoImplicit false
set_option maxRecDepth 100000
set_option maxHeartbeats 1000000
namespace Bk
open PySem L2
section
variable {X : Cx} {B : Hp} {ρ : Sls} {G : GL} {D : DE}
def WO (X : Cx) (e : Option Expr) : TO := fun σ H Q => ∀ pins s, Inv X pins σ H s → wpAny (model X.prog X.w) X.A (evalPart e X.env) (fun u s' => ∃ o H', Inv X pins σ H' s' ∧ IsPart u o ∧ Q o H') X.xe s
theorem po_w {e : Option Expr} : PO X e (WO X e) := ⟨fun pins s σ H Q I h => h pins s I⟩
theorem ew_slT {a : Expr} {lo hi : Option Expr} {l h : Option Int} {pos p2 : Pos} {p0 post : Dat → GL → Prop} (ha : Ew X B ρ G a p0) (hk : ∀ d G', p0 d G' → ∃ ds, d = .tup ds ∧ Pt X B ρ G' lo l ∧ Pt X B ρ G' hi h ∧ post (.tup (cutD ds l h)) G') : Ew X B ρ G (.Subscript a (.Slice lo hi none p2) pos) post := fun σ H r s Q q =>
  WE.of (pe_slice sl_tupA pe_w po_w po_w) (ha σ H r s _ fun x H1 d G' r' t i1 z => by
    obtain ⟨ds, rfl, ⟨t1, k1, k2⟩, ⟨t2, k3, k4⟩, hp⟩ := hk d G' z
    intro pins s0 I
    refine k1.run pins s0 σ H1 _ I (k2 σ H1 r' (s.mono t) _ fun H2 e2 => ?_)
    intro pins s1 I1
    refine k3.run pins s1 σ H2 _ I1 (k4 σ H2 (r'.ext e2) ((s.mono t).ext e2) _ fun H3 e3 => ?_)
    simp only [Is] at i1
    obtain ⟨p, xs, rfl, hp1, hx⟩ := i1
    have e23 := e2.trans e3
    have hx3 := IsAll.mono (.of e23) _ _ hx
    refine ⟨p, xs, rfl, SqT.of (e23 _ _ hp1), fun w => q _ H3 _ G' (r'.ext e23) (t.trans (.of e23)) ?_ hp, fun w p' hp' => q _ _ _ G' ((r'.ext e23).ext (Same.new hp')) ((t.trans (.of e23)).trans (.of (Same.new hp'))) ?_ hp⟩
    · rw [hx.length] at w
      rw [cut_whole w]
      simp only [Is]
      exact ⟨p, xs, rfl, e23 _ _ hp1, hx3⟩
    · simp only [Is]
      exact ⟨p', cutV xs l h, rfl, upd_same, IsAll.mono (.of (Same.new hp')) _ _ hx3.cut⟩)
theorem ew_addTL {a b : Expr} {pos : Pos} {p0 post : Dat → GL → Prop} (ha : Ew X B ρ G a p0) (hk : ∀ d G', p0 d G' → ∃ ds es, d = .tup ds ∧ Ev X B ρ G' b (.tup es) ∧ ds.length + es.length ≤ 100000 ∧ post (.tup (ds ++ es)) G') : Ew X B ρ G (.BinOp a .Add b pos) post := fun σ H r s Q q =>
  WE.of (pe_op op_catA pe_w pe_w) (ha σ H r s _ fun x H1 d G' r' t i1 z => by
    obtain ⟨ds, es, rfl, hb, hl, hp⟩ := hk d G' z
    refine hb σ H1 r' (s.mono t) _ fun y H2 e2 i2 => ?_
    refine r2_catA (X := X) (B := B) (G := G') hl H2 (r'.ext e2) x y (Is.mono (.of e2) _ _ i1) i2 Q fun v H3 e3 i3 => ?_
    exact q v H3 _ G' ((r'.ext e2).ext e3) ((t.trans (.of e2)).trans (.of e3)) i3 hp)
/-- l.pop() -/
theorem ew_pop {o : Expr} {apos cpos : Pos} {p : Addr} {L R : GL} {ds : List Dat} {d : Dat} (ho : Ev X B ρ G o (.adr p)) (hG : G = L ++ (p, DO.lst (ds ++ [d])) :: R) (hbase : attributeBase o "pop" X.env (eval o X.env) = eval o X.env := by rfl) (hline : (apos.endLine == cpos.line) = true := by rfl) :
    Ew X B ρ G (.Call (.Attribute o "pop" apos) [] [] cpos) (fun c G' => c = d ∧ G' = L ++ (p, DO.lst ds) :: R) := fun σ H r s Q q =>
  WE.of (pe_bm0 PySem.F.plainAttrs_list PySem.F.slot_list_pop PySem.F.type_list_pop mt_pop pe_w hbase hline) (ho σ H r s _ fun x H1 e1 i1 => by
    simp only [Is] at i1
    subst i1
    have hj : G[L.length]? = some (p, DO.lst (ds ++ [d])) := by rw [hG]; exact get_mid _ _ _
    obtain ⟨vs, h1, h2⟩ := ((r.ext e1).at_ hj).1
    refine ⟨.inl ⟨rfl, vs, SqL.of h1⟩, p, vs, ?_⟩
    obtain ⟨v, hv1, hv2⟩ := h2.get (i := ds.length) (d := d) (by simp)
    have hlen : vs.length = ds.length + 1 := by rw [h2.length]; simp
    have hdl : IsAll H1 ds vs.dropLast := by
      have := h2.take ds.length
      rw [List.take_left] at this
      rw [List.dropLast_eq_take, hlen]
      exact this
    have tk : TK H1 (upd H1 p (.lst vs.dropLast)) := (r.ext e1).tk hj
    refine ⟨v, rfl, rfl, h1, by rw [hlen]; exact hv1, q v _ d _ ?_ ((TK.of e1).trans tk) (Is.mono tk _ _ hv2) ⟨rfl, rfl⟩⟩
    have := (r.ext e1).put hj (o' := .lst ds) ⟨_, upd_same, IsAll.mono tk _ _ hdl⟩
    rw [hG, set_mid] at this
    exact this)
theorem ss_par3 {i j l : Nat} {x y z : Str} {a b c : Expr} {px py pz pt pos : Pos} {kt k2 pt2} {post : List Dat → GL → Prop} {rest : List Stmt} (h : Eaw X B ρ G [a, b, c] post) (hk : ∀ ds G', post ds G' → ∃ d1 d2 d3, ds = [d1, d2, d3] ∧ Ss X B (((ρ.set i (some d1)).set j (some d2)).set l (some d3)) G' rest D) (hN : X.N.Nodup)
    (hij : i ≠ j := by decide) (hil : i ≠ l := by decide) (hjl : j ≠ l := by decide) (hc : X.calm = true := by rfl) (hi : X.N[i]? = some x := by rfl) (hj : X.N[j]? = some y := by rfl) (hl : X.N[l]? = some z := by rfl) (hx : X.env.scope.names.lookup x = some .local := by rfl) (hy : X.env.scope.names.lookup y = some .local := by rfl) (hz : X.env.scope.names.lookup z = some .local := by rfl)
    (hw : swappedStores [.Tuple [.Name x px, .Name y py, .Name z pz] kt pt] (.Tuple [a, b, c] k2 pt2) X.env = pure (some [x, y, z]) := by rfl) (hs : swapsWithSole [.Tuple [.Name x px, .Name y py, .Name z pz] kt pt] (.Tuple [a, b, c] k2 pt2) pos.line X.env = pure false := by rfl) :
    Ss X B ρ G (.Assign [.Tuple [.Name x px, .Name y py, .Name z pz] kt pt] (.Tuple [a, b, c] k2 pt2) pos :: rest) D := ss_cons fun σ H r s =>
  WS.of (ps_par3 hc hN hi hj hl hij hil hjl hx hy hz pa_w hw hs) (h σ H r s _ fun vs H2 ds G' r' t iv z0 => by
    obtain ⟨d1, d2, d3, rfl, hn⟩ := hk ds G' z0
    obtain ⟨v, r1, rfl, i1, i3⟩ := IsAll.cons_iff.mp iv
    obtain ⟨u, r2, rfl, i2, i4⟩ := IsAll.cons_iff.mp i3
    obtain ⟨u3, r3, rfl, i5, i6⟩ := IsAll.cons_iff.mp i4
    rw [IsAll.nil_iff] at i6
    subst i6
    exact ⟨v, u, u3, rfl, _, G', r', (((s.mono t).set i i1).set j i2).set l i5, t, hn⟩)
end
/-! ### the reading of a row -/
inductive Ent where | p (pl k : Nat) | i (pl k : Nat) (t : Tr)
def Ent.pl : Ent → Nat | .p q _ => q | .i q _ _ => q
def entD : Ent → Dat | .p q k => .tup [.int (q : Nat), sgD (.ahd k)] | .i q k t => .tup [.int (q : Nat), sgD (.inf k), trD t]
def Ent.app : Ent → Tr → Tr | .p _ k, t => .p k t | .i _ k a, t => .i k a t
def fin : List Ent → Tr → Tr
  | [], t => t
  | e :: st, t => fin st (e.app t)
def popW (c : Ent → Bool) : List Ent → Tr → List Ent × Tr
  | [], t => ([], t)
  | e :: st, t => if c e = true then popW c st (e.app t) else (e :: st, t)
def popC (T : Tb) (k : Nat) (e : Ent) : Bool := decide (e.pl > tplace T (.inf k)) || (decide (e.pl = tplace T (.inf k)) && decide (tword T (tplace T (.inf k)) = .left))
def topGe (q : Nat) : List Ent → Bool | [] => false | e :: _ => decide (e.pl ≥ q)
def topEq (q : Nat) : List Ent → Bool | [] => false | e :: _ => decide (e.pl = q)
abbrev TS := List Ent × Option Tr
def trStep (T : Tb) (a : TS) : It → Option TS
  | .v b => some (a.1, some (.v b))
  | .s (.ahd k) => if topGe (tplace T (.ahd k)) a.1 = true then none else some (.p (tplace T (.ahd k)) k :: a.1, a.2)
  | .s (.inf k) => match a.2 with
    | none => none
    | some t =>
      let r := popW (popC T k) a.1 t
      if (topEq (tplace T (.inf k)) r.1 && decide (tword T (tplace T (.inf k)) = .non)) = true then none else some (.i (tplace T (.inf k)) k r.2 :: r.1, some r.2)
def trRun (T : Tb) : TS → List It → Option TS
  | a, [] => some a
  | a, it :: r => (trStep T a it).bind fun b => trRun T b r
def treeOf (T : Tb) (its : List It) : Option Tr := (trRun T ([], none) its).bind fun a => a.2.map (fin a.1)
def otD : Option Tr → Dat | none => .non | some t => trD t
theorem trRun_app (T : Tb) : ∀ (a : List It) (s : TS) (b : List It), trRun T s (a ++ b) = (trRun T s a).bind fun s' => trRun T s' b
  | [], s, b => rfl
  | it :: a, s, b => by
    rw [List.cons_append, trRun, trRun, Option.bind_assoc]
    congr 1
    funext s'
    exact trRun_app T a s' b
section
variable {P : Program} {w : World} {K : PySem.W.Frag} {mg : Str → Option Value} {base : Heap}
def rFinished (ds : List Dat) (B : Hp) (d : Dat) : Prop := ∃ p st t, ds = [.adr p, trD t] ∧ Lat B [] p (st.map entD).reverse ∧ d = trD (fin st t)
theorem ent_cut (e : Ent) (t : Tr) : ∃ ds, entD e = .tup ds ∧ Dat.tup (cutD ds (some 1) none ++ [trD t]) = trD (e.app t) ∧ (cutD ds (some 1) none).length ≤ 2 := by
  cases e with
  | p q k =>
    refine ⟨_, rfl, ?_⟩
    rw [show (some (1 : Int)) = some ((1 : Nat) : Int) from rfl, cut_drop (by simp)]
    exact ⟨rfl, by simp⟩
  | i q k a =>
    refine ⟨_, rfl, ?_⟩
    rw [show (some (1 : Int)) = some ((1 : Nat) : Int) from rfl, cut_drop (by simp)]
    exact ⟨rfl, by simp⟩
theorem fin_snoc : ∀ (st : List Ent) (e : Ent) (t : Tr), fin (st ++ [e]) t = e.app (fin st t)
  | [], _, _ => rfl
  | _ :: st, e, t => fin_snoc st e _
theorem k_finished (T0 : Tx P w K mg) : Kn P w K mg base "finished" 1 (preR rFinished) := by
  refine kn_finished T0 (fun ds B G post h => by obtain ⟨d, ⟨p, st, t, rfl, _⟩, _⟩ := h; rfl) fun cdv A outer s H E hr ds B G post h => ?_
  obtain ⟨d, ⟨p, st, t, rfl, hl0, rfl⟩, h⟩ := h
  have hl : Lat B G p (st.map entD).reverse := hl0.more
  refine ss_forN (ds := st.map entD) (El.as (List.reverse_reverse _) (el_revL (vv 0) hl)) (pg_n (i := 2) sc_finished.nd)
    (fun i ρ' G' => G' = G ∧ ρ' = [some (.adr p), some (trD (fin (st.take i) t)), none]) ⟨_, ?_, rfl, rfl⟩ ?_ ?_
  · repeat' (first | exact Frg.nil | apply Frg.same | apply Frg.drop)
  · rintro B' sB i d ρ' G' hd ⟨rfl, rfl⟩
    rw [List.getElem?_map] at hd
    obtain ⟨e, he, rfl⟩ := Option.map_eq_some_iff.mp hd
    obtain ⟨ds, h1, h2, h3⟩ := ent_cut e (fin (st.take i) t)
    refine ⟨_, rd_name, ?_⟩
    refine ss_v (i := 1) (d := trD (e.app (fin (st.take i) t))) (Ev.as h2 (ev_addT (ev_slT (ds := ds) (l := some 1) (h := none) (vv 2 (by rw [h1]; rfl)) (pt1 ev_int) pt0) (ev_tup (ea_cons (vv 1) ea_nil) (by simp)) (by simp; omega))) (ss_done ⟨_, ?_, rfl, rfl⟩) sc_finished.nd
    rw [List.take_add_one, he]
    show Frg [_, some (trD (fin (st.take i ++ [e]) t)), _] _
    rw [fin_snoc]
    repeat' (first | exact Frg.nil | apply Frg.same | apply Frg.drop)
  · rintro ρ' G' ⟨rfl, rfl⟩
    rw [List.length_map, List.take_length]
    exact ss_r (vv 1) h
end
end Bk
set_option Elab.async false
set_option linter.all false
set_option autoImplicit false
set_option maxRecDepth 100000
set_option maxHeartbeats 1000000
namespace Bk
open PySem L2
def entL : Ent → List Dat | .p q k => [.int (q : Nat), sgD (.ahd k)] | .i q k t => [.int (q : Nat), sgD (.inf k), trD t]
theorem entD_eq (e : Ent) : entD e = .tup (entL e) := by cases e <;> rfl
theorem atI_last {A : Type} (l : List A) (a : A) : L2.atI (l ++ [a]) (-1) = some a := by
  unfold L2.atI
  have e : ixN (l ++ [a]).length (-1) = some l.length := by
    unfold ixN
    simp
    omega
  rw [e]
  simp
section
variable {X : Cx} {B : Hp} {ρ : Sls} {G : GL} {D : DE}
theorem ev_top {a : Expr} {p : Addr} {e : Ent} {st : List Ent} {j j2 : Nat} {q1 q2 q3 q4 q5 : Pos} (ha : Ev X B ρ G a (.adr p)) (hl : Lat B G p ((e :: st).map entD).reverse) (hs : PlainIx (.UnaryOp .USub (.Constant (.int 1) j q1) q2) := by exact fun _ _ => rfl) (hs2 : PlainIx (.Constant (.int 0) j2 q4) := by exact fun _ _ => rfl) :
    Ev X B ρ G (.Subscript (.Subscript a (.UnaryOp .USub (.Constant (.int 1) j q1) q2) q3) (.Constant (.int 0) j2 q4) q5) (.int (e.pl : Nat)) :=
  ev_ixT (ds := entL e) (by
    have := ev_ixL (d := entD e) (pos := q3) ha (ev_neg (i := 1) (ev_int (j := j) (pos := q1)) (pos := q2)) hl (by rw [List.map_cons, List.reverse_cons]; exact atI_last _ _) hs
    rw [entD_eq] at this
    exact this) ev_int (by cases e <;> rfl) hs2
end
section
variable {P : Program} {w : World} {K : PySem.W.Frag} {mg : Str → Option Value} {base : Heap}
def rTreeOf (ds : List Dat) (B : Hp) (d : Dat) : Prop := ∃ m T its p, RowOk m its ∧ TbOk m T ∧ ds = [tbD T, .adr p] ∧ Lat B [] p (its.map itD) ∧ d = otD (treeOf T its)
theorem k_tree_of (T0 : Tx P w K mg) : Kn P w K mg base "tree_of" 2 (preR rTreeOf) := by
  refine kn_tree_of T0 (fun ds B G post h => by obtain ⟨d, ⟨m, T, its, p, _, _, rfl, _⟩, _⟩ := h; rfl) fun cdv A outer s H E hr ds B G0 post h => ?_
  obtain ⟨d, ⟨m, T, its, p, hR, hT, rfl, hl0, rfl⟩, h⟩ := h
  have hu := hr.units
  obtain ⟨ta, ga⟩ := T0.g_AHEAD
  have none_ret : ∀ {ρ : Sls} {R : GL} {pos p2 : Pos} {j : Nat} {D : DE}, D.rt = post → treeOf T its = none → ∀ rest, Ss (cxOf CX0 P w K mg base n_tree_of "tree_of" (defScope s_tree_of) (He.ga K "tree_of") cdv A outer s H E).nox B ρ (G0 ++ R) (.Return (some (.Constant .none j p2)) pos :: rest) D := fun {ρ R pos p2 j D} hD hn rest => by
    refine ss_retW (Ew.sub ev_non.w (q := fun d G' => d = .non ∧ G' = G0) fun d G' ⟨e1, e2⟩ => ⟨G0, ?_, e1, rfl⟩) (fun d G' ⟨e1, e2⟩ => by rw [e1, e2, hD]; rw [hn] at h; exact h)
    rw [e2]; exact List.sublist_append_left _ _
  refine ss_par3 (i := 2) (j := 3) (l := 4) (post := fun ds G' => ∃ pl wt, ds = [.adr pl, .adr wt, .non] ∧ G' = G0 ++ [(pl, .dic (plcL 0 T)), (wt, .lst ([] : List Dat))])
    (eaw_cons (ew_call (post := fun d G' => ∃ pl, d = .adr pl ∧ G' = G0 ++ [(pl, .dic (plcL 0 T))]) (k_places_of T0) (hr.mono (by decide)) rfl (ea_cons (vv 0) ea_nil) ⟨m, T, hT, rfl, fun p h1 h2 => ⟨p, rfl, rfl⟩⟩) fun d G' ⟨pl, e1, e2⟩ => eaw_l (el_lst ea_nil (by simp)) fun wt h1 h2 => eaw_v ev_non (eaw_nil ⟨pl, wt, by rw [e1], by rw [e2]; simp⟩))
    (fun ds G' ⟨pl, wt, e1, e2⟩ => ⟨_, _, _, e1, ?_⟩) sc_tree_of.nd
  subst e2
  clear e1
  have hl : ∀ G, Lat B G p (its.map itD) := fun G => hl0.more
  have run_none : ∀ i a it, trRun T ([], none) (its.take i) = some a → its[i]? = some it → trStep T a it = none → treeOf T its = none := fun i a it h1 h2 h3 => by
    obtain ⟨q1, q2⟩ := List.getElem?_eq_some_iff.mp h2
    have : its = its.take i ++ it :: its.drop (i + 1) := by
      conv => lhs; rw [← List.take_append_drop i its, List.drop_eq_getElem_cons q1, q2]
    unfold treeOf
    rw [this, trRun_app, h1]
    show ((trRun T a (it :: its.drop (i + 1))).bind _) = none
    rw [trRun, h3]; rfl
  have run_step : ∀ i a it b, trRun T ([], none) (its.take i) = some a → its[i]? = some it → trStep T a it = some b → trRun T ([], none) (its.take (i + 1)) = some b := fun i a it b h1 h2 h3 => by
    rw [List.take_add_one, h2]
    show trRun T ([], none) (its.take i ++ [it]) = _
    rw [trRun_app, h1]
    show trRun T a [it] = _
    rw [trRun, h3]; rfl
  refine ss_forL (vv 1) (hl _) (pg_n (i := 5) sc_tree_of.nd) (fun i ρ' G' => ∃ (st : List Ent) (tree : Option Tr) (b : Bool), st.length ≤ i ∧ trRun T ([], none) (its.take i) = some (st, tree) ∧ rdy false (its.take i) = some b ∧ (b = true → ∃ t, tree = some t) ∧
      ρ' = [some (tbD T), some (.adr p), some (.adr pl), some (.adr wt), some (otD tree), none, none, none] ∧ G' = G0 ++ [(pl, .dic (plcL 0 T)), (wt, .lst (st.map entD).reverse)])
    ⟨_, ?_, [], none, false, Nat.le_refl _, rfl, rfl, (fun h => nomatch h), rfl, rfl⟩ (fun i ρ' G' _ => hl _) ?_ ?_
  · repeat' (first | exact Frg.nil | apply Frg.same | apply Frg.drop)
  · rintro i d ρ' G' hd ⟨st, tree, b, hsl, hrun, hb, htr, rfl, rfl⟩
    rw [List.getElem?_map] at hd
    obtain ⟨it, hit, rfl⟩ := Option.map_eq_some_iff.mp hd
    have hmem := List.mem_of_getElem? hit
    have hcan : canF b it = true := by
      obtain ⟨b', h1, h2⟩ := rdy_pre (n := i) hR.run
      rw [hb] at h1
      cases h1
      obtain ⟨hi1, hi2⟩ := List.getElem?_eq_some_iff.mp hit
      rw [List.drop_eq_getElem_cons hi1, hi2] at h2
      simp only [rdy] at h2
      split at h2
      · assumption
      · cases h2
    have hrd : rdy false (its.take (i + 1)) = some (!it.isS) := by rw [List.take_add_one, hit]; exact rdy_snoc hb hcan
    have hi40 : i < 40 := by
      have := (List.getElem?_eq_some_iff.mp hit).1
      have := hR.len
      omega
    refine ⟨_, rd_name, ?_⟩
    have memW : ∀ st : List Ent, (wt, DO.lst (st.map entD).reverse) ∈ G0 ++ [(pl, DO.dic (plcL 0 T)), (wt, DO.lst (st.map entD).reverse)] := fun st => by simp
    have memP : ∀ st : List Ent, (pl, DO.dic (plcL 0 T)) ∈ G0 ++ [(pl, DO.dic (plcL 0 T)), (wt, DO.lst (st.map entD).reverse)] := fun st => by simp
    cases it with
    | v x =>
      refine ss_if (x := true) (Et.as ?_ (et_not (et_val (ev_isT T0.f_isinstance T0.f_str (vv 5) (itD_na (.v x)) (kit_str _ (itD_na (.v x))))))) (fun _ => ?_) (fun h => nomatch h)
      · rfl
      · refine ss_v (i := 4) (d := trD (.v x)) (vv 5) (ss_cont ⟨_, ?_, st, some (.v x), true, by omega, run_step i _ _ _ hrun hit rfl, hrd, fun _ => ⟨_, rfl⟩, rfl, rfl⟩) sc_tree_of.nd
        repeat' (first | exact Frg.nil | apply Frg.same | apply Frg.drop)
    | s g =>
      have hg := hR.mem _ hmem g rfl
      obtain ⟨hp1, hp2⟩ := hT.place hg
      have hmg := sg_pq hT.okm hg
      refine ss_guard (x := false) (Et.as ?_ (et_not (et_val (ev_isT T0.f_isinstance T0.f_str (vv 5) (itD_na (.s g)) (kit_str _ (itD_na (.s g))))))) (fun h => nomatch h) fun _ => ?_
      · rfl
      refine ss_v (i := 6) (ev_dget (p := pl) (x := sgS g) hu (vv 2) (vv 5) (oat_mem (memP st)) hp1) ?_ sc_tree_of.nd
      cases g with
      | ahd k =>
        have hstep : trStep T (st, tree) (.s (.ahd k)) = if topGe (tplace T (.ahd k)) st = true then none else some (.p (tplace T (.ahd k)) k :: st, tree) := rfl
        refine ss_one (s1_if (x := true) (Et.as hmg (et_inS (vv 5) (ev_gs ga))) (fun _ => ?_) (fun h => nomatch h))
        refine ss_guard (x := topGe (tplace T (.ahd k)) st) ?_ (fun hx => none_ret rfl (run_none i _ _ hrun hit (by rw [hstep, if_pos hx])) _) fun hx => ?_
        · cases hst : st with
          | nil => exact Et.as (by rfl) (et_and2 (x := false) (y := false) (Et.as (by rfl) (et_neEmp (ds := ([] : List Dat)) hu (vv 3) (lat_mem (by rw [hst] at *; exact memW [])))) (fun h => nomatch h))
          | cons e st' =>
            refine Et.as ?_ (et_and2 (et_neEmp hu (vv 3) (lat_mem (memW (e :: st')))) fun _ => et_ge (ev_top (vv 3) (lat_mem (memW (e :: st')))) (vv 6))
            have h1 : ((e :: st').map entD).reverse.isEmpty = false := by simp
            have h3 : decide (((tplace T (.ahd k) : Nat) : Int) ≤ (e.pl : Int)) = decide (e.pl ≥ tplace T (.ahd k)) := decide_eq_decide.mpr (by omega)
            rw [h1, h3]; rfl
        · refine ss_append (p := wt) (vv 3) (Ev.w (d := entD (.p (tplace T (.ahd k)) k)) (ev_tup (ea_cons (vv 6) (ea_cons (vv 5) ea_nil)) (by simp))) (fun d G' ⟨e1, e2⟩ => ⟨G0 ++ [(pl, .dic (plcL 0 T))], [], (st.map entD).reverse, by rw [e2]; simp, ?_, ss_done ⟨_, ?_, .p (tplace T (.ahd k)) k :: st, tree, false, by simp; omega, run_step i _ _ _ hrun hit (by rw [hstep, if_neg (by rw [hx]; decide)]), hrd, (fun h => nomatch h), rfl, ?_⟩⟩) ?_
          · rw [List.length_reverse, List.length_map]; exact Nat.lt_of_le_of_lt (show st.length ≤ 40 by omega) (by decide)
          · repeat' (first | exact Frg.nil | apply Frg.same | apply Frg.drop)
          · rw [e1]; simp
          · obtain ⟨j', hj'⟩ := List.mem_iff_getElem?.mp (memW st)
            exact ⟨j', _, hj'⟩
      | inf k =>
        obtain ⟨t, rfl⟩ : ∃ t, tree = some t := htr (by cases b with | true => rfl | false => cases hcan)
        have hstep : trStep T (st, some t) (.s (.inf k)) = if (topEq (tplace T (.inf k)) (popW (popC T k) st t).1 && decide (tword T (tplace T (.inf k)) = .non)) = true then none else some (.i (tplace T (.inf k)) k (popW (popC T k) st t).2 :: (popW (popC T k) st t).1, some (popW (popC T k) st t).2) := rfl
        generalize hq : tplace T (.inf k) = q at hp1 hp2 hstep
        refine ss_one (s1_if (x := false) (Et.as hmg (et_inS (vv 5) (ev_gs ga))) (fun h => nomatch h) (fun _ => ?_))
        refine ss_v (i := 7) (d := .str (wdS (tword T q))) (ev_ixT (ev_ixT (vv 0) (vv 6) (atI_nat (lv_get hp2))) ev_int rfl) ?_ sc_tree_of.nd
        have wl : ∀ x : Wd, decide (wdS x = ("left" : Str)) = decide (x = .left) := fun x => by cases x <;> rfl
        have wn : ∀ x : Wd, decide (wdS x = ("none" : Str)) = decide (x = .non) := fun x => by cases x <;> rfl
        refine ss_while (fun n ρ' G' => ∃ (st' : List Ent) (t' : Tr), popW (popC T k) st' t' = popW (popC T k) st t ∧ st'.length ≤ st.length ∧ n = st'.length ∧
          ρ' = [some (tbD T), some (.adr p), some (.adr pl), some (.adr wt), some (trD t'), some (sgD (.inf k)), some (.int (q : Nat)), some (.str (wdS (tword T q)))] ∧ G' = G0 ++ [(pl, .dic (plcL 0 T)), (wt, .lst (st'.map entD).reverse)]) st.length
          ⟨_, ?_, st, t, rfl, Nat.le_refl _, rfl, rfl, rfl⟩ ?_
        · repeat' (first | exact Frg.nil | apply Frg.same | apply Frg.drop)
        rintro n ρ' G' ⟨st', t', hpop, hle, rfl, rfl, rfl⟩
        refine ⟨match st' with | [] => false | e :: _ => popC T k e, ?_, fun hx => ?_, fun hx => ?_⟩
        · cases st' with
          | nil => exact Et.as (by rfl) (et_and2 (x := false) (y := false) (Et.as (by rfl) (et_neEmp (ds := ([] : List Dat)) hu (vv 3) (lat_mem (memW [])))) (fun h => nomatch h))
          | cons e st'' =>
            have hlt := lat_mem (B := B) (memW (e :: st''))
            refine Et.as ?_ (et_and2 (et_neEmp hu (vv 3) hlt) fun _ => et_or2 (et_gt (ev_top (vv 3) hlt) (vv 6)) fun _ => et_and2 (et_eqI (ev_top (vv 3) hlt) (vv 6)) fun _ => et_eqS (vv 7) ev_str)
            show (!((e :: st'').map entD).reverse.isEmpty && _) = popC T k e
            have h1 : ((e :: st'').map entD).reverse.isEmpty = false := by simp
            rw [h1, wl]
            unfold popC
            rw [hq]
            have h2 : decide ((q : Int) < (e.pl : Int)) = decide (e.pl > q) := decide_eq_decide.mpr (by omega)
            have h3 : decide ((e.pl : Int) = (q : Int)) = decide (e.pl = q) := decide_eq_decide.mpr (by omega)
            rw [h2, h3]; rfl
        · cases st' with
          | nil => cases hx
          | cons e st'' =>
            have hx' : popC T k e = true := hx
            obtain ⟨ds, h1, h2, h3⟩ := ent_cut e t'
            refine ss_w (i := 4) (post := fun d G' => d = trD (e.app t') ∧ G' = G0 ++ [(pl, .dic (plcL 0 T)), (wt, .lst (st''.map entD).reverse)]) (ew_addTL (ew_slT (l := some 1) (h := none) (ew_pop (L := G0 ++ [(pl, .dic (plcL 0 T))]) (R := []) (p := wt) (ds := (st''.map entD).reverse) (d := entD e) (vv 3) (by simp)) (post := fun d G' => d = .tup (cutD ds (some 1) none) ∧ G' = G0 ++ [(pl, .dic (plcL 0 T)), (wt, .lst (st''.map entD).reverse)]) fun d G' ⟨e1, e2⟩ => ⟨ds, by rw [e1, h1], pt1 ev_int, pt0, rfl, by rw [e2]; simp⟩)
              fun d G' ⟨e1, e2⟩ => ⟨_, [trD t'], e1, ev_tup (ea_cons (vv 4) ea_nil) (by simp), by simp; omega, h2, e2⟩) (fun d G' ⟨e1, e2⟩ => ?_) sc_tree_of.nd
            subst e1 e2
            refine ss_done ⟨_, ?_, st''.length, by simp, st'', e.app t', ?_, by simp at hle; omega, rfl, rfl, rfl⟩
            · repeat' (first | exact Frg.nil | apply Frg.same | apply Frg.drop)
            · rw [← hpop]
              show _ = popW (popC T k) (e :: st'') t'
              rw [popW, if_pos hx']
        · have hfix : popW (popC T k) st t = (st', t') := by
            rw [← hpop]
            cases st' with
            | nil => rfl
            | cons e st'' =>
              have hx' : popC T k e = false := hx
              rw [popW, if_neg (by rw [hx']; decide)]
          rw [hfix] at hstep
          refine ss_guard (x := topEq q st' && decide (tword T q = .non)) ?_ (fun hx => none_ret rfl (run_none i _ _ hrun hit (by rw [hstep, if_pos hx])) _) fun hx => ?_
          · cases st' with
            | nil => exact Et.as (by rfl) (et_and3 (x := false) (y := false) (z := false) (Et.as (by rfl) (et_neEmp (ds := ([] : List Dat)) hu (vv 3) (lat_mem (memW [])))) (fun h => nomatch h) (fun h => nomatch h))
            | cons e st'' =>
              have hlt := lat_mem (B := B) (memW (e :: st''))
              refine Et.as ?_ (et_and3 (et_neEmp hu (vv 3) hlt) (fun _ => et_eqI (ev_top (vv 3) hlt) (vv 6)) (fun _ _ => et_eqS (vv 7) ev_str))
              have h1 : ((e :: st'').map entD).reverse.isEmpty = false := by simp
              have h3 : decide ((e.pl : Int) = (q : Int)) = decide (e.pl = q) := decide_eq_decide.mpr (by omega)
              rw [h1, wn, h3]; rfl
          · refine ss_append (p := wt) (vv 3) (Ev.w (d := entD (.i q k t')) (ev_tup (ea_cons (vv 6) (ea_cons (vv 5) (ea_cons (vv 4) ea_nil))) (by simp))) (fun d G' ⟨e1, e2⟩ => ⟨G0 ++ [(pl, .dic (plcL 0 T))], [], (st'.map entD).reverse, by rw [e2]; simp, ?_, ss_done ⟨_, ?_, .i q k t' :: st', some t', false, by simp; omega, run_step i _ _ _ hrun hit (by rw [hstep, if_neg (by rw [hx]; decide)]), hrd, (fun h => nomatch h), rfl, ?_⟩⟩) ?_
            · rw [List.length_reverse, List.length_map]; exact Nat.lt_of_le_of_lt (show st'.length ≤ 40 by omega) (by decide)
            · repeat' (first | exact Frg.nil | apply Frg.same | apply Frg.drop)
            · rw [e1]; simp
            · obtain ⟨j', hj'⟩ := List.mem_iff_getElem?.mp (memW st')
              exact ⟨j', _, hj'⟩
  · rintro ρ' G' ⟨st, tree, b, hsl, hrun, hb, htr, rfl, rfl⟩
    rw [List.length_map, List.take_length] at hrun hb
    rw [hR.run] at hb
    cases hb
    obtain ⟨t, rfl⟩ := htr rfl
    have e : treeOf T its = some (fin st t) := by unfold treeOf; rw [hrun]; rfl
    rw [e] at h
    refine ss_retW (Ew.sub (Ev.w (d := trD (fin st t)) (ev_callR (k_finished T0) hr (ea_cons (vv 3) (ea_cons (vv 4) ea_nil)) fun H r => ⟨wt, st, t, rfl, lat_base r (lat_mem (by simp)), rfl⟩)) (q := fun d G' => d = trD (fin st t) ∧ G' = G0) fun d G' ⟨e1, e2⟩ => ⟨G0, ?_, e1, rfl⟩) (fun d G' ⟨e1, e2⟩ => by rw [e1, e2]; exact h)
    rw [e2]; exact List.sublist_append_left _ _
end
end Bk
set_option Elab.async false
set_option linter.all false
set_option autoImplicit false
set_option maxRecDepth 100000
set_option maxHeartbeats 1000000
namespace Bk
open PySem L2
def Tr.sz : Tr → Nat
  | .v _ => 0
  | .p _ t => t.sz + 1
  | .i _ a b => a.sz + b.sz + 1
theorem Tr.ht_sz : ∀ t : Tr, t.ht ≤ t.sz
  | .v _ => Nat.le_refl _
  | .p _ t => by have := t.ht_sz; simp only [Tr.ht, Tr.sz]; omega
  | .i _ a b => by have := a.ht_sz; have := b.ht_sz; simp only [Tr.ht, Tr.sz]; omega
def Ent.sz : Ent → Nat | .p _ _ => 1 | .i _ _ t => t.sz + 1
def Ent.ok (m : Mn) : Ent → Prop | .p _ k => Sg.ahd k ∈ allS m | .i _ k t => Sg.inf k ∈ allS m ∧ t.ok m
def szs (st : List Ent) : Nat := (st.map Ent.sz).sum
theorem app_sz (e : Ent) (t : Tr) : (e.app t).sz = e.sz + t.sz := by
  cases e with
  | p q k => simp only [Ent.app, Tr.sz, Ent.sz]; omega
  | i q k a => simp only [Ent.app, Tr.sz, Ent.sz]; omega
theorem app_ok {m : Mn} {e : Ent} {t : Tr} (he : e.ok m) (ht : t.ok m) : (e.app t).ok m := by
  cases e with
  | p q k => exact ⟨he, ht⟩
  | i q k a => exact ⟨he.1, he.2, ht⟩
theorem fin_inv {m : Mn} : ∀ {st : List Ent} {t : Tr}, (∀ e ∈ st, e.ok m) → t.ok m → (fin st t).ok m ∧ (fin st t).sz = szs st + t.sz
  | [], t, _, ht => ⟨ht, by simp [fin, szs]⟩
  | e :: st, t, hs, ht => by
    obtain ⟨h1, h2⟩ := fin_inv (st := st) (t := e.app t) (fun x hx => hs x (List.mem_cons_of_mem _ hx)) (app_ok (hs e (by simp)) ht)
    refine ⟨h1, ?_⟩
    show (fin st (e.app t)).sz = _
    rw [h2, app_sz]
    simp [szs]; omega
theorem pop_inv {m : Mn} {c : Ent → Bool} : ∀ {st : List Ent} {t : Tr}, (∀ e ∈ st, e.ok m) → t.ok m → (∀ e ∈ (popW c st t).1, e.ok m) ∧ (popW c st t).2.ok m ∧ szs (popW c st t).1 + (popW c st t).2.sz = szs st + t.sz
  | [], t, hs, ht => ⟨hs, ht, rfl⟩
  | e :: st, t, hs, ht => by
    unfold popW
    split
    · obtain ⟨h1, h2, h3⟩ := pop_inv (c := c) (st := st) (t := e.app t) (fun x hx => hs x (List.mem_cons_of_mem _ hx)) (app_ok (hs e (by simp)) ht)
      refine ⟨h1, h2, ?_⟩
      rw [h3, app_sz]
      simp [szs]; omega
    · exact ⟨hs, ht, rfl⟩
structure TInv (m : Mn) (n : Nat) (b : Bool) (a : TS) : Prop where
  st : ∀ e ∈ a.1, e.ok m
  sz : szs a.1 ≤ n
  tr : b = true → ∃ t, a.2 = some t ∧ t.ok m ∧ szs a.1 + t.sz ≤ n
theorem step_inv {m : Mn} {T : Tb} {n : Nat} {b : Bool} {a a' : TS} {it : It} (h : TInv m n b a) (hi : ItOk m it) (hc : canF b it = true) (e : trStep T a it = some a') : TInv m (n + 1) (!it.isS) a' := by
  cases it with
  | v x =>
    cases e
    exact ⟨h.st, Nat.le_succ_of_le h.sz, fun _ => ⟨.v x, rfl, trivial, Nat.le_succ_of_le h.sz⟩⟩
  | s g =>
    have hg := hi g rfl
    cases g with
    | ahd k =>
      simp only [trStep] at e
      split at e
      · cases e
      · cases e
        refine ⟨fun x hx => ?_, ?_, fun h => nomatch h⟩
        · rcases List.mem_cons.mp hx with z | z
          · rw [z]; exact hg
          · exact h.st x z
        · have := h.sz
          simp [szs, Ent.sz] at this ⊢; omega
    | inf k =>
      have hb : b = true := by cases b with | true => rfl | false => cases hc
      obtain ⟨t, h1, h2, h3⟩ := h.tr hb
      simp only [trStep, h1] at e
      split at e
      · cases e
      · cases e
        obtain ⟨p1, p2, p3⟩ := pop_inv (c := popC T k) h.st h2
        refine ⟨fun x hx => ?_, ?_, fun h => nomatch h⟩
        · rcases List.mem_cons.mp hx with z | z
          · rw [z]; exact ⟨hg, p2⟩
          · exact p1 x z
        · simp only [szs, List.map_cons, List.sum_cons, Ent.sz] at p3 h3 ⊢; omega
theorem run_inv {m : Mn} {T : Tb} : ∀ {its : List It} {b c : Bool} {n : Nat} {a a' : TS}, (∀ it ∈ its, ItOk m it) → rdy b its = some c → TInv m n b a → trRun T a its = some a' → TInv m (n + its.length) c a'
  | [], b, c, n, a, a', _, hr, h, e => by cases e; cases hr; exact h
  | it :: r, b, c, n, a, a', hi, hr, h, e => by
    simp only [rdy] at hr
    split at hr
    · rename_i hc
      simp only [trRun] at e
      cases hs : trStep T a it with
      | none => rw [hs] at e; cases e
      | some a1 =>
        rw [hs] at e
        have h1 := step_inv h (hi it (by simp)) hc hs
        have := run_inv (its := r) (fun x hx => hi x (List.mem_cons_of_mem _ hx)) hr h1 e
        rw [List.length_cons, show n + (r.length + 1) = n + 1 + r.length by omega]
        exact this
    · cases hr
theorem treeOf_ok {m : Mn} {T : Tb} {its : List It} {t : Tr} (hR : RowOk m its) (e : treeOf T its = some t) : t.ok m ∧ t.ht ≤ 40 := by
  unfold treeOf at e
  cases hr : trRun T ([], none) its with
  | none => rw [hr] at e; cases e
  | some a =>
    rw [hr] at e
    have h := run_inv (n := 0) hR.mem hR.run ⟨fun _ h => absurd h (by simp), Nat.le_refl _, (fun h => nomatch h)⟩ hr
    obtain ⟨t', h1, h2, h3⟩ := h.tr rfl
    have e' : some (fin a.1 t') = some t := by rw [← e]; show _ = a.2.map (fin a.1); rw [h1]; rfl
    cases e'
    obtain ⟨k1, k2⟩ := fin_inv h.st h2
    refine ⟨k1, Nat.le_trans (Tr.ht_sz _) ?_⟩
    have := hR.len
    rw [k2]; omega
section
variable {P : Program} {w : World} {K : PySem.W.Frag} {mg : Str → Option Value} {base : Heap}
def rValueOf (ds : List Dat) (B : Hp) (d : Dat) : Prop := ∃ m T M its p, RowOk m its ∧ TbOk m T ∧ MgOk m M ∧ ds = [tbD T, mgD M, .adr p] ∧ Lat B [] p (its.map itD) ∧ d = obD ((treeOf T its).map (Tr.val M))
theorem k_value_of (T0 : Tx P w K mg) : Kn P w K mg base "value_of" 43 (preR rValueOf) := by
  refine kn_value_of T0 (fun ds B G post h => by obtain ⟨d, ⟨m, T, M, its, p, _, _, _, rfl, _⟩, _⟩ := h; rfl) fun cdv A outer s H E hr ds B G post h => ?_
  obtain ⟨d, ⟨m, T, M, its, p, hR, hT, hM, rfl, hl0, rfl⟩, h⟩ := h
  have hl : Lat B G p (its.map itD) := hl0.more
  refine ss_v (i := 3) (ev_callR (d := otD (treeOf T its)) (k_tree_of T0) (hr.mono (by decide)) (ea_cons (vv 0) (ea_cons (vv 2) ea_nil)) fun H r => ⟨m, T, its, p, hR, hT, rfl, lat_base r hl, rfl⟩) ?_ sc_value_of.nd
  cases ht : treeOf T its with
  | none =>
    rw [ht] at h
    exact ss_r (d := .non) (ev_if (x := true) (Et.as (by rfl) (et_isN (d := .non) (vv 3))) (fun _ => ev_non) (fun h => nomatch h)) h
  | some t =>
    rw [ht] at h
    obtain ⟨o1, o2⟩ := treeOf_ok hR ht
    refine ss_r (d := vD (t.val M)) (ev_if (x := false) (Et.as ?_ (et_isN (d := trD t) (vv 3))) (fun h => nomatch h) (fun _ => ev_callR (k_worth T0 40) hr (ea_cons (vv 1) (ea_cons (vv 3) ea_nil)) fun H _ => ⟨m, M, t, hT.okm, hM, o1, o2, rfl, rfl⟩)) h
    cases t <;> rfl
theorem k_read_value (T0 : Tx P w K mg) : Kn P w K mg base "read_value" 44 (preR rValueOf) := by
  refine kn_read_value T0 (fun ds B G post h => by obtain ⟨d, ⟨m, T, M, its, p, _, _, _, rfl, _⟩, _⟩ := h; rfl) fun cdv A outer s H E hr ds B G post h => ?_
  obtain ⟨d, ⟨m, T, M, its, p, hR, hT, hM, rfl, hl0, rfl⟩, h⟩ := h
  have hl : Lat B G p (its.map itD) := hl0.more
  refine ss_e (ev_callR (k_check_table T0) (hr.mono (by decide)) (ea_cons (vv 0) ea_nil) fun H _ => ⟨m, T, hT, rfl, rfl⟩) ?_
  refine ss_e (ev_callR (k_check_meaning T0) (hr.mono (by decide)) (ea_cons (vv 0) (ea_cons (vv 1) (ea_cons ev_int ea_nil))) fun H _ => ⟨m, T, M, 4, hT, hM, by omega, rfl, rfl⟩) ?_
  refine ss_e (ev_callR (k_check_row T0) (hr.mono (by decide)) (ea_cons (vv 2) (ea_cons (vv 0) (ea_cons (ev_ixT (d := .int 2) (vv 1) ev_int rfl) ea_nil))) fun H r => ⟨m, T, its, p, hR, hT, rfl, lat_base r hl, rfl⟩) ?_
  exact ss_r (ev_callR (k_value_of T0) hr (ea_cons (vv 0) (ea_cons (vv 1) (ea_cons (vv 2) ea_nil))) fun H r => ⟨m, T, M, its, p, hR, hT, hM, rfl, lat_base r hl, rfl⟩) h
end
end Bk
set_option Elab.async false
set_option linter.all false
set_option autoImplicit false
set_option maxRecDepth 100000
/-! The law's machine, and that it tells what the program's tells. -/
namespace Bk
theorem TbOk.tp {m : Mn} {T : Tb} (h : TbOk m T) {g : Sg} (hg : g ∈ allS m) : tplace T g < T.length := (h.place hg).2
abbrev Stk := List (Nat × Ln)
def popL (q : Nat) : Stk → Bool → Stk × Bool
  | [], b => ([], b)
  | (p, l) :: r, b => if q ≤ p then popL q r (lat l b) else ((p, l) :: r, b)
def headP : Stk → Int
  | [] => -1
  | (p, _) :: _ => p
structure LS where
  wait : Option Stk
  here : Option Bool
  deriving DecidableEq
def pushL (wd : Wd) (p : Nat) (line : Ln) : Stk → Option Stk
  | [] => some [(p, line)]
  | (p', f) :: r => if p' = p then (if wd = .non then none else some ((p, comp f line) :: r)) else some ((p, line) :: (p', f) :: r)
def leastL (T : Tb) (p : Nat) : Nat := if tword T p = .left then p else p + 1
def lInf (T : Tb) (M : Mg) (st : Stk) (k : Nat) (b : Bool) : Option Stk :=
  pushL (tword T (tplace T (.inf k))) (tplace T (.inf k)) (sqAt M k (popL (leastL T (tplace T (.inf k))) st b).2) (popL (leastL T (tplace T (.inf k))) st b).1
def lAhd (T : Tb) (M : Mg) (st : Stk) (k : Nat) : Option Stk := if (tplace T (.ahd k) : Int) ≤ headP st then none else some ((tplace T (.ahd k), lnAt M k) :: st)
def lStep (T : Tb) (M : Mg) (s : LS) : It → LS
  | .v b => ⟨s.wait, some b⟩
  | .s (.ahd k) => match s.wait with
    | none => ⟨none, none⟩
    | some st => ⟨lAhd T M st k, none⟩
  | .s (.inf k) => match s.wait, s.here with
    | some st, some b => ⟨lInf T M st k b, none⟩
    | _, _ => ⟨none, none⟩
def lClose : Stk → Bool → Bool
  | [], b => b
  | (_, l) :: r, b => lClose r (lat l b)
def lEnd (s : LS) : Option Bool := match s.wait, s.here with
  | some st, some b => some (lClose st b)
  | _, _ => none
def startL : LS := ⟨some [], none⟩
theorem lClose_append : ∀ (a b : Stk) (x : Bool), lClose (a ++ b) x = lClose b (lClose a x)
  | [], _, _ => rfl
  | (_, l) :: a, b, x => lClose_append a b (lat l x)
theorem popL_app {q : Nat} : ∀ {A B : Stk} {b : Bool}, (∀ x ∈ A, q ≤ x.1) → popL q (A ++ B) b = popL q B (lClose A b)
  | [], _, _, _ => rfl
  | (p, l) :: A, B, b, h => by
    rw [List.cons_append, popL, if_pos (h (p, l) (by simp)), popL_app fun x hx => h x (List.mem_cons_of_mem _ hx)]
    rfl
theorem popL_stop {q : Nat} : ∀ {B : Stk} {b : Bool}, (∀ x ∈ B, x.1 < q) → popL q B b = (B, b)
  | [], _, _ => rfl
  | (p, l) :: B, b, h => by
    have := h (p, l) (by simp)
    rw [popL, if_neg (by simp only at this; omega)]
theorem pushL_lt {wd : Wd} {p : Nat} {line : Ln} : ∀ {st : Stk}, (∀ x ∈ st, x.1 < p) → pushL wd p line st = some ((p, line) :: st)
  | [], _ => rfl
  | (p', f) :: r, h => by
    have := h (p', f) (by simp)
    simp only at this
    rw [pushL, if_neg (by omega)]
/-! ### what waits in each level, as a stack -/
def oe (k : Nat) : Option Ln → Stk
  | none => []
  | some l => [(k, l)]
def ents : Nat → Wt → Stk
  | _, [] => []
  | k, o :: r => ents (k + 1) r ++ oe k o
theorem ents_append : ∀ (a b : Wt) (k : Nat), ents k (a ++ b) = ents (k + a.length) b ++ ents k a
  | [], b, k => by simp [ents]
  | o :: a, b, k => by
    rw [List.cons_append, ents, ents, ents_append a b (k + 1), List.length_cons, List.append_assoc]
    congr 2
    omega
theorem ents_none : ∀ {w : Wt} {k : Nat}, allN w → ents k w = []
  | [], _, _ => rfl
  | o :: r, k, h => by
    have h1 : o = none := h o List.mem_cons_self
    subst h1
    rw [ents, ents_none fun x hx => h x (List.mem_cons_of_mem _ hx)]
    rfl
theorem ents_nil : ∀ {w : Wt} {k : Nat}, ents k w = [] → allN w
  | [], _, _ => fun _ h => nomatch h
  | o :: r, k, h => by
    rw [ents] at h
    obtain ⟨h1, h2⟩ := List.append_eq_nil_iff.mp h
    intro x hx
    rcases List.mem_cons.mp hx with e | e
    · cases o with
      | none => exact e
      | some l => cases h2
    · exact ents_nil h1 x e
theorem ents_pl : ∀ {w : Wt} {k : Nat} {x : Nat × Ln}, x ∈ ents k w → k ≤ x.1 ∧ x.1 < k + w.length
  | [], _, _, h => nomatch h
  | o :: r, k, x, h => by
    rw [ents] at h
    rcases List.mem_append.mp h with e | e
    · have := ents_pl e
      rw [List.length_cons]; omega
    · cases o with
      | none => cases e
      | some l =>
        rw [List.mem_singleton.mp e, List.length_cons]
        simp only
        omega
theorem close_ents : ∀ (w : Wt) (k : Nat) (b : Bool), close w b = lClose (ents k w) b
  | [], _, _ => rfl
  | o :: r, k, b => by
    rw [close, ents, lClose_append, close_ents r (k + 1)]
    cases o <;> rfl
theorem ents_split (w : Wt) (q : Nat) (h : q ≤ w.length) : ents 0 w = ents q (w.drop q) ++ ents 0 (w.take q) := by
  conv => lhs; rw [← List.take_append_drop q w, ents_append]
  rw [List.length_take, Nat.min_eq_left h, Nat.zero_add]
theorem take_lt {w : Wt} {q : Nat} {x : Nat × Ln} (h : x ∈ ents 0 (w.take q)) : x.1 < q := by
  have := (ents_pl h).2
  rw [List.length_take] at this
  omega
theorem pop_ents {w : Wt} {q : Nat} (h : q ≤ w.length) (b : Bool) : popL q (ents 0 w) b = (ents 0 (w.take q), close (w.drop q) b) := by
  rw [ents_split w q h, popL_app fun x hx => (ents_pl hx).1, popL_stop fun x hx => take_lt hx, ← close_ents]
theorem ents_take1 {w : Wt} {p : Nat} (h : p < w.length) : ents 0 (w.take (p + 1)) = oe p (w.getD p none) ++ ents 0 (w.take p) := by
  have e : w.getD p none = w[p] := by simp [List.getD, h]
  rw [List.take_add_one, List.getElem?_eq_getElem h, e, ents_append]
  congr 1
  rw [List.length_take, Nat.min_eq_left (Nat.le_of_lt h), Nat.zero_add]
  show ents p [w[p]] = _
  rw [ents]; rfl
theorem ents_build {w : Wt} {p : Nat} (l : Ln) (h : p < w.length) : ents 0 (build w p l) = (p, l) :: ents 0 (w.take p) := by
  unfold build
  rw [ents_append]
  rw [List.length_take, Nat.min_eq_left (Nat.le_of_lt h), Nat.zero_add, ents, ents_none (allN_rep _)]
  rfl
theorem close_dropL (w : Wt) (b : Bool) {i : Nat} (hi : i < w.length) : close (w.drop i) b = ap (w.getD i none) (close (w.drop (i + 1)) b) := by
  rw [List.drop_eq_getElem_cons hi]
  simp only [close]
  congr 1
  simp [List.getD, hi]
theorem lInf_eq {T : Tb} {M : Mg} {w : Wt} {k : Nat} {b : Bool} (h : tplace T (.inf k) < w.length) : lInf T M (ents 0 w) k b = (mstep (mc T M) w (.inf b k)).map (ents 0) := by
  unfold lInf
  have hm : mstep (mc T M) w (.inf b k) = (match w.getD (tplace T (.inf k)) none, tword T (tplace T (.inf k)) with
    | some _, .non => none
    | some f, .left => some (build w (tplace T (.inf k)) (sqAt M k (lat f (close (w.drop (tplace T (.inf k) + 1)) b))))
    | some f, .right => some (build w (tplace T (.inf k)) (comp f (sqAt M k (close (w.drop (tplace T (.inf k) + 1)) b))))
    | none, _ => some (build w (tplace T (.inf k)) (sqAt M k (close (w.drop (tplace T (.inf k) + 1)) b)))) := rfl
  rw [hm]
  clear hm
  generalize tplace T (.inf k) = p at h
  have c1 := close_dropL w b h
  have lo : ∀ wd line, pushL wd p line (ents 0 (w.take p)) = some ((p, line) :: ents 0 (w.take p)) := fun wd line => pushL_lt fun x hx => take_lt hx
  by_cases hl : tword T p = .left
  · have e1 : leastL T p = p := by unfold leastL; rw [if_pos hl]
    rw [e1, pop_ents (Nat.le_of_lt h), lo, hl, c1]
    cases w.getD p none with
    | none => simp only [Option.map_some, ents_build _ h]; rfl
    | some f => simp only [Option.map_some, ents_build _ h]; rfl
  · have e1 : leastL T p = p + 1 := by unfold leastL; rw [if_neg hl]
    rw [e1, pop_ents h, ents_take1 h]
    cases w.getD p none with
    | none => simp only [oe, List.nil_append, Option.map_some, ents_build _ h, lo]
    | some f =>
      simp only [oe, List.cons_append, List.nil_append, pushL, if_true]
      cases hw : tword T p with
      | left => exact absurd hw hl
      | right => simp [ents_build _ h]
      | non => simp
theorem headP_lt {w : Wt} {p : Nat} (h : p ≤ w.length) : ¬ ((p : Int) ≤ headP (ents 0 w)) ↔ allN (w.drop p) := by
  rw [ents_split w p h]
  constructor
  · intro hn
    cases he : ents p (w.drop p) with
    | nil => exact ents_nil he
    | cons x r =>
      have := (ents_pl (w := w.drop p) (k := p) (x := x) (by rw [he]; simp)).1
      rw [he] at hn
      refine absurd ?_ hn
      show (p : Int) ≤ (x.1 : Int)
      omega
  · intro ha
    rw [ents_none ha, List.nil_append]
    cases he : ents 0 (w.take p) with
    | nil => simp only [headP]; omega
    | cons x r =>
      have := take_lt (w := w) (q := p) (x := x) (by rw [he]; simp)
      show ¬ ((p : Int) ≤ (x.1 : Int))
      omega
theorem ents_put {w : Wt} {p : Nat} (l : Ln) (h : p < w.length) (ha : allN (w.drop p)) : ents 0 (w.take p ++ some l :: w.drop (p + 1)) = (p, l) :: ents 0 w := by
  rw [ents_append, List.length_take, Nat.min_eq_left (Nat.le_of_lt h), Nat.zero_add, ents, ents_none (allN_drop ha (Nat.le_succ p)), ents_split w p (Nat.le_of_lt h), ents_none ha]
  rfl
theorem lAhd_eq {T : Tb} {M : Mg} {w : Wt} {k : Nat} (h : tplace T (.ahd k) < w.length) : lAhd T M (ents 0 w) k = (mstep (mc T M) w (.pre k)).map (ents 0) := by
  unfold lAhd
  have hm : mstep (mc T M) w (.pre k) = if anyS (w.drop (tplace T (.ahd k))) = true then none else some (w.set (tplace T (.ahd k)) (some (lnAt M k))) := rfl
  rw [hm]
  clear hm
  generalize tplace T (.ahd k) = p at h
  by_cases ha : allN (w.drop p)
  · rw [if_neg ((headP_lt (Nat.le_of_lt h)).mpr ha), if_neg (by rw [anyS_false.mpr ha]; decide), Option.map_some, List.set_eq_take_append_cons_drop, if_pos h, ents_put _ h ha]
  · have h1 : (p : Int) ≤ headP (ents 0 w) := Classical.byContradiction fun hn => ha ((headP_lt (Nat.le_of_lt h)).mp hn)
    have h2 : anyS (w.drop p) = true := by
      cases hq : anyS (w.drop p) with
      | true => rfl
      | false => exact absurd (anyS_false.mp hq) ha
    rw [if_pos h1, if_pos h2]; rfl
/-! ### the program's states and the law's -/
structure RelS (s : PS) (l : LS) : Prop where
  rdy : s.val.isSome = l.here.isSome
  wt : l.wait = s.wait.map (ents 0)
  al : ∀ w, s.wait = some w → s.val = l.here ∧ (s.val = none → s.last = headP (ents 0 w))
theorem RelS.start (T : Tb) : RelS (startS T) startL := ⟨rfl, by
  show some [] = some (ents 0 (List.replicate T.length none))
  rw [ents_none (allN_rep _)], fun w e => by
    cases e
    refine ⟨rfl, fun _ => ?_⟩
    rw [ents_none (allN_rep _)]; rfl⟩
theorem RelS.told {s : PS} {l : LS} (h : RelS s l) : pTold s = lEnd l := by
  unfold pTold lEnd
  rw [h.wt]
  cases hw : s.wait with
  | none => rfl
  | some w =>
    rw [(h.al w hw).1]
    cases l.here with
    | none => rfl
    | some b => show some (close w b) = some (lClose (ents 0 w) b); rw [← close_ents]
theorem build_ents_head {w : Wt} {p : Nat} (l : Ln) (h : p < w.length) : headP (ents 0 (build w p l)) = p := by rw [ents_build l h]; rfl
theorem pInf_eq {T : Tb} {M : Mg} {w : Wt} {k : Nat} {b : Bool} : (pInfix T M w k b).wait = mstep (mc T M) w (.inf b k) ∧ (pInfix T M w k b).val = none ∧ ((pInfix T M w k b).wait ≠ none → (pInfix T M w k b).last = tplace T (.inf k) ∧ ∃ l, (pInfix T M w k b).wait = some (build w (tplace T (.inf k)) l)) := by
  have hm : mstep (mc T M) w (.inf b k) = (match w.getD (tplace T (.inf k)) none, tword T (tplace T (.inf k)) with
    | some _, .non => none
    | some f, .left => some (build w (tplace T (.inf k)) (sqAt M k (lat f (close (w.drop (tplace T (.inf k) + 1)) b))))
    | some f, .right => some (build w (tplace T (.inf k)) (comp f (sqAt M k (close (w.drop (tplace T (.inf k) + 1)) b))))
    | none, _ => some (build w (tplace T (.inf k)) (sqAt M k (close (w.drop (tplace T (.inf k) + 1)) b)))) := rfl
  rw [hm]
  unfold pInfix
  simp only
  cases w.getD (tplace T (.inf k)) none with
  | none => exact ⟨rfl, rfl, fun _ => ⟨rfl, _, rfl⟩⟩
  | some f =>
    cases tword T (tplace T (.inf k)) with
    | left => exact ⟨rfl, rfl, fun _ => ⟨rfl, _, rfl⟩⟩
    | right => exact ⟨rfl, rfl, fun _ => ⟨rfl, _, rfl⟩⟩
    | non => exact ⟨rfl, rfl, fun h => absurd rfl h⟩
theorem RelS.step {m : Mn} {T : Tb} {M : Mg} {s : PS} {l : LS} {it : It} (h : RelS s l) (hT : TbOk m T) (hs : StOk m T s) (hi : ItOk m it) (hc : canF s.val.isSome it = true) : RelS (pStep T M s it) (lStep T M l it) := by
  cases hw : s.wait with
  | none =>
    have hlw : l.wait = none := by rw [h.wt, hw]; rfl
    have e1 : pStep T M s it = (match it with | .v _ => ⟨none, 0, some false⟩ | .s _ => deadS) := by unfold pStep; rw [hw]; cases it <;> rfl
    rw [e1]
    cases it with
    | v b => exact ⟨rfl, hlw, fun w e => nomatch e⟩
    | s g =>
      have e2 : lStep T M l (.s g) = ⟨none, none⟩ := by cases g <;> simp only [lStep, hlw]
      rw [e2]
      exact ⟨rfl, rfl, fun w e => nomatch e⟩
  | some w =>
    have hlw : l.wait = some (ents 0 w) := by rw [h.wt, hw]; rfl
    obtain ⟨h1, h2⟩ := h.al w hw
    have hl := hs.len w hw
    cases it with
    | v b =>
      have e1 : pStep T M s (.v b) = ⟨some w, -1, some b⟩ := by unfold pStep; rw [hw]
      rw [e1]
      exact ⟨rfl, hlw, fun w' e => ⟨rfl, fun z => nomatch z⟩⟩
    | s g =>
      have hp : tplace T g < w.length := by rw [hl]; exact hT.tp (hi g rfl)
      cases g with
      | ahd k =>
        have e1 : pStep T M s (.s (.ahd k)) = pAhead T M w s.last k := by unfold pStep; rw [hw]
        have e2 : lStep T M l (.s (.ahd k)) = ⟨lAhd T M (ents 0 w) k, none⟩ := by simp only [lStep, hlw]
        have hv : s.val = none := by
          cases hv : s.val with
          | none => rfl
          | some b => rw [hv] at hc; cases hc
        rw [e1, e2]
        unfold pAhead lAhd
        rw [h2 hv]
        by_cases hle : (tplace T (.ahd k) : Int) ≤ headP (ents 0 w)
        · rw [if_pos hle, if_pos hle]
          exact ⟨rfl, rfl, fun w e => nomatch e⟩
        · rw [if_neg hle, if_neg hle]
          have ha := (headP_lt (Nat.le_of_lt hp)).mp hle
          refine ⟨rfl, ?_, fun w' e => ?_⟩
          · simp only [Option.map_some, ents_put _ hp ha]
          · cases e
            refine ⟨rfl, fun _ => ?_⟩
            rw [ents_put _ hp ha]; rfl
      | inf k =>
        cases hv : s.val with
        | none => rw [hv] at hc; cases hc
        | some b =>
          have e1 : pStep T M s (.s (.inf k)) = pInfix T M w k b := by unfold pStep; rw [hw, hv]
          have e2 : lStep T M l (.s (.inf k)) = ⟨lInf T M (ents 0 w) k b, none⟩ := by simp only [lStep, hlw, ← h1, hv]
          rw [e1, e2]
          obtain ⟨k1, k2, k3⟩ := pInf_eq (T := T) (M := M) (w := w) (k := k) (b := b)
          refine ⟨by rw [k2], by rw [k1, lInf_eq hp], fun w' e => ⟨k2, fun _ => ?_⟩⟩
          obtain ⟨q1, ln, q2⟩ := k3 (by rw [e]; exact fun z => nomatch z)
          rw [q2] at e
          cases e
          rw [q1]; exact (build_ents_head _ hp).symm
/-! ### the law's search -/
abbrev LL := LS × LS
def nxL (m : Mn) (T U : Tb) (M : Mg) (p : LL) : List (It × LL) := ((chI m).filter (canF p.1.here.isSome)).map fun it => (it, (lStep T M p.1 it, lStep U M p.2 it))
def badL (p : LL) : Bool := p.1.here.isSome && !decide (lEnd p.1 = lEnd p.2)
abbrev FirstL (m : Mn) (T U : Tb) (M : Mg) (o : Option (List It)) : Prop := First (nxL m T U M) badL (startL, startL) o
theorem All2.maps {A B C : Type} {R : B → C → Prop} {f : A → B} {g : A → C} : ∀ {l : List A}, (∀ x ∈ l, R (f x) (g x)) → All2 R (l.map f) (l.map g)
  | [], _ => .nil
  | a :: l, h => .cons (h a (by simp)) (All2.maps fun x hx => h x (List.mem_cons_of_mem _ hx))
structure RelP (m : Mn) (T U : Tb) (s : SS) (l : LL) : Prop where
  a : RelS s.1 l.1
  b : RelS s.2 l.2
  oa : StOk m T s.1
  ob : StOk m U s.2
  e : s.1.val.isSome = s.2.val.isSome
theorem chI_okL {m : Mn} {it : It} (h : it ∈ chI m) : ItOk m it := fun g e => by subst e; simpa [chI] using h
theorem RelP.bad {m : Mn} {T U : Tb} {s : SS} {l : LL} (h : RelP m T U s l) : badP s = badL l := by
  unfold badP badL
  rw [h.a.told, h.b.told, h.a.rdy]
end Bk
set_option Elab.async false
set_option linter.all false
set_option autoImplicit false
set_option maxRecDepth 100000
namespace Bk
theorem pStep_okL {m : Mn} {T : Tb} {M : Mg} {s : PS} {it : It} (hT : TbOk m T) (h : StOk m T s) (hi : ItOk m it) : StOk m T (pStep T M s it) := pStep_ok hT h hi
theorem RelP.next {m : Mn} {T U : Tb} {M : Mg} (hT : TbOk m T) (hU : TbOk m U) {s : SS} {l : LL} (h : RelP m T U s l) : All2 (fun p q => p.1 = q.1 ∧ RelP m T U p.2 q.2) (nxP m T U M s) (nxL m T U M l) := by
  unfold nxP nxL
  rw [← h.a.rdy]
  refine All2.maps fun it hit => ⟨rfl, ?_⟩
  obtain ⟨h1, h2⟩ := List.mem_filter.mp hit
  have hi := chI_okL h1
  exact ⟨h.a.step hT h.oa hi h2, h.b.step hU h.ob hi (by rw [← h.e]; exact h2), pStep_okL hT h.oa hi, pStep_okL hU h.ob hi, by rw [pStep_val, pStep_val]⟩
theorem All2.flip {A B : Type} {R : A → B → Prop} {R' : B → A → Prop} (hr : ∀ a b, R a b → R' b a) : ∀ {l : List A} {l' : List B}, All2 R l l' → All2 R' l' l
  | _, _, .nil => .nil
  | _, _, .cons h hs => .cons (hr _ _ h) (All2.flip hr hs)
theorem RelP.start (m : Mn) (T U : Tb) : RelP m T U (startS T, startS U) (startL, startL) := ⟨RelS.start T, RelS.start U, start_ok, start_ok, rfl⟩
theorem firstPL {m : Mn} {T U : Tb} {M : Mg} (hT : TbOk m T) (hU : TbOk m U) {o : Option (List It)} : FirstP m T U M o ↔ FirstL m T U M o := by
  constructor
  · exact fun h => First.rel (RelP m T U) (fun _ _ r => r.bad) (fun _ _ r => r.next hT hU) (RelP.start m T U) h
  · exact fun h => First.rel (fun l s => RelP m T U s l) (fun _ _ r => r.bad.symm) (fun _ _ r => All2.flip (fun _ _ h => ⟨h.1.symm, h.2⟩) (r.next hT hU)) (RelP.start m T U) h
/-- either way round -/
theorem firstP_swap {m : Mn} {T U : Tb} {M : Mg} {o : Option (List It)} (h : FirstP m T U M o) : FirstP m U T M o := by
  refine First.rel (nx := nxP m T U M) (fun (s s' : SS) => s' = (s.2, s.1) ∧ s.1.val.isSome = s.2.val.isSome) ?_ ?_ (s := (startS T, startS U)) ⟨rfl, rfl⟩ h
  · rintro s s' ⟨rfl, e⟩
    unfold badP
    simp only
    rw [e]
    congr 2
    exact decide_eq_decide.mpr ⟨Eq.symm, Eq.symm⟩
  · rintro s s' ⟨rfl, e⟩
    unfold nxP
    simp only
    rw [e]
    exact All2.maps fun it _ => ⟨rfl, rfl, by rw [pStep_val, pStep_val]⟩
theorem firstP_same {m : Mn} {T : Tb} {M : Mg} : FirstP m T T M none := by
  have key : ∀ (k : Nat) (s : SS), s.1 = s.2 → fb (nxP m T T M) badP k s = none := by
    intro k
    induction k with
    | zero =>
      intro s e
      have : badP s = false := by unfold badP; rw [e]; simp
      simp [fb, this]
    | succ k ih =>
      intro s e
      rw [fb, List.findSome?_eq_none_iff]
      intro p hp
      unfold nxP at hp
      obtain ⟨it, _, rfl⟩ := List.mem_map.mp hp
      rw [ih _ (by simp only; rw [e])]
      rfl
  exact fun k => key k _ rfl
theorem first_ex {S I : Type} (nx : S → List (I × S)) (bad : S → Bool) (s0 : S) : ∃ o, First nx bad s0 o := by
  by_cases h : ∃ k, fb nx bad k s0 ≠ none
  · obtain ⟨k, hk⟩ := h
    have : ∀ n, ∀ k, k ≤ n → fb nx bad k s0 ≠ none → ∃ o, First nx bad s0 o := by
      intro n
      induction n with
      | zero =>
        intro k hk hb
        cases hq : fb nx bad k s0 with
        | none => exact absurd hq hb
        | some r => exact ⟨some r, k, hq, fun j hj => by omega⟩
      | succ n ih =>
        intro k hk hb
        by_cases hx : ∃ j, j < k ∧ fb nx bad j s0 ≠ none
        · obtain ⟨j, h1, h2⟩ := hx
          exact ih j (by omega) h2
        · cases hq : fb nx bad k s0 with
          | none => exact absurd hq hb
          | some r =>
            refine ⟨some r, k, hq, fun j hj => ?_⟩
            cases hq2 : fb nx bad j s0 with
            | none => rfl
            | some r2 => exact absurd ⟨j, hj, by rw [hq2]; exact fun z => nomatch z⟩ hx
    exact this k k (Nat.le_refl _) hk
  · refine ⟨none, fun k => ?_⟩
    cases hq : fb nx bad k s0 with
    | none => rfl
    | some r => exact absurd ⟨k, by rw [hq]; exact fun z => nomatch z⟩ h
/-! ### rows -/
def lRun (T : Tb) (M : Mg) (s : LS) (its : List It) : LS := its.foldl (lStep T M) s
theorem lStep_here {T : Tb} {M : Mg} {s : LS} {it : It} : (lStep T M s it).here.isSome = !it.isS := by
  cases it with
  | v b => rfl
  | s g =>
    cases g with
    | ahd k => simp only [lStep]; split <;> rfl
    | inf k => simp only [lStep]; split <;> rfl
theorem canF_isS : ∀ (b : Bool) (it : It), canF b it = canF b it := fun _ _ => rfl
theorem goes_of {m : Mn} {T U : Tb} {M : Mg} : ∀ {its : List It} {b c : Bool} {s : LL}, (∀ it ∈ its, ItOk m it) → rdy b its = some c → s.1.here.isSome = b → Goes' (nxL m T U M) s its (lRun T M s.1 its, lRun U M s.2 its)
  | [], _, _, s, _, _, _ => .nil s
  | it :: r, b, c, s, hi, hr, hb => by
    simp only [rdy] at hr
    split at hr
    · rename_i hc
      have hio := hi it (by simp)
      refine .cons (s1 := (lStep T M s.1 it, lStep U M s.2 it)) ?_ (goes_of (fun x hx => hi x (List.mem_cons_of_mem _ hx)) hr ?_)
      · unfold nxL
        refine List.mem_map.mpr ⟨it, List.mem_filter.mpr ⟨?_, by rw [hb]; exact hc⟩, rfl⟩
        cases it with
        | v b => cases b <;> simp [chI]
        | s g => simp [chI, hio g rfl]
      · rw [lStep_here]
    · cases hr
theorem goes_to {m : Mn} {T U : Tb} {M : Mg} : ∀ {its : List It} {s s' : LL}, Goes' (nxL m T U M) s its s' → s' = (lRun T M s.1 its, lRun U M s.2 its) ∧ (∀ it ∈ its, ItOk m it) ∧ rdy s.1.here.isSome its = some s'.1.here.isSome
  | _, _, _, .nil s => ⟨rfl, (fun _ h => nomatch h), rfl⟩
  | _, _, _, @Goes'.cons _ _ _ s s1 s' it r hi g => by
    obtain ⟨h1, h2, h3⟩ := goes_to g
    unfold nxL at hi
    obtain ⟨it', hm, e⟩ := List.mem_map.mp hi
    cases e
    obtain ⟨q1, q2⟩ := List.mem_filter.mp hm
    refine ⟨h1, fun x hx => ?_, ?_⟩
    · rcases List.mem_cons.mp hx with z | z
      · rw [z]; exact chI_okL q1
      · exact h2 x z
    · simp only [rdy]
      rw [if_pos q2, ← lStep_here (T := T) (M := M) (s := s.1)]
      exact h3
/-- a row that can be told -/
structure RowV (m : Mn) (its : List It) : Prop where
  mem : ∀ it ∈ its, ItOk m it
  run : rdy false its = some true
theorem startL_here : startL.here.isSome = false := rfl
def lTold (T : Tb) (M : Mg) (its : List It) : Option Bool := lEnd (lRun T M startL its)
theorem rdy_here {T : Tb} {M : Mg} : ∀ {its : List It} {s : LS} {c : Bool}, rdy s.here.isSome its = some c → (lRun T M s its).here.isSome = c
  | [], s, c, h => by cases h; rfl
  | it :: r, s, c, h => by
    simp only [rdy] at h
    split at h
    · rw [← lStep_here (T := T) (M := M) (s := s)] at h
      exact rdy_here (its := r) (s := lStep T M s it) h
    · cases h
theorem firstL_none {m : Mn} {T U : Tb} {M : Mg} (h : FirstL m T U M none) {its : List It} (hr : RowV m its) : lTold T M its = lTold U M its := by
  have := fb_none (h its.length) rfl (goes_of (T := T) (U := U) (M := M) (s := (startL, startL)) hr.mem hr.run rfl)
  have hh := rdy_here (T := T) (M := M) (s := startL) hr.run
  unfold badL at this
  rw [show (lRun T M (startL, startL).fst its).here.isSome = true from hh] at this
  simpa [lTold] using this
theorem firstL_some {m : Mn} {T U : Tb} {M : Mg} {r : List It} (h : FirstL m T U M (some r)) : RowV m r ∧ lTold T M r ≠ lTold U M r ∧ ∀ its, RowV m its → its.length < r.length → lTold T M its = lTold U M its := by
  obtain ⟨k, h1, h2⟩ := h
  obtain ⟨hl, s', g, hb⟩ := fb_some h1
  obtain ⟨e, hm, hr⟩ := goes_to g
  unfold badL at hb
  rw [Bool.and_eq_true] at hb
  refine ⟨⟨hm, by rw [hb.1] at hr; exact hr⟩, ?_, fun its hi hlt => ?_⟩
  · have := hb.2
    rw [e] at this
    simpa [lTold] using this
  · have := fb_none (h2 its.length (by omega)) rfl (goes_of (T := T) (U := U) (M := M) (s := (startL, startL)) hi.mem hi.run rfl)
    have hh := rdy_here (T := T) (M := M) (s := startL) hi.run
    unfold badL at this
    rw [show (lRun T M (startL, startL).fst its).here.isSome = true from hh] at this
    simpa [lTold] using this
/-! ### short rows do -/
def flatM : List Mv → List It
  | [] => []
  | .pre a :: ms => .s (.ahd a) :: flatM ms
  | .inf v k :: ms => .v v :: .s (.inf k) :: flatM ms
theorem flatM_len : ∀ ms : List Mv, (flatM ms).length = mlen ms
  | [] => rfl
  | .pre a :: ms => by simp [flatM, flatM_len ms, mlen_cons, Mv.len]; omega
  | .inf v k :: ms => by simp [flatM, flatM_len ms, mlen_cons, Mv.len]; omega
theorem lRun_dead {T : Tb} {M : Mg} : ∀ {its : List It} {s : LS}, s.wait = none → (lRun T M s its).wait = none
  | [], _, h => h
  | it :: r, s, h => lRun_dead (its := r) (s := lStep T M s it) (by
    cases it with
    | v b => exact h
    | s g => cases g <;> simp only [lStep, h])
theorem run_mc {m : Mn} {T : Tb} {M : Mg} (hT : TbOk m T) : ∀ {ms : List Mv} {w : Wt} {o : Option Bool}, w.length = T.length → (∀ a ∈ ms, a.sg ∈ allS m) → (lRun T M ⟨some (ents 0 w), o⟩ (flatM ms)).wait = (mrun (mc T M) (some w) ms).map (ents 0)
  | [], w, _, _, _ => rfl
  | .pre a :: ms, w, o, hw, hi => by
    have hp : tplace T (.ahd a) < w.length := by rw [hw]; exact hT.tp (hi (.pre a) (by simp))
    have e : lRun T M ⟨some (ents 0 w), o⟩ (flatM (.pre a :: ms)) = lRun T M ⟨(mstep (mc T M) w (.pre a)).map (ents 0), none⟩ (flatM ms) := by
      rw [← lAhd_eq hp]; rfl
    rw [e]
    show _ = (mrun (mc T M) (mstep (mc T M) w (.pre a)) ms).map (ents 0)
    cases hs : mstep (mc T M) w (.pre a) with
    | none => rw [mrun_none]; exact lRun_dead rfl
    | some w' =>
      exact run_mc hT (by
        have : (mc T M).n = T.length := rfl
        rw [← this]
        exact mstep_length (ok := fun g => g ∈ allS m) ⟨fun g hg => hT.tp hg⟩ hw (hi (.pre a) (by simp)) hs) fun x hx => hi x (List.mem_cons_of_mem _ hx)
  | .inf v k :: ms, w, o, hw, hi => by
    have hp : tplace T (.inf k) < w.length := by rw [hw]; exact hT.tp (hi (.inf v k) (by simp))
    have e : lRun T M ⟨some (ents 0 w), o⟩ (flatM (.inf v k :: ms)) = lRun T M ⟨(mstep (mc T M) w (.inf v k)).map (ents 0), none⟩ (flatM ms) := by
      rw [← lInf_eq hp]; rfl
    rw [e]
    show _ = (mrun (mc T M) (mstep (mc T M) w (.inf v k)) ms).map (ents 0)
    cases hs : mstep (mc T M) w (.inf v k) with
    | none => rw [mrun_none]; exact lRun_dead rfl
    | some w' =>
      exact run_mc hT (by
        have : (mc T M).n = T.length := rfl
        rw [← this]
        exact mstep_length (ok := fun g => g ∈ allS m) ⟨fun g hg => hT.tp hg⟩ hw (hi (.inf v k) (by simp)) hs) fun x hx => hi x (List.mem_cons_of_mem _ hx)
theorem lRun_app {T : Tb} {M : Mg} (s : LS) (a b : List It) : lRun T M s (a ++ b) = lRun T M (lRun T M s a) b := List.foldl_append
theorem told_mc {m : Mn} {T : Tb} {M : Mg} (hT : TbOk m T) {ms : List Mv} {b : Bool} (hi : ∀ a ∈ ms, a.sg ∈ allS m) : lTold T M (flatM ms ++ [.v b]) = told (mc T M) ms b := by
  unfold lTold
  rw [lRun_app]
  have h := run_mc (M := M) hT (ms := ms) (w := init (mc T M)) (o := none) (by show (List.replicate T.length none).length = _; simp) hi
  have e0 : ents 0 (init (mc T M)) = [] := ents_none (allN_rep _)
  rw [e0] at h
  show lEnd ⟨(lRun T M startL (flatM ms)).wait, some b⟩ = _
  rw [show (lRun T M startL (flatM ms)).wait = _ from h]
  unfold told out
  cases mrun (mc T M) (some (init (mc T M))) ms with
  | none => rfl
  | some w => show some (lClose (ents 0 w) b) = some (close w b); rw [← close_ents]
theorem row_ms {m : Mn} : ∀ (n : Nat) {its : List It}, its.length ≤ n → RowV m its → ∃ ms b, its = flatM ms ++ [.v b] ∧ (∀ a ∈ ms, a.sg ∈ allS m)
  | 0, its, hn, h => by
    have : its = [] := List.length_eq_zero_iff.mp (by omega)
    rw [this] at h
    cases h.run
  | n + 1, its, hn, h => by
    cases its with
    | nil => cases h.run
    | cons it r =>
      have hr := h.run
      simp only [rdy] at hr
      split at hr
      · rename_i hc
        rw [List.length_cons] at hn
        cases it with
        | v b =>
          cases r with
          | nil => exact ⟨[], b, rfl, (fun _ h => nomatch h)⟩
          | cons it2 r2 =>
            simp only [rdy] at hr
            split at hr
            · rename_i hc2
              cases it2 with
              | v b2 => cases hc2
              | s g =>
                cases g with
                | ahd k => cases hc2
                | inf k =>
                  rw [List.length_cons] at hn
                  obtain ⟨ms, b', e, hs⟩ := row_ms n (its := r2) (by omega) ⟨fun x hx => h.mem x (by simp [hx]), hr⟩
                  refine ⟨.inf b k :: ms, b', by rw [e]; rfl, fun a ha => ?_⟩
                  rcases List.mem_cons.mp ha with z | z
                  · rw [z]; exact h.mem (.s (.inf k)) (by simp) _ rfl
                  · exact hs a z
            · cases hr
        | s g =>
          cases g with
          | inf k => cases hc
          | ahd k =>
            obtain ⟨ms, b', e, hs⟩ := row_ms n (its := r) (by omega) ⟨fun x hx => h.mem x (by simp [hx]), hr⟩
            refine ⟨.pre k :: ms, b', by rw [e]; rfl, fun a ha => ?_⟩
            rcases List.mem_cons.mp ha with z | z
            · rw [z]; exact h.mem (.s (.ahd k)) (by simp) _ rfl
            · exact hs a z
      · cases hr
theorem rdy_flat : ∀ (ms : List Mv) (b : Bool), rdy false (flatM ms ++ [.v b]) = some true
  | [], b => by simp [flatM, rdy, canF, It.isS]
  | .pre a :: ms, b => by
    have := rdy_flat ms b
    simpa [flatM, rdy, canF, It.isS] using this
  | .inf v k :: ms, b => by
    have := rdy_flat ms b
    simpa [flatM, rdy, canF, It.isS] using this
theorem mem_flat {m : Mn} : ∀ {ms : List Mv} {it : It}, (∀ a ∈ ms, a.sg ∈ allS m) → it ∈ flatM ms → ItOk m it
  | [], _, _, h => nomatch h
  | .pre a :: ms, it, hi, h => by
    rcases List.mem_cons.mp h with z | z
    · subst z; intro g e; cases e; exact hi (.pre a) (by simp)
    · exact mem_flat (fun x hx => hi x (List.mem_cons_of_mem _ hx)) z
  | .inf v k :: ms, it, hi, h => by
    rcases List.mem_cons.mp h with z | z
    · subst z; intro g e; cases e
    · rcases List.mem_cons.mp z with z | z
      · subst z; intro g e; cases e; exact hi (.inf v k) (by simp)
      · exact mem_flat (fun x hx => hi x (List.mem_cons_of_mem _ hx)) z
theorem first_short {m : Mn} {T U : Tb} {M : Mg} (hT : TbOk m T) (hU : TbOk m U) {r : List It} (h : FirstL m T U M (some r)) : r.length ≤ 40 := by
  obtain ⟨hv, hne, hlt⟩ := firstL_some h
  refine Classical.byContradiction fun hn => hne ?_
  obtain ⟨ms, b, e, hs⟩ := row_ms r.length (Nat.le_refl _) hv
  rw [e, told_mc hT hs, told_mc hU hs]
  refine short_tells (T := mc T M) (U := mc U M) (ok := fun g => g ∈ allS m) ⟨fun g hg => hT.tp hg⟩ ⟨fun g hg => hU.tp hg⟩ hT.len hU.len (fun ms' b' hs' hl => ?_) ms b hs
  rw [← told_mc hT hs', ← told_mc hU hs']
  refine hlt _ ⟨fun it hit => ?_, rdy_flat ms' b'⟩ ?_
  · rcases List.mem_append.mp hit with z | z
    · exact mem_flat hs' z
    · rw [List.mem_singleton.mp z]; intro g e; cases e
  · rw [List.length_append, flatM_len]
    simp only [List.length_cons, List.length_nil]
    omega
end Bk
set_option Elab.async false
set_option linter.all false
set_option autoImplicit false
set_option maxRecDepth 100000
/-! The value of the tree of a row is what the law's machine tells. -/
namespace Bk
/-- entries of one level taken together -/
def mrg : Stk → Stk
  | [] => []
  | (p, f) :: r => match mrg r with
    | [] => [(p, f)]
    | (p', g) :: r' => if p' = p then (p, comp g f) :: r' else (p, f) :: (p', g) :: r'
theorem headP_mrg : ∀ S : Stk, headP (mrg S) = headP S
  | [] => rfl
  | (p, f) :: r => by
    rw [mrg]
    split
    · rfl
    · split <;> rfl
theorem lClose_mrg : ∀ (S : Stk) (b : Bool), lClose (mrg S) b = lClose S b
  | [], _ => rfl
  | (p, f) :: r, b => by
    have ih := lClose_mrg r (lat f b)
    rw [mrg]
    split
    · rename_i h
      rw [h] at ih
      exact ih
    · rename_i p' g r' h
      rw [h] at ih
      split
      · show lClose r' (lat (comp g f) b) = lClose r (lat f b)
        rw [lat_comp]; exact ih
      · exact ih
theorem popL_mrg {q : Nat} : ∀ (S : Stk) (b : Bool), popL q (mrg S) b = (mrg (popL q S b).1, (popL q S b).2)
  | [], _ => rfl
  | (p, f) :: r, b => by
    have ih := popL_mrg (q := q) r (lat f b)
    by_cases hq : q ≤ p
    · have e : popL q ((p, f) :: r) b = popL q r (lat f b) := by rw [popL, if_pos hq]
      rw [e, ← ih, mrg]
      split
      · rename_i h
        rw [h]
        show popL q [(p, f)] b = popL q [] (lat f b)
        simp only [popL, if_pos hq]
      · rename_i p' g r' h
        split
        · rename_i hp
          subst hp
          rw [h, popL, if_pos hq, popL, if_pos hq, lat_comp]
        · rw [h, popL, if_pos hq]
    · have e : popL q ((p, f) :: r) b = ((p, f) :: r, b) := by rw [popL, if_neg hq]
      rw [e]
      show popL q (mrg ((p, f) :: r)) b = (mrg ((p, f) :: r), b)
      cases hm : mrg ((p, f) :: r) with
      | nil => rfl
      | cons x r2 =>
        have hh := headP_mrg ((p, f) :: r)
        rw [hm] at hh
        obtain ⟨p2, f2⟩ := x
        have hp : p2 = p := by
          have : (p2 : Int) = (p : Int) := hh
          omega
        subst hp
        rw [popL, if_neg hq]
theorem pushL_mrg {wd : Wd} {p : Nat} {line : Ln} {S : Stk} : pushL wd p line (mrg S) = if headP S = (p : Int) ∧ wd = .non then none else some (mrg ((p, line) :: S)) := by
  have hh := headP_mrg S
  rw [mrg]
  cases hm : mrg S with
  | nil =>
    rw [hm] at hh
    rw [if_neg (fun h => by rw [← hh] at h; have := h.1; simp only [headP] at this; omega)]
    rfl
  | cons x r =>
    obtain ⟨p', f⟩ := x
    rw [hm] at hh
    have hh' : headP S = (p' : Int) := hh.symm
    rw [pushL, hh']
    by_cases hp : p' = p
    · subst hp
      by_cases hn : wd = .non
      · rw [if_pos rfl, if_pos hn, if_pos ⟨rfl, hn⟩]
      · rw [if_pos rfl, if_neg hn, if_neg fun h => hn h.2]
        simp
    · rw [if_neg hp, if_neg (fun h => hp (by have := h.1; omega))]
      simp [hp]
def entLn (M : Mg) : Ent → Nat × Ln
  | .p q k => (q, lnAt M k)
  | .i q k t => (q, sqAt M k (t.val M))
theorem entLn_pl (M : Mg) (e : Ent) : (entLn M e).1 = e.pl := by cases e <;> rfl
theorem app_val (M : Mg) (e : Ent) (t : Tr) : (e.app t).val M = lat (entLn M e).2 (t.val M) := by cases e <;> rfl
theorem fin_val (M : Mg) : ∀ (st : List Ent) (t : Tr), (fin st t).val M = lClose (st.map (entLn M)) (t.val M)
  | [], _ => rfl
  | e :: st, t => by
    rw [fin, fin_val M st, app_val]; rfl
theorem popC_least (T : Tb) (k : Nat) (e : Ent) : popC T k e = decide (leastL T (tplace T (.inf k)) ≤ e.pl) := by
  unfold popC leastL
  by_cases hl : tword T (tplace T (.inf k)) = .left
  · rw [if_pos hl]
    simp only [hl, decide_true, Bool.and_true]
    rw [← Bool.decide_or]
    exact decide_eq_decide.mpr (by omega)
  · rw [if_neg hl]
    simp only [hl, decide_false, Bool.and_false, Bool.or_false]
    exact decide_eq_decide.mpr (by omega)
theorem popW_val (T : Tb) (M : Mg) (k : Nat) : ∀ (st : List Ent) (t : Tr), popL (leastL T (tplace T (.inf k))) (st.map (entLn M)) (t.val M) = ((popW (popC T k) st t).1.map (entLn M), (popW (popC T k) st t).2.val M)
  | [], _ => rfl
  | e :: st, t => by
    rw [popW, popC_least]
    show popL _ (entLn M e :: st.map (entLn M)) _ = _
    by_cases h : leastL T (tplace T (.inf k)) ≤ e.pl
    · rw [if_pos (decide_eq_true h), ← popW_val T M k st, app_val]
      conv => lhs; rw [show entLn M e = ((entLn M e).1, (entLn M e).2) from rfl, popL, if_pos (by rw [entLn_pl]; exact h)]
    · rw [if_neg (by simpa using h)]
      conv => lhs; rw [show entLn M e = ((entLn M e).1, (entLn M e).2) from rfl, popL, if_neg (by rw [entLn_pl]; exact h)]
      rfl
theorem headP_map (M : Mg) (q : Nat) (st : List Ent) : topGe q st = decide ((q : Int) ≤ headP (st.map (entLn M))) := by
  cases st with
  | nil => simp only [topGe, List.map_nil, headP]; symm; exact decide_eq_false (by omega)
  | cons e st =>
    simp only [topGe, List.map_cons]
    refine decide_eq_decide.mpr ?_
    show e.pl ≥ q ↔ (q : Int) ≤ ((entLn M e).1 : Int)
    rw [entLn_pl]; omega
theorem headP_mapE (M : Mg) (q : Nat) (st : List Ent) : topEq q st = decide (headP (st.map (entLn M)) = (q : Int)) := by
  cases st with
  | nil => simp only [topEq, List.map_nil, headP]; symm; exact decide_eq_false (by omega)
  | cons e st =>
    simp only [topEq, List.map_cons]
    refine decide_eq_decide.mpr ?_
    show e.pl = q ↔ ((entLn M e).1 : Int) = (q : Int)
    rw [entLn_pl]; omega
structure TrI (M : Mg) (a : TS) (l : LS) : Prop where
  wt : l.wait = some (mrg (a.1.map (entLn M)))
  tr : l.here.isSome = true → ∃ t, a.2 = some t ∧ l.here = some (t.val M)
theorem TrI.step {T : Tb} {M : Mg} {a : TS} {l : LS} {it : It} (h : TrI M a l) (hc : canF l.here.isSome it = true) : (trStep T a it = none → (lStep T M l it).wait = none) ∧ ∀ b, trStep T a it = some b → TrI M b (lStep T M l it) := by
  cases it with
  | v b =>
    refine ⟨(fun e => nomatch e), fun c e => ?_⟩
    cases e
    exact ⟨h.wt, fun _ => ⟨.v b, rfl, rfl⟩⟩
  | s g =>
    cases g with
    | ahd k =>
      have e2 : lStep T M l (.s (.ahd k)) = ⟨lAhd T M (mrg (a.1.map (entLn M))) k, none⟩ := by simp only [lStep, h.wt]
      rw [e2]
      unfold lAhd
      simp only [trStep, headP_map M, headP_mrg]
      by_cases hq : (tplace T (.ahd k) : Int) ≤ headP (a.1.map (entLn M))
      · rw [if_pos (decide_eq_true hq), if_pos hq]
        exact ⟨fun _ => rfl, fun b e => nomatch e⟩
      · rw [if_neg (by simpa using hq), if_neg hq]
        refine ⟨(fun e => nomatch e), fun b e => ?_⟩
        cases e
        refine ⟨?_, fun z => nomatch z⟩
        simp only [List.map_cons]
        have hh := headP_mrg (a.1.map (entLn M))
        show some _ = some (mrg ((tplace T (.ahd k), lnAt M k) :: a.1.map (entLn M)))
        rw [mrg]
        cases hm : mrg (a.1.map (entLn M)) with
        | nil => rfl
        | cons x r =>
          rw [hm] at hh
          have : ¬ x.1 = tplace T (.ahd k) := fun e => by
            have hx : headP (x :: r) = (x.1 : Int) := rfl
            rw [hx] at hh; omega
          simp only [if_neg this]
    | inf k =>
      cases hh : l.here with
      | none => rw [hh] at hc; cases hc
      | some b0 =>
        obtain ⟨t, h1, h2⟩ := h.tr (by rw [hh]; rfl)
        rw [hh] at h2
        cases h2
        have e2 : lStep T M l (.s (.inf k)) = ⟨lInf T M (mrg (a.1.map (entLn M))) k (t.val M), none⟩ := by simp only [lStep, h.wt, hh]
        rw [e2]
        have e3 : trStep T a (.s (.inf k)) = if (topEq (tplace T (.inf k)) (popW (popC T k) a.1 t).1 && decide (tword T (tplace T (.inf k)) = .non)) = true then none else some (.i (tplace T (.inf k)) k (popW (popC T k) a.1 t).2 :: (popW (popC T k) a.1 t).1, some (popW (popC T k) a.1 t).2) := by
          simp only [trStep, h1]
        rw [e3]
        unfold lInf
        rw [popL_mrg, popW_val, pushL_mrg, headP_mapE M]
        by_cases hn : headP ((popW (popC T k) a.1 t).1.map (entLn M)) = ((tplace T (.inf k) : Nat) : Int) ∧ tword T (tplace T (.inf k)) = .non
        · rw [if_pos hn, if_pos (by simp [hn.1, hn.2])]
          exact ⟨fun _ => rfl, fun b e => nomatch e⟩
        · rw [if_neg hn, if_neg (by simpa using hn)]
          refine ⟨(fun e => nomatch e), fun b e => ?_⟩
          cases e
          exact ⟨rfl, fun z => nomatch z⟩
theorem TrI.run {T : Tb} {M : Mg} : ∀ {its : List It} {a : TS} {l : LS} {c : Bool}, TrI M a l → rdy l.here.isSome its = some c → (trRun T a its = none → (lRun T M l its).wait = none) ∧ ∀ b, trRun T a its = some b → TrI M b (lRun T M l its)
  | [], a, l, c, h, _ => ⟨(fun e => nomatch e), fun b e => by cases e; exact h⟩
  | it :: r, a, l, c, h, hr => by
    simp only [rdy] at hr
    split at hr
    · rename_i hc
      obtain ⟨h1, h2⟩ := h.step (T := T) hc
      rw [trRun]
      cases hs : trStep T a it with
      | none => exact ⟨fun _ => lRun_dead (its := r) (s := lStep T M l it) (h1 hs), fun b e => nomatch e⟩
      | some a1 =>
        rw [← lStep_here (T := T) (M := M) (s := l)] at hr
        exact TrI.run (its := r) (h2 a1 hs) hr
    · cases hr
theorem treeOf_told {m : Mn} {T : Tb} {M : Mg} {its : List It} (h : RowV m its) : (treeOf T its).map (Tr.val M) = lTold T M its := by
  obtain ⟨h1, h2⟩ := TrI.run (T := T) (M := M) (its := its) (a := ([], none)) (l := startL) (c := true) ⟨rfl, fun z => nomatch z⟩ h.run
  have hh := rdy_here (T := T) (M := M) (s := startL) h.run
  unfold treeOf lTold lEnd
  cases hr : trRun T ([], none) its with
  | none =>
    rw [h1 hr]; rfl
  | some a =>
    have hI := h2 a hr
    obtain ⟨t, q1, q2⟩ := hI.tr hh
    rw [hI.wt, q2]
    show (a.2.map (fin a.1)).map (Tr.val M) = _
    rw [q1]
    show some ((fin a.1 t).val M) = some _
    rw [fin_val, lClose_mrg]
end Bk
set_option Elab.async false
set_option linter.all false
set_option autoImplicit false
set_option maxRecDepth 100000
/-! The law's own tree, parted at the loosest signs, has the value that the law's machine tells. -/
namespace Bk
def Sg.k : Sg → Nat
  | .inf k => k
  | .ahd k => k
def minP (T : Tb) : List It → Option Nat
  | [] => none
  | .v _ :: r => minP T r
  | .s g :: r => some (match minP T r with | none => tplace T g | some q => min (tplace T g) q)
def frst (T : Tb) (p : Nat) : List It → Option Nat
  | .s (.ahd k) :: _ => if tplace T (.ahd k) = p then some k else none
  | _ => none
def rst (T : Tb) (p : Nat) (its : List It) : List It := if (frst T p its).isSome = true then its.tail else its
def spl (T : Tb) (p : Nat) : List It → List It × List (Sg × List It)
  | [] => ([], [])
  | .v b :: r => (.v b :: (spl T p r).1, (spl T p r).2)
  | .s g :: r => if tplace T g = p then ([], (g, (spl T p r).1) :: (spl T p r).2) else (.s g :: (spl T p r).1, (spl T p r).2)
def bldL (a : Tr) : List (Nat × Tr) → Tr
  | [] => a
  | (k, t) :: r => bldL (.i k a t) r
def bldR (a : Tr) : List (Nat × Tr) → Tr
  | [] => a
  | (k, t) :: r => .i k a (bldR t r)
def fstT (f : Option Nat) (t : Tr) : Tr := match f with | some k => .p k t | none => t
def buildT (wd : Wd) (f : Option Nat) (t0 : Tr) (l : List (Nat × Tr)) : Tr := if wd = .left then bldL (fstT f t0) l else fstT f (bldR t0 l)
def many1 (f : Option Nat) : Nat := if f.isSome = true then 1 else 0
def oneT : List It → Option Tr
  | .v b :: _ => some (.v b)
  | _ => none
def lawT (T : Tb) : Nat → List It → Option Tr
  | 0, _ => none
  | n + 1, its => match minP T its with
    | none => oneT its
    | some p =>
      if (spl T p (rst T p its)).2.any (fun x => !x.1.isInf) = true then none
      else if ((lawT T n (spl T p (rst T p its)).1 :: (spl T p (rst T p its)).2.map fun x => lawT T n x.2).any Option.isNone || (decide (tword T p = .non) && decide (1 < (spl T p (rst T p its)).2.length + many1 (frst T p its)))) = true then none
      else some (buildT (tword T p) (frst T p its) ((lawT T n (spl T p (rst T p its)).1).getD (.v false)) ((spl T p (rst T p its)).2.map fun x => (x.1.k, (lawT T n x.2).getD (.v false))))
/-! ### the parts -/
def flatC : List (Sg × List It) → List It
  | [] => []
  | (g, a) :: r => .s g :: a ++ flatC r
theorem spl_join (T : Tb) (p : Nat) : ∀ its : List It, (spl T p its).1 ++ flatC (spl T p its).2 = its
  | [] => rfl
  | .v b :: r => by rw [spl, List.cons_append, spl_join T p r]
  | .s g :: r => by
    rw [spl]
    split
    · show .s g :: ((spl T p r).1 ++ flatC (spl T p r).2) = _
      rw [spl_join T p r]
    · rw [List.cons_append, spl_join T p r]
theorem spl_cut (T : Tb) (p : Nat) : ∀ {its : List It} {x : Sg × List It}, x ∈ (spl T p its).2 → tplace T x.1 = p
  | [], _, h => nomatch h
  | .v b :: r, x, h => spl_cut T p (its := r) h
  | .s g :: r, x, h => by
    rw [spl] at h
    split at h
    · rename_i hp
      rcases List.mem_cons.mp h with e | e
      · rw [e]; exact hp
      · exact spl_cut T p e
    · exact spl_cut T p (its := r) h
theorem spl_part (T : Tb) (p : Nat) : ∀ {its : List It} {g : Sg}, (.s g ∈ (spl T p its).1 ∨ ∃ x ∈ (spl T p its).2, .s g ∈ x.2) → tplace T g ≠ p ∧ .s g ∈ its
  | [], _, h => by rcases h with h | ⟨_, h, _⟩ <;> cases h
  | .v b :: r, g, h => by
    have := spl_part T p (its := r) (g := g) (by
      rcases h with h | h
      · rcases List.mem_cons.mp h with e | e
        · cases e
        · exact .inl e
      · exact .inr h)
    exact ⟨this.1, List.mem_cons_of_mem _ this.2⟩
  | .s g' :: r, g, h => by
    rw [spl] at h
    split at h
    · have := spl_part T p (its := r) (g := g) (by
        rcases h with h | ⟨x, hx, hg⟩
        · cases h
        · rcases List.mem_cons.mp hx with e | e
          · rw [e] at hg; exact .inl hg
          · exact .inr ⟨x, e, hg⟩)
      exact ⟨this.1, List.mem_cons_of_mem _ this.2⟩
    · rename_i hne
      rcases h with h | h
      · rcases List.mem_cons.mp h with e | e
        · cases e; exact ⟨hne, by simp⟩
        · have := spl_part T p (its := r) (g := g) (.inl e)
          exact ⟨this.1, List.mem_cons_of_mem _ this.2⟩
      · have := spl_part T p (its := r) (g := g) (.inr h)
        exact ⟨this.1, List.mem_cons_of_mem _ this.2⟩
theorem minP_le (T : Tb) : ∀ {its : List It} {g : Sg}, .s g ∈ its → ∃ p, minP T its = some p ∧ p ≤ tplace T g
  | [], _, h => nomatch h
  | .v b :: r, g, h => by
    rcases List.mem_cons.mp h with e | e
    · cases e
    · exact minP_le T (its := r) e
  | .s g' :: r, g, h => by
    rw [minP]
    rcases List.mem_cons.mp h with e | e
    · cases e
      cases minP T r with
      | none => exact ⟨_, rfl, Nat.le_refl _⟩
      | some q => exact ⟨_, rfl, Nat.min_le_left _ _⟩
    · obtain ⟨p, h1, h2⟩ := minP_le T e
      rw [h1]
      exact ⟨_, rfl, Nat.le_trans (Nat.min_le_right _ _) h2⟩
theorem minP_at (T : Tb) : ∀ {its : List It} {p : Nat}, minP T its = some p → ∃ g, .s g ∈ its ∧ tplace T g = p
  | [], _, h => nomatch h
  | .v b :: r, p, h => by
    obtain ⟨g, h1, h2⟩ := minP_at T (its := r) h
    exact ⟨g, List.mem_cons_of_mem _ h1, h2⟩
  | .s g' :: r, p, h => by
    rw [minP] at h
    cases hq : minP T r with
    | none => rw [hq] at h; cases h; exact ⟨g', by simp, rfl⟩
    | some q =>
      rw [hq] at h
      simp only [Option.some.injEq] at h
      obtain ⟨g, h1, h2⟩ := minP_at T hq
      by_cases hle : tplace T g' ≤ q
      · exact ⟨g', by simp, by rw [← h, Nat.min_eq_left hle]⟩
      · exact ⟨g, List.mem_cons_of_mem _ h1, by rw [← h, Nat.min_eq_right (by omega), h2]⟩
theorem minP_none (T : Tb) : ∀ {its : List It}, minP T its = none → ∀ it ∈ its, it.isS = false
  | [], _, _, h => nomatch h
  | .v b :: r, h, it, hi => by
    rcases List.mem_cons.mp hi with e | e
    · rw [e]; rfl
    · exact minP_none T (its := r) h it e
  | .s g :: r, h, _, _ => nomatch h
theorem frst_rst (T : Tb) (p : Nat) (its : List It) : (∃ k, frst T p its = some k ∧ tplace T (.ahd k) = p ∧ its = .s (.ahd k) :: rst T p its) ∨ (frst T p its = none ∧ rst T p its = its) := by
  cases hf : frst T p its with
  | none => exact .inr ⟨rfl, by unfold rst; rw [hf]; rfl⟩
  | some k =>
    refine .inl ⟨k, rfl, ?_⟩
    unfold rst
    rw [hf]
    cases its with
    | nil => cases hf
    | cons it r =>
      cases it with
      | v b => cases hf
      | s g =>
        cases g with
        | inf k => cases hf
        | ahd k' =>
          rw [frst] at hf
          split at hf
          · rename_i h; cases hf; exact ⟨h, rfl⟩
          · cases hf
/-! ### the machine over a part, above what waits already -/
theorem lStep_frame {T : Tb} {M : Mg} {S S0 : Stk} {o : Option Bool} {it : It} (h : ∀ g, it = .s g → ∀ x ∈ S0, x.1 < tplace T g) : lStep T M ⟨some (S ++ S0), o⟩ it = ⟨(lStep T M ⟨some S, o⟩ it).wait.map (· ++ S0), (lStep T M ⟨some S, o⟩ it).here⟩ := by
  cases it with
  | v b => rfl
  | s g =>
    have h0 := h g rfl
    cases g with
    | ahd k =>
      simp only [lStep, lAhd]
      have hc : ((tplace T (.ahd k) : Int) ≤ headP (S ++ S0)) ↔ ((tplace T (.ahd k) : Int) ≤ headP S) := by
        cases S with
        | nil =>
          cases S0 with
          | nil => exact Iff.rfl
          | cons x r =>
            have := h0 x (by simp)
            show ((tplace T (.ahd k) : Int) ≤ (x.1 : Int)) ↔ ((tplace T (.ahd k) : Int) ≤ -1)
            omega
        | cons x r => exact Iff.rfl
      by_cases hq : (tplace T (.ahd k) : Int) ≤ headP S
      · rw [if_pos hq, if_pos (hc.mpr hq)]; rfl
      · rw [if_neg hq, if_neg fun z => hq (hc.mp z)]; rfl
    | inf k =>
      cases o with
      | none => rfl
      | some b =>
        simp only [lStep, lInf]
        have hle : tplace T (.inf k) ≤ leastL T (tplace T (.inf k)) := by unfold leastL; split <;> omega
        have hpop : ∀ (S : Stk) (b : Bool), popL (leastL T (tplace T (.inf k))) (S ++ S0) b = ((popL (leastL T (tplace T (.inf k))) S b).1 ++ S0, (popL (leastL T (tplace T (.inf k))) S b).2) := by
          intro S
          induction S with
          | nil => intro b; rw [List.nil_append, popL_stop fun x hx => by have := h0 x hx; omega]; rfl
          | cons x r ih =>
            intro b
            obtain ⟨q, l⟩ := x
            rw [List.cons_append]
            simp only [popL]
            split
            · exact ih _
            · rfl
        rw [hpop]
        simp only
        generalize (popL (leastL T (tplace T (.inf k))) S b).1 = S1
        cases S1 with
        | nil => rw [List.nil_append, pushL_lt h0]; rfl
        | cons x r =>
          obtain ⟨q, f⟩ := x
          simp only [List.cons_append, pushL]
          split
          · split <;> rfl
          · rfl
theorem lRun_frame {T : Tb} {M : Mg} {S0 : Stk} : ∀ {its : List It} {s : LS}, (∀ g, .s g ∈ its → ∀ x ∈ S0, x.1 < tplace T g) → lRun T M ⟨s.wait.map (· ++ S0), s.here⟩ its = ⟨(lRun T M s its).wait.map (· ++ S0), (lRun T M s its).here⟩
  | [], _, _ => rfl
  | it :: r, s, h => by
    have ih := lRun_frame (T := T) (M := M) (S0 := S0) (its := r) (s := lStep T M s it) fun g hg => h g (List.mem_cons_of_mem _ hg)
    show lRun T M (lStep T M ⟨s.wait.map (· ++ S0), s.here⟩ it) r = _
    have e : lStep T M ⟨s.wait.map (· ++ S0), s.here⟩ it = ⟨(lStep T M s it).wait.map (· ++ S0), (lStep T M s it).here⟩ := by
      obtain ⟨w, o⟩ := s
      cases w with
      | none =>
        cases it with
        | v b => rfl
        | s g => cases g <;> rfl
      | some S => exact lStep_frame fun g e => h g (by rw [e]; simp)
    rw [e, ih]; rfl
/-- what waits comes from the signs -/
theorem pushL_mem {wd : Wd} {p : Nat} {line : Ln} {S S' : Stk} {Q : Nat → Prop} (hp : Q p) (hS : ∀ x ∈ S, Q x.1) (e : pushL wd p line S = some S') : (∀ x ∈ S', Q x.1) ∧ S' ≠ [] := by
  cases S with
  | nil => cases e; exact ⟨fun x hx => by rw [List.mem_singleton.mp hx]; exact hp, by simp⟩
  | cons y r =>
    obtain ⟨p', f⟩ := y
    rw [pushL] at e
    have hr : ∀ x ∈ r, Q x.1 := fun x hx => hS x (List.mem_cons_of_mem _ hx)
    split at e
    · split at e
      · cases e
      · cases e
        exact ⟨fun x hx => by rcases List.mem_cons.mp hx with z | z; (· rw [z]; exact hp); exact hr x z, by simp⟩
    · cases e
      exact ⟨fun x hx => by rcases List.mem_cons.mp hx with z | z; (· rw [z]; exact hp); exact hS x z, by simp⟩
theorem popL_mem {q : Nat} : ∀ {S : Stk} {b : Bool} {x : Nat × Ln}, x ∈ (popL q S b).1 → x ∈ S
  | [], _, _, h => h
  | (p, l) :: r, b, x, h => by
    rw [popL] at h
    split at h
    · exact List.mem_cons_of_mem _ (popL_mem h)
    · exact h
theorem lStep_mem {T : Tb} {M : Mg} {s : LS} {it : It} {Q : Nat → Prop} (hi : ∀ g, it = .s g → Q (tplace T g)) (hs : ∀ S, s.wait = some S → ∀ x ∈ S, Q x.1) : (∀ S, (lStep T M s it).wait = some S → (∀ x ∈ S, Q x.1) ∧ (it.isS = true → S ≠ [])) := by
  intro S hS
  cases it with
  | v b => exact ⟨hs S hS, fun z => nomatch z⟩
  | s g =>
    have hq := hi g rfl
    cases g with
    | ahd k =>
      simp only [lStep] at hS
      split at hS
      · cases hS
      · rename_i st hst
        simp only [lAhd] at hS
        split at hS
        · cases hS
        · cases hS
          exact ⟨fun x hx => by rcases List.mem_cons.mp hx with z | z; (· rw [z]; exact hq); exact hs _ hst x z, fun _ => by simp⟩
    | inf k =>
      simp only [lStep] at hS
      split at hS
      · rename_i st b hst hb
        obtain ⟨h1, h2⟩ := pushL_mem (Q := Q) hq (fun x hx => hs _ hst x (popL_mem hx)) hS
        exact ⟨h1, fun _ => h2⟩
      · cases hS
theorem lRun_mem {T : Tb} {M : Mg} {Q : Nat → Prop} : ∀ {its : List It} {s : LS}, (∀ g, .s g ∈ its → Q (tplace T g)) → (∀ S, s.wait = some S → ∀ x ∈ S, Q x.1) → ∀ S, (lRun T M s its).wait = some S → ∀ x ∈ S, Q x.1
  | [], _, _, hs => hs
  | it :: r, s, hi, hs => lRun_mem (its := r) (s := lStep T M s it) (fun g hg => hi g (List.mem_cons_of_mem _ hg)) fun S hS => (lStep_mem (fun g e => hi g (by rw [e]; simp)) hs S hS).1
/-- a sign ahead of the loosest level behind other things: not read -/
theorem ahd_dead {T : Tb} {M : Mg} {a b : List It} {k : Nat} {c : Bool} (hr : rdy false (a ++ .s (.ahd k) :: b) = some c) (ha : a ≠ []) (hq : ∀ g, .s g ∈ a → tplace T (.ahd k) ≤ tplace T g) : lTold T M (a ++ .s (.ahd k) :: b) = none := by
  have key : (lRun T M startL (a ++ .s (.ahd k) :: b)).wait = none := by
    rw [lRun_app]
    obtain ⟨a', it, rfl⟩ : ∃ a' it, a = a' ++ [it] := ⟨a.dropLast, a.getLast ha, (List.dropLast_concat_getLast ha).symm⟩
    have hit : it.isS = true := by
      have : ∀ (l : List It) (q : Bool) (c : Bool), rdy q (l ++ it :: .s (.ahd k) :: b) = some c → it.isS = true := by
        intro l
        induction l with
        | nil =>
          intro q c h
          rw [List.nil_append, rdy] at h
          split at h
          · rw [rdy] at h
            split at h
            · rename_i hc
              cases hi : it.isS with
              | true => rfl
              | false => rw [hi] at hc; cases hc
            · cases h
          · cases h
        | cons x l ih =>
          intro q c h
          rw [List.cons_append, rdy] at h
          split at h
          · exact ih _ _ h
          · cases h
      exact this a' false c (by simpa using hr)
    rw [lRun_app]
    show (lRun T M (lStep T M (lStep T M (lRun T M startL a') it) (.s (.ahd k))) b).wait = none
    refine lRun_dead ?_
    have h1 := lRun_mem (T := T) (M := M) (Q := fun q => tplace T (.ahd k) ≤ q) (its := a') (s := startL) (fun g hg => hq g (List.mem_append_left _ hg)) (fun S hS x hx => by cases hS; cases hx)
    have h2 := lStep_mem (T := T) (M := M) (it := it) (s := lRun T M startL a') (Q := fun q => tplace T (.ahd k) ≤ q) (fun g e => hq g (by rw [e]; simp)) h1
    generalize lStep T M (lRun T M startL a') it = s at h2
    simp only [lStep]
    split
    · rfl
    · rename_i S hS
      obtain ⟨q1, q2⟩ := h2 S hS
      cases S with
      | nil => exact absurd rfl (q2 hit)
      | cons x r =>
        have := q1 x (by simp)
        show lAhd T M (x :: r) k = none
        unfold lAhd
        rw [if_pos (by show (tplace T (.ahd k) : Int) ≤ (x.1 : Int); omega)]
  unfold lTold lEnd
  rw [key]
end Bk
set_option Elab.async false
set_option linter.all false
set_option autoImplicit false
set_option maxRecDepth 100000
namespace Bk
def newO (T : Tb) (M : Mg) (p : Nat) (o : Option Ln) (k : Nat) (b : Bool) : Option Ln := match o, tword T p with
  | some _, .non => none
  | some f, .left => some (sqAt M k (lat f b))
  | some f, .right => some (comp f (sqAt M k b))
  | none, _ => some (sqAt M k b)
theorem lInf_oe {T : Tb} {M : Mg} {p k : Nat} {o : Option Ln} {b : Bool} (h : tplace T (.inf k) = p) : lInf T M (oe p o) k b = (newO T M p o k b).map fun l => [(p, l)] := by
  unfold lInf newO leastL
  rw [h]
  cases o with
  | none =>
    simp only [oe, popL]
    cases tword T p <;> rfl
  | some f =>
    cases hw : tword T p with
    | left => simp [oe, popL, pushL]
    | right =>
      have : ¬ (p + 1 ≤ p) := by omega
      simp [oe, popL, pushL, this]
    | non =>
      have : ¬ (p + 1 ≤ p) := by omega
      simp [oe, popL, pushL, this]
theorem lInf_part {T : Tb} {M : Mg} {p k : Nat} {o : Option Ln} {b : Bool} {S : Stk} (h : tplace T (.inf k) = p) (hS : ∀ x ∈ S, p < x.1) : lInf T M (S ++ oe p o) k b = (newO T M p o k (lClose S b)).map fun l => [(p, l)] := by
  rw [← lInf_oe h]
  unfold lInf
  rw [popL_app fun x hx => by have := hS x hx; unfold leastL; split <;> omega]
def tlL (T : Tb) (M : Mg) (p : Nat) : Option Ln → Bool → List (Nat × Option Bool) → Option Bool
  | o, b, [] => some (ap o b)
  | o, b, (k, x) :: r => (newO T M p o k b).bind fun l => x.bind fun b1 => tlL T M p (some l) b1 r
theorem lClose_oe {p : Nat} {o : Option Ln} {b : Bool} : lClose (oe p o) b = ap o b := by cases o <;> rfl
theorem lEnd_dead {T : Tb} {M : Mg} {its : List It} {s : LS} (h : s.wait = none) : lEnd (lRun T M s its) = none := by
  unfold lEnd; rw [lRun_dead h]
/-- a part, above the loosest level -/
theorem part_run {T : Tb} {M : Mg} {p : Nat} {o : Option Ln} {a : List It} (ha : ∀ g, .s g ∈ a → p < tplace T g) (hr : rdy false a = some true) : (lTold T M a = none ∧ (lRun T M ⟨some (oe p o), none⟩ a).wait = none) ∨ ∃ S b, (∀ x ∈ S, p < x.1) ∧ lTold T M a = some (lClose S b) ∧ lRun T M ⟨some (oe p o), none⟩ a = ⟨some (S ++ oe p o), some b⟩ := by
  have hp : ∀ x ∈ oe p o, x.1 = p := fun x hx => by
    cases o with
    | none => cases hx
    | some l => rw [List.mem_singleton.mp hx]
  have hf := lRun_frame (T := T) (M := M) (S0 := oe p o) (its := a) (s := startL) fun g hg x hx => by rw [hp x hx]; exact ha g hg
  have hf' : lRun T M ⟨some (oe p o), none⟩ a = ⟨(lRun T M startL a).wait.map (· ++ oe p o), (lRun T M startL a).here⟩ := hf
  have hh := rdy_here (T := T) (M := M) (s := startL) hr
  have hm := lRun_mem (T := T) (M := M) (Q := fun q => p < q) (its := a) (s := startL) ha (fun S hS x hx => by cases hS; cases hx)
  rw [hf']
  unfold lTold lEnd
  obtain ⟨b, hb⟩ := Option.isSome_iff_exists.mp hh
  rw [hb]
  cases hw : (lRun T M startL a).wait with
  | none => exact .inl ⟨rfl, rfl⟩
  | some S => exact .inr ⟨S, b, hm S hw, rfl, rfl⟩
theorem tail_run {T : Tb} {M : Mg} {p : Nat} : ∀ {cs : List (Sg × List It)} {S : Stk} {o : Option Ln} {b : Bool}, (∀ x ∈ S, p < x.1) → (∀ x ∈ cs, x.1.isInf = true ∧ tplace T x.1 = p ∧ (∀ g, .s g ∈ x.2 → p < tplace T g) ∧ rdy false x.2 = some true) →
    lEnd (lRun T M ⟨some (S ++ oe p o), some b⟩ (flatC cs)) = tlL T M p o (lClose S b) (cs.map fun x => (x.1.k, lTold T M x.2))
  | [], S, o, b, _, _ => by
    show some (lClose (S ++ oe p o) b) = some (ap o (lClose S b))
    rw [lClose_append, lClose_oe]
  | (g, a) :: r, S, o, b, hS, hc => by
    obtain ⟨h1, h2, h3, h4⟩ := hc (g, a) (by simp)
    have hr := fun (x : Sg × List It) (hx : x ∈ r) => hc x (List.mem_cons_of_mem (g, a) hx)
    simp only at h3 h4
    cases g with
    | ahd k => cases h1
    | inf k =>
      have e : lRun T M ⟨some (S ++ oe p o), some b⟩ (flatC ((.inf k, a) :: r)) = lRun T M (lRun T M ⟨lInf T M (S ++ oe p o) k b, none⟩ a) (flatC r) := by
        rw [← lRun_app]; rfl
      rw [e, lInf_part h2 hS, List.map_cons, tlL]
      show _ = (newO T M p o k (lClose S b)).bind fun l => (lTold T M a).bind fun b1 => tlL T M p (some l) b1 (r.map fun (x : Sg × List It) => (x.1.k, lTold T M x.2))
      cases newO T M p o k (lClose S b) with
      | none => exact lEnd_dead (lRun_dead rfl)
      | some l =>
        rcases part_run (T := T) (M := M) (p := p) (o := some l) h3 h4 with ⟨k1, k2⟩ | ⟨S1, b1, k1, k2, k3⟩
        · rw [k1]
          exact lEnd_dead k2
        · rw [k2]
          show lEnd (lRun T M (lRun T M ⟨some (oe p (some l)), none⟩ a) (flatC r)) = tlL T M p (some l) (lClose S1 b1) _
          rw [k3, tail_run (cs := r) k1 hr]
/-! ### values of what is built -/
def vL (M : Mg) (a : Bool) : List (Nat × Bool) → Bool
  | [] => a
  | (k, b) :: r => vL M (lat (sqAt M k a) b) r
def vR (M : Mg) (a : Bool) : List (Nat × Bool) → Bool
  | [] => a
  | (k, b) :: r => lat (sqAt M k a) (vR M b r)
def sm (l : List (Nat × Bool)) : List (Nat × Option Bool) := l.map fun y => (y.1, some y.2)
theorem tl_left {T : Tb} {M : Mg} {p : Nat} (hw : tword T p = .left) : ∀ (l : List (Nat × Bool)) (o : Option Ln) (b : Bool), tlL T M p o b (sm l) = some (vL M (ap o b) l)
  | [], _, _ => rfl
  | (k, b1) :: r, o, b => by
    have ih := tl_left (M := M) hw r (some (sqAt M k (ap o b))) b1
    have e : newO T M p o k b = some (sqAt M k (ap o b)) := by unfold newO; rw [hw]; cases o <;> rfl
    show ((newO T M p o k b).bind fun l => (some b1).bind fun b1 => tlL T M p (some l) b1 (sm r)) = _
    rw [e]; exact ih
theorem tl_right {T : Tb} {M : Mg} {p : Nat} (hw : tword T p = .right) : ∀ (l : List (Nat × Bool)) (o : Option Ln) (b : Bool), tlL T M p o b (sm l) = some (ap o (vR M b l))
  | [], _, _ => rfl
  | (k, b1) :: r, o, b => by
    show ((newO T M p o k b).bind fun l => (some b1).bind fun b1 => tlL T M p (some l) b1 (sm r)) = _
    cases o with
    | none =>
      have e : newO T M p none k b = some (sqAt M k b) := by unfold newO; rw [hw]
      rw [e]
      exact tl_right (M := M) hw r (some (sqAt M k b)) b1
    | some f =>
      have e : newO T M p (some f) k b = some (comp f (sqAt M k b)) := by unfold newO; rw [hw]
      rw [e]
      refine (tl_right (M := M) hw r (some (comp f (sqAt M k b))) b1).trans ?_
      show some (lat (comp f (sqAt M k b)) _) = some (lat f (lat _ _))
      rw [lat_comp]
theorem tl_non {T : Tb} {M : Mg} {p : Nat} (hw : tword T p = .non) (l : List (Nat × Bool)) (o : Option Ln) (b : Bool) : tlL T M p o b (sm l) = if 1 < l.length + (if o.isSome = true then 1 else 0) then none else some (ap o (vR M b l)) := by
  have e1 : ∀ f k b, newO T M p (some f) k b = none := fun f k b => by unfold newO; rw [hw]
  have e0 : ∀ k b, newO T M p none k b = some (sqAt M k b) := fun k b => by unfold newO; rw [hw]
  cases l with
  | nil =>
    rw [if_neg (by cases o <;> simp)]
    rfl
  | cons x r =>
    obtain ⟨k, b1⟩ := x
    show ((newO T M p o k b).bind fun l => (some b1).bind fun b1 => tlL T M p (some l) b1 (sm r)) = _
    cases o with
    | some f => rw [e1, if_pos (by simp)]; rfl
    | none =>
      rw [e0]
      cases r with
      | nil => rfl
      | cons y r =>
        obtain ⟨k2, b2⟩ := y
        show ((newO T M p (some (sqAt M k b)) k2 b1).bind fun l => (some b2).bind fun b1 => tlL T M p (some l) b1 (sm r)) = _
        rw [e1, if_pos (by simp)]; rfl
theorem tl_none {T : Tb} {M : Mg} {p : Nat} : ∀ (l : List (Nat × Option Bool)) (o : Option Ln) (b : Bool), (∃ x ∈ l, x.2 = none) → tlL T M p o b l = none
  | [], _, _, h => by obtain ⟨_, h, _⟩ := h; cases h
  | (k, x) :: r, o, b, h => by
    rw [tlL]
    cases newO T M p o k b with
    | none => rfl
    | some l =>
      cases x with
      | none => rfl
      | some b1 =>
        refine tl_none r (some l) b1 ?_
        obtain ⟨y, h1, h2⟩ := h
        rcases List.mem_cons.mp h1 with e | e
        · rw [e] at h2; cases h2
        · exact ⟨y, e, h2⟩
def kv (M : Mg) (l : List (Nat × Tr)) : List (Nat × Bool) := l.map fun y => (y.1, y.2.val M)
theorem bldL_val (M : Mg) : ∀ (l : List (Nat × Tr)) (a : Tr), (bldL a l).val M = vL M (a.val M) (kv M l)
  | [], _ => rfl
  | (k, t) :: r, a => by rw [bldL, bldL_val M r]; rfl
theorem bldR_val (M : Mg) : ∀ (l : List (Nat × Tr)) (a : Tr), (bldR a l).val M = vR M (a.val M) (kv M l)
  | [], _ => rfl
  | (k, t) :: r, a => by
    rw [bldR]
    show lat (sqAt M k (a.val M)) ((bldR t r).val M) = _
    rw [bldR_val M r]; rfl
theorem fstT_val (M : Mg) (f : Option Nat) (t : Tr) : (fstT f t).val M = ap (f.map (lnAt M)) (t.val M) := by cases f <;> rfl
/-! ### rows parted -/
theorem rdy_app : ∀ (a c : List It) (b : Bool), rdy b (a ++ c) = (rdy b a).bind fun q => rdy q c
  | [], c, b => rfl
  | it :: a, c, b => by
    rw [List.cons_append, rdy, rdy]
    split
    · exact rdy_app a c _
    · rfl
theorem rdy_parts : ∀ {cs : List (Sg × List It)} {a : List It}, rdy false (a ++ flatC cs) = some true → (∀ x ∈ cs, x.1.isInf = true) → rdy false a = some true ∧ ∀ x ∈ cs, rdy false x.2 = some true
  | [], a, h, _ => ⟨by simpa [flatC] using h, fun _ h => nomatch h⟩
  | (g, a') :: r, a, h, hi => by
    have hg := hi (g, a') (by simp)
    rw [rdy_app] at h
    cases hq : rdy false a with
    | none => rw [hq] at h; cases h
    | some q =>
      rw [hq] at h
      have h' : rdy q (.s g :: (a' ++ flatC r)) = some true := h
      rw [rdy] at h'
      split at h'
      · rename_i hc
        obtain ⟨k1, k2⟩ := rdy_parts (cs := r) (a := a') h' fun x hx => hi x (List.mem_cons_of_mem _ hx)
        refine ⟨?_, fun x hx => ?_⟩
        · cases g with
          | ahd k => cases hg
          | inf k => cases q with
            | true => rfl
            | false => cases hc
        · rcases List.mem_cons.mp hx with z | z
          · rw [z]; exact k1
          · exact k2 x z
      · cases h'
theorem flatC_mem : ∀ {cs : List (Sg × List It)} {x : Sg × List It}, x ∈ cs → ∃ a b, flatC cs = a ++ .s x.1 :: b ∧ x.2.length + 1 ≤ (flatC cs).length
  | [], _, h => nomatch h
  | (g, a') :: r, x, h => by
    rcases List.mem_cons.mp h with z | z
    · subst z
      exact ⟨[], a' ++ flatC r, rfl, by simp [flatC]⟩
    · obtain ⟨a, b, e, hl⟩ := flatC_mem z
      exact ⟨.s g :: a' ++ a, b, by rw [flatC, e]; simp, by simp [flatC]; omega⟩
theorem flatC_it : ∀ {cs : List (Sg × List It)} {x : Sg × List It} {it : It}, x ∈ cs → it ∈ x.2 → it ∈ flatC cs
  | [], _, _, h, _ => nomatch h
  | (g, a') :: r, x, it, h, hi => by
    rw [flatC]
    rcases List.mem_cons.mp h with z | z
    · subst z
      exact List.mem_append_left _ (List.mem_cons_of_mem _ hi)
    · exact List.mem_append_right _ (flatC_it z hi)
/-- what stands of a row parted at its loosest signs -/
structure Parted (m : Mn) (T : Tb) (p : Nat) (its a : List It) (cs : List (Sg × List It)) (f : Option Nat) : Prop where
  va : RowV m a
  vc : ∀ x ∈ cs, RowV m x.2
  la : a.length < its.length
  lc : ∀ x ∈ cs, x.2.length < its.length
  pa : ∀ g, .s g ∈ a → p < tplace T g
  pc : ∀ x ∈ cs, x.1.isInf = true ∧ tplace T x.1 = p ∧ (∀ g, .s g ∈ x.2 → p < tplace T g) ∧ rdy false x.2 = some true
theorem parted {m : Mn} {T : Tb} {its : List It} {p : Nat} (h : RowV m its) (hp : minP T its = some p) (hi : (spl T p (rst T p its)).2.any (fun x => !x.1.isInf) = false) : Parted m T p its (spl T p (rst T p its)).1 (spl T p (rst T p its)).2 (frst T p its) := by
  have hi' : ∀ x ∈ (spl T p (rst T p its)).2, x.1.isInf = true := fun x hx => by
    have := List.any_eq_false.mp hi x hx
    simpa using this
  have hj := spl_join T p (rst T p its)
  have hsub : ∀ it ∈ rst T p its, it ∈ its := fun it hit => by
    rcases frst_rst T p its with ⟨k, _, _, e⟩ | ⟨_, e⟩
    · rw [e]; exact List.mem_cons_of_mem _ hit
    · rw [e] at hit; exact hit
  have hlen : (rst T p its).length ≤ its.length := by
    rcases frst_rst T p its with ⟨k, _, _, e⟩ | ⟨_, e⟩
    · have := congrArg List.length e
      rw [List.length_cons] at this; omega
    · rw [e]; exact Nat.le_refl _
  have hr : rdy false (rst T p its) = some true := by
    rcases frst_rst T p its with ⟨k, _, _, e⟩ | ⟨_, e⟩
    · have := h.run
      rw [e, rdy] at this
      split at this
      · exact this
      · cases this
    · rw [e]; exact h.run
  have hr2 := hr
  rw [← hj] at hr2
  obtain ⟨r1, r2⟩ := rdy_parts hr2 hi'
  have gt : ∀ g, (.s g ∈ (spl T p (rst T p its)).1 ∨ ∃ x ∈ (spl T p (rst T p its)).2, .s g ∈ x.2) → p < tplace T g := fun g hg => by
    obtain ⟨q1, q2⟩ := spl_part T p hg
    obtain ⟨p', q3, q4⟩ := minP_le T (hsub _ q2)
    rw [hp] at q3
    cases q3
    omega
  have hjl := congrArg List.length hj
  rw [List.length_append] at hjl
  refine ⟨⟨fun it hit => h.mem it (hsub it (by rw [← hj]; exact List.mem_append_left _ hit)), r1⟩, fun x hx => ⟨fun it hit => h.mem it (hsub it (by rw [← hj]; exact List.mem_append_right _ (flatC_it hx hit))), r2 x hx⟩, ?_, fun x hx => ?_, fun g hg => gt g (.inl hg), fun x hx => ⟨hi' x hx, spl_cut T p hx, fun g hg => gt g (.inr ⟨x, hx, hg⟩), r2 x hx⟩⟩
  · rcases frst_rst T p its with ⟨k, _, _, e⟩ | ⟨_, e⟩
    · have := congrArg List.length e
      rw [List.length_cons] at this; omega
    · cases hcs : (spl T p (rst T p its)).2 with
      | nil =>
        obtain ⟨g, q1, q2⟩ := minP_at T hp
        rw [hcs, show flatC [] = [] from rfl, List.append_nil] at hj
        have := gt g (.inl (by rw [hj, e]; exact q1))
        omega
      | cons x r =>
        obtain ⟨_, _, _, q⟩ := flatC_mem (cs := (spl T p (rst T p its)).2) (x := x) (by rw [hcs]; simp)
        omega
  · obtain ⟨_, _, _, q⟩ := flatC_mem hx
    omega
theorem parted_told {m : Mn} {T : Tb} {M : Mg} {its : List It} {p : Nat} {a : List It} {cs : List (Sg × List It)} (h : Parted m T p its a cs (frst T p its)) (e : rst T p its = a ++ flatC cs) : lTold T M its = match lTold T M a with
    | none => none
    | some b0 => tlL T M p ((frst T p its).map (lnAt M)) b0 (cs.map fun x => (x.1.k, lTold T M x.2)) := by
  have key : lTold T M its = lEnd (lRun T M (lRun T M ⟨some (oe p ((frst T p its).map (lnAt M))), none⟩ a) (flatC cs)) := by
    rw [← lRun_app, ← e]
    rcases frst_rst T p its with ⟨k, q1, q2, q3⟩ | ⟨q1, q3⟩
    · rw [q1]
      conv => lhs; rw [q3]
      show lEnd (lRun T M (lStep T M startL (.s (.ahd k))) (rst T p its)) = _
      congr 2
      have e1 : lAhd T M [] k = some [(tplace T (.ahd k), lnAt M k)] := by
        unfold lAhd
        rw [if_neg (show ¬ ((tplace T (.ahd k) : Int) ≤ headP []) by show ¬ ((tplace T (.ahd k) : Int) ≤ -1); omega)]
      show (⟨lAhd T M [] k, none⟩ : LS) = _
      rw [e1, q2]
      rfl
    · rw [q1, q3]; rfl
  rw [key]
  rcases part_run (T := T) (M := M) (p := p) (o := (frst T p its).map (lnAt M)) h.pa h.va.run with ⟨k1, k2⟩ | ⟨S, b, k1, k2, k3⟩
  · rw [k1]; exact lEnd_dead k2
  · rw [k2, k3, tail_run k1 h.pc]
theorem row_one {m : Mn} {T : Tb} {its : List It} (h : RowV m its) (hp : minP T its = none) : ∃ b, its = [.v b] := by
  have hr := h.run
  cases its with
  | nil => cases hr
  | cons it r =>
    have h1 := minP_none T hp it (by simp)
    cases it with
    | s g => cases h1
    | v b =>
      cases r with
      | nil => exact ⟨b, rfl⟩
      | cons it2 r2 =>
        have h2 := minP_none T hp it2 (by simp)
        cases it2 with
        | s g => cases h2
        | v b2 => simp [rdy, canF, It.isS] at hr
theorem lawT_told {m : Mn} {T : Tb} {M : Mg} : ∀ (n : Nat) {its : List It}, its.length ≤ n → RowV m its → (lawT T n its).map (Tr.val M) = lTold T M its
  | 0, its, hn, h => by
    have : its = [] := List.length_eq_zero_iff.mp (by omega)
    rw [this] at h
    cases h.run
  | n + 1, its, hn, h => by
    rw [lawT]
    cases hp : minP T its with
    | none =>
      obtain ⟨b, rfl⟩ := row_one h hp
      rfl
    | some p =>
      simp only
      by_cases hi : (spl T p (rst T p its)).2.any (fun x => !x.1.isInf) = true
      · rw [if_pos hi]
        obtain ⟨x, hx, hxi⟩ := List.any_eq_true.mp hi
        obtain ⟨a, b, e, _⟩ := flatC_mem hx
        have hcut := spl_cut T p hx
        have hj := spl_join T p (rst T p its)
        obtain ⟨g, pt⟩ := x
        cases g with
        | inf k => cases hxi
        | ahd k =>
          simp only at e hcut
          rw [e, ← List.append_assoc] at hj
          have main : ∀ a', its = a' ++ .s (.ahd k) :: b → a' ≠ [] → lTold T M its = none := fun a' e' ha' => by
            rw [e']
            refine ahd_dead (c := true) (by rw [← e']; exact h.run) ha' fun g hg => ?_
            obtain ⟨q, h1, h2⟩ := minP_le T (its := its) (g := g) (by rw [e']; exact List.mem_append_left _ hg)
            rw [hp] at h1
            cases h1
            rw [hcut]; exact h2
          symm
          rcases frst_rst T p its with ⟨k', q1, q2, q3⟩ | ⟨q1, q3⟩
          · exact main (.s (.ahd k') :: ((spl T p (rst T p its)).1 ++ a)) (by rw [List.cons_append, hj]; exact q3) (by simp)
          · refine main ((spl T p (rst T p its)).1 ++ a) (by rw [hj, q3]) fun z => ?_
            rw [z, List.nil_append, q3] at hj
            rw [← hj, frst, if_pos hcut] at q1
            cases q1
      · rw [Bool.not_eq_true] at hi
        rw [if_neg (by rw [hi]; decide)]
        have P := parted h hp hi
        have ha := lawT_told (T := T) (M := M) n (its := (spl T p (rst T p its)).1) (by have := P.la; omega) P.va
        have hc : ∀ x ∈ (spl T p (rst T p its)).2, (lawT T n x.2).map (Tr.val M) = lTold T M x.2 := fun x hx => lawT_told (T := T) (M := M) n (by have := P.lc x hx; omega) (P.vc x hx)
        rw [parted_told P (spl_join T p (rst T p its)).symm]
        generalize (spl T p (rst T p its)).1 = a at ha ⊢
        generalize (spl T p (rst T p its)).2 = cs at hc ⊢
        generalize frst T p its = f
        rw [← ha]
        cases hla : lawT T n a with
        | none => simp
        | some t0 =>
          simp only [Option.map_some, Option.getD_some]
          by_cases hn : ∃ x ∈ cs, lawT T n x.2 = none
          · obtain ⟨x, hx, hxn⟩ := hn
            rw [if_pos (by
              rw [Bool.or_eq_true]; refine .inl (List.any_eq_true.mpr ⟨none, ?_, rfl⟩)
              exact List.mem_cons_of_mem _ (List.mem_map.mpr ⟨x, hx, hxn⟩)), tl_none _ _ _ ⟨(x.1.k, lTold T M x.2), List.mem_map.mpr ⟨x, hx, rfl⟩, by rw [← hc x hx, hxn]; rfl⟩]
            rfl
          · have hall : ∀ x ∈ cs, ∃ t, lawT T n x.2 = some t := fun x hx => by
              cases hq : lawT T n x.2 with
              | none => exact absurd ⟨x, hx, hq⟩ hn
              | some t => exact ⟨t, rfl⟩
            have hsm : (cs.map fun x => (x.1.k, lTold T M x.2)) = sm (kv M (cs.map fun x => (x.1.k, (lawT T n x.2).getD (.v false)))) := by
              unfold sm kv
              rw [List.map_map, List.map_map]
              refine List.map_congr_left fun x hx => ?_
              obtain ⟨t, ht⟩ := hall x hx
              simp only [Function.comp]
              rw [← hc x hx, ht]; rfl
            rw [hsm]
            have hany : ((some t0 :: cs.map fun x => lawT T n x.2).any Option.isNone) = false := by
              refine List.any_eq_false.mpr fun o ho => ?_
              rcases List.mem_cons.mp ho with z | z
              · rw [z]; exact Bool.false_ne_true
              · obtain ⟨x, hx, e⟩ := List.mem_map.mp z
                obtain ⟨t, ht⟩ := hall x hx
                rw [← e, ht]; exact Bool.false_ne_true
            rw [hany, Bool.false_or]
            have hl : (kv M (cs.map fun x => (x.1.k, (lawT T n x.2).getD (.v false)))).length = cs.length := by simp [kv]
            have hm1 : (if (f.map (lnAt M)).isSome = true then 1 else 0) = many1 f := by cases f <;> rfl
            cases hw : tword T p with
            | left =>
              rw [tl_left hw]
              simp only [reduceCtorEq, decide_false, Bool.false_and, Bool.false_eq_true, if_false, Option.map_some, buildT, if_true]
              rw [bldL_val, fstT_val]
            | right =>
              rw [tl_right hw]
              simp only [reduceCtorEq, decide_false, Bool.false_and, Bool.false_eq_true, if_false, Option.map_some, buildT]
              rw [fstT_val, bldR_val]
            | non =>
              rw [tl_non hw, hl, hm1]
              simp only [decide_true, Bool.true_and, decide_eq_true_eq]
              by_cases h1 : 1 < cs.length + many1 f
              · rw [if_pos h1, if_pos h1]; rfl
              · rw [if_neg h1, if_neg h1]
                simp only [Option.map_some, buildT, reduceCtorEq, if_false]
                rw [fstT_val, bldR_val]
/-! ### what the law's tree is made of -/
theorem bldL_ok {m : Mn} : ∀ {l : List (Nat × Tr)} {a : Tr}, a.ok m → (∀ y ∈ l, Sg.inf y.1 ∈ allS m ∧ y.2.ok m) → (bldL a l).ok m
  | [], _, h, _ => h
  | (k, t) :: r, a, h, hl => bldL_ok (l := r) ⟨(hl (k, t) (by simp)).1, h, (hl (k, t) (by simp)).2⟩ fun y hy => hl y (List.mem_cons_of_mem _ hy)
theorem bldR_ok {m : Mn} : ∀ {l : List (Nat × Tr)} {a : Tr}, a.ok m → (∀ y ∈ l, Sg.inf y.1 ∈ allS m ∧ y.2.ok m) → (bldR a l).ok m
  | [], _, h, _ => h
  | (k, t) :: r, a, h, hl => ⟨(hl (k, t) (by simp)).1, h, bldR_ok (l := r) (hl (k, t) (by simp)).2 fun y hy => hl y (List.mem_cons_of_mem _ hy)⟩
def szl : List (Nat × Tr) → Nat
  | [] => 0
  | (_, t) :: r => t.sz + 1 + szl r
theorem bldL_sz : ∀ (l : List (Nat × Tr)) (a : Tr), (bldL a l).sz = a.sz + szl l
  | [], _ => rfl
  | (k, t) :: r, a => by rw [bldL, bldL_sz r]; simp only [Tr.sz, szl]; omega
theorem bldR_sz : ∀ (l : List (Nat × Tr)) (a : Tr), (bldR a l).sz = a.sz + szl l
  | [], _ => rfl
  | (k, t) :: r, a => by rw [bldR]; simp only [Tr.sz, szl]; rw [bldR_sz r]; omega
theorem szl_le {T : Tb} {n : Nat} : ∀ {cs : List (Sg × List It)}, (∀ x ∈ cs, ∃ t, lawT T n x.2 = some t ∧ t.sz + 1 ≤ x.2.length) → szl (cs.map fun x => (x.1.k, (lawT T n x.2).getD (.v false))) ≤ (flatC cs).length
  | [], _ => Nat.zero_le _
  | (g, a) :: r, h => by
    obtain ⟨t, h1, h2⟩ := h (g, a) (by simp)
    have ih := szl_le (T := T) (n := n) (cs := r) fun x hx => h x (List.mem_cons_of_mem _ hx)
    simp only [List.map_cons, szl, flatC, List.length_append, List.length_cons, h1, Option.getD_some]
    simp only at h2
    omega
theorem lawT_ok {m : Mn} {T : Tb} : ∀ (n : Nat) {its : List It} {t : Tr}, its.length ≤ n → RowV m its → lawT T n its = some t → t.ok m ∧ t.sz + 1 ≤ its.length
  | 0, its, t, hn, h, _ => by
    have : its = [] := List.length_eq_zero_iff.mp (by omega)
    rw [this] at h
    cases h.run
  | n + 1, its, t, hn, h, e => by
    rw [lawT] at e
    cases hp : minP T its with
    | none =>
      obtain ⟨b, rfl⟩ := row_one h hp
      rw [hp] at e
      have e' : some (Tr.v b) = some t := e
      cases e'
      exact ⟨trivial, Nat.le_refl _⟩
    | some p =>
      rw [hp] at e
      simp only at e
      split at e
      · cases e
      rename_i hi
      rw [Bool.not_eq_true] at hi
      split at e
      · cases e
      rename_i hany
      have P := parted h hp hi
      have hj := congrArg List.length (spl_join T p (rst T p its))
      rw [List.length_append] at hj
      rw [Bool.not_eq_true, Bool.or_eq_false_iff] at hany
      have hall : ∀ o ∈ (lawT T n (spl T p (rst T p its)).1 :: (spl T p (rst T p its)).2.map fun x => lawT T n x.2), ∃ t, o = some t := fun o ho => by
        have := List.any_eq_false.mp hany.1 o ho
        cases o with
        | none => exact absurd rfl this
        | some t => exact ⟨t, rfl⟩
      obtain ⟨t0, ht0⟩ := hall _ (List.mem_cons_self ..)
      have ha := lawT_ok n (its := (spl T p (rst T p its)).1) (by have := P.la; omega) P.va ht0
      have hc : ∀ x ∈ (spl T p (rst T p its)).2, ∃ t, lawT T n x.2 = some t ∧ t.ok m ∧ t.sz + 1 ≤ x.2.length := fun x hx => by
        obtain ⟨t, ht⟩ := hall (lawT T n x.2) (List.mem_cons_of_mem _ (List.mem_map.mpr ⟨x, hx, rfl⟩))
        exact ⟨t, ht, lawT_ok n (its := x.2) (by have := P.lc x hx; omega) (P.vc x hx) ht⟩
      have hsub : ∀ it ∈ rst T p its, it ∈ its := fun it hit => by
        rcases frst_rst T p its with ⟨k, _, _, e⟩ | ⟨_, e⟩
        · rw [e]; exact List.mem_cons_of_mem _ hit
        · rw [e] at hit; exact hit
      have hl : ∀ y ∈ ((spl T p (rst T p its)).2.map fun x => (x.1.k, (lawT T n x.2).getD (.v false))), Sg.inf y.1 ∈ allS m ∧ y.2.ok m := fun y hy => by
        obtain ⟨x, hx, rfl⟩ := List.mem_map.mp hy
        obtain ⟨t, ht, hto, _⟩ := hc x hx
        refine ⟨?_, by simp only; rw [ht]; exact hto⟩
        obtain ⟨a', b', e', _⟩ := flatC_mem hx
        have hin : It.s x.1 ∈ its := hsub _ (by rw [← spl_join T p (rst T p its), e']; simp)
        have := h.mem _ hin x.1 rfl
        have hinf := (P.pc x hx).1
        obtain ⟨g, pt⟩ := x
        cases g with
        | inf k => exact this
        | ahd k => cases hinf
      have hs := szl_le (T := T) (n := n) (cs := (spl T p (rst T p its)).2) fun x hx => by
        obtain ⟨t, ht, _, h2⟩ := hc x hx
        exact ⟨t, ht, h2⟩
      cases e
      rw [ht0]
      simp only [Option.getD_some]
      rcases frst_rst T p its with ⟨k, q1, q2, q3⟩ | ⟨q1, q3⟩
      · have hk := h.mem (.s (.ahd k)) (by rw [q3]; simp) _ rfl
        have hlen := congrArg List.length q3
        rw [List.length_cons] at hlen
        rw [q1]
        unfold buildT fstT
        by_cases hw : tword T p = .left
        · rw [if_pos hw]
          refine ⟨bldL_ok ⟨hk, ha.1⟩ hl, ?_⟩
          rw [bldL_sz]; simp only [Tr.sz]; omega
        · rw [if_neg hw]
          refine ⟨⟨hk, bldR_ok ha.1 hl⟩, ?_⟩
          simp only [Tr.sz]; rw [bldR_sz]; omega
      · rw [q3] at hj
        rw [q1]
        unfold buildT fstT
        by_cases hw : tword T p = .left
        · rw [if_pos hw]
          refine ⟨bldL_ok ha.1 hl, ?_⟩
          rw [bldL_sz]
          rw [q3] at ha hs ⊢
          show t0.sz + _ + 1 ≤ _
          omega
        · rw [if_neg hw]
          refine ⟨bldR_ok ha.1 hl, ?_⟩
          simp only
          rw [bldR_sz]
          rw [q3] at ha hs ⊢
          omega
end Bk
set_option Elab.async false
set_option linter.all false
set_option autoImplicit false
set_option maxRecDepth 100000
set_option maxHeartbeats 1000000
namespace Bk
open PySem L2
/-- the draws: their numbers, the list of the two -/
def dr (q pd : Addr) (t : Int) (ns : List Int) : GL := [(q, .lst (ns.map .int)), (pd, .lst [.adr q, .int t])]
def preDraw : Pre := fun ds B G post => ∃ q pd t ns, ∃ (lim : Int) (R : GL), G = dr q pd t ns ++ R ∧ ns ≠ [] ∧ 0 < lim ∧ lim < 1000 ∧ ds = [.adr pd, .int lim] ∧
  ∀ (r t' : Int) (ns' : List Int), 0 ≤ r → r < lim → ns' ≠ [] → post (.int r) (dr q pd t' ns' ++ R)
section
variable {X : Cx} {B : Hp} {ρ : Sls} {G : GL} {D : DE}
theorem el_if {a b c : Expr} {x : Bool} {ys : List Dat} {pos : Pos} (hc : Et X B ρ G c x) (h1 : x = true → El X B ρ G a ys) (h2 : x = false → El X B ρ G b ys) : El X B ρ G (.IfExp c a b pos) ys := fun σ H r s Q q =>
  WE.of (pe_ifExp pt_w pe_w pe_w) (hc σ H r s _ fun H2 e2 => by
    cases x with
    | true => exact iteT (h1 rfl σ H2 (r.ext e2) (s.ext e2) Q fun p vs H3 hp e3 hl i3 => q p vs H3 (e2.free hp) (e2.trans e3) hl i3)
    | false => exact iteF (h2 rfl σ H2 (r.ext e2) (s.ext e2) Q fun p vs H3 hp e3 hl i3 => q p vs H3 (e2.free hp) (e2.trans e3) hl i3))
end
section
variable {P : Program} {w : World} {K : PySem.W.Frag} {mg : Str → Option Value} {base : Heap}
theorem k_law_draw (T0 : Tx P w K mg) : Kn P w K mg base "_law_draw" 1 preDraw := by
  refine kn_law_draw T0 (fun ds B G post h => by obtain ⟨q, pd, t, ns, lim, R, _, _, _, _, rfl, _⟩ := h; rfl) fun cdv A outer s H E hr ds B G post h => ?_
  obtain ⟨q, pd, t, ns, lim, R, rfl, hns, hl0, hl1, rfl, h⟩ := h
  have hpos : 0 < (ns.length : Int) := by
    cases ns with
    | nil => exact absurd rfl hns
    | cons n ns => simp
  have memP : ∀ (t : Int) (ns : List Int), (pd, DO.lst [.adr q, .int t]) ∈ dr q pd t ns ++ R := fun t ns => by simp [dr]
  have memQ : ∀ (t : Int) (ns : List Int), (q, DO.lst (ns.map .int)) ∈ dr q pd t ns ++ R := fun t ns => by simp [dr]
  refine ss_v (i := 2) (ev_ixL (d := .adr q) (vv 0) ev_int (lat_mem (memP t ns)) (by rfl)) ?_ sc_law_draw.nd
  refine ss_cons (s1_setix (p := pd) (k := 1) (Ev.w (d := .int (t + 1)) (ev_add (ev_ixL (d := .int t) (vv 0) ev_int (lat_mem (memP t ns)) (by rfl)) ev_int)) (fun d G' ⟨e1, e2⟩ => ⟨vv 0, ev_int, 1, [.adr q, .int t], 1, by rw [e2]; rfl, by rfl, ?_⟩))
  rw [e1, e2]
  show Ss _ _ _ (dr q pd (t + 1) ns ++ R) _ _
  clear e1 e2
  refine ss_v (i := 3) (d := .int ((t + 1) % (ns.length : Int))) (Ev.as ?_ (ev_mod (ev_ixL (d := .int (t + 1)) (vv 0) ev_int (lat_mem (memP (t + 1) ns)) (by rfl)) (ev_lenL rfl T0.f_len (vv 2) (lat_mem (memQ (t + 1) ns))) ?_)) ?_ sc_law_draw.nd
  · rw [List.length_map]
  · rw [List.length_map]; exact hpos
  obtain ⟨a, ha⟩ : ∃ a : Nat, (t + 1) % (ns.length : Int) = (a : Int) := ⟨((t + 1) % (ns.length : Int)).toNat, by rw [Int.toNat_of_nonneg (Int.emod_nonneg _ (by omega))]⟩
  have hlt : a < ns.length := by have := Int.emod_lt_of_pos (t + 1) hpos; omega
  rw [ha]
  refine ss_v (i := 4) (d := .int ns[a]) (ev_ixL (vv 2) (vv 3) (lat_mem (memQ (t + 1) ns)) (atI_nat (by simp [hlt]))) ?_ sc_law_draw.nd
  generalize hcell : ns[a] = cell
  refine ss_guard (et_ge (vv 4) ev_int) (fun hx => ?_) (fun hx => ?_)
  · refine ss_cons (s1_setix (p := q) (k := a) (Ev.w (d := .int (cell / lim)) (ev_fdiv (vv 4) (vv 1) ⟨hl0, by omega⟩)) (fun d G' ⟨e1, e2⟩ => ⟨vv 2, vv 3, 0, ns.map .int, a, by rw [e2]; rfl, ?_, ?_⟩))
    · have : ixN (ns.map Dat.int).length (a : Int) = some a := by
        unfold ixN
        have h1 : ¬ ((a : Int) < 0) := by omega
        simp [h1, hlt]
      exact this
    · rw [e1, e2]
      have e3 : (dr q pd (t + 1) ns ++ R).set 0 (q, DO.lst ((ns.map Dat.int).set a (.int (cell / lim)))) = dr q pd (t + 1) (ns.set a (cell / lim)) ++ R := by simp [dr, List.map_set]
      rw [e3]
      refine ss_r (ev_mod (vv 4) (vv 1) hl0) (h _ _ _ (Int.emod_nonneg _ (by omega)) (Int.emod_lt_of_pos _ hl0) ?_)
      intro z
      have := congrArg List.length z
      simp at this
      exact hns this
  · refine ss_v (i := 5) (ev_mod (ev_add (vv 4) (ev_mul ev_int (ev_ixL (d := .int (t + 1)) (vv 0) ev_int (lat_mem (memP (t + 1) ns)) (by rfl)) (.inl ⟨by decide, by decide⟩))) ev_int (by decide)) ?_ sc_law_draw.nd
    generalize hmx : (cell + 104729 * (t + 1)) % 4294967291 = mx
    have b1 : 0 ≤ mx := by rw [← hmx]; exact Int.emod_nonneg _ (by decide)
    have b2 : mx < 4294967291 := by rw [← hmx]; exact Int.emod_lt_of_pos _ (by decide)
    refine ss_v (i := 5) (ev_mod (ev_pow (vv 5) ev_int ⟨by decide, by decide, by omega⟩) ev_int (by decide)) ?_ sc_law_draw.nd
    refine ss_r (ev_mod (ev_fdiv (ev_mod (ev_add (ev_mul (ev_fdiv (vv 5) ev_int ⟨by decide, by decide⟩) ev_int (.inr ⟨by decide, by decide⟩)) (vv 5)) ev_int (by decide)) ev_int ⟨by decide, by decide⟩) (vv 1) hl0) (h _ _ _ (Int.emod_nonneg _ (by omega)) (Int.emod_lt_of_pos _ hl0) hns)
end
end Bk
set_option Elab.async false
set_option linter.all false
set_option autoImplicit false
set_option maxRecDepth 100000
set_option maxHeartbeats 1000000
namespace Bk
open PySem L2
section
variable {X : Cx} {B : Hp} {ρ : Sls} {G : GL} {D : DE}
theorem ew_ixLW {a b : Expr} {p : Addr} {pos : Pos} {p0 post : Dat → GL → Prop} (ha : Ev X B ρ G a (.adr p)) (hb : Ew X B ρ G b p0) (hk : ∀ d G', p0 d G' → ∃ i ds c, d = .int i ∧ Lat B G' p ds ∧ L2.atI ds i = some c ∧ post c G') (hs : PlainIx b := by exact fun _ _ => rfl) : Ew X B ρ G (.Subscript a b pos) post := fun σ H r s Q q =>
  WE.of (pe_ix ix_list pe_w pe_w hs) (ha σ H r s _ fun x H1 e1 i1 => hb σ H1 (r.ext e1) (s.ext e1) _ fun y H2 d G' r' t i2 z => by
    obtain ⟨i, ds, c, rfl, hj, hi, hp⟩ := hk d G' z
    simp only [Is] at i1 i2
    obtain ⟨vs, h1, h2⟩ := r'.lat hj
    obtain ⟨v, h3, h4⟩ := h2.atI hi
    exact ⟨p, vs, i, v, i1, i2, SqL.of h1, h3, q v H2 c G' r' ((TK.of e1).trans t) h4 hp⟩)
/-- the script: a list that one may only read -/
theorem et_neEmpS {a : Expr} {q1 : Addr} {xs : List V} {pos p2 : Pos} (hu : X.A.units + 64 < cLine) (ha : Ev X B ρ G a (.adr q1)) (hj : ∀ H, Same B H → SqL X.K H q1 xs) : Et X B ρ G (.Compare a [.NotEq] [.List [] p2] pos) (!xs.isEmpty) := fun σ H r s Q q =>
  WT.of (pt_cmpR (op_neEmp (by omega)) pe_w (pe_lst pa_nil) (nomark _)) (ha σ H r s _ fun x H1 e1 i1 => ⟨by decide, fun l hl => by
    simp only [Is] at i1
    exact ⟨q1, l, xs, i1, rfl, hj _ ((r.base.trans e1).trans (Same.new hl)), SqL.of upd_same, _, rfl, q _ (e1.trans (Same.new hl))⟩⟩)
theorem el_listS {e : Expr} {p pos : Pos} {q1 : Addr} {xs : List V} {ys : List Dat} (hm : X.mg "list" = none) (ha : Ev X B ρ G e (.adr q1)) (hj : ∀ H, Same B H → SqL X.K H q1 xs) (hy : ∀ H, IsAll H ys xs) (hg : Gl X "list" := by rfl)
    (he : starEach [e] X.env = (false, eval e X.env) :: starEach [] X.env := by rfl) : El X B ρ G (.Call (.Name "list" p) [e] [] pos) ys :=
  el_ct call_list_of hg hm (by decide +kernel) ha (fun H v r i Q q => by
    simp only [Is] at i
    exact ⟨q1, xs, by rw [i], .inl (hj H r.base), fun l hl => q l xs _ hl (Same.new hl) upd_same (hy _)⟩) (he := he)
end
section
variable {P : Program} {w : World} {K : PySem.W.Frag} {mg : Str → Option Value} {base : Heap}
def preStart (K : PySem.W.Frag) : Pre := fun ds B G post => ∃ a, ∃ (ns : List Int), (∀ H, Same B H → SqL K H a (ns.map V.int)) ∧ G = [] ∧ ds = [.adr a] ∧ ∀ q pd (t : Int) (ns' : List Int), ns' ≠ [] → post (.adr pd) (dr q pd t ns')
theorem k_law_start (T0 : Tx P w K mg) : Kn P w K mg base "_law_start" 1 (preStart K) := by
  refine kn_law_start T0 (fun ds B G post h => by obtain ⟨a, ns, _, _, rfl, _⟩ := h; rfl) fun cdv A outer s H E hr ds B G post h => ?_
  obtain ⟨a, ns, hS, rfl, rfl, h⟩ := h
  refine ss_retW (ew_lstW (post := fun ds G' => ∃ q ns', ns' ≠ [] ∧ ds = [.adr q, .int 0] ∧ G' = [(q, .lst ((ns' : List Int).map .int))]) (eaw_l (ys := (if ns.isEmpty = true then [0] else ns).map .int) (el_if (et_neEmpS (xs := ns.map V.int) hr.units (vv 0) hS) (fun hx => El.as ?_ (el_listS (ys := ns.map .int) T0.f_list (vv 0) hS fun H => of_ints ns)) (fun hx => El.as ?_ (el_lst (ea_cons ev_int ea_nil) (by simp)))) fun q h1 h2 => eaw_v ev_int (eaw_nil ⟨q, _, ?_, rfl, rfl⟩)) (by simp) (fun ds G' ⟨q, ns', _, e, _⟩ => by rw [e]; rfl)) (fun d G' ⟨p, ds, G2, e1, ⟨q, ns', hn, e2, e3⟩, _, _, e4⟩ => ?_)
  · cases ns with
    | nil => cases hx
    | cons n ns => rfl
  · cases ns with
    | nil => rfl
    | cons n ns => cases hx
  · cases ns <;> simp
  · rw [e1, e4, e3, e2]; exact h q p 0 ns' hn
def prePick : Pre := fun ds B G post => ∃ q pd t ns p cs, ∃ (R : GL), G = dr q pd t ns ++ R ∧ ns ≠ [] ∧ ds = [.adr pd, .adr p] ∧ (p, DO.lst cs) ∈ R ∧ 0 < cs.length ∧ cs.length < 1000 ∧
  ∀ d ∈ cs, ∀ (t' : Int) (ns' : List Int), ns' ≠ [] → post d (dr q pd t' ns' ++ R)
theorem k_law_pick (T0 : Tx P w K mg) : Kn P w K mg base "_law_pick" 2 prePick := by
  refine kn_law_pick T0 (fun ds B G post h => by obtain ⟨q, pd, t, ns, p, cs, R, _, _, rfl, _⟩ := h; rfl) fun cdv A outer s H E hr ds B G post h => ?_
  obtain ⟨q, pd, t, ns, p, cs, R, rfl, hns, rfl, hm, h0, h1, h⟩ := h
  have lt : ∀ (t : Int) (ns : List Int), Lat B (dr q pd t ns ++ R) p cs := fun t ns => lat_mem (List.mem_append_right _ hm)
  refine ss_retW (ew_ixLW (p := p) (vv 1) (ew_call (post := fun d G' => ∃ (r t' : Int) (ns' : List Int), 0 ≤ r ∧ r < cs.length ∧ ns' ≠ [] ∧ d = .int r ∧ G' = dr q pd t' ns' ++ R) (k_law_draw T0) hr rfl (ea_cons (vv 0) (ea_cons (ev_lenL rfl T0.f_len (vv 1) (lt t ns)) ea_nil)) ⟨q, pd, t, ns, cs.length, R, rfl, hns, by omega, by omega, rfl, fun r t' ns' a b c => ⟨r, t', ns', a, b, c, rfl, rfl⟩⟩)
    (post := fun d G' => d ∈ cs ∧ ∃ (t' : Int) (ns' : List Int), ns' ≠ [] ∧ G' = dr q pd t' ns' ++ R) fun d G' ⟨r, t', ns', a, b, c, e1, e2⟩ => ?_) (fun d G' ⟨h2, t', ns', h3, e⟩ => by rw [e]; exact h d h2 t' ns' h3)
  obtain ⟨j, hj⟩ : ∃ j : Nat, r = (j : Int) := ⟨r.toNat, by omega⟩
  have hjl : j < cs.length := by omega
  refine ⟨j, cs, cs[j], by rw [e1, hj], by rw [e2]; exact lt _ _, atI_nat (by simp [hjl]), List.getElem_mem hjl, t', ns', c, e2⟩
def mnD (m : Mn) : Dat := .tup [.int (m.1 : Nat), .int (m.2 : Nat)]
def manyL : List Dat := [.tup [.int 1, .int 0], .tup [.int 1, .int 1], .tup [.int 1, .int 2], .tup [.int 2, .int 0], .tup [.int 2, .int 0], .tup [.int 2, .int 1], .tup [.int 2, .int 1], .tup [.int 3, .int 0]]
theorem manyL_mem {d : Dat} (h : d ∈ manyL) : ∃ m, okM m ∧ d = mnD m := by
  simp only [manyL, List.mem_cons, List.mem_nil_iff, or_false] at h
  rcases h with rfl | rfl | rfl | rfl | rfl | rfl | rfl | rfl
  · exact ⟨(1, 0), by simp [okM], rfl⟩
  · exact ⟨(1, 1), by simp [okM], rfl⟩
  · exact ⟨(1, 2), by simp [okM], rfl⟩
  · exact ⟨(2, 0), by simp [okM], rfl⟩
  · exact ⟨(2, 0), by simp [okM], rfl⟩
  · exact ⟨(2, 1), by simp [okM], rfl⟩
  · exact ⟨(2, 1), by simp [okM], rfl⟩
  · exact ⟨(3, 0), by simp [okM], rfl⟩
def preMany : Pre := fun ds B G post => ∃ q pd t ns, ∃ (R : GL), G = dr q pd t ns ++ R ∧ ns ≠ [] ∧ ds = [.adr pd] ∧ ∀ (m : Mn) (t' : Int) (ns' : List Int), okM m → ns' ≠ [] → post (mnD m) (dr q pd t' ns' ++ R)
def rLawSigns (ds : List Dat) (_ : Hp) (d : Dat) : Prop := ∃ m, okM m ∧ ds = [mnD m] ∧ d = .str (txt (allS m))
theorem k_law_signs (T0 : Tx P w K mg) : Kn P w K mg base "_law_signs" 1 (preR rLawSigns) := by
  refine kn_law_signs T0 (fun ds B G post h => by obtain ⟨d, ⟨m, _, rfl, _⟩, _⟩ := h; rfl) fun cdv A outer s H E hr ds B G post h => ?_
  obtain ⟨d, ⟨m, hm, rfl, rfl⟩, h⟩ := h
  refine ss_r (Ev.as ?_ (ev_addS (ev_slS ev_str pt0 (pt1 (ev_ixT (d := .int (m.1 : Nat)) (vv 0) ev_int rfl)) (by decide)) (ev_slS ev_str pt0 (pt1 (ev_ixT (d := .int (m.2 : Nat)) (vv 0) ev_int rfl)) (by decide)) ?_)) h
  · congr 1
    exact okM_cases (p := fun m => cutS "abc" none (some (m.1 : Int)) ++ cutS "pq" none (some (m.2 : Int)) = txt (allS m)) hm rfl rfl rfl rfl rfl rfl
  · exact okM_cases (p := fun m => (cutS "abc" none (some (m.1 : Int))).length + (cutS "pq" none (some (m.2 : Int))).length ≤ sizeLine) hm (by decide) (by decide) (by decide) (by decide) (by decide) (by decide)
end
end Bk
set_option Elab.async false
set_option linter.all false
set_option autoImplicit false
set_option maxRecDepth 100000
set_option maxHeartbeats 1000000
namespace Bk
open PySem L2
section
variable {X : Cx} {B : Hp} {ρ : Sls} {G : GL} {D : DE}
/-- a new list's item -/
theorem ev_ixN {a b : Expr} {ds : List Dat} {i : Int} {d : Dat} {pos : Pos} (ha : El X B ρ G a ds) (hb : Ev X B ρ G b (.int i)) (hi : L2.atI ds i = some d) (hs : PlainIx b := by exact fun _ _ => rfl) : Ev X B ρ G (.Subscript a b pos) d := fun σ H rp s Q q =>
  WE.of (pe_ix ix_list pe_w pe_w hs) (ha σ H rp s _ fun p vs H1 hp e1 hl i1 => hb σ H1 (rp.ext e1) (s.ext e1) _ fun y H2 e2 i2 => by
    simp only [Is] at i2
    obtain ⟨v, h1, h2⟩ := (IsAll.mono (.of e2) _ _ i1).atI hi
    exact ⟨p, vs, i, v, rfl, i2, SqL.of (e2 _ _ hl), h1, q v H2 (e1.trans e2) h2⟩)
end
theorem filter_head {n : Nat} {f : Nat → Bool} {k : Nat} (hk : k < n) (h1 : f k = true) (h2 : ∀ j, j < k → f j = false) : ((List.range n).filter f)[0]? = some k := by
  have e : List.range n = List.range k ++ (List.range (n - k)).map (k + ·) := by rw [← List.range_add]; congr 1; omega
  rw [e, List.filter_append]
  have z : (List.range k).filter f = [] := List.filter_eq_nil_iff.mpr fun j hj => by rw [h2 j (List.mem_range.mp hj)]; decide
  rw [z, List.nil_append]
  have : n - k = (n - k - 1) + 1 := by omega
  rw [this, List.range_succ_eq_map, List.map_cons, List.filter_cons]
  simp [h1]
section
variable {P : Program} {w : World} {K : PySem.W.Frag} {mg : Str → Option Value} {base : Heap}
def rLawTrue (ds : List Dat) (_ : Hp) (d : Dat) : Prop := ∃ a b, ds = [.bl a, .bl b] ∧ d = .bl (decide (a = b))
theorem k_law_true (T0 : Tx P w K mg) : Kn P w K mg base "_law_true" 1 (preR rLawTrue) := by
  refine kn_law_true T0 (fun ds B G post h => by obtain ⟨d, ⟨a, b, rfl, _⟩, _⟩ := h; rfl) fun cdv A outer s H E hr ds B G post h => ?_
  obtain ⟨d, ⟨a, b, rfl, rfl⟩, h⟩ := h
  exact ss_r (ev_and2 (x := true) (ev_isT (d := .bl a) T0.f_isinstance T0.f_bool (vv 0) (fun _ h => nomatch h) (kit_bool (.bl a) (fun _ h => nomatch h))) fun _ => ev_eqB (vv 0) (vv 1)) h
def rLawPlace (ds : List Dat) (_ : Hp) (d : Dat) : Prop := ∃ m T g, TbOk m T ∧ g ∈ allS m ∧ ds = [tbD T, sgD g] ∧ d = .int (tplace T g : Nat)
theorem k_law_place (T0 : Tx P w K mg) : Kn P w K mg base "_law_place" 1 (preR rLawPlace) := by
  refine kn_law_place T0 (fun ds B G post h => by obtain ⟨d, ⟨m, T, g, _, _, rfl, _⟩, _⟩ := h; rfl) fun cdv A outer s H E hr ds B G post h => ?_
  obtain ⟨d, ⟨m, T, g, hT, hg, rfl, rfl⟩, h⟩ := h
  obtain ⟨hp1, hp2⟩ := hT.place hg
  have h3 := hT.len
  refine ss_r (ev_ixN (ds := ((List.range T.length).filter fun k => (T.getD k (.left, [])).2.contains g).map fun (k : Nat) => Dat.int (k : Int)) (el_lc1I (i := 2) sc_law_place.nd (bk n_law_place s_law_place) (lc_if (List.range T.length) (fun (k : Nat) => Dat.int (k : Int)) (fun k => (T.getD k (.left, [])).2.contains g) (fun (k : Nat) => Dat.int (k : Int)) (Src.as ?_ (srcS_range (n := ((T.map lvD).length : Nat)) (ev_lenT rfl T0.f_len (vv 0)) (by omega) (by rw [List.length_map]; omega) rfl T0.f_range)) ?_ fun k hk => ⟨_, rdw_name (by simp), fun s H0 C cl fp => ?_, fun _ s H0 C cl fp => vv 2⟩)) ev_int ?_) h
  · rw [List.length_map]; rfl
  · rw [List.length_range]; exact Nat.le_trans h3 (by decide)
  · have hkl := List.mem_range.mp hk
    refine Et.as ?_ (et_inS (c := sgC g) (vv 1) (ev_ixT (ds := [.str (wdS (tword T k)), .str (txt (T[k]).2)]) (ev_ixT (vv 0) (vv 2) (atI_nat (lv_get hkl))) ev_int rfl))
    have e : T.getD k (.left, []) = T[k] := by simp [List.getD, hkl]
    rw [e, txt_list]
    have hlv := List.getElem_mem hkl
    have : (sgC g ∈ (T[k]).2.map sgC) ↔ (T[k]).2.contains g = true := by
      constructor
      · intro hm
        obtain ⟨g', h1, h2⟩ := List.mem_map.mp hm
        have := sgC_inj (hT.mem hlv h1) hg hT.okm h2
        subst this
        simpa using h1
      · intro hc
        exact List.mem_map.mpr ⟨g, by simpa using hc, rfl⟩
    by_cases hc : (T[k]).2.contains g = true
    · rw [hc]; exact decide_eq_true (this.mpr hc)
    · rw [Bool.not_eq_true] at hc
      rw [hc]
      refine decide_eq_false fun z => ?_
      rw [this.mp z] at hc; cases hc
  · refine atI_nat (i := 0) ?_
    rw [List.getElem?_map, filter_head (k := tplace T g) hp2 ?_ ?_]
    · rfl
    · have e : T.getD (tplace T g) (.left, []) = T[tplace T g] := by simp [List.getD, hp2]
      rw [e]
      exact List.findIdx_getElem (w := hp2)
    · intro j hj
      have hjl : j < T.length := by omega
      have e : T.getD j (.left, []) = T[j] := by simp [List.getD, hjl]
      rw [e]
      have := List.not_of_lt_findIdx (p := fun l : Lv => l.2.contains g) hj
      simpa using this
end
end Bk
set_option Elab.async false
set_option linter.all false
set_option autoImplicit false
set_option maxRecDepth 100000
set_option maxHeartbeats 1000000
namespace Bk
open PySem L2
section
variable {P : Program} {w : World} {K : PySem.W.Frag} {mg : Str → Option Value} {base : Heap}
def rLawItems (ds : List Dat) (_ : Hp) (ys : List Dat) : Prop := ∃ m b, okM m ∧ ds = [mnD m, .bl b, .int 2] ∧ ys = ((chI m).filter (canF b)).map itD
theorem items_true {m : Mn} (hm : okM m) : (chars (cutS "abc" none (some (m.1 : Int)))).map Dat.str = ((chI m).filter (canF true)).map itD :=
  okM_cases (p := fun m => (chars (cutS "abc" none (some (m.1 : Int)))).map Dat.str = ((chI m).filter (canF true)).map itD) hm rfl rfl rfl rfl rfl rfl
theorem items_false {m : Mn} (hm : okM m) : upto 2 ++ (chars (cutS "pq" none (some (m.2 : Int)))).map Dat.str = ((chI m).filter (canF false)).map itD :=
  okM_cases (p := fun m => upto 2 ++ (chars (cutS "pq" none (some (m.2 : Int)))).map Dat.str = ((chI m).filter (canF false)).map itD) hm rfl rfl rfl rfl rfl rfl
theorem k_law_items (T0 : Tx P w K mg) : Kn P w K mg base "_law_items" 1 (preRL rLawItems) := by
  refine kn_law_items T0 (fun ds B G post h => by obtain ⟨d, ⟨m, b, _, rfl, _⟩, _⟩ := h; rfl) fun cdv A outer s H E hr ds B G post h => ?_
  obtain ⟨ys, ⟨m, b, hm, rfl, rfl⟩, h⟩ := h
  have s1 : (cutS "abc" none (some (m.1 : Int))).cps.size ≤ 3 := okM_cases (p := fun m => (cutS "abc" none (some (m.1 : Int))).cps.size ≤ 3) hm (by decide) (by decide) (by decide) (by decide) (by decide) (by decide)
  have s2 : (cutS "pq" none (some (m.2 : Int))).cps.size ≤ 3 := okM_cases (p := fun m => (cutS "pq" none (some (m.2 : Int))).cps.size ≤ 3) hm (by decide) (by decide) (by decide) (by decide) (by decide) (by decide)
  refine ss_retW (El.w (ds := ((chI m).filter (canF b)).map itD) (el_if (x := b) (et_val (vv 1)) (fun hb => El.as ?_ (el_listTxt rfl T0.f_list (ev_slS ev_str pt0 (pt1 (ev_ixT (d := .int (m.1 : Nat)) (vv 0) ev_int rfl)) (by decide)) ?_)) (fun hb => El.as ?_ (el_addNN (el_listRg (n := 2) rfl rfl T0.f_list rfl T0.f_range (vv 2) (by decide) (by decide)) (el_listTxt rfl T0.f_list (ev_slS ev_str pt0 (pt1 (ev_ixT (d := .int (m.2 : Nat)) (vv 0) ev_int rfl)) (by decide)) ?_) ?_)))) (fun d G' ⟨p, h1, h2, h3, h4⟩ => by rw [h1, h4]; exact h p h2 h3)
  · rw [hb]; exact items_true hm
  · exact Nat.le_trans s1 (by decide)
  · rw [hb]; exact items_false hm
  · exact Nat.le_trans s2 (by decide)
  · have : ((chars (cutS "pq" none (some (m.2 : Int)))).map Dat.str).length ≤ 3 := by simp [chars]; exact s2
    have e : (upto (2 : Int).toNat).length = 2 := rfl
    rw [e]
    exact Nat.le_trans (Nat.add_le_add_left this 2) (by decide)
def rLawWorth (n : Nat) (ds : List Dat) (_ : Hp) (d : Dat) : Prop := ∃ m M, okM m ∧ MgOk m M ∧ ∃ o : Option Tr, (∀ t, o = some t → t.ok m ∧ t.ht ≤ n) ∧ ds = [mgD M, otD o] ∧ d = obD (o.map (Tr.val M))
theorem k_law_worth (T0 : Tx P w K mg) : ∀ n : Nat, Kn P w K mg base "_law_worth" (n + 1) (preR (rLawWorth n))
  | n => by
    have ih : ∀ j, j < n → Kn P w K mg base "_law_worth" (j + 1) (preR (rLawWorth j)) := fun j hj => k_law_worth T0 j
    refine kn_law_worth T0 (fun ds B G post h => by obtain ⟨d, ⟨m, M, _, _, o, _, rfl, _⟩, _⟩ := h; rfl) fun cdv A outer s H E hr ds B G post h => ?_
    obtain ⟨d, ⟨m, M, hm, hM, o, ho, rfl, rfl⟩, h⟩ := h
    cases o with
    | none =>
      refine ss_guard (x := true) (Et.as ?_ (et_or2 (x := true) (y := false) (Et.as (by rfl) (et_isN (d := .non) (vv 1))) (fun h => nomatch h))) (fun _ => ss_r (d := .non) (vv 1) h) (fun h => nomatch h)
      rfl
    | some t =>
      obtain ⟨ht, hn⟩ := ho t rfl
      have isn : (trD t).isNon = false := by cases t <;> rfl
      cases t with
      | v b =>
        refine ss_guard (x := true) (Et.as ?_ (et_or2 (et_isN (d := trD (.v b)) (vv 1)) (fun _ => et_not (et_val (ev_isT T0.f_isinstance T0.f_tuple (vv 1) (trD_na (.v b)) (kit_tup _ (trD_na (.v b)))))))) (fun _ => ss_r (d := vD b) (vv 1) h) (fun h => nomatch h)
        rfl
      | p k t =>
        obtain ⟨hk, ht⟩ := ht
        obtain ⟨k1, k2⟩ := ahd_lt hm hk
        obtain ⟨rest, hocc⟩ := occ_pq k2
        simp only [Tr.ht] at hn
        have kw := ih (n - 1) (by omega)
        refine ss_guard (x := false) (Et.as ?_ (et_or2 (et_isN (d := trD (.p k t)) (vv 1)) (fun _ => et_not (et_val (ev_isT T0.f_isinstance T0.f_tuple (vv 1) (trD_na (.p k t)) (kit_tup _ (trD_na (.p k t)))))))) (fun h => nomatch h) fun _ => ?_
        · rfl
        refine ss_v (i := 2) (d := vD (t.val M)) (ev_callR kw (hr.mono (by omega)) (ea_cons (vv 0) (ea_cons (ev_ixT (ds := [sgD (.ahd k), trD t]) (vv 1) (ev_neg ev_int) rfl) ea_nil)) fun H _ => ⟨m, M, hm, hM, some t, fun t' e => by cases e; exact ⟨ht, by omega⟩, rfl, rfl⟩) ?_ sc_law_worth.nd
        refine ss_guard (x := true) (Et.as ?_ (et_eqI (ev_lenT (ds := [sgD (.ahd k), trD t]) rfl T0.f_len (vv 1)) ev_int)) (fun _ => ?_) (fun h => nomatch h)
        · rfl
        exact ss_r (ev_ixT (ds := [vD (lnAt M k).1, vD (lnAt M k).2]) (i := if t.val M = true then 1 else 0) (ev_ixT (ev_ixT (ds := [.int 2, .tup (M.sqs.map sqD), .tup (M.lns.map lnD)]) (vv 0) ev_int rfl) (ev_sindex ev_str (ev_ixT (ds := [sgD (.ahd k), trD t]) (vv 1) ev_int rfl) hocc) (atI_nat (ln_get hM k1))) (vv 2) (lnD_at _ _)) h
      | i k a b =>
        obtain ⟨hk, hta, htb⟩ := ht
        obtain ⟨k1, k2⟩ := inf_lt hm hk
        obtain ⟨rest, hocc⟩ := occ_abc k2
        simp only [Tr.ht] at hn
        have kw := ih (n - 1) (by omega)
        refine ss_guard (x := false) (Et.as ?_ (et_or2 (et_isN (d := trD (.i k a b)) (vv 1)) (fun _ => et_not (et_val (ev_isT T0.f_isinstance T0.f_tuple (vv 1) (trD_na (.i k a b)) (kit_tup _ (trD_na (.i k a b)))))))) (fun h => nomatch h) fun _ => ?_
        · rfl
        refine ss_v (i := 2) (d := vD (b.val M)) (ev_callR kw (hr.mono (by omega)) (ea_cons (vv 0) (ea_cons (ev_ixT (ds := [sgD (.inf k), trD a, trD b]) (vv 1) (ev_neg ev_int) rfl) ea_nil)) fun H _ => ⟨m, M, hm, hM, some b, fun t' e => by cases e; exact ⟨htb, by omega⟩, rfl, rfl⟩) ?_ sc_law_worth.nd
        refine ss_guard (x := false) (Et.as ?_ (et_eqI (ev_lenT (ds := [sgD (.inf k), trD a, trD b]) rfl T0.f_len (vv 1)) ev_int)) (fun h => nomatch h) fun _ => ?_
        · rfl
        exact ss_r (ev_ixT (ds := [vD (sqAt M k (a.val M)).1, vD (sqAt M k (a.val M)).2]) (i := if b.val M = true then 1 else 0) (ev_ixT (d := lnD (sqAt M k (a.val M))) (ds := [lnD (sqAt M k false), lnD (sqAt M k true)]) (i := if a.val M = true then 1 else 0) (ev_ixT (ev_ixT (ds := [.int 2, .tup (M.sqs.map sqD), .tup (M.lns.map lnD)]) (vv 0) ev_int rfl) (ev_sindex ev_str (ev_ixT (ds := [sgD (.inf k), trD a, trD b]) (vv 1) ev_int rfl) hocc) (atI_nat (sq_get hM k1)))
          (ev_callR (d := vD (a.val M)) kw (hr.mono (by omega)) (ea_cons (vv 0) (ea_cons (ev_ixT (ds := [sgD (.inf k), trD a, trD b]) (vv 1) ev_int rfl) ea_nil)) fun H _ => ⟨m, M, hm, hM, some a, fun t' e => by cases e; exact ⟨hta, by omega⟩, rfl, rfl⟩) (sq_at _ _ _)) (vv 2) (lnD_at _ _)) h
end
end Bk
set_option Elab.async false
set_option linter.all false
set_option autoImplicit false
set_option maxRecDepth 100000
set_option maxHeartbeats 1000000
namespace Bk
open PySem L2
def plD (x : Nat × Ln) : Dat := .tup [.int (x.1 : Nat), lnD x.2]
def skD (st : Stk) : Dat := .tup (st.reverse.map plD)
def owS : Option Stk → Dat
  | none => .str "dead"
  | some st => skD st
def lsD (s : LS) : Dat := .tup [owS s.wait, obD s.here]
theorem fine_of {ds : List Dat} {n : Nat} (h : ∀ d ∈ ds, d.clean = true ∧ d.pd.canLay0 = true ∧ d.pd.depth ≤ n) (hn : n < 64) : (Dat.tup ds).fine = true := by
  have h1 : Dat.cleans ds = true := cleans_all fun d hd => (h d hd).1
  have h2 : PyData.canLayAll0 (Dat.pds ds) = true ∧ PyData.depthAll (Dat.pds ds) ≤ n := by
    clear h1
    induction ds with
    | nil => exact ⟨rfl, Nat.zero_le _⟩
    | cons d ds ih =>
      obtain ⟨a, b⟩ := ih fun x hx => h x (List.mem_cons_of_mem _ hx)
      obtain ⟨_, q1, q2⟩ := h d (by simp)
      simp only [Dat.pds, PyData.canLayAll0, PyData.depthAll, q1, a, Bool.and_self, true_and]
      omega
  unfold Dat.fine SeqAt.shaped
  simp only [Dat.clean, Dat.pd, h1, PyData.canLay0, PyData.depth, h2.1, Bool.true_and]
  exact decide_eq_true (by omega)
theorem sk_fine (st : Stk) : (skD st).fine = true := fine_of (n := 2) (fun d hd => by
  obtain ⟨x, _, rfl⟩ := List.mem_map.mp hd
  exact ⟨rfl, rfl, Nat.le_refl 2⟩) (by decide)
theorem isDead (o : Option Stk) : (owS o).eqv (.str "dead") = o.isNone := by cases o <;> rfl
theorem ow_fine (o : Option Stk) : (owS o).fine = true := by
  cases o with
  | none => decide +kernel
  | some st => exact sk_fine st
theorem take_close (st : Stk) (b : Bool) {i : Nat} {x : Nat × Ln} (h : st[i]? = some x) : lClose (st.take (i + 1)) b = lat x.2 (lClose (st.take i) b) := by
  rw [List.take_add_one, h, lClose_append]
  rfl
section
variable {P : Program} {w : World} {K : PySem.W.Frag} {mg : Str → Option Value} {base : Heap}
def rLawEnd (ds : List Dat) (_ : Hp) (d : Dat) : Prop := ∃ s : LS, (s.wait.isSome = true → s.here.isSome = true) ∧ ds = [lsD s] ∧ d = obD (lEnd s)
theorem k_law_end (T0 : Tx P w K mg) : Kn P w K mg base "_law_end" 1 (preR rLawEnd) := by
  refine kn_law_end T0 (fun ds B G post h => by obtain ⟨d, ⟨s, _, rfl, _⟩, _⟩ := h; rfl) fun cdv A outer s H E hr ds B G post h => ?_
  obtain ⟨d, ⟨st, hh, rfl, rfl⟩, h⟩ := h
  have hu := hr.units
  refine ss_asg (pg_t2 (i := 1) (j := 2) sc_law_end.nd) (vv 0) rd_t2 ?_
  have dead : (Dat.str "dead").fine = true := by decide +kernel
  cases hw : st.wait with
  | none =>
    refine ss_guard (x := true) (Et.as ?_ (et_eqD (d := owS none) hu (vv 1) ev_str (ow_fine _) dead)) (fun _ => ss_r ev_non ?_) (fun h => nomatch h)
    · rw [isDead]; rfl
    · have : lEnd st = none := by unfold lEnd; rw [hw]
      rw [this] at h; exact h
  | some sk =>
    obtain ⟨b, hb⟩ : ∃ b, st.here = some b := Option.isSome_iff_exists.mp (hh (by rw [hw]; rfl))
    refine ss_guard (x := false) (Et.as ?_ (et_eqD (d := owS (some sk)) hu (vv 1) ev_str (ow_fine _) dead)) (fun h => nomatch h) fun _ => ?_
    · rw [isDead]; rfl
    have e : lEnd st = some (lClose sk b) := by unfold lEnd; rw [hw, hb]
    rw [e] at h
    refine ss_forT (ds := sk.map plD) (Ev.as ?_ (ev_revT (ds := sk.reverse.map plD) (vv 1))) (pg_t2 (i := 3) (j := 4) sc_law_end.nd) (fun i ρ' G' => G' = G ∧ ρ' = [some (lsD st), some (skD sk), some (vD (lClose (sk.take i) b)), none, none]) ⟨_, ?_, rfl, rfl⟩ ?_ ?_
    · rw [← List.map_reverse, List.reverse_reverse]
    · rw [hb]
      repeat' (first | exact Frg.nil | apply Frg.same | apply Frg.drop)
    · rintro i d ρ' G' hd ⟨rfl, rfl⟩
      rw [List.getElem?_map] at hd
      obtain ⟨x, hx, rfl⟩ := Option.map_eq_some_iff.mp hd
      refine ⟨_, rd_t2, ?_⟩
      refine ss_v (i := 2) (d := vD (lat x.2 (lClose (sk.take i) b))) (ev_ixT (ds := [vD x.2.1, vD x.2.2]) (i := if lClose (sk.take i) b = true then 1 else 0) (vv 4) (vv 2) (lnD_at x.2 _)) (ss_done ⟨_, ?_, rfl, rfl⟩) sc_law_end.nd
      rw [take_close sk b hx]
      repeat' (first | exact Frg.nil | apply Frg.same | apply Frg.drop)
    · rintro ρ' G' ⟨rfl, rfl⟩
      rw [List.length_map, List.take_length]
      exact ss_r (vv 2) h
end
theorem cut_last (ds : List Dat) (d : Dat) : cutD (ds ++ [d]) none (some (-1)) = ds := by
  unfold cutD
  rw [show HT.sIx (ds ++ [d]).length 0 none = 0 from rfl]
  have : HT.sIx (ds ++ [d]).length (ds ++ [d]).length (some (-1)) = ds.length := by
    show (if (-1 : Int) < 0 then ((-1 : Int) + ((ds ++ [d]).length : Int)).toNat else min (-1 : Int).toNat (ds ++ [d]).length) = ds.length
    rw [if_pos (by decide)]
    simp; omega
  rw [this]
  simp
theorem sk_cons (x : Nat × Ln) (st : Stk) : skD (x :: st) = .tup (st.reverse.map plD ++ [plD x]) := by simp [skD]
theorem pq_of {m : Mn} {g : Sg} (hm : okM m) (hg : g ∈ allS m) : decide (sgC g ∈ ("pq" : Str).cps.toList) = !g.isInf := sg_pq hm hg
theorem popL_le {q : Nat} : ∀ (S : Stk) (b : Bool), (popL q S b).1.length ≤ S.length
  | [], _ => Nat.le_refl _
  | (p, l) :: r, b => by
    rw [popL]
    split
    · exact Nat.le_trans (popL_le r _) (by simp)
    · exact Nat.le_refl _
section
variable {P : Program} {w : World} {K : PySem.W.Frag} {mg : Str → Option Value} {base : Heap}
def rLawNext (ds : List Dat) (_ : Hp) (d : Dat) : Prop := ∃ m T M s it, TbOk m T ∧ MgOk m M ∧ ItOk m it ∧ canF s.here.isSome it = true ∧ (∀ st, s.wait = some st → st.length ≤ 3) ∧ ds = [tbD T, mgD M, lsD s, itD it] ∧ d = lsD (lStep T M s it)
theorem k_law_next (T0 : Tx P w K mg) : Kn P w K mg base "_law_next" 2 (preR rLawNext) := by
  refine kn_law_next T0 (fun ds B G post h => by obtain ⟨d, ⟨m, T, M, s, it, _, _, _, _, _, rfl, _⟩, _⟩ := h; rfl) fun cdv A outer s H E hr ds B G post h => ?_
  obtain ⟨d, ⟨m, T, M, st, it, hT, hM, hi, hc, hl, rfl, rfl⟩, h⟩ := h
  have hu := hr.units
  have hm := hT.okm
  refine ss_asg (pg_t2 (i := 4) (j := 5) sc_law_next.nd) (vv 2) rd_t2 ?_
  have dead : (Dat.str "dead").fine = true := by decide +kernel
  cases it with
  | v b =>
    refine ss_guard (x := true) (Et.as ?_ (et_not (et_val (ev_isT T0.f_isinstance T0.f_str (vv 3) (itD_na (.v b)) (kit_str _ (itD_na (.v b))))))) (fun _ => ss_r (ev_tup (ea_cons (vv 4) (ea_cons (vv 3) ea_nil)) (by simp)) h) (fun h => nomatch h)
    rfl
  | s g =>
    have hg := hi g rfl
    refine ss_guard (x := false) (Et.as ?_ (et_not (et_val (ev_isT T0.f_isinstance T0.f_str (vv 3) (itD_na (.s g)) (kit_str _ (itD_na (.s g))))))) (fun h => nomatch h) fun _ => ?_
    · rfl
    cases hw : st.wait with
    | none =>
      refine ss_guard (x := true) (Et.as ?_ (et_eqD (d := owS none) hu (vv 4) ev_str (ow_fine _) dead)) (fun _ => ss_r (Ev.as ?_ (ev_tup (ea_cons (vv 4) (ea_cons ev_non ea_nil)) (by simp))) h) (fun h => nomatch h)
      · rw [isDead]; rfl
      · have : lStep T M st (.s g) = ⟨none, none⟩ := by cases g <;> simp only [lStep, hw]
        rw [this]; rfl
    | some sk =>
      have h3 := hl sk hw
      obtain ⟨hp1, hp2⟩ := hT.place hg
      refine ss_guard (x := false) (Et.as ?_ (et_eqD (d := owS (some sk)) hu (vv 4) ev_str (ow_fine _) dead)) (fun h => nomatch h) fun _ => ?_
      · rw [isDead]; rfl
      refine ss_v (i := 6) (d := .int (tplace T g : Nat)) (ev_callR (k_law_place T0) hr (ea_cons (vv 0) (ea_cons (vv 3) ea_nil)) fun H _ => ⟨m, T, g, hT, hg, rfl, rfl⟩) ?_ sc_law_next.nd
      cases g with
      | ahd k =>
        obtain ⟨k1, k2⟩ := ahd_lt hm hg
        obtain ⟨rest, ho⟩ := occ_pq k2
        have hs : lStep T M st (.s (.ahd k)) = ⟨lAhd T M sk k, none⟩ := by simp only [lStep, hw]
        rw [hs] at h
        unfold lAhd at h
        generalize hpl : tplace T (.ahd k) = p at hp1 hp2 h
        refine ss_guard (x := true) (Et.as (pq_of hm hg) (et_inS (c := sgC (.ahd k)) (vv 3) ev_str)) (fun _ => ?_) (fun h => nomatch h)
        refine ss_guard (x := decide ((p : Int) ≤ headP sk)) ?_ (fun hx => ss_r (ev_tup (ea_cons ev_str (ea_cons ev_non ea_nil)) (by simp)) ?_) fun hx => ss_r (Ev.as ?_ (ev_tup (ea_cons (ev_addT (ds := sk.reverse.map plD) (es := [plD (p, lnAt M k)]) (vv 4) (ev_tup (ea_cons (d := plD (p, lnAt M k)) (ev_tup (ea_cons (vv 6) (ea_cons (ev_ixT (ev_ixT (ds := [.int 2, .tup (M.sqs.map sqD), .tup (M.lns.map lnD)]) (vv 1) ev_int rfl) (ev_sindex ev_str (vv 3) ho) (atI_nat (ln_get hM k1))) ea_nil)) (by simp)) ea_nil) (by simp)) ?_) (ea_cons ev_non ea_nil)) (by simp))) h
        · cases sk with
          | nil =>
            exact Et.as (by show false = decide ((p : Int) ≤ -1); exact (decide_eq_false (by omega)).symm) (et_and2 (x := false) (y := false) (Et.as (by rfl) (et_neEmpT (ds := []) hu (vv 4))) (fun h => nomatch h))
          | cons x r =>
            refine Et.as ?_ (et_and2 (et_neEmpT (ds := r.reverse.map plD ++ [plD x]) hu (vv 4 (by show some (some (skD (x :: r))) = _; rw [sk_cons]))) fun _ => et_ge (ev_ixT (ds := [.int (x.1 : Nat), lnD x.2]) (ev_ixT (ds := r.reverse.map plD ++ [plD x]) (vv 4 (by show some (some (skD (x :: r))) = _; rw [sk_cons])) (ev_neg ev_int) (atI_last _ _)) ev_int rfl) (vv 6))
            simp [headP]
        · rw [if_pos (of_decide_eq_true hx)] at h; exact h
        · rw [if_neg (of_decide_eq_false hx), ← sk_cons]; rfl
        · simp; omega
      | inf k =>
        obtain ⟨k1, k2⟩ := inf_lt hm hg
        obtain ⟨rest, ho⟩ := occ_abc k2
        obtain ⟨b, hb⟩ : ∃ b, st.here = some b := by
          cases hv : st.here with
          | none => rw [hv] at hc; cases hc
          | some b => exact ⟨b, rfl⟩
        have hs : lStep T M st (.s (.inf k)) = ⟨lInf T M sk k b, none⟩ := by simp only [lStep, hw, hb]
        rw [hs] at h
        unfold lInf at h
        generalize hpl : tplace T (.inf k) = p at hp1 hp2 h
        refine ss_guard (x := false) (Et.as (pq_of hm hg) (et_inS (c := sgC (.inf k)) (vv 3) ev_str)) (fun h => nomatch h) fun _ => ?_
        have wl : ∀ x : Wd, decide (wdS x = ("left" : Str)) = decide (x = .left) := fun x => by cases x <;> rfl
        have wn : ∀ x : Wd, decide (wdS x = ("none" : Str)) = decide (x = .non) := fun x => by cases x <;> rfl
        refine ss_v (i := 7) (d := .str (wdS (tword T p))) (ev_ixT (ev_ixT (vv 0) (vv 6) (atI_nat (lv_get hp2))) ev_int rfl) ?_ sc_law_next.nd
        refine ss_v (i := 8) (d := .int (leastL T p : Nat)) (ev_if (x := decide (tword T p = .left)) (Et.as (wl _) (et_eqS (vv 7) ev_str)) (fun hx => Ev.as ?_ (vv 6)) (fun hx => Ev.as ?_ (ev_add (vv 6) ev_int))) ?_ sc_law_next.nd
        · unfold leastL; rw [if_pos (of_decide_eq_true hx)]
        · unfold leastL; rw [if_neg (of_decide_eq_false hx)]; rfl
        generalize leastL T p = q at h
        refine ss_while (fun n ρ' G' => ∃ (sk' : Stk) (b' : Bool), popL q sk' b' = popL q sk b ∧ sk'.length ≤ sk.length ∧ n = sk'.length ∧ G' = G ∧
          ρ' = [some (tbD T), some (mgD M), some (lsD st), some (sgD (.inf k)), some (skD sk'), some (vD b'), some (.int (p : Nat)), some (.str (wdS (tword T p))), some (.int (q : Nat)), none, none]) sk.length ⟨_, ?_, sk, b, rfl, Nat.le_refl _, rfl, rfl, rfl⟩ ?_
        · rw [hb]
          repeat' (first | exact Frg.nil | apply Frg.same | apply Frg.drop)
        rintro n ρ' G' ⟨sk', b', hpop, hle, rfl, rfl, rfl⟩
        refine ⟨match sk' with | [] => false | x :: _ => decide (q ≤ x.1), ?_, fun hx => ?_, fun hx => ?_⟩
        · cases sk' with
          | nil => exact Et.as (by rfl) (et_and2 (x := false) (y := false) (Et.as (by rfl) (et_neEmpT (ds := []) hu (vv 4))) (fun h => nomatch h))
          | cons x r =>
            refine Et.as ?_ (et_and2 (et_neEmpT (ds := r.reverse.map plD ++ [plD x]) hu (vv 4 (by rw [sk_cons]; rfl))) fun _ => et_ge (ev_ixT (ds := [.int (x.1 : Nat), lnD x.2]) (ev_ixT (ds := r.reverse.map plD ++ [plD x]) (vv 4 (by rw [sk_cons]; rfl)) (ev_neg ev_int) (atI_last _ _)) ev_int rfl) (vv 8))
            simp
        · cases sk' with
          | nil => cases hx
          | cons x r =>
            obtain ⟨xp, xl⟩ := x
            have hx' : q ≤ xp := of_decide_eq_true hx
            have e4 : ([some (tbD T), some (mgD M), some (lsD st), some (sgD (.inf k)), some (skD ((xp, xl) :: r)), some (vD b'), some (.int (p : Nat)), some (.str (wdS (tword T p))), some (.int (q : Nat)), none, none] : Sls)[4]? = some (some (.tup (r.reverse.map plD ++ [plD (xp, xl)]))) := by rw [sk_cons]; rfl
            refine ss_asg (pg_t2 (i := 4) (j := 5) sc_law_next.nd) (ev_tup (ea_cons (d := skD r) (Ev.as (by rw [cut_last]; rfl) (ev_slT (ds := r.reverse.map plD ++ [plD (xp, xl)]) (vv 4 e4) pt0 (pt1 (ev_neg ev_int)))) (ea_cons (d := vD (lat xl b')) (ev_ixT (ds := [vD xl.1, vD xl.2]) (i := if b' = true then 1 else 0) (ev_ixT (ds := [.int (xp : Nat), lnD xl]) (ev_ixT (ds := r.reverse.map plD ++ [plD (xp, xl)]) (vv 4 e4) (ev_neg ev_int) (atI_last _ _)) ev_int rfl) (vv 5) (lnD_at xl b')) ea_nil)) (by simp)) rd_t2 ?_
            refine ss_done ⟨_, ?_, r.length, by simp, r, lat xl b', ?_, by simp at hle; omega, rfl, rfl, rfl⟩
            · repeat' (first | exact Frg.nil | apply Frg.same | apply Frg.drop)
            · rw [← hpop, popL, if_pos hx']
        · have hfix : popL q sk b = (sk', b') := by
            rw [← hpop]
            cases sk' with
            | nil => rfl
            | cons x r =>
              obtain ⟨xp, xl⟩ := x
              have hx' : ¬ (q ≤ xp) := of_decide_eq_false hx
              rw [popL, if_neg hx']
          rw [hfix] at h
          simp only at h
          refine ss_v (i := 9) (d := lnD (sqAt M k b')) (ev_ixT (ds := [lnD (sqAt M k false), lnD (sqAt M k true)]) (i := if b' = true then 1 else 0) (ev_ixT (ev_ixT (ds := [.int 2, .tup (M.sqs.map sqD), .tup (M.lns.map lnD)]) (vv 1) ev_int rfl) (ev_sindex ev_str (vv 3) ho) (atI_nat (sq_get hM k1))) (vv 5) (sq_at M k b')) ?_ sc_law_next.nd
          generalize sqAt M k b' = ln at h
          have fin : ∀ (sk2 : Stk) (ln2 : Ln) (ρ2 : Sls), sk2.length ≤ 3 → ρ2[4]? = some (some (skD sk2)) → ρ2[6]? = some (some (.int (p : Nat))) → ρ2[9]? = some (some (lnD ln2)) → pushL (tword T p) p ln sk' = some ((p, ln2) :: sk2) →
              Ss (cxOf CX0 P w K mg base n_law_next "_law_next" (defScope s_law_next) (He.ga K "_law_next") cdv A outer s H E).nox B ρ2 G' ((defBody s_law_next).drop 10) { nx := fun _ G' => post .non G', rt := post } := fun sk2 ln2 ρ2 hl2 q4 q6 q9 hpush => by
            rw [hpush] at h
            refine ss_r (Ev.as ?_ (ev_tup (ea_cons (ev_addT (ds := sk2.reverse.map plD) (es := [plD (p, ln2)]) (vv 4 q4) (ev_tup (ea_cons (d := plD (p, ln2)) (ev_tup (ea_cons (vv 6 q6) (ea_cons (vv 9 q9) ea_nil)) (by simp)) ea_nil) (by simp)) ?_) (ea_cons ev_non ea_nil)) (by simp))) h
            · rw [← sk_cons]; rfl
            · simp; omega
          cases sk' with
          | nil =>
            refine ss_guard (x := false) (Et.as (by rfl) (et_and2 (x := false) (y := false) (Et.as (by rfl) (et_neEmpT (ds := []) hu (vv 4))) (fun h => nomatch h))) (fun h => nomatch h) fun _ => ?_
            exact fin [] ln _ (by simp) rfl rfl rfl rfl
          | cons x r =>
            obtain ⟨xp, xl⟩ := x
            have hle3 : r.length + 1 ≤ 3 := by simp at hle; omega
            have e4 : ([some (tbD T), some (mgD M), some (lsD st), some (sgD (.inf k)), some (skD ((xp, xl) :: r)), some (vD b'), some (.int (p : Nat)), some (.str (wdS (tword T p))), some (.int (q : Nat)), some (lnD ln), none] : Sls)[4]? = some (some (.tup (r.reverse.map plD ++ [plD (xp, xl)]))) := by rw [sk_cons]; rfl
            refine ss_if (x := decide (xp = p)) (Et.as ?_ (et_and2 (et_neEmpT (ds := r.reverse.map plD ++ [plD (xp, xl)]) hu (vv 4 e4)) fun _ => et_eqI (ev_ixT (ds := [.int (xp : Nat), lnD xl]) (ev_ixT (ds := r.reverse.map plD ++ [plD (xp, xl)]) (vv 4 e4) (ev_neg ev_int) (atI_last _ _)) ev_int rfl) (vv 6))) (fun hx => ?_) (fun hx => ss_done ?_)
            · have : decide ((xp : Int) = (p : Int)) = decide (xp = p) := decide_eq_decide.mpr (by omega)
              simp [this]
            · have hxp : xp = p := of_decide_eq_true hx
              refine ss_guard (x := decide (tword T p = .non)) (Et.as (wn _) (et_eqS (vv 7) ev_str)) (fun hn => ss_r (ev_tup (ea_cons ev_str (ea_cons ev_non ea_nil)) (by simp)) ?_) fun hn => ?_
              · rw [pushL, if_pos hxp, if_pos (of_decide_eq_true hn)] at h
                exact h
              · refine ss_v (i := 9) (d := lnD (comp xl ln)) (ev_tupleOf rfl T0.f_tuple (el_lc1 (i := 10) sc_law_next.nd (bk n_law_next s_law_next) (lc_no [ln.1, ln.2] vD (fun b => vD (lat xl b)) (srcS_tup (vv 9)) (show 2 ≤ sizeLine by decide) fun b hb => ⟨_, rdw_name (by simp), fun s H0 C cl fp => ev_ixT (ds := [vD xl.1, vD xl.2]) (i := if b = true then 1 else 0) (ev_ixT (ds := [.int (xp : Nat), lnD xl]) (ev_ixT (ds := r.reverse.map plD ++ [plD (xp, xl)]) (vv 4 e4) (ev_neg ev_int) (atI_last _ _)) ev_int rfl) (vv 10) (lnD_at xl b)⟩))) ?_ sc_law_next.nd
                refine ss_v (i := 4) (d := skD r) (Ev.as (by rw [cut_last]; rfl) (ev_slT (ds := r.reverse.map plD ++ [plD (xp, xl)]) (vv 4 e4) pt0 (pt1 (ev_neg ev_int)))) (ss_done ?_) sc_law_next.nd
                refine fin r (comp xl ln) _ (by omega) rfl rfl rfl ?_
                rw [pushL, if_pos hxp, if_neg (of_decide_eq_false hn)]
            · have hxp : ¬ xp = p := of_decide_eq_false hx
              refine fin ((xp, xl) :: r) ln _ (by simpa using hle3) rfl rfl rfl ?_
              rw [pushL, if_neg hxp]
end
end Bk
set_option Elab.async false
set_option linter.all false
set_option autoImplicit false
set_option maxRecDepth 100000
set_option maxHeartbeats 1000000
namespace Bk
open PySem L2
/-! constants read off the text -/
def constP : Expr → Option Dat
  | .Tuple [.Constant (.int i) _ _, .Constant (.int j) _ _] _ _ => some (.tup [.int i, .int j])
  | .Constant (.str z) _ _ => some (.str z)
  | _ => none
def constPs : List Expr → Option (List Dat)
  | [] => some []
  | e :: es => match constP e, constPs es with
    | some d, some ds => some (d :: ds)
    | _, _ => none
section
variable {X : Cx} {B : Hp} {ρ : Sls} {G : GL}
theorem ev_constP {e : Expr} {d : Dat} (h : constP e = some d) : Ev X B ρ G e d ∧ ∀ es, starEach (e :: es) X.env = (false, eval e X.env) :: starEach es X.env := by
  unfold constP at h
  split at h
  · cases h
    exact ⟨ev_tup (ea_cons ev_int (ea_cons ev_int ea_nil rfl) rfl) (by simp), fun _ => rfl⟩
  · cases h
    exact ⟨ev_str, fun _ => rfl⟩
  · cases h
theorem ea_constPs : ∀ {es : List Expr} {ds : List Dat}, constPs es = some ds → Ea X B ρ G es ds
  | [], ds, h => by cases h; exact ea_nil
  | e :: es, ds, h => by
    simp only [constPs] at h
    cases h1 : constP e with
    | none => rw [h1] at h; cases h
    | some d =>
      cases h2 : constPs es with
      | none => rw [h1, h2] at h; cases h
      | some ds' =>
        rw [h1, h2] at h
        cases h
        obtain ⟨q1, q2⟩ := ev_constP (X := X) (B := B) (ρ := ρ) (G := G) h1
        exact ea_cons q1 (ea_constPs h2) (q2 es)
theorem ew_pickL {q pd : Addr} {t : Int} {ns : List Int} {R : GL} {es : List Expr} {ds : List Dat} {a : Expr} {p1 p2 pos : Pos} (c : Kn X.prog X.w X.K X.mg X.base "_law_pick" 2 prePick) (hr : Room 2 X.A) (hns : ns ≠ []) (ha : Ev X B ρ (dr q pd t ns ++ R) a (.adr pd)) (hes : constPs es = some ds) (h0 : 0 < ds.length) (h1 : ds.length < 1000)
    (hst : starEach [a, .List es p2] X.env = (false, eval a X.env) :: starEach [.List es p2] X.env) (hpl : (backTo pos (starEach [.List es p2] X.env)).any (·.1) = false) (hg : Gl X "_law_pick") : Ew X B ρ (dr q pd t ns ++ R) (.Call (.Name "_law_pick" p1) [a, .List es p2] [] pos) (fun d G' => d ∈ ds ∧ ∃ (t' : Int) (ns' : List Int), ns' ≠ [] ∧ G' = dr q pd t' ns' ++ R) := by
  have hl : El X B ρ (dr q pd t ns ++ R) (.List es p2) ds := el_lst (ea_constPs hes) (by omega)
  have hargs : Eaw X B ρ (dr q pd t ns ++ R) [a, .List es p2] (fun cs G' => ∃ p, cs = [.adr pd, .adr p] ∧ G' = dr q pd t ns ++ R ++ [(p, .lst ds)]) := eaw_v ha (eaw_l hl (fun p h1 h2 => eaw_nil ⟨p, rfl, rfl⟩) rfl) hst
  refine Ew.sub (ew_callW (pa := fun cs G' => ∃ p, cs = [.adr pd, .adr p] ∧ G' = dr q pd t ns ++ R ++ [(p, .lst ds)]) (post := fun d G' => ∃ (p : Addr), d ∈ ds ∧ ∃ (t' : Int) (ns' : List Int), ns' ≠ [] ∧ G' = dr q pd t' ns' ++ (R ++ [(p, .lst ds)])) c hr hargs
    (fun cs G' ⟨p, e1, e2⟩ => ⟨q, pd, t, ns, p, ds, R ++ [(p, .lst ds)], by rw [e2, List.append_assoc], hns, e1, List.mem_append_right _ (List.mem_singleton.mpr rfl), h0, h1, fun d hd t' ns' hn => ⟨p, hd, t', ns', hn, rfl⟩⟩) hg (he := hst) (hpl := hpl))
    fun d G' ⟨p, h2, t', ns', h3, e⟩ => ⟨dr q pd t' ns' ++ R, ?_, h2, t', ns', h3, rfl⟩
  rw [e, ← List.append_assoc]; exact List.sublist_append_left _ _
end
section
variable {P : Program} {w : World} {K : PySem.W.Frag} {mg : Str → Option Value} {base : Heap}
theorem k_law_many (T0 : Tx P w K mg) : Kn P w K mg base "_law_many" 3 preMany := by
  refine kn_law_many T0 (fun ds B G post h => by obtain ⟨q, pd, t, ns, R, _, _, rfl, _⟩ := h; rfl) fun cdv A outer s H E hr ds B G post h => ?_
  obtain ⟨q, pd, t, ns, R, rfl, hns, rfl, h⟩ := h
  refine ss_retW (ew_pickL (ds := manyL) (k_law_pick T0) hr hns (vv 0) (by rfl) (by simp [manyL]) (by simp [manyL]) rfl rfl rfl) fun d G' ⟨h2, t', ns', h3, e⟩ => ?_
  obtain ⟨m, h1, h2⟩ := manyL_mem h2
  rw [h2, e]; exact h m t' ns' h1 h3
end
end Bk
set_option Elab.async false
set_option linter.all false
set_option autoImplicit false
set_option maxRecDepth 100000
set_option maxHeartbeats 1000000
namespace Bk
open PySem L2
section
variable {X : Cx} {B : Hp} {ρ : Sls} {G : GL}
theorem ev_tupleL {e : Expr} {p pos : Pos} {a : Addr} {ds : List Dat} (hm : X.mg "tuple" = none) (ha : Ev X B ρ G e (.adr a)) (hj : Lat B G a ds) (hg : Gl X "tuple" := by rfl)
    (he : starEach [e] X.env = (false, eval e X.env) :: starEach [] X.env := by rfl) : Ev X B ρ G (.Call (.Name "tuple" p) [e] [] pos) (.tup ds) := fun σ H rp s Q q =>
  WE.of (pe_callTy call_tuple_of hg hm (by decide +kernel) (pa_cons pe_w pa_nil he) (by decide) (by decide) he) (ha σ H rp s _ fun v H1 e1 i1 => by
    simp only [Is] at i1
    obtain ⟨vs, h1, h2⟩ := (rp.ext e1).lat hj
    exact ⟨a, vs, by rw [i1], .inl ⟨SqL.of h1, fun l hl => q _ _ (e1.trans (Same.new hl)) (by simp only [Is]; exact ⟨l, vs, rfl, upd_same, IsAll.mono (.of (Same.new hl)) _ _ h2⟩)⟩⟩)
theorem ew_draw {q pd : Addr} {t lim : Int} {ns : List Int} {R : GL} {a b : Expr} {p1 pos : Pos} (c : Kn X.prog X.w X.K X.mg X.base "_law_draw" 1 preDraw) (hr : Room 1 X.A) (hns : ns ≠ []) (h0 : 0 < lim) (h1 : lim < 1000) (ha : Ev X B ρ (dr q pd t ns ++ R) a (.adr pd)) (hb : Ev X B ρ (dr q pd t ns ++ R) b (.int lim))
    (hg : Gl X "_law_draw" := by rfl) (h2 : starEach [a, b] X.env = (false, eval a X.env) :: starEach [b] X.env := by rfl) (h3 : starEach [b] X.env = (false, eval b X.env) :: starEach [] X.env := by rfl) (hpl : (backTo pos (starEach [b] X.env)).any (·.1) = false := by rfl) :
    Ew X B ρ (dr q pd t ns ++ R) (.Call (.Name "_law_draw" p1) [a, b] [] pos) (fun d G' => ∃ (r t' : Int) (ns' : List Int), 0 ≤ r ∧ r < lim ∧ ns' ≠ [] ∧ d = .int r ∧ G' = dr q pd t' ns' ++ R) :=
  ew_call c hr hg (ea_cons ha (ea_cons hb ea_nil h3) h2) ⟨q, pd, t, ns, lim, R, rfl, hns, h0, h1, rfl, fun r t' ns' a b c => ⟨r, t', ns', a, b, c, rfl, rfl⟩⟩ (he := h2) (hpl := hpl)
end
/-! ### tables -/
/-- the signs of the place j -/
def gsAt (gs : List Sg) (is : List Int) (j : Nat) : List Sg := ((List.range gs.length).filter fun k => decide (is.getD k 0 = (j : Int))).map fun k => gs.getD k (.inf 0)
theorem range_map_getD (gs : List Sg) : (List.range gs.length).map (fun k => gs.getD k (.inf 0)) = gs := by
  apply List.ext_getElem
  · simp
  · intro i h1 h2
    simp [List.getD, h2]
theorem gs_perm (gs : List Sg) (is : List Int) (h : ∀ k, k < gs.length → 0 ≤ is.getD k 0 ∧ is.getD k 0 < 3) : ((List.range 3).flatMap (gsAt gs is)).Perm gs := by
  have key : ∀ ks : List Nat, (∀ k ∈ ks, 0 ≤ is.getD k 0 ∧ is.getD k 0 < 3) → (ks.filter (fun k => decide (is.getD k 0 = ((0 : Nat) : Int))) ++ (ks.filter (fun k => decide (is.getD k 0 = ((1 : Nat) : Int))) ++ ks.filter (fun k => decide (is.getD k 0 = ((2 : Nat) : Int))))).Perm ks := by
    intro ks
    induction ks with
    | nil => intro _; exact List.Perm.refl _
    | cons k ks ih =>
      intro hk
      have ih := ih fun x hx => hk x (List.mem_cons_of_mem _ hx)
      obtain ⟨h0, h3⟩ := hk k (by simp)
      have hc : is.getD k 0 = 0 ∨ is.getD k 0 = 1 ∨ is.getD k 0 = 2 := by omega
      rcases hc with e | e | e
      · simp only [List.filter_cons, e]
        exact List.Perm.cons _ ih
      · simp only [List.filter_cons, e]
        exact (List.perm_middle).trans (List.Perm.cons _ ih)
      · simp only [List.filter_cons, e]
        refine List.Perm.trans ?_ (List.Perm.cons _ ih)
        refine List.Perm.trans (List.Perm.append_left _ List.perm_middle) List.perm_middle
  have e3 : (List.range 3).flatMap (gsAt gs is) = ((List.range gs.length).filter (fun k => decide (is.getD k 0 = ((0 : Nat) : Int))) ++ ((List.range gs.length).filter (fun k => decide (is.getD k 0 = ((1 : Nat) : Int))) ++ (List.range gs.length).filter (fun k => decide (is.getD k 0 = ((2 : Nat) : Int))))).map (fun k => gs.getD k (.inf 0)) := by
    simp [gsAt, List.range_succ, List.flatMap_cons, List.map_append]
  rw [e3]
  refine ((key _ fun k hk => h k (List.mem_range.mp hk)).map _).trans ?_
  rw [range_map_getD]
theorem gs_sorted {m : Mn} (hm : okM m) (is : List Int) (j : Nat) : ((gsAt (allS m) is j).map sgC).Pairwise (· < ·) := by
  have h : ((allS m).map sgC).Pairwise (· < ·) := okM_cases (p := fun m => ((allS m).map sgC).Pairwise (· < ·)) hm (by decide) (by decide) (by decide) (by decide) (by decide) (by decide)
  refine h.sublist ?_
  have : (gsAt (allS m) is j).Sublist (allS m) := by
    unfold gsAt
    conv => rhs; rw [← range_map_getD (allS m)]
    exact (List.filter_sublist).map _
  exact this.map sgC
theorem gs_len (gs : List Sg) (is : List Int) (j : Nat) : (gsAt gs is j).length ≤ gs.length := by
  unfold gsAt
  rw [List.length_map]
  exact Nat.le_trans (List.length_filter_le _ _) (by simp)
/-- a part of a table that is built from the first place on -/
structure TbP (m : Mn) (is : List Int) (j : Nat) (T : Tb) : Prop where
  len : T.length ≤ j
  ne : ∀ l ∈ T, l.2 ≠ []
  srt : ∀ l ∈ T, (l.2.map sgC).Pairwise (· < ·)
  fl : T.flatMap (·.2) = (List.range j).flatMap (gsAt (allS m) is)
theorem TbP.ok {m : Mn} {is : List Int} {T : Tb} (h : TbP m is 3 T) (hm : okM m) (hi : ∀ k, k < (allS m).length → 0 ≤ is.getD k 0 ∧ is.getD k 0 < 3) : TbOk m T := ⟨hm, h.len, h.ne, h.srt, by rw [h.fl]; exact gs_perm _ _ hi⟩
theorem TbP.skip {m : Mn} {is : List Int} {j : Nat} {T : Tb} (h : TbP m is j T) (he : gsAt (allS m) is j = []) : TbP m is (j + 1) T := ⟨by have := h.len; omega, h.ne, h.srt, by rw [h.fl, List.range_succ, List.flatMap_append]; simp [he]⟩
theorem TbP.add {m : Mn} {is : List Int} {j : Nat} {T : Tb} (h : TbP m is j T) (hm : okM m) (he : gsAt (allS m) is j ≠ []) (wd : Wd) : TbP m is (j + 1) (T ++ [(wd, gsAt (allS m) is j)]) := ⟨by have := h.len; simp; omega, fun l hl => by
    rcases List.mem_append.mp hl with z | z
    · exact h.ne l z
    · rw [List.mem_singleton.mp z]; exact he, fun l hl => by
    rcases List.mem_append.mp hl with z | z
    · exact h.srt l z
    · rw [List.mem_singleton.mp z]; exact gs_sorted hm _ _, by rw [List.flatMap_append, h.fl, List.range_succ, List.flatMap_append]; simp⟩
def wordsL : List Dat := [.str "left", .str "left", .str "right", .str "right", .str "none"]
theorem wordsL_mem {d : Dat} (h : d ∈ wordsL) : ∃ wd, d = .str (wdS wd) := by
  simp only [wordsL, List.mem_cons, List.mem_nil_iff, or_false] at h
  rcases h with rfl | rfl | rfl | rfl | rfl
  · exact ⟨.left, rfl⟩
  · exact ⟨.left, rfl⟩
  · exact ⟨.right, rfl⟩
  · exact ⟨.right, rfl⟩
  · exact ⟨.non, rfl⟩
section
variable {P : Program} {w : World} {K : PySem.W.Frag} {mg : Str → Option Value} {base : Heap}
def preTable : Pre := fun ds B G post => ∃ q pd t ns m, ∃ (R : GL), G = dr q pd t ns ++ R ∧ ns ≠ [] ∧ okM m ∧ ds = [.adr pd, mnD m] ∧ ∀ (T : Tb) (t' : Int) (ns' : List Int), TbOk m T → ns' ≠ [] → post (tbD T) (dr q pd t' ns' ++ R)
theorem txt_empty (gs : List Sg) : decide (txt gs = ("" : Str)) = gs.isEmpty := by
  cases gs with
  | nil => rfl
  | cons g gs =>
    refine decide_eq_false fun h => ?_
    have := congrArg (fun z : Str => z.cps.size) h
    have e0 : ("" : Str).cps.size = 0 := rfl
    rw [e0] at this
    simp [txt] at this
theorem k_law_table (T0 : Tx P w K mg) : Kn P w K mg base "_law_table" 3 preTable := by
  refine kn_law_table T0 (fun ds B G post h => by obtain ⟨q, pd, t, ns, m, R, _, _, _, rfl, _⟩ := h; rfl) fun cdv A outer s H E hr ds B G post h => ?_
  obtain ⟨q, pd, t, ns, m, R, rfl, hns, hm, rfl, h⟩ := h
  have hl3 : (allS m).length ≤ 3 := by rw [allS_len]; exact (okM_le hm).2.2.2
  refine ss_w (i := 2) (ew_lc1 (i := 3) sc_law_table.nd (bk n_law_table s_law_table) (lc_w (ds := (allS m).map sgD) (Src.as (signs_txt (allS m)) (src_str (z := txt (allS m)) (ev_callR (k_law_signs T0) (hr.mono (by decide)) (ea_cons (vv 1) ea_nil) fun H _ => ⟨m, hm, rfl, rfl⟩))) (by rw [List.length_map]; exact Nat.le_trans hl3 (by decide))
    (fun i ys G' => ∃ (is : List Int) (t' : Int) (ns' : List Int), is.length = i ∧ (∀ x ∈ is, 0 ≤ x ∧ x < 3) ∧ ys = is.map .int ∧ ns' ≠ [] ∧ G' = dr q pd t' ns' ++ R) ⟨[], t, ns, rfl, (fun _ h => nomatch h), rfl, hns, rfl⟩ (fun i ys G' ⟨is, _, _, h1, _, h2, _⟩ => by rw [h2, List.length_map, h1]; exact Nat.le_refl _)
    fun i d ys G' hd ⟨is, t', ns', h1, h2, h3, h4, h5⟩ => ⟨_, rdw_name (by simp), fun B' sB s H0 C cl fp => ?_⟩)) (fun d G' ⟨pp, ys, G2, e1, ⟨is, t1, ns1, h1, h2, h3, h4, h5⟩, e2⟩ => ?_) sc_law_table.nd
  · subst h5
    refine Ew.imp (ew_draw (k_law_draw T0) (hr.mono (by decide)) h4 (by decide) (by decide) (vv 0) ev_int) fun d G' ⟨r, t'', ns'', a, b, c, e1, e2⟩ => ⟨is ++ [r], t'', ns'', by simp [h1], fun x hx => ?_, by rw [e1, h3]; simp, c, e2⟩
    rcases List.mem_append.mp hx with z | z
    · exact h2 x z
    · rw [List.mem_singleton.mp z]; exact ⟨a, b⟩
  subst e1 e2 h5 h3
  rw [List.length_map] at h1
  have hget : ∀ k, k < (allS m).length → 0 ≤ is.getD k 0 ∧ is.getD k 0 < 3 := fun k hk => by
    have hk' : k < is.length := by omega
    have : is.getD k 0 = is[k] := by simp [List.getD, hk']
    rw [this]
    exact h2 _ (List.getElem_mem hk')
  rw [List.append_assoc]
  refine ss_l (i := 4) (el_lst ea_nil (by simp)) (fun pf b1 b2 => ?_) sc_law_table.nd
  have hshape : ∀ (T : Tb) (t : Int) (ns : List Int), dr q pd t ns ++ (R ++ [(pp, DO.lst (is.map Dat.int))]) ++ [(pf, DO.lst (T.map lvD))] = dr q pd t ns ++ (R ++ [(pp, DO.lst (is.map Dat.int)), (pf, DO.lst (T.map lvD))]) := fun T t ns => by simp
  have e0 : dr q pd t1 ns1 ++ (R ++ [(pp, DO.lst (is.map Dat.int))]) ++ [(pf, DO.lst [])] = dr q pd t1 ns1 ++ (R ++ [(pp, DO.lst (is.map Dat.int)), (pf, DO.lst (([] : Tb).map lvD))]) := hshape [] t1 ns1
  rw [e0]
  refine ss_forF (ds := upto 3) (src_range (n := 3) ev_int (by decide) (by decide) rfl T0.f_range) (pg_n (i := 5) sc_law_table.nd)
    (fun j ρ' G' => ∃ (T : Tb) (t' : Int) (ns' : List Int), TbP m is j T ∧ ns' ≠ [] ∧ ρ' = [some (.adr pd), some (mnD m), some (.adr pp), none, some (.adr pf), none, none, none] ∧ G' = dr q pd t' ns' ++ (R ++ [(pp, DO.lst (is.map Dat.int)), (pf, DO.lst (T.map lvD))]))
    ⟨_, ?_, [], t1, ns1, ⟨Nat.le_refl _, (fun _ h => nomatch h), (fun _ h => nomatch h), rfl⟩, h4, rfl, rfl⟩ ?_ ?_
  · repeat' (first | exact Frg.nil | apply Frg.same | apply Frg.drop)
  · rintro j d ρ' G' hd ⟨T, t', ns', hT, hns', rfl, rfl⟩
    have hj : j < 3 ∧ d = .int (j : Int) := by
      unfold upto at hd
      rw [List.getElem?_map] at hd
      obtain ⟨x, hx, rfl⟩ := Option.map_eq_some_iff.mp hd
      obtain ⟨q1, q2⟩ := List.getElem?_eq_some_iff.mp hx
      rw [List.getElem_range] at q2
      rw [List.length_range] at q1
      exact ⟨q1, by rw [q2]⟩
    obtain ⟨hj3, rfl⟩ := hj
    have latP : ∀ B : Hp, Lat B (dr q pd t' ns' ++ (R ++ [(pp, DO.lst (is.map Dat.int)), (pf, DO.lst (T.map lvD))])) pp (is.map Dat.int) := fun B => lat_mem (by simp)
    refine ⟨_, rd_name, ?_⟩
    refine ss_v (i := 6) (d := .str (txt (gsAt (allS m) is j))) (Ev.as ?_ (ev_join (z := "") (ys := (gsAt (allS m) is j).map sgS) ev_str (El.as ?_ (el_lc1I (i := 7) sc_law_table.nd (bk n_law_table s_law_table) (lc_if (List.range (allS m).length) (fun (k : Nat) => Dat.int (k : Int)) (fun k => decide (is.getD k 0 = (j : Int))) (fun k => sgD ((allS m).getD k (.inf 0)))
      (Src.as ?_ (srcS_range (n := ((is.map Dat.int).length : Nat)) (ev_lenL rfl T0.f_len (vv 2) (latP _)) (by omega) (by rw [List.length_map]; omega) rfl T0.f_range)) ?_ fun k hk => ⟨_, rdw_name (by simp), fun s H0 C cl fp => ?_, fun _ s H0 C cl fp => ?_⟩))) ?_)) ?_ sc_law_table.nd
    · rw [join_one]
    · unfold gsAt
      rw [List.map_map, List.map_map]; rfl
    · rw [List.length_map, h1]; rfl
    · rw [List.length_range]; exact Nat.le_trans hl3 (by decide)
    · have hk' := List.mem_range.mp hk
      have hk2 : k < is.length := by omega
      refine et_eqI (ev_ixL (vv 2) (vv 7) (latP _) (atI_nat ?_)) (vv 5)
      have : is.getD k 0 = is[k] := by simp [List.getD, hk2]
      rw [this]
      simp [hk2]
    · have hk' := List.mem_range.mp hk
      refine ev_ixS (z := txt (allS m)) (c := sgC ((allS m).getD k (.inf 0))) (ev_callR (k_law_signs T0) (hr.mono (by decide)) (ea_cons (vv 1) ea_nil) fun H _ => ⟨m, hm, rfl, rfl⟩) (vv 7) ?_ (atI_nat ?_)
      · show (txt (allS m)).cps.size ≤ _
        rw [txt_size]; exact Nat.le_trans hl3 (by decide)
      · rw [txt_list]
        simp [List.getD, hk']
    · have hg3 := gs_len (allS m) is j
      have hs : (((gsAt (allS m) is j).map sgS).map (·.length)).sum ≤ 3 := by
        rw [List.map_map]
        have : ∀ l : List Sg, (l.map ((·.length) ∘ sgS)).sum = l.length := fun l => by
          induction l with
          | nil => rfl
          | cons g l ih =>
            rw [List.map_cons, List.sum_cons, ih, List.length_cons]
            show 1 + l.length = _
            omega
        rw [this]; omega
      have hz : ((gsAt (allS m) is j).map sgS).length * ("" : Str).length = 0 := by
        have : ("" : Str).length = 0 := rfl
        rw [this]; rfl
      omega
    refine ss_if (x := !(gsAt (allS m) is j).isEmpty) (Et.as (by rw [txt_empty]) (et_neS (vv 6) ev_str)) (fun hx => ?_) (fun hx => ss_done (ss_done ⟨_, ?_, T, t', ns', hT.skip ?_, hns', rfl, rfl⟩))
    · refine ss_append (p := pf) (vv 4) (ew_tupW (post := fun ds G' => ∃ (wd : Wd) (t'' : Int) (ns'' : List Int), ns'' ≠ [] ∧ ds = [.str (wdS wd), .str (txt (gsAt (allS m) is j))] ∧ G' = dr q pd t'' ns'' ++ (R ++ [(pp, DO.lst (is.map Dat.int)), (pf, DO.lst (T.map lvD))])) (eaw_cons (ew_pickL (ds := wordsL) (k_law_pick T0) (hr.mono (by decide)) hns' (vv 0) (by rfl) (by simp [wordsL]) (by simp [wordsL]) rfl rfl rfl) fun d G' ⟨hd, t'', ns'', hn, e⟩ => ?_) (by simp) (fun ds G' ⟨wd, t'', ns'', _, e, _⟩ => by rw [e]; rfl)) (fun d G' ⟨ds, e1, wd, t'', ns'', hn, e2, e3⟩ => ?_) ?_
      · obtain ⟨wd, rfl⟩ := wordsL_mem hd
        exact eaw_v (vv 6) (eaw_nil ⟨wd, t'', ns'', hn, rfl, e⟩)
      · refine ⟨dr q pd t'' ns'' ++ (R ++ [(pp, DO.lst (is.map Dat.int))]), [], T.map lvD, by rw [e3]; simp, ?_, ss_done (ss_done ⟨_, ?_, T ++ [(wd, gsAt (allS m) is j)], t'', ns'', hT.add hm ?_ wd, hn, rfl, ?_⟩)⟩
        · rw [List.length_map]; exact Nat.lt_of_le_of_lt hT.len (Nat.lt_of_lt_of_le hj3 (by decide))
        · repeat' (first | exact Frg.nil | apply Frg.same | apply Frg.drop)
        · intro z; rw [z] at hx; cases hx
        · rw [e1, e2]; simp [lvD]
      · obtain ⟨j', hj'⟩ := List.mem_iff_getElem?.mp (show (pf, DO.lst (T.map lvD)) ∈ dr q pd t' ns' ++ (R ++ [(pp, DO.lst (is.map Dat.int)), (pf, DO.lst (T.map lvD))]) from by simp)
        exact ⟨j', _, hj'⟩
    · repeat' (first | exact Frg.nil | apply Frg.same | apply Frg.drop)
    · cases hg : gsAt (allS m) is j with
      | nil => rfl
      | cons a b => rw [hg] at hx; cases hx
  · rintro ρ' G' ⟨T, t', ns', hT, hns', rfl, rfl⟩
    refine ss_retW (Ew.sub (Ev.w (d := tbD T) (ev_tupleL (a := pf) T0.f_tuple (vv 4) (lat_mem (by simp)))) (q := fun d G' => d = tbD T ∧ G' = dr q pd t' ns' ++ R) fun d G' ⟨e1, e2⟩ => ⟨dr q pd t' ns' ++ R, ?_, e1, rfl⟩) (fun d G' ⟨e1, e2⟩ => by rw [e1, e2]; exact h T t' ns' (hT.ok hm hget) hns')
    rw [e2, ← List.append_assoc]; exact List.sublist_append_left _ _
end
end Bk
set_option Elab.async false
set_option linter.all false
set_option autoImplicit false
set_option maxRecDepth 100000
set_option maxHeartbeats 1000000
namespace Bk
open PySem L2
section
variable {X : Cx} {B : Hp} {ρ : Sls} {G : GL} {D : DE}
/-- a + b, a test, .., with effects on the left -/
theorem ew_addIW {a b : Expr} {pos : Pos} {j : Int} {p post : Dat → GL → Prop} (ha : Ew X B ρ G a p) (hk : ∀ d G', p d G' → ∃ i : Int, d = .int i ∧ Ev X B ρ G' b (.int j) ∧ post (.int (i + j)) G') : Ew X B ρ G (.BinOp a .Add b pos) post := fun σ H r s Q q =>
  WE.of (pe_op op_add pe_w pe_w) (ha σ H r s _ fun x H1 d G' r' t i1 z => by
    obtain ⟨i, rfl, hb, hp⟩ := hk d G' z
    refine hb σ H1 r' (s.mono t) _ fun y H2 e2 i2 => ?_
    simp only [Is] at i1 i2
    exact ⟨i, j, i1, i2, q _ H2 _ G' (r'.ext e2) (t.trans (.of e2)) (by simp only [Is]) hp⟩)
theorem ew_ixSW {a b : Expr} {pos : Pos} {z : Str} {p post : Dat → GL → Prop} (ha : Ev X B ρ G a (.str z)) (hb : Ew X B ρ G b p) (hz : z.length ≤ sizeLine) (hk : ∀ d G', p d G' → ∃ (i : Int) (c : Nat), d = .int i ∧ L2.atI z.cps.toList i = some c ∧ post (.str ⟨#[c]⟩) G') (hs : PlainIx b := by exact fun _ _ => rfl) : Ew X B ρ G (.Subscript a b pos) post := fun σ H r s Q q =>
  WE.of (pe_ix ix_str pe_w pe_w hs) (ha σ H r s _ fun x H1 e1 i1 => hb σ H1 (r.ext e1) (s.ext e1) _ fun y H2 d G' r' t i2 w => by
    obtain ⟨i, c, rfl, hi, hp⟩ := hk d G' w
    simp only [Is] at i1 i2
    exact ⟨z, i, c, i1, i2, hz, hi, q _ H2 _ G' r' ((TK.of e1).trans t) (by simp only [Is]) hp⟩)
theorem ew_tupleW {e : Expr} {p pos : Pos} {pa post : Dat → GL → Prop} (hm : X.mg "tuple" = none) (ha : Ew X B ρ G e pa) (hk : ∀ d G', pa d G' → ∃ a ds, d = .adr a ∧ Lat B G' a ds ∧ post (.tup ds) G') (hg : Gl X "tuple" := by rfl)
    (he : starEach [e] X.env = (false, eval e X.env) :: starEach [] X.env := by rfl) : Ew X B ρ G (.Call (.Name "tuple" p) [e] [] pos) post := fun σ H rp s Q q =>
  WE.of (pe_callTy call_tuple_of hg hm (by decide +kernel) (pa_cons pe_w pa_nil he) (by decide) (by decide) he) (ha σ H rp s _ fun v H1 d G' r' t i1 z => by
    obtain ⟨a, ds, rfl, hj, hp⟩ := hk d G' z
    simp only [Is] at i1
    obtain ⟨vs, h1, h2⟩ := r'.lat hj
    exact ⟨a, vs, by rw [i1], .inl ⟨SqL.of h1, fun l hl => q _ _ _ G' (r'.ext (Same.new hl)) (t.trans (.of (Same.new hl))) (by simp only [Is]; exact ⟨l, vs, rfl, upd_same, IsAll.mono (.of (Same.new hl)) _ _ h2⟩) hp⟩⟩)
/-- a test with effects -/
def Etw (X : Cx) (B : Hp) (ρ : Sls) (G : GL) (e : Expr) (post : Bool → GL → Prop) : Prop := ∀ σ H, Rep X.prog X.w B G H → Sl H ρ σ → ∀ Q : Bool → Hp → Prop, (∀ b H2 G', Rep X.prog X.w B G' H2 → TK H H2 → post b G' → Q b H2) → WT X e σ H Q
theorem Et.etw {e : Expr} {b : Bool} (h : Et X B ρ G e b) : Etw X B ρ G e (fun c G' => c = b ∧ G' = G) := fun σ H r s Q q => h σ H r s Q fun H2 e2 => q b H2 G (r.ext e2) (.of e2) ⟨rfl, rfl⟩
theorem Etw.imp {e : Expr} {p q : Bool → GL → Prop} (h : Etw X B ρ G e p) (hq : ∀ b G', p b G' → q b G') : Etw X B ρ G e q := fun σ H r s Q k => h σ H r s Q fun b H2 G' r' t z => k b H2 G' r' t (hq b G' z)
theorem etw_eqI {a b : Expr} {pos : Pos} {j : Int} {p : Dat → GL → Prop} {post : Bool → GL → Prop} (ha : Ew X B ρ G a p) (hk : ∀ d G', p d G' → ∃ i : Int, d = .int i ∧ Ev X B ρ G' b (.int j) ∧ post (decide (i = j)) G') : Etw X B ρ G (.Compare a [.Eq] [b] pos) post := fun σ H r s Q q =>
  WT.of (pt_cmpR op_eq pe_w pe_w (nomark _)) (ha σ H r s _ fun x H1 d G' r' t i1 z => by
    obtain ⟨i, rfl, hb, hp⟩ := hk d G' z
    refine hb σ H1 r' (s.mono t) _ fun y H2 e2 i2 => ?_
    simp only [Is] at i1 i2
    subst i1 i2
    refine ⟨rfl, decide (V.int i = V.int j), rfl, ?_⟩
    have : decide (V.int i = V.int j) = decide (i = j) := by simp
    rw [this]
    exact q _ H2 G' (r'.ext e2) (t.trans (.of e2)) hp)
theorem etw_and2 {a b : Expr} {pos : Pos} {x : Bool} {p : Bool → GL → Prop} (ha : Et X B ρ G a x) (hb : x = true → Etw X B ρ G b p) (h0 : x = false → p false G) : Etw X B ρ G (.BoolOp .And [a, b] pos) p := fun σ H r s Q q =>
  WT.of (PW.pt (pw_and pt_w (pw_and1 pt_w))) (ha σ H r s _ fun H2 e2 => by
    cases x with
    | true =>
      show WT X b σ H2 Q
      exact hb rfl σ H2 (r.ext e2) (s.ext e2) Q fun c H3 G' r' t z => q c H3 G' r' ((TK.of e2).trans t) z
    | false =>
      show Q false H2
      exact q false H2 G (r.ext e2) (.of e2) (h0 rfl))
theorem ss_ifW {c : Expr} {a b rest : List Stmt} {pos : Pos} {post : Bool → GL → Prop} (hc : Etw X B ρ G c post) (h1 : ∀ G', post true G' → Ss X B ρ G' a { D with nx := fun ρ' G' => Ss X B ρ' G' rest D }) (h2 : ∀ G', post false G' → Ss X B ρ G' b { D with nx := fun ρ' G' => Ss X B ρ' G' rest D }) : Ss X B ρ G (.If c a b pos :: rest) D :=
  ss_cons fun σ H r s => WS.of (ps_if pt_w pss_w pss_w) (hc σ H r s _ fun x H2 G' r' t z => by
    cases x with
    | true => exact iteT (low_tk t (h1 G' z σ H2 r' (s.mono t)))
    | false => exact iteF (low_tk t (h2 G' z σ H2 r' (s.mono t))))
/-- for .. in range(e), e with effects -/
theorem ss_forRW {tg l : Expr} {body rest : List Stmt} {g : TG} {p pos pos2 : Pos} {pa : Dat → GL → Prop} (hl : Ew X B ρ G l pa) (hm : X.mg "range" = none) (hg : PG X tg g) (Pv : Nat → Nat → Sls → GL → Prop)
    (hk : ∀ d G', pa d G' → ∃ n : Nat, d = .int (n : Int) ∧ n ≤ 1000 ∧ Up (Pv n 0) ρ G')
    (hs : ∀ n i ρ' G', i < n → Pv n i ρ' G' → ∃ ρ2, Rd X g (.int (i : Int)) ρ' ρ2 ∧ Ss X B ρ2 G' body { D with nx := Up (Pv n (i + 1)), ct := Up (Pv n (i + 1)), bk := fun ρ' G' => Ss X B ρ' G' rest D }) (hd : ∀ n ρ' G', Pv n n ρ' G' → Ss X B ρ' G' rest D)
    (hgr : Gl X "range" := by rfl) (hc : X.calm = true := by rfl) (hst : starEach [l] X.env = (false, eval l X.env) :: starEach [] X.env := by rfl) (hf : ∀ x, foldedSetIterable (.Call (.Name "range" p) [l] [] pos2) X.env x = pure x := by intro _; rfl) (hp : PassesOwn (model X.prog X.w) X.A X.env X.xe := by exact PassesOwn.never) :
    Ss X B ρ G (.For tg (.Call (.Name "range" p) [l] [] pos2) body [] pos :: rest) D := ss_cons fun σ H r s => by
  refine WS.of (ps_for hp hc (pi_range1 hgr hm (pa_cons pe_w pa_nil hst) hst) hg pss_w hf) (hl σ H r s _ fun v H1 d G1 r1 t1 i1 z => ?_)
  obtain ⟨n, rfl, hn, ρ0, f0, h0⟩ := hk d G1 z
  simp only [Is] at i1
  refine ⟨(n : Int), by rw [i1], by omega, by omega, ?_⟩
  have e1 : ((n : Int)).toNat = n := Int.toNat_natCast n
  rw [e1]
  refine for_it ((walk_range (lo := 0) (n := n)).mono (fun H' g => trivial) fun i' H' x H'' hi g y => y) (fun i σ' H' => ∃ ρ' G', Rep X.prog X.w B G' H' ∧ Sl H' ρ' σ' ∧ TK H1 H' ∧ Pv n i ρ' G') ⟨ρ0, G1, r1, (s.mono t1).frg f0, TK.refl _, h0⟩ (fun i σ' H' hi _ => trivial) ?_ ?_
  · rintro i x σ' H' H'' hi ⟨ρ', G', r', s', t', p'⟩ ⟨eH, hx⟩
    subst eH
    obtain ⟨ρ2, h2, h3⟩ := hs n i ρ' G' hi p'
    refine h2 σ' H'' x s' (by simp only [Is]; rw [hx]; simp) _ fun σ2 s2 => ?_
    have q := h3 σ2 H'' r' s2
    refine ends_mono q (fun _ _ ⟨a, b, c, d, e, ρ0, f0, f⟩ => ⟨ρ0, b, c, d.frg f0, t'.trans e, f⟩) (fun _ _ ⟨a, b, c, d, e, f⟩ => ⟨a, b, c, d, t1.trans (t'.trans e), f⟩) (fun _ _ ⟨a, b, c, d, e, f⟩ => ⟨a, b, c, d, t1.trans (t'.trans e), f⟩) (fun _ _ ⟨a, b, c, d, e, ρ0, f0, f⟩ => ⟨ρ0, b, c, d.frg f0, t'.trans e, f⟩)
  · rintro σ' H' ⟨ρ', G', r', s', t', p'⟩
    exact ⟨ρ', G', r', s', t1.trans t', hd n ρ' G' p'⟩
end
theorem bit_of {r : Int} (h0 : 0 ≤ r) (h1 : r < 2) : ∃ b : Bool, Dat.int r = vD b := by
  have : r = 0 ∨ r = 1 := by omega
  rcases this with rfl | rfl
  · exact ⟨false, rfl⟩
  · exact ⟨true, rfl⟩
theorem line_of {is : List Int} (hl : is.length = 2) (h : ∀ x ∈ is, 0 ≤ x ∧ x < 2) : ∃ ln : Ln, is.map Dat.int = [vD ln.1, vD ln.2] := by
  match is, hl with
  | [a, b], _ =>
    obtain ⟨x, hx⟩ := bit_of (h a (by simp)).1 (h a (by simp)).2
    obtain ⟨y, hy⟩ := bit_of (h b (by simp)).1 (h b (by simp)).2
    exact ⟨(x, y), by simp [hx, hy]⟩
section
variable {P : Program} {w : World} {K : PySem.W.Frag} {mg : Str → Option Value} {base : Heap}
def preSquare : Pre := fun ds B G post => ∃ q pd t ns, ∃ (R : GL), G = dr q pd t ns ++ R ∧ ns ≠ [] ∧ ds = [.adr pd, .int 2] ∧ ∀ (x : Ln × Ln) (t' : Int) (ns' : List Int), ns' ≠ [] → post (sqD x) (dr q pd t' ns' ++ R)
theorem upto_get {n i : Nat} {d : Dat} (h : (upto n)[i]? = some d) : i < n ∧ d = .int (i : Int) := by
  unfold upto at h
  rw [List.getElem?_map] at h
  obtain ⟨x, hx, rfl⟩ := Option.map_eq_some_iff.mp h
  obtain ⟨q1, q2⟩ := List.getElem?_eq_some_iff.mp hx
  rw [List.getElem_range] at q2
  rw [List.length_range] at q1
  exact ⟨q1, by rw [q2]⟩
theorem k_law_square (T0 : Tx P w K mg) : Kn P w K mg base "_law_square" 2 preSquare := by
  refine kn_law_square T0 (fun ds B G post h => by obtain ⟨q, pd, t, ns, R, _, _, rfl, _⟩ := h; rfl) fun cdv A outer s H E hr ds B G post h => ?_
  obtain ⟨q, pd, t, ns, R, rfl, hns, rfl, h⟩ := h
  refine ss_w (i := 2) (ew_draw (k_law_draw T0) hr hns (by decide) (by decide) (vv 0) ev_int) (fun d G' ⟨kind, t1, ns1, _, _, hn1, e1, e2⟩ => ?_) sc_law_square.nd
  subst e1 e2
  refine ss_l (i := 3) (el_lst ea_nil (by simp)) (fun pf b1 b2 => ?_) sc_law_square.nd
  have e0 : dr q pd t1 ns1 ++ R ++ [(pf, DO.lst [])] = dr q pd t1 ns1 ++ (R ++ [(pf, DO.lst (([] : List Ln).map lnD))]) := by simp
  rw [e0]
  refine ss_forF (ds := upto 2) (src_range (n := 2) (vv 1) (by decide) (by decide) rfl T0.f_range) (pg_n (i := 4) sc_law_square.nd)
    (fun j ρ' G' => ∃ (T : List Ln) (t' : Int) (ns' : List Int), T.length = j ∧ ns' ≠ [] ∧ ρ' = [some (.adr pd), some (.int 2), some (.int kind), some (.adr pf), none, none, none] ∧ G' = dr q pd t' ns' ++ (R ++ [(pf, DO.lst (T.map lnD))]))
    ⟨_, ?_, [], t1, ns1, rfl, hn1, rfl, rfl⟩ ?_ ?_
  · repeat' (first | exact Frg.nil | apply Frg.same | apply Frg.drop)
  · rintro j d ρ' G' hd ⟨T, t', ns', hT, hns', rfl, rfl⟩
    obtain ⟨hj, rfl⟩ := upto_get hd
    refine ⟨_, rd_name, ?_⟩
    refine ss_lc1W (i := 6) (j := 5) sc_law_square.nd (bk n_law_square s_law_square) (lc_w (ds := upto 2) ?_ (by decide)
      (fun i ys G' => ∃ (is : List Int) (t' : Int) (ns' : List Int), is.length = i ∧ (∀ x ∈ is, 0 ≤ x ∧ x < 2) ∧ ys = is.map .int ∧ ns' ≠ [] ∧ G' = dr q pd t' ns' ++ (R ++ [(pf, DO.lst (T.map lnD))])) ⟨[], t', ns', rfl, (fun _ h => nomatch h), rfl, hns', rfl⟩ (fun i ys G' ⟨is, _, _, h1, _, h2, _⟩ => by rw [h2, List.length_map, h1]; exact Nat.le_refl _)
      fun i d ys G' hd ⟨is, t', ns', h1, h2, h3, h4, h5⟩ => ⟨_, rdw_name (by simp), fun B' sB s H0 C cl fp => ?_⟩) (fun d G' ⟨pl, ys, G2, e1, ⟨is, t2, ns2, h1, h2, h3, h4, h5⟩, e2⟩ => ?_)
    · exact src_range (n := 2) (vv 1) (by decide) (by decide) rfl T0.f_range
    · subst h5
      refine Ew.imp (ew_draw (lim := 2) (k_law_draw T0) (hr.mono (by decide)) h4 (by decide) (by decide) (vv 0) (vv 1)) fun d G' ⟨r, t'', ns'', a, b, c, e1, e2⟩ => ⟨is ++ [r], t'', ns'', by simp [h1], fun x hx => ?_, by rw [e1, h3]; simp, c, e2⟩
      rcases List.mem_append.mp hx with z | z
      · exact h2 x z
      · rw [List.mem_singleton.mp z]; exact ⟨a, b⟩
    subst e1 e2 h5 h3
    obtain ⟨ln0, hln⟩ := line_of (is := is) (by rw [h1]; rfl) h2
    rw [hln]
    -- the line as it stands between the choices
    have step : ∀ (c : Expr) (pos : Pos) (body rest : List Stmt) (b : Bool) (ln : Ln) (pl : Addr) (D : DE), True := fun _ _ _ _ _ _ _ _ => trivial
    generalize hPv : (fun (ρ' : Sls) (G' : GL) => ∃ (ln : Ln) (pl : Addr), ρ' = [some (.adr pd), some (.int 2), some (.int kind), some (.adr pf), some (.int (j : Int)), some (.adr pl), none] ∧ G' = dr q pd t2 ns2 ++ (R ++ [(pf, DO.lst (T.map lnD)), (pl, DO.lst [vD ln.1, vD ln.2])])) = Pv
    have mk : ∀ (ln : Ln) (pl : Addr), Pv [some (.adr pd), some (.int 2), some (.int kind), some (.adr pf), some (.int (j : Int)), some (.adr pl), none] (dr q pd t2 ns2 ++ (R ++ [(pf, DO.lst (T.map lnD)), (pl, DO.lst [vD ln.1, vD ln.2])])) := fun ln pl => by rw [← hPv]; exact ⟨ln, pl, rfl, rfl⟩
    have un : ∀ ρ' G', Pv ρ' G' → ∃ (ln : Ln) (pl : Addr), ρ' = [some (.adr pd), some (.int 2), some (.int kind), some (.adr pf), some (.int (j : Int)), some (.adr pl), none] ∧ G' = dr q pd t2 ns2 ++ (R ++ [(pf, DO.lst (T.map lnD)), (pl, DO.lst [vD ln.1, vD ln.2])]) := fun ρ' G' z => by rw [← hPv] at z; exact z
    have eG : dr q pd t2 ns2 ++ (R ++ [(pf, DO.lst (T.map lnD))]) ++ [(pl, DO.lst [vD ln0.1, vD ln0.2])] = dr q pd t2 ns2 ++ (R ++ [(pf, DO.lst (T.map lnD)), (pl, DO.lst [vD ln0.1, vD ln0.2])]) := by simp
    rw [eG]
    have done : ∀ (is : List Int) (p' pl : Addr) (ln : Ln) (D : DE), is.length = 2 → (∀ x ∈ is, 0 ≤ x ∧ x < 2) → Ss (cxOf CX0 P w K mg base n_law_square "_law_square" (defScope s_law_square) (He.ga K "_law_square") cdv A outer s H E).nox B
        [some (.adr pd), some (.int 2), some (.int kind), some (.adr pf), some (.int (j : Int)), some (.adr p'), none] (dr q pd t2 ns2 ++ (R ++ [(pf, DO.lst (T.map lnD)), (pl, DO.lst [vD ln.1, vD ln.2])]) ++ [(p', DO.lst (is.map Dat.int))]) [] { D with nx := Up Pv } := fun is p' pl ln D hl hb => by
      obtain ⟨ln', e⟩ := line_of hl hb
      rw [e]
      refine Ss.drop (G0 := dr q pd t2 ns2 ++ (R ++ [(pf, DO.lst (T.map lnD)), (p', DO.lst [vD ln'.1, vD ln'.2])])) (ss_done ⟨_, Frg.refl _, mk ln' p'⟩) ?_
      rw [List.append_assoc, List.append_assoc]
      refine List.Sublist.append (List.Sublist.refl _) (List.Sublist.append (List.Sublist.refl _) ?_)
      exact List.Sublist.cons_cons _ (List.Sublist.cons _ (List.Sublist.refl _))
    have hj01 : j = 0 ∨ j = 1 := by omega
    refine ss_ifJ Pv (et_eqI (vv 2) ev_int) (fun _ => ?_) (fun _ => ss_done ⟨_, Frg.refl _, mk ln0 pl⟩) fun ρ' G' z => ?_
    · refine ss_lc1 (i := 6) (j := 5) sc_law_square.nd (bk n_law_square s_law_square) (lc_no (List.range 2) (fun (k : Nat) => Dat.int (k : Int)) (fun (k : Nat) => Dat.int (((j : Int) + (k : Int)) % 2)) (Src.as (by rfl) (srcS_range (n := 2) (vv 1) (by decide) (by decide) rfl T0.f_range)) (by decide) fun k hk => ⟨_, rdw_name (by simp), fun s H0 C cl fp => ev_mod (ev_add (vv 4) (vv 6)) (vv 1) (by decide)⟩) fun p' _ _ => ?_
      refine done ((List.range 2).map fun (k : Nat) => ((j : Int) + (k : Int)) % 2) p' pl ln0 _ rfl fun x hx => ?_
      obtain ⟨k, _, rfl⟩ := List.mem_map.mp hx
      omega
    obtain ⟨ln1, pl1, rfl, rfl⟩ := un ρ' G' z
    refine ss_ifJ Pv (et_eqI (vv 2) ev_int) (fun _ => ?_) (fun _ => ss_done ⟨_, Frg.refl _, mk ln1 pl1⟩) fun ρ' G' z => ?_
    · refine ss_lc1 (i := 6) (j := 5) sc_law_square.nd (bk n_law_square s_law_square) (lc_no (List.range 2) (fun (k : Nat) => Dat.int (k : Int)) (fun (k : Nat) => Dat.int (if (k : Int) < (j : Int) then (k : Int) else (j : Int))) (Src.as (by rfl) (srcS_range (n := 2) (vv 1) (by decide) (by decide) rfl T0.f_range)) (by decide) fun k hk => ⟨_, rdw_name (by simp), fun s H0 C cl fp => ev_min2 rfl rfl T0.f_min (vv 4) (vv 6)⟩) fun p' _ _ => ?_
      refine done ((List.range 2).map fun (k : Nat) => if (k : Int) < (j : Int) then (k : Int) else (j : Int)) p' pl1 ln1 _ rfl fun x hx => ?_
      obtain ⟨k, hk, rfl⟩ := List.mem_map.mp hx
      have := List.mem_range.mp hk
      split <;> omega
    obtain ⟨ln2, pl2, rfl, rfl⟩ := un ρ' G' z
    refine ss_ifJ Pv (et_eqI (vv 2) ev_int) (fun _ => ?_) (fun _ => ss_done ⟨_, Frg.refl _, mk ln2 pl2⟩) fun ρ' G' z => ?_
    · refine ss_lc1 (i := 6) (j := 5) sc_law_square.nd (bk n_law_square s_law_square) (lc_no (List.range 2) (fun (k : Nat) => Dat.int (k : Int)) (fun (k : Nat) => Dat.int (((2 : Int) - 1 - (j : Int) + (k : Int)) % 2)) (Src.as (by rfl) (srcS_range (n := 2) (vv 1) (by decide) (by decide) rfl T0.f_range)) (by decide) fun k hk => ⟨_, rdw_name (by simp), fun s H0 C cl fp => ev_mod (ev_add (ev_sub (ev_sub (vv 1) ev_int) (vv 4)) (vv 6)) (vv 1) (by decide)⟩) fun p' _ _ => ?_
      refine done ((List.range 2).map fun (k : Nat) => ((2 : Int) - 1 - (j : Int) + (k : Int)) % 2) p' pl2 ln2 _ rfl fun x hx => ?_
      obtain ⟨k, _, rfl⟩ := List.mem_map.mp hx
      omega
    obtain ⟨ln3, pl3, rfl, rfl⟩ := un ρ' G' z
    refine ss_append (p := pf) (vv 3) (Ev.w (d := lnD ln3) (ev_tupleL (a := pl3) (ds := [vD ln3.1, vD ln3.2]) T0.f_tuple (vv 5) (lat_mem (by simp)))) (fun d G' ⟨e1, e2⟩ => ⟨dr q pd t2 ns2 ++ R, [(pl3, DO.lst [vD ln3.1, vD ln3.2])], T.map lnD, by rw [e2]; simp, ?_, Ss.drop (G0 := dr q pd t2 ns2 ++ (R ++ [(pf, DO.lst ((T ++ [ln3]).map lnD))])) (ss_done ⟨_, ?_, T ++ [ln3], t2, ns2, by simp [hT], h4, rfl, rfl⟩) ?_⟩) ?_
    · rw [List.length_map, hT]; exact Nat.lt_of_lt_of_le hj (by decide)
    · repeat' (first | exact Frg.nil | apply Frg.same | apply Frg.drop)
    · rw [e1, ← List.append_assoc, List.map_append]
      refine List.Sublist.append (List.Sublist.refl _) ?_
      exact List.Sublist.cons_cons _ (List.nil_sublist _)
    · obtain ⟨j', hj'⟩ := List.mem_iff_getElem?.mp (show (pf, DO.lst (T.map lnD)) ∈ dr q pd t2 ns2 ++ (R ++ [(pf, DO.lst (T.map lnD)), (pl3, DO.lst [vD ln3.1, vD ln3.2])]) from by simp)
      exact ⟨j', _, hj'⟩
  · rintro ρ' G' ⟨T, t', ns', hT, hns', rfl, rfl⟩
    have hl2 : (upto 2).length = 2 := rfl
    rw [hl2] at hT
    match T, hT with
    | [a, b], _ =>
      refine ss_retW (Ew.sub (Ev.w (d := sqD (a, b)) (ev_tupleL (a := pf) T0.f_tuple (vv 3) (lat_mem (by simp)))) (q := fun d G' => d = sqD (a, b) ∧ G' = dr q pd t' ns' ++ R) fun d G' ⟨e1, e2⟩ => ⟨dr q pd t' ns' ++ R, ?_, e1, rfl⟩) (fun d G' ⟨e1, e2⟩ => by rw [e1, e2]; exact h (a, b) t' ns' hns')
      rw [e2, ← List.append_assoc]; exact List.sublist_append_left _ _
end
end Bk
set_option Elab.async false
set_option linter.all false
set_option autoImplicit false
set_option maxRecDepth 100000
set_option maxHeartbeats 1000000
namespace Bk
open PySem L2
section
variable {P : Program} {w : World} {K : PySem.W.Frag} {mg : Str → Option Value} {base : Heap}
def preMeaning : Pre := fun ds B G post => ∃ q pd t ns m, ∃ (R : GL), G = dr q pd t ns ++ R ∧ ns ≠ [] ∧ okM m ∧ ds = [.adr pd, .int 2, mnD m] ∧ ∀ (M : Mg) (t' : Int) (ns' : List Int), MgOk m M → ns' ≠ [] → post (mgD M) (dr q pd t' ns' ++ R)
def blkScope : Expr → Scope
  | .ListComp _ _ sc _ => sc
  | _ => default
theorem k_law_meaning (T0 : Tx P w K mg) : Kn P w K mg base "_law_meaning" 3 preMeaning := by
  refine kn_law_meaning T0 (fun ds B G post h => by obtain ⟨q, pd, t, ns, m, R, _, _, _, rfl, _⟩ := h; rfl) fun cdv A outer s H E hr ds B G post h => ?_
  obtain ⟨q, pd, t, ns, m, R, rfl, hns, hm, rfl, h⟩ := h
  obtain ⟨m1, m2, _, _⟩ := okM_le hm
  refine ss_w (i := 3) (post := fun d G' => ∃ (sqs : List (Ln × Ln)) (t' : Int) (ns' : List Int), sqs.length = m.1 ∧ ns' ≠ [] ∧ d = .tup (sqs.map sqD) ∧ G' = dr q pd t' ns' ++ R) (Ew.sub (ew_tupleW (post := fun d G' => ∃ (sqs : List (Ln × Ln)) (t' : Int) (ns' : List Int) (p : Addr), sqs.length = m.1 ∧ ns' ≠ [] ∧ d = .tup (sqs.map sqD) ∧ G' = dr q pd t' ns' ++ R ++ [(p, DO.lst (sqs.map sqD))]) T0.f_tuple (ew_lc1 (i := 4) sc_law_meaning.nd (bk n_law_meaning s_law_meaning) (lc_w (ds := upto m.1) ?_ ?_
    (fun i ys G' => ∃ (sqs : List (Ln × Ln)) (t' : Int) (ns' : List Int), sqs.length = i ∧ ys = sqs.map sqD ∧ ns' ≠ [] ∧ G' = dr q pd t' ns' ++ R) ⟨[], t, ns, rfl, rfl, hns, rfl⟩ (fun i ys G' ⟨is, _, _, h1, h2, _⟩ => by rw [h2, List.length_map, h1]; exact Nat.le_refl _)
      fun i d ys G' hd ⟨sqs, t', ns', h1, h2, h3, h4⟩ => ⟨_, rdw_name (by simp), fun B' sB s H0 C cl fp => ?_⟩)) fun d G' ⟨p, ys, G2, e1, ⟨sqs, t', ns', h1, h2, h3, h4⟩, e2⟩ => ?_) fun d G' ⟨sqs, t', ns', p, a, b, c, e⟩ => ⟨dr q pd t' ns' ++ R, by rw [e]; exact List.sublist_append_left _ _, sqs, t', ns', a, b, c, rfl⟩) (fun d G' ⟨sqs, t1, ns1, hsq, hn1, e1, e2⟩ => ?_) sc_law_meaning.nd
  · exact Src.as (by simp) (src_range (n := (m.1 : Nat)) (ev_ixT (d := .int (m.1 : Nat)) (ds := [.int (m.1 : Nat), .int (m.2 : Nat)]) (vv 2) ev_int rfl) (by omega) (by omega) rfl T0.f_range)
  · simp [upto]; exact Nat.le_trans m1 (by decide)
  · subst h4
    refine ew_call (post := fun y G'' => ∃ (sqs' : List (Ln × Ln)) (t'' : Int) (ns'' : List Int), sqs'.length = i + 1 ∧ ys ++ [y] = sqs'.map sqD ∧ ns'' ≠ [] ∧ G'' = dr q pd t'' ns'' ++ R) (k_law_square T0) (hr.mono (by decide)) rfl (ea_cons (vv 0) (ea_cons (vv 1) ea_nil)) ⟨q, pd, t', ns', R, rfl, h3, rfl, fun x t'' ns'' hn => ⟨sqs ++ [x], t'', ns'', by simp [h1], by rw [h2]; simp, hn, rfl⟩⟩
  · subst e1 e2 h4 h2
    rw [show (upto m.1).length = m.1 from by simp [upto]] at h1
    exact ⟨p, sqs.map sqD, rfl, lat_mem (by simp), sqs, t', ns', p, h1, h3, rfl, rfl⟩
  subst e1 e2
  refine ss_retW (post := fun d G' => ∃ (lns : List Ln) (t' : Int) (ns' : List Int), lns.length = m.2 ∧ ns' ≠ [] ∧ d = mgD ⟨sqs, lns⟩ ∧ G' = dr q pd t' ns' ++ R) (Ew.imp (ew_tupW (post := fun ds G' => ∃ (lns : List Ln) (t' : Int) (ns' : List Int), lns.length = m.2 ∧ ns' ≠ [] ∧ ds = [.int 2, .tup (sqs.map sqD), .tup (lns.map lnD)] ∧ G' = dr q pd t' ns' ++ R) (eaw_v (vv 1) (eaw_v (vv 3) (eaw_cons (p := fun d G' => ∃ (lns : List Ln) (t' : Int) (ns' : List Int), lns.length = m.2 ∧ ns' ≠ [] ∧ d = .tup (lns.map lnD) ∧ G' = dr q pd t' ns' ++ R) ?_ fun d G' ⟨lns, t', ns', a, b, c, e⟩ => eaw_nil ⟨lns, t', ns', a, b, by rw [c], e⟩))) (by simp) (fun ds G' ⟨lns, _, _, _, _, e, _⟩ => by rw [e]; rfl)) fun d G' ⟨ds, e1, lns, t', ns', a, b, c, e⟩ => ⟨lns, t', ns', a, b, by rw [e1, c]; rfl, e⟩) (fun d G' ⟨lns, t', ns', a, b, c, e⟩ => by rw [c, e]; exact h ⟨sqs, lns⟩ t' ns' ⟨hsq, a⟩ b)
  refine Ew.sub (ew_tupleW (post := fun d G' => ∃ (lns : List Ln) (t' : Int) (ns' : List Int) (p : Addr), lns.length = m.2 ∧ ns' ≠ [] ∧ d = .tup (lns.map lnD) ∧ G' = dr q pd t' ns' ++ R ++ [(p, DO.lst (lns.map lnD))]) T0.f_tuple (ew_lc1 (i := 4) sc_law_meaning.nd (bk n_law_meaning s_law_meaning) (lc_w (ds := upto m.2) ?_ ?_
    (fun i ys G' => ∃ (lns : List Ln) (t' : Int) (ns' : List Int), lns.length = i ∧ ys = lns.map lnD ∧ ns' ≠ [] ∧ G' = dr q pd t' ns' ++ R) ⟨[], t1, ns1, rfl, rfl, hn1, rfl⟩ (fun i ys G' ⟨is, _, _, h1, h2, _⟩ => by rw [h2, List.length_map, h1]; exact Nat.le_refl _)
      fun i d ys G' hd ⟨lns, t', ns', h1, h2, h3, h4⟩ => ⟨_, rdw_name (by simp), fun B' sB s H0 C cl fp => ?_⟩)) fun d G' ⟨p, ys, G2, e1, ⟨lns, t', ns', h1, h2, h3, h4⟩, e2⟩ => ?_) fun d G' ⟨lns, t', ns', p, a, b, c, e⟩ => ⟨dr q pd t' ns' ++ R, by rw [e]; exact List.sublist_append_left _ _, lns, t', ns', a, b, c, rfl⟩
  · exact Src.as (by simp) (src_range (n := (m.2 : Nat)) (ev_ixT (d := .int (m.2 : Nat)) (ds := [.int (m.1 : Nat), .int (m.2 : Nat)]) (vv 2) ev_int rfl) (by omega) (by omega) rfl T0.f_range)
  · simp [upto]; exact Nat.le_trans m2 (by decide)
  · subst h4
    refine Ew.sub (p := fun y G'' => ∃ (ln : Ln) (t'' : Int) (ns'' : List Int) (p : Addr) (is : List Int), ns'' ≠ [] ∧ y = lnD ln ∧ G'' = dr q pd t'' ns'' ++ R ++ [(p, DO.lst (is.map Dat.int))]) (ew_tupleW T0.f_tuple (ew_lc1 (i := 5) sc_law_meaning.nd (blkOk_by ?_) (lc_w (ds := upto 2) ?_ (by decide)
      (fun i ys G' => ∃ (is : List Int) (t' : Int) (ns' : List Int), is.length = i ∧ (∀ x ∈ is, 0 ≤ x ∧ x < 2) ∧ ys = is.map .int ∧ ns' ≠ [] ∧ G' = dr q pd t' ns' ++ R) ⟨[], t', ns', rfl, (fun _ h => nomatch h), rfl, h3, rfl⟩ (fun i ys G' ⟨is, _, _, h1, _, h2, _⟩ => by rw [h2, List.length_map, h1]; exact Nat.le_refl _)
      fun i d ys G' hd ⟨is, t', ns', h1, h2, h3, h4, h5⟩ => ⟨_, rdw_name (by simp), fun B' sB s H0 C cl fp => ?_⟩)) (fun d G' ⟨p, ys, G2, e1, ⟨is, t2, ns2, h1, h2, h3, h4, h5⟩, e2⟩ => ?_)) fun y G'' ⟨ln, t'', ns'', p, is, hn, e1, e2⟩ => ⟨dr q pd t'' ns'' ++ R, by rw [e2]; exact List.sublist_append_left _ _, lns ++ [ln], t'', ns'', by simp [h1], by rw [h2, e1]; simp, hn, rfl⟩
    · kernel_rfl
    · exact src_range (n := 2) (vv 1) (by decide) (by decide) rfl T0.f_range
    · subst h5
      refine Ew.imp (ew_draw (lim := 2) (k_law_draw T0) (hr.mono (by decide)) h4 (by decide) (by decide) (vv 0) (vv 1)) fun d G' ⟨r, t'', ns'', a, b, c, e1, e2⟩ => ⟨is ++ [r], t'', ns'', by simp [h1], fun x hx => ?_, by rw [e1, h3]; simp, c, e2⟩
      rcases List.mem_append.mp hx with z | z
      · exact h2 x z
      · rw [List.mem_singleton.mp z]; exact ⟨a, b⟩
    · subst e1 e2 h5 h3
      obtain ⟨ln, hln⟩ := line_of (is := is) (by rw [h1]; rfl) h2
      exact ⟨p, is.map Dat.int, rfl, lat_mem (by simp), ln, t2, ns2, p, is, h4, by rw [hln]; rfl, rfl⟩
  · subst e1 e2 h4 h2
    rw [show (upto m.2).length = m.2 from by simp [upto]] at h1
    exact ⟨p, lns.map lnD, rfl, lat_mem (by simp), lns, t', ns', p, h1, h3, rfl, rfl⟩
end
end Bk
set_option Elab.async false
set_option linter.all false
set_option autoImplicit false
set_option maxRecDepth 100000
set_option maxHeartbeats 1000000
namespace Bk
open PySem L2
theorem abc_at {r : Int} (h0 : 0 ≤ r) (h : r < 3) : ∃ k : Nat, r = (k : Int) ∧ k < 3 ∧ L2.atI ("abc" : Str).cps.toList r = some (97 + k) := by
  have : r = 0 ∨ r = 1 ∨ r = 2 := by omega
  rcases this with rfl | rfl | rfl
  · exact ⟨0, rfl, by decide, rfl⟩
  · exact ⟨1, rfl, by decide, rfl⟩
  · exact ⟨2, rfl, by decide, rfl⟩
theorem pq_at {r : Int} (h0 : 0 ≤ r) (h : r < 2) : ∃ k : Nat, r = (k : Int) ∧ k < 2 ∧ L2.atI ("pq" : Str).cps.toList r = some (112 + k) := by
  have : r = 0 ∨ r = 1 := by omega
  rcases this with rfl | rfl
  · exact ⟨0, rfl, by decide, rfl⟩
  · exact ⟨1, rfl, by decide, rfl⟩
section
variable {P : Program} {w : World} {K : PySem.W.Frag} {mg : Str → Option Value} {base : Heap}
def preRow : Pre := fun ds B G post => ∃ q pd t ns m, ∃ (R : GL), G = dr q pd t ns ++ R ∧ ns ≠ [] ∧ okM m ∧ ds = [.adr pd, mnD m, .int 2, .int 4] ∧ ∀ (its : List It) (t' : Int) (ns' : List Int) (p : Addr), RowV m its → its.length ≤ 20 → ns' ≠ [] → post (.adr p) (dr q pd t' ns' ++ (R ++ [(p, .lst (its.map itD))]))
theorem itok_add {m : Mn} {its : List It} {it : It} (h : ∀ x ∈ its, ItOk m x) (hi : ItOk m it) : ∀ x ∈ its ++ [it], ItOk m x := fun x hx => by
  rcases List.mem_append.mp hx with z | z
  · exact h x z
  · rw [List.mem_singleton.mp z]; exact hi
theorem k_law_row (T0 : Tx P w K mg) : Kn P w K mg base "_law_row" 2 preRow := by
  refine kn_law_row T0 (fun ds B G post h => by obtain ⟨q, pd, t, ns, m, R, _, _, _, rfl, _⟩ := h; rfl) fun cdv A outer s H E hr ds B G post h => ?_
  obtain ⟨q, pd, t, ns, m, R, rfl, hns, hm, rfl, h⟩ := h
  obtain ⟨m1, m2, m3, m4⟩ := okM_le hm
  refine ss_l (i := 4) (el_lst ea_nil (by simp)) (fun pf b1 b2 => ?_) sc_law_row.nd
  have e0 : dr q pd t ns ++ R ++ [(pf, DO.lst [])] = dr q pd t ns ++ (R ++ [(pf, DO.lst (([] : List It).map itD))]) := by simp
  rw [e0]
  have has : ∀ (t : Int) (ns : List Int) (its : List It), ∃ (j : Nat) (ds : List Dat), (dr q pd t ns ++ (R ++ [(pf, DO.lst (its.map itD))]))[j]? = some (pf, DO.lst ds) := fun t ns its => by
    obtain ⟨j', hj'⟩ := List.mem_iff_getElem?.mp (show (pf, DO.lst (its.map itD)) ∈ dr q pd t ns ++ (R ++ [(pf, DO.lst (its.map itD))]) from by simp)
    exact ⟨j', _, hj'⟩
  refine ss_forRW (ew_addIW (j := 1) (post := fun d G' => ∃ (n : Nat) (t' : Int) (ns' : List Int), 1 ≤ n ∧ n ≤ 5 ∧ ns' ≠ [] ∧ d = .int (n : Int) ∧ G' = dr q pd t' ns' ++ (R ++ [(pf, DO.lst (([] : List It).map itD))])) (ew_draw (lim := 5) (k_law_draw T0) hr hns (by decide) (by decide) (vv 0) (Ev.as (d := .int (4 + 1)) (by rfl) (ev_add (i := 4) (j := 1) (vv 3) ev_int))) fun d G' ⟨r, t', ns', a, b, c, e1, e2⟩ => ⟨r, e1, ev_int, (r + 1).toNat, t', ns', by omega, by omega, c, by rw [Int.toNat_of_nonneg (by omega)], e2⟩) T0.f_range (pg_n (i := 5) sc_law_row.nd)
    (fun n i ρ' G' => ∃ (its : List It) (t' : Int) (ns' : List Int), 1 ≤ n ∧ n ≤ 5 ∧ ns' ≠ [] ∧ (∀ x ∈ its, ItOk m x) ∧ rdy false its = some (decide (0 < i)) ∧ its.length ≤ 4 * i ∧ ρ' = [some (.adr pd), some (mnD m), some (.int 2), some (.int 4), some (.adr pf), none, none] ∧ G' = dr q pd t' ns' ++ (R ++ [(pf, DO.lst (its.map itD))]))
    (fun d G' ⟨n, t', ns', h1, h2, h3, e1, e2⟩ => ⟨n, e1, by omega, _, ?_, [], t', ns', h1, h2, h3, (fun _ h => nomatch h), rfl, Nat.le_refl _, rfl, e2⟩) ?_ ?_
  · repeat' (first | exact Frg.nil | apply Frg.same | apply Frg.drop)
  · rintro n i ρ' G' hin ⟨its, t1, ns1, hn1, hn5, hns1, hit, hrd, hlen, rfl, rfl⟩
    refine ⟨_, rd_name, ?_⟩
    -- the place of a value comes, no value is at hand
    refine ss_ifJ (fun ρ' G' => ∃ (its : List It) (t' : Int) (ns' : List Int), ns' ≠ [] ∧ (∀ x ∈ its, ItOk m x) ∧ rdy false its = some false ∧ its.length ≤ 4 * i + 1 ∧ ρ' = [some (.adr pd), some (mnD m), some (.int 2), some (.int 4), some (.adr pf), none, none] ∧ G' = dr q pd t' ns' ++ (R ++ [(pf, DO.lst (its.map itD))])) (et_gt (vv 5) ev_int) (fun hx => ?_) (fun hx => ss_done ⟨_, ?_, its, t1, ns1, hns1, hit, ?_, by omega, rfl, rfl⟩) ?_
    · have hi0 : 0 < i := by have := of_decide_eq_true hx; omega
      refine ss_append (p := pf) (vv 4) (ew_ixSW (z := "abc") (post := fun d G' => ∃ (k : Nat) (t' : Int) (ns' : List Int), k < m.1 ∧ ns' ≠ [] ∧ d = sgD (.inf k) ∧ G' = dr q pd t' ns' ++ (R ++ [(pf, DO.lst (its.map itD))])) ev_str (ew_draw (lim := (m.1 : Nat)) (k_law_draw T0) hr hns1 (by omega) (by omega) (vv 0) (ev_ixT (d := .int (m.1 : Nat)) (vv 1) ev_int rfl)) (by decide) fun d G' ⟨r, t', ns', a, b, c, e1, e2⟩ => ?_) (fun d G' ⟨k, t', ns', hk, hn', e1, e2⟩ => ⟨dr q pd t' ns' ++ R, [], its.map itD, by rw [e2]; simp, ?_, ss_done ⟨_, ?_, its ++ [.s (.inf k)], t', ns', hn', itok_add hit ?_, rdy_snoc hrd ?_, by simp; omega, rfl, ?_⟩⟩) (has _ _ _)
      · obtain ⟨k, rfl, hk3, hat⟩ := abc_at a (by omega)
        exact ⟨(k : Int), 97 + k, e1, hat, k, t', ns', by omega, c, rfl, e2⟩
      · rw [List.length_map]; exact Nat.lt_of_le_of_lt hlen (Nat.lt_of_le_of_lt (show 4 * i ≤ 20 by omega) (by decide))
      · repeat' (first | exact Frg.nil | apply Frg.same | apply Frg.drop)
      · intro g e; cases e; simp [allS, hk]
      · rw [decide_eq_true hi0]; rfl
      · rw [e1]; simp; rfl
    · repeat' (first | exact Frg.nil | apply Frg.same | apply Frg.drop)
    · have : ¬ (0 < i) := by have := of_decide_eq_false hx; omega
      rw [hrd, decide_eq_false this]
    rintro ρ' G' ⟨its, t2, ns2, hns2, hit2, hrd2, hlen2, rfl, rfl⟩
    refine ss_forF (ds := upto 2) (src_range (n := 2) ev_int (by decide) (by decide) rfl T0.f_range) (pg_n (i := 6) sc_law_row.nd)
      (fun j ρ' G' => ∃ (its : List It) (t' : Int) (ns' : List Int), ns' ≠ [] ∧ (∀ x ∈ its, ItOk m x) ∧ rdy false its = some false ∧ its.length ≤ 4 * i + 1 + j ∧ ρ' = [some (.adr pd), some (mnD m), some (.int 2), some (.int 4), some (.adr pf), none, none] ∧ G' = dr q pd t' ns' ++ (R ++ [(pf, DO.lst (its.map itD))]))
      ⟨_, Frg.refl _, its, t2, ns2, hns2, hit2, hrd2, hlen2, rfl, rfl⟩ ?_ ?_
    · rintro j d ρ' G' hd ⟨its, t3, ns3, hns3, hit3, hrd3, hlen3, rfl, rfl⟩
      obtain ⟨hj, rfl⟩ := upto_get hd
      refine ⟨_, rd_name, ?_⟩
      refine ss_ifW (post := fun b G' => ∃ (t' : Int) (ns' : List Int), (b = true → 0 < m.2) ∧ ns' ≠ [] ∧ G' = dr q pd t' ns' ++ (R ++ [(pf, DO.lst (its.map itD))])) (etw_and2 (x := decide ((0 : Int) < (m.2 : Nat))) (et_gt (ev_ixT (d := .int (m.2 : Nat)) (vv 1) ev_int rfl) ev_int) (fun hb => etw_eqI (j := 0) (ew_draw (lim := 4) (k_law_draw T0) hr hns3 (by decide) (by decide) (vv 0) ev_int) fun d G' ⟨r, t', ns', a, b, c, e1, e2⟩ => ⟨r, e1, ev_int, t', ns', fun _ => by have := of_decide_eq_true hb; omega, c, e2⟩) (fun hb => ⟨t3, ns3, (fun h => nomatch h), hns3, rfl⟩))
        (fun G' ⟨t4, ns4, hb, hns4, e⟩ => ?_) (fun G' ⟨t4, ns4, hb, hns4, e⟩ => ss_done (ss_done ⟨_, ?_, its, t4, ns4, hns4, hit3, hrd3, by omega, rfl, e⟩))
      · have hm2 := hb rfl
        subst e
        refine ss_append (p := pf) (vv 4) (ew_ixSW (z := "pq") (post := fun d G' => ∃ (k : Nat) (t' : Int) (ns' : List Int), k < m.2 ∧ ns' ≠ [] ∧ d = sgD (.ahd k) ∧ G' = dr q pd t' ns' ++ (R ++ [(pf, DO.lst (its.map itD))])) ev_str (ew_draw (lim := (m.2 : Nat)) (k_law_draw T0) hr hns4 (by omega) (by omega) (vv 0) (ev_ixT (d := .int (m.2 : Nat)) (vv 1) ev_int rfl)) (by decide) fun d G' ⟨r, t', ns', a, b, c, e1, e2⟩ => ?_) (fun d G' ⟨k, t', ns', hk, hn', e1, e2⟩ => ⟨dr q pd t' ns' ++ R, [], its.map itD, by rw [e2]; simp, ?_, ss_done (ss_done ⟨_, ?_, its ++ [.s (.ahd k)], t', ns', hn', itok_add hit3 ?_, rdy_snoc hrd3 rfl, by simp; omega, rfl, ?_⟩)⟩) (has _ _ _)
        · obtain ⟨k, rfl, hk3, hat⟩ := pq_at a (by omega)
          exact ⟨(k : Int), 112 + k, e1, hat, k, t', ns', by omega, c, rfl, e2⟩
        · rw [List.length_map]; exact Nat.lt_of_le_of_lt hlen3 (Nat.lt_of_le_of_lt (show 4 * i + 1 + j ≤ 40 by omega) (by decide))
        · repeat' (first | exact Frg.nil | apply Frg.same | apply Frg.drop)
        · intro g e; cases e; simp [allS, hk]
        · rw [e1]; simp; rfl
      · repeat' (first | exact Frg.nil | apply Frg.same | apply Frg.drop)
    · rintro ρ' G' ⟨its, t3, ns3, hns3, hit3, hrd3, hlen3, rfl, rfl⟩
      rw [show (upto 2).length = 2 from rfl] at hlen3
      refine ss_append (p := pf) (vv 4) (ew_draw (lim := 2) (k_law_draw T0) hr hns3 (by decide) (by decide) (vv 0) (vv 2)) (fun d G' ⟨r, t', ns', a, b, c, e1, e2⟩ => ?_) (has _ _ _)
      obtain ⟨x, hx⟩ := bit_of a b
      refine ⟨dr q pd t' ns' ++ R, [], its.map itD, by rw [e2]; simp, ?_, ss_done ⟨_, ?_, its ++ [.v x], t', ns', hn1, hn5, c, itok_add hit3 ?_, ?_, by simp; omega, rfl, ?_⟩⟩
      · rw [List.length_map]; exact Nat.lt_of_le_of_lt hlen3 (Nat.lt_of_le_of_lt (show 4 * i + 1 + 2 ≤ 40 by omega) (by decide))
      · repeat' (first | exact Frg.nil | apply Frg.same | apply Frg.drop)
      · intro g e; cases e
      · rw [decide_eq_true (Nat.succ_pos i)]
        exact rdy_snoc hrd3 rfl
      · rw [e1, hx]; simp; rfl
  · rintro n ρ' G' ⟨its, t', ns', h1, h2, h3, h4, h5, h6, rfl, rfl⟩
    refine ss_r (vv 4) (h its t' ns' pf ⟨h4, by rw [h5, decide_eq_true (by omega : 0 < n)]⟩ (by omega) h3)
end
end Bk
set_option Elab.async false
set_option linter.all false
set_option autoImplicit false
set_option maxRecDepth 100000
set_option maxHeartbeats 1000000
/-! The law's states as keys: told apart, few. -/
namespace Bk
open PySem L2
theorem plD_inj {a b : Nat × Ln} (h : (plD a).nk = (plD b).nk) : a = b := by
  simp only [plD, Dat.nk, Dat.nks, NestedKey.tup.injEq, List.cons.injEq, NestedKey.num.injEq, and_true] at h
  exact Prod.ext (by have := h.1; omega) (lnD_inj h.2)
theorem pls_inj : ∀ {a b : Stk}, Dat.nks (a.map plD) = Dat.nks (b.map plD) → a = b
  | [], [], _ => rfl
  | [], _ :: _, h => by simp [Dat.nks] at h
  | _ :: _, [], h => by simp [Dat.nks] at h
  | x :: a, y :: b, h => by
    simp only [List.map_cons, Dat.nks, List.cons.injEq] at h
    rw [plD_inj h.1, pls_inj h.2]
theorem owS_inj {a b : Option Stk} (h : (owS a).nk = (owS b).nk) : a = b := by
  cases a <;> cases b
  · rfl
  · simp [owS, skD, Dat.nk] at h
  · simp [owS, skD, Dat.nk] at h
  · simp only [owS, skD, Dat.nk, NestedKey.tup.injEq] at h
    exact congrArg some (List.reverse_inj.mp (pls_inj h))
theorem lsD_inj {a b : LS} (h : (lsD a).nk = (lsD b).nk) : a = b := by
  simp only [lsD, Dat.nk, Dat.nks, NestedKey.tup.injEq, List.cons.injEq, and_true] at h
  cases a; cases b
  simp only [LS.mk.injEq]
  exact ⟨owS_inj h.1, obD_inj h.2⟩
def llD (e : LL) : Dat := .tup [lsD e.1, lsD e.2]
theorem llD_inj {a b : LL} (h : (llD a).nk = (llD b).nk) : a = b := by
  simp only [llD, Dat.nk, Dat.nks, NestedKey.tup.injEq, List.cons.injEq, and_true] at h
  exact Prod.ext (lsD_inj h.1) (lsD_inj h.2)
theorem owS_clean (o : Option Stk) : (owS o).clean = true := Dat.fine.c (ow_fine o)
theorem owS_depth (o : Option Stk) : (owS o).nk.depth ≤ 4 := by
  cases o with
  | none => simp [owS, Dat.nk, NestedKey.depth]
  | some st =>
    refine tup_depth fun d hd => ?_
    obtain ⟨x, _, rfl⟩ := List.mem_map.mp hd
    refine tup_depth fun d hd => ?_
    simp only [List.mem_cons, List.mem_nil_iff, or_false] at hd
    rcases hd with rfl | rfl
    · simp [Dat.nk, NestedKey.depth]
    · exact lnD_depth _
theorem lsD_depth (s : LS) : (lsD s).nk.depth ≤ 5 := tup_depth fun d hd => by
  simp only [List.mem_cons, List.mem_nil_iff, or_false] at hd
  rcases hd with rfl | rfl
  · exact owS_depth _
  · cases s.here with
    | none => simp [obD, Dat.nk, NestedKey.depth]
    | some b => exact Nat.le_trans (vD_depth b) (by decide)
theorem lsD_clean (s : LS) : (lsD s).clean = true := by
  have h2 : (obD s.here).clean = true := by cases s.here <;> rfl
  simp [lsD, Dat.clean, Dat.cleans, owS_clean, h2]
theorem llD_ok (e : LL) : (∃ ds, llD e = .tup ds) ∧ (llD e).clean = true ∧ (llD e).nk.depth ≤ 8 := by
  refine ⟨⟨_, rfl⟩, by simp [llD, Dat.clean, Dat.cleans, lsD_clean], Nat.le_trans (tup_depth (n := 5) fun d hd => ?_) (by decide)⟩
  simp only [List.mem_cons, List.mem_nil_iff, or_false] at hd
  rcases hd with rfl | rfl <;> exact lsD_depth _
def knownL (S : List LL) : List (Dat × Dat) := S.map fun e => (llD e, .bl true)
theorem look_knownL {s : LL} : ∀ {S : List LL}, look (knownL S) (llD s).nk = if s ∈ S then some (.bl true) else none
  | [] => rfl
  | e :: S => by
    have ih := look_knownL (s := s) (S := S)
    by_cases k : (llD e).nk = (llD s).nk
    · have e1 := llD_inj k
      subst e1
      simp [look, knownL]
    · have hne : s ≠ e := fun z => k (by rw [← z])
      have l1 : look (knownL (e :: S)) (llD s).nk = look (knownL S) (llD s).nk := by simp [look, knownL, List.find?_cons, k]
      rw [l1, ih]
      simp [hne]
def allLS (n : Nat) : List LS := (none :: (allW n).map fun w => some (ents 0 w)).flatMap fun w => [none, some false, some true].map fun v => ⟨w, v⟩
theorem mem_allLS {m : Mn} {T : Tb} {s : PS} {l : LS} (ho : StOk m T s) (h : RelS s l) : l ∈ allLS T.length := by
  obtain ⟨wt, v⟩ := l
  simp only [allLS, List.mem_flatMap, List.mem_map]
  refine ⟨wt, ?_, v, ?_, rfl⟩
  · have hw := h.wt
    simp only at hw
    rw [hw]
    cases hs : s.wait with
    | none => simp
    | some w =>
      have := ho.len w hs
      rw [← this]
      exact List.mem_cons_of_mem _ (List.mem_map.mpr ⟨w, mem_allW w, rfl⟩)
  · cases v with
    | none => simp
    | some b => cases b <;> simp
theorem len_allLS {n : Nat} (h : n ≤ 3) : (allLS n).length ≤ 378 := by
  have : n = 0 ∨ n = 1 ∨ n = 2 ∨ n = 3 := by omega
  rcases this with rfl | rfl | rfl | rfl <;> decide +kernel
theorem few_LL {m : Mn} {T U : Tb} {S : List LL} (hT : TbOk m T) (hU : TbOk m U) (nd : S.Nodup) (ok : ∀ e ∈ S, ∃ s, RelP m T U s e) : S.length ≤ 142884 := by
  have h1 := nodup_sub (U := (allLS T.length).flatMap fun s => (allLS U.length).map fun t => (s, t)) nd fun e he => by
    obtain ⟨s, r⟩ := ok e he
    exact List.mem_flatMap.mpr ⟨e.1, mem_allLS r.oa r.a, List.mem_map.mpr ⟨e.2, mem_allLS r.ob r.b, rfl⟩⟩
  rw [len_flat (n := (allLS U.length).length) (fun s => by simp)] at h1
  have : (allLS T.length).length * (allLS U.length).length ≤ 378 * 378 := Nat.mul_le_mul (len_allLS hT.len) (len_allLS hU.len)
  omega
theorem RelP.step {m : Mn} {T U : Tb} {M : Mg} {s : SS} {l : LL} {it : It} (h : RelP m T U s l) (hT : TbOk m T) (hU : TbOk m U) (hi : ItOk m it) (hc : canF l.1.here.isSome it = true) : RelP m T U (pStep T M s.1 it, pStep U M s.2 it) (lStep T M l.1 it, lStep U M l.2 it) := by
  rw [← h.a.rdy] at hc
  exact ⟨h.a.step hT h.oa hi hc, h.b.step hU h.ob hi (by rw [← h.e]; exact hc), pStep_ok hT h.oa hi, pStep_ok hU h.ob hi, by rw [pStep_val, pStep_val]⟩
theorem RelS.few {m : Mn} {T : Tb} {s : PS} {l : LS} (h : RelS s l) (ho : StOk m T s) (hT : TbOk m T) : ∀ st, l.wait = some st → st.length ≤ 3 := fun st e => by
  rw [h.wt] at e
  obtain ⟨w, hw, rfl⟩ := Option.map_eq_some_iff.mp e
  have hl := ho.len w hw
  have h3 := hT.len
  have : ∀ (w : Wt) (k : Nat), (ents k w).length ≤ w.length := fun w => by
    induction w with
    | nil => intro k; exact Nat.le_refl _
    | cons o r ih =>
      intro k
      rw [ents, List.length_append, List.length_cons]
      have := ih (k + 1)
      cases o <;> simp [oe] <;> omega
  have := this w 0
  omega
end Bk
set_option Elab.async false
set_option linter.all false
set_option autoImplicit false
set_option maxRecDepth 100000
set_option maxHeartbeats 2000000
namespace Bk
open PySem L2
structure Nl where
  st : LL
  row : List It
  q : Addr
def nlP (n : Nl) : LL × List It := (n.st, n.row)
def nlD (n : Nl) : Dat := .tup [lsD n.st.1, lsD n.st.2, .adr n.q]
/-- the nodes of a layer, or of the next one -/
structure NlOk (m : Mn) (T U : Tb) (N : List Nl) (len : Nat) (rows : GL) : Prop where
  rel : ∀ n ∈ N, ∃ s, RelP m T U s n.st
  len : ∀ n ∈ N, n.row.length ≤ len
  row : ∀ n ∈ N, (n.q, DO.lst (n.row.map itD)) ∈ rows
structure KnL (m : Mn) (T U : Tb) (S : List LL) : Prop where
  nd : S.Nodup
  ok : ∀ e ∈ S, ∃ s, RelP m T U s e
section
variable {P : Program} {w : World} {K : PySem.W.Frag} {mg : Str → Option Value} {base : Heap}
def preParting : Pre := fun ds B G post => ∃ m T U M, TbOk m T ∧ TbOk m U ∧ MgOk m M ∧ ds = [tbD T, tbD U, mgD M, mnD m] ∧
  ∀ o, FirstL m T U M o → (o = none → post .non G) ∧ ∀ r, o = some r → ∀ p, B p = none → (∀ x ∈ G, x.1 ≠ p) → post (.adr p) (G ++ [(p, .lst (r.map itD))])
theorem get_drop {A : Type} {l : List A} {i : Nat} {a : A} (h : l[i]? = some a) : l.drop i = a :: l.drop (i + 1) := by
  obtain ⟨q1, q2⟩ := List.getElem?_eq_some_iff.mp h
  rw [List.drop_eq_getElem_cons q1, q2]
theorem k_law_parting (T0 : Tx P w K mg) : Kn P w K mg base "_law_parting" 3 preParting := by
  refine kn_law_parting T0 (fun ds B G post h => by obtain ⟨m, T, U, M, _, _, _, rfl, _⟩ := h; rfl) fun cdv A outer s H E hr ds B G0 post h => ?_
  obtain ⟨m, T, U, M, hT, hU, hM, rfl, h⟩ := h
  have hu := hr.units
  have hm := hT.okm
  refine @ss_par _ _ _ _ _ 4 5 _ _ _ _ _ _ _ _ _ _ _ (fun ds G' => ∃ r0 f k, ds = [.adr f, .adr k] ∧ G' = G0 ++ ([(r0, .lst []), (f, .lst [nlD ⟨(startL, startL), [], r0⟩])] ++ (k, .nd (knownL [])) :: [])) _ ?h1 (fun ds G' ⟨r0, f, k, e1, e2⟩ => ⟨_, _, e1, ?h2⟩) sc_law_parting.nd (by decide) rfl rfl rfl rfl rfl (by rfl) (by rfl)
  case h1 =>
    exact eaw_cons (ew_lstW (post := fun ds G' => ∃ r0, ds = [nlD ⟨(startL, startL), [], r0⟩] ∧ G' = G0 ++ [(r0, .lst [])])
      (eaw_cons (ew_tupW (post := fun ds G' => ∃ r0, ds = [lsD startL, lsD startL, .adr r0] ∧ G' = G0 ++ [(r0, .lst [])])
        (eaw_v (ev_tup (ea_cons (ev_tup ea_nil (by simp)) (ea_cons ev_non ea_nil)) (by simp)) (eaw_v (ev_tup (ea_cons (ev_tup ea_nil (by simp)) (ea_cons ev_non ea_nil)) (by simp)) (eaw_l (el_lst ea_nil (by simp)) fun r0 h1 h2 => eaw_nil ⟨r0, rfl, rfl⟩))) (by simp) (fun ds G' ⟨r0, e, _⟩ => by rw [e]; rfl))
        fun d G' ⟨ds, e1, r0, e2, e3⟩ => eaw_nil ⟨r0, by rw [e1, e2]; rfl, e3⟩) (by simp) (fun ds G' ⟨r0, e, _⟩ => by rw [e]; rfl))
      fun d G' ⟨f, ds, G2, e1, ⟨r0, e2, e3⟩, _, _, e4⟩ => eaw_cons en_new fun d2 G3 ⟨k, e5, _, _, e6⟩ => eaw_nil ⟨r0, f, k, by rw [e1, e5], by rw [e6, e4, e3, e2]; simp [knownL]⟩
  subst e2
  clear e1
  -- the layers
  refine ss_while (fun n ρ' G' => ∃ (N : List Nl) (S : List LL) (L1 L2 : GL) (f : Addr) (d : Nat) (r : List It), NlOk m T U N S.length (L1 ++ L2) ∧ KnL m T U S ∧ (f, DO.lst (N.map nlD)) ∈ L1 ++ L2 ∧ n = 2 * (142884 - S.length) + (if N = [] then 0 else 1) ∧
      Bi (nxL m T U M) badL (startL, startL) d r [] (N.map nlP) [] S ∧
      ρ' = [some (tbD T), some (tbD U), some (mgD M), some (mnD m), some (.adr f), some (.adr k), none, none, none, none, none, none] ∧ G' = G0 ++ (L1 ++ (k, DO.nd (knownL S)) :: L2)) (2 * 142884 + 1)
    ⟨_, ?_, [⟨(startL, startL), [], r0⟩], [], [(r0, .lst []), (f, .lst [nlD ⟨(startL, startL), [], r0⟩])], [], f, 0, [], ?_, ⟨List.nodup_nil, fun _ h => nomatch h⟩, by simp, by simp, Bi.start rfl _ (fun _ h => nomatch h), rfl, rfl⟩ ?_
  · repeat' (first | exact Frg.nil | apply Frg.same | apply Frg.drop)
  · exact ⟨fun n hn => by rw [List.mem_singleton.mp hn]; exact ⟨_, RelP.start m T U⟩, fun n hn => by rw [List.mem_singleton.mp hn]; exact Nat.le_refl _, fun n hn => by rw [List.mem_singleton.mp hn]; simp⟩
  rintro n ρ' G' ⟨N, S, L1, L2, f, d, r, hN, hS, hf, rfl, hB, rfl, rfl⟩
  have hfew := few_LL hT hU hS.nd hS.ok
  have latF : ∀ (B : Hp) (S : List LL) (R : GL), Lat B (G0 ++ (L1 ++ (k, DO.nd (knownL S)) :: (L2 ++ R))) f (N.map nlD) := fun B S R => lat_mem (by
    rcases List.mem_append.mp hf with z | z <;> simp [z])
  have latF0 : ∀ (B : Hp), Lat B (G0 ++ (L1 ++ (k, DO.nd (knownL S)) :: L2)) f (N.map nlD) := fun B => by have := latF B S []; rwa [List.append_nil] at this
  refine ⟨_, et_neEmp hu (vv 4) (latF0 B), fun hx => ?_, fun hx => ?_⟩
  · have hNne : N ≠ [] := fun z => by rw [z] at hx; cases hx
    refine ss_l (i := 6) (el_lst ea_nil (by simp)) (fun g _ _ => ?_) sc_law_parting.nd
    have e0 : G0 ++ (L1 ++ (k, DO.nd (knownL S)) :: L2) ++ [(g, DO.lst [])] = G0 ++ (L1 ++ (k, DO.nd (knownL S)) :: (L2 ++ (g, DO.lst (([] : List Nl).map nlD)) :: [])) := by simp
    rw [e0]
    refine ss_forL (p := f) (ds := N.map nlD) (vv 4) (latF B S _) (pg_t3 (i := 7) (j := 8) (l := 9) sc_law_parting.nd)
      (fun i ρ' G' => ∃ (F : List Nl) (S' : List LL) (E : GL) (r : List It), NlOk m T U F S'.length E ∧ KnL m T U S' ∧ S'.length = S.length + F.length ∧ Bi (nxL m T U M) badL (startL, startL) d r [] ((N.drop i).map nlP) (F.map nlP) S' ∧
        ρ' = [some (tbD T), some (tbD U), some (mgD M), some (mnD m), some (.adr f), some (.adr k), some (.adr g), none, none, none, none, none] ∧ G' = G0 ++ (L1 ++ (k, DO.nd (knownL S')) :: (L2 ++ (g, DO.lst (F.map nlD)) :: E)))
      ⟨_, ?_, [], S, [], r, ⟨(fun _ h => nomatch h), (fun _ h => nomatch h), fun _ h => nomatch h⟩, hS, rfl, hB, rfl, rfl⟩ (fun i ρ' G' ⟨F, S', E, _, _, _, _, _, _, e⟩ => by rw [e]; exact latF B S' _) ?_ ?_
    · repeat' (first | exact Frg.nil | apply Frg.same | apply Frg.drop)
    · rintro i d0 ρ' G' hd0 ⟨F, S1, E1, r1, hF, hS1, hlS, hB1, rfl, rfl⟩
      rw [List.getElem?_map] at hd0
      obtain ⟨nd, hnd, rfl⟩ := Option.map_eq_some_iff.mp hd0
      have hmem := List.mem_of_getElem? hnd
      obtain ⟨ps, hrel⟩ := hN.rel nd hmem
      have hrl := hN.len nd hmem
      have hrw : ∀ (B : Hp) (S : List LL) (F : List Nl) (E : GL), Lat B (G0 ++ (L1 ++ (k, DO.nd (knownL S)) :: (L2 ++ (g, DO.lst (F.map nlD)) :: E))) nd.q (nd.row.map itD) := fun B S F E => lat_mem (by
        rcases List.mem_append.mp (hN.row nd hmem) with z | z <;> simp [z])
      rw [get_drop hnd, List.map_cons] at hB1
      have hB2 := hB1.node
      have rdyE : nd.st.1.here.isSome = nd.st.2.here.isSome := by rw [← hrel.a.rdy, ← hrel.b.rdy]; exact hrel.e
      refine ⟨_, rd_t3, ?_⟩
      refine ss_forN (ds := ((chI m).filter (canF nd.st.1.here.isSome)).map itD) (el_callR (k_law_items T0) (hr.mono (by decide)) (ea_cons (vv 3) (ea_cons (d := .bl nd.st.1.here.isSome) (Ev.as ?_ (ev_notN (ev_ixT (d := obD nd.st.1.here) (ds := [owS nd.st.1.wait, obD nd.st.1.here]) (vv 7) ev_int rfl))) (ea_cons (d := .int 2) (ev_ixT (ds := [.int 2, .tup (M.sqs.map sqD), .tup (M.lns.map lnD)]) (vv 2) ev_int rfl) ea_nil))) fun H _ => ⟨m, nd.st.1.here.isSome, hm, rfl, rfl⟩) (pg_n (i := 10) sc_law_parting.nd)
        (fun j ρ' G' => ∃ (F : List Nl) (S' : List LL) (E : GL), NlOk m T U F S'.length E ∧ KnL m T U S' ∧ S'.length = S.length + F.length ∧ Bi (nxL m T U M) badL (startL, startL) d nd.row ((nxL m T U M nd.st).drop j) ((N.drop (i + 1)).map nlP) (F.map nlP) S' ∧
          ρ' = [some (tbD T), some (tbD U), some (mgD M), some (mnD m), some (.adr f), some (.adr k), some (.adr g), some (lsD nd.st.1), some (lsD nd.st.2), some (.adr nd.q), none, none] ∧ G' = G0 ++ (L1 ++ (k, DO.nd (knownL S')) :: (L2 ++ (g, DO.lst (F.map nlD)) :: E)))
        ⟨_, ?_, F, S1, E1, hF, hS1, hlS, hB2, rfl, rfl⟩ ?_ ?_
      · cases nd.st.1.here <;> rfl
      · repeat' (first | exact Frg.nil | apply Frg.same | apply Frg.drop)
      · rintro B' sB j d0 ρ' G' hd0 ⟨F, S2, E2, hF, hS2, hlS, hB3, rfl, rfl⟩
        have hfew2 := few_LL hT hU hS2.nd hS2.ok
        rw [List.getElem?_map] at hd0
        obtain ⟨it, hit, rfl⟩ := Option.map_eq_some_iff.mp hd0
        have hitm := List.mem_of_getElem? hit
        obtain ⟨hi1, hi2⟩ := List.mem_filter.mp hitm
        have hio : ItOk m it := chI_ok hi1
        have hrel2 := hrel.step (M := M) hT hU hio hi2
        have hits : (nxL m T U M nd.st).drop j = (it, (lStep T M nd.st.1 it, lStep U M nd.st.2 it)) :: (nxL m T U M nd.st).drop (j + 1) := get_drop (by unfold nxL; rw [List.getElem?_map, hit]; rfl)
        rw [hits] at hB3
        have c1 : rLawNext [tbD T, mgD M, lsD nd.st.1, itD it] B' (lsD (lStep T M nd.st.1 it)) := ⟨m, T, M, nd.st.1, it, hT, hM, hio, hi2, hrel.a.few hrel.oa hT, rfl, rfl⟩
        have v1 : (lStep T M nd.st.1 it).here.isSome = !it.isS := lStep_here
        have v2 : (lStep U M nd.st.2 it).here.isSome = !it.isS := lStep_here
        refine ⟨_, rd_name, ?_⟩
        refine ss_v (i := 11) (d := llD (lStep T M nd.st.1 it, lStep U M nd.st.2 it)) (ev_tup (ea_cons (ev_callR (k_law_next T0) hr (ea_cons (vv 0) (ea_cons (vv 2) (ea_cons (vv 7) (ea_cons (vv 10) ea_nil)))) fun H _ => ⟨m, T, M, nd.st.1, it, hT, hM, hio, hi2, hrel.a.few hrel.oa hT, rfl, rfl⟩)
          (ea_cons (ev_callR (k_law_next T0) hr (ea_cons (vv 1) (ea_cons (vv 2) (ea_cons (vv 8) (ea_cons (vv 10) ea_nil)))) fun H _ => ⟨m, U, M, nd.st.2, it, hU, hM, hio, by rw [← rdyE]; exact hi2, hrel.b.few hrel.ob hU, rfl, rfl⟩) ea_nil)) (by simp)) ?_ sc_law_parting.nd
        generalize hA : (lStep T M nd.st.1 it, lStep U M nd.st.2 it) = af at hB3 hits hrel2
        have hA1 : lStep T M nd.st.1 it = af.1 := by rw [← hA]
        have hA2 : lStep U M nd.st.2 it = af.2 := by rw [← hA]
        rw [hA1] at v1
        rw [hA2] at v2
        -- is it bad
        have hbad : badL af = (af.1.here.isSome && !decide (lEnd af.1 = lEnd af.2)) := rfl
        refine ss_guard (x := badL af) (Et.as ?_ (et_and2 (x := af.1.here.isSome) (Et.as ?_ (et_notN (ev_ixT (d := obD af.1.here) (ds := [owS af.1.wait, obD af.1.here]) (ev_ixT (d := lsD af.1) (ds := [lsD af.1, lsD af.2]) (vv 11) ev_int rfl) ev_int rfl)))
          (fun hrdy => et_neF (d := obD (lEnd af.1)) (e := obD (lEnd af.2)) (ev_callR (k_law_end T0) (hr.mono (by decide)) (ea_cons (ev_ixT (d := lsD af.1) (ds := [lsD af.1, lsD af.2]) (vv 11) ev_int rfl) ea_nil) fun H _ => ⟨af.1, fun _ => hrdy, rfl, rfl⟩)
            (ev_callR (k_law_end T0) (hr.mono (by decide)) (ea_cons (ev_ixT (d := lsD af.2) (ds := [lsD af.1, lsD af.2]) (vv 11) ev_int rfl) ea_nil) fun H _ => ⟨af.2, fun _ => by rw [v2, ← v1]; exact hrdy, rfl, rfl⟩) (obD_flat _) (obD_flat _) (obD_scal _ _)))) (fun hb => ?_) fun hb => ?_
        · rw [hbad, obD_eq]
        · cases af.1.here <;> rfl
        · have hF1 := hB3.found hb
          refine ss_retW (Ew.sub (El.w (el_addLN (es := [itD it]) (vv 9) (hrw B' S2 F E2) (el_lst (ea_cons (vv 10) ea_nil) (by simp)) ?_)) (q := fun d G' => ∃ p, d = .adr p ∧ B' p = none ∧ (∀ x ∈ G0, x.1 ≠ p) ∧ G' = G0 ++ [(p, .lst ((nd.row ++ [it]).map itD))]) fun d G' ⟨p, h1, h2, h3, h4⟩ => ?_) (fun d G' ⟨p, h1, h2, h3, h4⟩ => ?_)
          · rw [List.length_map]
            exact Nat.le_trans (show nd.row.length + 1 ≤ 2286145 by omega) (by decide)
          · refine ⟨G0 ++ [(p, .lst ((nd.row ++ [it]).map itD))], ?_, p, h1, h2, fun x hx => h3 x (by simp [hx]), rfl⟩
            rw [h4, List.append_assoc G0]
            refine List.Sublist.append (List.Sublist.refl _) ?_
            rw [List.map_append]
            exact List.sublist_append_right _ _
          · rw [h1, h4]
            exact (h _ hF1).2 _ rfl p (by
              cases hBp : B p with
              | none => rfl
              | some u => rw [sB p u hBp] at h2; cases h2) h3
        · have hl2 := look_knownL (s := af) (S := S2)
          have hbf : badL af = false := hb
          refine ss_if (x := !(look (knownL S2) (llD af).nk).isSome) (et_ninN hu (vv 11) (vv 5) (oat_mem (by simp)) (llD_ok _)) (fun hx => ?_) (fun hx => ss_done (ss_done ⟨_, ?_, F, S2, E2, hF, hS2, hlS, ?_, rfl, rfl⟩))
          · have hnot : af ∉ S2 := by
              intro hin
              rw [hl2, if_pos hin] at hx
              simp at hx
            have hln : look (knownL S2) (llD af).nk = none := by rw [hl2, if_neg hnot]
            refine ss_nput (L := G0 ++ L1) (R := L2 ++ (g, DO.lst (F.map nlD)) :: E2) (kvs := knownL S2) hu ev_bl (vv 5) (vv 11) (by simp) hln ?_ ?_ (llD_ok _)
            · simp only [knownL, List.length_map]
              exact Nat.lt_of_le_of_lt hfew2 (by decide)
            have hk2 : knownL S2 ++ [(llD af, Dat.bl true)] = knownL (S2 ++ [af]) := by simp [knownL]
            rw [hk2]
            have e1 : G0 ++ L1 ++ (k, DO.nd (knownL (S2 ++ [af]))) :: (L2 ++ (g, DO.lst (F.map nlD)) :: E2) = G0 ++ (L1 ++ (k, DO.nd (knownL (S2 ++ [af]))) :: (L2 ++ (g, DO.lst (F.map nlD)) :: E2)) := by simp
            rw [e1]
            refine ss_append (p := g) (vv 6) (ew_tupW (post := fun ds G' => ∃ q, ds = [lsD af.1, lsD af.2, .adr q] ∧ G' = G0 ++ (L1 ++ (k, DO.nd (knownL (S2 ++ [af]))) :: (L2 ++ (g, DO.lst (F.map nlD)) :: (E2 ++ [(q, DO.lst ((nd.row ++ [it]).map itD))]))))
              (eaw_v (ev_ixT (d := lsD af.1) (ds := [lsD af.1, lsD af.2]) (vv 11) ev_int rfl) (eaw_v (ev_ixT (d := lsD af.2) (ds := [lsD af.1, lsD af.2]) (vv 11) ev_int rfl) (eaw_l (ys := (nd.row ++ [it]).map itD) (El.as (d := nd.row.map itD ++ [itD it]) (by simp) (el_addLN (vv 9) (hrw B' _ F E2) (el_lst (ea_cons (vv 10) ea_nil) (by simp)) ?_)) fun q h1 h2 => eaw_nil ⟨q, rfl, by simp⟩))) (by simp) (fun ds G' ⟨q, e, _⟩ => by rw [e]; rfl))
              (fun d G' ⟨ds, e1, q, e2, e3⟩ => ?_) ?_
            · rw [List.length_map]
              exact Nat.le_trans (show nd.row.length + 1 ≤ 2286145 by omega) (by decide)
            · have hmd : F.map nlD ++ [d] = (F ++ [(Nl.mk af (nd.row ++ [it]) q)]).map nlD := by rw [e1, e2]; simp [nlD]
              refine ⟨G0 ++ (L1 ++ (k, DO.nd (knownL (S2 ++ [af]))) :: L2), E2 ++ [(q, DO.lst ((nd.row ++ [it]).map itD))], F.map nlD, by rw [e3]; simp, ?_, ?_⟩
              · rw [List.length_map]
                exact Nat.lt_of_le_of_lt (show F.length ≤ 142884 by omega) (by decide)
              · rw [hmd]
                refine ss_done (ss_done ⟨_, ?_, F ++ [(Nl.mk af (nd.row ++ [it]) q)], S2 ++ [af], E2 ++ [(q, DO.lst ((nd.row ++ [it]).map itD))], ⟨?_, ?_, ?_⟩, ⟨?_, ?_⟩, by simp; omega, ?_, rfl, by simp⟩)
                · repeat' (first | exact Frg.nil | apply Frg.same | apply Frg.drop)
                · intro n hn
                  rcases List.mem_append.mp hn with z | z
                  · exact hF.rel n z
                  · rw [List.mem_singleton.mp z]; exact ⟨_, hrel2⟩
                · intro n hn
                  rw [List.length_append, List.length_singleton]
                  rcases List.mem_append.mp hn with z | z
                  · have := hF.len n z; omega
                  · rw [List.mem_singleton.mp z]
                    show (nd.row ++ [it]).length ≤ _
                    rw [List.length_append, List.length_singleton]
                    omega
                · intro n hn
                  rcases List.mem_append.mp hn with z | z
                  · exact List.mem_append_left _ (hF.row n z)
                  · rw [List.mem_singleton.mp z]; simp
                · exact List.nodup_append.mpr ⟨hS2.nd, by simp, fun a ha b hb => by
                    rw [List.mem_singleton.mp hb]
                    intro e
                    exact hnot (by rw [← e]; exact ha)⟩
                · intro e he
                  rcases List.mem_append.mp he with z | z
                  · exact hS2.ok e z
                  · rw [List.mem_singleton.mp z]; exact ⟨_, hrel2⟩
                · rw [List.map_append]
                  refine hB3.push hbf fun x hx => ?_
                  rcases List.mem_append.mp hx with z | z
                  · exact .inl z
                  · exact .inr (List.mem_singleton.mp z)
            · obtain ⟨j', hj'⟩ := List.mem_iff_getElem?.mp (show (g, DO.lst (F.map nlD)) ∈ G0 ++ (L1 ++ (k, DO.nd (knownL (S2 ++ [af]))) :: (L2 ++ (g, DO.lst (F.map nlD)) :: E2)) from by simp)
              exact ⟨j', _, hj'⟩
          · repeat' (first | exact Frg.nil | apply Frg.same | apply Frg.drop)
          · refine hB3.skip ?_
            refine Classical.byContradiction fun hn => ?_
            rw [hl2, if_neg hn] at hx
            cases hx
      · rintro ρ' G' ⟨F, S2, E2, hF, hS2, hlS, hB3, rfl, rfl⟩
        have hend : (nxL m T U M nd.st).drop (((chI m).filter (canF nd.st.1.here.isSome)).map itD).length = [] := by
          apply List.drop_eq_nil_of_le
          simp [nxL]
        rw [hend] at hB3
        refine ss_done ⟨_, ?_, F, S2, E2, nd.row, hF, hS2, hlS, hB3, rfl, rfl⟩
        repeat' (first | exact Frg.nil | apply Frg.same | apply Frg.drop)
    · rintro ρ' G' ⟨F, S2, E2, r2, hF, hS2, hlS, hB3, rfl, rfl⟩
      rw [List.length_map, List.drop_length] at hB3
      have hfew2 := few_LL hT hU hS2.nd hS2.ok
      refine ss_v (i := 4) (d := .adr g) (vv 6) (ss_done ⟨_, ?_, _, ?_, F, S2, L1, L2 ++ (g, DO.lst (F.map nlD)) :: E2, g, d + 1, r2, ⟨hF.rel, hF.len, fun n hn => by simp [hF.row n hn]⟩, hS2, by simp, rfl, hB3.deeper, rfl, rfl⟩) sc_law_parting.nd
      · repeat' (first | exact Frg.nil | apply Frg.same | apply Frg.drop)
      · rw [if_neg hNne]
        by_cases hFn : F = []
        · rw [if_pos hFn]; rw [hFn] at hlS; simp at hlS; omega
        · rw [if_neg hFn]
          have : 0 < F.length := List.length_pos_iff.mpr hFn
          omega
  · have hNe : N = [] := by
      cases N with
      | nil => rfl
      | cons a b => cases hx
    subst hNe
    refine ss_retW (Ew.sub ev_non.w (q := fun d G' => d = .non ∧ G' = G0) fun d G' ⟨e1, e2⟩ => ⟨G0, ?_, e1, rfl⟩) (fun d G' ⟨e1, e2⟩ => by rw [e1, e2]; exact (h _ hB.over).1 rfl)
    rw [e2]
    exact List.sublist_append_left _ _
end
end Bk
set_option Elab.async false
set_option linter.all false
set_option autoImplicit false
set_option maxRecDepth 100000
set_option maxHeartbeats 2000000
/-! A caught exception kept behind the suite; value_row, that raises; the law's call of it. -/
namespace Bk
open PySem PySem.Spec PyProof.Rows L2
/-- the object of a caught exception -/
def ExK (cls : Value) (a : Addr) : HO := .ext fun h => ∃ (oe : Obj) (vs : Array Value), h.get? a = some oe ∧ Zc cls none oe ∧ oe.data = .fields vs
theorem Inv.track {X : Cx} {pins : List (Addr × Obj)} {σ : L2.St} {H : Hp} {s : Shared} {a : Addr} {oe : Obj} {cls : Value} (I : Inv X ((a, oe) :: pins) σ H s) (z : Zc cls none oe) (d : ∃ vs, oe.data = .fields vs) (h0 : X.s_0.heap.get? a = none) (hp : ∀ p ∈ X.pn ++ pins, p.1 ≠ a) :
    Inv X pins σ (upd H a (ExK cls a)) s := by
  obtain ⟨g, hn, hl, hf, hd⟩ := I.pin (a, oe) (List.mem_append_right _ List.mem_cons_self)
  simp only at g hn hl hf hd
  have ne : ∀ {b : Addr} {u : HO}, H b = some u → b ≠ a := fun {b u} e q => by rw [q, hn] at e; cases e
  obtain ⟨vs, hv⟩ := d
  have new : ObjOk X.prog X.w (upd H a (ExK cls a)) s.heap a (ExK cls a) := ⟨⟨oe, vs, g, z, hv⟩, ⟨oe, g⟩, fun _ _ ⟨o, v, q, r⟩ k => ⟨o, v, k o q, r⟩⟩
  refine ⟨I.ok, I.os, I.bare, ⟨I.base.keep, I.base.slot, fun b o e n x => ?_, I.base.there, fun b xs e => ?_, fun b o u e => ?_, fun b ps e => ?_⟩, I.loc, I.cell, ?_, fun y c e => ?_, fun p hpm => ?_, I.hok.laidN (fun _ _ q => q) hn new, I.len⟩
  · rw [upd_ne (fun q => by rw [q, h0] at e; cases e)]; exact I.base.free b o e n x
  · have := I.base.tups b xs e
    rw [upd_ne (ne this)]; exact this
  · have := I.base.frzs b o u e
    rw [upd_ne (ne this)]; exact this
  · obtain ⟨more, this⟩ := I.base.tbls b ps e
    exact ⟨more, by rw [upd_ne (ne this)]; exact this⟩
  · rw [upd_ne (Ne.symm hl)]; exact I.free
  · have hc := I.freeC y c e
    have : c ≠ a := fun q => by
      obtain ⟨v, ob, q1, q2⟩ := I.cell y c e
      rw [q, g] at q1
      cases q1
      exact hd _ q2
    rw [upd_ne this]; exact hc
  · obtain ⟨h1, h2, h3⟩ := I.pin p (by
      rcases List.mem_append.mp hpm with q | q
      · exact List.mem_append_left _ q
      · exact List.mem_append_right _ (List.mem_cons_of_mem _ q))
    exact ⟨h1, by rw [upd_ne (hp p hpm)]; exact h2, h3⟩
/-- isinstance(e, c), e a caught exception that is kept -/
def rIsK (K : PySem.W.Frag) (D : Addr) : List V → Hp → VK → Prop := fun xs H Q => ∃ (a : Addr) (c : V) (cv : Value) (b : Bool), xs = [.ref a, c] ∧ H a = some (ExK (.ref D) a) ∧ (∀ u, RelV c u → u = cv) ∧ PySem.W.kitOne K (.ref D) cv = some b ∧ Q (.bl b) H
theorem call_isK {X : Cx} {D : Addr} (C : ExcC X.K D) : CallR X (.builtin "isinstance") (rIsK X.K D) := by
  intro pins s σ H xs us Q I r h
  obtain ⟨a, c, cv, b, rfl, hH, hcv, e, q⟩ := h
  obtain ⟨u1, u2, rfl, r1, r2⟩ := vals2 r
  cases r1
  have ec := hcv _ r2
  subst ec
  obtain ⟨⟨oe, vs, g, ⟨z1, z2⟩, hv⟩, _⟩ := I.hok a _ hH
  obtain ⟨oc, od, oda, osl⟩ := oe
  dsimp only at z1 z2 hv
  subst z1 z2 hv
  have J : PySem.W.InstAt s.heap a ⟨.ref D, none, .fields vs, osl⟩ D none := ⟨g, rfl, rfl, trivial⟩
  exact PySem.W.kia_one (PySem.W.handS_kitx_exc C.hg C.hk C.hs C.hd C.ha C.hn C.ht C.hm) I.kIn J e (fun z => nomatch z) fun tk => ⟨.bl b, H, I.tok tk, rfl, q⟩

/-! ### try: .. except x as n: a suite that keeps the exception -/
def wKeep (K : PySem.W.Frag) (c : Value) (i : Nat) (ts : Addr → Value → L2.TS) (D : Ends) : WX := fun cls d σ H =>
  PySem.W.exmOne K cls c = some true ∧ d = none ∧ ∀ a, H a = none →
    ts a cls { nx := fun σ' H' => H' a = none → D.nx (σ'.set i none) (upd H' a (ExK cls a)), rt := fun _ _ => False, bk := fun _ _ => False, ct := fun _ _ => False } (σ.set i (some (.ref a))) H
theorem ps_tryK {X : Cx} {x n : Str} {c : Value} {i : Nat} {body rest : List Stmt} {st : Stmt} {np pos pos' : Pos} {tb : WX → L2.TS} {ts : Addr → Value → L2.TS}
    (hs : X.stack = X.env :: X.outer) (hf : X.env.frame = some X.env.locals) (hN : X.N.Nodup) (hi : X.N[i]? = some n) (hk : X.env.kindOf n = some .local) (hc : Names X x c) (hex : X.ex = [])
    (hb : ∀ (W : WX) (pn : List (Addr × Obj)) (xe : Value → Shared → Prop), Takes (X.tr pn xe) W → PassesOwn (model X.prog X.w) X.A X.env xe → PSs (X.tr pn xe) body (tb W))
    (hsu : ∀ (a : Addr) (oe : Obj) (cls : Value) (pn : List (Addr × Obj)), Zc cls none oe → (∃ vs, oe.data = .fields vs) → PSs (X.suite a ((a, oe) :: pn)) (st :: rest) (ts a cls)) :
    L2.PS X (.Try body [.ExceptHandler (some (.Name x np)) (some n) (st :: rest) pos'] [] [] pos) (fun D σ H => tb (wKeep X.K c i ts D) D σ H) := by
  refine ⟨fun pins s σ H D I0 hh => ?_⟩
  have okX := I0.ok
  have frX : X.A.frames = some (X.env :: X.outer) := okX.frames.trans (congrArg some hs)
  refine wpAny_Try_except (wpAny_mono ((hb (wKeep X.K c i ts D) (X.pn ++ pins) (fun e t1 => wpAny (model X.prog X.w) X.A (noteFrame e X.env) (fun _ t2 => wpAny (model X.prog X.w) X.A (setFlight e none) (fun _ t3 =>
    wpAny (model X.prog X.w) X.A (handleBy e X.env [.ExceptHandler (some (.Name x np)) (some n) (st :: rest) pos']) (SP X pins D) X.xe t3) X.xe t2) X.xe t1) (fun u s' hx => ?_) PassesOwn.looking).run [] s σ H D (I0.toTry _) hh) (fun f s1 hsp => ?_) fun _ _ q => q)
  · obtain ⟨a, gr, sI, pins2, σ1, H1, cls, dc, rfl, J1, nb, up, sky, na, os, ag, hm, rfl, hgo⟩ := hx
    have J : Inv X pins σ1 H1 sI := J1.ofTry okX
    rw [show (X.tr (X.pn ++ pins) _).stack = X.env :: X.outer from hs] at sky
    show wpAny (model X.prog X.w) X.A (noteFrame (.ref a) X.env) _ _ _
    refine Sky.land Zc.steady frX hf sky fun h3 fl up3 => ?_
    have J3 : Inv X pins σ1 H1 { s' with heap := h3 } := J.landed nb fl.1 (up.trans up3) os ag
    obtain ⟨ob, vs, g3, z3, d3⟩ := fl.there
    have noF : ∀ {hp : Heap} {o : Obj} {ws : Array Value}, hp.FunFrames gr (X.env :: X.outer) → hp.get? a = some o → o.data = .fields ws → a ∉ frs (X.env :: X.outer) := fun ff e dd hmem => by
      obtain ⟨_, o2, e2, no⟩ := ff.mem hmem
      rw [e] at e2
      cases e2
      exact no _ dd
    have nfr := noF fl.2.2.1 g3 d3
    have aL : a ≠ X.env.locals := fun q => nfr (List.mem_filterMap.mpr ⟨X.env, List.mem_cons_self, hf.trans (by rw [q])⟩)
    have aF : a ∉ X.fs := fun q => by
      obtain ⟨e, he, q2⟩ := List.mem_filterMap.mp q
      exact nfr (List.mem_filterMap.mpr ⟨e, List.mem_cons_of_mem _ he, q2⟩)
    -- it is new
    have aI : sI.heap.get? a = none := by
      cases q : sI.heap.get? a with
      | none => rfl
      | some o =>
        have hB := fl.2.1
        rw [nb a o q (by rw [hs]; exact nfr)] at hB
        cases hB
    have a0 : X.s_0.heap.get? a = none := by
      cases q : X.s_0.heap.get? a with
      | none => rfl
      | some o =>
        obtain ⟨o2, e2⟩ := J.base.there a o q (by rw [hex]; exact List.not_mem_nil)
        rw [aI] at e2
        cases e2
    have aP : ∀ p ∈ X.pn ++ pins, p.1 ≠ a := fun p hp q => by
      have := (J.pin p hp).1
      rw [q, aI] at this
      cases this
    have S3 := J3.suite g3 d3 na aL aF
    refine wpAny_handleBy_cons (codeAny_handlers_test ?_) (fun q => nomatch q)
    have look : PySem.W.Looks (model X.prog X.w) h3 (typeOf (.ref a)) cls := fun A Q E t k q => wpAny_typeOf_ref (k _ _ g3) (by rw [z3.1]; exact q)
    have asks := PySem.W.exm_one (M := model X.prog X.w) J3.kIn look hm
    have name : ∀ {Q E : Value → Shared → Prop}, Q c { s' with heap := h3 } → wpAny (model X.prog X.w) (X.A.mark (some (.ref a))) (eval (.Name x np) X.env) Q E { s' with heap := h3 } := fun {Q E} q => by
      obtain ⟨g1, g2, m1 | ⟨m1, m2, m3⟩⟩ := hc
      · exact ld_glob (X := X.suite a ((a, ob) :: (X.pn ++ pins))) S3 g1 m1 q g2
      · exact ld_blt (X := X.suite a ((a, ob) :: (X.pn ++ pins))) S3 g1 m1 m2 q m3 g2
    refine name (asks.here (codeAny_handlers_suite_as ?_))
    refine HandSPX.lands_againZ fl fun h4 fl4 up4 => ?_
    have J4 : Inv X pins σ1 H1 { s' with heap := h4 } := J.landed nb fl4.1 ((up.trans up3).trans up4) os ag
    obtain ⟨oc, ws, g4, z4, d4⟩ := fl4.there
    have S4 := J4.suite g4 d4 na aL aF
    refine store_ok (X := X.suite a ((a, oc) :: (X.pn ++ pins))) (v := .ref a) S4 hN hi (.inl hk) rfl (fun s5 S5 => ?_) (.inr hk)
    refine wpAny_mono ((hsu a oc cls (X.pn ++ pins) z4 ⟨_, d4⟩).run [] s5 _ H1 _ S5 (hgo a na)) (fun f s6 hsp => ?_) (fun _ _ q => q.elim)
    cases f with
    | next =>
      obtain ⟨σ6, H6, S6, q6⟩ := hsp
      have J6 : Inv X ((a, oc) :: pins) σ6 H6 s6 := ⟨okX, S6.os, S6.bare, S6.base, S6.loc, S6.cell, S6.free, S6.freeC, fun p hp => S6.pin p (by
        rw [List.append_nil]
        rcases List.mem_append.mp hp with q | q
        · exact List.mem_cons_of_mem _ (List.mem_append_left _ q)
        · rcases List.mem_cons.mp q with q | q
          · rw [q]; exact List.mem_cons_self
          · exact List.mem_cons_of_mem _ (List.mem_append_right _ q)), S6.hok, S6.len⟩
      refine gone_ok J6 hN hi hk fun s7 J7 => ⟨_, _, Inv.track J7 z4 ⟨_, d4⟩ a0 aP, q6 ?_⟩
      exact (J7.pin (a, oc) (List.mem_append_right _ List.mem_cons_self)).2.1
    | brk => obtain ⟨_, _, _, q⟩ := hsp; exact q.elim
    | cont => obtain ⟨_, _, _, q⟩ := hsp; exact q.elim
    | ret u => obtain ⟨_, _, _, _, _, q⟩ := hsp; exact q.elim
  · cases f with
    | next =>
      obtain ⟨σ1, H1, J1, q⟩ := hsp
      exact wpAny_execs_nil ⟨σ1, H1, J1.ofTry okX, q⟩
    | brk =>
      obtain ⟨σ1, H1, J1, q⟩ := hsp
      exact ⟨σ1, H1, J1.ofTry okX, q⟩
    | cont =>
      obtain ⟨σ1, H1, J1, q⟩ := hsp
      exact ⟨σ1, H1, J1.ofTry okX, q⟩
    | ret u =>
      obtain ⟨v, σ1, H1, J1, r, q⟩ := hsp
      exact ⟨v, σ1, H1, J1.ofTry okX, r, q⟩
end Bk
set_option Elab.async false
set_option linter.all false
set_option autoImplicit false
set_option maxRecDepth 100000
set_option maxHeartbeats 2000000
namespace Bk
open PySem PySem.Spec PyProof.Rows L2
/-! ### the class NotFound -/
section
variable {P : Program} {w : World} {K : PySem.W.Frag} {mg : Str → Option Value} {base : Heap}
abbrev Nf (K : PySem.W.Frag) : Addr := He.ga K "NotFound"
theorem Tx.nf (T : Tx P w K mg) : PySem.W.excIn K (Nf K) He.veBase "ValueError.__new__" = true ∧ PySem.W.keepIn K (.ref (Nf K)) = true ∧ PySem.W.subIn K (.ref (Nf K)) (.type "BaseException") = some true ∧ PySem.W.typeIn K (.ref (Nf K)) = some (.type "type") := by
  obtain ⟨_, X, G, c⟩ := T.ex
  exact He.exc_ok (c.t.d.fact 91 (f := .exc "NotFound") rfl)
theorem Tx.nfm (T : Tx P w K mg) : PySem.W.exmOne K (.ref (Nf K)) (.ref (He.ga K "BindError")) = some true := by
  obtain ⟨_, X, G, c⟩ := T.ex
  exact He.exm_ok (c.t.d.fact 92 (f := .exm "NotFound" "BindError" true) rfl)
structure NfK (K : PySem.W.Frag) : Prop where
  t1 : PySem.W.kitOne K (.ref (Nf K)) (.ref (He.ga K "BadTable")) = some false
  t2 : PySem.W.kitOne K (.ref (Nf K)) (.ref (He.ga K "BadMeaning")) = some false
  t3 : PySem.W.kitOne K (.ref (Nf K)) (.ref (He.ga K "BadRow")) = some false
  t4 : PySem.W.kitOne K (.ref (Nf K)) (.ref (He.ga K "BadNumber")) = some false
  t5 : PySem.W.kitOne K (.ref (Nf K)) (.ref (He.ga K "BadText")) = some false
  t6 : PySem.W.kitOne K (.ref (Nf K)) (.ref (He.ga K "NotFound")) = some true
  t7 : PySem.W.kitOne K (.ref (Nf K)) (.ref (He.ga K "BindError")) = some true
  t8 : PySem.W.kitOne K (.ref (Nf K)) (.type "ValueError") = some true
theorem Tx.nfk (T : Tx P w K mg) : NfK K ∧ ExcC K (Nf K) := by
  have h := T.more
  have hs := T.nf
  unfold exB at h
  simp only [Bool.and_eq_true, decide_eq_true_eq] at h
  obtain ⟨_, t1, t2, t3, t4, t5, t6, t7, t8, c1, c2, c3, c4, c5, c6, c7⟩ := h
  exact ⟨⟨t1, t2, t3, t4, t5, t6, t7, t8⟩, ⟨He.eqO_ok c1, He.eqO_ok c2, hs.2.2.1, c3, He.eqO_ok c4, He.eqO_ok c5, c6, c7⟩⟩
/-! ### value_row -/
def spV (K : PySem.W.Frag) : Sp := fun vs H Q E => ∃ ds m T U M o, IsAll H ds vs ∧ TbOk m T ∧ TbOk m U ∧ MgOk m M ∧ ds = [tbD T, tbD U, mgD M] ∧ FirstP m T U M o ∧
  (∀ r, o = some r → ∀ p us H', H p = none → Same H H' → H' p = some (.lst us) → IsAll H' (r.map itD) us → Q (.ref p) H') ∧ (o = none → ∀ H', Same H H' → E (.ref (Nf K)) none H')
theorem k_value_row (T0 : Tx P w K mg) : ∃ fd, FnOk P w K mg base (L2.CX P w) 9 (He.ga K "value_row") fd ["one", "other", "meaning"] (spV K) ∧ PySem.W.keepIn K (.ref (He.ga K "value_row")) = true ∧ Binds K fd ["one", "other", "meaning"] [] ∧ mg "value_row" = some (.ref (He.ga K "value_row")) := by
  obtain ⟨fd, F⟩ : ∃ fd, FunD K "value_row" "value_row" (defArgs s_value_row) (defBody s_value_row) (defScope s_value_row) [] [] (He.ga K "value_row") fd := T0.def_ 22 (d := d_value_row) rfl
  refine ⟨fd, (He5.fun_of F).okX (N := n_value_row) (k := 8) sc_value_row (fun vs H Q E h => ?_) (fun cdv A outer s H vs Q E hr h => ?_), F.kp, F.bindsN (ps := ["one", "other", "meaning"]) (fun _ _ _ _ _ _ us hl => by match us, hl with | [_, _, _], _ => kernel_rfl), T0.glo 22⟩
  · obtain ⟨ds, m, T, U, M, o, i, _, _, _, rfl, _⟩ := h
    exact i.length
  obtain ⟨ds, m, T, U, M, o, i, hT, hU, hM, rfl, ho, hq, hn⟩ := h
  refine ⟨_, pss_w, ?_⟩
  have hl : vs.length = 3 := i.length
  have sl : Sl H [some (tbD T), some (tbD U), some (mgD M), none] (L2.start n_value_row vs) := by
    unfold L2.start; rw [hl]; exact i.slots (n := 1)
  have main : Ss (cxOf (L2.CX P w) P w K mg base n_value_row "value_row" (defScope s_value_row) (He.ga K "value_row") cdv A outer s H E) H [some (tbD T), some (tbD U), some (mgD M), none] [] (defBody s_value_row)
      { nx := fun _ _ => False, rt := fun d G' => ∃ r p, o = some r ∧ d = .adr p ∧ H p = none ∧ G' = [(p, DO.lst (r.map itD))] } := by
    refine ss_e (ev_callR (k_check_pair T0) (hr.mono (by decide)) (ea_cons (vv 0) (ea_cons (vv 1) (ea_cons (vv 2) ea_nil))) fun H _ => ⟨m, T, U, M, hT, hU, hM, rfl, rfl⟩) ?_
    refine ss_w (i := 3) (post := fun d G' => (o = none → d = .non ∧ G' = []) ∧ ∀ r, o = some r → ∃ p, d = .adr p ∧ H p = none ∧ G' = [(p, DO.lst (r.map itD))]) (ew_call (k_unlike_row T0) (hr.mono (by decide)) rfl (ea_cons (vv 0) (ea_cons (vv 1) (ea_cons (vv 2) ea_nil))) ⟨m, T, U, M, hT, hU, hM, rfl, fun o' ho' => ?_⟩) (fun d G' ⟨h1, h2⟩ => ?_) sc_value_row.nd
    · have e : o' = o := First.uniq ho' ho
      subst e
      refine ⟨fun z => ⟨fun _ => ⟨rfl, rfl⟩, fun r e => by rw [z] at e; cases e⟩, fun r z p hp _ => ⟨fun e => (by rw [z] at e; cases e), fun r2 e => ?_⟩⟩
      rw [z] at e
      cases e
      exact ⟨p, rfl, hp, rfl⟩
    cases o with
    | none =>
      obtain ⟨e1, e2⟩ := h1 rfl
      subst e1 e2
      refine ss_guard (x := true) (Et.as (by rfl) (et_isN (d := .non) (vv 3))) (fun _ => ss_cons fun σ H3 r3 s3 => ?_) (fun h => nomatch h)
      obtain ⟨q1, q2, q3, q4⟩ := T0.nf
      exact WS.of (ps_raise (W := fun cls d _ H => E cls d H) rfl (takes_of rfl rfl rfl rfl) (pmk_own PySem.F.excBase_ValueError q1 T0.g_NotFound q2 (raises_own q3 q4) rfl)) (hn rfl H3 r3.base)
    | some r =>
      obtain ⟨p, e1, hp, e2⟩ := h2 r rfl
      subst e1 e2
      exact ss_guard (x := false) (Et.as (by rfl) (et_isN (d := .adr p) (vv 3))) (fun h => nomatch h) fun _ => ss_r (d := .adr p) (vv 3) ⟨r, p, rfl, rfl, hp, rfl⟩
  refine ends_mono (main _ H (Rep.all H) sl) (fun _ _ ⟨_, _, _, _, _, z⟩ => z.elim) (fun v H' ⟨d, G', r', i', t, r, p, e1, e2, hp, e3⟩ => ?_) (fun _ _ ⟨_, _, _, _, _, z⟩ => z) (fun _ _ ⟨_, _, _, _, _, z⟩ => z)
  subst e2 e3
  simp only [Is] at i'
  subst i'
  obtain ⟨us, h1, h2⟩ := (r'.at_ (j := 0) rfl).1
  exact hq r e1 p us H' hp r'.base h1 h2
end
/-! ### counts and places of flat things in a list -/
def rCnt (K : PySem.W.Frag) : V → List V → Hp → VK → Prop := fun x xs H Q => ∃ (a : Addr) (ys : List V) (y : V), x = V.ref a ∧ xs = [y] ∧ SqL K H a ys ∧ flatV y = true ∧ ys.all flatV = true ∧ Q (.int (ys.countP (fun z => eqV z y) : Nat)) H
theorem cnt_vals {y : V} : ∀ {ys : List V} {us : List Value}, Vals ys us → ys.all flatV = true → us.countP (eqU y) = ys.countP (fun z => eqV z y)
  | _, _, .nil, _ => rfl
  | z :: ys, u :: us, .cons r t, f => by
    rw [List.all_cons, Bool.and_eq_true] at f
    rw [List.countP_cons, List.countP_cons, cnt_vals t f.2, eqU_of r f.1]
theorem mt_cnt {X : Cx} : MtR X "list.count" (rCnt X.K) := by
  intro pins s σ H x xs v us Q I rx rxs h
  obtain ⟨a, ys, y, rfl, rfl, hl, f1, f2, q⟩ := h
  cases rx
  obtain ⟨u, rfl, ru⟩ := rxs.one
  obtain ⟨its, rv, ⟨⟨cl, dx, dt, sq⟩, n, ho, hc, hdn, hd⟩, hlen⟩ := I.list hl
  simp only at hc hd
  subst hc hd
  refine call_meets PySem.F.slot_list_count ⟨_, ho, rfl⟩ PySem.F.entry_list_count (PySem.F.args_list_count_2 _ _) (SeqAt.list_countAt a its.toArray n dx sq u (eqU y)) ⟨ho, fun z hz => mem_eqAt ru f1 rv f2 z (by simpa using hz), ?_⟩
  refine ⟨.int (ys.countP (fun z => eqV z y) : Nat), H, I.tok _, ⟨s.toks, ?_⟩, q⟩
  rw [← cnt_vals rv f2]
section
variable {X : Cx} {B : Hp} {ρ : Sls} {G : GL}
theorem ev_lcount {a e : Expr} {apos pos : Pos} {p : Addr} {bs : List Bool} (ho : Ev X B ρ G a (.adr p)) (hj : Lat B G p (bs.map Dat.bl)) (he : Ev X B ρ G e (.bl true))
    (hbase : attributeBase a "count" X.env (eval a X.env) = eval a X.env := by rfl) (hs : starEach [e] X.env = (false, eval e X.env) :: starEach [] X.env := by rfl)
    (hfew : ((backTo pos (starEach [e] X.env)).all (fun x => !x.1) && (backToKw pos (keywordEach [] X.env)).all (fun x => x.1.isSome) && decide ([e].length + ([] : List Keyword).length + (if ([] : List Keyword).isEmpty then 0 else 1) < 30)) = true := by rfl)
    (hline : (apos.endLine == pos.line) = true := by rfl) : Ev X B ρ G (.Call (.Attribute a "count" apos) [e] [] pos) (.int ((bs.map V.bl).countP (fun z => eqV z (.bl true)) : Nat)) := fun σ H r s Q q =>
  WE.of (pe_bm PySem.F.plainAttrs_list PySem.F.slot_list_count PySem.F.type_list_count mt_cnt pe_w (pa_cons pe_w pa_nil hs) hbase hfew hline hs) (ho σ H r s _ fun x H1 e1 i1 => by
    simp only [Is] at i1
    subst i1
    obtain ⟨vs0, h10, _⟩ := (r.ext e1).lat hj
    refine ⟨.inl ⟨rfl, vs0, SqL.of h10⟩, he σ H1 (r.ext e1) (s.ext e1) _ fun u H2 e2 i2 => ?_⟩
    simp only [Is] at i2
    subst i2
    obtain ⟨vs, h1, h2⟩ := ((r.ext e1).ext e2).lat hj
    have := isAll_bls h2
    subst this
    refine ⟨p, bs.map V.bl, .bl true, rfl, rfl, SqL.of h1, rfl, ?_, q _ H2 (e1.trans e2) (by simp only [Is])⟩
    exact List.all_eq_true.mpr fun z hz => by obtain ⟨b, _, rfl⟩ := List.mem_map.mp hz; rfl)
theorem ev_lindex {a e : Expr} {apos pos : Pos} {p : Addr} {bs : List Bool} {j : Nat} (ho : Ev X B ρ G a (.adr p)) (hj : Lat B G p (bs.map Dat.bl)) (he : Ev X B ρ G e (.bl true)) (h1 : bs[j]? = some true) (h2 : ∀ m, m < j → bs[m]? = some false)
    (hbase : attributeBase a "index" X.env (eval a X.env) = eval a X.env := by rfl) (hs : starEach [e] X.env = (false, eval e X.env) :: starEach [] X.env := by rfl)
    (hfew : ((backTo pos (starEach [e] X.env)).all (fun x => !x.1) && (backToKw pos (keywordEach [] X.env)).all (fun x => x.1.isSome) && decide ([e].length + ([] : List Keyword).length + (if ([] : List Keyword).isEmpty then 0 else 1) < 30)) = true := by rfl)
    (hline : (apos.endLine == pos.line) = true := by rfl) : Ev X B ρ G (.Call (.Attribute a "index" apos) [e] [] pos) (.int (j : Nat)) := fun σ H r s Q q =>
  WE.of (pe_bm PySem.F.plainAttrs_list PySem.F.slot_list_index PySem.F.type_list_index mt_index pe_w (pa_cons pe_w pa_nil hs) hbase hfew hline hs) (ho σ H r s _ fun x H1 e1 i1 => by
    simp only [Is] at i1
    subst i1
    obtain ⟨vs0, h10, _⟩ := (r.ext e1).lat hj
    refine ⟨.inl ⟨rfl, vs0, SqL.of h10⟩, he σ H1 (r.ext e1) (s.ext e1) _ fun u H2 e2 i2 => ?_⟩
    simp only [Is] at i2
    subst i2
    obtain ⟨vs, k1, k2⟩ := ((r.ext e1).ext e2).lat hj
    have := isAll_bls k2
    subst this
    refine ⟨p, bs.map V.bl, .bl true, j, .bl true, rfl, rfl, SqL.of k1, rfl, ?_, by rw [List.getElem?_map, h1]; rfl, rfl, fun m z' hm hz => ?_, q _ H2 (e1.trans e2) (by simp only [Is])⟩
    · exact List.all_eq_true.mpr fun z hz => by obtain ⟨b, _, rfl⟩ := List.mem_map.mp hz; rfl
    · rw [List.getElem?_map, h2 m hm] at hz
      cases hz
      rfl)
/-- isinstance(e, C) -/
theorem ev_isK {a : Expr} {c : Str} {p q pos : Pos} {D x : Addr} {u : V} {cv : Value} {b : Bool} (C : ExcC X.K D) (hm : X.mg "isinstance" = none) (ha : Ev X B ρ G a (.adr x)) (hB : B x = some (ExK (.ref D) x)) (hc : PE X (.Name c q) (tC u)) (hu : ∀ v, RelV u v → v = cv) (hk : PySem.W.kitOne X.K (.ref D) cv = some b)
    (hg : Gl X "isinstance" := by rfl) (he : starEach [a, .Name c q] X.env = (false, eval a X.env) :: starEach [.Name c q] X.env := by rfl) (he2 : starEach [.Name c q] X.env = (false, eval (.Name c q) X.env) :: starEach [] X.env := by rfl) (hpl : (backTo pos (starEach [.Name c q] X.env)).any (·.1) = false := by rfl) :
    Ev X B ρ G (.Call (.Name "isinstance" p) [a, .Name c q] [] pos) (.bl b) := fun σ H r s Q k =>
  WE.of (pe_callB (call_isK C) hg hm (by decide +kernel) (pa_cons pe_w (pa_cons hc pa_nil he2) he) (he := he) (hpl := hpl)) (ha σ H r s _ fun v H1 e1 i1 => by
    simp only [Is] at i1
    subst i1
    exact ⟨x, u, cv, b, rfl, (r.ext e1).base _ _ hB, hu, hk, k _ H1 e1 (by simp only [Is])⟩)
end
section
variable {P : Program} {w : World} {K : PySem.W.Frag} {mg : Str → Option Value} {base : Heap}
def rLawErr (K : PySem.W.Frag) (ds : List Dat) (B : Hp) (d : Dat) : Prop := ∃ a, ds = [.adr a] ∧ B a = some (ExK (.ref (Nf K)) a) ∧ d = .str "none"
def errL : List Dat := [.str "table", .str "meaning", .str "row", .str "number", .str "text", .str "none"]
theorem k_law_error (T0 : Tx P w K mg) : Kn P w K mg base "_law_error" 1 (preR (rLawErr K)) := by
  refine kn_law_error T0 (fun ds B G post h => by obtain ⟨d, ⟨a, rfl, _⟩, _⟩ := h; rfl) fun cdv A outer s H E hr ds B G post h => ?_
  obtain ⟨d, ⟨a, rfl, hB, rfl⟩, h⟩ := h
  obtain ⟨k, C⟩ := T0.nfk
  have own : ∀ {c : Addr} {v : Value}, RelV (.ref c) v → v = .ref c := fun h => h
  refine ss_l (i := 1) (ds := [Dat.bl false, Dat.bl false, Dat.bl false]) (el_lst (ea_cons (ev_isK C T0.f_isinstance (vv 0) hB (pe_glob (v := V.ref _) rfl T0.g_BadTable rfl) (fun _ z => z) k.t1) (ea_cons (ev_isK C T0.f_isinstance (vv 0) hB (pe_glob (v := V.ref _) rfl T0.g_BadMeaning rfl) (fun _ z => z) k.t2) (ea_cons (ev_isK C T0.f_isinstance (vv 0) hB (pe_glob (v := V.ref _) rfl T0.g_BadRow rfl) (fun _ z => z) k.t3) ea_nil))) (by simp)) (fun p1 _ _ => ?_) sc_law_error.nd
  refine ss_l (i := 1) (ds := ([false, false, false, false, false, true] : List Bool).map Dat.bl) (El.as (by rfl) (el_addLN (p := p1) (ds := [Dat.bl false, Dat.bl false, Dat.bl false]) (es := [Dat.bl false, Dat.bl false, Dat.bl true]) (vv 1) (lat_mem (by simp)) (el_lst (ea_cons (ev_isK C T0.f_isinstance (vv 0) hB (pe_glob (v := V.ref _) rfl T0.g_BadNumber rfl) (fun _ z => z) k.t4) (ea_cons (ev_isK C T0.f_isinstance (vv 0) hB (pe_glob (v := V.ref _) rfl T0.g_BadText rfl) (fun _ z => z) k.t5) (ea_cons (ev_isK C T0.f_isinstance (vv 0) hB (pe_glob (v := V.ref _) rfl T0.g_NotFound rfl) (fun _ z => z) k.t6) ea_nil))) (by simp)) (by decide))) (fun p2 _ _ => ?_) sc_law_error.nd
  have lt : Lat B (G ++ [(p1, DO.lst [Dat.bl false, Dat.bl false, Dat.bl false])] ++ [(p2, DO.lst (([false, false, false, false, false, true] : List Bool).map Dat.bl))]) p2 (([false, false, false, false, false, true] : List Bool).map Dat.bl) := lat_mem (by simp)
  refine ss_guard (x := false) (Et.as (by rfl) (et_or3 (x := false) (y := false) (z := false) (Et.as (by rfl) (et_neI (ev_lcount (vv 1) lt ev_bl) (ev_int (i := 1)))) (fun _ => Et.as (by rfl) (et_not (x := true) (et_val (ev_isK C T0.f_isinstance (vv 0) hB (pe_glob (v := V.ref _) rfl T0.g_BindError rfl) (fun _ z => z) k.t7)))) (fun _ _ => Et.as (by rfl) (et_not (x := true) (et_val (ev_isK (u := .ty "ValueError") C T0.f_isinstance (vv 0) hB (pe_bltn rfl T0.f_ValueError (by decide +kernel) rfl) (fun _ z => z) k.t8)))))) (fun h => nomatch h) fun _ => ?_
  refine ss_retW (Ew.sub (Ev.w (d := .str "none") (ev_ixN (ds := errL) (i := (5 : Nat)) (el_lst (ea_constPs (by rfl)) (by simp [errL])) (ev_lindex (j := 5) (vv 1) lt ev_bl rfl (by decide)) rfl)) (q := fun d G' => d = .str "none" ∧ G' = G) fun d G' ⟨e1, e2⟩ => ⟨G, ?_, e1, rfl⟩) (fun d G' ⟨e1, e2⟩ => by rw [e1, e2]; exact h)
  rw [e2, List.append_assoc]
  exact List.sublist_append_left _ _
end
end Bk
set_option Elab.async false
set_option linter.all false
set_option autoImplicit false
set_option maxRecDepth 100000
set_option maxHeartbeats 2000000
namespace Bk
open PySem PySem.Spec PyProof.Rows L2
theorem low_shrink {P : Program} {w : World} {X : Cx} {B B2 H H2 : Hp} {D : DE} {st : List Stmt} {σ : L2.St} {H3 : Hp} (e : Same B B2) (t : TK H H2) (h : WSs X st (D.low P w B2 H2) σ H3) : WSs X st (D.low P w B H) σ H3 :=
  ends_mono h (fun _ _ ⟨a, b, c, d, t2, f⟩ => ⟨a, b, c.shrink e, d, t.trans t2, f⟩) (fun _ _ ⟨a, b, c, d, t2, f⟩ => ⟨a, b, c.shrink e, d, t.trans t2, f⟩) (fun _ _ ⟨a, b, c, d, t2, f⟩ => ⟨a, b, c.shrink e, d, t.trans t2, f⟩) (fun _ _ ⟨a, b, c, d, t2, f⟩ => ⟨a, b, c.shrink e, d, t.trans t2, f⟩)
section
variable {P : Program} {w : World} {K : PySem.W.Frag} {mg : Str → Option Value} {base : Heap}
def preCall : Pre := fun ds B G post => ∃ m T U M o, TbOk m T ∧ TbOk m U ∧ MgOk m M ∧ ds = [tbD T, tbD U, mgD M] ∧ FirstP m T U M o ∧ (o = none → post (.str "none") G) ∧ ∀ r, o = some r → ∀ p, B p = none → (∀ x ∈ G, x.1 ≠ p) → post (.adr p) (G ++ [(p, .lst (r.map itD))])
theorem k_law_call (T0 : Tx P w K mg) : Kn P w K mg base "_law_call" 10 preCall := by
  refine kn_law_call T0 (fun ds B G post h => by obtain ⟨m, T, U, M, o, _, _, _, rfl, _⟩ := h; rfl) fun cdv A outer s H E hr ds B G post h => ?_
  obtain ⟨m, T, U, M, o, hT, hU, hM, rfl, ho, hn, hsm⟩ := h
  obtain ⟨fd, F, hk, hb, hmg⟩ := k_value_row (P := P) (w := w) (base := base) T0
  refine ss_v (i := 3) (d := .non) ev_non ?_ sc_law_call.nd
  refine ss_v (i := 4) (d := .non) ev_non ?_ sc_law_call.nd
  intro σ H1 r1 s1
  refine WSs.of (pss_cons ps_w pss_w) ?_
  refine WS.of (ps_tryK (i := 5) (c := .ref (He.ga K "BindError")) (tb := fun W => tSeq (tAsg (tCallS (spV K) (L2.WE W) (tCons (tVar 0) (tCons (tVar 1) (tCons (tVar 2) tNil)))) (gName 3)) tNext) (ts := fun _ _ => tSeq (tAsg (tVar 5) (gName 4)) tNext) rfl rfl sc_law_call.nd rfl rfl ⟨rfl, by decide, .inl T0.g_BindError⟩ rfl ?_ ?_) ?_
  · intro W pn xe tk hp
    exact pss_cons (ps_set sc_law_call.nd rfl (Or.inl rfl) (pe_callS F (hr.mono (by decide)) rfl hmg hk hb (fun σ => passAt tk σ) (pa_cons (pv 0) (pa_cons (pv 1) (pa_cons (pv 2) pa_nil))))) pss_nil
  · intro a oe cls pn z hv
    exact pss_cons (ps_set sc_law_call.nd rfl (Or.inl rfl) (pv 5)) pss_nil
  obtain ⟨v0, g0, i0⟩ := s1.get 0 (tbD T) rfl
  obtain ⟨v1, g1, i1⟩ := s1.get 1 (tbD U) rfl
  obtain ⟨v2, g2, i2⟩ := s1.get 2 (mgD M) rfl
  refine ⟨v0, g0, v1, g1, v2, g2, ?_⟩
  refine ⟨_, m, T, U, M, o, .cons i0 (.cons i1 (.cons i2 .nil)), hT, hU, hM, rfl, ho, fun r e p us H' hp sH hl hi => ?_, fun e H' sH => ⟨T0.nfm, rfl, fun a ha => ?_⟩⟩
  · -- a row
    obtain ⟨f1, f2⟩ := r1.fresh hp
    have rest : Ss (cxOf CX0 P w K mg base n_law_call "_law_call" (defScope s_law_call) (He.ga K "_law_call") cdv A outer s H E).nox B [some (tbD T), some (tbD U), some (mgD M), some (.adr p), some .non, none] (G ++ [(p, .lst (r.map itD))]) ((defBody s_law_call).drop 3) { nx := fun _ G' => post .non G', rt := post } :=
      ss_r (d := .adr p) (ev_if (x := true) (Et.as (by rfl) (et_isN (d := .non) (vv 4))) (fun _ => vv 3) (fun h => nomatch h)) (hsm r e p f1 f2)
    exact low_tk (.of sH) (rest _ H' (Ew.mk_lst r1 sH hp hl hi) ((s1.ext sH).set 3 (d := .adr p) (by simp only [Is])))
  · -- NotFound
    refine ⟨.ref a, ?_, fun hb2 => ?_⟩
    · have hl : σ.length = 6 := s1.len
      exact List.getElem?_set_self (by rw [hl]; decide)
    have hBa : B a = none := (r1.base.trans sH).free ha
    have eB : Same B (upd B a (ExK (.ref (Nf K)) a)) := Same.new hBa
    have eH : Same H' (upd H' a (ExK (.ref (Nf K)) a)) := Same.new ha
    have r3 : Rep P w (upd B a (ExK (.ref (Nf K)) a)) G (upd H' a (ExK (.ref (Nf K)) a)) := by
      have r2 := r1.ext sH
      refine ⟨fun b u z => ?_, fun x hx => ⟨((r2.own x hx).1).at_ (.of eH) fun u q => eH _ _ q, ?_⟩, r2.nd⟩
      · by_cases hb3 : b = a
        · subst hb3
          rw [upd_same] at z ⊢
          exact z
        · rw [upd_ne hb3] at z ⊢
          exact r2.base b u z
      · have : x.1 ≠ a := fun q => by
          obtain ⟨u, z⟩ := (r2.own x hx).1.there
          rw [q, ha] at z
          cases z
        rw [upd_ne this]; exact (r2.own x hx).2
    have rest : Ss (cxOf CX0 P w K mg base n_law_call "_law_call" (defScope s_law_call) (He.ga K "_law_call") cdv A outer s H E).nox (upd B a (ExK (.ref (Nf K)) a)) [some (tbD T), some (tbD U), some (mgD M), some .non, some (.adr a), none] G ((defBody s_law_call).drop 3) { nx := fun _ G' => post .non G', rt := post } :=
      ss_r (d := .str "none") (ev_if (x := false) (Et.as (by rfl) (et_isN (d := .adr a) (vv 4))) (fun h => nomatch h) (fun _ => ev_callR (k_law_error T0) (hr.mono (by decide)) (ea_cons (vv 4) ea_nil) fun H2 r2 => ⟨a, rfl, r2.base _ _ upd_same, rfl⟩)) (hn e)
    have sl : Sl (upd H' a (ExK (.ref (Nf K)) a)) [some (tbD T), some (tbD U), some (mgD M), some .non, some (.adr a), none] (((σ.set 5 (some (V.ref a))).set 4 (some (V.ref a))).set 5 none) := by
      have q := (((s1.ext sH).ext eH).set 5 (d := .adr a) (v := V.ref a) (by simp only [Is]))
      exact ((q.set 4 (d := .adr a) (v := V.ref a) (by simp only [Is])).unset 5)
    exact low_shrink eB ((TK.of sH).trans (.of eH)) (rest _ _ r3 sl)
end
end Bk
set_option Elab.async false
set_option linter.all false
set_option autoImplicit false
set_option maxRecDepth 100000
namespace Bk
theorem allS_nodup {m : Mn} (hm : okM m) : (allS m).Nodup := okM_cases (p := fun m => (allS m).Nodup) hm (by decide) (by decide) (by decide) (by decide) (by decide) (by decide)
theorem own_at {m : Mn} {T : Tb} (h : TbOk m T) {g : Sg} (hg : g ∈ allS m) {p : Nat} (hp : p < T.length) : g ∈ (T[p]).2 ↔ tplace T g = p := by
  have nd : (T.flatMap (·.2)).Nodup := h.perm.nodup_iff.mpr (allS_nodup h.okm)
  have pw := (List.pairwise_flatMap.mp nd).2
  rw [List.pairwise_iff_getElem] at pw
  have hq := h.tp hg
  have hin : g ∈ (T[tplace T g]).2 := by
    have := List.findIdx_getElem (p := fun l : Lv => l.2.contains g) (w := hq)
    simpa [tplace] using this
  constructor
  · intro hm
    rcases Nat.lt_trichotomy (tplace T g) p with z | z | z
    · exact absurd rfl (pw _ _ hq hp z g hin g hm)
    · exact z
    · exact absurd rfl (pw _ _ hp hq z g hm g hin)
  · intro e
    subst e
    exact hin
theorem own_txt {m : Mn} {T : Tb} (h : TbOk m T) {g : Sg} (hg : g ∈ allS m) {p : Nat} (hp : p < T.length) : decide (sgC g ∈ (txt (T[p]).2).cps.toList) = decide (tplace T g = p) := by
  refine decide_eq_decide.mpr ?_
  rw [txt_list, ← own_at h hg hp]
  constructor
  · intro hm
    obtain ⟨g', h1, h2⟩ := List.mem_map.mp hm
    have := sgC_inj (h.mem (List.getElem_mem hp) h1) hg h.okm h2
    rw [← this]; exact h1
  · exact fun hm => List.mem_map.mpr ⟨g, hm, rfl⟩
/-- behind the last part -/
def addL : List (List It) → List It → List (List It)
  | [], _ => []
  | [x], a => [x ++ a]
  | x :: y :: r, a => x :: addL (y :: r) a
theorem addL_nil : ∀ l : List (List It), addL l [] = l
  | [] => rfl
  | [x] => by simp [addL]
  | x :: y :: r => by rw [addL, addL_nil (y :: r)]
theorem addL_add : ∀ (l : List (List It)) (a b : List It), addL (addL l a) b = addL l (a ++ b)
  | [], _, _ => rfl
  | [x], a, b => by simp [addL]
  | [x, y], a, b => by simp [addL]
  | x :: y :: z :: r, a, b => by
    have := addL_add (y :: z :: r) a b
    simp only [addL] at this ⊢
    rw [this]
theorem addL_ne : ∀ {l : List (List It)} {a : List It}, l ≠ [] → addL l a ≠ []
  | [], _, h => absurd rfl h
  | [x], _, _ => by simp [addL]
  | x :: y :: r, _, _ => by simp [addL]
theorem addL_new : ∀ (l : List (List It)) (a : List It), addL (l ++ [[]]) a = l ++ [a]
  | [], a => by simp [addL]
  | [x], a => by simp [addL]
  | x :: y :: r, a => by
    have := addL_new (y :: r) a
    simp only [List.cons_append, addL] at this ⊢
    rw [this]
theorem addL_last (l : List (List It)) (x a : List It) : addL (l ++ [x]) a = l ++ [x ++ a] := by
  induction l with
  | nil => rfl
  | cons y l ih =>
    cases l with
    | nil => rfl
    | cons z l =>
      simp only [List.cons_append, addL] at ih ⊢
      rw [ih]
theorem bldL_snoc : ∀ (l : List (Nat × Tr)) (a : Tr) (k : Nat) (t : Tr), bldL a (l ++ [(k, t)]) = .i k (bldL a l) t
  | [], _, _, _ => rfl
  | (k0, t0) :: r, a, k, t => by rw [List.cons_append, bldL, bldL_snoc r]; rfl
theorem bldR_at {l : List (Nat × Tr)} {j : Nat} {k : Nat} {t u : Tr} (h : l[j]? = some (k, t)) : bldR u (l.drop j) = .i k u (bldR t (l.drop (j + 1))) := by
  obtain ⟨q1, q2⟩ := List.getElem?_eq_some_iff.mp h
  rw [List.drop_eq_getElem_cons q1, q2]; rfl
end Bk
set_option Elab.async false
set_option linter.all false
set_option autoImplicit false
set_option maxRecDepth 100000
set_option maxHeartbeats 2000000
namespace Bk
open PySem L2
theorem Lat.app {B : Hp} {G R : GL} {p : Addr} {ds : List Dat} (h : Lat B G p ds) : Lat B (G ++ R) p ds := by
  rcases h with ⟨j, hj⟩ | h
  · refine .inl ⟨j, ?_⟩
    rw [List.getElem?_append_left (List.getElem?_eq_some_iff.mp hj).1]; exact hj
  · exact .inr h
section
variable {X : Cx} {B : Hp} {ρ : Sls} {G : GL}
theorem ew_if {a b c : Expr} {x : Bool} {p : Dat → GL → Prop} {pos : Pos} (hc : Et X B ρ G c x) (h1 : x = true → Ew X B ρ G a p) (h2 : x = false → Ew X B ρ G b p) : Ew X B ρ G (.IfExp c a b pos) p := fun σ H r s Q q =>
  WE.of (pe_ifExp pt_w pe_w pe_w) (hc σ H r s _ fun H2 e2 => by
    cases x with
    | true => exact iteT (h1 rfl σ H2 (r.ext e2) (s.ext e2) Q fun v H3 d G' r' t i z => q v H3 d G' r' ((TK.of e2).trans t) i z)
    | false => exact iteF (h2 rfl σ H2 (r.ext e2) (s.ext e2) Q fun v H3 d G' r' t i z => q v H3 d G' r' ((TK.of e2).trans t) i z))
theorem dpall {K : PySem.W.Frag} {H : Hp} {ds : List Dat} {vs : List V} (h : ∀ d ∈ ds, d.clean = true) (i : IsAll H ds vs) : DpAll K H vs (Dat.pds ds) := IsAll.dp ds vs (cleans_all h) i
theorem lst_shaped {ds : List Dat} {n : Nat} (h : ∀ d ∈ ds, d.clean = true ∧ d.pd.canLay0 = true ∧ d.pd.depth ≤ n) (hn : n < 64) : SeqAt.shaped (.list (Dat.pds ds)) = true := by
  have := Dat.fine.s (fine_of h hn)
  simpa [SeqAt.shaped, Dat.pd, PyData.canLay0, PyData.depth] using this
theorem pds_any (c : PyData) : ∀ ds : List Dat, (Dat.pds ds).any (fun z => PyData.eqv z c) = ds.any fun d => PyData.eqv d.pd c
  | [] => rfl
  | d :: ds => by rw [Dat.pds, List.any_cons, List.any_cons, pds_any c ds]
/-- None in l -/
theorem et_noneIn {b : Expr} {j : Nat} {p2 pos : Pos} {q : Addr} {ds : List Dat} {n : Nat} (hu : X.A.units + 65 < cLine) (hb : Ev X B ρ G b (.adr q)) (hj : Lat B G q ds) (h : ∀ d ∈ ds, d.clean = true ∧ d.pd.canLay0 = true ∧ d.pd.depth ≤ n) (hn : n < 64) (hm : behindInMarks .In b = false := by rfl) :
    Et X B ρ G (.Compare (.Constant .none j p2) [.In] [b] pos) (ds.any fun d => PyData.eqv d.pd .none) := fun σ H r s Q k =>
  WT.of (pt_cmpR (op_inD hu) pe_w pe_w hm) ((ev_non (X := X) (B := B) (ρ := ρ) (G := G)) σ H r s _ fun x H1 e1 i1 => hb σ H1 (r.ext e1) (s.ext e1) _ fun y H2 e2 i2 => by
    simp only [Is] at i1 i2
    subst i1 i2
    obtain ⟨vs, h1, h2⟩ := ((r.ext e1).ext e2).lat hj
    refine ⟨.none, Dat.pds ds, .non, .lst (SqL.of h1) (dpall (fun d hd => (h d hd).1) h2), rfl, lst_shaped h hn, ?_⟩
    rw [pds_any]
    exact ⟨_, rfl, k H2 (e1.trans e2)⟩)
end
def plI (T : Tb) : It → Int
  | .s g => (tplace T g : Nat)
  | .v _ => 0
theorem signs_min {T : Tb} {its : List It} : (its.filter It.isS).isEmpty = (minP T its).isNone := by
  cases hp : minP T its with
  | none =>
    have := minP_none T hp
    have e : its.filter It.isS = [] := List.filter_eq_nil_iff.mpr fun it hi => by rw [this it hi]; decide
    rw [e]; rfl
  | some p =>
    obtain ⟨g, h1, h2⟩ := minP_at T hp
    cases he : its.filter It.isS with
    | nil =>
      have := List.filter_eq_nil_iff.mp he (.s g) h1
      exact absurd rfl this
    | cons a b => rfl
theorem min_mem {T : Tb} {its : List It} {p : Nat} (h : minP T its = some p) : (p : Int) ∈ (its.filter It.isS).map (plI T) ∧ ∀ y ∈ (its.filter It.isS).map (plI T), (p : Int) ≤ y := by
  obtain ⟨g, h1, h2⟩ := minP_at T h
  refine ⟨List.mem_map.mpr ⟨.s g, List.mem_filter.mpr ⟨h1, rfl⟩, by rw [← h2]; rfl⟩, fun y hy => ?_⟩
  obtain ⟨it, hi, rfl⟩ := List.mem_map.mp hy
  obtain ⟨h3, h4⟩ := List.mem_filter.mp hi
  cases it with
  | v b => cases h4
  | s g =>
    obtain ⟨q, h5, h6⟩ := minP_le T h3
    rw [h] at h5
    cases h5
    show (p : Int) ≤ ((tplace T g : Nat) : Int)
    omega
def fD : Option Nat → Dat
  | none => .non
  | some k => sgD (.ahd k)
def partsG (e0 pp pc : Addr) (l0 : List It) (more : List (Addr × List It)) (cuts : List Sg) : GL := (e0, .lst (l0.map itD)) :: (pp, .lst (.adr e0 :: more.map fun x => Dat.adr x.1)) :: (pc, .lst (cuts.map sgD)) :: more.map fun x => (x.1, DO.lst (x.2.map itD))
theorem trD_data {m : Mn} (hm : okM m) : ∀ {t : Tr}, t.ok m → (trD t).clean = true ∧ (trD t).pd.canLay0 = true ∧ (trD t).pd.depth ≤ t.ht
  | .v b, _ => ⟨rfl, rfl, Nat.le_refl _⟩
  | .p k t, h => by
    obtain ⟨a, b, c⟩ := trD_data hm h.2
    have hk := (ahd_lt hm h.1).2
    have e : PyData.canLay0 (Dat.pd (sgD (.ahd k))) = true := by
      have : k = 0 ∨ k = 1 := by omega
      rcases this with rfl | rfl <;> decide +kernel
    refine ⟨by simp [trD, Dat.clean, Dat.cleans, a, sgD], ?_, ?_⟩
    · simp only [trD, Dat.pd, Dat.pds, PyData.canLay0, PyData.canLayAll0, b, Bool.and_true]
      exact e
    · simp only [trD, Dat.pd, Dat.pds, PyData.depth, PyData.depthAll, Tr.ht, sgD]
      omega
  | .i k x y, h => by
    obtain ⟨a1, b1, c1⟩ := trD_data hm h.2.1
    obtain ⟨a2, b2, c2⟩ := trD_data hm h.2.2
    have hk := (inf_lt hm h.1).2
    have e : PyData.canLay0 (Dat.pd (sgD (.inf k))) = true := by
      have : k = 0 ∨ k = 1 ∨ k = 2 := by omega
      rcases this with rfl | rfl | rfl <;> decide +kernel
    refine ⟨by simp [trD, Dat.clean, Dat.cleans, a1, a2, sgD], ?_, ?_⟩
    · simp only [trD, Dat.pd, Dat.pds, PyData.canLay0, PyData.canLayAll0, b1, b2, Bool.and_true]
      exact e
    · simp only [trD, Dat.pd, Dat.pds, PyData.depth, PyData.depthAll, Tr.ht, sgD]
      omega
theorem trs_none (l : List (Option Tr)) : (l.map otD).any (fun d => PyData.eqv d.pd .none) = l.any Option.isNone := by
  induction l with
  | nil => rfl
  | cons o l ih =>
    rw [List.map_cons, List.any_cons, List.any_cons, ih]
    congr 1
    cases o with
    | none => rfl
    | some t => cases t <;> rfl
theorem atI_neg {A : Type} {l : List A} {j : Nat} {a : A} (hj : j < l.length) (h : l[l.length - 1 - j]? = some a) : L2.atI l (-1 - (j : Int)) = some a := by
  unfold L2.atI
  have e : ixN l.length (-1 - (j : Int)) = some (l.length - 1 - j) := by
    unfold ixN
    rw [if_neg (by omega), if_pos (by omega)]
    congr 1
    omega
  rw [e]
  exact h
section
variable {P : Program} {w : World} {K : PySem.W.Frag} {mg : Str → Option Value} {base : Heap}
def rLawTree (n : Nat) (ds : List Dat) (B : Hp) (d : Dat) : Prop := ∃ m T its p, TbOk m T ∧ RowV m its ∧ its.length ≤ n ∧ ds = [tbD T, .adr p] ∧ Lat B [] p (its.map itD) ∧ d = otD (lawT T n its)
theorem k_law_tree (T0 : Tx P w K mg) : ∀ n : Nat, n ≤ 40 → Kn P w K mg base "_law_tree" (n + 2) (preR (rLawTree n))
  | 0, _ => kn_law_tree T0 (fun ds B G post h => by obtain ⟨d, ⟨m, T, its, p, _, _, _, rfl, _⟩, _⟩ := h; rfl) fun cdv A outer s H E hr ds B G post h => by
    obtain ⟨d, ⟨m, T, its, p, hT, hR, hle, _⟩, _⟩ := h
    have : its = [] := List.length_eq_zero_iff.mp (by omega)
    rw [this] at hR
    cases hR.run
  | n + 1, h40 => by
    have ih := k_law_tree T0 n (by omega)
    refine kn_law_tree T0 (fun ds B G post h => by obtain ⟨d, ⟨m, T, its, p, _, _, _, rfl, _⟩, _⟩ := h; rfl) fun cdv A outer s H E hr ds B G0 post h => ?_
    obtain ⟨d, ⟨m, T, its, pr, hT, hR, hle, rfl, hl0, rfl⟩, h⟩ := h
    have hu := hr.units
    have hu5 : (cxOf CX0 P w K mg base n_law_tree "_law_tree" (defScope s_law_tree) (He.ga K "_law_tree") cdv A outer s H E).nox.A.units + 65 < cLine := by have := hr.un; omega
    have hm := hT.okm
    have hl : ∀ (B2 : Hp) (G : GL), Same B B2 → Lat B2 G pr (its.map itD) := fun B2 G e => by
      rcases hl0 with ⟨j, hj⟩ | hj
      · cases hj
      · obtain ⟨vs, h1, h2⟩ := hj
        exact .inr ⟨vs, e _ _ h1, IsAll.mono (.of e) _ _ h2⟩
    have ret : ∀ {ρ : Sls} {R : GL} {e : Expr} {pos : Pos} {d' : Dat} {D : DE}, D.rt = post → Ev (cxOf CX0 P w K mg base n_law_tree "_law_tree" (defScope s_law_tree) (He.ga K "_law_tree") cdv A outer s H E).nox B ρ (G0 ++ R) e d' → d' = otD (lawT T (n + 1) its) → ∀ rest, Ss (cxOf CX0 P w K mg base n_law_tree "_law_tree" (defScope s_law_tree) (He.ga K "_law_tree") cdv A outer s H E).nox B ρ (G0 ++ R) (.Return (some e) pos :: rest) D := fun {ρ R e pos d' D} hD he hd rest => by
      refine ss_retW (Ew.sub he.w (q := fun d G' => d = d' ∧ G' = G0) fun d G' ⟨e1, e2⟩ => ⟨G0, ?_, e1, rfl⟩) (fun d G' ⟨e1, e2⟩ => by rw [e1, e2, hD, hd]; exact h)
      rw [e2]; exact List.sublist_append_left _ _
    have small : ∀ k : Nat, k ≤ 41 → k ≤ sizeLine := fun k hk => Nat.le_trans hk (by decide)
    refine ss_lc1I (i := 3) (j := 2) sc_law_tree.nd (bk n_law_tree s_law_tree) (lc_if its itD It.isS itD (srcS_lst (vv 1) (hl _ _ (Same.refl B))) (small _ (by omega)) fun it hit => ⟨_, rdw_name (by simp), fun s H0 C cl fp => Et.as (itD_isStr it) (et_val (ev_isT T0.f_isinstance T0.f_str (vv 3) (itD_na it) (kit_str _ (itD_na it)))), fun _ s H0 C cl fp => vv 3⟩) fun ps _ _ => ?_
    have lt2 : ∀ B : Hp, Lat B (G0 ++ [(ps, DO.lst ((its.filter It.isS).map itD))]) ps ((its.filter It.isS).map itD) := fun B => lat_mem (by simp)
    have eem : ((its.filter It.isS).map itD).isEmpty = (minP T its).isNone := by rw [← signs_min]; cases its.filter It.isS <;> rfl
    refine ss_guard (x := (minP T its).isNone) (Et.as eem (et_eqEmp hu (vv 2) (lt2 B))) (fun hx => ?_) (fun hx => ?_)
    · have hp : minP T its = none := Option.isNone_iff_eq_none.mp hx
      obtain ⟨b, rfl⟩ := row_one hR hp
      exact ret rfl (ev_ixL (d := vD b) (vv 1) ev_int (hl _ _ (Same.refl B)) (by rfl)) (by rw [lawT, hp]; rfl) _
    obtain ⟨p, hp⟩ : ∃ p, minP T its = some p := by
      cases hq : minP T its with
      | none => rw [hq] at hx; cases hx
      | some p => exact ⟨p, rfl⟩
    have hpl : p < T.length := by
      obtain ⟨g, h1, h2⟩ := minP_at T hp
      rw [← h2]; exact hT.tp (hR.mem _ h1 g rfl)
    obtain ⟨mm1, mm2⟩ := min_mem hp
    refine ss_v (i := 4) (d := .int (p : Nat)) (ev_min (ns := (its.filter It.isS).map (plI T)) (m := (p : Int)) rfl rfl T0.f_min (El.as ?_ (el_lc1 (i := 5) sc_law_tree.nd (bk n_law_tree s_law_tree) (lc_no (its.filter It.isS) itD (fun it => Dat.int (plI T it)) (srcS_lst (vv 2) (lt2 B)) (small _ ?_) fun it hit => ⟨_, rdw_name (by simp), fun s H0 C cl fp => ?_⟩))) mm1 mm2) ?_ sc_law_tree.nd
    · rw [List.map_map]; rfl
    · have := List.length_filter_le It.isS its; omega
    · obtain ⟨h1, h2⟩ := List.mem_filter.mp hit
      cases it with
      | v b => cases h2
      | s g => exact ev_callR (k_law_place T0) (hr.mono (by omega)) (ea_cons (vv 0) (ea_cons (vv 5) ea_nil)) fun H _ => ⟨m, T, g, hT, hR.mem _ h1 g rfl, rfl, rfl⟩
    refine ss_asg (pg_t2 (i := 6) (j := 7) sc_law_tree.nd) (ev_ixT (vv 0) (vv 4) (atI_nat (lv_get hpl))) rd_t2 ?_
    -- the sign ahead that begins the row
    refine ss_v (i := 8) (d := fD (frst T p its)) ?_ ?_ sc_law_tree.nd
    · cases its with
      | nil => cases hR.run
      | cons it0 r =>
        have hat : L2.atI ((it0 :: r).map itD) 0 = some (itD it0) := atI_nat (i := 0) rfl
        cases it0 with
        | v b =>
          refine ev_if (x := false) (Et.as (by rfl) (et_and2 (x := false) (y := false) (Et.as (by rfl) (et_val (ev_isT T0.f_isinstance T0.f_str (ev_ixL (d := itD (.v b)) (vv 1) ev_int (hl _ _ (Same.refl B)) hat) (itD_na (.v b)) (kit_str _ (itD_na (.v b)))))) (fun h => nomatch h))) (fun h => nomatch h) (fun _ => ev_non)
        | s g =>
          cases g with
          | inf k =>
            have := hR.run
            simp [rdy, canF] at this
          | ahd k =>
            have hg := hR.mem (.s (.ahd k)) (by simp) _ rfl
            refine ev_if (x := decide (tplace T (.ahd k) = p)) (Et.as (by rw [← own_txt hT hg hpl]; rfl) (et_and2 (x := true) (Et.as (by rfl) (et_val (ev_isT T0.f_isinstance T0.f_str (ev_ixL (d := itD (.s (.ahd k))) (vv 1) ev_int (hl _ _ (Same.refl B)) hat) (itD_na (.s (.ahd k))) (kit_str _ (itD_na (.s (.ahd k))))))) (fun _ => et_inS (c := sgC (.ahd k)) (ev_ixL (d := itD (.s (.ahd k))) (vv 1) ev_int (hl _ _ (Same.refl B)) hat) (vv 7)))) (fun hx => Ev.as ?_ (ev_ixL (d := itD (.s (.ahd k))) (vv 1) ev_int (hl _ _ (Same.refl B)) hat)) (fun hx => Ev.as ?_ ev_non)
            · rw [frst, if_pos (of_decide_eq_true hx)]; rfl
            · rw [frst, if_neg (of_decide_eq_false hx)]; rfl
    have fnon : (fD (frst T p its)).isNon = !(frst T p its).isSome := by cases frst T p its <;> rfl
    -- the rest
    refine ss_w (i := 9) (post := fun d G' => ∃ p9 R9, d = .adr p9 ∧ G' = G0 ++ R9 ∧ Lat B G' p9 ((rst T p its).map itD)) (ew_if (x := (frst T p its).isSome) (Et.as (by rw [fnon, Bool.not_not]) (et_notN (vv 8))) (fun hx => ?_) (fun hx => ?_)) (fun d G' ⟨p9, R9, e1, e2, hl9⟩ => ?_) sc_law_tree.nd
    · refine Ew.imp (El.w (ds := (rst T p its).map itD) (El.as ?_ (el_slL (l := some 1) (h := none) (vv 1) (hl B _ (Same.refl B)) (pt1 ev_int) pt0))) fun d G' ⟨p9, e1, _, _, e2⟩ => ⟨p9, [(ps, DO.lst ((its.filter It.isS).map itD)), (p9, DO.lst ((rst T p its).map itD))], e1, by rw [e2]; simp, by rw [e2]; exact lat_mem (by simp)⟩
      have hne : 1 ≤ its.length := by
        cases its with
        | nil => cases hR.run
        | cons a b => simp
      rw [show (some (1 : Int)) = some ((1 : Nat) : Int) from rfl, cut_drop (by rw [List.length_map]; exact hne)]
      unfold rst
      rw [if_pos hx, ← List.map_drop, List.drop_one]
    · refine Ew.imp (Ev.w (d := .adr pr) (vv 1)) fun d G' ⟨e1, e2⟩ => ⟨pr, [(ps, DO.lst ((its.filter It.isS).map itD))], e1, e2, ?_⟩
      unfold rst
      rw [if_neg (by rw [hx]; decide)]
      exact hl B _ (Same.refl B)
    subst e1 e2
    generalize hown : txt (T[p]).2 = own
    have hownt : ∀ g, g ∈ allS m → decide (sgC g ∈ own.cps.toList) = decide (tplace T g = p) := fun g hg => by rw [← hown]; exact own_txt hT hg hpl
    have rlen : (rst T p its).length ≤ its.length := by
      rcases frst_rst T p its with ⟨k, _, _, e⟩ | ⟨_, e⟩
      · have := congrArg List.length e
        rw [List.length_cons] at this; omega
      · rw [e]; exact Nat.le_refl _
    have rmem : ∀ it ∈ rst T p its, ItOk m it := fun it hit => by
      rcases frst_rst T p its with ⟨k, _, _, e⟩ | ⟨_, e⟩
      · exact hR.mem it (by rw [e]; exact List.mem_cons_of_mem _ hit)
      · rw [e] at hit; exact hR.mem it hit
    refine ss_par (i := 10) (j := 11) (post := fun ds G' => ∃ e0 pp pc, ds = [.adr pp, .adr pc] ∧ G' = G0 ++ (R9 ++ partsG e0 pp pc [] [] []))
      (eaw_cons (ew_lstW (post := fun ds G' => ∃ e0, ds = [.adr e0] ∧ G' = G0 ++ (R9 ++ [(e0, .lst [])])) (eaw_l (el_lst ea_nil (by simp)) fun e0 _ _ => eaw_nil ⟨e0, rfl, by simp⟩) (by simp) (fun ds G' ⟨e0, e, _⟩ => by rw [e]; rfl))
        fun d G' ⟨pp, ds, G2, e1, ⟨e0, e2, e3⟩, _, _, e4⟩ => eaw_l (el_lst ea_nil (by simp)) fun pc _ _ => eaw_nil ⟨e0, pp, pc, by rw [e1], by rw [e4, e3, e2]; simp [partsG]⟩) (fun ds G' ⟨e0, pp, pc, e1, e2⟩ => ⟨_, _, e1, ?_⟩) sc_law_tree.nd
    subst e2
    clear e1
    have app9 : ∀ {B2 : Hp} {R : GL}, Same B B2 → Lat B2 (G0 ++ (R9 ++ R)) p9 ((rst T p its).map itD) := fun {B2 R} e => by
      rw [← List.append_assoc]
      refine Lat.app ?_
      rcases hl9 with hj | hj
      · exact .inl hj
      · obtain ⟨vs, h1, h2⟩ := hj
        exact .inr ⟨vs, e _ _ h1, IsAll.mono (.of e) _ _ h2⟩
    have hnone : (spl T p (rst T p its)).2.any (fun x => !x.1.isInf) = true → otD (lawT T (n + 1) its) = .non := fun hq => by
      rw [lawT, hp]
      simp only
      rw [if_pos hq]; rfl
    refine ss_forL (vv 9) (app9 (Same.refl B)) (pg_n (i := 3) sc_law_tree.nd)
      (fun i ρ' G' => ∃ (l0 : List It) (more : List (Addr × List It)) (cuts : List Sg),
        addL (l0 :: more.map Prod.snd) (spl T p ((rst T p its).drop i)).1 ++ (spl T p ((rst T p its).drop i)).2.map Prod.snd = (spl T p (rst T p its)).1 :: (spl T p (rst T p its)).2.map Prod.snd ∧
        cuts ++ (spl T p ((rst T p its).drop i)).2.map Prod.fst = (spl T p (rst T p its)).2.map Prod.fst ∧ (∀ g ∈ cuts, g.isInf = true) ∧ l0.length ≤ i ∧ (∀ x ∈ more, x.2.length ≤ i) ∧ more.length ≤ i ∧ cuts.length ≤ i ∧
        ρ' = [some (tbD T), some (.adr pr), some (.adr ps), none, some (.int (p : Nat)), none, some (.str (wdS (tword T p))), some (.str own), some (fD (frst T p its)), some (.adr p9), some (.adr pp), some (.adr pc), none, none, none, none] ∧
        G' = G0 ++ (R9 ++ partsG e0 pp pc l0 more cuts))
      ⟨_, ?_, [], [], [], ?_, rfl, (fun _ h => nomatch h), Nat.le_refl _, (fun _ h => nomatch h), Nat.le_refl _, Nat.le_refl _, rfl, rfl⟩ (fun i ρ' G' ⟨_, _, _, _, _, _, _, _, _, _, _, e⟩ => by rw [e]; exact app9 (Same.refl B)) ?_ ?_
    · repeat' (first | exact Frg.nil | apply Frg.same | apply Frg.drop)
    · simp [addL]
    · rintro i d0 ρ' G' hd0 ⟨l0, more, cuts, q1, q2, q3, q4, q5, q6, q7, rfl, rfl⟩
      rw [List.getElem?_map] at hd0
      obtain ⟨it, hit, rfl⟩ := Option.map_eq_some_iff.mp hd0
      have hi20 : i < 41 := by
        have := (List.getElem?_eq_some_iff.mp hit).1
        omega
      have hio := rmem it (List.mem_of_getElem? hit)
      rw [get_drop hit] at q1 q2
      have hpp : ∀ (l0 : List It) (more : List (Addr × List It)) (cuts : List Sg), ∃ (j : Nat) (ds : List Dat), (G0 ++ (R9 ++ partsG e0 pp pc l0 more cuts))[j]? = some (pp, DO.lst ds) := fun l0 more cuts => by
        obtain ⟨j', hj'⟩ := List.mem_iff_getElem?.mp (show (pp, DO.lst (.adr e0 :: more.map fun x => Dat.adr x.1)) ∈ G0 ++ (R9 ++ partsG e0 pp pc l0 more cuts) from by simp [partsG])
        exact ⟨j', _, hj'⟩
      have hpc : ∀ (l0 : List It) (more : List (Addr × List It)) (cuts : List Sg), ∃ (j : Nat) (ds : List Dat), (G0 ++ (R9 ++ partsG e0 pp pc l0 more cuts))[j]? = some (pc, DO.lst ds) := fun l0 more cuts => by
        obtain ⟨j', hj'⟩ := List.mem_iff_getElem?.mp (show (pc, DO.lst (cuts.map sgD)) ∈ G0 ++ (R9 ++ partsG e0 pp pc l0 more cuts) from by simp [partsG])
        exact ⟨j', _, hj'⟩
      have lpp : ∀ (B2 : Hp), Lat B2 (G0 ++ (R9 ++ partsG e0 pp pc l0 more cuts)) pp (.adr e0 :: more.map fun x => Dat.adr x.1) := fun B2 => lat_mem (by simp [partsG])
      refine ⟨_, rd_name, ?_⟩
      have last : (more = [] ∧ True) ∨ ∃ m' x, more = m' ++ [x] := by
        rcases List.eq_nil_or_concat more with e | ⟨m', x, e⟩
        · exact .inl ⟨e, trivial⟩
        · exact .inr ⟨m', x, by rw [e, List.concat_eq_append]⟩
      by_cases hown2 : ∃ g, it = .s g ∧ tplace T g = p
      · obtain ⟨g, rfl, hgp⟩ := hown2
        have hg := hio g rfl
        have e1 : spl T p (.s g :: (rst T p its).drop (i + 1)) = ([], (g, (spl T p ((rst T p its).drop (i + 1))).1) :: (spl T p ((rst T p its).drop (i + 1))).2) := by rw [spl, if_pos hgp]
        rw [e1, addL_nil] at q1
        rw [e1] at q2
        simp only [List.map_cons] at q1 q2
        refine ss_one (s1_if (x := true) (Et.as (by rw [hownt g hg, decide_eq_true hgp]; rfl) (et_and2 (x := true) (Et.as (by rfl) (et_val (ev_isT T0.f_isinstance T0.f_str (vv 3) (itD_na (.s g)) (kit_str _ (itD_na (.s g)))))) (fun _ => et_inS (c := sgC g) (vv 3) (vv 7)))) (fun _ => ?_) (fun h => nomatch h))
        cases g with
        | ahd k =>
          refine ss_guard (x := true) (Et.as (pq_of hm hg) (et_inS (c := sgC (.ahd k)) (vv 3) ev_str)) (fun _ => ret rfl ev_non ?_ _) (fun h => nomatch h)
          refine (hnone (List.any_eq_true.mpr ?_)).symm
          have : Sg.ahd k ∈ (spl T p (rst T p its)).2.map Prod.fst := by rw [← q2]; simp
          obtain ⟨x, hx, e⟩ := List.mem_map.mp this
          exact ⟨x, hx, by rw [e]; rfl⟩
        | inf k =>
          refine ss_guard (x := false) (Et.as (pq_of hm hg) (et_inS (c := sgC (.inf k)) (vv 3) ev_str)) (fun h => nomatch h) fun _ => ?_
          refine ss_append (p := pc) (vv 11) (Ev.w (d := sgD (.inf k)) (vv 3)) (fun d G' ⟨e1, e2⟩ => ⟨G0 ++ (R9 ++ [(e0, .lst (l0.map itD)), (pp, .lst (.adr e0 :: more.map fun x => Dat.adr x.1))]), more.map (fun x => (x.1, DO.lst (x.2.map itD))), cuts.map sgD, by rw [e2]; simp [partsG], ?_, ?_⟩) (hpc _ _ _)
          · rw [List.length_map]; exact Nat.lt_of_le_of_lt q7 (Nat.lt_of_lt_of_le hi20 (by decide))
          subst e1
          have e3 : G0 ++ (R9 ++ [(e0, DO.lst (l0.map itD)), (pp, DO.lst (.adr e0 :: more.map fun x => Dat.adr x.1))]) ++ (pc, DO.lst (cuts.map sgD ++ [sgD (.inf k)])) :: more.map (fun x => (x.1, DO.lst (x.2.map itD))) = G0 ++ (R9 ++ partsG e0 pp pc l0 more (cuts ++ [.inf k])) := by simp [partsG]
          rw [e3]
          refine ss_append (p := pp) (vv 10) (El.w (el_lst ea_nil (by simp))) (fun d G' ⟨en, e1, _, _, e4⟩ => ⟨G0 ++ (R9 ++ [(e0, .lst (l0.map itD))]), (pc, .lst ((cuts ++ [Sg.inf k]).map sgD)) :: (more.map (fun x => (x.1, DO.lst (x.2.map itD))) ++ [(en, .lst [])]), .adr e0 :: more.map fun x => Dat.adr x.1, by rw [e4]; simp [partsG], ?_, ss_done ⟨_, ?_, l0, more ++ [(en, [])], cuts ++ [.inf k], ?_, ?_, ?_, by omega, ?_, by simp; omega, by simp; omega, rfl, by rw [e1]; simp [partsG]⟩⟩) (hpp _ _ _)
          · simp; exact Nat.lt_of_le_of_lt (show more.length + 1 ≤ 42 by omega) (by decide)
          · repeat' (first | exact Frg.nil | apply Frg.same | apply Frg.drop)
          · rw [← q1, List.map_append, List.map_singleton, ← List.cons_append, addL_new]; simp
          · rw [← q2]; simp
          · intro g hg
            rcases List.mem_append.mp hg with z | z
            · exact q3 g z
            · rw [List.mem_singleton.mp z]; rfl
          · intro x hx
            rcases List.mem_append.mp hx with z | z
            · have := q5 x z; omega
            · rw [List.mem_singleton.mp z]; simp
      · have e1 : spl T p (it :: (rst T p its).drop (i + 1)) = (it :: (spl T p ((rst T p its).drop (i + 1))).1, (spl T p ((rst T p its).drop (i + 1))).2) := by
          cases it with
          | v b => rfl
          | s g => rw [spl, if_neg fun z => hown2 ⟨g, rfl, z⟩]
        rw [e1] at q1 q2
        simp only at q1 q2
        rw [show it :: (spl T p ((rst T p its).drop (i + 1))).1 = [it] ++ (spl T p ((rst T p its).drop (i + 1))).1 from rfl, ← addL_add] at q1
        have htest : Et (cxOf CX0 P w K mg base n_law_tree "_law_tree" (defScope s_law_tree) (He.ga K "_law_tree") cdv A outer s H E).nox B [some (tbD T), some (.adr pr), some (.adr ps), some (itD it), some (.int (p : Nat)), none, some (.str (wdS (tword T p))), some (.str own), some (fD (frst T p its)), some (.adr p9), some (.adr pp), some (.adr pc), none, none, none, none] (G0 ++ (R9 ++ partsG e0 pp pc l0 more cuts)) (match defBody s_law_tree with | _ :: _ :: _ :: _ :: _ :: _ :: _ :: .For _ _ (.If c _ _ _ :: _) _ _ :: _ => c | _ => .Constant .none 0 default) false := by
          cases it with
          | v b => exact Et.as (by rfl) (et_and2 (x := false) (y := false) (Et.as (by rfl) (et_val (ev_isT T0.f_isinstance T0.f_str (vv 3) (itD_na (.v b)) (kit_str _ (itD_na (.v b)))))) (fun h => nomatch h))
          | s g =>
            exact Et.as (by rw [hownt g (hio g rfl), decide_eq_false (fun z => hown2 ⟨g, rfl, z⟩)]; rfl) (et_and2 (x := true) (Et.as (by rfl) (et_val (ev_isT T0.f_isinstance T0.f_str (vv 3) (itD_na (.s g)) (kit_str _ (itD_na (.s g)))))) (fun _ => et_inS (c := sgC g) (vv 3) (vv 7)))
        refine ss_one (s1_if (x := false) htest (fun h => nomatch h) (fun _ => ?_))
        rcases last with ⟨rfl, _⟩ | ⟨m', x, rfl⟩
        · refine ss_append (p := e0) (ev_ixL (d := .adr e0) (vv 10) (ev_neg ev_int) (lpp B) (atI_last [] _)) (Ev.w (d := itD it) (vv 3)) (fun d G' ⟨k1, k2⟩ => ⟨G0 ++ R9, [(pp, .lst [.adr e0]), (pc, .lst (cuts.map sgD))], l0.map itD, by rw [k2]; simp [partsG], ?_, ss_done ⟨_, ?_, l0 ++ [it], [], cuts, ?_, q2, q3, by simp; omega, (fun _ h => nomatch h), Nat.zero_le _, by omega, rfl, by rw [k1]; simp [partsG]⟩⟩) ?_
          · rw [List.length_map]; exact Nat.lt_of_le_of_lt q4 (Nat.lt_of_lt_of_le hi20 (by decide))
          · repeat' (first | exact Frg.nil | apply Frg.same | apply Frg.drop)
          · rw [← q1]; rfl
          · obtain ⟨j', hj'⟩ := List.mem_iff_getElem?.mp (show (e0, DO.lst (l0.map itD)) ∈ G0 ++ (R9 ++ partsG e0 pp pc l0 [] cuts) from by simp [partsG])
            exact ⟨j', _, hj'⟩
        · have eq : (Dat.adr e0 :: (m' ++ [x]).map fun x => Dat.adr x.1) = (Dat.adr e0 :: m'.map fun x => Dat.adr x.1) ++ [Dat.adr x.1] := by simp
          refine ss_append (p := x.1) (ev_ixL (d := .adr x.1) (ds := (Dat.adr e0 :: m'.map fun x => Dat.adr x.1) ++ [Dat.adr x.1]) (vv 10) (ev_neg ev_int) (by rw [← eq]; exact lpp B) (atI_last _ _)) (Ev.w (d := itD it) (vv 3)) (fun d G' ⟨k1, k2⟩ => ⟨G0 ++ (R9 ++ (e0, .lst (l0.map itD)) :: (pp, .lst (.adr e0 :: (m' ++ [x]).map fun x => Dat.adr x.1)) :: (pc, .lst (cuts.map sgD)) :: m'.map fun x => (x.1, DO.lst (x.2.map itD))), [], x.2.map itD, by rw [k2]; simp [partsG], ?_, ss_done ⟨_, ?_, l0, m' ++ [(x.1, x.2 ++ [it])], cuts, ?_, q2, q3, by omega, ?_, by simpa using Nat.le_succ_of_le q6, by omega, rfl, by rw [k1]; simp [partsG]⟩⟩) ?_
          · rw [List.length_map]; exact Nat.lt_of_le_of_lt (q5 x (by simp)) (Nat.lt_of_lt_of_le hi20 (by decide))
          · repeat' (first | exact Frg.nil | apply Frg.same | apply Frg.drop)
          · have e5 : addL (l0 :: (m' ++ [x]).map Prod.snd) [it] = l0 :: (m' ++ [(x.1, x.2 ++ [it])]).map Prod.snd := by
              rw [List.map_append, List.map_append]; exact addL_last (l0 :: m'.map Prod.snd) x.2 [it]
            rw [← e5]; exact q1
          · intro y hy
            rcases List.mem_append.mp hy with z | z
            · have := q5 y (by simp [z]); omega
            · rw [List.mem_singleton.mp z]
              have := q5 x (by simp)
              simp; omega
          · obtain ⟨j', hj'⟩ := List.mem_iff_getElem?.mp (show (x.1, DO.lst (x.2.map itD)) ∈ G0 ++ (R9 ++ partsG e0 pp pc l0 (m' ++ [x]) cuts) from by simp [partsG])
            exact ⟨j', _, hj'⟩
    · rintro ρ' G' ⟨l0, more, cuts, q1, q2, q3, q4, q5, q6, q7, rfl, rfl⟩
      rw [List.length_map, List.drop_length] at q1 q2
      simp only [spl, List.map_nil, List.append_nil, addL_nil] at q1 q2
      rw [List.length_map] at q4 q5 q6 q7
      have hany : (spl T p (rst T p its)).2.any (fun x => !x.1.isInf) = false := List.any_eq_false.mpr fun x hx => by
        have : x.1 ∈ cuts := by rw [q2]; exact List.mem_map.mpr ⟨x, hx, rfl⟩
        rw [q3 _ this]; decide
      have P := parted hR hp hany
      have hlaw : lawT T (n + 1) its = if ((lawT T n (spl T p (rst T p its)).1 :: (spl T p (rst T p its)).2.map fun x => lawT T n x.2).any Option.isNone || (decide (tword T p = .non) && decide (1 < (spl T p (rst T p its)).2.length + many1 (frst T p its)))) = true then none
          else some (buildT (tword T p) (frst T p its) ((lawT T n (spl T p (rst T p its)).1).getD (.v false)) ((spl T p (rst T p its)).2.map fun x => (x.1.k, (lawT T n x.2).getD (.v false)))) := by
        rw [lawT, hp]
        simp only
        rw [if_neg (by rw [hany]; decide)]
      have hpart : ∀ x ∈ (e0, l0) :: more, RowV m x.2 ∧ x.2.length ≤ n := fun x hx => by
        have : x.2 ∈ l0 :: more.map Prod.snd := by
          rcases List.mem_cons.mp hx with z | z
          · rw [z]; exact List.mem_cons_self
          · exact List.mem_cons_of_mem _ (List.mem_map.mpr ⟨x, z, rfl⟩)
        rw [q1] at this
        rcases List.mem_cons.mp this with z | z
        · rw [z]; exact ⟨P.va, by have := P.la; omega⟩
        · obtain ⟨y, hy, e⟩ := List.mem_map.mp z
          rw [← e]; exact ⟨P.vc y hy, by have := P.lc y hy; omega⟩
      have htok : ∀ its', RowV m its' → its'.length ≤ n → ∀ t, lawT T n its' = some t → t.ok m ∧ t.ht ≤ 40 := fun its' h1 h2 t e => by
        obtain ⟨k1, k2⟩ := lawT_ok n h2 h1 e
        have := Tr.ht_sz t
        exact ⟨k1, by omega⟩
      refine ss_lc1 (i := 13) (j := 12) (ys := ((lawT T n (spl T p (rst T p its)).1 :: (spl T p (rst T p its)).2.map fun x => lawT T n x.2)).map otD) sc_law_tree.nd (bk n_law_tree s_law_tree) (Lc.as ?_ (lc_no ((e0, l0) :: more) (fun x => Dat.adr x.1) (fun x => otD (lawT T n x.2)) (srcS_lst (p := pp) (vv 10) (lat_mem (by simp [partsG]))) (small _ (by simp; omega)) fun x hx => ⟨_, rdw_name (by simp), fun s H0 C cl fp => ?_⟩)) fun pt _ _ => ?_
      · have e6 : ((e0, l0) :: more).map (fun x => otD (lawT T n x.2)) = (l0 :: more.map Prod.snd).map (fun x => otD (lawT T n x)) := by simp
        rw [e6, q1]; simp
      · obtain ⟨v1, v2⟩ := hpart x hx
        refine ev_callR ih hr (ea_cons (vv 0) (ea_cons (vv 13) ea_nil)) fun H r => ⟨m, T, x.2, x.1, hT, v1, v2, rfl, lat_base r (lat_mem ?_), rfl⟩
        rcases List.mem_cons.mp hx with z | z
        · rw [z]; simp [partsG]
        · simp only [partsG, List.mem_append, List.mem_cons]
          exact .inr (.inr (.inr (.inr (.inr (List.mem_map.mpr ⟨x, z, rfl⟩)))))
      generalize hcs : (spl T p (rst T p its)).2 = cs at hlaw q2 q1 P ⊢
      generalize hca : (spl T p (rst T p its)).1 = a at hlaw q1 P ⊢
      generalize htr : (lawT T n a :: cs.map fun x => lawT T n x.2) = trs at hlaw ⊢
      have latT : ∀ (B : Hp), Lat B (G0 ++ (R9 ++ partsG e0 pp pc l0 more cuts) ++ [(pt, DO.lst (trs.map otD))]) pt (trs.map otD) := fun B => lat_mem (by simp)
      have latC : ∀ (B : Hp), Lat B (G0 ++ (R9 ++ partsG e0 pp pc l0 more cuts) ++ [(pt, DO.lst (trs.map otD))]) pc (cuts.map sgD) := fun B => lat_mem (by simp [partsG])
      have hdat : ∀ d ∈ trs.map otD, d.clean = true ∧ d.pd.canLay0 = true ∧ d.pd.depth ≤ 40 := fun d hd => by
        obtain ⟨o, ho, rfl⟩ := List.mem_map.mp hd
        cases o with
        | none => exact ⟨rfl, rfl, Nat.zero_le _⟩
        | some t =>
          have : t.ok m ∧ t.ht ≤ 40 := by
            rw [← htr] at ho
            rcases List.mem_cons.mp ho with z | z
            · exact htok _ P.va (by have := P.la; omega) t z.symm
            · obtain ⟨x, hx, e⟩ := List.mem_map.mp z
              exact htok _ (P.vc x hx) (by have := P.lc x hx; omega) t e
          obtain ⟨k1, k2, k3⟩ := trD_data hm this.1
          exact ⟨k1, k2, by have := this.2; show (trD t).pd.depth ≤ 40; omega⟩
      have clen : cuts.length = cs.length := by rw [q2, List.length_map]
      have eR : G0 ++ (R9 ++ partsG e0 pp pc l0 more cuts) ++ [(pt, DO.lst (trs.map otD))] = G0 ++ (R9 ++ partsG e0 pp pc l0 more cuts ++ [(pt, DO.lst (trs.map otD))]) := List.append_assoc _ _ _
      rw [eR] at latT latC ⊢
      refine ss_guard (x := trs.any Option.isNone || (decide (tword T p = .non) && decide (1 < cs.length + many1 (frst T p its)))) (Et.as ?_ (et_or2 (Et.as (trs_none trs) (et_noneIn (n := 40) hu5 (vv 12) (latT B) hdat (by decide))) (fun _ => et_and2 (et_eqS (vv 6) ev_str) (fun _ => et_gt (ev_add (ev_lenL rfl T0.f_len (vv 11) (latC B)) (ev_if (d := .int (many1 (frst T p its) : Nat)) (x := (frst T p its).isSome) (Et.as (by rw [fnon, Bool.not_not]) (et_notN (vv 8))) (fun hx => Ev.as ?_ ev_int) (fun hx => Ev.as ?_ ev_int))) ev_int)))) (fun hx => ret rfl ev_non ?_ _) (fun hx => ?_)
      · have wn : ∀ x : Wd, decide (wdS x = ("none" : Str)) = decide (x = .non) := fun x => by cases x <;> rfl
        rw [wn]
        congr 2
        rw [List.length_map, clen]
        exact decide_eq_decide.mpr (by omega)
      · unfold many1; rw [if_pos hx]; rfl
      · unfold many1; rw [if_neg (by rw [hx]; decide)]; rfl
      · rw [hlaw, if_pos hx]; rfl
      rw [if_neg (by rw [hx]; decide)] at hlaw
      rw [Bool.or_eq_false_iff] at hx
      have hall := List.any_eq_false.mp hx.1
      obtain ⟨t0, ht0⟩ : ∃ t0, lawT T n a = some t0 := by
        cases hq : lawT T n a with
        | none => exact absurd rfl (hall none (by rw [← htr, hq]; simp))
        | some t => exact ⟨t, rfl⟩
      generalize hlst : (cs.map fun x => (x.1.k, (lawT T n x.2).getD (.v false))) = l at hlaw
      have htrs : trs = some t0 :: l.map fun y => some y.2 := by
        rw [← htr, ht0, ← hlst, List.map_map]
        congr 1
        refine List.map_congr_left fun x hx => ?_
        cases hq : lawT T n x.2 with
        | none => exact absurd rfl (hall none (by rw [← htr, ← hq]; exact List.mem_cons_of_mem _ (List.mem_map.mpr ⟨x, hx, rfl⟩)))
        | some t => simp [hq]
      have hcuts : cuts.map sgD = l.map fun y => sgD (.inf y.1) := by
        rw [q2, ← hlst, List.map_map, List.map_map]
        refine List.map_congr_left fun x hx => ?_
        have := (P.pc x hx).1
        obtain ⟨g, pt⟩ := x
        cases g with
        | inf k => rfl
        | ahd k => cases this
      have hll : l.length = cuts.length := by rw [← hlst, List.length_map, clen]
      have hl41 : l.length ≤ 41 := by omega
      rw [ht0, Option.getD_some] at hlaw
      have tget : ∀ j, j ≤ l.length → ∀ t, (t0 :: l.map Prod.snd)[j]? = some t → (trs.map otD)[j]? = some (trD t) := fun j hj t e => by
        rw [htrs]
        cases j with
        | zero => simp at e; subst e; rfl
        | succ j =>
          rw [List.getElem?_cons_succ, List.getElem?_map] at e
          obtain ⟨y, hy, rfl⟩ := Option.map_eq_some_iff.mp e
          rw [List.map_cons, List.getElem?_cons_succ, List.getElem?_map, List.getElem?_map, hy]
          rfl
      have tlen : (trs.map otD).length = l.length + 1 := by rw [htrs]; simp
      have cget : ∀ j k t, l[j]? = some (k, t) → (cuts.map sgD)[j]? = some (sgD (.inf k)) := fun j k t e => by
        rw [hcuts, List.getElem?_map, e]; rfl
      have wl : ∀ x : Wd, decide (wdS x = ("left" : Str)) = decide (x = .left) := fun x => by cases x <;> rfl
      refine ss_guard (x := decide (tword T p = .left)) (Et.as (wl _) (et_eqS (vv 6) ev_str)) (fun hx => ?_) (fun hx => ?_)
      · -- from the left
        have hw := of_decide_eq_true hx
        have hres : lawT T (n + 1) its = some (bldL (fstT (frst T p its) t0) l) := by rw [hlaw]; unfold buildT; rw [if_pos hw]
        refine ss_v (i := 14) (d := trD (fstT (frst T p its) t0)) (ev_if (x := (frst T p its).isSome) (Et.as (by rw [fnon, Bool.not_not]) (et_notN (vv 8))) (fun hx => Ev.as ?_ (ev_tup (ea_cons (vv 8) (ea_cons (ev_ixL (d := trD t0) (vv 12) ev_int (latT B) (atI_nat (i := 0) (tget 0 (Nat.zero_le _) t0 rfl))) ea_nil)) (by simp))) (fun hx => Ev.as ?_ (ev_ixL (d := trD t0) (vv 12) ev_int (latT B) (atI_nat (i := 0) (tget 0 (Nat.zero_le _) t0 rfl))))) ?_ sc_law_tree.nd
        · cases hf : frst T p its with
          | none => rw [hf] at hx; cases hx
          | some k => rfl
        · cases hf : frst T p its with
          | none => rfl
          | some k => rw [hf] at hx; cases hx
        refine ss_forF (ds := upto l.length) (Src.as (by rw [List.length_map, ← hll]; simp) (src_range (n := ((cuts.map sgD).length : Nat)) (ev_lenL rfl T0.f_len (vv 11) (latC B)) (by omega) (by rw [List.length_map]; omega) rfl T0.f_range)) (pg_n (i := 15) sc_law_tree.nd)
          (fun j ρ' G' => ρ' = [some (tbD T), some (.adr pr), some (.adr ps), none, some (.int (p : Nat)), none, some (.str (wdS (tword T p))), some (.str own), some (fD (frst T p its)), some (.adr p9), some (.adr pp), some (.adr pc), some (.adr pt), none, some (trD (bldL (fstT (frst T p its) t0) (l.take j))), none] ∧ G' = G0 ++ (R9 ++ partsG e0 pp pc l0 more cuts ++ [(pt, DO.lst (trs.map otD))]))
          ⟨_, ?_, rfl, rfl⟩ ?_ ?_
        · repeat' (first | exact Frg.nil | apply Frg.same | apply Frg.drop)
        · rintro j d ρ' G' hd ⟨rfl, rfl⟩
          obtain ⟨hj, rfl⟩ := upto_get hd
          obtain ⟨y, hy⟩ : ∃ y, l[j]? = some y := ⟨_, List.getElem?_eq_getElem hj⟩
          refine ⟨_, rd_name, ?_⟩
          refine ss_v (i := 14) (d := trD (.i y.1 (bldL (fstT (frst T p its) t0) (l.take j)) y.2)) (ev_tup (ea_cons (ev_ixL (d := sgD (.inf y.1)) (vv 11) (vv 15) (latC B) (atI_nat (cget j y.1 y.2 hy))) (ea_cons (vv 14) (ea_cons (ev_ixL (d := trD y.2) (vv 12) (ev_add (vv 15) ev_int) (latT B) (atI_nat (i := j + 1) (tget (j + 1) hj y.2 (by rw [List.getElem?_cons_succ, List.getElem?_map, hy]; rfl)))) ea_nil))) (by simp)) (ss_done ⟨_, ?_, rfl, rfl⟩) sc_law_tree.nd
          rw [List.take_add_one, hy]
          show Frg [_, _, _, _, _, _, _, _, _, _, _, _, _, _, some (trD (bldL _ (l.take j ++ [(y.1, y.2)]))), _] _
          rw [bldL_snoc]
          repeat' (first | exact Frg.nil | apply Frg.same | apply Frg.drop)
        · rintro ρ' G' ⟨rfl, rfl⟩
          rw [show (upto l.length).length = l.length from by simp [upto], List.take_length]
          exact ret rfl (vv 14) (by rw [hres]; rfl) _
      · -- from the right
        have hw := of_decide_eq_false hx
        have hres : lawT T (n + 1) its = some (fstT (frst T p its) (bldR t0 l)) := by rw [hlaw]; unfold buildT; rw [if_neg hw]
        have hlast : ∀ j, j ≤ l.length → ∃ t, (t0 :: l.map Prod.snd)[j]? = some t := fun j hj => ⟨_, List.getElem?_eq_getElem (by simp; omega)⟩
        obtain ⟨tn, htn⟩ := hlast l.length (Nat.le_refl _)
        refine ss_v (i := 14) (d := trD tn) (ev_ixL (d := trD tn) (vv 12) (ev_neg ev_int) (latT B) (atI_neg (j := 0) (by omega) (by rw [tlen]; exact tget _ (Nat.le_refl _) tn htn))) ?_ sc_law_tree.nd
        refine ss_forF (ds := upto l.length) (Src.as (by rw [List.length_map, ← hll]; simp) (src_range (n := ((cuts.map sgD).length : Nat)) (ev_lenL rfl T0.f_len (vv 11) (latC B)) (by omega) (by rw [List.length_map]; omega) rfl T0.f_range)) (pg_n (i := 15) sc_law_tree.nd)
          (fun j ρ' G' => ∃ t, (t0 :: l.map Prod.snd)[l.length - j]? = some t ∧ ρ' = [some (tbD T), some (.adr pr), some (.adr ps), none, some (.int (p : Nat)), none, some (.str (wdS (tword T p))), some (.str own), some (fD (frst T p its)), some (.adr p9), some (.adr pp), some (.adr pc), some (.adr pt), none, some (trD (bldR t (l.drop (l.length - j)))), none] ∧ G' = G0 ++ (R9 ++ partsG e0 pp pc l0 more cuts ++ [(pt, DO.lst (trs.map otD))]))
          ⟨_, ?_, tn, htn, rfl, rfl⟩ ?_ ?_
        · rw [Nat.sub_zero, List.drop_length]
          repeat' (first | exact Frg.nil | apply Frg.same | apply Frg.drop)
        · rintro j d ρ' G' hd ⟨t, ht, rfl, rfl⟩
          obtain ⟨hj, rfl⟩ := upto_get hd
          obtain ⟨u, hu2⟩ := hlast (l.length - (j + 1)) (by omega)
          obtain ⟨y, hy⟩ : ∃ y, l[l.length - 1 - j]? = some y := ⟨_, List.getElem?_eq_getElem (by omega)⟩
          have hty : t = y.2 := by
            have e : l.length - j = (l.length - 1 - j) + 1 := by omega
            rw [e, List.getElem?_cons_succ, List.getElem?_map, hy] at ht
            cases ht; rfl
          refine ⟨_, rd_name, ?_⟩
          refine ss_v (i := 14) (d := trD (.i y.1 u (bldR t (l.drop (l.length - j))))) (ev_tup (ea_cons (ev_ixL (d := sgD (.inf y.1)) (vv 11) (ev_sub (ev_neg ev_int) (vv 15)) (latC B) (atI_neg (j := j) (by rw [List.length_map]; omega) (by rw [List.length_map, ← hll]; exact cget _ y.1 y.2 hy))) (ea_cons (ev_ixL (d := trD u) (i := -1 - ((j + 1 : Nat) : Int)) (vv 12) (Ev.as ?_ (ev_sub (i := -2) (ev_neg (i := 2) ev_int) (vv 15))) (latT B) (atI_neg (j := j + 1) (by rw [tlen]; omega) (by rw [tlen, show l.length + 1 - 1 - (j + 1) = l.length - (j + 1) by omega]; exact tget _ (by omega) u hu2))) (ea_cons (vv 14) ea_nil))) (by simp)) (ss_done ⟨_, ?_, u, hu2, rfl, rfl⟩) sc_law_tree.nd
          · congr 1; omega
          · have e : l.length - (j + 1) = l.length - 1 - j := by omega
            have e2 : l.length - j = (l.length - 1 - j) + 1 := by omega
            rw [e, bldR_at (k := y.1) (t := y.2) (u := u) hy, ← e2, ← hty]
            repeat' (first | exact Frg.nil | apply Frg.same | apply Frg.drop)
        · rintro ρ' G' ⟨t, ht, rfl, rfl⟩
          rw [show (upto l.length).length = l.length from by simp [upto], Nat.sub_self] at ht ⊢
          have : t = t0 := by cases ht; rfl
          subst this
          refine ret rfl (ev_if (d := trD (fstT (frst T p its) (bldR t l))) (x := (frst T p its).isSome) (Et.as (by rw [fnon, Bool.not_not]) (et_notN (vv 8))) (fun hx => Ev.as ?_ (ev_tup (ea_cons (vv 8) (ea_cons (vv 14) ea_nil)) (by simp))) (fun hx => Ev.as ?_ (vv 14))) (by rw [hres]; rfl) _
          · cases hf : frst T p its with
            | none => rw [hf] at hx; cases hx
            | some k => rfl
          · cases hf : frst T p its with
            | none => rfl
            | some k => rw [hf] at hx; cases hx
end
end Bk
set_option Elab.async false
set_option linter.all false
set_option autoImplicit false
set_option maxRecDepth 100000
set_option maxHeartbeats 2000000
namespace Bk
open PySem L2
section
variable {P : Program} {w : World} {K : PySem.W.Frag} {mg : Str → Option Value} {base : Heap}
def rLawTold (ds : List Dat) (B : Hp) (d : Dat) : Prop := ∃ m T M its p, TbOk m T ∧ MgOk m M ∧ RowV m its ∧ its.length ≤ 40 ∧ ds = [tbD T, mgD M, .adr p] ∧ Lat B [] p (its.map itD) ∧ d = obD (lTold T M its)
theorem k_law_told (T0 : Tx P w K mg) : Kn P w K mg base "_law_told" 43 (preR rLawTold) := by
  refine kn_law_told T0 (fun ds B G post h => by obtain ⟨d, ⟨m, T, M, its, p, _, _, _, _, rfl, _⟩, _⟩ := h; rfl) fun cdv A outer s H E hr ds B G post h => ?_
  obtain ⟨d, ⟨m, T, M, its, p, hT, hM, hR, hl, rfl, hl0, rfl⟩, h⟩ := h
  have hlat : Lat B G p (its.map itD) := hl0.more
  refine ss_r (ev_callR (k_law_worth T0 40) (hr.mono (by decide)) (ea_cons (vv 1) (ea_cons (d := otD (lawT T 40 its)) (ev_callR (k_law_tree T0 40 (Nat.le_refl _)) hr (ea_cons (vv 0) (ea_cons (vv 2) ea_nil)) fun H r => ⟨m, T, its, p, hT, hR, hl, rfl, lat_base r hlat, rfl⟩) ea_nil)) fun H _ => ⟨m, M, hT.okm, hM, lawT T 40 its, fun t e => ?_, rfl, ?_⟩) h
  · obtain ⟨k1, k2⟩ := lawT_ok 40 hl hR e
    have := Tr.ht_sz t
    exact ⟨k1, by omega⟩
  · rw [lawT_told (M := M) 40 hl hR]
end
section
variable {X : Cx} {B : Hp} {ρ : Sls} {G : GL} {D : DE}
/-- a def whose promise gives a new list, or a value, over whatever stands -/
theorem el_callP {x : Str} {p pos : Pos} {e : Expr} {es : List Expr} {k : Nat} {pre : Pre} {ds ys : List Dat} (c : Kn X.prog X.w X.K X.mg X.base x k pre) (hr : Room k X.A) (ha : Ea X B ρ G (e :: es) ds) (hp : ∀ H, pre ds H [] (fun c G' => ∃ q, H q = none ∧ c = .adr q ∧ G' = [(q, .lst ys)])) (hg : Gl X x := by rfl)
    (hdb : (x == ("__debug__" : Str)) = false := by decide) (he : starEach (e :: es) X.env = (false, eval e X.env) :: starEach es X.env := by rfl) (hpl : (backTo pos (starEach es X.env)).any (·.1) = false := by rfl) : El X B ρ G (.Call (.Name x p) (e :: es) [] pos) ys := by
  obtain ⟨f, fd, ps, F, hk, hb, hm⟩ := c
  refine fun σ H r s Q q => WE.of (pe_call F hr hg hm hk hb .nil pass0 pa_w hdb he hpl) (ha σ H r s _ fun us H2 e2 i2 => ?_)
  refine ⟨ds, H2, [], _, by rw [List.append_nil]; exact i2, Rep.all H2, hp H2, fun v H' d G' r' t i ⟨a, h1, h2, h3⟩ => ?_⟩
  subst h2 h3
  simp only [Is] at i
  subst i
  obtain ⟨ws, h4, h5⟩ := (r'.at_ (j := 0) rfl).1
  exact q a ws H' (e2.free h1) (e2.trans r'.base) h4 h5
theorem ev_callP {x : Str} {p pos : Pos} {e : Expr} {es : List Expr} {k : Nat} {pre : Pre} {ds : List Dat} {c0 : Dat} (c : Kn X.prog X.w X.K X.mg X.base x k pre) (hr : Room k X.A) (ha : Ea X B ρ G (e :: es) ds) (hp : ∀ H, pre ds H [] (fun c G' => c = c0 ∧ G' = [])) (hg : Gl X x := by rfl)
    (hdb : (x == ("__debug__" : Str)) = false := by decide) (he : starEach (e :: es) X.env = (false, eval e X.env) :: starEach es X.env := by rfl) (hpl : (backTo pos (starEach es X.env)).any (·.1) = false := by rfl) : Ev X B ρ G (.Call (.Name x p) (e :: es) [] pos) c0 := by
  obtain ⟨f, fd, ps, F, hk, hb, hm⟩ := c
  refine fun σ H r s Q q => WE.of (pe_call F hr hg hm hk hb .nil pass0 pa_w hdb he hpl) (ha σ H r s _ fun us H2 e2 i2 => ?_)
  refine ⟨ds, H2, [], _, by rw [List.append_nil]; exact i2, Rep.all H2, hp H2, fun v H' d G' r' t i ⟨h1, h2⟩ => ?_⟩
  subst h1
  exact q v H' (e2.trans r'.base) i
/-- a new list != a list -/
theorem et_neNL {a b : Expr} {pos : Pos} {p : Addr} {ds es : List Dat} {n : Nat} (hu : X.A.units + 64 < cLine) (ha : El X B ρ G a ds) (hb : Ev X B ρ G b (.adr p)) (hj : Lat B G p es) (h1 : ∀ d ∈ ds, d.clean = true ∧ d.pd.canLay0 = true ∧ d.pd.depth ≤ n) (h2 : ∀ d ∈ es, d.clean = true ∧ d.pd.canLay0 = true ∧ d.pd.depth ≤ n) (hn : n < 64) :
    Et X B ρ G (.Compare a [.NotEq] [b] pos) (!PyData.eqv (.list (Dat.pds ds)) (.list (Dat.pds es))) := fun σ H r s Q k =>
  WT.of (pt_cmpR (op_neD hu) pe_w pe_w (nomark _)) (ha σ H r s _ fun q vs H1 hq e1 hl i1 => hb σ H1 (r.ext e1) (s.ext e1) _ fun y H2 e2 i2 => by
    simp only [Is] at i2
    subst i2
    obtain ⟨ws, h3, h4⟩ := ((r.ext e1).ext e2).lat hj
    exact ⟨.list (Dat.pds ds), .list (Dat.pds es), .lst (SqL.of (e2 _ _ hl)) (dpall (fun d hd => (h1 d hd).1) (IsAll.mono (.of e2) _ _ i1)), .lst (SqL.of h3) (dpall (fun d hd => (h2 d hd).1) h4), lst_shaped h1 hn, lst_shaped h2 hn, _, rfl, k H2 (e1.trans e2)⟩)
theorem ev_isB {a : Expr} {x y : Bool} {j : Nat} {p pos : Pos} (ha : Ev X B ρ G a (.bl x)) : Ev X B ρ G (.Compare a [.Is] [.Constant (.bool y) j p] pos) (.bl (decide (x = y))) :=
  ev_cmp op_isBl ha ev_bl (fun H r u v hu hv Q q => by
    simp only [Is] at hu hv
    exact ⟨x, y, hu, hv, q _ H (Same.refl H) (by simp only [Is])⟩) (by rfl)
/-- a tuple's target, with effects -/
theorem ss_asgW {tg e : Expr} {g : TG} {pos : Pos} {post : Dat → GL → Prop} {rest : List Stmt} (hg : PG X tg g) (he : Ew X B ρ G e post) (hk : ∀ d G', post d G' → ∃ ρ', Rd X g d ρ ρ' ∧ Ss X B ρ' G' rest D)
    (hs : swapsWithSole [tg] e pos.line X.env = pure false := by rfl) (hw : swappedStores [tg] e X.env = pure none := by rfl) (h1 : (assignEach [tg] X.env).map (·.2) = [assign tg X.env] := by rfl) : Ss X B ρ G (.Assign [tg] e pos :: rest) D := ss_cons (s1_asg hg he hk hs hw h1)
end
theorem it_data {m : Mn} (hm : okM m) {it : It} (h : ItOk m it) : (itD it).clean = true ∧ (itD it).pd.canLay0 = true ∧ (itD it).pd.depth ≤ 0 := by
  cases it with
  | v b => exact ⟨rfl, rfl, Nat.le_refl _⟩
  | s g =>
    refine ⟨rfl, ?_, Nat.le_refl _⟩
    rcases allS_cases hm (h g rfl) with ⟨k, _, h2, rfl⟩ | ⟨k, _, h2, rfl⟩
    · have : k = 0 ∨ k = 1 ∨ k = 2 := by omega
      rcases this with rfl | rfl | rfl <;> decide +kernel
    · have : k = 0 ∨ k = 1 := by omega
      rcases this with rfl | rfl <;> decide +kernel
theorem row_data {m : Mn} (hm : okM m) {its : List It} (h : ∀ it ∈ its, ItOk m it) : ∀ d ∈ its.map itD, d.clean = true ∧ d.pd.canLay0 = true ∧ d.pd.depth ≤ 0 := fun d hd => by
  obtain ⟨it, hi, rfl⟩ := List.mem_map.mp hd
  exact it_data hm (h it hi)
theorem row_eqv : ∀ its : List It, PyData.eqv (.list (Dat.pds (its.map itD))) (.list (Dat.pds (its.map itD))) = true
  | [] => rfl
  | it :: r => by
    have ih := row_eqv r
    simp only [PyData.eqv] at ih
    simp only [List.map_cons, Dat.pds, PyData.eqv, PyData.eqvAll, ih, Bool.and_true]
    cases it with
    | v b => cases b <;> rfl
    | s g => simp [itD, sgD, Dat.pd, PyData.eqv]
end Bk
set_option Elab.async false
set_option linter.all false
set_option autoImplicit false
set_option maxRecDepth 100000
set_option maxHeartbeats 2000000
namespace Bk
open PySem L2
section
variable {P : Program} {w : World} {K : PySem.W.Frag} {mg : Str → Option Value} {base : Heap}
/-- what the search of the law leaves: the row, if there is one, as a list -/
def DueAt (o : Option (List It)) (dd : Dat) (R : GL) : Prop := (o = none ∧ dd = .non) ∨ ∃ r p, o = some r ∧ dd = .adr p ∧ (p, DO.lst (r.map itD)) ∈ R
theorem DueAt.non {o : Option (List It)} {dd : Dat} {R : GL} (h : DueAt o dd R) : dd.isNon = o.isNone := by
  rcases h with ⟨rfl, rfl⟩ | ⟨r, p, rfl, rfl, _⟩ <;> rfl
theorem obD_inj2 (a b : Option Bool) : decide ((match a with | none => V.non | some b => V.int (if b = true then 1 else 0)) = (match b with | none => V.non | some b => V.int (if b = true then 1 else 0))) = decide (a = b) := obD_eq a b
def preLaw (K : PySem.W.Frag) : Pre := fun ds B G post => ∃ a, ∃ (ns : List Int), (∀ H, Same B H → SqL K H a (ns.map V.int)) ∧ G = [] ∧ ds = [.adr a] ∧ ∀ G', post (.bl true) G'
theorem law_body (T0 : Tx P w K mg) : BodyOk P w K mg base n_law ["_law_script"] "law" s_law (He.ga K "law") 44 (preLaw K) := by
  intro cdv A outer s H E hr ds B G post h
  obtain ⟨a, ns, hS, rfl, rfl, h⟩ := h
  have hu := hr.units
  refine ss_w (i := 1) (post := fun d G' => ∃ q pd t, ∃ (ns' : List Int), ns' ≠ [] ∧ d = .adr pd ∧ G' = dr q pd t ns' ++ []) (ew_call (k_law_start T0) (hr.mono (by decide)) rfl (ea_cons (vv 0) ea_nil) ⟨a, ns, hS, rfl, rfl, fun q pd t ns' hn => ⟨q, pd, t, ns', hn, rfl, (List.append_nil _).symm⟩⟩) (fun d G' ⟨q, pd, t, ns1, hn1, e1, e2⟩ => ?_) sc_law.nd
  subst e1 e2
  refine ss_w (i := 2) (post := fun d G' => ∃ (m : Mn) (t : Int) (ns' : List Int), okM m ∧ ns' ≠ [] ∧ d = mnD m ∧ G' = dr q pd t ns' ++ []) (ew_call (k_law_many T0) (hr.mono (by decide)) rfl (ea_cons (vv 1) ea_nil) ⟨q, pd, t, ns1, [], rfl, hn1, rfl, fun m t' ns' hm hn => ⟨m, t', ns', hm, hn, rfl, rfl⟩⟩) (fun d G' ⟨m, t2, ns2, hm, hn2, e1, e2⟩ => ?_) sc_law.nd
  subst e1 e2
  have tblCall : ∀ {ρ : Sls} {t : Int} {ns : List Int} {p pos : Pos} {a b : Expr}, True := fun {_ _ _ _ _ _ _} => trivial
  refine ss_asgW (post := fun d G' => ∃ (T U : Tb) (M : Mg) (t : Int) (ns' : List Int), TbOk m T ∧ TbOk m U ∧ MgOk m M ∧ ns' ≠ [] ∧ d = .tup [tbD T, tbD U, mgD M] ∧ G' = dr q pd t ns' ++ []) (pg_t3 (i := 3) (j := 4) (l := 5) sc_law.nd)
    (Ew.imp (ew_tupW (post := fun ds G' => ∃ (T U : Tb) (M : Mg) (t : Int) (ns' : List Int), TbOk m T ∧ TbOk m U ∧ MgOk m M ∧ ns' ≠ [] ∧ ds = [tbD T, tbD U, mgD M] ∧ G' = dr q pd t ns' ++ [])
      (eaw_cons (ew_call (post := fun d G' => ∃ (T : Tb) (t : Int) (ns' : List Int), TbOk m T ∧ ns' ≠ [] ∧ d = tbD T ∧ G' = dr q pd t ns' ++ []) (k_law_table T0) (hr.mono (by decide)) rfl (ea_cons (vv 1) (ea_cons (vv 2) ea_nil)) ⟨q, pd, t2, ns2, m, [], rfl, hn2, hm, rfl, fun T t' ns' hT hn => ⟨T, t', ns', hT, hn, rfl, rfl⟩⟩) fun d1 G1 ⟨T, t3, ns3, hT, hn3, e1, e2⟩ => by
        subst e1 e2
        exact eaw_cons (ew_call (post := fun d G' => ∃ (U : Tb) (t : Int) (ns' : List Int), TbOk m U ∧ ns' ≠ [] ∧ d = tbD U ∧ G' = dr q pd t ns' ++ []) (k_law_table T0) (hr.mono (by decide)) rfl (ea_cons (vv 1) (ea_cons (vv 2) ea_nil)) ⟨q, pd, t3, ns3, m, [], rfl, hn3, hm, rfl, fun T t' ns' hT hn => ⟨T, t', ns', hT, hn, rfl, rfl⟩⟩) fun d2 G2 ⟨U, t4, ns4, hU, hn4, e1, e2⟩ => by
          subst e1 e2
          exact eaw_cons (ew_call (post := fun d G' => ∃ (M : Mg) (t : Int) (ns' : List Int), MgOk m M ∧ ns' ≠ [] ∧ d = mgD M ∧ G' = dr q pd t ns' ++ []) (k_law_meaning T0) (hr.mono (by decide)) rfl (ea_cons (vv 1) (ea_cons ev_int (ea_cons (vv 2) ea_nil))) ⟨q, pd, t4, ns4, m, [], rfl, hn4, hm, rfl, fun M t' ns' hM hn => ⟨M, t', ns', hM, hn, rfl, rfl⟩⟩) fun d3 G3 ⟨M, t5, ns5, hM, hn5, e1, e2⟩ => eaw_nil ⟨T, U, M, t5, ns5, hT, hU, hM, hn5, by rw [e1], e2⟩) (by simp) (fun ds G' ⟨T, U, M, _, _, _, _, _, _, e, _⟩ => by rw [e]; rfl))
      fun d G' ⟨ds, e1, T, U, M, t, ns', h1, h2, h3, h4, e2, e3⟩ => ⟨T, U, M, t, ns', h1, h2, h3, h4, by rw [e1, e2], e3⟩) (fun d G' ⟨T, U, M, t5, ns5, hT, hU, hM, hn5, e1, e2⟩ => ?_)
  subst e1 e2
  refine ⟨_, rd_t3, ?_⟩
  -- the first row of unlike values
  refine ss_w (i := 6) (post := fun d G' => ∃ o R, FirstL m T U M o ∧ DueAt o d R ∧ G' = dr q pd t5 ns5 ++ R) (ew_call (k_law_parting T0) (hr.mono (by decide)) rfl (ea_cons (vv 3) (ea_cons (vv 4) (ea_cons (vv 5) (ea_cons (vv 2) ea_nil)))) ⟨m, T, U, M, hT, hU, hM, rfl, fun o ho => ⟨fun e => ⟨o, [], ho, .inl ⟨e, rfl⟩, rfl⟩, fun r e p _ _ => ⟨o, [(p, .lst (r.map itD))], ho, .inr ⟨r, p, e, rfl, by simp⟩, by rw [List.append_nil]⟩⟩⟩) (fun dd G' ⟨o, R, hL, hdue, e2⟩ => ?_) sc_law.nd
  subst e2
  have hP : FirstP m T U M o := (firstPL hT hU).mpr hL
  have hP2 : FirstP m U T M o := firstP_swap hP
  have hPs : FirstP m T T M none := firstP_same
  have hnon := hdue.non
  -- the program's row is the due one
  have hcall : ∀ {B2 : Hp} {ρ : Sls} {G : GL} {V W : Tb} {p pos : Pos} {ea eb ec er : Expr} {pos2 : Pos}, FirstP m V W M o → TbOk m V → TbOk m W → DueAt o dd G →
      Ea (cxOf CX0 P w K mg base n_law "law" (defScope s_law) (He.ga K "law") cdv A outer s H E).nox B2 ρ G [ea, eb, ec] [tbD V, tbD W, mgD M] →
      (∀ r, o = some r → ∀ p, dd = .adr p → Ev (cxOf CX0 P w K mg base n_law "law" (defScope s_law) (He.ga K "law") cdv A outer s H E).nox B2 ρ G er (.adr p)) → (o = none → Ev (cxOf CX0 P w K mg base n_law "law" (defScope s_law) (He.ga K "law") cdv A outer s H E).nox B2 ρ G er (.str "none")) →
      starEach [ea, eb, ec] (cxOf CX0 P w K mg base n_law "law" (defScope s_law) (He.ga K "law") cdv A outer s H E).nox.env = (false, eval ea (cxOf CX0 P w K mg base n_law "law" (defScope s_law) (He.ga K "law") cdv A outer s H E).nox.env) :: starEach [eb, ec] (cxOf CX0 P w K mg base n_law "law" (defScope s_law) (He.ga K "law") cdv A outer s H E).nox.env →
      (backTo pos (starEach [eb, ec] (cxOf CX0 P w K mg base n_law "law" (defScope s_law) (He.ga K "law") cdv A outer s H E).nox.env)).any (·.1) = false →
      Et (cxOf CX0 P w K mg base n_law "law" (defScope s_law) (He.ga K "law") cdv A outer s H E).nox B2 ρ G (.Compare (.Call (.Name "_law_call" p) [ea, eb, ec] [] pos) [.NotEq] [er] pos2) false := fun {B2 ρ G V W p pos ea eb ec er pos2} hF hV hW hd ha hr1 hr2 hst hpl => by
    rcases hd with ⟨ho, hdd⟩ | ⟨r, p, ho, hdd, hmem⟩
    · refine Et.as (by rfl) (et_neS (s := "none") (t := "none") (ev_callP (k_law_call T0) (hr.mono (by decide)) ha (fun H2 => ⟨m, V, W, M, o, hV, hW, hM, rfl, hF, fun _ => ⟨rfl, rfl⟩, fun r e => by rw [ho] at e; cases e⟩) (he := hst) (hpl := hpl)) (hr2 ho))
    · have hv := firstL_some (by rw [ho] at hL; exact hL)
      refine Et.as ?_ (et_neNL (ds := r.map itD) (es := r.map itD) (n := 0) hu (el_callP (k_law_call T0) (hr.mono (by decide)) ha (fun H2 => ⟨m, V, W, M, o, hV, hW, hM, rfl, hF, (fun e => by rw [ho] at e; cases e), fun r2 e p hp _ => ⟨p, hp, rfl, by rw [ho] at e; cases e; rfl⟩⟩) (he := hst) (hpl := hpl)) (hr1 r ho p hdd) (lat_mem hmem) (row_data hm hv.1.mem) (row_data hm hv.1.mem) (by decide))
      rw [row_eqv]; rfl
  have dueR : ∀ {t : Int} {ns : List Int} {R2 : GL}, DueAt o dd (dr q pd t ns ++ (R ++ R2)) := fun {t ns R2} => by
    rcases hdue with z | ⟨r, p, e1, e2, e3⟩
    · exact .inl z
    · exact .inr ⟨r, p, e1, e2, by simp [e3]⟩
  have dueR0 : ∀ {t : Int} {ns : List Int}, DueAt o dd (dr q pd t ns ++ R) := fun {t ns} => by have := dueR (t := t) (ns := ns) (R2 := []); rwa [List.append_nil] at this
  refine ss_guard (x := false) (hcall hP hT hU dueR0 (ea_cons (vv 3) (ea_cons (vv 4) (ea_cons (vv 5) ea_nil))) (fun r e p e2 => ev_if (x := true) (Et.as (by rw [hnon, e]; rfl) (et_notN (d := dd) (vv 6))) (fun _ => Ev.as e2 (vv 6)) (fun h => nomatch h)) (fun e => ev_if (x := false) (Et.as (by rw [hnon, e]; rfl) (et_notN (d := dd) (vv 6))) (fun h => nomatch h) (fun _ => ev_str)) rfl rfl) (fun h => nomatch h) fun _ => ?_
  refine ss_guard (x := false) (Et.as ?_ (et_or2 (x := false) (y := false) (Et.as ?_ (et_not (x := true) (et_val (Ev.as (by simp [hnon]) (ev_callR (d := .bl (decide (o.isNone = dd.isNon))) (k_law_true T0) (hr.mono (by decide)) (ea_cons (ev_callR (d := .bl o.isNone) (k_same_values T0) (hr.mono (by decide)) (ea_cons (vv 3) (ea_cons (vv 4) (ea_cons (vv 5) ea_nil))) fun H _ => ⟨m, T, U, M, o, hT, hU, hM, rfl, hP, rfl⟩) (ea_cons (ev_isN (d := dd) (vv 6)) ea_nil)) fun H _ => ⟨o.isNone, dd.isNon, rfl, rfl⟩))))) (fun _ => Et.as ?_ (et_neB (ev_callR (d := .bl o.isNone) (k_same_values T0) (hr.mono (by decide)) (ea_cons (vv 4) (ea_cons (vv 3) (ea_cons (vv 5) ea_nil))) fun H _ => ⟨m, U, T, M, o, hU, hT, hM, rfl, hP2, rfl⟩) (ev_isN (d := dd) (vv 6)))))) (fun h => nomatch h) fun _ => ?_
  · rfl
  · rfl
  · simp [hnon]
  -- where there is a row, it parts the two
  have okT : RowV m = RowV m := rfl
  refine ss_ifJ (fun ρ' G' => ρ' = [some (.adr a), some (.adr pd), some (mnD m), some (tbD T), some (tbD U), some (mgD M), some dd, none, none, none, none] ∧ G' = dr q pd t5 ns5 ++ R) (x := !dd.isNon) (et_notN (d := dd) (vv 6)) (fun hx => ?_) (fun hx => ss_done ⟨_, ?_, rfl, rfl⟩) (fun ρ' G' ⟨e1, e2⟩ => ?_)
  · rcases hdue with ⟨_, rfl⟩ | ⟨r, p, rfl, rfl, hmem⟩
    · cases hx
    obtain ⟨hv, hne, hlt⟩ := firstL_some hL
    have hrow : RowOk m r := ⟨hm, hv.mem, hv.run, first_short hT hU hL⟩
    have memR : ∀ (R2 : GL), (p, DO.lst (r.map itD)) ∈ dr q pd t5 ns5 ++ R ++ R2 := fun R2 => by simp [hmem]
    refine ss_lc1 (i := 8) (j := 7) sc_law.nd (bk n_law s_law) (lc_no [T, U] tbD (fun V => obD (lTold V M r)) (srcS_tup (ds := [tbD T, tbD U]) (ev_tup (ea_cons (vv 3) (ea_cons (vv 4) ea_nil)) (by simp))) (show 2 ≤ sizeLine by decide) fun V hV => ⟨_, rdw_name (by simp), fun s H0 C cl fp => ev_callR (k_read_value T0) hr (ea_cons (vv 8) (ea_cons (vv 5) (ea_cons (vv 6) ea_nil))) fun H r2 => ⟨m, V, M, r, p, hrow, ?_, hM, rfl, lat_base r2 (lat_mem (by have := memR []; rwa [List.append_nil] at this)), by rw [treeOf_told hv]⟩⟩) fun pt _ _ => ?_
    · simp only [List.mem_cons, List.mem_nil_iff, or_false] at hV
      rcases hV with rfl | rfl
      · exact hT
      · exact hU
    have lt7 : ∀ B : Hp, Lat B (dr q pd t5 ns5 ++ R ++ [(pt, DO.lst ([T, U].map fun V => obD (lTold V M r)))]) pt [obD (lTold T M r), obD (lTold U M r)] := fun B => lat_mem (by simp)
    refine ss_guard (x := false) (Et.as ?_ (et_or2 (x := false) (y := false) (Et.as ?_ (et_eqF (d := obD (lTold T M r)) (e := obD (lTold U M r)) (ev_ixL (vv 7) (ev_int (i := 0)) (lt7 B) (atI_nat (i := 0) rfl)) (ev_ixL (vv 7) (ev_int (i := 1)) (lt7 B) (atI_nat (i := 1) rfl)) (obD_flat _) (obD_flat _) (obD_scal _ _))) (fun _ => hcall hP2 hU hT (.inr ⟨r, p, rfl, rfl, memR _⟩) (ea_cons (vv 4) (ea_cons (vv 3) (ea_cons (vv 5) ea_nil))) (fun r e p e2 => Ev.as e2 (vv 6)) (fun e => nomatch e) rfl rfl))) (fun h => nomatch h) fun _ => Ss.drop (G0 := dr q pd t5 ns5 ++ R) (ss_done ⟨_, ?_, rfl, rfl⟩) (List.sublist_append_left _ _)
    · rfl
    · rw [obD_eq]; exact decide_eq_false hne
    · repeat' (first | exact Frg.nil | apply Frg.same | apply Frg.drop)
  · repeat' (first | exact Frg.nil | apply Frg.same | apply Frg.drop)
  subst e1 e2
  -- drawn rows
  refine ss_forF (ds := upto 5) (src_range (n := 5) ev_int (by decide) (by decide) rfl T0.f_range) (pg_n (i := 9) sc_law.nd)
    (fun j ρ' G' => ∃ (t : Int) (ns' : List Int), ns' ≠ [] ∧ ρ' = [some (.adr a), some (.adr pd), some (mnD m), some (tbD T), some (tbD U), some (mgD M), some dd, none, none, none, none] ∧ G' = dr q pd t ns' ++ R)
    ⟨_, Frg.refl _, t5, ns5, hn5, rfl, rfl⟩ ?_ ?_
  · rintro j d ρ' G' hd ⟨t6, ns6, hn6, rfl, rfl⟩
    obtain ⟨hj, rfl⟩ := upto_get hd
    refine ⟨_, rd_name, ?_⟩
    refine ss_w (i := 10) (post := fun d G' => ∃ (its : List It) (t : Int) (ns' : List Int) (p : Addr), RowV m its ∧ its.length ≤ 20 ∧ ns' ≠ [] ∧ d = .adr p ∧ G' = dr q pd t ns' ++ (R ++ [(p, .lst (its.map itD))])) (ew_call (k_law_row T0) (hr.mono (by decide)) rfl (ea_cons (vv 1) (ea_cons (vv 2) (ea_cons ev_int (ea_cons ev_int ea_nil)))) ⟨q, pd, t6, ns6, m, R, rfl, hn6, hm, rfl, fun its t' ns' p h1 h2 h3 => ⟨its, t', ns', p, h1, h2, h3, rfl, rfl⟩⟩) (fun d G' ⟨its, t7, ns7, pw, hv, hl20, hn7, e1, e2⟩ => ?_) sc_law.nd
    subst e1 e2
    refine ss_lc1 (i := 8) (j := 7) sc_law.nd (bk n_law s_law) (lc_no [T, U] tbD (fun V => obD (lTold V M its)) (srcS_tup (ds := [tbD T, tbD U]) (ev_tup (ea_cons (vv 3) (ea_cons (vv 4) ea_nil)) (by simp))) (show 2 ≤ sizeLine by decide) fun V hV => ⟨_, rdw_name (by simp), fun s H0 C cl fp => ev_callR (k_law_told T0) (hr.mono (by decide)) (ea_cons (vv 8) (ea_cons (vv 5) (ea_cons (vv 10) ea_nil))) fun H r2 => ⟨m, V, M, its, pw, ?_, hM, hv, by omega, rfl, lat_base r2 (lat_mem (by simp)), rfl⟩⟩) fun pt _ _ => ?_
    · simp only [List.mem_cons, List.mem_nil_iff, or_false] at hV
      rcases hV with rfl | rfl
      · exact hT
      · exact hU
    have lt7 : ∀ B : Hp, Lat B (dr q pd t7 ns7 ++ (R ++ [(pw, DO.lst (its.map itD))]) ++ [(pt, DO.lst ([T, U].map fun V => obD (lTold V M its)))]) pt [obD (lTold T M its), obD (lTold U M its)] := fun B => lat_mem (by simp)
    have told : ∀ {x : Bool}, x = !decide (lTold T M its = lTold U M its) → Et (cxOf CX0 P w K mg base n_law "law" (defScope s_law) (He.ga K "law") cdv A outer s H E).nox B [some (.adr a), some (.adr pd), some (mnD m), some (tbD T), some (tbD U), some (mgD M), some dd, some (.adr pt), none, some (.int (j : Int)), some (.adr pw)] (dr q pd t7 ns7 ++ (R ++ [(pw, DO.lst (its.map itD))]) ++ [(pt, DO.lst ([T, U].map fun V => obD (lTold V M its)))]) (match defBody s_law with | _ :: _ :: _ :: _ :: _ :: _ :: _ :: .For _ _ (_ :: _ :: .If (.BoolOp _ (_ :: c :: _) _) _ _ _ :: _) _ _ :: _ => c | _ => .Constant .none 0 default) x := fun {x} hx => Et.as (by rw [hx, obD_eq]) (et_neF (d := obD (lTold T M its)) (e := obD (lTold U M its)) (ev_ixL (vv 7) (ev_int (i := 0)) (lt7 B) (atI_nat (i := 0) rfl)) (ev_ixL (vv 7) (ev_int (i := 1)) (lt7 B) (atI_nat (i := 1) rfl)) (obD_flat _) (obD_flat _) (obD_scal _ _))
    refine ss_guard (x := false) ?_ (fun h => nomatch h) fun _ => Ss.drop (G0 := dr q pd t7 ns7 ++ R) (ss_done ⟨_, ?_, t7, ns7, hn7, rfl, rfl⟩) ?_
    · rcases hdue with ⟨rfl, rfl⟩ | ⟨r, p, rfl, rfl, hmem⟩
      · exact Et.as (by rfl) (et_and2 (x := true) (y := false) (Et.as (by rfl) (et_or2 (x := true) (y := false) (Et.as (by rfl) (et_isN (d := .non) (vv 6))) (fun h => nomatch h))) (fun _ => told (by rw [decide_eq_true (firstL_none hL hv)]; rfl)))
      · obtain ⟨_, hne, hlt⟩ := firstL_some hL
        refine Et.as ?_ (et_and2 (x := decide (((its.map itD).length : Int) < ((r.map itD).length : Int))) (y := !decide (lTold T M its = lTold U M its)) (Et.as (by rw [Bool.false_or]) (et_or2 (x := false) (Et.as (by rfl) (et_isN (d := .adr p) (vv 6))) (fun _ => et_lt (ev_lenL rfl T0.f_len (vv 10) (lat_mem (by simp))) (ev_lenL rfl T0.f_len (vv 6) (lat_mem (by simp [hmem])))))) (fun _ => told rfl))
        by_cases hlen : its.length < r.length
        · rw [decide_eq_true (hlt its hv hlen)]; simp
        · have : ¬ (((its.map itD).length : Int) < ((r.map itD).length : Int)) := by rw [List.length_map, List.length_map]; omega
          rw [decide_eq_false this]; rfl
    · repeat' (first | exact Frg.nil | apply Frg.same | apply Frg.drop)
    · rw [List.append_assoc]
      exact List.Sublist.append (List.Sublist.refl _) (by rw [List.append_assoc]; exact List.sublist_append_left _ _)
  · rintro ρ' G' ⟨t6, ns6, hn6, rfl, rfl⟩
    exact ss_r (ev_and2 (x := true) (y := true) (Ev.as (by rfl) (ev_eqS (s := "none") (t := "none") (ev_callP (k_law_call T0) (hr.mono (by decide)) (ea_cons (vv 3) (ea_cons (vv 3) (ea_cons (vv 5) ea_nil))) fun H2 => ⟨m, T, T, M, none, hT, hT, hM, rfl, hPs, fun _ => ⟨rfl, rfl⟩, fun r e => nomatch e⟩) ev_str)) (fun _ => Ev.as (by rfl) (ev_isB (x := true) (y := true) (ev_callR (d := .bl true) (k_same_values T0) (hr.mono (by decide)) (ea_cons (vv 3) (ea_cons (vv 3) (ea_cons (vv 5) ea_nil))) fun H _ => ⟨m, T, T, M, none, hT, hT, hM, rfl, hPs, rfl⟩)))) (h _)
end
end Bk
set_option Elab.async false
set_option linter.all false
set_option autoImplicit false
set_option maxRecDepth 100000
set_option maxHeartbeats 2000000
namespace Bk
open PySem L2
theorem sql_same {K : PySem.W.Frag} {H H' : Hp} {a : Addr} {xs : List V} (e : Same H H') (h : SqL K H a xs) : SqL K H' a xs := by
  rcases h with (h | ⟨o, h⟩) | h
  · exact .inl (.inl (e _ _ h))
  · exact .inl (.inr ⟨o, e _ _ h⟩)
  · exact .inr h
theorem law_ok {P : Program} {w : World} {K : PySem.W.Frag} {mg : Str → Option Value} (T0 : Tx P w K mg) : ∃ fd : FuncData, (∀ (s : Shared) (v : Value), BindsTo s fd ⟨[v], []⟩ [("_law_script", v)]) ∧ ∀ base : Heap, FnOk P w K mg base CX0 45 (He.ga K "law") fd ["_law_script"] (spD P w (preLaw K)) := by
  obtain ⟨fd, F⟩ : ∃ fd, FunD K "law" "law" (defArgs s_law) (defBody s_law) (defScope s_law) [] [] (He.ga K "law") fd := T0.def_ 48 (d := d_law) rfl
  have b := FunD.bindsA (ps := ["_law_script"]) F fun _ _ _ _ _ _ us hl => by match us, hl with | [_], _ => kernel_rfl
  refine ⟨fd, fun s v => b s [v] rfl, fun base => ?_⟩
  exact fun_okD (N := n_law) (ps := ["_law_script"]) (pre := preLaw K) (k := 44) (n := 1) (He5.fun_of F) sc_law rfl (fun ds B G post h => by obtain ⟨a, ns, _, _, rfl, _⟩ := h; rfl) (@law_body P w K mg base T0)
end Bk
open PySem PySem.W PySem.Calls PyProof.Rows
theorem PySem.Challenge.cw_bindreads_k02_whole_values_holds : PySem.Challenge.rw_bindreads_k02_whole_values.Holds := by
  w_on; o_law
  refine HandSHeadRun.head_any (r := Bk.R) (q := view Bk.R.prog [68]) (H := Bk.hk) (ob := Bk.ob) (M := 4000) (loose := Bk.names) (d := HandSHeadRun.topDef Bk.R.prog 68) (kwd := []) Bk.ob_eq
    (by kernel_rfl) (fun s => by kernel_rfl) Bk.run (by kernel_rfl) (by kernel_rfl) (by kernel_rfl) (by rfl) (by first | assumption | decide +kernel) (by decide +kernel) ⟨rfl, rfl, rfl, rfl, rfl, by decide +kernel⟩ ?hw ?hc
  case hw => w_witness2
  case hc =>
    refine L2.walk_ofE (l := PySem.Challenge.rw_bindreads_k02_whole_values) (n := 63) (k := 45) (x := "_law_script") (CX := L2.CX0) rfl (by decide) (by kernel_rfl) ⟨rfl, by decide, by decide⟩ ?F (fun _ _ _ _ z => z)
    intro w mg fa h Y G hn
    obtain ⟨K, KX, c⟩ := Y
    have hl : mg ("law" : PySem.Str) = some (.ref fa) := by
      rw [← show (HandSHeadRun.topDef Bk.R.prog 68).name = ("law" : PySem.Str) from by kernel_rfl]
      exact hn
    have T0 : Bk.Tx (PySem.Challenge.rw_bindreads_k02_whole_values).prog w K mg := ⟨⟨h, KX, G, c⟩⟩
    have e : fa = He.ga K "law" := by
      have q := hl.symm.trans (T0.glo 48)
      cases q
      rfl
    subst e
    obtain ⟨fd, hb, hF⟩ := Bk.law_ok T0
    refine ⟨K, fd, _, KX, hb, fun H a ns hle _ hS => ?_, fun base _ _ => hF base⟩
    refine ⟨[.adr a], H, [], fun d _ => d = .bl true, ?_, Bk.Rep.all H, ⟨a, ns, fun H' e => Bk.sql_same e hS, rfl, rfl, fun _ => rfl⟩, fun v H' d G' _ _ i z => ?_⟩
    · exact Bk.IsAll.cons (by simp only [Bk.Is]) Bk.IsAll.nil
    · subst z
      simpa only [Bk.Is] using i
