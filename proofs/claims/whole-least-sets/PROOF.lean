import PyProof.Rows.All
import HandS.ForMost
import HandS.Conv
import HandS.Deep
import HandS.DictComp
import HandS.IsInst
import HandS.NoneIn
import HandS.More
import HandS.Wide
import HandS.SortOrd
import HandS.SortRule
import HandS.SortInts
import KE.KeyNested
import KE.KDictWalk
import KE.KDictList
import KE.KDictCopyH
import HandS.TupAny
import HandS.Zip
import HandS.Defaults
import KE.GoesEnum
import KE.GoesMore
import KE.SortData
import HandS.Style
import HandS.Ends
import HandS.Head0
import HandS.Head1
import HandS.Head2
import HandS.HeadEnd
import HandS.HeadHook1
import HandS.HeadHook2
import PySem.Challenge.RW_farfolder_k09_whole_least_sets
set_option Elab.async false
set_option linter.all false
set_option pp.maxSteps 300
set_option maxRecDepth 100000
set_option maxHeartbeats 0
namespace Far
open PySem PySem.Spec PyProof.Rows L2
/-! ### the text -/
def topS (i : Nat) : Stmt := PySem.Challenge.pw_farfolder_k09_whole_least_sets.main.body.getD i (.Pass ⟨0, 0, 0, 0⟩)
abbrev s_is_list : Stmt := topS 4
abbrev s_is_integer : Stmt := topS 5
abbrev s_is_number : Stmt := topS 6
abbrev s_is_name : Stmt := topS 7
abbrev s_is_word : Stmt := topS 8
abbrev s_as_word : Stmt := topS 9
abbrev s_are_names : Stmt := topS 10
abbrev s_each_once : Stmt := topS 11
abbrev s_is_stand : Stmt := topS 19
abbrev s_kept_step : Stmt := topS 20
abbrev s_checked_steps : Stmt := topS 21
abbrev s_checked_stands : Stmt := topS 22
abbrev s_Play_init : Stmt := inClass (topS 23) 0
abbrev s_Play_steps : Stmt := inClass (topS 23) 1
abbrev s_Play_rules : Stmt := inClass (topS 23) 3
abbrev s_Play_len : Stmt := inClass (topS 23) 5
abbrev s_checked_rules : Stmt := topS 25
abbrev s_can_be_done : Stmt := topS 26
abbrev s_steps_under : Stmt := topS 27
abbrev s_shortest_runs : Stmt := topS 28
abbrev s_break_run : Stmt := topS 30
abbrev s_keeps : Stmt := topS 31
abbrev s_is_part : Stmt := topS 33
abbrev s_in_order : Stmt := topS 34
abbrev s_least_of : Stmt := topS 35
abbrev s_least_hitting : Stmt := topS 36
abbrev s_joined : Stmt := topS 37
abbrev s_least_barrings : Stmt := topS 38
abbrev s_threats : Stmt := topS 39
abbrev s_least_sets : Stmt := topS 40
abbrev s_greatest_breaking : Stmt := topS 41
abbrev s__law_x_play : Stmt := topS 43
abbrev s__law_x_led : Stmt := topS 44
abbrev s__law_x_some : Stmt := topS 45
abbrev s__law_x_made : Stmt := topS 46
abbrev s__law_x_names : Stmt := topS 47
abbrev s__law_x_all : Stmt := topS 48
abbrev s__law_x_in : Stmt := topS 49
abbrev s__law_x_least : Stmt := topS 50
abbrev s__law_x_keeps : Stmt := topS 51
abbrev s__law_x_keeping : Stmt := topS 52
abbrev s__law_start : Stmt := topS 53
abbrev s__law_draw : Stmt := topS 54
abbrev s__law_pick : Stmt := topS 55
abbrev s__law_mixed : Stmt := topS 56
abbrev s__law_same : Stmt := topS 57
abbrev s__law_table : Stmt := topS 58
abbrev s__law_next : Stmt := topS 59
abbrev s__law_levels : Stmt := topS 60
abbrev s__law_loose : Stmt := topS 61
abbrev s__law_hit : Stmt := topS 62
abbrev s__law_facts_right : Stmt := topS 63
abbrev s__law_many_right : Stmt := topS 64
abbrev s_law : Stmt := topS 65
/-! ### the head: facts by names, the run -/
def d_0 : He.DefD := ⟨("is_list", none), "is_list", "is_list", defArgs s_is_list, defBody s_is_list, defScope s_is_list, [], []⟩
def d_1 : He.DefD := ⟨("is_integer", none), "is_integer", "is_integer", defArgs s_is_integer, defBody s_is_integer, defScope s_is_integer, [], []⟩
def d_2 : He.DefD := ⟨("is_number", none), "is_number", "is_number", defArgs s_is_number, defBody s_is_number, defScope s_is_number, [], []⟩
def d_3 : He.DefD := ⟨("is_name", none), "is_name", "is_name", defArgs s_is_name, defBody s_is_name, defScope s_is_name, [], []⟩
def d_4 : He.DefD := ⟨("is_word", none), "is_word", "is_word", defArgs s_is_word, defBody s_is_word, defScope s_is_word, [], []⟩
def d_5 : He.DefD := ⟨("as_word", none), "as_word", "as_word", defArgs s_as_word, defBody s_as_word, defScope s_as_word, [], []⟩
def d_6 : He.DefD := ⟨("are_names", none), "are_names", "are_names", defArgs s_are_names, defBody s_are_names, defScope s_are_names, [], []⟩
def d_7 : He.DefD := ⟨("each_once", none), "each_once", "each_once", defArgs s_each_once, defBody s_each_once, defScope s_each_once, [], []⟩
def d_8 : He.DefD := ⟨("is_stand", none), "is_stand", "is_stand", defArgs s_is_stand, defBody s_is_stand, defScope s_is_stand, [], []⟩
def d_9 : He.DefD := ⟨("kept_step", none), "kept_step", "kept_step", defArgs s_kept_step, defBody s_kept_step, defScope s_kept_step, [], []⟩
def d_10 : He.DefD := ⟨("checked_steps", none), "checked_steps", "checked_steps", defArgs s_checked_steps, defBody s_checked_steps, defScope s_checked_steps, [], []⟩
def d_11 : He.DefD := ⟨("checked_stands", none), "checked_stands", "checked_stands", defArgs s_checked_stands, defBody s_checked_stands, defScope s_checked_stands, [], []⟩
def d_12 : He.DefD := ⟨("Play", some "__init__"), "__init__", "Play.__init__", defArgs s_Play_init, defBody s_Play_init, defScope s_Play_init, [], []⟩
def d_13 : He.DefD := ⟨("Play", some "steps"), "steps", "Play.steps", defArgs s_Play_steps, defBody s_Play_steps, defScope s_Play_steps, [], []⟩
def d_14 : He.DefD := ⟨("Play", some "rules"), "rules", "Play.rules", defArgs s_Play_rules, defBody s_Play_rules, defScope s_Play_rules, [], []⟩
def d_15 : He.DefD := ⟨("Play", some "__len__"), "__len__", "Play.__len__", defArgs s_Play_len, defBody s_Play_len, defScope s_Play_len, [], []⟩
def d_16 : He.DefD := ⟨("checked_rules", none), "checked_rules", "checked_rules", defArgs s_checked_rules, defBody s_checked_rules, defScope s_checked_rules, [], []⟩
def d_17 : He.DefD := ⟨("can_be_done", none), "can_be_done", "can_be_done", defArgs s_can_be_done, defBody s_can_be_done, defScope s_can_be_done, [], []⟩
def d_18 : He.DefD := ⟨("steps_under", none), "steps_under", "steps_under", defArgs s_steps_under, defBody s_steps_under, defScope s_steps_under, [], []⟩
def d_19 : He.DefD := ⟨("shortest_runs", none), "shortest_runs", "shortest_runs", defArgs s_shortest_runs, defBody s_shortest_runs, defScope s_shortest_runs, [], []⟩
def d_20 : He.DefD := ⟨("break_run", none), "break_run", "break_run", defArgs s_break_run, defBody s_break_run, defScope s_break_run, [], []⟩
def d_21 : He.DefD := ⟨("keeps", none), "keeps", "keeps", defArgs s_keeps, defBody s_keeps, defScope s_keeps, [], []⟩
def d_22 : He.DefD := ⟨("is_part", none), "is_part", "is_part", defArgs s_is_part, defBody s_is_part, defScope s_is_part, [], []⟩
def d_23 : He.DefD := ⟨("in_order", none), "in_order", "in_order", defArgs s_in_order, defBody s_in_order, defScope s_in_order, [], []⟩
def d_24 : He.DefD := ⟨("least_of", none), "least_of", "least_of", defArgs s_least_of, defBody s_least_of, defScope s_least_of, [], []⟩
def d_25 : He.DefD := ⟨("least_hitting", none), "least_hitting", "least_hitting", defArgs s_least_hitting, defBody s_least_hitting, defScope s_least_hitting, [], []⟩
def d_26 : He.DefD := ⟨("joined", none), "joined", "joined", defArgs s_joined, defBody s_joined, defScope s_joined, [], []⟩
def d_27 : He.DefD := ⟨("least_barrings", none), "least_barrings", "least_barrings", defArgs s_least_barrings, defBody s_least_barrings, defScope s_least_barrings, [], []⟩
def d_28 : He.DefD := ⟨("threats", none), "threats", "threats", defArgs s_threats, defBody s_threats, defScope s_threats, [], []⟩
def d_29 : He.DefD := ⟨("least_sets", none), "least_sets", "least_sets", defArgs s_least_sets, defBody s_least_sets, defScope s_least_sets, [], []⟩
def d_30 : He.DefD := ⟨("greatest_breaking", none), "greatest_breaking", "greatest_breaking", defArgs s_greatest_breaking, defBody s_greatest_breaking, defScope s_greatest_breaking, [], []⟩
def d_31 : He.DefD := ⟨("_law_x_play", none), "_law_x_play", "_law_x_play", defArgs s__law_x_play, defBody s__law_x_play, defScope s__law_x_play, [], []⟩
def d_32 : He.DefD := ⟨("_law_x_led", none), "_law_x_led", "_law_x_led", defArgs s__law_x_led, defBody s__law_x_led, defScope s__law_x_led, [], []⟩
def d_33 : He.DefD := ⟨("_law_x_some", none), "_law_x_some", "_law_x_some", defArgs s__law_x_some, defBody s__law_x_some, defScope s__law_x_some, [], []⟩
def d_34 : He.DefD := ⟨("_law_x_made", none), "_law_x_made", "_law_x_made", defArgs s__law_x_made, defBody s__law_x_made, defScope s__law_x_made, [], []⟩
def d_35 : He.DefD := ⟨("_law_x_names", none), "_law_x_names", "_law_x_names", defArgs s__law_x_names, defBody s__law_x_names, defScope s__law_x_names, [], []⟩
def d_36 : He.DefD := ⟨("_law_x_all", none), "_law_x_all", "_law_x_all", defArgs s__law_x_all, defBody s__law_x_all, defScope s__law_x_all, [], []⟩
def d_37 : He.DefD := ⟨("_law_x_in", none), "_law_x_in", "_law_x_in", defArgs s__law_x_in, defBody s__law_x_in, defScope s__law_x_in, [], []⟩
def d_38 : He.DefD := ⟨("_law_x_least", none), "_law_x_least", "_law_x_least", defArgs s__law_x_least, defBody s__law_x_least, defScope s__law_x_least, [], []⟩
def d_39 : He.DefD := ⟨("_law_x_keeps", none), "_law_x_keeps", "_law_x_keeps", defArgs s__law_x_keeps, defBody s__law_x_keeps, defScope s__law_x_keeps, [], []⟩
def d_40 : He.DefD := ⟨("_law_x_keeping", none), "_law_x_keeping", "_law_x_keeping", defArgs s__law_x_keeping, defBody s__law_x_keeping, defScope s__law_x_keeping, [], []⟩
def d_41 : He.DefD := ⟨("_law_start", none), "_law_start", "_law_start", defArgs s__law_start, defBody s__law_start, defScope s__law_start, [], []⟩
def d_42 : He.DefD := ⟨("_law_draw", none), "_law_draw", "_law_draw", defArgs s__law_draw, defBody s__law_draw, defScope s__law_draw, [], []⟩
def d_43 : He.DefD := ⟨("_law_pick", none), "_law_pick", "_law_pick", defArgs s__law_pick, defBody s__law_pick, defScope s__law_pick, [], []⟩
def d_44 : He.DefD := ⟨("_law_mixed", none), "_law_mixed", "_law_mixed", defArgs s__law_mixed, defBody s__law_mixed, defScope s__law_mixed, [], []⟩
def d_45 : He.DefD := ⟨("_law_same", none), "_law_same", "_law_same", defArgs s__law_same, defBody s__law_same, defScope s__law_same, [], []⟩
def d_46 : He.DefD := ⟨("_law_table", none), "_law_table", "_law_table", defArgs s__law_table, defBody s__law_table, defScope s__law_table, [], []⟩
def d_47 : He.DefD := ⟨("_law_next", none), "_law_next", "_law_next", defArgs s__law_next, defBody s__law_next, defScope s__law_next, [], []⟩
def d_48 : He.DefD := ⟨("_law_levels", none), "_law_levels", "_law_levels", defArgs s__law_levels, defBody s__law_levels, defScope s__law_levels, [], []⟩
def d_49 : He.DefD := ⟨("_law_loose", none), "_law_loose", "_law_loose", defArgs s__law_loose, defBody s__law_loose, defScope s__law_loose, [], []⟩
def d_50 : He.DefD := ⟨("_law_hit", none), "_law_hit", "_law_hit", defArgs s__law_hit, defBody s__law_hit, defScope s__law_hit, [], []⟩
def d_51 : He.DefD := ⟨("_law_facts_right", none), "_law_facts_right", "_law_facts_right", defArgs s__law_facts_right, defBody s__law_facts_right, defScope s__law_facts_right, [], []⟩
def d_52 : He.DefD := ⟨("_law_many_right", none), "_law_many_right", "_law_many_right", defArgs s__law_many_right, defBody s__law_many_right, defScope s__law_many_right, [], []⟩
def d_53 : He.DefD := ⟨("law", none), "law", "law", defArgs s_law, defBody s_law, defScope s_law, [], []⟩
def fn0 : List He.DefD := [d_0, d_1, d_2, d_3, d_4, d_5, d_6, d_7, d_8, d_9, d_10, d_11, d_12, d_13, d_14, d_15, d_16, d_17, d_18, d_19]
def fn1 : List He.DefD := [d_20, d_21, d_22, d_23, d_24, d_25, d_26, d_27, d_28, d_29, d_30, d_31, d_32, d_33, d_34, d_35, d_36, d_37, d_38, d_39]
def fn2 : List He.DefD := [d_40, d_41, d_42, d_43, d_44, d_45, d_46, d_47, d_48, d_49, d_50, d_51, d_52, d_53]
def fn : List He.DefD := fn0 ++ fn1 ++ fn2
def fa0 : List He.Fa := [.glo "is_list", .glo "is_integer", .glo "is_number", .glo "is_name", .glo "is_word", .glo "as_word", .glo "are_names", .glo "each_once", .glo "is_stand", .glo "kept_step", .glo "checked_steps", .glo "checked_stands", .glo "checked_rules", .glo "can_be_done", .glo "steps_under", .glo "shortest_runs", .glo "break_run", .glo "keeps", .glo "is_part", .glo "in_order"]
def fa1 : List He.Fa := [.glo "least_of", .glo "least_hitting", .glo "joined", .glo "least_barrings", .glo "threats", .glo "least_sets", .glo "greatest_breaking", .glo "_law_x_play", .glo "_law_x_led", .glo "_law_x_some", .glo "_law_x_made", .glo "_law_x_names", .glo "_law_x_all", .glo "_law_x_in", .glo "_law_x_least", .glo "_law_x_keeps", .glo "_law_x_keeping", .glo "_law_start", .glo "_law_draw", .glo "_law_pick"]
def fa2 : List He.Fa := [.glo "_law_mixed", .glo "_law_same", .glo "_law_table", .glo "_law_next", .glo "_law_levels", .glo "_law_loose", .glo "_law_hit", .glo "_law_facts_right", .glo "_law_many_right", .glo "law", .glo "Play", .free "isinstance", .free "len", .free "all", .free "any", .free "tuple", .free "list", .free "sorted", .free "dict", .free "int"]
def fa3 : List He.Fa := [.free "str", .free "bool", .free "enumerate", .free "range", .free "min", .free "zip", .str "SMALL" "abcdefghijklmnopqrstuvwxyz", .str "FIGURES" "0123456789", .cls "Play", .mkr "Play", .meth "Play" "steps", .meth "Play" "rules", .meth "Play" "__len__", .noat "Play" "own_table", .noat "Play" "own_bad"]
def fa : List He.Fa := fa0 ++ fa1 ++ fa2 ++ fa3
def ln0 : List PySem.Str := ["_wall", "SMALL", "FIGURES", "is_list", "is_integer", "is_number", "is_name", "is_word", "as_word", "are_names", "each_once", "FarError", "BadMany", "BadRules", "BadStand", "BadStep", "is_stand", "kept_step", "checked_steps", "checked_stands", "Play", "checked_rules", "can_be_done", "steps_under", "shortest_runs", "break_run", "keeps", "is_part", "in_order", "least_of"]
def ln1 : List PySem.Str := ["least_hitting", "joined", "least_barrings", "threats", "least_sets", "greatest_breaking", "_law_x_play", "_law_x_led", "_law_x_some", "_law_x_made", "_law_x_names", "_law_x_all", "_law_x_in", "_law_x_least", "_law_x_keeps", "_law_x_keeping", "_law_start", "_law_draw", "_law_pick", "_law_mixed", "_law_same", "_law_table", "_law_next", "_law_levels", "_law_loose", "_law_hit", "_law_facts_right", "_law_many_right"]
def lns : List PySem.Str := ln0 ++ ln1
abbrev R : PySem.W.OpenRow := PySem.W.OpenLaw.row PySem.Challenge.rw_farfolder_k09_whole_least_sets
abbrev hk : PySem.W.Hook := He.hookD 5 fa fn
def ob (s : PySem.W.SharedT) : He.AlD := He.obsDG 5 fa fn (HandSHeadRun.getT s)
theorem ob_eq (s : PySem.W.SharedT) : ob s = hk.obs s.abs := He.obsDG_eq (HandSHeadRun.getT_eq s)
theorem run (w : World) : HandSHeadRun.RunEq R (PySem.W.view R.prog [65]) hk ob 12000 lns w := by
  intro os
  kernel_rfl
end Far
/-! Dicts whose keys are of mixed kinds (ints, texts, tuples of such, nested), at the model's level. -/
namespace TL
open PySem PySem.Spec PyProof.Rows L2

/-- an entry: the key, the key's value, the value -/
abbrev Ent := NestedKey × Value × Value
def entOf (w : World) (x : Ent) : DictEntry := ⟨x.1.hash w, x.2.1, x.2.2⟩

section lists
variable {κ β : Type}
theorem ix_unique {xs : List (κ × β)} (hn : (xs.map (·.1)).Nodup) {i j : Nat} {k : κ} {p q : β} (hi : xs[i]? = some (k, p)) (hj : xs[j]? = some (k, q)) : i = j := by
  have hi' : (xs.map (·.1))[i]? = some k := by rw [List.getElem?_map, hi]; rfl
  have hj' : (xs.map (·.1))[j]? = some k := by rw [List.getElem?_map, hj]; rfl
  exact (List.getElem?_inj (List.getElem?_eq_some_iff.mp hi').1 hn).mp (hi'.trans hj'.symm)
theorem not_mem_keys {xs : List (κ × β)} {k : κ} (h : ∀ (j : Nat) (p : β), xs[j]? ≠ some (k, p)) : k ∉ xs.map (·.1) := by
  intro hm
  obtain ⟨x, hx, rfl⟩ := List.mem_map.mp hm
  obtain ⟨j, hj⟩ := List.mem_iff_getElem?.mp hx
  exact h j x.2 hj
theorem get_of_mem {xs : List (κ × β)} {k : κ} (h : k ∈ xs.map (·.1)) : ∃ (j : Nat) (p : β), xs[j]? = some (k, p) := by
  obtain ⟨x, hx, rfl⟩ := List.mem_map.mp h
  obtain ⟨j, hj⟩ := List.mem_iff_getElem?.mp hx
  exact ⟨j, x.2, hj⟩
end lists

/-- k is stored: an old key keeps its place and its own value -/
def putE (xs : List Ent) (k : NestedKey) (u v : Value) : List Ent := if k ∈ xs.map (·.1) then xs.map (fun x => if x.1 = k then (x.1, x.2.1, v) else x) else xs ++ [(k, u, v)]

section raw
variable {prog : Program} {w : World} {A : Around} {E : Value → Shared → Prop} {s : Shared}

theorem quiet_tells {key : Value} {stored : List Value} {Q : Bool → Shared → Prop} (hk : QuietAt prog w 8 s key) (hst : ∀ v ∈ stored, QuietAt prog w 8 s v) (h : Q false s) :
    wpAny (model prog w) A (tableMayTell key stored) Q E s := by
  unfold tableMayTell
  split
  · exact wpAny_pure h
  · refine wpAny_bind (hk _ _ _ ?_)
    simp only [Bool.not_true, Bool.false_eq_true, if_false]
    refine wpAny_bind ?_
    refine wpAny_forIn_list _ (fun rest r s' => s' = s ∧ r = (none, ()) ∧ ∀ v ∈ rest, QuietAt prog w 8 s v) _ ?_ ?_ _ _ ⟨rfl, rfl, hst⟩
    · rintro x rest r s' ⟨rfl, rfl, hr⟩
      refine wpAny_bind (hr x List.mem_cons_self _ _ _ ?_)
      simp only [Bool.not_true, Bool.false_eq_true, if_false]
      exact wpAny_pure ⟨rfl, rfl, fun v hv => hr v (List.mem_cons_of_mem _ hv)⟩
    · rintro r s' ⟨rfl, rfl, _⟩
      exact wpAny_pure h

theorem tells_ok {α : Type} {c : Prop} [Decidable c] {f : Bool → Sem α} {key : Value} {stored : List Value} {Q : α → Shared → Prop} (hk : QuietAt prog w 8 s key) (hst : ∀ v ∈ stored, QuietAt prog w 8 s v)
    (h : wpAny (model prog w) A (f false) Q E s) : wpAny (model prog w) A (if c then (pure false >>= f) else (tableMayTell key stored >>= f)) Q E s := by
  split
  · exact wpAny_bind (wpAny_pure h)
  · exact wpAny_bind (quiet_tells hk hst h)
theorem key_eqBool {x y : NestedKey} {a b : Value} {Q : Bool → Shared → Prop} (hu : A.units + 8 < cLine) (hx : NestedIs s.heap x a) (hy : NestedIs s.heap y b) (dx : x.depth ≤ 8) (h : Q (decide (x = y)) s) :
    wpAny (model prog w) A (PySem.eqBool a b) Q E s :=
  eqAt_key x y A s _ _ hx hy (by omega) _ _ _ _ (by rw [← NestedKey.decide_eq]; exact h)

theorem find_mix {d : Addr} {u : Value} {o : Obj} {es : Array DictEntry} {ep : Nat} {xs : List Ent} {k : NestedKey} {Q : Option Nat → Shared → Prop} (hu : A.units + 8 < cLine) (hkey : NestedIs s.heap k u) (hdp : k.depth ≤ 8)
    (ho : s.heap.get? d = some o) (hd : o.data = .dict es ep) (he : es.toList = xs.map (entOf w)) (his : ∀ x ∈ xs, NestedIs s.heap x.1 x.2.1 ∧ x.1.depth ≤ 8) (hn : (xs.map (·.1)).Nodup)
    (hnone : (∀ (j : Nat) (p : Value × Value), xs[j]? ≠ some (k, p)) → Q none s) (hsome : ∀ (j : Nat) (p : Value × Value), xs[j]? = some (k, p) → Q (some j) s) :
    wpAny (model prog w) A (dictFind d u (k.hash w)) Q E s := by
  have hsz : es.size = xs.length := by rw [← Array.length_toList, he, List.length_map]
  have eat : ∀ j, es[j]? = (xs[j]?).map (entOf w) := fun j => by rw [← Array.getElem?_toList, he, List.getElem?_map]
  have haskey : ∀ (j : Nat) (p : Value × Value), xs[j]? = some (k, p) → ((es[j]?.map (·.hash)) == some (k.hash w)) = true := by
    intro j p hj
    rw [eat j, hj]
    simp [entOf]
  have hmem : ∀ e ∈ es, ∃ x ∈ xs, e = entOf w x := by
    intro e hin
    have : e ∈ xs.map (entOf w) := he ▸ Array.mem_toList_iff.mpr hin
    obtain ⟨x, hx, rfl⟩ := List.mem_map.mp this
    exact ⟨x, hx, rfl⟩
  have hst : ∀ v ∈ (placesWithHash es.size (fun i => es[i]?.map (·.hash)) (k.hash w)).filterMap (fun i => es[i]?.map (·.key)), QuietAt prog w 8 s v := by
    intro v hv
    obtain ⟨i, _, hi⟩ := List.mem_filterMap.mp hv
    cases hei : es[i]? with
    | none => rw [hei] at hi; cases hi
    | some e =>
      rw [hei] at hi
      obtain rfl : e.key = v := by simpa using hi
      obtain ⟨x, hx, rfl⟩ := hmem e (Array.mem_of_getElem? hei)
      exact quiet_key _ _ 8 s (his x hx).1 (his x hx).2
  -- one turn of either loop
  have xat : ∀ x : Nat, x < es.size → ∃ k' u' v', xs[x]? = some (k', u', v') ∧ NestedIs s.heap k' u' ∧ k'.depth ≤ 8 ∧ es[x]? = some ⟨k'.hash w, u', v'⟩ := by
    intro x hlt
    obtain ⟨⟨k', u', v'⟩, hkv⟩ : ∃ y, xs[x]? = some y := ⟨xs[x]'(by rw [← hsz]; exact hlt), List.getElem?_eq_getElem _⟩
    have := his _ (List.mem_of_getElem? hkv)
    exact ⟨k', u', v', hkv, this.1, this.2, by rw [eat x, hkv]; rfl⟩
  have hany : ∀ a, u = Value.ref a → ¬ (es.any fun e => e.key == u && e.hash != k.hash w) = true := by
    intro a ea
    rw [← Array.any_toList, List.any_eq_true]
    rintro ⟨e, hin, hc⟩
    obtain ⟨x, hx, rfl⟩ := hmem e (Array.mem_toList_iff.mp hin)
    subst ea
    simp only [entOf, Bool.and_eq_true, beq_iff_eq, bne_iff_ne, ne_eq] at hc
    obtain ⟨hxa, hne⟩ := hc
    have h1 := (his x hx).1
    rw [hxa] at h1
    exact hne (by rw [NestedIs.inj _ _ _ h1 hkey])
  have plain : wpAny (model prog w) A (dictWalkPlain d u (k.hash w) es (placesWithHash es.size (fun i => es[i]?.map (·.hash)) (k.hash w))) Q E s := by
    refine wpAny_bind ?_
    refine wpAny_forIn_list _
      (fun rest b s' => s' = s ∧ b = (none, ()) ∧ ∃ i, rest = (List.range' i (es.size - i)).filter (fun i => (es[i]?.map (·.hash)) == some (k.hash w)) ∧ i ≤ es.size ∧
        ∀ j p, j < i → xs[j]? ≠ some (k, p)) _ ?_ ?_ _ _
      ⟨rfl, rfl, 0, by rw [placesWithHash, List.range_eq_range', Nat.sub_zero], Nat.zero_le _, fun _ _ h => absurd h (Nat.not_lt_zero _)⟩
    · rintro x rest b s' ⟨rfl, rfl, i, hr, hi, hno⟩
      obtain ⟨hix, hxn, hpx, hskip, hrest⟩ := filter_range'_cons _ _ _ _ _ hr.symm
      have hlt : x < es.size := by omega
      have hrest' : rest = (List.range' (x + 1) (es.size - (x + 1))).filter (fun i => (es[i]?.map (·.hash)) == some (k.hash w)) := by rw [hrest]; congr 2; omega
      obtain ⟨k', u', v', hkv, hib, hdp', hex⟩ := xat x hlt
      have hnx : ∀ j p, j < x → xs[j]? ≠ some (k, p) := fun j p hjx hj => by
        rcases Nat.lt_or_ge j i with h | h
        · exact hno j p h hj
        · have := hskip j h hjx
          rw [haskey j p hj] at this
          exact absurd this (by decide)
      have hnext : ¬ k' = k → ∀ j p, j < x + 1 → xs[j]? ≠ some (k, p) := fun hne j p hjx hj => by
        rcases Nat.lt_or_ge j x with h | h
        · exact hnx j p h hj
        · have hjx' : j = x := by omega
          subst hjx'
          rw [hkv] at hj
          injection hj with hj
          injection hj with hj
          exact hne hj
      rw [hex]
      dsimp only
      by_cases hh : (k'.hash w == k.hash w) = true
      · rw [if_pos hh]
        refine wpAny_bind (wpAny_dictEpoch ho hd (wpAny_bind (key_eqBool hu hib hkey hdp' (wpAny_bind (wpAny_dictEpoch ho hd ?_)))))
        show wpAny _ _ (if (ep != ep) = true then _ else _) _ E _
        rw [if_neg (by simp)]
        by_cases hkk : k' = k
        · rw [decide_eq_true hkk]
          subst hkk
          exact wpAny_bind (wpAny_rule (wpAny_pure (wpAny_pure (hsome x _ hkv))))
        · rw [decide_eq_false hkk]
          exact wpAny_bind (wpAny_rule (wpAny_pure ⟨rfl, rfl, x + 1, hrest', hlt, hnext hkk⟩))
      · rw [if_neg hh]
        refine wpAny_pure ⟨rfl, rfl, x + 1, hrest', hlt, hnext ?_⟩
        intro hkk
        rw [hkk] at hh; simp at hh
    · rintro b s' ⟨rfl, rfl, i, hr, hi, hno⟩
      have hall : ∀ j, i ≤ j → j < es.size → ((es[j]?.map (·.hash)) == some (k.hash w)) = false := by
        intro j h1 h2
        have := List.filter_eq_nil_iff.mp hr.symm j (List.mem_range'_1.mpr ⟨h1, by omega⟩)
        simpa using this
      refine wpAny_pure (hnone fun j p hj => ?_)
      rcases Nat.lt_or_ge j i with h | h
      · exact hno j p h hj
      · have hjl : j < es.size := by
          rw [hsz]
          rcases Nat.lt_or_ge j xs.length with h' | h'
          · exact h'
          · rw [List.getElem?_eq_none h'] at hj; exact nomatch hj
        have := hall j h hjl
        rw [haskey j p hj] at this
        exact absurd this (by decide)
  unfold dictFind
  try with_reducible refine wpAny_holding ?_
  refine wpAny_bind (wpAny_dictEntries ho hd ?_)
  by_cases txt : ∃ x t, u = .str x t ∧ (es.all fun e => isExactStrKey e.key) = true
  · obtain ⟨x, t, rfl, hstrs⟩ := txt
    dsimp only
    rw [if_pos hstrs]
    cases hkey with
    | text _ _ =>
      unfold foundByValue
      cases hf : es.findIdx? (fun e => e.key.isStr x) with
      | none =>
        refine wpAny_pure (hnone fun j p hj => ?_)
        have hx := Array.findIdx?_eq_none_iff.mp hf
        have h1 := his _ (List.mem_of_getElem? hj)
        have h2 : es[j]? = some (entOf w (NestedKey.text x, p)) := by rw [eat j, hj]; rfl
        have h3 := hx _ (Array.mem_of_getElem? h2)
        have h4 : NestedIs s.heap (.text x) p.1 := h1.1
        cases hp : p.1 with
        | str y t' =>
          rw [hp] at h4
          cases h4
          simp [entOf, hp, Value.isStr] at h3
        | _ => rw [hp] at h4; cases h4
      | some i =>
        obtain ⟨hlt, hi, _⟩ := Array.findIdx?_eq_some_iff_getElem.mp hf
        obtain ⟨k', u', v', hkv, hib, hdp', hex⟩ := xat i hlt
        have e1 : es[i] = ⟨k'.hash w, u', v'⟩ := by
          have := Array.getElem?_eq_getElem hlt
          rw [hex] at this
          exact (Option.some.inj this).symm
        have e2 : k' = .text x := by
          rw [e1] at hi
          cases u' with
          | str y t' =>
            have : y = x := by simpa [Value.isStr] using hi
            subst this
            exact NestedIs.inj _ _ _ hib (.text _ _)
          | _ => simp [Value.isStr] at hi
        subst e2
        dsimp only
        rw [hex]
        dsimp only
        refine wpAny_bind (wpAny_dictEpoch ho hd (wpAny_bind (key_eqBool hu hib (.text x t) hdp' (wpAny_bind (wpAny_dictEpoch ho hd ?_)))))
        show wpAny _ _ (if (ep != ep) = true then _ else _) _ E _
        rw [if_neg (by simp), decide_eq_true rfl]
        exact wpAny_bind (wpAny_rule (wpAny_pure (hsome i _ hkv)))
  · have qk : QuietAt prog w 8 s u := quiet_key _ _ 8 s hkey hdp
    have hkey0 := hkey
    have shape : (∃ i t, u = .int i t) ∨ (∃ x t, u = .str x t) ∨ (∃ a, u = .ref a) ∨ (∃ b, u = .bool b) ∨ u = .none := by
      cases hkey with
      | none => exact .inr (.inr (.inr (.inr rfl)))
      | bool _ => exact .inr (.inr (.inr (.inl ⟨_, rfl⟩)))
      | int _ _ => exact .inl ⟨_, _, rfl⟩
      | text _ _ => exact .inr (.inl ⟨_, _, rfl⟩)
      | tup _ _ _ _ => exact .inr (.inr (.inl ⟨_, rfl⟩))
    by_cases hall : ((u :: (placesWithHash es.size (fun i => es[i]?.map (·.hash)) (k.hash w)).filterMap (fun i => es[i]?.map (·.key))).all carriedByValue) = true
    · cases u <;> dsimp only <;> (try rw [if_neg (fun h => txt ⟨_, _, rfl, h⟩)]) <;> (rw [if_pos hall]; exact plain)
    · rcases shape with ⟨_, _, rfl⟩ | ⟨_, _, rfl⟩ | ⟨_, rfl⟩ | ⟨_, rfl⟩ | rfl <;> dsimp only <;> (try rw [if_neg (fun h => txt ⟨_, _, rfl, h⟩)]) <;> (
        rw [if_neg hall]
        try rw [if_neg (hany _ rfl)]
        refine tells_ok qk hst ?_
        rw [if_neg (by simp)]
        refine wpAny_bind ?_
        refine wpAny_forIn_list _
          (fun rest b s' => s' = s ∧ ∃ i hit, b = (none, hit) ∧ rest = (List.range' i (es.size - i)).filter (fun i => (es[i]?.map (·.hash)) == some (k.hash w)) ∧ i ≤ es.size ∧
            ((hit = none ∧ ∀ j p, j < i → xs[j]? ≠ some (k, p)) ∨ ∃ j p, hit = some j ∧ j < i ∧ xs[j]? = some (k, p))) _ ?_ ?_ _ _
          ⟨rfl, 0, none, rfl, by rw [placesWithHash, List.range_eq_range', Nat.sub_zero], Nat.zero_le _, .inl ⟨rfl, fun _ _ h => absurd h (Nat.not_lt_zero _)⟩⟩
        · rintro x rest b s' ⟨rfl, i, hit, rfl, hr, hi, hH⟩
          obtain ⟨hix, hxn, hpx, hskip, hrest⟩ := filter_range'_cons _ _ _ _ _ hr.symm
          have hlt : x < es.size := by omega
          have hrest' : rest = (List.range' (x + 1) (es.size - (x + 1))).filter (fun i => (es[i]?.map (·.hash)) == some (k.hash w)) := by rw [hrest]; congr 2; omega
          obtain ⟨k', u', v', hkv, hib, hdp', hex⟩ := xat x hlt
          have hHx : (hit = none ∧ ∀ j p, j < x → xs[j]? ≠ some (k, p)) ∨ ∃ j p, hit = some j ∧ j < x ∧ xs[j]? = some (k, p) := by
            rcases hH with ⟨h0, hno⟩ | ⟨j, p, h1, hji, hj⟩
            · refine .inl ⟨h0, fun j p hjx hj => ?_⟩
              rcases Nat.lt_or_ge j i with h | h
              · exact hno j p h hj
              · have := hskip j h hjx
                rw [haskey j p hj] at this
                exact absurd this (by decide)
            · exact .inr ⟨j, p, h1, by omega, hj⟩
          have hstay : ¬ k' = k → ((hit = none ∧ ∀ j p, j < x + 1 → xs[j]? ≠ some (k, p)) ∨ ∃ j p, hit = some j ∧ j < x + 1 ∧ xs[j]? = some (k, p)) := by
            intro hne
            rcases hHx with ⟨h0, hno⟩ | ⟨j, p, h1, hjx, hj⟩
            · refine .inl ⟨h0, fun j p hjx hj => ?_⟩
              rcases Nat.lt_or_ge j x with h | h
              · exact hno j p h hj
              · have hjx' : j = x := by omega
                subst hjx'
                rw [hkv] at hj
                injection hj with hj
                injection hj with hj
                exact hne hj
            · exact .inr ⟨j, p, h1, by omega, hj⟩
          rw [hex]
          dsimp only
          by_cases hh : (k'.hash w == k.hash w) = true
          · rw [if_pos hh]
            refine wpAny_bind (wpAny_dictEpoch ho hd (wpAny_bind (key_eqBool hu hib hkey0 hdp' (wpAny_bind (wpAny_dictEpoch ho hd ?_)))))
            show wpAny _ _ (if (ep != ep) = true then _ else _) _ E _
            rw [if_neg (by simp)]
            by_cases hkk : k' = k
            · rw [decide_eq_true hkk]
              subst hkk
              rcases hHx with ⟨rfl, _⟩ | ⟨j, p, _, hjx, hj⟩
              · first | rw [if_pos rfl] | skip
                simp only [Option.isSome_none, Bool.false_eq_true, if_false]
                first | refine wpAny_bind (wpAny_pure ?_) | skip
                refine wpAny_bind (wpAny_rule ?_)
                split
                · exact wpAny_pure (wpAny_pure (hsome x _ hkv))
                · exact wpAny_pure ⟨rfl, x + 1, some x, rfl, hrest', hlt, .inr ⟨x, _, rfl, Nat.lt_succ_self x, hkv⟩⟩
              · exact absurd (ix_unique hn hj hkv) (by omega)
            · rw [decide_eq_false hkk]
              simp only [Bool.false_eq_true, if_false]
              refine wpAny_bind (wpAny_rule ?_)
              first | rw [if_neg (by simp)] | skip
              first
                | exact wpAny_pure ⟨rfl, x + 1, hit, rfl, hrest', hlt, hstay hkk⟩
                | exact wpAny_bind (wpAny_pure (wpAny_pure ⟨rfl, x + 1, hit, rfl, hrest', hlt, hstay hkk⟩))
          · rw [if_neg hh]
            refine wpAny_pure ⟨rfl, x + 1, hit, rfl, hrest', hlt, hstay ?_⟩
            intro hkk
            rw [hkk] at hh; simp at hh
        · rintro b s' ⟨rfl, i, hit, rfl, hr, hi, hH⟩
          have hall : ∀ j, i ≤ j → j < es.size → ((es[j]?.map (·.hash)) == some (k.hash w)) = false := by
            intro j h1 h2
            have := List.filter_eq_nil_iff.mp hr.symm j (List.mem_range'_1.mpr ⟨h1, by omega⟩)
            simpa using this
          rcases hH with ⟨rfl, hno⟩ | ⟨j, p, rfl, _, hj⟩
          · refine wpAny_pure (hnone fun j p hj => ?_)
            rcases Nat.lt_or_ge j i with h | h
            · exact hno j p h hj
            · have hjl : j < es.size := by
                rw [hsz]
                rcases Nat.lt_or_ge j xs.length with h' | h'
                · exact h'
                · rw [List.getElem?_eq_none h'] at hj; exact nomatch hj
              have := hall j h hjl
              rw [haskey j p hj] at this
              exact absurd this (by decide)
          · exact wpAny_pure (hsome j p hj))

def valE (xs : List Ent) (k : NestedKey) : Option Value := (xs.find? fun x => decide (x.1 = k)).map (·.2.2)
theorem valE_none {xs : List Ent} {k : NestedKey} (h : k ∉ xs.map (·.1)) : valE xs k = none := by
  unfold valE
  rw [List.find?_eq_none.mpr]
  · rfl
  · intro x hx hk
    exact h (List.mem_map.mpr ⟨x, hx, of_decide_eq_true hk⟩)
theorem valE_at {xs : List Ent} (hn : (xs.map (·.1)).Nodup) {i : Nat} {k : NestedKey} {p : Value × Value} (hx : xs[i]? = some (k, p)) : valE xs k = some p.2 := by
  unfold valE
  cases hf : xs.find? fun x => decide (x.1 = k) with
  | none => 
    have := List.find?_eq_none.mp hf (k, p) (List.mem_of_getElem? hx)
    simp at this
  | some y =>
    have h1 := List.find?_some hf
    have h2 : y.1 = k := of_decide_eq_true h1
    obtain ⟨j, hj⟩ := List.mem_iff_getElem?.mp (List.mem_of_find?_eq_some hf)
    have : xs[j]? = some (k, y.2) := by rw [hj, ← h2]
    have e := ix_unique hn hx this
    subst e
    rw [hx] at this
    injection this with this
    injection this with _ this
    simp [this]

/-- at d stands a dict with these entries -/
def MixD (w : World) (h : Heap) (d : Addr) (xs : List Ent) : Prop :=
  ∃ o es ep, h.get? d = some o ∧ o.ExactDict ∧ o.data = .dict es ep ∧ es.toList = xs.map (entOf w) ∧ (∀ x ∈ xs, NestedIs h x.1 x.2.1 ∧ x.1.depth ≤ 8) ∧ (xs.map (·.1)).Nodup
theorem MixD.typeIs {d : Addr} {xs : List Ent} (hm : MixD w s.heap d xs) : s.TypeIs (.ref d) "dict" :=
  let ⟨o, _, _, ho, hc, _⟩ := hm; ⟨o, ho, hc.1⟩

theorem get_mix {d : Addr} {u : Value} {xs : List Ent} {k : NestedKey} {Q : Option Value → Shared → Prop} (hu : A.units + 8 < cLine) (hkey : NestedIs s.heap k u) (hdp : k.depth ≤ 8) (hm : MixD w s.heap d xs)
    (h : Q (valE xs k) { s with toks := s.toks + k.draws }) : wpAny (model prog w) A (dictGet d u) Q E s := by
  obtain ⟨o, es, ep, ho, _, hd, he, his, hn⟩ := hm
  unfold dictGet
  try with_reducible refine wpAny_holding ?_
  refine wpAny_bind (pyHash_key _ _ _ _ _ hkey (by omega) (wpAny_bind (find_mix (s := { s with toks := s.toks + k.draws }) hu hkey hdp ho hd he his hn ?_ ?_)))
  · intro hno
    rw [valE_none (not_mem_keys hno)] at h
    exact wpAny_pure h
  · intro j p hj
    rw [valE_at hn hj] at h
    refine wpAny_bind (wpAny_dictEntries (s := { s with toks := s.toks + k.draws }) ho hd ?_)
    rw [← Array.getElem?_toList, he, List.getElem?_map, hj]
    exact wpAny_pure h

theorem contains_mix {d : Addr} {u : Value} {xs : List Ent} {k : NestedKey} {Q : Bool → Shared → Prop} (hu : A.units + 9 < cLine) (hkey : NestedIs s.heap k u) (hdp : k.depth ≤ 8) (hd : (d == sysModules) = false) (hm : MixD w s.heap d xs)
    (h : Q (valE xs k).isSome { s with toks := s.toks + k.draws }) : wpAny (model prog w) A (contains (.ref d) u) Q E s := by
  refine wpAny_contains_slot hm.typeIs F.slot_dict_contains ?_
  refine call_meetsIn F.slot_dict_contains hm.typeIs F.entry_dict_contains (F.args_dict_contains_2 _ _) (S := fun A' R s' => A' = A ∧ s' = s ∧ R (.ok (.ret (.bool (valE xs k).isSome))) { s with toks := s.toks + k.draws }) (fun A' R s' hS => ?_) ⟨rfl, rfl, wpAny_truthy_bool h⟩
  obtain ⟨rfl, rfl, hq⟩ := hS
  show wpAny _ _ (dictGet d u >>= _) _ _ _
  refine wpAny_bind (get_mix (by rw [Around.in1_units]; omega) hkey hdp hm ?_)
  cases hf : valE xs k with
  | some p =>
    rw [hf] at hq
    exact wpAny_pure hq
  | none =>
    rw [hf] at hq
    show wpAny _ _ (Builtin.Dict.pendingKey? d u >>= _) _ _ _
    exact wpAny_bind (wpAny_pendingKey_other hd (wpAny_pure hq))

theorem getItem_mix {d : Addr} {u v : Value} {xs : List Ent} {k : NestedKey} {Q : Value → Shared → Prop} (hu : A.units + 9 < cLine) (hkey : NestedIs s.heap k u) (hdp : k.depth ≤ 8) (hm : MixD w s.heap d xs) (hv : valE xs k = some v)
    (h : Q v { s with toks := s.toks + k.draws }) : wpAny (model prog w) A (getItem (.ref d) u) Q E s := by
  unfold getItem
  try with_reducible refine wpAny_holding ?_
  refine wpAny_bind (wpAny_sequenceKey hm.typeIs (by decide) ?_)
  refine wpAny_bind (wpAny_callSpecial?_slot (name := Str.ofString "__getitem__") hm.typeIs slot_dict_getitem
    (wpAny_call_entry slot_dict_getitem hm.typeIs entry_dict_getitem ?_ (args_dict_getitem _ _)))
  show wpAny _ _ (dictGet d u >>= _) _ _ s
  refine wpAny_bind (get_mix (by rw [Around.in1_units]; omega) hkey hdp hm ?_)
  rw [hv]
  exact wpAny_pure ⟨v, rfl, wpAny_pure h⟩

theorem putE_new {xs : List Ent} {k : NestedKey} {u v : Value} (h : k ∉ xs.map (·.1)) : putE xs k u v = xs ++ [(k, u, v)] := if_neg h
theorem putE_old {xs : List Ent} {k : NestedKey} {u v : Value} (h : k ∈ xs.map (·.1)) : putE xs k u v = xs.map (fun x => if x.1 = k then (x.1, x.2.1, v) else x) := if_pos h
theorem putE_keys {xs : List Ent} {k : NestedKey} {u v : Value} (h : k ∈ xs.map (·.1)) : (putE xs k u v).map (·.1) = xs.map (·.1) := by
  rw [putE_old h, List.map_map]
  refine List.map_congr_left fun x _ => ?_
  by_cases e : x.1 = k <;> simp [e]
theorem modify_put {k : NestedKey} {v : Value} : ∀ {xs : List Ent} {j : Nat} {p : Value × Value}, (xs.map (·.1)).Nodup → xs[j]? = some (k, p) →
    (xs.map (entOf w)).modify j (fun e => { e with val := v }) = (xs.map fun x => if x.1 = k then (x.1, x.2.1, v) else x).map (entOf w)
  | [], j, p, _, hj => by simp at hj
  | x :: rest, j, p, hn, hj => by
    rw [List.map_cons, List.nodup_cons] at hn
    cases j with
    | zero =>
      simp only [List.getElem?_cons_zero, Option.some.injEq] at hj
      subst hj
      have hr : (rest.map fun x => if x.1 = k then (x.1, x.2.1, v) else x) = rest := by
        have : rest.map (fun x => if x.1 = k then (x.1, x.2.1, v) else x) = rest.map id := List.map_congr_left fun y hy => by
          have : ¬ y.1 = k := fun e => hn.1 (List.mem_map.mpr ⟨y, hy, e⟩)
          simp [this]
        rw [this, List.map_id]
      rw [List.map_cons, List.map_cons, List.map_cons, hr]
      simp [entOf]
    | succ j =>
      simp only [List.getElem?_cons_succ] at hj
      have hne : ¬ x.1 = k := fun e => hn.1 (e ▸ List.mem_map.mpr ⟨(k, p), List.mem_of_getElem? hj, rfl⟩)
      have ih := modify_put (v := v) hn.2 hj
      rw [List.map_cons, List.map_cons, List.map_cons, if_neg hne]
      show entOf w x :: (rest.map (entOf w)).modify j _ = _
      rw [ih]

theorem set_mix {d : Addr} {u v : Value} {xs : List Ent} {k : NestedKey} {Q : Unit → Shared → Prop} (hu : A.units + 8 < cLine) (hkey : NestedIs s.heap k u) (hdp : k.depth ≤ 8) (hm : MixD w s.heap d xs) (hz : xs.length ≤ sizeLine)
    (hQ : ∀ h' : Heap, MixD w h' d (putE xs k u v) → Heap.SameBut d s.heap h' → Q () { s with heap := h', toks := s.toks + k.draws }) : wpAny (model prog w) A (dictSet d u v) Q E s := by
  obtain ⟨o, es, ep, ho, hc, hd, he, his, hn⟩ := hm
  have hsz : es.size = xs.length := by rw [← Array.length_toList, he, List.length_map]
  have kp : ∀ {h' : Heap}, Heap.SameBut d s.heap h' → ∀ {y : NestedKey} {b : Value}, NestedIs s.heap y b → NestedIs h' y b := fun {h'} sb {y b} hy => NestedIs.at (fun b ob vs n hb hc => by
    refine (sb.2 b fun e => ?_).trans hb
    subst e
    rw [ho] at hb
    cases hb
    rw [hd] at hc
    cases hc) _ _ hy
  unfold dictSet
  try with_reducible refine wpAny_holding ?_
  refine wpAny_bind (pyHash_key _ _ _ _ _ hkey (by omega) ?_)
  unfold dictSetHashed
  try with_reducible refine wpAny_holding ?_
  refine wpAny_bind (find_mix (s := { s with toks := s.toks + k.draws }) hu hkey hdp ho hd he his hn ?_ ?_)
  · intro hno
    have hnot := not_mem_keys hno
    refine wpAny_bind (wpAny_rule (wpAny_updateDictKeys (hz := by omega) (s := { s with toks := s.toks + k.draws }) ho hd (hQ _ ⟨_, _, ep + 1, Heap.get?_update_self _ ho (Obj.isFreed_of_dict (Obj.data_mapDictKeys hd _)),
      hc.mapDictKeys _, Obj.data_mapDictKeys hd _, ?_, ?_, ?_⟩ (Heap.SameBut.update ..))))
    · rw [putE_new hnot]
      simp [he, entOf]
    · rw [putE_new hnot]
      intro x hx
      rcases List.mem_append.mp hx with hx | hx
      · exact ⟨kp (Heap.SameBut.update ..) (his x hx).1, (his x hx).2⟩
      · simp only [List.mem_singleton] at hx
        subst hx
        exact ⟨kp (Heap.SameBut.update ..) hkey, hdp⟩
    · rw [putE_new hnot, List.map_append, List.nodup_append]
      refine ⟨hn, by simp, ?_⟩
      intro x hx y hy
      simp only [List.map_cons, List.map_nil, List.mem_singleton] at hy
      subst hy
      exact fun e => hnot (e ▸ hx)
  · intro j p hj
    have hin : k ∈ xs.map (·.1) := List.mem_map.mpr ⟨(k, p), List.mem_of_getElem? hj, rfl⟩
    refine wpAny_bind (wpAny_rule (wpAny_bind (wpAny_updateDict (s := { s with toks := s.toks + k.draws }) ho hd (wpAny_point (hQ _ ⟨_, _, ep, Heap.get?_update_self _ ho (Obj.isFreed_of_dict (Obj.data_mapDict hd _)),
      hc.mapDict _, Obj.data_mapDict hd _, ?_, ?_, ?_⟩ (Heap.SameBut.update ..))))))
    · rw [putE_old hin]
      have := modify_put (w := w) (v := v) hn hj
      rw [← he] at this
      obtain ⟨l⟩ := es
      simpa using this
    · rw [putE_old hin]
      intro x hx
      obtain ⟨y, hy, rfl⟩ := List.mem_map.mp hx
      split <;> exact ⟨kp (Heap.SameBut.update ..) (his y hy).1, (his y hy).2⟩
    · rw [putE_keys hin]; exact hn

theorem setItem_mix {d : Addr} {u v : Value} {xs : List Ent} {k : NestedKey} {Q : Unit → Shared → Prop} (hu : A.units + 9 < cLine) (hkey : NestedIs s.heap k u) (hdp : k.depth ≤ 8) (hm : MixD w s.heap d xs) (hz : xs.length ≤ sizeLine)
    (hQ : ∀ h' : Heap, MixD w h' d (putE xs k u v) → Heap.SameBut d s.heap h' → Q () { s with heap := h', toks := s.toks + k.draws }) : wpAny (model prog w) A (setItem (.ref d) u v) Q E s := by
  unfold setItem
  try with_reducible refine wpAny_holding ?_
  refine wpAny_bind (wpAny_sequenceKey hm.typeIs (by decide) ?_)
  refine wpAny_bind (wpAny_callSpecial?_slot (name := Str.ofString "__setitem__") hm.typeIs slot_dict_setitem
    (wpAny_call_entry slot_dict_setitem hm.typeIs entry_dict_setitem ?_ (args_dict_setitem _ _ _)))
  show wpAny _ _ (Builtin.Dict.notOrdered "__setitem__" ⟨[.ref d, u, v], []⟩ >>= _) _ _ s
  refine wpAny_bind (wpAny_notOrdered_dict hm.typeIs ?_)
  show wpAny _ _ (dictSet d u v >>= _) _ _ s
  exact wpAny_bind (set_mix (by rw [Around.in1_units]; omega) hkey hdp hm hz fun h' hm' hs' => wpAny_pure ⟨.none, rfl, wpAny_pure (hQ h' hm' hs')⟩)
end raw
end TL
/-! Trees: immutable data as Lean values; cells: the mutable lists and dicts; the abstract heap between them and HandS's. -/
namespace TL
open PySem PySem.Spec PyProof.Rows L2

/-- data that does not change any more -/
inductive T where
  | non | bl (b : Bool) | int (i : Int) | str (x : Str)
  | lst (xs : List T) | tup (xs : List T)
  | dic (ks : List NestedKey) (xs : List T)
  | ins (C : Addr) (fs : List Str) (xs : List T)

mutual
/-- a key as data -/
def kT : NestedKey → T
  | .none => .non
  | .num i => .int i
  | .text x => .str x
  | .tup ks => .tup (kTs ks)
def kTs : List NestedKey → List T
  | [] => []
  | k :: ks => kT k :: kTs ks
end
theorem kTs_map : ∀ ks, kTs ks = ks.map kT
  | [] => rfl
  | k :: ks => by rw [kTs, kTs_map ks]; rfl

/-- an object that is known to the last bit -/
def exO (a : Addr) (ob : Obj) : HO := .ext fun h => h.get? a = some ob
/-- the object ob at a is a dict of these: key, the key's value, the value -/
def DicO (w : World) (a : Addr) (ob : Obj) (es : List (NestedKey × V × V)) : Prop :=
  (a == sysModules) = false ∧ ob.ExactDict ∧ es.length ≤ sizeLine ∧ (∀ e ∈ es, e.1.depth ≤ 8) ∧ (es.map (·.1)).Nodup ∧
    ∃ (arr : Array DictEntry) (ep : Nat) (xs : List Ent), ob.data = .dict arr ep ∧ arr.toList = xs.map (entOf w) ∧ Paired (fun (e : NestedKey × V × V) (x : Ent) => x.1 = e.1 ∧ RelV e.2.1 x.2.1 ∧ RelV e.2.2 x.2.2) es xs

mutual
/-- in the heap F the value v is the tree t -/
inductive Rep (w : World) (F : Hp) : T → V → Prop
  | non : Rep w F .non .non
  | bl (b) : Rep w F (.bl b) (.bl b)
  | int (i) : Rep w F (.int i) (.int i)
  | str (x) : Rep w F (.str x) (.str x)
  | lst {a vs ts} : F a = some (.lst vs) → RepL w F ts vs → Rep w F (.lst ts) (.ref a)
  | tup {a vs ts} : F a = some (.tup vs) → RepL w F ts vs → Rep w F (.tup ts) (.ref a)
  | dic {a ob es ks ts} : F a = some (exO a ob) → DicO w a ob es → es.map (·.1) = ks → RepL w F (ks.map kT) (es.map (·.2.1)) → RepL w F ts (es.map (·.2.2)) → Rep w F (.dic ks ts) (.ref a)
  | ins {a C dx fs vs ts} : F a = some (.ins C dx (fs.zip vs)) → fs.length = vs.length → RepL w F ts vs → Rep w F (.ins C fs ts) (.ref a)
inductive RepL (w : World) (F : Hp) : List T → List V → Prop
  | nil : RepL w F [] []
  | cons {t v ts vs} : Rep w F t v → RepL w F ts vs → RepL w F (t :: ts) (v :: vs)
end

section
variable {w : World} {F F' : Hp}
mutual
theorem Rep.mono (k : Same F F') : ∀ {t v}, Rep w F t v → Rep w F' t v
  | _, _, .non => .non
  | _, _, .bl b => .bl b
  | _, _, .int i => .int i
  | _, _, .str x => .str x
  | _, _, .lst e r => .lst (k _ _ e) (RepL.mono k r)
  | _, _, .tup e r => .tup (k _ _ e) (RepL.mono k r)
  | _, _, .dic e d m r q => .dic (k _ _ e) d m (RepL.mono k r) (RepL.mono k q)
  | _, _, .ins e l r => .ins (k _ _ e) l (RepL.mono k r)
theorem RepL.mono (k : Same F F') : ∀ {ts vs}, RepL w F ts vs → RepL w F' ts vs
  | _, _, .nil => .nil
  | _, _, .cons r q => .cons (Rep.mono k r) (RepL.mono k q)
end
theorem RepL.length : ∀ {ts vs}, RepL w F ts vs → ts.length = vs.length
  | _, _, .nil => rfl
  | _, _, .cons _ q => congrArg (· + 1) q.length
theorem RepL.get : ∀ {ts vs} {i : Nat} {t : T}, RepL w F ts vs → ts[i]? = some t → ∃ v, vs[i]? = some v ∧ Rep w F t v
  | _, _, _, _, .nil, e => by simp at e
  | _, _, 0, _, .cons r _, e => by simp at e; subst e; exact ⟨_, rfl, r⟩
  | _, _, i + 1, _, .cons _ q, e => by
    obtain ⟨v, h1, h2⟩ := q.get (i := i) (by simpa using e)
    exact ⟨v, by simpa using h1, h2⟩
theorem RepL.get' : ∀ {ts vs} {i : Nat} {v : V}, RepL w F ts vs → vs[i]? = some v → ∃ t, ts[i]? = some t ∧ Rep w F t v
  | _, _, _, _, .nil, e => by simp at e
  | _, _, 0, _, .cons r _, e => by simp at e; subst e; exact ⟨_, rfl, r⟩
  | _, _, i + 1, _, .cons _ q, e => by
    obtain ⟨v, h1, h2⟩ := q.get' (i := i) (by simpa using e)
    exact ⟨v, by simpa using h1, h2⟩
theorem RepL.append : ∀ {ts vs us ws}, RepL w F ts vs → RepL w F us ws → RepL w F (ts ++ us) (vs ++ ws)
  | _, _, _, _, .nil, q => q
  | _, _, _, _, .cons r t, q => .cons r (t.append q)
theorem RepL.one {t v} (r : Rep w F t v) : RepL w F [t] [v] := .cons r .nil
theorem RepL.take : ∀ {ts vs} (n : Nat), RepL w F ts vs → RepL w F (ts.take n) (vs.take n)
  | _, _, 0, _ => .nil
  | _, _, _ + 1, .nil => .nil
  | _, _, n + 1, .cons r q => .cons r (q.take n)
theorem RepL.drop : ∀ {ts vs} (n : Nat), RepL w F ts vs → RepL w F (ts.drop n) (vs.drop n)
  | _, _, 0, r => r
  | _, _, _ + 1, .nil => .nil
  | _, _, n + 1, .cons _ q => q.drop n
/-- atoms -/
theorem RepL.ints : ∀ {ns : List Int} {vs}, RepL w F (ns.map T.int) vs → vs = ns.map V.int
  | [], _, .nil => rfl
  | n :: ns, _, .cons r q => by cases r; rw [q.ints]; rfl
theorem RepL.strs : ∀ {ns : List Str} {vs}, RepL w F (ns.map T.str) vs → vs = ns.map V.str
  | [], _, .nil => rfl
  | n :: ns, _, .cons r q => by cases r; rw [q.strs]; rfl
theorem RepL.bls : ∀ {ns : List Bool} {vs}, RepL w F (ns.map T.bl) vs → vs = ns.map V.bl
  | [], _, .nil => rfl
  | n :: ns, _, .cons r q => by cases r; rw [q.bls]; rfl
theorem RepL.of_ints : ∀ (ns : List Int), RepL w F (ns.map T.int) (ns.map V.int)
  | [] => .nil
  | n :: ns => .cons (.int n) (RepL.of_ints ns)
theorem RepL.of_strs : ∀ (ns : List Str), RepL w F (ns.map T.str) (ns.map V.str)
  | [] => .nil
  | n :: ns => .cons (.str n) (RepL.of_strs ns)
/-- the same values in another order -/
theorem RepL.perm {vs vs' : List V} (p : vs'.Perm vs) : ∀ {ts}, RepL w F ts vs → ∃ ts', ts'.Perm ts ∧ RepL w F ts' vs' := by
  induction p with
  | nil => intro ts r; exact ⟨ts, .refl _, r⟩
  | cons x p ih =>
    intro ts r
    cases r with
    | cons r q =>
      obtain ⟨ts', h1, h2⟩ := ih q
      exact ⟨_ :: ts', h1.cons _, .cons r h2⟩
  | swap x y l =>
    intro ts r
    cases r with
    | cons r q =>
      cases q with
      | cons r' q' => exact ⟨_ :: _ :: _, .swap .., .cons r' (.cons r q')⟩
  | trans p1 p2 ih1 ih2 =>
    intro ts r
    obtain ⟨t1, h1, h2⟩ := ih2 r
    obtain ⟨t2, h3, h4⟩ := ih1 h2
    exact ⟨t2, h3.trans h1, h4⟩

/-- a key that stands in the heap -/
theorem tup_at {P : Program} {H : Hp} {h : Heap} {a : Addr} {vs : List V} (ok : HOk P w H h) (e : H a = some (.tup vs)) : ∃ its, Vals vs its ∧ IsTup h a its.toArray := (ok a _ e).2
mutual
theorem Rep.key {P : Program} {H : Hp} {h : Heap} (ok : HOk P w H h) : ∀ (k : NestedKey) (v : V) (u : Value), Rep w H (kT k) v → RelV v u → NestedIs h k u
  | .none, _, _, r, q => by cases r; cases q; exact .none
  | .num i, _, _, r, q => by cases r; obtain ⟨t, rfl⟩ := q; exact .int i t
  | .text x, _, _, r, q => by cases r; obtain ⟨t, rfl⟩ := q; exact .text x t
  | .tup ks, _, _, r, q => by
    unfold kT at r
    cases r with
    | tup e r =>
      cases q
      obtain ⟨its, rv, o, ho, hc, n, hd⟩ := tup_at ok e
      exact .tup ho hc hd (RepL.keys ok ks _ _ r (by simpa using rv))
theorem RepL.keys {P : Program} {H : Hp} {h : Heap} (ok : HOk P w H h) : ∀ (ks : List NestedKey) (vs : List V) (us : List Value), RepL w H (kTs ks) vs → Vals vs us → NestedAll h ks us
  | [], _, _, r, q => by cases r; cases q; exact .nil
  | k :: ks, _, _, r, q => by
    unfold kTs at r
    cases r with
    | cons r r' =>
      cases q with
      | cons q q' => exact .cons (Rep.key ok k _ _ r q) (RepL.keys ok ks _ _ r' q')
end
end

/-! ### cells -/
/-- a value: data, or a cell -/
inductive Vl where
  | t (t : T) | cell (a : Addr)
/-- what may change -/
inductive Cell where
  | lst (xs : List Vl)
  | dic (ks : List NestedKey) (xs : List Vl)
  | ins (C : Addr) (fs : List Str) (xs : List Vl)
abbrev Store := Addr → Option Cell
def sup (O : Store) (a : Addr) (c : Cell) : Store := fun b => if b = a then some c else O b
def sdel (O : Store) (a : Addr) : Store := fun b => if b = a then none else O b
theorem sup_same {O : Store} {a : Addr} {c : Cell} : sup O a c a = some c := by unfold sup; rw [if_pos rfl]
theorem sup_ne {O : Store} {a b : Addr} {c : Cell} (h : b ≠ a) : sup O a c b = O b := by unfold sup; rw [if_neg h]
theorem sdel_same {O : Store} {a : Addr} : sdel O a a = none := by unfold sdel; rw [if_pos rfl]
theorem sdel_ne {O : Store} {a b : Addr} (h : b ≠ a) : sdel O a b = O b := by unfold sdel; rw [if_neg h]
theorem sup_sup {O : Store} {a : Addr} {c c' : Cell} : sup (sup O a c) a c' = sup O a c' := by
  funext b; unfold sup; split <;> rfl

def VRep (w : World) (F : Hp) : Vl → V → Prop
  | .t t, v => Rep w F t v
  | .cell a, v => v = .ref a
abbrev VReps (w : World) (F : Hp) : List Vl → List V → Prop := Paired (VRep w F)
def CRep (w : World) (F : Hp) (a : Addr) : Cell → HO → Prop
  | .lst xs, o => ∃ vs, o = .lst vs ∧ VReps w F xs vs
  | .dic ks xs, o => ∃ ob es, o = exO a ob ∧ DicO w a ob es ∧ es.map (·.1) = ks ∧ RepL w F (ks.map kT) (es.map (·.2.1)) ∧ VReps w F xs (es.map (·.2.2))
  | .ins C fs xs, o => ∃ dx vs, o = .ins C dx (fs.zip vs) ∧ fs.length = vs.length ∧ VReps w F xs vs
section
variable {w : World} {F F' F2 H H' H2 : Hp} {O O' O2 : Store}
theorem VRep.mono (k : Same F F') {x : Vl} {v : V} (r : VRep w F x v) : VRep w F' x v := by
  cases x with
  | t t => exact Rep.mono k r
  | cell a => exact r
theorem VReps.mono (k : Same F F') {xs : List Vl} {vs : List V} (r : VReps w F xs vs) : VReps w F' xs vs := L2.Paired.mapP r fun _ _ h => VRep.mono k h
theorem CRep.mono (k : Same F F') {a : Addr} {c : Cell} {o : HO} (r : CRep w F a c o) : CRep w F' a c o := by
  cases c with
  | lst xs => obtain ⟨vs, e, q⟩ := r; exact ⟨vs, e, VReps.mono k q⟩
  | dic ks xs => obtain ⟨ob, es, e, d, m, q, q'⟩ := r; exact ⟨ob, es, e, d, m, q.mono k, VReps.mono k q'⟩
  | ins C fs xs => obtain ⟨dx, vs, e, l, q⟩ := r; exact ⟨dx, vs, e, l, VReps.mono k q⟩
theorem RepL.vreps : ∀ {ts : List T} {vs : List V}, RepL w F ts vs → VReps w F (ts.map Vl.t) vs
  | _, _, .nil => .nil
  | _, _, .cons r q => .cons r q.vreps
theorem VReps.repl : ∀ {ts : List T} {vs : List V}, VReps w F (ts.map Vl.t) vs → RepL w F ts vs
  | [], _, .nil => .nil
  | t :: ts, _, .cons r q => .cons r (VReps.repl q)

/-- H holds the frozen part F and the cells O -/
structure Conc (w : World) (F H : Hp) (O : Store) : Prop where
  sub : Same F H
  cell : ∀ a c, O a = some c → F a = none ∧ ∃ o, H a = some o ∧ CRep w F a c o
/-- what a piece of code leaves to those around it -/
structure Stp (F H : Hp) (O : Store) (F' H' : Hp) (O' : Store) : Prop where
  fr : Same F F'
  out : ∀ b o, H b = some o → O b = none → H' b = some o
  nF : ∀ b, F b = none → H b ≠ none → O b = none → F' b = none
  nO : ∀ b, H b ≠ none → O b = none → O' b = none
theorem Stp.refl : Stp F H O F H O := ⟨Same.refl _, fun _ _ h _ => h, fun _ h _ _ => h, fun _ _ h => h⟩
theorem Stp.trans (a : Stp F H O F' H' O') (b : Stp F' H' O' F2 H2 O2) : Stp F H O F2 H2 O2 :=
  ⟨a.fr.trans b.fr, fun c o h n => b.out c o (a.out c o h n) (a.nO c (by rw [h]; simp) n), fun c h1 h2 h3 => by
    cases q : H c with
    | none => exact absurd q h2
    | some o =>
      have e := a.out c o q h3
      exact b.nF c (a.nF c h1 h2 h3) (by rw [e]; simp) (a.nO c h2 h3), fun c h2 h3 => by
    cases q : H c with
    | none => exact absurd q h2
    | some o =>
      have e := a.out c o q h3
      exact b.nO c (by rw [e]; simp) (a.nO c h2 h3)⟩
theorem Conc.free (c : Conc w F H O) {a : Addr} (h : H a = none) : F a = none ∧ O a = none := by
  constructor
  · cases q : F a with
    | none => rfl
    | some o => rw [c.sub a o q] at h; cases h
  · cases q : O a with
    | none => rfl
    | some o => obtain ⟨_, _, e, _⟩ := c.cell a o q; rw [e] at h; cases h
theorem same_upd {H : Hp} {p : Addr} {o : HO} (h : H p = none) : Same H (upd H p o) := fun b x e => by
  rw [upd_ne (ne_of_none e h)]
  exact e
/-- a new object that is frozen at once -/
theorem Conc.newF (c : Conc w F H O) {p : Addr} {o : HO} (h : H p = none) : Conc w (upd F p o) (upd H p o) O ∧ Stp F H O (upd F p o) (upd H p o) O := by
  obtain ⟨f, n⟩ := c.free h
  refine ⟨⟨fun b x e => ?_, fun b x e => ?_⟩, same_upd f, fun b x e _ => ?_, fun b e1 e2 _ => ?_, fun _ _ e => e⟩
  · by_cases hb : b = p
    · subst hb; rw [upd_same] at e ⊢; exact e
    · rw [upd_ne hb] at e ⊢; exact c.sub b x e
  · have hb : b ≠ p := fun z => by subst z; rw [n] at e; cases e
    obtain ⟨h1, o', h2, h3⟩ := c.cell b x e
    refine ⟨by rw [upd_ne hb]; exact h1, o', by rw [upd_ne hb]; exact h2, h3.mono (same_upd f)⟩
  · rw [upd_ne (ne_of_none e h)]; exact e
  · rw [upd_ne (fun z => by subst z; exact e2 h)]; exact e1
/-- a new cell -/
theorem Conc.newO (c : Conc w F H O) {p : Addr} {o : HO} {x : Cell} (h : H p = none) (r : CRep w F p x o) : Conc w F (upd H p o) (sup O p x) ∧ Stp F H O F (upd H p o) (sup O p x) := by
  obtain ⟨f, n⟩ := c.free h
  refine ⟨⟨fun b x e => ?_, fun b y e => ?_⟩, Same.refl _, fun b x e _ => ?_, fun b e1 e2 _ => e1, fun b e1 e => ?_⟩
  · rw [upd_ne (ne_of_none e f)]; exact c.sub b x e
  · by_cases hb : b = p
    · subst hb; rw [sup_same] at e; cases e; exact ⟨f, o, upd_same, r⟩
    · rw [sup_ne hb] at e
      obtain ⟨h1, o', h2, h3⟩ := c.cell b y e
      exact ⟨h1, o', by rw [upd_ne hb]; exact h2, h3⟩
  · rw [upd_ne (ne_of_none e h)]; exact e
  · rw [sup_ne (fun z => by subst z; exact e1 h)]; exact e
/-- a cell is written -/
theorem Conc.write (c : Conc w F H O) {p : Addr} {o : HO} {x y : Cell} (h : O p = some x) (r : CRep w F p y o) : Conc w F (upd H p o) (sup O p y) ∧ Stp F H O F (upd H p o) (sup O p y) := by
  obtain ⟨f, oo, hh, _⟩ := c.cell p x h
  refine ⟨⟨fun b x e => ?_, fun b y e => ?_⟩, Same.refl _, fun b x e n => ?_, fun b e1 e2 _ => e1, fun b e1 e => ?_⟩
  · rw [upd_ne (ne_of_none e f)]; exact c.sub b x e
  · by_cases hb : b = p
    · subst hb; rw [sup_same] at e; cases e; exact ⟨f, o, upd_same, r⟩
    · rw [sup_ne hb] at e
      obtain ⟨h1, o', h2, h3⟩ := c.cell b y e
      exact ⟨h1, o', by rw [upd_ne hb]; exact h2, h3⟩
  · rw [upd_ne (fun z => by subst z; rw [h] at n; cases n)]; exact e
  · rw [sup_ne (fun z => by subst z; rw [h] at e; cases e)]; exact e
/-- a cell is frozen -/
theorem Conc.freeze (c : Conc w F H O) {p : Addr} {x : Cell} {o : HO} (h : O p = some x) (hh : H p = some o) : Conc w (upd F p o) H (sdel O p) ∧ Stp F H O (upd F p o) H (sdel O p) := by
  obtain ⟨f, _⟩ := c.cell p x h
  refine ⟨⟨fun b y e => ?_, fun b y e => ?_⟩, same_upd f, fun b x e _ => e, fun b e1 e2 e3 => ?_, fun b e1 e => ?_⟩
  · by_cases hb : b = p
    · subst hb; rw [upd_same] at e; rw [hh]; exact e
    · rw [upd_ne hb] at e; exact c.sub b y e
  · have hb : b ≠ p := fun z => by subst z; rw [sdel_same] at e; cases e
    rw [sdel_ne hb] at e
    obtain ⟨h1, o', h2, h3⟩ := c.cell b y e
    exact ⟨by rw [upd_ne hb]; exact h1, o', h2, h3.mono (same_upd f)⟩
  · rw [upd_ne (fun z => by subst z; rw [h] at e3; cases e3)]; exact e1
  · by_cases hb : b = p
    · subst hb; exact sdel_same
    · rw [sdel_ne hb]; exact e
end
end TL
/-! The tree logic: judgements without heap, over HandS's. -/
namespace TL
open PySem PySem.Spec PyProof.Rows L2

/-- what holds of the whole program -/
structure G where
  P : Program
  w : World
  K : PySem.W.Frag
  mg : Str → Option Value
  base : Heap
def gOf (X : Cx) : G := ⟨X.prog, X.w, X.K, X.mg, X.base⟩
/-- where the code stands: the names by slot, the scope, which names' cells are its own -/
structure Sx where
  N : List Str
  sc : Scope
  fn : Str → Bool
def Sx.blk (S : Sx) (scope : Scope) : Sx := ⟨S.N, relS scope S.sc, fun x => scope.names.lookup x == some .cell⟩
structure At (g : G) (k : Nat) (S : Sx) (X : Cx) : Prop where
  g : gOf X = g
  s : (⟨X.N, X.env.scope, X.fn⟩ : Sx) = S
  room : Room k X.A
  calm : X.calm = true
  nd : X.N.Nodup
  xe : X.xe = fun _ _ => False

/-! ### weakest readings -/
def semE (X : Cx) (e : Expr) : TE := fun σ H Q => ∀ (pins : List (Addr × Obj)) (s : Shared), Inv X pins σ H s → wpAny (model X.prog X.w) X.A (eval e X.env) (EP X pins σ Q) X.xe s
theorem pe_sem {X : Cx} {e : Expr} : PE X e (semE X e) := ⟨fun pins s _ _ _ I h => h pins s I⟩
theorem semE_of {X : Cx} {e : Expr} {t : TE} (p : PE X e t) {σ : L2.St} {H : Hp} {Q : VK} (h : t σ H Q) : semE X e σ H Q := fun pins s I => p.run pins s σ H Q I h
def semB (X : Cx) (e : Expr) : TT := fun σ H Q => ∀ (pins : List (Addr × Obj)) (s : Shared), Inv X pins σ H s → wpAny (model X.prog X.w) X.A (isTrue e X.env (eval e X.env)) (TP X pins σ Q) X.xe s
theorem pt_sem {X : Cx} {e : Expr} : PT X e (semB X e) := ⟨fun pins s _ _ _ I h => h pins s I⟩
theorem semB_of {X : Cx} {e : Expr} {t : TT} (p : PT X e t) {σ : L2.St} {H : Hp} {Q : Bool → Hp → Prop} (h : t σ H Q) : semB X e σ H Q := fun pins s I => p.run pins s σ H Q I h
def semP (X : Cx) (e : Expr) : TT := fun σ H Q => ∀ (whole : Sem Value) (pins : List (Addr × Obj)) (s : Shared), Inv X pins σ H s → wpAny (model X.prog X.w) X.A (isTrue e X.env whole) (TP X pins σ Q) X.xe s
theorem pw_sem {X : Cx} {e : Expr} : PW X e (semP X e) := ⟨fun wh pins s _ _ _ I h => h wh pins s I⟩
theorem semP_of {X : Cx} {e : Expr} {t : TT} (p : PW X e t) {σ : L2.St} {H : Hp} {Q : Bool → Hp → Prop} (h : t σ H Q) : semP X e σ H Q := fun wh pins s I => p.run wh pins s σ H Q I h
def semS (X : Cx) (st : Stmt) : TS := fun D σ H => ∀ (pins : List (Addr × Obj)) (s : Shared), Inv X pins σ H s → wpAny (model X.prog X.w) X.A (exec st X.env) (SP X pins D) X.xe s
theorem ps_sem {X : Cx} {st : Stmt} : PS X st (semS X st) := ⟨fun pins s _ _ _ I h => h pins s I⟩
theorem semS_of {X : Cx} {st : Stmt} {t : TS} (p : PS X st t) {D : Ends} {σ : L2.St} {H : Hp} (h : t D σ H) : semS X st D σ H := fun pins s I => p.run pins s σ H D I h
def semSs (X : Cx) (st : List Stmt) : TS := fun D σ H => ∀ (pins : List (Addr × Obj)) (s : Shared), Inv X pins σ H s → wpAny (model X.prog X.w) X.A (execs st X.env) (SP X pins D) X.xe s
theorem pss_sem {X : Cx} {st : List Stmt} : PSs X st (semSs X st) := ⟨fun pins s _ _ _ I h => h pins s I⟩
theorem semSs_of {X : Cx} {st : List Stmt} {t : TS} (p : PSs X st t) {D : Ends} {σ : L2.St} {H : Hp} (h : t D σ H) : semSs X st D σ H := fun pins s I => p.run pins s σ H D I h

/-! ### the environment -/
abbrev Rho := List (Option Vl)
structure EnvR (w : World) (F : Hp) (ρ : Rho) (σ : L2.St) : Prop where
  len : ρ.length = σ.length
  get : ∀ (i : Nat) (u : Vl), ρ[i]? = some (some u) → ∃ v, σ[i]? = some (some v) ∧ VRep w F u v
theorem EnvR.mono {w : World} {F F' : Hp} {ρ : Rho} {σ : L2.St} (e : EnvR w F ρ σ) (k : Same F F') : EnvR w F' ρ σ :=
  ⟨e.len, fun i u h => let ⟨v, a, b⟩ := e.get i u h; ⟨v, a, b.mono k⟩⟩
theorem EnvR.set {w : World} {F : Hp} {ρ : Rho} {σ : L2.St} (e : EnvR w F ρ σ) {i : Nat} {u : Vl} {v : V} (r : VRep w F u v) : EnvR w F (ρ.set i (some u)) (σ.set i (some v)) := by
  refine ⟨by rw [List.length_set, List.length_set, e.len], fun j x h => ?_⟩
  by_cases hj : i = j
  · subst hj
    have hi : i < ρ.length := by
      have := (List.getElem?_eq_some_iff.mp h).1
      rwa [List.length_set] at this
    rw [List.getElem?_set_self hi] at h
    cases h
    exact ⟨v, List.getElem?_set_self (by rw [← e.len]; exact hi), r⟩
  · rw [List.getElem?_set_ne hj] at h ⊢
    exact e.get j x h
/-- a comprehension's own names are forgotten -/
def wipR (ρ : Rho) : List Nat → Rho
  | [] => ρ
  | v :: vs => (wipR ρ vs).set v none
theorem EnvR.wipe {w : World} {F : Hp} {ρ : Rho} {σ : L2.St} (e : EnvR w F ρ σ) : ∀ vs : List Nat, EnvR w F (wipR ρ vs) (L2.wipe σ vs)
  | [] => e
  | v :: vs => by
    have ih := e.wipe vs
    refine ⟨by show ((wipR ρ vs).set v none).length = ((L2.wipe σ vs).set v none).length; rw [List.length_set, List.length_set, ih.len], fun j x h => ?_⟩
    have h : ((wipR ρ vs).set v none)[j]? = some (some x) := h
    show ∃ y, ((L2.wipe σ vs).set v none)[j]? = some (some y) ∧ _
    by_cases hj : v = j
    · subst hj
      by_cases hi : v < (wipR ρ vs).length
      · rw [List.getElem?_set_self hi] at h; cases h
      · rw [List.getElem?_eq_none (by simpa using hi)] at h; cases h
    · rw [List.getElem?_set_ne hj] at h ⊢
      exact ih.get j x h

/-! ### continuations -/
def Ct (w : World) (F H : Hp) (O : Store) (Q : Vl → Store → Prop) (Qc : VK) : Prop :=
  ∀ u v F' H' O', Stp F H O F' H' O' → Conc w F' H' O' → VRep w F' u v → Q u O' → Qc v H'
def CtB (w : World) (F H : Hp) (O : Store) (Q : Bool → Store → Prop) (Qc : Bool → Hp → Prop) : Prop :=
  ∀ b F' H' O', Stp F H O F' H' O' → Conc w F' H' O' → Q b O' → Qc b H'
/-- an expression -/
def W (g : G) (k : Nat) (S : Sx) (ρ : Rho) (O : Store) (e : Expr) (Q : Vl → Store → Prop) : Prop :=
  ∀ X, At g k S X → ∀ σ F H, EnvR g.w F ρ σ → Conc g.w F H O → ∀ Qc, Ct g.w F H O Q Qc → semE X e σ H Qc
/-- a test -/
def WB (g : G) (k : Nat) (S : Sx) (ρ : Rho) (O : Store) (e : Expr) (Q : Bool → Store → Prop) : Prop :=
  ∀ X, At g k S X → ∀ σ F H, EnvR g.w F ρ σ → Conc g.w F H O → ∀ Qc, CtB g.w F H O Q Qc → semB X e σ H Qc
/-- a chain of and, or -/
def WP (g : G) (k : Nat) (S : Sx) (ρ : Rho) (O : Store) (e : Expr) (Q : Bool → Store → Prop) : Prop :=
  ∀ X, At g k S X → ∀ σ F H, EnvR g.w F ρ σ → Conc g.w F H O → ∀ Qc, CtB g.w F H O Q Qc → semP X e σ H Qc
/-- arguments, from the left -/
def WA (g : G) (k : Nat) (S : Sx) (ρ : Rho) : List Expr → Store → (List Vl → Store → Prop) → Prop
  | [], O, Q => Q [] O
  | e :: es, O, Q => W g k S ρ O e fun u O1 => WA g k S ρ es O1 fun us O2 => Q (u :: us) O2
def AOk : List Expr → Prop
  | [] => True
  | e :: es => (∀ env, starEach (e :: es) env = (false, eval e env) :: starEach es env) ∧ AOk es
def tSem (X : Cx) : List Expr → TA
  | [] => tNil
  | e :: es => tCons (semE X e) (tSem X es)
theorem pa_sem {X : Cx} : ∀ {es : List Expr}, AOk es → PA X es (tSem X es)
  | [], _ => pa_nil
  | _ :: _, h => pa_cons pe_sem (pa_sem h.2) (h.1 _)
def CtL (w : World) (F H : Hp) (O : Store) (Q : List Vl → Store → Prop) (Qc : List V → Hp → Prop) : Prop :=
  ∀ us vs F' H' O', Stp F H O F' H' O' → Conc w F' H' O' → VReps w F' us vs → Q us O' → Qc vs H'

section
variable {g : G} {k : Nat} {S : Sx} {ρ : Rho} {O : Store} {pos : Pos}
theorem Ct.at {w : World} {F H F' H' : Hp} {O O' : Store} {Q : Vl → Store → Prop} {Qc : VK} (c : Ct w F H O Q Qc) (s : Stp F H O F' H' O') : Ct w F' H' O' Q Qc := fun u v F2 H2 O2 s2 c2 r q => c u v F2 H2 O2 (s.trans s2) c2 r q
theorem CtB.at {w : World} {F H F' H' : Hp} {O O' : Store} {Q : Bool → Store → Prop} {Qc : Bool → Hp → Prop} (c : CtB w F H O Q Qc) (s : Stp F H O F' H' O') : CtB w F' H' O' Q Qc := fun b F2 H2 O2 s2 c2 q => c b F2 H2 O2 (s.trans s2) c2 q
theorem W.mono {e : Expr} {Q Q' : Vl → Store → Prop} (h : W g k S ρ O e Q) (q : ∀ u O', Q u O' → Q' u O') : W g k S ρ O e Q' :=
  fun X a σ F H hE hC Qc hq => h X a σ F H hE hC Qc fun u v F' H' O' s c r z => hq u v F' H' O' s c r (q u O' z)
theorem WB.mono {e : Expr} {Q Q' : Bool → Store → Prop} (h : WB g k S ρ O e Q) (q : ∀ u O', Q u O' → Q' u O') : WB g k S ρ O e Q' :=
  fun X a σ F H hE hC Qc hq => h X a σ F H hE hC Qc fun u F' H' O' s c z => hq u F' H' O' s c (q u O' z)
theorem WA.run {X : Cx} (a : At g k S X) : ∀ {es : List Expr} {O : Store} {Q : List Vl → Store → Prop}, WA g k S ρ es O Q → ∀ {σ F H}, EnvR g.w F ρ σ → Conc g.w F H O → ∀ {Qc}, CtL g.w F H O Q Qc → tSem X es σ H Qc
  | [], _, _, h, _, _, _, _, hC, _, hq => hq [] [] _ _ _ Stp.refl hC .nil h
  | e :: es, _, _, h, _, _, _, hE, hC, _, hq => by
    refine h X a _ _ _ hE hC _ fun u v F1 H1 O1 s1 c1 r1 q1 => ?_
    exact WA.run a q1 (hE.mono s1.fr) c1 fun us vs F2 H2 O2 s2 c2 r2 q2 => hq _ _ _ _ _ (s1.trans s2) c2 (.cons (r1.mono s2.fr) r2) q2

theorem WA.mono : ∀ {es : List Expr} {O : Store} {R R' : List Vl → Store → Prop}, WA g k S ρ es O R → (∀ us O, R us O → R' us O) → WA g k S ρ es O R'
  | [], _, _, _, h, q => q _ _ h
  | e :: es, _, _, _, h, q => W.mono h fun u O1 z => WA.mono z fun us O z => q (u :: us) O z
theorem WA.len : ∀ {es : List Expr} {O : Store} {R : List Vl → Store → Prop}, WA g k S ρ es O R → WA g k S ρ es O fun us O1 => us.length = es.length ∧ R us O1
  | [], _, _, h => ⟨rfl, h⟩
  | e :: es, _, _, h => W.mono h fun u O1 z => WA.mono (WA.len z) fun us O z => ⟨by rw [List.length_cons, List.length_cons, z.1], z.2⟩

/-! ### names, constants -/
theorem w_var {x : Str} {i : Nat} {u : Vl} {Q : Vl → Store → Prop} (hN : S.N[i]? = some x) (hv : Vis S.sc x) (hρ : ρ[i]? = some (some u)) (h : Q u O) (hd : (x == ("__debug__" : Str)) = false := by decide) (hcd : (x == ("__classdict__" : Str)) = false := by decide) : W g k S ρ O (.Name x pos) Q := by
  intro X a σ F H hE hC Qc hq
  obtain ⟨v, hv1, hr⟩ := hE.get i u hρ
  have e := a.s
  subst e
  exact semE_of (pe_var hN hv hd hcd) ⟨v, hv1, hq u v F H O Stp.refl hC hr h⟩
theorem w_int {i j} {Q : Vl → Store → Prop} (h : Q (.t (.int i)) O) : W g k S ρ O (.Constant (.int i) j pos) Q :=
  fun X a σ F H hE hC Qc hq => semE_of pe_int (hq (.t (.int i)) _ F H O Stp.refl hC (Rep.int i) h)
theorem w_str {i j} {Q : Vl → Store → Prop} (h : Q (.t (.str i)) O) : W g k S ρ O (.Constant (.str i) j pos) Q :=
  fun X a σ F H hE hC Qc hq => semE_of pe_str (hq (.t (.str i)) _ F H O Stp.refl hC (Rep.str i) h)
theorem w_bl {i j} {Q : Vl → Store → Prop} (h : Q (.t (.bl i)) O) : W g k S ρ O (.Constant (.bool i) j pos) Q :=
  fun X a σ F H hE hC Qc hq => semE_of pe_bl (hq (.t (.bl i)) _ F H O Stp.refl hC (Rep.bl i) h)
theorem w_non {j} {Q : Vl → Store → Prop} (h : Q (.t .non) O) : W g k S ρ O (.Constant .none j pos) Q :=
  fun X a σ F H hE hC Qc hq => semE_of pe_non (hq (.t .non) _ F H O Stp.refl hC Rep.non h)
def GlS (S : Sx) (x : Str) : Prop := S.sc.names.lookup x = some .globalImplicit
/-- a text of the module -/
theorem w_gstr {x z : Str} {t : Tok} {Q : Vl → Store → Prop} (hg : GlS S x) (hm : g.mg x = some (.str z t)) (h : Q (.t (.str z)) O) (hd : (x == ("__debug__" : Str)) = false := by decide) : W g k S ρ O (.Name x pos) Q := by
  intro X a σ F H hE hC Qc hq
  have e := a.s
  subst e
  have e := a.g
  subst e
  exact semE_of (pe_glob (v := .str z) hg hm ⟨t, rfl⟩ hd) (hq (.t (.str z)) _ F H O Stp.refl hC (Rep.str z) h)

/-! ### operations by values -/
/-- a two-place operation -/
def BOp (g : G) (k : Nat) (f : Value → Value → Sem Value) (tr : Vl → Vl → Store → (Vl → Store → Prop) → Prop) : Prop :=
  ∀ X S, At g k S X → ∃ r : R2, OpR X f r ∧ ∀ F H O x y vx vy Q Qc, Conc g.w F H O → VRep g.w F x vx → VRep g.w F y vy → Ct g.w F H O Q Qc → tr x y O Q → r vx vy H Qc
theorem w_bin {a b : Expr} {op : Operator} {tr} {Q : Vl → Store → Prop} (ho : BOp g k (binaryOp op) tr) (h : W g k S ρ O a fun x O1 => W g k S ρ O1 b fun y O2 => tr x y O2 Q) : W g k S ρ O (.BinOp a op b pos) Q := by
  intro X A σ F H hE hC Qc hq
  obtain ⟨r, hr, hl⟩ := ho X S A
  refine semE_of (pe_op hr pe_sem pe_sem) ?_
  refine h X A σ F H hE hC _ fun x vx F1 H1 O1 s1 c1 r1 q1 => ?_
  refine q1 X A σ F1 H1 (hE.mono s1.fr) c1 _ fun y vy F2 H2 O2 s2 c2 r2 q2 => ?_
  exact hl F2 H2 O2 x y vx vy Q Qc c2 (r1.mono s2.fr) r2 (hq.at (s1.trans s2)) q2
theorem w_cmp {a b : Expr} {op : CmpOp} {tr} {Q : Vl → Store → Prop} (ho : BOp g k (compareOp op) tr) (h : W g k S ρ O a fun x O1 => W g k S ρ O1 b fun y O2 => tr x y O2 Q) (hm : behindInMarks op b = false) : W g k S ρ O (.Compare a [op] [b] pos) Q := by
  intro X A σ F H hE hC Qc hq
  obtain ⟨r, hr, hl⟩ := ho X S A
  refine semE_of (pe_cmpR hr pe_sem pe_sem hm) ?_
  refine h X A σ F H hE hC _ fun x vx F1 H1 O1 s1 c1 r1 q1 => ?_
  refine q1 X A σ F1 H1 (hE.mono s1.fr) c1 _ fun y vy F2 H2 O2 s2 c2 r2 q2 => ?_
  exact hl F2 H2 O2 x y vx vy Q Qc c2 (r1.mono s2.fr) r2 (hq.at (s1.trans s2)) q2
theorem vrep_bl {w : World} {F : Hp} {b : Bool} {v : V} (r : VRep w F (.t (.bl b)) v) : v = .bl b := by cases r; rfl
theorem wb_cmp {a b : Expr} {op : CmpOp} {tr} {Q : Bool → Store → Prop} (ho : BOp g k (compareOp op) tr) (h : W g k S ρ O a fun x O1 => W g k S ρ O1 b fun y O2 => tr x y O2 fun u O3 => ∃ c, u = .t (.bl c) ∧ Q c O3) (hm : behindInMarks op b = false) : WB g k S ρ O (.Compare a [op] [b] pos) Q := by
  intro X A σ F H hE hC Qc hq
  obtain ⟨r, hr, hl⟩ := ho X S A
  refine semB_of (pt_cmpR hr pe_sem pe_sem hm) ?_
  refine h X A σ F H hE hC _ fun x vx F1 H1 O1 s1 c1 r1 q1 => ?_
  refine q1 X A σ F1 H1 (hE.mono s1.fr) c1 _ fun y vy F2 H2 O2 s2 c2 r2 q2 => ?_
  refine hl F2 H2 O2 x y vx vy _ _ c2 (r1.mono s2.fr) r2 (fun u v F3 H3 O3 s3 c3 r3 q3 => ?_) q2
  obtain ⟨c, rfl, q3⟩ := q3
  exact ⟨c, vrep_bl r3, hq c F3 H3 O3 ((s1.trans s2).trans s3) c3 q3⟩
/-- an expression of a truth as a test -/
theorem wb_val {e : Expr} {Q : Bool → Store → Prop} (h : W g k S ρ O e fun u O1 => ∃ c, u = .t (.bl c) ∧ Q c O1) (he : ∀ env whole, isTrue e env whole = (do let v ← whole; standAt e.pos; holding [v] (truthy v))) : WB g k S ρ O e Q := by
  intro X A σ F H hE hC Qc hq
  refine semB_of (pt_val pe_sem (he _)) ?_
  refine h X A σ F H hE hC _ fun u v F1 H1 O1 s1 c1 r1 q1 => ?_
  obtain ⟨c, rfl, q1⟩ := q1
  exact ⟨c, vrep_bl r1, hq c F1 H1 O1 s1 c1 q1⟩
theorem wb_not {e : Expr} {Q : Bool → Store → Prop} (h : WB g k S ρ O e fun c O1 => Q (!c) O1) : WB g k S ρ O (.UnaryOp .Not e pos) Q := by
  intro X A σ F H hE hC Qc hq
  exact semB_of (pt_not pt_sem) (h X A σ F H hE hC _ fun c F1 H1 O1 s1 c1 q1 => hq _ _ _ _ s1 c1 q1)
theorem wb_chain {e : Expr} {Q : Bool → Store → Prop} (h : WP g k S ρ O e Q) : WB g k S ρ O e Q :=
  fun X A σ F H hE hC Qc hq => semB_of (PW.pt pw_sem) (h X A σ F H hE hC Qc hq)
theorem wp_one {a : Expr} {op : BoolOp} {Q : Bool → Store → Prop} (h : WB g k S ρ O a Q) : WP g k S ρ O (.BoolOp op [a] pos) Q := by
  intro X A σ F H hE hC Qc hq
  cases op with
  | And => exact semP_of (pw_and1 pt_sem) (h X A σ F H hE hC Qc hq)
  | Or => exact semP_of (pw_or1 pt_sem) (h X A σ F H hE hC Qc hq)
theorem wp_and {a b : Expr} {rest : List Expr} {Q : Bool → Store → Prop} (h : WB g k S ρ O a fun c O1 => (c = true → WP g k S ρ O1 (.BoolOp .And (b :: rest) pos) Q) ∧ (c = false → Q false O1)) : WP g k S ρ O (.BoolOp .And (a :: b :: rest) pos) Q := by
  intro X A σ F H hE hC Qc hq
  refine semP_of (pw_and pt_sem pw_sem) (h X A σ F H hE hC _ fun c F1 H1 O1 s1 c1 q1 => ?_)
  cases c with
  | true => exact iteT (q1.1 rfl X A σ F1 H1 (hE.mono s1.fr) c1 Qc (hq.at s1))
  | false => exact iteF (hq _ _ _ _ s1 c1 (q1.2 rfl))
theorem wp_or {a b : Expr} {rest : List Expr} {Q : Bool → Store → Prop} (h : WB g k S ρ O a fun c O1 => (c = true → Q true O1) ∧ (c = false → WP g k S ρ O1 (.BoolOp .Or (b :: rest) pos) Q)) : WP g k S ρ O (.BoolOp .Or (a :: b :: rest) pos) Q := by
  intro X A σ F H hE hC Qc hq
  refine semP_of (pw_or pt_sem pw_sem) (h X A σ F H hE hC _ fun c F1 H1 O1 s1 c1 q1 => ?_)
  cases c with
  | true => exact iteT (hq _ _ _ _ s1 c1 (q1.1 rfl))
  | false => exact iteF (q1.2 rfl X A σ F1 H1 (hE.mono s1.fr) c1 Qc (hq.at s1))
/-- and, or, not as values -/
theorem w_one {a : Expr} {op : BoolOp} {Q : Vl → Store → Prop} (h : W g k S ρ O a Q) : W g k S ρ O (.BoolOp op [a] pos) Q :=
  fun X A σ F H hE hC Qc hq => semE_of (pe_one pe_sem) (h X A σ F H hE hC Qc hq)
theorem w_and {a b : Expr} {rest : List Expr} {Q : Vl → Store → Prop} (h : W g k S ρ O a fun u O1 => ∃ c, u = .t (.bl c) ∧ (c = true → W g k S ρ O1 (.BoolOp .And (b :: rest) pos) Q) ∧ (c = false → Q (.t (.bl false)) O1)) : W g k S ρ O (.BoolOp .And (a :: b :: rest) pos) Q := by
  intro X A σ F H hE hC Qc hq
  refine semE_of (pe_and pe_sem pe_sem) (h X A σ F H hE hC _ fun u v F1 H1 O1 s1 c1 r1 q1 => ?_)
  obtain ⟨c, rfl, q1⟩ := q1
  refine ⟨c, vrep_bl r1, ?_⟩
  cases c with
  | true => exact iteT (q1.1 rfl X A σ F1 H1 (hE.mono s1.fr) c1 Qc (hq.at s1))
  | false => exact iteF (hq (.t (.bl false)) _ _ _ _ s1 c1 (Rep.bl false) (q1.2 rfl))
theorem w_or {a b : Expr} {rest : List Expr} {Q : Vl → Store → Prop} (h : W g k S ρ O a fun u O1 => ∃ c, u = .t (.bl c) ∧ (c = true → Q (.t (.bl true)) O1) ∧ (c = false → W g k S ρ O1 (.BoolOp .Or (b :: rest) pos) Q)) : W g k S ρ O (.BoolOp .Or (a :: b :: rest) pos) Q := by
  intro X A σ F H hE hC Qc hq
  refine semE_of (pe_or pe_sem pe_sem) (h X A σ F H hE hC _ fun u v F1 H1 O1 s1 c1 r1 q1 => ?_)
  obtain ⟨c, rfl, q1⟩ := q1
  refine ⟨c, vrep_bl r1, ?_⟩
  cases c with
  | true => exact iteT (hq (.t (.bl true)) _ _ _ _ s1 c1 (Rep.bl true) (q1.1 rfl))
  | false => exact iteF (q1.2 rfl X A σ F1 H1 (hE.mono s1.fr) c1 Qc (hq.at s1))
theorem w_not {a : Expr} {Q : Vl → Store → Prop} (h : W g k S ρ O a fun u O1 => ∃ c, u = .t (.bl c) ∧ Q (.t (.bl (!c))) O1) : W g k S ρ O (.UnaryOp .Not a pos) Q := by
  intro X A σ F H hE hC Qc hq
  refine semE_of (pe_not pe_sem) (h X A σ F H hE hC _ fun u v F1 H1 O1 s1 c1 r1 q1 => ?_)
  obtain ⟨c, rfl, q1⟩ := q1
  exact ⟨c, vrep_bl r1, hq (.t (.bl _)) _ _ _ _ s1 c1 (Rep.bl _) q1⟩
theorem w_if {c a b : Expr} {Q : Vl → Store → Prop} (h : WB g k S ρ O c fun d O1 => (d = true → W g k S ρ O1 a Q) ∧ (d = false → W g k S ρ O1 b Q)) : W g k S ρ O (.IfExp c a b pos) Q := by
  intro X A σ F H hE hC Qc hq
  refine semE_of (pe_ifExp pt_sem pe_sem pe_sem) (h X A σ F H hE hC _ fun d F1 H1 O1 s1 c1 q1 => ?_)
  cases d with
  | true => exact iteT (q1.1 rfl X A σ F1 H1 (hE.mono s1.fr) c1 Qc (hq.at s1))
  | false => exact iteF (q1.2 rfl X A σ F1 H1 (hE.mono s1.fr) c1 Qc (hq.at s1))

/-! ### calls -/
/-- a built-in by values -/
def BCall (g : G) (k : Nat) (f : Value) (tr : List Vl → Store → (Vl → Store → Prop) → Prop) : Prop :=
  ∀ X S, At g k S X → ∃ r, CallR X f r ∧ ∀ F H O xs vs Q Qc, Conc g.w F H O → VReps g.w F xs vs → Ct g.w F H O Q Qc → tr xs O Q → r vs H Qc
theorem w_callB {x : Str} {p : Pos} {e : Expr} {es : List Expr} {id : String} {tr} {Q : Vl → Store → Prop} (hc : BCall g k (.builtin id) tr) (hg : GlS S x) (hm : g.mg x = none) (hv : bootBuiltins x = some (.builtin id)) (ha : AOk (e :: es)) (h : WA g k S ρ (e :: es) O fun us O1 => tr us O1 Q)
    (hn : x ≠ "__name__" := by decide) (hdb : (x == ("__debug__" : Str)) = false := by decide) (hpl : ∀ env, (backTo pos (starEach es env)).any (·.1) = false := by intro _; rfl) : W g k S ρ O (.Call (.Name x p) (e :: es) [] pos) Q := by
  intro X A σ F H hE hC Qc hq
  obtain ⟨r, hr, hl⟩ := hc X S A
  have h' := WA.run A h hE hC (Qc := fun vs H1 => r vs H1 Qc) fun us vs F1 H1 O1 s1 c1 r1 q1 => hl F1 H1 O1 us vs Q Qc c1 r1 (hq.at s1) q1
  have e := A.s
  subst e
  have e := A.g
  subst e
  exact semE_of (pe_callB hr hg hm hv (pa_sem ha) hn hdb (ha.1 _) (hpl _)) h'
theorem w_callTy {x : Str} {p : Pos} {e : Expr} {es : List Expr} {ty : String} {tr} {Q : Vl → Store → Prop} (hc : BCall g k (.type ty) tr) (hg : GlS S x) (hm : g.mg x = none) (hv : bootBuiltins x = some (.type ty)) (ha : AOk (e :: es)) (h : WA g k S ρ (e :: es) O fun us O1 => tr us O1 Q)
    (hn : x ≠ "__name__" := by decide) (hdb : (x == ("__debug__" : Str)) = false := by decide) (hpl : ∀ env, (backTo pos (starEach es env)).any (·.1) = false := by intro _; rfl) : W g k S ρ O (.Call (.Name x p) (e :: es) [] pos) Q := by
  intro X A σ F H hE hC Qc hq
  obtain ⟨r, hr, hl⟩ := hc X S A
  have h' := WA.run A h hE hC (Qc := fun vs H1 => r vs H1 Qc) fun us vs F1 H1 O1 s1 c1 r1 q1 => hl F1 H1 O1 us vs Q Qc c1 r1 (hq.at s1) q1
  have e := A.s
  subst e
  have e := A.g
  subst e
  exact semE_of (pe_callTy hr hg hm hv (pa_sem ha) hn hdb (ha.1 _) (hpl _)) h'

/-- what a def promises: the arguments, the cells it may see, what is wanted -/
abbrev Tsp := List Vl → Store → (Vl → Store → Prop) → Prop
/-- .. as HandS has it: the caller picks the cells that the def may see -/
def spOf (w : World) (n : Nat) (ts : Tsp) : Sp := fun vs H Q _ => vs.length = n ∧ ∃ F O us, Conc w F H O ∧ VReps w F us vs ∧ ∃ R, ts us O R ∧ Ct w F H O R Q
/-- the def that the module's name x stands for -/
structure Def (g : G) (x : Str) (n k : Nat) (ts : Tsp) : Prop where
  ex : ∃ f fd ps, g.mg x = some (.ref f) ∧ PySem.W.keepIn g.K (.ref f) = true ∧ Binds g.K fd ps [] ∧ FnOk g.P g.w g.K g.mg g.base CX0 k f fd ps (spOf g.w n ts)
/-- the cells of a store that are left to a call, the others stay -/
structure Part (O O1 : Store) : Prop where
  sub : ∀ b c, O1 b = some c → O b = some c
/-- O behind a call that saw O1 and left O2 of it -/
def joinS (O O1 O2 : Store) : Store := fun b => match O2 b with
  | some c => some c
  | none => match O1 b with
    | some _ => none
    | none => O b
theorem call_frame {w : World} {F H F' H' : Hp} {O O1 O2 : Store} (p : Part O O1) (c : Conc w F H O) (c' : Conc w F' H' O2) (s : Stp F H O1 F' H' O2) : Conc w F' H' (joinS O O1 O2) ∧ Stp F H O F' H' (joinS O O1 O2) := by
  have hO : ∀ {b x}, O b = some x → H b ≠ none := fun {b x} e => by obtain ⟨_, o, h, _⟩ := c.cell b x e; rw [h]; simp
  refine ⟨⟨c'.sub, fun b x e => ?_⟩, s.fr, fun b o e n => ?_, fun b h1 h2 h3 => ?_, fun b h1 h2 => ?_⟩
  · unfold joinS at e
    cases q2 : O2 b with
    | some y => rw [q2] at e; cases e; exact c'.cell b _ q2
    | none =>
      rw [q2] at e
      cases q1 : O1 b with
      | some y => rw [q1] at e; cases e
      | none =>
        rw [q1] at e
        have e : O b = some x := e
        obtain ⟨f, o, h, r⟩ := c.cell b x e
        exact ⟨s.nF b f (by rw [h]; simp) q1, o, s.out b o h q1, r.mono s.fr⟩
  · have : O1 b = none := by
      cases q : O1 b with
      | none => rfl
      | some y => rw [p.sub b y q] at n; cases n
    exact s.out b o e this
  · have : O1 b = none := by
      cases q : O1 b with
      | none => rfl
      | some y => rw [p.sub b y q] at h3; cases h3
    exact s.nF b h1 h2 this
  · have q1 : O1 b = none := by
      cases q : O1 b with
      | none => rfl
      | some y => rw [p.sub b y q] at h2; cases h2
    unfold joinS
    rw [s.nO b h1 q1, q1]
    exact h2
theorem w_call {x : Str} {p : Pos} {e : Expr} {es : List Expr} {n j : Nat} {ts : Tsp} {Q : Vl → Store → Prop} (D : Def g x n j ts) (hj : j ≤ k) (hg : GlS S x) (ha : AOk (e :: es)) (hl : (e :: es).length = n)
    (h : WA g k S ρ (e :: es) O fun us O1 => ∃ O', Part O1 O' ∧ ts us O' fun u O2 => Q u (joinS O1 O' O2))
    (hdb : (x == ("__debug__" : Str)) = false := by decide) (hpl : ∀ env, (backTo pos (starEach es env)).any (·.1) = false := by intro _; rfl) : W g k S ρ O (.Call (.Name x p) (e :: es) [] pos) Q := by
  intro X A σ F H hE hC Qc hq
  obtain ⟨f, fd, ps, h1, h2, h3, h4⟩ := D.ex
  have h' := WA.run A (WA.len h) hE hC (Qc := fun vs H1 => spOf g.w n ts (vs ++ []) H1 Qc E0) (by
    intro us vs F1 H1 O1 s1 c1 r1 hh
    obtain ⟨hu, O', pt, q1⟩ := hh
    rw [List.append_nil]
    refine ⟨by rw [← r1.length, hu, hl], F1, O', us, ⟨c1.sub, fun b c e => c1.cell b c (pt.sub b c e)⟩, r1, _, q1, fun u v F2 H2 O2 s2 c2 r2 q2 => ?_⟩
    obtain ⟨a, b⟩ := call_frame pt c1 c2 s2
    exact hq u v F2 H2 _ (s1.trans b) a r2 q2)
  have e := A.s
  subst e
  have e := A.g
  subst e
  exact semE_of (pe_call h4 (A.room.mono hj) hg h1 h2 h3 .nil pass0 (pa_sem ha) hdb (ha.1 _) (hpl _)) h'
end
end TL
/-! The tree logic: what is walked, targets, comprehensions, statements. -/
namespace TL
open PySem PySem.Spec PyProof.Rows L2

def semI (X : Cx) (tg iter : Expr) : TI := fun σ H R => ∀ (pins : List (Addr × Obj)) (s : Shared), Inv X pins σ H s →
  wpAny (model X.prog X.w) X.A (eval iter X.env) (fun v s1 => wpAny (model X.prog X.w) X.A (pyIter v) (PIE X pins σ tg R) X.xe s1) X.xe s
theorem pi_sem {X : Cx} {tg iter : Expr} : PI X tg iter (semI X tg iter) := ⟨fun pins s _ _ _ I h => h pins s I⟩
theorem semI_of {X : Cx} {tg iter : Expr} {t : TI} (p : PI X tg iter t) {σ : L2.St} {H : Hp} {R : It → Hp → Prop} (h : t σ H R) : semI X tg iter σ H R := fun pins s I => p.run pins s σ H R I h
def semG (X : Cx) (tg : Expr) : TG := fun v σ H Q => ∀ (pins : List (Addr × Obj)) (s : Shared) (u : Value), Inv X pins σ H s → RelV v u → wpAny (model X.prog X.w) X.A (assign tg X.env u) (fun _ s' => ∃ σ' H', Inv X pins σ' H' s' ∧ Q σ' H') X.xe s
theorem pg_sem {X : Cx} {tg : Expr} : PG X tg (semG X tg) := ⟨fun pins s _ _ _ u _ I r h => h pins s u I r⟩
theorem semG_of {X : Cx} {tg : Expr} {t : TG} (p : PG X tg t) {v : V} {σ : L2.St} {H : Hp} {Q : L2.St → Hp → Prop} (h : t v σ H Q) : semG X tg v σ H Q := fun pins s u I r => p.run pins s σ H v u Q I r h

/-- the iterator J gives the items xs, whatever the frozen heap grows to -/
def Yields (w : World) (J : It) (xs : List Vl) (F : Hp) : Prop := ∀ i H2, Same F H2 →
  (∀ u, xs[i]? = some u → J.go i H2 ∧ ∀ x H3, J.yld i H2 x H3 → (H3 = H2 ∧ VRep w F u x) ∨ ∃ p o, H2 p = none ∧ H3 = upd H2 p o ∧ VRep w (upd F p o) u x) ∧ (i = xs.length → J.stop i H2)
/-- what is walked -/
def WI (g : G) (k : Nat) (S : Sx) (ρ : Rho) (O : Store) (tg iter : Expr) (Q : List Vl → Store → Prop) : Prop :=
  ∀ X, At g k S X → ∀ σ F H, EnvR g.w F ρ σ → Conc g.w F H O → ∀ R : It → Hp → Prop, (∀ xs J F' H' O', Stp F H O F' H' O' → Conc g.w F' H' O' → Yields g.w J xs F' → Q xs O' → R J H') → semI X tg iter σ H R
/-- a target: the value u goes to the slots is -/
def WG (g : G) (k : Nat) (S : Sx) (tg : Expr) (is : List Nat) (u : Vl) (ρ ρ' : Rho) : Prop :=
  ∀ X, At g k S X → ∀ σ F H O vx, EnvR g.w F ρ σ → Conc g.w F H O → VRep g.w F u vx → ∀ Qc : L2.St → Hp → Prop,
    (∀ σ', EnvR g.w F ρ' σ' → (∀ vs : List Nat, (∀ i ∈ is, i ∈ vs) → L2.wipe σ' vs = L2.wipe σ vs) → Qc σ' H) → semG X tg vx σ H Qc

theorem wipe_len (σ : L2.St) : ∀ vs : List Nat, (L2.wipe σ vs).length = σ.length := L2.wipe_length σ
theorem wipe_get (σ : L2.St) (j : Nat) : ∀ vs : List Nat, (L2.wipe σ vs)[j]? = if j ∈ vs then (if j < σ.length then some none else none) else σ[j]?
  | [] => by simp [L2.wipe]
  | v :: vs => by
    show ((L2.wipe σ vs).set v none)[j]? = _
    by_cases h : v = j
    · subst h
      rw [if_pos List.mem_cons_self]
      by_cases hl : v < σ.length
      · rw [if_pos hl, List.getElem?_set_self (by rw [L2.wipe_length]; exact hl)]
      · rw [if_neg hl, List.getElem?_eq_none (by rw [List.length_set, L2.wipe_length]; omega)]
    · rw [List.getElem?_set_ne h, wipe_get σ j vs]
      by_cases hm : j ∈ vs
      · rw [if_pos hm, if_pos (List.mem_cons_of_mem _ hm)]
      · rw [if_neg hm, if_neg (by simp only [List.mem_cons, not_or]; exact ⟨fun e => h e.symm, hm⟩)]
theorem wipe_set {σ : L2.St} {i : Nat} {x : Option V} {vs : List Nat} (h : i ∈ vs) : L2.wipe (σ.set i x) vs = L2.wipe σ vs := by
  refine List.ext_getElem? fun j => ?_
  rw [wipe_get, wipe_get]
  by_cases hj : j ∈ vs
  · rw [if_pos hj, if_pos hj, List.length_set]
  · rw [if_neg hj, if_neg hj, List.getElem?_set_ne (fun e => hj (by rw [← e]; exact h))]

section
variable {g : G} {k : Nat} {S : Sx} {ρ : Rho} {O : Store} {pos : Pos}
def LocS (S : Sx) (x : Str) : Prop := Loc S.sc x ∧ (S.fn x = true ∨ S.sc.names.lookup x = some .local)
theorem wg_name {x : Str} {i : Nat} {u : Vl} (hi : S.N[i]? = some x) (hx : LocS S x) : WG g k S (.Name x pos) [i] u ρ (ρ.set i (some u)) := by
  intro X A σ F H O vx hE hC hr Qc hq
  have nd := A.nd
  have e := A.s
  subst e
  refine semG_of (pg_name nd hi hx.1 hx.2) (hq _ (hE.set hr) fun vs h => ?_)
  exact wipe_set (h i (by simp))
/-- several names, one after another -/
inductive Put : List Nat → List Vl → Rho → Rho → Prop
  | nil (r : Rho) : Put [] [] r r
  | cons (i : Nat) (is : List Nat) (u : Vl) (us : List Vl) (r r' : Rho) : Put is us (r.set i (some u)) r' → Put (i :: is) (u :: us) r r'
def gPut : List Nat → TGs
  | [] => gNil
  | i :: is => gCons (gName i) (gPut is)
/-- names as targets: the slots -/
inductive Nms (S : Sx) : List Expr → List Nat → Prop
  | nil : Nms S [] []
  | cons {x : Str} {i : Nat} {p : Pos} {es : List Expr} {is : List Nat} : S.N[i]? = some x → LocS S x → Nms S es is → Nms S (.Name x p :: es) (i :: is)
theorem pgs_nms {X : Cx} (A : At g k S X) : ∀ {es : List Expr} {is : List Nat}, Nms S es is → PGs X es (gPut is)
  | _, _, .nil => pgs_nil
  | _, _, .cons hi hx r => by
    have ih := pgs_nms A r
    have nd := A.nd
    have e := A.s
    subst e
    exact pgs_cons (pg_name nd hi hx.1 hx.2) ih
theorem gPut_run {w : World} {F H : Hp} {Qc : L2.St → Hp → Prop} : ∀ {is : List Nat} {us : List Vl} {ρ ρ' : Rho} {vs : List V} {σ : L2.St}, Put is us ρ ρ' → VReps w F us vs → EnvR w F ρ σ →
    (∀ σ', EnvR w F ρ' σ' → (∀ ws : List Nat, (∀ i ∈ is, i ∈ ws) → L2.wipe σ' ws = L2.wipe σ ws) → Qc σ' H) → gPut is vs σ H Qc
  | _, _, _, _, _, _, .nil _, .nil, hE, hq => ⟨rfl, hq _ hE fun _ _ => rfl⟩
  | _, _, _, _, _, _, .cons i is _ _ _ _ p, .cons r rs, hE, hq => ⟨_, _, rfl, gPut_run p rs (hE.set r) fun σ' e' hw => hq σ' e' fun ws hm => by
      rw [hw ws fun j hj => hm j (List.mem_cons_of_mem _ hj), wipe_set (hm i List.mem_cons_self)]⟩
theorem VReps.of_repl {w : World} {F : Hp} {ts : List T} {vs : List V} (r : RepL w F ts vs) : VReps w F (ts.map Vl.t) vs := r.vreps
theorem wg_tup {es : List Expr} {is : List Nat} {kk : Nat} {ts : List T} {ρ' : Rho} (hn : Nms S es is) (hp : Put is (ts.map Vl.t) ρ ρ') (ha : ∀ env, (assignEach es env).length = is.length ∧ (assignEach es env).findIdx? (·.1) = none) :
    WG g k S (.Tuple es kk pos) is (.t (.tup ts)) ρ ρ' := by
  intro X A σ F H O vx hE hC hr Qc hq
  cases hr with
  | @tup a vs ts e r =>
    refine semG_of (pg_tup A.calm (pgs_nms A hn) (ha _).1 (ha _).2) ⟨a, vs, rfl, .inl (.inl (hC.sub _ _ e)), ?_, gPut_run hp r.vreps hE hq⟩
    have l1 := r.length
    have : ∀ {is : List Nat} {us : List Vl} {ρ ρ' : Rho}, Put is us ρ ρ' → is.length = us.length := by
      intro is us ρ ρ' p
      induction p with
      | nil => rfl
      | cons _ _ _ _ _ _ _ ih => simp [ih]
    have l2 := this hp
    rw [List.length_map] at l2
    rw [← l1, ← l2]
theorem wg_lst {es : List Expr} {is : List Nat} {kk : Nat} {ts : List T} {ρ' : Rho} (hn : Nms S es is) (hp : Put is (ts.map Vl.t) ρ ρ') (ha : ∀ env, (assignEach es env).length = is.length ∧ (assignEach es env).findIdx? (·.1) = none) :
    WG g k S (.Tuple es kk pos) is (.t (.lst ts)) ρ ρ' := by
  intro X A σ F H O vx hE hC hr Qc hq
  cases hr with
  | @lst a vs ts e r =>
    refine semG_of (pg_unl A.calm (pgs_nms A hn) (ha _).1 (ha _).2) ⟨a, vs, rfl, .inl (.inl (hC.sub _ _ e)), ?_, gPut_run hp r.vreps hE hq⟩
    have l1 := r.length
    have : ∀ {is : List Nat} {us : List Vl} {ρ ρ' : Rho}, Put is us ρ ρ' → is.length = us.length := by
      intro is us ρ ρ' p
      induction p with
      | nil => rfl
      | cons _ _ _ _ _ _ _ ih => simp [ih]
    have l2 := this hp
    rw [List.length_map] at l2
    rw [← l1, ← l2]

/-! ### what is walked -/
theorem wi_mono {tg iter : Expr} {Q Q' : List Vl → Store → Prop} (h : WI g k S ρ O tg iter Q) (q : ∀ xs O', Q xs O' → Q' xs O') : WI g k S ρ O tg iter Q' :=
  fun X A σ F H hE hC R hR => h X A σ F H hE hC R fun xs J F' H' O' s c y z => hR xs J F' H' O' s c y (q _ _ z)
theorem same_rd {F H : Hp} (s : Same F H) {K : PySem.W.Frag} {a : Addr} {vs : List V} (e : F a = some (.lst vs)) : SqL K H a vs := .inl (.inl (s _ _ e))
/-- a list, a tuple that is frozen -/
theorem wi_list {tg e : Expr} {Q : List Vl → Store → Prop} (h : W g k S ρ O e fun u O1 => ∃ ts, u = .t (.lst ts) ∧ Q (ts.map Vl.t) O1) : WI g k S ρ O tg e Q := by
  intro X A σ F H hE hC R hR
  refine semI_of (pi_list pe_sem) (h X A σ F H hE hC _ fun u v F1 H1 O1 s1 c1 r1 q1 => ?_)
  obtain ⟨ts, rfl, q1⟩ := q1
  cases r1 with
  | @lst a vs ts e r =>
    refine ⟨a, rfl, ⟨vs, same_rd c1.sub e⟩, hR _ _ F1 H1 O1 s1 c1 (fun i H2 sm => ⟨fun u hu => ?_, fun hi => ?_⟩) q1⟩
    · rw [List.getElem?_map] at hu
      cases ht : ts[i]? with
      | none => rw [ht] at hu; cases hu
      | some t =>
        rw [ht] at hu
        cases hu
        obtain ⟨v, h1, h2⟩ := r.get ht
        exact ⟨⟨vs, v, same_rd sm e, h1⟩, fun x H3 y => .inl ⟨y.1, by rw [Option.some.inj ((y.2 vs (same_rd sm e)).symm.trans h1)]; exact h2⟩⟩
    · refine ⟨vs, same_rd sm e, ?_⟩
      rw [hi, List.length_map, r.length]
      exact Nat.le_refl _
theorem wi_tup {tg e : Expr} {Q : List Vl → Store → Prop} (h : W g k S ρ O e fun u O1 => ∃ ts, u = .t (.tup ts) ∧ Q (ts.map Vl.t) O1) : WI g k S ρ O tg e Q := by
  intro X A σ F H hE hC R hR
  refine semI_of (pi_tup pe_sem) (h X A σ F H hE hC _ fun u v F1 H1 O1 s1 c1 r1 q1 => ?_)
  obtain ⟨ts, rfl, q1⟩ := q1
  cases r1 with
  | @tup a vs ts e r =>
    have rd : ∀ {H : Hp}, Same F1 H → SqT X.K H a vs := fun s => .inl (.inl (s _ _ e))
    refine ⟨a, rfl, ⟨vs, rd c1.sub⟩, hR _ _ F1 H1 O1 s1 c1 (fun i H2 sm => ⟨fun u hu => ?_, fun hi => ?_⟩) q1⟩
    · rw [List.getElem?_map] at hu
      cases ht : ts[i]? with
      | none => rw [ht] at hu; cases hu
      | some t =>
        rw [ht] at hu
        cases hu
        obtain ⟨v, h1, h2⟩ := r.get ht
        exact ⟨⟨vs, v, rd sm, h1⟩, fun x H3 y => .inl ⟨y.1, by rw [Option.some.inj ((y.2 vs (rd sm)).symm.trans h1)]; exact h2⟩⟩
    · refine ⟨vs, rd sm, ?_⟩
      rw [hi, List.length_map, r.length]
      exact Nat.le_refl _
/-- the numbers of a range -/
def rng (lo : Int) (n : Nat) : List Int := (List.range n).map fun (i : Nat) => lo + (i : Int)
theorem rng_len (lo : Int) (n : Nat) : (rng lo n).length = n := by simp [rng]
theorem yields_rng {w : World} {F : Hp} (lo : Int) (n : Nat) : Yields w (Itr lo n) ((rng lo n).map fun i => Vl.t (.int i)) F := fun i H2 sm => by
  refine ⟨fun u hu => ?_, fun hi => ?_⟩
  · unfold rng at hu
    rw [List.getElem?_map, List.getElem?_map] at hu
    by_cases hl : i < n
    · rw [List.getElem?_range hl] at hu
      cases hu
      exact ⟨hl, fun x H3 y => .inl ⟨y.1, by rw [y.2]; exact Rep.int _⟩⟩
    · rw [List.getElem?_eq_none (by simp; omega)] at hu; cases hu
  · rw [List.length_map, rng_len] at hi
    exact Nat.le_of_eq hi.symm
theorem wi_range1 {tg a : Expr} {p : Pos} {Q : List Vl → Store → Prop} (hg : GlS S "range") (hm : g.mg "range" = none) (ha : AOk [a])
    (h : W g k S ρ O a fun u O1 => ∃ j : Int, u = .t (.int j) ∧ -(2 ^ 62) ≤ j ∧ j < 2 ^ 62 ∧ Q ((rng 0 j.toNat).map fun i => Vl.t (.int i)) O1) : WI g k S ρ O tg (.Call (.Name "range" p) [a] [] pos) Q := by
  intro X A σ F H hE hC R hR
  have h' : tSem X [a] σ H fun vs H1 => ∃ j : Int, vs = [.int j] ∧ -(2 ^ 62) ≤ j ∧ j < 2 ^ 62 ∧ R (Itr 0 j.toNat) H1 := h X A σ F H hE hC _ fun u v F1 H1 O1 s1 c1 r1 q1 => by
    obtain ⟨j, rfl, h1, h2, q1⟩ := q1
    cases r1
    exact ⟨j, rfl, h1, h2, hR _ _ F1 H1 O1 s1 c1 (yields_rng 0 _) q1⟩
  have e := A.s
  subst e
  have e := A.g
  subst e
  exact semI_of (pi_range1 hg hm (pa_sem ha) (by rw [ha.1]; rfl)) h'
theorem wi_range2 {tg a b : Expr} {p : Pos} {Q : List Vl → Store → Prop} (hg : GlS S "range") (hm : g.mg "range" = none) (ha : AOk [a, b])
    (h : W g k S ρ O a fun u O1 => ∃ i : Int, u = .t (.int i) ∧ W g k S ρ O1 b fun u O2 => ∃ j : Int, u = .t (.int j) ∧ (-(2 ^ 62) ≤ i ∧ i < 2 ^ 62 ∧ -(2 ^ 62) ≤ j ∧ j < 2 ^ 62) ∧ Q ((rng i (j - i).toNat).map fun i => Vl.t (.int i)) O2) :
    WI g k S ρ O tg (.Call (.Name "range" p) [a, b] [] pos) Q := by
  intro X A σ F H hE hC R hR
  have h' : tSem X [a, b] σ H fun vs H1 => ∃ i j : Int, vs = [.int i, .int j] ∧ (-(2 ^ 62) ≤ i ∧ i < 2 ^ 62 ∧ -(2 ^ 62) ≤ j ∧ j < 2 ^ 62) ∧ R (Itr i (j - i).toNat) H1 := h X A σ F H hE hC _ fun u v F1 H1 O1 s1 c1 r1 q1 => by
    obtain ⟨i, rfl, q1⟩ := q1
    cases r1
    refine q1 X A σ F1 H1 (hE.mono s1.fr) c1 _ fun u v F2 H2 O2 s2 c2 r2 q2 => ?_
    obtain ⟨j, rfl, hb, q2⟩ := q2
    cases r2
    exact ⟨i, j, rfl, hb, hR _ _ F2 H2 O2 (s1.trans s2) c2 (yields_rng i _) q2⟩
  have e := A.s
  subst e
  have e := A.g
  subst e
  exact semI_of (pi_range2 hg hm (pa_sem ha) (by rw [ha.1, ha.2.1]; rfl) (by rw [ha.2.1]; rfl)) h'
/-- a text, sign by sign -/
theorem wi_str {tg e : Expr} {Q : List Vl → Store → Prop} (h : W g k S ρ O e fun u O1 => ∃ x : Str, u = .t (.str x) ∧ Q (x.cps.toList.map fun c => Vl.t (.str ⟨#[c]⟩)) O1) : WI g k S ρ O tg e Q := by
  intro X A σ F H hE hC R hR
  refine semI_of (pi_str pe_sem) (h X A σ F H hE hC _ fun u v F1 H1 O1 s1 c1 r1 q1 => ?_)
  obtain ⟨x, rfl, q1⟩ := q1
  cases r1
  refine ⟨x, rfl, hR _ _ F1 H1 O1 s1 c1 (fun i H2 sm => ⟨fun u hu => ?_, fun hi => ?_⟩) q1⟩
  · rw [List.getElem?_map] at hu
    cases ht : x.cps.toList[i]? with
    | none => rw [ht] at hu; cases hu
    | some c =>
      rw [ht] at hu
      cases hu
      have : x.cps[i]? = some c := by rw [← Array.getElem?_toList]; exact ht
      refine ⟨(Array.getElem?_eq_some_iff.mp this).1, fun y H3 z => .inl ⟨z.1, ?_⟩⟩
      obtain ⟨z1, c', z2, z3⟩ := z
      rw [this] at z2
      cases z2
      subst z3
      exact Rep.str _
  · rw [hi, List.length_map, Array.length_toList]
    exact Nat.le_refl _
end
end TL
/-! The tree logic: comprehensions, statements. -/
namespace TL
open PySem PySem.Spec PyProof.Rows L2

theorem paired_app {α β : Type} {R : α → β → Prop} : ∀ {a c : List α} {b d : List β}, Paired R a b → Paired R c d → Paired R (a ++ c) (b ++ d)
  | _, _, _, _, .nil, q => q
  | _, _, _, _, .cons r t, q => .cons r (paired_app t q)
section
variable {g : G} {k : Nat} {S : Sx} {ρ : Rho} {O : Store} {pos : Pos}

theorem At.blk {X : Cx} (A : At g k S X) {s : Shared} {H : Hp} {scope : Scope} {cenv : Env} {fp : List Addr} (hsc : cenv.scope = relS scope X.env.scope) : At g k (S.blk scope) (X.blk s H scope cenv fp) := by
  have e := A.s
  subst e
  refine ⟨A.g, ?_, A.room, A.calm, A.nd, rfl⟩
  show (⟨X.N, cenv.scope, _⟩ : Sx) = _
  rw [hsc]
  rfl

/-- tests of a clause -/
def WT (g : G) (k : Nat) (S : Sx) (ρ : Rho) (O : Store) : List Expr → (Bool → Store → Prop) → Prop
  | [], Q => Q true O
  | [c], Q => WB g k S ρ O c Q
  | _, _ => False
def semT (X : Cx) : List Expr → TT
  | [] => tYes
  | [c] => semB X c
  | _ => fun _ _ _ => False
theorem pts_sem {X : Cx} : ∀ {ifs : List Expr}, PTs X ifs (semT X ifs)
  | [] => pts_nil
  | [_] => pts_one pt_sem
  | _ :: _ :: _ => ⟨fun _ _ _ _ _ _ h => h.elim⟩
theorem WT.run {X : Cx} (A : At g k S X) : ∀ {ifs : List Expr} {O : Store} {Q : Bool → Store → Prop}, WT g k S ρ O ifs Q → ∀ {σ F H}, EnvR g.w F ρ σ → Conc g.w F H O → ∀ {Qc}, CtB g.w F H O Q Qc → semT X ifs σ H Qc
  | [], _, _, h, _, _, _, _, hC, _, hq => hq _ _ _ _ Stp.refl hC h
  | [c], _, _, h, _, _, _, hE, hC, _, hq => h X A _ _ _ hE hC _ hq
  | _ :: _ :: _, _, _, h, _, _, _, _, _, _, _ => h.elim

/-- the state within a comprehension: D stands apart -/
structure Apart (w : World) (D : Addr) (F H : Hp) (O : Store) (vs : List V) : Prop where
  c : Conc w F H O
  f : F D = none
  o : O D = none
  h : H D = some (.lst vs)
theorem Apart.step {w : World} {D : Addr} {F H F' H' : Hp} {O O' : Store} {vs : List V} (a : Apart w D F H O vs) (s : Stp F H O F' H' O') (c : Conc w F' H' O') : Apart w D F' H' O' vs :=
  ⟨c, s.nF D a.f (by rw [a.h]; simp) a.o, s.nO D (by rw [a.h]; simp) a.o, s.out D _ a.h a.o⟩
theorem Apart.put {w : World} {D : Addr} {F H F1 H1 : Hp} {O O1 : Store} {vs ws : List V} (a : Apart w D F H O vs) (hn : H1 D = none) (s : Stp F1 H1 O1 F H O) : Apart w D F (upd H D (.lst ws)) O ws ∧ Stp F1 H1 O1 F (upd H D (.lst ws)) O := by
  refine ⟨⟨⟨fun b x e => ?_, fun b x e => ?_⟩, a.f, a.o, upd_same⟩, s.fr, fun b x e n => ?_, s.nF, s.nO⟩
  · rw [upd_ne (ne_of_none e a.f)]; exact a.c.sub b x e
  · have hb : b ≠ D := fun z => by subst z; rw [a.o] at e; cases e
    obtain ⟨h1, o, h2, h3⟩ := a.c.cell b x e
    exact ⟨h1, o, by rw [upd_ne hb]; exact h2, h3⟩
  · rw [upd_ne (ne_of_none e hn)]; exact s.out b x e n

/-- the new object that an iterator gives out -/
theorem yield_in {w : World} {F H : Hp} {O : Store} {u : Vl} {x : V} {H3 : Hp} {F0 : Hp} (c : Conc w F H O) (sm : Same F0 F) (y : (H3 = H ∧ VRep w F0 u x) ∨ ∃ p o, H p = none ∧ H3 = upd H p o ∧ VRep w (upd F0 p o) u x) :
    ∃ F3, Stp F H O F3 H3 O ∧ Conc w F3 H3 O ∧ VRep w F3 u x := by
  rcases y with ⟨rfl, r⟩ | ⟨p, o, hp, rfl, r⟩
  · exact ⟨F, Stp.refl, c, r.mono sm⟩
  · obtain ⟨c', s'⟩ := c.newF (o := o) hp
    refine ⟨_, s', c', r.mono fun b z e => ?_⟩
    by_cases hb : b = p
    · subst hb; rw [upd_same] at e ⊢; exact e
    · rw [upd_ne hb] at e ⊢; exact sm b z e

def gAll (X : Cx) (scope : Scope) (tg : Expr) : TG := fun v σ H Q => ∀ (s : Shared) (H' : Hp) (C : Addr) (cl : List (Str × Addr)) (fp : List Addr), semG (X.blk s H' scope (compEnvC scope cl C X.env) fp) tg v σ H Q
def tAll (X : Cx) (scope : Scope) (ifs : List Expr) : TT := fun σ H Q => ∀ (s : Shared) (H' : Hp) (C : Addr) (cl : List (Str × Addr)) (fp : List Addr), semT (X.blk s H' scope (compEnvC scope cl C X.env) fp) ifs σ H Q
def eAll (X : Cx) (scope : Scope) (elt : Expr) : TE := fun σ H Q => ∀ (s : Shared) (H' : Hp) (C : Addr) (cl : List (Str × Addr)) (fp : List Addr), semE (X.blk s H' scope (compEnvC scope cl C X.env) fp) elt σ H Q
theorem gAll_ok {X : Cx} {scope : Scope} {tg : Expr} (s : Shared) (H' : Hp) (C : Addr) (cl : List (Str × Addr)) (fp : List Addr) : PG (X.blk s H' scope (compEnvC scope cl C X.env) fp) tg (gAll X scope tg) := ⟨fun pins s' σ H v u Q I r h => h s H' C cl fp pins s' u I r⟩
theorem tAll_ok {X : Cx} {scope : Scope} {ifs : List Expr} (s : Shared) (H' : Hp) (C : Addr) (cl : List (Str × Addr)) (fp : List Addr) : PTs (X.blk s H' scope (compEnvC scope cl C X.env) fp) ifs (tAll X scope ifs) := ⟨fun pins s' σ H Q I h => pts_sem.run pins s' σ H Q I (h s H' C cl fp)⟩
theorem eAll_ok {X : Cx} {scope : Scope} {elt : Expr} (s : Shared) (H' : Hp) (C : Addr) (cl : List (Str × Addr)) (fp : List Addr) : PE (X.blk s H' scope (compEnvC scope cl C X.env) fp) elt (eAll X scope elt) := ⟨fun pins s' σ H Q I h => h s H' C cl fp pins s' I⟩
/-- THE COMPREHENSION: I by the turn, what is made so far, the store -/
theorem lc_read {elt tg iter : Expr} {ifs : List Expr} {scope : Scope} (own : List (Str × Nat)) {is : List Nat} {Q : Vl → Store → Prop} (ok : blkC S.N S.sc scope own = true) (his : ∀ i ∈ is, i ∈ own.map (·.2))
    (hf : ∀ env x, foldedSetIterable iter env x = pure x)
    (h : WI g k S ρ O tg iter fun xs O1 => ∃ I : Nat → List Vl → Store → Prop, I 0 [] O1 ∧
      (∀ i u acc O2, xs[i]? = some u → I i acc O2 → acc.length ≤ i → ∃ ρ2, WG g k (S.blk scope) tg is u (wipR ρ (own.map (·.2))) ρ2 ∧ WT g k (S.blk scope) ρ2 O2 ifs fun b O3 =>
        if b = true then W g k (S.blk scope) ρ2 O3 elt fun y O4 => I (i + 1) (acc ++ [y]) O4 else I (i + 1) acc O3) ∧
      xs.length ≤ sizeLine ∧ ∀ acc O2, I xs.length acc O2 → (∃ ts : List T, acc = ts.map Vl.t ∧ Q (.t (.lst ts)) O2) ∨ (∀ D, O2 D = none → Q (.cell D) (sup O2 D (.lst acc)))) 
    {X : Cx} (A : At g k S X) {σ : L2.St} {F H : Hp} (hE : EnvR g.w F ρ σ) (hC : Conc g.w F H O) {Qc : VK} (hq : Ct g.w F H O Q Qc) : tLc (semI X tg iter) (gAll X scope tg) (tAll X scope ifs) (eAll X scope elt) (own.map (·.2)) σ H Qc := by
  have A' := A
  have e := A'.s
  subst e
  refine h X A σ F H hE hC _ fun xs J F1 H1 O1 s1 c1 ys ⟨I, I0, step, hz, fin⟩ => ?_
  intro D hD
  have hA : ∀ (s : Shared) (H' : Hp) (C : Addr) (cl : List (Str × Addr)) (fp : List Addr), At g k (Sx.blk ⟨X.N, X.env.scope, X.fn⟩ scope) (X.blk s H' scope (compEnvC scope cl C X.env) fp) := fun s H' C cl fp => A.blk rfl
  have ap0 : Apart g.w D F1 (upd H1 D (.lst [])) O1 [] := by
    obtain ⟨f, n⟩ := c1.free hD
    refine ⟨⟨fun b x e => ?_, fun b x e => ?_⟩, f, n, upd_same⟩
    · rw [upd_ne (ne_of_none e f)]; exact c1.sub b x e
    · have hb : b ≠ D := fun z => by subst z; rw [n] at e; cases e
      obtain ⟨h1, o, h2, h3⟩ := c1.cell b x e
      exact ⟨h1, o, by rw [upd_ne hb]; exact h2, h3⟩
  have st0 : Stp F1 H1 O1 F1 (upd H1 D (.lst [])) O1 := ⟨Same.refl _, fun b x e _ => by rw [upd_ne (ne_of_none e hD)]; exact e, fun _ e _ _ => e, fun _ _ e => e⟩
  have wl : (L2.wipe σ (own.map (·.2))).length = σ.length := L2.wipe_length _ _
  refine ⟨fun i m H2 => m = xs.length - i ∧ i ≤ xs.length ∧ ∃ F2 O2 acc vs, Apart g.w D F2 H2 O2 vs ∧ Stp F1 H1 O1 F2 H2 O2 ∧ VReps g.w F2 acc vs ∧ acc.length ≤ i ∧ I i acc O2, ⟨xs.length, by simp, Nat.zero_le _, F1, O1, [], [], ap0, st0, .nil, Nat.le_refl _, I0⟩, ?_⟩
  rintro i m H2 ⟨rfl, hi, F2, O2, acc, vs, ap, st, rv, hl, hI⟩
  have yy := ys i H2 ((st.fr).trans ap.c.sub)
  by_cases hlt : i < xs.length
  · have hu : xs[i]? = some xs[i] := List.getElem?_eq_getElem hlt
    obtain ⟨go, yl⟩ := yy.1 _ hu
    obtain ⟨ρ2, hG, hT⟩ := step i _ acc O2 hu hI hl
    refine .inr ⟨go, fun H3 => ∃ F3 O3 acc vs, Apart g.w D F3 H3 O3 vs ∧ Stp F1 H1 O1 F3 H3 O3 ∧ VReps g.w F3 acc vs ∧ acc.length ≤ i + 1 ∧ I (i + 1) acc O3, fun H3 n3 => ⟨xs.length - (i + 1), by omega, rfl, hlt, n3⟩, fun x H3 y3 => ?_⟩
    obtain ⟨F3, s3, c3, r3⟩ := yield_in ap.c st.fr (yl x H3 y3)
    have ap3 := ap.step s3 c3
    have st3 := st.trans s3
    intro s H' C cl fp
    refine hG _ (hA s H' C cl fp) _ F3 H3 O2 x ((hE.mono (s1.fr.trans st3.fr)).wipe _) c3 r3 _ fun σ2 hE2 hw => ?_
    refine ⟨(hw _ his).trans ?_, ?_⟩
    · refine List.ext_getElem? fun j => ?_
      rw [wipe_get, wipe_get, wl]
      split <;> rfl
    · intro s' H'' C' cl' fp'
      refine WT.run (hA s' H'' C' cl' fp') hT hE2 c3 fun b F4 H4 O4 s4 c4 q4 => ?_
      have ap4 := ap3.step s4 c4
      cases b with
      | false => exact iteF ⟨F4, O4, acc, vs, ap4, st3.trans s4, rv.mono (s3.fr.trans s4.fr), by omega, (by simpa using q4)⟩
      | true =>
        have q4 : W g k (Sx.blk ⟨X.N, X.env.scope, X.fn⟩ scope) ρ2 O4 elt fun y O4 => I (i + 1) (acc ++ [y]) O4 := by simpa using q4
        refine iteT fun s'' H''' C'' cl'' fp'' => q4 _ (hA s'' H''' C'' cl'' fp'') _ F4 H4 (hE2.mono s4.fr) c4 _ fun y v F5 H5 O5 s5 c5 r5 q5 => ?_
        have ap5 := ap4.step s5 c5
        have st5 := (st3.trans s4).trans s5
        have rv5 := rv.mono (s3.fr.trans (s4.fr.trans s5.fr))
        obtain ⟨ap6, st6⟩ := ap5.put (ws := vs ++ [v]) hD st5
        refine ⟨vs, ap5.h, ?_, F5, O5, acc ++ [y], vs ++ [v], ap6, st6, ?_, by rw [List.length_append]; simpa using hl, q5⟩
        · rw [← rv.length]; omega
        · exact paired_app rv5 (.cons r5 .nil)
  · have e : i = xs.length := by omega
    subst e
    refine .inl ⟨yy.2 rfl, ?_⟩
    rcases fin acc O2 hI with ⟨ts, rfl, q⟩ | q
    · have cc : Conc g.w (upd F2 D (.lst vs)) H2 O2 := by
        refine ⟨fun b x e => ?_, fun b x e => ?_⟩
        · by_cases hb : b = D
          · subst hb; rw [upd_same] at e; cases e; exact ap.h
          · rw [upd_ne hb] at e; exact ap.c.sub b x e
        · have hb : b ≠ D := fun z => by subst z; rw [ap.o] at e; cases e
          obtain ⟨h1, o, h2, h3⟩ := ap.c.cell b x e
          exact ⟨by rw [upd_ne hb]; exact h1, o, h2, h3.mono (same_upd ap.f)⟩
      have ss : Stp F1 H1 O1 (upd F2 D (.lst vs)) H2 O2 := ⟨st.fr.trans (same_upd ap.f), st.out, fun b e1 e2 e3 => by rw [upd_ne (fun z => by subst z; exact e2 hD)]; exact st.nF b e1 e2 e3, st.nO⟩
      exact hq (.t (.lst ts)) _ _ _ _ (s1.trans ss) cc (Rep.lst upd_same (rv.mono (same_upd ap.f)).repl) q
    · have cc : Conc g.w F2 H2 (sup O2 D (.lst acc)) := by
        refine ⟨ap.c.sub, fun b x e => ?_⟩
        by_cases hb : b = D
        · subst hb; rw [sup_same] at e; cases e; exact ⟨ap.f, _, ap.h, vs, rfl, rv⟩
        · rw [sup_ne hb] at e; exact ap.c.cell b x e
      have ss : Stp F1 H1 O1 F2 H2 (sup O2 D (.lst acc)) := ⟨st.fr, st.out, st.nF, fun b e2 e3 => by rw [sup_ne (fun z => by subst z; exact e2 hD)]; exact st.nO b e2 e3⟩
      exact hq (.cell D) _ _ _ _ (s1.trans ss) cc rfl (q D ap.o)


theorem w_lc {elt tg iter : Expr} {ifs : List Expr} {scope : Scope} (own : List (Str × Nat)) {is : List Nat} {Q : Vl → Store → Prop} (ok : blkC S.N S.sc scope own = true) (his : ∀ i ∈ is, i ∈ own.map (·.2))
    (hf : ∀ env x, foldedSetIterable iter env x = pure x)
    (h : WI g k S ρ O tg iter fun xs O1 => ∃ I : Nat → List Vl → Store → Prop, I 0 [] O1 ∧
      (∀ i u acc O2, xs[i]? = some u → I i acc O2 → acc.length ≤ i → ∃ ρ2, WG g k (S.blk scope) tg is u (wipR ρ (own.map (·.2))) ρ2 ∧ WT g k (S.blk scope) ρ2 O2 ifs fun b O3 =>
        if b = true then W g k (S.blk scope) ρ2 O3 elt fun y O4 => I (i + 1) (acc ++ [y]) O4 else I (i + 1) acc O3) ∧
      xs.length ≤ sizeLine ∧ ∀ acc O2, I xs.length acc O2 → (∃ ts : List T, acc = ts.map Vl.t ∧ Q (.t (.lst ts)) O2) ∨ (∀ D, O2 D = none → Q (.cell D) (sup O2 D (.lst acc)))) : W g k S ρ O (.ListComp elt [⟨tg, iter, ifs, 0⟩] scope pos) Q := by
  intro X A σ F H hE hC Qc hq
  have r := lc_read own (scope := scope) (elt := elt) ok his hf h A hE hC hq
  have e := A.s
  subst e
  exact semE_of (pe_lc A.calm A.nd pi_sem (blkOk_by ok) gAll_ok tAll_ok eAll_ok (hf _)) r

/-! ### statements -/
structure TD where
  nx : Rho → Store → Prop
  rt : Vl → Store → Prop
  bk : Rho → Store → Prop := fun _ _ => False
  ct : Rho → Store → Prop := fun _ _ => False
structure CtS (w : World) (F H : Hp) (O : Store) (D : TD) (Dc : Ends) : Prop where
  nx : ∀ ρ' σ' F' H' O', Stp F H O F' H' O' → Conc w F' H' O' → EnvR w F' ρ' σ' → D.nx ρ' O' → Dc.nx σ' H'
  rt : ∀ u v F' H' O', Stp F H O F' H' O' → Conc w F' H' O' → VRep w F' u v → D.rt u O' → Dc.rt v H'
  bk : ∀ ρ' σ' F' H' O', Stp F H O F' H' O' → Conc w F' H' O' → EnvR w F' ρ' σ' → D.bk ρ' O' → Dc.bk σ' H'
  ct : ∀ ρ' σ' F' H' O', Stp F H O F' H' O' → Conc w F' H' O' → EnvR w F' ρ' σ' → D.ct ρ' O' → Dc.ct σ' H'
theorem CtS.at {w : World} {F H F' H' : Hp} {O O' : Store} {D : TD} {Dc : Ends} (c : CtS w F H O D Dc) (s : Stp F H O F' H' O') : CtS w F' H' O' D Dc :=
  ⟨fun r σ F2 H2 O2 s2 => c.nx r σ F2 H2 O2 (s.trans s2), fun u v F2 H2 O2 s2 => c.rt u v F2 H2 O2 (s.trans s2), fun r σ F2 H2 O2 s2 => c.bk r σ F2 H2 O2 (s.trans s2), fun r σ F2 H2 O2 s2 => c.ct r σ F2 H2 O2 (s.trans s2)⟩
def W1 (g : G) (k : Nat) (S : Sx) (ρ : Rho) (O : Store) (st : Stmt) (D : TD) : Prop :=
  ∀ X, At g k S X → ∀ σ F H, EnvR g.w F ρ σ → Conc g.w F H O → ∀ Dc, CtS g.w F H O D Dc → semS X st Dc σ H
def WS (g : G) (k : Nat) (S : Sx) (ρ : Rho) (O : Store) (st : List Stmt) (D : TD) : Prop :=
  ∀ X, At g k S X → ∀ σ F H, EnvR g.w F ρ σ → Conc g.w F H O → ∀ Dc, CtS g.w F H O D Dc → semSs X st Dc σ H
theorem ws_nil {D : TD} (h : D.nx ρ O) : WS g k S ρ O [] D :=
  fun X A σ F H hE hC Dc hq => semSs_of pss_nil (hq.nx _ _ _ _ _ Stp.refl hC hE h)
theorem ws_cons {st : Stmt} {rest : List Stmt} {D : TD} (h : W1 g k S ρ O st { D with nx := fun ρ1 O1 => WS g k S ρ1 O1 rest D }) : WS g k S ρ O (st :: rest) D :=
  fun X A σ F H hE hC Dc hq => semSs_of (pss_cons ps_sem pss_sem) (h X A σ F H hE hC _ ⟨fun ρ1 σ1 F1 H1 O1 s1 c1 e1 q1 => q1 X A σ1 F1 H1 e1 c1 Dc (hq.at s1), hq.rt, hq.bk, hq.ct⟩)
theorem ws_one {st : Stmt} {D : TD} (h : W1 g k S ρ O st D) : WS g k S ρ O [st] D :=
  fun X A σ F H hE hC Dc hq => semSs_of (pss_one ps_sem) (h X A σ F H hE hC Dc hq)
theorem w1_ret {e : Expr} {D : TD} (h : W g k S ρ O e fun u O1 => D.rt u O1) : W1 g k S ρ O (.Return (some e) pos) D :=
  fun X A σ F H hE hC Dc hq => semS_of (ps_ret pe_sem) (h X A σ F H hE hC _ fun u v F1 H1 O1 s1 c1 r1 q1 => hq.rt u v F1 H1 O1 s1 c1 r1 q1)
theorem w1_if {c : Expr} {a b : List Stmt} {D : TD} (h : WB g k S ρ O c fun d O1 => (d = true → WS g k S ρ O1 a D) ∧ (d = false → WS g k S ρ O1 b D)) : W1 g k S ρ O (.If c a b pos) D := by
  intro X A σ F H hE hC Dc hq
  refine semS_of (ps_if pt_sem pss_sem pss_sem) (h X A σ F H hE hC _ fun d F1 H1 O1 s1 c1 q1 => ?_)
  cases d with
  | true => exact iteT (q1.1 rfl X A σ F1 H1 (hE.mono s1.fr) c1 Dc (hq.at s1))
  | false => exact iteF (q1.2 rfl X A σ F1 H1 (hE.mono s1.fr) c1 Dc (hq.at s1))
theorem w1_set {x : Str} {i : Nat} {e : Expr} {p : Pos} {D : TD} (hi : S.N[i]? = some x) (hx : LocS S x) (hs : ∀ env, swapsWith e (some (.Name x p)) pos.line env = pure false) (h : W g k S ρ O e fun u O1 => D.nx (ρ.set i (some u)) O1) : W1 g k S ρ O (.Assign [.Name x p] e pos) D := by
  intro X A σ F H hE hC Dc hq
  have h' := h X A σ F H hE hC (fun x H1 => gName i x σ H1 Dc.nx) fun u v F1 H1 O1 s1 c1 r1 q1 => hq.nx _ _ F1 H1 O1 s1 c1 ((hE.mono s1.fr).set r1) q1
  have nd := A.nd
  have e := A.s
  subst e
  exact semS_of (ps_set nd hi hx.1 pe_sem (hs _) hx.2) h'
/-- a target of any form -/
theorem w1_asg {tg e : Expr} {D : TD} (hs : ∀ env, swapsWithSole [tg] e pos.line env = pure false) (hw : ∀ env, swappedStores [tg] e env = pure none) (h1 : ∀ env, (assignEach [tg] env).map (·.2) = [assign tg env])
    (h : W g k S ρ O e fun u O1 => ∃ is ρ2, WG g k S tg is u ρ ρ2 ∧ D.nx ρ2 O1) : W1 g k S ρ O (.Assign [tg] e pos) D := by
  intro X A σ F H hE hC Dc hq
  refine semS_of (ps_asg pe_sem pg_sem (hs _) (hw _) (h1 _)) (h X A σ F H hE hC _ fun u v F1 H1 O1 s1 c1 r1 ⟨is, ρ2, hG, q1⟩ => ?_)
  exact hG X A σ F1 H1 O1 v (hE.mono s1.fr) c1 r1 _ fun σ' e' _ => hq.nx _ _ F1 H1 O1 s1 c1 e' q1
/-- a, b = e1, e2 -/
theorem w1_par {x y : Str} {i j : Nat} {a b : Expr} {px py pt : Pos} {kt k2 : Nat} {pt2 : Pos} {D : TD} (hi : S.N[i]? = some x) (hj : S.N[j]? = some y) (hij : i ≠ j) (hx : S.sc.names.lookup x = some .local) (hy : S.sc.names.lookup y = some .local) (ha : AOk [a, b])
    (hw : ∀ env : Env, env.scope = S.sc → swappedStores [.Tuple [.Name x px, .Name y py] kt pt] (.Tuple [a, b] k2 pt2) env = pure (some [x, y])) (hs : ∀ env, swapsWithSole [.Tuple [.Name x px, .Name y py] kt pt] (.Tuple [a, b] k2 pt2) pos.line env = pure false)
    (h : W g k S ρ O a fun u O1 => W g k S ρ O1 b fun v O2 => D.nx ((ρ.set i (some u)).set j (some v)) O2) : W1 g k S ρ O (.Assign [.Tuple [.Name x px, .Name y py] kt pt] (.Tuple [a, b] k2 pt2) pos) D := by
  intro X A σ F H hE hC Dc hq
  have h' : tPar i j (tSem X [a, b]) Dc σ H := h X A σ F H hE hC _ fun u v F1 H1 O1 s1 c1 r1 q1 => q1 X A σ F1 H1 (hE.mono s1.fr) c1 _ fun u2 v2 F2 H2 O2 s2 c2 r2 q2 =>
    ⟨v, v2, rfl, hq.nx _ _ F2 H2 O2 (s1.trans s2) c2 (((hE.mono (s1.trans s2).fr).set (r1.mono s2.fr)).set r2) q2⟩
  have nd := A.nd
  have e := A.s
  subst e
  exact semS_of (ps_par A.calm nd hi hj hij hx hy (pa_sem ha) (hw _ rfl) (hs _)) h'
/-- name = [..] on one line -/
theorem w1_setLc {y : Str} {j : Nat} {py : Pos} {elt tg iter : Expr} {ifs : List Expr} {scope : Scope} (own : List (Str × Nat)) {is : List Nat} {D : TD} (ok : blkC S.N S.sc scope own = true) (his : ∀ i ∈ is, i ∈ own.map (·.2))
    (hy : S.N[j]? = some y) (hl : S.sc.names.lookup y = some .local) (hk : S.sc.kind = .function) (hln : (py.line == pos.line) = true) {spos : Pos} (hsn : (scope.names.any fun (n, k) => n == y && (k == .local || k == .cell)) = false) (hf : ∀ env x, foldedSetIterable iter env x = pure x)
    (h : WI g k S ρ O tg iter fun xs O1 => ∃ I : Nat → List Vl → Store → Prop, I 0 [] O1 ∧
      (∀ i u acc O2, xs[i]? = some u → I i acc O2 → acc.length ≤ i → ∃ ρ2, WG g k (S.blk scope) tg is u (wipR ρ (own.map (·.2))) ρ2 ∧ WT g k (S.blk scope) ρ2 O2 ifs fun b O3 =>
        if b = true then W g k (S.blk scope) ρ2 O3 elt fun y O4 => I (i + 1) (acc ++ [y]) O4 else I (i + 1) acc O3) ∧
      xs.length ≤ sizeLine ∧ ∀ acc O2, I xs.length acc O2 → (∃ ts : List T, acc = ts.map Vl.t ∧ D.nx (ρ.set j (some (.t (.lst ts)))) O2) ∨ (∀ d, O2 d = none → D.nx (ρ.set j (some (.cell d))) (sup O2 d (.lst acc)))) : W1 g k S ρ O (.Assign [.Name y py] (.ListComp elt [⟨tg, iter, ifs, 0⟩] scope pos) spos) D := by
  intro X A σ F H hE hC Dc hq
  have r := lc_read own (scope := scope) (elt := elt) (Q := fun u O' => D.nx (ρ.set j (some u)) O') ok his hf h A hE hC (Qc := fun x H1 => gName j x σ H1 Dc.nx) fun u v F' H' O' s' c' r' q' => hq.nx _ _ _ _ _ s' c' ((hE.mono s'.fr).set r') q'
  have e := A.s
  subst e
  exact semS_of (ps_setLc A.calm A.nd hy hl (sw_true hk hl hln hsn) pi_sem (blkOk_by ok) gAll_ok tAll_ok eAll_ok (hf _)) r
theorem w1_never {st : Stmt} {D : TD} (h : False) : W1 g k S ρ O st D := h.elim
theorem w1_expr {e : Expr} {D : TD} (hs : ∀ env, swapsWith e none pos.line env = pure false) (h : W g k S ρ O e fun _ O1 => D.nx ρ O1) : W1 g k S ρ O (.Expr e pos) D :=
  fun X A σ F H hE hC Dc hq => semS_of (ps_expr pe_sem (hs _)) (h X A σ F H hE hC _ fun u v F1 H1 O1 s1 c1 r1 q1 => hq.nx _ _ F1 H1 O1 s1 c1 (hE.mono s1.fr) q1)
/-- for: I by the turn, the names, the store -/
theorem w1_for {tg iter : Expr} {body : List Stmt} {D : TD} (hf : ∀ env x, foldedSetIterable iter env x = pure x)
    (h : WI g k S ρ O tg iter fun xs O1 => ∃ I : Nat → Rho → Store → Prop, I 0 ρ O1 ∧ (∀ i u ρ1 O2, xs[i]? = some u → I i ρ1 O2 → ∃ is ρ2, WG g k S tg is u ρ1 ρ2 ∧ WS g k S ρ2 O2 body { D with nx := I (i + 1), ct := I (i + 1), bk := D.nx }) ∧
      ∀ ρ1 O2, I xs.length ρ1 O2 → D.nx ρ1 O2) : W1 g k S ρ O (.For tg iter body [] pos) D := by
  intro X A σ F H hE hC Dc hq
  have hp : PassesOwn (model X.prog X.w) X.A X.env X.xe := by rw [A.xe]; exact PassesOwn.never
  refine semS_of (ps_for hp A.calm pi_sem pg_sem pss_sem (hf _)) (h X A σ F H hE hC _ fun xs J F1 H1 O1 s1 c1 ys ⟨I, I0, step, fin⟩ => ?_)
  refine ⟨fun i m σ2 H2 => m = xs.length - i ∧ i ≤ xs.length ∧ ∃ ρ2 F2 O2, Conc g.w F2 H2 O2 ∧ Stp F1 H1 O1 F2 H2 O2 ∧ EnvR g.w F2 ρ2 σ2 ∧ I i ρ2 O2, ⟨xs.length, by simp, Nat.zero_le _, ρ, F1, O1, c1, Stp.refl, hE.mono s1.fr, I0⟩, ?_⟩
  rintro i m σ2 H2 ⟨rfl, hi, ρ2, F2, O2, c2, s2, e2, hI⟩
  have yy := ys i H2 (s2.fr.trans c2.sub)
  by_cases hlt : i < xs.length
  · have hu : xs[i]? = some xs[i] := List.getElem?_eq_getElem hlt
    obtain ⟨go, yl⟩ := yy.1 _ hu
    obtain ⟨is, ρ3, hG, hB⟩ := step i _ ρ2 O2 hu hI
    refine .inr ⟨go, fun σ3 H3 => ∃ ρ3 F3 O3, Conc g.w F3 H3 O3 ∧ Stp F1 H1 O1 F3 H3 O3 ∧ EnvR g.w F3 ρ3 σ3 ∧ I (i + 1) ρ3 O3, fun σ3 H3 n3 => ⟨xs.length - (i + 1), by omega, rfl, hlt, n3⟩, fun x H3 y3 => ?_⟩
    obtain ⟨F3, s3, c3, r3⟩ := yield_in c2 s2.fr (yl x H3 y3)
    have st3 := s2.trans s3
    refine hG X A σ2 F3 H3 O2 x (e2.mono s3.fr) c3 r3 _ fun σ4 e4 _ => ?_
    refine hB X A σ4 F3 H3 e4 c3 _ ⟨fun ρ' σ' F' H' O' s' c' e' q' => ⟨ρ', F', O', c', st3.trans s', e', q'⟩, fun u v F' H' O' s' => hq.rt u v F' H' O' ((s1.trans st3).trans s'), fun ρ' σ' F' H' O' s' => hq.nx ρ' σ' F' H' O' ((s1.trans st3).trans s'), fun ρ' σ' F' H' O' s' c' e' q' => ⟨ρ', F', O', c', st3.trans s', e', q'⟩⟩
  · have e : i = xs.length := by omega
    subst e
    exact .inl ⟨yy.2 rfl, hq.nx _ _ F2 H2 O2 (s1.trans s2) c2 e2 (fin _ _ hI)⟩
/-- while: I by a measure -/
theorem w1_while {c : Expr} {body : List Stmt} {D : TD} (I : Nat → Rho → Store → Prop) (h0 : ∃ m, I m ρ O)
    (h : ∀ m ρ1 O1, I m ρ1 O1 → WB g k S ρ1 O1 c fun b O2 => (b = true → WS g k S ρ1 O2 body { D with nx := fun ρ' O' => ∃ m', m' < m ∧ I m' ρ' O', ct := fun ρ' O' => ∃ m', m' < m ∧ I m' ρ' O', bk := D.nx }) ∧ (b = false → D.nx ρ1 O2)) : W1 g k S ρ O (.While c body [] pos) D := by
  intro X A σ F H hE hC Dc hq
  have hp : PassesOwn (model X.prog X.w) X.A X.env X.xe := by rw [A.xe]; exact PassesOwn.never
  obtain ⟨m0, h0⟩ := h0
  refine semS_of (ps_while hp pt_sem pss_sem) ⟨fun m σ2 H2 => ∃ ρ2 F2 O2, Conc g.w F2 H2 O2 ∧ Stp F H O F2 H2 O2 ∧ EnvR g.w F2 ρ2 σ2 ∧ I m ρ2 O2, ⟨m0, ρ, F, O, hC, Stp.refl, hE, h0⟩, ?_⟩
  rintro m σ2 H2 ⟨ρ2, F2, O2, c2, s2, e2, hI⟩
  refine h m ρ2 O2 hI X A σ2 F2 H2 e2 c2 _ fun b F3 H3 O3 s3 c3 q3 => ?_
  have st3 := s2.trans s3
  cases b with
  | false => exact iteF (hq.nx _ _ F3 H3 O3 st3 c3 (e2.mono s3.fr) (q3.2 rfl))
  | true =>
    refine iteT ⟨fun σ4 H4 => ∃ m', m' < m ∧ ∃ ρ2 F2 O2, Conc g.w F2 H4 O2 ∧ Stp F H O F2 H4 O2 ∧ EnvR g.w F2 ρ2 σ4 ∧ I m' ρ2 O2, fun σ' H' n => n, ?_⟩
    exact q3.1 rfl X A σ2 F3 H3 (e2.mono s3.fr) c3 _ ⟨fun ρ' σ' F' H' O' s' c' e' ⟨m', hm, q'⟩ => ⟨m', hm, ρ', F', O', c', st3.trans s', e', q'⟩, fun u v F' H' O' s' => hq.rt u v F' H' O' (st3.trans s'), fun ρ' σ' F' H' O' s' => hq.nx ρ' σ' F' H' O' (st3.trans s'),
      fun ρ' σ' F' H' O' s' c' e' ⟨m', hm, q'⟩ => ⟨m', hm, ρ', F', O', c', st3.trans s', e', q'⟩⟩
end
end TL
/-! The tree logic: operators, built-ins, subscripts, displays. -/
namespace TL
open PySem PySem.Spec PyProof.Rows L2

section
variable {g : G} {k : Nat} {S : Sx} {ρ : Rho} {O : Store} {pos : Pos}

theorem vrep_int {w : World} {F : Hp} {i : Int} {v : V} (r : VRep w F (.t (.int i)) v) : v = .int i := by cases r; rfl
theorem vrep_str {w : World} {F : Hp} {i : Str} {v : V} (r : VRep w F (.t (.str i)) v) : v = .str i := by cases r; rfl
theorem vrep_non {w : World} {F : Hp} {v : V} (r : VRep w F (.t .non) v) : v = .non := by cases r; rfl
theorem vrep_lst {w : World} {F : Hp} {ts : List T} {v : V} (r : VRep w F (.t (.lst ts)) v) : ∃ a vs, v = .ref a ∧ F a = some (.lst vs) ∧ RepL w F ts vs := by cases r with | lst e r => exact ⟨_, _, rfl, e, r⟩
theorem vrep_tup {w : World} {F : Hp} {ts : List T} {v : V} (r : VRep w F (.t (.tup ts)) v) : ∃ a vs, v = .ref a ∧ F a = some (.tup vs) ∧ RepL w F ts vs := by cases r with | tup e r => exact ⟨_, _, rfl, e, r⟩
theorem vrep_dic {w : World} {F : Hp} {ks : List NestedKey} {ts : List T} {v : V} (r : VRep w F (.t (.dic ks ts)) v) : ∃ a ob es, v = .ref a ∧ F a = some (exO a ob) ∧ DicO w a ob es ∧ es.map (·.1) = ks ∧ RepL w F (ks.map kT) (es.map (·.2.1)) ∧ RepL w F ts (es.map (·.2.2)) := by cases r with | dic e d m r q => exact ⟨_, _, _, rfl, e, d, m, r, q⟩
theorem vrep_ins {w : World} {F : Hp} {C : Addr} {fs : List Str} {ts : List T} {v : V} (r : VRep w F (.t (.ins C fs ts)) v) : ∃ a dx vs, v = .ref a ∧ F a = some (.ins C dx (fs.zip vs)) ∧ fs.length = vs.length ∧ RepL w F ts vs := by cases r with | ins e l r => exact ⟨_, _, _, rfl, e, l, r⟩
theorem lst_sq {H F : Hp} {K : PySem.W.Frag} {a : Addr} {vs : List V} (s : Same F H) (e : F a = some (.lst vs)) : SqL K H a vs := .inl (.inl (s _ _ e))
theorem tup_sq {H F : Hp} {K : PySem.W.Frag} {a : Addr} {vs : List V} (s : Same F H) (e : F a = some (.tup vs)) : SqT K H a vs := .inl (.inl (s _ _ e))

/-! ### ints -/
abbrev tI2 (C : Int → Int → Prop) (f : Int → Int → T) : Vl → Vl → Store → (Vl → Store → Prop) → Prop := fun x y O Q => ∃ i j, x = .t (.int i) ∧ y = .t (.int j) ∧ C i j ∧ Q (.t (f i j)) O
theorem bopI {f : Value → Value → Sem Value} {C : Int → Int → Prop} {h : Int → Int → V} {t : Int → Int → T} (ho : ∀ X, OpR X f (rI C h)) (ht : ∀ w F i j, Rep w F (t i j) (h i j)) : BOp g k f (tI2 C t) :=
  fun X S A => ⟨_, ho X, fun F H O x y vx vy Q Qc c rx ry hq ⟨i, j, e1, e2, hc, q⟩ => by
    subst e1 e2
    exact ⟨i, j, vrep_int rx, vrep_int ry, hc, hq (.t (t i j)) _ F H O Stp.refl c (ht _ _ i j) q⟩⟩
theorem bopI0 {f : Value → Value → Sem Value} {h : Int → Int → V} {t : Int → Int → T} (ho : ∀ X, OpR X f (rI0 h)) (ht : ∀ w F i j, Rep w F (t i j) (h i j)) : BOp g k f (tI2 (fun _ _ => True) t) :=
  fun X S A => ⟨_, ho X, fun F H O x y vx vy Q Qc c rx ry hq ⟨i, j, e1, e2, hc, q⟩ => by
    subst e1 e2
    exact ⟨i, j, vrep_int rx, vrep_int ry, hq (.t (t i j)) _ F H O Stp.refl c (ht _ _ i j) q⟩⟩
theorem o_add : BOp g k (binaryOp .Add) (tI2 (fun _ _ => True) fun i j => .int (i + j)) := bopI0 (fun _ => op_add) fun _ _ _ _ => .int _
theorem o_sub : BOp g k (binaryOp .Sub) (tI2 (fun _ _ => True) fun i j => .int (i - j)) := bopI0 (fun _ => op_sub) fun _ _ _ _ => .int _
theorem o_mul : BOp g k (binaryOp .Mult) (tI2 CMul fun i j => .int (i * j)) := bopI (fun _ => op_mul) fun _ _ _ _ => .int _
theorem o_mod : BOp g k (binaryOp .Mod) (tI2 (fun _ j => 0 < j) fun i j => .int (i % j)) := bopI (fun _ => op_mod) fun _ _ _ _ => .int _
theorem o_fdiv : BOp g k (binaryOp .FloorDiv) (tI2 CDiv fun i j => .int (i / j)) := bopI (fun _ => op_fdiv) fun _ _ _ _ => .int _
theorem o_pow : BOp g k (binaryOp .Pow) (tI2 CPow fun i j => .int (i ^ j.toNat)) := bopI (fun _ => op_pow) fun _ _ _ _ => .int _
theorem o_lt : BOp g k (compareOp .Lt) (tI2 (fun _ _ => True) fun i j => .bl (decide (i < j))) := bopI0 (fun _ => op_lt) fun _ _ _ _ => .bl _
theorem o_le : BOp g k (compareOp .LtE) (tI2 (fun _ _ => True) fun i j => .bl (decide (i ≤ j))) := bopI0 (fun _ => op_le) fun _ _ _ _ => .bl _
theorem o_gt : BOp g k (compareOp .Gt) (tI2 (fun _ _ => True) fun i j => .bl (decide (j < i))) := bopI0 (fun _ => op_gt) fun _ _ _ _ => .bl _
theorem o_ge : BOp g k (compareOp .GtE) (tI2 (fun _ _ => True) fun i j => .bl (decide (j ≤ i))) := bopI0 (fun _ => op_ge) fun _ _ _ _ => .bl _
/-! ### texts -/
abbrev tS2 (f : Str → Str → T) : Vl → Vl → Store → (Vl → Store → Prop) → Prop := fun x y O Q => ∃ i j, x = .t (.str i) ∧ y = .t (.str j) ∧ Q (.t (f i j)) O
theorem o_gtS : BOp g k (compareOp .Gt) (tS2 fun i j => .bl (decide (j.cps.toList < i.cps.toList))) :=
  fun X S A => ⟨_, op_gt_str, fun F H O x y vx vy Q Qc c rx ry hq ⟨i, j, e1, e2, q⟩ => by
    subst e1 e2
    exact ⟨i, j, vrep_str rx, vrep_str ry, hq (.t (.bl _)) _ F H O Stp.refl c (Rep.bl _) q⟩⟩
/-- one sign in a text -/
theorem o_sign : BOp g k (compareOp .In) (fun x y O Q => ∃ (c : Nat) (z : Str), x = .t (.str ⟨#[c]⟩) ∧ y = .t (.str z) ∧ Q (.t (.bl (decide (c ∈ z.cps.toList)))) O) :=
  fun X S A => ⟨_, op_in_sign, fun F H O x y vx vy Q Qc c rx ry hq ⟨i, j, e1, e2, q⟩ => by
    subst e1 e2
    exact ⟨i, j, vrep_str rx, vrep_str ry, hq (.t (.bl _)) _ F H O Stp.refl c (Rep.bl _) q⟩⟩
theorem o_nsign : BOp g k (compareOp .NotIn) (fun x y O Q => ∃ (c : Nat) (z : Str), x = .t (.str ⟨#[c]⟩) ∧ y = .t (.str z) ∧ Q (.t (.bl (!decide (c ∈ z.cps.toList)))) O) :=
  fun X S A => ⟨_, op_notIn_sign, fun F H O x y vx vy Q Qc c rx ry hq ⟨i, j, e1, e2, q⟩ => by
    subst e1 e2
    exact ⟨i, j, vrep_str rx, vrep_str ry, hq (.t (.bl _)) _ F H O Stp.refl c (Rep.bl _) q⟩⟩
/-! ### None -/
def isNonT : T → Bool
  | .non => true
  | _ => false
theorem rep_none {w : World} {F : Hp} {t : T} {v : V} (r : Rep w F t v) : decide (v = .non) = isNonT t := by
  cases r <;> simp [isNonT]
theorem o_isN : BOp g k (compareOp .Is) (fun x y O Q => ∃ t, x = .t t ∧ y = .t .non ∧ Q (.t (.bl (isNonT t))) O) :=
  fun X S A => ⟨_, op_isN, fun F H O x y vx vy Q Qc c rx ry hq ⟨t, e1, e2, q⟩ => by
    subst e1 e2
    refine ⟨vrep_non ry, ?_⟩
    rw [rep_none rx]
    exact hq (.t (.bl _)) _ F H O Stp.refl c (Rep.bl _) q⟩
/-! ### lists, tuples together -/
theorem o_catL : BOp g k (binaryOp .Add) (fun x y O Q => ∃ xs ys, x = .t (.lst xs) ∧ y = .t (.lst ys) ∧ xs.length + ys.length ≤ sizeLine ∧ Q (.t (.lst (xs ++ ys))) O) :=
  fun X S A => ⟨_, op_cat, fun F H O x y vx vy Q Qc c rx ry hq ⟨xs, ys, e1, e2, hz, q⟩ => by
    subst e1 e2
    obtain ⟨a, vs, rfl, ea, ra⟩ := vrep_lst rx
    obtain ⟨b, us, rfl, eb, rb⟩ := vrep_lst ry
    refine ⟨a, b, vs, us, rfl, rfl, c.sub _ _ ea, c.sub _ _ eb, by rw [← ra.length, ← rb.length]; exact hz, fun p hp => ?_⟩
    obtain ⟨c', s'⟩ := c.newF (o := .lst (vs ++ us)) hp
    exact hq (.t (.lst (xs ++ ys))) _ _ _ _ s' c' (Rep.lst upd_same ((ra.append rb).mono (same_upd (c.free hp).1))) q⟩
/-- two lists, the left one a cell: a new list -/
theorem repl_nil {w : World} {F : Hp} {vs : List V} (r : RepL w F [] vs) : vs = [] := by cases r; rfl
theorem repl_nil' {w : World} {F : Hp} {ts : List T} (r : RepL w F ts []) : ts = [] := by cases r; rfl
theorem o_catT : BOp g k (binaryOp .Add) (fun x y O Q => ∃ xs ys, x = .t (.tup xs) ∧ y = .t (.tup ys) ∧ xs.length + ys.length ≤ sizeLine ∧ Q (.t (.tup (xs ++ ys))) O) :=
  fun X S A => ⟨_, op_catA, fun F H O x y vx vy Q Qc c rx ry hq ⟨xs, ys, e1, e2, hz, q⟩ => by
    subst e1 e2
    have rx' := rx
    have ry' := ry
    obtain ⟨a, vs, rfl, ea, ra⟩ := vrep_tup rx
    obtain ⟨b, us, rfl, eb, rb⟩ := vrep_tup ry
    refine ⟨a, b, vs, us, rfl, rfl, tup_sq c.sub ea, tup_sq c.sub eb, by rw [← ra.length, ← rb.length]; exact hz, fun e => ?_, fun _ e => ?_, fun _ _ p hp => ?_⟩
    · subst e
      have := repl_nil' ra
      subst this
      exact hq (.t (.tup ys)) _ F H O Stp.refl c ry' q
    · subst e
      have := repl_nil' rb
      subst this
      rw [List.append_nil] at q
      exact hq (.t (.tup xs)) _ F H O Stp.refl c rx' q
    · obtain ⟨c', s'⟩ := c.newF (o := .tup (vs ++ us)) hp
      exact hq (.t (.tup (xs ++ ys))) _ _ _ _ s' c' (Rep.tup upd_same ((ra.append rb).mono (same_upd (c.free hp).1))) q⟩

/-! ### == of data -/
mutual
def toD : T → PyData
  | .non => .none
  | .bl b => .bool b
  | .int i => .int i
  | .str x => .str x
  | .lst xs => .list (toDs xs)
  | .tup xs => .tuple (toDs xs)
  | .dic _ _ => .dict []
  | .ins _ _ _ => .dict []
def toDs : List T → List PyData
  | [] => []
  | x :: xs => toD x :: toDs xs
end
mutual
def isD : T → Bool
  | .lst xs => isDs xs
  | .tup xs => isDs xs
  | .dic _ _ => false
  | .ins _ _ _ => false
  | _ => true
def isDs : List T → Bool
  | [] => true
  | x :: xs => isD x && isDs xs
end
mutual
theorem Rep.dp {w : World} {F H : Hp} {K : PySem.W.Frag} (s : Same F H) : ∀ (t : T) (v : V), Rep w F t v → isD t = true → Dp K H v (toD t)
  | .non, _, r, _ => by cases r; exact .non
  | .bl b, _, r, _ => by cases r; exact .bl b
  | .int b, _, r, _ => by cases r; exact .int b
  | .str b, _, r, _ => by cases r; exact .str b
  | .lst xs, _, r, h => by
    cases r with
    | lst e r => exact .lst (lst_sq s e) (RepL.dp s _ _ r h)
  | .tup xs, _, r, h => by
    cases r with
    | tup e r => exact .tup (tup_sq s e) (RepL.dp s _ _ r h)
  | .dic _ _, _, _, h => by cases h
  | .ins _ _ _, _, _, h => by cases h
theorem RepL.dp {w : World} {F H : Hp} {K : PySem.W.Frag} (s : Same F H) : ∀ (ts : List T) (vs : List V), RepL w F ts vs → isDs ts = true → DpAll K H vs (toDs ts)
  | [], _, r, _ => by cases r; exact .nil
  | t :: ts, _, r, h => by
    have h := Bool.and_eq_true_iff.mp (show (isD t && isDs ts) = true from h)
    cases r with
    | cons r q => exact .cons (Rep.dp s _ _ r h.1) (RepL.dp s _ _ q h.2)
end
/-- data that == may be asked of -/
def okD (t : T) : Bool := isD t && SeqAt.shaped (toD t)
def eqT (a b : T) : Bool := PyData.eqv (toD a) (toD b)
theorem o_eq : BOp g k (compareOp .Eq) (fun x y O Q => ∃ a b, x = .t a ∧ y = .t b ∧ okD a = true ∧ okD b = true ∧ Q (.t (.bl (eqT a b))) O) :=
  fun X S A => ⟨_, op_eqD A.room.units, fun F H O x y vx vy Q Qc c rx ry hq ⟨a, b, e1, e2, ha, hb, q⟩ => by
    subst e1 e2
    have ha := Bool.and_eq_true_iff.mp ha
    have hb := Bool.and_eq_true_iff.mp hb
    exact ⟨_, _, Rep.dp c.sub _ _ rx ha.1, Rep.dp c.sub _ _ ry hb.1, ha.2, hb.2, hq (.t (.bl _)) _ F H O Stp.refl c (Rep.bl _) q⟩⟩
theorem o_ne : BOp g k (compareOp .NotEq) (fun x y O Q => ∃ a b, x = .t a ∧ y = .t b ∧ okD a = true ∧ okD b = true ∧ Q (.t (.bl (!eqT a b))) O) :=
  fun X S A => ⟨_, op_neD A.room.units, fun F H O x y vx vy Q Qc c rx ry hq ⟨a, b, e1, e2, ha, hb, q⟩ => by
    subst e1 e2
    have ha := Bool.and_eq_true_iff.mp ha
    have hb := Bool.and_eq_true_iff.mp hb
    exact ⟨_, _, Rep.dp c.sub _ _ rx ha.1, Rep.dp c.sub _ _ ry hb.1, ha.2, hb.2, hq (.t (.bl _)) _ F H O Stp.refl c (Rep.bl _) q⟩⟩
theorem toDs_any (p : PyData → Bool) : ∀ ts : List T, (toDs ts).any p = ts.any fun t => p (toD t)
  | [] => rfl
  | t :: ts => by rw [toDs, List.any_cons, List.any_cons, toDs_any p ts]
theorem o_inL : BOp g k (compareOp .In) (fun x y O Q => ∃ a xs, x = .t a ∧ y = .t (.lst xs) ∧ okD a = true ∧ okD (.lst xs) = true ∧ Q (.t (.bl (xs.any fun z => eqT z a))) O) :=
  fun X S A => ⟨_, op_inD (by have := A.room.un; omega), fun F H O x y vx vy Q Qc c rx ry hq ⟨a, xs, e1, e2, ha, hb, q⟩ => by
    subst e1 e2
    have ha := Bool.and_eq_true_iff.mp ha
    have hb := Bool.and_eq_true_iff.mp hb
    refine ⟨_, _, Rep.dp c.sub _ _ rx ha.1, Rep.dp c.sub _ _ ry hb.1, ha.2, hb.2, ?_⟩
    rw [toDs_any]
    exact hq (.t (.bl _)) _ F H O Stp.refl c (Rep.bl _) q⟩
theorem o_notInL : BOp g k (compareOp .NotIn) (fun x y O Q => ∃ a xs, x = .t a ∧ y = .t (.lst xs) ∧ okD a = true ∧ okD (.lst xs) = true ∧ Q (.t (.bl (!xs.any fun z => eqT z a))) O) :=
  fun X S A => ⟨_, op_notInD (by have := A.room.un; omega), fun F H O x y vx vy Q Qc c rx ry hq ⟨a, xs, e1, e2, ha, hb, q⟩ => by
    subst e1 e2
    have ha := Bool.and_eq_true_iff.mp ha
    have hb := Bool.and_eq_true_iff.mp hb
    refine ⟨_, _, Rep.dp c.sub _ _ rx ha.1, Rep.dp c.sub _ _ ry hb.1, ha.2, hb.2, ?_⟩
    rw [toDs_any]
    exact hq (.t (.bl _)) _ F H O Stp.refl c (Rep.bl _) q⟩
/-- a text in a list or a tuple of texts -/
theorem flat_strs : ∀ xs : List Str, (xs.map V.str).all flatV = true
  | [] => rfl
  | x :: xs => by rw [List.map_cons, List.all_cons, flat_strs xs]; rfl
theorem inV_strs (x : Str) : ∀ xs : List Str, inV (.str x) (xs.map V.str) = decide (x ∈ xs)
  | [] => by simp [inV]
  | y :: ys => by
    have ih := inV_strs x ys
    unfold inV at ih ⊢
    rw [List.map_cons, List.any_cons, ih]
    by_cases h : y = x
    · subst h; simp [eqV]
    · have h' : ¬ x = y := fun e => h e.symm
      simp [eqV, h, h']
theorem o_inS : BOp g k (compareOp .In) (fun x y O Q => ∃ (a : Str) (xs : List Str), x = .t (.str a) ∧ (y = .t (.lst (xs.map T.str)) ∨ y = .t (.tup (xs.map T.str))) ∧ Q (.t (.bl (decide (a ∈ xs)))) O) :=
  fun X S A => ⟨_, op_in_seq, fun F H O x y vx vy Q Qc c rx ry hq ⟨a, xs, e1, e2, q⟩ => by
    subst e1
    have ex := vrep_str rx
    have fin : ∀ p vs, vy = .ref p → RepL g.w F (xs.map T.str) vs → (SqL X.K H p vs ∨ SqT X.K H p vs) → rIn X.K false vx vy H Qc := fun p vs e r s => by
      have := r.strs
      subst this
      refine ⟨p, _, e, s, by rw [ex]; rfl, flat_strs xs, ?_⟩
      rw [ex, inV_strs]
      exact hq (.t (.bl _)) _ F H O Stp.refl c (Rep.bl _) q
    rcases e2 with rfl | rfl
    · obtain ⟨p, vs, e, ep, r⟩ := vrep_lst ry
      exact fin p vs e r (.inl (lst_sq c.sub ep))
    · obtain ⟨p, vs, e, ep, r⟩ := vrep_tup ry
      exact fin p vs e r (.inr (tup_sq c.sub ep))⟩
theorem o_notInS : BOp g k (compareOp .NotIn) (fun x y O Q => ∃ (a : Str) (xs : List Str), x = .t (.str a) ∧ (y = .t (.lst (xs.map T.str)) ∨ y = .t (.tup (xs.map T.str))) ∧ Q (.t (.bl (!decide (a ∈ xs)))) O) :=
  fun X S A => ⟨_, op_notIn_seq, fun F H O x y vx vy Q Qc c rx ry hq ⟨a, xs, e1, e2, q⟩ => by
    subst e1
    have ex := vrep_str rx
    have fin : ∀ p vs, vy = .ref p → RepL g.w F (xs.map T.str) vs → (SqL X.K H p vs ∨ SqT X.K H p vs) → rIn X.K true vx vy H Qc := fun p vs e r s => by
      have := r.strs
      subst this
      refine ⟨p, _, e, s, by rw [ex]; rfl, flat_strs xs, ?_⟩
      rw [ex, inV_strs]
      exact hq (.t (.bl _)) _ F H O Stp.refl c (Rep.bl _) q
    rcases e2 with rfl | rfl
    · obtain ⟨p, vs, e, ep, r⟩ := vrep_lst ry
      exact fin p vs e r (.inl (lst_sq c.sub ep))
    · obtain ⟨p, vs, e, ep, r⟩ := vrep_tup ry
      exact fin p vs e r (.inr (tup_sq c.sub ep))⟩
/-- a number in a list of numbers -/
theorem flat_ints : ∀ xs : List Int, (xs.map V.int).all flatV = true
  | [] => rfl
  | x :: xs => by rw [List.map_cons, List.all_cons, flat_ints xs]; rfl
theorem inV_ints (x : Int) : ∀ xs : List Int, inV (.int x) (xs.map V.int) = decide (x ∈ xs)
  | [] => by simp [inV]
  | y :: ys => by
    have ih := inV_ints x ys
    unfold inV at ih ⊢
    rw [List.map_cons, List.any_cons, ih]
    by_cases h : y = x
    · subst h; simp [eqV]
    · have h' : ¬ x = y := fun e => h e.symm
      simp [eqV, h, h']
theorem o_inI : BOp g k (compareOp .In) (fun x y O Q => ∃ (a : Int) (xs : List Int), x = .t (.int a) ∧ y = .t (.lst (xs.map T.int)) ∧ Q (.t (.bl (decide (a ∈ xs)))) O) :=
  fun X S A => ⟨_, op_in_seq, fun F H O x y vx vy Q Qc c rx ry hq ⟨a, xs, e1, e2, q⟩ => by
    subst e1 e2
    have ex := vrep_int rx
    obtain ⟨p, vs, e, ep, r⟩ := vrep_lst ry
    have := r.ints
    subst this
    refine ⟨p, _, e, .inl (lst_sq c.sub ep), by rw [ex]; rfl, flat_ints xs, ?_⟩
    rw [ex, inV_ints]
    exact hq (.t (.bl _)) _ F H O Stp.refl c (Rep.bl _) q⟩
end
end TL
/-! The tree logic: built-ins, subscripts, slices, displays, attributes, methods of lists. -/
namespace TL
open PySem PySem.Spec PyProof.Rows L2

theorem vreps1 {w : World} {F : Hp} {u : Vl} {vs : List V} (r : VReps w F [u] vs) : ∃ v, vs = [v] ∧ VRep w F u v := by
  cases r with
  | cons r q => cases q; exact ⟨_, rfl, r⟩
theorem vreps2 {w : World} {F : Hp} {u u' : Vl} {vs : List V} (r : VReps w F [u, u'] vs) : ∃ v v', vs = [v, v'] ∧ VRep w F u v ∧ VRep w F u' v' := by
  cases r with
  | cons r q =>
    cases q with
    | cons r' q => cases q; exact ⟨_, _, rfl, r, r'⟩

section
variable {g : G} {k : Nat} {S : Sx} {ρ : Rho} {O : Store} {pos : Pos}

/-! ### built-ins -/
theorem b_len : BCall g k (.builtin "len") (fun us O Q => ∃ ts, (us = [.t (.lst ts)] ∨ us = [.t (.tup ts)]) ∧ Q (.t (.int ts.length)) O) :=
  fun X S A => ⟨_, call_len_seq, fun F H O xs vs Q Qc c r hq ⟨ts, e, q⟩ => by
    rcases e with rfl | rfl
    · obtain ⟨v, rfl, rr⟩ := vreps1 r
      obtain ⟨a, vs, rfl, ea, ra⟩ := vrep_lst rr
      refine ⟨a, vs, rfl, .inl (lst_sq c.sub ea), ?_⟩
      rw [← ra.length]
      exact hq (.t (.int _)) _ F H O Stp.refl c (Rep.int _) q
    · obtain ⟨v, rfl, rr⟩ := vreps1 r
      obtain ⟨a, vs, rfl, ea, ra⟩ := vrep_tup rr
      refine ⟨a, vs, rfl, .inr (tup_sq c.sub ea), ?_⟩
      rw [← ra.length]
      exact hq (.t (.int _)) _ F H O Stp.refl c (Rep.int _) q⟩
/-- the length of a cell -/
theorem b_lenC : BCall g k (.builtin "len") (fun us O Q => ∃ a xs, us = [.cell a] ∧ O a = some (.lst xs) ∧ Q (.t (.int xs.length)) O) :=
  fun X S A => ⟨_, call_len_seq, fun F H O xs vs Q Qc c r hq ⟨a, us, e, ea, q⟩ => by
    subst e
    obtain ⟨v, rfl, rr⟩ := vreps1 r
    have rr : v = .ref a := rr
    subst rr
    obtain ⟨_, o, ho, vs, rfl, rv⟩ := c.cell a _ ea
    refine ⟨a, vs, rfl, .inl (SqL.of ho), ?_⟩
    rw [← rv.length]
    exact hq (.t (.int _)) _ F H O Stp.refl c (Rep.int _) q⟩
theorem b_lenS : BCall g k (.builtin "len") (fun us O Q => ∃ z : Str, us = [.t (.str z)] ∧ z.length ≤ sizeLine ∧ Q (.t (.int z.length)) O) :=
  fun X S A => ⟨_, call_len_str, fun F H O xs vs Q Qc c r hq ⟨z, e, hz, q⟩ => by
    subst e
    obtain ⟨v, rfl, rr⟩ := vreps1 r
    exact ⟨z, by rw [vrep_str rr], hz, hq (.t (.int _)) _ F H O Stp.refl c (Rep.int _) q⟩⟩
theorem b_any : BCall g k (.builtin "any") (fun us O Q => ∃ bs : List Bool, us = [.t (.lst (bs.map T.bl))] ∧ Q (.t (.bl (bs.any id))) O) :=
  fun X S A => ⟨_, cr_any A.calm, fun F H O xs vs Q Qc c r hq ⟨bs, e, q⟩ => by
    subst e
    obtain ⟨v, rfl, rr⟩ := vreps1 r
    obtain ⟨a, vs, rfl, ea, ra⟩ := vrep_lst rr
    have := ra.bls
    subst this
    exact ⟨a, bs, rfl, lst_sq c.sub ea, hq (.t (.bl _)) _ F H O Stp.refl c (Rep.bl _) q⟩⟩
theorem b_all : BCall g k (.builtin "all") (fun us O Q => ∃ bs : List Bool, us = [.t (.lst (bs.map T.bl))] ∧ Q (.t (.bl (bs.all id))) O) :=
  fun X S A => ⟨_, cr_all A.calm, fun F H O xs vs Q Qc c r hq ⟨bs, e, q⟩ => by
    subst e
    obtain ⟨v, rfl, rr⟩ := vreps1 r
    obtain ⟨a, vs, rfl, ea, ra⟩ := vrep_lst rr
    have := ra.bls
    subst this
    exact ⟨a, bs, rfl, lst_sq c.sub ea, hq (.t (.bl _)) _ F H O Stp.refl c (Rep.bl _) q⟩⟩
theorem b_tuple : BCall g k (.type "tuple") (fun us O Q => ∃ ts, (us = [.t (.lst ts)] ∨ us = [.t (.tup ts)]) ∧ Q (.t (.tup ts)) O) :=
  fun X S A => ⟨_, call_tuple_of, fun F H O xs vs Q Qc c r hq ⟨ts, e, q⟩ => by
    rcases e with rfl | rfl
    · obtain ⟨v, rfl, rr⟩ := vreps1 r
      obtain ⟨a, vs, rfl, ea, ra⟩ := vrep_lst rr
      refine ⟨a, vs, rfl, .inl ⟨lst_sq c.sub ea, fun p hp => ?_⟩⟩
      obtain ⟨c', s'⟩ := c.newF (o := .tup vs) hp
      exact hq (.t (.tup ts)) _ _ _ _ s' c' (Rep.tup upd_same (ra.mono (same_upd (c.free hp).1))) q
    · obtain ⟨v, rfl, rr⟩ := vreps1 r
      have r' := rr
      obtain ⟨a, vs, rfl, ea, ra⟩ := vrep_tup rr
      exact ⟨a, vs, rfl, .inr ⟨tup_sq c.sub ea, hq (.t (.tup ts)) _ F H O Stp.refl c r' q⟩⟩⟩
/-- list(xs): a new list, frozen or a cell -/
theorem b_list : BCall g k (.type "list") (fun us O Q => ∃ ts, (us = [.t (.lst ts)] ∨ us = [.t (.tup ts)]) ∧ (Q (.t (.lst ts)) O ∨ ∀ a, O a = none → Q (.cell a) (sup O a (.lst (ts.map Vl.t))))) :=
  fun X S A => ⟨_, call_list_of, fun F H O xs vs Q Qc c r hq ⟨ts, e, q⟩ => by
    have fin : ∀ vs, RepL g.w F ts vs → ∀ l, H l = none → Qc (.ref l) (upd H l (.lst vs)) := fun vs ra l hl => by
      rcases q with q | q
      · obtain ⟨c', s'⟩ := c.newF (o := .lst vs) hl
        exact hq (.t (.lst ts)) _ _ _ _ s' c' (Rep.lst upd_same (ra.mono (same_upd (c.free hl).1))) q
      · obtain ⟨c', s'⟩ := c.newO (o := .lst vs) (x := .lst (ts.map Vl.t)) hl ⟨vs, rfl, ra.vreps⟩
        exact hq (.cell l) _ _ _ _ s' c' rfl (q l (c.free hl).2)
    rcases e with rfl | rfl
    · obtain ⟨v, rfl, rr⟩ := vreps1 r
      obtain ⟨a, vs, rfl, ea, ra⟩ := vrep_lst rr
      exact ⟨a, vs, rfl, .inl (lst_sq c.sub ea), fin vs ra⟩
    · obtain ⟨v, rfl, rr⟩ := vreps1 r
      obtain ⟨a, vs, rfl, ea, ra⟩ := vrep_tup rr
      exact ⟨a, vs, rfl, .inr (tup_sq c.sub ea), fin vs ra⟩⟩
theorem b_int : BCall g k (.type "int") (fun us O Q => (∃ i, us = [.t (.int i)] ∧ Q (.t (.int i)) O) ∨ ∃ b, us = [.t (.bl b)] ∧ Q (.t (.int (if b then 1 else 0))) O) :=
  fun X S A => ⟨_, call_int1, fun F H O xs vs Q Qc c r hq e => by
    rcases e with ⟨i, rfl, q⟩ | ⟨b, rfl, q⟩
    · obtain ⟨v, rfl, rr⟩ := vreps1 r
      exact .inl ⟨i, by rw [vrep_int rr], hq (.t (.int i)) _ F H O Stp.refl c (Rep.int _) q⟩
    · obtain ⟨v, rfl, rr⟩ := vreps1 r
      exact .inr ⟨b, by rw [vrep_bl rr], hq (.t (.int _)) _ F H O Stp.refl c (Rep.int _) q⟩⟩
theorem b_min : BCall g k (.builtin "min") (fun us O Q => ∃ i j, us = [.t (.int i), .t (.int j)] ∧ Q (.t (.int (if j < i then j else i))) O) :=
  fun X S A => ⟨_, call_min2 A.calm, fun F H O xs vs Q Qc c r hq ⟨i, j, e, q⟩ => by
    subst e
    obtain ⟨v, v', rfl, r, r'⟩ := vreps2 r
    exact ⟨i, j, by rw [vrep_int r, vrep_int r'], hq (.t (.int _)) _ F H O Stp.refl c (Rep.int _) q⟩⟩
/-- sorted of texts, fewer than 64; of numbers -/
theorem b_sortedS : BCall g k (.builtin "sorted") (fun us O Q => ∃ xs : List Str, us = [.t (.lst (xs.map T.str))] ∧ xs.length < 64 ∧ ∀ ys : List Str, ys.Perm xs → sortedS ys = true → Q (.t (.lst (ys.map T.str))) O) :=
  fun X S A => ⟨_, cr_sortedS, fun F H O us vs Q Qc c r hq ⟨xs, e, hl, q⟩ => by
    subst e
    obtain ⟨v, rfl, rr⟩ := vreps1 r
    obtain ⟨a, vs, rfl, ea, ra⟩ := vrep_lst rr
    have := ra.strs
    subst this
    refine ⟨a, xs, rfl, lst_sq c.sub ea, hl, fun ys p h1 h2 hp => ?_⟩
    obtain ⟨c', s'⟩ := c.newF (o := .lst (ys.map V.str)) hp
    exact hq (.t (.lst (ys.map T.str))) _ _ _ _ s' c' (Rep.lst upd_same (RepL.of_strs ys)) (q ys h1 h2)⟩
theorem b_sortedI : BCall g k (.builtin "sorted") (fun us O Q => ∃ xs : List Int, us = [.t (.lst (xs.map T.int))] ∧ xs.length < 64 ∧ ∀ ys : List Int, ys.Perm xs → ys.Pairwise (· ≤ ·) → Q (.t (.lst (ys.map T.int))) O) :=
  fun X S A => ⟨_, cr_sorted, fun F H O us vs Q Qc c r hq ⟨xs, e, hl, q⟩ => by
    subst e
    obtain ⟨v, rfl, rr⟩ := vreps1 r
    obtain ⟨a, vs, rfl, ea, ra⟩ := vrep_lst rr
    have := ra.ints
    subst this
    refine ⟨a, xs, rfl, lst_sq c.sub ea, hl, fun ys p h1 h2 hp => ?_⟩
    obtain ⟨c', s'⟩ := c.newF (o := .lst (ys.map V.int)) hp
    exact hq (.t (.lst (ys.map T.int))) _ _ _ _ s' c' (Rep.lst upd_same (RepL.of_ints ys)) (q ys h1 h2)⟩

/-! ### subscripts -/
def BIx (g : G) (k : Nat) (tr : Vl → Vl → Store → (Vl → Store → Prop) → Prop) : Prop :=
  ∀ X S, At g k S X → ∃ r : R2, IxR X r ∧ ∀ F H O x y vx vy Q Qc, Conc g.w F H O → VRep g.w F x vx → VRep g.w F y vy → Ct g.w F H O Q Qc → tr x y O Q → r vx vy H Qc
theorem w_ix {a b : Expr} {tr} {Q : Vl → Store → Prop} (ho : BIx g k tr) (h : W g k S ρ O a fun x O1 => W g k S ρ O1 b fun y O2 => tr x y O2 Q) (hs : ∀ o i, subscripted b false o i = operate [o, i] (getItem o i)) : W g k S ρ O (.Subscript a b pos) Q := by
  intro X A σ F H hE hC Qc hq
  obtain ⟨r, hr, hl⟩ := ho X S A
  refine semE_of (pe_ix hr pe_sem pe_sem hs) ?_
  refine h X A σ F H hE hC _ fun x vx F1 H1 O1 s1 c1 r1 q1 => ?_
  refine q1 X A σ F1 H1 (hE.mono s1.fr) c1 _ fun y vy F2 H2 O2 s2 c2 r2 q2 => ?_
  exact hl F2 H2 O2 x y vx vy Q Qc c2 (r1.mono s2.fr) r2 (hq.at (s1.trans s2)) q2
/-- the place of an index -/
theorem atI_rep {w : World} {F : Hp} {ts : List T} {vs : List V} {i : Int} {t : T} (r : RepL w F ts vs) (h : atI ts i = some t) : ∃ v, atI vs i = some v ∧ Rep w F t v := by
  unfold atI at h ⊢
  rw [r.length] at h
  cases e : ixN vs.length i with
  | none => rw [e] at h; cases h
  | some j =>
    rw [e] at h
    obtain ⟨v, h1, h2⟩ := r.get (show ts[j]? = some t from h)
    exact ⟨v, h1, h2⟩
theorem x_seq : BIx g k (fun x y O Q => ∃ ts i t, (x = .t (.lst ts) ∨ x = .t (.tup ts)) ∧ y = .t (.int i) ∧ atI ts i = some t ∧ Q (.t t) O) :=
  fun X S A => ⟨_, ix_list.or ix_tup, fun F H O x y vx vy Q Qc c rx ry hq ⟨ts, i, t, e1, e2, e3, q⟩ => by
    subst e2
    rcases e1 with rfl | rfl
    · obtain ⟨a, vs, rfl, ea, ra⟩ := vrep_lst rx
      obtain ⟨v, h1, h2⟩ := atI_rep ra e3
      exact .inl ⟨a, vs, i, v, rfl, vrep_int ry, lst_sq c.sub ea, h1, hq (.t t) _ F H O Stp.refl c h2 q⟩
    · obtain ⟨a, vs, rfl, ea, ra⟩ := vrep_tup rx
      obtain ⟨v, h1, h2⟩ := atI_rep ra e3
      exact .inr ⟨a, vs, i, v, rfl, vrep_int ry, tup_sq c.sub ea, h1, hq (.t t) _ F H O Stp.refl c h2 q⟩⟩
theorem paired_get {α β : Type} {R : α → β → Prop} : ∀ {xs : List α} {ys : List β} {i : Nat} {x : α}, Paired R xs ys → xs[i]? = some x → ∃ y, ys[i]? = some y ∧ R x y
  | _, _, _, _, .nil, e => by simp at e
  | _, _, 0, _, .cons r _, e => by simp at e; subst e; exact ⟨_, rfl, r⟩
  | _, _, i + 1, _, .cons _ q, e => by
    obtain ⟨v, h1, h2⟩ := paired_get (i := i) q (by simpa using e)
    exact ⟨v, by simpa using h1, h2⟩
/-- an item of a cell -/
theorem x_cell : BIx g k (fun x y O Q => ∃ a xs i u, x = .cell a ∧ O a = some (.lst xs) ∧ y = .t (.int i) ∧ atI xs i = some u ∧ Q u O) :=
  fun X S A => ⟨_, ix_list, fun F H O x y vx vy Q Qc c rx ry hq ⟨a, xs, i, u, e1, ea, e2, e3, q⟩ => by
    subst e1 e2
    have rx : vx = .ref a := rx
    subst rx
    obtain ⟨_, o, ho, vs, rfl, rv⟩ := c.cell a _ ea
    unfold atI at e3
    rw [rv.length] at e3
    cases e : ixN vs.length i with
    | none => rw [e] at e3; cases e3
    | some j =>
      rw [e] at e3
      obtain ⟨v, h1, h2⟩ := paired_get rv (show xs[j]? = some u from e3)
      refine ⟨a, vs, i, v, rfl, vrep_int ry, SqL.of ho, ?_, hq u v F H O Stp.refl c h2 q⟩
      unfold atI
      rw [e]
      exact h1⟩
theorem x_str : BIx g k (fun x y O Q => ∃ (z : Str) (i : Int) (c : Nat), x = .t (.str z) ∧ y = .t (.int i) ∧ z.length ≤ sizeLine ∧ atI z.cps.toList i = some c ∧ Q (.t (.str ⟨#[c]⟩)) O) :=
  fun X S A => ⟨_, ix_str, fun F H O x y vx vy Q Qc c rx ry hq ⟨z, i, d, e1, e2, hz, e3, q⟩ => by
    subst e1 e2
    exact ⟨z, i, d, vrep_str rx, vrep_int ry, hz, e3, hq (.t (.str _)) _ F H O Stp.refl c (Rep.str _) q⟩⟩
/-! ### slices -/
/-- a part of a slice -/
def WO (g : G) (k : Nat) (S : Sx) (ρ : Rho) (O : Store) : Option Expr → (Option Int → Store → Prop) → Prop
  | none, Q => Q none O
  | some e, Q => W g k S ρ O e fun u O1 => ∃ i, u = .t (.int i) ∧ Q (some i) O1
def tOpt (X : Cx) : Option Expr → TO
  | none => tNoPart
  | some e => tPart (semE X e)
theorem po_sem {X : Cx} : ∀ {e : Option Expr}, PO X e (tOpt X e)
  | none => po_none
  | some _ => po_some pe_sem
theorem WO.run {X : Cx} (A : At g k S X) : ∀ {e : Option Expr} {O : Store} {Q : Option Int → Store → Prop}, WO g k S ρ O e Q → ∀ {σ F H}, EnvR g.w F ρ σ → Conc g.w F H O → ∀ {Qc : Option Int → Hp → Prop},
    (∀ i F' H' O', Stp F H O F' H' O' → Conc g.w F' H' O' → Q i O' → Qc i H') → tOpt X e σ H Qc
  | none, _, _, h, _, _, _, _, hC, _, hq => hq _ _ _ _ Stp.refl hC h
  | some e, _, _, h, _, _, _, hE, hC, _, hq => h X A _ _ _ hE hC _ fun u v F1 H1 O1 s1 c1 r1 ⟨i, e1, q⟩ => by
    subst e1
    exact ⟨i, vrep_int r1, hq _ _ _ _ s1 c1 q⟩
def cutT (xs : List T) (lo hi : Option Int) : List T := (xs.drop (HT.sIx xs.length 0 lo)).take (HT.sIx xs.length xs.length hi - HT.sIx xs.length 0 lo)
theorem w_slice {a : Expr} {lo hi : Option Expr} {p2 : Pos} {Q : Vl → Store → Prop} (h : W g k S ρ O a fun x O1 => WO g k S ρ O1 lo fun l O2 => WO g k S ρ O2 hi fun u O3 =>
    (∃ ts, x = .t (.lst ts) ∧ Q (.t (.lst (cutT ts l u))) O3) ∨ ∃ ts, x = .t (.tup ts) ∧ Q (.t (.tup (cutT ts l u))) O3) : W g k S ρ O (.Subscript a (.Slice lo hi none p2) pos) Q := by
  intro X A σ F H hE hC Qc hq
  refine semE_of (pe_slice (sl_list.or sl_tupA) pe_sem po_sem po_sem) ?_
  refine h X A σ F H hE hC _ fun x vx F1 H1 O1 s1 c1 r1 q1 => ?_
  refine WO.run A q1 (hE.mono s1.fr) c1 fun l F2 H2 O2 s2 c2 q2 => ?_
  refine WO.run A q2 (hE.mono (s1.trans s2).fr) c2 fun u F3 H3 O3 s3 c3 q3 => ?_
  have st := (s1.trans s2).trans s3
  have r3 := r1.mono (s2.trans s3).fr
  rcases q3 with ⟨ts, rfl, q⟩ | ⟨ts, rfl, q⟩
  · obtain ⟨b, vs, rfl, eb, rb⟩ := vrep_lst r3
    refine .inl ⟨b, vs, rfl, lst_sq c3.sub eb, fun p hp => ?_⟩
    obtain ⟨c', s'⟩ := c3.newF (o := .lst (cutV vs l u)) hp
    refine hq (.t (.lst (cutT ts l u))) _ _ _ _ (st.trans s') c' (Rep.lst upd_same ?_) q
    have := ((rb.drop (HT.sIx ts.length 0 l)).take (HT.sIx ts.length ts.length u - HT.sIx ts.length 0 l)).mono (same_upd (o := .lst (cutV vs l u)) (c3.free hp).1)
    unfold cutT cutV
    rw [rb.length] at this ⊢
    exact this
  · have r3' := r3
    obtain ⟨b, vs, rfl, eb, rb⟩ := vrep_tup r3
    refine .inr ⟨b, vs, rfl, tup_sq c3.sub eb, fun hw => ?_, fun _ p hp => ?_⟩
    · have : cutT ts l u = ts := by
        unfold cutT
        rw [rb.length, hw.1, hw.2, List.drop_zero, Nat.sub_zero, ← rb.length, List.take_length]
      rw [this] at q
      exact hq (.t (.tup ts)) _ _ _ _ st c3 r3' q
    · obtain ⟨c', s'⟩ := c3.newF (o := .tup (cutV vs l u)) hp
      refine hq (.t (.tup (cutT ts l u))) _ _ _ _ (st.trans s') c' (Rep.tup upd_same ?_) q
      have := ((rb.drop (HT.sIx ts.length 0 l)).take (HT.sIx ts.length ts.length u - HT.sIx ts.length 0 l)).mono (same_upd (o := .tup (cutV vs l u)) (c3.free hp).1)
      unfold cutT cutV
      rw [rb.length] at this ⊢
      exact this
/-! ### displays -/
theorem w_tup {es : List Expr} {x1 : Nat} {Q : Vl → Store → Prop} (ha : AOk es) (h : WA g k S ρ es O fun us O1 => ∃ ts : List T, us = ts.map Vl.t ∧ ts.length ≤ sizeLine ∧ Q (.t (.tup ts)) O1) : W g k S ρ O (.Tuple es x1 pos) Q := by
  intro X A σ F H hE hC Qc hq
  refine semE_of (pe_tup (pa_sem ha)) (WA.run A h hE hC fun us vs F1 H1 O1 s1 c1 r1 q1 => ?_)
  obtain ⟨ts, rfl, hz, q⟩ := q1
  have ra := r1.repl
  refine ⟨by rw [← ra.length]; exact hz, fun p hp => ?_⟩
  obtain ⟨c', s'⟩ := c1.newF (o := .tup vs) hp
  exact hq (.t (.tup ts)) _ _ _ _ (s1.trans s') c' (Rep.tup upd_same (ra.mono (same_upd (c1.free hp).1))) q
theorem w_lst {es : List Expr} {Q : Vl → Store → Prop} (ha : AOk es) (h : WA g k S ρ es O fun us O1 => us.length ≤ sizeLine ∧ ((∃ ts : List T, us = ts.map Vl.t ∧ Q (.t (.lst ts)) O1) ∨ ∀ a, O1 a = none → Q (.cell a) (sup O1 a (.lst us)))) : W g k S ρ O (.List es pos) Q := by
  intro X A σ F H hE hC Qc hq
  refine semE_of (pe_lst (pa_sem ha)) (WA.run A h hE hC fun us vs F1 H1 O1 s1 c1 r1 q1 => ?_)
  obtain ⟨hz, q1⟩ := q1
  refine ⟨by rw [← r1.length]; exact hz, fun p hp => ?_⟩
  rcases q1 with ⟨ts, rfl, q⟩ | q
  · have ra := r1.repl
    obtain ⟨c', s'⟩ := c1.newF (o := .lst vs) hp
    exact hq (.t (.lst ts)) _ _ _ _ (s1.trans s') c' (Rep.lst upd_same (ra.mono (same_upd (c1.free hp).1))) q
  · obtain ⟨c', s'⟩ := c1.newO (o := .lst vs) (x := .lst us) hp ⟨vs, rfl, r1⟩
    exact hq (.cell p) _ _ _ _ (s1.trans s') c' rfl (q p (c1.free hp).2)
/-! ### fields -/
theorem lookup_rep {w : World} {F : Hp} {f : Str} : ∀ {fs : List Str} {ts : List T} {vs : List V} {t : T}, fs.length = vs.length → RepL w F ts vs → (fs.zip ts).lookup f = some t → ∃ v, (fs.zip vs).lookup f = some v ∧ Rep w F t v
  | [], _, _, _, _, _, h => by simp at h
  | x :: fs, _, _, _, hl, .nil, h => by simp at hl
  | x :: fs, _, _, t, hl, .cons r q, h => by
    rw [List.zip_cons_cons, List.lookup_cons] at h
    rw [List.zip_cons_cons, List.lookup_cons]
    cases e : f == x with
    | true => rw [e] at h; cases h; exact ⟨_, rfl, r⟩
    | false => rw [e] at h; exact lookup_rep (by simpa using hl) q h
theorem w_fld {e : Expr} {f : Str} {Q : Vl → Store → Prop} (hb : ∀ env, attributeBase e f env (eval e env) = eval e env)
    (h : W g k S ρ O e fun u O1 => ∃ C fs ts t, u = .t (.ins C fs ts) ∧ Cls g.K C ∧ NoAttr g.K C f ∧ (fs.zip ts).lookup f = some t ∧ Q (.t t) O1) : W g k S ρ O (.Attribute e f pos) Q := by
  intro X A σ F H hE hC Qc hq
  have h' : tFld X.K (semE X e) f σ H Qc := h X A σ F H hE hC _ fun u v F1 H1 O1 s1 c1 r1 q1 => by
    obtain ⟨C, fs, ts, t, rfl, hc, hn, hf, q⟩ := q1
    obtain ⟨a, dx, vs, rfl, ea, hl, ra⟩ := vrep_ins r1
    obtain ⟨v, h1, h2⟩ := lookup_rep hl ra hf
    have e := A.g
    subst e
    exact ⟨a, C, dx, _, v, rfl, c1.sub _ _ ea, hc, hn, h1, hq (.t t) v _ _ _ s1 c1 h2 q⟩
  exact semE_of (pe_fld pe_sem (hb _)) h'
/-! ### methods of lists -/
/-- a list's method on a cell: append, extend, pop(i) -/
def BMt (g : G) (k : Nat) (id : String) (tr : Vl → List Vl → Store → (Vl → Store → Prop) → Prop) : Prop :=
  ∀ X S, At g k S X → ∃ r, MtR X id r ∧ ∀ F H O x xs v vs Q Qc, Conc g.w F H O → VRep g.w F x v → VReps g.w F xs vs → Ct g.w F H O Q Qc → tr x xs O Q → r v vs H Qc
theorem m_append : BMt g k "list.append" (fun x us O Q => ∃ a xs u, x = .cell a ∧ us = [u] ∧ O a = some (.lst xs) ∧ xs.length < sizeLine ∧ Q (.t .non) (sup O a (.lst (xs ++ [u])))) :=
  fun X S A => ⟨_, mt_append, fun F H O x xs v vs Q Qc c rx rs hq ⟨a, us, u, e1, e2, ea, hz, q⟩ => by
    subst e1 e2
    have rx : v = .ref a := rx
    subst rx
    obtain ⟨y, rfl, ry⟩ := vreps1 rs
    obtain ⟨_, o, ho, ws, rfl, rv⟩ := c.cell a _ ea
    obtain ⟨c', s'⟩ := c.write (o := .lst (ws ++ [y])) (y := .lst (us ++ [u])) ea ⟨_, rfl, paired_app rv (.cons ry .nil)⟩
    exact ⟨a, ws, y, rfl, rfl, ho, by rw [← rv.length]; exact hz, hq (.t .non) _ _ _ _ s' c' Rep.non q⟩⟩
theorem m_extend : BMt g k "list.extend" (fun x us O Q => ∃ a xs ts, x = .cell a ∧ us = [.t (.lst ts)] ∧ O a = some (.lst xs) ∧ xs.length + ts.length ≤ sizeLine ∧ Q (.t .non) (sup O a (.lst (xs ++ ts.map Vl.t)))) :=
  fun X S A => ⟨_, mt_extend, fun F H O x xs v vs Q Qc c rx rs hq ⟨a, us, ts, e1, e2, ea, hz, q⟩ => by
    subst e1 e2
    have rx : v = .ref a := rx
    subst rx
    obtain ⟨y, rfl, ry⟩ := vreps1 rs
    obtain ⟨b, zs, rfl, eb, rb⟩ := vrep_lst ry
    obtain ⟨_, o, ho, ws, rfl, rv⟩ := c.cell a _ ea
    obtain ⟨c', s'⟩ := c.write (o := .lst (ws ++ zs)) (y := .lst (us ++ ts.map Vl.t)) ea ⟨_, rfl, paired_app rv rb.vreps⟩
    exact ⟨a, b, ws, zs, rfl, rfl, ho, c.sub _ _ eb, by rw [← rv.length, ← rb.length]; exact hz, hq (.t .non) _ _ _ _ s' c' Rep.non q⟩⟩
theorem paired_erase {α β : Type} {R : α → β → Prop} : ∀ {xs : List α} {ys : List β} (i : Nat), Paired R xs ys → Paired R (xs.eraseIdx i) (ys.eraseIdx i)
  | _, _, _, .nil => .nil
  | _, _, 0, .cons _ q => q
  | _, _, i + 1, .cons r q => .cons r (paired_erase i q)
theorem m_pop : BMt g k "list.pop" (fun x us O Q => ∃ a xs i j u, x = .cell a ∧ us = [.t (.int i)] ∧ O a = some (.lst xs) ∧ -(2 ^ 63) ≤ i ∧ i < 2 ^ 63 ∧ seqIndex? i xs.length = some j ∧ xs[j]? = some u ∧ Q u (sup O a (.lst (xs.eraseIdx j)))) :=
  fun X S A => ⟨_, mt_popAt, fun F H O x xs v vs Q Qc c rx rs hq ⟨a, us, i, j, u, e1, e2, ea, h1, h2, h3, h4, q⟩ => by
    subst e1 e2
    have rx : v = .ref a := rx
    subst rx
    obtain ⟨y, rfl, ry⟩ := vreps1 rs
    have ry := vrep_int ry
    subst ry
    obtain ⟨_, o, ho, ws, rfl, rv⟩ := c.cell a _ ea
    obtain ⟨z, hz, rz⟩ := paired_get rv h4
    obtain ⟨c', s'⟩ := c.write (o := .lst (ws.eraseIdx j)) (y := .lst (us.eraseIdx j)) ea ⟨_, rfl, paired_erase j rv⟩
    exact ⟨a, ws, i, j, z, rfl, rfl, ho, h1, h2, by rw [← rv.length]; exact h3, hz, hq u z _ _ _ s' c' rz q⟩⟩
theorem w_lmeth {o e : Expr} {name : Str} {id : String} {apos cpos : Pos} {tr} {Q : Vl → Store → Prop} (slot : Slot "list" name id) (hty : typeOf (.builtin id) = pure (.type "method_descriptor")) (hm : BMt g k id tr) (ha : AOk [e])
    (hbase : ∀ env, attributeBase o name env (eval o env) = eval o env) (hline : (apos.endLine == cpos.line) = true)
    (hfew : ∀ env, ((backTo cpos (starEach [e] env)).all (fun x => !x.1) && (backToKw cpos (keywordEach [] env)).all (fun x => x.1.isSome) && decide (([e] : List Expr).length + ([] : List Keyword).length + (if ([] : List Keyword).isEmpty then 0 else 1) < 30)) = true)
    (h : W g k S ρ O o fun u O1 => ∃ a, u = .cell a ∧ (∃ xs, O1 a = some (.lst xs)) ∧ W g k S ρ O1 e fun v O2 => tr u [v] O2 Q) : W g k S ρ O (.Call (.Attribute o name apos) [e] [] cpos) Q := by
  intro X A σ F H hE hC Qc hq
  obtain ⟨r, hr, hl⟩ := hm X S A
  refine semE_of (pe_bm PySem.F.plainAttrs_list slot hty hr pe_sem (pa_sem ha) (hbase _) (hfew _) hline (ha.1 _) (by rfl)) ?_
  refine h X A σ F H hE hC _ fun u v F1 H1 O1 s1 c1 r1 ⟨a, e1, ⟨xs, ea⟩, q1⟩ => ?_
  subst e1
  have ev : v = .ref a := r1
  subst ev
  obtain ⟨_, ob, ho, ws, rfl, rv⟩ := c1.cell a _ ea
  refine ⟨.inl ⟨rfl, _, SqL.of ho⟩, ?_⟩
  refine q1 X A σ F1 H1 (hE.mono s1.fr) c1 _ fun y vy F2 H2 O2 s2 c2 r2 q2 => ?_
  exact hl F2 H2 O2 (.cell a) [y] (.ref a) [vy] Q Qc c2 rfl (.cons r2 .nil) (hq.at (s1.trans s2)) q2
end
end TL
/-! The tree logic: dicts. -/
namespace TL
open PySem PySem.Spec PyProof.Rows L2

/-! ### what a dict holds -/
section
variable {α β : Type}
def dget : List NestedKey → List α → NestedKey → Option α
  | k' :: ks, x :: xs, k => if k' = k then some x else dget ks xs k
  | _, _, _ => none
def dputV : List NestedKey → List α → NestedKey → α → List α
  | k' :: ks, x :: xs, k, v => if k' = k then v :: xs else x :: dputV ks xs k v
  | _, xs, _, v => xs ++ [v]
def dputK (ks : List NestedKey) (k : NestedKey) : List NestedKey := if k ∈ ks then ks else ks ++ [k]
theorem dget_none {k : NestedKey} : ∀ {ks : List NestedKey} {xs : List α}, k ∉ ks → dget ks xs k = none
  | [], _, _ => by simp [dget]
  | _ :: _, [], _ => by simp [dget]
  | k' :: ks, x :: xs, h => by
    unfold dget
    rw [if_neg (fun (e : k' = k) => h (by rw [e]; exact List.mem_cons_self)), dget_none fun q => h (List.mem_cons_of_mem _ q)]
theorem dget_some {k : NestedKey} : ∀ {ks : List NestedKey} {xs : List α}, ks.length = xs.length → k ∈ ks → ∃ x, dget ks xs k = some x
  | [], _, _, h => by simp at h
  | _ :: _, [], e, _ => by simp at e
  | k' :: ks, x :: xs, e, h => by
    unfold dget
    by_cases q : k' = k
    · rw [if_pos q]; exact ⟨_, rfl⟩
    · rw [if_neg q]
      exact dget_some (by simpa using e) ((List.mem_cons.mp h).resolve_left fun z => q z.symm)
theorem dget_isSome {k : NestedKey} {ks : List NestedKey} {xs : List α} (e : ks.length = xs.length) : (dget ks xs k).isSome = decide (k ∈ ks) := by
  by_cases h : k ∈ ks
  · obtain ⟨x, q⟩ := dget_some (xs := xs) e h
    rw [q, decide_eq_true h]; rfl
  · rw [dget_none h, decide_eq_false h]; rfl
theorem dput_len {k : NestedKey} {v : α} : ∀ {ks : List NestedKey} {xs : List α}, ks.length = xs.length → (dputK ks k).length = (dputV ks xs k v).length
  | [], [], _ => rfl
  | [], _ :: _, e => by simp at e
  | _ :: _, [], e => by simp at e
  | k' :: ks, x :: xs, e => by
    have ih := dput_len (k := k) (v := v) (ks := ks) (xs := xs) (by simpa using e)
    unfold dputK at ih ⊢
    unfold dputV
    by_cases q : k' = k
    · subst q
      rw [if_pos List.mem_cons_self, if_pos rfl]
      exact e
    · rw [if_neg q]
      by_cases h : k ∈ ks
      · rw [if_pos h] at ih
        rw [if_pos (List.mem_cons_of_mem _ h), List.length_cons, List.length_cons, ih]
      · rw [if_neg h] at ih
        rw [if_neg (by simp only [List.mem_cons, not_or]; exact ⟨fun z => q z.symm, h⟩)]
        simp only [List.cons_append, List.length_cons]
        rw [ih]
theorem dputV_new {k : NestedKey} {v : α} : ∀ {ks : List NestedKey} {xs : List α}, ks.length = xs.length → k ∉ ks → dputV ks xs k v = xs ++ [v]
  | [], _, _, _ => by simp [dputV]
  | _ :: _, [], e, _ => by simp at e
  | k' :: ks, x :: xs, e, h => by
    unfold dputV
    rw [if_neg (fun (e : k' = k) => h (by rw [e]; exact List.mem_cons_self)), dputV_new (by simpa using e) fun q => h (List.mem_cons_of_mem _ q)]
    rfl
theorem dputK_new {k : NestedKey} {ks : List NestedKey} (h : k ∉ ks) : dputK ks k = ks ++ [k] := if_neg h
theorem dputK_old {k : NestedKey} {ks : List NestedKey} (h : k ∈ ks) : dputK ks k = ks := if_pos h
end

/-- the entries of the dict as they stand -/
theorem mix_rep {P : Program} {w : World} {H : Hp} {h : Heap} {a : Addr} {ob : Obj} {es : List (NestedKey × V × V)} (ok : HOk P w H h) (e : H a = some (exO a ob)) (d : DicO w a ob es) (r : RepL w H ((es.map (·.1)).map kT) (es.map (·.2.1))) :
    ∃ xs, MixD w h a xs ∧ Paired (fun (e : NestedKey × V × V) (x : Ent) => x.1 = e.1 ∧ RelV e.2.1 x.2.1 ∧ RelV e.2.2 x.2.2) es xs := by
  obtain ⟨_, ex, hz, hdp, nd, arr, ep, xs, hd, he, pr⟩ := d
  have ho : h.get? a = some ob := (ok a _ e).1
  refine ⟨xs, ⟨ob, arr, ep, ho, ex, hd, he, ?_, ?_⟩, pr⟩
  · have all : ∀ {es : List (NestedKey × V × V)} {xs : List Ent}, RepL w H ((es.map (·.1)).map kT) (es.map (·.2.1)) → (∀ e ∈ es, e.1.depth ≤ 8) → Paired (fun (e : NestedKey × V × V) (x : Ent) => x.1 = e.1 ∧ RelV e.2.1 x.2.1 ∧ RelV e.2.2 x.2.2) es xs → ∀ x ∈ xs, NestedIs h x.1 x.2.1 ∧ x.1.depth ≤ 8 := by
      intro es xs r hdp pr
      induction pr with
      | nil => intro x hx; cases hx
      | @cons e x es xs h1 h2 ih =>
        intro y hy
        rw [List.map_cons, List.map_cons, List.map_cons] at r
        cases r with
        | cons r1 r2 =>
          rcases List.mem_cons.mp hy with q | hy
          · subst q
            rw [h1.1]
            exact ⟨Rep.key ok _ _ _ r1 h1.2.1, hdp e List.mem_cons_self⟩
          · exact ih r2 (fun z hz => hdp z (List.mem_cons_of_mem _ hz)) y hy
    exact all r hdp pr
  · have : xs.map (·.1) = es.map (·.1) := by
      clear r hdp nd he hz
      induction pr with
      | nil => rfl
      | cons h1 h2 ih => rw [List.map_cons, List.map_cons, h1.1, ih]
    rw [this]; exact nd
theorem valE_rep {es : List (NestedKey × V × V)} {xs : List Ent} (pr : Paired (fun (e : NestedKey × V × V) (x : Ent) => x.1 = e.1 ∧ RelV e.2.1 x.2.1 ∧ RelV e.2.2 x.2.2) es xs) (k : NestedKey) : RelO (dget (es.map (·.1)) (es.map (·.2.2)) k) (valE xs k) := by
  induction pr with
  | nil => exact True.intro
  | @cons e x es xs h1 h2 ih =>
    rw [List.map_cons, List.map_cons]
    unfold dget valE
    rw [List.find?_cons]
    by_cases q : e.1 = k
    · rw [if_pos q, show decide (x.1 = k) = true from decide_eq_true (by rw [h1.1]; exact q)]
      exact h1.2.2
    · rw [if_neg q, show decide (x.1 = k) = false from decide_eq_false (by rw [h1.1]; exact q)]
      exact ih
theorem relO_some {o : Option V} {v : V} {u : Option Value} (r : RelO o u) (e : o = some v) : ∃ z, u = some z ∧ RelV v z := by
  subst e
  cases u with
  | none => exact r.elim
  | some z => exact ⟨z, rfl, r⟩
theorem relO_isSome {o : Option V} {u : Option Value} (r : RelO o u) : o.isSome = u.isSome := by
  cases o <;> cases u <;> first | rfl | exact r.elim
/-- a dict object's description, off a heap -/
theorem dicO_of {w : World} {h : Heap} {a : Addr} {xs : List Ent} {es : List (NestedKey × V × V)} (m : MixD w h a xs) (pr : Paired (fun (e : NestedKey × V × V) (x : Ent) => x.1 = e.1 ∧ RelV e.2.1 x.2.1 ∧ RelV e.2.2 x.2.2) es xs) (hs : (a == sysModules) = false) (hz : xs.length ≤ sizeLine) :
    ∃ ob, h.get? a = some ob ∧ DicO w a ob es := by
  obtain ⟨o, arr, ep, ho, ex, hd, he, his, hn⟩ := m
  have hk : xs.map (·.1) = es.map (·.1) := by
    clear he his hn hz
    induction pr with
    | nil => rfl
    | cons h1 h2 ih => rw [List.map_cons, List.map_cons, h1.1, ih]
  refine ⟨o, ho, hs, ex, by rw [Paired.length pr]; exact hz, ?_, by rw [← hk]; exact hn, arr, ep, xs, hd, he, pr⟩
  clear he hk hn hz
  induction pr with
  | nil => intro e he; cases he
  | @cons e x es xs h1 h2 ih =>
    intro y hy
    rcases List.mem_cons.mp hy with q | hy
    · subst q
      rw [← h1.1]
      exact (his x List.mem_cons_self).2
    · exact ih (fun z hz => his z (List.mem_cons_of_mem _ hz)) y hy

section
variable {g : G} {k : Nat} {S : Sx} {ρ : Rho} {O : Store} {pos : Pos}
theorem room9 {X : Cx} (A : At g k S X) : X.A.units + 9 < cLine := by have := A.room.un; omega
theorem kT_rep {w : World} {F : Hp} {k : NestedKey} {v : V} (r : VRep w F (.t (kT k)) v) : Rep w F (kT k) v := r
/-- what stands at a dict's value: tree or cell -/
def isDic (O : Store) (x : Vl) (ks : List NestedKey) (xs : List Vl) : Prop := (∃ ts, x = .t (.dic ks ts) ∧ xs = ts.map Vl.t) ∨ ∃ a, x = .cell a ∧ O a = some (.dic ks xs)
theorem isDic_rep {w : World} {F H : Hp} {x : Vl} {v : V} {ks : List NestedKey} {xs : List Vl} (c : Conc w F H O) (r : VRep w F x v) (h : isDic O x ks xs) :
    ∃ a ob es, v = .ref a ∧ H a = some (exO a ob) ∧ DicO w a ob es ∧ es.map (·.1) = ks ∧ RepL w H (ks.map kT) (es.map (·.2.1)) ∧ VReps w F xs (es.map (·.2.2)) := by
  rcases h with ⟨ts, rfl, rfl⟩ | ⟨a, rfl, e⟩
  · obtain ⟨a, ob, es, rfl, ea, d, m, r1, r2⟩ := vrep_dic r
    exact ⟨a, ob, es, rfl, c.sub _ _ ea, d, m, r1.mono c.sub, r2.vreps⟩
  · obtain ⟨_, o, ho, ob, es, rfl, d, m, r1, r2⟩ := c.cell a _ e
    exact ⟨a, ob, es, r, ho, d, m, r1.mono c.sub, r2⟩
theorem dget_rep {w : World} {F : Hp} {k : NestedKey} : ∀ {ks : List NestedKey} {xs : List Vl} {vs : List V} {u : Vl}, VReps w F xs vs → dget ks xs k = some u → ∃ v, dget ks vs k = some v ∧ VRep w F u v
  | [], _, _, _, _, h => by simp [dget] at h
  | _ :: _, [], _, _, _, h => by simp [dget] at h
  | k' :: ks, x :: xs, _, u, .cons r q, h => by
    unfold dget at h ⊢
    by_cases e : k' = k
    · rw [if_pos e] at h ⊢; cases h; exact ⟨_, rfl, r⟩
    · rw [if_neg e] at h ⊢; exact dget_rep q h
/-- k in d -/
theorem o_inD : BOp g k (compareOp .In) (fun x y O Q => ∃ kk ks xs, x = .t (kT kk) ∧ isDic O y ks xs ∧ kk.depth ≤ 8 ∧ Q (.t (.bl (decide (kk ∈ ks)))) O) :=
  fun X S A => ⟨fun x y H Qc => ∃ kk a ob es, Rep X.w H (kT kk) x ∧ kk.depth ≤ 8 ∧ y = .ref a ∧ H a = some (exO a ob) ∧ DicO X.w a ob es ∧ RepL X.w H ((es.map (·.1)).map kT) (es.map (·.2.1)) ∧ Qc (.bl (decide (kk ∈ es.map (·.1)))) H,
    fun pins s σ H x y v u Qc I rx ry ⟨kk, a, ob, es, hk, hdp, e, ea, d, r, q⟩ => by
      subst e
      obtain rfl : u = Value.ref a := ry
      obtain ⟨xs, m, pr⟩ := mix_rep I.hok ea d r
      show wpAny _ _ (do return Value.bool (← contains (.ref a) v)) _ _ s
      refine wpAny_bind (contains_mix (room9 A) (Rep.key I.hok _ _ _ hk rx) hdp d.1 m (wpAny_pure ⟨.bl _, H, I.tok _, ?_, q⟩))
      have h1 := relO_isSome (valE_rep pr kk)
      rw [dget_isSome (by rw [List.length_map, List.length_map])] at h1
      rw [← h1]
      rfl,
    fun F H O x y vx vy Q Qc c rx ry hq ⟨kk, ks, xs, e1, hd, hdp, q⟩ => by
      subst e1
      have e := A.g
      subst e
      obtain ⟨a, ob, es, e, ea, d, m, r1, r2⟩ := isDic_rep c ry hd
      subst m
      exact ⟨kk, a, ob, es, Rep.mono c.sub rx, hdp, e, ea, d, r1, hq (.t (.bl _)) _ F H O Stp.refl c (Rep.bl _) q⟩⟩
theorem o_ninD : BOp g k (compareOp .NotIn) (fun x y O Q => ∃ kk ks xs, x = .t (kT kk) ∧ isDic O y ks xs ∧ kk.depth ≤ 8 ∧ Q (.t (.bl (!decide (kk ∈ ks)))) O) :=
  fun X S A => ⟨fun x y H Qc => ∃ kk a ob es, Rep X.w H (kT kk) x ∧ kk.depth ≤ 8 ∧ y = .ref a ∧ H a = some (exO a ob) ∧ DicO X.w a ob es ∧ RepL X.w H ((es.map (·.1)).map kT) (es.map (·.2.1)) ∧ Qc (.bl (!decide (kk ∈ es.map (·.1)))) H,
    fun pins s σ H x y v u Qc I rx ry ⟨kk, a, ob, es, hk, hdp, e, ea, d, r, q⟩ => by
      subst e
      obtain rfl : u = Value.ref a := ry
      obtain ⟨xs, m, pr⟩ := mix_rep I.hok ea d r
      show wpAny _ _ (do return Value.bool (!(← contains (.ref a) v))) _ _ s
      refine wpAny_bind (contains_mix (room9 A) (Rep.key I.hok _ _ _ hk rx) hdp d.1 m (wpAny_pure ⟨.bl _, H, I.tok _, ?_, q⟩))
      have h1 := relO_isSome (valE_rep pr kk)
      rw [dget_isSome (by rw [List.length_map, List.length_map])] at h1
      rw [← h1]
      rfl,
    fun F H O x y vx vy Q Qc c rx ry hq ⟨kk, ks, xs, e1, hd, hdp, q⟩ => by
      subst e1
      have e := A.g
      subst e
      obtain ⟨a, ob, es, e, ea, d, m, r1, r2⟩ := isDic_rep c ry hd
      subst m
      exact ⟨kk, a, ob, es, Rep.mono c.sub rx, hdp, e, ea, d, r1, hq (.t (.bl _)) _ F H O Stp.refl c (Rep.bl _) q⟩⟩
end
end TL
/-! The tree logic: d[k], stores, walks of dicts, list(d), list(d.values()), displays, comprehensions. -/
namespace TL
open PySem PySem.Spec PyProof.Rows L2

theorem ext_ok {P : Program} {w : World} {H : Hp} {h : Heap} {a : Addr} {ob : Obj} (e : h.get? a = some ob) : ObjOk P w H h a (exO a ob) :=
  ⟨e, ⟨ob, e⟩, fun _ _ p q => q _ p⟩
/-- the entries behind a store -/
def putEs (es : List (NestedKey × V × V)) (k : NestedKey) (y z : V) : List (NestedKey × V × V) := if k ∈ es.map (·.1) then es.map (fun e => if e.1 = k then (e.1, e.2.1, z) else e) else es ++ [(k, y, z)]
theorem putEs_rel {es : List (NestedKey × V × V)} {xs : List Ent} {k : NestedKey} {y z : V} {u v : Value} (pr : Paired (fun (e : NestedKey × V × V) (x : Ent) => x.1 = e.1 ∧ RelV e.2.1 x.2.1 ∧ RelV e.2.2 x.2.2) es xs) (ry : RelV y u) (rz : RelV z v) :
    Paired (fun (e : NestedKey × V × V) (x : Ent) => x.1 = e.1 ∧ RelV e.2.1 x.2.1 ∧ RelV e.2.2 x.2.2) (putEs es k y z) (putE xs k u v) := by
  have hk : xs.map (·.1) = es.map (·.1) := by
    clear ry rz
    induction pr with
    | nil => rfl
    | cons h1 h2 ih => rw [List.map_cons, List.map_cons, h1.1, ih]
  unfold putEs putE
  rw [hk]
  by_cases h : k ∈ es.map (·.1)
  · rw [if_pos h, if_pos h]
    clear h hk
    induction pr with
    | nil => exact .nil
    | @cons e x es xs h1 h2 ih =>
      rw [List.map_cons, List.map_cons]
      refine .cons ?_ ih
      by_cases q : e.1 = k
      · rw [if_pos q, if_pos (by rw [h1.1]; exact q)]; exact ⟨h1.1, h1.2.1, rz⟩
      · rw [if_neg q, if_neg (by rw [h1.1]; exact q)]; exact h1
  · rw [if_neg h, if_neg h]
    exact paired_app pr (.cons ⟨rfl, ry, rz⟩ .nil)
theorem putEs_keys (es : List (NestedKey × V × V)) (k : NestedKey) (y z : V) : (putEs es k y z).map (·.1) = dputK (es.map (·.1)) k := by
  unfold putEs dputK
  by_cases h : k ∈ es.map (·.1)
  · rw [if_pos h, if_pos h, List.map_map]
    refine List.map_congr_left fun e _ => ?_
    by_cases q : e.1 = k <;> simp [q]
  · rw [if_neg h, if_neg h, List.map_append]; rfl
theorem putEs_kv {w : World} {F : Hp} {es : List (NestedKey × V × V)} {k : NestedKey} {y z : V} (r : RepL w F ((es.map (·.1)).map kT) (es.map (·.2.1))) (ry : Rep w F (kT k) y) : RepL w F ((dputK (es.map (·.1)) k).map kT) ((putEs es k y z).map (·.2.1)) := by
  unfold putEs dputK
  by_cases h : k ∈ es.map (·.1)
  · rw [if_pos h, if_pos h]
    have : (es.map fun e => if e.1 = k then (e.1, e.2.1, z) else e).map (·.2.1) = es.map (·.2.1) := by
      rw [List.map_map]
      refine List.map_congr_left fun e _ => ?_
      by_cases q : e.1 = k <;> simp [q]
    rw [this]; exact r
  · rw [if_neg h, if_neg h, List.map_append, List.map_append]
    exact r.append (.cons ry .nil)
theorem putEs_vv {w : World} {F : Hp} {k : NestedKey} {y z : V} {u : Vl} (rz : VRep w F u z) : ∀ {es : List (NestedKey × V × V)} {xs : List Vl}, (es.map (·.1)).Nodup → VReps w F xs (es.map (·.2.2)) → VReps w F (dputV (es.map (·.1)) xs k u) ((putEs es k y z).map (·.2.2)) := by
  intro es xs nd r
  by_cases h : k ∈ es.map (·.1)
  · unfold putEs
    rw [if_pos h]
    clear y
    induction es generalizing xs with
    | nil => simp at h
    | cons e es ih =>
      rw [List.map_cons] at r nd
      rw [List.nodup_cons] at nd
      cases r with
      | @cons x _ xs _ r1 r2 =>
        rw [List.map_cons, List.map_cons, List.map_cons]
        unfold dputV
        by_cases q : e.1 = k
        · rw [if_pos q, if_pos q]
          have : (es.map fun e => if e.1 = k then (e.1, e.2.1, z) else e) = es := by
            have : es.map (fun e => if e.1 = k then (e.1, e.2.1, z) else e) = es.map id := List.map_congr_left fun e' he' => by
              have : ¬ e'.1 = k := fun z' => nd.1 (by rw [q, ← z']; exact List.mem_map.mpr ⟨e', he', rfl⟩)
              simp [this]
            rw [this, List.map_id]
          rw [this]
          exact .cons rz r2
        · rw [if_neg q, if_neg q]
          rw [List.map_cons] at h
          exact .cons r1 (ih nd.2 r2 ((List.mem_cons.mp h).resolve_left fun z' => q z'.symm))
  · have hl : (es.map (·.1)).length = xs.length := by
      have := Paired.length r
      rw [List.length_map] at this ⊢
      omega
    rw [dputV_new hl h]
    unfold putEs
    rw [if_neg h, List.map_append]
    exact paired_app r (.cons rz .nil)

section
variable {g : G} {k : Nat} {S : Sx} {ρ : Rho} {O : Store} {pos : Pos}
/-- a store into a tracked dict -/
theorem inv_put {X : Cx} {pins : List (Addr × Obj)} {σ : L2.St} {H : Hp} {s : Shared} {E : Value → Shared → Prop} {a : Addr} {ob : Obj} {es : List (NestedKey × V × V)} {kk : NestedKey} {y z : V} {u v : Value} {Q : Unit → Shared → Prop} {f : Sem Unit}
    (I : Inv X pins σ H s) (e : H a = some (exO a ob)) (d : DicO X.w a ob es) (r : RepL X.w H ((es.map (·.1)).map kT) (es.map (·.2.1))) (hk : Rep X.w H (kT kk) y) (hdp : kk.depth ≤ 8) (hz : es.length < sizeLine) (ry : RelV y u) (rz : RelV z v)
    (hf : ∀ xs, MixD X.w s.heap a xs → xs.length ≤ sizeLine → NestedIs s.heap kk u → (∀ h' : Heap, MixD X.w h' a (putE xs kk u v) → Heap.SameBut a s.heap h' → Q () { s with heap := h', toks := s.toks + kk.draws }) → wpAny (model X.prog X.w) X.A f Q E s)
    (hQ : ∀ s' ob', DicO X.w a ob' (putEs es kk y z) → Inv X pins σ (upd H a (exO a ob')) s' → Q () s') : wpAny (model X.prog X.w) X.A f Q E s := by
  obtain ⟨xs, m, pr⟩ := mix_rep I.hok e d r
  have hl : es.length = xs.length := Paired.length pr
  refine hf xs m (by omega) (Rep.key I.hok _ _ _ hk ry) fun h' m' sb => ?_
  have pr' := putEs_rel (k := kk) pr ry rz
  have hl' : (putE xs kk u v).length ≤ sizeLine := by
    rw [← Paired.length pr']
    unfold putEs
    split
    · rw [List.length_map]; omega
    · rw [List.length_append]; simp; omega
  obtain ⟨ob', ho', d'⟩ := dicO_of m' pr' d.1 hl'
  exact hQ _ ob' d' (I.write (t' := s.toks + kk.draws) (by rw [e]; exact True.intro) (.inl rfl) (fun b q hb w => (sb.2 b hb).trans w) ⟨ob', ho'⟩ (ext_ok ho'))
/-- d[k] -/
theorem x_dic : BIx g k (fun x y O Q => ∃ kk ks xs u, y = .t (kT kk) ∧ isDic O x ks xs ∧ kk.depth ≤ 8 ∧ dget ks xs kk = some u ∧ Q u O) :=
  fun X S A => ⟨fun x y H Qc => ∃ kk a ob es v, Rep X.w H (kT kk) y ∧ kk.depth ≤ 8 ∧ x = .ref a ∧ H a = some (exO a ob) ∧ DicO X.w a ob es ∧ RepL X.w H ((es.map (·.1)).map kT) (es.map (·.2.1)) ∧ dget (es.map (·.1)) (es.map (·.2.2)) kk = some v ∧ Qc v H,
    fun value slice pins s σ H x y v u Qc I rx ry ⟨kk, a, ob, es, z, hk, hdp, e, ea, d, r, hg, q⟩ hs => by
      subst e
      obtain rfl : v = Value.ref a := rx
      obtain ⟨xs, m, pr⟩ := mix_rep I.hok ea d r
      obtain ⟨zv, h1, h2⟩ := relO_some (valE_rep pr kk) hg
      exact subscriptTail_builtinR (x := zv) m.typeIs slot_dict_getitem.lookup (getItem_mix (Q := fun r s' => r = zv ∧ EP X pins σ Qc r s') (room9 A) (Rep.key I.hok _ _ _ hk ry) hdp m h1 ⟨rfl, z, H, I.tok _, h2, q⟩) hs,
    fun F H O x y vx vy Q Qc c rx ry hq ⟨kk, ks, xs, u, e1, hd, hdp, hg, q⟩ => by
      subst e1
      have e := A.g
      subst e
      obtain ⟨a, ob, es, e, ea, d, m, r1, r2⟩ := isDic_rep c rx hd
      subst m
      obtain ⟨v, h1, h2⟩ := dget_rep r2 hg
      exact ⟨kk, a, ob, es, v, Rep.mono c.sub ry, hdp, e, ea, d, r1, h1, hq u v F H O Stp.refl c h2 q⟩⟩

/-! ### stores -/
def BSet (g : G) (k : Nat) (tr : Vl → Vl → Vl → Store → (Store → Prop) → Prop) : Prop :=
  ∀ X S, At g k S X → ∃ t : TSet, PSet X t ∧ ∀ F H O o i v vo vi vv Qs Qc, Conc g.w F H O → VRep g.w F o vo → VRep g.w F i vi → VRep g.w F v vv → (∀ F' H' O', Stp F H O F' H' O' → Conc g.w F' H' O' → Qs O' → Qc H') → tr o i v O Qs → t vo vi vv H Qc
theorem w1_put {o i e : Expr} {p' : Pos} {tr} {D : TD} (ho : BSet g k tr) (hs : ∀ env, swapsWithSole [.Subscript o i p'] e pos.line env = pure false) (hw : ∀ env, swappedStores [.Subscript o i p'] e env = pure none)
    (h1 : ∀ env, (assignEach [.Subscript o i p'] env).map (·.2) = [assign (.Subscript o i p') env])
    (ha : ∀ (X : Cx) (to ti : TE) (t : TSet), PE X o to → PE X i ti → PSet X t → PG X (.Subscript o i p') (gSub to ti t))
    (h : W g k S ρ O e fun v O1 => W g k S ρ O1 o fun d O2 => W g k S ρ O2 i fun j O3 => tr d j v O3 fun O4 => D.nx ρ O4) : W1 g k S ρ O (.Assign [.Subscript o i p'] e pos) D := by
  intro X A σ F H hE hC Dc hq
  obtain ⟨t, ht, hl⟩ := ho X S A
  refine semS_of (ps_asg pe_sem (ha X _ _ _ pe_sem pe_sem ht) (hs _) (hw _) (h1 _)) ?_
  refine h X A σ F H hE hC _ fun v vv F1 H1 O1 s1 c1 r1 q1 => ?_
  refine q1 X A σ F1 H1 (hE.mono s1.fr) c1 _ fun d vd F2 H2 O2 s2 c2 r2 q2 => ?_
  refine q2 X A σ F2 H2 (hE.mono (s1.trans s2).fr) c2 _ fun j vj F3 H3 O3 s3 c3 r3 q3 => ?_
  exact hl F3 H3 O3 d j v vd vj vv _ _ c3 (r2.mono s3.fr) r3 (r1.mono (s2.trans s3).fr) (fun F' H' O' s' c' q' => hq.nx _ _ _ _ _ (((s1.trans s2).trans s3).trans s') c' (hE.mono (((s1.trans s2).trans s3).trans s').fr) q') q3
theorem paired_set {α β : Type} {R : α → β → Prop} {x : α} {y : β} (h : R x y) : ∀ {xs : List α} {ys : List β} (i : Nat), Paired R xs ys → Paired R (xs.set i x) (ys.set i y)
  | _, _, _, .nil => .nil
  | _, _, 0, .cons _ t => .cons h t
  | _, _, i + 1, .cons q t => .cons q (paired_set h i t)
theorem s_list : BSet g k (fun o i v O Qs => ∃ a xs n j, o = .cell a ∧ O a = some (.lst xs) ∧ i = .t (.int n) ∧ ixN xs.length n = some j ∧ Qs (sup O a (.lst (xs.set j v)))) :=
  fun X S A => ⟨_, set_list, fun F H O o i v vo vi vv Qs Qc c ro ri rv hq ⟨a, xs, n, j, e1, ea, e2, hj, q⟩ => by
    subst e1 e2
    have ro : vo = .ref a := ro
    subst ro
    obtain ⟨_, ob, ho, vs, rfl, rvs⟩ := c.cell a _ ea
    obtain ⟨c', s'⟩ := c.write (o := .lst (vs.set j vv)) (y := .lst (xs.set j v)) ea ⟨_, rfl, paired_set rv j rvs⟩
    refine ⟨a, vs, n, j, rfl, vrep_int ri, ho, ?_, hq _ _ _ s' c' q⟩
    rw [← rvs.length]; exact hj⟩
theorem s_dic : BSet g k (fun o i v O Qs => ∃ a kk ks xs, o = .cell a ∧ O a = some (.dic ks xs) ∧ i = .t (kT kk) ∧ kk.depth ≤ 8 ∧ ks.length < sizeLine ∧ Qs (sup O a (.dic (dputK ks kk) (dputV ks xs kk v)))) :=
  fun X S A => ⟨fun o i v H Qc => ∃ kk a ob es, Rep X.w H (kT kk) i ∧ kk.depth ≤ 8 ∧ o = .ref a ∧ H a = some (exO a ob) ∧ DicO X.w a ob es ∧ RepL X.w H ((es.map (·.1)).map kT) (es.map (·.2.1)) ∧ es.length < sizeLine ∧ ∀ ob', DicO X.w a ob' (putEs es kk i v) → Qc (upd H a (exO a ob')),
    fun pins s σ H o i v ov iv u Qc I ro ri rv ⟨kk, a, ob, es, hk, hdp, e, ea, d, r, hz, q⟩ => by
      subst e
      obtain rfl : ov = Value.ref a := ro
      exact inv_put I ea d r hk hdp hz ri rv (fun xs m hl hn hQ => setItem_mix (room9 A) hn hdp m hl hQ) fun s' ob' d' I' => ⟨_, I', q ob' d'⟩,
    fun F H O o i v vo vi vv Qs Qc c ro ri rv hq ⟨a, kk, ks, xs, e1, ea, e2, hdp, hz, q⟩ => by
      subst e1 e2
      have e := A.g
      subst e
      have ro : vo = .ref a := ro
      subst ro
      obtain ⟨fa, ob, ho, obj, es, rfl, d, m, r1, r2⟩ := c.cell a _ ea
      subst m
      refine ⟨kk, a, obj, es, Rep.mono c.sub ri, hdp, rfl, ho, d, r1.mono c.sub, by rw [List.length_map] at hz; exact hz, fun ob' d' => ?_⟩
      obtain ⟨c', s'⟩ := c.write (o := exO a ob') (y := .dic (dputK (es.map (·.1)) kk) (dputV (es.map (·.1)) xs kk v)) ea ⟨ob', putEs es kk vi vv, rfl, d', putEs_keys .., putEs_kv r1 ri, putEs_vv rv d.2.2.2.2.1 r2⟩
      exact hq _ _ _ s' c' q⟩

/-! ### walks -/
def Itdk (a : Addr) (ob : Obj) (es : List (NestedKey × V × V)) : It := ⟨fun i H => i < es.length ∧ H a = some (exO a ob), fun i H x H' => H' = H ∧ ∃ e, es[i]? = some e ∧ x = e.2.1, fun i H => es.length ≤ i ∧ H a = some (exO a ob)⟩
theorem turn_dk {P : Program} {w : World} {K : PySem.W.Frag} {tg : Expr} {a : Addr} {ob : Obj} {es : List (NestedKey × V × V)} {arr : Array DictEntry} {ep : Nat} {xs : List Ent} (it : Addr) (hne : a ≠ it) (ex : ob.ExactDict) (hd : ob.data = .dict arr ep) (he : arr.toList = xs.map (entOf w))
    (pr : Paired (fun (e : NestedKey × V × V) (x : Ent) => x.1 = e.1 ∧ RelV e.2.1 x.2.1 ∧ RelV e.2.2 x.2.2) es xs) : Turn P w K tg (Itdk a ob es) [it] it (fun i h => h.IsKeyIter it a i arr.size ep) where
  mem := by simp
  obj := fun i h st b hb => by
    have e : b = it := by simpa using hb
    subst e
    obtain ⟨oi, e, c, dd⟩ := st
    exact ⟨oi, e, fun v z => by rw [dd] at z; cases z⟩
  keep := fun i h h' st k => st.at fun oi e => k it (by simp) oi e
  item := by
    intro X hP hw hK hc i pins s σ H E I hf st hg
    subst hP hw hK
    obtain ⟨hi, ha⟩ := hg
    obtain ⟨f0, f1, f2, f3, f4, f5⟩ := hf it (by simp)
    have ho : s.heap.get? a = some ob := (I.hok a _ ha).1
    have hsz : arr.size = es.length := by rw [← Array.length_toList, he, List.length_map, ← Paired.length pr]
    have hlt : i < arr.size := by omega
    obtain ⟨x, hx, r1, r2, r3⟩ := paired_get pr (List.getElem?_eq_getElem hi)
    refine wpAny_pyNext_keys_item_raw st ⟨ob, ho, ex, hd⟩ hlt fun h' st' sb => ?_
    have I1 : Inv X pins σ H { s with heap := h' } := I.turned (t' := s.toks) (fun b o hb e => (sb.2 b hb).trans e) f0 f1 f3 f4 f5
    obtain ⟨oi, e, c, dd⟩ := id st'
    have hk : arr[i].key = x.2.1 := by
      have : arr[i]? = some (entOf X.w x) := by rw [← Array.getElem?_toList, he, List.getElem?_map, hx]; rfl
      rw [Array.getElem?_eq_getElem hlt] at this
      rw [Option.some.inj this]
      rfl
    refine ⟨_, rfl, go_of (s := { s with heap := h' }) e c dd (by decide) ⟨es[i].2.1, H, I1, ?_, ⟨rfl, es[i], List.getElem?_eq_getElem hi, rfl⟩, st', fun b hb => (hf b hb).1⟩⟩
    rw [hk]; exact r2
  done := by
    intro X hP hw hK hc i pins s σ H E I hf st hg
    subst hP hw hK
    obtain ⟨hi, ha⟩ := hg
    obtain ⟨f0, f1, f2, f3, f4, f5⟩ := hf it (by simp)
    have ho : s.heap.get? a = some ob := (I.hok a _ ha).1
    have hsz : arr.size = es.length := by rw [← Array.length_toList, he, List.length_map, ← Paired.length pr]
    exact wpAny_pyNext_keys_end_raw (I.ok.hd hc) st ⟨ob, ho, ex, hd⟩ (by omega) fun h' eb => ⟨rfl, I.turned (t' := s.toks) (fun b o hb e => eb b o hb e) f0 f1 f3 f4 f5⟩
  self := fun A i s Q E st h => wpAny_pyIter_keyiter st h
theorem pi_dk {X : Cx} {tg e : Expr} {td : TE} (he : PE X e td) : PI X tg e (fun σ H R => td σ H fun x H1 => ∃ a ob es, x = .ref a ∧ H1 a = some (exO a ob) ∧ DicO X.w a ob es ∧ R (Itdk a ob es) H1) := by
  refine ⟨fun pins s σ H R I h => ?_⟩
  refine thn (he.run pins s σ H _ I h) fun v s1 ⟨x, H1, I1, r1, a, ob, es, ex, ea, d, q⟩ => ?_
  subst ex
  obtain rfl : v = Value.ref a := r1
  obtain ⟨hs, exd, hz, hdp, nd, arr, ep, xs, hd, hent, pr⟩ := d
  have ho : s1.heap.get? a = some ob := (I1.hok a _ ea).1
  refine wpAny_pyIter_dict_raw hs ⟨ob, ho, exd, hd⟩ ?_
  refine ⟨s1.heap.objs.size, [s1.heap.objs.size], _, _, H1, rfl, I1.kept (t' := s1.toks) fun b o e => Heap.get?_push_of_some _ e, turn_dk s1.heap.objs.size (Nat.ne_of_lt (Heap.lt_size ho)) exd hd hent pr, ⟨_, Heap.get?_push_size _ rfl, rfl, rfl⟩, fun b hb => ?_, q⟩
  have e : b = s1.heap.objs.size := by simpa using hb
  subst e
  exact I1.fpOk (Nat.le_refl _) (I1.hok.fresh (Nat.le_refl _))
theorem map_get {α β : Type} {f : α → β} {xs : List α} {i : Nat} {y : β} (h : (xs.map f)[i]? = some y) : ∃ x, xs[i]? = some x ∧ f x = y := by
  rw [List.getElem?_map] at h
  cases e : xs[i]? with
  | none => rw [e] at h; cases h
  | some x => rw [e] at h; exact ⟨x, rfl, Option.some.inj h⟩
theorem wi_dic {tg e : Expr} {Q : List Vl → Store → Prop} (h : W g k S ρ O e fun u O1 => ∃ ks ts, u = .t (.dic ks ts) ∧ Q (ks.map fun k => Vl.t (kT k)) O1) : WI g k S ρ O tg e Q := by
  intro X A σ F H hE hC R hR
  refine semI_of (pi_dk pe_sem) (h X A σ F H hE hC _ fun u v F1 H1 O1 s1 c1 r1 q1 => ?_)
  obtain ⟨ks, ts, rfl, q1⟩ := q1
  obtain ⟨a, ob, es, rfl, ea, d, m, ra, rb⟩ := vrep_dic r1
  have e := A.g
  subst e
  refine ⟨a, ob, es, rfl, c1.sub _ _ ea, d, hR _ _ F1 H1 O1 s1 c1 (fun i H2 sm => ⟨fun u hu => ?_, fun hi => ?_⟩) q1⟩
  · obtain ⟨kk, h1, rfl⟩ := map_get hu
    obtain ⟨v, h2, h3⟩ := ra.get (show (ks.map kT)[i]? = some (kT kk) by rw [List.getElem?_map, h1]; rfl)
    obtain ⟨en, h4, h5⟩ := map_get h2
    refine ⟨⟨(List.getElem?_eq_some_iff.mp h4).1, sm _ _ ea⟩, fun x H3 y => .inl ⟨y.1, ?_⟩⟩
    obtain ⟨_, e', h6, rfl⟩ := y
    rw [h4] at h6
    cases h6
    rw [h5]
    exact h3
  · refine ⟨?_, sm _ _ ea⟩
    rw [hi, List.length_map, ← m, List.length_map]
    exact Nat.le_refl _
end
end TL
/-! The tree logic: a dict under HandS's name and under ours; len, list, sorted, dict, displays. -/
namespace TL
open PySem PySem.Spec PyProof.Rows L2

def nk : Key → NestedKey
  | .inl i => .num i
  | .inr x => .text x
theorem nk_inj : ∀ {a b : Key}, nk a = nk b → a = b
  | .inl _, .inl _, h => by injection h with h; rw [h]
  | .inl _, .inr _, h => by injection h
  | .inr _, .inl _, h => by injection h
  | .inr _, .inr _, h => by injection h with h; rw [h]
theorem nk_depth : ∀ a : Key, (nk a).depth ≤ 8
  | .inl _ => Nat.zero_le _
  | .inr _ => Nat.zero_le _
theorem nk_hash (w : World) : ∀ a : Key, (nk a).hash w = keyH w a
  | .inl _ => rfl
  | .inr _ => rfl
theorem nk_rep {w : World} {F : Hp} : ∀ a : Key, Rep w F (kT (nk a)) (kV a)
  | .inl _ => .int _
  | .inr _ => .str _
theorem nk_rep_inv {w : World} {F : Hp} : ∀ {a : Key} {v : V}, Rep w F (kT (nk a)) v → v = kV a
  | .inl _, _, r => by cases r; rfl
  | .inr _, _, r => by cases r; rfl
theorem nks_rep {w : World} {F : Hp} : ∀ ks : List Key, RepL w F ((ks.map nk).map kT) (ks.map kV)
  | [] => .nil
  | k :: ks => .cons (nk_rep k) (nks_rep ks)
theorem nks_rep_inv {w : World} {F : Hp} : ∀ {ks : List Key} {vs : List V}, RepL w F ((ks.map nk).map kT) vs → vs = ks.map kV
  | [], _, .nil => rfl
  | k :: ks, _, .cons r q => by rw [nk_rep_inv r, nks_rep_inv q]; rfl
theorem nodup_map {α β : Type} {f : α → β} (hf : ∀ a b, f a = f b → a = b) : ∀ {l : List α}, l.Nodup → (l.map f).Nodup
  | [], _ => List.nodup_nil
  | x :: l, h => by
    rw [List.nodup_cons] at h
    rw [List.map_cons, List.nodup_cons]
    refine ⟨fun q => ?_, nodup_map hf h.2⟩
    obtain ⟨y, hy, e⟩ := List.mem_map.mp q
    exact h.1 (hf _ _ e ▸ hy)
theorem nodup_of_map {α β : Type} {f : α → β} : ∀ {l : List α}, (l.map f).Nodup → l.Nodup
  | [], _ => List.nodup_nil
  | x :: l, h => by
    rw [List.map_cons, List.nodup_cons] at h
    exact List.nodup_cons.mpr ⟨fun q => h.1 (List.mem_map.mpr ⟨x, q, rfl⟩), nodup_of_map h.2⟩
/-- HandS's dict, known to the last bit -/
theorem dk_dicO {P : Program} {w : World} {H : Hp} {h : Heap} {a : Addr} {kvs : List (Key × V)} (o : ObjOk P w H h a (.dK kvs)) : ∃ ob, h.get? a = some ob ∧ DicO w a ob (kvs.map fun kv => (nk kv.1, kV kv.1, kv.2)) := by
  obtain ⟨z, hs, vs, rel, ob, es, ep, ho, ex, hd, hk, hp, nd⟩ := o
  refine ⟨ob, ho, hs, ex, by rw [List.length_map]; exact z, fun e he => ?_, ?_, es, ep, ?_⟩
  · obtain ⟨kv, _, rfl⟩ := List.mem_map.mp he
    exact nk_depth _
  · have e : (kvs.map fun kv => (nk kv.1, kV kv.1, kv.2)).map (·.1) = (kvs.map (·.1)).map nk := by rw [List.map_map, List.map_map]; rfl
    have e2 : kvs.map (·.1) = vs.map (·.1) := by
      clear hp nd z e
      induction rel with
      | nil => rfl
      | cons h1 h2 ih => rw [List.map_cons, List.map_cons, h1.1, ih]
    rw [e, e2]
    exact nodup_map (fun _ _ => nk_inj) nd
  · have all : ∀ {kvs : List (Key × V)} {vs : List (Key × Value)} {l : List DictEntry}, KV kvs vs → Pairs (mixKind P w) l vs → (∀ e ∈ l, ∃ k, (mixKind P w).is k e.key = true ∧ e.hash = (mixKind P w).hash k) →
        ∃ xs : List Ent, l = xs.map (entOf w) ∧ Paired (fun (e : NestedKey × V × V) (x : Ent) => x.1 = e.1 ∧ RelV e.2.1 x.2.1 ∧ RelV e.2.2 x.2.2) (kvs.map fun kv => (nk kv.1, kV kv.1, kv.2)) xs := by
      intro kvs vs l rel hp hk
      unfold KV at rel
      induction rel generalizing l with
      | nil => cases hp; exact ⟨[], rfl, .nil⟩
      | @cons kv vv kvs vs h1 h2 ih =>
        cases hp with
        | @cons e _ es _ p1 p2 p3 =>
          obtain ⟨xs, q1, q2⟩ := ih p3 fun e he => hk e (List.mem_cons_of_mem _ he)
          obtain ⟨k, k1, k2⟩ := hk e List.mem_cons_self
          have ek : k = vv.1 := (mixKind P w).inj _ _ _ k1 p1
          refine ⟨(nk kv.1, e.key, e.val) :: xs, ?_, .cons ⟨rfl, ?_, ?_⟩ q2⟩
          · rw [List.map_cons, ← q1]
            obtain ⟨eh, ek', ev⟩ := e
            have : eh = (nk kv.1).hash w := by rw [nk_hash, h1.1, ← ek]; exact k2
            rw [this]; rfl
          · have p1' : keyIs vv.1 e.key = true := p1
            have p2' := relV_key p1'
            rw [← h1.1] at p2'
            exact p2'
          · rw [p2]; exact h1.2
    obtain ⟨xs, q1, q2⟩ := all rel hp fun e he => hk e (Array.mem_toList_iff.mp he)
    exact ⟨xs, hd, q1, q2⟩
/-- .. and back -/
theorem dicO_dk {P : Program} {w : World} {H : Hp} {h : Heap} {a : Addr} {ob : Obj} {es : List (NestedKey × V × V)} {ks : List Key} (ho : h.get? a = some ob) (d : DicO w a ob es) (hk : es.map (·.1) = ks.map nk) (hv : es.map (·.2.1) = ks.map kV) :
    ObjOk P w H h a (.dK (ks.zip (es.map (·.2.2)))) := by
  obtain ⟨hs, ex, hz, hdp, nd, arr, ep, xs, hd, he, pr⟩ := d
  have hl : ks.length = es.length := by have := congrArg List.length hk; simpa using this.symm
  refine ⟨by rw [List.length_zip, List.length_map]; omega, hs, ks.zip (xs.map (·.2.2)), ?_, ob, arr, ep, ho, ex, hd, ?_, ?_, ?_⟩
  · clear he hd hdp nd hz
    induction pr generalizing ks with
    | nil => cases ks with | nil => exact .nil | cons _ _ => simp at hl
    | @cons e x es xs h1 h2 ih =>
      cases ks with
      | nil => simp at hl
      | cons k ks =>
        rw [List.map_cons, List.map_cons] at hk hv
        injection hk with hk1 hk2
        injection hv with hv1 hv2
        exact .cons ⟨rfl, h1.2.2⟩ (ih hk2 hv2 (by simpa using hl))
  · intro e hin
    have : e ∈ xs.map (entOf w) := he ▸ Array.mem_toList_iff.mpr hin
    clear he hd hdp nd hz hin
    induction pr generalizing ks with
    | nil => simp at this
    | @cons e' x es xs h1 h2 ih =>
      cases ks with
      | nil => simp at hl
      | cons k ks =>
        rw [List.map_cons, List.map_cons] at hk hv
        injection hk with hk1 hk2
        injection hv with hv1 hv2
        rw [List.map_cons] at this
        rcases List.mem_cons.mp this with q | q
        · subst q
          refine ⟨k, ?_, ?_⟩
          · have := h1.2.1
            rw [hv1] at this
            exact kV_is this
          · show x.1.hash w = keyH w k
            rw [h1.1, hk1, nk_hash]
        · exact ih hk2 hv2 (by simpa using hl) q
  · rw [he]
    clear he hd hdp nd hz
    induction pr generalizing ks with
    | nil => cases ks with | nil => exact .nil | cons _ _ => simp at hl
    | @cons e x es xs h1 h2 ih =>
      cases ks with
      | nil => simp at hl
      | cons k ks =>
        rw [List.map_cons, List.map_cons] at hk hv
        injection hk with hk1 hk2
        injection hv with hv1 hv2
        refine .cons ?_ rfl (ih hk2 hv2 (by simpa using hl))
        have := h1.2.1
        rw [hv1] at this
        exact kV_is this
  · have e1 : (ks.zip (xs.map (·.2.2))).map (·.1) = ks := by
      rw [List.map_fst_zip]
      rw [List.length_map, ← Paired.length pr, hl]
      exact Nat.le_refl _
    rw [e1]
    have : (ks.map nk).Nodup := by rw [← hk]; exact nd
    exact nodup_of_map this

section
variable {g : G} {k : Nat} {S : Sx} {ρ : Rho} {O : Store} {pos : Pos}
theorem mut_ex {a : Addr} {ob : Obj} {H : Hp} (e : H a = some (exO a ob)) : Mut (H a) := by rw [e]; exact True.intro
theorem inv_toDk {X : Cx} {pins : List (Addr × Obj)} {σ : L2.St} {H : Hp} {s : Shared} {a : Addr} {ob : Obj} {es : List (NestedKey × V × V)} {ks : List Key} (I : Inv X pins σ H s) (e : H a = some (exO a ob)) (d : DicO X.w a ob es) (hk : es.map (·.1) = ks.map nk) (hv : es.map (·.2.1) = ks.map kV) :
    Inv X pins σ (upd H a (.dK (ks.zip (es.map (·.2.2))))) s :=
  I.write (t' := s.toks) (h' := s.heap) (mut_ex e) (.inl rfl) (fun _ _ _ q => q) ⟨ob, (I.hok a _ e).1⟩ (dicO_dk (I.hok a _ e).1 d hk hv)
theorem inv_toEx {X : Cx} {pins : List (Addr × Obj)} {σ : L2.St} {H : Hp} {s : Shared} {a : Addr} {kvs : List (Key × V)} (I : Inv X pins σ H s) (e : H a = some (.dK kvs)) : ∃ ob, DicO X.w a ob (kvs.map fun kv => (nk kv.1, kV kv.1, kv.2)) ∧ Inv X pins σ (upd H a (exO a ob)) s := by
  obtain ⟨ob, ho, d⟩ := dk_dicO (I.hok a _ e)
  exact ⟨ob, d, I.write (t' := s.toks) (h' := s.heap) (by rw [e]; exact True.intro) (.inl rfl) (fun _ _ _ q => q) ⟨ob, ho⟩ (ext_ok ho)⟩
theorem inv_backEx {X : Cx} {pins : List (Addr × Obj)} {σ : L2.St} {H : Hp} {s : Shared} {a : Addr} {ob : Obj} {u : HO} (I : Inv X pins σ H s) (m : Mut (H a)) (ho : s.heap.get? a = some ob) : Inv X pins σ (upd H a (exO a ob)) s :=
  I.write (t' := s.toks) (h' := s.heap) m (.inl rfl) (fun _ _ _ q => q) ⟨ob, ho⟩ (ext_ok ho)
/-- what is asked of a dict under HandS's name, that only reads it and makes new things -/
theorem semE_dk {X : Cx} {e : Expr} {t : TE} (p : PE X e t) {σ : L2.St} {H : Hp} {Q : VK} {a : Addr} {kvs : List (Key × V)}
    (h : t σ H fun v H' => H' a = some (.dK kvs) ∧ ∀ ob, DicO X.w a ob (kvs.map fun kv => (nk kv.1, kV kv.1, kv.2)) → Q v (upd H' a (exO a ob))) : semE X e σ H Q := fun pins s I =>
  thn (p.run pins s σ H _ I h) fun u s' ⟨v, H', I', r, e, q⟩ => by
    obtain ⟨ob, d, I2⟩ := inv_toEx I' e
    exact ⟨v, _, I2, r, q ob d⟩
/-! ### new dicts -/
theorem kvs_parts (kvs : List (Key × V)) : (kvs.map fun kv => (nk kv.1, kV kv.1, kv.2)).map (·.1) = (kvs.map (·.1)).map nk ∧ (kvs.map fun kv => (nk kv.1, kV kv.1, kv.2)).map (·.2.1) = (kvs.map (·.1)).map kV ∧ (kvs.map fun kv => (nk kv.1, kV kv.1, kv.2)).map (·.2.2) = kvs.map (·.2) := by
  refine ⟨?_, ?_, ?_⟩ <;> simp [List.map_map, Function.comp_def]
theorem w_dnew {Q : Vl → Store → Prop} (h : Q (.t (.dic [] [])) O ∨ ∀ a, O a = none → Q (.cell a) (sup O a (.dic [] []))) : W g k S ρ O (.Dict [] [] pos) Q := by
  intro X A σ F H hE hC Qc hq
  have e := A.g
  subst e
  intro pins s I
  refine thn (pe_dnewK.run pins s σ H (fun v H' => ∃ p, H p = none ∧ v = .ref p ∧ H' = upd H p (.dK [])) I fun p hp => ⟨p, hp, rfl, rfl⟩) fun u s' ⟨v, H', I', r, p, hp, ev, eh⟩ => ?_
  subst ev eh
  obtain ⟨ob, d, I2⟩ := inv_toEx I' upd_same
  rw [upd_upd] at I2
  rcases h with q | q
  · obtain ⟨c', s'⟩ := hC.newF (o := exO p ob) hp
    exact ⟨.ref p, _, I2, r, hq (.t (.dic [] [])) _ _ _ _ s' c' (Rep.dic upd_same d rfl .nil .nil) q⟩
  · obtain ⟨c', s'⟩ := hC.newO (o := exO p ob) (x := .dic [] []) hp ⟨ob, [], rfl, d, rfl, .nil, .nil⟩
    exact ⟨.ref p, _, I2, r, hq (.cell p) _ _ _ _ s' c' rfl (q p (hC.free hp).2)⟩
/-- {k: v} -/
theorem w_disp {ke ve : Expr} {Q : Vl → Store → Prop} (h : W g k S ρ O ke fun x O1 => ∃ kk : Key, x = .t (kT (nk kk)) ∧ W g k S ρ O1 ve fun y O2 => (∃ t, y = .t t ∧ Q (.t (.dic [nk kk] [t])) O2) ∨ ∀ a, O2 a = none → Q (.cell a) (sup O2 a (.dic [nk kk] [y]))) :
    W g k S ρ O (.Dict [some ke] [ve] pos) Q := by
  intro X A σ F H hE hC Qc hq
  have e := A.g
  subst e
  intro pins s I
  have hp : PPs X pos [some ke] [ve] [(semE X ke, semE X ve)] := pps_cons pe_sem pe_sem pps_nil
  refine thn ((pe_disp hp rfl rfl (by simp) (by simp)).run pins s σ H (fun v H' => ∃ p F2 H2 O2 kk y vy, H' = upd H2 p (.dK [(kk, vy)]) ∧ v = .ref p ∧ F2 p = none ∧ O2 p = none ∧ H p = none ∧ Stp F (upd H p (.dK [])) O F2 H2 O2 ∧ Conc X.w F2 H2 O2 ∧ VRep X.w F2 y vy ∧ H2 p = some (.dK []) ∧ ((∃ t, y = .t t ∧ Q (.t (.dic [nk kk] [t])) O2) ∨ ∀ a, O2 a = none → Q (.cell a) (sup O2 a (.dic [nk kk] [y])))) I ?_) fun u s' ⟨v, H', I', r, p, F2, H2, O2, kk, y, vy, eh, ev, fp, op, hp, st, c2, ry, e2, q⟩ => ?_
  · intro p hp
    obtain ⟨fp, op⟩ := hC.free hp
    have c0 : Conc X.w F (upd H p (.dK [])) O := ⟨fun b x e => by rw [upd_ne (ne_of_none e fp)]; exact hC.sub b x e, fun b x e => by
      have hb : b ≠ p := fun z => by subst z; rw [op] at e; cases e
      obtain ⟨h1, o, h2, h3⟩ := hC.cell b x e
      exact ⟨h1, o, by rw [upd_ne hb]; exact h2, h3⟩⟩
    refine h X A σ F _ hE c0 _ fun x vx F1 H1 O1 s1 c1 r1 ⟨kk, e1, q1⟩ => ?_
    subst e1
    refine q1 X A σ F1 H1 (hE.mono s1.fr) c1 _ fun y vy F2 H2 O2 s2 c2 r2 q2 => ?_
    have st := s1.trans s2
    have e2 : H2 p = some (.dK []) := st.out p _ upd_same op
    refine ⟨e2, [(kk, vy)], ?_, by simp, p, F2, H2, O2, kk, y, vy, rfl, rfl, st.nF p fp (by rw [upd_same]; simp) op, st.nO p (by rw [upd_same]; simp) op, hp, st, c2, r2, e2, q2⟩
    rw [nk_rep_inv r1]; rfl
  · subst ev eh
    obtain ⟨ob, d, I2⟩ := inv_toEx I' upd_same
    rw [upd_upd] at I2
    have st2 : Stp F H O F2 (upd H2 p (exO p ob)) O2 := ⟨st.fr, fun b x e n => by
      have hb := ne_of_none e hp
      rw [upd_ne hb]
      exact st.out b x (by rw [upd_ne hb]; exact e) n, fun b e1 n2 e3 => st.nF b e1 (by
        have hb : b ≠ p := fun z => n2 (z ▸ hp)
        rw [upd_ne hb]; exact n2) e3, fun b n2 e3 => st.nO b (by
        have hb : b ≠ p := fun z => n2 (z ▸ hp)
        rw [upd_ne hb]; exact n2) e3⟩
    rcases q with ⟨t, rfl, q⟩ | q
    · have ss : Same F2 (upd F2 p (exO p ob)) := same_upd fp
      refine ⟨.ref p, _, I2, r, hq (.t (.dic [nk kk] [t])) _ (upd F2 p (exO p ob)) _ O2 ⟨st2.fr.trans ss, st2.out, fun b e1 n2 e3 => ?_, st2.nO⟩ ⟨fun b x e => ?_, fun b x e => ?_⟩ (Rep.dic upd_same d rfl (.cons (nk_rep kk) .nil) (.cons (ry.mono ss) .nil)) q⟩
      · rw [upd_ne (fun (z : b = p) => n2 (by rw [z]; exact hp))]; exact st2.nF b e1 n2 e3
      · by_cases hb : b = p
        · subst hb; rw [upd_same] at e ⊢; exact e
        · rw [upd_ne hb] at e ⊢; exact c2.sub b x e
      · have hb : b ≠ p := fun z => by subst z; rw [op] at e; cases e
        obtain ⟨h1, o, h2, h3⟩ := c2.cell b x e
        exact ⟨by rw [upd_ne hb]; exact h1, o, by rw [upd_ne hb]; exact h2, h3.mono ss⟩
    · refine ⟨.ref p, _, I2, r, hq (.cell p) _ F2 _ (sup O2 p (.dic [nk kk] [y])) ⟨st2.fr, st2.out, st2.nF, fun b n2 e3 => ?_⟩ ⟨fun b x e => ?_, fun b x e => ?_⟩ rfl (q p op)⟩
      · rw [sup_ne (fun (z : b = p) => n2 (by rw [z]; exact hp))]; exact st2.nO b n2 e3
      · rw [upd_ne (ne_of_none e fp)]; exact c2.sub b x e
      · by_cases hb : b = p
        · subst hb; rw [sup_same] at e; cases e
          exact ⟨fp, _, upd_same, ob, _, rfl, d, rfl, .cons (nk_rep kk) .nil, .cons ry .nil⟩
        · rw [sup_ne hb] at e
          obtain ⟨h1, o, h2, h3⟩ := c2.cell b x e
          exact ⟨h1, o, by rw [upd_ne hb]; exact h2, h3⟩
end
end TL
/-! The tree logic: len, list, sorted, dict of a dict; isinstance. -/
namespace TL
open PySem PySem.Spec PyProof.Rows L2

section
variable {g : G} {k : Nat} {S : Sx} {ρ : Rho} {O : Store} {pos : Pos}

/-- an object that none of us names -/
theorem Conc.newX {w : World} {F H : Hp} {O : Store} (c : Conc w F H O) {p : Addr} {o : HO} (h : H p = none) : Conc w F (upd H p o) O ∧ Stp F H O F (upd H p o) O := by
  obtain ⟨f, n⟩ := c.free h
  refine ⟨⟨fun b x e => ?_, fun b x e => ?_⟩, Same.refl _, fun b x e _ => ?_, fun _ e _ _ => e, fun _ _ e => e⟩
  · rw [upd_ne (ne_of_none e f)]; exact c.sub b x e
  · have hb : b ≠ p := fun z => by subst z; rw [n] at e; cases e
    obtain ⟨h1, o', h2, h3⟩ := c.cell b x e
    exact ⟨h1, o', by rw [upd_ne hb]; exact h2, h3⟩
  · rw [upd_ne (ne_of_none e h)]; exact e
theorem upd_back {H : Hp} {a : Addr} {o : HO} (e : H a = some o) : upd H a o = H := by
  funext b
  by_cases h : b = a
  · subst h; rw [upd_same, e]
  · rw [upd_ne h]
theorem upd_swap {H : Hp} {a p : Addr} {o u z : HO} (h : p ≠ a) (e : H a = some z) : upd (upd (upd H a o) p u) a z = upd H p u := by
  funext b
  by_cases hb : b = a
  · subst hb; rw [upd_same, upd_ne (fun q => h q.symm), e]
  · rw [upd_ne hb]
    by_cases hp : b = p
    · subst hp; rw [upd_same, upd_same]
    · rw [upd_ne hp, upd_ne hp, upd_ne hb]
/-- a dict under HandS's name, locked, and back -/
theorem read_dk {X : Cx} {pins : List (Addr × Obj)} {σ : L2.St} {H : Hp} {s : Shared} {a : Addr} {ob : Obj} {es : List (NestedKey × V × V)} {ks : List Key} (I : Inv X pins σ H s) (e : H a = some (exO a ob)) (d : DicO X.w a ob es) (hk : es.map (·.1) = ks.map nk) (hv : es.map (·.2.1) = ks.map kV) :
    Inv X pins σ (upd H a (.frz ob (.dK (ks.zip (es.map (·.2.2)))))) s ∧ ∀ σ' H' s', Inv X pins σ' H' s' → H' a = some (.frz ob (.dK (ks.zip (es.map (·.2.2))))) → Inv X pins σ' (upd H' a (exO a ob)) s' := by
  have I1 := inv_toDk I e d hk hv
  have ho := (I.hok a _ e).1
  have mu : Mut (some (HO.dK (ks.zip (es.map (·.2.2))))) := True.intro
  obtain ⟨od, I2⟩ := I1.lock upd_same mu
  rw [upd_upd] at I2
  have e2 : s.heap.get? a = some od := (I2.hok a _ upd_same).1
  rw [ho] at e2
  cases e2
  refine ⟨I2, fun σ' H' s' I' e' => ?_⟩
  have ho' : s'.heap.get? a = some ob := (I'.hok a _ e').1
  have I3 := I'.unlock e' (I1.nofrz upd_same mu)
  have I4 := I3.write (t' := s'.toks) (h' := s'.heap) (x := a) (e := a) (o := exO a ob) (by rw [upd_same]; exact True.intro) (.inl rfl) (fun _ _ _ q => q) ⟨ob, ho'⟩ (ext_ok ho')
  rw [upd_upd] at I4
  exact I4
/-- a dict's facts, for a call under HandS's name -/
def DkH (w : World) (H : Hp) (a : Addr) (ob : Obj) (es : List (NestedKey × V × V)) (ks : List Key) : Prop := H a = some (exO a ob) ∧ DicO w a ob es ∧ es.map (·.1) = ks.map nk ∧ es.map (·.2.1) = ks.map kV
theorem call_dk {X : Cx} {f : Value} {r : List V → Hp → VK → Prop} (hr : CallR X f r) :
    CallR X f (fun vs H Q => ∃ a ob es ks, vs = [.ref a] ∧ DkH X.w H a ob es ks ∧ r [.ref a] (upd H a (.frz ob (.dK (ks.zip (es.map (·.2.2)))))) fun v H' => H' a = some (.frz ob (.dK (ks.zip (es.map (·.2.2))))) ∧ Q v (upd H' a (exO a ob))) := by
  intro pins s σ H xs us Q I rv ⟨a, ob, es, ks, e, ⟨e1, d, hk, hv⟩, q⟩
  subst e
  obtain ⟨I1, back⟩ := read_dk I e1 d hk hv
  exact thn (hr pins s σ _ _ us _ I1 rv q) fun u s' ⟨v, H', I', rr, e', q⟩ => ⟨v, _, back _ _ _ I' e', rr, q⟩
theorem dkH_of {w : World} {F H : Hp} {ks : List Key} {ts : List T} {v : V} (s : Same F H) (r : VRep w F (.t (.dic (ks.map nk) ts)) v) : ∃ a ob es, v = .ref a ∧ DkH w H a ob es ks ∧ RepL w F ts (es.map (·.2.2)) := by
  obtain ⟨a, ob, es, rfl, ea, d, m, r1, r2⟩ := vrep_dic r
  exact ⟨a, ob, es, rfl, ⟨s _ _ ea, d, m, nks_rep_inv r1⟩, r2⟩
theorem zip_keys {α : Type} {ks : List Key} {vs : List α} (h : ks.length = vs.length) : (ks.zip vs).map (·.1) = ks := by
  rw [List.map_fst_zip (by omega)]
/-- sorted(d), keys texts, fewer than 64 -/
theorem b_sortedD : BCall g k (.builtin "sorted") (fun us O Q => ∃ (xs : List Str) (ts : List T), us = [.t (.dic (xs.map NestedKey.text) ts)] ∧ xs.length < 64 ∧ ∀ ys : List Str, ys.Perm xs → sortedS ys = true → Q (.t (.lst (ys.map T.str))) O) :=
  fun X S A => ⟨_, call_dk (call_sortedD A.calm), fun F H O us vs Q Qc c r hq ⟨xs, ts, e, hl, q⟩ => by
    subst e
    have e := A.g
    subst e
    obtain ⟨v, rfl, rr⟩ := vreps1 r
    have ek : xs.map NestedKey.text = (xs.map Sum.inr : List Key).map nk := by rw [List.map_map]; rfl
    rw [ek] at rr
    obtain ⟨a, ob, es, rfl, D, r2⟩ := dkH_of c.sub rr
    have hlen : (xs.map Sum.inr : List Key).length = (es.map (·.2.2)).length := by
      have := congrArg List.length D.2.2.1
      simpa using this.symm
    refine ⟨a, ob, es, _, rfl, D, a, _, xs, rfl, .inr ⟨ob, upd_same⟩, zip_keys hlen, hl, fun ys p h1 h2 hp => ?_⟩
    have hpa : p ≠ a := fun z => by subst z; rw [upd_same] at hp; cases hp
    have hp' : H p = none := by rw [upd_ne hpa] at hp; exact hp
    refine ⟨by rw [upd_ne hpa.symm, upd_same], ?_⟩
    rw [upd_swap hpa D.1]
    obtain ⟨c', s'⟩ := c.newF (o := .lst (ys.map V.str)) hp'
    exact hq (.t (.lst (ys.map T.str))) _ _ _ _ s' c' (Rep.lst upd_same (RepL.of_strs ys)) (q ys h1 h2)⟩
/-- dict(d), keys texts or numbers -/
theorem b_dictD : BCall g k (.type "dict") (fun us O Q => ∃ (ks : List Key) (ts : List T), us = [.t (.dic (ks.map nk) ts)] ∧ Q (.t (.dic (ks.map nk) ts)) O) :=
  fun X S A => ⟨fun vs H Q => ∃ a ob es ks, vs = [.ref a] ∧ DkH X.w H a ob es ks ∧ ∀ p ob' es', H p = none → DicO X.w p ob' es' → es'.map (·.1) = ks.map nk → es'.map (·.2.1) = ks.map kV → es'.map (·.2.2) = es.map (·.2.2) → Q (.ref p) (upd H p (exO p ob')),
    fun pins s σ H xs us Q I rv ⟨a, ob, es, ks, e, D, q⟩ => by
      have hlen : ks.length = (es.map (·.2.2)).length := by
        have := congrArg List.length D.2.2.1
        simpa using this.symm
      refine thn (call_dk call_dictD pins s σ H xs us (fun v H' => ∃ p, H p = none ∧ v = .ref p ∧ H' = upd H p (.dK (ks.zip (es.map (·.2.2))))) I rv ⟨a, ob, es, ks, e, D, a, _, rfl, .inr ⟨ob, upd_same⟩, fun p hp => ?_⟩) fun u s' ⟨v, H', I', rr, p, hp, ev, eh⟩ => ?_
      · have hpa : p ≠ a := fun z => by subst z; rw [upd_same] at hp; cases hp
        have hp' : H p = none := by rw [upd_ne hpa] at hp; exact hp
        refine ⟨by rw [upd_ne hpa.symm, upd_same], p, hp', rfl, ?_⟩
        rw [upd_swap hpa D.1]
      · subst ev eh
        obtain ⟨ob', d', I2⟩ := inv_toEx I' upd_same
        rw [upd_upd] at I2
        obtain ⟨k1, k2, k3⟩ := kvs_parts (ks.zip (es.map (·.2.2)))
        rw [zip_keys hlen] at k1 k2
        exact ⟨.ref p, _, I2, rr, q p ob' _ hp d' k1 k2 (by rw [k3, List.map_snd_zip (by omega)])⟩,
    fun F H O us vs Q Qc c r hq ⟨ks, ts, e, q⟩ => by
      subst e
      have e := A.g
      subst e
      obtain ⟨v, rfl, rr⟩ := vreps1 r
      obtain ⟨a, ob, es, rfl, D, r2⟩ := dkH_of c.sub rr
      refine ⟨a, ob, es, ks, rfl, D, fun p ob' es' hp d' k1 k2 k3 => ?_⟩
      obtain ⟨c', s'⟩ := c.newF (o := exO p ob') hp
      have ss := same_upd (o := exO p ob') (c.free hp).1
      refine hq (.t (.dic (ks.map nk) ts)) _ _ _ _ s' c' (Rep.dic upd_same d' k1 ?_ (by rw [k3]; exact r2.mono ss)) q
      rw [k2]; exact nks_rep ks⟩
/-- dict([(k, v), ..]), keys texts or numbers, all different -/
theorem merge_new : ∀ (kvs acc : List (Key × V)), (kvs.map (·.1)).Nodup → (∀ kv ∈ kvs, kv.1 ∉ acc.map (·.1)) → mergeK acc kvs = acc ++ kvs
  | [], acc, _, _ => by simp [mergeK]
  | kv :: kvs, acc, nd, h => by
    rw [List.map_cons, List.nodup_cons] at nd
    have h0 := h kv List.mem_cons_self
    have e : putK acc kv.1 kv.2 = acc ++ [kv] := by
      unfold putK
      rw [if_neg]
      intro q
      obtain ⟨x, hx, hd⟩ := List.any_eq_true.mp q
      exact h0 (List.mem_map.mpr ⟨x, hx, of_decide_eq_true hd⟩)
    show mergeK (putK acc kv.1 kv.2) kvs = _
    rw [e, merge_new kvs (acc ++ [kv]) nd.2 fun x hx q => ?_]
    · simp
    · rw [List.map_append] at q
      rcases List.mem_append.mp q with q | q
      · exact h x (List.mem_cons_of_mem _ hx) q
      · simp only [List.map_cons, List.map_nil, List.mem_singleton] at q
        exact nd.1 (q ▸ List.mem_map.mpr ⟨x, hx, rfl⟩)
theorem b_dictP : BCall g k (.type "dict") (fun us O Q => ∃ (kts : List (Key × T)), us = [.t (.lst (kts.map fun kt => .tup [kT (nk kt.1), kt.2]))] ∧ (kts.map (·.1)).Nodup ∧ Q (.t (.dic (kts.map fun kt => nk kt.1) (kts.map (·.2)))) O) :=
  fun X S A => ⟨fun vs H Q => ∃ (a : Addr) (ps : List Addr) (kvs : List (Key × V)), vs = [.ref a] ∧ SqL X.K H a (ps.map V.ref) ∧ Paired (fun p kv => SqT X.K H p [kV kv.1, kv.2]) ps kvs ∧ (kvs.map (·.1)).Nodup ∧ ∀ p ob', H p = none → DicO X.w p ob' (kvs.map fun kv => (nk kv.1, kV kv.1, kv.2)) → Q (.ref p) (upd H p (exO p ob')),
    fun pins s σ H xs us Q I rv ⟨a, ps, kvs, e, h1, h2, nd, q⟩ => by
      refine thn (call_dictP A.calm pins s σ H xs us (fun v H' => ∃ p, H p = none ∧ v = .ref p ∧ H' = upd H p (.dK kvs)) I rv ⟨a, ps, kvs, e, h1, h2, fun p hp => ⟨p, hp, rfl, ?_⟩⟩) fun u s' ⟨v, H', I', rr, p, hp, ev, eh⟩ => ?_
      · rw [merge_new kvs [] nd (fun _ _ q => by simp at q)]; rfl
      · subst ev eh
        obtain ⟨ob', d', I2⟩ := inv_toEx I' upd_same
        rw [upd_upd] at I2
        exact ⟨.ref p, _, I2, rr, q p ob' hp d'⟩,
    fun F H O us vs Q Qc c r hq ⟨kts, e, nd, q⟩ => by
      subst e
      have e := A.g
      subst e
      obtain ⟨v, rfl, rr⟩ := vreps1 r
      obtain ⟨a, vs, rfl, ea, ra⟩ := vrep_lst rr
      have all : ∀ {kts : List (Key × T)} {vs : List V}, RepL X.w F (kts.map fun kt => .tup [kT (nk kt.1), kt.2]) vs → ∃ (ps : List Addr) (kvs : List (Key × V)), vs = ps.map V.ref ∧ Paired (fun p kv => SqT X.K H p [kV kv.1, kv.2]) ps kvs ∧ kvs.map (·.1) = kts.map (·.1) ∧ RepL X.w F (kts.map (·.2)) (kvs.map (·.2)) := by
        intro kts
        induction kts with
        | nil => intro vs r; cases r; exact ⟨[], [], rfl, .nil, rfl, .nil⟩
        | cons kt kts ih =>
          intro vs r
          rw [List.map_cons] at r
          cases r with
          | cons r1 r2 =>
            obtain ⟨ps, kvs, e1, e2, e3, e4⟩ := ih r2
            obtain ⟨b, ws, rfl, eb, rb⟩ := vrep_tup r1
            cases rb with
            | cons q1 q2 =>
              cases q2 with
              | @cons _ y _ _ q2 q3 =>
                cases q3
                have := nk_rep_inv q1
                subst this
                exact ⟨b :: ps, (kt.1, y) :: kvs, by rw [e1]; rfl, .cons (tup_sq c.sub eb) e2, by rw [List.map_cons, List.map_cons, e3], .cons q2 e4⟩
      obtain ⟨ps, kvs, rfl, h2, h3, h4⟩ := all ra
      refine ⟨a, ps, kvs, rfl, lst_sq c.sub ea, h2, by rw [h3]; exact nd, fun p ob' hp d' => ?_⟩
      obtain ⟨c', s'⟩ := c.newF (o := exO p ob') hp
      have ss := same_upd (o := exO p ob') (c.free hp).1
      obtain ⟨k1, k2, k3⟩ := kvs_parts kvs
      have ek : (kts.map fun kt => nk kt.1) = (kvs.map (·.1)).map nk := by rw [h3, List.map_map]; rfl
      refine hq (.t (.dic (kts.map fun kt => nk kt.1) (kts.map (·.2)))) _ _ _ _ s' c' (Rep.dic upd_same d' (by rw [k1, ek]) ?_ (by rw [k3]; exact h4.mono ss)) q
      rw [k2, ek]; exact nks_rep _⟩
/-- len(d) -/
theorem call_lenD {X : Cx} : CallR X (.builtin "len") (fun xs H Q => ∃ (a : Addr) (kvs : List (Key × V)), xs = [.ref a] ∧ Rd H a (.dK kvs) ∧ Q (.int kvs.length) H) := by
  intro pins s σ H xs us Q I r ⟨a, kvs, e, hd, q⟩
  subst e
  obtain ⟨u, rfl, ru⟩ := vals1 r
  obtain rfl : u = Value.ref a := ru
  exact d_len I hd fun t s' I' => ⟨.int _, H, I', ⟨t, rfl⟩, q⟩
theorem b_lenD : BCall g k (.builtin "len") (fun us O Q => ∃ (ks : List Key) (ts : List T), us = [.t (.dic (ks.map nk) ts)] ∧ Q (.t (.int ks.length)) O) :=
  fun X S A => ⟨_, call_dk call_lenD, fun F H O us vs Q Qc c r hq ⟨ks, ts, e, q⟩ => by
      subst e
      have e := A.g
      subst e
      obtain ⟨v, rfl, rr⟩ := vreps1 r
      obtain ⟨a, ob, es, rfl, D, r2⟩ := dkH_of c.sub rr
      have hlen : ks.length = (es.map (·.2.2)).length := by
        have := congrArg List.length D.2.2.1
        simpa using this.symm
      refine ⟨a, ob, es, ks, rfl, D, a, _, rfl, .inr ⟨ob, upd_same⟩, upd_same, ?_⟩
      · rw [upd_upd, upd_back D.1, List.length_zip, ← hlen, Nat.min_self]
        exact hq (.t (.int _)) _ _ _ _ Stp.refl c (Rep.int _) q⟩
/-- list(d): the keys -/
theorem b_listD : BCall g k (.type "list") (fun us O Q => ∃ ks ts, us = [.t (.dic ks ts)] ∧ (Q (.t (.lst (ks.map kT))) O)) :=
  fun X S A => ⟨fun vs H Q => ∃ a ob es, vs = [.ref a] ∧ H a = some (exO a ob) ∧ DicO X.w a ob es ∧ ∀ p, H p = none → Q (.ref p) (upd H p (.lst (es.map (·.2.1)))),
    fun pins s σ H xs us Q I rv ⟨a, ob, es, e, ea, d, q⟩ => by
      subst e
      obtain ⟨u, rfl, ru⟩ := vals1 rv
      obtain rfl : u = Value.ref a := ru
      obtain ⟨hs, exd, hz, hdp, nd, arr, ep, xs, hd, hent, pr⟩ := d
      have ho := (I.hok a _ ea).1
      have hsz : arr.size = es.length := by rw [← Array.length_toList, hent, List.length_map, ← Paired.length pr]
      refine PySem.W.kdl_call (PySem.KdlSrc.rawDict (es := arr) (ep := ep) hs) (I.ok.hd A.calm) ⟨ob, ho, exd, hd⟩ (by omega) fun h' tk acc c' hk hD hacc => ?_
      have hv : Vals (es.map (·.2.1)) acc.toList := by
        have hl : es.length = acc.toList.length := by
          have h1 := hacc.1
          have h2 : acc.toList.length = acc.size := Array.length_toList
          omega
        have all : ∀ j (e : NestedKey × V × V) (u : Value), es[j]? = some e → acc.toList[j]? = some u → RelV e.2.1 u := fun j e u h1 h2 => by
          obtain ⟨x, hx, r1, r2, r3⟩ := paired_get pr h1
          obtain ⟨hi, eu⟩ := hacc.2 j u (by rw [← Array.getElem?_toList]; exact h2)
          have : arr[j]? = some (entOf X.w x) := by rw [← Array.getElem?_toList, hent, List.getElem?_map, hx]; rfl
          rw [Array.getElem?_eq_getElem hi] at this
          rw [eu, Option.some.inj this]
          exact r2
        clear pr hent nd hdp hz hacc hD q hsz
        revert hl all
        generalize acc.toList = us
        intro hl all
        induction es generalizing us with
        | nil => cases us with | nil => exact .nil | cons _ _ => simp at hl
        | cons e es ih =>
          cases us with
          | nil => simp at hl
          | cons u us => exact .cons (all 0 e u rfl rfl) (ih us (by simpa using hl) fun j e u h1 h2 => all (j + 1) e u (by simpa using h1) (by simpa using h2))
      refine ⟨.ref s.heap.objs.size, upd H s.heap.objs.size (.lst (es.map (·.2.1))), I.laid (t' := tk) hk (Nat.le_refl _)
        (show ObjOk X.prog X.w _ _ _ (.lst (es.map (·.2.1))) from ⟨by rw [List.length_map]; exact hz, acc.toList, c', hv, by rw [Array.toArray_toList]; exact hD⟩), rfl, q _ (I.hok.fresh (Nat.le_refl _))⟩,
    fun F H O us vs Q Qc c r hq ⟨ks, ts, e, q⟩ => by
      subst e
      have e := A.g
      subst e
      obtain ⟨v, rfl, rr⟩ := vreps1 r
      obtain ⟨a, ob, es, rfl, ea, d, m, r1, r2⟩ := vrep_dic rr
      refine ⟨a, ob, es, rfl, c.sub _ _ ea, d, fun p hp => ?_⟩
      obtain ⟨c', s'⟩ := c.newF (o := .lst (es.map (·.2.1))) hp
      exact hq (.t (.lst (ks.map kT))) _ _ _ _ s' c' (Rep.lst upd_same (r1.mono (same_upd (c.free hp).1))) q⟩
end
end TL
/-! The tree logic: freezing, pure mode, promises of defs. -/
namespace TL
open PySem PySem.Spec PyProof.Rows L2

def noS : Store := fun _ => none
mutual
/-- what the cells show, taken as data -/
inductive Frz (O : Store) : Vl → T → Prop
  | t (t : T) : Frz O (.t t) t
  | lst {a xs ts} : O a = some (.lst xs) → FrzL O xs ts → Frz O (.cell a) (.lst ts)
  | dic {a ks xs ts} : O a = some (.dic ks xs) → FrzL O xs ts → Frz O (.cell a) (.dic ks ts)
  | ins {a C fs xs ts} : O a = some (.ins C fs xs) → FrzL O xs ts → Frz O (.cell a) (.ins C fs ts)
inductive FrzL (O : Store) : List Vl → List T → Prop
  | nil : FrzL O [] []
  | cons {x t xs ts} : Frz O x t → FrzL O xs ts → FrzL O (x :: xs) (t :: ts)
end
theorem FrzL.ts {O : Store} : ∀ ts : List T, FrzL O (ts.map Vl.t) ts
  | [] => .nil
  | t :: ts => .cons (.t t) (FrzL.ts ts)
theorem Frz.flat {O : Store} {a : Addr} {ts : List T} (h : O a = some (.lst (ts.map Vl.t))) : Frz O (.cell a) (.lst ts) := .lst h (FrzL.ts ts)
theorem Frz.flatD {O : Store} {a : Addr} {ks : List NestedKey} {ts : List T} (h : O a = some (.dic ks (ts.map Vl.t))) : Frz O (.cell a) (.dic ks ts) := .dic h (FrzL.ts ts)
/-- the frozen heap behind a freezing of Op's cells -/
def thaw (F H : Hp) (Op : Store) : Hp := fun b => match Op b with
  | some _ => H b
  | none => F b
/-- O1 stays, O2 is frozen, the others are forgotten -/
structure Split (O O1 O2 : Store) : Prop where
  l : ∀ b c, O1 b = some c → O b = some c ∧ O2 b = none
  r : ∀ b c, O2 b = some c → O b = some c
theorem Split.all {O : Store} : Split O noS O := ⟨fun _ _ h => (by cases h), fun _ _ h => h⟩
section
variable {w : World} {F H : Hp} {O O1 O2 : Store}
mutual
theorem Frz.rep (c : Conc w F H O) (hs : Split O O1 O2) (sm : Same F (thaw F H O2)) : ∀ {u : Vl} {t : T} {v : V}, Frz O2 u t → VRep w F u v → Rep w (thaw F H O2) t v
  | _, _, _, .t _, r => Rep.mono sm r
  | .cell a, _, v, .lst e l, r => by
    have r : v = .ref a := r
    subst r
    obtain ⟨_, o, ho, vs, rfl, rv⟩ := c.cell a _ (hs.r _ _ e)
    exact .lst (by unfold thaw; rw [e]; exact ho) (FrzL.rep c hs sm l rv)
  | .cell a, _, v, .dic e l, r => by
    have r : v = .ref a := r
    subst r
    obtain ⟨_, o, ho, ob, es, rfl, d, m, r1, rv⟩ := c.cell a _ (hs.r _ _ e)
    exact .dic (by unfold thaw; rw [e]; exact ho) d m (r1.mono sm) (FrzL.rep c hs sm l rv)
  | .cell a, _, v, .ins e l, r => by
    have r : v = .ref a := r
    subst r
    obtain ⟨_, o, ho, dx, vs, rfl, hl, rv⟩ := c.cell a _ (hs.r _ _ e)
    exact .ins (by unfold thaw; rw [e]; exact ho) hl (FrzL.rep c hs sm l rv)
theorem FrzL.rep (c : Conc w F H O) (hs : Split O O1 O2) (sm : Same F (thaw F H O2)) : ∀ {us : List Vl} {ts : List T} {vs : List V}, FrzL O2 us ts → VReps w F us vs → RepL w (thaw F H O2) ts vs
  | _, _, _, .nil, .nil => .nil
  | _, _, _, .cons h hs', .cons r rs => .cons (Frz.rep c hs sm h r) (FrzL.rep c hs sm hs' rs)
end
theorem thaw_same (c : Conc w F H O) (hs : Split O O1 O2) : Same F (thaw F H O2) := fun b x e => by
  unfold thaw
  cases q : O2 b with
  | none => exact e
  | some y => exact c.sub b x e
theorem Conc.split (c : Conc w F H O) (hs : Split O O1 O2) : Conc w (thaw F H O2) H O1 ∧ Stp F H O (thaw F H O2) H O1 := by
  have sm := thaw_same c hs
  refine ⟨⟨fun b x e => ?_, fun b x e => ?_⟩, sm, fun _ _ e _ => e, fun b e1 _ e3 => ?_, fun b _ e => ?_⟩
  · unfold thaw at e
    cases q : O2 b with
    | none => rw [q] at e; exact c.sub b x e
    | some y => rw [q] at e; exact e
  · obtain ⟨h1, h2⟩ := hs.l b x e
    obtain ⟨f, o, ho, r⟩ := c.cell b x h1
    exact ⟨by unfold thaw; rw [h2]; exact f, o, ho, r.mono sm⟩
  · unfold thaw
    cases q : O2 b with
    | none => exact e1
    | some y => rw [hs.r b y q] at e3; cases e3
  · cases q : O1 b with
    | none => rfl
    | some y => rw [(hs.l b y q).1] at e; cases e
end
/-- the names behind a freezing -/
inductive FrzR (O : Store) : Rho → Rho → Prop
  | nil : FrzR O [] []
  | none {x : Option Vl} {ρ ρ' : Rho} : FrzR O ρ ρ' → FrzR O (x :: ρ) (none :: ρ')
  | keep {x : Option Vl} {ρ ρ' : Rho} : FrzR O ρ ρ' → FrzR O (x :: ρ) (x :: ρ')
  | frz {u : Vl} {t : T} {ρ ρ' : Rho} : Frz O u t → FrzR O ρ ρ' → FrzR O (some u :: ρ) (some (.t t) :: ρ')
theorem FrzR.env {w : World} {F H : Hp} {O O1 O2 : Store} (c : Conc w F H O) (hs : Split O O1 O2) : ∀ {ρ ρ' : Rho} {σ : L2.St}, FrzR O2 ρ ρ' → EnvR w F ρ σ → EnvR w (thaw F H O2) ρ' σ := by
  intro ρ ρ' σ h
  have sm := thaw_same c hs
  induction h generalizing σ with
  | nil => intro e; exact e.mono sm
  | @none x ρ ρ' h ih =>
    intro e
    cases σ with
    | nil => have := e.len; simp at this
    | cons y σ =>
      have ih := ih (σ := σ) ⟨by simpa using e.len, fun i u q => by simpa using e.get (i + 1) u (by simpa using q)⟩
      exact ⟨by have := ih.len; simpa using this, fun i u q => by
        cases i with
        | zero => simp at q
        | succ i => simpa using ih.get i u (by simpa using q)⟩
  | @keep x ρ ρ' h ih =>
    intro e
    cases σ with
    | nil => have := e.len; simp at this
    | cons y σ =>
      have ih := ih (σ := σ) ⟨by simpa using e.len, fun i u q => by simpa using e.get (i + 1) u (by simpa using q)⟩
      exact ⟨by have := ih.len; simpa using this, fun i u q => by
        cases i with
        | zero =>
          obtain ⟨v, h1, h2⟩ := e.get 0 u (by simpa using q)
          exact ⟨v, by simpa using h1, h2.mono sm⟩
        | succ i => simpa using ih.get i u (by simpa using q)⟩
  | @frz x t ρ ρ' hf h ih =>
    intro e
    cases σ with
    | nil => have := e.len; simp at this
    | cons y σ =>
      have ih := ih (σ := σ) ⟨by simpa using e.len, fun i u q => by simpa using e.get (i + 1) u (by simpa using q)⟩
      exact ⟨by have := ih.len; simpa using this, fun i u q => by
        cases i with
        | zero =>
          have q : Vl.t t = u := by simpa using q
          subst q
          obtain ⟨v, h1, h2⟩ := e.get 0 x (by simp)
          exact ⟨v, by simpa using h1, Frz.rep c hs sm hf h2⟩
        | succ i => simpa using ih.get i u (by simpa using q)⟩
theorem FrzR.refl {O : Store} : ∀ ρ : Rho, FrzR O ρ ρ
  | [] => .nil
  | _ :: ρ => .keep (FrzR.refl ρ)

section
variable {g : G} {k : Nat} {S : Sx} {ρ : Rho} {O : Store} {pos : Pos}
/-- freezing between statements -/
theorem ws_frz {st : List Stmt} {D : TD} {ρ' : Rho} {O1 O2 : Store} (hs : Split O O1 O2) (hr : FrzR O2 ρ ρ') (h : WS g k S ρ' O1 st D) : WS g k S ρ O st D := by
  intro X A σ F H hE hC Dc hq
  obtain ⟨c, s⟩ := hC.split hs
  exact h X A σ _ H (hr.env hC hs hE) c Dc (hq.at s)
/-- freezing the result -/
theorem w_frz {e : Expr} {Q : Vl → Store → Prop} (h : W g k S ρ O e fun u O1 => ∃ t O2 O3, Split O1 O2 O3 ∧ Frz O3 u t ∧ Q (.t t) O2) : W g k S ρ O e Q := by
  intro X A σ F H hE hC Qc hq
  refine h X A σ F H hE hC _ fun u v F1 H1 O1 s1 c1 r1 ⟨t, O2, O3, hs, hf, q⟩ => ?_
  obtain ⟨c, s⟩ := c1.split hs
  exact hq (.t t) v _ _ _ (s1.trans s) c (Frz.rep c1 hs (thaw_same c1 hs) hf r1) q
/-- freezing before an expression -/
theorem w_frzE {e : Expr} {Q : Vl → Store → Prop} {ρ' : Rho} {O1 O2 : Store} (hs : Split O O1 O2) (hr : FrzR O2 ρ ρ') (h : W g k S ρ' O1 e Q) : W g k S ρ O e Q := by
  intro X A σ F H hE hC Qc hq
  obtain ⟨c, s⟩ := hC.split hs
  exact h X A σ _ H (hr.env hC hs hE) c Qc (hq.at s)
/-- PURE MODE: all cells are looked at as data, nothing of them changes -/
theorem pure_back {w : World} {F H H' F' : Hp} {O O' : Store} (c : Conc w F H O) (s : Stp (thaw F H O) H noS F' H' O') : Conc w F H' O ∧ Stp F H O F H' O := by
  have out : ∀ b o, H b = some o → H' b = some o := fun b o e => s.out b o e rfl
  refine ⟨⟨fun b x e => out b x (c.sub b x e), fun b x e => ?_⟩, Same.refl _, fun b o e _ => out b o e, fun _ e _ _ => e, fun _ _ e => e⟩
  obtain ⟨f, o, ho, r⟩ := c.cell b x e
  exact ⟨f, o, out b o ho, r⟩
theorem wb_pure {e : Expr} {Q : Bool → Store → Prop} {ρ' : Rho} (hr : FrzR O ρ ρ') (h : WB g k S ρ' noS e fun b _ => Q b O) : WB g k S ρ O e Q := by
  intro X A σ F H hE hC Qc hq
  obtain ⟨c, s⟩ := hC.split Split.all
  refine h X A σ _ H (hr.env hC Split.all hE) c Qc fun b F' H' O' s' c' q => ?_
  obtain ⟨c2, s2⟩ := pure_back hC s'
  exact hq b F H' O s2 c2 q
/-- an atom -/
def isAtom : T → Bool
  | .non => true
  | .bl _ => true
  | .int _ => true
  | .str _ => true
  | _ => false
theorem rep_atom {w : World} {F F' : Hp} {t : T} {v : V} (h : isAtom t = true) (r : Rep w F t v) : Rep w F' t v := by
  cases r with
  | non => exact .non
  | bl => exact .bl _
  | int => exact .int _
  | str => exact .str _
  | _ => cases h
theorem w_pure {e : Expr} {Q : Vl → Store → Prop} {ρ' : Rho} (hr : FrzR O ρ ρ') (h : W g k S ρ' noS e fun u _ => ∃ t, u = .t t ∧ isAtom t = true ∧ Q (.t t) O) : W g k S ρ O e Q := by
  intro X A σ F H hE hC Qc hq
  obtain ⟨c, s⟩ := hC.split Split.all
  refine h X A σ _ H (hr.env hC Split.all hE) c Qc fun u v F' H' O' s' c' r ⟨t, e1, ha, q⟩ => ?_
  subst e1
  obtain ⟨c2, s2⟩ := pure_back hC s'
  exact hq (.t t) v F H' O s2 c2 (rep_atom ha r) q
/-- the store may be taken as smaller -/
theorem Conc.shrink {w : World} {F H : Hp} {O O1 : Store} (c : Conc w F H O) (p : Part O O1) : Conc w F H O1 ∧ Stp F H O F H O1 :=
  ⟨⟨c.sub, fun b x e => c.cell b x (p.sub b x e)⟩, Same.refl _, fun _ _ e _ => e, fun _ e _ _ => e, fun b _ e => by
    cases q : O1 b with
    | none => rfl
    | some y => rw [p.sub b y q] at e; cases e⟩

/-! ### the promises of defs -/
theorem joinS_no {O : Store} : joinS O noS noS = O := by
  funext b
  unfold joinS noS
  rfl
theorem part_no {O : Store} : Part O noS := ⟨fun _ _ h => by cases h⟩
theorem joinS_new {O : Store} {a : Addr} {c : Cell} : joinS O noS (sup noS a c) = sup O a c := by
  funext b
  unfold joinS noS sup
  by_cases h : b = a
  · simp [h]
  · simp [h]
/-- a def's call, the new cells are new -/
theorem w_callN {x : Str} {p : Pos} {e : Expr} {es : List Expr} {n j : Nat} {ts : Tsp} {Q : Vl → Store → Prop} (D : Def g x n j ts) (hj : j ≤ k) (hg : GlS S x) (ha : AOk (e :: es)) (hl : (e :: es).length = n)
    (h : WA g k S ρ (e :: es) O fun us O1 => ∃ O', Part O1 O' ∧ ts us O' fun u O2 => (∀ b, O1 b ≠ none → O' b = none → O2 b = none) → Q u (joinS O1 O' O2))
    (hdb : (x == ("__debug__" : Str)) = false := by decide) (hpl : ∀ env, (backTo pos (starEach es env)).any (·.1) = false := by intro _; rfl) : W g k S ρ O (.Call (.Name x p) (e :: es) [] pos) Q := by
  intro X A σ F H hE hC Qc hq
  obtain ⟨f, fd, ps, h1, h2, h3, h4⟩ := D.ex
  have h' := WA.run A (WA.len h) hE hC (Qc := fun vs H1 => spOf g.w n ts (vs ++ []) H1 Qc E0) (by
    intro us vs F1 H1 O1 s1 c1 r1 hh
    obtain ⟨hu, O', pt, q1⟩ := hh
    rw [List.append_nil]
    refine ⟨by rw [← r1.length, hu, hl], F1, O', us, ⟨c1.sub, fun b c e => c1.cell b c (pt.sub b c e)⟩, r1, _, q1, fun u v F2 H2 O2 s2 c2 r2 q2 => ?_⟩
    obtain ⟨a, b⟩ := call_frame pt c1 c2 s2
    refine hq u v F2 H2 _ (s1.trans b) a r2 (q2 fun z hz1 hz2 => s2.nO z ?_ hz2)
    cases q : O1 z with
    | none => exact absurd q hz1
    | some y => obtain ⟨_, o, ho, _⟩ := c1.cell z y q; rw [ho]; simp)
  have e := A.s
  subst e
  have e := A.g
  subst e
  exact semE_of (pe_call h4 (A.room.mono hj) hg h1 h2 h3 .nil pass0 (pa_sem ha) hdb (ha.1 _) (hpl _)) h'
/-- data to data -/
abbrev PSp := List T → (T → Prop) → Prop
def ptT (sp : PSp) : Tsp := fun us O Q => O = noS ∧ ∃ ts, us = ts.map Vl.t ∧ sp ts fun t => Q (.t t) noS
theorem w_callP {x : Str} {p : Pos} {e : Expr} {es : List Expr} {n j : Nat} {sp : PSp} {Q : Vl → Store → Prop} (D : Def g x n j (ptT sp)) (hj : j ≤ k) (hg : GlS S x) (ha : AOk (e :: es)) (hl : (e :: es).length = n)
    (h : WA g k S ρ (e :: es) O fun us O1 => ∃ ts, us = ts.map Vl.t ∧ sp ts fun t => Q (.t t) O1)
    (hdb : (x == ("__debug__" : Str)) = false := by decide) (hpl : ∀ env, (backTo pos (starEach es env)).any (·.1) = false := by intro _; rfl) : W g k S ρ O (.Call (.Name x p) (e :: es) [] pos) Q :=
  w_call D hj hg ha hl (WA.mono h fun us O1 ⟨ts, e, q⟩ => ⟨noS, part_no, rfl, ts, e, by
    have : (fun t => Q (.t t) O1) = fun t => Q (.t t) (joinS O1 noS noS) := by rw [joinS_no]
    rw [← this]; exact q⟩) hdb hpl
/-- data to a list: a tree or a new cell, as the caller likes -/
abbrev LSp := List T → (List T → Prop) → Prop
def ptL (sp : LSp) : Tsp := fun us O Q => O = noS ∧ ∃ ts, us = ts.map Vl.t ∧ sp ts fun rs => Q (.t (.lst rs)) noS ∨ ∀ a, Q (.cell a) (sup noS a (.lst (rs.map Vl.t)))
theorem w_callL {x : Str} {p : Pos} {e : Expr} {es : List Expr} {n j : Nat} {sp : LSp} {Q : Vl → Store → Prop} (hmono : ∀ ts (P P' : List T → Prop), (∀ rs, P rs → P' rs) → sp ts P → sp ts P') (D : Def g x n j (ptL sp)) (hj : j ≤ k) (hg : GlS S x) (ha : AOk (e :: es)) (hl : (e :: es).length = n)
    (h : WA g k S ρ (e :: es) O fun us O1 => ∃ ts, us = ts.map Vl.t ∧ sp ts fun rs => Q (.t (.lst rs)) O1 ∨ ∀ a, O1 a = none → Q (.cell a) (sup O1 a (.lst (rs.map Vl.t))))
    (hdb : (x == ("__debug__" : Str)) = false := by decide) (hpl : ∀ env, (backTo pos (starEach es env)).any (·.1) = false := by intro _; rfl) : W g k S ρ O (.Call (.Name x p) (e :: es) [] pos) Q :=
  w_callN D hj hg ha hl (WA.mono h fun us O1 ⟨ts, e, q⟩ => ⟨noS, part_no, rfl, ts, e, hmono _ _ _ (fun rs z => by
    rcases z with z | z
    · refine .inl fun _ => ?_
      rw [joinS_no]; exact z
    · refine .inr fun a hn => ?_
      rw [joinS_new]
      refine z a ?_
      cases q : O1 a with
      | none => rfl
      | some y => have := hn a (by rw [q]; simp) rfl; rw [sup_same] at this; cases this) q⟩) hdb hpl

/-! ### proving a def -/
/-- where a def's body stands -/
def fS (N : List Str) (sc : Scope) : Sx := ⟨N, (envOfC "" sc 0 0 .none).scope, fun _ => true⟩
def rho (N : List Str) (us : List Vl) : Rho := us.map some ++ List.replicate (N.length - us.length) none
theorem EnvR.start {w : World} {F : Hp} {N : List Str} {us : List Vl} {vs : List V} (r : VReps w F us vs) : EnvR w F (rho N us) (L2.start N vs) := by
  refine ⟨by unfold rho L2.start; simp only [List.length_append, List.length_map, List.length_replicate, r.length], fun i u h => ?_⟩
  unfold rho at h
  unfold L2.start
  by_cases hi : i < us.length
  · rw [List.getElem?_append_left (by simpa using hi), List.getElem?_map, List.getElem?_eq_getElem hi] at h
    cases h
    obtain ⟨v, h1, h2⟩ := paired_get r (List.getElem?_eq_getElem hi)
    exact ⟨v, by rw [List.getElem?_append_left (by rw [List.length_map, ← r.length]; exact hi), List.getElem?_map, h1]; rfl, h2⟩
  · rw [List.getElem?_append_right (by simpa using hi)] at h
    have := List.mem_of_getElem? h
    simp at this
theorem fn_T {x qual : Str} {params : Arguments} {body : List Stmt} {scope : Scope} {f : Addr} {fd : FuncData} {N ps : List Str} {ts : Tsp} (F : FunD g.K x qual params body scope [] [] f fd) (Sc : FnScope N ps scope)
    (h : ∀ us O Q, us.length = ps.length → ts us O Q → WS g k (fS N scope) (rho N us) O body { nx := fun _ O' => Q (.t .non) O', rt := Q }) : FnOk g.P g.w g.K g.mg g.base CX0 (k + 1) f fd ps (spOf g.w ps.length ts) := by
  refine F.ok Sc (fun vs H Q E h => h.1) fun cdv A outer s H vs Q E hr hsp => ?_
  obtain ⟨hl, F0, O, us, c, r, R, ht, hq⟩ := hsp
  refine ⟨_, PSs.nox pss_sem, h us O R (by rw [r.length, hl]) ht _ ⟨rfl, rfl, hr, rfl, Sc.nd, rfl⟩ _ F0 H (EnvR.start r) c _ ⟨fun ρ' σ' F' H' O' s' c' e' q => hq (.t .non) _ F' H' O' s' c' Rep.non q, fun u v F' H' O' s' c' r' q => hq u v F' H' O' s' c' r' q, fun _ _ _ _ _ _ _ _ q => q.elim, fun _ _ _ _ _ _ _ _ q => q.elim⟩⟩
end
end TL
/-! The tree logic: isinstance, walks of cells, +=, chains, zip, enumerate. -/
namespace TL
open PySem PySem.Spec PyProof.Rows L2

/-! ### isinstance -/
def tyT : T → String
  | .non => "NoneType"
  | .bl _ => "bool"
  | .int _ => "int"
  | .str _ => "str"
  | .lst _ => "list"
  | .tup _ => "tuple"
  | .dic _ _ => "dict"
  | .ins _ _ _ => "object"
def noIns : T → Bool
  | .ins _ _ _ => false
  | _ => true
def isTy (t : T) (ty : String) : Bool := tyT t == ty || (tyT t == "bool" && ty == "int")
def sixTys : List String := ["list", "tuple", "int", "bool", "str", "dict"]
theorem kitB_six (a : String) (ty : String) (ha : a ∈ ["NoneType", "bool", "int", "str", "list", "tuple", "dict"]) (h : ty ∈ sixTys) : kitB a ty = some (a == ty || (a == "bool" && ty == "int")) := by
  have all : ∀ a ∈ ["NoneType", "bool", "int", "str", "list", "tuple", "dict"], ∀ ty ∈ sixTys, kitB a ty = some (a == ty || (a == "bool" && ty == "int")) := by decide +kernel
  exact all a ha ty h
theorem kit_six (t : T) (ty : String) (hn : noIns t = true) (h : ty ∈ sixTys) : kitB (tyT t) ty = some (isTy t ty) := by
  refine kitB_six _ _ ?_ h
  cases t <;> first | (cases hn; done) | (simp [tyT]; done)
theorem kitAny_six {K : PySem.W.Frag} (t : T) (hn : noIns t = true) : ∀ tys : List String, (∀ ty ∈ tys, ty ∈ sixTys) → PySem.W.kitAny K (.type (tyT t)) (tys.map Value.type) = some (tys.any (isTy t))
  | [], _ => rfl
  | ty :: tys, h => by
    have h1 := kit_ty (K := K) (kit_six t ty hn (h ty List.mem_cons_self))
    have ih := kitAny_six (K := K) t hn tys fun x hx => h x (List.mem_cons_of_mem _ hx)
    rw [List.map_cons, List.any_cons]
    refine kitAny_cons h1 (fun e => by rw [e, Bool.false_or]; exact ih) (fun e => by rw [e]; rfl)
theorem kit_rep {X : Cx} {pins : List (Addr × Obj)} {σ : L2.St} {H : Hp} {s : Shared} {t : T} {x : V} {u : Value} (I : Inv X pins σ H s) (r : Rep X.w H t x) (rx : RelV x u) (hn : noIns t = true) :
    ∃ P : Heap → Prop, PySem.W.KitX X.K u (.type (tyT t)) P ∧ P s.heap ∧ u ≠ .builtin "__main__.__loader__#opaque" := by
  cases r with
  | non => exact kit_of I rx (.base .non)
  | bl b => exact kit_of I rx (.base (.bl b))
  | int b => exact kit_of I rx (.base (.int b))
  | str b => exact kit_of I rx (.base (.str b))
  | lst e _ => exact kit_of I rx (.base (.lst e))
  | tup e _ => exact kit_of I rx (.base (.tup e))
  | @dic a ob es ks ts e d _ _ _ =>
    cases (show u = Value.ref a from rx)
    have ho := (I.hok a _ e).1
    exact ⟨_, PySem.W.kitx_dict, ⟨ob, ho, d.2.1.1⟩, fun z => nomatch z⟩
  | ins _ _ _ => cases hn
theorem call_isX {X : Cx} : CallR X (.builtin "isinstance") (fun xs H Q => ∃ (t : T) (x : V) (ty : String), xs = [x, .ty ty] ∧ Rep X.w H t x ∧ noIns t = true ∧ ty ∈ sixTys ∧ Q (.bl (isTy t ty)) H) := by
  intro pins s σ H xs us Q I r ⟨t, x, ty, e, rx, hn, h, q⟩
  subst e
  obtain ⟨u1, u2, rfl, r1, r2⟩ := vals2 r
  obtain ⟨P, Z, p, hx⟩ := kit_rep I rx r1 hn
  have r2 : u2 = Value.type ty := r2
  subst r2
  exact PySem.W.kia_one Z I.kIn p (kit_ty (kit_six t ty hn h)) hx fun tk => ⟨.bl _, H, I.tok tk, rfl, q⟩
theorem vals_tys : ∀ {tys : List String} {us : List Value}, Vals (tys.map V.ty) us → us = tys.map Value.type
  | [], _, .nil => rfl
  | ty :: tys, _, .cons r q => by
    have r : _ = Value.type ty := r
    rw [r, vals_tys q]; rfl
theorem call_isXT {X : Cx} : CallR X (.builtin "isinstance") (fun xs H Q => ∃ (t : T) (x : V) (tp : Addr) (tys : List String), xs = [x, .ref tp] ∧ H tp = some (.tup (tys.map V.ty)) ∧ Rep X.w H t x ∧ noIns t = true ∧ (∀ ty ∈ tys, ty ∈ sixTys) ∧ Q (.bl (tys.any (isTy t))) H) := by
  intro pins s σ H xs us Q I r ⟨t, x, tp, tys, e, hT, rx, hn, h, q⟩
  subst e
  obtain ⟨u1, u2, rfl, r1, r2⟩ := vals2 r
  obtain ⟨P, Z, p, hx⟩ := kit_rep I rx r1 hn
  cases (show u2 = Value.ref tp from r2)
  obtain ⟨_, its, rv, o, h1, h2, n, h3⟩ := (show ObjOk X.prog X.w H s.heap tp (.tup (tys.map V.ty)) from I.hok tp _ hT)
  have e3 := vals_tys rv
  subst e3
  obtain ⟨oc, od, dt, sl⟩ := o
  simp only at h2 h3
  subst h2 h3
  exact PySem.W.kia_tup Z I.kIn p h1 (kitAny_six t hn tys h) hx fun tk => ⟨.bl _, H, I.tok tk, rfl, q⟩
section
variable {g : G} {k : Nat} {S : Sx} {ρ : Rho} {O : Store} {pos : Pos}
/-- built-in types by name -/
inductive TyNs (g : G) (S : Sx) : List Expr → List String → Prop
  | nil : TyNs g S [] []
  | cons {y : Str} {q : Pos} {ty : String} {es : List Expr} {tys : List String} (h1 : GlS S y) (h2 : g.mg y = none) (h3 : bootBuiltins y = some (.type ty)) (h4 : y ≠ "__name__") (h5 : (y == ("__debug__" : Str)) = false) (h6 : ∀ env, starEach (.Name y q :: es) env = (false, eval (.Name y q) env) :: starEach es env) (h : TyNs g S es tys) : TyNs g S (.Name y q :: es) (ty :: tys)
def tTys : List String → TA
  | [] => tNil
  | ty :: tys => tCons (tC (.ty ty)) (tTys tys)
theorem pa_tys {X : Cx} (A : At g k S X) : ∀ {es : List Expr} {tys : List String}, TyNs g S es tys → PA X es (tTys tys)
  | _, _, .nil => pa_nil
  | _, _, .cons h1 h2 h3 h4 h5 h6 h => by
    have ih := pa_tys A h
    have e := A.s
    subst e
    have e := A.g
    subst e
    exact pa_cons (pe_bltn h1 h2 h3 rfl h4 h5) ih (h6 _)
theorem tTys_run {σ : L2.St} {H : Hp} {Q : List V → Hp → Prop} : ∀ {tys : List String}, Q (tys.map V.ty) H → tTys tys σ H Q
  | [], h => h
  | _ :: _, h => tTys_run (Q := fun vs H1 => Q (_ :: vs) H1) h
theorem boot_isi : bootBuiltins ("isinstance" : Str) = some (.builtin "isinstance") := by rfl
theorem w_isi {p q : Pos} {e : Expr} {y : Str} {ty : String} {Q : Vl → Store → Prop} (hg : GlS S "isinstance") (hm : g.mg "isinstance" = none) (hy : TyNs g S [.Name y q] [ty]) (ht : ty ∈ sixTys) (ha : ∀ env, starEach [e, .Name y q] env = (false, eval e env) :: starEach [.Name y q] env)
    (h : W g k S ρ O e fun u O1 => ∃ t, u = .t t ∧ noIns t = true ∧ Q (.t (.bl (isTy t ty))) O1) (hpl : ∀ env, (backTo pos (starEach [.Name y q] env)).any (·.1) = false := by intro _; rfl) : W g k S ρ O (.Call (.Name "isinstance" p) [e, .Name y q] [] pos) Q := by
  intro X A σ F H hE hC Qc hq
  have pt := pa_tys A hy
  have hr : tCons (semE X e) (tTys [ty]) σ H fun vs H1 => ∃ (t : T) (x : V) (ty : String), vs = [x, .ty ty] ∧ Rep X.w H1 t x ∧ noIns t = true ∧ ty ∈ sixTys ∧ Qc (.bl (isTy t ty)) H1 := h X A σ F H hE hC _ fun u v F1 H1 O1 s1 c1 r1 ⟨t, e1, hn, q⟩ => by
    subst e1
    refine tTys_run ⟨t, v, ty, rfl, ?_, hn, ht, hq (.t (.bl _)) _ F1 H1 O1 s1 c1 (Rep.bl _) q⟩
    have e := A.g
    subst e
    exact Rep.mono c1.sub r1
  have e := A.s
  subst e
  have e := A.g
  subst e
  exact semE_of (pe_callB call_isX hg hm boot_isi (pa_cons pe_sem pt (ha _)) (by decide) (by decide) (ha _) (hpl _)) hr
theorem w_isiT {p q : Pos} {e : Expr} {es : List Expr} {x1 : Nat} {tys : List String} {Q : Vl → Store → Prop} (hg : GlS S "isinstance") (hm : g.mg "isinstance" = none) (hy : TyNs g S es tys) (ht : ∀ ty ∈ tys, ty ∈ sixTys) (hl : tys.length ≤ sizeLine) (ha : AOk [e, .Tuple es x1 q])
    (h : W g k S ρ O e fun u O1 => ∃ t, u = .t t ∧ noIns t = true ∧ Q (.t (.bl (tys.any (isTy t)))) O1) (hpl : ∀ env, (backTo pos (starEach [.Tuple es x1 q] env)).any (·.1) = false := by intro _; rfl) : W g k S ρ O (.Call (.Name "isinstance" p) [e, .Tuple es x1 q] [] pos) Q := by
  intro X A σ F H hE hC Qc hq
  have pt := pa_tys A hy
  have hr : tCons (semE X e) (tCons (tTup (tTys tys)) tNil) σ H fun vs H1 => ∃ (t : T) (x : V) (tp : Addr) (tys : List String), vs = [x, .ref tp] ∧ H1 tp = some (.tup (tys.map V.ty)) ∧ Rep X.w H1 t x ∧ noIns t = true ∧ (∀ ty ∈ tys, ty ∈ sixTys) ∧ Qc (.bl (tys.any (isTy t))) H1 := h X A σ F H hE hC _ fun u v F1 H1 O1 s1 c1 r1 ⟨t, e1, hn, q⟩ => by
    subst e1
    refine tTys_run ⟨by rw [List.length_map]; exact hl, fun p hp => ?_⟩
    obtain ⟨c2, s2⟩ := c1.newX (o := .tup (tys.map V.ty)) hp
    refine ⟨t, v, p, tys, rfl, upd_same, ?_, hn, ht, hq (.t (.bl _)) _ _ _ O1 (s1.trans s2) c2 (Rep.bl _) q⟩
    have e := A.g
    subst e
    exact Rep.mono c2.sub r1
  have e := A.s
  subst e
  have e := A.g
  subst e
  exact semE_of (pe_callB call_isXT hg hm boot_isi (pa_cons pe_sem (pa_cons (pe_tup pt) pa_nil (ha.2.1 _)) (ha.1 _)) (by decide) (by decide) (ha.1 _) (hpl _)) hr

/-! ### a cell is walked -/
theorem w1_forC {tg iter : Expr} {body : List Stmt} {D : TD} (hf : ∀ env x, foldedSetIterable iter env x = pure x)
    (h : W g k S ρ O iter fun u O1 => ∃ a xs, u = .cell a ∧ O1 a = some (.lst xs) ∧ ∃ I : Nat → Rho → Store → Prop, I 0 ρ O1 ∧ (∀ i ρ1 O2, I i ρ1 O2 → O2 a = some (.lst xs)) ∧
      (∀ i u ρ1 O2, xs[i]? = some u → I i ρ1 O2 → ∃ is ρ2, WG g k S tg is u ρ1 ρ2 ∧ WS g k S ρ2 O2 body { D with nx := I (i + 1), ct := I (i + 1), bk := D.nx }) ∧
      ∀ ρ1 O2, I xs.length ρ1 O2 → D.nx ρ1 O2) : W1 g k S ρ O (.For tg iter body [] pos) D := by
  intro X A σ F H hE hC Dc hq
  have hp : PassesOwn (model X.prog X.w) X.A X.env X.xe := by rw [A.xe]; exact PassesOwn.never
  refine semS_of (ps_for hp A.calm (pi_list pe_sem) pg_sem pss_sem (hf _)) (h X A σ F H hE hC _ fun u v F1 H1 O1 s1 c1 r1 ⟨a, xs, e1, ea, I, I0, Ia, step, fin⟩ => ?_)
  subst e1
  have r1 : v = .ref a := r1
  subst r1
  have look : ∀ {F2 H2 : Hp} {O2 : Store}, Conc g.w F2 H2 O2 → O2 a = some (.lst xs) → ∃ vs, SqL X.K H2 a vs ∧ VReps g.w F2 xs vs := fun c e => by
    obtain ⟨_, o, ho, vs, rfl, rv⟩ := c.cell a _ e
    exact ⟨vs, SqL.of ho, rv⟩
  obtain ⟨vs0, sq0, _⟩ := look c1 ea
  refine ⟨a, rfl, ⟨vs0, sq0⟩, fun i m σ2 H2 => m = xs.length - i ∧ i ≤ xs.length ∧ ∃ ρ2 F2 O2, Conc g.w F2 H2 O2 ∧ Stp F1 H1 O1 F2 H2 O2 ∧ EnvR g.w F2 ρ2 σ2 ∧ I i ρ2 O2, ⟨xs.length, by simp, Nat.zero_le _, ρ, F1, O1, c1, Stp.refl, hE.mono s1.fr, I0⟩, ?_⟩
  rintro i m σ2 H2 ⟨rfl, hi, ρ2, F2, O2, c2, s2, e2, hI⟩
  obtain ⟨vs, sq, rv⟩ := look c2 (Ia _ _ _ hI)
  by_cases hlt : i < xs.length
  · have hu : xs[i]? = some xs[i] := List.getElem?_eq_getElem hlt
    obtain ⟨x0, hx0, rx0⟩ := paired_get rv hu
    obtain ⟨is, ρ3, hG, hB⟩ := step i _ ρ2 O2 hu hI
    refine .inr ⟨⟨vs, x0, sq, hx0⟩, fun σ3 H3 => ∃ ρ3 F3 O3, Conc g.w F3 H3 O3 ∧ Stp F1 H1 O1 F3 H3 O3 ∧ EnvR g.w F3 ρ3 σ3 ∧ I (i + 1) ρ3 O3, fun σ3 H3 n3 => ⟨xs.length - (i + 1), by omega, rfl, hlt, n3⟩, fun x H3 y3 => ?_⟩
    obtain ⟨eH, ey⟩ := y3
    subst eH
    have ex : x = x0 := Option.some.inj ((ey vs sq).symm.trans hx0)
    subst ex
    refine hG X A σ2 F2 H3 O2 x e2 c2 rx0 _ fun σ4 e4 _ => ?_
    refine hB X A σ4 F2 H3 e4 c2 _ ⟨fun ρ' σ' F' H' O' s' c' e' q' => ⟨ρ', F', O', c', s2.trans s', e', q'⟩, fun u v F' H' O' s' => hq.rt u v F' H' O' ((s1.trans s2).trans s'), fun ρ' σ' F' H' O' s' => hq.nx ρ' σ' F' H' O' ((s1.trans s2).trans s'), fun ρ' σ' F' H' O' s' c' e' q' => ⟨ρ', F', O', c', s2.trans s', e', q'⟩⟩
  · have e : i = xs.length := by omega
    subst e
    refine .inl ⟨⟨vs, sq, ?_⟩, hq.nx _ _ F2 H2 O2 (s1.trans s2) c2 e2 (fin _ _ hI)⟩
    rw [rv.length]; exact Nat.le_refl _
/-! ### x += e -/
theorem w1_augI {x : Str} {i : Nat} {e : Expr} {p : Pos} {a : Int} {D : TD} (hi : S.N[i]? = some x) (hx : LocS S x) (hρ : ρ[i]? = some (some (.t (.int a)))) (h : W g k S ρ O e fun u O1 => ∃ b, u = .t (.int b) ∧ D.nx (ρ.set i (some (.t (.int (a + b))))) O1) : W1 g k S ρ O (.AugAssign (.Name x p) .Add e pos) D := by
  intro X A σ F H hE hC Dc hq
  obtain ⟨v, hv, rv⟩ := hE.get i _ hρ
  have rv := vrep_int rv
  subst rv
  have h' : tAug i (semE X e) (ipI fun i j => i + j) Dc σ H := ⟨.int a, hv, h X A σ F H hE hC _ fun u v F1 H1 O1 s1 c1 r1 ⟨b, e1, q1⟩ => by
    subst e1
    exact ⟨a, b, rfl, vrep_int r1, hq.nx (ρ.set i (some (.t (.int (a + b))))) _ F1 H1 O1 s1 c1 ((hE.mono s1.fr).set (u := .t (.int (a + b))) (Rep.int _)) q1⟩⟩
  have nd := A.nd
  have e := A.s
  subst e
  exact semS_of (ps_aug nd hi hx.1 pe_sem ip_add hx.2) h'
/-! ### a < b < c -/
theorem wb_chain3 {a b c : Expr} {op op' : CmpOp} {tr tr'} {Q : Bool → Store → Prop} (ho : BOp g k (compareOp op) tr) (ho' : BOp g k (compareOp op') tr')
    (h : W g k S ρ O a fun x O1 => W g k S ρ O1 b fun y O2 => tr x y O2 fun z O3 => ∃ d, z = .t (.bl d) ∧ (d = false → Q false O3) ∧ (d = true → W g k S ρ O3 c fun v O4 => tr' y v O4 fun u O5 => ∃ d', u = .t (.bl d') ∧ Q d' O5))
    (hm : lastMarks [op, op'] [b, c] = false := by with_unfolding_all rfl) : WB g k S ρ O (.Compare a [op, op'] [b, c] pos) Q := by
  intro X A σ F H hE hC Qc hq
  obtain ⟨r, hr, hl⟩ := ho X S A
  obtain ⟨r', hr', hl'⟩ := ho' X S A
  refine semB_of (pt_chain hr hr' pe_sem pe_sem pe_sem hm) ?_
  show tChain r r' _ _ _ σ H fun z H' => ∃ b, z = .bl b ∧ Qc b H'
  refine h X A σ F H hE hC _ fun x vx F1 H1 O1 s1 c1 r1 q1 => ?_
  refine q1 X A σ F1 H1 (hE.mono s1.fr) c1 _ fun y vy F2 H2 O2 s2 c2 r2 q2 => ?_
  refine hl F2 H2 O2 x y vx vy _ _ c2 (r1.mono s2.fr) r2 (fun u v F3 H3 O3 s3 c3 r3 ⟨d, e1, q3, q4⟩ => ?_) q2
  subst e1
  have st := (s1.trans s2).trans s3
  refine ⟨d, vrep_bl r3, ?_⟩
  cases d with
  | false => exact iteF ⟨false, rfl, hq false F3 H3 O3 st c3 (q3 rfl)⟩
  | true =>
    refine iteT (q4 rfl X A σ F3 H3 (hE.mono st.fr) c3 _ fun v vv F4 H4 O4 s4 c4 r4 q5 => ?_)
    refine hl' F4 H4 O4 y v vy vv _ _ c4 (r2.mono (s3.trans s4).fr) r4 (fun u v F5 H5 O5 s5 c5 r5 ⟨d', e1, q6⟩ => ?_) q5
    subst e1
    exact ⟨d', vrep_bl r5, hq d' F5 H5 O5 ((st.trans s4).trans s5) c5 q6⟩
end
end TL
/-! The tree logic: zip, enumerate, sorted. -/
namespace TL
open PySem PySem.Spec PyProof.Rows L2

section
variable {g : G} {k : Nat} {S : Sx} {ρ : Rho} {O : Store} {pos : Pos}
theorem rep_pair {w : World} {F : Hp} {p : Addr} {a b : T} {x y : V} (f : F p = none) (r1 : Rep w F a x) (r2 : Rep w F b y) : Rep w (upd F p (.tup [x, y])) (.tup [a, b]) (.ref p) :=
  .tup upd_same (.cons (r1.mono (same_upd f)) (.cons (r2.mono (same_upd f)) .nil))
theorem zip_get {xs ys : List T} {i : Nat} {u : Vl} (h : ((xs.zip ys).map fun p => Vl.t (.tup [p.1, p.2]))[i]? = some u) : ∃ a b, xs[i]? = some a ∧ ys[i]? = some b ∧ u = .t (.tup [a, b]) := by
  obtain ⟨⟨a, b⟩, h1, h2⟩ := map_get h
  obtain ⟨h3, h4⟩ := List.getElem?_zip_eq_some.mp h1
  exact ⟨a, b, h3, h4, h2.symm⟩
theorem wi_zip {elts : List Expr} {kk : Nat} {tpos p : Pos} {e e2 : Expr} {Q : List Vl → Store → Prop} (hg : GlS S "zip") (hm : g.mg "zip" = none) (ha : AOk [e, e2]) (hpl : ∀ env, (backTo pos (starEach [e2] env)).any (·.1) = false := by intro _; rfl)
    (h : WA g k S ρ [e, e2] O fun us O1 => ∃ xs ys : List T, (us = [.t (.lst xs), .t (.lst ys)] ∨ us = [.t (.tup xs), .t (.tup ys)]) ∧ xs.length = ys.length ∧ Q ((xs.zip ys).map fun p => Vl.t (.tup [p.1, p.2])) O1) :
    WI g k S ρ O (.Tuple elts kk tpos) (.Call (.Name "zip" p) [e, e2] [] pos) Q := by
  intro X A σ F H hE hC R hR
  have h' := WA.run A h hE hC (Qc := fun vs H1 => ∃ a b xs ys, vs = [.ref a, .ref b] ∧ ((SqL X.K H1 a xs ∧ SqL X.K H1 b ys ∧ R (Itz X.K a b) H1) ∨ (SqT X.K H1 a xs ∧ SqT X.K H1 b ys ∧ R (RZ.ItzT X.K a b) H1))) (by
    intro us vs F1 H1 O1 s1 c1 r1 ⟨xs, ys, e, hl, q⟩
    rcases e with rfl | rfl
    · obtain ⟨v, v', rfl, rx, ry⟩ := vreps2 r1
      obtain ⟨a, ws, rfl, ea, ra⟩ := vrep_lst rx
      obtain ⟨b, zs, rfl, eb, rb⟩ := vrep_lst ry
      have l1 := ra.length
      have l2 := rb.length
      refine ⟨a, b, ws, zs, rfl, .inl ⟨lst_sq c1.sub ea, lst_sq c1.sub eb, hR _ _ F1 H1 O1 s1 c1 (fun i H2 sm => ⟨fun u hu => ?_, fun hi => ?_⟩) q⟩⟩
      · obtain ⟨t1, t2, h1, h2, rfl⟩ := zip_get hu
        obtain ⟨x, hx, rx⟩ := ra.get h1
        obtain ⟨y, hy, ry⟩ := rb.get h2
        refine ⟨⟨ws, zs, x, y, lst_sq sm ea, lst_sq sm eb, hx, hy⟩, fun z H3 hy3 => .inr ?_⟩
        obtain ⟨T, x', y', rfl, hT, rfl, f1, f2⟩ := hy3
        have e1 : x' = x := Option.some.inj ((f1 ws (lst_sq sm ea)).symm.trans hx)
        have e2 : y' = y := Option.some.inj ((f2 zs (lst_sq sm eb)).symm.trans hy)
        subst e1 e2
        have fT : F1 T = none := by
          cases q : F1 T with
          | none => rfl
          | some o => rw [sm T o q] at hT; cases hT
        exact ⟨T, _, hT, rfl, rep_pair fT rx ry⟩
      · refine ⟨ws, zs, lst_sq sm ea, lst_sq sm eb, .inl ?_⟩
        rw [hi, List.length_map, List.length_zip]
        omega
    · obtain ⟨v, v', rfl, rx, ry⟩ := vreps2 r1
      obtain ⟨a, ws, rfl, ea, ra⟩ := vrep_tup rx
      obtain ⟨b, zs, rfl, eb, rb⟩ := vrep_tup ry
      have l1 := ra.length
      have l2 := rb.length
      refine ⟨a, b, ws, zs, rfl, .inr ⟨tup_sq c1.sub ea, tup_sq c1.sub eb, hR _ _ F1 H1 O1 s1 c1 (fun i H2 sm => ⟨fun u hu => ?_, fun hi => ?_⟩) q⟩⟩
      · obtain ⟨t1, t2, h1, h2, rfl⟩ := zip_get hu
        obtain ⟨x, hx, rx⟩ := ra.get h1
        obtain ⟨y, hy, ry⟩ := rb.get h2
        refine ⟨⟨ws, zs, x, y, tup_sq sm ea, tup_sq sm eb, hx, hy⟩, fun z H3 hy3 => .inr ?_⟩
        obtain ⟨T, x', y', rfl, hT, rfl, f1, f2⟩ := hy3
        have e1 : x' = x := Option.some.inj ((f1 ws (tup_sq sm ea)).symm.trans hx)
        have e2 : y' = y := Option.some.inj ((f2 zs (tup_sq sm eb)).symm.trans hy)
        subst e1 e2
        have fT : F1 T = none := by
          cases q : F1 T with
          | none => rfl
          | some o => rw [sm T o q] at hT; cases hT
        exact ⟨T, _, hT, rfl, rep_pair fT rx ry⟩
      · refine ⟨ws, zs, tup_sq sm ea, tup_sq sm eb, .inl ?_⟩
        rw [hi, List.length_map, List.length_zip]
        omega)
  have e := A.s
  subst e
  have e := A.g
  subst e
  exact semI_of (RZ.pi_zipA hg hm (pa_sem ha) (ha.1 _) (hpl _)) h'

/-! ### enumerate -/
def enumT (xs : List T) : List Vl := (List.range xs.length).zip xs |>.map fun p => Vl.t (.tup [.int (p.1 : Nat), p.2])
theorem enum_get {xs : List T} {i : Nat} {u : Vl} (h : (enumT xs)[i]? = some u) : ∃ t, xs[i]? = some t ∧ u = .t (.tup [.int (i : Nat), t]) := by
  obtain ⟨⟨a, b⟩, h1, h2⟩ := map_get h
  obtain ⟨h3, h4⟩ := List.getElem?_zip_eq_some.mp h1
  have h5 : a = i := by
    obtain ⟨hl, e⟩ := List.getElem?_eq_some_iff.mp h3
    simpa using e.symm
  subst h5
  exact ⟨b, h4, h2.symm⟩
theorem enum_len (xs : List T) : (enumT xs).length = xs.length := by simp [enumT]
/-- the tuple at a, each item in a new pair -/
def IteT (K : PySem.W.Frag) (a : Addr) : It :=
  ⟨fun i H => ∃ (xs : List V) (x : V), SqT K H a xs ∧ xs[i]? = some x, fun i H v H' => ∃ T x, v = .ref T ∧ H T = none ∧ H' = upd H T (.tup [.int (i : Nat), x]) ∧ ∀ xs, SqT K H a xs → xs[i]? = some x, fun i H => ∃ xs : List V, SqT K H a xs ∧ xs.length = i⟩
theorem turn_enumT {P : Program} {w : World} {K : PySem.W.Frag} {elts : List Expr} {kk : Nat} {tpos : Pos} (a e it : Addr) (hai : a ≠ it) (hae : a ≠ e) :
    Turn P w K (.Tuple elts kk tpos) (IteT K a) [e, it] e (fun i h => (∃ old, IsEnum h e it ((i : Nat) : Int) old) ∧ h.IsTupleIter it a i ∧ e ≠ it) where
  mem := by simp
  obj := fun i h st b hb => by
    obtain ⟨⟨old, he⟩, ⟨o, ho, hc, hd⟩, _⟩ := st
    have e' : b = e ∨ b = it := by simpa using hb
    rcases e' with z | z
    · rw [z]; exact ⟨_, he, fun v q => nomatch q⟩
    · rw [z]; exact ⟨o, ho, fun v q => by rw [hd] at q; cases q⟩
  keep := fun i h h' st k => let ⟨⟨old, he⟩, hi, hne⟩ := st; ⟨⟨old, k e (by simp) _ he⟩, hi.at fun o q => k it (by simp) o q, hne⟩
  item := by
    intro X hP hw hK hc i pins s σ H E I hf st hg
    subst hP hw hK
    obtain ⟨⟨old, he⟩, hit, hne⟩ := st
    obtain ⟨xs, x, hq, hx⟩ := hg
    obtain ⟨its, rv, p, hz⟩ := I.tuple hq
    obtain ⟨u, hu, ru⟩ := rv.get hx
    have hel : e < s.heap.objs.size := Heap.lt_size he
    have hil : it < s.heap.objs.size := by obtain ⟨_, q, _⟩ := hit; exact Heap.lt_size q
    have hlt : i < its.toArray.size := by rw [List.size_toArray]; exact (List.getElem?_eq_some_iff.mp hu).1
    refine wpAny_pyNext_enum_itemC (Draws.tuple (A := X.A.in1) (show X.A.in1.handled = none from I.ok.hd hc) it a hai its.toArray) he ⟨hit, p⟩ hlt hne (by simp only [List.mem_cons, List.not_mem_nil, or_false, not_or]; exact ⟨hne, hae.symm⟩) fun x' h' tk hP ho hit' hT hsz hk => ?_
    have ex : x' = u := by
      have hP : its.toArray[i]? = some x' := hP
      have : its[i]? = some x' := by simpa using hP
      exact Option.some.inj (this.symm.trans hu)
    subst ex
    refine ⟨_, rfl, wpAny_letOwnedTupleGo_enum (s := { s with heap := h', toks := tk + 1 }) ho fun h'' he' sb => ?_⟩
    have hT2 : h''.get? s.heap.objs.size = some { cls := .type "tuple", data := .seq #[.int i tk, x'] } := (sb.2 _ (Nat.ne_of_gt hel)).trans hT
    have new : ObjOk X.prog X.w (upd H s.heap.objs.size (.tup [.int (i : Nat), x])) h'' s.heap.objs.size (.tup [.int (i : Nat), x]) :=
      ⟨by show 2 ≤ sizeLine; decide, [.int i tk, x'], .cons ⟨_, rfl⟩ (.cons ru .nil), ⟨_, hT2, rfl, _, rfl⟩⟩
    have I1 : Inv X pins σ (upd H s.heap.objs.size (.tup [.int (i : Nat), x])) { s with heap := h'', toks := tk + 1 } :=
      I.turnedNew (ch := [e, it]) (fun b ob hb q => (sb.2 b (fun z => hb (by simp [z]))).trans (hk b ob (fun z => hb (by simp [z])) (fun z => hb (by simp [z])) q)) hf (Nat.le_refl _) new
    refine ⟨.ref s.heap.objs.size, _, I1, rfl, ⟨_, x, rfl, I.hok.fresh (Nat.le_refl _), rfl, fun ys hy => by rw [I.tuple_inj hy hq]; exact hx⟩, ⟨⟨x', ?_⟩, hit'.1.at fun o q => (sb.2 it (Ne.symm hne)).trans q, hne⟩, fun b hb => ?_⟩
    · have e1 : ((i + 1 : Nat) : Int) = (i : Int) + 1 := by omega
      rw [e1]; exact he'
    · have hb' : b < s.heap.objs.size := by
        have e' : b = e ∨ b = it := by simpa using hb
        rcases e' with z | z
        · rw [z]; exact hel
        · rw [z]; exact hil
      rw [upd_ne (Nat.ne_of_lt hb')]
      exact (hf b hb).1
  done := by
    intro X hP hw hK hc i pins s σ H E I hf st hg
    subst hP hw hK
    obtain ⟨⟨old, he⟩, hit, hne⟩ := st
    obtain ⟨xs, hq, hx⟩ := hg
    obtain ⟨its, rv, p, hz⟩ := I.tuple hq
    obtain ⟨f0, f1, f2, f3, f4, f5⟩ := hf it (by simp)
    have hl := rv.length
    have hsz : i = its.toArray.size := by
      rw [List.size_toArray]; omega
    refine wpAny_pyNext_enum_endD (Draws.tuple (A := X.A.in1) (show X.A.in1.handled = none from I.ok.hd hc) it a hai its.toArray) he (by rw [← hsz]; exact ⟨hit, p⟩) fun h' eb => ⟨rfl, I.turned (t' := s.toks) (fun b o hb q => eb b o hb q) f0 f1 f3 f4 f5⟩
  self := fun A i s Q E st h => let ⟨⟨_, he⟩, _⟩ := st; wpAny_pyIter_enum he h
theorem meets_enumT (l : Addr) (items : Array Value) :
    Meets (Builtin.«enumerate.__new__» ⟨[.type "enumerate", .ref l], []⟩) (fun _ R s => s.heap.IsTuple l items ∧
      R (.ok (.ret (.ref (s.heap.push { cls := .type "tuple_iterator", data := .fields #[.ref l, .int 0 0] }).objs.size)))
        { s with heap := (s.heap.push { cls := .type "tuple_iterator", data := .fields #[.ref l, .int 0 0] }).push { cls := .type "enumerate", data := .fields #[.none, .bool false, .ref s.heap.objs.size, rawInt 0, .none, .none] } }) :=
  .of_wp fun prog w A R s h => by
    obtain ⟨hp, g, d, tk, os⟩ := s; obtain ⟨hl, h⟩ := h
    have hsub := sub_enumerate
    have hL : Heap.IsTuple (Shared.heap ⟨hp, g, d, tk, os⟩) l items := hl
    obtain ⟨⟨c, dct, dt, sl⟩, hl, hc, n, hd⟩ := hl
    replace hc : c = .type "tuple" := hc
    replace hd : dt = .seq items n := hd
    subst hc hd
    wp_walk using AutoSeq1.wpAny_loadPart' hl
    refine wpAny_stack_any fun st => wpAny_pure ?_
    split
    · rename_i c _ _ _ _ _
      cases (c == Value.type "enumerate")
      · wp_walk using AutoSeq1.wpAny_loadPart' hl, wpAny_pyIter_tuple hL
        exact ⟨_, rfl, h⟩
      · wp_walk using AutoSeq1.wpAny_loadPart' hl, wpAny_pyIter_tuple hL
        exact ⟨_, rfl, h⟩
    · wp_walk using AutoSeq1.wpAny_loadPart' hl, wpAny_pyIter_tuple hL
      exact ⟨_, rfl, h⟩
theorem call_enumT {prog : Program} {w : World} {A : Around} {E : Value → Shared → Prop} {s : Shared} {l : Addr} {items : Array Value} {Q : Value → Shared → Prop} (hL : s.heap.IsTuple l items)
    (h : ∀ h', IsEnum h' (s.heap.objs.size + 1) s.heap.objs.size 0 .none → h'.IsTupleIter s.heap.objs.size l 0 → h'.objs.size = s.heap.objs.size + 2 →
      (∀ b o, s.heap.get? b = some o → h'.get? b = some o) → Q (.ref (s.heap.objs.size + 1)) { s with heap := h' }) :
    wpAny (model prog w) A (call (.type "enumerate") [.ref l]) Q E s := by
  refine callType_new F.called_enumerate (by decide) (F.typeCall_enumerate_1 _) (F.newCall_enumerate_1 _) (fun obj => F.args_object_init_2 obj _) F.entry_enumerate_new
    (meets_enumT l items) ⟨hL, ?_⟩
  have hz : (s.heap.push { cls := .type "tuple_iterator", data := .fields #[.ref l, .int 0 0] }).objs.size = s.heap.objs.size + 1 := Heap.size_push ..
  show _ ∧ _
  rw [hz]
  have he : IsEnum ((s.heap.push { cls := .type "tuple_iterator", data := .fields #[.ref l, .int 0 0] }).push
      { cls := .type "enumerate", data := .fields #[.none, .bool false, .ref s.heap.objs.size, rawInt 0, .none, .none] }) (s.heap.objs.size + 1) s.heap.objs.size 0 .none := by
    have := Heap.get?_push_size (s.heap.push { cls := .type "tuple_iterator", data := .fields #[.ref l, .int 0 0] })
      (o := { cls := .type "enumerate", data := .fields #[.none, .bool false, .ref s.heap.objs.size, rawInt 0, .none, .none] }) rfl
    rw [hz] at this; exact this
  refine ⟨⟨_, he, rfl⟩, h _ he ⟨_, Heap.get?_push_of_some _ (Heap.get?_push_size _ rfl), rfl, rfl⟩ (by rw [Heap.size_push, hz]) fun b o x => Heap.get?_push_of_some _ (Heap.get?_push_of_some _ x)⟩
def iEnumA (K : PySem.W.Frag) (ta : TA) : TI := fun σ H R => ta σ H fun vs H1 => ∃ a xs, vs = [.ref a] ∧ ((SqL K H1 a xs ∧ R (Ite K a) H1) ∨ (SqT K H1 a xs ∧ R (IteT K a) H1))
theorem pi_enumA {X : Cx} {e : Expr} {ta : TA} {p pos tpos : Pos} {elts : List Expr} {kk : Nat} (hg : Gl X "enumerate") (hm : X.mg "enumerate" = none) (ha : PA X [e] ta) (hs : starEach [e] X.env = [(false, eval e X.env)] := by rfl) :
    PI X (.Tuple elts kk tpos) (.Call (.Name "enumerate" p) [e] [] pos) (iEnumA X.K ta) := by
  refine ⟨fun pins s σ H R I h => ?_⟩
  refine Call_ (ld_blt I hg hm boot_enumerate (PyProof.Rows.callWith_type1 (thn (ha.run pos pins s σ H _ I h) fun us s1 ⟨vs, H1, I1, r1, q1⟩ => ?_) hs rfl))
  obtain ⟨a, xs, ex, q1⟩ := q1
  subst ex
  cases r1 with
  | cons r rr =>
    cases rr
    cases r
    have fin : ∀ b, b ∈ [s1.heap.objs.size + 1, s1.heap.objs.size] → FpOk X pins H1 b := fun b hb => by
      have e' : b = s1.heap.objs.size + 1 ∨ b = s1.heap.objs.size := by simpa using hb
      have hle : s1.heap.objs.size ≤ b := by
        rcases e' with z | z
        · rw [z]; exact Nat.le_add_right _ _
        · rw [z]; exact Nat.le_refl _
      exact I1.fpOk hle (I1.hok.fresh hle)
    rcases q1 with ⟨hq, q⟩ | ⟨hq, q⟩
    · obtain ⟨its, rv, p', hz⟩ := I1.list hq
      refine call_enumerate_list p'.isList fun h' he hit hsz hk => wpAny_pyIter_enum he ?_
      have I2 : Inv X pins σ H1 { s1 with heap := h' } := I1.kept (t' := s1.toks) hk
      exact ⟨s1.heap.objs.size + 1, [s1.heap.objs.size + 1, s1.heap.objs.size], _, _, H1, rfl, I2, turn_enum a (s1.heap.objs.size + 1) s1.heap.objs.size, ⟨⟨.none, he⟩, hit, Nat.succ_ne_self _⟩, fin, q⟩
    · obtain ⟨its, rv, p', hz⟩ := I1.tuple hq
      obtain ⟨o, ho, _⟩ := id p'
      have hlt : a < s1.heap.objs.size := Heap.lt_size ho
      refine call_enumT (show s1.heap.IsTuple a its.toArray from p') fun h' he hit hsz hk => wpAny_pyIter_enum he ?_
      have I2 : Inv X pins σ H1 { s1 with heap := h' } := I1.kept (t' := s1.toks) hk
      exact ⟨s1.heap.objs.size + 1, [s1.heap.objs.size + 1, s1.heap.objs.size], _, _, H1, rfl, I2, turn_enumT a (s1.heap.objs.size + 1) s1.heap.objs.size (Nat.ne_of_lt hlt) (Nat.ne_of_lt (Nat.lt_succ_of_lt hlt)), ⟨⟨.none, he⟩, hit, Nat.succ_ne_self _⟩, fin, q⟩
theorem wi_enum {elts : List Expr} {kk : Nat} {tpos p : Pos} {e : Expr} {Q : List Vl → Store → Prop} (hg : GlS S "enumerate") (hm : g.mg "enumerate" = none) (ha : AOk [e]) (hs : ∀ env, starEach [e] env = [(false, eval e env)])
    (h : W g k S ρ O e fun u O1 => ∃ xs : List T, (u = .t (.lst xs) ∨ u = .t (.tup xs)) ∧ Q (enumT xs) O1) :
    WI g k S ρ O (.Tuple elts kk tpos) (.Call (.Name "enumerate" p) [e] [] pos) Q := by
  intro X A σ F H hE hC R hR
  have h' : tSem X [e] σ H fun vs H1 => ∃ a xs, vs = [.ref a] ∧ ((SqL X.K H1 a xs ∧ R (Ite X.K a) H1) ∨ (SqT X.K H1 a xs ∧ R (IteT X.K a) H1)) := h X A σ F H hE hC _ (by
    intro u v F1 H1 O1 s1 c1 r1 ⟨xs, e, q⟩
    rcases e with rfl | rfl
    · obtain ⟨a, ws, rfl, ea, ra⟩ := vrep_lst r1
      refine ⟨a, ws, rfl, .inl ⟨lst_sq c1.sub ea, hR _ _ F1 H1 O1 s1 c1 (fun i H2 sm => ⟨fun u hu => ?_, fun hi => ?_⟩) q⟩⟩
      · obtain ⟨t, h1, rfl⟩ := enum_get hu
        obtain ⟨x, hx, rx⟩ := ra.get h1
        refine ⟨⟨ws, x, lst_sq sm ea, hx⟩, fun z H3 hy3 => .inr ?_⟩
        obtain ⟨T, x', rfl, hT, rfl, f1⟩ := hy3
        have e1 : x' = x := Option.some.inj ((f1 ws (lst_sq sm ea)).symm.trans hx)
        subst e1
        have fT : F1 T = none := by
          cases q : F1 T with
          | none => rfl
          | some o => rw [sm T o q] at hT; cases hT
        exact ⟨T, _, hT, rfl, rep_pair fT (Rep.int _) rx⟩
      · refine ⟨ws, lst_sq sm ea, ?_⟩
        rw [hi, enum_len, ra.length]
        exact Nat.le_refl _
    · obtain ⟨a, ws, rfl, ea, ra⟩ := vrep_tup r1
      refine ⟨a, ws, rfl, .inr ⟨tup_sq c1.sub ea, hR _ _ F1 H1 O1 s1 c1 (fun i H2 sm => ⟨fun u hu => ?_, fun hi => ?_⟩) q⟩⟩
      · obtain ⟨t, h1, rfl⟩ := enum_get hu
        obtain ⟨x, hx, rx⟩ := ra.get h1
        refine ⟨⟨ws, x, tup_sq sm ea, hx⟩, fun z H3 hy3 => .inr ?_⟩
        obtain ⟨T, x', rfl, hT, rfl, f1⟩ := hy3
        have e1 : x' = x := Option.some.inj ((f1 ws (tup_sq sm ea)).symm.trans hx)
        subst e1
        have fT : F1 T = none := by
          cases q : F1 T with
          | none => rfl
          | some o => rw [sm T o q] at hT; cases hT
        exact ⟨T, _, hT, rfl, rep_pair fT (Rep.int _) rx⟩
      · refine ⟨ws, tup_sq sm ea, ?_⟩
        rw [hi, enum_len, ra.length])
  have e := A.s
  subst e
  have e := A.g
  subst e
  exact semI_of (pi_enumA hg hm (pa_sem ha) (hs _)) h'

/-! ### sorted -/
def sortT (ts : List T) : List T := ts.mergeSort (PySem.W.dataLe false toD)
mutual
theorem Rep.reads {P : Program} {w : World} {H : Hp} {h : Heap} (ok : HOk P w H h) : ∀ (t : T) (v : V) (u : Value), Rep w H t v → RelV v u → isD t = true → ∃ as, Reads h u (toD t) as
  | .non, _, _, r, q, _ => by cases r; cases q; exact ⟨_, .none⟩
  | .bl b, _, _, r, q, _ => by cases r; cases q; exact ⟨_, .bool b⟩
  | .int i, _, _, r, q, _ => by cases r; obtain ⟨t, rfl⟩ := q; exact ⟨_, .int i t⟩
  | .str i, _, _, r, q, _ => by cases r; obtain ⟨t, rfl⟩ := q; exact ⟨_, .str i t⟩
  | .lst xs, _, _, r, q, hd => by
    cases r with
    | @lst a vs ts e r =>
      cases q
      obtain ⟨_, its, n, rv, h1⟩ := (show ObjOk P w H h a (.lst vs) from ok a _ e)
      obtain ⟨as, h2⟩ := RepL.reads ok xs vs its r rv hd
      exact ⟨_, .list (vs := its.toArray) h1 rfl rfl (by simpa using h2)⟩
  | .tup xs, _, _, r, q, hd => by
    cases r with
    | tup e r =>
      cases q
      obtain ⟨its, rv, o, ho, hc, n, hdt⟩ := tup_at ok e
      obtain ⟨as, h2⟩ := RepL.reads ok xs _ its r rv hd
      exact ⟨_, .tuple (vs := its.toArray) ho hc hdt (by simpa using h2)⟩
  | .dic _ _, _, _, _, _, hd => by cases hd
  | .ins _ _ _, _, _, _, _, hd => by cases hd
theorem RepL.reads {P : Program} {w : World} {H : Hp} {h : Heap} (ok : HOk P w H h) : ∀ (ts : List T) (vs : List V) (us : List Value), RepL w H ts vs → Vals vs us → isDs ts = true → ∃ as, ReadsAll h us (toDs ts) as
  | [], _, _, r, q, _ => by cases r; cases q; exact ⟨_, .nil⟩
  | t :: ts, _, _, r, q, hd => by
    have hd := Bool.and_eq_true_iff.mp (show (isD t && isDs ts) = true from hd)
    cases r with
    | cons r r' =>
      cases q with
      | cons q q' =>
        obtain ⟨as, h1⟩ := Rep.reads ok t _ _ r q hd.1
        obtain ⟨bs, h2⟩ := RepL.reads ok ts _ _ r' q' hd.2
        exact ⟨_, .cons h1 h2⟩
end
theorem reads_each {P : Program} {w : World} {H : Hp} {h : Heap} (ok : HOk P w H h) : ∀ {ts : List T} {vs : List V} {us : List Value}, RepL w H ts vs → Vals vs us → (∀ t ∈ ts, isD t = true) → PySem.W.EachIs (fun u t => ∃ as, Reads h u (toD t) as) us ts
  | [], _, _, r, q, _ => by cases r; cases q; exact .nil
  | t :: ts, _, _, r, q, hd => by
    cases r with
    | cons r r' =>
      cases q with
      | cons q q' => exact .cons (Rep.reads ok t _ _ r q (hd t List.mem_cons_self)) (reads_each ok r' q' fun x hx => hd x (List.mem_cons_of_mem _ hx))
theorem rel_each {w : World} {H : Hp} : ∀ {ts : List T} {vs : List V} {us : List Value}, RepL w H ts vs → Vals vs us → PySem.W.EachIs (fun u t => ∃ v, Rep w H t v ∧ RelV v u) us ts
  | [], _, _, r, q => by cases r; cases q; exact .nil
  | t :: ts, _, _, r, q => by
    cases r with
    | cons r r' =>
      cases q with
      | cons q q' => exact .cons ⟨_, r, q⟩ (rel_each r' q')
theorem each_rel {w : World} {H : Hp} : ∀ {ts : List T} {us : List Value}, PySem.W.EachIs (fun u t => ∃ v, Rep w H t v ∧ RelV v u) us ts → ∃ vs, RepL w H ts vs ∧ Vals vs us
  | _, _, .nil => ⟨[], .nil, .nil⟩
  | _, _, .cons ⟨v, r, q⟩ e => by
    obtain ⟨vs, r', q'⟩ := each_rel e
    exact ⟨v :: vs, .cons r r', .cons q q'⟩
theorem b_sorted : BCall g k (.builtin "sorted") (fun us O Q => ∃ ts : List T, us = [.t (.lst ts)] ∧ (∀ t ∈ ts, isD t = true ∧ (toD t).depth ≤ 8) ∧ PySem.W.AllAlike (ts.map toD) ∧ PySem.W.Sortable (ts.map toD) ∧ ts.length ≤ sizeLine ∧ Q (.t (.lst (sortT ts))) O) :=
  fun X S A => ⟨fun vs H Q => ∃ (a : Addr) (ts : List T) (ws : List V) (F : Hp), vs = [.ref a] ∧ H a = some (.lst ws) ∧ Same F H ∧ RepL X.w F ts ws ∧ (∀ t ∈ ts, isD t = true ∧ (toD t).depth ≤ 8) ∧ PySem.W.AllAlike (ts.map toD) ∧ PySem.W.Sortable (ts.map toD) ∧ ts.length ≤ sizeLine ∧ ∀ p zs, H p = none → RepL X.w F (sortT ts) zs → Q (.ref p) (upd H p (.lst zs)),
    fun pins s σ H xs us Q I rv ⟨a, ts, ws, F, e, ea, sm, ra, hd, h1, h2, hz, q⟩ => by
      subst e
      obtain ⟨u, rfl, ru⟩ := vals1 rv
      obtain rfl : u = Value.ref a := ru
      obtain ⟨its, rw', hl, hz'⟩ := I.list (SqL.of ea)
      refine PySem.W.sorted_data (enc := toD) (bs := ts) (R := fun u t => ∃ v, Rep X.w F t v ∧ RelV v u) hl.isList (rel_each ra rw') (reads_each I.hok (ra.mono sm) rw' fun t ht => (hd t ht).1) h1 h2 hz (fun t ht => by have := (hd t ht).2; have := A.room.un; omega) fun out hlen he => ?_
      obtain ⟨zs, rz, vz⟩ := each_rel he
      obtain ⟨n, hn⟩ := PyProof.Rows.sortedAll_at s.heap its (List.toArray out)
      refine ⟨.ref (s.heap.objs.size + 1), upd H (s.heap.objs.size + 1) (.lst zs), I.laid (t' := s.toks) (fun b o e => PyProof.Rows.sortedAll_old e) (Nat.le_succ _) ⟨?_, out, n, vz, hn⟩, rfl, q _ zs (I.hok.fresh (Nat.le_succ _)) rz⟩
      rw [vz.length, hlen]; exact hz,
    fun F H O us vs Q Qc c r hq ⟨ts, e, hd, h1, h2, hz, q⟩ => by
      subst e
      have e := A.g
      subst e
      obtain ⟨v, rfl, rr⟩ := vreps1 r
      obtain ⟨a, ws, rfl, ea, ra⟩ := vrep_lst rr
      refine ⟨a, ts, ws, F, rfl, c.sub _ _ ea, c.sub, ra, hd, h1, h2, hz, fun p zs hp rz => ?_⟩
      obtain ⟨c', s'⟩ := c.newF (o := .lst zs) hp
      exact hq (.t (.lst (sortT ts))) _ _ _ _ s' c' (Rep.lst upd_same (rz.mono (same_upd (c.free hp).1))) q⟩
end
end TL
/-! The tree logic: dict comprehensions over keys of any kind; list(d.values()). -/
namespace TL
open PySem PySem.Spec PyProof.Rows L2

section
variable {X : Cx}
/-- {k: v for target in iter if ..}, the new dict at D known to the last bit -/
def tDx (wi : TI) (gt : TG) (tt : TT) (tk tv : TE) (X : Cx) (vs : List Nat) : TE := fun σ H Q => wi σ H fun J H1 => ∀ D ob, H1 D = none → DicO X.w D ob [] → ∃ W : Nat → Nat → Hp → Prop, (∃ m, W 0 m (upd H1 D (exO D ob))) ∧ ∀ i m H, W i m H →
  (J.stop i H ∧ Q (.ref D) H) ∨ (J.go i H ∧ ∃ Nx : Hp → Prop, (∀ H', Nx H' → ∃ m', m' < m ∧ W (i + 1) m' H') ∧ ∀ x H', J.yld i H x H' → gt x (L2.wipe σ vs) H' fun σ2 H2 => L2.wipe σ2 vs = L2.wipe σ vs ∧ tt σ2 H2 fun b H3 =>
    if b = true then tk σ2 H3 fun y H4 => tv σ2 H4 fun z H5 => ∃ ob es kk, H5 D = some (exO D ob) ∧ DicO X.w D ob es ∧ RepL X.w H5 ((es.map (·.1)).map kT) (es.map (·.2.1)) ∧ Rep X.w H5 (kT kk) y ∧ kk.depth ≤ 8 ∧ es.length < sizeLine ∧ ∀ ob', DicO X.w D ob' (putEs es kk y z) → Nx (upd H5 D (exO D ob'))
    else Nx H3)
theorem pe_dx {kx vx tg iter : Expr} {ifs : List Expr} {scope : Scope} {own : List (Str × Nat)} {pos : Pos} {wi : TI} {gt : TG} {tt : TT} {tk tv : TE} (hc : X.calm = true) (hu : X.A.units + 8 < cLine) (hN : X.N.Nodup) (hi : PI X tg iter wi) (ok : BlkOk X.N X.env.scope scope own)
    (hg : ∀ (s : Shared) (H : Hp) (C : Addr) (cl : List (Str × Addr)) (fp : List Addr), PG (X.blk s H scope (compEnvC scope cl C X.env) fp) tg gt) (ht : ∀ (s : Shared) (H : Hp) (C : Addr) (cl : List (Str × Addr)) (fp : List Addr), PTs (X.blk s H scope (compEnvC scope cl C X.env) fp) ifs tt)
    (hk : ∀ (s : Shared) (H : Hp) (C : Addr) (cl : List (Str × Addr)) (fp : List Addr), PE (X.blk s H scope (compEnvC scope cl C X.env) fp) kx tk)
    (he : ∀ (s : Shared) (H : Hp) (C : Addr) (cl : List (Str × Addr)) (fp : List Addr), PE (X.blk s H scope (compEnvC scope cl C X.env) fp) vx tv) (hs : ∀ x, foldedSetIterable iter X.env x = pure x) :
    PE X (.DictComp kx vx [⟨tg, iter, ifs, 0⟩] scope pos) (tDx wi gt tt tk tv X (own.map (·.2))) := by
  refine ⟨fun pins s σ H Q I h => ?_⟩
  rw [arm_eval_DictComp]
  have hfree : ∀ y ∈ scope.names, y.2 = .free → ∃ c, X.env.cells.lookup y.1 = some c := fun y hy e => (ok.free y hy e).elim (fun k => I.ok.has _ (.inl k)) fun k => I.ok.has _ (.inr k)
  refine wpAny_comprehension_free (use := none) rfl hs (closure_ok hfree) ok.kind (fun y hy e => by rw [ok.uniq y hy, e]) (thn (hi.run pins s σ H _ I h) fun xv s1 hx => thn hx fun itv s2 h2 => ?_)
  obtain ⟨it, fp, tn, J, H2, e, I2, T, st2, f2, q⟩ := h2
  subst e
  refine wpAny_newObj_type (newEnv_comp ?_)
  generalize hD : s2.heap.objs.size = D
  have hDn : H2 D = none := I2.hok.fresh (Nat.le_of_eq hD)
  generalize hs3 : ({ s2 with heap := s2.heap.push { cls := .type "dict", data := .dict #[] } } : Shared) = s3
  have h3 : s3.heap = s2.heap.push { cls := .type "dict", data := .dict #[] } := by rw [← hs3]
  have I30 : Inv X pins σ (upd H2 D (.dK [])) s3 := by
    rw [← hs3]
    refine I2.laid (t' := s2.toks) (fun b o e => Heap.get?_push_of_some _ e) (Nat.le_of_eq hD) ?_
    rw [← hD]
    exact dk_empty s2.heap I2.big
  obtain ⟨ob0, d0, I3⟩ := inv_toEx I30 upd_same
  rw [upd_upd] at I3
  obtain ⟨W, ⟨m0, w0⟩, turn⟩ := q D ob0 hDn d0
  have sz : ∀ b ∈ fp, b < s2.heap.objs.size := fun b hb => by
    obtain ⟨o, e, _⟩ := T.obj _ _ st2 b hb
    exact Heap.lt_size e
  have f3 : ∀ b ∈ fp, FpOk X pins (upd H2 D (exO D ob0)) b ∧ b < s3.heap.objs.size := fun b hb => by
    have hlt := sz b hb
    refine ⟨⟨?_, (f2 b hb).2⟩, by rw [h3, Heap.size_push]; exact Nat.lt_succ_of_lt hlt⟩
    rw [upd_ne (by rw [← hD]; exact Nat.ne_of_lt hlt)]
    exact (f2 b hb).1
  have st3 : tn 0 s3.heap := T.keep _ _ _ st2 fun b _ o e => by rw [h3]; exact Heap.get?_push_of_some _ e
  have I4 := block_start I3 ok hN f3
  generalize hH3 : upd H2 D (exO D ob0) = H3 at I3 I4 w0 f3
  have pg := hg s3 H3 s3.heap.objs.size (cellsFrom (s3.heap.objs.size + 1) scope.names (cloFrom X.env.cells scope.names [])) fp
  have pt := ht s3 H3 s3.heap.objs.size (cellsFrom (s3.heap.objs.size + 1) scope.names (cloFrom X.env.cells scope.names [])) fp
  have pk := hk s3 H3 s3.heap.objs.size (cellsFrom (s3.heap.objs.size + 1) scope.names (cloFrom X.env.cells scope.names [])) fp
  have pe := he s3 H3 s3.heap.objs.size (cellsFrom (s3.heap.objs.size + 1) scope.names (cloFrom X.env.cells scope.names [])) fp
  show codeAny _ _ (.compStart (.DictComp kx vx [⟨tg, iter, ifs, 0⟩] scope pos) 0 (.ref it) (.ref D) (compEnvC scope (cellsFrom (s3.heap.objs.size + 1) scope.names (cloFrom X.env.cells scope.names [])) s3.heap.objs.size X.env)) (compPost (model X.prog X.w) X.A X.xe none _ (.ref D) s3.heap.objs.size) { s3 with heap := pushCells (s3.heap.push { cls := .type "dict", data := .dict #[] }) scope.names }
  have nfp : ∀ b ∈ fp, H3 b = none := fun b hb => (f3 b hb).1.1
  generalize hce : compEnvC scope (cellsFrom (s3.heap.objs.size + 1) scope.names (cloFrom X.env.cells scope.names [])) s3.heap.objs.size X.env = ce at I4 pg pt pk pe ⊢
  have cL : ce.locals = s3.heap.objs.size := by subst hce; rfl
  generalize hs4 : ({ s3 with heap := pushCells (s3.heap.push { cls := .type "dict", data := .dict #[] }) scope.names } : Shared) = s4 at I4 ⊢
  have st4 : tn 0 s4.heap := T.keep _ _ _ st3 fun b _ o e => by rw [← hs4]; exact pushCells_keeps _ _ _ _ (Heap.get?_push_of_some _ e)
  have stat : ∀ {σ' : L2.St} {H' : Hp} {s' : Shared}, Inv (X.blk s3 H3 scope ce fp) [] σ' H' s' → (∀ b ∈ fp, H' b = none) → ∀ b ∈ fp, FpOk (X.blk s3 H3 scope ce fp) [] H' b := fun {σ' H' s'} I' hn b hb =>
    ⟨hn b hb, (I'.ok.exf b hb).1, I'.ok.exfs b hb, .inl hb, fun x c e => (I'.ok.exf b hb).2 x c e, fun p hp => absurd (show p ∈ ([] : List (Addr × Obj)) ++ [] from hp) (by simp)⟩
  have loop : codeAny (model X.prog X.w) X.A (.compLoop (.DictComp kx vx [⟨tg, iter, ifs, 0⟩] scope pos) 0 (.ref it) (.ref D) ce) (compPost (model X.prog X.w) X.A X.xe none (EP X pins σ Q) (.ref D) s3.heap.objs.size) s4 := by
    refine compLoop_anyD (fun n s' => ∃ i H', Inv (X.blk s3 H3 scope ce fp) [] (L2.wipe σ (own.map (·.2))) H' s' ∧ tn i s'.heap ∧ (∀ b ∈ fp, H' b = none) ∧ W i n H') ?_ m0 ⟨0, H3, I4, st4, nfp, w0⟩
    rintro n s5 ⟨i, H5, I5, st5, n5, w5⟩
    rcases turn i n H5 w5 with ⟨stop, qq⟩ | ⟨go, Nx, hNx, step⟩
    · refine thnF (T.done (X.blk s3 H3 scope ce fp) rfl rfl rfl hc i [] s5 _ H5 (fun _ _ => False) I5 (stat I5 n5) st5 stop) fun r s6 ⟨hr, I6⟩ => ?_
      subst hr
      have I7 : Inv X pins σ H5 s6 := I3.call' (ch := fp) I6.os I6.base I6.hok I6.bare fun b hb => ⟨(f3 b hb).1.2.2.2.1, (f3 b hb).1.2.1, (f3 b hb).1.2.2.2.2.1, (f3 b hb).1.2.2.2.2.2⟩
      have nC : H5 s3.heap.objs.size = none := cL ▸ (show H5 ce.locals = none from I6.free)
      obtain ⟨m, hn, _⟩ := I6.loc
      refine ⟨m, cL ▸ (show s6.heap.Ns ce.locals m from hn), fun h'' sb => ?_⟩
      obtain ⟨f0, f1, f2, f3, f4, f5⟩ := I3.fpOk (Nat.le_refl _) nC
      exact ⟨.ref D, H5, I7.turned (t' := s6.toks) (fun b o hb e => (sb.2 b hb).trans e) f0 f1 f3 f4 f5, rfl, qq⟩
    · refine thnF (T.item (X.blk s3 H3 scope ce fp) rfl rfl rfl hc i [] s5 _ H5 (fun _ _ => False) I5 (stat I5 n5) st5 go) fun r s6 ⟨u, hr, h6⟩ => ?_
      subst hr
      refine thnF h6 fun _ s7 ⟨x, H7, I7, r7, y7, st7, n7⟩ => ?_
      refine thnF (pg.run _ s7 _ H7 x u _ (I7.pinned (stat I7 n7) (T.obj _ _ st7)) r7 (step x H7 y7)) fun _ s8 ⟨σ8, H8, I8, hw8, q8⟩ => ?_
      refine thnF (pt.run _ s8 σ8 H8 _ I8 q8) fun b s9 ⟨H9, I9, q9⟩ => ?_
      have fin : ∀ {s' : Shared} {H' : Hp}, Inv (X.blk s3 H3 scope ce fp) ([] ++ pinsAt fp s7.heap) σ8 H' s' → Nx H' → ∃ m, m < n ∧ ∃ i H', Inv (X.blk s3 H3 scope ce fp) [] (L2.wipe σ (own.map (·.2))) H' s' ∧ tn i s'.heap ∧ (∀ b ∈ fp, H' b = none) ∧ W i m H' := fun {s' H'} I' nx => by
        obtain ⟨m', hm, w'⟩ := hNx H' nx
        have pin' : ∀ b ∈ fp, ∀ o, s7.heap.get? b = some o → s'.heap.get? b = some o ∧ H' b = none := fun b hb o e =>
          let z := I'.pin (b, o) (List.mem_append_right _ (List.mem_append_right _ (mem_pinsAt hb e)))
          ⟨z.1, z.2.1⟩
        refine ⟨m', hm, i + 1, H', (I'.unpinned (pins := [])).weak (by rw [← hw8, L2.wipe_length]) (fun j v e => ?_), T.keep _ _ _ st7 fun b hb o e => (pin' b hb o e).1, fun b hb => ?_, w'⟩
        · rw [← hw8] at e
          exact (wipe_some e).1
        · obtain ⟨o, e, _⟩ := T.obj _ _ st7 b hb
          exact (pin' b hb o e).2
      cases b with
      | false =>
        simp only [Bool.false_eq_true, if_false] at q9 ⊢
        exact fin I9 q9
      | true =>
        simp only [if_true] at q9 ⊢
        refine thnF (pk.run _ s9 σ8 H9 _ I9 q9) fun z s10 ⟨yk, H10, I10, r10, q10⟩ => ?_
        refine thnF (pe.run _ s10 σ8 H10 _ I10 q10) fun z2 s11 ⟨yv, H11, I11, r11, ob, es, kk, eD, dD, rD, rk, hdp, hz11, nx⟩ => ?_
        exact inv_put (X := X.blk s3 H3 scope ce fp) I11 eD dD rD rk hdp hz11 r10 r11 (fun xs m hl hn hQ => set_mix hu hn hdp m hl hQ) fun s12 ob' d' I12 => fin I12 (nx ob' d')
  exact codeAny_compStart_dict loop (T.self X.A 0 _ _ _ st4 loop)
end
section
variable {g : G} {k : Nat} {S : Sx} {ρ : Rho} {O : Store} {pos : Pos}
/-- the state within a dict comprehension: D stands apart -/
structure ApartD (w : World) (D : Addr) (F H : Hp) (O : Store) (ob : Obj) : Prop where
  c : Conc w F H O
  f : F D = none
  o : O D = none
  h : H D = some (exO D ob)
theorem ApartD.step {w : World} {D : Addr} {F H F' H' : Hp} {O O' : Store} {ob : Obj} (a : ApartD w D F H O ob) (s : Stp F H O F' H' O') (c : Conc w F' H' O') : ApartD w D F' H' O' ob :=
  ⟨c, s.nF D a.f (by rw [a.h]; simp) a.o, s.nO D (by rw [a.h]; simp) a.o, s.out D _ a.h a.o⟩
theorem ApartD.put {w : World} {D : Addr} {F H F1 H1 : Hp} {O O1 : Store} {ob ob' : Obj} (a : ApartD w D F H O ob) (hn : H1 D = none) (s : Stp F1 H1 O1 F H O) : ApartD w D F (upd H D (exO D ob')) O ob' ∧ Stp F1 H1 O1 F (upd H D (exO D ob')) O := by
  refine ⟨⟨⟨fun b x e => ?_, fun b x e => ?_⟩, a.f, a.o, upd_same⟩, s.fr, fun b x e n => ?_, s.nF, s.nO⟩
  · rw [upd_ne (ne_of_none e a.f)]; exact a.c.sub b x e
  · have hb : b ≠ D := fun z => by subst z; rw [a.o] at e; cases e
    obtain ⟨h1, o, h2, h3⟩ := a.c.cell b x e
    exact ⟨h1, o, by rw [upd_ne hb]; exact h2, h3⟩
  · rw [upd_ne (ne_of_none e hn)]; exact s.out b x e n
theorem isDic_len {w : World} {F : Hp} {ks : List NestedKey} {xs : List Vl} {es : List (NestedKey × V × V)} (m : es.map (·.1) = ks) (r : VReps w F xs (es.map (·.2.2))) : ks.length = xs.length := by
  rw [← m, List.length_map, r.length, List.length_map]
/-- THE DICT COMPREHENSION: I by the turn, the keys and the values so far, the store -/
theorem w_dc {kx vx tg iter : Expr} {ifs : List Expr} {scope : Scope} (own : List (Str × Nat)) {is : List Nat} {Q : Vl → Store → Prop} (ok : blkC S.N S.sc scope own = true) (his : ∀ i ∈ is, i ∈ own.map (·.2))
    (hf : ∀ env x, foldedSetIterable iter env x = pure x)
    (h : WI g k S ρ O tg iter fun xs O1 => ∃ I : Nat → List NestedKey → List Vl → Store → Prop, I 0 [] [] O1 ∧
      (∀ i u ks acc O2, xs[i]? = some u → I i ks acc O2 → ks.length ≤ i → ∃ ρ2, WG g k (S.blk scope) tg is u (wipR ρ (own.map (·.2))) ρ2 ∧ WT g k (S.blk scope) ρ2 O2 ifs fun b O3 =>
        if b = true then W g k (S.blk scope) ρ2 O3 kx fun y O4 => ∃ kk, y = .t (kT kk) ∧ kk.depth ≤ 8 ∧ W g k (S.blk scope) ρ2 O4 vx fun z O5 => I (i + 1) (dputK ks kk) (dputV ks acc kk z) O5 else I (i + 1) ks acc O3) ∧
      xs.length < sizeLine ∧ ∀ ks acc O2, I xs.length ks acc O2 → (∃ ts : List T, acc = ts.map Vl.t ∧ Q (.t (.dic ks ts)) O2) ∨ (∀ D, O2 D = none → Q (.cell D) (sup O2 D (.dic ks acc)))) : W g k S ρ O (.DictComp kx vx [⟨tg, iter, ifs, 0⟩] scope pos) Q := by
  intro X A σ F H hE hC Qc hq
  have eg := A.g
  subst eg
  have e := A.s
  subst e
  have room8 : X.A.units + 8 < cLine := by have := A.room.un; omega
  refine semE_of (pe_dx A.calm room8 A.nd pi_sem (blkOk_by ok) gAll_ok tAll_ok eAll_ok eAll_ok (hf _)) (h X A σ F H hE hC _ fun xs J F1 H1 O1 s1 c1 ys ⟨I, I0, step, hz, fin⟩ => ?_)
  intro D ob0 hD d0
  have hA : ∀ (s : Shared) (H' : Hp) (C : Addr) (cl : List (Str × Addr)) (fp : List Addr), At (gOf X) k (Sx.blk ⟨X.N, X.env.scope, X.fn⟩ scope) (X.blk s H' scope (compEnvC scope cl C X.env) fp) := fun s H' C cl fp => A.blk rfl
  obtain ⟨fD, oD⟩ := c1.free hD
  have ap0 : ApartD X.w D F1 (upd H1 D (exO D ob0)) O1 ob0 := by
    refine ⟨⟨fun b x e => ?_, fun b x e => ?_⟩, fD, oD, upd_same⟩
    · rw [upd_ne (ne_of_none e fD)]; exact c1.sub b x e
    · have hb : b ≠ D := fun z => by subst z; rw [oD] at e; cases e
      obtain ⟨h1, o, h2, h3⟩ := c1.cell b x e
      exact ⟨h1, o, by rw [upd_ne hb]; exact h2, h3⟩
  have st0 : Stp F1 H1 O1 F1 (upd H1 D (exO D ob0)) O1 := ⟨Same.refl _, fun b x e _ => by rw [upd_ne (ne_of_none e hD)]; exact e, fun _ e _ _ => e, fun _ _ e => e⟩
  have wl : (L2.wipe σ (own.map (·.2))).length = σ.length := L2.wipe_length _ _
  refine ⟨fun i m H2 => m = xs.length - i ∧ i ≤ xs.length ∧ ∃ F2 O2 ob es ks acc, ApartD X.w D F2 H2 O2 ob ∧ Stp F1 H1 O1 F2 H2 O2 ∧ DicO X.w D ob es ∧ es.map (·.1) = ks ∧ RepL X.w F2 (ks.map kT) (es.map (·.2.1)) ∧ VReps X.w F2 acc (es.map (·.2.2)) ∧ ks.length ≤ i ∧ I i ks acc O2, ⟨xs.length, by simp, Nat.zero_le _, F1, O1, ob0, [], [], [], ap0, st0, d0, rfl, .nil, .nil, Nat.le_refl _, I0⟩, ?_⟩
  rintro i m H2 ⟨rfl, hi, F2, O2, ob, es, ks, acc, ap, st, dd, mk, rk, rv, hl, hI⟩
  have yy := ys i H2 ((st.fr).trans ap.c.sub)
  by_cases hlt : i < xs.length
  · have hu : xs[i]? = some xs[i] := List.getElem?_eq_getElem hlt
    obtain ⟨go, yl⟩ := yy.1 _ hu
    obtain ⟨ρ2, hG, hT⟩ := step i _ ks acc O2 hu hI hl
    refine .inr ⟨go, fun H3 => ∃ F3 O3 ob es ks acc, ApartD X.w D F3 H3 O3 ob ∧ Stp F1 H1 O1 F3 H3 O3 ∧ DicO X.w D ob es ∧ es.map (·.1) = ks ∧ RepL X.w F3 (ks.map kT) (es.map (·.2.1)) ∧ VReps X.w F3 acc (es.map (·.2.2)) ∧ ks.length ≤ i + 1 ∧ I (i + 1) ks acc O3, fun H3 n3 => ⟨xs.length - (i + 1), by omega, rfl, hlt, n3⟩, fun x H3 y3 => ?_⟩
    obtain ⟨F3, s3, c3, r3⟩ := yield_in ap.c st.fr (yl x H3 y3)
    have ap3 := ap.step s3 c3
    have st3 := st.trans s3
    intro s H' C cl fp
    refine hG _ (hA s H' C cl fp) _ F3 H3 O2 x ((hE.mono (s1.fr.trans st3.fr)).wipe _) c3 r3 _ fun σ2 hE2 hw => ?_
    refine ⟨(hw _ his).trans ?_, ?_⟩
    · refine List.ext_getElem? fun j => ?_
      rw [wipe_get, wipe_get, wl]
      split <;> rfl
    · intro s' H'' C' cl' fp'
      refine WT.run (hA s' H'' C' cl' fp') hT hE2 c3 fun b F4 H4 O4 s4 c4 q4 => ?_
      have ap4 := ap3.step s4 c4
      cases b with
      | false => exact iteF ⟨F4, O4, ob, es, ks, acc, ap4, st3.trans s4, dd, mk, rk.mono (s3.fr.trans s4.fr), rv.mono (s3.fr.trans s4.fr), by omega, (by simpa using q4)⟩
      | true =>
        have q4 : W (gOf X) k (Sx.blk ⟨X.N, X.env.scope, X.fn⟩ scope) ρ2 O4 kx fun y O4 => ∃ kk, y = .t (kT kk) ∧ kk.depth ≤ 8 ∧ W (gOf X) k (Sx.blk ⟨X.N, X.env.scope, X.fn⟩ scope) ρ2 O4 vx fun z O5 => I (i + 1) (dputK ks kk) (dputV ks acc kk z) O5 := by simpa using q4
        refine iteT fun s'' H''' C'' cl'' fp'' => q4 _ (hA s'' H''' C'' cl'' fp'') _ F4 H4 (hE2.mono s4.fr) c4 _ fun y v F5 H5 O5 s5 c5 r5 ⟨kk, ey, hdp, q5⟩ => ?_
        subst ey
        intro s'' H''' C'' cl'' fp''
        refine q5 _ (hA s'' H''' C'' cl'' fp'') _ F5 H5 (hE2.mono (s4.trans s5).fr) c5 _ fun z vz F6 H6 O6 s6 c6 r6 q6 => ?_
        have ap6 := (ap4.step s5 c5).step s6 c6
        have st6 := ((st3.trans s4).trans s5).trans s6
        have sm6 := s3.fr.trans (s4.fr.trans (s5.fr.trans s6.fr))
        have rk6 := rk.mono sm6
        have rv6 := rv.mono sm6
        have ry6 : Rep X.w F6 (kT kk) v := Rep.mono s6.fr r5
        refine ⟨ob, es, kk, ap6.h, dd, ?_, Rep.mono c6.sub ry6, hdp, ?_, fun ob' d' => ?_⟩
        · rw [mk]; exact rk6.mono c6.sub
        · have : es.length = ks.length := by rw [← mk, List.length_map]
          omega
        obtain ⟨ap7, st7⟩ := ap6.put (ob' := ob') hD st6
        refine ⟨F6, O6, ob', putEs es kk v vz, dputK ks kk, dputV ks acc kk z, ap7, st7, d', by rw [putEs_keys, mk], ?_, ?_, ?_, q6⟩
        · rw [← mk]; exact putEs_kv (by rw [mk]; exact rk6) ry6
        · rw [← mk]; exact putEs_vv r6 dd.2.2.2.2.1 rv6
        · unfold dputK
          split
          · omega
          · rw [List.length_append]; simp; omega
  · have e : i = xs.length := by omega
    subst e
    refine .inl ⟨yy.2 rfl, ?_⟩
    rcases fin ks acc O2 hI with ⟨ts, rfl, q⟩ | q
    · have cc : Conc X.w (upd F2 D (exO D ob)) H2 O2 := by
        refine ⟨fun b x e => ?_, fun b x e => ?_⟩
        · by_cases hb : b = D
          · subst hb; rw [upd_same] at e; cases e; exact ap.h
          · rw [upd_ne hb] at e; exact ap.c.sub b x e
        · have hb : b ≠ D := fun z => by subst z; rw [ap.o] at e; cases e
          obtain ⟨h1, o, h2, h3⟩ := ap.c.cell b x e
          exact ⟨by rw [upd_ne hb]; exact h1, o, h2, h3.mono (same_upd ap.f)⟩
      have ss : Stp F1 H1 O1 (upd F2 D (exO D ob)) H2 O2 := ⟨st.fr.trans (same_upd ap.f), st.out, fun b e1 e2 e3 => by rw [upd_ne (fun z => by subst z; exact e2 hD)]; exact st.nF b e1 e2 e3, st.nO⟩
      exact hq (.t (.dic ks ts)) _ _ _ _ (s1.trans ss) cc (Rep.dic upd_same dd mk (rk.mono (same_upd ap.f)) (rv.mono (same_upd ap.f)).repl) q
    · have cc : Conc X.w F2 H2 (sup O2 D (.dic ks acc)) := by
        refine ⟨ap.c.sub, fun b x e => ?_⟩
        by_cases hb : b = D
        · subst hb; rw [sup_same] at e; cases e; exact ⟨ap.f, _, ap.h, ob, es, rfl, dd, mk, rk, rv⟩
        · rw [sup_ne hb] at e; exact ap.c.cell b x e
      have ss : Stp F1 H1 O1 F2 H2 (sup O2 D (.dic ks acc)) := ⟨st.fr, st.out, st.nF, fun b e2 e3 => by rw [sup_ne (fun z => by subst z; exact e2 hD)]; exact st.nO b e2 e3⟩
      exact hq (.cell D) _ _ _ _ (s1.trans ss) cc rfl (q D ap.o)

/-! ### list(d.values()) -/
def tListVals (te : TE) (X : Cx) : TE := fun σ H Q => te σ H fun x H1 => ∃ a ob es, x = .ref a ∧ H1 a = some (exO a ob) ∧ DicO X.w a ob es ∧ ∀ p, H1 p = none → Q (.ref p) (upd H1 p (.lst (es.map (·.2.2))))
theorem pe_listVals {X : Cx} {e : Expr} {te : TE} {p apos cpos pos : Pos} (hc : X.calm = true) (he : PE X e te) (hg : Gl X "list") (hm : X.mg "list" = none) (hv : bootBuiltins "list" = some (.type "list")) (hbase : attributeBase e "values" X.env (eval e X.env) = eval e X.env) (hline : (apos.endLine == cpos.line) = true)
    (hs : starEach [.Call (.Attribute e "values" apos) [] [] cpos] X.env = (false, eval (.Call (.Attribute e "values" apos) [] [] cpos) X.env) :: starEach [] X.env) :
    PE X (.Call (.Name "list" p) [.Call (.Attribute e "values" apos) [] [] cpos] [] pos) (tListVals te X) := by
  refine ⟨fun pins s σ H Q I hq => ?_⟩
  refine wpAny_Call_Name_kw (ld_blt I hg hm hv ?_)
  refine PyProof.Rows.callWith_type1 ?_ hs rfl
  rw [hs]
  show wpAny _ _ (spliced ((false, eval (.Call (.Attribute e "values" apos) [] [] cpos) X.env) :: backTo pos (starEach [] X.env))) _ _ s
  refine Calls.spliced_cons ?_
  refine wpAny_Call_method (T := "dict") (id := "dict.values") hbase rfl hline F.plainAttrs_dict F.slot_dict_values F.type_dict_values (thn (he.run pins s σ H _ I hq) fun u s1 ⟨x, H1, I1, rx, a, ob, es, ex, ea, d, q⟩ => ?_)
  subst ex
  obtain rfl : u = Value.ref a := rx
  obtain ⟨hs0, exd, hz, hdp, nd, arr, ep, xs, hd, hent, pr⟩ := d
  have ho := (I1.hok a _ ea).1
  have hsz : arr.size = es.length := by rw [← Array.length_toList, hent, List.length_map, ← Paired.length pr]
  have I2 : Inv X pins σ H1 { s1 with heap := s1.heap.push { cls := .type "dict_values", data := .fields #[.ref a] } } := I1.kept (t' := s1.toks) fun b ob q => Heap.get?_push_of_some _ q
  refine ⟨⟨ob, ho, exd.1⟩, fun b hb => (by cases hb; exact ⟨ob, ho, exd.2.1⟩), ?_⟩
  show wpAny _ _ (callWith cpos (.builtin "dict.values") [.ref a] [] []) _ X.xe s1
  refine method_meetsIn F.slot_dict_values F.entry_dict_values rfl (PySem.evalArgs_none ⟨rfl, ⟨ob, ho, exd.1⟩, F.args_dict_values_1 _, _, meets_dict_values_raw a hs0, ⟨arr, ep, ob, ho, exd, hd⟩, ?_⟩)
  refine Calls.spliced_nil ?_
  refine PySem.W.kdl_call (PySem.KdlSrc.rawValues (es := arr) (ep := ep)) (I1.ok.hd hc) ⟨⟨_, Heap.get?_push_size _ rfl, rfl, rfl⟩, ob, Heap.get?_push_of_some _ ho, exd, hd⟩ (by omega) fun h' tk acc c' hk hD hacc => ?_
  have hvs : Vals (es.map (·.2.2)) acc.toList := by
    have hl : es.length = acc.toList.length := by
      have h1 := hacc.1
      have h2 : acc.toList.length = acc.size := Array.length_toList
      omega
    have all : ∀ j (e : NestedKey × V × V) (u : Value), es[j]? = some e → acc.toList[j]? = some u → RelV e.2.2 u := fun j e u h1 h2 => by
      obtain ⟨x, hx, r1, r2, r3⟩ := paired_get pr h1
      obtain ⟨hi, eu⟩ := hacc.2 j u (by rw [← Array.getElem?_toList]; exact h2)
      have : arr[j]? = some (entOf X.w x) := by rw [← Array.getElem?_toList, hent, List.getElem?_map, hx]; rfl
      rw [Array.getElem?_eq_getElem hi] at this
      rw [eu, Option.some.inj this]
      exact r3
    clear pr hent nd hdp hz hacc hD q hsz ea
    revert hl all
    generalize acc.toList = us
    intro hl all
    induction es generalizing us with
    | nil => cases us with | nil => exact .nil | cons _ _ => simp at hl
    | cons e es ih =>
      cases us with
      | nil => simp at hl
      | cons u us => exact .cons (all 0 e u rfl rfl) (ih us (by simpa using hl) fun j e u h1 h2 => all (j + 1) e u (by simpa using h1) (by simpa using h2))
  have hsz2 : (s1.heap.push { cls := .type "dict_values", data := .fields #[.ref a] }).objs.size = s1.heap.objs.size + 1 := Heap.size_push ..
  refine ⟨.ref (s1.heap.push { cls := .type "dict_values", data := .fields #[.ref a] }).objs.size, upd H1 (s1.heap.push { cls := .type "dict_values", data := .fields #[.ref a] }).objs.size (.lst (es.map (·.2.2))), I2.laid (t' := tk) hk (Nat.le_refl _)
    (show ObjOk X.prog X.w _ _ _ (.lst (es.map (·.2.2))) from ⟨by rw [List.length_map]; exact hz, acc.toList, c', hvs, by rw [Array.toArray_toList]; exact hD⟩), rfl, q _ (I2.hok.fresh (Nat.le_refl _))⟩
theorem w_vals {e : Expr} {p apos cpos : Pos} {Q : Vl → Store → Prop} (hg : GlS S "list") (hm : g.mg "list" = none) (hbase : ∀ env, attributeBase e "values" env (eval e env) = eval e env) (hline : (apos.endLine == cpos.line) = true)
    (hs : ∀ env, starEach [.Call (.Attribute e "values" apos) [] [] cpos] env = (false, eval (.Call (.Attribute e "values" apos) [] [] cpos) env) :: starEach [] env)
    (h : W g k S ρ O e fun u O1 => ∃ ks ts, u = .t (.dic ks ts) ∧ Q (.t (.lst ts)) O1) : W g k S ρ O (.Call (.Name "list" p) [.Call (.Attribute e "values" apos) [] [] cpos] [] pos) Q := by
  intro X A σ F H hE hC Qc hq
  have eg := A.g
  subst eg
  have h' : tListVals (semE X e) X σ H Qc := h X A σ F H hE hC _ fun u v F1 H1 O1 s1 c1 r1 ⟨ks, ts, e1, q⟩ => by
    subst e1
    obtain ⟨a, ob, es, rfl, ea, d, m, ra, rb⟩ := vrep_dic r1
    refine ⟨a, ob, es, rfl, c1.sub _ _ ea, d, fun p hp => ?_⟩
    obtain ⟨c', s'⟩ := c1.newF (o := .lst (es.map (·.2.2))) hp
    exact hq (.t (.lst ts)) _ _ _ _ (s1.trans s') c' (Rep.lst upd_same (rb.mono (same_upd (c1.free hp).1))) q
  have hcalm := A.calm
  have e := A.s
  subst e
  exact semE_of (pe_listVals hcalm pe_sem hg hm rfl (hbase _) hline (hs _)) h'
end
end TL
/-! The tree logic: instances. -/
namespace TL
open PySem PySem.Spec PyProof.Rows L2

/-- o is the def of class C by the name m -/
structure DefM (g : G) (C : Addr) (m : Str) (n k : Nat) (ts : Tsp) : Prop where
  ex : ∃ f fd ps, Meth g.K C m f ∧ Binds g.K fd ps [] ∧ FnOk g.P g.w g.K g.mg g.base CX0 k f fd ps (spOf g.w n ts)
section
variable {g : G} {k : Nat} {S : Sx} {ρ : Rho} {O : Store} {pos : Pos}
theorem lookup_zip_none {α : Type} {m : Str} : ∀ {fs : List Str} {ts : List α}, m ∉ fs → (fs.zip ts).lookup m = none
  | [], _, _ => by simp
  | x :: fs, [], _ => by simp
  | x :: fs, t :: ts, h => by
    rw [List.zip_cons_cons, List.lookup_cons]
    have : (m == x) = false := by
      simp only [List.mem_cons, not_or] at h
      simpa using h.1
    rw [this]
    exact lookup_zip_none fun q => h (List.mem_cons_of_mem _ q)
/-- e.m() of an instance that is frozen -/
theorem w_methP {e : Expr} {m : Str} {apos : Pos} {C : Addr} {j : Nat} {sp : PSp} {pl : PySem.Env → Sem Bool} {Q : Vl → Store → Prop} (D : DefM g C m 1 j (ptT sp)) (hj : j ≤ k) (hc : Cls g.K C)
    (ht : ∀ env, eval (.Call (.Attribute e m apos) [] [] pos) env = (do
      let ov ← eval e env
      standAt apos.atName
      let (f, first) ← holding [ov] (getMethod ov m (pl env))
      callWith pos f first (backTo pos (starEach [] env)) (backToKw pos (keywordEach [] env))))
    (h : W g k S ρ O e fun u O1 => ∃ fs ts, u = .t (.ins C fs ts) ∧ m ∉ fs ∧ sp [.ins C fs ts] fun t => Q (.t t) O1) : W g k S ρ O (.Call (.Attribute e m apos) [] [] pos) Q := by
  intro X A σ F H hE hC Qc hq
  obtain ⟨f, fd, ps, h1, h2, h3⟩ := D.ex
  have h' : tMeth C m (spOf g.w 1 (ptT sp)) [] E0 (semE X e) tNil σ H Qc := h X A σ F H hE hC _ fun u v F1 H1 O1 s1 c1 r1 ⟨fs, ts, e1, hn, q⟩ => by
    subst e1
    obtain ⟨a, dx, vs, ev, ea, hl, ra⟩ := vrep_ins r1
    subst ev
    refine ⟨a, dx, _, rfl, c1.sub _ _ ea, lookup_zip_none hn, rfl, F1, noS, [.t (.ins C fs ts)], ⟨c1.sub, fun b c e => by cases e⟩, .cons r1 .nil, fun u O2 => Q u (joinS O1 noS O2), ⟨rfl, [.ins C fs ts], rfl, ?_⟩, fun u v F2 H2 O2 s2 c2 r2 q2 => ?_⟩
    · have : (fun t => Q (.t t) O1) = fun t => Q (.t t) (joinS O1 noS noS) := by rw [joinS_no]
      rw [← this]; exact q
    · obtain ⟨x, y⟩ := call_frame part_no c1 c2 s2
      exact hq u v F2 H2 _ (s1.trans y) x r2 q2
  have e := A.s
  subst e
  have e := A.g
  subst e
  exact semE_of (pe_meth0 (pl := pl X.env) pe_sem hc h1 h3 (A.room.mono hj) h2 .nil pass0 (ht _)) h'
/-- self.f = e, the field is new -/
theorem putF_new {f : Str} {v : V} : ∀ {fs : List Str} {vs : List V}, fs.length = vs.length → f ∉ fs → putF f v (fs.zip vs) = (fs ++ [f]).zip (vs ++ [v])
  | [], [], _, _ => rfl
  | [], _ :: _, h, _ => by simp at h
  | _ :: _, [], h, _ => by simp at h
  | x :: fs, y :: vs, h, hn => by
    have hx : ¬ x = f := fun e => hn (e ▸ List.mem_cons_self)
    have ih := putF_new (f := f) (v := v) (fs := fs) (vs := vs) (by simpa using h) fun q => hn (List.mem_cons_of_mem _ q)
    rw [List.zip_cons_cons, show putF f v ((x, y) :: fs.zip vs) = (if x = f then (x, v) :: fs.zip vs else (x, y) :: putF f v (fs.zip vs)) from rfl, if_neg hx, ih]
    rfl
theorem w1_fld {o e : Expr} {f : Str} {p' : Pos} {D : TD} (hs : ∀ env, swapsWith e (some (.Attribute o f p')) pos.line env = pure false)
    (h : W g k S ρ O e fun v O1 => W g k S ρ O1 o fun u O2 => ∃ a C fs xs, u = .cell a ∧ O2 a = some (.ins C fs xs) ∧ Cls g.K C ∧ NoAttr g.K C f ∧ fs.length < 1000 ∧ f ∉ fs ∧ D.nx ρ (sup O2 a (.ins C (fs ++ [f]) (xs ++ [v])))) : W1 g k S ρ O (.Assign [.Attribute o f p'] e pos) D := by
  intro X A σ F H hE hC Dc hq
  have h' : sFld X.K (semE X o) (semE X e) f Dc σ H := h X A σ F H hE hC _ fun v vv F1 H1 O1 s1 c1 r1 q1 => q1 X A σ F1 H1 (hE.mono s1.fr) c1 _ fun u vu F2 H2 O2 s2 c2 r2 ⟨a, C, fs, xs, e1, ea, hc, hn, hl, hf, q2⟩ => by
    subst e1
    have r2 : vu = .ref a := r2
    subst r2
    obtain ⟨_, ob, ho, dx, vs, rfl, hlen, rv⟩ := c2.cell a _ ea
    have e := A.g
    subst e
    refine ⟨a, C, dx, _, rfl, ho, hc, hn, by rw [List.length_zip]; omega, ?_⟩
    rw [putF_new hlen hf]
    obtain ⟨c', s'⟩ := c2.write (o := .ins C dx ((fs ++ [f]).zip (vs ++ [vv]))) (y := .ins C (fs ++ [f]) (xs ++ [v])) ea ⟨dx, _, rfl, by simp [hlen], paired_app rv (.cons (r1.mono s2.fr) .nil)⟩
    exact hq.nx ρ _ _ _ _ ((s1.trans s2).trans s') c' (hE.mono ((s1.trans s2).trans s').fr) q2
  have e := A.s
  subst e
  exact semS_of (ps_fld pe_sem pe_sem (hs _)) h'
/-- C(..) -/
structure DefC (g : G) (x : Str) (C : Addr) (n k : Nat) (ts : Tsp) : Prop where
  ex : ∃ f fd ps, g.mg x = some (.ref C) ∧ Mk g.K C f ∧ Binds g.K fd ps [] ∧ FnOk g.P g.w g.K g.mg g.base CX0 k f fd ps (spOf g.w n ts)
theorem w_make {x : Str} {p : Pos} {e : Expr} {es : List Expr} {n j : Nat} {C : Addr} {ts : Tsp} {Q : Vl → Store → Prop} (D : DefC g x C (n + 1) j ts) (hj : j + 1 ≤ k) (hg : GlS S x) (ha : AOk (e :: es)) (hl : (e :: es).length = n)
    (h : WA g k S ρ (e :: es) O fun us O1 => ∃ ts' : List T, us = ts'.map Vl.t ∧ ∀ a, ts (.cell a :: us) (sup noS a (.ins C [] [])) fun u O2 => u = .t .non ∧ ∃ t, Frz O2 (.cell a) t ∧ Q (.t t) O1)
    (hdb : (x == ("__debug__" : Str)) = false := by decide) (hpl : ∀ env, (backTo pos (starEach es env)).any (·.1) = false := by intro _; rfl) : W g k S ρ O (.Call (.Name x p) (e :: es) [] pos) Q := by
  intro X A σ F H hE hC Qc hq
  obtain ⟨f, fd, ps, h1, h2, h3, h4⟩ := D.ex
  have h' : tMake C (spOf g.w (n + 1) ts) [] E0 (tSem X (e :: es)) σ H Qc := WA.run A (WA.len h) hE hC (by
    intro us vs F1 H1 O1 s1 c1 r1 ⟨hu, ts', e1, q1⟩ a dx ha1 hdx hne
    rw [List.append_nil]
    obtain ⟨c2, s2⟩ := c1.newX (o := .own a) hdx
    have ha2 : (upd H1 dx (.own a)) a = none := by rw [upd_ne (fun q => hne q.symm)]; exact ha1
    obtain ⟨c3, s3⟩ := c2.newO (o := .ins C dx []) (x := .ins C [] []) ha2 ⟨dx, [], rfl, rfl, .nil⟩
    have st := s2.trans s3
    obtain ⟨f0, o0⟩ := c2.free ha2
    have c4 : Conc g.w F1 (upd (upd H1 dx (.own a)) a (.ins C dx [])) (sup noS a (.ins C [] [])) := ⟨c3.sub, fun b c e => c3.cell b c (by
      by_cases hb : b = a
      · subst hb; rw [sup_same] at e ⊢; exact e
      · rw [sup_ne hb] at e; cases e)⟩
    refine ⟨by rw [List.length_cons, ← r1.length, hu, hl], F1, _, .cell a :: us, c4, .cons rfl r1, _, q1 a, fun u v F2 H2 O2 sc c5 r5 ⟨eu, t, hf, q5⟩ => ?_⟩
    subst eu
    refine ⟨vrep_non r5, ?_⟩
    -- what it made is frozen, the caller's cells come back
    obtain ⟨c6, s6⟩ := c5.split (O1 := noS) (O2 := O2) Split.all
    have rt : Rep g.w (thaw F2 H2 O2) t (.ref a) := Frz.rep c5 Split.all (thaw_same c5 Split.all) hf (v := .ref a) rfl
    -- frame
    have p0 : Part (sup O1 a (.ins C [] [])) (sup noS a (.ins C [] [])) := ⟨fun b c e => by
      by_cases hb : b = a
      · subst hb; rw [sup_same] at e ⊢; exact e
      · rw [sup_ne hb] at e; cases e⟩
    obtain ⟨c7, s7⟩ := call_frame p0 c3 c6 (sc.trans s6)
    have ej : joinS (sup O1 a (.ins C [] [])) (sup noS a (.ins C [] [])) noS = O1 := by
      funext b
      unfold joinS
      show (match sup noS a (.ins C [] []) b with | some _ => none | none => sup O1 a (.ins C [] []) b) = O1 b
      by_cases hb : b = a
      · subst hb; rw [sup_same, o0]
      · rw [sup_ne hb, sup_ne hb]; rfl
    rw [ej] at c7 s7
    exact hq (.t t) _ _ _ _ ((s1.trans st).trans s7) c7 rt q5)
  have e := A.s
  subst e
  have e := A.g
  subst e
  exact semE_of (pe_make h2 h4 (A.room.mono hj) hg h1 h3 .nil pass0 (pa_sem ha) hdb (ha.1 _) (hpl _)) h'
/-- len(o), o an instance with a def __len__ -/
theorem call_lenI {X : Cx} {C : Addr} {n k : Nat} {f : Addr} {fd : FuncData} {ps : List Str} {sp : Sp} (hm : Meth X.K C "__len__" f) (F : FnOk X.prog X.w X.K X.mg X.base CX0 k f fd ps sp) (hr : Room (k + 1) X.A) (hb : Binds X.K fd ps []) :
    CallR X (.builtin "len") (fun vs H Q => ∃ a dx fs, vs = [.ref a] ∧ H a = some (.ins C dx fs) ∧ sp [.ref a] H (fun v H' => ∃ n : Int, v = .int n ∧ 0 ≤ n ∧ n < 2 ^ 63 ∧ Q (.int n) H') E0) := by
  intro pins s σ H vs us Q I r ⟨a, dx, fs, e, ea, h⟩
  subst e
  obtain ⟨u, rfl, ru⟩ := vals1 r
  obtain rfl : u = Value.ref a := ru
  obtain ⟨mA, O, _⟩ := ins_get I.hok ea
  obtain ⟨od, J, hl⟩ := O.look
  refine Calls.call_function_entry kind_len plain_len entry_len (args_len1 _) ?_
  unfold Builtin.«len»
  refine wpAny_bind (m := oneArg "len" _) (wpAny_pure ?_)
  refine wpAny_bind (m := callSpecial? (.ref a) (Str.ofString "__len__")) ?_
  unfold callSpecial? specialOf
  refine wpAny_bind (wpAny_bind (J.type.here ((PySem.W.looks_findIn I.kIn hm.at_).here ?_)))
  refine wpAny_holding ?_
  refine wpAny_bind ((PySem.W.bind_fn I.kIn (.ref a) (beq_iff_eq.mp hm.fn)).here ?_)
  have hl2 : ([Value.ref a] ++ []).length = ps.length := by rw [← F.len _ _ _ _ h]; rfl
  refine wpAny_bind (wpAny_call (codeAny_mono (F.run X.A.in1 X.stack s H ⟨[.ref a], []⟩ ([Value.ref a] ++ []) [.ref a] _ E0 hr.in1 I.env0.in1 (hb s [.ref a] I.kIn hl2) (show Vals [V.ref a] [Value.ref a] from .cons rfl .nil) h) fun r s' hq' => ?_))
  cases r with
  | error e => exact False.elim hq'
  | ok fl =>
    cases fl with
    | ret u =>
      obtain ⟨v, H', I3, rv, n, ev, h0, h1, q3⟩ := I.after hq'
      subst ev
      obtain ⟨t, rfl⟩ := rv
      refine wpAny_pure (wpAny_bind (wpAny_holding (wpAny_pure ?_)))
      refine wpAny_bind (wpAny_letGo ?_)
      show wpAny _ _ (if n < 0 then _ else _) _ _ _
      rw [if_neg (by omega)]
      show wpAny _ _ (if n ≥ 2 ^ 63 then _ else _) _ _ _
      rw [if_neg (by omega)]
      exact wpAny_bind (wpAny_mkInt (wpAny_pure ⟨_, rfl, .int n, H', I3.tok _, ⟨_, rfl⟩, q3⟩))
    | next => exact False.elim hq'
    | brk => exact False.elim hq'
    | cont => exact False.elim hq'
theorem b_lenI {C : Addr} {j : Nat} {sp : PSp} (D : DefM g C "__len__" 1 j (ptT sp)) (hj : j + 1 ≤ k) (hmono : ∀ ts (P P' : T → Prop), (∀ t, P t → P' t) → sp ts P → sp ts P') :
    BCall g k (.builtin "len") (fun us O Q => ∃ fs ts, us = [.t (.ins C fs ts)] ∧ sp [.ins C fs ts] fun t => ∃ n : Int, t = .int n ∧ 0 ≤ n ∧ n < 2 ^ 63 ∧ Q (.t (.int n)) O) :=
  fun X S A => by
    obtain ⟨f, fd, ps, h1, h2, h3⟩ := D.ex
    have e := A.g
    subst e
    refine ⟨_, call_lenI (n := 1) h1 h3 (A.room.mono hj) h2, fun F H O us vs Q Qc c r hq ⟨fs, ts, e, q⟩ => ?_⟩
    subst e
    obtain ⟨v, rfl, rr⟩ := vreps1 r
    have rr' := rr
    obtain ⟨a, dx, ws, rfl, ea, hl, ra⟩ := vrep_ins rr
    refine ⟨a, dx, _, rfl, c.sub _ _ ea, rfl, F, noS, [.t (.ins C fs ts)], ⟨c.sub, fun b c e => by cases e⟩, .cons rr' .nil, fun u O2 => ∃ n : Int, u = .t (.int n) ∧ 0 ≤ n ∧ n < 2 ^ 63 ∧ Q (.t (.int n)) O ∧ O2 = noS, ⟨rfl, [.ins C fs ts], rfl, hmono _ _ _ (fun t ⟨n, e, h0, h1, q⟩ => ⟨n, by rw [e], h0, h1, q, rfl⟩) q⟩, fun u v F2 H2 O2 s2 c2 r2 ⟨n, e, h0, h1, q, eO⟩ => ?_⟩
    subst e eO
    obtain ⟨x, y⟩ := call_frame part_no c c2 s2
    rw [joinS_no] at x y
    exact ⟨n, vrep_int r2, h0, h1, hq (.t (.int n)) _ F2 H2 O y x (Rep.int _) q⟩
end
end TL
/-! The tree logic: the rules with their side conditions, plain comprehensions, returns. -/
namespace TL
open PySem PySem.Spec PyProof.Rows L2

section
variable {g : G} {k : Nat} {S : Sx} {ρ : Rho} {O : Store} {pos : Pos}
theorem v {x : Str} (i : Nat) {u : Vl} {Q : Vl → Store → Prop} (hρ : ρ[i]? = some (some u)) (h : Q u O) (hN : S.N[i]? = some x := by rfl) (hv : Vis S.sc x := by first | exact .inl rfl | exact .inr (.inl rfl) | exact .inr (.inr rfl))
    (hd : (x == ("__debug__" : Str)) = false := by decide) (hcd : (x == ("__classdict__" : Str)) = false := by decide) : W g k S ρ O (.Name x pos) Q := w_var hN hv hρ h hd hcd
theorem gs {x z : Str} {Q : Vl → Store → Prop} (hm : ∃ t, g.mg x = some (.str z t)) (h : Q (.t (.str z)) O) (hg : GlS S x := by rfl) (hd : (x == ("__debug__" : Str)) = false := by decide) : W g k S ρ O (.Name x pos) Q := by
  obtain ⟨t, ht⟩ := hm
  exact w_gstr hg ht h hd
theorem cB {x : Str} {p : Pos} {e : Expr} {es : List Expr} {id : String} {tr} {Q : Vl → Store → Prop} (hc : BCall g k (.builtin id) tr) (hm : g.mg x = none) (h : WA g k S ρ (e :: es) O fun us O1 => tr us O1 Q) (hg : GlS S x := by rfl) (hv : bootBuiltins x = some (.builtin id) := by rfl)
    (ha : AOk (e :: es) := by first | exact ⟨fun _ => rfl, True.intro⟩ | exact ⟨fun _ => rfl, fun _ => rfl, True.intro⟩ | exact ⟨fun _ => rfl, fun _ => rfl, fun _ => rfl, True.intro⟩)
    (hn : x ≠ "__name__" := by decide) (hdb : (x == ("__debug__" : Str)) = false := by decide) (hpl : ∀ env, (backTo pos (starEach es env)).any (·.1) = false := by intro _; rfl) : W g k S ρ O (.Call (.Name x p) (e :: es) [] pos) Q := w_callB hc hg hm hv ha h hn hdb hpl
theorem cT {x : Str} {p : Pos} {e : Expr} {es : List Expr} {id : String} {tr} {Q : Vl → Store → Prop} (hc : BCall g k (.type id) tr) (hm : g.mg x = none) (h : WA g k S ρ (e :: es) O fun us O1 => tr us O1 Q) (hg : GlS S x := by rfl) (hv : bootBuiltins x = some (.type id) := by rfl)
    (ha : AOk (e :: es) := by first | exact ⟨fun _ => rfl, True.intro⟩ | exact ⟨fun _ => rfl, fun _ => rfl, True.intro⟩ | exact ⟨fun _ => rfl, fun _ => rfl, fun _ => rfl, True.intro⟩)
    (hn : x ≠ "__name__" := by decide) (hdb : (x == ("__debug__" : Str)) = false := by decide) (hpl : ∀ env, (backTo pos (starEach es env)).any (·.1) = false := by intro _; rfl) : W g k S ρ O (.Call (.Name x p) (e :: es) [] pos) Q := w_callTy hc hg hm hv ha h hn hdb hpl
theorem cP {x : Str} {p : Pos} {e : Expr} {es : List Expr} {n j : Nat} {sp : PSp} {Q : Vl → Store → Prop} (D : Def g x n j (ptT sp)) (h : WA g k S ρ (e :: es) O fun us O1 => ∃ ts, us = ts.map Vl.t ∧ sp ts fun t => Q (.t t) O1) (hj : j ≤ k := by first | assumption | omega | decide) (hg : GlS S x := by rfl)
    (ha : AOk (e :: es) := by first | exact ⟨fun _ => rfl, True.intro⟩ | exact ⟨fun _ => rfl, fun _ => rfl, True.intro⟩ | exact ⟨fun _ => rfl, fun _ => rfl, fun _ => rfl, True.intro⟩ | exact ⟨fun _ => rfl, fun _ => rfl, fun _ => rfl, fun _ => rfl, True.intro⟩) (hl : (e :: es).length = n := by rfl)
    (hdb : (x == ("__debug__" : Str)) = false := by decide) (hpl : ∀ env, (backTo pos (starEach es env)).any (·.1) = false := by intro _; rfl) : W g k S ρ O (.Call (.Name x p) (e :: es) [] pos) Q := w_callP D hj hg ha hl h hdb hpl
theorem cL {x : Str} {p : Pos} {e : Expr} {es : List Expr} {n j : Nat} {sp : LSp} {Q : Vl → Store → Prop} (D : Def g x n j (ptL sp)) (hmono : ∀ ts (P P' : List T → Prop), (∀ rs, P rs → P' rs) → sp ts P → sp ts P')
    (h : WA g k S ρ (e :: es) O fun us O1 => ∃ ts, us = ts.map Vl.t ∧ sp ts fun rs => Q (.t (.lst rs)) O1 ∨ ∀ a, O1 a = none → Q (.cell a) (sup O1 a (.lst (rs.map Vl.t)))) (hj : j ≤ k := by first | assumption | omega | decide) (hg : GlS S x := by rfl)
    (ha : AOk (e :: es) := by first | exact ⟨fun _ => rfl, True.intro⟩ | exact ⟨fun _ => rfl, fun _ => rfl, True.intro⟩ | exact ⟨fun _ => rfl, fun _ => rfl, fun _ => rfl, True.intro⟩ | exact ⟨fun _ => rfl, fun _ => rfl, fun _ => rfl, fun _ => rfl, True.intro⟩) (hl : (e :: es).length = n := by rfl)
    (hdb : (x == ("__debug__" : Str)) = false := by decide) (hpl : ∀ env, (backTo pos (starEach es env)).any (·.1) = false := by intro _; rfl) : W g k S ρ O (.Call (.Name x p) (e :: es) [] pos) Q := w_callL hmono D hj hg ha hl h hdb hpl
/-- isinstance(e, C), isinstance(e, (list, tuple)) -/
theorem isi {p q : Pos} {e : Expr} {y : Str} {ty : String} {Q : Vl → Store → Prop} (hm : g.mg "isinstance" = none) (hy : g.mg y = none)
    (h : W g k S ρ O e fun u O1 => ∃ t, u = .t t ∧ noIns t = true ∧ Q (.t (.bl (isTy t ty))) O1) (hg : GlS S "isinstance" := by rfl) (hgy : GlS S y := by rfl) (hv : bootBuiltins y = some (.type ty) := by rfl) (ht : ty ∈ sixTys := by decide) (h4 : y ≠ "__name__" := by decide) (h5 : (y == ("__debug__" : Str)) = false := by decide)
    (ha : ∀ env, starEach [e, .Name y q] env = (false, eval e env) :: starEach [.Name y q] env := by intro _; rfl) : W g k S ρ O (.Call (.Name "isinstance" p) [e, .Name y q] [] pos) Q :=
  w_isi hg hm (.cons hgy hy hv h4 h5 (fun _ => rfl) .nil) ht ha h (fun _ => rfl)
def isLT (t : T) : Bool := ["list", "tuple"].any (isTy t)
theorem isiLT {p q q1 q2 : Pos} {e : Expr} {x1 : Nat} {Q : Vl → Store → Prop} (hm : g.mg "isinstance" = none) (hl : g.mg "list" = none) (ht : g.mg "tuple" = none)
    (h : W g k S ρ O e fun u O1 => ∃ t, u = .t t ∧ noIns t = true ∧ Q (.t (.bl (isLT t))) O1) (hg : GlS S "isinstance" := by rfl) (hgl : GlS S "list" := by rfl) (hgt : GlS S "tuple" := by rfl)
    (ha : AOk [e, .Tuple [.Name "list" q1, .Name "tuple" q2] x1 q] := by exact ⟨fun _ => rfl, fun _ => rfl, True.intro⟩) : W g k S ρ O (.Call (.Name "isinstance" p) [e, .Tuple [.Name "list" q1, .Name "tuple" q2] x1 q] [] pos) Q :=
  w_isiT (tys := ["list", "tuple"]) hg hm (.cons hgl hl rfl (by decide) (by decide) (fun _ => rfl) (.cons hgt ht rfl (by decide) (by decide) (fun _ => rfl) .nil)) (by decide) (by decide) ha h (fun _ => rfl)
/-! ### plain comprehensions -/
theorem filter_snoc {α : Type} {p : α → Bool} {as : List α} {i : Nat} {a : α} (h : as[i]? = some a) : (as.take (i + 1)).filter p = (as.take i).filter p ++ if p a = true then [a] else [] := by
  obtain ⟨hi, rfl⟩ := List.getElem?_eq_some_iff.mp h
  rw [List.take_succ_eq_append_getElem hi, List.filter_append]
  congr 1
  by_cases q : p as[i] = true
  · rw [if_pos q]; simp [q]
  · rw [if_neg q]; simp [q]
theorem lcP {α : Type} {elt tg iter : Expr} {ifs : List Expr} {scope : Scope} (own : List (Str × Nat)) (is : List Nat) (enc : α → Vl) (p : α → Bool) (f : α → T) {Q : Vl → Store → Prop}
    (h : WI g k S ρ O tg iter fun xs O1 => ∃ as : List α, xs = as.map enc ∧ as.length ≤ sizeLine ∧ (∀ a ∈ as, ∃ ρ2, WG g k (S.blk scope) tg is (enc a) (wipR ρ (own.map (·.2))) ρ2 ∧ WT g k (S.blk scope) ρ2 O1 ifs fun b O3 => b = p a ∧ O3 = O1 ∧ (b = true → W g k (S.blk scope) ρ2 O1 elt fun y O4 => y = .t (f a) ∧ O4 = O1)) ∧
      (Q (.t (.lst ((as.filter p).map f))) O1 ∨ ∀ a, O1 a = none → Q (.cell a) (sup O1 a (.lst (((as.filter p).map f).map Vl.t)))))
    (ok : blkC S.N S.sc scope own = true := by decide +kernel) (his : ∀ i ∈ is, i ∈ own.map (·.2) := by decide) (hf : ∀ env x, foldedSetIterable iter env x = pure x := by intro _ _; rfl) : W g k S ρ O (.ListComp elt [⟨tg, iter, ifs, 0⟩] scope pos) Q := by
  refine w_lc own ok his hf (wi_mono h fun xs O1 ⟨as, hx, hl, hb, hq⟩ => ?_)
  subst hx
  refine ⟨fun i acc O2 => O2 = O1 ∧ acc = (((as.take i).filter p).map f).map Vl.t, ⟨rfl, by simp⟩, ?_, by rw [List.length_map]; exact hl, ?_⟩
  · rintro i u acc O2 hu ⟨rfl, rfl⟩ _
    obtain ⟨a, ha, rfl⟩ := map_get hu
    obtain ⟨ρ2, h1, h2⟩ := hb a (List.mem_of_getElem? ha)
    refine ⟨ρ2, h1, ?_⟩
    have fin : ∀ b O3, (b = p a ∧ O3 = O2 ∧ (b = true → W g k (S.blk scope) ρ2 O2 elt fun y O4 => y = .t (f a) ∧ O4 = O2)) → if b = true then W g k (S.blk scope) ρ2 O3 elt fun y O4 => O4 = O2 ∧ (((as.take i).filter p).map f).map Vl.t ++ [y] = (((as.take (i + 1)).filter p).map f).map Vl.t else O3 = O2 ∧ (((as.take i).filter p).map f).map Vl.t = (((as.take (i + 1)).filter p).map f).map Vl.t := by
      rintro b O3 ⟨rfl, rfl, h3⟩
      rw [filter_snoc ha]
      by_cases q : p a = true
      · rw [if_pos q, if_pos q]
        exact W.mono (h3 q) fun y O4 ⟨e1, e2⟩ => ⟨e2, by rw [e1]; simp⟩
      · rw [if_neg q, if_neg q]
        exact ⟨rfl, by simp⟩
    have mono : ∀ {ifs : List Expr} {Q Q' : Bool → Store → Prop}, (∀ b O, Q b O → Q' b O) → WT g k (S.blk scope) ρ2 O2 ifs Q → WT g k (S.blk scope) ρ2 O2 ifs Q' := by
      intro ifs Q Q' hh h
      match ifs, h with
      | [], h => exact hh _ _ h
      | [c], h => exact WB.mono h hh
      | _ :: _ :: _, h => exact h.elim
    exact mono fin h2
  · rintro acc O2 ⟨rfl, rfl⟩
    rw [List.length_map, List.take_length]
    rcases hq with q | q
    · exact .inl ⟨_, rfl, q⟩
    · exact .inr q
/-- no test: f of all -/
theorem lcA {α : Type} {elt tg iter : Expr} {scope : Scope} (own : List (Str × Nat)) (is : List Nat) (enc : α → Vl) (f : α → T) {Q : Vl → Store → Prop}
    (h : WI g k S ρ O tg iter fun xs O1 => ∃ as : List α, xs = as.map enc ∧ as.length ≤ sizeLine ∧ (∀ a ∈ as, ∃ ρ2, WG g k (S.blk scope) tg is (enc a) (wipR ρ (own.map (·.2))) ρ2 ∧ W g k (S.blk scope) ρ2 O1 elt fun y O4 => y = .t (f a) ∧ O4 = O1) ∧
      (Q (.t (.lst (as.map f))) O1 ∨ ∀ a, O1 a = none → Q (.cell a) (sup O1 a (.lst ((as.map f).map Vl.t)))))
    (ok : blkC S.N S.sc scope own = true := by decide +kernel) (his : ∀ i ∈ is, i ∈ own.map (·.2) := by decide) (hf : ∀ env x, foldedSetIterable iter env x = pure x := by intro _ _; rfl) : W g k S ρ O (.ListComp elt [⟨tg, iter, [], 0⟩] scope pos) Q := by
  refine lcP own is enc (fun _ => true) f (wi_mono h fun xs O1 ⟨as, hx, hl, hb, hq⟩ => ⟨as, hx, hl, fun a ha => ?_, ?_⟩) ok his hf
  · obtain ⟨ρ2, h1, h2⟩ := hb a ha
    exact ⟨ρ2, h1, rfl, rfl, fun _ => h2⟩
  · rw [List.filter_eq_self.mpr fun _ _ => rfl]
    exact hq
/-- a dict comprehension, the keys all different -/
theorem dcP {α : Type} {kx vx tg iter : Expr} {ifs : List Expr} {scope : Scope} (own : List (Str × Nat)) (is : List Nat) (enc : α → Vl) (p : α → Bool) (kf : α → NestedKey) (f : α → T) {Q : Vl → Store → Prop}
    (h : WI g k S ρ O tg iter fun xs O1 => ∃ as : List α, xs = as.map enc ∧ as.length < sizeLine ∧ ((as.filter p).map kf).Nodup ∧ (∀ a ∈ as, ∃ ρ2, WG g k (S.blk scope) tg is (enc a) (wipR ρ (own.map (·.2))) ρ2 ∧ WT g k (S.blk scope) ρ2 O1 ifs fun b O3 => b = p a ∧ O3 = O1 ∧
        (b = true → W g k (S.blk scope) ρ2 O1 kx fun y O4 => y = .t (kT (kf a)) ∧ (kf a).depth ≤ 8 ∧ O4 = O1 ∧ W g k (S.blk scope) ρ2 O1 vx fun z O5 => z = .t (f a) ∧ O5 = O1)) ∧
      (Q (.t (.dic ((as.filter p).map kf) ((as.filter p).map f))) O1 ∨ ∀ a, O1 a = none → Q (.cell a) (sup O1 a (.dic ((as.filter p).map kf) (((as.filter p).map f).map Vl.t)))))
    (ok : blkC S.N S.sc scope own = true := by decide +kernel) (his : ∀ i ∈ is, i ∈ own.map (·.2) := by decide) (hf : ∀ env x, foldedSetIterable iter env x = pure x := by intro _ _; rfl) : W g k S ρ O (.DictComp kx vx [⟨tg, iter, ifs, 0⟩] scope pos) Q := by
  refine w_dc own ok his hf (wi_mono h fun xs O1 ⟨as, hx, hl, hnd, hb, hq⟩ => ?_)
  subst hx
  refine ⟨fun i ks acc O2 => O2 = O1 ∧ ks = ((as.take i).filter p).map kf ∧ acc = (((as.take i).filter p).map f).map Vl.t, ⟨rfl, by simp, by simp⟩, ?_, by rw [List.length_map]; exact hl, ?_⟩
  · rintro i u ks acc O2 hu ⟨rfl, rfl, rfl⟩ _
    obtain ⟨a, ha, rfl⟩ := map_get hu
    obtain ⟨ρ2, h1, h2⟩ := hb a (List.mem_of_getElem? ha)
    refine ⟨ρ2, h1, ?_⟩
    have fin : ∀ b O3, (b = p a ∧ O3 = O2 ∧ (b = true → W g k (S.blk scope) ρ2 O2 kx fun y O4 => y = .t (kT (kf a)) ∧ (kf a).depth ≤ 8 ∧ O4 = O2 ∧ W g k (S.blk scope) ρ2 O2 vx fun z O5 => z = .t (f a) ∧ O5 = O2)) →
        if b = true then W g k (S.blk scope) ρ2 O3 kx fun y O4 => ∃ kk, y = .t (kT kk) ∧ kk.depth ≤ 8 ∧ W g k (S.blk scope) ρ2 O4 vx fun z O5 => O5 = O2 ∧ dputK (((as.take i).filter p).map kf) kk = ((as.take (i + 1)).filter p).map kf ∧ dputV (((as.take i).filter p).map kf) ((((as.take i).filter p).map f).map Vl.t) kk z = (((as.take (i + 1)).filter p).map f).map Vl.t
        else O3 = O2 ∧ ((as.take i).filter p).map kf = ((as.take (i + 1)).filter p).map kf ∧ (((as.take i).filter p).map f).map Vl.t = (((as.take (i + 1)).filter p).map f).map Vl.t := by
      rintro b O3 ⟨rfl, rfl, h3⟩
      rw [filter_snoc ha]
      by_cases q : p a = true
      · rw [if_pos q, if_pos q]
        refine W.mono (h3 q) fun y O4 ⟨e1, e2, e3, h4⟩ => ⟨kf a, e1, e2, ?_⟩
        subst e3
        refine W.mono h4 fun z O5 ⟨e4, e5⟩ => ⟨e5, ?_⟩
        subst e4
        have hn : kf a ∉ ((as.take i).filter p).map kf := by
          have e : as.filter p = (as.take i).filter p ++ (a :: (as.drop (i + 1)).filter p) := by
            obtain ⟨hi, ea⟩ := List.getElem?_eq_some_iff.mp ha
            have : as = as.take i ++ (a :: as.drop (i + 1)) := by
              conv => lhs; rw [← List.take_append_drop i as]
              rw [List.drop_eq_getElem_cons hi, ea]
            conv => lhs; rw [this]
            rw [List.filter_append, List.filter_cons_of_pos q]
          rw [e, List.map_append, List.map_cons] at hnd
          intro hm
          exact (List.nodup_append.mp hnd).2.2 _ hm _ List.mem_cons_self rfl
        refine ⟨by rw [dputK_new hn]; simp, ?_⟩
        rw [dputV_new (by simp) hn]
        simp
      · rw [if_neg q, if_neg q]
        exact ⟨rfl, by simp, by simp⟩
    have mono : ∀ {ifs : List Expr} {Q Q' : Bool → Store → Prop}, (∀ b O, Q b O → Q' b O) → WT g k (S.blk scope) ρ2 O2 ifs Q → WT g k (S.blk scope) ρ2 O2 ifs Q' := by
      intro ifs Q Q' hh h
      match ifs, h with
      | [], h => exact hh _ _ h
      | [c], h => exact WB.mono h hh
      | _ :: _ :: _, h => exact h.elim
    exact mono fin h2
  · rintro ks acc O2 ⟨rfl, rfl, rfl⟩
    rw [List.length_map, List.take_length]
    rcases hq with q | q
    · exact .inl ⟨_, rfl, q⟩
    · exact .inr q
/-- {key: constant ..}: the keys without repetitions -/
def ddK (ks : List NestedKey) : List NestedKey := ks.foldl dputK []
theorem dcK {α : Type} {kx vx tg iter : Expr} {scope : Scope} (own : List (Str × Nat)) (is : List Nat) (enc : α → Vl) (kf : α → NestedKey) (c : T) {Q : Vl → Store → Prop}
    (h : WI g k S ρ O tg iter fun xs O1 => ∃ as : List α, xs = as.map enc ∧ as.length < sizeLine ∧ (∀ a ∈ as, ∃ ρ2, WG g k (S.blk scope) tg is (enc a) (wipR ρ (own.map (·.2))) ρ2 ∧
        W g k (S.blk scope) ρ2 O1 kx fun y O4 => y = .t (kT (kf a)) ∧ (kf a).depth ≤ 8 ∧ O4 = O1 ∧ W g k (S.blk scope) ρ2 O1 vx fun z O5 => z = .t c ∧ O5 = O1) ∧
      (Q (.t (.dic (ddK (as.map kf)) (List.replicate (ddK (as.map kf)).length c))) O1))
    (ok : blkC S.N S.sc scope own = true := by decide +kernel) (his : ∀ i ∈ is, i ∈ own.map (·.2) := by decide) (hf : ∀ env x, foldedSetIterable iter env x = pure x := by intro _ _; rfl) : W g k S ρ O (.DictComp kx vx [⟨tg, iter, [], 0⟩] scope pos) Q := by
  refine w_dc own ok his hf (wi_mono h fun xs O1 ⟨as, hx, hl, hb, hq⟩ => ?_)
  subst hx
  refine ⟨fun i ks acc O2 => O2 = O1 ∧ ks = ddK ((as.take i).map kf) ∧ acc = List.replicate ks.length (.t c), ⟨rfl, rfl, rfl⟩, ?_, by rw [List.length_map]; exact hl, ?_⟩
  · rintro i u ks acc O2 hu ⟨rfl, rfl, rfl⟩ _
    obtain ⟨a, ha, rfl⟩ := map_get hu
    obtain ⟨ρ2, h1, h2⟩ := hb a (List.mem_of_getElem? ha)
    refine ⟨ρ2, h1, ?_⟩
    show W g k (S.blk scope) ρ2 O2 kx _
    refine W.mono h2 fun y O4 ⟨e1, e2, e3, h4⟩ => ⟨kf a, e1, e2, ?_⟩
    subst e3
    refine W.mono h4 fun z O5 ⟨e4, e5⟩ => ⟨e5, ?_, ?_⟩
    · obtain ⟨hi, rfl⟩ := List.getElem?_eq_some_iff.mp ha
      rw [List.take_succ_eq_append_getElem hi, List.map_append]
      unfold ddK
      rw [List.foldl_append]
      rfl
    · subst e4
      generalize ddK ((as.take i).map kf) = ks
      have all : ∀ (ks : List NestedKey), dputV ks (List.replicate ks.length (Vl.t c)) (kf a) (.t c) = List.replicate (dputK ks (kf a)).length (.t c) := by
        intro ks
        have l := dput_len (k := kf a) (v := Vl.t c) (ks := ks) (xs := List.replicate ks.length (Vl.t c)) (by simp)
        rw [l]
        refine List.eq_replicate_iff.mpr ⟨rfl, fun b hbm => ?_⟩
        clear l
        induction ks with
        | nil => simpa [dputV] using hbm
        | cons k' ks ih =>
          rw [List.length_cons, List.replicate_succ] at hbm
          unfold dputV at hbm
          by_cases q : k' = kf a
          · rw [if_pos q] at hbm
            rcases List.mem_cons.mp hbm with e | hm
            · exact e
            · exact (List.mem_replicate.mp hm).2
          · rw [if_neg q] at hbm
            rcases List.mem_cons.mp hbm with e | hm
            · exact e
            · exact ih hm
      exact all ks
  · rintro ks acc O2 ⟨rfl, rfl, rfl⟩
    rw [List.length_map, List.take_length]
    exact .inl ⟨List.replicate _ c, by simp, hq⟩
/-! ### returns -/
theorem w_retT {e : Expr} {Q : Vl → Store → Prop} (h : W g k S ρ O e fun u O1 => ∃ t, Frz O1 u t ∧ Q (.t t) noS) : W g k S ρ O e Q :=
  w_frz (W.mono h fun _ _ ⟨t, hf, q⟩ => ⟨t, noS, _, Split.all, hf, q⟩)
theorem w_shr {e : Expr} {Q : Vl → Store → Prop} (h : W g k S ρ O e fun u O1 => ∃ O2, Part O1 O2 ∧ Q u O2) : W g k S ρ O e Q := by
  intro X A σ F H hE hC Qc hq
  refine h X A σ F H hE hC _ fun u v F1 H1 O1 s1 c1 r1 ⟨O2, p, q⟩ => ?_
  obtain ⟨c, s⟩ := c1.shrink p
  exact hq u v _ _ _ (s1.trans s) c r1 q
theorem part_one {O : Store} {a : Addr} {c : Cell} (h : O a = some c) : Part O (sup noS a c) := ⟨fun b x e => by
  by_cases hb : b = a
  · subst hb; rw [sup_same] at e; rw [h]; exact e
  · rw [sup_ne hb] at e; cases e⟩
theorem w_retL {e : Expr} {Q : Vl → Store → Prop} (h : W g k S ρ O e fun u O1 => ∃ a rs, u = .cell a ∧ O1 a = some (.lst (rs.map Vl.t)) ∧ (Q (.t (.lst rs)) noS ∨ ∀ a, Q (.cell a) (sup noS a (.lst (rs.map Vl.t))))) : W g k S ρ O e Q := by
  intro X A σ F H hE hC Qc hq
  refine h X A σ F H hE hC _ fun u v F1 H1 O1 s1 c1 r1 ⟨a, rs, e1, ea, q⟩ => ?_
  subst e1
  rcases q with q | q
  · obtain ⟨c, s⟩ := c1.split Split.all
    exact hq (.t (.lst rs)) v _ _ _ (s1.trans s) c (Frz.rep c1 Split.all (thaw_same c1 Split.all) (Frz.flat ea) r1) q
  · obtain ⟨c, s⟩ := c1.shrink (part_one ea)
    exact hq (.cell a) v _ _ _ (s1.trans s) c r1 (q a)
theorem ws_shr {st : List Stmt} {D : TD} {O1 : Store} (p : Part O O1) (h : WS g k S ρ O1 st D) : WS g k S ρ O st D := by
  intro X A σ F H hE hC Dc hq
  obtain ⟨c, s⟩ := hC.shrink p
  exact h X A σ _ H hE c Dc (hq.at s)
theorem loc {x : Str} (h : S.sc.names.lookup x = some .local := by rfl) : LocS S x := ⟨.inl h, .inr h⟩
theorem locB {x : Str} (h : Loc S.sc x) (h2 : S.fn x = true ∨ S.sc.names.lookup x = some .local) : LocS S x := ⟨h, h2⟩
/-- a name as target -/
theorem gn {x : Str} (i : Nat) {u : Vl} (hi : S.N[i]? = some x := by rfl) (hx : LocS S x := by first | exact ⟨.inl rfl, .inr rfl⟩ | exact ⟨.inr rfl, .inl rfl⟩) : WG g k S (.Name x pos) [i] u ρ (ρ.set i (some u)) := wg_name hi hx
/-- x = e -/
theorem st {x : Str} (i : Nat) {e : Expr} {p : Pos} {D : TD} (h : W g k S ρ O e fun u O1 => D.nx (ρ.set i (some u)) O1) (hi : S.N[i]? = some x := by rfl) (hx : LocS S x := by first | exact ⟨.inl rfl, .inr rfl⟩ | exact ⟨.inr rfl, .inl rfl⟩) (hs : ∀ env, swapsWith e (some (.Name x p)) pos.line env = pure false := by intro _; rfl) : W1 g k S ρ O (.Assign [.Name x p] e pos) D := w1_set hi hx hs h
end
end TL
/-! The tree logic: sorted of a tuple. -/
namespace TL
open PySem PySem.Spec PyProof.Rows L2 Builtin

section
variable {prog : Program} {w : World} {A : Around} {E : Value → Shared → Prop} {s : Shared}
theorem collect_tup {l : Addr} {vs : List Value} {Q : List Value → Shared → Prop} (hl : s.heap.IsTuple l vs.toArray)
    (h : Q vs { s with heap := (s.heap.push (seqObj "list" #[] 0)).update s.heap.objs.size (Obj.mapSeq (· ++ vs.toArray)) }) (hsz : vs.length ≤ sizeLine) :
    wpAny (model prog w) A (collect (.ref l)) Q E s := by
  obtain ⟨o, ho, hc, n, hd⟩ := id hl
  unfold collect
  refine wpAny_bind (wpAny_runValue (codeAny_builtin entry_proto_collect' ?_))
  show wpAny _ _ (do again (.builtin "list.__iadd__" ⟨[← newList [], .ref l], []⟩)) _ _ s
  refine wpAny_bind (wpAny_newList (wpAny_pure ⟨Code.quiet_builtin _ (by decide +kernel), codeAny_builtin entry_list_iadd' ?_⟩))
  show wpAny _ _ (Builtin.List.listExtendWith (.ref s.heap.objs.size) (.ref l) (.ref s.heap.objs.size)) _ _ { s with heap := s.heap.push (seqObj "list" #[] 0) }
  unfold Builtin.List.listExtendWith
  have ho' : (s.heap.push (seqObj "list" #[] 0)).get? l = some o := Heap.get?_push_of_some _ ho
  refine wpAny_bind (wpAny_typeOf (T := "tuple") ⟨o, ho', hc⟩ ?_)
  have ht : (Value.type "tuple" == Value.type "tuple") = true := by rfl
  rw [if_pos (by rw [ht]; simp)]
  refine wpAny_bind (listItems_at ho' hd ?_)
  refine wpAny_bind (listItems_at (xs := #[]) (n := 0) (Heap.get?_push_size _ rfl) rfl ?_)
  rw [if_neg (by simp)]
  refine wpAny_bind (listUpdate_at (xs := #[]) (n := 0) (Heap.get?_push_size _ rfl) rfl ?_ (Nat.zero_le _) (by show (#[] ++ vs.toArray).size ≤ sizeLine + 1; simp only [Array.size_append, List.size_toArray, List.length_nil]; omega))
  refine wpAny_pure ?_
  show wpAny (model prog w) A (do
      let o ← load s.heap.objs.size
      match o.data with
      | .seq xs _ => pure xs.toList
      | _ => unsupported "internal:collect") Q E { s with heap := (s.heap.push (seqObj "list" #[] 0)).update s.heap.objs.size (Obj.mapSeq (· ++ vs.toArray)) }
  refine wpAny_bind (wpAny_load (get?_update_seq (Heap.get?_push_size _ rfl) _) ?_)
  show wpAny _ _ (pure ((#[] : Array Value) ++ vs.toArray).toList) Q E _
  rw [show ((#[] : Array Value) ++ vs.toArray).toList = vs by simp]
  exact wpAny_pure h
theorem sorted_tupD {β : Type} {R : Value → β → Prop} {enc : β → PyData} {vs : List Value} {bs : List β} {l : Addr} {Q : Value → Shared → Prop} (hl : s.heap.IsTuple l vs.toArray) (e : PySem.W.EachIs R vs bs) (er : PySem.W.EachIs (fun v b => ∃ as, Reads s.heap v (enc b) as) vs bs) (hal : PySem.W.AllAlike (bs.map enc)) (hk : PySem.W.Sortable (bs.map enc)) (hL : bs.length ≤ sizeLine)
    (hu : ∀ b, b ∈ bs → A.units + 2 + (enc b).depth < cLine) (h : ∀ out, out.length = bs.length → PySem.W.EachIs R out (bs.mergeSort (PySem.W.dataLe false enc)) → Q (.ref (s.heap.objs.size + 1)) { s with heap := sortedAll s.heap vs (List.toArray out) }) :
    wpAny (model prog w) A (call (.builtin "sorted") [.ref l]) Q E s := by
  have er' : PySem.W.EachIs (fun v b => ∃ as, Reads (PySem.W.sortingHeap (PySem.W.copyHeap s.heap vs) (s.heap.objs.size + 1) vs) v (enc b) as) vs bs := er.mono fun _ _ ⟨as, r⟩ => ⟨as, PyProof.Rows.Reads.keeps (fun _ _ => PySem.W.sorting_copy_old) r⟩
  have hL' : vs.length ≤ sizeLine := by rw [e.length]; exact hL
  refine call_function_entry_kw kind_sorted plain_sorted entry_sorted (args_sorted1 _) ?_
  unfold Builtin.«sorted»
  refine wpAny_bind (m := checkCount "sorted" 1 1 _) (wpAny_pure ?_)
  refine wpAny_bind (collect_tup hl ?_ hL')
  refine wpAny_bind (wpAny_newList ?_ hL')
  have hsz : ((s.heap.push (seqObj "list" #[] 0)).update s.heap.objs.size (Obj.mapSeq (· ++ vs.toArray))).objs.size = s.heap.objs.size + 1 := by
    rw [Heap.size_update, size_push']
  show wpAny _ _ _ _ _ { s with heap := PySem.W.copyHeap s.heap vs }
  rw [hsz]
  refine wpAny_bind (wpAny_holding (wpAny_call_entry_kw slot_list_sort ⟨_, PySem.W.copyHeap_at s.heap vs, rfl⟩ entry_list_sort ?body (args_list_sort _)))
  case body =>
    show wpAny (model prog w) A.in1.in1 (Builtin.«list.sort» ⟨[.ref (s.heap.objs.size + 1)], []⟩) _ _ _
    refine wpAny_mono (PySem.W.list_sort_vals (P := fun f s' => f = .done (.ret .none) ∧ Q (.ref (s.heap.objs.size + 1)) s') (s := { s with heap := PySem.W.copyHeap s.heap vs }) (PySem.W.copyHeap_at s.heap vs)
      (PySem.W.SortsAt.data (s := { s with heap := PySem.W.sortingHeap (PySem.W.copyHeap s.heap vs) (s.heap.objs.size + 1) vs }) (PySem.W.each_map (R := fun v d => ∃ as, Reads (PySem.W.sortingHeap (PySem.W.copyHeap s.heap vs) (s.heap.objs.size + 1) vs) v d as) enc er') hal hk (PySem.W.bound_map hu)) hL' ⟨rfl, h _ (by rw [PySem.W.sortVals_length false rfl]; exact e.length) (PySem.W.sortVals_data false e er' hal)⟩) (fun f s' hf => ?_) fun _ _ e => e
    obtain ⟨rfl, hq⟩ := hf
    exact ⟨_, rfl, wpAny_pure ⟨_, rfl, hq⟩⟩
end
section
variable {g : G} {k : Nat} {S : Sx} {ρ : Rho} {O : Store} {pos : Pos}
/-- sorted of a list or a tuple of data that can be compared -/
theorem b_sortedA : BCall g k (.builtin "sorted") (fun us O Q => ∃ ts : List T, (us = [.t (.lst ts)] ∨ us = [.t (.tup ts)]) ∧ (∀ t ∈ ts, isD t = true ∧ (toD t).depth ≤ 8) ∧ PySem.W.AllAlike (ts.map toD) ∧ PySem.W.Sortable (ts.map toD) ∧ ts.length ≤ sizeLine ∧ Q (.t (.lst (sortT ts))) O) :=
  fun X S A => ⟨fun vs H Q => ∃ (a : Addr) (ts : List T) (ws : List V) (F : Hp), vs = [.ref a] ∧ (H a = some (.lst ws) ∨ H a = some (.tup ws)) ∧ Same F H ∧ RepL X.w F ts ws ∧ (∀ t ∈ ts, isD t = true ∧ (toD t).depth ≤ 8) ∧ PySem.W.AllAlike (ts.map toD) ∧ PySem.W.Sortable (ts.map toD) ∧ ts.length ≤ sizeLine ∧ ∀ p zs, H p = none → RepL X.w F (sortT ts) zs → Q (.ref p) (upd H p (.lst zs)),
    fun pins s σ H xs us Q I rv ⟨a, ts, ws, F, e, ea, sm, ra, hd, h1, h2, hz, q⟩ => by
      subst e
      obtain ⟨u, rfl, ru⟩ := vals1 rv
      obtain rfl : u = Value.ref a := ru
      have fin : ∀ (its : List Value), Vals ws its → ∀ out : List Value, out.length = ts.length → PySem.W.EachIs (fun u t => ∃ v, Rep X.w F t v ∧ RelV v u) out (ts.mergeSort (PySem.W.dataLe false toD)) → EP X pins σ Q (.ref (s.heap.objs.size + 1)) { s with heap := sortedAll s.heap its (List.toArray out) } := fun its rw' out hlen he => by
        obtain ⟨zs, rz, vz⟩ := each_rel he
        obtain ⟨n, hn⟩ := PyProof.Rows.sortedAll_at s.heap its (List.toArray out)
        refine ⟨.ref (s.heap.objs.size + 1), upd H (s.heap.objs.size + 1) (.lst zs), I.laid (t' := s.toks) (fun b o e => PyProof.Rows.sortedAll_old e) (Nat.le_succ _) ⟨?_, out, n, vz, hn⟩, rfl, q _ zs (I.hok.fresh (Nat.le_succ _)) rz⟩
        rw [vz.length, hlen]; exact hz
      have hun : ∀ t, t ∈ ts → X.A.units + 2 + (toD t).depth < cLine := fun t ht => by have := (hd t ht).2; have := A.room.un; omega
      rcases ea with ea | ea
      · obtain ⟨its, rw', hl, hz'⟩ := I.list (SqL.of ea)
        exact PySem.W.sorted_data (enc := toD) (bs := ts) (R := fun u t => ∃ v, Rep X.w F t v ∧ RelV v u) hl.isList (rel_each ra rw') (reads_each I.hok (ra.mono sm) rw' fun t ht => (hd t ht).1) h1 h2 hz hun (fin its rw')
      · obtain ⟨its, rw', hl⟩ := tup_at I.hok ea
        exact sorted_tupD (enc := toD) (bs := ts) (R := fun u t => ∃ v, Rep X.w F t v ∧ RelV v u) hl (rel_each ra rw') (reads_each I.hok (ra.mono sm) rw' fun t ht => (hd t ht).1) h1 h2 hz hun (fin its rw'),
    fun F H O us vs Q Qc c r hq ⟨ts, e, hd, h1, h2, hz, q⟩ => by
      have e0 := A.g
      subst e0
      have fin : ∀ a ws, (F a = some (.lst ws) ∨ F a = some (.tup ws)) → RepL X.w F ts ws → vs = [.ref a] → ∃ (a : Addr) (ts : List T) (ws : List V) (F : Hp), vs = [.ref a] ∧ (H a = some (.lst ws) ∨ H a = some (.tup ws)) ∧ Same F H ∧ RepL X.w F ts ws ∧ (∀ t ∈ ts, isD t = true ∧ (toD t).depth ≤ 8) ∧ PySem.W.AllAlike (ts.map toD) ∧ PySem.W.Sortable (ts.map toD) ∧ ts.length ≤ sizeLine ∧ ∀ p zs, H p = none → RepL X.w F (sortT ts) zs → Qc (.ref p) (upd H p (.lst zs)) := fun a ws ea ra ev => by
        refine ⟨a, ts, ws, F, ev, ea.imp (c.sub _ _) (c.sub _ _), c.sub, ra, hd, h1, h2, hz, fun p zs hp rz => ?_⟩
        obtain ⟨c', s'⟩ := c.newF (o := .lst zs) hp
        exact hq (.t (.lst (sortT ts))) _ _ _ _ s' c' (Rep.lst upd_same (rz.mono (same_upd (c.free hp).1))) q
      rcases e with rfl | rfl
      · obtain ⟨v, rfl, rr⟩ := vreps1 r
        obtain ⟨a, ws, rfl, ea, ra⟩ := vrep_lst rr
        exact fin a ws (.inl ea) ra rfl
      · obtain ⟨v, rfl, rr⟩ := vreps1 r
        obtain ⟨a, ws, rfl, ea, ra⟩ := vrep_tup rr
        exact fin a ws (.inr ea) ra rfl⟩
end
end TL
/-! Sorting texts, numbers, sets of texts. -/
namespace TL
open PySem PySem.Spec PyProof.Rows L2

abbrev sT (xs : List Str) : List T := xs.map T.str
abbrev SetT (xs : List Str) : T := .tup (sT xs)
/-! ### the order of texts -/
def ltS (a b : Str) : Prop := a.cps.toList < b.cps.toList
instance : DecidableRel ltS := fun a b => inferInstanceAs (Decidable (a.cps.toList < b.cps.toList))
theorem str_ext {a b : Str} (h : a.cps.toList = b.cps.toList) : a = b := PySem.W.str_of_cps h
theorem ltS_irrefl (a : Str) : ¬ ltS a a := List.lt_irrefl _
theorem ltS_trans {a b c : Str} (h1 : ltS a b) (h2 : ltS b c) : ltS a c := List.lt_trans h1 h2
theorem ltS_asymm {a b : Str} (h : ltS a b) : ¬ ltS b a := fun q => ltS_irrefl a (ltS_trans h q)
theorem ltS_tri {a b : Str} (h : a ≠ b) : ltS a b ∨ ltS b a := by
  by_cases q : ltS a b
  · exact .inl q
  · refine .inr ?_
    have h1 : b.cps.toList ≤ a.cps.toList := List.not_lt.mp q
    by_cases q2 : ltS b a
    · exact q2
    · have h2 : a.cps.toList ≤ b.cps.toList := List.not_lt.mp q2
      exact absurd (str_ext (List.le_antisymm h2 h1)) h
def leSb (a b : Str) : Bool := decide (a.cps.toList ≤ b.cps.toList)
def sortS (xs : List Str) : List Str := xs.mergeSort leSb
theorem le_str (a b : Str) : PySem.W.dataLe false toD (.str a) (.str b) = leSb a b := by
  show (!PySem.W.dataLt (.str b) (.str a)) = _
  rw [PySem.W.dataLt_str, PySem.W.not_lt_str]; rfl
theorem sortT_strs (xs : List Str) : sortT (sT xs) = sT (sortS xs) :=
  (List.map_mergeSort (f := T.str) fun a _ b _ => (le_str a b).symm).symm
theorem leSb_iff {a b : Str} : leSb a b = true ↔ a = b ∨ ltS a b := by
  unfold leSb
  rw [decide_eq_true_eq]
  constructor
  · intro h
    by_cases e : a = b
    · exact .inl e
    · rcases ltS_tri e with q | q
      · exact .inr q
      · exact absurd q (List.not_lt.mpr h)
  · rintro (rfl | h)
    · exact List.le_refl _
    · exact List.le_of_lt h
theorem leSb_trans (a b c : Str) (h1 : leSb a b = true) (h2 : leSb b c = true) : leSb a c = true := by
  rw [leSb_iff] at *
  rcases h1 with rfl | h1
  · exact h2
  · rcases h2 with rfl | h2
    · exact .inr h1
    · exact .inr (ltS_trans h1 h2)
theorem leSb_total (a b : Str) : (leSb a b || leSb b a) = true := by
  rw [Bool.or_eq_true, leSb_iff, leSb_iff]
  by_cases e : a = b
  · exact .inl (.inl e)
  · exact (ltS_tri e).imp .inr .inr
/-- strictly sorted -/
abbrev Srt (xs : List Str) : Prop := xs.Pairwise ltS
theorem sortS_perm (xs : List Str) : (sortS xs).Perm xs := List.mergeSort_perm _ _
theorem sortS_mem {xs : List Str} {a : Str} : a ∈ sortS xs ↔ a ∈ xs := (sortS_perm xs).mem_iff
theorem sortS_srt {xs : List Str} (nd : xs.Nodup) : Srt (sortS xs) := by
  have h1 := List.pairwise_mergeSort (le := leSb) leSb_trans (fun a b => leSb_total a b) xs
  have h2 : (sortS xs).Nodup := (sortS_perm xs).nodup_iff.mpr nd
  exact (List.pairwise_and_iff.mpr ⟨h1, h2⟩).imp fun {a b} ⟨q1, q2⟩ => (leSb_iff.mp q1).resolve_left q2
theorem Srt.nodup {xs : List Str} (h : Srt xs) : xs.Nodup := h.imp fun {a b} q e => by subst e; exact ltS_irrefl _ q
/-- strictly sorted lists of the same members are one -/
theorem pw_ext {α : Type} {R : α → α → Prop} (irr : ∀ a, ¬ R a a) (asy : ∀ a b, R a b → ¬ R b a) : ∀ {l m : List α}, l.Pairwise R → m.Pairwise R → (∀ x, x ∈ l ↔ x ∈ m) → l = m
  | [], [], _, _, _ => rfl
  | [], y :: m, _, _, h => by have := (h y).mpr List.mem_cons_self; cases this
  | x :: l, [], _, _, h => by have := (h x).mp List.mem_cons_self; cases this
  | x :: l, y :: m, hl, hm, h => by
    rw [List.pairwise_cons] at hl hm
    have e : x = y := by
      rcases List.mem_cons.mp ((h x).mp List.mem_cons_self) with e | hx
      · exact e
      · rcases List.mem_cons.mp ((h y).mpr List.mem_cons_self) with e | hy
        · exact e.symm
        · exact absurd (hm.1 x hx) (asy _ _ (hl.1 y hy))
    subst e
    rw [pw_ext irr asy hl.2 hm.2 fun z => ?_]
    constructor
    · intro hz
      rcases List.mem_cons.mp ((h z).mp (List.mem_cons_of_mem _ hz)) with e | q
      · subst e; exact absurd (hl.1 z hz) (irr z)
      · exact q
    · intro hz
      rcases List.mem_cons.mp ((h z).mpr (List.mem_cons_of_mem _ hz)) with e | q
      · subst e; exact absurd (hm.1 z hz) (irr z)
      · exact q
theorem srt_ext {l m : List Str} (hl : Srt l) (hm : Srt m) (h : ∀ x, x ∈ l ↔ x ∈ m) : l = m := pw_ext ltS_irrefl (fun _ _ => ltS_asymm) hl hm h
/-- sorted(texts) as the rules ask -/
theorem srtd_strs (xs : List Str) (hz : xs.length ≤ sizeLine) : (∀ t ∈ sT xs, isD t = true ∧ (toD t).depth ≤ 8) ∧ PySem.W.AllAlike ((sT xs).map toD) ∧ PySem.W.Sortable ((sT xs).map toD) ∧ (sT xs).length ≤ sizeLine := by
  refine ⟨fun t ht => ?_, fun d hd d' hd' => ?_, .inr fun d hd => ?_, by rw [List.length_map]; exact hz⟩
  · obtain ⟨x, _, rfl⟩ := List.mem_map.mp ht
    exact ⟨rfl, Nat.zero_le _⟩
  · rw [List.map_map] at hd hd'
    obtain ⟨x, _, rfl⟩ := List.mem_map.mp hd
    obtain ⟨y, _, rfl⟩ := List.mem_map.mp hd'
    rfl
  · rw [List.map_map] at hd
    obtain ⟨x, _, rfl⟩ := List.mem_map.mp hd
    exact ⟨(by intro e; cases e), fun xs e => by cases e⟩
/-! ### numbers -/
def leIb (a b : Int) : Bool := decide (a ≤ b)
def sortI (xs : List Int) : List Int := xs.mergeSort leIb
theorem le_int (a b : Int) : PySem.W.dataLe false toD (.int a) (.int b) = leIb a b := by
  show (!PySem.W.dataLt (.int b) (.int a)) = _
  rw [PySem.W.dataLt_int, PySem.W.not_lt_int]; rfl
theorem sortT_ints (xs : List Int) : sortT (xs.map T.int) = (sortI xs).map T.int :=
  (List.map_mergeSort (f := T.int) fun a _ b _ => (le_int a b).symm).symm
theorem sortI_perm (xs : List Int) : (sortI xs).Perm xs := List.mergeSort_perm _ _
theorem srtd_ints (xs : List Int) (hz : xs.length ≤ sizeLine) : (∀ t ∈ xs.map T.int, isD t = true ∧ (toD t).depth ≤ 8) ∧ PySem.W.AllAlike ((xs.map T.int).map toD) ∧ PySem.W.Sortable ((xs.map T.int).map toD) ∧ (xs.map T.int).length ≤ sizeLine := by
  refine ⟨fun t ht => ?_, fun d hd d' hd' => ?_, .inr fun d hd => ?_, by rw [List.length_map]; exact hz⟩
  · obtain ⟨x, _, rfl⟩ := List.mem_map.mp ht
    exact ⟨rfl, Nat.zero_le _⟩
  · rw [List.map_map] at hd hd'
    obtain ⟨x, _, rfl⟩ := List.mem_map.mp hd
    obtain ⟨y, _, rfl⟩ := List.mem_map.mp hd'
    rfl
  · rw [List.map_map] at hd
    obtain ⟨x, _, rfl⟩ := List.mem_map.mp hd
    exact ⟨(by intro e; cases e), fun xs e => by cases e⟩
/-! ### sets: first by the first item that differs -/
def lexB : List Str → List Str → Bool
  | [], [] => false
  | [], _ :: _ => true
  | _ :: _, [] => false
  | x :: xs, y :: ys => if x = y then lexB xs ys else decide (ltS x y)
theorem toDs_strs : ∀ xs : List Str, toDs (sT xs) = xs.map PyData.str
  | [] => rfl
  | x :: xs => by rw [sT, List.map_cons, toDs, toDs_strs xs]; rfl
theorem alike_strs : ∀ xs ys : List Str, PySem.W.alikeAll (xs.map .str) (ys.map .str) = true
  | [], _ => by simp [PySem.W.alikeAll]
  | _ :: _, [] => by simp [PySem.W.alikeAll]
  | x :: xs, y :: ys => by
    show PySem.W.alikeAll (.str x :: xs.map .str) (.str y :: ys.map .str) = true
    rw [PySem.W.alikeAll, alike_strs xs ys]
    simp [PySem.W.alike]
theorem rowLt_strs : ∀ xs ys : List Str, PyProof.Rows.lexLt PyProof.Rows.itemOrd (PySem.W.keyToksAll (xs.map .str)) (PySem.W.keyToksAll (ys.map .str)) = lexB xs ys
  | [], [] => by rw [List.map_nil]; exact PyProof.Rows.lex_irrefl _
  | [], y :: ys => by
    rw [List.map_nil, List.map_cons, PySem.W.toks_all_cons]
    simp only [PySem.W.keyToksAll]
    rw [PyProof.Rows.lex_diff (O := PyProof.Rows.itemOrd) (by simp)]
    rfl
  | x :: xs, [] => by
    rw [List.map_nil, List.map_cons, PySem.W.toks_all_cons]
    simp only [PySem.W.keyToksAll]
    rw [PyProof.Rows.lex_diff (O := PyProof.Rows.itemOrd) (by simp)]
    rfl
  | x :: xs, y :: ys => by
    rw [List.map_cons, List.map_cons, PySem.W.dataLt_cons (by simp [PySem.W.alike]), rowLt_strs xs ys, PySem.W.dataLt_str]
    have e : PyData.eqv (.str x) (.str y) = decide (x = y) := by rw [PyData.eqv]; by_cases h : x = y <;> simp [h]
    rw [e]
    show _ = if x = y then lexB xs ys else decide (ltS x y)
    by_cases h : x = y
    · simp [h]
    · simp [h]; rfl
theorem lt_set (a b : List Str) : PySem.W.dataLt (toD (SetT a)) (toD (SetT b)) = lexB a b := by
  show PySem.W.dataLt (.tuple (toDs (sT a))) (.tuple (toDs (sT b))) = _
  rw [PySem.W.dataLt_tuple, toDs_strs, toDs_strs, rowLt_strs]
theorem lexB_irrefl : ∀ a : List Str, lexB a a = false
  | [] => rfl
  | x :: xs => by unfold lexB; rw [if_pos rfl]; exact lexB_irrefl xs
theorem lexB_trans : ∀ {a b c : List Str}, lexB a b = true → lexB b c = true → lexB a c = true
  | [], [], _, h, _ => by simp [lexB] at h
  | [], _ :: _, [], _, h => by simp [lexB] at h
  | [], _ :: _, _ :: _, _, _ => rfl
  | _ :: _, [], _, h, _ => by simp [lexB] at h
  | _ :: _, _ :: _, [], _, h => by simp [lexB] at h
  | x :: xs, y :: ys, z :: zs, h1, h2 => by
    unfold lexB at h1 h2 ⊢
    by_cases e1 : x = y
    · subst e1
      rw [if_pos rfl] at h1
      by_cases e2 : x = z
      · subst e2
        rw [if_pos rfl] at h2 ⊢
        exact lexB_trans h1 h2
      · rw [if_neg e2] at h2 ⊢; exact h2
    · rw [if_neg e1] at h1
      have h1 := of_decide_eq_true h1
      by_cases e2 : y = z
      · subst e2
        rw [if_neg e1]; exact decide_eq_true h1
      · rw [if_neg e2] at h2
        have h3 := ltS_trans h1 (of_decide_eq_true h2)
        rw [if_neg (fun e => by subst e; exact ltS_irrefl _ h3)]
        exact decide_eq_true h3
theorem lexB_tri : ∀ {a b : List Str}, a ≠ b → lexB a b = true ∨ lexB b a = true
  | [], [], h => absurd rfl h
  | [], _ :: _, _ => .inl rfl
  | _ :: _, [], _ => .inr rfl
  | x :: xs, y :: ys, h => by
    unfold lexB
    by_cases e : x = y
    · subst e
      rw [if_pos rfl, if_pos rfl]
      exact lexB_tri fun q => h (by rw [q])
    · rw [if_neg e, if_neg (fun q => e q.symm)]
      exact (ltS_tri e).imp decide_eq_true decide_eq_true
/-- fewer first, then by the first that differs -/
def ltKb (a b : List Str) : Bool := if a.length = b.length then lexB a b else decide (a.length < b.length)
abbrev ltK (a b : List Str) : Prop := ltKb a b = true
theorem ltK_irrefl (a : List Str) : ¬ ltK a a := by unfold ltK ltKb; rw [if_pos rfl, lexB_irrefl]; decide
theorem ltK_trans {a b c : List Str} (h1 : ltK a b) (h2 : ltK b c) : ltK a c := by
  unfold ltK ltKb at *
  by_cases e1 : a.length = b.length
  · by_cases e2 : b.length = c.length
    · rw [if_pos e1] at h1; rw [if_pos e2] at h2; rw [if_pos (e1.trans e2)]
      exact lexB_trans h1 h2
    · rw [if_neg e2] at h2; rw [if_neg (by omega)]
      have := of_decide_eq_true h2; exact decide_eq_true (by omega)
  · rw [if_neg e1] at h1
    have h1 := of_decide_eq_true h1
    by_cases e2 : b.length = c.length
    · rw [if_neg (by omega)]; exact decide_eq_true (by omega)
    · rw [if_neg e2] at h2
      have := of_decide_eq_true h2
      rw [if_neg (by omega)]; exact decide_eq_true (by omega)
theorem ltK_asymm {a b : List Str} (h : ltK a b) : ¬ ltK b a := fun q => ltK_irrefl a (ltK_trans h q)
theorem ltK_tri {a b : List Str} (h : a ≠ b) : ltK a b ∨ ltK b a := by
  unfold ltK ltKb
  by_cases e : a.length = b.length
  · rw [if_pos e, if_pos e.symm]; exact lexB_tri h
  · rw [if_neg e, if_neg (fun q => e q.symm)]
    rcases Nat.lt_or_gt_of_ne e with q | q
    · exact .inl (decide_eq_true q)
    · exact .inr (decide_eq_true q)
theorem srtK_ext {l m : List (List Str)} (hl : l.Pairwise ltK) (hm : m.Pairwise ltK) (h : ∀ x, x ∈ l ↔ x ∈ m) : l = m := pw_ext ltK_irrefl (fun _ _ => ltK_asymm) hl hm h
/-- sorting under a total order that is given by its < -/
theorem srt_gen {α : Type} {lt : α → α → Bool} (irr : ∀ a, lt a a = false) (tr : ∀ a b c, lt a b = true → lt b c = true → lt a c = true) (tri : ∀ a b, a ≠ b → lt a b = true ∨ lt b a = true) {xs : List α} (nd : xs.Nodup) :
    (xs.mergeSort fun a b => !lt b a).Pairwise (fun a b => lt a b = true) := by
  have le_iff : ∀ a b, (!lt b a) = true ↔ a = b ∨ lt a b = true := fun a b => by
    constructor
    · intro h
      by_cases e : a = b
      · exact .inl e
      · rcases tri a b e with q | q
        · exact .inr q
        · rw [q] at h; cases h
    · rintro (rfl | h)
      · rw [irr]; rfl
      · cases q : lt b a with
        | false => rfl
        | true => have := tr _ _ _ h q; rw [irr] at this; cases this
  have h1 := List.pairwise_mergeSort (le := fun a b => !lt b a) (fun a b c p q => by
    rw [le_iff] at *
    rcases p with rfl | p
    · exact q
    · rcases q with rfl | q
      · exact .inr p
      · exact .inr (tr _ _ _ p q)) (fun a b => by
    rw [Bool.or_eq_true, le_iff, le_iff]
    by_cases e : a = b
    · exact .inl (.inl e)
    · exact (tri _ _ e).imp .inr .inr) xs
  have h2 : (xs.mergeSort fun a b => !lt b a).Nodup := (List.mergeSort_perm xs _).nodup_iff.mpr nd
  exact (List.pairwise_and_iff.mpr ⟨h1, h2⟩).imp fun {a b} ⟨q1, q2⟩ => ((le_iff a b).mp q1).resolve_left q2
def sortK (L : List (List Str)) : List (List Str) := L.mergeSort fun a b => !ltKb b a
theorem sortK_perm (L : List (List Str)) : (sortK L).Perm L := List.mergeSort_perm _ _
theorem sortK_srt {L : List (List Str)} (nd : L.Nodup) : (sortK L).Pairwise ltK :=
  srt_gen (lt := ltKb) (fun a => by have := ltK_irrefl a; simpa using this) (fun _ _ _ => ltK_trans) (fun _ _ => ltK_tri) nd
def sortX (L : List (List Str)) : List (List Str) := L.mergeSort fun a b => !lexB b a
theorem sortX_perm (L : List (List Str)) : (sortX L).Perm L := List.mergeSort_perm _ _
theorem sortX_srt {L : List (List Str)} (nd : L.Nodup) : (sortX L).Pairwise (fun a b => lexB a b = true) :=
  srt_gen (lt := lexB) lexB_irrefl (fun _ _ _ => lexB_trans) (fun _ _ => lexB_tri) nd
theorem eqv_strs : ∀ a b : List Str, PyData.eqvAll (a.map .str) (b.map .str) = decide (a = b)
  | [], [] => by simp [PyData.eqvAll]
  | [], _ :: _ => by simp [PyData.eqvAll]
  | _ :: _, [] => by simp [PyData.eqvAll]
  | x :: xs, y :: ys => by
    rw [List.map_cons, List.map_cons, PySem.W.eqv_all_cons, eqv_strs xs ys]
    have e : PyData.eqv (.str x) (.str y) = decide (x = y) := by rw [PyData.eqv]; by_cases h : x = y <;> simp [h]
    rw [e]
    by_cases h1 : x = y <;> by_cases h2 : xs = ys <;> simp [h1, h2]
theorem eqv_set (a b : List Str) : PyData.eqv (toD (SetT a)) (toD (SetT b)) = decide (a = b) := by
  show PyData.eqv (.tuple (toDs (sT a))) (.tuple (toDs (sT b))) = _
  rw [toDs_strs, toDs_strs, PyData.eqv, eqv_strs]
def lenT (x : List Str) : T := .tup [.int x.length, SetT x]
theorem le_lenT (a b : List Str) : PySem.W.dataLe false toD (lenT a) (lenT b) = !ltKb b a := by
  show (!PySem.W.dataLt (.tuple [.int b.length, toD (SetT b)]) (.tuple [.int a.length, toD (SetT a)])) = _
  have al : PySem.W.alike (toD (SetT b)) (toD (SetT a)) = true := by
    show PySem.W.alike (.tuple (toDs (sT b))) (.tuple (toDs (sT a))) = true
    rw [toDs_strs, toDs_strs, PySem.W.alike]; exact alike_strs _ _
  rw [PySem.W.dataLt_pair (by simp [PySem.W.alike]) al, eqv_set, lt_set, PySem.W.dataLt_int]
  have e : PyData.eqv (.int (b.length : Int)) (.int (a.length : Int)) = decide (b.length = a.length) := by
    simp only [PyData.eqv]
    by_cases h : b.length = a.length
    · simp [h]
    · have : ¬ (b.length : Int) = a.length := by omega
      simp [h, this]
  rw [e]
  unfold ltKb
  by_cases h : b.length = a.length
  · simp only [h, decide_true, if_true]
    by_cases h2 : b = a
    · subst h2; simp [lexB_irrefl]
    · simp [h2]
  · simp [h]
theorem sortT_lens (L : List (List Str)) : sortT (L.map lenT) = (sortK L).map lenT :=
  (List.map_mergeSort (f := lenT) fun a _ b _ => (le_lenT a b).symm).symm
theorem le_setT (a b : List Str) : PySem.W.dataLe false toD (SetT a) (SetT b) = !lexB b a := by
  show (!PySem.W.dataLt (toD (SetT b)) (toD (SetT a))) = _
  rw [lt_set]
theorem sortT_sets (L : List (List Str)) : sortT (L.map SetT) = (sortX L).map SetT :=
  (List.map_mergeSort (f := SetT) fun a _ b _ => (le_setT a b).symm).symm
theorem isDs_strs : ∀ xs : List Str, isDs (sT xs) = true
  | [] => rfl
  | x :: xs => by show (isD (.str x) && isDs (sT xs)) = true; rw [isDs_strs xs]; rfl
theorem depth_strs : ∀ xs : List Str, PyData.depthAll (xs.map PyData.str) = 0
  | [] => by simp [PyData.depthAll]
  | x :: xs => by rw [List.map_cons, PyData.depthAll, depth_strs xs]; simp [PyData.depth]
theorem isD_set (x : List Str) : isD (SetT x) = true := isDs_strs x
theorem depth_set (x : List Str) : (toD (SetT x)).depth ≤ 1 := by
  show (PyData.tuple (toDs (sT x))).depth ≤ 1
  rw [toDs_strs, PyData.depth, depth_strs]
  exact Nat.le_refl _
theorem srtd_lens (L : List (List Str)) (hz : L.length ≤ sizeLine) : (∀ t ∈ L.map lenT, isD t = true ∧ (toD t).depth ≤ 8) ∧ PySem.W.AllAlike ((L.map lenT).map toD) ∧ PySem.W.Sortable ((L.map lenT).map toD) ∧ (L.map lenT).length ≤ sizeLine := by
  refine ⟨fun t ht => ?_, fun d hd d' hd' => ?_, .inl fun d hd => ?_, by rw [List.length_map]; exact hz⟩
  · obtain ⟨x, _, rfl⟩ := List.mem_map.mp ht
    refine ⟨?_, ?_⟩
    · show (isD (.int x.length) && (isD (SetT x) && true)) = true
      rw [isD_set]; rfl
    · show (PyData.tuple [.int x.length, toD (SetT x)]).depth ≤ 8
      have := depth_set x
      simp only [PyData.depth, PyData.depthAll]
      omega
  · rw [List.map_map] at hd hd'
    obtain ⟨x, _, rfl⟩ := List.mem_map.mp hd
    obtain ⟨y, _, rfl⟩ := List.mem_map.mp hd'
    show PySem.W.alike (.tuple [.int x.length, .tuple (toDs (sT x))]) (.tuple [.int y.length, .tuple (toDs (sT y))]) = true
    rw [toDs_strs, toDs_strs]
    simp [PySem.W.alike, PySem.W.alikeAll, alike_strs]
  · rw [List.map_map] at hd
    obtain ⟨x, _, rfl⟩ := List.mem_map.mp hd
    exact ⟨_, _, rfl⟩
theorem srtd_sets (L : List (List Str)) (hn : ∀ x ∈ L, x ≠ []) (hz : L.length ≤ sizeLine) : (∀ t ∈ L.map SetT, isD t = true ∧ (toD t).depth ≤ 8) ∧ PySem.W.AllAlike ((L.map SetT).map toD) ∧ PySem.W.Sortable ((L.map SetT).map toD) ∧ (L.map SetT).length ≤ sizeLine := by
  refine ⟨fun t ht => ?_, fun d hd d' hd' => ?_, .inl fun d hd => ?_, by rw [List.length_map]; exact hz⟩
  · obtain ⟨x, _, rfl⟩ := List.mem_map.mp ht
    exact ⟨isD_set x, by have := depth_set x; omega⟩
  · rw [List.map_map] at hd hd'
    obtain ⟨x, _, rfl⟩ := List.mem_map.mp hd
    obtain ⟨y, _, rfl⟩ := List.mem_map.mp hd'
    show PySem.W.alike (.tuple (toDs (sT x))) (.tuple (toDs (sT y))) = true
    rw [toDs_strs, toDs_strs, PySem.W.alike]
    exact alike_strs _ _
  · rw [List.map_map] at hd
    obtain ⟨x, hx, rfl⟩ := List.mem_map.mp hd
    cases x with
    | nil => exact absurd rfl (hn _ hx)
    | cons a r => exact ⟨.str a, toDs (sT r), rfl⟩
end TL
/-! The tree logic: append, extend (by a list, by a tuple), pop as calls. -/
namespace TL
open PySem PySem.Spec PyProof.Rows L2

theorem ext_tup (l : Addr) (items : Array Value) (n : Nat) (b : Addr) (items2 : Array Value) (hs0 : ¬(!items.isEmpty && Builtin.List.listTooLong (items.size + items2.size)) = true) (hs1 : items.size ≤ sizeLine) (hs2 : items.size + items2.size ≤ sizeLine + 1) :
    Meets (Builtin.«list.extend» ⟨[.ref l, .ref b], []⟩) (fun _ R s => s.heap.get? l = some { cls := .type "list", dict := none, data := .seq items n, slots := #[] } ∧ s.heap.IsTuple b items2 ∧ R (.ok (.ret Value.none)) { s with heap := s.heap.update l (Obj.mapSeq fun x => x ++ items2), toks := s.toks }) :=
  .of_wp fun prog w A R s h => by
    obtain ⟨hp, g, d, tk, os⟩ := s; obtain ⟨hl, hb, h⟩ := h
    have f2 := AutoSeq1.sub_tuple_tuple; have f3 := AutoSeq1.sub_list_list; have f4 := AutoSeq1.sub_tuple_list; have f5 := AutoSeq1.sub_list_tuple
    obtain ⟨⟨c, dct, dt, sl⟩, hb, hc, n2, hd⟩ := hb
    replace hc : c = .type "tuple" := hc
    replace hd : dt = .seq items2 n2 := hd
    subst hc hd
    have hz' : (items ++ items2).size ≤ sizeLine + 1 := by rw [Array.size_append]; exact hs2
    wp_walk using (wpAny_updateSeq hl rfl (hz := hs1) (_hz' := hz')), AutoSeq1.wpAny_loadPart' hl, AutoSeq1.wpAny_loadPart' hb; exact ⟨_, rfl, h⟩
section
variable {g : G} {k : Nat} {S : Sx} {ρ : Rho} {O : Store} {pos : Pos}
theorem mt_extendT {X : Cx} : MtR X "list.extend" (fun x vs H Q => ∃ l b xs zs, x = .ref l ∧ vs = [.ref b] ∧ H l = some (.lst xs) ∧ H b = some (.tup zs) ∧ xs.length + zs.length ≤ sizeLine ∧ Q .non (upd H l (.lst (xs ++ zs)))) := by
  intro pins s σ H x vs v us Q I rx rv h
  obtain ⟨l, b, xs, zs, rfl, rfl, hH, hB, hz, q⟩ := h
  cases rx
  obtain ⟨u, rfl, ru⟩ := vals1 rv
  cases ru
  obtain ⟨z, its, n, r, hl, e⟩ := I.lstM hH
  obtain ⟨its2, r2, e2⟩ := tup_at I.hok hB
  have hl2 := r2.length
  have hsz : its.toArray.size + its2.toArray.size ≤ sizeLine := by rw [List.size_toArray, List.size_toArray]; omega
  have hlong : ¬ (!its.toArray.isEmpty && Builtin.List.listTooLong (its.toArray.size + its2.toArray.size)) = true := by
    rw [notLongL hsz, Bool.and_false]
    exact Bool.false_ne_true
  refine call_meets F.slot_list_extend ⟨_, e, rfl⟩ F.entry_list_extend (F.args_list_extend_2 _ _) (ext_tup l its.toArray n b its2.toArray hlong (by rw [List.size_toArray]; omega) (by omega)) ⟨e, e2, ?_⟩
  refine ⟨.non, _, I.lset (its' := its ++ its2) hH e (by simp) (r.append r2) ?_, rfl, q⟩
  rw [List.length_append]
  omega
theorem m_extendT : BMt g k "list.extend" (fun x us O Q => ∃ a xs ts, x = .cell a ∧ us = [.t (.tup ts)] ∧ O a = some (.lst xs) ∧ xs.length + ts.length ≤ sizeLine ∧ Q (.t .non) (sup O a (.lst (xs ++ ts.map Vl.t)))) :=
  fun X S A => ⟨_, mt_extendT, fun F H O x xs v vs Q Qc c rx rs hq ⟨a, us, ts, e1, e2, ea, hz, q⟩ => by
    subst e1 e2
    have rx : v = .ref a := rx
    subst rx
    obtain ⟨y, rfl, ry⟩ := vreps1 rs
    obtain ⟨b, zs, rfl, eb, rb⟩ := vrep_tup ry
    obtain ⟨_, o, ho, ws, rfl, rv⟩ := c.cell a _ ea
    obtain ⟨c', s'⟩ := c.write (o := .lst (ws ++ zs)) (y := .lst (us ++ ts.map Vl.t)) ea ⟨_, rfl, paired_app rv rb.vreps⟩
    exact ⟨a, b, ws, zs, rfl, rfl, ho, c.sub _ _ eb, by rw [← rv.length, ← rb.length]; exact hz, hq (.t .non) _ _ _ _ s' c' Rep.non q⟩⟩
/-- o.append(e) -/
theorem app {o e : Expr} {apos cpos : Pos} {Q : Vl → Store → Prop}
    (h : W g k S ρ O o fun u O1 => ∃ a, u = .cell a ∧ (∃ xs, O1 a = some (.lst xs)) ∧ W g k S ρ O1 e fun v O2 => ∃ xs, O2 a = some (.lst xs) ∧ xs.length < sizeLine ∧ Q (.t .non) (sup O2 a (.lst (xs ++ [v]))))
    (ha : AOk [e] := by exact ⟨fun _ => rfl, True.intro⟩) (hbase : ∀ env, attributeBase o "append" env (eval o env) = eval o env := by intro _; rfl) (hline : (apos.endLine == cpos.line) = true := by rfl)
    (hfew : ∀ env, ((backTo cpos (starEach [e] env)).all (fun x => !x.1) && (backToKw cpos (keywordEach [] env)).all (fun x => x.1.isSome) && decide (([e] : List Expr).length + ([] : List Keyword).length + (if ([] : List Keyword).isEmpty then 0 else 1) < 30)) = true := by intro _; rfl) : W g k S ρ O (.Call (.Attribute o "append" apos) [e] [] cpos) Q :=
  w_lmeth F.slot_list_append F.type_list_append m_append ha hbase hline hfew (W.mono h fun u O1 ⟨a, e1, hx, q⟩ => ⟨a, e1, hx, W.mono q fun v O2 ⟨xs, e2, hl, q2⟩ => ⟨a, xs, v, e1, rfl, e2, hl, q2⟩⟩)
/-- o.extend(e), e a list or a tuple -/
theorem ext {o e : Expr} {apos cpos : Pos} {Q : Vl → Store → Prop}
    (h : W g k S ρ O o fun u O1 => ∃ a, u = .cell a ∧ (∃ xs, O1 a = some (.lst xs)) ∧ W g k S ρ O1 e fun v O2 => ∃ xs ts, v = .t (.lst ts) ∧ O2 a = some (.lst xs) ∧ xs.length + ts.length ≤ sizeLine ∧ Q (.t .non) (sup O2 a (.lst (xs ++ ts.map Vl.t))))
    (ha : AOk [e] := by exact ⟨fun _ => rfl, True.intro⟩) (hbase : ∀ env, attributeBase o "extend" env (eval o env) = eval o env := by intro _; rfl) (hline : (apos.endLine == cpos.line) = true := by rfl)
    (hfew : ∀ env, ((backTo cpos (starEach [e] env)).all (fun x => !x.1) && (backToKw cpos (keywordEach [] env)).all (fun x => x.1.isSome) && decide (([e] : List Expr).length + ([] : List Keyword).length + (if ([] : List Keyword).isEmpty then 0 else 1) < 30)) = true := by intro _; rfl) : W g k S ρ O (.Call (.Attribute o "extend" apos) [e] [] cpos) Q :=
  w_lmeth F.slot_list_extend F.type_list_extend m_extend ha hbase hline hfew (W.mono h fun u O1 ⟨a, e1, hx, q⟩ => ⟨a, e1, hx, W.mono q fun v O2 ⟨xs, ts, ev, e2, hl, q2⟩ => ⟨a, xs, ts, e1, by rw [ev], e2, hl, q2⟩⟩)
theorem extT {o e : Expr} {apos cpos : Pos} {Q : Vl → Store → Prop}
    (h : W g k S ρ O o fun u O1 => ∃ a, u = .cell a ∧ (∃ xs, O1 a = some (.lst xs)) ∧ W g k S ρ O1 e fun v O2 => ∃ xs ts, v = .t (.tup ts) ∧ O2 a = some (.lst xs) ∧ xs.length + ts.length ≤ sizeLine ∧ Q (.t .non) (sup O2 a (.lst (xs ++ ts.map Vl.t))))
    (ha : AOk [e] := by exact ⟨fun _ => rfl, True.intro⟩) (hbase : ∀ env, attributeBase o "extend" env (eval o env) = eval o env := by intro _; rfl) (hline : (apos.endLine == cpos.line) = true := by rfl)
    (hfew : ∀ env, ((backTo cpos (starEach [e] env)).all (fun x => !x.1) && (backToKw cpos (keywordEach [] env)).all (fun x => x.1.isSome) && decide (([e] : List Expr).length + ([] : List Keyword).length + (if ([] : List Keyword).isEmpty then 0 else 1) < 30)) = true := by intro _; rfl) : W g k S ρ O (.Call (.Attribute o "extend" apos) [e] [] cpos) Q :=
  w_lmeth F.slot_list_extend F.type_list_extend m_extendT ha hbase hline hfew (W.mono h fun u O1 ⟨a, e1, hx, q⟩ => ⟨a, e1, hx, W.mono q fun v O2 ⟨xs, ts, ev, e2, hl, q2⟩ => ⟨a, xs, ts, e1, by rw [ev], e2, hl, q2⟩⟩)
/-- o.pop(e) -/
theorem pop {o e : Expr} {apos cpos : Pos} {Q : Vl → Store → Prop}
    (h : W g k S ρ O o fun u O1 => ∃ a, u = .cell a ∧ (∃ xs, O1 a = some (.lst xs)) ∧ W g k S ρ O1 e fun v O2 => ∃ xs i j u, v = .t (.int i) ∧ O2 a = some (.lst xs) ∧ -(2 ^ 63) ≤ i ∧ i < 2 ^ 63 ∧ seqIndex? i xs.length = some j ∧ xs[j]? = some u ∧ Q u (sup O2 a (.lst (xs.eraseIdx j))))
    (ha : AOk [e] := by exact ⟨fun _ => rfl, True.intro⟩) (hbase : ∀ env, attributeBase o "pop" env (eval o env) = eval o env := by intro _; rfl) (hline : (apos.endLine == cpos.line) = true := by rfl)
    (hfew : ∀ env, ((backTo cpos (starEach [e] env)).all (fun x => !x.1) && (backToKw cpos (keywordEach [] env)).all (fun x => x.1.isSome) && decide (([e] : List Expr).length + ([] : List Keyword).length + (if ([] : List Keyword).isEmpty then 0 else 1) < 30)) = true := by intro _; rfl) : W g k S ρ O (.Call (.Attribute o "pop" apos) [e] [] cpos) Q :=
  w_lmeth F.slot_list_pop F.type_list_pop m_pop ha hbase hline hfew (W.mono h fun u O1 ⟨a, e1, hx, q⟩ => ⟨a, e1, hx, W.mono q fun v O2 ⟨xs, i, j, u, ev, e2, h1, h2, h3, h4, q2⟩ => ⟨a, xs, i, j, u, e1, by rw [ev], e2, h1, h2, h3, h4, q2⟩⟩)
end
end TL
/-! The tree logic: a name set to a comprehension on one line. -/
namespace TL
open PySem PySem.Spec PyProof.Rows L2
section
variable {g : G} {k : Nat} {S : Sx} {ρ : Rho} {O : Store} {pos : Pos}
theorem stLc {y : Str} (j : Nat) {py : Pos} {elt tg iter : Expr} {ifs : List Expr} {scope : Scope} (own : List (Str × Nat)) (is : List Nat) {D : TD}
    (h : WI g k S ρ O tg iter fun xs O1 => ∃ I : Nat → List Vl → Store → Prop, I 0 [] O1 ∧
      (∀ i u acc O2, xs[i]? = some u → I i acc O2 → acc.length ≤ i → ∃ ρ2, WG g k (S.blk scope) tg is u (wipR ρ (own.map (·.2))) ρ2 ∧ WT g k (S.blk scope) ρ2 O2 ifs fun b O3 =>
        if b = true then W g k (S.blk scope) ρ2 O3 elt fun y O4 => I (i + 1) (acc ++ [y]) O4 else I (i + 1) acc O3) ∧
      xs.length ≤ sizeLine ∧ ∀ acc O2, I xs.length acc O2 → (∃ ts : List T, acc = ts.map Vl.t ∧ D.nx (ρ.set j (some (.t (.lst ts)))) O2) ∨ (∀ d, O2 d = none → D.nx (ρ.set j (some (.cell d))) (sup O2 d (.lst acc))))
    {spos : Pos} (ok : blkC S.N S.sc scope own = true := by decide +kernel) (his : ∀ i ∈ is, i ∈ own.map (·.2) := by decide)
    (hy : S.N[j]? = some y := by rfl) (hl : S.sc.names.lookup y = some .local := by rfl) (hk : S.sc.kind = .function := by rfl) (hln : (py.line == pos.line) = true := by rfl) (hsn : (scope.names.any fun (n, k) => n == y && (k == .local || k == .cell)) = false := by decide +kernel) (hf : ∀ env x, foldedSetIterable iter env x = pure x := by intro _ _; rfl) :
    W1 g k S ρ O (.Assign [.Name y py] (.ListComp elt [⟨tg, iter, ifs, 0⟩] scope pos) spos) D := w1_setLc own ok his hy hl hk hln hsn hf h
theorem stLcP {α : Type} {y : Str} (j : Nat) {py : Pos} {elt tg iter : Expr} {ifs : List Expr} {scope : Scope} (own : List (Str × Nat)) (is : List Nat) (enc : α → Vl) (p : α → Bool) (f : α → T) {D : TD}
    (h : WI g k S ρ O tg iter fun xs O1 => ∃ as : List α, xs = as.map enc ∧ as.length ≤ sizeLine ∧ (∀ a ∈ as, ∃ ρ2, WG g k (S.blk scope) tg is (enc a) (wipR ρ (own.map (·.2))) ρ2 ∧ WT g k (S.blk scope) ρ2 O1 ifs fun b O3 => b = p a ∧ O3 = O1 ∧ (b = true → W g k (S.blk scope) ρ2 O1 elt fun y O4 => y = .t (f a) ∧ O4 = O1)) ∧
      (D.nx (ρ.set j (some (.t (.lst ((as.filter p).map f))))) O1 ∨ ∀ d, O1 d = none → D.nx (ρ.set j (some (.cell d))) (sup O1 d (.lst (((as.filter p).map f).map Vl.t)))))
    {spos : Pos} (ok : blkC S.N S.sc scope own = true := by decide +kernel) (his : ∀ i ∈ is, i ∈ own.map (·.2) := by decide)
    (hy : S.N[j]? = some y := by rfl) (hl : S.sc.names.lookup y = some .local := by rfl) (hk : S.sc.kind = .function := by rfl) (hln : (py.line == pos.line) = true := by rfl) (hsn : (scope.names.any fun (n, k) => n == y && (k == .local || k == .cell)) = false := by decide +kernel) (hf : ∀ env x, foldedSetIterable iter env x = pure x := by intro _ _; rfl) :
    W1 g k S ρ O (.Assign [.Name y py] (.ListComp elt [⟨tg, iter, ifs, 0⟩] scope pos) spos) D := by
  refine stLc j own is (wi_mono h fun xs O1 ⟨as, hx, hl, hb, hq⟩ => ?_) ok his hy hl hk hln hsn hf
  subst hx
  refine ⟨fun i acc O2 => O2 = O1 ∧ acc = (((as.take i).filter p).map f).map Vl.t, ⟨rfl, by simp⟩, ?_, by rw [List.length_map]; exact hl, ?_⟩
  · rintro i u acc O2 hu ⟨rfl, rfl⟩ _
    obtain ⟨a, ha, rfl⟩ := map_get hu
    obtain ⟨ρ2, h1, h2⟩ := hb a (List.mem_of_getElem? ha)
    refine ⟨ρ2, h1, ?_⟩
    have fin : ∀ b O3, (b = p a ∧ O3 = O2 ∧ (b = true → W g k (S.blk scope) ρ2 O2 elt fun y O4 => y = .t (f a) ∧ O4 = O2)) → if b = true then W g k (S.blk scope) ρ2 O3 elt fun y O4 => O4 = O2 ∧ (((as.take i).filter p).map f).map Vl.t ++ [y] = (((as.take (i + 1)).filter p).map f).map Vl.t else O3 = O2 ∧ (((as.take i).filter p).map f).map Vl.t = (((as.take (i + 1)).filter p).map f).map Vl.t := by
      rintro b O3 ⟨rfl, rfl, h3⟩
      rw [filter_snoc ha]
      by_cases q : p a = true
      · rw [if_pos q, if_pos q]
        exact W.mono (h3 q) fun y O4 ⟨e1, e2⟩ => ⟨e2, by rw [e1]; simp⟩
      · rw [if_neg q, if_neg q]
        exact ⟨rfl, by simp⟩
    have mono : ∀ {ifs : List Expr} {Q Q' : Bool → Store → Prop}, (∀ b O, Q b O → Q' b O) → WT g k (S.blk scope) ρ2 O2 ifs Q → WT g k (S.blk scope) ρ2 O2 ifs Q' := by
      intro ifs Q Q' hh h
      match ifs, h with
      | [], h => exact hh _ _ h
      | [c], h => exact WB.mono h hh
      | _ :: _ :: _, h => exact h.elim
    exact mono fin h2
  · rintro acc O2 ⟨rfl, rfl⟩
    rw [List.length_map, List.take_length]
    rcases hq with q | q
    · exact .inl ⟨_, rfl, q⟩
    · exact .inr q
theorem stLcA {α : Type} {y : Str} (j : Nat) {py : Pos} {elt tg iter : Expr} {scope : Scope} (own : List (Str × Nat)) (is : List Nat) (enc : α → Vl) (f : α → T) {D : TD}
    (h : WI g k S ρ O tg iter fun xs O1 => ∃ as : List α, xs = as.map enc ∧ as.length ≤ sizeLine ∧ (∀ a ∈ as, ∃ ρ2, WG g k (S.blk scope) tg is (enc a) (wipR ρ (own.map (·.2))) ρ2 ∧ W g k (S.blk scope) ρ2 O1 elt fun y O4 => y = .t (f a) ∧ O4 = O1) ∧
      (D.nx (ρ.set j (some (.t (.lst (as.map f))))) O1 ∨ ∀ d, O1 d = none → D.nx (ρ.set j (some (.cell d))) (sup O1 d (.lst ((as.map f).map Vl.t)))))
    {spos : Pos} (ok : blkC S.N S.sc scope own = true := by decide +kernel) (his : ∀ i ∈ is, i ∈ own.map (·.2) := by decide)
    (hy : S.N[j]? = some y := by rfl) (hl : S.sc.names.lookup y = some .local := by rfl) (hk : S.sc.kind = .function := by rfl) (hln : (py.line == pos.line) = true := by rfl) (hsn : (scope.names.any fun (n, k) => n == y && (k == .local || k == .cell)) = false := by decide +kernel) (hf : ∀ env x, foldedSetIterable iter env x = pure x := by intro _ _; rfl) :
    W1 g k S ρ O (.Assign [.Name y py] (.ListComp elt [⟨tg, iter, [], 0⟩] scope pos) spos) D := by
  refine stLcP j own is enc (fun _ => true) f (wi_mono h fun xs O1 ⟨as, hx, hl, hb, hq⟩ => ⟨as, hx, hl, fun a ha => ?_, ?_⟩) ok his hy hl hk hln hsn hf
  · obtain ⟨ρ2, h1, h2⟩ := hb a ha
    exact ⟨ρ2, h1, rfl, rfl, fun _ => h2⟩
  · rw [List.filter_eq_self.mpr fun _ _ => rfl]
    exact hq
theorem wr1 {tg a : Expr} {p : Pos} {Q : List Vl → Store → Prop} (hm : g.mg "range" = none)
    (h : W g k S ρ O a fun u O1 => ∃ j : Int, u = .t (.int j) ∧ -(2 ^ 62) ≤ j ∧ j < 2 ^ 62 ∧ Q ((rng 0 j.toNat).map fun i => Vl.t (.int i)) O1) (hg : GlS S "range" := by rfl) (ha : AOk [a] := by exact ⟨fun _ => rfl, True.intro⟩) : WI g k S ρ O tg (.Call (.Name "range" p) [a] [] pos) Q := wi_range1 hg hm ha h
theorem wr2 {tg a b : Expr} {p : Pos} {Q : List Vl → Store → Prop} (hm : g.mg "range" = none)
    (h : W g k S ρ O a fun u O1 => ∃ i : Int, u = .t (.int i) ∧ W g k S ρ O1 b fun u O2 => ∃ j : Int, u = .t (.int j) ∧ (-(2 ^ 62) ≤ i ∧ i < 2 ^ 62 ∧ -(2 ^ 62) ≤ j ∧ j < 2 ^ 62) ∧ Q ((rng i (j - i).toNat).map fun i => Vl.t (.int i)) O2) (hg : GlS S "range" := by rfl) (ha : AOk [a, b] := by exact ⟨fun _ => rfl, fun _ => rfl, True.intro⟩) :
    WI g k S ρ O tg (.Call (.Name "range" p) [a, b] [] pos) Q := wi_range2 hg hm ha h
theorem wen {elts : List Expr} {kk : Nat} {tpos p : Pos} {e : Expr} {Q : List Vl → Store → Prop} (hm : g.mg "enumerate" = none)
    (h : W g k S ρ O e fun u O1 => ∃ xs : List T, (u = .t (.lst xs) ∨ u = .t (.tup xs)) ∧ Q (enumT xs) O1) (hg : GlS S "enumerate" := by rfl) (ha : AOk [e] := by exact ⟨fun _ => rfl, True.intro⟩) (hs : ∀ env, starEach [e] env = [(false, eval e env)] := by intro _; rfl) :
    WI g k S ρ O (.Tuple elts kk tpos) (.Call (.Name "enumerate" p) [e] [] pos) Q := wi_enum hg hm ha hs h
theorem wzp {elts : List Expr} {kk : Nat} {tpos p : Pos} {e e2 : Expr} {Q : List Vl → Store → Prop} (hm : g.mg "zip" = none)
    (h : WA g k S ρ [e, e2] O fun us O1 => ∃ xs ys : List T, (us = [.t (.lst xs), .t (.lst ys)] ∨ us = [.t (.tup xs), .t (.tup ys)]) ∧ xs.length = ys.length ∧ Q ((xs.zip ys).map fun p => Vl.t (.tup [p.1, p.2])) O1)
    (hg : GlS S "zip" := by rfl) (ha : AOk [e, e2] := by exact ⟨fun _ => rfl, fun _ => rfl, True.intro⟩) (hpl : ∀ env, (backTo pos (starEach [e2] env)).any (·.1) = false := by intro _; rfl) :
    WI g k S ρ O (.Tuple elts kk tpos) (.Call (.Name "zip" p) [e, e2] [] pos) Q := wi_zip hg hm ha hpl h
theorem vals {e : Expr} {p apos cpos : Pos} {Q : Vl → Store → Prop} (hm : g.mg "list" = none)
    (h : W g k S ρ O e fun u O1 => ∃ ks ts, u = .t (.dic ks ts) ∧ Q (.t (.lst ts)) O1) (hg : GlS S "list" := by rfl) (hbase : ∀ env, attributeBase e "values" env (eval e env) = eval e env := by intro _; rfl) (hline : (apos.endLine == cpos.line) = true := by rfl)
    (hs : ∀ env, starEach [.Call (.Attribute e "values" apos) [] [] cpos] env = (false, eval (.Call (.Attribute e "values" apos) [] [] cpos) env) :: starEach [] env := by intro _; rfl) : W g k S ρ O (.Call (.Name "list" p) [.Call (.Attribute e "values" apos) [] [] cpos] [] pos) Q := w_vals hg hm hbase hline hs h
theorem fld {e : Expr} {f : Str} {Q : Vl → Store → Prop}
    (h : W g k S ρ O e fun u O1 => ∃ C fs ts t, u = .t (.ins C fs ts) ∧ Cls g.K C ∧ NoAttr g.K C f ∧ (fs.zip ts).lookup f = some t ∧ Q (.t t) O1) (hb : ∀ env, attributeBase e f env (eval e env) = eval e env := by intro _; rfl) : W g k S ρ O (.Attribute e f pos) Q := w_fld hb h
theorem ix {a b : Expr} {tr} {Q : Vl → Store → Prop} (ho : BIx g k tr) (h : W g k S ρ O a fun x O1 => W g k S ρ O1 b fun y O2 => tr x y O2 Q) (hs : ∀ o i, subscripted b false o i = operate [o, i] (getItem o i) := by intro _ _; rfl) : W g k S ρ O (.Subscript a b pos) Q := w_ix ho h hs
theorem sx {e : Expr} {D : TD} (h : W g k S ρ O e fun _ O1 => D.nx ρ O1) (hs : ∀ env, swapsWith e none pos.line env = pure false := by intro _; rfl) : W1 g k S ρ O (.Expr e pos) D := w1_expr hs h
end
end TL
/-! The tree logic: data that == may be asked of; keys without repetitions; two names set at once. -/
namespace TL
open PySem PySem.Spec PyProof.Rows L2
/-- a text of signs that there are -/
def okS (x : Str) : Prop := (PyData.str x).canLay0 = true
abbrev clT (t : T) : Prop := (toD t).canLay0 = true
theorem okD_of {t : T} (h : isD t = true) (c : clT t) (d : (toD t).depth ≤ 64) : okD t = true := by
  unfold okD SeqAt.shaped
  rw [h, c, decide_eq_true d]; rfl
theorem clTs : ∀ {ts : List T}, PyData.canLayAll0 (toDs ts) = true ↔ ∀ t ∈ ts, clT t
  | [] => by simp [toDs, PyData.canLayAll0]
  | t :: ts => by
    simp only [toDs, PyData.canLayAll0, Bool.and_eq_true, clTs, List.mem_cons, forall_eq_or_imp]
theorem cl_lst {ts : List T} (h : ∀ t ∈ ts, clT t) : clT (.lst ts) := by
  have := clTs.mpr h
  show (PyData.list (toDs ts)).canLay0 = true
  simpa [PyData.canLay0] using this
theorem cl_tup {ts : List T} (h : ∀ t ∈ ts, clT t) : clT (.tup ts) := by
  have := clTs.mpr h
  show (PyData.tuple (toDs ts)).canLay0 = true
  simpa [PyData.canLay0] using this
theorem cl_set {x : List Str} (h : ∀ s ∈ x, okS s) : clT (SetT x) := cl_tup fun t ht => by
  obtain ⟨s, hs, rfl⟩ := List.mem_map.mp ht
  exact h s hs
theorem isDs_iff : ∀ {ts : List T}, isDs ts = true ↔ ∀ t ∈ ts, isD t = true
  | [] => by simp [isDs]
  | t :: ts => by
    show (isD t && isDs ts) = true ↔ _
    rw [Bool.and_eq_true, isDs_iff]
    simp
theorem depthAll_le {n : Nat} : ∀ {ts : List T}, (∀ t ∈ ts, (toD t).depth ≤ n) → PyData.depthAll (toDs ts) ≤ n
  | [], _ => by simp [toDs, PyData.depthAll]
  | t :: ts, h => by
    have h1 := h t List.mem_cons_self
    have h2 := depthAll_le fun x hx => h x (List.mem_cons_of_mem _ hx)
    simp only [toDs, PyData.depthAll]
    omega
/-- a list of sets, a list of such, .. -/
theorem okD_lst {ts : List T} {n : Nat} (h : ∀ t ∈ ts, isD t = true ∧ (toD t).depth ≤ n ∧ clT t) (hn : n < 64) : okD (.lst ts) = true := by
  refine okD_of (isDs_iff.mpr fun t ht => (h t ht).1) (cl_lst fun t ht => (h t ht).2.2) ?_
  show (PyData.list (toDs ts)).depth ≤ 64
  have := depthAll_le fun t ht => (h t ht).2.1
  simp only [PyData.depth]
  omega
theorem okD_set {x : List Str} (h : ∀ s ∈ x, okS s) : okD (SetT x) = true := okD_of (isD_set x) (cl_set h) (by have := depth_set x; omega)
theorem okD_sets {L : List (List Str)} (h : ∀ x ∈ L, ∀ s ∈ x, okS s) : okD (.lst (L.map SetT)) = true := okD_lst (n := 1) (fun t ht => by
  obtain ⟨x, hx, rfl⟩ := List.mem_map.mp ht
  exact ⟨isD_set x, depth_set x, cl_set (h x hx)⟩) (by decide)
theorem eqT_set (a b : List Str) : eqT (SetT a) (SetT b) = decide (a = b) := eqv_set a b
theorem eqT_sets : ∀ L M : List (List Str), eqT (.lst (L.map SetT)) (.lst (M.map SetT)) = decide (L = M) := by
  intro L M
  show PyData.eqv (.list (toDs (L.map SetT))) (.list (toDs (M.map SetT))) = _
  rw [PyData.eqv]
  induction L generalizing M with
  | nil => cases M <;> simp [toDs, PyData.eqvAll]
  | cons a L ih =>
    cases M with
    | nil => simp [toDs, PyData.eqvAll]
    | cons b M =>
      simp only [List.map_cons, toDs, PyData.eqvAll]
      rw [ih M, eqv_set]
      by_cases h1 : a = b <;> by_cases h2 : L = M <;> simp [h1, h2]
/-! ### keys without repetitions -/
theorem dputK_mem {ks : List NestedKey} {k x : NestedKey} : x ∈ dputK ks k ↔ x ∈ ks ∨ x = k := by
  unfold dputK
  by_cases h : k ∈ ks
  · rw [if_pos h]
    constructor
    · exact .inl
    · rintro (q | rfl)
      · exact q
      · exact h
  · rw [if_neg h]; simp
theorem dputK_nd {ks : List NestedKey} {k : NestedKey} (h : ks.Nodup) : (dputK ks k).Nodup := by
  unfold dputK
  by_cases hk : k ∈ ks
  · rw [if_pos hk]; exact h
  · rw [if_neg hk, List.nodup_append]
    refine ⟨h, by simp, fun x hx y hy => ?_⟩
    simp at hy
    subst hy
    intro e
    subst e
    exact hk hx
theorem ddK_all : ∀ (ks acc : List NestedKey), acc.Nodup → (ks.foldl dputK acc).Nodup ∧ ∀ x, x ∈ ks.foldl dputK acc ↔ x ∈ acc ∨ x ∈ ks
  | [], acc, h => ⟨h, fun x => by simp⟩
  | k :: ks, acc, h => by
    obtain ⟨h1, h2⟩ := ddK_all ks (dputK acc k) (dputK_nd h)
    refine ⟨h1, fun x => ?_⟩
    rw [List.foldl_cons, h2, dputK_mem, List.mem_cons]
    constructor
    · rintro ((q | q) | q)
      · exact .inl q
      · exact .inr (.inl q)
      · exact .inr (.inr q)
    · rintro (q | q | q)
      · exact .inl (.inl q)
      · exact .inl (.inr q)
      · exact .inr q
theorem ddK_nd (ks : List NestedKey) : (ddK ks).Nodup := (ddK_all ks [] List.nodup_nil).1
theorem ddK_mem {ks : List NestedKey} {x : NestedKey} : x ∈ ddK ks ↔ x ∈ ks := by
  have := (ddK_all ks [] List.nodup_nil).2 x
  simpa [ddK] using this
/-- off an injective map -/
theorem ddK_map {α : Type} (f : α → NestedKey) (xs : List α) : ∃ ys : List α, ddK (xs.map f) = ys.map f ∧ ys.Nodup ∧ ∀ x, x ∈ ys → x ∈ xs := by
  have all : ∀ ks : List NestedKey, (∀ k ∈ ks, k ∈ xs.map f) → ∃ ys : List α, ks = ys.map f ∧ ∀ x, x ∈ ys → x ∈ xs := by
    intro ks
    induction ks with
    | nil => intro _; exact ⟨[], rfl, fun x h => by cases h⟩
    | cons k ks ih =>
      intro h
      obtain ⟨ys, e, h2⟩ := ih fun x hx => h x (List.mem_cons_of_mem _ hx)
      obtain ⟨y, hy, rfl⟩ := List.mem_map.mp (h k List.mem_cons_self)
      refine ⟨y :: ys, by rw [e]; rfl, fun x hx => ?_⟩
      rcases List.mem_cons.mp hx with rfl | hx
      · exact hy
      · exact h2 x hx
  obtain ⟨ys, e, h⟩ := all (ddK (xs.map f)) fun k hk => ddK_mem.mp hk
  refine ⟨ys, e, ?_, h⟩
  have := ddK_nd (xs.map f)
  rw [e] at this
  exact nodup_of_map this
theorem ddK_map_mem {α : Type} {f : α → NestedKey} (hf : ∀ a b, f a = f b → a = b) {xs ys : List α} (e : ddK (xs.map f) = ys.map f) (x : α) : x ∈ ys ↔ x ∈ xs := by
  constructor
  · intro h
    have : f x ∈ ddK (xs.map f) := by rw [e]; exact List.mem_map.mpr ⟨x, h, rfl⟩
    obtain ⟨y, hy, ey⟩ := List.mem_map.mp (ddK_mem.mp this)
    rw [← hf _ _ ey]; exact hy
  · intro h
    have : f x ∈ ddK (xs.map f) := ddK_mem.mpr (List.mem_map.mpr ⟨x, h, rfl⟩)
    rw [e] at this
    obtain ⟨y, hy, ey⟩ := List.mem_map.mp this
    rw [← hf _ _ ey]; exact hy
section
variable {g : G} {k : Nat} {S : Sx} {ρ : Rho} {O : Store} {pos : Pos}
/-- a, b = e1, e2 -/
theorem par2 {x y : Str} (i j : Nat) {a b : Expr} {px py pt : Pos} {kt k2 : Nat} {pt2 : Pos} {D : TD}
    (h : W g k S ρ O a fun u O1 => W g k S ρ O1 b fun v O2 => D.nx ((ρ.set i (some u)).set j (some v)) O2)
    (hi : S.N[i]? = some x := by rfl) (hj : S.N[j]? = some y := by rfl) (hij : i ≠ j := by decide) (hx : S.sc.names.lookup x = some .local := by rfl) (hy : S.sc.names.lookup y = some .local := by rfl) (ha : AOk [a, b] := by exact ⟨fun _ => rfl, fun _ => rfl, True.intro⟩)
    (hw : ∀ env : Env, env.scope = S.sc → swappedStores [.Tuple [.Name x px, .Name y py] kt pt] (.Tuple [a, b] k2 pt2) env = pure (some [x, y]) := by (intro env h; obtain ⟨sc, l, gl, cs, q, fu, co, ar, bu⟩ := env; dsimp only at h; subst h; rfl))
    (hs : ∀ env, swapsWithSole [.Tuple [.Name x px, .Name y py] kt pt] (.Tuple [a, b] k2 pt2) pos.line env = pure false := by intro _; rfl) : W1 g k S ρ O (.Assign [.Tuple [.Name x px, .Name y py] kt pt] (.Tuple [a, b] k2 pt2) pos) D :=
  w1_par hi hj hij hx hy ha hw hs h
end
end TL
/-! The tree logic: three names set at once. -/
namespace TL
open PySem PySem.Spec PyProof.Rows L2
section
variable {g : G} {k : Nat} {S : Sx} {ρ : Rho} {O : Store} {pos : Pos}
/-- a, b, c = e1, e2, e3 -/
theorem par3 {x y z : Str} (i j l : Nat) {a b c : Expr} {px py pz pt : Pos} {kt k2 : Nat} {pt2 : Pos} {D : TD}
    (h : W g k S ρ O a fun u O1 => W g k S ρ O1 b fun v O2 => W g k S ρ O2 c fun w O3 => D.nx (((ρ.set i (some u)).set j (some v)).set l (some w)) O3)
    (hi : S.N[i]? = some x := by rfl) (hj : S.N[j]? = some y := by rfl) (hl : S.N[l]? = some z := by rfl) (hij : i ≠ j := by decide) (hil : i ≠ l := by decide) (hjl : j ≠ l := by decide)
    (hx : S.sc.names.lookup x = some .local := by rfl) (hy : S.sc.names.lookup y = some .local := by rfl) (hz : S.sc.names.lookup z = some .local := by rfl) (ha : AOk [a, b, c] := by exact ⟨fun _ => rfl, fun _ => rfl, fun _ => rfl, True.intro⟩)
    (hw : ∀ env : Env, env.scope = S.sc → swappedStores [.Tuple [.Name x px, .Name y py, .Name z pz] kt pt] (.Tuple [a, b, c] k2 pt2) env = pure (some [x, y, z]) := by (intro env h; obtain ⟨sc, l, gl, cs, q, fu, co, ar, bu⟩ := env; dsimp only at h; subst h; rfl))
    (hs : ∀ env, swapsWithSole [.Tuple [.Name x px, .Name y py, .Name z pz] kt pt] (.Tuple [a, b, c] k2 pt2) pos.line env = pure false := by intro _; rfl) : W1 g k S ρ O (.Assign [.Tuple [.Name x px, .Name y py, .Name z pz] kt pt] (.Tuple [a, b, c] k2 pt2) pos) D := by
  intro X A σ F H hE hC Dc hq
  have h' : tPar3 i j l (tSem X [a, b, c]) Dc σ H := h X A σ F H hE hC _ fun u v F1 H1 O1 s1 c1 r1 q1 => q1 X A σ F1 H1 (hE.mono s1.fr) c1 _ fun u2 v2 F2 H2 O2 s2 c2 r2 q2 => q2 X A σ F2 H2 (hE.mono (s1.trans s2).fr) c2 _ fun u3 v3 F3 H3 O3 s3 c3 r3 q3 =>
    ⟨v, v2, v3, rfl, hq.nx _ _ F3 H3 O3 ((s1.trans s2).trans s3) c3 ((((hE.mono ((s1.trans s2).trans s3).fr).set (r1.mono (s2.trans s3).fr)).set (r2.mono s3.fr)).set r3) q3⟩
  have nd := A.nd
  have e := A.s
  subst e
  exact semS_of (ps_par3 A.calm nd hi hj hl hij hil hjl hx hy hz (pa_sem ha) (hw _ rfl) (hs _)) h'
end
end TL
/-! Sets of texts: minimal ones, hitting sets. No program. -/
namespace TL
open PySem PySem.Spec PyProof.Rows L2

abbrev SetS := List Str
def Sb (a b : SetS) : Prop := ∀ x ∈ a, x ∈ b
theorem Sb.refl (a : SetS) : Sb a a := fun _ h => h
theorem Sb.trans {a b c : SetS} (h1 : Sb a b) (h2 : Sb b c) : Sb a c := fun x h => h2 x (h1 x h)
theorem Sb.antisymm {a b : SetS} (ha : Srt a) (hb : Srt b) (h1 : Sb a b) (h2 : Sb b a) : a = b := srt_ext ha hb fun x => ⟨h1 x, h2 x⟩
theorem nd_len' {α : Type} [DecidableEq α] : ∀ {l m : List α}, l.Nodup → (∀ x ∈ l, x ∈ m) → l.length ≤ m.length
  | [], _, _, _ => Nat.zero_le _
  | x :: l, m, nd, h => by
    rw [List.nodup_cons] at nd
    have hx := h x List.mem_cons_self
    have ih := nd_len' (l := l) (m := m.erase x) nd.2 fun y hy => (List.mem_erase_of_ne (fun e => nd.1 (by rw [← e]; exact hy))).mpr (h y (List.mem_cons_of_mem _ hy))
    rw [List.length_erase_of_mem hx] at ih
    have := List.length_pos_of_mem hx
    rw [List.length_cons]
    omega
theorem Sb.len {a b : SetS} (ha : Srt a) (h : Sb a b) : a.length ≤ b.length := nd_len' ha.nodup h
/-- a part of the same size is the whole -/
theorem Sb.eq_of_len {a b : SetS} (ha : Srt a) (hb : Srt b) (h : Sb a b) (hl : b.length ≤ a.length) : a = b := by
  refine Sb.antisymm ha hb h fun x hx => ?_
  by_cases hxa : x ∈ a
  · exact hxa
  · have nd : (x :: a).Nodup := List.nodup_cons.mpr ⟨hxa, ha.nodup⟩
    have := nd_len' (m := b) nd fun y hy => by
      rcases List.mem_cons.mp hy with rfl | hy
      · exact hx
      · exact h y hy
    rw [List.length_cons] at this
    omega
/-- a proper part stands earlier -/
theorem ltK_of_sub {a b : SetS} (ha : Srt a) (hb : Srt b) (h : Sb a b) (hne : a ≠ b) : ltK a b := by
  have h1 := Sb.len ha h
  have h2 : a.length ≠ b.length := fun e => hne (Sb.eq_of_len ha hb h (by omega))
  unfold ltK ltKb
  rw [if_neg h2]
  exact decide_eq_true (by omega)
/-- the least of a family -/
def MinIn (P : SetS → Prop) (x : SetS) : Prop := P x ∧ ∀ y, P y → Sb y x → y = x
theorem min_below {P : SetS → Prop} (hP : ∀ x, P x → Srt x) : ∀ (n : Nat) (x : SetS), x.length ≤ n → P x → ∃ y, MinIn P y ∧ Sb y x := by
  intro n
  induction n with
  | zero =>
    intro x hx h
    refine ⟨x, ⟨h, fun y hy hs => ?_⟩, Sb.refl x⟩
    have := Sb.len (hP y hy) hs
    exact Sb.eq_of_len (hP y hy) (hP x h) hs (by omega)
  | succ n ih =>
    intro x hx h
    by_cases q : ∃ y, P y ∧ Sb y x ∧ y ≠ x
    · obtain ⟨y, hy, hs, hne⟩ := q
      have h1 := Sb.len (hP y hy) hs
      have h2 : y.length ≠ x.length := fun e => hne (Sb.eq_of_len (hP y hy) (hP x h) hs (by omega))
      obtain ⟨z, hz, hzs⟩ := ih y (by omega) hy
      exact ⟨z, hz, hzs.trans hs⟩
    · refine ⟨x, ⟨h, fun y hy hs => ?_⟩, Sb.refl x⟩
      by_cases e : y = x
      · exact e
      · exact absurd ⟨y, hy, hs, e⟩ q
theorem exists_min {P : SetS → Prop} (hP : ∀ x, P x → Srt x) {x : SetS} (h : P x) : ∃ y, MinIn P y ∧ Sb y x := min_below hP x.length x (Nat.le_refl _) h
/-! ### all parts of a set -/
def subs : SetS → List SetS
  | [] => [[]]
  | x :: xs => subs xs ++ (subs xs).map (x :: ·)
theorem subs_len : ∀ U, (subs U).length = 2 ^ U.length
  | [] => rfl
  | x :: U => by
    rw [subs, List.length_append, List.length_map, subs_len U, List.length_cons, Nat.pow_succ]
    omega
theorem mem_subs : ∀ {U a : SetS}, Srt U → Srt a → Sb a U → a ∈ subs U
  | [], a, _, _, h => by
    cases a with
    | nil => simp [subs]
    | cons y a => exact absurd (h y List.mem_cons_self) (by simp)
  | x :: U, a, hU, ha, h => by
    have hU := List.pairwise_cons.mp hU
    by_cases hx : x ∈ a
    · cases a with
      | nil => cases hx
      | cons y a =>
        have ha := List.pairwise_cons.mp ha
        have e : y = x := by
          rcases List.mem_cons.mp hx with e | hx
          · exact e.symm
          · rcases List.mem_cons.mp (h y List.mem_cons_self) with e | hy
            · exact e
            · exact absurd (hU.1 y hy) (ltS_asymm (ha.1 x hx))
        subst e
        refine List.mem_append_right _ (List.mem_map.mpr ⟨a, mem_subs hU.2 ha.2 fun z hz => ?_, rfl⟩)
        rcases List.mem_cons.mp (h z (List.mem_cons_of_mem _ hz)) with e | q
        · subst e; exact absurd (ha.1 z hz) (ltS_irrefl _)
        · exact q
    · refine List.mem_append_left _ (mem_subs hU.2 ha fun z hz => ?_)
      rcases List.mem_cons.mp (h z hz) with e | q
      · subst e; exact absurd hz hx
      · exact q
theorem count_sets {U : SetS} {L : List SetS} (hU : Srt U) (nd : L.Nodup) (h : ∀ x ∈ L, Srt x ∧ Sb x U) : L.length ≤ 2 ^ U.length := by
  rw [← subs_len]
  exact nd_len' nd fun x hx => mem_subs hU (h x hx).1 (h x hx).2
theorem pwK_nodup {L : List SetS} (h : L.Pairwise ltK) : L.Nodup := h.imp fun {a b} q e => by subst e; exact ltK_irrefl _ q
/-! ### hitting sets -/
def Hit (lots : List SetS) (x : SetS) : Prop := ∀ l ∈ lots, ∃ a ∈ l, a ∈ x
theorem Hit.mono {lots : List SetS} {x y : SetS} (h : Hit lots x) (s : Sb x y) : Hit lots y := fun l hl => by
  obtain ⟨a, h1, h2⟩ := h l hl
  exact ⟨a, h1, s a h2⟩
def SHit (lots : List SetS) (x : SetS) : Prop := Srt x ∧ Hit lots x
abbrev MinHit (lots : List SetS) (x : SetS) : Prop := MinIn (SHit lots) x
/-- the union with one more, sorted -/
def addS (x : SetS) (a : Str) : SetS := sortS (x ++ [a])
theorem addS_mem {x : SetS} {a b : Str} : b ∈ addS x a ↔ b ∈ x ∨ b = a := by unfold addS; rw [sortS_mem]; simp
theorem addS_srt {x : SetS} {a : Str} (hx : Srt x) (ha : a ∉ x) : Srt (addS x a) := sortS_srt (by
  rw [List.nodup_append]
  refine ⟨hx.nodup, by simp, fun y hy z hz => ?_⟩
  simp at hz
  subst hz
  intro e
  subst e
  exact ha hy)
/-- one more lot: the candidates -/
def Cand (lots : List SetS) (lot : SetS) (c : SetS) : Prop := ∃ x, MinHit lots x ∧ (((∃ a ∈ lot, a ∈ x) ∧ c = x) ∨ ((¬ ∃ a ∈ lot, a ∈ x) ∧ ∃ a ∈ lot, c = addS x a))
theorem cand_hit {lots : List SetS} {lot c : SetS} (h : Cand lots lot c) : SHit (lots ++ [lot]) c := by
  obtain ⟨x, hx, h⟩ := h
  rcases h with ⟨h1, rfl⟩ | ⟨h1, a, ha, rfl⟩
  · refine ⟨hx.1.1, fun l hl => ?_⟩
    rcases List.mem_append.mp hl with hl | hl
    · exact hx.1.2 l hl
    · simp at hl; subst hl; exact h1
  · have hax : a ∉ x := fun q => h1 ⟨a, ha, q⟩
    refine ⟨addS_srt hx.1.1 hax, fun l hl => ?_⟩
    rcases List.mem_append.mp hl with hl | hl
    · obtain ⟨b, h2, h3⟩ := hx.1.2 l hl
      exact ⟨b, h2, addS_mem.mpr (.inl h3)⟩
    · simp at hl; subst hl; exact ⟨a, ha, addS_mem.mpr (.inr rfl)⟩
theorem shit_srt {lots : List SetS} : ∀ x, SHit lots x → Srt x := fun _ h => h.1
theorem cand_of_min {lots : List SetS} {lot z : SetS} (h : MinHit (lots ++ [lot]) z) : Cand lots lot z := by
  have hz : SHit lots z := ⟨h.1.1, fun l hl => h.1.2 l (List.mem_append_left _ hl)⟩
  obtain ⟨x, hx, hs⟩ := exists_min shit_srt hz
  by_cases q : ∃ a ∈ lot, a ∈ x
  · have : x = z := h.2 x (cand_hit ⟨x, hx, .inl ⟨q, rfl⟩⟩) hs
    subst this
    exact ⟨x, hx, .inl ⟨q, rfl⟩⟩
  · obtain ⟨a, ha, haz⟩ := h.1.2 lot (List.mem_append_right _ (by simp))
    have c : Cand lots lot (addS x a) := ⟨x, hx, .inr ⟨q, a, ha, rfl⟩⟩
    have : addS x a = z := h.2 _ (cand_hit c) fun b hb => by
      rcases addS_mem.mp hb with hb | rfl
      · exact hs b hb
      · exact haz
    rw [← this]; exact c
theorem min_cand {lots : List SetS} {lot z : SetS} : MinIn (Cand lots lot) z ↔ MinHit (lots ++ [lot]) z := by
  constructor
  · intro h
    refine ⟨cand_hit h.1, fun y hy hs => ?_⟩
    obtain ⟨w, hw, hws⟩ := exists_min shit_srt hy
    have := h.2 w (cand_of_min hw) (hws.trans hs)
    subst this
    exact (Sb.antisymm hw.1.1 hy.1 hws hs).symm
  · intro h
    exact ⟨cand_of_min h, fun y hy hs => h.2 y (cand_hit hy) hs⟩
theorem min_hit_nil {x : SetS} : MinHit [] x ↔ x = [] := by
  constructor
  · intro h
    exact (h.2 [] ⟨List.Pairwise.nil, fun l hl => by cases hl⟩ fun a ha => by cases ha).symm
  · rintro rfl
    refine ⟨⟨List.Pairwise.nil, fun l hl => by cases hl⟩, fun y hy hs => ?_⟩
    cases y with
    | nil => rfl
    | cons a y => exact absurd (hs a List.mem_cons_self) (by simp)
/-- least hitting sets hold only what the lots hold -/
theorem minhit_sub {lots : List SetS} {U x : SetS} (hU : ∀ l ∈ lots, Sb l U) (h : MinHit lots x) : Sb x U := by
  intro a ha
  have hf : SHit lots (x.filter fun b => decide (b ∈ U)) := ⟨List.Pairwise.filter _ h.1.1, fun l hl => by
    obtain ⟨b, h1, h2⟩ := h.1.2 l hl
    exact ⟨b, h1, List.mem_filter.mpr ⟨h2, decide_eq_true (hU l hl b h1)⟩⟩⟩
  have e := h.2 _ hf fun b hb => (List.mem_filter.mp hb).1
  rw [← e] at ha
  exact of_decide_eq_true (List.mem_filter.mp ha).2
end TL
/-! All parts of a set of names, by size, then in the order of texts. -/
namespace TL
open PySem PySem.Spec PyProof.Rows L2

def goesOn (one : SetS) (a : Str) : Bool := match one.getLast? with
  | none => true
  | some l => decide (ltS l a)
def nextL (N : SetS) (L : List SetS) : List SetS := L.flatMap fun one => (N.filter fun a => goesOn one a).map fun a => one ++ [a]
def lv (N : SetS) : Nat → List SetS
  | 0 => [[]]
  | k + 1 => nextL N (lv N k)
theorem goesOn_iff {one : SetS} {a : Str} (h : Srt one) : goesOn one a = true ↔ ∀ x ∈ one, ltS x a := by
  unfold goesOn
  cases e : one.getLast? with
  | none =>
    have : one = [] := List.getLast?_eq_none_iff.mp e
    subst this
    simp
  | some l =>
    obtain ⟨init, rfl⟩ := List.getLast?_eq_some_iff.mp e
    have hp := List.pairwise_append.mp h
    simp only [decide_eq_true_eq]
    constructor
    · intro hl x hx
      rcases List.mem_append.mp hx with hx | hx
      · exact ltS_trans (hp.2.2 x hx l (by simp)) hl
      · simp at hx; subst hx; exact hl
    · intro hl
      exact hl l (by simp)
theorem srt_snoc {one : SetS} {a : Str} : Srt (one ++ [a]) ↔ Srt one ∧ ∀ x ∈ one, ltS x a := by
  constructor
  · intro h
    have hp := List.pairwise_append.mp h
    exact ⟨hp.1, fun x hx => hp.2.2 x hx a (by simp)⟩
  · rintro ⟨h1, h2⟩
    exact List.pairwise_append.mpr ⟨h1, List.pairwise_singleton _ _, fun x hx y hy => by simp at hy; subst hy; exact h2 x hx⟩
theorem lv_mem {N : SetS} : ∀ {k : Nat} {x : SetS}, x ∈ lv N k ↔ Srt x ∧ Sb x N ∧ x.length = k
  | 0, x => by
    rw [lv, List.mem_singleton]
    constructor
    · rintro rfl; exact ⟨List.Pairwise.nil, fun a ha => (by cases ha), rfl⟩
    · rintro ⟨_, _, h⟩; exact List.length_eq_zero_iff.mp h
  | k + 1, x => by
    rw [lv, nextL, List.mem_flatMap]
    constructor
    · rintro ⟨one, h1, h2⟩
      obtain ⟨h3, h4, h5⟩ := lv_mem.mp h1
      obtain ⟨a, ha, rfl⟩ := List.mem_map.mp h2
      obtain ⟨h6, h7⟩ := List.mem_filter.mp ha
      refine ⟨srt_snoc.mpr ⟨h3, (goesOn_iff h3).mp h7⟩, fun b hb => ?_, by simp [h5]⟩
      rcases List.mem_append.mp hb with hb | hb
      · exact h4 b hb
      · simp at hb; subst hb; exact h6
    · rintro ⟨h1, h2, h3⟩
      have hne : x ≠ [] := fun e => by subst e; simp at h3
      obtain ⟨one, a, rfl⟩ : ∃ one a, x = one ++ [a] := ⟨x.dropLast, x.getLast hne, (List.dropLast_concat_getLast hne).symm⟩
      have hs := srt_snoc.mp h1
      refine ⟨one, lv_mem.mpr ⟨hs.1, fun b hb => h2 b (List.mem_append_left _ hb), by simpa using h3⟩, List.mem_map.mpr ⟨a, List.mem_filter.mpr ⟨h2 a (by simp), (goesOn_iff hs.1).mpr hs.2⟩, rfl⟩⟩
theorem lexB_snoc : ∀ {x y : SetS} {a b : Str}, x.length = y.length → lexB x y = true → lexB (x ++ [a]) (y ++ [b]) = true
  | [], [], _, _, _, h => by simp [lexB] at h
  | [], _ :: _, _, _, h, _ => by simp at h
  | _ :: _, [], _, _, h, _ => by simp at h
  | c :: x, d :: y, a, b, hl, h => by
    rw [List.cons_append, List.cons_append]
    unfold lexB at h ⊢
    by_cases e : c = d
    · subst e
      rw [if_pos rfl] at h ⊢
      exact lexB_snoc (by simpa using hl) h
    · rw [if_neg e] at h ⊢; exact h
theorem lexB_last : ∀ (x : SetS) {a b : Str}, ltS a b → lexB (x ++ [a]) (x ++ [b]) = true
  | [], a, b, h => by
    show lexB [a] [b] = true
    unfold lexB
    rw [if_neg (fun e => by subst e; exact ltS_irrefl _ h)]
    exact decide_eq_true h
  | c :: x, a, b, h => by
    rw [List.cons_append, List.cons_append]
    unfold lexB
    rw [if_pos rfl]
    exact lexB_last x h
theorem lv_pw {N : SetS} (hN : Srt N) : ∀ k, (lv N k).Pairwise fun x y => lexB x y = true
  | 0 => List.pairwise_singleton _ _
  | k + 1 => by
    rw [lv, nextL, List.pairwise_flatMap]
    refine ⟨fun one h => ?_, ?_⟩
    · rw [List.pairwise_map]
      exact (hN.filter _).imp fun {a b} h => lexB_last one h
    · refine List.Pairwise.imp_of_mem ?_ (lv_pw hN k)
      intro x y hx hy h u hu w hw
      obtain ⟨a, _, rfl⟩ := List.mem_map.mp hu
      obtain ⟨b, _, rfl⟩ := List.mem_map.mp hw
      exact lexB_snoc (by rw [(lv_mem.mp hx).2.2, (lv_mem.mp hy).2.2]) h
def allS (N : SetS) (m : Nat) : List SetS := (List.range (m + 1)).flatMap (lv N)
theorem allS_succ {N : SetS} {m : Nat} : allS N (m + 1) = allS N m ++ lv N (m + 1) := by
  unfold allS
  rw [List.range_succ, List.flatMap_append, List.flatMap_cons, List.flatMap_nil, List.append_nil]
theorem allS_mem {N : SetS} {x : SetS} : x ∈ allS N N.length ↔ Srt x ∧ Sb x N := by
  unfold allS
  rw [List.mem_flatMap]
  constructor
  · rintro ⟨k, _, h⟩
    have := lv_mem.mp h
    exact ⟨this.1, this.2.1⟩
  · rintro ⟨h1, h2⟩
    have := Sb.len h1 h2
    exact ⟨x.length, List.mem_range.mpr (by omega), lv_mem.mpr ⟨h1, h2, rfl⟩⟩
theorem allS_pw {N : SetS} (hN : Srt N) : ∀ m, (allS N m).Pairwise ltK
  | 0 => by
    show ([[]] ++ []).Pairwise ltK
    exact List.pairwise_singleton _ _
  | m + 1 => by
    rw [allS_succ, List.pairwise_append]
    refine ⟨allS_pw hN m, ?_, fun x hx y hy => ?_⟩
    · refine List.Pairwise.imp_of_mem ?_ (lv_pw hN (m + 1))
      intro x y hx hy h
      unfold ltK ltKb
      rw [if_pos (by rw [(lv_mem.mp hx).2.2, (lv_mem.mp hy).2.2])]
      exact h
    · obtain ⟨k, hk, hxk⟩ := List.mem_flatMap.mp hx
      have h1 := (lv_mem.mp hxk).2.2
      have h2 := (lv_mem.mp hy).2.2
      have h3 := List.mem_range.mp hk
      unfold ltK ltKb
      rw [if_neg (by omega)]
      exact decide_eq_true (by omega)
theorem lv_len {N : SetS} (hN : Srt N) (k : Nat) : (lv N k).length ≤ 2 ^ N.length := by
  refine count_sets hN ?_ fun x hx => ⟨(lv_mem.mp hx).1, (lv_mem.mp hx).2.1⟩
  exact (lv_pw hN k).imp fun {a b} h e => by subst e; rw [lexB_irrefl] at h; cases h
theorem allS_len {N : SetS} (hN : Srt N) (m : Nat) : (allS N m).length ≤ 2 ^ N.length := by
  refine count_sets hN (pwK_nodup (allS_pw hN m)) fun x hx => ?_
  obtain ⟨k, hk, hxk⟩ := List.mem_flatMap.mp hx
  exact ⟨(lv_mem.mp hxk).1, (lv_mem.mp hxk).2.1⟩
end TL
/-! The stream of draws: a list of four, its first a list of numbers. -/
namespace TL
open PySem PySem.Spec PyProof.Rows L2

def sI (xs : List Int) : List Vl := xs.map fun i => Vl.t (.int i)
def sL (c : Addr) (x n m : Int) : Cell := .lst [.cell c, .t (.int x), .t (.int n), .t (.int m)]
def strm (a c : Addr) (xs : List Int) (x n m : Int) : Store := sup (sup noS c (.lst (sI xs))) a (sL c x n m)
/-- the store holds a stream that gave at most k draws -/
def Has (O : Store) (a c : Addr) (k : Nat) : Prop := ∃ (xs : List Int) (x n m : Int), a ≠ c ∧ O a = some (sL c x n m) ∧ O c = some (.lst (sI xs)) ∧ 0 ≤ x ∧ 0 ≤ n ∧ n ≤ k ∧ 0 ≤ m ∧ m < 2 ^ 31
/-- .. and nothing else -/
def SS (a c : Addr) (k : Nat) (O : Store) : Prop := ∃ (xs : List Int) (x n m : Int), a ≠ c ∧ O = strm a c xs x n m ∧ 0 ≤ x ∧ 0 ≤ n ∧ n ≤ k ∧ 0 ≤ m ∧ m < 2 ^ 31
theorem strm_a {a c : Addr} {xs : List Int} {x n m : Int} : strm a c xs x n m a = some (sL c x n m) := sup_same
theorem strm_c {a c : Addr} {xs : List Int} {x n m : Int} (h : a ≠ c) : strm a c xs x n m c = some (.lst (sI xs)) := by
  unfold strm; rw [sup_ne h.symm, sup_same]
theorem strm_o {a c b : Addr} {xs : List Int} {x n m : Int} (h1 : b ≠ a) (h2 : b ≠ c) : strm a c xs x n m b = none := by
  unfold strm; rw [sup_ne h1, sup_ne h2]; rfl
theorem SS.has {a c : Addr} {k : Nat} {O : Store} (s : SS a c k O) : Has O a c k := by
  obtain ⟨xs, x, n, m, h, rfl, r⟩ := s
  exact ⟨xs, x, n, m, h, strm_a, strm_c h, r⟩
/-- the stream of a store -/
theorem Has.part {O : Store} {a c : Addr} {k : Nat} (h : Has O a c k) : ∃ O', SS a c k O' ∧ Part O O' ∧ ∀ b x, O' b = some x → b = a ∨ b = c := by
  obtain ⟨xs, x, n, m, hne, ha, hc, r⟩ := h
  have out : ∀ b y, strm a c xs x n m b = some y → b = a ∨ b = c := fun b y e => by
    by_cases h1 : b = a
    · exact .inl h1
    · by_cases h2 : b = c
      · exact .inr h2
      · rw [strm_o h1 h2] at e; cases e
  refine ⟨strm a c xs x n m, ⟨xs, x, n, m, hne, rfl, r⟩, ⟨fun b y e => ?_⟩, out⟩
  rcases out b y e with rfl | rfl
  · rw [strm_a] at e; rw [ha]; exact e
  · rw [strm_c hne] at e; rw [hc]; exact e
theorem Has.ne {O : Store} {a c : Addr} {k : Nat} (h : Has O a c k) : a ≠ c := by obtain ⟨_, _, _, _, h, _⟩ := h; exact h
theorem Has.mono {O : Store} {a c : Addr} {k k' : Nat} (h : Has O a c k) (hk : k ≤ k') : Has O a c k' := by
  obtain ⟨xs, x, n, m, h1, h2, h3, h4, h5, h6, h7⟩ := h
  exact ⟨xs, x, n, m, h1, h2, h3, h4, h5, by omega, h7⟩
theorem Has.other {O : Store} {a c d : Addr} {k : Nat} {y : Cell} (h : Has O a c k) (h1 : d ≠ a) (h2 : d ≠ c) : Has (sup O d y) a c k := by
  obtain ⟨xs, x, n, m, hne, ha, hc, r⟩ := h
  exact ⟨xs, x, n, m, hne, by rw [sup_ne h1.symm]; exact ha, by rw [sup_ne h2.symm]; exact hc, r⟩
theorem Has.fresh {O : Store} {a c d : Addr} {k : Nat} (h : Has O a c k) (hd : O d = none) : d ≠ a ∧ d ≠ c := by
  obtain ⟨xs, x, n, m, hne, ha, hc, r⟩ := h
  exact ⟨fun e => (by subst e; rw [ha] at hd; cases hd), fun e => (by subst e; rw [hc] at hd; cases hd)⟩
theorem Has.same {O O' : Store} {a c : Addr} {k : Nat} (h : Has O a c k) (ha : O' a = O a) (hc : O' c = O c) : Has O' a c k := by
  obtain ⟨xs, x, n, m, hne, h1, h2, r⟩ := h
  exact ⟨xs, x, n, m, hne, by rw [ha]; exact h1, by rw [hc]; exact h2, r⟩
/-- promises with a stream: pre gives what may come -/
abbrev SPre := List T → Nat → (T → Nat → Prop) → Prop
def strT (pre : SPre) : Tsp := fun us O Q => ∃ a c k ts R, us = .cell a :: ts.map Vl.t ∧ SS a c k O ∧ pre ts k R ∧ ∀ t k', R t k' → ∀ O2, SS a c k' O2 → Q (.t t) O2
section
variable {g : G} {k : Nat} {S : Sx} {ρ : Rho} {O : Store} {pos : Pos}
theorem cS {x : Str} {p : Pos} {e : Expr} {es : List Expr} {n j : Nat} {pre : SPre} {Q : Vl → Store → Prop} (D : Def g x n j (strT pre))
    (h : WA g k S ρ (e :: es) O fun us O1 => ∃ a c k ts R, us = .cell a :: ts.map Vl.t ∧ Has O1 a c k ∧ pre ts k R ∧ ∀ t k', R t k' → ∀ O2, Has O2 a c k' → (∀ b, b ≠ a → b ≠ c → O2 b = O1 b) → Q (.t t) O2)
    (hj : j ≤ k := by first | assumption | omega | decide) (hg : GlS S x := by rfl)
    (ha : AOk (e :: es) := by first | exact ⟨fun _ => rfl, True.intro⟩ | exact ⟨fun _ => rfl, fun _ => rfl, True.intro⟩ | exact ⟨fun _ => rfl, fun _ => rfl, fun _ => rfl, True.intro⟩) (hl : (e :: es).length = n := by rfl)
    (hdb : (x == ("__debug__" : Str)) = false := by decide) (hpl : ∀ env, (backTo pos (starEach es env)).any (·.1) = false := by intro _; rfl) : W g k S ρ O (.Call (.Name x p) (e :: es) [] pos) Q := by
  refine w_call D hj hg ha hl (WA.mono h fun us O1 ⟨a, c, kk, ts, R, e, hh, hp, hq⟩ => ?_) hdb hpl
  obtain ⟨O', s', pt, out⟩ := hh.part
  refine ⟨O', pt, a, c, kk, ts, R, e, s', hp, fun t k' hR O2 s2 => ?_⟩
  have h2 := s2.has
  have hne := h2.ne
  refine hq t k' hR _ (h2.same ?_ ?_) fun b h1 h2' => ?_
  · unfold joinS
    obtain ⟨xs, x, n, m, _, ha2, _⟩ := h2
    rw [ha2]
  · unfold joinS
    obtain ⟨xs, x, n, m, _, _, hc2, _⟩ := h2
    rw [hc2]
  · unfold joinS
    obtain ⟨xs, x, n, m, _, rfl, _⟩ := s2
    rw [strm_o h1 h2']
    cases q : O' b with
    | none => rfl
    | some y => rcases out b y q with h | h <;> contradiction
/-- the end of such a def: the stream stays, the result is data -/
theorem w_retS {e : Expr} {Q : Vl → Store → Prop} (h : W g k S ρ O e fun u O1 => ∃ a c kk t, Has O1 a c kk ∧ (u = .t t ∨ ∃ d ts, u = .cell d ∧ d ≠ a ∧ d ≠ c ∧ O1 d = some (.lst (ts.map Vl.t)) ∧ t = .lst ts) ∧ ∀ O2, SS a c kk O2 → Q (.t t) O2) : W g k S ρ O e Q := by
  intro X A σ F H hE hC Qc hq
  refine h X A σ F H hE hC _ fun u v F1 H1 O1 s1 c1 r1 ⟨a, c, kk, t, hh, hu, q⟩ => ?_
  obtain ⟨O', s', pt, out⟩ := hh.part
  rcases hu with rfl | ⟨d, ts, rfl, h1, h2, hd, rfl⟩
  · obtain ⟨c', s⟩ := c1.shrink pt
    exact hq (.t t) v _ _ _ (s1.trans s) c' r1 (q O' s')
  · have hs : Split O1 O' (sup noS d (.lst (ts.map Vl.t))) := ⟨fun b x e => ⟨pt.sub b x e, by
      rcases out b x e with rfl | rfl
      · rw [sup_ne h1.symm]; rfl
      · rw [sup_ne h2.symm]; rfl⟩, fun b x e => by
      by_cases hb : b = d
      · subst hb; rw [sup_same] at e; rw [hd]; exact e
      · rw [sup_ne hb] at e; cases e⟩
    obtain ⟨c', s⟩ := c1.split hs
    exact hq (.t (.lst ts)) v _ _ _ (s1.trans s) c' (Frz.rep c1 hs (thaw_same c1 hs) (Frz.flat sup_same) r1) (q O' s')
/-- freezing a list beside the stream, all else is forgotten -/
theorem split_S {O : Store} {a c d : Addr} {kk : Nat} {xs : List Vl} (h : Has O a c kk) (h1 : d ≠ a) (h2 : d ≠ c) (hd : O d = some (.lst xs)) : ∃ O', SS a c kk O' ∧ Split O O' (sup noS d (.lst xs)) := by
  obtain ⟨O', s', pt, out⟩ := h.part
  exact ⟨O', s', ⟨fun b x e => ⟨pt.sub b x e, by
      rcases out b x e with rfl | rfl
      · rw [sup_ne h1.symm]; rfl
      · rw [sup_ne h2.symm]; rfl⟩, fun b x e => by
      by_cases hb : b = d
      · subst hb; rw [sup_same] at e; rw [hd]; exact e
      · rw [sup_ne hb] at e; cases e⟩⟩
end
end TL
/-! The program's defs by name, their slots and scopes, the facts about the module. -/
namespace Far
open PySem PySem.Spec PyProof.Rows L2 TL
abbrev n_is_list : List Str := ["thing"]
theorem sc_is_list : FnScope n_is_list ["thing"] (defScope s_is_list) := ⟨rfl, rfl, rfl, by decide +kernel, rfl, by decide +kernel, by decide +kernel⟩
abbrev n_is_integer : List Str := ["thing"]
theorem sc_is_integer : FnScope n_is_integer ["thing"] (defScope s_is_integer) := ⟨rfl, rfl, rfl, by decide +kernel, rfl, by decide +kernel, by decide +kernel⟩
abbrev n_is_number : List Str := ["thing"]
theorem sc_is_number : FnScope n_is_number ["thing"] (defScope s_is_number) := ⟨rfl, rfl, rfl, by decide +kernel, rfl, by decide +kernel, by decide +kernel⟩
abbrev n_is_name : List Str := ["thing", "sign"]
theorem sc_is_name : FnScope n_is_name ["thing"] (defScope s_is_name) := ⟨rfl, rfl, rfl, by decide +kernel, rfl, by decide +kernel, by decide +kernel⟩
abbrev n_is_word : List Str := ["thing", "part"]
theorem sc_is_word : FnScope n_is_word ["thing"] (defScope s_is_word) := ⟨rfl, rfl, rfl, by decide +kernel, rfl, by decide +kernel, by decide +kernel⟩
abbrev n_as_word : List Str := ["thing", "part"]
theorem sc_as_word : FnScope n_as_word ["thing"] (defScope s_as_word) := ⟨rfl, rfl, rfl, by decide +kernel, rfl, by decide +kernel, by decide +kernel⟩
abbrev n_are_names : List Str := ["thing", "name"]
theorem sc_are_names : FnScope n_are_names ["thing"] (defScope s_are_names) := ⟨rfl, rfl, rfl, by decide +kernel, rfl, by decide +kernel, by decide +kernel⟩
abbrev n_each_once : List Str := ["things", "found", "thing"]
theorem sc_each_once : FnScope n_each_once ["things"] (defScope s_each_once) := ⟨rfl, rfl, rfl, by decide +kernel, rfl, by decide +kernel, by decide +kernel⟩
abbrev n_is_stand : List Str := ["thing", "many"]
theorem sc_is_stand : FnScope n_is_stand ["thing", "many"] (defScope s_is_stand) := ⟨rfl, rfl, rfl, by decide +kernel, rfl, by decide +kernel, by decide +kernel⟩
abbrev n_kept_step : List Str := ["thing", "many", "word", "one", "other", "rules", "sights", "side"]
theorem sc_kept_step : FnScope n_kept_step ["thing", "many"] (defScope s_kept_step) := ⟨rfl, rfl, rfl, by decide +kernel, rfl, by decide +kernel, by decide +kernel⟩
abbrev n_checked_steps : List Str := ["steps", "many", "found", "index", "thing", "step", "_"]
theorem sc_checked_steps : FnScope n_checked_steps ["steps", "many"] (defScope s_checked_steps) := ⟨rfl, rfl, rfl, by decide +kernel, rfl, by decide +kernel, by decide +kernel⟩
abbrev n_checked_stands : List Str := ["stands", "many", "index", "stand"]
theorem sc_checked_stands : FnScope n_checked_stands ["stands", "many"] (defScope s_checked_stands) := ⟨rfl, rfl, rfl, by decide +kernel, rfl, by decide +kernel, by decide +kernel⟩
abbrev n_Play_init : List Str := ["self", "many", "steps", "bad"]
theorem sc_Play_init : FnScope n_Play_init ["self", "many", "steps", "bad"] (defScope s_Play_init) := ⟨rfl, rfl, rfl, by decide +kernel, rfl, by decide +kernel, by decide +kernel⟩
abbrev n_Play_steps : List Str := ["self", "found", "row", "word", "one", "other", "rules", "sights"]
theorem sc_Play_steps : FnScope n_Play_steps ["self"] (defScope s_Play_steps) := ⟨rfl, rfl, rfl, by decide +kernel, rfl, by decide +kernel, by decide +kernel⟩
abbrev n_Play_rules : List Str := ["self", "found", "step"]
theorem sc_Play_rules : FnScope n_Play_rules ["self"] (defScope s_Play_rules) := ⟨rfl, rfl, rfl, by decide +kernel, rfl, by decide +kernel, by decide +kernel⟩
abbrev n_Play_len : List Str := ["self"]
theorem sc_Play_len : FnScope n_Play_len ["self"] (defScope s_Play_len) := ⟨rfl, rfl, rfl, by decide +kernel, rfl, by decide +kernel, by decide +kernel⟩
abbrev n_checked_rules : List Str := ["rules", "found", "index", "rule"]
theorem sc_checked_rules : FnScope n_checked_rules ["rules"] (defScope s_checked_rules) := ⟨rfl, rfl, rfl, by decide +kernel, rfl, by decide +kernel, by decide +kernel⟩
abbrev n_can_be_done : List Str := ["step", "rules", "rule"]
theorem sc_can_be_done : FnScope n_can_be_done ["step", "rules"] (defScope s_can_be_done) := ⟨rfl, rfl, rfl, by decide +kernel, rfl, by decide +kernel, by decide +kernel⟩
abbrev n_steps_under : List Str := ["play", "rules", "found", "row", "word"]
theorem sc_steps_under : FnScope n_steps_under ["play", "rules"] (defScope s_steps_under) := ⟨rfl, rfl, rfl, by decide +kernel, rfl, by decide +kernel, by decide +kernel⟩
abbrev n_shortest_runs : List Str := ["table", "found", "waiting", "for_later", "here", "word"]
theorem sc_shortest_runs : FnScope n_shortest_runs ["table"] (defScope s_shortest_runs) := ⟨rfl, rfl, rfl, by decide +kernel, rfl, by decide +kernel, by decide +kernel⟩
abbrev n_break_run : List Str := ["play", "rules", "found", "runs", "stand"]
theorem sc_break_run : FnScope n_break_run ["play", "rules"] (defScope s_break_run) := ⟨rfl, rfl, rfl, by decide +kernel, rfl, by decide +kernel, by decide +kernel⟩
abbrev n_keeps : List Str := ["play", "rules"]
theorem sc_keeps : FnScope n_keeps ["play", "rules"] (defScope s_keeps) := ⟨rfl, rfl, rfl, by decide +kernel, rfl, by decide +kernel, by decide +kernel⟩
abbrev n_is_part : List Str := ["one", "other", "thing"]
theorem sc_is_part : FnScope n_is_part ["one", "other"] (defScope s_is_part) := ⟨rfl, rfl, rfl, by decide +kernel, rfl, by decide +kernel, by decide +kernel⟩
abbrev n_in_order : List Str := ["sets", "many", "one"]
theorem sc_in_order : FnScope n_in_order ["sets"] (defScope s_in_order) := ⟨rfl, rfl, rfl, by decide +kernel, rfl, by decide +kernel, by decide +kernel⟩
abbrev n_least_of : List Str := ["sets", "found", "one", "elder"]
theorem sc_least_of : FnScope n_least_of ["sets"] (defScope s_least_of) := ⟨rfl, rfl, rfl, by decide +kernel, rfl, by decide +kernel, by decide +kernel⟩
abbrev n_least_hitting : List Str := ["lots", "found", "lot", "longer", "one", "thing"]
theorem sc_least_hitting : FnScope n_least_hitting ["lots"] (defScope s_least_hitting) := ⟨rfl, rfl, rfl, by decide +kernel, rfl, by decide +kernel, by decide +kernel⟩
abbrev n_joined : List Str := ["bars", "rules", "rule"]
theorem sc_joined : FnScope n_joined ["bars", "rules"] (defScope s_joined) := ⟨rfl, rfl, rfl, by decide +kernel, rfl, by decide +kernel, by decide +kernel⟩
abbrev n_least_barrings : List Str := ["play", "found", "sizes", "waiting", "at", "here", "bars", "step", "more", "_", "one"]
theorem sc_least_barrings : FnScope n_least_barrings ["play"] (defScope s_least_barrings) := ⟨rfl, rfl, rfl, by decide +kernel, rfl, by decide +kernel, by decide +kernel⟩
abbrev n_threats : List Str := ["play", "known", "found", "stand"]
theorem sc_threats : FnScope n_threats ["play"] (defScope s_threats) := ⟨rfl, rfl, rfl, by decide +kernel, rfl, by decide +kernel, by decide +kernel⟩
abbrev n_least_sets : List Str := ["play"]
theorem sc_least_sets : FnScope n_least_sets ["play"] (defScope s_least_sets) := ⟨rfl, rfl, rfl, by decide +kernel, rfl, by decide +kernel, by decide +kernel⟩
abbrev n_greatest_breaking : List Str := ["play", "rules", "rule", "threat"]
theorem sc_greatest_breaking : FnScope n_greatest_breaking ["play"] (defScope s_greatest_breaking) := ⟨rfl, rfl, rfl, by decide +kernel, rfl, by decide +kernel, by decide +kernel⟩
abbrev n__law_x_play : List Str := ["_law_stream", "_law_names", "_law_many", "_law_steps", "_law_here", "_law_words", "_law_word", "_law_bars", "_law_other", "_law_sights", "_law_bad", "_law_side", "_law_stand"]
theorem sc__law_x_play : FnScope n__law_x_play ["_law_stream", "_law_names"] (defScope s__law_x_play) := ⟨rfl, rfl, rfl, by decide +kernel, rfl, by decide +kernel, by decide +kernel⟩
abbrev n__law_x_led : List Str := ["_law_stream", "_law_names", "_law_many", "_law_steps", "_law_number", "_law_lot", "_law_here", "_law_some", "_law_other", "_law_bars"]
theorem sc__law_x_led : FnScope n__law_x_led ["_law_stream", "_law_names"] (defScope s__law_x_led) := ⟨rfl, rfl, rfl, by decide +kernel, rfl, by decide +kernel, by decide +kernel⟩
abbrev n__law_x_some : List Str := ["_law_stream", "_law_names"]
theorem sc__law_x_some : FnScope n__law_x_some ["_law_stream"] (defScope s__law_x_some) := ⟨rfl, rfl, rfl, by decide +kernel, rfl, by decide +kernel, by decide +kernel⟩
abbrev n__law_x_made : List Str := ["_law_stream", "_law_drawn"]
theorem sc__law_x_made : FnScope n__law_x_made ["_law_stream", "_law_drawn"] (defScope s__law_x_made) := ⟨rfl, rfl, rfl, by decide +kernel, rfl, by decide +kernel, by decide +kernel⟩
abbrev n__law_x_names : List Str := ["_law_drawn", "_law_found", "_law_word", "_law_one", "_law_other", "_law_rules", "_law_sights", "_law_rule"]
theorem sc__law_x_names : FnScope n__law_x_names ["_law_drawn"] (defScope s__law_x_names) := ⟨rfl, rfl, rfl, by decide +kernel, rfl, by decide +kernel, by decide +kernel⟩
abbrev n__law_x_all : List Str := ["_law_names", "_law_found", "_law_level", "_law_k", "_law_longer", "_law_one", "_law_name"]
theorem sc__law_x_all : FnScope n__law_x_all ["_law_names"] (defScope s__law_x_all) := ⟨rfl, rfl, rfl, by decide +kernel, rfl, by decide +kernel, by decide +kernel⟩
abbrev n__law_x_in : List Str := ["_law_one", "_law_other", "_law_thing"]
theorem sc__law_x_in : FnScope n__law_x_in ["_law_one", "_law_other"] (defScope s__law_x_in) := ⟨rfl, rfl, rfl, by decide +kernel, rfl, by decide +kernel, by decide +kernel⟩
abbrev n__law_x_least : List Str := ["_law_sets", "_law_found", "_law_one", "_law_some"]
theorem sc__law_x_least : FnScope n__law_x_least ["_law_sets"] (defScope s__law_x_least) := ⟨rfl, rfl, rfl, by decide +kernel, rfl, by decide +kernel, by decide +kernel⟩
abbrev n__law_x_keeps : List Str := ["_law_drawn", "_law_rules", "_law_reached", "_law_stand"]
theorem sc__law_x_keeps : FnScope n__law_x_keeps ["_law_drawn", "_law_rules"] (defScope s__law_x_keeps) := ⟨rfl, rfl, rfl, by decide +kernel, rfl, by decide +kernel, by decide +kernel⟩
abbrev n__law_x_keeping : List Str := ["_law_drawn", "_law_one"]
theorem sc__law_x_keeping : FnScope n__law_x_keeping ["_law_drawn"] (defScope s__law_x_keeping) := ⟨rfl, rfl, rfl, by decide +kernel, rfl, by decide +kernel, by decide +kernel⟩
abbrev n__law_start : List Str := ["_law_script"]
theorem sc__law_start : FnScope n__law_start ["_law_script"] (defScope s__law_start) := ⟨rfl, rfl, rfl, by decide +kernel, rfl, by decide +kernel, by decide +kernel⟩
abbrev n__law_draw : List Str := ["_law_stream", "_law_many", "_law_cell", "_law_digit", "_law_mixed_here"]
theorem sc__law_draw : FnScope n__law_draw ["_law_stream", "_law_many"] (defScope s__law_draw) := ⟨rfl, rfl, rfl, by decide +kernel, rfl, by decide +kernel, by decide +kernel⟩
abbrev n__law_pick : List Str := ["_law_stream", "_law_some"]
theorem sc__law_pick : FnScope n__law_pick ["_law_stream", "_law_some"] (defScope s__law_pick) := ⟨rfl, rfl, rfl, by decide +kernel, rfl, by decide +kernel, by decide +kernel⟩
abbrev n__law_mixed : List Str := ["_law_stream", "_law_some", "_law_left", "_law_k"]
theorem sc__law_mixed : FnScope n__law_mixed ["_law_stream", "_law_some"] (defScope s__law_mixed) := ⟨rfl, rfl, rfl, by decide +kernel, rfl, by decide +kernel, by decide +kernel⟩
abbrev n__law_same : List Str := ["_law_found", "_law_due", "_law_x", "_law_y"]
theorem sc__law_same : FnScope n__law_same ["_law_found", "_law_due"] (defScope s__law_same) := ⟨rfl, rfl, rfl, by decide +kernel, rfl, by decide +kernel, by decide +kernel⟩
abbrev n__law_table : List Str := ["_law_many", "_law_steps", "_law_here", "_law_one", "_law_other", "_law_rules", "_law_sights", "_law_word"]
theorem sc__law_table : FnScope n__law_table ["_law_many", "_law_steps"] (defScope s__law_table) := ⟨rfl, rfl, rfl, by decide +kernel, rfl, by decide +kernel, by decide +kernel⟩
abbrev n__law_next : List Str := ["_law_table_here", "_law_rules", "_law_here", "_law_bars", "_law_other", "_law_rule", "_law_word"]
theorem sc__law_next : FnScope n__law_next ["_law_table_here", "_law_rules", "_law_here"] (defScope s__law_next) := ⟨rfl, rfl, rfl, by decide +kernel, rfl, by decide +kernel, by decide +kernel⟩
abbrev n__law_levels : List Str := ["_law_table_here", "_law_rules", "_law_found", "_law_now", "_law_many", "_law_later", "_law_here", "_law_word", "_law_other"]
theorem sc__law_levels : FnScope n__law_levels ["_law_table_here", "_law_rules"] (defScope s__law_levels) := ⟨rfl, rfl, rfl, by decide +kernel, rfl, by decide +kernel, by decide +kernel⟩
abbrev n__law_loose : List Str := ["_law_stream", "_law_thing", "_law_found", "_law_part"]
theorem sc__law_loose : FnScope n__law_loose ["_law_stream", "_law_thing"] (defScope s__law_loose) := ⟨rfl, rfl, rfl, by decide +kernel, rfl, by decide +kernel, by decide +kernel⟩
abbrev n__law_hit : List Str := ["_law_one", "_law_lots", "_law_lot", "_law_thing"]
theorem sc__law_hit : FnScope n__law_hit ["_law_one", "_law_lots"] (defScope s__law_hit) := ⟨rfl, rfl, rfl, by decide +kernel, rfl, by decide +kernel, by decide +kernel⟩
abbrev n__law_facts_right : List Str := ["_law_names", "_law_lots", "_law_least", "_law_greatest", "_law_every", "_law_rest", "_law_name", "_law_lot", "_law_one"]
theorem sc__law_facts_right : FnScope n__law_facts_right ["_law_names", "_law_lots", "_law_least", "_law_greatest"] (defScope s__law_facts_right) := ⟨rfl, rfl, rfl, by decide +kernel, rfl, by decide +kernel, by decide +kernel⟩
abbrev n__law_many_right : List Str := ["_law_stream", "_law_signs", "_law_pairs", "_law_steps", "_law_least", "_law_pair", "_law_lots", "_law_greatest", "_law_play", "_law_told", "_law_k", "_law_name", "_law_one"]
theorem sc__law_many_right : FnScope n__law_many_right ["_law_stream"] (defScope s__law_many_right) := ⟨rfl, rfl, rfl, by decide +kernel, rfl, by decide +kernel, by decide +kernel⟩
abbrev n_law : List Str := ["_law_script", "_law_stream", "_law_turn", "_law_drawn", "_law_play", "_law_names", "_law_keeping", "_law_every", "_law_least", "_law_greatest", "_law_one", "_law_more", "_law_told", "_law_some", "_law_name"]
theorem sc_law : FnScope n_law ["_law_script"] (defScope s_law) := ⟨rfl, rfl, rfl, by decide +kernel, rfl, by decide +kernel, by decide +kernel⟩
/-- a def of the module -/
def FnG (g : G) (x : Str) (st : Stmt) : Prop := ∃ f fd, g.mg x = some (.ref f) ∧ FunD g.K x x (defArgs st) (defBody st) (defScope st) [] [] f fd
def FnM (g : G) (C : Addr) (m q : Str) (st : Stmt) : Prop := ∃ f fd, Meth g.K C m f ∧ FunD g.K m q (defArgs st) (defBody st) (defScope st) [] [] f fd
structure Env (g : G) (C : Addr) : Prop where
  f_is_list : FnG g "is_list" s_is_list
  f_is_integer : FnG g "is_integer" s_is_integer
  f_is_number : FnG g "is_number" s_is_number
  f_is_name : FnG g "is_name" s_is_name
  f_is_word : FnG g "is_word" s_is_word
  f_as_word : FnG g "as_word" s_as_word
  f_are_names : FnG g "are_names" s_are_names
  f_each_once : FnG g "each_once" s_each_once
  f_is_stand : FnG g "is_stand" s_is_stand
  f_kept_step : FnG g "kept_step" s_kept_step
  f_checked_steps : FnG g "checked_steps" s_checked_steps
  f_checked_stands : FnG g "checked_stands" s_checked_stands
  f_checked_rules : FnG g "checked_rules" s_checked_rules
  f_can_be_done : FnG g "can_be_done" s_can_be_done
  f_steps_under : FnG g "steps_under" s_steps_under
  f_shortest_runs : FnG g "shortest_runs" s_shortest_runs
  f_break_run : FnG g "break_run" s_break_run
  f_keeps : FnG g "keeps" s_keeps
  f_is_part : FnG g "is_part" s_is_part
  f_in_order : FnG g "in_order" s_in_order
  f_least_of : FnG g "least_of" s_least_of
  f_least_hitting : FnG g "least_hitting" s_least_hitting
  f_joined : FnG g "joined" s_joined
  f_least_barrings : FnG g "least_barrings" s_least_barrings
  f_threats : FnG g "threats" s_threats
  f_least_sets : FnG g "least_sets" s_least_sets
  f_greatest_breaking : FnG g "greatest_breaking" s_greatest_breaking
  f__law_x_play : FnG g "_law_x_play" s__law_x_play
  f__law_x_led : FnG g "_law_x_led" s__law_x_led
  f__law_x_some : FnG g "_law_x_some" s__law_x_some
  f__law_x_made : FnG g "_law_x_made" s__law_x_made
  f__law_x_names : FnG g "_law_x_names" s__law_x_names
  f__law_x_all : FnG g "_law_x_all" s__law_x_all
  f__law_x_in : FnG g "_law_x_in" s__law_x_in
  f__law_x_least : FnG g "_law_x_least" s__law_x_least
  f__law_x_keeps : FnG g "_law_x_keeps" s__law_x_keeps
  f__law_x_keeping : FnG g "_law_x_keeping" s__law_x_keeping
  f__law_start : FnG g "_law_start" s__law_start
  f__law_draw : FnG g "_law_draw" s__law_draw
  f__law_pick : FnG g "_law_pick" s__law_pick
  f__law_mixed : FnG g "_law_mixed" s__law_mixed
  f__law_same : FnG g "_law_same" s__law_same
  f__law_table : FnG g "_law_table" s__law_table
  f__law_next : FnG g "_law_next" s__law_next
  f__law_levels : FnG g "_law_levels" s__law_levels
  f__law_loose : FnG g "_law_loose" s__law_loose
  f__law_hit : FnG g "_law_hit" s__law_hit
  f__law_facts_right : FnG g "_law_facts_right" s__law_facts_right
  f__law_many_right : FnG g "_law_many_right" s__law_many_right
  f_law : FnG g "law" s_law
  b_isinstance : g.mg "isinstance" = none
  b_len : g.mg "len" = none
  b_all : g.mg "all" = none
  b_any : g.mg "any" = none
  b_tuple : g.mg "tuple" = none
  b_list : g.mg "list" = none
  b_sorted : g.mg "sorted" = none
  b_dict : g.mg "dict" = none
  b_int : g.mg "int" = none
  b_str : g.mg "str" = none
  b_bool : g.mg "bool" = none
  b_enumerate : g.mg "enumerate" = none
  b_range : g.mg "range" = none
  b_min : g.mg "min" = none
  b_zip : g.mg "zip" = none
  t_SMALL : ∃ t, g.mg "SMALL" = some (.str "abcdefghijklmnopqrstuvwxyz" t)
  t_FIGURES : ∃ t, g.mg "FIGURES" = some (.str "0123456789" t)
  m_Play : g.mg "Play" = some (.ref C)
  cls : Cls g.K C
  mkr : ∃ f fd, Mk g.K C f ∧ FunD g.K "__init__" "Play.__init__" (defArgs s_Play_init) (defBody s_Play_init) (defScope s_Play_init) [] [] f fd
  m_steps : FnM g C "steps" "Play.steps" s_Play_steps
  m_rules : FnM g C "rules" "Play.rules" s_Play_rules
  m_len : FnM g C "__len__" "Play.__len__" s_Play_len
  n_table : NoAttr g.K C "own_table"
  n_bad : NoAttr g.K C "own_bad"
end Far
namespace Far
open PySem PySem.Spec PyProof.Rows L2 TL

theorem mkDef {g : G} {x : Str} {st : Stmt} {N ps : List Str} {k n : Nat} {ts : Tsp} (F : FnG g x st) (Sc : FnScope N ps (defScope st)) (hn : ps.length = n)
    (hb : ∀ (f : Addr) (kV doc pm : Value) (an : Option Addr) (cdv ct : Value) (us : List Value), us.length = ps.length → bindArgs (PySem.W.fnOf x x (defArgs st) (defBody st) (defScope st) .none kV doc pm an cdv ct) ⟨us, []⟩ = pure (ps.zip us))
    (h : ∀ us O Q, us.length = n → ts us O Q → WS g k (fS N (defScope st)) (rho N us) O (defBody st) { nx := fun _ O' => Q (.t .non) O', rt := Q }) : Def g x n (k + 1) ts := by
  obtain ⟨f, fd, h1, h2⟩ := F
  subst hn
  exact ⟨f, fd, ps, h1, h2.kp, FunD.bindsN h2 (hb f), fn_T h2 Sc h⟩
variable {g : G} {C : Addr}
/-! ### the plain predicates -/
theorem d_is_list (E : Env g C) : Def g "is_list" 1 1 (ptT fun ts P => ∃ t, ts = [t] ∧ noIns t = true ∧ P (.bl (isLT t))) := by
  refine mkDef E.f_is_list sc_is_list rfl (fun _ _ _ _ _ _ _ us hl => match us, hl with | [_], _ => rfl) ?_
  rintro us O Q hl ⟨rfl, ts, rfl, t, rfl, hn, q⟩
  exact ws_one (w1_ret (isiLT E.b_isinstance E.b_list E.b_tuple (v 0 rfl ⟨t, rfl, hn, q⟩)))
def isI (t : T) : Bool := isTy t "int" && !isTy t "bool"
theorem d_is_integer (E : Env g C) : Def g "is_integer" 1 1 (ptT fun ts P => ∃ t, ts = [t] ∧ noIns t = true ∧ P (.bl (isI t))) := by
  refine mkDef E.f_is_integer sc_is_integer rfl (fun _ _ _ _ _ _ _ us hl => match us, hl with | [_], _ => rfl) ?_
  rintro us O Q hl ⟨rfl, ts, rfl, t, rfl, hn, q⟩
  refine ws_one (w1_ret (w_and (isi E.b_isinstance E.b_int (v 0 rfl ⟨t, rfl, hn, _, rfl, fun hc => w_one (w_not (isi E.b_isinstance E.b_bool (v 0 rfl ⟨t, rfl, hn, _, rfl, ?_⟩))), fun hc => ?_⟩))))
  · unfold isI at q; rw [hc] at q; exact q
  · unfold isI at q; rw [hc] at q; exact q
theorem d_is_number (E : Env g C) : Def g "is_number" 1 2 (ptT fun ts P => ∃ i : Int, ts = [.int i] ∧ P (.bl (decide (0 ≤ i)))) := by
  refine mkDef E.f_is_number sc_is_number rfl (fun _ _ _ _ _ _ _ us hl => match us, hl with | [_], _ => rfl) ?_
  rintro us O Q hl ⟨rfl, ts, rfl, i, rfl, q⟩
  refine ws_one (w1_ret (w_and (cP (d_is_integer E) (v 0 rfl ⟨[.int i], rfl, .int i, rfl, rfl, _, rfl, fun hc => w_one ?_, fun hc => ?_⟩))))
  · exact w_cmp o_ge (v 0 rfl (w_int ⟨i, 0, rfl, rfl, True.intro, q⟩)) rfl
  · exact absurd hc (by simp [isI, isTy, tyT])
theorem at_nat {α : Type} {xs : List α} {j : Nat} {x : α} (h : xs[j]? = some x) : atI xs (j : Int) = some x := by
  have hj := (List.getElem?_eq_some_iff.mp h).1
  unfold atI ixN
  rw [if_pos (by omega), if_pos (by omega)]
  simpa using h
/-! ### names -/
abbrev SM : Str := "abcdefghijklmnopqrstuvwxyz"
abbrev FG : Str := "0123456789"
def nmOk (x : Str) : Bool := decide (1 ≤ x.length ∧ x.length ≤ 12) && (x.cps.toList.head?.any fun c => decide (c ∈ SM.cps.toList)) && x.cps.toList.all fun c => decide (c ∈ SM.cps.toList) || decide (c ∈ FG.cps.toList)
theorem nmOk_parts {x : Str} (h : nmOk x = true) : (1 ≤ x.length ∧ x.length ≤ 12) ∧ (∃ c r, x.cps.toList = c :: r ∧ c ∈ SM.cps.toList) ∧ ∀ c ∈ x.cps.toList, (decide (c ∈ SM.cps.toList) || decide (c ∈ FG.cps.toList)) = true := by
  unfold nmOk at h
  rw [Bool.and_eq_true, Bool.and_eq_true] at h
  obtain ⟨⟨h1, h2⟩, h3⟩ := h
  refine ⟨of_decide_eq_true h1, ?_, fun c hc => List.all_eq_true.mp h3 c hc⟩
  cases e : x.cps.toList with
  | nil => rw [e] at h2; cases h2
  | cons c r => rw [e] at h2; exact ⟨c, r, rfl, of_decide_eq_true h2⟩
theorem d_is_name (E : Env g C) : Def g "is_name" 1 1 (ptT fun ts P => ∃ x : Str, ts = [.str x] ∧ nmOk x = true ∧ P (.bl true)) := by
  refine mkDef E.f_is_name sc_is_name rfl (fun _ _ _ _ _ _ _ us hl => match us, hl with | [_], _ => rfl) ?_
  rintro us O Q hl ⟨rfl, ts, rfl, x, rfl, hx, q⟩
  obtain ⟨⟨h1, h12⟩, ⟨c, r, ec, hc⟩, hall⟩ := nmOk_parts hx
  have hz : x.length ≤ sizeLine := Nat.le_trans h12 (by decide)
  refine ws_cons (w1_if (wb_chain (wp_or (wb_not (wb_val (isi (ty := "str") E.b_isinstance E.b_str (v 0 rfl ⟨.str x, rfl, rfl, _, rfl, fun h => absurd h (by simp [isTy, tyT]), fun _ => ?_⟩)) fun _ _ => rfl)))))
  refine wp_or (wb_not (wb_chain3 o_le o_le (w_int (cB b_lenS E.b_len (v 0 rfl ⟨x, rfl, hz, _, _, rfl, rfl, True.intro, _, rfl, fun h => ?_, fun _ => w_int ⟨_, _, rfl, rfl, True.intro, _, rfl, fun h => ?_, fun _ => ?_⟩⟩)))))
  · exact absurd h (by simp; omega)
  · exact absurd h (by simp; omega)
  refine wp_one (wb_cmp o_nsign (w_ix x_str (v 0 rfl (w_int ⟨x, 0, c, rfl, rfl, hz, ?_, gs E.t_SMALL ⟨c, _, rfl, rfl, _, rfl, fun h => ?_, fun _ => ?_⟩⟩)) fun _ _ => rfl) rfl)
  · rw [ec]; exact at_nat (j := 0) rfl
  · exact absurd h (by rw [decide_eq_true (show c ∈ SM.cps.toList from hc)]; decide)
  refine ws_nil ?_
  refine ws_one (w1_ret (cB b_all E.b_all (lcA (α := Nat) [("sign", 1)] [1] (fun c => .t (.str ⟨#[c]⟩)) (fun _ => .bl true) (wi_str (v 0 rfl ⟨x, rfl, x.cps.toList, rfl, hz, fun d hd => ⟨_, gn 1, ?_⟩, .inl ⟨x.cps.toList.map fun _ => true, by rw [List.map_map]; rfl, ?_⟩⟩)))))
  · have hd := hall d hd
    refine w_or (w_cmp o_sign (v 1 rfl (gs E.t_SMALL ⟨d, _, rfl, rfl, _, rfl, fun h => ⟨rfl, rfl⟩, fun h => w_one (w_cmp o_sign (v 1 rfl (gs E.t_FIGURES ⟨d, _, rfl, rfl, ?_, rfl⟩)) rfl)⟩)) rfl)
    have h' : decide (d ∈ SM.cps.toList) = false := h
    rw [h', Bool.false_or] at hd
    show Vl.t (.bl (decide (d ∈ FG.cps.toList))) = _
    rw [hd]
  · have : (x.cps.toList.map fun _ => true).all id = true := by simp
    rw [this]
    exact q
end Far
namespace Far
open PySem PySem.Spec PyProof.Rows L2 TL
variable {g : G} {C : Addr}
/-! ### words -/
def wordD : Nat → T → Bool
  | _, .int _ => true
  | _, .str _ => true
  | d + 1, .lst xs => decide (xs.length ≤ 100) && xs.all (wordD d)
  | d + 1, .tup xs => decide (xs.length ≤ 100) && xs.all (wordD d)
  | _, _ => false
mutual
def asW : T → T
  | .lst xs => .tup (asWs xs)
  | .tup xs => .tup (asWs xs)
  | t => t
def asWs : List T → List T
  | [] => []
  | x :: xs => asW x :: asWs xs
end
theorem asWs_map : ∀ xs, asWs xs = xs.map asW
  | [] => rfl
  | x :: xs => by rw [asWs, asWs_map xs]; rfl
theorem wordD_seq {d : Nat} {t : T} {xs : List T} (e : t = .lst xs ∨ t = .tup xs) (h : wordD d t = true) : ∃ d', d = d' + 1 ∧ xs.length ≤ 100 ∧ ∀ x ∈ xs, wordD d' x = true := by
  cases d with
  | zero => rcases e with rfl | rfl <;> simp [wordD] at h
  | succ d =>
    refine ⟨d, rfl, ?_⟩
    rcases e with rfl | rfl <;> (simp only [wordD, Bool.and_eq_true, decide_eq_true_eq, List.all_eq_true] at h; exact h)
theorem wordD_cases {d : Nat} {t : T} (h : wordD d t = true) : (∃ i, t = .int i) ∨ (∃ x, t = .str x) ∨ ∃ xs, t = .lst xs ∨ t = .tup xs := by
  cases t with
  | int i => exact .inl ⟨i, rfl⟩
  | str x => exact .inr (.inl ⟨x, rfl⟩)
  | lst xs => exact .inr (.inr ⟨xs, .inl rfl⟩)
  | tup xs => exact .inr (.inr ⟨xs, .inr rfl⟩)
  | _ => cases d <;> simp [wordD] at h
theorem wordD_noIns {d : Nat} {t : T} (h : wordD d t = true) : noIns t = true := by
  rcases wordD_cases h with ⟨i, rfl⟩ | ⟨x, rfl⟩ | ⟨xs, rfl | rfl⟩ <;> rfl
/-- walking a name that is a list or a tuple -/
theorem wiv {k : Nat} {S : Sx} {ρ : Rho} {O : Store} {tg : Expr} {pos : Pos} {x : Str} (i : Nat) {t : T} {ts : List T} {Q : List Vl → Store → Prop} (e : t = .lst ts ∨ t = .tup ts) (hρ : ρ[i]? = some (some (.t t))) (q : Q (ts.map Vl.t) O) (hN : S.N[i]? = some x := by rfl) (hv : Vis S.sc x := by first | exact .inl rfl | exact .inr (.inl rfl) | exact .inr (.inr rfl))
    (hd : (x == ("__debug__" : Str)) = false := by decide) (hcd : (x == ("__classdict__" : Str)) = false := by decide) : WI g k S ρ O tg (.Name x pos) Q := by
  rcases e with rfl | rfl
  · exact wi_list (v i hρ ⟨ts, rfl, q⟩ hN hv hd hcd)
  · exact wi_tup (v i hρ ⟨ts, rfl, q⟩ hN hv hd hcd)
theorem isLT_seq {t : T} {xs : List T} (e : t = .lst xs ∨ t = .tup xs) : isLT t = true ∧ isI t = false ∧ isTy t "str" = false ∧ isTy t "dict" = false ∧ noIns t = true := by
  rcases e with rfl | rfl <;> simp [isLT, isI, isTy, tyT, noIns]
theorem all_true (n : List T) : (n.map fun _ => true).all id = true := by simp
theorem d_is_word (E : Env g C) : ∀ d, Def g "is_word" 1 (d + 2) (ptT fun ts P => ∃ t, ts = [t] ∧ wordD d t = true ∧ P (.bl true)) := by
  intro d
  induction d with
  | zero =>
    refine mkDef E.f_is_word sc_is_word rfl (fun _ _ _ _ _ _ _ us hl => match us, hl with | [_], _ => rfl) ?_
    rintro us O Q hl ⟨rfl, ts, rfl, t, rfl, hw, q⟩
    refine ws_one (w1_ret (w_or (cP (d_is_integer E) (v 0 rfl ⟨[t], rfl, t, rfl, wordD_noIns hw, _, rfl, fun _ => q, fun h1 => ?_⟩))))
    refine w_or (isi (ty := "str") E.b_isinstance E.b_str (v 0 rfl ⟨t, rfl, wordD_noIns hw, _, rfl, fun _ => q, fun h2 => ?_⟩))
    rcases wordD_cases hw with ⟨i, rfl⟩ | ⟨x, rfl⟩ | ⟨xs, e⟩
    · exact absurd h1 (by simp [isI, isTy, tyT])
    · exact absurd h2 (by simp [isTy, tyT])
    · obtain ⟨d', e', _⟩ := wordD_seq e hw
      exact absurd e' (by omega)
  | succ d ih =>
    refine mkDef E.f_is_word sc_is_word rfl (fun _ _ _ _ _ _ _ us hl => match us, hl with | [_], _ => rfl) ?_
    rintro us O Q hl ⟨rfl, ts, rfl, t, rfl, hw, q⟩
    refine ws_one (w1_ret (w_or (cP (d_is_integer E) (v 0 rfl ⟨[t], rfl, t, rfl, wordD_noIns hw, _, rfl, fun _ => q, fun h1 => ?_⟩))))
    refine w_or (isi (ty := "str") E.b_isinstance E.b_str (v 0 rfl ⟨t, rfl, wordD_noIns hw, _, rfl, fun _ => q, fun h2 => ?_⟩))
    rcases wordD_cases hw with ⟨i, rfl⟩ | ⟨x, rfl⟩ | ⟨xs, e⟩
    · exact absurd h1 (by simp [isI, isTy, tyT])
    · exact absurd h2 (by simp [isTy, tyT])
    · obtain ⟨d', e', hx, hall⟩ := wordD_seq e hw
      obtain rfl : d = d' := by omega
      refine w_one (w_and (cP (d_is_list E) (v 0 rfl ⟨[t], rfl, t, rfl, wordD_noIns hw, _, rfl, fun _ => w_one ?_, fun h => absurd h (by rw [(isLT_seq e).1]; decide)⟩)))
      refine cB b_all E.b_all (lcA (α := T) [("part", 1)] [1] (fun t => .t t) (fun _ => .bl true) (wiv 0 e rfl ⟨xs, rfl, Nat.le_trans hx (by decide), fun d hd => ⟨_, gn 1, cP ih (v 1 rfl ⟨[d], rfl, d, rfl, hall d hd, rfl, rfl⟩)⟩, .inl ⟨xs.map fun _ => true, by rw [List.map_map]; rfl, ?_⟩⟩))
      rw [all_true]
      exact q
theorem d_as_word (E : Env g C) : ∀ d, Def g "as_word" 1 (d + 2) (ptT fun ts P => ∃ t, ts = [t] ∧ wordD d t = true ∧ P (asW t)) := by
  intro d
  induction d with
  | zero =>
    refine mkDef E.f_as_word sc_as_word rfl (fun _ _ _ _ _ _ _ us hl => match us, hl with | [_], _ => rfl) ?_
    rintro us O Q hl ⟨rfl, ts, rfl, t, rfl, hw, q⟩
    refine ws_one (w1_ret (w_if (wb_val (cP (d_is_list E) (v 0 rfl ⟨[t], rfl, t, rfl, wordD_noIns hw, _, rfl, fun h => ?_, fun h => v 0 rfl ?_⟩)) fun _ _ => rfl)))
    · rcases wordD_cases hw with ⟨i, rfl⟩ | ⟨x, rfl⟩ | ⟨xs, e⟩
      · exact absurd h (by simp [isLT, isTy, tyT])
      · exact absurd h (by simp [isLT, isTy, tyT])
      · obtain ⟨d', e', _⟩ := wordD_seq e hw
        exact absurd e' (by omega)
    · rcases wordD_cases hw with ⟨i, rfl⟩ | ⟨x, rfl⟩ | ⟨xs, e⟩
      · exact q
      · exact q
      · exact absurd h (by rw [(isLT_seq e).1]; decide)
  | succ d ih =>
    refine mkDef E.f_as_word sc_as_word rfl (fun _ _ _ _ _ _ _ us hl => match us, hl with | [_], _ => rfl) ?_
    rintro us O Q hl ⟨rfl, ts, rfl, t, rfl, hw, q⟩
    refine ws_one (w1_ret (w_if (wb_val (cP (d_is_list E) (v 0 rfl ⟨[t], rfl, t, rfl, wordD_noIns hw, _, rfl, fun h => ?_, fun h => v 0 rfl ?_⟩)) fun _ _ => rfl)))
    · rcases wordD_cases hw with ⟨i, rfl⟩ | ⟨x, rfl⟩ | ⟨xs, e⟩
      · exact absurd h (by simp [isLT, isTy, tyT])
      · exact absurd h (by simp [isLT, isTy, tyT])
      · obtain ⟨d', e', hx, hall⟩ := wordD_seq e hw
        obtain rfl : d = d' := by omega
        refine cT b_tuple E.b_tuple (lcA (α := T) [("part", 1)] [1] (fun t => .t t) asW (wiv 0 e rfl ⟨xs, rfl, Nat.le_trans hx (by decide), fun d hd => ⟨_, gn 1, cP ih (v 1 rfl ⟨[d], rfl, d, rfl, hall d hd, rfl, rfl⟩)⟩, .inl ⟨xs.map asW, .inl rfl, ?_⟩⟩))
        rcases e with rfl | rfl
        · rw [← asWs_map]; exact q
        · rw [← asWs_map]; exact q
    · rcases wordD_cases hw with ⟨i, rfl⟩ | ⟨x, rfl⟩ | ⟨xs, e⟩
      · exact q
      · exact q
      · exact absurd h (by rw [(isLT_seq e).1]; decide)
/-! ### names, once each -/
theorem ddK_nodup : ∀ (ks acc : List NestedKey), (acc ++ ks).Nodup → ks.foldl dputK acc = acc ++ ks
  | [], acc, _ => by simp
  | k :: ks, acc, h => by
    have hn : k ∉ acc := fun q => (List.nodup_append.mp h).2.2 _ q _ List.mem_cons_self rfl
    rw [List.foldl_cons, dputK_new hn, ddK_nodup ks (acc ++ [k]) (by simpa using h)]
    simp
theorem kT_text (xs : List Str) : sT xs = (xs.map NestedKey.text).map kT := by rw [List.map_map]; rfl
theorem texts_nk (xs : List Str) : xs.map NestedKey.text = (xs.map Sum.inr : List Key).map nk := by rw [List.map_map]; rfl
theorem texts_nodup {xs : List Str} (h : xs.Nodup) : (xs.map NestedKey.text).Nodup := nodup_map (fun _ _ e => by injection e) h
theorem d_are_names (E : Env g C) : Def g "are_names" 1 2 (ptT fun ts P => ∃ t xs, ts = [t] ∧ (t = .lst (sT xs) ∨ t = .tup (sT xs)) ∧ (∀ x ∈ xs, nmOk x = true) ∧ xs.Nodup ∧ xs.length ≤ 100 ∧ P (.bl true)) := by
  refine mkDef E.f_are_names sc_are_names rfl (fun _ _ _ _ _ _ _ us hl => match us, hl with | [_], _ => rfl) ?_
  rintro us O Q hl ⟨rfl, ts, rfl, t, xs, rfl, e, hx, nd, hz, q⟩
  have hz' : xs.length < sizeLine := Nat.lt_of_le_of_lt hz (by decide)
  refine ws_cons (w1_if (wb_chain (wp_or (wb_not (wb_val (cP (d_is_list E) (v 0 rfl ⟨[t], rfl, t, rfl, (isLT_seq e).2.2.2.2, _, rfl, fun h => absurd h (by rw [(isLT_seq e).1]; decide), fun _ => ?_⟩)) fun _ _ => rfl)))))
  refine wp_one (wb_not (wb_val (cB b_all E.b_all (lcA (α := Str) [("name", 1)] [1] (fun x => .t (.str x)) (fun _ => .bl true) (wiv 0 e rfl ⟨xs, by rw [List.map_map]; rfl, Nat.le_of_lt hz', fun d hd => ⟨_, gn 1, cP (d_is_name E) (v 1 rfl ⟨[.str d], rfl, d, rfl, hx d hd, rfl, rfl⟩)⟩, .inl ⟨xs.map fun _ => true, by rw [List.map_map]; rfl, _, rfl, fun h => absurd h (by simp), fun _ => ?_⟩⟩))) fun _ _ => rfl))
  refine ws_nil (ws_one (w1_ret (w_cmp o_eq (cB b_lenD E.b_len (dcK (α := Str) [("name", 1)] [1] (fun x => .t (.str x)) NestedKey.text (.bl true) (wiv 0 e rfl ⟨xs, by rw [List.map_map]; rfl, hz', fun d hd => ⟨_, gn 1, v 1 rfl ⟨rfl, Nat.zero_le _, rfl, w_bl ⟨rfl, rfl⟩⟩⟩, xs.map Sum.inr, List.replicate xs.length (.bl true), ?_, cB b_len E.b_len (v 0 rfl ⟨sT xs, ?_, .int xs.length, .int xs.length, ?_, ?_, rfl, rfl, ?_⟩)⟩))) rfl)))
  · have : ddK (xs.map NestedKey.text) = xs.map NestedKey.text := by
      have := ddK_nodup (xs.map NestedKey.text) [] (by simpa using texts_nodup nd)
      simpa [ddK] using this
    rw [this, ← texts_nk, List.length_map]
  · rcases e with rfl | rfl
    · exact .inl rfl
    · exact .inr rfl
  · simp
  · simp
  · have : TL.eqT (.int xs.length) (.int xs.length) = true := by simp [TL.eqT, toD, PyData.eqv]
    rw [this]
    exact q
end Far
namespace Far
open PySem PySem.Spec PyProof.Rows L2 TL
variable {g : G} {C : Addr}
section
variable {k : Nat} {S : Sx} {ρ : Rho} {O : Store} {pos : Pos}
theorem pt {o i e : Expr} {p' : Pos} {tr} {D : TD} (ho : BSet g k tr)
    (h : W g k S ρ O e fun v O1 => W g k S ρ O1 o fun d O2 => W g k S ρ O2 i fun j O3 => tr d j v O3 fun O4 => D.nx ρ O4)
    (ha : ∀ (X : Cx) (to ti : TE) (t : TSet), PE X o to → PE X i ti → PSet X t → PG X (.Subscript o i p') (gSub to ti t) := by intro X to ti t a b c; exact pg_sub a b c)
    (hs : ∀ env, swapsWithSole [.Subscript o i p'] e pos.line env = pure false := by intro _; rfl) (hw : ∀ env, swappedStores [.Subscript o i p'] e env = pure none := by intro _; rfl)
    (h1 : ∀ env, (assignEach [.Subscript o i p'] env).map (·.2) = [assign (.Subscript o i p') env] := by intro _; rfl) : W1 g k S ρ O (.Assign [.Subscript o i p'] e pos) D := w1_put ho hs hw h1 ha h
/-- for, over what is walked -/
theorem fr {tg iter : Expr} {body : List Stmt} {D : TD}
    (h : WI g k S ρ O tg iter fun xs O1 => ∃ I : Nat → Rho → Store → Prop, I 0 ρ O1 ∧ (∀ i u ρ1 O2, xs[i]? = some u → I i ρ1 O2 → ∃ is ρ2, WG g k S tg is u ρ1 ρ2 ∧ WS g k S ρ2 O2 body { D with nx := I (i + 1), ct := I (i + 1), bk := D.nx }) ∧
      ∀ ρ1 O2, I xs.length ρ1 O2 → D.nx ρ1 O2) (hf : ∀ env x, foldedSetIterable iter env x = pure x := by intro _ _; rfl) : W1 g k S ρ O (.For tg iter body [] pos) D := w1_for hf h
theorem ddK_snoc {ks : List NestedKey} {i : Nat} {k : NestedKey} (h : ks[i]? = some k) : ddK (ks.take (i + 1)) = dputK (ddK (ks.take i)) k := by
  obtain ⟨hi, rfl⟩ := List.getElem?_eq_some_iff.mp h
  rw [List.take_succ_eq_append_getElem hi]
  unfold ddK
  rw [List.foldl_append]
  rfl
theorem dputV_rep (c : Vl) (k : NestedKey) : ∀ ks : List NestedKey, dputV ks (List.replicate ks.length c) k c = List.replicate (dputK ks k).length c := by
  intro ks
  have l := dput_len (k := k) (v := c) (ks := ks) (xs := List.replicate ks.length c) (by simp)
  rw [l]
  refine List.eq_replicate_iff.mpr ⟨rfl, fun b hbm => ?_⟩
  clear l
  induction ks with
  | nil => simpa [dputV] using hbm
  | cons k' ks ih =>
    rw [List.length_cons, List.replicate_succ] at hbm
    unfold dputV at hbm
    by_cases q : k' = k
    · rw [if_pos q] at hbm
      rcases List.mem_cons.mp hbm with e | hm
      · exact e
      · exact (List.mem_replicate.mp hm).2
    · rw [if_neg q] at hbm
      rcases List.mem_cons.mp hbm with e | hm
      · exact e
      · exact ih hm
theorem dputK_len (ks : List NestedKey) (k : NestedKey) : (dputK ks k).length ≤ ks.length + 1 := by
  unfold dputK; split
  · omega
  · simp
theorem ddK_len : ∀ (ks : List NestedKey), (ddK ks).length ≤ ks.length := by
  have all : ∀ (ks acc : List NestedKey), (ks.foldl dputK acc).length ≤ acc.length + ks.length := by
    intro ks
    induction ks with
    | nil => intro acc; simp
    | cons k ks ih =>
      intro acc
      rw [List.foldl_cons]
      have h1 := ih (dputK acc k)
      have h2 := dputK_len acc k
      simp only [List.length_cons]
      omega
  intro ks
  have := all ks []
  simpa [ddK] using this
end
/-! ### each_once, is_stand -/
theorem d_each_once (E : Env g C) : Def g "each_once" 1 1 (ptT fun ts P => ∃ t ks, ts = [t] ∧ (t = .lst (ks.map kT) ∨ t = .tup (ks.map kT)) ∧ (∀ k ∈ ks, k.depth ≤ 8) ∧ ks.length < sizeLine ∧ P (.lst ((ddK ks).map kT))) := by
  refine mkDef E.f_each_once sc_each_once rfl (fun _ _ _ _ _ _ _ us hl => match us, hl with | [_], _ => rfl) ?_
  rintro us O Q hl ⟨rfl, ts, rfl, t, ks, rfl, e, hd, hz, q⟩
  refine ws_cons (st 1 (w_dnew (.inr fun a ha => ?_)))
  refine ws_cons (fr (wiv 0 e rfl ⟨fun i ρ1 O2 => ∃ x, ρ1 = [some (.t t), some (.cell a), x] ∧ O2 = sup noS a (.dic (ddK (ks.take i)) (List.replicate (ddK (ks.take i)).length (.t (.bl true)))), ⟨none, rfl, rfl⟩, ?_, ?_⟩))
  · rintro i u ρ1 O2 hu ⟨x, rfl, rfl⟩
    obtain ⟨tk, h1, rfl⟩ := map_get hu
    obtain ⟨k, h2, rfl⟩ := map_get h1
    have hm := List.mem_of_getElem? h2
    have hl : (ddK (ks.take i)).length < sizeLine := by
      have h1 := ddK_len (ks.take i)
      have h2 := List.length_take_le i ks
      have h3 : (ks.take i).length ≤ ks.length := by rw [List.length_take]; omega
      omega
    refine ⟨[2], _, gn 2, ws_one (pt s_dic (w_bl (v 1 rfl (v 2 rfl ⟨a, k, _, _, rfl, sup_same, rfl, hd k hm, hl, ?_⟩))))⟩
    refine ⟨_, rfl, ?_⟩
    rw [sup_sup, dputV_rep, ddK_snoc h2]
  · rintro ρ1 O2 ⟨x, rfl, rfl⟩
    rw [List.length_map, List.length_map, List.take_length]
    refine ws_one (w1_ret (w_frzE (ρ' := [some (.t t), some (.t (.dic (ddK ks) (List.replicate (ddK ks).length (.bl true)))), x]) Split.all (.keep (.frz (Frz.flatD (by rw [sup_same, List.map_replicate])) (.keep .nil))) (cT b_listD E.b_list (v 1 rfl ⟨_, _, rfl, q⟩))))
theorem d_is_stand (E : Env g C) : Def g "is_stand" 2 3 (ptT fun ts P => ∃ i m : Int, ts = [.int i, .int m] ∧ 0 ≤ i ∧ i < m ∧ P (.bl true)) := by
  refine mkDef E.f_is_stand sc_is_stand rfl (fun _ _ _ _ _ _ _ us hl => match us, hl with | [_, _], _ => rfl) ?_
  rintro us O Q hl ⟨rfl, ts, rfl, i, m, rfl, h0, h1, q⟩
  refine ws_one (w1_ret (w_and (cP (d_is_number E) (v 0 rfl ⟨[.int i], rfl, i, rfl, _, rfl, fun _ => w_one (w_cmp o_lt (v 0 rfl (v 1 rfl ⟨i, m, rfl, rfl, True.intro, ?_⟩)) rfl), fun h => absurd h (by simpa using h0)⟩))))
  show Q (.t (.bl (decide (i < m)))) noS
  rw [decide_eq_true h1]
  exact q
end Far
namespace Far
open PySem PySem.Spec PyProof.Rows L2 TL
variable {g : G} {C : Addr}
/-! ### kept_step -/
/-- a step as it is given: t reads as the word w .. -/
structure RawS where
  w : NestedKey
  one : Nat
  other : Nat
  rules : List Str
  sk : List Str
  sv : List T
/-- t is such a step, lists or tuples as it comes -/
def IsRaw (r : RawS) (t : T) : Prop := ∃ w' rt, (t = .lst [w', .int r.one, .int r.other, rt, .dic (r.sk.map .text) r.sv] ∨ t = .tup [w', .int r.one, .int r.other, rt, .dic (r.sk.map .text) r.sv]) ∧ (rt = .lst (sT r.rules) ∨ rt = .tup (sT r.rules)) ∧ wordD 2 w' = true ∧ asW w' = kT r.w
structure RawOk (n : Nat) (r : RawS) : Prop where
  dep : r.w.depth ≤ 8
  one : r.one < n
  other : r.other < n
  names : ∀ x ∈ r.rules, nmOk x = true
  nd : r.rules.Nodup
  len : r.rules.length ≤ 50
  sides : ∀ x ∈ r.sk, nmOk x = true
  snd : r.sk.Nodup
  sl : r.sk.length ≤ 50
  svl : r.sk.length = r.sv.length
  sv : ∀ t ∈ r.sv, wordD 2 t = true
theorem nms5 {S : Sx} {x1 x2 x3 x4 x5 : Str} {p1 p2 p3 p4 p5 : Pos} {i1 i2 i3 i4 i5 : Nat} (h1 : S.N[i1]? = some x1) (l1 : LocS S x1) (h2 : S.N[i2]? = some x2) (l2 : LocS S x2) (h3 : S.N[i3]? = some x3) (l3 : LocS S x3) (h4 : S.N[i4]? = some x4) (l4 : LocS S x4) (h5 : S.N[i5]? = some x5) (l5 : LocS S x5) :
    Nms S [.Name x1 p1, .Name x2 p2, .Name x3 p3, .Name x4 p4, .Name x5 p5] [i1, i2, i3, i4, i5] := .cons h1 l1 (.cons h2 l2 (.cons h3 l3 (.cons h4 l4 (.cons h5 l5 .nil))))
theorem put5 {ρ : Rho} {i1 i2 i3 i4 i5 : Nat} {t1 t2 t3 t4 t5 : T} : Put [i1, i2, i3, i4, i5] ([t1, t2, t3, t4, t5].map Vl.t) ρ (((((ρ.set i1 (some (.t t1))).set i2 (some (.t t2))).set i3 (some (.t t3))).set i4 (some (.t t4))).set i5 (some (.t t5))) :=
  .cons _ _ _ _ _ _ (.cons _ _ _ _ _ _ (.cons _ _ _ _ _ _ (.cons _ _ _ _ _ _ (.cons _ _ _ _ _ _ (.nil _)))))
theorem wg5 {k : Nat} {S : Sx} {ρ : Rho} {x1 x2 x3 x4 x5 : Str} {p1 p2 p3 p4 p5 pos : Pos} {kk : Nat} {t t1 t2 t3 t4 t5 : T} (i1 i2 i3 i4 i5 : Nat) (e : t = .lst [t1, t2, t3, t4, t5] ∨ t = .tup [t1, t2, t3, t4, t5])
    (h1 : S.N[i1]? = some x1 := by rfl) (h2 : S.N[i2]? = some x2 := by rfl) (h3 : S.N[i3]? = some x3 := by rfl) (h4 : S.N[i4]? = some x4 := by rfl) (h5 : S.N[i5]? = some x5 := by rfl)
    (l1 : LocS S x1 := by first | exact ⟨.inl rfl, .inr rfl⟩ | exact ⟨.inr rfl, .inl rfl⟩) (l2 : LocS S x2 := by first | exact ⟨.inl rfl, .inr rfl⟩ | exact ⟨.inr rfl, .inl rfl⟩) (l3 : LocS S x3 := by first | exact ⟨.inl rfl, .inr rfl⟩ | exact ⟨.inr rfl, .inl rfl⟩)
    (l4 : LocS S x4 := by first | exact ⟨.inl rfl, .inr rfl⟩ | exact ⟨.inr rfl, .inl rfl⟩) (l5 : LocS S x5 := by first | exact ⟨.inl rfl, .inr rfl⟩ | exact ⟨.inr rfl, .inl rfl⟩) :
    WG g k S (.Tuple [.Name x1 p1, .Name x2 p2, .Name x3 p3, .Name x4 p4, .Name x5 p5] kk pos) [i1, i2, i3, i4, i5] (.t t) ρ (((((ρ.set i1 (some (.t t1))).set i2 (some (.t t2))).set i3 (some (.t t3))).set i4 (some (.t t4))).set i5 (some (.t t5))) := by
  rcases e with rfl | rfl
  · exact wg_lst (nms5 h1 l1 h2 l2 h3 l3 h4 l4 h5 l5) put5 fun _ => ⟨rfl, rfl⟩
  · exact wg_tup (nms5 h1 l1 h2 l2 h3 l3 h4 l4 h5 l5) put5 fun _ => ⟨rfl, rfl⟩
theorem seq_len {t : T} {xs : List T} (e : t = .lst xs ∨ t = .tup xs) : [Vl.t t] = [.t (.lst xs)] ∨ [Vl.t t] = [.t (.tup xs)] := by rcases e with rfl | rfl <;> simp
theorem seq_vl {t : T} {xs : List T} (e : t = .lst xs ∨ t = .tup xs) : Vl.t t = .t (.lst xs) ∨ Vl.t t = .t (.tup xs) := by rcases e with rfl | rfl <;> simp
theorem dget_map {α β : Type} (f : α → β) (k : NestedKey) : ∀ (ks : List NestedKey) (xs : List α), dget ks (xs.map f) k = (dget ks xs k).map f
  | [], _ => by simp [dget]
  | _ :: _, [] => by simp [dget]
  | k' :: ks, x :: xs => by
    rw [List.map_cons]
    unfold dget
    by_cases h : k' = k
    · rw [if_pos h, if_pos h]; rfl
    · rw [if_neg h, if_neg h]; exact dget_map f k ks xs
theorem dget_mem {α : Type} {k : NestedKey} : ∀ {ks : List NestedKey} {xs : List α} {x : α}, dget ks xs k = some x → x ∈ xs
  | [], _, _, h => by simp [dget] at h
  | _ :: _, [], _, h => by simp [dget] at h
  | k' :: ks, y :: xs, x, h => by
    unfold dget at h
    by_cases e : k' = k
    · rw [if_pos e] at h; cases h; exact List.mem_cons_self
    · rw [if_neg e] at h; exact List.mem_cons_of_mem _ (dget_mem h)
theorem d_kept_step (E : Env g C) : Def g "kept_step" 2 5 (ptT fun ts P => ∃ t r n, ts = [t, .int (n : Nat)] ∧ IsRaw r t ∧ RawOk n r ∧ ∀ (ys : List Str) (vs : List T), ys.Nodup → ys.length = vs.length → P (.tup [kT r.w, .int r.one, .int r.other, SetT (sortS r.rules), .dic (ys.map .text) vs])) := by
  refine mkDef E.f_kept_step sc_kept_step rfl (fun _ _ _ _ _ _ _ us hl => match us, hl with | [_, _], _ => rfl) ?_
  rintro us O Q hl ⟨rfl, ts, rfl, t, r, n, rfl, ⟨w', rt, e, ert, hw, ew⟩, ok, q⟩
  refine ws_cons (w1_if (wb_chain (wp_or (wb_not (wb_val (cP (d_is_list E) (v 0 rfl ⟨[t], rfl, t, rfl, (isLT_seq e).2.2.2.2, _, rfl, fun h => absurd h (by rw [(isLT_seq e).1]; decide), fun _ => ?_⟩)) fun _ _ => rfl)))))
  refine wp_or (wb_cmp o_ne (cB b_len E.b_len (v 0 rfl ⟨_, seq_len e, w_int ⟨.int 5, .int 5, rfl, rfl, rfl, rfl, _, rfl, fun h => absurd h (by decide), fun _ => ?_⟩⟩)) rfl)
  refine wp_one (wb_not (wb_val (cP (d_is_word E 2) (w_ix x_seq (v 0 rfl (w_int ⟨_, 0, w', seq_vl e, rfl, at_nat (j := 0) rfl, [w'], rfl, w', rfl, hw, _, rfl, fun h => absurd h (by decide), fun _ => ?_⟩)) fun _ _ => rfl)) fun _ _ => rfl))
  refine ws_nil (ws_cons (w1_asg (fun _ => rfl) (fun _ => rfl) (fun _ => rfl) (v 0 rfl ⟨_, _, wg5 2 3 4 5 6 e, ?_⟩)))
  have h1 : (0 : Int) ≤ r.one := Int.natCast_nonneg _
  have h2 : (0 : Int) ≤ r.other := Int.natCast_nonneg _
  have h3 : (r.one : Int) < n := by have := ok.one; omega
  have h4 : (r.other : Int) < n := by have := ok.other; omega
  refine ws_cons (w1_if (wb_chain (wp_or (wb_not (wb_val (cP (d_is_stand E) (v 3 rfl (v 1 rfl ⟨[.int r.one, .int n], rfl, r.one, n, rfl, h1, h3, _, rfl, fun h => absurd h (by decide), fun _ => ?_⟩))) fun _ _ => rfl)))))
  refine wp_or (wb_not (wb_val (cP (d_is_stand E) (v 4 rfl (v 1 rfl ⟨[.int r.other, .int n], rfl, r.other, n, rfl, h2, h4, _, rfl, fun h => absurd h (by decide), fun _ => ?_⟩))) fun _ _ => rfl))
  refine wp_or (wb_not (wb_val (cP (d_are_names E) (v 5 rfl ⟨[rt], rfl, rt, r.rules, rfl, ert, ok.names, ok.nd, Nat.le_trans ok.len (by decide), _, rfl, fun h => absurd h (by decide), fun _ => ?_⟩)) fun _ _ => rfl))
  refine wp_one (wb_not (wb_val (isi (ty := "dict") E.b_isinstance E.b_dict (v 6 rfl ⟨_, rfl, rfl, _, rfl, fun h => absurd h (by simp [isTy, tyT]), fun _ => ?_⟩)) fun _ _ => rfl))
  have val : ∀ y ∈ r.sk, ∃ u, dget (r.sk.map NestedKey.text) r.sv (.text y) = some u ∧ wordD 2 u = true := fun y hy => by
    obtain ⟨u, hu⟩ := dget_some (k := .text y) (ks := r.sk.map NestedKey.text) (xs := r.sv) (by rw [List.length_map]; exact ok.svl) (List.mem_map.mpr ⟨y, hy, rfl⟩)
    exact ⟨u, hu, ok.sv u (dget_mem hu)⟩
  have sz : r.sk.length ≤ sizeLine := Nat.le_trans ok.sl (by decide)
  refine ws_nil (ws_cons (w1_if (wb_not (wb_val (cB b_all E.b_all (lcA (α := Str) [("side", 7)] [7] (fun x => .t (.str x)) (fun _ => .bl true) (wi_dic (v 6 rfl ⟨r.sk.map .text, r.sv, rfl, r.sk, by rw [List.map_map]; rfl, sz, fun y hy => ⟨_, gn 7, ?_⟩, .inl ⟨r.sk.map fun _ => true, by rw [List.map_map]; rfl, _, rfl, fun h => absurd h (by simp), fun _ => ?_⟩⟩)))) fun _ _ => rfl))))
  · obtain ⟨u, hu, hwu⟩ := val y hy
    refine w_and (cP (d_is_name E) (v 7 rfl ⟨[.str y], rfl, y, rfl, ok.sides y hy, _, rfl, fun _ => w_one (cP (d_is_word E 2) (w_ix x_dic (v 6 rfl (v 7 rfl ⟨.text y, _, _, _, rfl, .inl ⟨_, rfl, rfl⟩, Nat.zero_le _, ?_, [u], rfl, u, rfl, hwu, rfl, rfl⟩)) fun _ _ => rfl)), fun h => absurd h (by decide)⟩))
    rw [dget_map, hu]; rfl
  · obtain ⟨s1, s2, s3, s4⟩ := srtd_strs r.rules (Nat.le_trans ok.len (by decide))
    refine ws_nil (ws_one (w1_ret (w_tup ⟨fun _ => rfl, fun _ => rfl, fun _ => rfl, fun _ => rfl, fun _ => rfl, True.intro⟩ (cP (d_as_word E 2) (v 2 rfl ⟨[w'], rfl, w', rfl, hw, v 3 rfl (v 4 rfl (cT b_tuple E.b_tuple (cB b_sortedA E.b_sorted (v 5 rfl ⟨sT r.rules, seq_len ert, s1, s2, s3, s4, sT (sortS r.rules), ?_, ?_⟩))))⟩)))))
    · rw [sortT_strs]; exact .inl rfl
    refine dcP (α := Str) [("side", 7)] [7] (fun x => .t (.str x)) (fun _ => true) NestedKey.text (fun y => asW ((dget (r.sk.map NestedKey.text) r.sv (.text y)).getD .non)) (wi_list (cB b_sortedD E.b_sorted (v 6 rfl ⟨r.sk, r.sv, rfl, Nat.lt_of_le_of_lt ok.sl (by decide), fun ys hp _ => ⟨sT ys, rfl, ys, by rw [List.map_map]; rfl, ?_, ?_, fun y hy => ⟨_, gn 7, rfl, rfl, fun _ => v 7 rfl ⟨rfl, Nat.zero_le _, rfl, ?_⟩⟩, .inl ⟨[_, _, _, _, _], rfl, by show 5 ≤ sizeLine; decide, ?_⟩⟩⟩)))
    · rw [hp.length_eq]; exact Nat.lt_of_le_of_lt ok.sl (by decide)
    · rw [List.filter_eq_self.mpr fun _ _ => rfl]
      exact texts_nodup (hp.nodup_iff.mpr ok.snd)
    · obtain ⟨u, hu, hwu⟩ := val y (hp.mem_iff.mp hy)
      refine cP (d_as_word E 2) (w_ix x_dic (v 6 rfl (v 7 rfl ⟨.text y, _, _, _, rfl, .inl ⟨_, rfl, rfl⟩, Nat.zero_le _, (by rw [dget_map, hu]; rfl), [u], rfl, u, rfl, hwu, ?_, rfl⟩)) fun _ _ => rfl)
      rw [hu]; rfl
    · rw [List.filter_eq_self.mpr fun _ _ => rfl, ew]
      exact q ys _ (hp.nodup_iff.mpr ok.snd) (by rw [List.length_map])
end Far
namespace Far
open PySem PySem.Spec PyProof.Rows L2 TL
variable {g : G} {C : Addr}
/-! ### a play as data -/
structure St where
  w : NestedKey
  one : Nat
  other : Nat
  rules : List Str
  sk : List Str
  sv : List T
def stT (s : St) : T := .tup [kT s.w, .int s.one, .int s.other, SetT s.rules, .dic (s.sk.map .text) s.sv]
def rowT (r : List St) : T := .dic (r.map (·.w)) (r.map stT)
def core (s : St) : NestedKey × Nat × Nat × List Str := (s.w, s.one, s.other, s.rules)
def coreR (r : RawS) : NestedKey × Nat × Nat × List Str := (r.w, r.one, r.other, sortS r.rules)
/-- the steps from h -/
def fromR (rs : List RawS) (h : Nat) : List RawS := rs.filter fun r => decide (r.one = h)
theorem fromR_snoc {rs : List RawS} {i h : Nat} {r : RawS} (e : rs[i]? = some r) : fromR (rs.take (i + 1)) h = fromR (rs.take i) h ++ if r.one = h then [r] else [] := by
  unfold fromR
  rw [filter_snoc e]
  by_cases q : r.one = h <;> simp [q]
/-- the rows behind the first i steps -/
structure RowsI (n : Nat) (rs : List RawS) (i : Nat) (rf : Nat → List St) (a : Addr) (cs : List Addr) (O : Store) : Prop where
  len : cs.length = n
  nd : cs.Nodup
  na : a ∉ cs
  at_ : O a = some (.lst (cs.map Vl.cell))
  row : ∀ h c, cs[h]? = some c → O c = some (.dic ((rf h).map (·.w)) ((rf h).map fun s => Vl.t (stT s)))
  cr : ∀ h, (rf h).map core = (fromR (rs.take i) h).map coreR
theorem map_core_w {l : List St} {m : List RawS} (h : l.map core = m.map coreR) : l.map (·.w) = m.map (·.w) := by
  have := congrArg (List.map Prod.fst) h
  simpa [List.map_map, Function.comp_def, core, coreR] using this
theorem enum_at {xs : List T} {i : Nat} {u : Vl} (h : (enumT xs)[i]? = some u) : ∃ t, xs[i]? = some t ∧ u = .t (.tup [.int (i : Nat), t]) := enum_get h
theorem wg2 {k : Nat} {S : Sx} {ρ : Rho} {x1 x2 : Str} {p1 p2 pos : Pos} {kk : Nat} {t1 t2 : T} (i1 i2 : Nat) (h1 : S.N[i1]? = some x1 := by rfl) (h2 : S.N[i2]? = some x2 := by rfl)
    (l1 : LocS S x1 := by first | exact ⟨.inl rfl, .inr rfl⟩ | exact ⟨.inr rfl, .inl rfl⟩) (l2 : LocS S x2 := by first | exact ⟨.inl rfl, .inr rfl⟩ | exact ⟨.inr rfl, .inl rfl⟩) :
    WG g k S (.Tuple [.Name x1 p1, .Name x2 p2] kk pos) [i1, i2] (.t (.tup [t1, t2])) ρ ((ρ.set i1 (some (.t t1))).set i2 (some (.t t2))) :=
  wg_tup (.cons h1 l1 (.cons h2 l2 .nil)) (.cons _ _ _ _ _ _ (.cons _ _ _ _ _ _ (.nil _))) fun _ => ⟨rfl, rfl⟩
theorem d_checked_steps (E : Env g C) : Def g "checked_steps" 2 6 (ptT fun ts P => ∃ (t : T) (ss : List T) (rs : List RawS) (n : Nat), ts = [t, .int (n : Nat)] ∧ n ≤ 1000 ∧ (t = .lst ss ∨ t = .tup ss) ∧ ss.length = rs.length ∧ (∀ (i : Nat) s r, ss[i]? = some s → rs[i]? = some r → IsRaw r s) ∧ (∀ r ∈ rs, RawOk n r) ∧ (∀ h, ((fromR rs h).map (·.w)).Nodup) ∧ rs.length ≤ 10000 ∧
    ∀ rf : Nat → List St, (∀ h, (rf h).map core = (fromR rs h).map coreR) → (∀ h, ∀ s ∈ rf h, s.sk.Nodup ∧ s.sk.length = s.sv.length) → P (.lst ((List.range n).map fun h => rowT (rf h)))) := by
  refine mkDef E.f_checked_steps sc_checked_steps rfl (fun _ _ _ _ _ _ _ us hl => match us, hl with | [_, _], _ => rfl) ?_
  rintro us O Q hl ⟨rfl, ts, rfl, t, ss, rs, n, rfl, hn, e, hlen, hraw, hok, hnd, hz, q⟩
  refine ws_cons (w1_if (wb_not (wb_val (cP (d_is_list E) (v 0 rfl ⟨[t], rfl, t, rfl, (isLT_seq e).2.2.2.2, _, rfl, fun h => absurd h (by rw [(isLT_seq e).1]; decide), fun _ => ws_nil ?_⟩)) fun _ _ => rfl)))
  refine ws_cons (stLc 2 [("_", 6)] [6] (wr1 E.b_range (v 1 rfl ⟨(n : Nat), rfl, by omega, by omega, ?_⟩)))
  refine ⟨fun i acc O2 => ∃ cs : List Addr, acc = cs.map Vl.cell ∧ cs.length = i ∧ cs.Nodup ∧ ∀ c ∈ cs, O2 c = some (.dic [] []), ⟨[], rfl, rfl, List.nodup_nil, fun c hc => by cases hc⟩, ?_, ?_, ?_⟩
  · rintro i u acc O2 hu ⟨cs, rfl, hc, nd, hO⟩ hl
    obtain ⟨z, hz1, rfl⟩ := map_get hu
    refine ⟨_, gn 6, ?_⟩
    show W g _ _ _ _ _ _
    refine w_dnew (.inr fun c hcn => ⟨cs ++ [c], by simp, by simp [hc], ?_, fun d hd => ?_⟩)
    · rw [List.nodup_append]
      refine ⟨nd, by simp, fun x hx y hy => ?_⟩
      simp at hy
      subst hy
      intro exy
      subst exy
      rw [hO x hx] at hcn
      cases hcn
    · rcases List.mem_append.mp hd with h | h
      · rw [sup_ne (fun q => by subst q; rw [hO d h] at hcn; cases hcn)]; exact hO d h
      · simp at h
        subst h
        exact sup_same
  · rw [List.length_map, rng_len]
    have : (n : Int).toNat = n := by simp
    rw [this]
    exact Nat.le_trans hn (by decide)
  · rintro acc O2 ⟨cs, rfl, hc, nd, hO⟩
    refine .inr fun a ha => ?_
    rw [List.length_map, rng_len] at hc
    have hc : cs.length = n := by simpa using hc
    have na : a ∉ cs := fun hm => by rw [hO a hm] at ha; cases ha
    have r0 : RowsI n rs 0 (fun _ => []) a cs (sup O2 a (.lst (cs.map Vl.cell))) := ⟨hc, nd, na, sup_same, fun h c hh => by
      have hm := List.mem_of_getElem? hh
      rw [sup_ne (fun q => na (by rw [← q]; exact hm))]; exact hO c hm, fun h => by simp [fromR]⟩
    clear ha hO
    refine ws_cons (fr (wen E.b_enumerate (v 0 rfl ⟨ss, seq_vl e, fun i ρ1 O3 => ∃ x3 x4 x5 x6 rf, ρ1 = [some (.t t), some (.t (.int (n : Nat))), some (.cell a), x3, x4, x5, x6] ∧ RowsI n rs i rf a cs O3 ∧ ∀ h, ∀ s ∈ rf h, s.sk.Nodup ∧ s.sk.length = s.sv.length, ⟨none, none, none, none, fun _ => [], rfl, r0, fun _ _ h => by cases h⟩, ?_, ?_⟩)))
    · rintro i u ρ1 O3 hu ⟨x3, x4, x5, x6, rf, rfl, R, hsk⟩
      obtain ⟨s, hs, rfl⟩ := enum_at hu
      have hi : i < rs.length := by rw [← hlen]; exact (List.getElem?_eq_some_iff.mp hs).1
      obtain ⟨r, hr⟩ : ∃ r, rs[i]? = some r := ⟨_, List.getElem?_eq_getElem hi⟩
      have hrm := List.mem_of_getElem? hr
      have ok := hok r hrm
      refine ⟨_, _, wg2 3 4, ws_cons (st 5 (cP (d_kept_step E) (v 4 rfl (v 1 rfl ⟨[s, .int (n : Nat)], rfl, s, r, n, rfl, hraw i s r hs hr, ok, fun ys vs hy hv => ?_⟩))))⟩
      have hone : r.one < cs.length := by rw [R.len]; exact ok.one
      obtain ⟨c, hc⟩ : ∃ c, cs[r.one]? = some c := ⟨_, List.getElem?_eq_getElem hone⟩
      have hcell : (cs.map Vl.cell)[r.one]? = some (.cell c) := by rw [List.getElem?_map, hc]; rfl
      have hrow := R.row _ _ hc
      have hfresh : r.w ∉ (rf r.one).map (·.w) := by
        rw [map_core_w (R.cr r.one)]
        have h1 := hnd r.one
        have e1 : fromR rs r.one = fromR (rs.take (i + 1)) r.one ++ fromR (rs.drop (i + 1)) r.one := by
          unfold fromR
          rw [← List.filter_append, List.take_append_drop]
        rw [e1, fromR_snoc hr, if_pos rfl, List.map_append, List.map_append] at h1
        have h2 := (List.nodup_append.mp (List.nodup_append.mp h1).1).2.2
        exact fun hm => h2 _ hm _ (by simp) rfl
      refine ws_cons (w1_if (wb_chain (wp_or (wb_cmp o_isN (v 5 rfl (w_non ⟨_, rfl, rfl, _, rfl, fun h => absurd h (by simp [isNonT]), fun _ => ?_⟩)) rfl))))
      refine wp_one (wb_cmp o_inD (w_ix x_seq (v 5 rfl (w_int ⟨_, 0, kT r.w, .inr rfl, rfl, at_nat (j := 0) rfl, w_ix x_cell (v 2 rfl (w_ix x_seq (v 5 rfl (w_int ⟨_, 1, .int r.one, .inr rfl, rfl, at_nat (j := 1) rfl, a, _, _, _, rfl, R.at_, rfl, at_nat hcell, r.w, _, _, rfl, .inr ⟨c, rfl, hrow⟩, ok.dep, _, rfl, fun h => absurd h (by rw [decide_eq_false hfresh]; decide), fun _ => ?_⟩)) fun _ _ => rfl)) fun _ _ => rfl⟩)) fun _ _ => rfl) rfl)
      have hrl : ((rf r.one).map (·.w)).length < sizeLine := by
        rw [map_core_w (R.cr r.one), List.length_map]
        have : (fromR (rs.take i) r.one).length ≤ rs.length := Nat.le_trans (List.length_filter_le _ _) (by rw [List.length_take]; omega)
        exact Nat.lt_of_le_of_lt this (Nat.lt_of_le_of_lt hz (by decide))
      refine ws_nil (ws_one (pt s_dic (v 5 rfl (w_ix x_cell (v 2 rfl (w_ix x_seq (v 5 rfl (w_int ⟨_, 1, .int r.one, .inr rfl, rfl, at_nat (j := 1) rfl, a, _, _, _, rfl, R.at_, rfl, at_nat hcell, w_ix x_seq (v 5 rfl (w_int ⟨_, 0, kT r.w, .inr rfl, rfl, at_nat (j := 0) rfl, c, r.w, _, _, rfl, hrow, rfl, ok.dep, hrl, ?_⟩)) fun _ _ => rfl⟩)) fun _ _ => rfl)) fun _ _ => rfl))))
      have hcs : c ∈ cs := List.mem_of_getElem? hc
      refine ⟨_, _, _, x6, fun h => if h = r.one then rf h ++ [⟨r.w, r.one, r.other, sortS r.rules, ys, vs⟩] else rf h, rfl, ⟨R.len, R.nd, R.na, ?_, fun h d hd => ?_, fun h => ?_⟩, fun h s hs => ?_⟩
      · rw [sup_ne (fun q => R.na (by rw [q]; exact hcs))]; exact R.at_
      · by_cases q : h = r.one
        · subst q
          rw [hc] at hd
          cases hd
          rw [sup_same, if_pos rfl, dputK_new hfresh, dputV_new (by simp) hfresh]
          simp [stT]
        · have : d ≠ c := fun z => by
            subst z
            exact q ((List.getElem?_inj (List.getElem?_eq_some_iff.mp hd).1 R.nd).mp (hd.trans hc.symm))
          rw [sup_ne this, if_neg q]
          exact R.row h d hd
      · rw [fromR_snoc hr]
        by_cases q : h = r.one
        · subst q
          rw [if_pos rfl, if_pos rfl, List.map_append, List.map_append, R.cr]
          rfl
        · rw [if_neg q, if_neg (fun z => q z.symm), List.append_nil]
          exact R.cr h
      · dsimp only at hs
        by_cases q : h = r.one
        · rw [if_pos q] at hs
          rcases List.mem_append.mp hs with h1 | h1
          · exact hsk h s h1
          · simp at h1
            subst h1
            exact ⟨hy, hv⟩
        · rw [if_neg q] at hs
          exact hsk h s hs
    · rintro ρ1 O3 ⟨x3, x4, x5, x6, rf, rfl, R, hsk⟩
      rw [enum_len, hlen] at R
      refine ws_one (w1_ret (w_retT (v 2 rfl ⟨_, .lst R.at_ ?_, q rf (fun h => by rw [R.cr h, List.take_length]) hsk⟩)))
      have all : ∀ (m : Nat) (ds : List Addr), cs.drop m = ds → FrzL O3 (ds.map Vl.cell) ((List.range' m ds.length).map fun h => rowT (rf h)) := by
        intro m ds
        induction ds generalizing m with
        | nil => intro _; exact .nil
        | cons d ds ih =>
          intro hd
          have h0 : cs[m]? = some d := by
            have := congrArg List.head? hd
            rw [List.head?_drop] at this
            simpa using this
          rw [List.map_cons, List.length_cons, List.range'_succ, List.map_cons]
          refine .cons (Frz.flatD ?_) (ih (m + 1) ?_)
          · rw [R.row m d h0]
            simp [rowT, List.map_map, Function.comp_def]
          · have := congrArg List.tail hd
            rw [List.tail_drop] at this
            simpa using this
      have := all 0 cs rfl
      rw [R.len, ← List.range_eq_range'] at this
      exact this
end Far
namespace Far
open PySem PySem.Spec PyProof.Rows L2 TL
variable {g : G} {C : Addr}
abbrev iT (xs : List Nat) : List T := xs.map fun i : Nat => T.int i
theorem kT_num (xs : List Nat) : iT xs = (xs.map fun i : Nat => NestedKey.num i).map kT := by rw [List.map_map]; rfl
theorem num_inj : ∀ a b : Nat, NestedKey.num (a : Int) = NestedKey.num (b : Int) → a = b := fun a b h => by injection h with h; omega
theorem seq_map {t : T} {xs ys : List T} (h : xs = ys) (e : t = .lst xs ∨ t = .tup xs) : t = .lst ys ∨ t = .tup ys := h ▸ e
theorem d_checked_stands (E : Env g C) : Def g "checked_stands" 2 4 (ptT fun ts P => ∃ (t : T) (bs : List Nat) (n : Nat), ts = [t, .int (n : Nat)] ∧ (t = .lst (iT bs) ∨ t = .tup (iT bs)) ∧ (∀ b ∈ bs, b < n) ∧ bs.length ≤ 10000 ∧ ∀ cs : List Nat, (∀ x, x ∈ cs ↔ x ∈ bs) → cs.length ≤ bs.length → P (.lst (iT cs))) := by
  refine mkDef E.f_checked_stands sc_checked_stands rfl (fun _ _ _ _ _ _ _ us hl => match us, hl with | [_, _], _ => rfl) ?_
  rintro us O Q hl ⟨rfl, ts, rfl, t, bs, n, rfl, e, hb, hz, q⟩
  have hz' : bs.length < sizeLine := Nat.lt_of_le_of_lt hz (by decide)
  refine ws_cons (w1_if (wb_not (wb_val (cP (d_is_list E) (v 0 rfl ⟨[t], rfl, t, rfl, (isLT_seq e).2.2.2.2, _, rfl, fun h => absurd h (by rw [(isLT_seq e).1]; decide), fun _ => ws_nil ?_⟩)) fun _ _ => rfl)))
  refine ws_cons (fr (wen E.b_enumerate (v 0 rfl ⟨iT bs, seq_vl e, fun i ρ1 O3 => ∃ x2 x3, ρ1 = [some (.t t), some (.t (.int (n : Nat))), x2, x3] ∧ O3 = noS, ⟨none, none, rfl, rfl⟩, ?_, ?_⟩)))
  · rintro i u ρ1 O3 hu ⟨x2, x3, rfl, rfl⟩
    obtain ⟨s, hs, rfl⟩ := enum_at hu
    obtain ⟨b, hb1, rfl⟩ := map_get hs
    have h1 := hb b (List.mem_of_getElem? hb1)
    refine ⟨_, _, wg2 2 3, ws_one (w1_if (wb_not (wb_val (cP (d_is_stand E) (v 3 rfl (v 1 rfl ⟨[.int (b : Nat), .int (n : Nat)], rfl, b, n, rfl, Int.natCast_nonneg _, by omega, _, rfl, fun h => absurd h (by decide), fun _ => ws_nil ?_⟩))) fun _ _ => rfl)))⟩
    exact ⟨_, _, rfl, rfl⟩
  · rintro ρ1 O3 ⟨x2, x3, rfl, rfl⟩
    obtain ⟨ys, ey, ynd, _⟩ := ddK_map (fun i : Nat => NestedKey.num i) bs
    have ym := ddK_map_mem num_inj ey
    have yl : ys.length ≤ bs.length := by
      have := ddK_len (bs.map fun i : Nat => NestedKey.num i)
      rw [ey, List.length_map, List.length_map] at this
      exact this
    obtain ⟨s1, s2, s3, s4⟩ := srtd_ints (ys.map fun i : Nat => (i : Int)) (by rw [List.length_map]; omega)
    refine ws_one (w1_ret (cB b_sortedA E.b_sorted (cP (d_each_once E) (v 0 rfl ⟨[t], rfl, t, _, rfl, seq_map (kT_num bs) e, fun k hk => ?_, by rw [List.length_map]; exact hz', (ys.map fun i : Nat => (i : Int)).map T.int, .inl ?_, s1, s2, s3, s4, ?_⟩))))
    · obtain ⟨x, _, rfl⟩ := List.mem_map.mp hk
      exact Nat.zero_le _
    · rw [ey, ← kT_num, List.map_map]; rfl
    · rw [sortT_ints]
      have all : ∀ l : List Int, (∀ x ∈ l, 0 ≤ x) → l.map T.int = iT (l.map Int.toNat) := by
        intro l hl
        unfold iT
        rw [List.map_map]
        refine List.map_congr_left fun x hx => ?_
        have := hl x hx
        show T.int x = T.int ((x.toNat : Nat) : Int)
        rw [Int.toNat_of_nonneg this]
      have hp := sortI_perm (ys.map fun i : Nat => (i : Int))
      rw [all _ fun x hx => by
        obtain ⟨i, _, rfl⟩ := List.mem_map.mp (hp.mem_iff.mp hx)
        exact Int.natCast_nonneg _]
      refine q _ (fun x => ?_) (by rw [List.length_map, hp.length_eq, List.length_map]; exact yl)
      rw [← ym x, List.mem_map]
      constructor
      · rintro ⟨z, hz, rfl⟩
        obtain ⟨i, hi, rfl⟩ := List.mem_map.mp (hp.mem_iff.mp hz)
        simpa using hi
      · intro hx
        exact ⟨(x : Int), hp.mem_iff.mpr (List.mem_map.mpr ⟨x, hx, rfl⟩), by simp⟩
/-! ### the class -/
theorem mkM {m q : Str} {st : Stmt} {N ps : List Str} {k n : Nat} {ts : Tsp} (F : FnM g C m q st) (Sc : FnScope N ps (defScope st)) (hn : ps.length = n)
    (hb : ∀ (kV doc pm : Value) (an : Option Addr) (cdv ct : Value) (us : List Value), us.length = ps.length → bindArgs (PySem.W.fnOf m q (defArgs st) (defBody st) (defScope st) .none kV doc pm an cdv ct) ⟨us, []⟩ = pure (ps.zip us))
    (h : ∀ us O Q, us.length = n → ts us O Q → WS g k (fS N (defScope st)) (rho N us) O (defBody st) { nx := fun _ O' => Q (.t .non) O', rt := Q }) : DefM g C m n (k + 1) ts := by
  obtain ⟨f, fd, h1, h2⟩ := F
  subst hn
  exact ⟨f, fd, ps, h1, FunD.bindsN h2 hb, fn_T h2 Sc h⟩
abbrev fs2 : List Str := ["own_table", "own_bad"]
/-- a play: its rows, its bad stands -/
def plT (C : Addr) (rows : List (List St)) (bad : List Nat) : T := .ins C fs2 [.lst (rows.map rowT), .lst (iT bad)]
/-- what was given to make it -/
structure Given (n : Nat) (rs : List RawS) (bs : List Nat) : Prop where
  pos : 1 ≤ n
  small : n ≤ 1000
  raw : ∀ r ∈ rs, RawOk n r
  nd : ∀ h, ((fromR rs h).map (·.w)).Nodup
  len : rs.length ≤ 10000
  bad : ∀ b ∈ bs, b < n
  blen : bs.length ≤ 10000
/-- the play made of it -/
structure Made (n : Nat) (rs : List RawS) (bs : List Nat) (rows : List (List St)) (bad : List Nat) : Prop where
  len : rows.length = n
  row : ∀ h row, rows[h]? = some row → row.map core = (fromR rs h).map coreR
  sk : ∀ row ∈ rows, ∀ s ∈ row, s.sk.Nodup ∧ s.sk.length = s.sv.length
  blen : bad.length ≤ bs.length
  bad : ∀ x, x ∈ bad ↔ x ∈ bs
def spInit (C : Addr) : Tsp := fun us O Q => ∃ (a : Addr) (t1 t2 : T) (ss : List T) (n : Nat) (rs : List RawS) (bs : List Nat), us = [.cell a, .t (.int (n : Nat)), .t t1, .t t2] ∧ O = sup noS a (.ins C [] []) ∧ Given n rs bs ∧ (t1 = .lst ss ∨ t1 = .tup ss) ∧ ss.length = rs.length ∧ (∀ (i : Nat) s r, ss[i]? = some s → rs[i]? = some r → IsRaw r s) ∧ (t2 = .lst (iT bs) ∨ t2 = .tup (iT bs)) ∧
  ∀ rows bad, Made n rs bs rows bad → Q (.t .non) (sup noS a (.ins C fs2 [.t (.lst (rows.map rowT)), .t (.lst (iT bad))]))
theorem d_init (E : Env g C) : DefC g "Play" C 4 7 (spInit C) := by
  obtain ⟨f, fd, h1, h2⟩ := E.mkr
  refine ⟨f, fd, ["self", "many", "steps", "bad"], E.m_Play, h1, FunD.bindsN h2 (fun _ _ _ _ _ _ us hl => match us, hl with | [_, _, _, _], _ => rfl), fn_T h2 sc_Play_init ?_⟩
  rintro us O Q hl ⟨a, t1, t2, ss, n, rs, bs, rfl, rfl, G, e1, hlen, hraw, e2, q⟩
  refine ws_cons (w1_if (wb_chain (wp_or (wb_not (wb_val (cP (d_is_integer E) (v 1 rfl ⟨[.int (n : Nat)], rfl, .int (n : Nat), rfl, rfl, _, rfl, fun h => absurd h (by simp [isI, isTy, tyT]), fun _ => ?_⟩)) fun _ _ => rfl)))))
  refine wp_one (wb_cmp o_lt (v 1 rfl (w_int ⟨n, 1, rfl, rfl, True.intro, _, rfl, fun h => absurd h (by have := G.pos; simp; omega), fun _ => ws_nil ?_⟩)) rfl)
  refine ws_cons (w1_fld (fun _ => rfl) (cP (d_checked_steps E) (v 2 rfl (v 1 rfl ⟨[t1, .int (n : Nat)], rfl, t1, ss, rs, n, rfl, G.small, e1, hlen, hraw, G.raw, G.nd, G.len, fun rf hr hsk => v 0 rfl ⟨a, C, [], [], rfl, sup_same, E.cls, E.n_table, by decide, by simp, ?_⟩⟩))))
  refine ws_one (w1_fld (fun _ => rfl) (cP (d_checked_stands E) (v 3 rfl (v 1 rfl ⟨[t2, .int (n : Nat)], rfl, t2, bs, n, rfl, e2, G.bad, G.blen, fun cs hcs hcl => v 0 rfl ⟨a, C, _, _, rfl, sup_same, E.cls, E.n_bad, by decide, by decide, ?_⟩⟩))))
  rw [sup_sup, sup_sup]
  have := q ((List.range n).map rf) cs ⟨by simp, fun h row hh => ?_, fun row hrow s hs => ?_, hcl, hcs⟩
  · rw [List.map_map] at this
    exact this
  · obtain ⟨h', e1, e2⟩ := map_get hh
    have e3 : h' = h := by
      have := (List.getElem?_eq_some_iff.mp e1).2
      simpa using this.symm
    subst e2 e3
    exact hr h'
  · obtain ⟨h, _, rfl⟩ := List.mem_map.mp hrow
    exact hsk h s hs
theorem d_steps (E : Env g C) : DefM g C "steps" 1 1 (ptT fun ts P => ∃ rows bad, ts = [plT C rows bad] ∧ rows.flatten.length ≤ 10000 ∧ P (.lst (rows.flatten.map stT))) := by
  refine mkM E.m_steps sc_Play_steps rfl (fun _ _ _ _ _ _ us hl => match us, hl with | [_], _ => rfl) ?_
  rintro us O Q hl ⟨rfl, ts, rfl, rows, bad, rfl, hz, q⟩
  refine ws_cons (st 1 (w_lst True.intro ⟨Nat.zero_le _, .inr fun a ha => ?_⟩))
  refine ws_cons (fr (wi_list (fld (v 0 rfl ⟨C, _, _, .lst (rows.map rowT), rfl, E.cls, E.n_table, rfl, rows.map rowT, rfl, fun i ρ1 O3 => ∃ x2 x3 x4 x5 x6 x7, ρ1 = [some (.t (plT C rows bad)), some (.cell a), x2, x3, x4, x5, x6, x7] ∧ O3 = sup noS a (.lst ((((rows.take i).flatten).map stT).map Vl.t)), ⟨none, none, none, none, none, none, rfl, rfl⟩, ?_, ?_⟩))))
  · rintro i u ρ1 O3 hu ⟨x2, x3, x4, x5, x6, x7, rfl, rfl⟩
    obtain ⟨t, h1, rfl⟩ := map_get hu
    obtain ⟨row, h2, rfl⟩ := map_get h1
    have efl : (rows.take (i + 1)).flatten = (rows.take i).flatten ++ row := by
      obtain ⟨hi, rfl⟩ := List.getElem?_eq_some_iff.mp h2
      rw [List.take_succ_eq_append_getElem hi, List.flatten_append, List.flatten_cons, List.flatten_nil, List.append_nil]
    have hle : ((rows.take i).flatten ++ row).length ≤ 10000 := by
      rw [← efl]
      have : rows.flatten = (rows.take (i + 1)).flatten ++ (rows.drop (i + 1)).flatten := by rw [← List.flatten_append, List.take_append_drop]
      rw [this, List.length_append] at hz
      omega
    refine ⟨_, _, gn 2, ws_one (fr (wi_list (vals E.b_list (v 2 rfl ⟨_, _, rfl, row.map stT, rfl, fun j ρ2 O4 => ∃ x3 x4 x5 x6 x7, ρ2 = [some (.t (plT C rows bad)), some (.cell a), some (.t (rowT row)), x3, x4, x5, x6, x7] ∧ O4 = sup noS a (.lst ((((rows.take i).flatten ++ row.take j).map stT).map Vl.t)), ⟨x3, x4, x5, x6, x7, rfl, by simp⟩, ?_, ?_⟩))))⟩
    · rintro j u ρ2 O4 hu ⟨x3, x4, x5, x6, x7, rfl, rfl⟩
      obtain ⟨t, h3, rfl⟩ := map_get hu
      obtain ⟨s, h4, rfl⟩ := map_get h3
      refine ⟨_, _, wg5 3 4 5 6 7 (.inr rfl), ws_one (sx (app (v 1 rfl ⟨a, rfl, ⟨_, sup_same⟩, w_tup ⟨fun _ => rfl, fun _ => rfl, fun _ => rfl, fun _ => rfl, fun _ => rfl, True.intro⟩ (v 3 rfl (v 4 rfl (v 5 rfl (v 6 rfl (cT b_dictD E.b_dict (v 7 rfl ⟨s.sk.map Sum.inr, s.sv, by rw [List.map_map]; rfl, [_, _, _, _, _], rfl, by show 5 ≤ sizeLine; decide, _, sup_same, ?_, ?_⟩))))))⟩)))⟩
      · rw [List.length_map, List.length_map]
        have : ((rows.take i).flatten ++ row.take j).length ≤ ((rows.take i).flatten ++ row).length := by simp; omega
        exact Nat.lt_of_le_of_lt this (Nat.lt_of_le_of_lt hle (by decide))
      · refine ⟨_, _, _, _, _, rfl, ?_⟩
        rw [sup_sup]
        obtain ⟨hj, rfl⟩ := List.getElem?_eq_some_iff.mp h4
        rw [List.take_succ_eq_append_getElem hj, ← List.append_assoc]
        generalize (rows.take i).flatten ++ row.take j = L
        generalize row[j] = s
        simp [stT, List.map_append, List.map_map, Function.comp_def, nk]
    · rintro ρ2 O4 ⟨x3, x4, x5, x6, x7, rfl, rfl⟩
      refine ⟨_, _, _, _, _, _, rfl, ?_⟩
      rw [List.length_map, List.length_map, List.take_length, efl]
  · rintro ρ1 O3 ⟨x2, x3, x4, x5, x6, x7, rfl, rfl⟩
    refine ws_one (w1_ret (w_retT (v 1 rfl ⟨_, Frz.flat sup_same, ?_⟩)))
    rw [List.length_map, List.length_map, List.take_length]
    exact q
theorem d_len (E : Env g C) : DefM g C "__len__" 1 1 (ptT fun ts P => ∃ rows bad, ts = [plT C rows bad] ∧ P (.int rows.length)) := by
  refine mkM E.m_len sc_Play_len rfl (fun _ _ _ _ _ _ us hl => match us, hl with | [_], _ => rfl) ?_
  rintro us O Q hl ⟨rfl, ts, rfl, rows, bad, rfl, q⟩
  refine ws_one (w1_ret (cB b_len E.b_len (fld (v 0 rfl ⟨C, _, _, .lst (rows.map rowT), rfl, E.cls, E.n_table, rfl, _, .inl rfl, ?_⟩))))
  rw [List.length_map]
  exact q
end Far
namespace Far
open PySem PySem.Spec PyProof.Rows L2 TL
variable {g : G} {C : Addr}
theorem text_inj : ∀ a b : Str, NestedKey.text a = NestedKey.text b → a = b := fun a b h => by injection h
theorem flatRules_len : ∀ (L : List St), (∀ s ∈ L, s.rules.length ≤ 50) → (L.flatMap (·.rules)).length ≤ L.length * 50
  | [], _ => by simp
  | s :: L, h => by
    have h1 := h s List.mem_cons_self
    have h2 := flatRules_len L fun x hx => h x (List.mem_cons_of_mem _ hx)
    rw [List.flatMap_cons, List.length_append, List.length_cons]
    omega
theorem d_rules (E : Env g C) : DefM g C "rules" 1 2 (ptT fun ts P => ∃ rows bad, ts = [plT C rows bad] ∧ rows.flatten.length ≤ 10000 ∧ (∀ s ∈ rows.flatten, s.rules.length ≤ 50) ∧ ∀ N : List Str, Srt N → (∀ x, x ∈ N ↔ ∃ s ∈ rows.flatten, x ∈ s.rules) → P (.lst (sT N))) := by
  refine mkM E.m_rules sc_Play_rules rfl (fun _ _ _ _ _ _ us hl => match us, hl with | [_], _ => rfl) ?_
  rintro us O Q hl ⟨rfl, ts, rfl, rows, bad, rfl, hz, hr, q⟩
  generalize hL : rows.flatten = L at hz hr q
  have tot : ∀ i, ((L.take i).flatMap (·.rules)).length ≤ 500000 := fun i => by
    have h1 := flatRules_len (L.take i) fun s hs => hr s (List.mem_of_mem_take hs)
    have h2 : (L.take i).length ≤ L.length := by rw [List.length_take]; omega
    omega
  refine ws_cons (st 1 (w_lst True.intro ⟨Nat.zero_le _, .inr fun a ha => ?_⟩))
  refine ws_cons (fr (wi_list (w_methP (d_steps E) (Nat.le_refl _) E.cls (fun _ => rfl) (v 0 rfl ⟨_, _, rfl, by decide, rows, bad, rfl, by rw [hL]; exact hz, L.map stT, by rw [hL], fun i ρ1 O3 => ∃ x2, ρ1 = [some (.t (plT C rows bad)), some (.cell a), x2] ∧ O3 = sup noS a (.lst ((sT ((L.take i).flatMap (·.rules))).map Vl.t)), ⟨none, rfl, rfl⟩, ?_, ?_⟩))))
  · rintro i u ρ1 O3 hu ⟨x2, rfl, rfl⟩
    obtain ⟨t, h1, rfl⟩ := map_get hu
    obtain ⟨s, h2, rfl⟩ := map_get h1
    have efl : (L.take (i + 1)).flatMap (·.rules) = (L.take i).flatMap (·.rules) ++ s.rules := by
      obtain ⟨hi, rfl⟩ := List.getElem?_eq_some_iff.mp h2
      rw [List.take_succ_eq_append_getElem hi, List.flatMap_append, List.flatMap_cons, List.flatMap_nil, List.append_nil]
    refine ⟨_, _, gn 2, ws_one (sx (extT (v 1 rfl ⟨a, rfl, ⟨_, sup_same⟩, ix x_seq (v 2 rfl (w_int ⟨_, 3, SetT s.rules, .inr rfl, rfl, at_nat (j := 3) rfl, _, sT s.rules, rfl, sup_same, ?_, ?_⟩))⟩)))⟩
    · have := tot (i + 1)
      rw [efl, List.length_append] at this
      simp only [List.length_map]
      exact Nat.le_trans this (by decide)
    · refine ⟨_, rfl, ?_⟩
      rw [sup_sup, efl]
      simp
  · rintro ρ1 O3 ⟨x2, rfl, rfl⟩
    rw [List.length_map, List.length_map, List.take_length]
    generalize hM : L.flatMap (·.rules) = M
    have hMz : M.length ≤ 500000 := by have := tot L.length; rw [List.take_length, hM] at this; exact this
    obtain ⟨ys, ey, ynd, _⟩ := ddK_map NestedKey.text M
    have ym := ddK_map_mem text_inj ey
    have yl : ys.length ≤ M.length := by
      have := ddK_len (M.map NestedKey.text)
      rw [ey, List.length_map, List.length_map] at this
      exact this
    obtain ⟨s1, s2, s3, s4⟩ := srtd_strs ys (Nat.le_trans yl (Nat.le_trans hMz (by decide)))
    refine ws_one (w1_ret (w_frzE (ρ' := [some (.t (plT C rows bad)), some (.t (.lst (sT M))), x2]) Split.all (.keep (.frz (Frz.flat sup_same) (.keep .nil))) (cB b_sortedA E.b_sorted (cP (d_each_once E) (v 1 rfl ⟨[.lst (sT M)], rfl, _, _, rfl, .inl (by rw [kT_text]), fun k hk => ?_, ?_, sT ys, .inl ?_, s1, s2, s3, s4, ?_⟩)))))
    · obtain ⟨x, _, rfl⟩ := List.mem_map.mp hk
      exact Nat.zero_le _
    · rw [List.length_map]; exact Nat.lt_of_le_of_lt hMz (by decide)
    · rw [ey, ← kT_text]
    · rw [sortT_strs]
      refine q (sortS ys) (sortS_srt ynd) fun x => ?_
      rw [sortS_mem, ym, ← hM, List.mem_flatMap]
/-! ### runs -/
/-- a dict of names, all True -/
def setD (X : List Str) : T := .dic (X.map .text) (List.replicate X.length (.bl true))
theorem d_checked_rules (E : Env g C) : Def g "checked_rules" 1 2 (ptT fun ts P => ∃ t X, ts = [t] ∧ (t = .lst (sT X) ∨ t = .tup (sT X)) ∧ (∀ x ∈ X, nmOk x = true) ∧ X.Nodup ∧ X.length ≤ 1000 ∧ P (setD X)) := by
  refine mkDef E.f_checked_rules sc_checked_rules rfl (fun _ _ _ _ _ _ _ us hl => match us, hl with | [_], _ => rfl) ?_
  rintro us O Q hl ⟨rfl, ts, rfl, t, X, rfl, e, hx, nd, hz, q⟩
  refine ws_cons (w1_if (wb_not (wb_val (cP (d_is_list E) (v 0 rfl ⟨[t], rfl, t, rfl, (isLT_seq e).2.2.2.2, _, rfl, fun h => absurd h (by rw [(isLT_seq e).1]; decide), fun _ => ws_nil ?_⟩)) fun _ _ => rfl)))
  refine ws_cons (st 1 (w_dnew (.inr fun a ha => ?_)))
  refine ws_cons (fr (wen E.b_enumerate (v 0 rfl ⟨sT X, seq_vl e, fun i ρ1 O3 => ∃ x2 x3, ρ1 = [some (.t t), some (.cell a), x2, x3] ∧ O3 = sup noS a (.dic ((X.take i).map .text) (List.replicate (X.take i).length (.t (.bl true)))), ⟨none, none, rfl, rfl⟩, ?_, ?_⟩)))
  · rintro i u ρ1 O3 hu ⟨x2, x3, rfl, rfl⟩
    obtain ⟨s, hs, rfl⟩ := enum_at hu
    obtain ⟨x, hx1, rfl⟩ := map_get hs
    obtain ⟨hi, ex⟩ := List.getElem?_eq_some_iff.mp hx1
    have hn : NestedKey.text x ∉ (X.take i).map NestedKey.text := fun hm => by
      obtain ⟨y, hy, ey⟩ := List.mem_map.mp hm
      have := text_inj _ _ ey
      subst this
      have h1 : X = X.take i ++ (X[i] :: X.drop (i + 1)) := by rw [← List.drop_eq_getElem_cons hi, List.take_append_drop]
      rw [h1] at nd
      exact (List.nodup_append.mp nd).2.2 _ hy _ (by rw [ex]; exact List.mem_cons_self) rfl
    have hxm := List.mem_of_getElem? hx1
    refine ⟨_, _, wg2 2 3, ws_cons (w1_if (wb_chain (wp_or (wb_not (wb_val (cP (d_is_name E) (v 3 rfl ⟨[.str x], rfl, x, rfl, hx x hxm, _, rfl, fun h => absurd h (by decide), fun _ => ?_⟩)) fun _ _ => rfl)))))⟩
    refine wp_one (wb_cmp o_inD (v 3 rfl (v 1 rfl ⟨.text x, _, _, rfl, .inr ⟨a, rfl, sup_same⟩, Nat.zero_le _, _, rfl, fun h => absurd h (by rw [decide_eq_false hn]; decide), fun _ => ws_nil ?_⟩)) rfl)
    refine ws_one (pt s_dic (w_bl (v 1 rfl (v 3 rfl ⟨a, .text x, _, _, rfl, sup_same, rfl, Nat.zero_le _, ?_, ?_⟩))))
    · have : ((X.take i).map NestedKey.text).length ≤ X.length := by rw [List.length_map, List.length_take]; omega
      exact Nat.lt_of_le_of_lt this (Nat.lt_of_le_of_lt hz (by decide))
    · refine ⟨_, _, rfl, ?_⟩
      have e1 : (X.take i).length = ((X.take i).map NestedKey.text).length := by rw [List.length_map]
      rw [sup_sup, e1, dputV_rep, dputK_new hn, List.take_succ_eq_append_getElem hi, ex]
      simp
  · rintro ρ1 O3 ⟨x2, x3, rfl, rfl⟩
    rw [enum_len, List.length_map, List.take_length]
    exact ws_one (w1_ret (w_retT (v 1 rfl ⟨_, Frz.flatD (ts := List.replicate X.length (.bl true)) (by rw [sup_same, List.map_replicate]), q⟩)))
/-- no rule of the step is kept -/
def free (X : List Str) (s : St) : Bool := !s.rules.any fun r => decide (r ∈ X)
theorem d_can_be_done (E : Env g C) : Def g "can_be_done" 2 1 (ptT fun ts P => ∃ s X, ts = [stT s, setD X] ∧ s.rules.length ≤ 50 ∧ P (.bl (free X s))) := by
  refine mkDef E.f_can_be_done sc_can_be_done rfl (fun _ _ _ _ _ _ _ us hl => match us, hl with | [_, _], _ => rfl) ?_
  rintro us O Q hl ⟨rfl, ts, rfl, s, X, rfl, hz, q⟩
  refine ws_one (w1_ret (w_not (cB b_any E.b_any (lcA (α := Str) [("rule", 2)] [2] (fun x => .t (.str x)) (fun r => .bl (decide (r ∈ X))) (wi_tup (ix x_seq (v 0 rfl (w_int ⟨_, 3, SetT s.rules, .inr rfl, rfl, at_nat (j := 3) rfl, sT s.rules, rfl, s.rules, by rw [List.map_map]; rfl, Nat.le_trans hz (by decide), fun r hr => ⟨_, gn 2, ?_⟩, .inl ⟨s.rules.map fun r => decide (r ∈ X), by rw [List.map_map]; rfl, _, rfl, ?_⟩⟩))))))))
  · refine w_cmp o_inD (v 2 rfl (v 1 rfl ⟨.text r, _, _, rfl, .inl ⟨_, rfl, rfl⟩, Nat.zero_le _, ?_, rfl⟩)) rfl
    have : decide (NestedKey.text r ∈ X.map NestedKey.text) = decide (r ∈ X) := by
      by_cases h : r ∈ X
      · rw [decide_eq_true h, decide_eq_true (List.mem_map.mpr ⟨r, h, rfl⟩)]
      · rw [decide_eq_false h, decide_eq_false fun hm => h (by obtain ⟨y, hy, ey⟩ := List.mem_map.mp hm; rw [← text_inj _ _ ey]; exact hy)]
    rw [this]
  · unfold free at q
    rw [List.any_map]
    exact q
/-- a table of runs: from each stand the words and where they lead -/
abbrev Tb := List (List (NestedKey × Nat))
def tbT (tb : Tb) : T := .lst (tb.map fun r => .dic (r.map (·.1)) (iT (r.map (·.2))))
/-- the rows as they are under X -/
def under (rows : List (List St)) (X : List Str) : Tb := rows.map fun row => (row.filter (free X)).map fun s => (s.w, s.other)
theorem dget_at {α : Type} {f : α → NestedKey} {h : α → T} : ∀ {xs : List α} {x : α}, x ∈ xs → (xs.map f).Nodup → dget (xs.map f) (xs.map h) (f x) = some (h x)
  | y :: xs, x, hm, nd => by
    rw [List.map_cons, List.map_cons, List.nodup_cons] at *
    unfold dget
    rcases List.mem_cons.mp hm with rfl | hm
    · rw [if_pos rfl]
    · rw [if_neg fun e => nd.1 (by rw [e]; exact List.mem_map.mpr ⟨x, hm, rfl⟩)]
      exact dget_at hm nd.2
/-- what is known of a play's rows -/
structure RowsOk (rows : List (List St)) : Prop where
  small : rows.length ≤ 1000
  other : ∀ row ∈ rows, ∀ s ∈ row, s.other < rows.length
  nd : ∀ row ∈ rows, (row.map (·.w)).Nodup
  dep : ∀ row ∈ rows, ∀ s ∈ row, s.w.depth ≤ 8
  rl : ∀ row ∈ rows, ∀ s ∈ row, s.rules.length ≤ 50
  len : rows.flatten.length ≤ 10000
theorem RowsOk.rowlen {rows : List (List St)} (R : RowsOk rows) {row : List St} (h : row ∈ rows) : row.length ≤ 10000 := by
  have : row.length ≤ rows.flatten.length := List.Sublist.length_le (List.sublist_flatten_of_mem h)
  exact Nat.le_trans this R.len
theorem d_steps_under (E : Env g C) : Def g "steps_under" 2 2 (ptT fun ts P => ∃ rows bad X, ts = [plT C rows bad, setD X] ∧ RowsOk rows ∧ P (tbT (under rows X))) := by
  refine mkDef E.f_steps_under sc_steps_under rfl (fun _ _ _ _ _ _ _ us hl => match us, hl with | [_, _], _ => rfl) ?_
  rintro us O Q hl ⟨rfl, ts, rfl, rows, bad, X, rfl, R, q⟩
  refine ws_cons (st 2 (w_lst True.intro ⟨Nat.zero_le _, .inr fun a ha => ?_⟩))
  refine ws_cons (fr (wi_list (fld (v 0 rfl ⟨C, _, _, .lst (rows.map rowT), rfl, E.cls, E.n_table, rfl, rows.map rowT, rfl, fun i ρ1 O3 => ∃ x3 x4, ρ1 = [some (.t (plT C rows bad)), some (.t (setD X)), some (.cell a), x3, x4] ∧ O3 = sup noS a (.lst (((under (rows.take i) X).map fun r => T.dic (r.map (·.1)) (iT (r.map (·.2)))).map Vl.t)), ⟨none, none, rfl, rfl⟩, ?_, ?_⟩))))
  · rintro i u ρ1 O3 hu ⟨x3, x4, rfl, rfl⟩
    obtain ⟨t, h1, rfl⟩ := map_get hu
    obtain ⟨row, h2, rfl⟩ := map_get h1
    have hrow := List.mem_of_getElem? h2
    obtain ⟨hi, ex⟩ := List.getElem?_eq_some_iff.mp h2
    have val : ∀ s ∈ row, dget (row.map (·.w)) ((row.map stT).map Vl.t) s.w = some (.t (stT s)) := fun s hs => by
      rw [dget_map, dget_at hs (R.nd row hrow)]; rfl
    refine ⟨_, _, gn 3, ws_one (sx (app (v 2 rfl ⟨a, rfl, ⟨_, sup_same⟩, dcP (α := St) [("word", 4)] [4] (fun s => .t (kT s.w)) (free X) (·.w) (fun s => .int s.other) (wi_dic (v 3 rfl ⟨row.map (·.w), row.map stT, rfl, row, by rw [List.map_map]; rfl, ?_, ?_, fun s hs => ⟨_, gn 4, ?_⟩, .inl ⟨_, sup_same, ?_, ?_⟩⟩))⟩)))⟩
    · exact Nat.lt_of_le_of_lt (R.rowlen hrow) (by decide)
    · exact (List.Sublist.map _ List.filter_sublist).nodup (R.nd row hrow)
    · refine wb_val (cP (d_can_be_done E) (ix x_dic (v 3 rfl (v 4 rfl ⟨s.w, _, _, _, rfl, .inl ⟨_, rfl, rfl⟩, R.dep row hrow s hs, val s hs, v 1 rfl ⟨[stT s, setD X], rfl, s, X, rfl, R.rl row hrow s hs, _, rfl, rfl, rfl, fun _ => v 4 rfl ⟨rfl, R.dep row hrow s hs, rfl, ?_⟩⟩⟩)))) fun _ _ => rfl
      exact ix x_seq (ix x_dic (v 3 rfl (v 4 rfl ⟨s.w, _, _, _, rfl, .inl ⟨_, rfl, rfl⟩, R.dep row hrow s hs, val s hs, w_int ⟨_, 2, .int s.other, .inr rfl, rfl, at_nat (j := 2) rfl, rfl, rfl⟩⟩)))
    · simp only [List.length_map, under, List.length_take]
      have := R.small
      exact Nat.lt_of_le_of_lt (show min i rows.length ≤ 1000 by omega) (by decide)
    · refine ⟨_, _, rfl, ?_⟩
      rw [sup_sup, List.take_succ_eq_append_getElem hi, ex]
      generalize rows.take i = L
      simp [under, List.map_map, Function.comp_def]
  · rintro ρ1 O3 ⟨x3, x4, rfl, rfl⟩
    rw [List.length_map, List.length_map, List.take_length]
    exact ws_one (w1_ret (w_retT (v 2 rfl ⟨_, Frz.flat sup_same, q⟩)))
end Far
namespace Far
open PySem PySem.Spec PyProof.Rows L2 TL
variable {g : G} {C : Addr}
theorem nd_len {α : Type} [DecidableEq α] : ∀ {l m : List α}, l.Nodup → (∀ x ∈ l, x ∈ m) → l.length ≤ m.length
  | [], _, _, _ => Nat.zero_le _
  | x :: l, m, nd, h => by
    rw [List.nodup_cons] at nd
    have hx := h x List.mem_cons_self
    have ih := nd_len (l := l) (m := m.erase x) nd.2 fun y hy => (List.mem_erase_of_ne (fun e => nd.1 (by rw [← e]; exact hy))).mpr (h y (List.mem_cons_of_mem _ hy))
    rw [List.length_erase_of_mem hx] at ih
    have := List.length_pos_of_mem hx
    rw [List.length_cons]
    omega
theorem nd_lt {l : List Nat} {n : Nat} (nd : l.Nodup) (h : ∀ x ∈ l, x < n) : l.length ≤ n := by
  have := nd_len (m := List.range n) nd fun x hx => List.mem_range.mpr (h x hx)
  rwa [List.length_range] at this
theorem sup_comm3 {O : Store} {a b : Addr} {c d c' : Cell} (h : a ≠ b) : sup (sup (sup O a c) b d) a c' = sup (sup O a c') b d := by
  funext x
  unfold sup
  by_cases h1 : x = a
  · subst h1; simp [h]
  · simp [h1]
/-- from 0 along the table -/
inductive RunTo (tb : Tb) : Nat → Prop
  | zero : RunTo tb 0
  | step {h w o row} : RunTo tb h → tb[h]? = some row → (w, o) ∈ row → RunTo tb o
/-- a word that may be compared -/
def okW (k : NestedKey) : Prop := isD (kT k) = true ∧ clT (kT k) ∧ (toD (kT k)).depth ≤ 8
structure TbOk (tb : Tb) : Prop where
  pos : 1 ≤ tb.length
  small : tb.length ≤ 1000
  other : ∀ row ∈ tb, ∀ p ∈ row, p.2 < tb.length
  nd : ∀ row ∈ tb, (row.map (·.1)).Nodup
  dep : ∀ row ∈ tb, ∀ p ∈ row, p.1.depth ≤ 8
  ok : ∀ row ∈ tb, ∀ p ∈ row, okW p.1
/-- found so far -/
structure Fnd (tb : Tb) (K : List Nat) (vs : List (List NestedKey)) : Prop where
  nd : K.Nodup
  zero : 0 ∈ K
  run : ∀ s ∈ K, RunTo tb s
  lt : ∀ s ∈ K, s < tb.length
  len : K.length = vs.length
  ok : ∀ v ∈ vs, v.length < K.length ∧ ∀ k ∈ v, okW k
abbrev runT (ks : List NestedKey) : T := .lst (ks.map kT)
abbrev nK (K : List Nat) : List NestedKey := K.map fun i : Nat => NestedKey.num i
def foundT (K : List Nat) (vs : List (List NestedKey)) : T := .dic (nK K) (vs.map runT)
def fO (a b : Addr) (K : List Nat) (vs : List (List NestedKey)) : Store := sup (sup noS a (.dic (nK K) ((vs.map runT).map Vl.t))) b (.lst ((iT K).map Vl.t))
theorem num_mem {K : List Nat} {s : Nat} : NestedKey.num (s : Int) ∈ nK K ↔ s ∈ K := by
  constructor
  · intro h
    obtain ⟨x, hx, e⟩ := List.mem_map.mp h
    rw [← num_inj _ _ e]; exact hx
  · intro h; exact List.mem_map.mpr ⟨s, h, rfl⟩
theorem d_shortest_runs (E : Env g C) : Def g "shortest_runs" 1 1 (ptT fun ts P => ∃ tb, ts = [tbT tb] ∧ TbOk tb ∧ ∀ (K : List Nat) (vs : List (List NestedKey)), K.Nodup → (∀ s, s ∈ K ↔ RunTo tb s) → K.length = vs.length → (∀ v ∈ vs, ∀ k ∈ v, okW k) → P (.dic (nK K) (vs.map runT))) := by
  refine mkDef E.f_shortest_runs sc_shortest_runs rfl (fun _ _ _ _ _ _ _ us hl => match us, hl with | [_], _ => rfl) ?_
  rintro us O Q hl ⟨rfl, ts, rfl, tb, rfl, ok, q⟩
  refine ws_cons ?_
  refine par2 1 2 ?_
  refine w_disp (w_int ⟨.inl 0, rfl, w_lst True.intro ⟨Nat.zero_le _, .inl ⟨[], rfl, .inr fun a ha => ?_⟩⟩⟩)
  refine w_lst ⟨fun _ => rfl, True.intro⟩ (w_int ⟨by show 1 ≤ sizeLine; decide, .inr fun b hb => ?_⟩)
  have hab : a ≠ b := fun e => by subst e; rw [sup_same] at hb; cases hb
  refine ws_cons (st 3 (w_int ?_))
  have F0 : Fnd tb [0] [[]] := ⟨by simp, by simp, fun s hs => by simp at hs; subst hs; exact .zero, fun s hs => by simp at hs; subst hs; exact ok.pos, rfl, fun v hv => by simp at hv; subst hv; exact ⟨by simp, fun k hk => by cases hk⟩⟩
  refine ws_cons (w1_while (fun m ρ1 O1 => ∃ K vs j x4 x5, m = tb.length - j ∧ j ≤ K.length ∧ ρ1 = [some (.t (tbT tb)), some (.cell a), some (.cell b), some (.t (.int (j : Nat))), x4, x5] ∧ O1 = fO a b K vs ∧ Fnd tb K vs ∧ ∀ i s row p, i < j → K[i]? = some s → tb[s]? = some row → p ∈ row → p.2 ∈ K) ⟨_, [0], [[]], 0, none, none, rfl, Nat.zero_le _, rfl, rfl, F0, fun i s row p h => by omega⟩ ?_)
  rintro m ρ1 O1 ⟨K, vs, j, x4, x5, rfl, hj, rfl, rfl, F, cl⟩
  have kz : K.length ≤ tb.length := nd_lt F.nd F.lt
  refine wb_cmp o_lt (v 3 rfl (cB b_lenC E.b_len (v 2 rfl ⟨b, (iT K).map Vl.t, rfl, sup_same, ⟨(j : Nat), _, rfl, rfl, True.intro, _, rfl, fun h => ?_, fun h => ?_⟩⟩))) rfl
  · have h : j < K.length := by
      have := of_decide_eq_true h
      simp only [List.length_map] at this
      omega
    obtain ⟨s, hs⟩ : ∃ s, K[j]? = some s := ⟨_, List.getElem?_eq_getElem h⟩
    have hsm := List.mem_of_getElem? hs
    have hst : s < tb.length := F.lt s hsm
    obtain ⟨row, hrow⟩ : ∃ row, tb[s]? = some row := ⟨_, List.getElem?_eq_getElem hst⟩
    have hrm := List.mem_of_getElem? hrow
    have hcell : ((iT K).map Vl.t)[j]? = some (.t (.int (s : Nat))) := by simp [hs]
    have htb : (tb.map fun r => T.dic (r.map (·.1)) (iT (r.map (·.2))))[s]? = some (.dic (row.map (·.1)) (iT (row.map (·.2)))) := by simp [hrow]
    refine ws_cons (st 4 (ix x_cell (v 2 rfl (v 3 rfl ⟨b, _, _, _, rfl, sup_same, rfl, at_nat hcell, ?_⟩))))
    refine ws_cons (w1_augI (i := 3) rfl ⟨.inl rfl, .inr rfl⟩ rfl (w_int ⟨1, rfl, ?_⟩))
    refine ws_one (fr (wi_dic (ix x_seq (v 0 rfl (v 4 rfl ⟨_, (s : Nat), _, .inl rfl, rfl, at_nat htb, _, _, rfl, ?_⟩)))))
    refine ⟨fun i ρ2 O2 => ∃ K' vs' x5, ρ2 = [some (.t (tbT tb)), some (.cell a), some (.cell b), some (.t (.int ((j : Nat) + 1))), some (.t (.int (s : Nat))), x5] ∧ O2 = fO a b K' vs' ∧ Fnd tb K' vs' ∧ K <+: K' ∧ ∀ p ∈ row.take i, p.2 ∈ K', ⟨K, vs, x5, rfl, rfl, F, List.prefix_refl _, fun p hp => by simp at hp⟩, ?_, ?_⟩
    · rintro i u ρ2 O2 hu ⟨K', vs', x5', rfl, rfl, F', pre, cl'⟩
      obtain ⟨kk, hk, rfl⟩ := map_get hu
      obtain ⟨p, hp, rfl⟩ := map_get hk
      have hpm := List.mem_of_getElem? hp
      have hval : dget (row.map (·.1)) ((iT (row.map (·.2))).map Vl.t) p.1 = some (.t (.int (p.2 : Nat))) := by
        have := dget_at (f := fun q : NestedKey × Nat => q.1) (h := fun q => T.int (q.2 : Nat)) hpm (ok.nd row hrm)
        rw [dget_map]
        have e : iT (row.map (·.2)) = row.map fun q => T.int (q.2 : Nat) := by unfold iT; rw [List.map_map]; rfl
        rw [e, this]; rfl
      have hdep := ok.dep row hrm p hpm
      have take_in : ∀ q ∈ row.take (i + 1), q ∈ row.take i ∨ q = p := fun q hq => by
        obtain ⟨hi, ep⟩ := List.getElem?_eq_some_iff.mp hp
        rw [List.take_succ_eq_append_getElem hi, ep] at hq
        simpa using hq
      have pK : p.2 < tb.length := ok.other row hrm p hpm
      have kz' : K'.length ≤ tb.length := nd_lt F'.nd F'.lt
      have oa : fO a b K' vs' a = some (.dic (nK K') ((vs'.map runT).map Vl.t)) := by unfold fO; rw [sup_ne hab, sup_same]
      refine ⟨_, _, gn 5, ws_one (w1_if (wb_cmp o_ninD (ix x_dic (ix x_seq (v 0 rfl (v 4 rfl ⟨_, (s : Nat), _, .inl rfl, rfl, at_nat htb, v 5 rfl ⟨p.1, _, _, _, rfl, .inl ⟨_, rfl, rfl⟩, hdep, hval, v 1 rfl ⟨.num (p.2 : Nat), _, _, rfl, .inr ⟨a, rfl, oa⟩, Nat.zero_le _, _, rfl, fun hn => ?_, fun hn => ?_⟩⟩⟩)))) rfl))⟩
      · have hn : p.2 ∉ K' := fun hm => by rw [decide_eq_true (num_mem.mpr hm)] at hn; cases hn
        have hnn : NestedKey.num (p.2 : Int) ∉ nK K' := fun hm => hn (num_mem.mp hm)
        obtain ⟨sv, hsv⟩ : ∃ sv, dget (nK K') vs' (.num (s : Nat)) = some sv := dget_some (by rw [List.length_map]; exact F'.len) (num_mem.mpr (pre.subset hsm))
        have hsvm := dget_mem hsv
        refine ws_cons (pt s_dic (w_bin o_catL (ix x_dic (v 1 rfl (v 4 rfl ⟨.num (s : Nat), _, _, .t (runT sv), rfl, .inr ⟨a, rfl, oa⟩, Nat.zero_le _, by rw [dget_map, dget_map, hsv]; rfl, w_lst ⟨fun _ => rfl, True.intro⟩ (v 5 rfl ⟨by show 1 ≤ sizeLine; decide, .inl ⟨[kT p.1], rfl, sv.map kT, [kT p.1], rfl, rfl, ?_, v 1 rfl (ix x_dic (ix x_seq (v 0 rfl (v 4 rfl ⟨_, (s : Nat), _, .inl rfl, rfl, at_nat htb, v 5 rfl ⟨p.1, _, _, _, rfl, .inl ⟨_, rfl, rfl⟩, hdep, hval, a, .num (p.2 : Nat), _, _, rfl, oa, rfl, Nat.zero_le _, ?_, ?_⟩⟩))))⟩⟩)⟩)))))
        · have := (F'.ok sv hsvm).1
          have := ok.small
          rw [List.length_map]
          exact Nat.le_trans (show sv.length + 1 ≤ 2000 by omega) (by decide)
        · have := ok.small
          rw [List.length_map]
          exact Nat.lt_of_le_of_lt (show K'.length ≤ 1000 by omega) (by decide)
        · rw [dputK_new hnn, dputV_new (by simp [F'.len]) hnn]
          refine ws_one (sx (app (v 2 rfl ⟨b, rfl, ⟨(iT K').map Vl.t, by unfold fO; rw [sup_ne hab.symm, sup_same]⟩, ix x_dic (ix x_seq (v 0 rfl (v 4 rfl ⟨_, (s : Nat), _, .inl rfl, rfl, at_nat htb, v 5 rfl ⟨p.1, _, _, _, rfl, .inl ⟨_, rfl, rfl⟩, hdep, hval, (iT K').map Vl.t, by unfold fO; rw [sup_ne hab.symm, sup_same], ?_, ?_⟩⟩)))⟩)))
          · have := ok.small
            simp only [List.length_map]
            exact Nat.lt_of_le_of_lt (show K'.length ≤ 1000 by omega) (by decide)
          · refine ⟨K' ++ [p.2], vs' ++ [sv ++ [p.1]], _, rfl, ?_, ⟨?_, ?_, ?_, ?_, ?_, ?_⟩, ?_, ?_⟩
            · unfold fO
              rw [sup_comm3 hab, sup_sup]
              simp [runT]
            · rw [List.nodup_append]
              refine ⟨F'.nd, by simp, fun x hx y hy => ?_⟩
              simp at hy
              subst hy
              intro e
              subst e
              exact hn hx
            · exact List.mem_append_left _ F'.zero
            · intro x hx
              rcases List.mem_append.mp hx with hx | hx
              · exact F'.run x hx
              · simp at hx
                subst hx
                exact .step (F.run s hsm) hrow (w := p.1) hpm
            · intro x hx
              rcases List.mem_append.mp hx with hx | hx
              · exact F'.lt x hx
              · simp at hx
                subst hx
                exact pK
            · simp [F'.len]
            · intro w hw
              rcases List.mem_append.mp hw with hw | hw
              · have := F'.ok w hw
                exact ⟨by simp; omega, this.2⟩
              · simp at hw
                subst hw
                have := F'.ok sv hsvm
                refine ⟨by simp; omega, fun k hk => ?_⟩
                rcases List.mem_append.mp hk with hk | hk
                · exact this.2 k hk
                · simp at hk
                  subst hk
                  exact ok.ok row hrm p hpm
            · exact pre.trans (List.prefix_append _ _)
            · intro x hx
              rcases take_in x hx with h1 | rfl
              · exact List.mem_append_left _ (cl' x h1)
              · exact List.mem_append_right _ (by simp)
      · have hn : p.2 ∈ K' := by
          have := num_mem (K := K') (s := p.2)
          by_cases hm : p.2 ∈ K'
          · exact hm
          · rw [decide_eq_false fun z => hm (this.mp z)] at hn; cases hn
        refine ws_nil ⟨K', vs', _, rfl, rfl, F', pre, fun x hx => ?_⟩
        rcases take_in x hx with h1 | rfl
        · exact cl' x h1
        · exact hn
    · rintro ρ2 O2 ⟨K', vs', x5', rfl, rfl, F', pre, cl'⟩
      rw [List.length_map, List.length_map, List.take_length] at cl'
      have hle := pre.length_le
      refine ⟨tb.length - (j + 1), by omega, K', vs', j + 1, _, _, rfl, by omega, rfl, rfl, F', fun i s' row' p hi hs' hr hp => ?_⟩
      have e : K'[i]? = K[i]? := by
        obtain ⟨E, rfl⟩ := pre
        exact List.getElem?_append_left (by omega)
      rw [e] at hs'
      by_cases h1 : i < j
      · exact pre.subset (cl i s' row' p h1 hs' hr hp)
      · have : i = j := by omega
        subst this
        rw [hs] at hs'
        cases hs'
        rw [hrow] at hr
        cases hr
        exact cl' p hp
  · have h : j = K.length := by
      have := of_decide_eq_false h
      simp only [List.length_map] at this
      omega
    refine ws_one (w1_ret (w_retT (v 1 rfl ⟨_, Frz.flatD (by unfold fO; rw [sup_ne hab, sup_same]), q K vs F.nd (fun s => ⟨F.run s, fun hr => ?_⟩) F.len fun v hv => (F.ok v hv).2⟩)))
    induction hr with
    | zero => exact F.zero
    | @step h' w o row _ h2 h3 ih =>
      obtain ⟨i, hi⟩ := List.getElem?_of_mem ih
      exact cl i h' row (w, o) (by rw [h]; exact (List.getElem?_eq_some_iff.mp hi).1) hi h2 h3
end Far
namespace Far
open PySem PySem.Spec PyProof.Rows L2 TL
variable {g : G} {C : Addr}
theorem tb_of {rows : List (List St)} {X : List Str} (R : RowsOk rows) (hp : 1 ≤ rows.length) (hw : ∀ row ∈ rows, ∀ s ∈ row, okW s.w) : TbOk (under rows X) := by
  have el : (under rows X).length = rows.length := by simp [under]
  have mem : ∀ r ∈ under rows X, ∃ row ∈ rows, r = (row.filter (free X)).map fun s => (s.w, s.other) := fun r hr => by
    obtain ⟨row, h1, h2⟩ := List.mem_map.mp hr
    exact ⟨row, h1, h2.symm⟩
  refine ⟨by rw [el]; exact hp, by rw [el]; exact R.small, fun r hr p hpm => ?_, fun r hr => ?_, fun r hr p hpm => ?_, fun r hr p hpm => ?_⟩
  · obtain ⟨row, h1, rfl⟩ := mem r hr
    obtain ⟨s, h2, rfl⟩ := List.mem_map.mp hpm
    rw [el]; exact R.other row h1 s (List.mem_filter.mp h2).1
  · obtain ⟨row, h1, rfl⟩ := mem r hr
    rw [List.map_map]
    exact (List.Sublist.map _ List.filter_sublist).nodup (R.nd row h1)
  · obtain ⟨row, h1, rfl⟩ := mem r hr
    obtain ⟨s, h2, rfl⟩ := List.mem_map.mp hpm
    exact R.dep row h1 s (List.mem_filter.mp h2).1
  · obtain ⟨row, h1, rfl⟩ := mem r hr
    obtain ⟨s, h2, rfl⟩ := List.mem_map.mp hpm
    exact hw row h1 s (List.mem_filter.mp h2).1
/-- a play whose rules, words .. are such as the law makes them -/
structure PlOk (rows : List (List St)) (bad : List Nat) : Prop where
  R : RowsOk rows
  pos : 1 ≤ rows.length
  w : ∀ row ∈ rows, ∀ s ∈ row, okW s.w
/-- a bad stand is reached under X -/
def Breaks (rows : List (List St)) (bad : List Nat) (X : List Str) : Prop := ∃ s ∈ bad, RunTo (under rows X) s
/-- names as they are given to keeps -/
structure Names (X : List Str) : Prop where
  ok : ∀ x ∈ X, nmOk x = true
  nd : X.Nodup
  len : X.length ≤ 1000
theorem okD_run {ks : List NestedKey} (h : ∀ k ∈ ks, okW k) : isD (runT ks) = true ∧ (toD (runT ks)).depth ≤ 9 ∧ clT (runT ks) := by
  refine ⟨isDs_iff.mpr fun t ht => ?_, ?_, cl_lst fun t ht => ?_⟩
  · obtain ⟨k, hk, rfl⟩ := List.mem_map.mp ht
    exact (h k hk).1
  · show (PyData.list (toDs (ks.map kT))).depth ≤ 9
    have := depthAll_le (n := 8) (ts := ks.map kT) fun t ht => by
      obtain ⟨k, hk, rfl⟩ := List.mem_map.mp ht
      exact (h k hk).2.2
    simp only [PyData.depth]
    omega
  · obtain ⟨k, hk, rfl⟩ := List.mem_map.mp ht
    exact (h k hk).2.1
theorem eqT_nil (ts : List T) : TL.eqT (.lst ts) (.lst []) = ts.isEmpty := by
  show PyData.eqv (.list (toDs ts)) (.list (toDs [])) = _
  rw [PyData.eqv]
  cases ts with
  | nil => simp [toDs, PyData.eqvAll]
  | cons t ts => simp [toDs, PyData.eqvAll]
theorem cast_mem {s : Nat} {bad : List Nat} (h : (s : Int) ∈ bad.map fun i : Nat => (i : Int)) : s ∈ bad := by
  obtain ⟨y, hy, ey⟩ := List.mem_map.mp h
  have : y = s := by omega
  rw [← this]; exact hy
theorem d_break_run (E : Env g C) : Def g "break_run" 2 3 (ptT fun ts P => ∃ rows bad t X, ts = [plT C rows bad, t] ∧ PlOk rows bad ∧ (t = .lst (sT X) ∨ t = .tup (sT X)) ∧ Names X ∧ ∀ u, (isNonT u = true ↔ ¬ Breaks rows bad X) → noIns u = true → P u) := by
  refine mkDef E.f_break_run sc_break_run rfl (fun _ _ _ _ _ _ _ us hl => match us, hl with | [_, _], _ => rfl) ?_
  rintro us O Q hl ⟨rfl, ts, rfl, rows, bad, t, X, rfl, ok, e, nX, q⟩
  refine ws_cons (st 2 (cP (d_shortest_runs E) (cP (d_steps_under E) (v 0 rfl (cP (d_checked_rules E) (v 1 rfl ⟨[t], rfl, t, X, rfl, e, nX.ok, nX.nd, nX.len, [_, _], rfl, rows, bad, X, rfl, ok.R, [_], rfl, _, rfl, tb_of ok.R ok.pos ok.w, fun K vs knd km klen hvs => ?_⟩))))))
  have kz : K.length ≤ 1000 := by
    have h1 : K.length ≤ rows.length := by
      refine nd_lt knd fun x hx => ?_
      have := (km x).mp hx
      have T := tb_of (X := X) ok.R ok.pos ok.w
      have el : (under rows X).length = rows.length := by simp [under]
      rw [← el]
      cases this with
      | zero => exact T.pos
      | step h1 h2 h3 => exact T.other _ (List.mem_of_getElem? h2) _ h3
    have := ok.R.small
    omega
  have val : ∀ s ∈ K, ∃ r, dget (nK K) ((vs.map runT).map Vl.t) (.num (s : Nat)) = some (.t (runT r)) ∧ ∀ k ∈ r, okW k := fun s hs => by
    obtain ⟨r, hr⟩ := dget_some (k := .num (s : Nat)) (ks := nK K) (xs := vs) (by rw [List.length_map]; exact klen) (num_mem.mpr hs)
    exact ⟨r, by rw [dget_map, dget_map, hr]; rfl, hvs r (dget_mem hr)⟩
  refine ws_cons (stLcP (α := Nat) 3 [("stand", 4)] [4] (fun i => .t (.int (i : Nat))) (fun s => decide (s ∈ bad)) (fun s => ((dget (nK K) (vs.map runT) (.num (s : Nat))).getD .non)) (wi_dic (v 2 rfl ⟨nK K, _, rfl, K, by rw [List.map_map]; rfl, Nat.le_trans kz (by decide), fun s hs => ⟨_, gn 4, ?_⟩, .inl ?_⟩)))
  · refine wb_cmp o_inI (v 4 rfl (fld (v 0 rfl ⟨C, _, _, .lst (iT bad), rfl, E.cls, E.n_bad, rfl, (s : Nat), bad.map fun i : Nat => (i : Int), rfl, by rw [List.map_map]; rfl, _, rfl, ?_, rfl, fun _ => ix x_dic (v 2 rfl (v 4 rfl ?_))⟩))) rfl
    · by_cases h : s ∈ bad
      · rw [decide_eq_true h, decide_eq_true (List.mem_map.mpr ⟨s, h, rfl⟩)]
      · rw [decide_eq_false h, decide_eq_false fun hm => h (cast_mem hm)]
    · obtain ⟨r, hr, _⟩ := val s hs
      refine ⟨.num (s : Nat), nK K, _, _, rfl, .inl ⟨_, rfl, rfl⟩, Nat.zero_le _, hr, ?_, rfl⟩
      rw [dget_map] at hr
      cases hd : dget (nK K) (vs.map runT) (.num (s : Nat)) with
      | none => rw [hd] at hr; cases hr
      | some u => rw [hd] at hr; cases hr; rfl
  · generalize hruns : (K.filter fun s => decide (s ∈ bad)).map (fun s => ((dget (nK K) (vs.map runT) (.num (s : Nat))).getD .non)) = runs
    have hr : ∀ u ∈ runs, ∃ r, u = runT r ∧ ∀ k ∈ r, okW k := fun u hu => by
      rw [← hruns] at hu
      obtain ⟨s, hs, rfl⟩ := List.mem_map.mp hu
      obtain ⟨r, hr, ho⟩ := val s (List.mem_filter.mp hs).1
      rw [dget_map] at hr
      cases hd : dget (nK K) (vs.map runT) (.num (s : Nat)) with
      | none => rw [hd] at hr; cases hr
      | some u => rw [hd] at hr; cases hr; exact ⟨r, rfl, ho⟩
    have hB : runs = [] ↔ ¬ Breaks rows bad X := by
      rw [← hruns, List.map_eq_nil_iff, List.filter_eq_nil_iff]
      constructor
      · rintro h ⟨s, hb, hs⟩
        exact h s ((km s).mpr hs) (decide_eq_true hb)
      · intro h s hs hb
        exact h ⟨s, of_decide_eq_true hb, (km s).mp hs⟩
    have okr : okD (.lst runs) = true := okD_lst (n := 9) (fun u hu => by
      obtain ⟨r, rfl, ho⟩ := hr u hu
      exact okD_run ho) (by decide)
    refine ws_one (w1_ret (w_if (wb_cmp o_ne (v 3 rfl (w_lst True.intro ⟨Nat.zero_le _, .inl ⟨[], rfl, .lst runs, .lst [], rfl, rfl, okr, by decide, _, rfl, fun h => ?_, fun h => ?_⟩⟩)) rfl)))
    · rw [eqT_nil] at h
      cases hrs : runs with
      | nil => rw [hrs] at h; cases h
      | cons u us =>
        obtain ⟨r, eu, _⟩ := hr u (by rw [hrs]; exact List.mem_cons_self)
        refine ix x_seq (v 3 rfl (w_int ⟨u :: us, 0, u, .inl rfl, rfl, at_nat (j := 0) rfl, q u ?_ (by rw [eu]; rfl)⟩))
        rw [← hB, hrs, eu]
        simp [isNonT]
    · rw [eqT_nil] at h
      have : runs = [] := by
        cases hrs : runs with
        | nil => rfl
        | cons u us => rw [hrs] at h; cases h
      exact w_non (q .non ⟨fun _ => hB.mp this, fun _ => rfl⟩ rfl)
theorem d_keeps (E : Env g C) : Def g "keeps" 2 4 (ptT fun ts P => ∃ rows bad t X, ts = [plT C rows bad, t] ∧ PlOk rows bad ∧ (t = .lst (sT X) ∨ t = .tup (sT X)) ∧ Names X ∧ ∀ b : Bool, (b = true ↔ ¬ Breaks rows bad X) → P (.bl b)) := by
  refine mkDef E.f_keeps sc_keeps rfl (fun _ _ _ _ _ _ _ us hl => match us, hl with | [_, _], _ => rfl) ?_
  rintro us O Q hl ⟨rfl, ts, rfl, rows, bad, t, X, rfl, ok, e, nX, q⟩
  exact ws_one (w1_ret (w_cmp o_isN (cP (d_break_run E) (v 0 rfl (v 1 rfl ⟨[_, t], rfl, rows, bad, t, X, rfl, ok, e, nX, fun u hu _ => w_non ⟨u, rfl, rfl, q _ hu⟩⟩))) rfl))
end Far
namespace Far
open PySem PySem.Spec PyProof.Rows L2 TL
variable {g : G} {C : Addr}
theorem rising_srt : ∀ {p : Str} {xs : List Str}, risingS p xs = true → (p :: xs).Nodup → Srt (p :: xs)
  | p, [], _, _ => List.pairwise_singleton _ _
  | p, x :: r, h, nd => by
    have h := Bool.and_eq_true_iff.mp (show (!ltCps x.cps.toList p.cps.toList && risingS x r) = true from h)
    have nd' := List.nodup_cons.mp nd
    have ih := rising_srt h.2 nd'.2
    have h1 : ¬ ltS x p := by
      have := h.1
      rw [ltCps_eq] at this
      simpa [ltS] using this
    have h2 : ltS p x := (ltS_tri fun e => nd'.1 (by rw [e]; exact List.mem_cons_self)).resolve_right h1
    refine List.pairwise_cons.mpr ⟨fun y hy => ?_, ih⟩
    rcases List.mem_cons.mp hy with rfl | hy
    · exact h2
    · exact ltS_trans h2 ((List.pairwise_cons.mp ih).1 y hy)
theorem srt_of_sorted : ∀ {xs : List Str}, sortedS xs = true → xs.Nodup → Srt xs
  | [], _, _ => List.Pairwise.nil
  | _ :: _, h, nd => rising_srt h nd
/-! ### is_part -/
def subB (a b : SetS) : Bool := a.all fun x => decide (x ∈ b)
theorem subB_iff {a b : SetS} : subB a b = true ↔ Sb a b := by
  unfold subB Sb
  rw [List.all_eq_true]
  exact ⟨fun h x hx => of_decide_eq_true (h x hx), fun h x hx => decide_eq_true (h x hx)⟩
theorem d_is_part (E : Env g C) : Def g "is_part" 2 1 (ptT fun ts P => ∃ a b, ts = [SetT a, SetT b] ∧ a.length ≤ 1000 ∧ P (.bl (subB a b))) := by
  refine mkDef E.f_is_part sc_is_part rfl (fun _ _ _ _ _ _ _ us hl => match us, hl with | [_, _], _ => rfl) ?_
  rintro us O Q hl ⟨rfl, ts, rfl, a, b, rfl, hz, q⟩
  refine ws_one (w1_ret (cB b_all E.b_all (lcA (α := Str) [("thing", 2)] [2] (fun x => .t (.str x)) (fun x => .bl (decide (x ∈ b))) (wi_tup (v 0 rfl ⟨sT a, rfl, a, by rw [List.map_map]; rfl, Nat.le_trans hz (by decide), fun x hx => ⟨_, gn 2, w_cmp o_inS (v 2 rfl (v 1 rfl ⟨x, b, rfl, .inr rfl, rfl, rfl⟩)) rfl⟩, .inl ⟨a.map fun x => decide (x ∈ b), by rw [List.map_map]; rfl, ?_⟩⟩)))))
  rw [List.all_map]
  exact q
/-! ### in_order -/
def setK (x : SetS) : NestedKey := .tup (x.map .text)
theorem kT_setK (x : SetS) : kT (setK x) = SetT x := by
  unfold setK
  rw [kT, kTs_map, List.map_map]; rfl
theorem setK_inj : ∀ a b : SetS, setK a = setK b → a = b := by
  intro a b h
  injection h with h
  induction a generalizing b with
  | nil => cases b with | nil => rfl | cons _ _ => simp at h
  | cons x a ih =>
    cases b with
    | nil => simp at h
    | cons y b =>
      rw [List.map_cons, List.map_cons] at h
      injection h with h1 h2
      injection h1 with h1
      rw [h1, ih b h2]
theorem depth_setK (x : SetS) : (setK x).depth ≤ 8 := by
  have : ∀ l : List Str, NestedKey.depthAll (l.map .text) ≤ 0 := by
    intro l
    induction l with
    | nil => simp [NestedKey.depthAll]
    | cons y l ih => simp only [List.map_cons, NestedKey.depthAll, NestedKey.depth]; omega
  have := this x
  unfold setK
  simp only [NestedKey.depth]
  omega
abbrev sets (L : List SetS) : List T := L.map SetT
theorem d_in_order (E : Env g C) : Def g "in_order" 1 1 (ptL fun ts K => ∃ L, ts = [.lst (sets L)] ∧ L.length < sizeLine ∧ ∀ R : List SetS, R.Pairwise ltK → (∀ x, x ∈ R ↔ x ∈ L) → K (sets R)) := by
  refine mkDef E.f_in_order sc_in_order rfl (fun _ _ _ _ _ _ _ us hl => match us, hl with | [_], _ => rfl) ?_
  rintro us O Q hl ⟨rfl, ts, rfl, L, rfl, hz, q⟩
  obtain ⟨ys, ey, ynd, _⟩ := ddK_map setK L
  have ym := ddK_map_mem setK_inj ey
  have yl : ys.length ≤ L.length := by
    have := ddK_len (L.map setK)
    rw [ey, List.length_map, List.length_map] at this
    exact this
  have yz : ys.length ≤ sizeLine := by omega
  obtain ⟨s1, s2, s3, s4⟩ := srtd_lens ys yz
  refine ws_one (w1_ret ?_)
  refine lcA (α := SetS) [("many", 1), ("one", 2)] [1, 2] (fun x => .t (lenT x)) SetT (wi_list (cB b_sortedA E.b_sorted (lcA (α := SetS) [("one", 2)] [2] (fun x => .t (SetT x)) lenT (wi_list (cT b_listD E.b_list (dcK (α := SetS) [("one", 2)] [2] (fun x => .t (SetT x)) setK (.bl true) (wi_list (v 0 rfl ⟨sets L, rfl, L, by rw [List.map_map]; rfl, hz, fun x hx => ⟨_, gn 2, v 2 rfl ⟨by rw [kT_setK], depth_setK x, rfl, w_bl ⟨rfl, rfl⟩⟩⟩, _, _, rfl, ?_⟩))))))))
  refine ⟨_, rfl, ys, ?_, yz, fun x hx => ⟨_, gn 2, w_tup ⟨fun _ => rfl, fun _ => rfl, True.intro⟩ (cB b_len E.b_len (v 2 rfl ⟨_, .inr rfl, v 2 rfl ⟨[_, _], rfl, by show 2 ≤ sizeLine; decide, ?_, rfl⟩⟩))⟩, .inl ⟨_, .inl rfl, s1, s2, s3, s4, _, rfl, sortK ys, ?_, ?_, fun x hx => ⟨_, wg2 1 2, v 2 rfl ⟨rfl, rfl⟩⟩, ?_⟩⟩
  · rw [ey, List.map_map, List.map_map]
    exact List.map_congr_left fun x _ => by show Vl.t (kT (setK x)) = _; rw [kT_setK]
  · rw [List.length_map]; rfl
  · rw [sortT_lens, List.map_map]; rfl
  · rw [(sortK_perm ys).length_eq]; exact yz
  · exact (q (sortK ys) (sortK_srt ynd) fun x => by rw [(sortK_perm ys).mem_iff, ym]).imp id fun h a _ => h a
end Far
namespace Far
open PySem PySem.Spec PyProof.Rows L2 TL
variable {g : G} {C : Addr}
/-- minimal ones, one after another in the order -/
theorem min_snoc {R : List SetS} (hR : R.Pairwise ltK) (hS : ∀ x ∈ R, Srt x) {i : Nat} {one : SetS} (hi : R[i]? = some one) {F : List SetS} (hF : ∀ x, x ∈ F ↔ MinIn (· ∈ R.take i) x) (x : SetS) :
    MinIn (· ∈ R.take (i + 1)) x ↔ x ∈ F ∨ (F.any (fun e => subB e one) = false ∧ x = one) := by
  obtain ⟨hlt, e1⟩ := List.getElem?_eq_some_iff.mp hi
  have et : R.take (i + 1) = R.take i ++ [one] := by rw [List.take_succ_eq_append_getElem hlt, e1]
  have hone := List.mem_of_getElem? hi
  have pre : ∀ y ∈ R.take i, ltK y one := fun y hy => by
    have h1 : (R.take i ++ [one]).Pairwise ltK := by rw [← et]; exact hR.sublist (List.take_sublist _ _)
    exact (List.pairwise_append.mp h1).2.2 y hy one (by simp)
  have srt : ∀ y ∈ R.take i, Srt y := fun y hy => hS y (List.mem_of_mem_take hy)
  have nosub : ∀ y ∈ R.take i, ¬ Sb one y := fun y hy hs => by
    by_cases e : one = y
    · subst e; exact ltK_irrefl _ (pre _ hy)
    · exact ltK_asymm (pre y hy) (ltK_of_sub (hS one hone) (srt y hy) hs e)
  have any : F.any (fun e => subB e one) = true ↔ ∃ y ∈ R.take i, Sb y one := by
    rw [List.any_eq_true]
    constructor
    · rintro ⟨y, hy, hs⟩
      exact ⟨y, ((hF y).mp hy).1, subB_iff.mp hs⟩
    · rintro ⟨y, hy, hs⟩
      obtain ⟨z, hz, hzs⟩ := exists_min (P := (· ∈ R.take i)) srt hy
      exact ⟨z, (hF z).mpr hz, subB_iff.mpr (hzs.trans hs)⟩
  rw [et]
  constructor
  · rintro ⟨h1, h2⟩
    rcases List.mem_append.mp h1 with h1 | h1
    · exact .inl ((hF x).mpr ⟨h1, fun y hy hs => h2 y (List.mem_append_left _ hy) hs⟩)
    · simp at h1
      subst h1
      refine .inr ⟨?_, rfl⟩
      cases q : F.any (fun e => subB e x) with
      | false => rfl
      | true =>
        obtain ⟨y, hy, hs⟩ := any.mp q
        have := h2 y (List.mem_append_left _ hy) hs
        subst this
        exact absurd hs (nosub y hy)
  · rintro (h | ⟨h, rfl⟩)
    · have h := (hF x).mp h
      refine ⟨List.mem_append_left _ h.1, fun y hy hs => ?_⟩
      rcases List.mem_append.mp hy with hy | hy
      · exact h.2 y hy hs
      · simp at hy
        subst hy
        exact absurd hs (nosub x h.1)
    · refine ⟨List.mem_append_right _ (by simp), fun y hy hs => ?_⟩
      rcases List.mem_append.mp hy with hy | hy
      · have := any.mpr ⟨y, hy, hs⟩
        rw [h] at this
        cases this
      · simpa using hy
abbrev spLeast : LSp := fun ts K => ∃ L : List SetS, ts = [.lst (sets L)] ∧ (∀ x ∈ L, Srt x) ∧ (∀ x ∈ L, x.length ≤ 1000) ∧ L.length < sizeLine ∧ ∀ R : List SetS, R.Pairwise ltK → (∀ x, x ∈ R ↔ MinIn (· ∈ L) x) → K (sets R)
theorem spLeast_mono : ∀ ts (P P' : List T → Prop), (∀ rs, P rs → P' rs) → spLeast ts P → spLeast ts P' := fun ts P P' h ⟨L, h1, h2, h3, h4, h5⟩ => ⟨L, h1, h2, h3, h4, fun R hR hm => h _ (h5 R hR hm)⟩
theorem min_congr {P P' : SetS → Prop} (h : ∀ x, P x ↔ P' x) (x : SetS) : MinIn P x ↔ MinIn P' x :=
  ⟨fun q => ⟨(h x).mp q.1, fun y hy => q.2 y ((h y).mpr hy)⟩, fun q => ⟨(h x).mpr q.1, fun y hy => q.2 y ((h y).mp hy)⟩⟩
theorem d_least_of (E : Env g C) : Def g "least_of" 1 2 (ptL spLeast) := by
  refine mkDef E.f_least_of sc_least_of rfl (fun _ _ _ _ _ _ _ us hl => match us, hl with | [_], _ => rfl) ?_
  rintro us O Q hl ⟨rfl, ts, rfl, L, rfl, hS, hlen, hz, q⟩
  refine ws_cons (st 1 (w_lst True.intro ⟨Nat.zero_le _, .inr fun a ha => ?_⟩))
  refine ws_cons (fr (wi_list (cL (d_in_order E) (fun ts P P' h ⟨L, h1, h2, h3⟩ => ⟨L, h1, h2, fun R a b => h _ (h3 R a b)⟩) (v 0 rfl ⟨[.lst (sets L)], rfl, L, rfl, hz, fun R hR hm => .inl ⟨sets R, rfl, ?_⟩⟩))))
  have hRz : R.length ≤ L.length := nd_len' (pwK_nodup hR) fun x hx => (hm x).mp hx
  have hRS : ∀ x ∈ R, Srt x := fun x hx => hS x ((hm x).mp hx)
  refine ⟨fun i ρ1 O3 => ∃ x2 x3 F, ρ1 = [some (.t (.lst (sets L))), some (.cell a), x2, x3] ∧ O3 = sup noS a (.lst ((sets F).map Vl.t)) ∧ F.Pairwise ltK ∧ ∀ x, x ∈ F ↔ MinIn (· ∈ R.take i) x, ⟨none, none, [], rfl, rfl, List.Pairwise.nil, fun x => ⟨fun h => (by cases h), fun h => (by have := h.1; simp at this)⟩⟩, ?_, ?_⟩
  · rintro i u ρ1 O3 hu ⟨x2, x3, F, rfl, rfl, hFp, hF⟩
    obtain ⟨t, h1, rfl⟩ := map_get hu
    obtain ⟨one, h2, rfl⟩ := map_get h1
    have ms := min_snoc hR hRS h2 hF
    obtain ⟨hlt, e1⟩ := List.getElem?_eq_some_iff.mp h2
    have fR : ∀ y ∈ F, y ∈ R.take i := fun y hy => ((hF y).mp hy).1
    have fz : F.length ≤ R.length := nd_len' (pwK_nodup hFp) fun y hy => List.mem_of_mem_take (fR y hy)
    refine ⟨_, _, gn 2, ws_one (w1_if (wb_pure (ρ' := [some (.t (.lst (sets L))), some (.t (.lst (sets F))), some (.t (SetT one)), x3]) (.keep (.frz (Frz.flat sup_same) (.keep (.keep .nil)))) (wb_not (wb_val (cB b_any E.b_any (lcA (α := SetS) [("elder", 3)] [3] (fun x => .t (SetT x)) (fun e => .bl (subB e one)) (wi_list (v 1 rfl ⟨sets F, rfl, F, by rw [List.map_map]; rfl, by omega, fun e he => ⟨_, gn 3, cP (d_is_part E) (v 3 rfl (v 2 rfl ⟨[SetT e, SetT one], rfl, e, one, rfl, hlen e ((hm e).mp (List.mem_of_mem_take (fR e he))), rfl, rfl⟩))⟩, .inl ⟨F.map fun e => subB e one, by rw [List.map_map]; rfl, _, rfl, fun h => ?_, fun h => ?_⟩⟩)))) fun _ _ => rfl))))⟩
    · rw [List.any_map] at h
      have h : F.any (fun e => subB e one) = false := by simpa using h
      refine ws_one (sx (app (v 1 rfl ⟨a, rfl, ⟨_, sup_same⟩, v 2 rfl ⟨_, sup_same, ?_, _, x3, F ++ [one], rfl, ?_, ?_, fun x => ?_⟩⟩)))
      · simp only [List.length_map]; omega
      · rw [sup_sup]; simp
      · rw [List.pairwise_append]
        refine ⟨hFp, List.pairwise_singleton _ _, fun y hy z hz => ?_⟩
        simp at hz
        subst hz
        have h3 : (R.take i ++ [z]).Pairwise ltK := by
          have : R.take (i + 1) = R.take i ++ [z] := by rw [List.take_succ_eq_append_getElem hlt, e1]
          rw [← this]; exact hR.sublist (List.take_sublist _ _)
        exact (List.pairwise_append.mp h3).2.2 y (fR y hy) z (by simp)
      · rw [ms x, List.mem_append]
        simp [h]
    · rw [List.any_map] at h
      have h : F.any (fun e => subB e one) = true := by simpa using h
      refine ws_nil ⟨_, x3, F, rfl, rfl, hFp, fun x => ?_⟩
      rw [ms x, h]
      simp
  · rintro ρ1 O3 ⟨x2, x3, F, rfl, rfl, hFp, hF⟩
    rw [List.length_map, List.length_map, List.take_length] at hF
    exact ws_one (w1_ret (w_retL (v 1 rfl ⟨a, sets F, rfl, sup_same, q F hFp fun x => (hF x).trans (min_congr hm x)⟩)))
end Far
namespace Far
open PySem PySem.Spec PyProof.Rows L2 TL
variable {g : G} {C : Addr}
abbrev spHit : LSp := fun ts K => ∃ (lots : List SetS) (U : SetS), ts = [.lst (sets lots)] ∧ Srt U ∧ U.length ≤ 12 ∧ (∀ l ∈ lots, Srt l ∧ Sb l U) ∧ ∀ R : List SetS, R.Pairwise ltK → (∀ x, x ∈ R ↔ MinHit lots x) → K (sets R)
theorem spHit_mono : ∀ ts (P P' : List T → Prop), (∀ rs, P rs → P' rs) → spHit ts P → spHit ts P' := fun ts P P' h ⟨L, U, h1, h2, h3, h4, h5⟩ => ⟨L, U, h1, h2, h3, h4, fun R hR hm => h _ (h5 R hR hm)⟩
def StepC (lot x c : SetS) : Prop := ((∃ a ∈ lot, a ∈ x) ∧ c = x) ∨ ((¬ ∃ a ∈ lot, a ∈ x) ∧ ∃ a ∈ lot, c = addS x a)
theorem d_least_hitting (E : Env g C) : Def g "least_hitting" 1 3 (ptL spHit) := by
  refine mkDef E.f_least_hitting sc_least_hitting rfl (fun _ _ _ _ _ _ _ us hl => match us, hl with | [_], _ => rfl) ?_
  rintro us O Q hl ⟨rfl, ts, rfl, lots, U, rfl, hU, hU12, hlots, q⟩
  refine ws_cons (st 1 (w_lst ⟨fun _ => rfl, True.intro⟩ (w_tup True.intro ⟨[], rfl, Nat.zero_le _, by show 1 ≤ sizeLine; decide, .inr fun a ha => ?_⟩)))
  refine ws_cons (fr (wi_list (v 0 rfl ⟨sets lots, rfl, fun i ρ1 O3 => ∃ c F x2 x3 x4 x5, ρ1 = [some (.t (.lst (sets lots))), some (.cell c), x2, x3, x4, x5] ∧ O3 = sup noS c (.lst ((sets F).map Vl.t)) ∧ F.Pairwise ltK ∧ ∀ x, x ∈ F ↔ MinHit (lots.take i) x, ⟨a, [[]], none, none, none, none, rfl, rfl, List.pairwise_singleton _ _, fun x => by rw [List.take_zero, min_hit_nil]; simp⟩, ?_, ?_⟩)))
  · rintro i u ρ1 O3 hu ⟨c, F, x2, x3, x4, x5, rfl, rfl, hFp, hF⟩
    obtain ⟨t, h1, rfl⟩ := map_get hu
    obtain ⟨lot, h2, rfl⟩ := map_get h1
    have hlot := hlots lot (List.mem_of_getElem? h2)
    obtain ⟨hlt, e1⟩ := List.getElem?_eq_some_iff.mp h2
    have et : lots.take (i + 1) = lots.take i ++ [lot] := by rw [List.take_succ_eq_append_getElem hlt, e1]
    have ll : lot.length ≤ 12 := Nat.le_trans (Sb.len hlot.1 hlot.2) hU12
    have fU : ∀ x ∈ F, Srt x ∧ Sb x U := fun x hx => ⟨((hF x).mp hx).1.1, minhit_sub (fun l hl => (hlots l (List.mem_of_mem_take hl)).2) ((hF x).mp hx)⟩
    have fz : F.length ≤ 4096 := Nat.le_trans (count_sets hU (pwK_nodup hFp) fU) (Nat.pow_le_pow_right (by decide) hU12)
    refine ⟨_, _, gn 2, ws_frz (ρ' := [some (.t (.lst (sets lots))), some (.t (.lst (sets F))), some (.t (SetT lot)), x3, x4, x5]) Split.all (.keep (.frz (Frz.flat sup_same) (.keep (.keep (.keep (.keep .nil)))))) ?_⟩
    refine ws_cons (st 3 (w_lst True.intro ⟨Nat.zero_le _, .inr fun b hb => ?_⟩))
    refine ws_cons (fr (wi_list (v 1 rfl ⟨sets F, rfl, fun j ρ2 O4 => ∃ M x4 x5, ρ2 = [some (.t (.lst (sets lots))), some (.t (.lst (sets F))), some (.t (SetT lot)), some (.cell b), x4, x5] ∧ O4 = sup noS b (.lst ((sets M).map Vl.t)) ∧ M.length ≤ j * 13 ∧ ∀ z, z ∈ M ↔ ∃ x ∈ F.take j, StepC lot x z, ⟨[], x4, x5, rfl, rfl, Nat.zero_le _, fun z => ⟨fun h => (by cases h), fun ⟨x, hx, _⟩ => (by simp at hx)⟩⟩, ?_, ?_⟩)))
    · rintro j u ρ2 O4 hu ⟨M, x4, x5, rfl, rfl, hMz, hM⟩
      obtain ⟨t, h3, rfl⟩ := map_get hu
      obtain ⟨one, h4, rfl⟩ := map_get h3
      obtain ⟨hlt2, e2⟩ := List.getElem?_eq_some_iff.mp h4
      have ft : F.take (j + 1) = F.take j ++ [one] := by rw [List.take_succ_eq_append_getElem hlt2, e2]
      have hone := fU one (List.mem_of_getElem? h4)
      have ol : one.length ≤ 12 := Nat.le_trans (Sb.len hone.1 hone.2) hU12
      have big : 4096 * 13 + 13 ≤ sizeLine := by decide
      have hj : j * 13 ≤ 4096 * 13 := Nat.mul_le_mul_right _ (by omega)
      have hitB : (one.any fun x => decide (x ∈ lot)) = true ↔ ∃ a ∈ lot, a ∈ one := by
        rw [List.any_eq_true]
        exact ⟨fun ⟨x, h, h'⟩ => ⟨x, of_decide_eq_true h', h⟩, fun ⟨x, h, h'⟩ => ⟨x, h', decide_eq_true h⟩⟩
      refine ⟨_, _, gn 4, ws_one (w1_if (wb_val (cB b_any E.b_any (lcA (α := Str) [("thing", 5)] [5] (fun x => .t (.str x)) (fun x => .bl (decide (x ∈ lot))) (wi_tup (v 4 rfl ⟨sT one, rfl, one, by rw [List.map_map]; rfl, Nat.le_trans ol (by decide), fun x hx => ⟨_, gn 5, w_cmp o_inS (v 5 rfl (v 2 rfl ⟨x, lot, rfl, .inr rfl, rfl, rfl⟩)) rfl⟩, .inl ⟨one.map fun x => decide (x ∈ lot), by rw [List.map_map]; rfl, _, rfl, fun h => ?_, fun h => ?_⟩⟩)))) fun _ _ => rfl))⟩
      · rw [List.any_map] at h
        have h := hitB.mp h
        refine ws_one (sx (app (v 3 rfl ⟨b, rfl, ⟨_, sup_same⟩, v 4 rfl ⟨_, sup_same, ?_, M ++ [one], _, x5, rfl, ?_, ?_, fun z => ?_⟩⟩)))
        · simp only [List.length_map]; omega
        · rw [sup_sup]; simp
        · simp; omega
        · rw [List.mem_append, hM, ft]
          constructor
          · rintro (⟨x, hx, hs⟩ | hz)
            · exact ⟨x, List.mem_append_left _ hx, hs⟩
            · simp at hz
              subst hz
              exact ⟨z, List.mem_append_right _ (by simp), .inl ⟨h, rfl⟩⟩
          · rintro ⟨x, hx, hs⟩
            rcases List.mem_append.mp hx with hx | hx
            · exact .inl ⟨x, hx, hs⟩
            · simp at hx
              subst hx
              rcases hs with ⟨_, rfl⟩ | ⟨hn, _⟩
              · exact .inr (by simp)
              · exact absurd h hn
      · rw [List.any_map] at h
        have h : ¬ ∃ a ∈ lot, a ∈ one := fun z => by
          have := hitB.mpr z
          have h' : (one.any fun x => decide (x ∈ lot)) = false := h
          rw [h'] at this
          cases this
        refine ws_one (sx (ext (v 3 rfl ⟨b, rfl, ⟨_, sup_same⟩, lcA (α := Str) [("thing", 5)] [5] (fun x => .t (.str x)) (fun x => SetT (addS one x)) (wi_tup (v 2 rfl ⟨sT lot, rfl, lot, by rw [List.map_map]; rfl, Nat.le_trans ll (by decide), fun x hx => ⟨_, gn 5, ?_⟩, .inl ⟨_, lot.map fun x => SetT (addS one x), rfl, sup_same, ?_, M ++ lot.map (addS one), _, x5, rfl, ?_, ?_, fun z => ?_⟩⟩))⟩)))
        · obtain ⟨s1, s2, s3, s4⟩ := srtd_strs (one ++ [x]) (by rw [List.length_append]; exact Nat.le_trans (show one.length + 1 ≤ 13 by omega) (by decide))
          refine cT b_tuple E.b_tuple (cB b_sortedA E.b_sorted (w_bin o_catT (v 4 rfl (w_tup ⟨fun _ => rfl, True.intro⟩ (v 5 rfl ⟨[.str x], rfl, by show 1 ≤ sizeLine; decide, sT one, [.str x], rfl, rfl, ?_, sT (one ++ [x]), .inr ?_, s1, s2, s3, s4, sT (addS one x), .inl ?_, rfl, rfl⟩)))))
          · rw [List.length_map]; exact Nat.le_trans (show one.length + 1 ≤ 13 by omega) (by decide)
          · simp
          · rw [sortT_strs]; rfl
        · simp only [List.length_map]; omega
        · rw [sup_sup]; simp [List.map_map, Function.comp_def]
        · simp; omega
        · rw [List.mem_append, hM, ft]
          constructor
          · rintro (⟨x, hx, hs⟩ | hz)
            · exact ⟨x, List.mem_append_left _ hx, hs⟩
            · obtain ⟨x, hx, rfl⟩ := List.mem_map.mp hz
              exact ⟨one, List.mem_append_right _ (by simp), .inr ⟨h, x, hx, rfl⟩⟩
          · rintro ⟨x, hx, hs⟩
            rcases List.mem_append.mp hx with hx | hx
            · exact .inl ⟨x, hx, hs⟩
            · simp at hx
              subst hx
              rcases hs with ⟨hh, _⟩ | ⟨_, y, hy, rfl⟩
              · exact absurd hh h
              · exact .inr (List.mem_map.mpr ⟨y, hy, rfl⟩)
    · rintro ρ2 O4 ⟨M, x4, x5, rfl, rfl, hMz, hM⟩
      rw [List.length_map, List.length_map] at hMz
      rw [List.length_map, List.length_map, List.take_length] at hM
      have hC : ∀ z, z ∈ M ↔ Cand (lots.take i) lot z := fun z => by
        rw [hM z]
        exact ⟨fun ⟨x, hx, hs⟩ => ⟨x, (hF x).mp hx, hs⟩, fun ⟨x, hx, hs⟩ => ⟨x, (hF x).mpr hx, hs⟩⟩
      have mU : ∀ z ∈ M, Srt z ∧ Sb z U := fun z hz => by
        refine ⟨(cand_hit ((hC z).mp hz)).1, ?_⟩
        obtain ⟨x, hx, hs⟩ := (hM z).mp hz
        rcases hs with ⟨_, rfl⟩ | ⟨_, y, hy, rfl⟩
        · exact (fU z hx).2
        · intro w hw
          rcases addS_mem.mp hw with hw | rfl
          · exact (fU x hx).2 w hw
          · exact hlot.2 w hy
      refine ws_one (st 1 (w_frzE (ρ' := [some (.t (.lst (sets lots))), some (.t (.lst (sets F))), some (.t (SetT lot)), some (.t (.lst (sets M))), x4, x5]) Split.all (.keep (.keep (.keep (.frz (Frz.flat sup_same) (.keep (.keep .nil)))))) (cL (d_least_of E) spLeast_mono (v 3 rfl ⟨[.lst (sets M)], rfl, M, rfl, fun z hz => (mU z hz).1, fun z hz => ?_, ?_, fun R hR hm => .inr fun c' hc' => ?_⟩))))
      · have := Sb.len (mU z hz).1 (mU z hz).2
        omega
      · have big : 4096 * 13 < sizeLine := by decide
        have : F.length * 13 ≤ 4096 * 13 := Nat.mul_le_mul_right _ fz
        omega
      · refine ⟨c', R, _, _, _, _, rfl, rfl, hR, fun x => ?_⟩
        rw [hm x, et, ← min_cand]
        exact min_congr hC x
  · rintro ρ1 O3 ⟨c, F, x2, x3, x4, x5, rfl, rfl, hFp, hF⟩
    rw [List.length_map, List.length_map, List.take_length] at hF
    exact ws_one (w1_ret (w_retL (v 1 rfl ⟨c, sets F, rfl, sup_same, q F hFp hF⟩)))
/-! ### joined -/
theorem d_joined (E : Env g C) : Def g "joined" 2 1 (ptT fun ts P => ∃ a b, ts = [SetT a, SetT b] ∧ a.length + b.length < 64 ∧ ∀ c : SetS, Srt c → (∀ x, x ∈ c ↔ x ∈ a ∨ x ∈ b) → P (SetT c)) := by
  refine mkDef E.f_joined sc_joined rfl (fun _ _ _ _ _ _ _ us hl => match us, hl with | [_, _], _ => rfl) ?_
  rintro us O Q hl ⟨rfl, ts, rfl, a, b, rfl, hz, q⟩
  obtain ⟨ys, ey, ynd, _⟩ := ddK_map NestedKey.text (a ++ b)
  have ym := ddK_map_mem text_inj ey
  have yl : ys.length ≤ (a ++ b).length := by
    have := ddK_len ((a ++ b).map NestedKey.text)
    rw [ey, List.length_map, List.length_map] at this
    exact this
  rw [List.length_append] at yl
  have big : 64 ≤ sizeLine := by decide
  refine ws_one (w1_ret (cT b_tuple E.b_tuple (cB b_sortedD E.b_sorted (dcK (α := Str) [("rule", 2)] [2] (fun x => .t (.str x)) NestedKey.text (.bl true) (wi_tup (w_bin o_catT (v 0 rfl (v 1 rfl ⟨sT a, sT b, rfl, rfl, ?_, sT (a ++ b), ?_, a ++ b, ?_, ?_, fun x hx => ⟨_, gn 2, v 2 rfl ⟨rfl, Nat.zero_le _, rfl, w_bl ⟨rfl, rfl⟩⟩⟩, ys, List.replicate ys.length (.bl true), ?_, ?_, fun zs hp hs => ⟨sT zs, .inl rfl, q zs (srt_of_sorted hs (hp.nodup_iff.mpr ynd)) fun x => ?_⟩⟩))))))))
  · simp only [List.length_map]; omega
  · simp
  · rw [List.map_map]; rfl
  · rw [List.length_append]; omega
  · rw [ey, List.length_map]
  · omega
  · rw [hp.mem_iff, ym, List.mem_append]
end Far
namespace Far
open PySem PySem.Spec PyProof.Rows L2 TL
variable {g : G} {C : Addr}
/-! ### runs that bar no more than x -/
inductive Reach (rows : List (List St)) (x : SetS) : Nat → Prop
  | zero : Reach rows x 0
  | step {h row s} : Reach rows x h → rows[h]? = some row → s ∈ row → Sb s.rules x → Reach rows x s.other
theorem Reach.mono {rows : List (List St)} {x y : SetS} (h : Sb x y) {s : Nat} (r : Reach rows x s) : Reach rows y s := by
  induction r with
  | zero => exact .zero
  | step _ h2 h3 h4 ih => exact .step ih h2 h3 (h4.trans h)
def updF {α : Type} (X : Nat → α) (h : Nat) (u : α) : Nat → α := fun i => if i = h then u else X i
theorem updF_same {α : Type} {X : Nat → α} {h : Nat} {u : α} : updF X h u h = u := if_pos rfl
theorem updF_ne {α : Type} {X : Nat → α} {h i : Nat} {u : α} (e : i ≠ h) : updF X h u i = X i := if_neg e
abbrev Ent2 := Nat × SetS
def pairT (p : Ent2) : T := .tup [.int p.1, SetT p.2]
/-- what still waits at (k0, at), or is covered -/
def Cov (X : Nat → List SetS) (Wt : Nat → List Ent2) (k0 at_ : Nat) (s : Nat) (y : SetS) : Prop :=
  (∃ e ∈ X s, Sb e y) ∨ ∃ k i p, (k0 < k ∨ (k = k0 ∧ at_ ≤ i)) ∧ (Wt k)[i]? = some p ∧ p.1 = s ∧ Sb p.2 y
structure BarI (rows : List (List St)) (N : SetS) (X : Nat → List SetS) (Wt : Nat → List Ent2) : Prop where
  xs : ∀ h, ∀ x ∈ X h, Srt x ∧ Sb x N ∧ Reach rows x h
  xn : ∀ h, (X h).Nodup
  ws : ∀ k, ∀ p ∈ Wt k, p.1 < rows.length ∧ Srt p.2 ∧ Sb p.2 N ∧ p.2.length = k ∧ Reach rows p.2 p.1
/-- all that was taken is followed -/
def Closed (rows : List (List St)) (X : Nat → List SetS) (Wt : Nat → List Ent2) (k0 at_ : Nat) : Prop :=
  Cov X Wt k0 at_ 0 [] ∧ ∀ h x row s, x ∈ X h → rows[h]? = some row → s ∈ row → Cov X Wt k0 at_ s.other (x ++ s.rules)
theorem Cov.grow {X X' : Nat → List SetS} {Wt Wt' : Nat → List Ent2} {k0 at_ s : Nat} {y : SetS} (hX : ∀ h, ∀ x ∈ X h, x ∈ X' h) (hW : ∀ k, Wt k <+: Wt' k) (c : Cov X Wt k0 at_ s y) : Cov X' Wt' k0 at_ s y := by
  rcases c with ⟨e, h1, h2⟩ | ⟨k, i, p, h1, h2, h3⟩
  · exact .inl ⟨e, hX s e h1, h2⟩
  · refine .inr ⟨k, i, p, h1, ?_, h3⟩
    obtain ⟨E, hE⟩ := hW k
    rw [← hE, List.getElem?_append_left (List.getElem?_eq_some_iff.mp h2).1]
    exact h2
/-- the entry at (k0, at) is done -/
theorem Cov.next {X : Nat → List SetS} {Wt : Nat → List Ent2} {k0 at_ s : Nat} {y : SetS} {p : Ent2} (hp : (Wt k0)[at_]? = some p) (hd : ∃ e ∈ X p.1, Sb e p.2) (c : Cov X Wt k0 at_ s y) : Cov X Wt k0 (at_ + 1) s y := by
  rcases c with h | ⟨k, i, q, h1, h2, h3, h4⟩
  · exact .inl h
  · rcases h1 with h1 | ⟨rfl, h1⟩
    · exact .inr ⟨k, i, q, .inl h1, h2, h3, h4⟩
    · by_cases e : i = at_
      · subst e
        rw [hp] at h2
        cases h2
        obtain ⟨e, he, hs⟩ := hd
        subst h3
        exact .inl ⟨e, he, hs.trans h4⟩
      · exact .inr ⟨k, i, q, .inr ⟨rfl, by omega⟩, h2, h3, h4⟩
/-- the list k0 is done -/
theorem Cov.up {X : Nat → List SetS} {Wt : Nat → List Ent2} {k0 s : Nat} {y : SetS} {at_ : Nat} (hl : (Wt k0).length ≤ at_) (c : Cov X Wt k0 at_ s y) : Cov X Wt (k0 + 1) 0 s y := by
  rcases c with h | ⟨k, i, q, h1, h2, h3, h4⟩
  · exact .inl h
  · rcases h1 with h1 | ⟨rfl, h1⟩
    · refine .inr ⟨k, i, q, ?_, h2, h3, h4⟩
      by_cases e : k = k0 + 1
      · exact .inr ⟨e, Nat.zero_le _⟩
      · exact .inl (by omega)
    · have := (List.getElem?_eq_some_iff.mp h2).1
      omega
theorem complete {rows : List (List St)} {X : Nat → List SetS} {Wt : Nat → List Ent2} {k0 : Nat} (hW : ∀ k, k0 ≤ k → Wt k = []) (c : Closed rows X Wt k0 0) {y : SetS} {s : Nat} (r : Reach rows y s) : ∃ x ∈ X s, Sb x y := by
  have done : ∀ s y, Cov X Wt k0 0 s y → ∃ e ∈ X s, Sb e y := fun s y h => by
    rcases h with h | ⟨k, i, q, h1, h2, _⟩
    · exact h
    · rw [hW k (by omega)] at h2
      simp at h2
  induction r with
  | zero =>
    obtain ⟨e, he, hs⟩ := done _ _ c.1
    exact ⟨e, he, fun a ha => by have := hs a ha; simp at this⟩
  | @step h row s _ h2 h3 h4 ih =>
    obtain ⟨x, hx, hxs⟩ := ih
    obtain ⟨e, he, hs⟩ := done _ _ (c.2 h x row s hx h2 h3)
    refine ⟨e, he, fun a ha => ?_⟩
    rcases List.mem_append.mp (hs a ha) with q | q
    · exact hxs a q
    · exact h4 a q
/-! ### how much was taken -/
def tot (X : Nat → List SetS) : Nat → Nat
  | 0 => 0
  | n + 1 => tot X n + (X n).length
theorem tot_le {X : Nat → List SetS} {B : Nat} : ∀ {n : Nat}, (∀ h, (X h).length ≤ B) → tot X n ≤ n * B
  | 0, _ => Nat.zero_le _
  | n + 1, h => by
    have := tot_le (n := n) h
    have := h n
    rw [tot, Nat.succ_mul]
    omega
theorem tot_upd {X : Nat → List SetS} {h : Nat} {x : SetS} : ∀ {n : Nat}, tot (updF X h (X h ++ [x])) n = tot X n + if h < n then 1 else 0
  | 0 => by simp [tot]
  | n + 1 => by
    rw [tot, tot, tot_upd (n := n)]
    by_cases e : n = h
    · subst e
      rw [updF_same, List.length_append]
      simp
      omega
    · rw [updF_ne e]
      by_cases q : h < n
      · rw [if_pos q, if_pos (by omega)]; omega
      · rw [if_neg q, if_neg (by omega)]; omega
/-! ### the cells -/
structure BarS (n m : Nat) (a b : Addr) (fs zs : List Addr) (X : Nat → List SetS) (Wt : Nat → List Ent2) (O : Store) : Prop where
  fl : fs.length = n
  zl : zs.length = m + 1
  fnd : fs.Nodup
  znd : zs.Nodup
  fz : ∀ c ∈ fs, c ∉ zs
  af : a ∉ fs
  az : a ∉ zs
  bf : b ∉ fs
  bz : b ∉ zs
  ab : a ≠ b
  oa : O a = some (.lst (fs.map Vl.cell))
  ob : O b = some (.lst (zs.map Vl.cell))
  of : ∀ h c, fs[h]? = some c → O c = some (.lst ((sets (X h)).map Vl.t))
  oz : ∀ k c, zs[k]? = some c → O c = some (.lst ((Wt k).map fun p => Vl.t (pairT p)))
section
variable {n m : Nat} {a b : Addr} {fs zs : List Addr} {X : Nat → List SetS} {Wt : Nat → List Ent2} {O : Store}
theorem BarS.putF (S : BarS n m a b fs zs X Wt O) {h : Nat} {c : Addr} (hc : fs[h]? = some c) (x : SetS) : BarS n m a b fs zs (updF X h (X h ++ [x])) Wt (sup O c (.lst ((sets (X h ++ [x])).map Vl.t))) := by
  have hm := List.mem_of_getElem? hc
  refine ⟨S.fl, S.zl, S.fnd, S.znd, S.fz, S.af, S.az, S.bf, S.bz, S.ab, ?_, ?_, fun h' c' hc' => ?_, fun k c' hc' => ?_⟩
  · rw [sup_ne fun e => S.af (by rw [e]; exact hm)]; exact S.oa
  · rw [sup_ne fun e => S.bf (by rw [e]; exact hm)]; exact S.ob
  · by_cases e : h' = h
    · subst e
      rw [hc] at hc'
      cases hc'
      rw [sup_same, updF_same]
    · have : c' ≠ c := fun z => by
        subst z
        exact e ((List.getElem?_inj (List.getElem?_eq_some_iff.mp hc').1 S.fnd).mp (hc'.trans hc.symm))
      rw [sup_ne this, updF_ne e]
      exact S.of h' c' hc'
  · rw [sup_ne fun e => S.fz c hm (by rw [← e]; exact List.mem_of_getElem? hc')]
    exact S.oz k c' hc'
theorem BarS.putZ (S : BarS n m a b fs zs X Wt O) {k : Nat} {c : Addr} (hc : zs[k]? = some c) (p : Ent2) : BarS n m a b fs zs X (updF Wt k (Wt k ++ [p])) (sup O c (.lst ((Wt k ++ [p]).map fun p => Vl.t (pairT p)))) := by
  have hm := List.mem_of_getElem? hc
  refine ⟨S.fl, S.zl, S.fnd, S.znd, S.fz, S.af, S.az, S.bf, S.bz, S.ab, ?_, ?_, fun h' c' hc' => ?_, fun k' c' hc' => ?_⟩
  · rw [sup_ne fun e => S.az (by rw [e]; exact hm)]; exact S.oa
  · rw [sup_ne fun e => S.bz (by rw [e]; exact hm)]; exact S.ob
  · rw [sup_ne fun e => S.fz c' (List.mem_of_getElem? hc') (by rw [e]; exact hm)]
    exact S.of h' c' hc'
  · by_cases e : k' = k
    · subst e
      rw [hc] at hc'
      cases hc'
      rw [sup_same, updF_same]
    · have : c' ≠ c := fun z => by
        subst z
        exact e ((List.getElem?_inj (List.getElem?_eq_some_iff.mp hc').1 S.znd).mp (hc'.trans hc.symm))
      rw [sup_ne this, updF_ne e]
      exact S.oz k' c' hc'
theorem frz_list {O : Store} {fs : List Addr} {f : Nat → List T} (h : ∀ h c, fs[h]? = some c → O c = some (.lst ((f h).map Vl.t))) : FrzL O (fs.map Vl.cell) ((List.range fs.length).map fun h => .lst (f h)) := by
  have all : ∀ (m : Nat) (ds : List Addr), fs.drop m = ds → FrzL O (ds.map Vl.cell) ((List.range' m ds.length).map fun h => T.lst (f h)) := by
    intro m ds
    induction ds generalizing m with
    | nil => intro _; exact .nil
    | cons d ds ih =>
      intro hd
      have h0 : fs[m]? = some d := by
        have := congrArg List.head? hd
        rw [List.head?_drop] at this
        simpa using this
      rw [List.map_cons, List.length_cons, List.range'_succ, List.map_cons]
      refine .cons (Frz.flat (h m d h0)) (ih (m + 1) ?_)
      have := congrArg List.tail hd
      rw [List.tail_drop] at this
      simpa using this
  have := all 0 fs rfl
  rw [← List.range_eq_range'] at this
  exact this
theorem BarS.frz (S : BarS n m a b fs zs X Wt O) : Frz O (.cell a) (.lst ((List.range n).map fun h => .lst (sets (X h)))) := by
  refine .lst S.oa ?_
  have := frz_list S.of
  rw [S.fl] at this
  exact this
end
/-- [[] for _ in ..]: new empty lists -/
theorem cells {k : Nat} {S : Sx} {ρ : Rho} {O : Store} {pos p1 p2 : Pos} {iter : Expr} {scope : Scope} (i : Nat) {Q : Vl → Store → Prop}
    (h : WI g k S ρ O (.Name "_" p1) iter fun xs O1 => xs.length ≤ sizeLine ∧ ∀ (cs : List Addr) (d : Addr) (O2 : Store), cs.length = xs.length → cs.Nodup → d ∉ cs → O1 d = none → (∀ c ∈ cs, O1 c = none ∧ O2 c = some (.lst [])) → O2 d = some (.lst (cs.map Vl.cell)) → (∀ b, b ∉ cs → b ≠ d → O2 b = O1 b) → Q (.cell d) O2)
    (hn : (S.blk scope).N[i]? = some ("_" : Str) := by rfl) (hx : LocS (S.blk scope) "_" := by first | exact ⟨.inl rfl, .inr rfl⟩ | exact ⟨.inr rfl, .inl rfl⟩) (ok : blkC S.N S.sc scope [("_", i)] = true := by decide +kernel) (hf : ∀ env x, foldedSetIterable iter env x = pure x := by intro _ _; rfl) :
    W g k S ρ O (.ListComp (.List [] p2) [⟨.Name "_" p1, iter, [], 0⟩] scope pos) Q := by
  refine w_lc [("_", i)] (is := [i]) ok (by simp) hf (wi_mono h fun xs O1 ⟨hz, hq⟩ => ?_)
  refine ⟨fun j acc O2 => ∃ cs : List Addr, acc = cs.map Vl.cell ∧ cs.length = j ∧ cs.Nodup ∧ (∀ c ∈ cs, O1 c = none ∧ O2 c = some (.lst [])) ∧ ∀ b, b ∉ cs → O2 b = O1 b, ⟨[], rfl, rfl, List.nodup_nil, fun c hc => (by cases hc), fun _ _ => rfl⟩, ?_, hz, ?_⟩
  · rintro j u acc O2 hu ⟨cs, rfl, hc, nd, hO, hr⟩ hl
    refine ⟨_, wg_name hn hx, ?_⟩
    show W g _ _ _ _ _ _
    refine w_lst True.intro ⟨Nat.zero_le _, .inr fun c hcn => ⟨cs ++ [c], by simp, by simp [hc], ?_, fun d hd => ?_, fun b hb => ?_⟩⟩
    · rw [List.nodup_append]
      refine ⟨nd, by simp, fun x hx y hy => ?_⟩
      simp at hy
      subst hy
      intro exy
      subst exy
      rw [(hO x hx).2] at hcn
      cases hcn
    · rcases List.mem_append.mp hd with h | h
      · rw [sup_ne (fun q => by subst q; rw [(hO d h).2] at hcn; cases hcn)]; exact hO d h
      · simp at h
        subst h
        have hd' : d ∉ cs := fun hm => by rw [(hO d hm).2] at hcn; cases hcn
        exact ⟨by rw [← hr d hd']; exact hcn, sup_same⟩
    · simp only [List.mem_append, List.mem_singleton, not_or] at hb
      rw [sup_ne hb.2]
      exact hr b hb.1
  · rintro acc O2 ⟨cs, rfl, hc, nd, hO, hr⟩
    refine .inr fun d hd => ?_
    have hdc : d ∉ cs := fun hm => by rw [(hO d hm).2] at hd; cases hd
    refine hq cs d _ hc nd hdc (by rw [← hr d hdc]; exact hd) (fun c hcm => ⟨(hO c hcm).1, ?_⟩) sup_same fun b hb hbd => ?_
    · rw [sup_ne (fun e => hdc (by rw [← e]; exact hcm))]; exact (hO c hcm).2
    · rw [sup_ne hbd]; exact hr b hb
end Far
namespace Far
open PySem PySem.Spec PyProof.Rows L2 TL
variable {g : G} {C : Addr}
structure BarOk (rows : List (List St)) (bad : List Nat) (N : SetS) : Prop where
  P : PlOk rows bad
  n : rows.length ≤ 40
  r : ∀ row ∈ rows, row.length ≤ 60
  ns : Srt N
  n12 : N.length ≤ 12
  mem : ∀ x, x ∈ N ↔ ∃ s ∈ rows.flatten, x ∈ s.rules
  srt : ∀ row ∈ rows, ∀ s ∈ row, Srt s.rules
theorem BarOk.sub {rows : List (List St)} {bad : List Nat} {N : SetS} (B : BarOk rows bad N) {row : List St} (hr : row ∈ rows) {s : St} (hs : s ∈ row) : Sb s.rules N := fun x hx => (B.mem x).mpr ⟨s, List.mem_flatten.mpr ⟨row, hr, hs⟩, hx⟩
theorem d_least_barrings (E : Env g C) : Def g "least_barrings" 1 3 (ptT fun ts P => ∃ rows bad N, ts = [plT C rows bad] ∧ BarOk rows bad N ∧ ∀ X : Nat → List SetS, (∀ h, ∀ x ∈ X h, Srt x ∧ Sb x N ∧ Reach rows x h) → (∀ h, (X h).length ≤ 4096) → (∀ y s, Reach rows y s → ∃ x ∈ X s, Sb x y) → P (.lst ((List.range rows.length).map fun h => .lst (sets (X h))))) := by
  refine mkDef E.f_least_barrings sc_least_barrings rfl (fun _ _ _ _ _ _ _ us hl => match us, hl with | [_], _ => rfl) ?_
  rintro us O Q hl ⟨rfl, ts, rfl, rows, bad, N, rfl, B, q⟩
  have hn := B.n
  have big : 1 + (40 * 4096) * 60 + 100 ≤ sizeLine := by decide
  have b1000 : 1000 ≤ sizeLine := by decide
  refine ws_cons ?_
  refine par2 1 2 ?_
  refine cells 9 (wr1 E.b_range (cB (b_lenI (d_len E) (Nat.le_refl _) (fun ts P P' h ⟨r, b, h1, h2⟩ => ⟨r, b, h1, h _ h2⟩)) E.b_len (v 0 rfl ⟨fs2, _, rfl, rows, bad, rfl, rows.length, rfl, Int.natCast_nonneg _, by omega, rows.length, rfl, by omega, by omega, by rw [List.length_map, rng_len, Int.toNat_natCast]; omega, ?_⟩)))
  rintro fs a O2 fl fnd af _ hfs hoa hrest
  rw [List.length_map, rng_len, Int.toNat_natCast] at fl
  refine cells 9 (wr1 E.b_range (w_bin o_add (cB b_len E.b_len (w_methP (d_rules E) (Nat.le_refl _) E.cls (fun _ => rfl) (v 0 rfl ⟨_, _, rfl, by decide, rows, bad, rfl, B.P.R.len, fun s hs => ?_, fun N' hN' hm => ⟨_, .inl rfl, w_int ⟨_, _, rfl, rfl, True.intro, _, rfl, by rw [List.length_map]; omega, ?_, ?_, ?_⟩⟩⟩)))))
  · obtain ⟨row, hr, hs⟩ := List.mem_flatten.mp hs
    exact B.P.R.rl row hr s hs
  all_goals (
    have eN : N' = N := srt_ext hN' B.ns fun x => by rw [hm x, B.mem x]
    subst eN
    have hN12 := B.n12)
  · rw [List.length_map]; omega
  · rw [List.length_map, rng_len, List.length_map]; omega
  rintro zs b O3 zl znd bz hb0 hzs hob hrest2
  have zl : zs.length = N'.length + 1 := by
    rw [List.length_map, rng_len, List.length_map] at zl
    omega
  have az : a ∉ zs := fun h => by have := (hzs a h).1; rw [hoa] at this; cases this
  have fz : ∀ c ∈ fs, c ∉ zs := fun c hc h => by have := (hzs c h).1; rw [(hfs c hc).2] at this; cases this
  have bf : b ∉ fs := fun h => by rw [(hfs b h).2] at hb0; cases hb0
  have ab : a ≠ b := fun h => by subst h; rw [hoa] at hb0; cases hb0
  have S0 : BarS rows.length N'.length a b fs zs (fun _ => []) (fun _ => []) O3 := ⟨fl, zl, fnd, znd, fz, af, az, bf, bz, ab, by rw [hrest2 a az ab]; exact hoa, hob, fun h c hc => by
    have hm := List.mem_of_getElem? hc
    rw [hrest2 c (fz c hm) (fun e => bf (by rw [← e]; exact hm))]
    exact (hfs c hm).2, fun k c hc => (hzs c (List.mem_of_getElem? hc)).2⟩
  clear hrest hrest2 hzs hfs hob hoa hb0
  obtain ⟨z0, hz0⟩ : ∃ z0, zs[0]? = some z0 := ⟨_, List.getElem?_eq_getElem (by omega)⟩
  have hz0' : (zs.map Vl.cell)[0]? = some (.cell z0) := by rw [List.getElem?_map, hz0]; rfl
  refine ws_cons (sx (app (ix x_cell (v 2 rfl (w_int ⟨b, _, 0, .cell z0, rfl, S0.ob, rfl, at_nat (j := 0) hz0', z0, rfl, ⟨_, S0.oz 0 z0 hz0⟩, w_tup ⟨fun _ => rfl, fun _ => rfl, True.intro⟩ (w_int (w_tup True.intro ⟨[], rfl, Nat.zero_le _, [.int 0, .tup []], rfl, by show 2 ≤ sizeLine; decide, _, S0.oz 0 z0 hz0, by show 0 < sizeLine; decide, ?_⟩))⟩)))))
  have S1 := S0.putZ hz0 (0, [])
  refine ws_cons (w1_forC (fun _ _ => rfl) (v 2 rfl ⟨b, zs.map Vl.cell, rfl, S1.ob, fun k ρ1 O4 => ∃ x3 x4 x5 x6 x7 x8 x9 x10 X Wt, ρ1 = [some (.t (plT C rows bad)), some (.cell a), some (.cell b), x3, x4, x5, x6, x7, x8, x9, x10] ∧ BarS rows.length N'.length a b fs zs X Wt O4 ∧ BarI rows N' X Wt ∧ Closed rows X Wt k 0 ∧ ∀ i, (Wt i).length ≤ 1 + tot X rows.length * 60, ?_, ?_, ?_, ?_⟩))
  · refine ⟨none, none, none, none, none, none, none, none, _, _, rfl, S1, ⟨fun h x hx => (by cases hx), fun h => List.nodup_nil, fun k p hp => ?_⟩, ⟨.inr ⟨0, 0, (0, []), .inr ⟨rfl, Nat.le_refl _⟩, by rw [updF_same]; rfl, rfl, Sb.refl _⟩, fun h x row s hx => (by cases hx)⟩, fun i => ?_⟩
    · by_cases e : k = 0
      · subst e
        rw [updF_same] at hp
        simp at hp
        subst hp
        exact ⟨B.P.pos, List.Pairwise.nil, fun x hx => (by cases hx), rfl, .zero⟩
      · rw [updF_ne e] at hp; cases hp
    · by_cases e : i = 0
      · subst e; rw [updF_same]; simp
      · rw [updF_ne e]; simp
  · rintro k ρ1 O4 ⟨x3, x4, x5, x6, x7, x8, x9, x10, X, Wt, rfl, S, _⟩
    exact S.ob
  · rintro k u ρ1 O4 hu ⟨x3, x4, x5, x6, x7, x8, x9, x10, X, Wt, rfl, S, I, cl, hlen⟩
    obtain ⟨zk, hzk, rfl⟩ := map_get hu
    refine ⟨_, _, gn 3, ws_cons (st 4 (w_int ?_))⟩
    refine ws_one (w1_while (fun M ρ1 O1 => ∃ x5 x6 x7 x8 x9 x10 X Wt j, M = (rows.length * 4096 - tot X rows.length) * 61 + ((Wt k).length - j) ∧ j ≤ (Wt k).length ∧ ρ1 = [some (.t (plT C rows bad)), some (.cell a), some (.cell b), some (.cell zk), some (.t (.int (j : Nat))), x5, x6, x7, x8, x9, x10] ∧ BarS rows.length N'.length a b fs zs X Wt O1 ∧ BarI rows N' X Wt ∧ Closed rows X Wt k j ∧ ∀ i, (Wt i).length ≤ 1 + tot X rows.length * 60) ⟨_, x5, x6, x7, x8, x9, x10, X, Wt, 0, rfl, Nat.zero_le _, rfl, S, I, cl, hlen⟩ ?_)
    clear S I cl hlen X Wt x5 x6 x7 x8 x9 x10
    rintro M ρ1 O1 ⟨x5, x6, x7, x8, x9, x10, X, Wt, j, rfl, hj, rfl, S, I, cl, hlen⟩
    have Xz : ∀ h, (X h).length ≤ 4096 := fun h => Nat.le_trans (count_sets B.ns (I.xn h) fun x hx => ⟨(I.xs h x hx).1, (I.xs h x hx).2.1⟩) (Nat.pow_le_pow_right (by decide) B.n12)
    have tz : tot X rows.length ≤ rows.length * 4096 := tot_le Xz
    have tz' : tot X rows.length * 60 ≤ (40 * 4096) * 60 := Nat.mul_le_mul_right _ (Nat.le_trans tz (Nat.mul_le_mul_right _ hn))
    refine wb_cmp o_lt (v 4 rfl (cB b_lenC E.b_len (v 3 rfl ⟨zk, _, rfl, S.oz k zk hzk, (j : Nat), _, rfl, rfl, True.intro, _, rfl, fun h => ?_, fun h => ?_⟩))) rfl
    · have h : j < (Wt k).length := by
        have := of_decide_eq_true h
        simp only [List.length_map] at this
        omega
      obtain ⟨p, hp⟩ : ∃ p, (Wt k)[j]? = some p := ⟨_, List.getElem?_eq_getElem h⟩
      have hpm := List.mem_of_getElem? hp
      obtain ⟨here, bars⟩ := p
      have wp := I.ws k _ hpm
      have hhere : here < rows.length := wp.1
      have hbars : Srt bars ∧ Sb bars N' := ⟨wp.2.1, wp.2.2.1⟩
      have bl : bars.length = k := wp.2.2.2.1
      have bReach : Reach rows bars here := wp.2.2.2.2
      have bN : bars.length ≤ 12 := Nat.le_trans (Sb.len hbars.1 hbars.2) B.n12
      obtain ⟨fh, hfh⟩ : ∃ c, fs[here]? = some c := ⟨_, List.getElem?_eq_getElem (by rw [S.fl]; exact hhere)⟩
      have hfh' : (fs.map Vl.cell)[here]? = some (.cell fh) := by rw [List.getElem?_map, hfh]; rfl
      obtain ⟨row, hrow⟩ : ∃ row, rows[here]? = some row := ⟨_, List.getElem?_eq_getElem hhere⟩
      have hrm := List.mem_of_getElem? hrow
      have hrow' : (rows.map rowT)[here]? = some (rowT row) := by rw [List.getElem?_map, hrow]; rfl
      have hpc : ((Wt k).map fun p => Vl.t (pairT p))[j]? = some (.t (pairT (here, bars))) := by rw [List.getElem?_map, hp]; rfl
      have fget : ∀ (X : Nat → List SetS) (h : Nat), h < rows.length → ((List.range rows.length).map fun h => T.lst (sets (X h)))[h]? = some (.lst (sets (X h))) := fun X h hh => by
        rw [List.getElem?_map, List.getElem?_range hh]; rfl
      refine ws_cons (w1_asg (fun _ => rfl) (fun _ => rfl) (fun _ => rfl) (ix x_cell (v 3 rfl (v 4 rfl ⟨zk, _, _, _, rfl, S.oz k zk hzk, rfl, at_nat hpc, _, _, wg2 5 6, ?_⟩))))
      refine ws_cons (w1_augI (i := 4) rfl ⟨.inl rfl, .inr rfl⟩ rfl (w_int ⟨1, rfl, ?_⟩))
      refine ws_one (w1_if (wb_pure (ρ' := [some (.t (plT C rows bad)), some (.t (.lst ((List.range rows.length).map fun h => .lst (sets (X h))))), none, none, some (.t (.int ((j : Nat) + 1))), some (.t (.int (here : Nat))), some (.t (SetT bars)), x7, x8, x9, x10]) (.keep (.frz S.frz (.none (.none (.keep (.keep (.keep (.keep (.keep (.keep (.keep .nil))))))))))) (wb_not (wb_val (cB b_any E.b_any (lcA (α := SetS) [("one", 10)] [10] (fun x => .t (SetT x)) (fun e => .bl (subB e bars)) (wi_list (ix x_seq (v 1 rfl (v 5 rfl ⟨_, (here : Nat), _, .inl rfl, rfl, at_nat (fget X here hhere), _, rfl, X here, by rw [List.map_map]; rfl, Nat.le_trans (Xz here) (by decide), fun e he => ⟨_, gn 10, cP (d_is_part E) (v 10 rfl (v 6 rfl ⟨[SetT e, SetT bars], rfl, e, bars, rfl, ?_, rfl, rfl⟩))⟩, .inl ⟨(X here).map fun e => subB e bars, by rw [List.map_map]; rfl, _, rfl, fun hb => ?_, fun hb => ?_⟩⟩)))))) fun _ _ => rfl))))
      · have := I.xs here e he
        have := Sb.len this.1 this.2.1
        have := B.n12
        omega
      · rw [List.any_map] at hb
        have hb : (X here).any (fun e => subB e bars) = false := by simpa using hb
        have hnot : ∀ e ∈ X here, ¬ Sb e bars := fun e he hs => by
          have : (X here).any (fun e => subB e bars) = true := List.any_eq_true.mpr ⟨e, he, subB_iff.mpr hs⟩
          rw [hb] at this
          cases this
        have Xz0 : (X here).length < sizeLine := Nat.lt_of_le_of_lt (Xz here) (by decide)
        refine ws_cons (sx (app (ix x_cell (v 1 rfl (v 5 rfl ⟨a, _, (here : Nat), _, rfl, S.oa, rfl, at_nat hfh', fh, rfl, ⟨_, S.of here fh hfh⟩, v 6 rfl ⟨_, S.of here fh hfh, by simp only [List.length_map]; exact Xz0, ?_⟩⟩)))))
        have S' := S.putF hfh bars
        have eS : (sets (X here ++ [bars])).map Vl.t = (sets (X here)).map Vl.t ++ [.t (SetT bars)] := by simp
        rw [eS] at S'
        have X'mem : ∀ h, ∀ x ∈ X h, x ∈ updF X here (X here ++ [bars]) h := fun h x hx => by
          by_cases e : h = here
          · subst e; rw [updF_same]; exact List.mem_append_left _ hx
          · rw [updF_ne e]; exact hx
        have barsIn : bars ∈ updF X here (X here ++ [bars]) here := by rw [updF_same]; simp
        have I' : BarI rows N' (updF X here (X here ++ [bars])) Wt := by
          refine ⟨fun h x hx => ?_, fun h => ?_, I.ws⟩
          · by_cases e : h = here
            · subst e
              rw [updF_same] at hx
              rcases List.mem_append.mp hx with hx | hx
              · exact I.xs h x hx
              · simp at hx
                subst hx
                exact ⟨hbars.1, hbars.2, bReach⟩
            · rw [updF_ne e] at hx
              exact I.xs h x hx
          · by_cases e : h = here
            · subst e
              rw [updF_same, List.nodup_append]
              refine ⟨I.xn h, by simp, fun x hx y hy => ?_⟩
              simp at hy
              subst hy
              intro exy
              subst exy
              exact hnot x hx (Sb.refl x)
            · rw [updF_ne e]; exact I.xn h
        have tot' : tot (updF X here (X here ++ [bars])) rows.length = tot X rows.length + 1 := by rw [tot_upd, if_pos hhere]
        generalize hX' : updF X here (X here ++ [bars]) = X' at S' X'mem barsIn I' tot'
        have Xz' : ∀ h, (X' h).length ≤ 4096 := fun h => Nat.le_trans (count_sets B.ns (I'.xn h) fun x hx => ⟨(I'.xs h x hx).1, (I'.xs h x hx).2.1⟩) (Nat.pow_le_pow_right (by decide) B.n12)
        have tz2 : tot X' rows.length ≤ rows.length * 4096 := tot_le Xz'
        have rl := B.r row hrm
        refine ws_one (fr (wi_list (vals E.b_list (ix x_seq (fld (v 0 rfl ⟨C, _, _, .lst (rows.map rowT), rfl, E.cls, E.n_table, rfl, v 5 rfl ⟨rows.map rowT, (here : Nat), rowT row, .inl rfl, rfl, at_nat hrow', _, _, rfl, row.map stT, rfl, fun i ρ2 O5 => ∃ x7 x8 x9 x10 Wt2, ρ2 = [some (.t (plT C rows bad)), some (.cell a), some (.cell b), some (.cell zk), some (.t (.int ((j : Nat) + 1))), some (.t (.int (here : Nat))), some (.t (SetT bars)), x7, x8, x9, x10] ∧ BarS rows.length N'.length a b fs zs X' Wt2 O5 ∧ BarI rows N' X' Wt2 ∧ (∀ k, Wt k <+: Wt2 k) ∧ (∀ k, (Wt2 k).length ≤ (Wt k).length + i) ∧ ∀ s ∈ row.take i, Cov X' Wt2 k (j + 1) s.other (bars ++ s.rules), ⟨x7, x8, x9, x10, Wt, rfl, S', I', fun _ => List.prefix_refl _, fun _ => Nat.le_refl _, fun s hs => by simp at hs⟩, ?_, ?_⟩⟩))))))
        · rintro i u ρ2 O5 hu ⟨x7, x8, x9, x10, Wt2, rfl, S2, I2, pre, l2, cov⟩
          obtain ⟨t, h1, rfl⟩ := map_get hu
          obtain ⟨s, h2, rfl⟩ := map_get h1
          have hs := List.mem_of_getElem? h2
          have hi : i < row.length := (List.getElem?_eq_some_iff.mp h2).1
          have so := B.P.R.other row hrm s hs
          have sN := B.sub hrm hs
          have ss := B.srt row hrm s hs
          have sl : s.rules.length ≤ 12 := Nat.le_trans (Sb.len ss sN) B.n12
          have take_in : ∀ y ∈ row.take (i + 1), y ∈ row.take i ∨ y = s := fun y hy => by
            obtain ⟨hi, ep⟩ := List.getElem?_eq_some_iff.mp h2
            rw [List.take_succ_eq_append_getElem hi, ep] at hy
            simpa using hy
          refine ⟨_, _, gn 7, ws_cons (st 8 (cP (d_joined E) (v 6 rfl (ix x_seq (v 7 rfl (w_int ⟨_, 3, SetT s.rules, .inr rfl, rfl, at_nat (j := 3) rfl, [SetT bars, SetT s.rules], rfl, bars, s.rules, rfl, by omega, fun c hc cm => ?_⟩))))))⟩
          have cN : Sb c N' := fun x hx => ((cm x).mp hx).elim (hbars.2 x) (sN x)
          have cl12 : c.length ≤ N'.length := Sb.len hc cN
          have cR : Reach rows c s.other := .step (bReach.mono fun x hx => (cm x).mpr (.inl hx)) hrow hs fun x hx => (cm x).mpr (.inr hx)
          have cSub : Sb c (bars ++ s.rules) := fun x hx => List.mem_append.mpr ((cm x).mp hx)
          refine ws_one (w1_if (wb_pure (ρ' := [some (.t (plT C rows bad)), some (.t (.lst ((List.range rows.length).map fun h => .lst (sets (X' h))))), none, none, some (.t (.int ((j : Nat) + 1))), some (.t (.int (here : Nat))), some (.t (SetT bars)), some (.t (stT s)), some (.t (SetT c)), x9, x10]) (.keep (.frz S2.frz (.none (.none (.keep (.keep (.keep (.keep (.keep (.keep (.keep .nil))))))))))) (wb_not (wb_val (cB b_any E.b_any (lcA (α := SetS) [("one", 10)] [10] (fun x => .t (SetT x)) (fun e => .bl (subB e c)) (wi_list (ix x_seq (v 1 rfl (ix x_seq (v 7 rfl (w_int ⟨_, 2, .int s.other, .inr rfl, rfl, at_nat (j := 2) rfl, _, (s.other : Nat), _, .inl rfl, rfl, at_nat (fget X' s.other so), _, rfl, X' s.other, by rw [List.map_map]; rfl, Nat.le_trans (Xz' _) (by decide), fun e he => ⟨_, gn 10, cP (d_is_part E) (v 10 rfl (v 8 rfl ⟨[SetT e, SetT c], rfl, e, c, rfl, ?_, rfl, rfl⟩))⟩, .inl ⟨(X' s.other).map fun e => subB e c, by rw [List.map_map]; rfl, _, rfl, fun hb => ?_, fun hb => ?_⟩⟩)))))))) fun _ _ => rfl))))
          · have := I'.xs s.other e he
            have := Sb.len this.1 this.2.1
            have := B.n12
            omega
          · obtain ⟨zc, hzc⟩ : ∃ z, zs[c.length]? = some z := ⟨_, List.getElem?_eq_getElem (by rw [S.zl]; omega)⟩
            have hzc' : (zs.map Vl.cell)[c.length]? = some (.cell zc) := by rw [List.getElem?_map, hzc]; rfl
            have wl : (Wt2 c.length).length < sizeLine := by
              have h1 := l2 c.length
              have h2 := hlen c.length
              omega
            refine ws_one (sx (app (ix x_cell (v 2 rfl (cB b_len E.b_len (v 8 rfl ⟨_, .inr rfl, b, _, _, _, rfl, S2.ob, rfl, by rw [List.length_map]; exact at_nat hzc', zc, rfl, ⟨_, S2.oz _ zc hzc⟩, w_tup ⟨fun _ => rfl, fun _ => rfl, True.intro⟩ (ix x_seq (v 7 rfl (w_int ⟨_, 2, .int s.other, .inr rfl, rfl, at_nat (j := 2) rfl, v 8 rfl ⟨[.int s.other, SetT c], rfl, by show 2 ≤ sizeLine; decide, _, S2.oz _ zc hzc, by rw [List.length_map]; exact wl, ?_⟩⟩)))⟩))))))
            have S3 := S2.putZ hzc (s.other, c)
            have eS : ((Wt2 c.length ++ [(s.other, c)]).map fun p => Vl.t (pairT p)) = ((Wt2 c.length).map fun p => Vl.t (pairT p)) ++ [.t (.tup [.int s.other, SetT c])] := by simp [pairT]
            rw [eS] at S3
            have gr : ∀ k, Wt2 k <+: updF Wt2 c.length (Wt2 c.length ++ [(s.other, c)]) k := fun k => by
              by_cases e : k = c.length
              · subst e; rw [updF_same]; exact List.prefix_append _ _
              · rw [updF_ne e]; exact List.prefix_refl _
            refine ⟨_, _, _, _, _, rfl, S3, ⟨I2.xs, I2.xn, fun k p hp => ?_⟩, fun k => (pre k).trans (gr k), fun k => ?_, fun y hy => ?_⟩
            · by_cases e : k = c.length
              · subst e
                rw [updF_same] at hp
                rcases List.mem_append.mp hp with hp | hp
                · exact I2.ws _ p hp
                · simp at hp
                  subst hp
                  exact ⟨so, hc, cN, rfl, cR⟩
              · rw [updF_ne e] at hp
                exact I2.ws k p hp
            · have h1 := l2 k
              by_cases e : k = c.length
              · subst e; rw [updF_same, List.length_append]; simp; omega
              · rw [updF_ne e]; omega
            · rcases take_in y hy with hy | rfl
              · exact (cov y hy).grow (fun _ _ h => h) gr
              · have ck : bars.length ≤ c.length := Sb.len hbars.1 fun x hx => (cm x).mpr (.inl hx)
                have jl : j < (Wt2 k).length := Nat.lt_of_lt_of_le h (pre k).length_le
                refine .inr ⟨c.length, (Wt2 c.length).length, (y.other, c), ?_, by rw [updF_same]; simp, rfl, cSub⟩
                by_cases e : k = c.length
                · exact .inr ⟨e.symm, by rw [← e]; omega⟩
                · exact .inl (by omega)
          · rw [List.any_map] at hb
            have hb : (X' s.other).any (fun e => subB e c) = true := by simpa using hb
            obtain ⟨e, he, hs'⟩ := List.any_eq_true.mp hb
            refine ws_nil ⟨_, _, _, _, Wt2, rfl, S2, I2, pre, fun k => by have := l2 k; omega, fun y hy => ?_⟩
            rcases take_in y hy with hy | rfl
            · exact cov y hy
            · exact .inl ⟨e, he, (subB_iff.mp hs').trans cSub⟩
        · rintro ρ2 O5 ⟨x7, x8, x9, x10, Wt2, rfl, S2, I2, pre, l2, cov⟩
          rw [List.length_map, List.length_map] at l2
          rw [List.length_map, List.length_map, List.take_length] at cov
          have hp2 : (Wt2 k)[j]? = some (here, bars) := by
            obtain ⟨Ex, hE⟩ := pre k
            rw [← hE, List.getElem?_append_left h]; exact hp
          have nx : ∀ {s y}, Cov X Wt k j s y → Cov X' Wt2 k (j + 1) s y := fun c => Cov.next hp2 ⟨bars, barsIn, Sb.refl _⟩ (c.grow X'mem pre)
          refine ⟨_, ?_, _, _, x7, x8, x9, x10, X', Wt2, j + 1, rfl, ?_, rfl, S2, I2, ⟨nx cl.1, fun h' x row' s hx hr' hs' => ?_⟩, fun i => ?_⟩
          · have h1 := l2 k
            have h2 := (pre k).length_le
            have e1 : rows.length * 4096 - tot X rows.length = (rows.length * 4096 - tot X' rows.length) + 1 := by omega
            rw [e1, Nat.succ_mul]
            omega
          · have h2 := (pre k).length_le
            omega
          · by_cases e : x ∈ X h'
            · exact nx (cl.2 h' x row' s e hr' hs')
            · have : h' = here ∧ x = bars := by
                rw [← hX'] at hx
                by_cases eh : h' = here
                · subst eh
                  rw [updF_same] at hx
                  rcases List.mem_append.mp hx with hx | hx
                  · exact absurd hx e
                  · exact ⟨rfl, by simpa using hx⟩
                · rw [updF_ne eh] at hx; exact absurd hx e
              obtain ⟨rfl, rfl⟩ := this
              rw [hrow] at hr'
              cases hr'
              exact cov s hs'
          · have h1 := l2 i
            have h2 := hlen i
            rw [tot']
            omega
      · rw [List.any_map] at hb
        have hb : (X here).any (fun e => subB e bars) = true := by simpa using hb
        obtain ⟨e, he, hs'⟩ := List.any_eq_true.mp hb
        have hd : ∃ e ∈ X (here, bars).1, Sb e (here, bars).2 := ⟨e, he, subB_iff.mp hs'⟩
        exact ws_nil ⟨_, by omega, _, _, x7, x8, x9, x10, X, Wt, j + 1, rfl, h, rfl, S, I, ⟨cl.1.next hp hd, fun h' x row' s hx hr' hs' => (cl.2 h' x row' s hx hr' hs').next hp hd⟩, hlen⟩
    · have h : (Wt k).length ≤ j := by
        have := of_decide_eq_false h
        simp only [List.length_map] at this
        omega
      exact ⟨_, _, x5, x6, x7, x8, x9, x10, X, Wt, rfl, S, I, ⟨cl.1.up h, fun h' x row' s hx hr' hs' => (cl.2 h' x row' s hx hr' hs').up h⟩, hlen⟩
  · rintro ρ1 O4 ⟨x3, x4, x5, x6, x7, x8, x9, x10, X, Wt, rfl, S, I, cl, hlen⟩
    rw [List.length_map] at cl
    refine ws_one (w1_ret (w_retT (v 1 rfl ⟨_, S.frz, q X I.xs (fun h => Nat.le_trans (count_sets B.ns (I.xn h) fun x hx => ⟨(I.xs h x hx).1, (I.xs h x hx).2.1⟩) (Nat.pow_le_pow_right (by decide) B.n12)) fun y s r => complete (fun k hk => ?_) cl r⟩)))
    cases e : Wt k with
    | nil => rfl
    | cons p l =>
      have := I.ws k p (by rw [e]; exact List.mem_cons_self)
      have h1 := Sb.len this.2.1 this.2.2.1
      rw [S.zl] at hk
      omega
end Far
namespace Far
open PySem PySem.Spec PyProof.Rows L2 TL
variable {g : G} {C : Addr}
/-- x breaks: a bad stand is reached by a run that bars no more than x -/
def Br (rows : List (List St)) (bad : List Nat) (x : SetS) : Prop := Srt x ∧ ∃ s ∈ bad, Reach rows x s
structure BadOk (rows : List (List St)) (bad : List Nat) : Prop where
  lt : ∀ b ∈ bad, b < rows.length
  len : bad.length ≤ 40
structure IsThr (rows : List (List St)) (bad : List Nat) (N : SetS) (Th : List SetS) : Prop where
  pw : Th.Pairwise ltK
  mem : ∀ x, x ∈ Th ↔ MinIn (Br rows bad) x
  sub : ∀ x ∈ Th, Sb x N
abbrev spThr (C : Addr) : LSp := fun ts K => ∃ rows bad N, ts = [plT C rows bad] ∧ BarOk rows bad N ∧ BadOk rows bad ∧ ∀ Th, IsThr rows bad N Th → K (sets Th)
theorem spThr_mono : ∀ ts (P P' : List T → Prop), (∀ rs, P rs → P' rs) → spThr C ts P → spThr C ts P' := fun ts P P' h ⟨r, b, N, h1, h2, h3, h4⟩ => ⟨r, b, N, h1, h2, h3, fun R hR => h _ (h4 R hR)⟩
theorem flat_len {X : Nat → List SetS} (h : ∀ i, (X i).length ≤ 4096) : ∀ l : List Nat, (l.flatMap X).length ≤ l.length * 4096
  | [] => by simp
  | a :: l => by
    have h1 := flat_len h l
    have h2 := h a
    rw [List.flatMap_cons, List.length_append, List.length_cons, Nat.succ_mul]
    omega
theorem d_threats (E : Env g C) : Def g "threats" 1 4 (ptL (spThr C)) := by
  refine mkDef E.f_threats sc_threats rfl (fun _ _ _ _ _ _ _ us hl => match us, hl with | [_], _ => rfl) ?_
  rintro us O Q hl ⟨rfl, ts, rfl, rows, bad, N, rfl, B, D, q⟩
  refine ws_cons ?_
  refine par2 1 2 ?_
  refine cP (d_least_barrings E) (v 0 rfl ⟨[plT C rows bad], rfl, rows, bad, N, rfl, B, fun X hx hl hc => w_lst True.intro ⟨Nat.zero_le _, .inr fun a ha => ?_⟩⟩)
  have big : 40 * 4096 < sizeLine := by decide
  have fl : ∀ i, ((bad.take i).flatMap X).length ≤ 40 * 4096 := fun i => by
    have h1 := flat_len hl (bad.take i)
    have h2 : (bad.take i).length ≤ 40 := Nat.le_trans (by rw [List.length_take]; omega) D.len
    exact Nat.le_trans h1 (Nat.mul_le_mul_right _ h2)
  refine ws_cons (fr (wi_list (fld (v 0 rfl ⟨C, _, _, .lst (iT bad), rfl, E.cls, E.n_bad, rfl, iT bad, rfl, fun i ρ1 O3 => ∃ x3, ρ1 = [some (.t (plT C rows bad)), some (.t (.lst ((List.range rows.length).map fun h => .lst (sets (X h))))), some (.cell a), x3] ∧ O3 = sup noS a (.lst ((sets ((bad.take i).flatMap X)).map Vl.t)), ⟨none, rfl, rfl⟩, ?_, ?_⟩))))
  · rintro i u ρ1 O3 hu ⟨x3, rfl, rfl⟩
    obtain ⟨t, h1, rfl⟩ := map_get hu
    obtain ⟨s, h2, rfl⟩ := map_get h1
    have hs := D.lt s (List.mem_of_getElem? h2)
    have e : (bad.take (i + 1)).flatMap X = (bad.take i).flatMap X ++ X s := by
      obtain ⟨hi, ep⟩ := List.getElem?_eq_some_iff.mp h2
      rw [List.take_succ_eq_append_getElem hi, ep, List.flatMap_append, List.flatMap_cons, List.flatMap_nil, List.append_nil]
    have gt : ((List.range rows.length).map fun h => T.lst (sets (X h)))[s]? = some (.lst (sets (X s))) := by rw [List.getElem?_map, List.getElem?_range hs]; rfl
    refine ⟨_, _, gn 3, ws_one (sx (ext (v 2 rfl ⟨a, rfl, ⟨_, sup_same⟩, ix x_seq (v 1 rfl (v 3 rfl ⟨_, (s : Nat), _, .inl rfl, rfl, at_nat gt, _, sets (X s), rfl, sup_same, ?_, ?_⟩))⟩)))⟩
    · have := fl (i + 1)
      rw [e, List.length_append] at this
      simp only [List.length_map]
      omega
    · refine ⟨_, rfl, ?_⟩
      rw [sup_sup, e]
      simp
  · rintro ρ1 O3 ⟨x3, rfl, rfl⟩
    have hlen := fl bad.length
    rw [List.length_map, List.length_map, List.take_length]
    rw [List.take_length] at hlen
    generalize hL : bad.flatMap X = L at hlen
    have mL : ∀ x, x ∈ L ↔ ∃ s ∈ bad, x ∈ X s := fun x => by rw [← hL, List.mem_flatMap]
    have lBr : ∀ x ∈ L, Br rows bad x ∧ Sb x N := fun x h => by
      obtain ⟨s, h1, h2⟩ := (mL x).mp h
      have := hx s x h2
      exact ⟨⟨this.1, s, h1, this.2.2⟩, this.2.1⟩
    have down : ∀ y, Br rows bad y → ∃ e ∈ L, Sb e y := fun y ⟨_, s, h1, h2⟩ => by
      obtain ⟨e, h3, h4⟩ := hc y s h2
      exact ⟨e, (mL e).mpr ⟨s, h1, h3⟩, h4⟩
    have mm : ∀ x, MinIn (· ∈ L) x ↔ MinIn (Br rows bad) x := fun x => by
      constructor
      · rintro ⟨h1, h2⟩
        refine ⟨(lBr x h1).1, fun y hy hs => ?_⟩
        obtain ⟨e, he, hes⟩ := down y hy
        have := h2 e he (hes.trans hs)
        subst this
        exact Sb.antisymm hy.1 (lBr e h1).1.1 hs hes
      · rintro ⟨h1, h2⟩
        obtain ⟨e, he, hes⟩ := down x h1
        have := h2 e (lBr e he).1 hes
        subst this
        exact ⟨he, fun y hy hs => h2 y (lBr y hy).1 hs⟩
    refine ws_one (w1_ret (w_frzE (ρ' := [some (.t (plT C rows bad)), some (.t (.lst ((List.range rows.length).map fun h => .lst (sets (X h))))), some (.t (.lst (sets L))), x3]) Split.all (.keep (.keep (.frz (Frz.flat sup_same) (.keep .nil)))) (cL (d_least_of E) spLeast_mono (v 2 rfl ⟨[.lst (sets L)], rfl, L, rfl, fun x h => (lBr x h).1.1, fun x h => ?_, by omega, fun R hR hm => ?_⟩))))
    · have h1 := Sb.len (lBr x h).1.1 (lBr x h).2
      have := B.n12
      omega
    · exact (q R ⟨hR, fun x => (hm x).trans (mm x), fun x h => (lBr x ((hm x).mp h).1).2⟩).imp id fun h a _ => h a
abbrev spLs (C : Addr) : LSp := fun ts K => ∃ rows bad N, ts = [plT C rows bad] ∧ BarOk rows bad N ∧ BadOk rows bad ∧ ∀ Th, IsThr rows bad N Th → ∀ R : List SetS, R.Pairwise ltK → (∀ x, x ∈ R ↔ MinHit Th x) → K (sets R)
theorem spLs_mono : ∀ ts (P P' : List T → Prop), (∀ rs, P rs → P' rs) → spLs C ts P → spLs C ts P' := fun ts P P' h ⟨r, b, N, h1, h2, h3, h4⟩ => ⟨r, b, N, h1, h2, h3, fun Th ht R a b => h _ (h4 Th ht R a b)⟩
theorem IsThr.srt {rows : List (List St)} {bad : List Nat} {N : SetS} {Th : List SetS} (h : IsThr rows bad N Th) {x : SetS} (hx : x ∈ Th) : Srt x := ((h.mem x).mp hx).1.1
theorem d_least_sets (E : Env g C) : Def g "least_sets" 1 5 (ptL (spLs C)) := by
  refine mkDef E.f_least_sets sc_least_sets rfl (fun _ _ _ _ _ _ _ us hl => match us, hl with | [_], _ => rfl) ?_
  rintro us O Q hl ⟨rfl, ts, rfl, rows, bad, N, rfl, B, D, q⟩
  refine ws_one (w1_ret (cL (d_least_hitting E) spHit_mono (cL (d_threats E) spThr_mono (v 0 rfl ⟨[plT C rows bad], rfl, rows, bad, N, rfl, B, D, fun Th hT => .inl ⟨[.lst (sets Th)], rfl, Th, N, rfl, B.ns, B.n12, fun l hl => ⟨hT.srt hl, hT.sub l hl⟩, fun R hR hm => ?_⟩⟩))))
  exact (q Th hT R hR hm).imp id fun h a _ => h a
/-- what is left of N without t -/
def without (N t : SetS) : SetS := N.filter fun x => !decide (x ∈ t)
abbrev spGb (C : Addr) : LSp := fun ts K => ∃ rows bad N, ts = [plT C rows bad] ∧ BarOk rows bad N ∧ BadOk rows bad ∧ ∀ Th, IsThr rows bad N Th → ∀ R : List SetS, R.Pairwise ltK → (∀ x, x ∈ R ↔ ∃ t ∈ Th, x = without N t) → K (sets R)
theorem spGb_mono : ∀ ts (P P' : List T → Prop), (∀ rs, P rs → P' rs) → spGb C ts P → spGb C ts P' := fun ts P P' h ⟨r, b, N, h1, h2, h3, h4⟩ => ⟨r, b, N, h1, h2, h3, fun Th ht R a b => h _ (h4 Th ht R a b)⟩
theorem IsThr.len {rows : List (List St)} {bad : List Nat} {N : SetS} {Th : List SetS} (h : IsThr rows bad N Th) (hN : Srt N) (h12 : N.length ≤ 12) : Th.length ≤ 4096 :=
  Nat.le_trans (count_sets hN (pwK_nodup h.pw) fun x hx => ⟨h.srt hx, h.sub x hx⟩) (Nat.pow_le_pow_right (by decide) h12)
theorem d_greatest_breaking (E : Env g C) : Def g "greatest_breaking" 1 5 (ptL (spGb C)) := by
  refine mkDef E.f_greatest_breaking sc_greatest_breaking rfl (fun _ _ _ _ _ _ _ us hl => match us, hl with | [_], _ => rfl) ?_
  rintro us O Q hl ⟨rfl, ts, rfl, rows, bad, N, rfl, B, D, q⟩
  have big : 4096 < sizeLine := by decide
  have big12 : 12 ≤ sizeLine := by decide
  refine ws_cons (st 1 (w_methP (d_rules E) (by decide) E.cls (fun _ => rfl) (v 0 rfl ⟨_, _, rfl, by decide, rows, bad, rfl, B.P.R.len, fun s hs => ?_, fun N' hN' hm => ?_⟩)))
  · obtain ⟨row, hr, hs⟩ := List.mem_flatten.mp hs
    exact B.P.R.rl row hr s hs
  have eN : N' = N := srt_ext hN' B.ns fun x => by rw [hm x, B.mem x]
  subst eN
  have n12 := B.n12
  refine ws_one (w1_ret (cL (d_in_order E) (fun ts P P' h ⟨L, h1, h2, h3⟩ => ⟨L, h1, h2, fun R a b => h _ (h3 R a b)⟩) ?_))
  refine lcA (α := SetS) [("threat", 3)] [3] (fun x => .t (SetT x)) (fun t => SetT (without N' t)) (wi_list (cL (d_threats E) spThr_mono (v 0 rfl ⟨[plT C rows bad], rfl, rows, bad, N', rfl, B, D, fun Th hT => .inl ⟨sets Th, rfl, Th, by rw [List.map_map]; rfl, by have := hT.len B.ns n12; omega, fun t ht => ⟨_, gn 3, ?_⟩, .inl ⟨[.lst (sets (Th.map (without N')))], ?_, Th.map (without N'), rfl, ?_, fun R hR hm2 => ?_⟩⟩⟩)))
  · exact cT b_tuple E.b_tuple (lcP (α := Str) [("rule", 2)] [2] (fun x => .t (.str x)) (fun x => !decide (x ∈ t)) T.str (wi_list (v 1 rfl ⟨sT N', rfl, N', by rw [List.map_map]; rfl, by omega, fun x hx => ⟨_, gn 2, wb_cmp o_notInS (v 2 rfl (v 3 rfl ⟨x, t, rfl, .inr rfl, _, rfl, rfl, rfl, fun _ => v 2 rfl ⟨rfl, rfl⟩⟩)) rfl⟩, .inl ⟨_, .inl rfl, rfl, rfl⟩⟩)))
  · simp [List.map_map, Function.comp_def]
  · rw [List.length_map]
    have := hT.len B.ns n12
    omega
  · exact (q Th hT R hR fun x => by rw [hm2 x, List.mem_map]; exact ⟨fun ⟨t, h1, h2⟩ => ⟨t, h1, h2.symm⟩, fun ⟨t, h1, h2⟩ => ⟨t, h1, h2.symm⟩⟩).imp id fun h a _ => h a
end Far
/-! The plain law: threats and least sets belong together. -/
namespace Far
open PySem PySem.Spec PyProof.Rows L2 TL
theorem without_mem {N t : SetS} {x : Str} : x ∈ without N t ↔ x ∈ N ∧ x ∉ t := by
  unfold without
  rw [List.mem_filter]
  by_cases h : x ∈ t <;> simp [h]
theorem without_srt {N t : SetS} (h : Srt N) : Srt (without N t) := h.filter _
theorem without_sub {N t : SetS} : Sb (without N t) N := fun x hx => (without_mem.mp hx).1
/-- sets none of which is a part of another one -/
structure Anti (N : SetS) (Th : List SetS) : Prop where
  ns : Srt N
  pw : Th.Pairwise ltK
  srt : ∀ t ∈ Th, Srt t
  sub : ∀ t ∈ Th, Sb t N
  anti : ∀ t ∈ Th, ∀ u ∈ Th, Sb u t → u = t
theorem IsThr.anti {rows : List (List St)} {bad : List Nat} {N : SetS} {Th : List SetS} (h : IsThr rows bad N Th) (hN : Srt N) : Anti N Th :=
  ⟨hN, h.pw, fun t ht => h.srt ht, h.sub, fun t ht u hu hs => ((h.mem t).mp ht).2 u ((h.mem u).mp hu).1 hs⟩
section
variable {N : SetS} {Th Ls : List SetS}
theorem hit_dual (A : Anti N Th) (hL : ∀ x, x ∈ Ls ↔ MinHit Th x) {x : SetS} : Hit Ls x ↔ ∃ t ∈ Th, Sb t x := by
  constructor
  · intro h
    by_cases q : ∃ t ∈ Th, Sb t x
    · exact q
    · exfalso
      have h0 : SHit Th (without N x) := ⟨without_srt A.ns, fun t ht => by
        by_cases q2 : ∃ a ∈ t, a ∉ x
        · obtain ⟨a, h1, h2⟩ := q2
          exact ⟨a, h1, without_mem.mpr ⟨A.sub t ht a h1, h2⟩⟩
        · exact absurd ⟨t, ht, fun a ha => by
            by_cases h3 : a ∈ x
            · exact h3
            · exact absurd ⟨a, ha, h3⟩ q2⟩ q⟩
      obtain ⟨y, hy, hs⟩ := exists_min shit_srt h0
      obtain ⟨a, h1, h2⟩ := h y ((hL y).mpr hy)
      exact (without_mem.mp (hs a h1)).2 h2
  · rintro ⟨t, ht, hs⟩ l hl
    obtain ⟨a, h1, h2⟩ := ((hL l).mp hl).1.2 t ht
    exact ⟨a, h2, hs a h1⟩
theorem minhit_dual (A : Anti N Th) (hL : ∀ x, x ∈ Ls ↔ MinHit Th x) {x : SetS} : MinHit Ls x ↔ x ∈ Th := by
  constructor
  · rintro ⟨⟨h1, h2⟩, h3⟩
    obtain ⟨t, ht, hs⟩ := (hit_dual A hL).mp h2
    have := h3 t ⟨A.srt t ht, (hit_dual A hL).mpr ⟨t, ht, Sb.refl t⟩⟩ hs
    rw [← this]; exact ht
  · intro hx
    refine ⟨⟨A.srt x hx, (hit_dual A hL).mpr ⟨x, hx, Sb.refl x⟩⟩, fun y hy hs => ?_⟩
    obtain ⟨t, ht, h2⟩ := (hit_dual A hL).mp hy.2
    have := A.anti x hx t ht (h2.trans hs)
    subst this
    exact Sb.antisymm hy.1 (A.srt t ht) hs h2
theorem anti_hit_sub (A : Anti N Th) {x : SetS} (h : MinHit Th x) : Sb x N := minhit_sub A.sub h
/-- greatest sets that hit not all -/
theorem greatest_iff (A : Anti N Th) {x : SetS} (hx : Srt x) (hs : Sb x N) : (¬ Hit Th x ∧ ∀ a ∈ N, a ∉ x → Hit Th (addS x a)) ↔ ∃ t ∈ Th, x = without N t := by
  constructor
  · rintro ⟨h1, h2⟩
    have : ∃ t ∈ Th, ∀ a ∈ t, a ∉ x := by
      by_cases q : ∃ t ∈ Th, ∀ a ∈ t, a ∉ x
      · exact q
      · exfalso
        refine h1 fun t ht => ?_
        by_cases q2 : ∃ a ∈ t, a ∈ x
        · exact q2
        · exact absurd ⟨t, ht, fun a ha hax => q2 ⟨a, ha, hax⟩⟩ q
    obtain ⟨t, ht, hd⟩ := this
    refine ⟨t, ht, Sb.antisymm hx (without_srt A.ns) (fun a ha => without_mem.mpr ⟨hs a ha, fun hat => hd a hat ha⟩) fun a ha => ?_⟩
    obtain ⟨h3, h4⟩ := without_mem.mp ha
    by_cases hax : a ∈ x
    · exact hax
    · obtain ⟨b, hb1, hb2⟩ := h2 a h3 hax t ht
      rcases addS_mem.mp hb2 with h | h
      · exact absurd h (hd b hb1)
      · subst h; exact absurd hb1 h4
  · rintro ⟨t, ht, rfl⟩
    refine ⟨fun h => ?_, fun a ha hn t' ht' => ?_⟩
    · obtain ⟨b, h1, h2⟩ := h t ht
      exact (without_mem.mp h2).2 h1
    · have hat : a ∈ t := by
        by_cases q : a ∈ t
        · exact q
        · exact absurd (without_mem.mpr ⟨ha, q⟩) hn
      by_cases q : ∃ b ∈ t', b ∉ t
      · obtain ⟨b, h1, h2⟩ := q
        exact ⟨b, h1, addS_mem.mpr (.inl (without_mem.mpr ⟨A.sub t' ht' b h1, h2⟩))⟩
      · have e : t' = t := A.anti t ht t' ht' fun b hb => by
          by_cases h : b ∈ t
          · exact h
          · exact absurd ⟨b, hb, h⟩ q
        subst e
        exact ⟨a, hat, addS_mem.mpr (.inr rfl)⟩
theorem minhit_in {lots : List SetS} {x : SetS} {a : Str} (h : MinHit lots x) (ha : a ∈ x) : ∃ l ∈ lots, a ∈ l := by
  have := minhit_sub (U := lots.flatten) (fun l hl b hb => List.mem_flatten.mpr ⟨l, hl, hb⟩) h a ha
  exact List.mem_flatten.mp this
/-- rules in some -/
theorem in_some (A : Anti N Th) (hL : ∀ x, x ∈ Ls ↔ MinHit Th x) (a : Str) : (∃ t ∈ Th, a ∈ t) ↔ ∃ l ∈ Ls, a ∈ l :=
  ⟨fun ⟨t, ht, ha⟩ => minhit_in ((minhit_dual A hL).mpr ht) ha, fun ⟨l, hl, ha⟩ => minhit_in ((hL l).mp hl) ha⟩
/-- rules in all -/
theorem in_all (hL : ∀ x, x ∈ Ls ↔ MinHit Th x) {a : Str} (h : [a] ∈ Th) : ∀ l ∈ Ls, a ∈ l := fun l hl => by
  obtain ⟨b, h1, h2⟩ := ((hL l).mp hl).1.2 _ h
  rw [List.mem_singleton] at h1
  subst h1
  exact h2
theorem srt_nil : Srt [] := List.Pairwise.nil
theorem no_threat (A : Anti N Th) (hp : Ls.Pairwise ltK) (hL : ∀ x, x ∈ Ls ↔ MinHit Th x) : Ls = [[]] ↔ Th = [] := by
  constructor
  · intro e
    have h : MinHit Th [] := (hL []).mp (by rw [e]; simp)
    cases hT : Th with
    | nil => rfl
    | cons t ts =>
      obtain ⟨a, _, h2⟩ := h.1.2 t (by rw [hT]; simp)
      cases h2
  · intro e
    subst e
    exact srtK_ext hp (List.pairwise_singleton _ _) fun x => by rw [hL x, min_hit_nil]; simp
theorem all_threat (A : Anti N Th) (hp : Ls.Pairwise ltK) (hL : ∀ x, x ∈ Ls ↔ MinHit Th x) : Ls = [] ↔ Th = [[]] := by
  constructor
  · intro e
    have hm : [] ∈ Th := (minhit_dual A hL).mp ⟨⟨srt_nil, by rw [e]; intro l hl; cases hl⟩, fun y _ hs => by
      cases y with
      | nil => rfl
      | cons b y => have := hs b (by simp); cases this⟩
    refine srtK_ext A.pw (List.pairwise_singleton _ _) fun x => ?_
    rw [List.mem_singleton]
    exact ⟨fun hx => (A.anti x hx [] hm fun a ha => (by cases ha)).symm, fun h => by rw [h]; exact hm⟩
  · intro e
    cases hl : Ls with
    | nil => rfl
    | cons l ls =>
      have h := (hL l).mp (by rw [hl]; simp)
      obtain ⟨a, h1, _⟩ := h.1.2 [] (by rw [e]; simp)
      cases h1
/-- the least of those that are kept are the least hitting sets -/
theorem least_eq (A : Anti N Th) {kp : SetS → Bool} (hk : ∀ x, Srt x → Sb x N → (kp x = true ↔ Hit Th x)) {R : List SetS} (hR : R.Pairwise ltK) (hm : ∀ x, x ∈ R ↔ MinIn (· ∈ (allS N N.length).filter kp) x) (hp : Ls.Pairwise ltK) (hL : ∀ x, x ∈ Ls ↔ MinHit Th x) : R = Ls := by
  refine srtK_ext hR hp fun x => ?_
  rw [hm x, hL x]
  have mem : ∀ y, y ∈ (allS N N.length).filter kp ↔ SHit Th y ∧ Sb y N := fun y => by
    rw [List.mem_filter, allS_mem]
    constructor
    · rintro ⟨⟨h1, h2⟩, h3⟩
      exact ⟨⟨h1, (hk y h1 h2).mp h3⟩, h2⟩
    · rintro ⟨⟨h1, h3⟩, h2⟩
      exact ⟨⟨h1, h2⟩, (hk y h1 h2).mpr h3⟩
  constructor
  · rintro ⟨h1, h2⟩
    have h1' := (mem x).mp h1
    refine ⟨h1'.1, fun y hy hs => h2 y ((mem y).mpr ⟨hy, hs.trans h1'.2⟩) hs⟩
  · intro h
    exact ⟨(mem x).mpr ⟨h.1, anti_hit_sub A h⟩, fun y hy hs => h.2 y ((mem y).mp hy).1 hs⟩
/-- .. the threats are the least that have one of each least set -/
theorem lots_eq (A : Anti N Th) (hL : ∀ x, x ∈ Ls ↔ MinHit Th x) {kp : SetS → Bool} (hk : ∀ x, Srt x → Sb x N → (kp x = true ↔ Hit Ls x)) {R : List SetS} (hR : R.Pairwise ltK) (hm : ∀ x, x ∈ R ↔ MinIn (· ∈ (allS N N.length).filter kp) x) : R = Th := by
  refine srtK_ext hR A.pw fun x => ?_
  rw [hm x, ← minhit_dual A hL]
  have mem : ∀ y, y ∈ (allS N N.length).filter kp ↔ SHit Ls y ∧ Sb y N := fun y => by
    rw [List.mem_filter, allS_mem]
    constructor
    · rintro ⟨⟨h1, h2⟩, h3⟩
      exact ⟨⟨h1, (hk y h1 h2).mp h3⟩, h2⟩
    · rintro ⟨⟨h1, h3⟩, h2⟩
      exact ⟨⟨h1, h2⟩, (hk y h1 h2).mpr h3⟩
  constructor
  · rintro ⟨h1, h2⟩
    have h1' := (mem x).mp h1
    refine ⟨h1'.1, fun y hy hs => h2 y ((mem y).mpr ⟨hy, hs.trans h1'.2⟩) hs⟩
  · intro h
    exact ⟨(mem x).mpr ⟨h.1, A.sub x ((minhit_dual A hL).mp h)⟩, fun y hy hs => h.2 y ((mem y).mp hy).1 hs⟩
/-- the greatest that are not kept -/
theorem greatest_eq (A : Anti N Th) {p : SetS → Bool} (hp : ∀ x, Srt x → Sb x N → (p x = true ↔ ∃ t ∈ Th, x = without N t)) {R : List SetS} (hR : R.Pairwise ltK) (hm : ∀ x, x ∈ R ↔ ∃ t ∈ Th, x = without N t) : (allS N N.length).filter p = R := by
  refine srtK_ext ((allS_pw A.ns _).filter _) hR fun x => ?_
  rw [hm x, List.mem_filter, allS_mem]
  constructor
  · rintro ⟨⟨h1, h2⟩, h3⟩
    exact (hp x h1 h2).mp h3
  · rintro ⟨t, ht, rfl⟩
    exact ⟨⟨without_srt A.ns, without_sub⟩, (hp _ (without_srt A.ns) without_sub).mpr ⟨t, ht, rfl⟩⟩
end
end Far
namespace Far
open PySem PySem.Spec PyProof.Rows L2 TL
variable {g : G} {C : Addr}
abbrev lim : Nat := 2 ^ 40
/-- a draw below m -/
abbrev prDraw : SPre := fun ts k R => ∃ m : Int, ts = [.int m] ∧ 1 ≤ m ∧ m < 2 ^ 30 ∧ k < lim ∧ R = fun t k' => k' = k + 1 ∧ ∃ d : Int, t = .int d ∧ 0 ≤ d ∧ d < m
theorem eqT_ints (xs : List Int) : TL.eqT (.lst (xs.map T.int)) (.lst []) = xs.isEmpty := by
  rw [eqT_nil]; cases xs <;> rfl
theorem okD_ints (xs : List Int) : okD (.lst (xs.map T.int)) = true := okD_lst (n := 0) (fun t ht => by
  obtain ⟨x, _, rfl⟩ := List.mem_map.mp ht
  exact ⟨rfl, Nat.zero_le _, rfl⟩) (by decide)
theorem eqT_int (a b : Int) : TL.eqT (.int a) (.int b) = decide (a = b) := by
  show PyData.eqv (.int a) (.int b) = _
  rw [PyData.eqv]
  by_cases h : a = b <;> simp [h]
theorem strm_set {a c : Addr} {xs : List Int} {x n m x' n' m' : Int} : sup (strm a c xs x n m) a (sL c x' n' m') = strm a c xs x' n' m' := by unfold strm; rw [sup_sup]
theorem strm_pop {a c : Addr} {xs ys : List Int} {x n m : Int} (h : a ≠ c) : sup (strm a c xs x n m) c (.lst (sI ys)) = strm a c ys x n m := by
  unfold strm; rw [sup_comm3 h.symm]
theorem frz_strm {a c : Addr} {xs : List Int} {x n m : Int} (h : a ≠ c) : Frz (strm a c xs x n m) (.cell a) (.lst [.lst (xs.map T.int), .int x, .int n, .int m]) :=
  .lst strm_a (.cons (Frz.flat (by rw [strm_c h]; unfold sI; rw [List.map_map]; rfl)) (FrzL.ts [.int x, .int n, .int m]))
theorem mod_b {i j : Int} (h : 0 < j) : 0 ≤ i % j ∧ i % j < j := ⟨Int.emod_nonneg _ (by omega), Int.emod_lt_of_pos _ h⟩
theorem ix2 {n : Int} {l : List Vl} (j : Nat) (hn : n = (j : Int)) (h : j < l.length) : ixN l.length n = some j := by
  subst hn
  unfold ixN
  rw [if_pos (by omega), if_pos (by omega)]
  simp
theorem d_draw (E : Env g C) : Def g "_law_draw" 2 1 (strT prDraw) := by
  refine mkDef E.f__law_draw sc__law_draw rfl (fun _ _ _ _ _ _ _ us hl => match us, hl with | [_, _], _ => rfl) ?_
  rintro us O Q hl ⟨a, c, k, ts, R, rfl, ⟨xs, x, n, mm, hac, rfl, hx, hn0, hnk, hm0, hm1⟩, ⟨m, rfl, h1, h2, hk, rfl⟩, q⟩
  have hnl : n < 2 ^ 40 := by
    have : (k : Int) < 2 ^ 40 := by exact_mod_cast hk
    omega
  refine ws_cons (pt s_list (w_bin o_add (ix x_cell (v 0 rfl (w_int ⟨a, _, 2, .t (.int n), rfl, strm_a, rfl, at_nat (j := 2) rfl, w_int ⟨n, 1, rfl, rfl, True.intro, v 0 rfl (w_int ⟨a, _, 2, 2, rfl, strm_a, rfl, ix2 2 rfl (by simp), ?_⟩)⟩⟩)))))
  show WS _ _ _ _ (sup (strm a c xs x n mm) a (sL c x (n + 1) mm)) _ _
  rw [strm_set]
  refine ws_cons ?_
  have rest : ∀ (xs : List Int) (x mm : Int) (x2 : Option Vl), 0 ≤ x → 0 ≤ mm → mm < 2 ^ 31 → WS g 0 (fS n__law_draw (defScope s__law_draw)) [some (.cell a), some (.t (.int m)), x2, none, none] (strm a c xs x (n + 1) mm) ((defBody s__law_draw).drop 2) { nx := fun _ O' => Q (.t .non) O', rt := Q } := by
    intro xs x mm x2 hx hm0 hm1
    have has : ∀ x' mm' : Int, 0 ≤ x' → 0 ≤ mm' → mm' < 2 ^ 31 → Has (strm a c xs x' (n + 1) mm') a c (k + 1) := fun x' mm' h1 h2 h3 => ⟨xs, x', n + 1, mm', hac, strm_a, strm_c hac, h1, by omega, by omega, h2, h3⟩
    refine ws_cons (w1_if (wb_cmp o_gt (ix x_cell (v 0 rfl (w_int ⟨a, _, 1, .t (.int x), rfl, strm_a, rfl, at_nat (j := 1) rfl, w_int ⟨x, 0, rfl, rfl, True.intro, _, rfl, fun h => ?_, fun h => ?_⟩⟩))) rfl))
    · refine ws_cons (st 3 (w_bin o_mod (cT b_int E.b_int (ix x_cell (v 0 rfl (w_int ⟨a, _, 1, .t (.int x), rfl, strm_a, rfl, at_nat (j := 1) rfl, .inl ⟨x, rfl, v 1 rfl ⟨x, m, rfl, rfl, by omega, ?_⟩⟩⟩))))))
      refine ws_cons (pt s_list (w_bin o_fdiv (ix x_cell (v 0 rfl (w_int ⟨a, _, 1, .t (.int x), rfl, strm_a, rfl, at_nat (j := 1) rfl, v 1 rfl ⟨x, m, rfl, rfl, ⟨by omega, by omega⟩, v 0 rfl (w_int ⟨a, _, 1, 1, rfl, strm_a, rfl, ix2 1 rfl (by simp), ?_⟩)⟩⟩)))))
      show WS _ _ _ _ (sup (strm a c xs x (n + 1) mm) a (sL c (x / m) (n + 1) mm)) _ _
      rw [strm_set]
      have hb := mod_b (i := x) (j := m) (by omega)
      refine ws_one (w1_ret (w_retS (v 3 rfl ⟨a, c, k + 1, .int (x % m), has _ _ (Int.ediv_nonneg hx (by omega)) hm0 hm1, .inl rfl, fun O2 s2 => q _ _ ⟨rfl, _, rfl, hb.1, hb.2⟩ O2 s2⟩)))
    · refine ws_nil (ws_cons (st 4 (w_bin o_mod (cT b_int E.b_int (w_bin o_pow (w_bin o_add (w_bin o_add (ix x_cell (v 0 rfl (w_int ⟨a, _, 3, .t (.int mm), rfl, strm_a, rfl, at_nat (j := 3) rfl, w_bin o_mul (w_int (ix x_cell (v 0 rfl (w_int ⟨a, _, 2, .t (.int (n + 1)), rfl, strm_a, rfl, at_nat (j := 2) rfl, _, _, rfl, rfl, .inl ⟨by decide, by decide⟩, _, _, rfl, rfl, True.intro, w_int ⟨_, _, rfl, rfl, True.intro, w_int ⟨_, 5, rfl, rfl, ⟨by decide, by decide, by omega⟩, .inl ⟨_, rfl, w_int ⟨_, 2147483629, rfl, rfl, (show (0 : Int) < 2147483629 by decide), ?_⟩⟩⟩⟩⟩))))⟩))))))))))
      have hb := mod_b (i := (mm + 7919 * (n + 1) + 104729) ^ (5 : Int).toNat) (j := 2147483629) (by decide)
      have pw : ∀ {y : Int}, 0 ≤ y → y < 2147483629 → (y * 48271 + 30011 * (n + 1) + 29).natAbs < 2 ^ 64 := fun h1 h2 => by omega
      refine ws_one (w1_ret (w_retS (w_bin o_mod (w_bin o_mod (cT b_int E.b_int (w_bin o_pow (w_bin o_add (w_bin o_add (w_bin o_mul (v 4 rfl (w_int ⟨_, 48271, rfl, rfl, .inl ⟨Int.lt_of_lt_of_le (by decide) hb.1, Int.lt_trans hb.2 (by decide)⟩, w_bin o_mul (w_int (ix x_cell (v 0 rfl (w_int ⟨a, _, 2, .t (.int (n + 1)), rfl, strm_a, rfl, at_nat (j := 2) rfl, _, _, rfl, rfl, .inl ⟨by decide, by decide⟩, _, _, rfl, rfl, True.intro, w_int ⟨_, _, rfl, rfl, True.intro, w_int ⟨_, 3, rfl, rfl, ⟨by decide, by decide, pw hb.1 hb.2⟩, .inl ⟨_, rfl, w_int ⟨_, 1000000007, rfl, rfl, (show (0 : Int) < 1000000007 by decide), v 1 rfl ⟨_, m, rfl, rfl, by omega, ?_⟩⟩⟩⟩⟩⟩))))⟩)))))))))))
      exact ⟨a, c, k + 1, .int _, has _ _ hx hm0 hm1, .inl rfl, fun O2 s2 => q _ _ ⟨rfl, _, rfl, (mod_b (by omega)).1, (mod_b (by omega)).2⟩ O2 s2⟩
  refine (w1_while (fun M ρ1 O1 => ∃ xs x mm x2, M = xs.length ∧ ρ1 = [some (.cell a), some (.t (.int m)), x2, none, none] ∧ O1 = strm a c xs x (n + 1) mm ∧ 0 ≤ x ∧ 0 ≤ mm ∧ mm < 2 ^ 31) ⟨_, xs, x, mm, none, rfl, rfl, rfl, hx, hm0, hm1⟩ ?_)
  · rintro M ρ1 O1 ⟨xs, x, mm, x2, rfl, rfl, rfl, hx, hm0, hm1⟩
    refine wb_chain (wp_and (wb_cmp o_eq (ix x_cell (v 0 rfl (w_int ⟨a, _, 1, .t (.int x), rfl, strm_a, rfl, at_nat (j := 1) rfl, w_int ⟨.int x, .int 0, rfl, rfl, rfl, rfl, _, rfl, fun hb => ?_, fun hb => ⟨fun h => (by cases h), fun _ => ?_⟩⟩⟩))) rfl))
    · refine wp_one (wb_pure (ρ' := [some (.t (.lst [.lst (xs.map T.int), .int x, .int (n + 1), .int mm])), some (.t (.int m)), x2, none, none]) (.frz (frz_strm hac) (.keep (.keep (.keep (.keep .nil))))) (wb_cmp o_ne (ix x_seq (v 0 rfl (w_int ⟨_, 0, .lst (xs.map T.int), .inl rfl, rfl, at_nat (j := 0) rfl, w_lst True.intro ⟨Nat.zero_le _, .inl ⟨[], rfl, .lst (xs.map T.int), .lst [], rfl, rfl, okD_ints xs, by decide, _, rfl, fun h => ?_, fun h => ?_⟩⟩⟩))) rfl))
      · rw [eqT_ints] at h
        cases xs with
        | nil => cases h
        | cons y ys =>
          refine ws_cons (st 2 (pop (ix x_cell (v 0 rfl (w_int ⟨a, _, 0, .cell c, rfl, strm_a, rfl, at_nat (j := 0) rfl, c, rfl, ⟨_, strm_c hac⟩, w_int ⟨_, 0, 0, .t (.int y), rfl, strm_c hac, by decide, by decide, ?_, rfl, ?_⟩⟩)))))
          · simp [seqIndex?, sI]
          show WS _ _ _ _ (sup (strm a c (y :: ys) x (n + 1) mm) c (.lst (sI ys))) _ _
          rw [strm_pop hac]
          refine ws_cons (pt s_list (w_bin o_mod (cT b_int E.b_int (w_bin o_add (w_bin o_add (w_bin o_mul (ix x_cell (v 0 rfl (w_int ⟨a, _, 3, .t (.int mm), rfl, strm_a, rfl, at_nat (j := 3) rfl, w_int ⟨mm, 8191, rfl, rfl, .inl ⟨by omega, by omega⟩, v 2 rfl ⟨_, y, rfl, rfl, True.intro, w_int ⟨_, 3, rfl, rfl, True.intro, .inl ⟨_, rfl, w_int ⟨_, 2147483647, rfl, rfl, (show (0 : Int) < 2147483647 by decide), v 0 rfl (w_int ⟨a, _, 3, 3, rfl, strm_a, rfl, ix2 3 rfl (by simp), ?_⟩)⟩⟩⟩⟩⟩⟩)))))))))
          show WS _ _ _ _ (sup (strm a c ys x (n + 1) mm) a (sL c x (n + 1) ((mm * 8191 + y + 3) % 2147483647))) _ _
          rw [strm_set]
          have hb := mod_b (i := mm * 8191 + y + 3) (j := 2147483647) (by decide)
          generalize (mm * 8191 + y + 3) % 2147483647 = m2 at hb
          refine ws_one (pt s_list (w_if (wb_cmp o_ge (v 2 rfl (w_bin o_pow (w_int (w_int ⟨10, 18, rfl, rfl, ⟨by decide, by decide, by decide⟩, y, _, rfl, rfl, True.intro, _, rfl, fun hz => v 2 rfl (v 0 rfl (w_int ⟨a, _, 1, 1, rfl, strm_a, rfl, ix2 1 rfl (by simp), ?_⟩)), fun hz => w_int (v 0 rfl (w_int ⟨a, _, 1, 1, rfl, strm_a, rfl, ix2 1 rfl (by simp), ?_⟩))⟩)))) rfl)))
          · have hz := of_decide_eq_true hz
            have hz' : (0 : Int) ≤ y := by
              have : (10 : Int) ^ (18 : Int).toNat = 1000000000000000000 := by decide
              rw [this] at hz
              omega
            refine ⟨ys.length, by simp, ys, y, m2, _, rfl, rfl, ?_, hz', by omega, by omega⟩
            exact strm_set
          · refine ⟨ys.length, by simp, ys, 0, m2, _, rfl, rfl, ?_, Int.le_refl _, by omega, by omega⟩
            exact strm_set
      · clear h hb
        exact rest xs x mm x2 hx hm0 hm1
    · exact rest xs x mm x2 hx hm0 hm1
end Far
namespace Far
open PySem PySem.Spec PyProof.Rows L2 TL
variable {g : G} {C : Addr}
theorem d_start (E : Env g C) : Def g "_law_start" 1 1 (fun us O Q => O = noS ∧ ∃ xs : List Int, us = [.t (.lst (xs.map T.int))] ∧ xs.length ≤ sizeLine ∧ ∀ a c O2, SS a c 0 O2 → Q (.cell a) O2) := by
  refine mkDef E.f__law_start sc__law_start rfl (fun _ _ _ _ _ _ _ us hl => match us, hl with | [_], _ => rfl) ?_
  rintro us O Q hl ⟨rfl, xs, rfl, hz, q⟩
  refine ws_one (w1_ret (w_lst ⟨fun _ => rfl, fun _ => rfl, fun _ => rfl, fun _ => rfl, True.intro⟩ (cT b_list E.b_list (v 0 rfl ⟨xs.map T.int, .inl rfl, .inr fun c hc => w_int (w_int (w_int ⟨by show 4 ≤ sizeLine; decide, .inr fun a ha => q a c _ ?_⟩))⟩))))
  have hac : a ≠ c := fun e => by subst e; rw [sup_same] at ha; cases ha
  refine ⟨xs, 0, 0, 11, hac, ?_, by decide, by decide, by decide, by decide, by decide⟩
  unfold strm sL sI
  rw [List.map_map]
  rfl
abbrev prPick : SPre := fun ts k R => ∃ items : List T, ts = [.lst items] ∧ 1 ≤ items.length ∧ items.length < 2 ^ 30 ∧ k < lim ∧ R = fun t k' => k' = k + 1 ∧ t ∈ items
theorem d_pick (E : Env g C) : Def g "_law_pick" 2 2 (strT prPick) := by
  refine mkDef E.f__law_pick sc__law_pick rfl (fun _ _ _ _ _ _ _ us hl => match us, hl with | [_, _], _ => rfl) ?_
  rintro us O Q hl ⟨a, c, k, ts, R, rfl, s, ⟨items, rfl, h1, h2, hk, rfl⟩, q⟩
  refine ws_one (w1_ret (w_retS (ix x_seq (v 1 rfl (cS (d_draw E) (v 0 rfl (cB b_len E.b_len (v 1 rfl ⟨items, .inl rfl, a, c, k, [.int items.length], _, rfl, s.has, ⟨items.length, rfl, by omega, by omega, hk, rfl⟩, ?_⟩))))))))
  rintro t k' ⟨rfl, d, rfl, h3, h4⟩ O2 hh _
  obtain ⟨j, rfl⟩ := Int.eq_ofNat_of_zero_le h3
  have hj : j < items.length := by omega
  exact ⟨items, (j : Int), items[j], .inl rfl, rfl, at_nat (List.getElem?_eq_getElem hj), a, c, k + 1, items[j], hh, .inl rfl, fun O3 s3 => q _ _ ⟨rfl, List.getElem_mem hj⟩ O3 s3⟩
abbrev prMixed : SPre := fun ts k R => ∃ (t : T) (items : List T), ts = [t] ∧ (t = .lst items ∨ t = .tup items) ∧ items.length ≤ 10000 ∧ k + items.length < lim ∧ R = fun t k' => k' = k + items.length ∧ ∃ out : List T, out.Perm items ∧ t = .lst out
theorem perm_pull {α : Type} : ∀ {l : List α} {j : Nat} {x : α}, l[j]? = some x → (x :: l.eraseIdx j).Perm l
  | [], _, _, h => by simp at h
  | y :: l, 0, x, h => by simp at h; subst h; exact .refl _
  | y :: l, j + 1, x, h => by
    rw [List.eraseIdx_cons_succ]
    exact (List.Perm.swap y x _).trans ((perm_pull (by simpa using h)).cons y)
theorem erase_map {α β : Type} (f : α → β) : ∀ (l : List α) (j : Nat), (l.map f).eraseIdx j = (l.eraseIdx j).map f
  | [], _ => rfl
  | _ :: _, 0 => rfl
  | x :: l, j + 1 => by rw [List.map_cons, List.eraseIdx_cons_succ, List.eraseIdx_cons_succ, erase_map f l j]; rfl
theorem d_mixed (E : Env g C) : Def g "_law_mixed" 2 2 (strT prMixed) := by
  refine mkDef E.f__law_mixed sc__law_mixed rfl (fun _ _ _ _ _ _ _ us hl => match us, hl with | [_, _], _ => rfl) ?_
  rintro us O Q hl ⟨a, c, k, ts, R, rfl, s, ⟨t, items, rfl, e, hz, hk, rfl⟩, q⟩
  have sz : 10000 ≤ sizeLine := by decide
  refine ws_cons (st 2 (cT b_list E.b_list (v 1 rfl ⟨items, seq_len e, .inr fun d hd => ?_⟩)))
  have hda := s.has.fresh hd
  have H0 := s.has.other (y := .lst (items.map Vl.t)) hda.1 hda.2
  refine ws_one (w1_ret (w_retS ?_))
  refine w_lc [("_law_k", 3)] (is := [3]) (by decide +kernel) (by decide) (fun _ _ => rfl) (wr1 E.b_range (cB b_lenC E.b_len (v 2 rfl ⟨d, items.map Vl.t, rfl, sup_same, (items.length : Nat), by rw [List.length_map], by omega, by omega, ?_⟩)))
  refine ⟨fun i acc O2 => ∃ outs rem : List T, acc = outs.map Vl.t ∧ (outs ++ rem).Perm items ∧ outs.length = i ∧ O2 d = some (.lst (rem.map Vl.t)) ∧ Has O2 a c (k + i), ⟨[], items, rfl, List.Perm.refl _, rfl, sup_same, H0⟩, ?_, ?_, ?_⟩
  · rintro i u acc O2 hu ⟨outs, rem, rfl, hp, hi, hd2, hh⟩ _
    have hlen := hp.length_eq
    rw [List.length_append] at hlen
    have hi2 : i < items.length := by
      have := (List.getElem?_eq_some_iff.mp hu).1
      rw [List.length_map, rng_len, Int.toNat_natCast] at this
      exact this
    obtain ⟨z, hz1, rfl⟩ := map_get hu
    refine ⟨_, gn 3, ?_⟩
    show W g _ _ _ _ _ _
    refine pop (v 2 rfl ⟨d, rfl, ⟨_, hd2⟩, cS (d_draw E) (v 0 rfl (cB b_lenC E.b_len (v 2 rfl ⟨d, rem.map Vl.t, rfl, hd2, a, c, k + i, [.int (rem.map Vl.t).length], _, rfl, hh, ⟨_, rfl, ?_, ?_, by omega, rfl⟩, ?_⟩)))⟩)
    · rw [List.length_map]; omega
    · rw [List.length_map]; omega
    · rintro t k' ⟨rfl, x, rfl, h3, h4⟩ O3 hh3 same
      rw [List.length_map] at h4
      obtain ⟨j, rfl⟩ := Int.eq_ofNat_of_zero_le h3
      have hj : j < rem.length := by omega
      have hd3 : O3 d = some (.lst (rem.map Vl.t)) := by rw [same d hda.1 hda.2]; exact hd2
      refine ⟨_, (j : Int), j, .t rem[j], rfl, hd3, by omega, by omega, ?_, by rw [List.getElem?_map, List.getElem?_eq_getElem hj]; rfl, outs ++ [rem[j]], rem.eraseIdx j, by simp, ?_, by simp [hi], ?_, ?_⟩
      · unfold seqIndex?
        simp only [List.length_map]
        have e1 : ¬ ((j : Int) < 0) := by omega
        simp [e1]
        omega
      · rw [List.append_assoc]
        exact ((perm_pull (List.getElem?_eq_getElem hj)).append_left outs).trans hp
      · rw [sup_same, erase_map]
      · exact hh3.other hda.1 hda.2
  · rw [List.length_map, rng_len, Int.toNat_natCast]; omega
  · rintro acc O2 ⟨outs, rem, rfl, hp, hi, hd2, hh⟩
    rw [List.length_map, rng_len, Int.toNat_natCast] at hi hh
    have hlen := hp.length_eq
    rw [List.length_append] at hlen
    have : rem = [] := List.length_eq_zero_iff.mp (by omega)
    subst this
    rw [List.append_nil] at hp
    exact .inl ⟨outs, rfl, a, c, _, .lst outs, hh, .inl rfl, fun O3 s3 => q _ _ ⟨rfl, outs, hp, rfl⟩ O3 s3⟩
end Far
namespace Far
open PySem PySem.Spec PyProof.Rows L2 TL
variable {g : G} {C : Addr}
/-! ### loose: lists for tuples and the other way -/
mutual
inductive Loose : T → T → Prop
  | same (t : T) : isLT t = false → Loose t t
  | seq {t u : T} {xs ys : List T} : (t = .lst xs ∨ t = .tup xs) → (u = .lst ys ∨ u = .tup ys) → LooseL xs ys → Loose t u
inductive LooseL : List T → List T → Prop
  | nil : LooseL [] []
  | cons {x y xs ys} : Loose x y → LooseL xs ys → LooseL (x :: xs) (y :: ys)
end
mutual
def nodes : T → Nat
  | .lst xs => nodesL xs + 1
  | .tup xs => nodesL xs + 1
  | _ => 0
def nodesL : List T → Nat
  | [] => 0
  | x :: xs => nodes x + nodesL xs
end
theorem nodesL_app : ∀ xs ys : List T, nodesL (xs ++ ys) = nodesL xs + nodesL ys
  | [], _ => by simp [nodesL]
  | x :: xs, ys => by rw [List.cons_append, nodesL, nodesL, nodesL_app xs ys]; omega
theorem LooseL.app : ∀ {xs ys us vs : List T}, LooseL xs ys → LooseL us vs → LooseL (xs ++ us) (ys ++ vs)
  | _, _, _, _, .nil, q => q
  | _, _, _, _, .cons r t, q => .cons r (t.app q)
/-- of depth d at most -/
def lvl : Nat → T → Prop
  | 0, t => isLT t = false ∧ noIns t = true
  | d + 1, t => (isLT t = false ∧ noIns t = true) ∨ ∃ xs, (t = .lst xs ∨ t = .tup xs) ∧ xs.length ≤ 10000 ∧ ∀ x ∈ xs, lvl d x
theorem lvl_noIns : ∀ {d : Nat} {t : T}, lvl d t → noIns t = true
  | 0, _, h => h.2
  | _ + 1, _, .inl h => h.2
  | _ + 1, _, .inr ⟨xs, e, _⟩ => (isLT_seq e).2.2.2.2
abbrev prLoose (d : Nat) : SPre := fun ts k R => ∃ t : T, ts = [t] ∧ lvl d t ∧ k + nodes t < lim ∧ R = fun u k' => k' = k + nodes t ∧ Loose t u
theorem nodes_at {t : T} (h : isLT t = false) : nodes t = 0 := by
  cases t with
  | lst xs => rw [(isLT_seq (t := .lst xs) (.inl rfl)).1] at h; cases h
  | tup xs => rw [(isLT_seq (t := .tup xs) (.inr rfl)).1] at h; cases h
  | _ => rfl
theorem nodes_seq {t : T} {xs : List T} (e : t = .lst xs ∨ t = .tup xs) : nodes t = nodesL xs + 1 := by rcases e with rfl | rfl <;> rfl
theorem eqT_int0 (a b : Int) : TL.eqT (.int a) (.int b) = decide (a = b) := eqT_int a b
theorem d_loose (E : Env g C) : ∀ d, Def g "_law_loose" 2 (d + 2) (strT (prLoose d)) := by
  intro d
  induction d with
  | zero =>
    refine mkDef E.f__law_loose sc__law_loose rfl (fun _ _ _ _ _ _ _ us hl => match us, hl with | [_, _], _ => rfl) ?_
    rintro us O Q hl ⟨a, c, k, ts, R, rfl, s, ⟨t, rfl, hd, hk, rfl⟩, q⟩
    refine ws_cons (w1_if (wb_not (wb_val (isiLT E.b_isinstance E.b_list E.b_tuple (v 1 rfl ⟨t, rfl, lvl_noIns hd, _, rfl, fun h => ?_, fun h => absurd h (by rw [hd.1]; decide)⟩)) fun _ _ => rfl)))
    refine ws_one (w1_ret (w_retS (v 1 rfl ⟨a, c, k + nodes t, t, s.has.mono (by omega), .inl rfl, fun O2 s2 => q _ _ ⟨rfl, .same t hd.1⟩ O2 s2⟩)))
  | succ d ih =>
    refine mkDef E.f__law_loose sc__law_loose rfl (fun _ _ _ _ _ _ _ us hl => match us, hl with | [_, _], _ => rfl) ?_
    rintro us O Q hl ⟨a, c, k, ts, R, rfl, s, ⟨t, rfl, hd, hk, rfl⟩, q⟩
    rcases hd with hd | ⟨xs, e, hx, hall⟩
    · refine ws_cons (w1_if (wb_not (wb_val (isiLT E.b_isinstance E.b_list E.b_tuple (v 1 rfl ⟨t, rfl, hd.2, _, rfl, fun h => ?_, fun h => absurd h (by rw [hd.1]; decide)⟩)) fun _ _ => rfl)))
      refine ws_one (w1_ret (w_retS (v 1 rfl ⟨a, c, k + nodes t, t, s.has.mono (by omega), .inl rfl, fun O2 s2 => q _ _ ⟨rfl, .same t hd.1⟩ O2 s2⟩)))
    · have en := nodes_seq e
      refine ws_cons (w1_if (wb_not (wb_val (isiLT E.b_isinstance E.b_list E.b_tuple (v 1 rfl ⟨t, rfl, (isLT_seq e).2.2.2.2, _, rfl, fun h => absurd h (by rw [(isLT_seq e).1]; decide), fun _ => ws_nil ?_⟩)) fun _ _ => rfl)))
      refine ws_cons (stLc 2 [("_law_part", 3)] [3] (wiv 1 e rfl ⟨fun i acc O2 => ∃ ys : List T, acc = ys.map Vl.t ∧ LooseL (xs.take i) ys ∧ Has O2 a c (k + nodesL (xs.take i)), ⟨[], rfl, .nil, by simpa [nodesL] using s.has⟩, ?_, ?_, ?_⟩))
      · rintro i u acc O2 hu ⟨ys, rfl, hL, hh⟩ _
        obtain ⟨x, hx1, rfl⟩ := map_get hu
        obtain ⟨hi, ex⟩ := List.getElem?_eq_some_iff.mp hx1
        have et : xs.take (i + 1) = xs.take i ++ [x] := by rw [List.take_succ_eq_append_getElem hi, ex]
        have tot : nodesL xs = nodesL (xs.take i) + (nodes x + nodesL (xs.drop (i + 1))) := by
          conv => lhs; rw [← List.take_append_drop i xs, nodesL_app, List.drop_eq_getElem_cons hi, ex]
          rfl
        refine ⟨_, gn 3, ?_⟩
        show W g _ _ _ _ _ _
        refine cS ih (v 0 rfl (v 3 rfl ⟨a, c, _, [x], _, rfl, hh, ⟨x, rfl, hall x (List.mem_of_getElem? hx1), by omega, rfl⟩, ?_⟩))
        rintro u k' ⟨rfl, hu⟩ O3 hh3 _
        refine ⟨ys ++ [u], by simp, by rw [et]; exact hL.app (.cons hu .nil), ?_⟩
        rw [et, nodesL_app]
        simpa [nodesL, Nat.add_assoc] using hh3
      · rw [List.length_map]; exact Nat.le_trans hx (by decide)
      · rintro acc O2 ⟨ys, rfl, hL, hh⟩
        rw [List.length_map, List.take_length] at hL hh
        refine .inl ⟨ys, rfl, ?_⟩
        refine ws_one (w1_ret (w_retS (w_if (wb_cmp o_eq (cS (d_draw E) (v 0 rfl (w_int ⟨a, c, _, [.int 3], _, rfl, hh, ⟨3, rfl, by decide, by decide, by omega, rfl⟩, ?_⟩))) rfl))))
        rintro u k' ⟨rfl, x, rfl, _⟩ O3 hh3 _
        refine w_int ⟨.int x, .int 0, rfl, rfl, rfl, rfl, _, rfl, fun _ => v 2 rfl ?_, fun _ => cT b_tuple E.b_tuple (v 2 rfl ⟨ys, .inl rfl, ?_⟩)⟩
        · exact ⟨a, c, _, .lst ys, hh3, .inl rfl, fun O2 s2 => q _ _ ⟨by omega, .seq e (.inl rfl) hL⟩ O2 s2⟩
        · exact ⟨a, c, _, .tup ys, hh3, .inl rfl, fun O2 s2 => q _ _ ⟨by omega, .seq e (.inr rfl) hL⟩ O2 s2⟩
end Far
namespace Far
open PySem PySem.Spec PyProof.Rows L2 TL
variable {g : G} {C : Addr}
section
variable {k : Nat} {S : Sx} {ρ : Rho} {O : Store} {pos : Pos}
/-- -e -/
theorem w_neg {e : Expr} {Q : Vl → Store → Prop} (h : W g k S ρ O e fun u O1 => ∃ i, u = .t (.int i) ∧ Q (.t (.int (-i))) O1) : W g k S ρ O (.UnaryOp .USub e pos) Q := by
  intro X A σ F H hE hC Qc hq
  refine semE_of (pe_un un_neg pe_sem) (h X A σ F H hE hC _ fun u v F1 H1 O1 s1 c1 r1 ⟨i, e1, q⟩ => ?_)
  subst e1
  exact ⟨i, vrep_int r1, hq (.t (.int (-i))) _ F1 H1 O1 s1 c1 (Rep.int _) q⟩
end
theorem at_last {α : Type} {xs : List α} {x : α} (h : xs.getLast? = some x) : atI xs (-1) = some x := by
  obtain ⟨init, rfl⟩ := List.getLast?_eq_some_iff.mp h
  unfold atI ixN
  rw [if_neg (by decide), if_pos (by simp; omega)]
  have e : (-1 + ((init ++ [x]).length : Int)).toNat = init.length := by simp; omega
  show (init ++ [x])[(-1 + ((init ++ [x]).length : Int)).toNat]? = some x
  rw [e]
  simp
/-! ### what the law draws, as data -/
def rawT (r : RawS) : T := .tup [kT r.w, .int r.one, .int r.other, .lst (sT r.rules), .dic (r.sk.map .text) r.sv]
def drawnT (n : Nat) (rs : List RawS) (bs : List Nat) : T := .tup [.int n, .lst (rs.map rawT), .lst (iT bs)]
/-- the rules of some steps, as they are met -/
def newR (f : List Str) (rs : List Str) : List Str := f ++ rs.filter fun x => !decide (x ∈ f)
theorem newR_mem {f rs : List Str} {x : Str} : x ∈ newR f rs ↔ x ∈ f ∨ x ∈ rs := by
  unfold newR
  rw [List.mem_append, List.mem_filter]
  by_cases h : x ∈ f <;> simp [h]
theorem newR_nd {f rs : List Str} (hf : f.Nodup) (hr : rs.Nodup) : (newR f rs).Nodup := by
  unfold newR
  rw [List.nodup_append]
  refine ⟨hf, hr.filter _, fun x hx y hy e => ?_⟩
  subst e
  have := (List.mem_filter.mp hy).2
  simp [hx] at this
theorem d_x_names (E : Env g C) : Def g "_law_x_names" 1 1 (ptT fun ts P => ∃ n rs bs, ts = [drawnT n rs bs] ∧ rs.length ≤ 1000 ∧ (∀ r ∈ rs, r.rules.Nodup ∧ r.rules.length ≤ 50) ∧ ∀ N : SetS, Srt N → (∀ x, x ∈ N ↔ ∃ r ∈ rs, x ∈ r.rules) → P (.lst (sT N))) := by
  refine mkDef E.f__law_x_names sc__law_x_names rfl (fun _ _ _ _ _ _ _ us hl => match us, hl with | [_], _ => rfl) ?_
  rintro us O Q hl ⟨rfl, ts, rfl, n, rs, bs, rfl, hz, hr, q⟩
  have big : 1000 * 50 + 100 ≤ sizeLine := by decide
  refine ws_cons (st 1 (w_lst True.intro ⟨Nat.zero_le _, .inr fun a ha => ?_⟩))
  refine ws_cons (fr (wi_list (ix x_seq (v 0 rfl (w_int ⟨_, 1, .lst (rs.map rawT), .inr rfl, rfl, at_nat (j := 1) rfl, rs.map rawT, rfl, fun i ρ1 O3 => ∃ x2 x3 x4 x5 x6 x7 F, ρ1 = [some (.t (drawnT n rs bs)), some (.cell a), x2, x3, x4, x5, x6, x7] ∧ O3 = sup noS a (.lst ((sT F).map Vl.t)) ∧ F.Nodup ∧ F.length ≤ i * 50 ∧ ∀ x, x ∈ F ↔ ∃ r ∈ rs.take i, x ∈ r.rules, ⟨none, none, none, none, none, none, [], rfl, rfl, List.nodup_nil, Nat.zero_le _, fun x => by simp⟩, ?_, ?_⟩)))))
  · rintro i u ρ1 O3 hu ⟨x2, x3, x4, x5, x6, x7, F, rfl, rfl, hnd, hl, hF⟩
    obtain ⟨t, h1, rfl⟩ := map_get hu
    obtain ⟨r, h2, rfl⟩ := map_get h1
    obtain ⟨hi, ex⟩ := List.getElem?_eq_some_iff.mp h2
    have hrm := hr r (List.mem_of_getElem? h2)
    have hi2 : i * 50 ≤ 1000 * 50 := Nat.mul_le_mul_right _ (by omega)
    refine ⟨_, _, wg5 2 3 4 5 6 (.inr rfl), ws_one (sx (ext (v 1 rfl ⟨a, rfl, ⟨_, sup_same⟩, lcP (α := Str) [("_law_rule", 7)] [7] (fun x => .t (.str x)) (fun x => !decide (x ∈ F)) T.str (wi_list (v 5 rfl ⟨sT r.rules, rfl, r.rules, by rw [List.map_map]; rfl, by omega, fun x hx => ⟨_, gn 7, ?_⟩, .inl ⟨sT F |>.map Vl.t, (r.rules.filter fun x => !decide (x ∈ F)).map T.str, rfl, sup_same, ?_, ?_⟩⟩))⟩)))⟩
    · refine wb_pure (ρ' := [none, some (.t (.lst (sT F))), none, none, none, none, none, some (.t (.str x))]) (.none (.frz (Frz.flat sup_same) (.none (.none (.none (.none (.none (.keep .nil)))))))) ?_
      exact wb_cmp o_notInS (v 7 rfl (v 1 rfl ⟨x, F, rfl, .inl rfl, _, rfl, rfl, rfl, fun _ => v 7 rfl ⟨rfl, rfl⟩⟩)) rfl
    · have h5 : (r.rules.filter fun x => !decide (x ∈ F)).length ≤ r.rules.length := List.length_filter_le _ _
      simp only [List.length_map]
      omega
    · refine ⟨_, _, _, _, _, x7, newR F r.rules, rfl, ?_, newR_nd hnd hrm.1, ?_, fun x => ?_⟩
      · rw [sup_sup]
        unfold newR
        simp
      · have h5 : (r.rules.filter fun x => !decide (x ∈ F)).length ≤ r.rules.length := List.length_filter_le _ _
        unfold newR
        rw [List.length_append, Nat.succ_mul]
        omega
      · rw [newR_mem, hF, List.take_succ_eq_append_getElem hi, ex]
        simp only [List.mem_append, List.mem_singleton]
        constructor
        · rintro (⟨r', h, h'⟩ | h)
          · exact ⟨r', .inl h, h'⟩
          · exact ⟨r, .inr rfl, h⟩
        · rintro ⟨r', h | rfl, h'⟩
          · exact .inl ⟨r', h, h'⟩
          · exact .inr h'
  · rintro ρ1 O3 ⟨x2, x3, x4, x5, x6, x7, F, rfl, rfl, hnd, hl, hF⟩
    rw [List.length_map, List.length_map] at hl
    rw [List.length_map, List.length_map, List.take_length] at hF
    have hi2 : rs.length * 50 ≤ 1000 * 50 := Nat.mul_le_mul_right _ hz
    obtain ⟨s1, s2, s3, s4⟩ := srtd_strs F (by omega)
    refine ws_one (w1_ret (w_frzE (ρ' := [some (.t (drawnT n rs bs)), some (.t (.lst (sT F))), x2, x3, x4, x5, x6, x7]) Split.all (.keep (.frz (Frz.flat sup_same) (.keep (.keep (.keep (.keep (.keep (.keep .nil)))))))) (cB b_sortedA E.b_sorted (v 1 rfl ⟨sT F, .inl rfl, s1, s2, s3, s4, ?_⟩))))
    rw [sortT_strs]
    exact q (sortS F) (sortS_srt hnd) fun x => by rw [sortS_mem, hF]
end Far
namespace Far
open PySem PySem.Spec PyProof.Rows L2 TL
variable {g : G} {C : Addr}
theorem any_eqT (x : SetS) (M : List SetS) : ((sets M).any fun z => TL.eqT z (SetT x)) = decide (x ∈ M) := by
  induction M with
  | nil => simp
  | cons y M ih =>
    show (TL.eqT (SetT y) (SetT x) || (sets M).any fun z => TL.eqT z (SetT x)) = _
    rw [ih, eqT_set]
    by_cases h : y = x
    · subst h; simp
    · have h' : ¬ x = y := fun e => h e.symm
      simp [h, h']
def okL (L : List SetS) : Prop := ∀ x ∈ L, ∀ s ∈ x, okS s
theorem d_x_in (E : Env g C) : Def g "_law_x_in" 2 1 (ptT fun ts P => (∃ a b, ts = [SetT a, SetT b] ∧ a.length ≤ 1000 ∧ P (.bl (subB a b))) ∨ ∃ L M : List SetS, ts = [.lst (sets L), .lst (sets M)] ∧ L.length ≤ sizeLine ∧ okL L ∧ okL M ∧ P (.bl (L.all fun x => decide (x ∈ M)))) := by
  refine mkDef E.f__law_x_in sc__law_x_in rfl (fun _ _ _ _ _ _ _ us hl => match us, hl with | [_, _], _ => rfl) ?_
  rintro us O Q hl ⟨rfl, ts, rfl, h⟩
  rcases h with ⟨a, b, rfl, hz, q⟩ | ⟨L, M, rfl, hz, oL, oM, q⟩
  · refine ws_one (w1_ret (cB b_all E.b_all (lcA (α := Str) [("_law_thing", 2)] [2] (fun x => .t (.str x)) (fun x => .bl (decide (x ∈ b))) (wi_tup (v 0 rfl ⟨sT a, rfl, a, by rw [List.map_map]; rfl, Nat.le_trans hz (by decide), fun x hx => ⟨_, gn 2, w_cmp o_inS (v 2 rfl (v 1 rfl ⟨x, b, rfl, .inr rfl, rfl, rfl⟩)) rfl⟩, .inl ⟨a.map fun x => decide (x ∈ b), by rw [List.map_map]; rfl, ?_⟩⟩)))))
    rw [List.all_map]
    exact q
  · refine ws_one (w1_ret (cB b_all E.b_all (lcA (α := SetS) [("_law_thing", 2)] [2] (fun x => .t (SetT x)) (fun x => .bl (decide (x ∈ M))) (wi_list (v 0 rfl ⟨sets L, rfl, L, by rw [List.map_map]; rfl, hz, fun x hx => ⟨_, gn 2, w_cmp o_inL (v 2 rfl (v 1 rfl ⟨SetT x, sets M, rfl, rfl, okD_set (oL x hx), okD_sets oM, ?_, rfl⟩)) rfl⟩, .inl ⟨L.map fun x => decide (x ∈ M), by rw [List.map_map]; rfl, ?_⟩⟩)))))
    · rw [any_eqT]
    · rw [List.all_map]
      exact q
abbrev spXl : PSp := fun ts P => ∃ L : List SetS, ts = [.lst (sets L)] ∧ L.Pairwise ltK ∧ (∀ x ∈ L, Srt x) ∧ (∀ x ∈ L, x.length ≤ 1000) ∧ L.length < sizeLine ∧ ∀ R : List SetS, R.Pairwise ltK → (∀ x, x ∈ R ↔ MinIn (· ∈ L) x) → P (.lst (sets R))
theorem d_x_least (E : Env g C) : Def g "_law_x_least" 1 2 (ptT spXl) := by
  refine mkDef E.f__law_x_least sc__law_x_least rfl (fun _ _ _ _ _ _ _ us hl => match us, hl with | [_], _ => rfl) ?_
  rintro us O Q hl ⟨rfl, ts, rfl, R, rfl, hR, hRS, hlen, hz, q⟩
  refine ws_cons (st 1 (w_lst True.intro ⟨Nat.zero_le _, .inr fun a ha => ?_⟩))
  refine ws_cons (fr (wi_list (v 0 rfl ⟨sets R, rfl, fun i ρ1 O3 => ∃ x2 x3 F, ρ1 = [some (.t (.lst (sets R))), some (.cell a), x2, x3] ∧ O3 = sup noS a (.lst ((sets F).map Vl.t)) ∧ F.Pairwise ltK ∧ ∀ x, x ∈ F ↔ MinIn (· ∈ R.take i) x, ⟨none, none, [], rfl, rfl, List.Pairwise.nil, fun x => ⟨fun h => (by cases h), fun h => (by have := h.1; simp at this)⟩⟩, ?_, ?_⟩)))
  · rintro i u ρ1 O3 hu ⟨x2, x3, F, rfl, rfl, hFp, hF⟩
    obtain ⟨t, h1, rfl⟩ := map_get hu
    obtain ⟨one, h2, rfl⟩ := map_get h1
    have ms := min_snoc hR hRS h2 hF
    obtain ⟨hlt, e1⟩ := List.getElem?_eq_some_iff.mp h2
    have fR : ∀ y ∈ F, y ∈ R.take i := fun y hy => ((hF y).mp hy).1
    have fz : F.length ≤ R.length := nd_len' (pwK_nodup hFp) fun y hy => List.mem_of_mem_take (fR y hy)
    refine ⟨_, _, gn 2, ws_one (w1_if (wb_pure (ρ' := [some (.t (.lst (sets R))), some (.t (.lst (sets F))), some (.t (SetT one)), x3]) (.keep (.frz (Frz.flat sup_same) (.keep (.keep .nil)))) (wb_not (wb_val (cB b_any E.b_any (lcA (α := SetS) [("_law_some", 3)] [3] (fun x => .t (SetT x)) (fun e => .bl (subB e one)) (wi_list (v 1 rfl ⟨sets F, rfl, F, by rw [List.map_map]; rfl, by omega, fun e he => ⟨_, gn 3, cP (d_x_in E) (v 3 rfl (v 2 rfl ⟨[SetT e, SetT one], rfl, .inl ⟨e, one, rfl, hlen e (List.mem_of_mem_take (fR e he)), rfl, rfl⟩⟩))⟩, .inl ⟨F.map fun e => subB e one, by rw [List.map_map]; rfl, _, rfl, fun h => ?_, fun h => ?_⟩⟩)))) fun _ _ => rfl))))⟩
    · rw [List.any_map] at h
      have h : F.any (fun e => subB e one) = false := by simpa using h
      refine ws_one (sx (app (v 1 rfl ⟨a, rfl, ⟨_, sup_same⟩, v 2 rfl ⟨_, sup_same, ?_, _, x3, F ++ [one], rfl, ?_, ?_, fun x => ?_⟩⟩)))
      · simp only [List.length_map]; omega
      · rw [sup_sup]; simp
      · rw [List.pairwise_append]
        refine ⟨hFp, List.pairwise_singleton _ _, fun y hy z hz => ?_⟩
        simp at hz
        subst hz
        have h3 : (R.take i ++ [z]).Pairwise ltK := by
          have : R.take (i + 1) = R.take i ++ [z] := by rw [List.take_succ_eq_append_getElem hlt, e1]
          rw [← this]; exact hR.sublist (List.take_sublist _ _)
        exact (List.pairwise_append.mp h3).2.2 y (fR y hy) z (by simp)
      · rw [ms x, List.mem_append]
        simp [h]
    · rw [List.any_map] at h
      have h : F.any (fun e => subB e one) = true := by simpa using h
      refine ws_nil ⟨_, x3, F, rfl, rfl, hFp, fun x => ?_⟩
      rw [ms x, h]
      simp
  · rintro ρ1 O3 ⟨x2, x3, F, rfl, rfl, hFp, hF⟩
    rw [List.length_map, List.length_map, List.take_length] at hF
    exact ws_one (w1_ret (w_retT (v 1 rfl ⟨_, Frz.flat sup_same, q F hFp hF⟩)))
end Far
namespace Far
open PySem PySem.Spec PyProof.Rows L2 TL
variable {g : G} {C : Addr}
theorem split2 {a b : Addr} {x y : Cell} (h : a ≠ b) : Split (sup (sup noS a x) b y) (sup noS a x) (sup noS b y) := by
  refine ⟨fun z c e => ?_, fun z c e => ?_⟩
  · by_cases hz : z = a
    · subst hz
      rw [sup_same] at e
      rw [sup_ne h, sup_same, sup_ne h]
      exact ⟨e, rfl⟩
    · rw [sup_ne hz] at e; cases e
  · by_cases hz : z = b
    · subst hz
      rw [sup_same] at e
      rw [sup_same]; exact e
    · rw [sup_ne hz] at e; cases e
theorem d_x_all (E : Env g C) : Def g "_law_x_all" 1 1 (ptT fun ts P => ∃ N : SetS, ts = [.lst (sT N)] ∧ Srt N ∧ N.length ≤ 12 ∧ (∀ x ∈ N, okS x) ∧ P (.lst (sets (allS N N.length)))) := by
  refine mkDef E.f__law_x_all sc__law_x_all rfl (fun _ _ _ _ _ _ _ us hl => match us, hl with | [_], _ => rfl) ?_
  rintro us O Q hl ⟨rfl, ts, rfl, N, rfl, hN, h12, ok, q⟩
  have big : 4096 + 4096 ≤ sizeLine := by decide
  have b12 : 100 ≤ sizeLine := by decide
  have p12 : 2 ^ N.length ≤ 4096 := Nat.pow_le_pow_right (by decide) h12
  refine ws_cons ?_
  refine par2 1 2 ?_
  refine w_lst ⟨fun _ => rfl, True.intro⟩ (w_tup True.intro ⟨[], rfl, Nat.zero_le _, by show 1 ≤ sizeLine; decide, .inr fun a ha => ?_⟩)
  refine w_lst ⟨fun _ => rfl, True.intro⟩ (w_tup True.intro ⟨[], rfl, Nat.zero_le _, by show 1 ≤ sizeLine; decide, .inl ⟨[.tup []], rfl, ?_⟩⟩)
  refine ws_cons (fr (wr1 E.b_range (cB b_len E.b_len (v 0 rfl ⟨sT N, .inl rfl, (N.length : Nat), by rw [List.length_map], by omega, by omega, fun i ρ1 O3 => ∃ x3 x4 x5 x6, ρ1 = [some (.t (.lst (sT N))), some (.cell a), some (.t (.lst (sets (lv N i)))), x3, x4, x5, x6] ∧ O3 = sup noS a (.lst ((sets (allS N i)).map Vl.t)), ⟨none, none, none, none, rfl, rfl⟩, ?_, ?_⟩))))
  · rintro i u ρ1 O3 hu ⟨x3, x4, x5, x6, rfl, rfl⟩
    obtain ⟨z, hz1, rfl⟩ := map_get hu
    have ll := lv_len hN i
    refine ⟨_, _, gn 3, ws_cons (st 4 (w_lst True.intro ⟨Nat.zero_le _, .inr fun b hb => ?_⟩))⟩
    have hab : a ≠ b := fun e => by subst e; rw [sup_same] at hb; cases hb
    refine ws_cons (fr (wi_list (v 2 rfl ⟨sets (lv N i), rfl, fun j ρ2 O4 => ∃ x5 x6, ρ2 = [some (.t (.lst (sT N))), some (.cell a), some (.t (.lst (sets (lv N i)))), some (.t (.int z)), some (.cell b), x5, x6] ∧ O4 = sup (sup noS a (.lst ((sets (allS N i)).map Vl.t))) b (.lst ((sets (nextL N ((lv N i).take j))).map Vl.t)), ⟨x5, x6, rfl, rfl⟩, ?_, ?_⟩)))
    · rintro j u ρ2 O4 hu ⟨x5, x6, rfl, rfl⟩
      obtain ⟨t, h1, rfl⟩ := map_get hu
      obtain ⟨one, h2, rfl⟩ := map_get h1
      have h1m := List.mem_of_getElem? h2
      have hone := lv_mem.mp h1m
      have ol : one.length ≤ 12 := Nat.le_trans (Sb.len hone.1 hone.2.1) h12
      have et : nextL N ((lv N i).take (j + 1)) = nextL N ((lv N i).take j) ++ (N.filter fun a => goesOn one a).map fun a => one ++ [a] := by
        obtain ⟨hi, ex⟩ := List.getElem?_eq_some_iff.mp h2
        unfold nextL
        rw [List.take_succ_eq_append_getElem hi, ex, List.flatMap_append, List.flatMap_cons, List.flatMap_nil, List.append_nil]
      have sub : (nextL N ((lv N i).take (j + 1))).length ≤ 4096 := by
        have h3 : (nextL N ((lv N i).take (j + 1))).length ≤ (lv N (i + 1)).length := by
          show _ ≤ (nextL N (lv N i)).length
          conv => rhs; rw [← List.take_append_drop (j + 1) (lv N i)]
          unfold nextL
          rw [List.flatMap_append, List.length_append]
          omega
        exact Nat.le_trans h3 (Nat.le_trans (lv_len hN _) p12)
      refine ⟨_, _, gn 5, ws_one (sx (ext (v 4 rfl ⟨b, rfl, ⟨_, sup_same⟩, lcP (α := Str) [("_law_name", 6)] [6] (fun x => .t (.str x)) (fun x => goesOn one x) (fun x => SetT (one ++ [x])) (wi_list (v 0 rfl ⟨sT N, rfl, N, by rw [List.map_map]; rfl, by omega, fun x hx => ⟨_, gn 6, ?_⟩, .inl ⟨_, (N.filter fun x => goesOn one x).map fun x => SetT (one ++ [x]), rfl, sup_same, ?_, ?_⟩⟩))⟩)))⟩
      · refine wb_chain (wp_or (wb_cmp o_eq (v 5 rfl (w_tup True.intro ⟨[], rfl, Nat.zero_le _, SetT one, .tup [], rfl, rfl, okD_set fun s hs => ok s (hone.2.1 s hs), by decide, _, rfl, fun h => ?_, fun h => ?_⟩)) rfl))
        · have h : TL.eqT (SetT one) (SetT []) = true := h
          rw [eqT_set] at h
          have := of_decide_eq_true h
          subst this
          refine ⟨rfl, rfl, fun _ => ?_⟩
          exact w_bin o_catT (v 5 rfl (w_tup ⟨fun _ => rfl, True.intro⟩ (v 6 rfl ⟨[.str x], rfl, by show 1 ≤ sizeLine; decide, sT [], [.str x], rfl, rfl, by rw [List.length_map]; show ([] : SetS).length + 1 ≤ sizeLine; omega, by simp, rfl⟩)))
        · have h : TL.eqT (SetT one) (SetT []) = false := h
          rw [eqT_set] at h
          have hne := of_decide_eq_false h
          have hl : one.getLast? = some (one.getLast hne) := List.getLast?_eq_some_getLast hne
          refine wp_one (wb_cmp o_gtS (v 6 rfl (ix x_seq (v 5 rfl (w_neg (w_int ⟨1, rfl, sT one, -1, .str (one.getLast hne), .inr rfl, rfl, at_last (by rw [List.getLast?_map, hl]; rfl), x, one.getLast hne, rfl, rfl, _, rfl, ?_, rfl, fun hg => ?_⟩))))) rfl)
          · unfold goesOn; rw [hl]; rfl
          · exact w_bin o_catT (v 5 rfl (w_tup ⟨fun _ => rfl, True.intro⟩ (v 6 rfl ⟨[.str x], rfl, by show 1 ≤ sizeLine; decide, sT one, [.str x], rfl, rfl, by rw [List.length_map]; show one.length + 1 ≤ sizeLine; omega, by simp, rfl⟩)))
      · rw [et, List.length_append, List.length_map] at sub
        simp only [List.length_map]
        omega
      · refine ⟨_, x6, rfl, ?_⟩
        rw [sup_sup, et]
        simp [List.map_map, Function.comp_def]
    · rintro ρ2 O4 ⟨x5, x6, rfl, rfl⟩
      rw [List.length_map, List.length_map, List.take_length]
      show WS g _ _ _ _ _ _
      refine ws_frz (ρ' := [some (.t (.lst (sT N))), some (.cell a), some (.t (.lst (sets (lv N i)))), some (.t (.int z)), some (.t (.lst (sets (lv N (i + 1))))), x5, x6]) (split2 hab) (.keep (.keep (.keep (.keep (.frz (Frz.flat sup_same) (.keep (.keep .nil))))))) ?_
      refine ws_cons (sx (ext (v 1 rfl ⟨a, rfl, ⟨_, sup_same⟩, v 4 rfl ⟨_, sets (lv N (i + 1)), rfl, sup_same, ?_, ?_⟩⟩)))
      · have h1 := allS_len hN i
        have h2 := lv_len hN (i + 1)
        simp only [List.length_map]
        omega
      · refine ws_one (st 2 (v 4 rfl ⟨_, _, x5, x6, rfl, ?_⟩))
        rw [sup_sup, allS_succ]
        simp
  · rintro ρ1 O3 ⟨x3, x4, x5, x6, rfl, rfl⟩
    rw [List.length_map, rng_len, Int.toNat_natCast]
    exact ws_one (w1_ret (w_retT (v 1 rfl ⟨_, Frz.flat sup_same, q⟩)))
end Far
namespace Far
open PySem PySem.Spec PyProof.Rows L2 TL
variable {g : G} {C : Addr}
/-! ### the law's own runs -/
/-- a row of the law's table -/
abbrev Trp := NestedKey × Nat × List Str
def trpT (p : Trp) : T := .tup [kT p.1, .int p.2.1, .lst (sT p.2.2)]
def ltab (n : Nat) (rs : List RawS) : List (List Trp) := (List.range n).map fun h => (fromR rs h).map fun r => (r.w, r.other, r.rules)
def ltabT (tb : List (List Trp)) : T := .lst (tb.map fun row => .lst (row.map trpT))
theorem rng_nat (n : Nat) : (rng 0 n).map (fun i => Vl.t (.int i)) = (List.range n).map fun i : Nat => Vl.t (.int (i : Nat)) := by
  unfold rng
  rw [List.map_map]
  refine List.map_congr_left fun i _ => ?_
  show Vl.t (.int (0 + (i : Int))) = _
  rw [Int.zero_add]
theorem d_table (E : Env g C) : Def g "_law_table" 2 1 (ptT fun ts P => ∃ (n : Nat) (rs : List RawS), ts = [.int n, .lst (rs.map rawT)] ∧ n ≤ 1000 ∧ rs.length ≤ 1000 ∧ P (ltabT (ltab n rs))) := by
  refine mkDef E.f__law_table sc__law_table rfl (fun _ _ _ _ _ _ _ us hl => match us, hl with | [_, _], _ => rfl) ?_
  rintro us O Q hl ⟨rfl, ts, rfl, n, rs, rfl, hn, hz, q⟩
  have big : 1000 ≤ sizeLine := by decide
  refine ws_one (w1_ret (lcA (α := Nat) [("_law_here", 2)] [2] (fun i => .t (.int (i : Nat))) (fun h => .lst (((fromR rs h).map fun r => (r.w, r.other, r.rules)).map trpT)) (wr1 E.b_range (v 0 rfl ⟨n, rfl, by omega, by omega, List.range n, by rw [Int.toNat_natCast, rng_nat], by rw [List.length_range]; omega, fun h hh => ⟨_, gn 2, ?_⟩, .inl ?_⟩))))
  · refine lcP (α := RawS) [("_law_one", 3), ("_law_other", 4), ("_law_rules", 5), ("_law_sights", 6), ("_law_word", 7)] [7, 3, 4, 5, 6] (fun r => .t (rawT r)) (fun r => decide (r.one = h)) (fun r => trpT (r.w, r.other, r.rules)) (wi_list (v 1 rfl ⟨rs.map rawT, rfl, rs, by rw [List.map_map]; rfl, by omega, fun r hr => ⟨[some (.t (.int n)), some (.t (.lst (rs.map rawT))), some (.t (.int h)), some (.t (.int r.one)), some (.t (.int r.other)), some (.t (.lst (sT r.rules))), some (.t (.dic (r.sk.map .text) r.sv)), some (.t (kT r.w))], wg5 7 3 4 5 6 (.inr rfl), ?_⟩, .inl ⟨?_, rfl⟩⟩))
    · refine wb_cmp o_eq (v 3 rfl (v 2 rfl ⟨.int r.one, .int h, rfl, rfl, rfl, rfl, _, rfl, ?_, rfl, fun _ => w_tup ⟨fun _ => rfl, fun _ => rfl, fun _ => rfl, True.intro⟩ (v 7 rfl (v 4 rfl (v 5 rfl ⟨[_, _, _], rfl, Nat.le_trans (show 3 ≤ 1000 by decide) big, rfl, rfl⟩)))⟩)) rfl
      rw [eqT_int]
      by_cases e : r.one = h
      · subst e; simp
      · have : ¬ (r.one : Int) = h := by omega
        simp [e, this]
    · unfold fromR
      rw [List.map_map]
      rfl
  · show (fun t => Q (.t t) noS) (.lst _)
    unfold ltabT ltab at q
    rw [List.map_map] at q
    exact q
/-- where the rows lead under X -/
def stepsL (X : List Str) (row : List Trp) : List (NestedKey × Nat) := (row.filter fun p => !p.2.2.any fun r => decide (r ∈ X)).map fun p => (p.1, p.2.1)
def nextT (p : NestedKey × Nat) : T := .tup [kT p.1, .int p.2]
theorem d_next (E : Env g C) : Def g "_law_next" 3 1 (ptT fun ts P => ∃ (tb : List (List Trp)) (X : List Str) (xt : T) (h : Nat) (row : List Trp), ts = [ltabT tb, xt, .int h] ∧ (xt = .lst (sT X) ∨ xt = .tup (sT X)) ∧ tb[h]? = some row ∧ row.length ≤ 1000 ∧ (∀ p ∈ row, p.2.2.length ≤ 1000) ∧ P (.lst ((stepsL X row).map nextT))) := by
  refine mkDef E.f__law_next sc__law_next rfl (fun _ _ _ _ _ _ _ us hl => match us, hl with | [_, _, _], _ => rfl) ?_
  rintro us O Q hl ⟨rfl, ts, rfl, tb, X, xt, h, row, rfl, ex, hrow, hz, hr, q⟩
  have big : 1000 ≤ sizeLine := by decide
  have hat : (tb.map fun row => T.lst (row.map trpT))[h]? = some (.lst (row.map trpT)) := by rw [List.getElem?_map, hrow]; rfl
  refine ws_one (w1_ret (lcP (α := Trp) [("_law_bars", 3), ("_law_other", 4), ("_law_word", 6)] [6, 4, 3] (fun p => .t (trpT p)) (fun p => !p.2.2.any fun r => decide (r ∈ X)) (fun p => nextT (p.1, p.2.1)) (wi_list (ix x_seq (v 0 rfl (v 2 rfl ⟨_, (h : Nat), _, .inl rfl, rfl, at_nat hat, row.map trpT, rfl, row, by rw [List.map_map]; rfl, by omega, fun p hp => ⟨_, wg_tup (.cons (i := 6) rfl ⟨.inl rfl, .inr rfl⟩ (.cons (i := 4) rfl ⟨.inl rfl, .inr rfl⟩ (.cons (i := 3) rfl ⟨.inl rfl, .inr rfl⟩ .nil))) (.cons _ _ _ _ _ _ (.cons _ _ _ _ _ _ (.cons _ _ _ _ _ _ (.nil _)))) (fun _ => ⟨rfl, rfl⟩), ?_⟩, .inl ?_⟩))))))
  · have := hr p hp
    refine wb_not (wb_val (cB b_any E.b_any (lcA (α := Str) [("_law_rule", 5)] [5] (fun x => .t (.str x)) (fun r => .bl (decide (r ∈ X))) (wi_list (v 3 rfl ⟨sT p.2.2, rfl, p.2.2, by rw [List.map_map]; rfl, by omega, fun r hr' => ⟨_, gn 5, w_cmp o_inS (v 5 rfl (v 1 rfl ⟨r, X, rfl, seq_vl ex, rfl, rfl⟩)) rfl⟩, .inl ⟨p.2.2.map fun r => decide (r ∈ X), by rw [List.map_map]; rfl, _, rfl, ?_, rfl, fun _ => w_tup ⟨fun _ => rfl, fun _ => rfl, True.intro⟩ (v 6 rfl (v 4 rfl ⟨[_, _], rfl, by show 2 ≤ sizeLine; omega, rfl, rfl⟩))⟩⟩)))) fun _ _ => rfl)
    rw [List.any_map]
    rfl
  · unfold stepsL at q
    rw [List.map_map] at q
    exact q
end Far
namespace Far
open PySem PySem.Spec PyProof.Rows L2 TL
variable {g : G} {C : Addr}
/-- where the law's table leads under X -/
abbrev runL (tb : List (List Trp)) (X : List Str) : Tb := tb.map (stepsL X)
structure LtOk (tb : List (List Trp)) : Prop where
  pos : 1 ≤ tb.length
  small : tb.length ≤ 1000
  row : ∀ row ∈ tb, row.length ≤ 1000
  rl : ∀ row ∈ tb, ∀ p ∈ row, p.2.2.length ≤ 1000
  other : ∀ row ∈ tb, ∀ p ∈ row, p.2.1 < tb.length
theorem stepsL_lt {tb : List (List Trp)} (ok : LtOk tb) {row : List Trp} (h : row ∈ tb) {X : List Str} {p : NestedKey × Nat} (hp : p ∈ stepsL X row) : p.2 < tb.length := by
  obtain ⟨q, hq, rfl⟩ := List.mem_map.mp hp
  exact ok.other row h q (List.mem_filter.mp hq).1
/-- found so far, and what it leads to -/
structure LvI (tb : List (List Trp)) (X : List Str) (K : List Nat) : Prop where
  nd : K.Nodup
  zero : 0 ∈ K
  run : ∀ s ∈ K, RunTo (runL tb X) s
  lt : ∀ s ∈ K, s < tb.length
/-- s leads into K only -/
def ClosedAt (tb : List (List Trp)) (X : List Str) (K : List Nat) (s : Nat) : Prop := ∀ row p, tb[s]? = some row → p ∈ stepsL X row → p.2 ∈ K
theorem ClosedAt.mono {tb : List (List Trp)} {X : List Str} {K K' : List Nat} {s : Nat} (h : ∀ x ∈ K, x ∈ K') (c : ClosedAt tb X K s) : ClosedAt tb X K' s := fun row p h1 h2 => h _ (c row p h1 h2)
theorem dputV_snoc {ks : List NestedKey} {xs : List Vl} {k : NestedKey} {v : Vl} (hl : ks.length = xs.length) (h : k ∉ ks) : dputV ks xs k v = xs ++ [v] := dputV_new hl h
theorem d_levels (E : Env g C) : Def g "_law_levels" 2 2 (ptT fun ts P => ∃ (tb : List (List Trp)) (X : List Str) (xt : T), ts = [ltabT tb, xt] ∧ (xt = .lst (sT X) ∨ xt = .tup (sT X)) ∧ LtOk tb ∧ ∀ (K : List Nat) (vs : List T), K.Nodup → K.length ≤ 1000 → (∀ s, s ∈ K ↔ RunTo (runL tb X) s) → P (.dic (nK K) vs)) := by
  refine mkDef E.f__law_levels sc__law_levels rfl (fun _ _ _ _ _ _ _ us hl => match us, hl with | [_, _], _ => rfl) ?_
  rintro us O Q hl ⟨rfl, ts, rfl, tb, X, xt, rfl, ex, ok, q⟩
  have big : 2000 ≤ sizeLine := by decide
  refine ws_cons ?_
  refine par3 2 3 4 ?_
  refine w_disp (w_int ⟨.inl 0, rfl, w_int (.inr fun a ha => w_lst ⟨fun _ => rfl, True.intro⟩ (w_int ⟨by show 1 ≤ sizeLine; decide, .inl ⟨[.int 0], rfl, w_int ?_⟩⟩))⟩)
  refine ws_cons (w1_while (fun M ρ1 O1 => ∃ (K now : List Nat) (vs : List T) (m : Int), ∃ x5 x6 x7 x8, M = 2 * (tb.length - K.length) + (if now = [] then 0 else 1) ∧ ρ1 = [some (.t (ltabT tb)), some (.t xt), some (.cell a), some (.t (.lst (iT now))), some (.t (.int m)), x5, x6, x7, x8] ∧ O1 = sup noS a (.dic (nK K) (vs.map Vl.t)) ∧ LvI tb X K ∧ K.length = vs.length ∧ (∀ s ∈ now, s ∈ K) ∧ (∀ s ∈ K, s ∈ now ∨ ClosedAt tb X K s)) ⟨_, [0], [0], [.int 0], 0, none, none, none, none, rfl, rfl, rfl, ⟨by simp, by simp, fun s hs => by simp at hs; subst hs; exact .zero, fun s hs => by simp at hs; subst hs; exact ok.pos⟩, rfl, fun s hs => hs, fun s hs => .inl hs⟩ ?_)
  rintro M ρ1 O1 ⟨K, now, vs, m, x5, x6, x7, x8, rfl, rfl, rfl, I, kl, hnow, hcl⟩
  have kz : K.length ≤ tb.length := nd_lt I.nd I.lt
  have small := ok.small
  have e0 : iT now = (now.map fun i : Nat => (i : Int)).map T.int := by rw [List.map_map]; rfl
  refine wb_cmp o_ne (v 3 rfl (w_lst True.intro ⟨Nat.zero_le _, .inl ⟨[], rfl, .lst (iT now), .lst [], rfl, rfl, by rw [e0]; exact okD_ints _, by decide, _, rfl, fun h => ?_, fun h => ?_⟩⟩)) rfl
  · have hne : now ≠ [] := by
      rw [eqT_nil] at h
      intro e
      subst e
      cases h
    refine ws_cons ?_
    refine par2 4 5 (w_bin o_add (v 4 rfl (w_int ⟨m, 1, rfl, rfl, True.intro, w_lst True.intro ⟨Nat.zero_le _, .inr fun b hb => ?_⟩⟩)))
    have hab : a ≠ b := fun e => by subst e; rw [sup_same] at hb; cases hb
    refine ws_cons (fr (wi_list (v 3 rfl ⟨iT now, rfl, fun i ρ2 O2 => ∃ (K' later : List Nat) (vs' : List T), ∃ x6 x7 x8, ρ2 = [some (.t (ltabT tb)), some (.t xt), some (.cell a), some (.t (.lst (iT now))), some (.t (.int (m + 1))), some (.cell b), x6, x7, x8] ∧ O2 = sup (sup noS a (.dic (nK K') (vs'.map Vl.t))) b (.lst ((iT later).map Vl.t)) ∧ LvI tb X K' ∧ K'.length = vs'.length ∧ (∀ s ∈ K, s ∈ K') ∧ (∀ s ∈ later, s ∈ K') ∧ K'.length = K.length + later.length ∧ (∀ s ∈ K', s ∈ now.drop i ∨ s ∈ later ∨ ClosedAt tb X K' s), ⟨K, [], vs, x6, x7, x8, rfl, rfl, I, kl, fun _ h => h, fun _ h => (by cases h), rfl, fun s hs => (hcl s hs).imp (fun h => by simpa using h) .inr⟩, ?_, ?_⟩)))
    · rintro i u ρ2 O2 hu ⟨K', later, vs', x6, x7, x8, rfl, rfl, I', kl', hK, hlt, hlen, hc⟩
      obtain ⟨t, h1, rfl⟩ := map_get hu
      obtain ⟨s, h2, rfl⟩ := map_get h1
      have hs : s ∈ K' := hK s (hnow s (List.mem_of_getElem? h2))
      have hst := I'.lt s hs
      obtain ⟨row, hrow⟩ : ∃ row, tb[s]? = some row := ⟨_, List.getElem?_eq_getElem hst⟩
      have hrm := List.mem_of_getElem? hrow
      have hdrop : now.drop i = s :: now.drop (i + 1) := by
        obtain ⟨hi, e⟩ := List.getElem?_eq_some_iff.mp h2
        rw [List.drop_eq_getElem_cons hi, e]
      refine ⟨_, _, gn 6, ws_one (fr (wi_list (cP (d_next E) (v 0 rfl (v 1 rfl (v 6 rfl ⟨[ltabT tb, xt, .int s], rfl, tb, X, xt, s, row, rfl, ex, hrow, ok.row row hrm, ok.rl row hrm, (stepsL X row).map nextT, rfl, fun j ρ3 O3 => ∃ (K2 later2 : List Nat) (vs2 : List T), ∃ x7 x8, ρ3 = [some (.t (ltabT tb)), some (.t xt), some (.cell a), some (.t (.lst (iT now))), some (.t (.int (m + 1))), some (.cell b), some (.t (.int (s : Nat))), x7, x8] ∧ O3 = sup (sup noS a (.dic (nK K2) (vs2.map Vl.t))) b (.lst ((iT later2).map Vl.t)) ∧ LvI tb X K2 ∧ K2.length = vs2.length ∧ (∀ s ∈ K', s ∈ K2) ∧ (∀ s ∈ later, s ∈ later2) ∧ (∀ s ∈ later2, s ∈ K2) ∧ K2.length = K.length + later2.length ∧ (∀ s ∈ K2, s ∈ K' ∨ s ∈ later2) ∧ (∀ p ∈ (stepsL X row).take j, p.2 ∈ K2), ⟨K', later, vs', x7, x8, rfl, rfl, I', kl', fun _ h => h, fun _ h => h, hlt, hlen, fun _ h => .inl h, fun p hp => by simp at hp⟩, ?_, ?_⟩))))))⟩
      · rintro j u ρ3 O3 hu ⟨K2, later2, vs2, x7, x8, rfl, rfl, I2, kl2, hK2, hl2, hlk, hlen2, hin, hdone⟩
        obtain ⟨t, h3, rfl⟩ := map_get hu
        obtain ⟨p, h4, rfl⟩ := map_get h3
        have hp := List.mem_of_getElem? h4
        have po := stepsL_lt ok hrm hp
        have k2z : K2.length ≤ tb.length := nd_lt I2.nd I2.lt
        have take_in : ∀ y ∈ (stepsL X row).take (j + 1), y ∈ (stepsL X row).take j ∨ y = p := fun y hy => by
          obtain ⟨hi, ep⟩ := List.getElem?_eq_some_iff.mp h4
          rw [List.take_succ_eq_append_getElem hi, ep] at hy
          simpa using hy
        have oa : sup (sup noS a (.dic (nK K2) (vs2.map Vl.t))) b (.lst ((iT later2).map Vl.t)) a = some (.dic (nK K2) (vs2.map Vl.t)) := by rw [sup_ne hab, sup_same]
        have kl2' : (nK K2).length = (vs2.map Vl.t).length := by simp [kl2]
        refine ⟨_, [some (.t (ltabT tb)), some (.t xt), some (.cell a), some (.t (.lst (iT now))), some (.t (.int (m + 1))), some (.cell b), some (.t (.int (s : Nat))), some (.t (kT p.1)), some (.t (.int (p.2 : Nat)))], wg2 7 8, ws_one (w1_if (wb_cmp o_ninD (v 8 rfl (v 2 rfl ⟨.num (p.2 : Nat), nK K2, _, rfl, .inr ⟨a, rfl, oa⟩, Nat.zero_le _, _, rfl, fun hn => ?_, fun hn => ?_⟩)) rfl))⟩
        · have hn : p.2 ∉ K2 := fun hm => by rw [decide_eq_true (num_mem.mpr hm)] at hn; cases hn
          have hnn : NestedKey.num (p.2 : Int) ∉ nK K2 := fun hm => hn (num_mem.mp hm)
          refine ws_cons (pt s_dic (v 4 rfl (v 2 rfl (v 8 rfl ⟨a, .num (p.2 : Nat), _, _, rfl, oa, rfl, Nat.zero_le _, ?_, ?_⟩))))
          · rw [List.length_map]; omega
          show WS g _ _ _ _ _ _
          rw [dputK_new hnn, dputV_snoc kl2' hnn, sup_comm3 hab]
          refine ws_one (sx (app (v 5 rfl ⟨b, rfl, ⟨_, sup_same⟩, v 8 rfl ⟨_, sup_same, ?_, K2 ++ [p.2], later2 ++ [p.2], vs2 ++ [.int (m + 1)], _, _, rfl, ?_, ⟨?_, List.mem_append_left _ I2.zero, fun y hy => ?_, fun y hy => ?_⟩, by simp [kl2], fun y hy => List.mem_append_left _ (hK2 y hy), fun y hy => List.mem_append_left _ (hl2 y hy), fun y hy => ?_, by simp; omega, fun y hy => ?_, fun y hy => ?_⟩⟩)))
          · simp only [List.length_map]; omega
          · rw [sup_sup]; simp
          · rw [List.nodup_append]
            refine ⟨I2.nd, by simp, fun x hx y hy e => ?_⟩
            simp at hy
            subst hy e
            exact hn hx
          · rcases List.mem_append.mp hy with hy | hy
            · exact I2.run y hy
            · simp at hy
              subst hy
              exact .step (I'.run s hs) (by rw [List.getElem?_map, hrow]; rfl) (w := p.1) hp
          · rcases List.mem_append.mp hy with hy | hy
            · exact I2.lt y hy
            · simp at hy; subst hy; exact po
          · rcases List.mem_append.mp hy with hy | hy
            · exact List.mem_append_left _ (hlk y hy)
            · exact List.mem_append_right _ hy
          · rcases List.mem_append.mp hy with hy | hy
            · exact (hin y hy).imp id (List.mem_append_left _)
            · exact .inr (List.mem_append_right _ hy)
          · rcases take_in y hy with hy | rfl
            · exact List.mem_append_left _ (hdone y hy)
            · exact List.mem_append_right _ (by simp)
        · have hn : p.2 ∈ K2 := by
            by_cases hm : p.2 ∈ K2
            · exact hm
            · rw [decide_eq_false fun z => hm (num_mem.mp z)] at hn; cases hn
          refine ws_nil ⟨K2, later2, vs2, _, _, rfl, rfl, I2, kl2, hK2, hl2, hlk, hlen2, hin, fun y hy => ?_⟩
          rcases take_in y hy with hy | rfl
          · exact hdone y hy
          · exact hn
      · rintro ρ3 O3 ⟨K2, later2, vs2, x7, x8, rfl, rfl, I2, kl2, hK2, hl2, hlk, hlen2, hin, hdone⟩
        rw [List.length_map, List.length_map, List.take_length] at hdone
        refine ⟨K2, later2, vs2, _, _, _, rfl, rfl, I2, kl2, fun y hy => hK2 y (hK y hy), hlk, hlen2, fun y hy => ?_⟩
        rcases hin y hy with h | h
        · rcases hc y h with h' | h' | h'
          · rw [hdrop] at h'
            rcases List.mem_cons.mp h' with rfl | h'
            · refine .inr (.inr fun row' p hr hp => ?_)
              rw [hrow] at hr
              cases hr
              exact hdone p hp
            · exact .inl h'
          · exact .inr (.inl (hl2 y h'))
          · exact .inr (.inr (h'.mono hK2))
        · exact .inr (.inl h)
    · rintro ρ2 O2 ⟨K', later, vs', x6, x7, x8, rfl, rfl, I', kl', hK, hlt, hlen, hc⟩
      rw [List.length_map, List.length_map, List.drop_length] at hc
      refine ws_frz (ρ' := [some (.t (ltabT tb)), some (.t xt), some (.cell a), some (.t (.lst (iT now))), some (.t (.int (m + 1))), some (.t (.lst (iT later))), x6, x7, x8]) (split2 hab) (.keep (.keep (.keep (.keep (.keep (.frz (Frz.flat sup_same) (.keep (.keep (.keep .nil))))))))) ?_
      have kz' : K'.length ≤ tb.length := nd_lt I'.nd I'.lt
      refine ws_one (st 3 (v 5 rfl ⟨_, ?_, K', later, vs', m + 1, _, x6, x7, x8, rfl, rfl, rfl, I', kl', hlt, fun s hs => ?_⟩))
      · rw [if_neg hne]
        by_cases e : later = []
        · subst e
          rw [if_pos rfl]
          simp at hlen
          omega
        · rw [if_neg e]
          have : 0 < later.length := List.length_pos_iff.mpr e
          omega
      · rcases hc s hs with h | h | h
        · cases h
        · exact .inl h
        · exact .inr h
  · have hne : now = [] := by
      rw [eqT_nil] at h
      cases now with
      | nil => rfl
      | cons x l => cases h
    subst hne
    refine ws_one (w1_ret (w_retT (v 2 rfl ⟨_, Frz.flatD sup_same, q K vs I.nd (by omega) fun s => ⟨I.run s, fun hr => ?_⟩⟩)))
    induction hr with
    | zero => exact I.zero
    | @step h' w o row _ h2 h3 ih =>
      rw [List.getElem?_map] at h2
      cases hrow : tb[h']? with
      | none => rw [hrow] at h2; cases h2
      | some r =>
        rw [hrow] at h2
        cases h2
        rcases hcl h' ih with hh | hh
        · cases hh
        · exact hh r (w, o) hrow h3
end Far
namespace Far
open PySem PySem.Spec PyProof.Rows L2 TL
variable {g : G} {C : Addr}
/-! ### what is drawn -/
inductive AtW : NestedKey → Prop
  | num (i : Int) : AtW (.num i)
  | text (x : Str) (h : okS x) : AtW (.text x)
inductive GoodW : NestedKey → Prop
  | at_ {k : NestedKey} (h : AtW k) : GoodW k
  | tup {ks : List NestedKey} (h : ∀ k ∈ ks, AtW k) (hl : ks.length ≤ 100) : GoodW (.tup ks)
structure UOk (U : List Str) : Prop where
  nd : U.Nodup
  len : U.length ≤ 12
  nm : ∀ x ∈ U, nmOk x = true
  ok : ∀ x ∈ U, okS x
structure Drawn (U : List Str) (n : Nat) (rs : List RawS) (bs : List Nat) : Prop where
  pos : 1 ≤ n
  small : n ≤ 40
  len : rs.length ≤ 60
  raw : ∀ r ∈ rs, RawOk n r
  w : ∀ r ∈ rs, GoodW r.w
  u : ∀ r ∈ rs, ∀ x ∈ r.rules, x ∈ U
  nd : (rs.map fun r => (r.one, r.w)).Nodup
  bad : ∀ b ∈ bs, b < n
  blen : bs.length ≤ 40
theorem AtW.dep {k : NestedKey} (h : AtW k) : k.depth = 0 := by cases h <;> rfl
theorem AtW.okW {k : NestedKey} (h : AtW k) : isD (kT k) = true ∧ clT (kT k) ∧ (toD (kT k)).depth ≤ 7 := by
  cases h with
  | num i => exact ⟨rfl, rfl, Nat.zero_le _⟩
  | text x h => exact ⟨rfl, h, Nat.zero_le _⟩
theorem depthAll_0 : ∀ {ks : List NestedKey}, (∀ k ∈ ks, AtW k) → NestedKey.depthAll ks = 0
  | [], _ => rfl
  | k :: ks, h => by
    rw [NestedKey.depthAll, (h k List.mem_cons_self).dep, depthAll_0 fun x hx => h x (List.mem_cons_of_mem _ hx)]
    rfl
theorem GoodW.dep {k : NestedKey} (h : GoodW k) : k.depth ≤ 8 := by
  cases h with
  | at_ h => rw [h.dep]; exact Nat.zero_le _
  | tup h => rw [NestedKey.depth, depthAll_0 h]; decide
theorem kT_tup (ks : List NestedKey) : kT (.tup ks) = .tup (ks.map kT) := by rw [kT, kTs_map]
theorem GoodW.okW {k : NestedKey} (h : GoodW k) : okW k := by
  cases h with
  | at_ h => have := h.okW; exact ⟨this.1, this.2.1, by omega⟩
  | tup h =>
    refine ⟨?_, ?_, ?_⟩
    · rw [kT_tup]
      exact isDs_iff.mpr fun t ht => by
        obtain ⟨k, hk, rfl⟩ := List.mem_map.mp ht
        exact (h k hk).okW.1
    · rw [kT_tup]
      exact cl_tup fun t ht => by
        obtain ⟨k, hk, rfl⟩ := List.mem_map.mp ht
        exact (h k hk).okW.2.1
    · rw [kT_tup]
      rename_i ks _
      show (PyData.tuple (toDs (ks.map kT))).depth ≤ 8
      have := depthAll_le (n := 7) (ts := ks.map kT) fun t ht => by
        obtain ⟨k, hk, rfl⟩ := List.mem_map.mp ht
        exact (h k hk).okW.2.2
      simp only [PyData.depth]
      omega
theorem nodup_of_pairs {rs : List RawS} (h : (rs.map fun r => (r.one, r.w)).Nodup) (i : Nat) : ((fromR rs i).map (·.w)).Nodup := by
  have h1 : ((fromR rs i).map fun r => (r.one, r.w)).Nodup := (List.Sublist.map _ List.filter_sublist).nodup h
  have e : ((fromR rs i).map fun r => (r.one, r.w)) = ((fromR rs i).map (·.w)).map fun w => (i, w) := by
    rw [List.map_map]
    refine List.map_congr_left fun r hr => ?_
    have := of_decide_eq_true (List.mem_filter.mp hr).2
    show (r.one, r.w) = (i, r.w)
    rw [this]
  rw [e] at h1
  exact nodup_of_map h1
section
variable {U : List Str} {n : Nat} {rs : List RawS} {bs : List Nat} {rows : List (List St)} {bad : List Nat} {N : SetS}
theorem Drawn.given (D : Drawn U n rs bs) : Given n rs bs :=
  ⟨D.pos, Nat.le_trans D.small (by decide), D.raw, nodup_of_pairs D.nd, Nat.le_trans D.len (by decide), D.bad, Nat.le_trans D.blen (by decide)⟩
theorem fromR_mem {i : Nat} {r : RawS} : r ∈ fromR rs i ↔ r ∈ rs ∧ r.one = i := by
  unfold fromR
  rw [List.mem_filter, decide_eq_true_eq]
theorem fromR_len (rs : List RawS) (i : Nat) : (fromR rs i).length ≤ rs.length := List.length_filter_le _ _
/-- each step stands for one that was drawn -/
theorem Made.back (M : Made n rs bs rows bad) {h : Nat} {row : List St} {s : St} (hr : rows[h]? = some row) (hs : s ∈ row) : ∃ r ∈ rs, r.one = h ∧ s.w = r.w ∧ s.other = r.other ∧ s.rules = sortS r.rules := by
  have e := M.row h row hr
  have : core s ∈ (fromR rs h).map coreR := by rw [← e]; exact List.mem_map.mpr ⟨s, hs, rfl⟩
  obtain ⟨r, h1, h2⟩ := List.mem_map.mp this
  obtain ⟨h3, h4⟩ := fromR_mem.mp h1
  unfold core coreR at h2
  injection h2 with a1 a2
  injection a2 with a2 a3
  injection a3 with a3 a4
  exact ⟨r, h3, h4, a1.symm, a3.symm, a4.symm⟩
theorem Made.forth (M : Made n rs bs rows bad) {r : RawS} (hr : r ∈ rs) (hn : r.one < n) : ∃ row s, rows[r.one]? = some row ∧ s ∈ row ∧ s.w = r.w ∧ s.other = r.other ∧ s.rules = sortS r.rules := by
  have hl : r.one < rows.length := by rw [M.len]; exact hn
  have e := M.row r.one rows[r.one] (List.getElem?_eq_getElem hl)
  have : coreR r ∈ rows[r.one].map core := by rw [e]; exact List.mem_map.mpr ⟨r, fromR_mem.mpr ⟨hr, rfl⟩, rfl⟩
  obtain ⟨s, h1, h2⟩ := List.mem_map.mp this
  unfold core coreR at h2
  injection h2 with a1 a2
  injection a2 with a2 a3
  injection a3 with a3 a4
  exact ⟨_, s, List.getElem?_eq_getElem hl, h1, a1, a3, a4⟩
theorem at_row {row : List St} (h : row ∈ rows) : ∃ i : Nat, i < rows.length ∧ rows[i]? = some row := by
  obtain ⟨i, hi⟩ := List.mem_iff_getElem?.mp h
  exact ⟨i, (List.getElem?_eq_some_iff.mp hi).1, hi⟩
theorem Made.back' (M : Made n rs bs rows bad) {row : List St} {s : St} (hr : row ∈ rows) (hs : s ∈ row) : ∃ r ∈ rs, s.w = r.w ∧ s.other = r.other ∧ s.rules = sortS r.rules := by
  obtain ⟨i, _, hi⟩ := at_row hr
  obtain ⟨r, h1, _, h2⟩ := M.back hi hs
  exact ⟨r, h1, h2⟩
theorem Made.rowlen (M : Made n rs bs rows bad) {row : List St} (hr : row ∈ rows) : row.length ≤ rs.length := by
  obtain ⟨i, _, hi⟩ := at_row hr
  have := congrArg List.length (M.row i row hi)
  rw [List.length_map, List.length_map] at this
  rw [this]
  exact fromR_len rs i
theorem flat_le {α : Type} {B : Nat} : ∀ {L : List (List α)}, (∀ l ∈ L, l.length ≤ B) → L.flatten.length ≤ L.length * B
  | [], _ => by simp
  | l :: L, h => by
    have h1 := h l List.mem_cons_self
    have h2 := flat_le fun x hx => h x (List.mem_cons_of_mem _ hx)
    rw [List.flatten_cons, List.length_append, List.length_cons, Nat.succ_mul]
    omega
theorem sortS_len (xs : List Str) : (sortS xs).length = xs.length := (sortS_perm xs).length_eq
theorem Made.plok (M : Made n rs bs rows bad) (D : Drawn U n rs bs) : PlOk rows bad := by
  have hl := M.len
  have hn := D.small
  refine ⟨⟨by omega, fun row hr s hs => ?_, fun row hr => ?_, fun row hr s hs => ?_, fun row hr s hs => ?_, ?_⟩, by have := D.pos; omega, fun row hr s hs => ?_⟩
  · obtain ⟨r, h1, _, h2, _⟩ := M.back' hr hs
    rw [h2, hl]; exact (D.raw r h1).other
  · obtain ⟨i, _, hi⟩ := at_row hr
    rw [map_core_w (M.row i row hi)]
    exact nodup_of_pairs D.nd i
  · obtain ⟨r, h1, h2, _⟩ := M.back' hr hs
    rw [h2]; exact (D.raw r h1).dep
  · obtain ⟨r, h1, _, _, h2⟩ := M.back' hr hs
    rw [h2, sortS_len]; exact (D.raw r h1).len
  · have h1 := flat_le (B := 60) (L := rows) fun row hr => Nat.le_trans (M.rowlen hr) D.len
    have : rows.length * 60 ≤ 40 * 60 := Nat.mul_le_mul_right _ (by omega)
    omega
  · obtain ⟨r, h1, h2, _⟩ := M.back' hr hs
    rw [h2]; exact (D.w r h1).okW
theorem Made.barok (M : Made n rs bs rows bad) (D : Drawn U n rs bs) (hU : UOk U) (hN : Srt N) (hm : ∀ x, x ∈ N ↔ ∃ r ∈ rs, x ∈ r.rules) : BarOk rows bad N := by
  have hl := M.len
  have hn := D.small
  refine ⟨M.plok D, by omega, fun row hr => Nat.le_trans (M.rowlen hr) D.len, hN, ?_, fun x => ?_, fun row hr s hs => ?_⟩
  · refine Nat.le_trans (nd_len hN.nodup fun x hx => ?_) hU.len
    obtain ⟨r, h1, h2⟩ := (hm x).mp hx
    exact D.u r h1 x h2
  · rw [hm x]
    constructor
    · rintro ⟨r, h1, h2⟩
      obtain ⟨row, s, h3, h4, _, _, h5⟩ := M.forth h1 (D.raw r h1).one
      exact ⟨s, List.mem_flatten.mpr ⟨row, List.mem_of_getElem? h3, h4⟩, by rw [h5, sortS_mem]; exact h2⟩
    · rintro ⟨s, h1, h2⟩
      obtain ⟨row, h3, h4⟩ := List.mem_flatten.mp h1
      obtain ⟨r, h5, _, _, h6⟩ := M.back' h3 h4
      exact ⟨r, h5, by rw [h6, sortS_mem] at h2; exact h2⟩
  · obtain ⟨r, h1, _, _, h2⟩ := M.back' hr hs
    rw [h2]; exact sortS_srt (D.raw r h1).nd
theorem Made.badok (M : Made n rs bs rows bad) (D : Drawn U n rs bs) : BadOk rows bad :=
  ⟨fun b hb => by rw [M.len]; exact D.bad b ((M.bad b).mp hb), Nat.le_trans M.blen D.blen⟩
/-! ### both ways to run are one -/
theorem steps_core (X : List Str) : ∀ {l : List St} {m : List RawS}, l.map core = m.map coreR → ((l.filter (free X)).map fun s => (s.w, s.other)) = stepsL X (m.map fun r => (r.w, r.other, r.rules))
  | [], [], _ => rfl
  | [], _ :: _, h => by simp at h
  | _ :: _, [], h => by simp at h
  | s :: l, r :: m, h => by
    rw [List.map_cons, List.map_cons] at h
    injection h with h1 h2
    have ih := steps_core X h2
    unfold core coreR at h1
    injection h1 with a1 a2
    injection a2 with a2 a3
    injection a3 with a3 a4
    have fe : free X s = !r.rules.any fun x => decide (x ∈ X) := by
      unfold free
      rw [a4]
      congr 1
      rw [Bool.eq_iff_iff, List.any_eq_true, List.any_eq_true]
      exact ⟨fun ⟨x, hx, q⟩ => ⟨x, sortS_mem.mp hx, q⟩, fun ⟨x, hx, q⟩ => ⟨x, sortS_mem.mpr hx, q⟩⟩
    unfold stepsL at ih ⊢
    rw [List.map_cons, List.filter_cons, List.filter_cons]
    dsimp only
    rw [fe]
    cases (!r.rules.any fun x => decide (x ∈ X)) with
    | false => exact ih
    | true =>
      show (s.w, s.other) :: _ = (r.w, r.other) :: _
      rw [a1, a3, ih]
theorem under_eq (M : Made n rs bs rows bad) (X : List Str) : under rows X = runL (ltab n rs) X := by
  refine List.ext_getElem? fun h => ?_
  unfold under runL ltab
  rw [List.getElem?_map, List.getElem?_map, List.getElem?_map]
  by_cases hh : h < n
  · rw [List.getElem?_range hh]
    have hl : h < rows.length := by rw [M.len]; exact hh
    rw [List.getElem?_eq_getElem hl]
    have := M.row h _ (List.getElem?_eq_getElem hl)
    exact congrArg some (steps_core X this)
  · have h1 : rows[h]? = none := List.getElem?_eq_none (by rw [M.len]; omega)
    have h2 : (List.range n)[h]? = none := List.getElem?_eq_none (by rw [List.length_range]; omega)
    rw [h1, h2]
    rfl
theorem run_reach (B : BarOk rows bad N) {X : List Str} {s : Nat} : RunTo (under rows X) s ↔ Reach rows (without N X) s := by
  have fr : ∀ {row : List St}, row ∈ rows → ∀ t ∈ row, (free X t = true ↔ Sb t.rules (without N X)) := fun {row} hr t ht => by
    unfold free
    rw [Bool.not_eq_true', List.any_eq_false]
    constructor
    · intro h x hx
      exact without_mem.mpr ⟨B.sub hr ht x hx, fun q => h x hx (decide_eq_true q)⟩
    · intro h x hx q
      exact (without_mem.mp (h x hx)).2 (of_decide_eq_true q)
  constructor
  · intro h
    induction h with
    | zero => exact .zero
    | @step h w o row _ h2 h3 ih =>
      unfold under at h2
      rw [List.getElem?_map] at h2
      cases hrow : rows[h]? with
      | none => rw [hrow] at h2; cases h2
      | some row' =>
        rw [hrow] at h2
        cases h2
        obtain ⟨t, ht, e⟩ := List.mem_map.mp h3
        obtain ⟨h4, h5⟩ := List.mem_filter.mp ht
        cases e
        exact .step ih hrow h4 ((fr (List.mem_of_getElem? hrow) t h4).mp h5)
  · intro h
    induction h with
    | zero => exact .zero
    | @step h row t _ h2 h3 h4 ih =>
      refine .step (w := t.w) ih (by unfold under; rw [List.getElem?_map, h2]; rfl) (List.mem_map.mpr ⟨t, List.mem_filter.mpr ⟨h3, (fr (List.mem_of_getElem? h2) t h3).mpr h4⟩, rfl⟩)
theorem br_iff {Th : List SetS} (I : IsThr rows bad N Th) {x : SetS} (hx : Srt x) : Br rows bad x ↔ ∃ t ∈ Th, Sb t x := by
  constructor
  · intro h
    obtain ⟨y, h1, h2⟩ := exists_min (P := Br rows bad) (fun x h => h.1) h
    exact ⟨y, (I.mem y).mpr h1, h2⟩
  · rintro ⟨t, ht, hs⟩
    obtain ⟨_, s, h1, h2⟩ := ((I.mem t).mp ht).1
    exact ⟨hx, s, h1, h2.mono hs⟩
/-- rules keep a play if they have one of each threat -/
theorem keeps_iff (B : BarOk rows bad N) {Th : List SetS} (I : IsThr rows bad N Th) (X : List Str) : ¬ Breaks rows bad X ↔ Hit Th X := by
  have h1 : Breaks rows bad X ↔ ∃ t ∈ Th, Sb t (without N X) := by
    rw [← br_iff I (without_srt B.ns)]
    constructor
    · rintro ⟨s, hb, hr⟩
      exact ⟨without_srt B.ns, s, hb, (run_reach B).mp hr⟩
    · rintro ⟨_, s, hb, hr⟩
      exact ⟨s, hb, (run_reach B).mpr hr⟩
  rw [h1]
  constructor
  · intro h t ht
    by_cases q : ∃ a ∈ t, a ∈ X
    · exact q
    · exact absurd ⟨t, ht, fun a ha => without_mem.mpr ⟨I.sub t ht a ha, fun hx => q ⟨a, ha, hx⟩⟩⟩ h
  · rintro h ⟨t, ht, hs⟩
    obtain ⟨a, h2, h3⟩ := h t ht
    exact (without_mem.mp (hs a h2)).2 h3
theorem Drawn.ltok (D : Drawn U n rs bs) : LtOk (ltab n rs) := by
  have hl : (ltab n rs).length = n := by simp [ltab]
  have hn := D.small
  have mem : ∀ row ∈ ltab n rs, ∃ h, row = (fromR rs h).map fun r => (r.w, r.other, r.rules) := fun row hr => by
    obtain ⟨h, _, e⟩ := List.mem_map.mp hr
    exact ⟨h, e.symm⟩
  refine ⟨by rw [hl]; exact D.pos, by omega, fun row hr => ?_, fun row hr p hp => ?_, fun row hr p hp => ?_⟩
  · obtain ⟨h, rfl⟩ := mem row hr
    rw [List.length_map]
    exact Nat.le_trans (fromR_len rs h) (Nat.le_trans D.len (by decide))
  · obtain ⟨h, rfl⟩ := mem row hr
    obtain ⟨r, h1, rfl⟩ := List.mem_map.mp hp
    exact Nat.le_trans (D.raw r (fromR_mem.mp h1).1).len (by decide)
  · obtain ⟨h, rfl⟩ := mem row hr
    obtain ⟨r, h1, rfl⟩ := List.mem_map.mp hp
    rw [hl]
    exact (D.raw r (fromR_mem.mp h1).1).other
end
/-! ### the law's own keeping -/
abbrev LBreaks (n : Nat) (rs : List RawS) (bs : List Nat) (X : List Str) : Prop := ∃ s ∈ bs, RunTo (runL (ltab n rs) X) s
theorem d_x_keeps (E : Env g C) : Def g "_law_x_keeps" 2 3 (ptT fun ts P => ∃ U n rs bs X xt, ts = [drawnT n rs bs, xt] ∧ Drawn U n rs bs ∧ (xt = .lst (sT X) ∨ xt = .tup (sT X)) ∧ ∀ b : Bool, (b = true ↔ ¬ LBreaks n rs bs X) → P (.bl b)) := by
  refine mkDef E.f__law_x_keeps sc__law_x_keeps rfl (fun _ _ _ _ _ _ _ us hl => match us, hl with | [_, _], _ => rfl) ?_
  rintro us O Q hl ⟨rfl, ts, rfl, U, n, rs, bs, X, xt, rfl, D, ex, q⟩
  have hn := D.small
  have hz := D.len
  have big : 1000 ≤ sizeLine := by decide
  refine ws_cons (st 2 (cP (d_levels E) (cP (d_table E) (ix x_seq (v 0 rfl (w_int ⟨_, 0, .int n, .inr rfl, rfl, at_nat (j := 0) rfl, ix x_seq (v 0 rfl (w_int ⟨_, 1, .lst (rs.map rawT), .inr rfl, rfl, at_nat (j := 1) rfl, [.int n, .lst (rs.map rawT)], rfl, n, rs, rfl, by omega, by omega, v 1 rfl ⟨[ltabT (ltab n rs), xt], rfl, ltab n rs, X, xt, rfl, ex, D.ltok, fun K vs nd kl hK => ?_⟩⟩))⟩))))))
  refine ws_one (w1_ret (w_not (cB b_any E.b_any (lcA (α := Nat) [("_law_stand", 3)] [3] (fun s => .t (.int (s : Nat))) (fun s => .bl (decide (s ∈ bs))) (wi_dic (v 2 rfl ⟨nK K, vs, rfl, K, by rw [List.map_map]; rfl, by omega, fun s hs => ⟨_, gn 3, w_cmp o_inI (v 3 rfl (ix x_seq (v 0 rfl (w_int ⟨_, 2, .lst (iT bs), .inr rfl, rfl, at_nat (j := 2) rfl, (s : Nat), bs.map fun i : Nat => (i : Int), rfl, by rw [List.map_map]; rfl, ?_, rfl⟩)))) rfl⟩, .inl ⟨K.map fun s => decide (s ∈ bs), by rw [List.map_map]; rfl, _, rfl, q _ ?_⟩⟩))))))
  · by_cases h : s ∈ bs
    · rw [decide_eq_true h, decide_eq_true (List.mem_map.mpr ⟨s, h, rfl⟩)]
    · rw [decide_eq_false h, decide_eq_false fun hm => h (cast_mem hm)]
  · rw [List.any_map, Bool.not_eq_true', List.any_eq_false]
    constructor
    · rintro h ⟨s, hb, hr⟩
      exact h s ((hK s).mpr hr) (decide_eq_true hb)
    · intro h s hs hb
      exact h ⟨s, of_decide_eq_true hb, (hK s).mp hs⟩
theorem d_x_keeping (E : Env g C) : Def g "_law_x_keeping" 1 4 (ptT fun ts P => ∃ U n rs bs N, ts = [drawnT n rs bs] ∧ Drawn U n rs bs ∧ UOk U ∧ Srt N ∧ (∀ x, x ∈ N ↔ ∃ r ∈ rs, x ∈ r.rules) ∧ ∀ kp : SetS → Bool, (∀ X, kp X = true ↔ ¬ LBreaks n rs bs X) → P (.lst (sets ((allS N N.length).filter kp)))) := by
  refine mkDef E.f__law_x_keeping sc__law_x_keeping rfl (fun _ _ _ _ _ _ _ us hl => match us, hl with | [_], _ => rfl) ?_
  rintro us O Q hl ⟨rfl, ts, rfl, U, n, rs, bs, N, rfl, D, hU, hN, hm, q⟩
  have hsub : ∀ x ∈ N, x ∈ U := fun x hx => by
    obtain ⟨r, h1, h2⟩ := (hm x).mp hx
    exact D.u r h1 x h2
  have h12 : N.length ≤ 12 := Nat.le_trans (nd_len hN.nodup hsub) hU.len
  have hz := D.len
  have hal : (allS N N.length).length ≤ sizeLine := Nat.le_trans (Nat.le_trans (allS_len hN _) (Nat.pow_le_pow_right (by decide) h12)) (by decide)
  classical
  let kp : SetS → Bool := fun X => decide (¬ LBreaks n rs bs X)
  have hkp : ∀ X, kp X = true ↔ ¬ LBreaks n rs bs X := fun X => decide_eq_true_iff
  refine ws_one (w1_ret (lcP (α := SetS) [("_law_one", 1)] [1] (fun x => .t (SetT x)) kp SetT (wi_list (cP (d_x_all E) (cP (d_x_names E) (v 0 rfl ⟨[drawnT n rs bs], rfl, n, rs, bs, rfl, by omega, fun r hr => ⟨(D.raw r hr).nd, (D.raw r hr).len⟩, fun N' hN' hm' => ?_⟩))))))
  have eN : N' = N := srt_ext hN' hN fun x => by rw [hm' x, hm x]
  subst eN
  refine ⟨[.lst (sT N')], rfl, N', rfl, hN, h12, fun x hx => hU.ok x (hsub x hx), sets (allS N' N'.length), rfl, allS N' N'.length, by rw [List.map_map]; rfl, hal, fun x hx => ⟨_, gn 1, ?_⟩, .inl (q kp hkp)⟩
  refine wb_val (cP (d_x_keeps E) (v 0 rfl (v 1 rfl ⟨[_, _], rfl, U, n, rs, bs, x, SetT x, rfl, D, .inr rfl, fun b hb => ⟨b, rfl, ?_, rfl, fun _ => v 1 rfl ⟨rfl, rfl⟩⟩⟩))) fun _ _ => rfl
  rw [Bool.eq_iff_iff, hb, hkp]
end Far
namespace Far
open PySem PySem.Spec PyProof.Rows L2 TL
variable {g : G} {C : Addr}
def hitB (L : List SetS) (x : SetS) : Bool := L.all fun l => l.any fun a => decide (a ∈ x)
theorem hitB_iff {L : List SetS} {x : SetS} : hitB L x = true ↔ Hit L x := by
  unfold hitB Hit
  rw [List.all_eq_true]
  constructor
  · intro h l hl
    obtain ⟨a, h1, h2⟩ := List.any_eq_true.mp (h l hl)
    exact ⟨a, h1, of_decide_eq_true h2⟩
  · intro h l hl
    obtain ⟨a, h1, h2⟩ := h l hl
    exact List.any_eq_true.mpr ⟨a, h1, decide_eq_true h2⟩
theorem d_hit (E : Env g C) : Def g "_law_hit" 2 1 (ptT fun ts P => ∃ (x : SetS) (L : List SetS), ts = [SetT x, .lst (sets L)] ∧ L.length ≤ sizeLine ∧ (∀ l ∈ L, l.length ≤ 1000) ∧ P (.bl (hitB L x))) := by
  refine mkDef E.f__law_hit sc__law_hit rfl (fun _ _ _ _ _ _ _ us hl => match us, hl with | [_, _], _ => rfl) ?_
  rintro us O Q hl ⟨rfl, ts, rfl, x, L, rfl, hz, hlen, q⟩
  have big : 1000 ≤ sizeLine := by decide
  refine ws_one (w1_ret (cB b_all E.b_all (lcA (α := SetS) [("_law_lot", 2)] [2] (fun l => .t (SetT l)) (fun l => .bl (l.any fun a => decide (a ∈ x))) (wi_list (v 1 rfl ⟨sets L, rfl, L, by rw [List.map_map]; rfl, hz, fun l hlm => ⟨[some (.t (SetT x)), some (.t (.lst (sets L))), some (.t (SetT l)), none], gn 2, ?_⟩, .inl ⟨L.map fun l => l.any fun a => decide (a ∈ x), by rw [List.map_map]; rfl, ?_⟩⟩)))))
  · have hll := hlen l hlm
    refine cB b_any E.b_any (lcA (α := Str) [("_law_thing", 3)] [3] (fun a => .t (.str a)) (fun a => .bl (decide (a ∈ x))) (wi_tup (v 2 rfl ⟨sT l, rfl, l, by rw [List.map_map]; rfl, by omega, fun a ha => ⟨_, gn 3, w_cmp o_inS (v 3 rfl (v 0 rfl ⟨a, x, rfl, .inr rfl, rfl, rfl⟩)) rfl⟩, .inl ⟨l.map fun a => decide (a ∈ x), by rw [List.map_map]; rfl, ?_, rfl⟩⟩)))
    rw [List.any_map]
    rfl
  · rw [List.all_map]
    exact q
/-! ### the same -/
def sm : Nat → T → Prop
  | 0, t => ∃ x, t = .str x ∧ okS x
  | d + 1, t => (∃ x, t = .str x ∧ okS x) ∨ ∃ xs, (t = .lst xs ∨ t = .tup xs) ∧ xs.length ≤ 10000 ∧ ∀ x ∈ xs, sm d x
section
variable {k : Nat} {S : Sx} {ρ : Rho} {O : Store} {pos : Pos}
theorem isi4 {p q q1 q2 q3 q4 : Pos} {e : Expr} {x1 : Nat} {Q : Vl → Store → Prop} (hm : g.mg "isinstance" = none) (hi : g.mg "int" = none) (hl : g.mg "list" = none) (ht : g.mg "tuple" = none) (hd : g.mg "dict" = none)
    (h : W g k S ρ O e fun u O1 => ∃ t, u = .t t ∧ noIns t = true ∧ Q (.t (.bl (["int", "list", "tuple", "dict"].any (isTy t)))) O1) (hg : GlS S "isinstance" := by rfl) (hgi : GlS S "int" := by rfl) (hgl : GlS S "list" := by rfl) (hgt : GlS S "tuple" := by rfl) (hgd : GlS S "dict" := by rfl)
    (ha : AOk [e, .Tuple [.Name "int" q1, .Name "list" q2, .Name "tuple" q3, .Name "dict" q4] x1 q] := by exact ⟨fun _ => rfl, fun _ => rfl, True.intro⟩) : W g k S ρ O (.Call (.Name "isinstance" p) [e, .Tuple [.Name "int" q1, .Name "list" q2, .Name "tuple" q3, .Name "dict" q4] x1 q] [] pos) Q :=
  w_isiT (tys := ["int", "list", "tuple", "dict"]) hg hm (.cons hgi hi rfl (by decide) (by decide) (fun _ => rfl) (.cons hgl hl rfl (by decide) (by decide) (fun _ => rfl) (.cons hgt ht rfl (by decide) (by decide) (fun _ => rfl) (.cons hgd hd rfl (by decide) (by decide) (fun _ => rfl) .nil)))) (by decide) (by decide) ha h (fun _ => rfl)
end
theorem eqT_bl (a b : Bool) : TL.eqT (.bl a) (.bl b) = decide (a = b) := by
  cases a <;> cases b <;> decide
theorem okD_bl (a : Bool) : okD (.bl a) = true := by cases a <;> decide
theorem eqT_str (a : Str) : TL.eqT (.str a) (.str a) = true := by
  show PyData.eqv (.str a) (.str a) = true
  rw [PyData.eqv]
  simp
theorem okD_str {a : Str} (h : okS a) : okD (.str a) = true := okD_of rfl h (Nat.zero_le _)
theorem okD_int (a : Int) : okD (.int a) = true := okD_of rfl rfl (Nat.zero_le _)
theorem d_same (E : Env g C) : ∀ d, Def g "_law_same" 2 (d + 2) (ptT fun ts P => ∃ t, ts = [t, t] ∧ sm d t ∧ P (.bl true)) := by
  have str : ∀ (k : Nat) (O : Store) (x : Str) (Q : Vl → Store → Prop), okS x → Q (.t (.bl true)) O → WS g k (fS n__law_same (defScope s__law_same)) [some (.t (.str x)), some (.t (.str x)), none, none] O (defBody s__law_same) { nx := fun _ O' => Q (.t .non) O', rt := Q } := by
    intro k O x Q hx q
    refine ws_cons (w1_if (wb_val (isiLT E.b_isinstance E.b_list E.b_tuple (v 1 rfl ⟨.str x, rfl, rfl, _, rfl, fun h => absurd h (by simp [isLT, isTy, tyT]), fun _ => ws_nil ?_⟩)) fun _ _ => rfl))
    refine ws_cons (w1_if (wb_val (isi (ty := "dict") E.b_isinstance E.b_dict (v 1 rfl ⟨.str x, rfl, rfl, _, rfl, fun h => absurd h (by simp [isTy, tyT]), fun _ => ws_nil ?_⟩)) fun _ _ => rfl))
    refine ws_cons (w1_if (wb_val (isi (ty := "int") E.b_isinstance E.b_int (v 1 rfl ⟨.str x, rfl, rfl, _, rfl, fun h => absurd h (by simp [isTy, tyT]), fun _ => ws_nil ?_⟩)) fun _ _ => rfl))
    refine ws_one (w1_ret (w_and (w_not (isi4 E.b_isinstance E.b_int E.b_list E.b_tuple E.b_dict (v 0 rfl ⟨.str x, rfl, rfl, _, rfl, _, rfl, fun _ => w_one (w_cmp o_eq (v 0 rfl (v 1 rfl ⟨.str x, .str x, rfl, rfl, okD_str hx, okD_str hx, ?_⟩)) rfl), fun h => absurd h (by simp [isTy, tyT])⟩)))))
    rw [eqT_str]
    exact q
  intro d
  induction d with
  | zero =>
    refine mkDef E.f__law_same sc__law_same rfl (fun _ _ _ _ _ _ _ us hl => match us, hl with | [_, _], _ => rfl) ?_
    rintro us O Q hl ⟨rfl, ts, rfl, t, rfl, ⟨x, rfl, hx⟩, q⟩
    exact str _ _ x Q hx q
  | succ d ih =>
    refine mkDef E.f__law_same sc__law_same rfl (fun _ _ _ _ _ _ _ us hl => match us, hl with | [_, _], _ => rfl) ?_
    rintro us O Q hl ⟨rfl, ts, rfl, t, rfl, hd, q⟩
    rcases hd with ⟨x, rfl, hx⟩ | ⟨xs, e, hz, hall⟩
    · exact str _ _ x Q hx q
    · have ni := (isLT_seq e).2.2.2.2
      have big : 10000 ≤ sizeLine := by decide
      refine ws_cons (w1_if (wb_val (isiLT E.b_isinstance E.b_list E.b_tuple (v 1 rfl ⟨t, rfl, ni, _, rfl, fun _ => ?_, fun h => absurd h (by rw [(isLT_seq e).1]; decide)⟩)) fun _ _ => rfl))
      refine ws_cons (w1_if (wb_chain (wp_or (wb_cmp o_ne (isi (ty := "list") E.b_isinstance E.b_list (v 0 rfl ⟨t, rfl, ni, isi (ty := "list") E.b_isinstance E.b_list (v 1 rfl ⟨t, rfl, ni, _, _, rfl, rfl, okD_bl _, okD_bl _, _, rfl, fun h => absurd h (by rw [eqT_bl]; simp), fun _ => ?_⟩)⟩)) rfl))))
      refine wp_one (wb_cmp o_ne (isi (ty := "tuple") E.b_isinstance E.b_tuple (v 0 rfl ⟨t, rfl, ni, isi (ty := "tuple") E.b_isinstance E.b_tuple (v 1 rfl ⟨t, rfl, ni, _, _, rfl, rfl, okD_bl _, okD_bl _, _, rfl, fun h => absurd h (by rw [eqT_bl]; simp), fun _ => ws_nil ?_⟩)⟩)) rfl)
      refine ws_one (w1_ret (w_and (w_cmp o_eq (cB b_len E.b_len (v 0 rfl ⟨xs, seq_len e, cB b_len E.b_len (v 1 rfl ⟨xs, seq_len e, .int xs.length, .int xs.length, rfl, rfl, okD_int _, okD_int _, _, rfl, fun _ => w_one ?_, fun h => absurd h (by rw [eqT_int]; simp)⟩)⟩)) rfl)))
      refine cB b_all E.b_all (lcA (α := T × T) [("_law_x", 2), ("_law_y", 3)] [2, 3] (fun p => .t (.tup [p.1, p.2])) (fun _ => .bl true) (wzp E.b_zip (v 0 rfl (v 1 rfl ⟨xs, xs, ?_, rfl, xs.zip xs, rfl, ?_, fun p hp => ⟨_, wg2 2 3, ?_⟩, .inl ⟨(xs.zip xs).map fun _ => true, by rw [List.map_map]; rfl, ?_⟩⟩))))
      · rcases e with rfl | rfl
        · exact .inl rfl
        · exact .inr rfl
      · rw [List.length_zip]; omega
      · have hp' : p.1 = p.2 ∧ p.1 ∈ xs := by
          obtain ⟨i, hi⟩ := List.mem_iff_getElem?.mp hp
          rw [List.getElem?_zip_eq_some] at hi
          exact ⟨Option.some.inj (hi.1.symm.trans hi.2), List.mem_of_getElem? hi.1⟩
        refine cP ih (v 2 rfl (v 3 rfl ⟨[p.1, p.2], rfl, p.1, by rw [hp'.1], hall p.1 hp'.2, rfl, rfl⟩))
      · have : ((xs.zip xs).map fun _ => true).all id = true := by simp
        rw [this]
        exact q
/-! ### the facts -/
theorem okL_allS {N : SetS} {m : Nat} (h : ∀ x ∈ N, okS x) {p : SetS → Bool} : okL ((allS N m).filter p) := fun x hx s hs => by
  have := (List.mem_filter.mp hx).1
  unfold allS at this
  obtain ⟨k, _, hk⟩ := List.mem_flatMap.mp this
  exact h s ((lv_mem.mp hk).2.1 s hs)
end Far
namespace Far
open PySem PySem.Spec PyProof.Rows L2 TL
variable {g : G} {C : Addr}
/-! ### drawing: helpers -/
theorem perm_map_inv {α β : Type} {f : α → β} {l : List β} {m : List α} (h : l.Perm (m.map f)) : ∃ m' : List α, m'.Perm m ∧ l = m'.map f := by
  generalize hm : m.map f = l2 at h
  induction h generalizing m with
  | nil =>
    cases m with
    | nil => exact ⟨[], .refl _, rfl⟩
    | cons x m => cases hm
  | cons x p ih =>
    cases m with
    | nil => cases hm
    | cons y m =>
      rw [List.map_cons] at hm
      injection hm with h1 h2
      obtain ⟨m', h3, h4⟩ := ih h2
      exact ⟨y :: m', h3.cons y, by rw [List.map_cons, h1, h4]⟩
  | swap x y l =>
    cases m with
    | nil => cases hm
    | cons a m =>
      cases m with
      | nil => simp at hm
      | cons b m =>
        rw [List.map_cons, List.map_cons] at hm
        injection hm with h1 h2
        injection h2 with h2 h3
        exact ⟨b :: a :: m, .swap a b m, by rw [List.map_cons, List.map_cons, h1, h2, h3]⟩
  | trans p1 p2 ih1 ih2 =>
    obtain ⟨m1, h1, h2⟩ := ih2 hm
    obtain ⟨m2, h3, h4⟩ := ih1 h2.symm
    exact ⟨m2, h3.trans h1, h4⟩
theorem cut_to (xs : List T) (i : Nat) : cutT xs none (some (i : Int)) = xs.take i := by
  unfold cutT
  rw [HT.sIx_none, HT.sIx_nat, List.drop_zero, Nat.sub_zero]
  rcases Nat.le_total i xs.length with h | h
  · rw [Nat.min_eq_left h]
  · rw [Nat.min_eq_right h, List.take_length, List.take_of_length_le h]
theorem cut_from (xs : List T) (i : Nat) : cutT xs (some (i : Int)) none = xs.drop i := by
  unfold cutT
  rw [HT.sIx_nat, HT.sIx_none]
  rcases Nat.le_total i xs.length with h | h
  · rw [Nat.min_eq_left h, List.take_of_length_le (by rw [List.length_drop]; omega)]
  · rw [Nat.min_eq_right h, Nat.sub_self, List.take_zero, List.drop_of_length_le h]
theorem SS.mono {a c : Addr} {k k' : Nat} {O : Store} (h : SS a c k O) (hk : k ≤ k') : SS a c k' O := by
  obtain ⟨xs, x, n, m, h1, h2, h3, h4, h5, h6, h7⟩ := h
  exact ⟨xs, x, n, m, h1, h2, h3, h4, by omega, h6, h7⟩
theorem Drawn.perm {U : List Str} {n : Nat} {rs rs' : List RawS} {bs bs' : List Nat} (D : Drawn U n rs bs) (h1 : rs'.Perm rs) (h2 : bs'.Perm bs) : Drawn U n rs' bs' :=
  ⟨D.pos, D.small, by rw [h1.length_eq]; exact D.len, fun r hr => D.raw r (h1.mem_iff.mp hr), fun r hr => D.w r (h1.mem_iff.mp hr), fun r hr => D.u r (h1.mem_iff.mp hr), (h1.map _).nodup_iff.mpr D.nd, fun b hb => D.bad b (h2.mem_iff.mp hb), by rw [h2.length_eq]; exact D.blen⟩
/-- the stream, and a list beside it -/
structure SL (a c d : Addr) (k : Nat) (rs : List RawS) (O : Store) : Prop where
  h : Has O a c k
  da : d ≠ a
  dc : d ≠ c
  l : O d = some (.lst ((rs.map rawT).map Vl.t))
theorem SL.mono {a c d : Addr} {k k' : Nat} {rs : List RawS} {O : Store} (s : SL a c d k rs O) (h : k ≤ k') : SL a c d k' rs O := ⟨s.h.mono h, s.da, s.dc, s.l⟩
theorem SL.next {a c d : Addr} {k k' : Nat} {rs : List RawS} {O O2 : Store} (s : SL a c d k rs O) (h : Has O2 a c k') (e : ∀ b, b ≠ a → b ≠ c → O2 b = O b) : SL a c d k' rs O2 := ⟨h, s.da, s.dc, by rw [e d s.da s.dc]; exact s.l⟩
theorem SL.snoc {a c d : Addr} {k : Nat} {rs : List RawS} {O : Store} (s : SL a c d k rs O) (r : RawS) : SL a c d k (rs ++ [r]) (sup O d (.lst ((rs.map rawT).map Vl.t ++ [.t (rawT r)]))) :=
  ⟨s.h.other s.da s.dc, s.da, s.dc, by rw [sup_same]; simp⟩
section
variable {k : Nat} {S : Sx} {ρ : Rho} {O : Store} {pos : Pos}
/-- a draw, a pick, a mixing: the stream is e1, what it is of is e2 -/
theorem drw {p : Pos} {e1 e2 : Expr} {Q : Vl → Store → Prop} (E : Env g C) (hk : 1 ≤ k)
    (h : W g k S ρ O e1 fun u O1 => ∃ a c, u = .cell a ∧ W g k S ρ O1 e2 fun v O2 => ∃ (m : Int) (kk : Nat), v = .t (.int m) ∧ 1 ≤ m ∧ m < 2 ^ 30 ∧ Has O2 a c kk ∧ kk < lim ∧ ∀ (i : Nat) O3, (i : Int) < m → Has O3 a c (kk + 1) → (∀ b, b ≠ a → b ≠ c → O3 b = O2 b) → Q (.t (.int (i : Nat))) O3)
    (hg : GlS S "_law_draw" := by rfl) (ha : AOk [e1, e2] := by exact ⟨fun _ => rfl, fun _ => rfl, True.intro⟩) (hpl : ∀ env, (backTo pos (starEach [e2] env)).any (·.1) = false := by intro _; rfl) : W g k S ρ O (.Call (.Name "_law_draw" p) [e1, e2] [] pos) Q := by
  refine cS (d_draw E) (W.mono h fun u O1 ⟨a, c, hu, h2⟩ => W.mono h2 fun v O2 ⟨m, kk, hv, m1, m2, hh2, hl, q⟩ => ?_) hk hg ha rfl (by decide) hpl
  subst hu hv
  refine ⟨a, c, kk, [.int m], _, rfl, hh2, ⟨m, rfl, m1, m2, hl, rfl⟩, ?_⟩
  rintro t k' ⟨rfl, d, rfl, h3, h4⟩ O3 hh3 e
  obtain ⟨i, rfl⟩ := Int.eq_ofNat_of_zero_le h3
  exact q i O3 h4 hh3 e
theorem pck {p : Pos} {e1 e2 : Expr} {Q : Vl → Store → Prop} (E : Env g C) (hk : 2 ≤ k)
    (h : W g k S ρ O e1 fun u O1 => ∃ a c, u = .cell a ∧ W g k S ρ O1 e2 fun v O2 => ∃ (items : List T) (kk : Nat), v = .t (.lst items) ∧ 1 ≤ items.length ∧ items.length < 2 ^ 30 ∧ Has O2 a c kk ∧ kk < lim ∧ ∀ t O3, t ∈ items → Has O3 a c (kk + 1) → (∀ b, b ≠ a → b ≠ c → O3 b = O2 b) → Q (.t t) O3)
    (hg : GlS S "_law_pick" := by rfl) (ha : AOk [e1, e2] := by exact ⟨fun _ => rfl, fun _ => rfl, True.intro⟩) (hpl : ∀ env, (backTo pos (starEach [e2] env)).any (·.1) = false := by intro _; rfl) : W g k S ρ O (.Call (.Name "_law_pick" p) [e1, e2] [] pos) Q := by
  refine cS (d_pick E) (W.mono h fun u O1 ⟨a, c, hu, h2⟩ => W.mono h2 fun v O2 ⟨items, kk, hv, m1, m2, hh2, hl, q⟩ => ?_) hk hg ha rfl (by decide) hpl
  subst hu hv
  refine ⟨a, c, kk, [.lst items], _, rfl, hh2, ⟨items, rfl, m1, m2, hl, rfl⟩, ?_⟩
  rintro t k' ⟨rfl, ht⟩ O3 hh3 e
  exact q t O3 ht hh3 e
theorem mxd {p : Pos} {e1 e2 : Expr} {Q : Vl → Store → Prop} (E : Env g C) (hk : 2 ≤ k)
    (h : W g k S ρ O e1 fun u O1 => ∃ a c, u = .cell a ∧ W g k S ρ O1 e2 fun v O2 => ∃ (t : T) (items : List T) (kk : Nat), v = .t t ∧ (t = .lst items ∨ t = .tup items) ∧ items.length ≤ 10000 ∧ Has O2 a c kk ∧ kk + items.length < lim ∧ ∀ (out : List T) O3, out.Perm items → Has O3 a c (kk + items.length) → (∀ b, b ≠ a → b ≠ c → O3 b = O2 b) → Q (.t (.lst out)) O3)
    (hg : GlS S "_law_mixed" := by rfl) (ha : AOk [e1, e2] := by exact ⟨fun _ => rfl, fun _ => rfl, True.intro⟩) (hpl : ∀ env, (backTo pos (starEach [e2] env)).any (·.1) = false := by intro _; rfl) : W g k S ρ O (.Call (.Name "_law_mixed" p) [e1, e2] [] pos) Q := by
  refine cS (d_mixed E) (W.mono h fun u O1 ⟨a, c, hu, h2⟩ => W.mono h2 fun v O2 ⟨t, items, kk, hv, et, m1, hh2, hl, q⟩ => ?_) hk hg ha rfl (by decide) hpl
  subst hu hv
  refine ⟨a, c, kk, [t], _, rfl, hh2, ⟨t, items, rfl, et, m1, hl, rfl⟩, ?_⟩
  rintro t' k' ⟨rfl, out, hp, rfl⟩ O3 hh3 e
  exact q out O3 hp hh3 e
end
end Far
namespace Far
open PySem PySem.Spec PyProof.Rows L2 TL
variable {g : G} {C : Addr}
/-! ### a drawn play -/
abbrev W5 : List NestedKey := [.text "do", .text "tell", .num 0, .tup [.text "do", .text "a"], .text "x"]
theorem okS_of {x : Str} (h : (PyData.str x).canLay0 = true) : okS x := h
theorem w5_good : ∀ w ∈ W5, GoodW w := by
  intro w hw
  simp only [W5, List.mem_cons, List.not_mem_nil, or_false] at hw
  rcases hw with rfl | rfl | rfl | rfl | rfl
  · exact .at_ (.text _ (okS_of (by decide +kernel)))
  · exact .at_ (.text _ (okS_of (by decide +kernel)))
  · exact .at_ (.num _)
  · refine .tup (fun k hk => ?_) (by decide)
    simp only [List.mem_cons, List.not_mem_nil, or_false] at hk
    rcases hk with rfl | rfl
    · exact .text _ (okS_of (by decide +kernel))
    · exact .text _ (okS_of (by decide +kernel))
  · exact .at_ (.text _ (okS_of (by decide +kernel)))
theorem w5_nd : W5.Nodup := by decide
/-- the steps so far: the stands below h are done, at h the words ws -/
structure PlayI (U : List Str) (n : Nat) (h : Nat) (ws : List NestedKey) (rs : List RawS) : Prop where
  len : rs.length ≤ h * 3 + ws.length
  raw : ∀ r ∈ rs, RawOk n r
  w : ∀ r ∈ rs, GoodW r.w
  u : ∀ r ∈ rs, ∀ x ∈ r.rules, x ∈ U
  nd : (rs.map fun r => (r.one, r.w)).Nodup
  at_ : ∀ r ∈ rs, r.one < h ∨ (r.one = h ∧ r.w ∈ ws)
theorem PlayI.snoc {U : List Str} {n h : Nat} {ws : List NestedKey} {rs : List RawS} (I : PlayI U n h ws rs) {r : RawS} (h1 : RawOk n r) (h2 : GoodW r.w) (h3 : ∀ x ∈ r.rules, x ∈ U) (h4 : r.one = h) (h5 : r.w ∉ ws) : PlayI U n h (ws ++ [r.w]) (rs ++ [r]) := by
  refine ⟨?_, fun s hs => ?_, fun s hs => ?_, fun s hs => ?_, ?_, fun s hs => ?_⟩
  · have := I.len
    simp only [List.length_append, List.length_singleton]
    omega
  · rcases List.mem_append.mp hs with q | q
    · exact I.raw s q
    · rw [List.mem_singleton] at q; subst q; exact h1
  · rcases List.mem_append.mp hs with q | q
    · exact I.w s q
    · rw [List.mem_singleton] at q; subst q; exact h2
  · rcases List.mem_append.mp hs with q | q
    · exact I.u s q
    · rw [List.mem_singleton] at q; subst q; exact h3
  · rw [List.map_append, List.nodup_append]
    refine ⟨I.nd, by simp, fun p hp q hq e => ?_⟩
    subst e
    simp only [List.map_cons, List.map_nil, List.mem_singleton] at hq
    obtain ⟨s, hs, es⟩ := List.mem_map.mp hp
    rw [hq] at es
    injection es with e1 e2
    rcases I.at_ s hs with q | ⟨_, q⟩
    · omega
    · rw [e2] at q; exact h5 q
  · rcases List.mem_append.mp hs with q | q
    · exact (I.at_ s q).imp id fun q => ⟨q.1, List.mem_append_left _ q.2⟩
    · rw [List.mem_singleton] at q; subst q
      exact .inr ⟨h4, by simp⟩
theorem PlayI.up {U : List Str} {n h : Nat} {ws : List NestedKey} {rs : List RawS} (I : PlayI U n h ws rs) (hw : ws.length ≤ 3) : PlayI U n (h + 1) [] rs :=
  ⟨by have := I.len; simp only [List.length_nil]; omega, I.raw, I.w, I.u, I.nd, fun r hr => .inl (by rcases I.at_ r hr with q | ⟨q, _⟩ <;> omega)⟩
/-- the sides that see a step -/
theorem sides_ok {ss : List Str} (h : ss.Sublist ["a", "house"]) : (∀ x ∈ ss, nmOk x = true) ∧ ss.Nodup ∧ ss.length ≤ 50 := by
  refine ⟨fun x hx => ?_, h.nodup (by decide), Nat.le_trans h.length_le (by decide)⟩
  have := h.subset hx
  simp only [List.mem_cons, List.not_mem_nil, or_false] at this
  rcases this with rfl | rfl <;> decide
abbrev prPlay : SPre := fun ts k R => ∃ U N, ts = [.lst (sT N)] ∧ UOk U ∧ N.Nodup ∧ (∀ x ∈ N, x ∈ U) ∧ k + 3000 < lim ∧ R = fun t k' => k' = k + 3000 ∧ ∃ n rs bs, t = drawnT n rs bs ∧ Drawn U n rs bs ∧ bs.length ≤ 20
theorem rng_at {n i : Nat} {u : Vl} (h : ((rng 0 ((n : Int)).toNat).map fun i => Vl.t (.int i))[i]? = some u) : u = .t (.int (i : Nat)) ∧ i < n := by
  rw [Int.toNat_natCast, rng_nat] at h
  obtain ⟨i', hi', rfl⟩ := map_get h
  obtain ⟨h1, h2⟩ := List.getElem?_eq_some_iff.mp hi'
  rw [List.length_range] at h1
  rw [List.getElem_range] at h2
  exact ⟨by rw [h2], h1⟩
theorem rng_l (n : Nat) : ((rng 0 ((n : Int)).toNat).map fun i => Vl.t (.int i)).length = n := by
  rw [List.length_map, rng_len, Int.toNat_natCast]
theorem mem_iT {t : T} {is : List Nat} (h : t ∈ iT is) : ∃ i ∈ is, t = .int (i : Nat) := by
  obtain ⟨i, h1, h2⟩ := List.mem_map.mp h
  exact ⟨i, h1, h2.symm⟩
theorem take_snoc {α : Type} {l : List α} {j : Nat} {x : α} (h : l[j]? = some x) : l.take (j + 1) = l.take j ++ [x] := by
  obtain ⟨h1, h2⟩ := List.getElem?_eq_some_iff.mp h
  rw [List.take_succ_eq_append_getElem h1, h2]
theorem not_mem_take {α : Type} {l : List α} {j : Nat} {x : α} (nd : l.Nodup) (h : l[j]? = some x) : x ∉ l.take j := by
  intro hm
  obtain ⟨i, hi⟩ := List.mem_iff_getElem?.mp hm
  rw [List.getElem?_take] at hi
  split at hi
  · rename_i hij
    have := (List.getElem?_inj (List.getElem?_eq_some_iff.mp hi).1 nd).mp (hi.trans h.symm)
    omega
  · cases hi
theorem d_x_play (E : Env g C) : Def g "_law_x_play" 2 3 (strT prPlay) := by
  refine mkDef E.f__law_x_play sc__law_x_play rfl (fun _ _ _ _ _ _ _ us hl => match us, hl with | [_, _], _ => rfl) ?_
  rintro us O Q hl ⟨a, c, k0, ts, R, rfl, s0, ⟨U, N, rfl, hU, hN, hNU, hk, rfl⟩, q⟩
  have big : 10000 ≤ sizeLine := by decide
  have hNl : N.length ≤ 12 := Nat.le_trans (nd_len hN hNU) hU.len
  refine ws_cons ?_
  refine par2 2 3 ?_
  refine w_bin o_add (w_int (drw E (by decide) (v 0 rfl ⟨a, c, rfl, w_int ⟨5, k0, rfl, by decide, by decide, s0.has, by omega, fun n5 O1 hn5 hh1 _ => ⟨3, (n5 : Nat), rfl, rfl, True.intro, ?_⟩⟩⟩)))
  refine w_lst True.intro ⟨Nat.zero_le _, .inr fun d hd => ?_⟩
  have hda := hh1.fresh hd
  have en : (3 : Int) + (n5 : Nat) = ((3 + n5 : Nat) : Int) := by omega
  show WS g _ _ [some (.cell a), some (.t (.lst (sT N))), some (.t (.int (3 + (n5 : Nat)))), some (.cell d), none, none, none, none, none, none, none, none, none] _ _ _
  rw [en]
  generalize hn : 3 + n5 = n
  have hn3 : 3 ≤ n := by omega
  have hn7 : n ≤ 7 := by omega
  have S0 : SL a c d (k0 + 1) [] (sup O1 d (.lst [])) := ⟨hh1.other hda.1 hda.2, hda.1, hda.2, sup_same⟩
  refine ws_cons (fr (wr1 E.b_range (v 2 rfl ⟨(n : Nat), rfl, by omega, by omega, fun i ρ1 O3 => ∃ x4 x5 x6 x7 x8 x9 x10 rs, ρ1 = [some (.cell a), some (.t (.lst (sT N))), some (.t (.int (n : Nat))), some (.cell d), x4, x5, x6, x7, x8, x9, x10, none, none] ∧ SL a c d (k0 + 1 + i * 200) rs O3 ∧ PlayI U n i [] rs, ⟨none, none, none, none, none, none, none, [], rfl, S0, ⟨Nat.zero_le _, fun r hr => (by cases hr), fun r hr => (by cases hr), fun r hr => (by cases hr), List.nodup_nil, fun r hr => (by cases hr)⟩⟩, ?_, ?_⟩)))
  · rintro i u ρ1 O3 hu ⟨x4, x5, x6, x7, x8, x9, x10, rs, rfl, SL3, PI⟩
    obtain ⟨rfl, hin⟩ := rng_at hu
    refine ⟨_, _, gn 4, ?_⟩
    refine ws_cons (st 5 (mxd E (by decide) (v 0 rfl ⟨a, c, rfl, w_lst ⟨fun _ => rfl, fun _ => rfl, fun _ => rfl, fun _ => rfl, fun _ => rfl, True.intro⟩ (w_str (w_str (w_int (w_tup ⟨fun _ => rfl, fun _ => rfl, True.intro⟩ (w_str (w_str ⟨[_, _], rfl, by show 2 ≤ sizeLine; omega, w_str ⟨by show 5 ≤ sizeLine; omega, .inl ⟨[_, _, _, _, _], rfl, .lst (W5.map kT), W5.map kT, _, rfl, .inl rfl, by decide, SL3.h, by show k0 + 1 + i * 200 + 5 < lim; omega, fun out O4 hp hh4 e4 => ?_⟩⟩⟩)))))) ⟩)))
    obtain ⟨ws, hws, rfl⟩ := perm_map_inv hp
    have SL4 := SL3.next hh4 e4
    have wnd : ws.Nodup := hws.nodup_iff.mpr w5_nd
    have wgood : ∀ w ∈ ws, GoodW w := fun w hw => w5_good w (hws.mem_iff.mp hw)
    have w5len : (W5.map kT).length = 5 := rfl
    rw [w5len] at SL4
    refine ws_one (fr (wi_list (w_slice (v 5 rfl ?_))))
    show W g _ _ _ _ _ _
    refine pck E (by decide) (v 0 rfl ⟨a, c, rfl, w_lst ⟨fun _ => rfl, fun _ => rfl, fun _ => rfl, fun _ => rfl, fun _ => rfl, fun _ => rfl, True.intro⟩ (w_int (w_int (w_int (w_int (w_int (w_int ⟨by show 6 ≤ sizeLine; omega, .inl ⟨[_, _, _, _, _, _], rfl, iT [0, 1, 2, 2, 3, 3], _, rfl, by decide, by decide, SL4.h, by omega, fun t O5 ht hh5 e5 => ?_⟩⟩))))))⟩)
    obtain ⟨m, hm, rfl⟩ := mem_iT ht
    have hm3 : m ≤ 3 := by simp at hm; omega
    refine ⟨_, rfl, .inl ⟨ws.map kT, rfl, _, rfl, ?_⟩⟩
    rw [cut_to, ← List.map_take]
    have SL5 := SL4.next hh5 e5
    refine ⟨fun j ρ2 O6 => ∃ x6 x7 x8 x9 rs, ρ2 = [some (.cell a), some (.t (.lst (sT N))), some (.t (.int (n : Nat))), some (.cell d), some (.t (.int (i : Nat))), some (.t (.lst (ws.map kT))), x6, x7, x8, x9, x10, none, none] ∧ SL a c d (k0 + 1 + i * 200 + 6 + j * 60) rs O6 ∧ PlayI U n i (ws.take j) rs, ⟨x6, x7, x8, x9, rs, rfl, SL5, PI⟩, ?_, ?_⟩
    · rintro j u ρ2 O6 hu ⟨x6, x7, x8, x9, rs, rfl, SL6, PI⟩
      obtain ⟨t, h1, rfl⟩ := map_get hu
      obtain ⟨w, h2, rfl⟩ := map_get h1
      have hj3 : j < 3 := by
        have := (List.getElem?_eq_some_iff.mp h2).1
        rw [List.length_take] at this
        omega
      have h3 : ws[j]? = some w := by
        rw [List.getElem?_take] at h2
        split at h2
        · exact h2
        · cases h2
      have hw := List.mem_of_getElem? h3
      refine ⟨_, _, gn 6, ?_⟩
      refine ws_cons (st 7 (w_slice (mxd E (by decide) (v 0 rfl ⟨a, c, rfl, v 1 rfl ⟨.lst (sT N), sT N, _, rfl, .inl rfl, by rw [List.length_map]; omega, SL6.h, by rw [List.length_map]; omega, fun out O7 hp hh7 e7 => ?_⟩⟩))))
      obtain ⟨M, hM, rfl⟩ := perm_map_inv hp
      have SL7 := SL6.next hh7 e7
      have Mnd : M.Nodup := hM.nodup_iff.mpr hN
      rw [List.length_map] at SL7
      show W g _ _ _ _ _ _
      refine pck E (by decide) (v 0 rfl ⟨a, c, rfl, w_lst ⟨fun _ => rfl, fun _ => rfl, fun _ => rfl, fun _ => rfl, fun _ => rfl, fun _ => rfl, True.intro⟩ (w_int (w_int (w_int (w_int (w_int (w_int ⟨by show 6 ≤ sizeLine; omega, .inl ⟨[_, _, _, _, _, _], rfl, iT [0, 1, 1, 1, 2, 2], _, rfl, by decide, by decide, SL7.h, by omega, fun t O8 ht hh8 e8 => ?_⟩⟩))))))⟩)
      obtain ⟨b, hb, rfl⟩ := mem_iT ht
      have SL8 := SL7.next hh8 e8
      refine ⟨_, rfl, .inl ⟨sT M, rfl, ?_⟩⟩
      rw [cut_to, ← List.map_take]
      refine ws_cons (st 8 (pck E (by decide) (v 0 rfl ⟨a, c, rfl, w_lst ⟨fun _ => rfl, fun _ => rfl, fun _ => rfl, True.intro⟩ (cB b_min E.b_min (w_bin o_sub (v 2 rfl (w_int ⟨(n : Nat), 1, rfl, rfl, True.intro, w_bin o_add (v 4 rfl (w_int ⟨(i : Nat), 1, rfl, rfl, True.intro, _, _, rfl, drw E (by decide) (v 0 rfl ⟨a, c, rfl, v 2 rfl ⟨(n : Nat), _, rfl, by omega, by omega, SL8.h, by omega, fun o1 O9 ho1 hh9 e9 => drw E (by decide) (v 0 rfl ⟨a, c, rfl, v 2 rfl ⟨(n : Nat), _, rfl, by omega, by omega, hh9, by omega, fun o2 O10 ho2 hh10 e10 => ⟨by show 3 ≤ sizeLine; omega, .inl ⟨[_, _, _], rfl, _, _, rfl, by show 1 ≤ 3; decide, by show 3 < 2 ^ 30; decide, hh10, by omega, fun t O11 ht hh11 e11 => ?_⟩⟩⟩⟩)⟩⟩)⟩))⟩))))⟩)))
      have SL11 := ((SL8.next hh9 e9).next hh10 e10).next hh11 e11
      have ho : ∃ o : Nat, o < n ∧ t = .int (o : Nat) := by
        simp only [List.mem_cons, List.not_mem_nil, or_false] at ht
        rcases ht with rfl | rfl | rfl
        · by_cases hc : (i : Int) + 1 < (n : Int) - 1
          · exact ⟨i + 1, by omega, by rw [if_pos hc]; rfl⟩
          · exact ⟨n - 1, by omega, by rw [if_neg hc]; congr 1; omega⟩
        · exact ⟨o1, by omega, rfl⟩
        · exact ⟨o2, by omega, rfl⟩
      obtain ⟨o, hon, rfl⟩ := ho
      refine ws_cons (st 9 (cT b_dictP E.b_dict ?_))
      show W g _ _ _ _ _ _
      generalize hK : k0 + 1 + i * 200 + 6 + j * 60 + N.length + 1 + 1 + 1 + 1 = K at SL11
      refine w_lc [("_law_side", 11)] (is := [11]) (by decide +kernel) (by decide) (fun _ _ => rfl) (wi_list (w_lst ⟨fun _ => rfl, fun _ => rfl, True.intro⟩ (w_str (w_str ⟨by show 2 ≤ sizeLine; omega, .inl ⟨[_, _], rfl, sT ["a", "house"], rfl, fun z acc O12 => ∃ ss : List Str, acc = (ss.map fun s => T.tup [.str s, .str "x"]).map Vl.t ∧ ss.Sublist ((["a", "house"] : List Str).take z) ∧ SL a c d (K + z) rs O12, ⟨[], rfl, .slnil, SL11⟩, ?_, by show 2 ≤ sizeLine; omega, ?_⟩⟩))))
      · rintro z u acc O12 hu ⟨ss, rfl, hss, SL12⟩ _
        obtain ⟨t, h4, rfl⟩ := map_get hu
        obtain ⟨sd, h5, rfl⟩ := map_get h4
        have hz2 : z < 2 := (List.getElem?_eq_some_iff.mp h5).1
        refine ⟨_, gn 11, ?_⟩
        show WB g _ _ _ _ _ _
        refine wb_cmp o_eq (drw E (by decide) (v 0 rfl ⟨a, c, rfl, w_int ⟨4, _, rfl, by decide, by decide, SL12.h, by omega, fun y O13 hy hh13 e13 => w_int ⟨.int (y : Nat), .int 0, rfl, rfl, okD_int _, okD_int _, _, rfl, ?_⟩⟩⟩)) rfl
        have SL13 := SL12.next hh13 e13
        split
        · refine w_tup ⟨fun _ => rfl, fun _ => rfl, True.intro⟩ (v 11 rfl (w_str ⟨[_, _], rfl, by show 2 ≤ sizeLine; omega, ss ++ [sd], by simp, ?_, SL13⟩))
          rw [take_snoc h5]
          exact hss.append (List.Sublist.refl _)
        · refine ⟨ss, rfl, ?_, SL13⟩
          rw [take_snoc h5]
          exact hss.trans (List.sublist_append_left _ _)
      · rintro acc O12 ⟨ss, rfl, hss, SL12⟩
        have hss : ss.Sublist (["a", "house"] : List Str) := hss
        obtain ⟨sd1, sd2, sd3⟩ := sides_ok hss
        refine .inl ⟨_, rfl, ss.map fun s => ((.inr s : Key), T.str "x"), ?_, ?_, ?_⟩
        · rw [List.map_map]; rfl
        · rw [List.map_map]
          exact nodup_map (f := fun s : Str => (Sum.inr s : Key)) (fun _ _ e => by injection e) sd2
        have ek : (ss.map fun s => ((.inr s : Key), T.str "x")).map (fun kt => nk kt.1) = ss.map .text := by rw [List.map_map]; rfl
        have ev : (ss.map fun s => ((.inr s : Key), T.str "x")).map (·.2) = ss.map fun _ => T.str "x" := by rw [List.map_map]; rfl
        rw [ek, ev]
        have hr : RawOk n ⟨w, i, o, M.take b, ss, ss.map fun _ => T.str "x"⟩ := ⟨(wgood w hw).dep, hin, hon, fun x hx => hU.nm x (hNU x (hM.mem_iff.mp (List.mem_of_mem_take hx))), Mnd.sublist (List.take_sublist _ _), by show (M.take b).length ≤ 50; rw [List.length_take, hM.length_eq]; omega, sd1, sd2, sd3, by rw [List.length_map], fun t ht => by
          obtain ⟨_, _, rfl⟩ := List.mem_map.mp ht
          rfl⟩
        refine ws_one (sx (app (v 3 rfl ⟨d, rfl, ⟨_, SL12.l⟩, w_tup ⟨fun _ => rfl, fun _ => rfl, fun _ => rfl, fun _ => rfl, fun _ => rfl, True.intro⟩ (v 6 rfl (v 4 rfl (v 8 rfl (v 7 rfl (v 9 rfl ⟨[_, _, _, _, _], rfl, by show 5 ≤ sizeLine; omega, _, SL12.l, ?_, ?_⟩)))))⟩)))
        · have := PI.len
          rw [List.length_map, List.length_map]
          rw [List.length_take] at this
          omega
        · refine ⟨_, _, _, _, rs ++ [⟨w, i, o, M.take b, ss, ss.map fun _ => T.str "x"⟩], rfl, (SL12.snoc _).mono (by show K + 2 ≤ _; omega), ?_⟩
          rw [take_snoc h3]
          exact PI.snoc hr (wgood w hw) (fun x hx => hNU x (hM.mem_iff.mp (List.mem_of_mem_take hx))) rfl (not_mem_take wnd h3)
    · rintro ρ2 O6 ⟨x6, x7, x8, x9, rs, rfl, SL6, PI⟩
      rw [List.length_map, List.length_map, List.length_take] at SL6 PI
      refine ⟨_, _, _, _, _, _, _, rs, rfl, SL6.mono (by have : min m ws.length ≤ 3 := (by omega); omega), PI.up (by rw [List.length_take]; omega)⟩
  · rintro ρ1 O3 ⟨x4, x5, x6, x7, x8, x9, x10, rs, rfl, SL3, PI⟩
    rw [rng_l] at SL3 PI
    refine ws_cons (st 10 (w_bin o_catL (w_lst ⟨fun _ => rfl, True.intro⟩ (w_bin o_sub (v 2 rfl (w_int ⟨(n : Nat), 1, rfl, rfl, True.intro, by show 1 ≤ sizeLine; omega, .inl ⟨[_], rfl, ?_⟩⟩))))))
    show W g _ _ _ _ _ _
    generalize hK : k0 + 1 + n * 200 = K at SL3
    refine w_lc [("_law_stand", 12)] (is := [12]) (by decide +kernel) (by decide) (fun _ _ => rfl) (wr2 E.b_range (w_int ⟨1, rfl, w_bin o_sub (v 2 rfl (w_int ⟨(n : Nat), 1, rfl, rfl, True.intro, _, rfl, by omega, fun z acc O12 => ∃ ss : List Nat, acc = (iT ss).map Vl.t ∧ (∀ s ∈ ss, s < n) ∧ ss.length ≤ z ∧ SL a c d (K + z) rs O12, ⟨[], rfl, fun _ h => (by cases h), Nat.zero_le _, SL3⟩, ?_, ?_, ?_⟩))⟩))
    · rintro z u acc O12 hu ⟨ss, rfl, hss, hsl, SL12⟩ _
      obtain ⟨y, h4, rfl⟩ := map_get hu
      have hz : y = ((z + 1 : Nat) : Int) ∧ z < n - 2 := by
        obtain ⟨h1, h2⟩ := List.getElem?_eq_some_iff.mp h4
        rw [rng_len] at h1
        unfold rng at h2
        simp at h2
        omega
      obtain ⟨rfl, hz⟩ := hz
      refine ⟨_, gn 12, ?_⟩
      show WB g _ _ _ _ _ _
      refine wb_cmp o_eq (drw E (by decide) (v 0 rfl ⟨a, c, rfl, w_int ⟨8, _, rfl, by decide, by decide, SL12.h, by omega, fun y O13 hy hh13 e13 => w_int ⟨.int (y : Nat), .int 0, rfl, rfl, okD_int _, okD_int _, _, rfl, ?_⟩⟩⟩)) rfl
      have SL13 := SL12.next hh13 e13
      split
      · refine v 12 rfl ⟨ss ++ [z + 1], by simp, fun s hs => ?_, by simp; omega, SL13⟩
        rcases List.mem_append.mp hs with h | h
        · exact hss s h
        · rw [List.mem_singleton] at h; omega
      · exact ⟨ss, rfl, hss, by omega, SL13⟩
    · rw [List.length_map, rng_len]; omega
    · rintro acc O12 ⟨ss, rfl, hss, hsl, SL12⟩
      rw [List.length_map, rng_len] at hsl SL12
      refine .inl ⟨_, rfl, _, _, rfl, rfl, by rw [List.length_map]; show 1 + ss.length ≤ sizeLine; omega, ?_⟩
      have eb : [T.int ((n : Int) - 1)] ++ iT ss = iT ((n - 1) :: ss) := by
        show T.int ((n : Int) - 1) :: iT ss = T.int ((n - 1 : Nat) : Int) :: iT ss
        rw [Int.natCast_sub (by omega)]
        rfl
      rw [eb]
      have D : Drawn U n rs ((n - 1) :: ss) := ⟨by omega, by omega, by have := PI.len; simp at this; omega, PI.raw, PI.w, PI.u, PI.nd, fun b hb => by
        rcases List.mem_cons.mp hb with rfl | hb
        · omega
        · exact hss b hb, by rw [List.length_cons]; omega⟩
      obtain ⟨O', s', sp⟩ := split_S SL12.h SL12.da SL12.dc SL12.l
      refine ws_one (w1_ret (w_retS (w_frzE (ρ' := [some (.cell a), some (.t (.lst (sT N))), some (.t (.int (n : Nat))), some (.t (.lst (rs.map rawT))), x4, x5, x6, x7, x8, x9, some (.t (.lst (iT ((n - 1) :: ss)))), none, none]) sp (.keep (.keep (.keep (.frz (Frz.flat sup_same) (.keep (.keep (.keep (.keep (.keep (.keep (.keep (.keep (.keep .nil))))))))))))) ?_)))
      have lr : rs.length ≤ 21 := by have := PI.len; simp at this; omega
      refine w_tup ⟨fun _ => rfl, fun _ => rfl, fun _ => rfl, True.intro⟩ (v 2 rfl (mxd E (by decide) (v 0 rfl ⟨a, c, rfl, v 3 rfl ⟨_, rs.map rawT, _, rfl, .inl rfl, by rw [List.length_map]; omega, s'.has, by rw [List.length_map]; omega, fun out O13 hp hh13 e13 => mxd E (by decide) (v 0 rfl ⟨a, c, rfl, v 10 rfl ⟨_, iT ((n - 1) :: ss), _, rfl, .inl rfl, by rw [List.length_map, List.length_cons]; omega, hh13, by rw [List.length_map, List.length_map, List.length_cons]; omega, fun out2 O14 hp2 hh14 e14 => ⟨[_, _, _], rfl, by show 3 ≤ sizeLine; omega, ?_⟩⟩⟩)⟩⟩)))
      obtain ⟨rs', hrs, rfl⟩ := perm_map_inv hp
      obtain ⟨bs', hbs, rfl⟩ := perm_map_inv hp2
      rw [List.length_map, List.length_map, List.length_cons] at hh14
      exact ⟨a, c, k0 + 3000, _, hh14.mono (by omega), .inl rfl, fun O2 s2 => q _ _ ⟨rfl, n, rs', bs', rfl, D.perm hrs hbs, by rw [hbs.length_eq, List.length_cons]; omega⟩ O2 s2⟩
end Far
namespace Far
open PySem PySem.Spec PyProof.Rows L2 TL
variable {g : G} {C : Addr}
section
variable {k : Nat} {S : Sx} {ρ : Rho} {O : Store} {pos : Pos}
theorem sw_cell {e : Expr} {x : Str} {p : Pos} {l : Nat} {env : PySem.Env} (h : env.kindOf x = some .cell) : swapsWith e (some (.Name x p)) l env = pure false := by
  unfold swapsWith
  split
  · dsimp only
    rw [h]
    simp only [show ((some NameKind.cell : Option NameKind) == some NameKind.local) = false from rfl, Bool.and_false, Bool.false_and]
  · rfl
/-- x = e, a comprehension looks at x -/
theorem stC {x : Str} (i : Nat) {e : Expr} {p : Pos} {D : TD} (h : W g k S ρ O e fun u O1 => D.nx (ρ.set i (some u)) O1) (hk : S.sc.names.lookup x = some .cell := by rfl) (hi : S.N[i]? = some x := by rfl) (hx : LocS S x := by exact ⟨.inr rfl, .inl rfl⟩) : W1 g k S ρ O (.Assign [.Name x p] e pos) D := by
  intro X A σ F H hE hC Dc hq
  have h' := h X A σ F H hE hC (fun x H1 => gName i x σ H1 Dc.nx) fun u v F1 H1 O1 s1 c1 r1 q1 => hq.nx _ _ F1 H1 O1 s1 c1 ((hE.mono s1.fr).set r1) q1
  have nd := A.nd
  have e := A.s
  subst e
  exact semS_of (ps_set nd hi hx.1 pe_sem (sw_cell hk) hx.2) h'
end
theorem d_facts_right (E : Env g C) : Def g "_law_facts_right" 4 3 (ptT fun ts P => ∃ (N : SetS) (Th Ls Gr : List SetS), ts = [.lst (sT N), .lst (sets Th), .lst (sets Ls), .lst (sets Gr)] ∧ Anti N Th ∧ N.length ≤ 12 ∧ (∀ x ∈ N, okS x) ∧ Ls.Pairwise ltK ∧ (∀ x, x ∈ Ls ↔ MinHit Th x) ∧ Gr.Pairwise ltK ∧ (∀ x, x ∈ Gr ↔ ∃ t ∈ Th, x = without N t) ∧ P (.bl true)) := by
  refine mkDef E.f__law_facts_right sc__law_facts_right rfl (fun _ _ _ _ _ _ _ us hl => match us, hl with | [_, _, _, _], _ => rfl) ?_
  rintro us O Q hl ⟨rfl, ts, rfl, N, Th, Ls, Gr, rfl, A, h12, ok, hLp, hL, hGp, hG, q⟩
  have big : 5000 < sizeLine := by decide
  have aLen : (allS N N.length).length ≤ 4096 := Nat.le_trans (allS_len A.ns _) (Nat.pow_le_pow_right (by decide) h12)
  have sub12 : ∀ x : SetS, Srt x → Sb x N → x.length ≤ 12 := fun x h1 h2 => Nat.le_trans (Sb.len h1 h2) h12
  have tl : ∀ t ∈ Th, t.length ≤ 12 := fun t ht => sub12 t (A.srt t ht) (A.sub t ht)
  have lsub : ∀ l ∈ Ls, Srt l ∧ Sb l N := fun l h => ⟨((hL l).mp h).1.1, anti_hit_sub A ((hL l).mp h)⟩
  have ll : ∀ l ∈ Ls, l.length ≤ 12 := fun l h => sub12 l (lsub l h).1 (lsub l h).2
  have cnt : ∀ {L : List SetS}, L.Pairwise ltK → (∀ x ∈ L, Srt x ∧ Sb x N) → L.length ≤ 4096 := fun hp h => Nat.le_trans (count_sets A.ns (pwK_nodup hp) h) (Nat.pow_le_pow_right (by decide) h12)
  have tz : Th.length ≤ 4096 := cnt A.pw fun t ht => ⟨A.srt t ht, A.sub t ht⟩
  have lz : Ls.length ≤ 4096 := cnt hLp lsub
  have okS' : ∀ {x : SetS}, Sb x N → ∀ s ∈ x, okS s := fun h s hs => ok s (h s hs)
  have okTh : okL Th := fun t ht => okS' (A.sub t ht)
  have okLs : okL Ls := fun t ht => okS' (lsub t ht).2
  have okGr : okL Gr := fun t ht => by
    obtain ⟨u, _, rfl⟩ := (hG t).mp ht
    exact okS' without_sub
  have allM : ∀ x ∈ allS N N.length, Srt x ∧ Sb x N := fun x hx => allS_mem.mp hx
  have fPw : ∀ p : SetS → Bool, ((allS N N.length).filter p).Pairwise ltK := fun p => (allS_pw A.ns _).filter _
  have fLen : ∀ p : SetS → Bool, ((allS N N.length).filter p).length ≤ 4096 := fun p => Nat.le_trans (List.length_filter_le _ _) aLen
  have fM : ∀ p : SetS → Bool, ∀ x ∈ (allS N N.length).filter p, Srt x ∧ x.length ≤ 1000 := fun p x hx => by
    have := allM x (List.mem_filter.mp hx).1
    have h2 := sub12 x this.1 this.2
    exact ⟨this.1, by omega⟩
  refine ws_cons (st 4 (cP (d_x_all E) (v 0 rfl ⟨[.lst (sT N)], rfl, N, rfl, A.ns, h12, ok, ?_⟩)))
  generalize hEv : allS N N.length = Ev at aLen allM fPw fLen fM
  have rest : WS g 2 (fS n__law_facts_right (defScope s__law_facts_right)) [some (.t (.lst (sT N))), some (.t (.lst (sets Th))), some (.t (.lst (sets Ls))), some (.t (.lst (sets Gr))), some (.t (.lst (sets Ev))), none, none, none, none] noS ((defBody s__law_facts_right).drop 3) { nx := fun _ O' => Q (.t .non) O', rt := Q } := by
    have er : (Th.map fun t => SetT (without N t)) = sets (Th.map (without N)) := by unfold sets; rw [List.map_map]; rfl
    have okR : okL (Th.map (without N)) := fun x hx => by
      obtain ⟨t, _, rfl⟩ := List.mem_map.mp hx
      exact okS' without_sub
    refine ws_cons (stC 5 (lcA (α := SetS) [("_law_lot", 7)] [7] (fun x => .t (SetT x)) (fun t => SetT (without N t)) (wi_list (v 1 rfl ⟨sets Th, rfl, Th, by rw [List.map_map]; rfl, by omega, fun t ht => ⟨[some (.t (.lst (sT N))), some (.t (.lst (sets Th))), some (.t (.lst (sets Ls))), some (.t (.lst (sets Gr))), some (.t (.lst (sets Ev))), none, none, some (.t (SetT t)), none], gn 7, ?_⟩, .inl ?_⟩))))
    · exact cT b_tuple E.b_tuple (lcP (α := Str) [("_law_name", 6)] [6] (fun x => .t (.str x)) (fun x => !decide (x ∈ t)) T.str (wi_list (v 0 rfl ⟨sT N, rfl, N, by rw [List.map_map]; rfl, by omega, fun x hx => ⟨_, gn 6, wb_cmp o_notInS (v 6 rfl (v 7 rfl ⟨x, t, rfl, .inr rfl, _, rfl, rfl, rfl, fun _ => v 6 rfl ⟨rfl, rfl⟩⟩)) rfl⟩, .inl ⟨_, .inl rfl, rfl, rfl⟩⟩)))
    rw [er]
    show WS g 2 _ [some (.t (.lst (sT N))), some (.t (.lst (sets Th))), some (.t (.lst (sets Ls))), some (.t (.lst (sets Gr))), some (.t (.lst (sets Ev))), some (.t (.lst (sets (Th.map (without N))))), none, none, none] noS _ _
    have eG : (Ev.filter fun x => decide (x ∈ Th.map (without N))) = Gr := by
      rw [← hEv]
      refine greatest_eq A (fun x _ _ => ?_) hGp hG
      rw [decide_eq_true_eq, List.mem_map]
      exact ⟨fun ⟨t, h1, h2⟩ => ⟨t, h1, h2.symm⟩, fun ⟨t, h1, h2⟩ => ⟨t, h1, h2.symm⟩⟩
    refine ws_cons (w1_if (wb_cmp o_ne (lcP (α := SetS) [("_law_one", 8)] [8] (fun x => .t (SetT x)) (fun x => decide (x ∈ Th.map (without N))) SetT (wi_list (v 4 rfl ⟨sets Ev, rfl, Ev, by rw [List.map_map]; rfl, by omega, fun x hx => ⟨_, gn 8, ?_⟩, .inl ?_⟩))) rfl))
    · exact wb_cmp o_inL (v 8 rfl (v 5 rfl ⟨SetT x, sets (Th.map (without N)), rfl, rfl, okD_set (okS' (allM x hx).2), okD_sets okR, _, rfl, any_eqT x _, rfl, fun _ => v 8 rfl ⟨rfl, rfl⟩⟩)) rfl
    · refine v 3 rfl ⟨_, _, rfl, rfl, okD_sets fun x hx => okS' (allM x (List.mem_filter.mp hx).1).2, okD_sets okGr, _, rfl, fun h => absurd h (by rw [eqT_sets, eG]; simp), fun _ => ws_nil ?_⟩
      refine ws_cons (fr (wi_list (v 0 rfl ⟨sT N, rfl, fun i ρ1 O3 => ∃ x6, ρ1 = [some (.t (.lst (sT N))), some (.t (.lst (sets Th))), some (.t (.lst (sets Ls))), some (.t (.lst (sets Gr))), some (.t (.lst (sets Ev))), some (.t (.lst (sets (Th.map (without N))))), x6, none, none] ∧ O3 = noS, ⟨none, rfl, rfl⟩, ?_, ?_⟩)))
      · rintro i u ρ1 O3 hu ⟨x6, rfl, rfl⟩
        obtain ⟨t, h1, rfl⟩ := map_get hu
        obtain ⟨x, h2, rfl⟩ := map_get h1
        have hx := List.mem_of_getElem? h2
        refine ⟨_, _, gn 6, ?_⟩
        have some_eq : (Th.any fun l => decide (x ∈ l)) = Ls.any fun l => decide (x ∈ l) := by
          rw [Bool.eq_iff_iff, List.any_eq_true, List.any_eq_true]
          have := in_some A hL x
          simpa using this
        refine ws_cons (w1_if (wb_chain (wp_and (wb_cmp o_ne (cB b_any E.b_any (lcA (α := SetS) [("_law_lot", 7)] [7] (fun l => .t (SetT l)) (fun l => .bl (decide (x ∈ l))) (wi_list (v 1 rfl ⟨sets Th, rfl, Th, by rw [List.map_map]; rfl, by omega, fun l hl => ⟨_, gn 7, w_cmp o_inS (v 6 rfl (v 7 rfl ⟨x, l, rfl, .inr rfl, rfl, rfl⟩)) rfl⟩, .inl ⟨Th.map fun l => decide (x ∈ l), by rw [List.map_map]; rfl, ?_⟩⟩)))) rfl))))
        refine cB b_any E.b_any (lcA (α := SetS) [("_law_one", 8)] [8] (fun l => .t (SetT l)) (fun l => .bl (decide (x ∈ l))) (wi_list (v 2 rfl ⟨sets Ls, rfl, Ls, by rw [List.map_map]; rfl, by omega, fun l hl => ⟨_, gn 8, w_cmp o_inS (v 6 rfl (v 8 rfl ⟨x, l, rfl, .inr rfl, rfl, rfl⟩)) rfl⟩, .inl ⟨Ls.map fun l => decide (x ∈ l), by rw [List.map_map]; rfl, _, _, rfl, rfl, okD_bl _, okD_bl _, _, rfl, fun h => ?_, fun _ => ⟨fun h => (by cases h), fun _ => ws_nil ?_⟩⟩⟩)))
        · rw [eqT_bl, List.any_map, List.any_map] at h
          have e2 : (Th.any (id ∘ fun l => decide (x ∈ l))) = Ls.any (id ∘ fun l => decide (x ∈ l)) := some_eq
          rw [e2] at h
          simp at h
        refine ws_one (w1_if (wb_chain (wp_and (wb_cmp o_inL (w_tup ⟨fun _ => rfl, True.intro⟩ (v 6 rfl ⟨[_], rfl, by show 1 ≤ sizeLine; omega, v 1 rfl ⟨SetT [x], sets Th, rfl, rfl, okD_set (fun s hs => by rw [List.mem_singleton] at hs; rw [hs]; exact ok x hx), okD_sets okTh, _, rfl, fun h => ?_, fun _ => ⟨fun h => (by cases h), fun _ => ws_nil ⟨_, rfl, rfl⟩⟩⟩⟩)) rfl))))
        rw [any_eqT] at h
        have hall := in_all hL (of_decide_eq_true h)
        refine wp_one (wb_not (wb_val (cB b_all E.b_all (lcA (α := SetS) [("_law_one", 8)] [8] (fun l => .t (SetT l)) (fun l => .bl (decide (x ∈ l))) (wi_list (v 2 rfl ⟨sets Ls, rfl, Ls, by rw [List.map_map]; rfl, by omega, fun l hl => ⟨_, gn 8, w_cmp o_inS (v 6 rfl (v 8 rfl ⟨x, l, rfl, .inr rfl, rfl, rfl⟩)) rfl⟩, .inl ⟨Ls.map fun l => decide (x ∈ l), by rw [List.map_map]; rfl, _, rfl, fun h => ?_, fun _ => ws_nil ⟨_, rfl, rfl⟩⟩⟩)))) fun _ _ => rfl))
        rw [List.all_map] at h
        have : Ls.all (id ∘ fun l => decide (x ∈ l)) = true := List.all_eq_true.mpr fun l hl => decide_eq_true (hall l hl)
        rw [this] at h
        cases h
      · rintro ρ1 O3 ⟨x6, rfl, rfl⟩
        exact ws_one (w1_ret (w_bl q))
  refine ws_cons (w1_if (wb_cmp o_ne (cP (d_x_least E) (lcP (α := SetS) [("_law_one", 8)] [8] (fun x => .t (SetT x)) (fun x => hitB Th x) SetT (wi_list (v 4 rfl ⟨sets Ev, rfl, Ev, by rw [List.map_map]; rfl, by omega, fun x hx => ⟨_, gn 8, ?_⟩, .inl ⟨[.lst (sets (Ev.filter fun x => hitB Th x))], rfl, _, rfl, fPw _, fun x hx => (fM _ x hx).1, fun x hx => (fM _ x hx).2, by have := fLen fun x => hitB Th x; omega, fun R hR hm => v 2 rfl ⟨_, _, rfl, rfl, okD_sets fun x hx => ?_, okD_sets okLs, _, rfl, ?_⟩⟩⟩)))) rfl))
  · exact wb_val (cP (d_hit E) (v 8 rfl (v 1 rfl ⟨[SetT x, .lst (sets Th)], rfl, x, Th, rfl, by omega, fun t ht => by have := tl t ht; omega, _, rfl, rfl, rfl, fun _ => v 8 rfl ⟨rfl, rfl⟩⟩))) fun _ _ => rfl
  · have := allM x (List.mem_filter.mp ((hm x).mp hx).1).1
    exact okS' this.2
  have eR : R = Ls := least_eq A (kp := fun x => hitB Th x) (fun x _ _ => hitB_iff) hR (by rw [hEv]; exact hm) hLp hL
  refine ⟨fun h => absurd h (by rw [eqT_sets, eR]; simp), fun _ => ws_nil ?_⟩
  refine ws_cons (w1_if (wb_chain (wp_and (wb_cmp o_ne (v 2 rfl (w_lst True.intro ⟨Nat.zero_le _, .inl ⟨[], rfl, .lst (sets Ls), .lst [], rfl, rfl, okD_sets okLs, by decide, _, rfl, fun _ => ?_, fun _ => ⟨fun h => (by cases h), fun _ => ws_nil rest⟩⟩⟩)) rfl))))
  refine wp_one (wb_cmp o_ne (cP (d_x_least E) (lcP (α := SetS) [("_law_one", 8)] [8] (fun x => .t (SetT x)) (fun x => hitB Ls x) SetT (wi_list (v 4 rfl ⟨sets Ev, rfl, Ev, by rw [List.map_map]; rfl, by omega, fun x hx => ⟨_, gn 8, ?_⟩, .inl ⟨[.lst (sets (Ev.filter fun x => hitB Ls x))], rfl, _, rfl, fPw _, fun x hx => (fM _ x hx).1, fun x hx => (fM _ x hx).2, by have := fLen fun x => hitB Ls x; omega, fun R2 hR2 hm2 => v 1 rfl ⟨_, _, rfl, rfl, okD_sets fun x hx => ?_, okD_sets okTh, _, rfl, ?_⟩⟩⟩)))) rfl)
  · exact wb_val (cP (d_hit E) (v 8 rfl (v 2 rfl ⟨[SetT x, .lst (sets Ls)], rfl, x, Ls, rfl, by omega, fun t ht => by have := ll t ht; omega, _, rfl, rfl, rfl, fun _ => v 8 rfl ⟨rfl, rfl⟩⟩))) fun _ _ => rfl
  · have := allM x (List.mem_filter.mp ((hm2 x).mp hx).1).1
    exact okS' this.2
  have eR2 : R2 = Th := lots_eq A hL (kp := fun x => hitB Ls x) (fun x _ _ => hitB_iff) hR2 (by rw [hEv]; exact hm2)
  exact ⟨fun h => absurd h (by rw [eqT_sets, eR2]; simp), fun _ => ws_nil rest⟩
end Far
namespace Far
open PySem PySem.Spec PyProof.Rows L2 TL
variable {g : G} {C : Addr}
/-! ### a play of ways to the bad stand 1 -/
def way (j : Nat) : NestedKey := .tup [.text "way", .num (j : Nat)]
abbrev back : NestedKey := .text "back"
theorem way_good (j : Nat) : GoodW (way j) := .tup (fun k hk => by
  simp only [List.mem_cons, List.not_mem_nil, or_false] at hk
  rcases hk with rfl | rfl
  · exact .text _ (okS_of (by decide +kernel))
  · exact .num _) (by show 2 ≤ 100; decide)
theorem back_good : GoodW back := .at_ (.text _ (okS_of (by decide +kernel)))
theorem way_inj {i j : Nat} (h : way i = way j) : i = j := by
  unfold way at h
  injection h with h
  injection h with _ h
  injection h with h _
  injection h with h
  omega
theorem way_back {i : Nat} : way i ≠ back := by
  intro h
  unfold way back at h
  cases h
theorem RawOk.mono {n m : Nat} {r : RawS} (h : RawOk n r) (hm : n ≤ m) : RawOk m r := ⟨h.dep, Nat.lt_of_lt_of_le h.one hm, Nat.lt_of_lt_of_le h.other hm, h.names, h.nd, h.len, h.sides, h.snd, h.sl, h.svl, h.sv⟩
/-- the steps of the ways below i -/
structure LedI (U : List Str) (i m : Nat) (rs : List RawS) : Prop where
  raw : ∀ r ∈ rs, RawOk m r
  w : ∀ r ∈ rs, ∃ j, j < i ∧ r.w = way j
  u : ∀ r ∈ rs, ∀ x ∈ r.rules, x ∈ U
  nd : (rs.map fun r => (r.one, r.w)).Nodup
theorem LedI.up {U : List Str} {i i' m m' : Nat} {rs : List RawS} (I : LedI U i m rs) (hi : i ≤ i') (hm : m ≤ m') : LedI U i' m' rs :=
  ⟨fun r hr => (I.raw r hr).mono hm, fun r hr => by obtain ⟨j, h1, h2⟩ := I.w r hr; exact ⟨j, by omega, h2⟩, I.u, I.nd⟩
theorem mem_snoc {α : Type} {l : List α} {x y : α} (h : x ∈ l ++ [y]) : x ∈ l ∨ x = y := by
  rcases List.mem_append.mp h with h | h
  · exact .inl h
  · exact .inr (List.mem_singleton.mp h)
theorem LedI.snoc {U : List Str} {i m : Nat} {rs : List RawS} (I : LedI U (i + 1) m rs) {r : RawS} (h1 : RawOk m r) (h2 : r.w = way i) (h3 : ∀ x ∈ r.rules, x ∈ U) (h4 : ∀ s ∈ rs, s.w = way i → s.one ≠ r.one) : LedI U (i + 1) m (rs ++ [r]) := by
  refine ⟨fun s hs => ?_, fun s hs => ?_, fun s hs => ?_, ?_⟩
  · rcases mem_snoc hs with q | rfl
    · exact I.raw s q
    · exact h1
  · rcases mem_snoc hs with q | rfl
    · exact I.w s q
    · exact ⟨i, Nat.lt_succ_self i, h2⟩
  · rcases mem_snoc hs with q | rfl
    · exact I.u s q
    · exact h3
  · rw [List.map_append, List.nodup_append]
    refine ⟨I.nd, by simp, fun p hp q hq e => ?_⟩
    subst e
    simp only [List.map_cons, List.map_nil, List.mem_singleton] at hq
    obtain ⟨s, hs, es⟩ := List.mem_map.mp hp
    rw [hq] at es
    injection es with e1 e2
    exact h4 s hs (by rw [e2, h2]) e1
/-- .. and of the steps back from the stands below h -/
structure BackI (U : List Str) (h m : Nat) (rs : List RawS) : Prop where
  raw : ∀ r ∈ rs, RawOk m r
  w : ∀ r ∈ rs, (∃ j, r.w = way j) ∨ (r.w = back ∧ r.one < h)
  u : ∀ r ∈ rs, ∀ x ∈ r.rules, x ∈ U
  nd : (rs.map fun r => (r.one, r.w)).Nodup
theorem BackI.snoc {U : List Str} {h m : Nat} {rs : List RawS} (I : BackI U h m rs) {r : RawS} (h1 : RawOk m r) (h2 : r.w = back) (h3 : ∀ x ∈ r.rules, x ∈ U) (h4 : r.one = h) : BackI U (h + 1) m (rs ++ [r]) := by
  refine ⟨fun s hs => ?_, fun s hs => ?_, fun s hs => ?_, ?_⟩
  · rcases mem_snoc hs with q | rfl
    · exact I.raw s q
    · exact h1
  · rcases mem_snoc hs with q | rfl
    · exact (I.w s q).imp id fun q => ⟨q.1, by omega⟩
    · exact .inr ⟨h2, by omega⟩
  · rcases mem_snoc hs with q | rfl
    · exact I.u s q
    · exact h3
  · rw [List.map_append, List.nodup_append]
    refine ⟨I.nd, by simp, fun p hp q hq e => ?_⟩
    subst e
    simp only [List.map_cons, List.map_nil, List.mem_singleton] at hq
    obtain ⟨s, hs, es⟩ := List.mem_map.mp hp
    rw [hq] at es
    injection es with e1 e2
    rcases I.w s hs with ⟨j, q⟩ | ⟨_, q⟩
    · rw [q, h2] at e2; exact way_back e2
    · omega
theorem BackI.up {U : List Str} {h m : Nat} {rs : List RawS} (I : BackI U h m rs) : BackI U (h + 1) m rs :=
  ⟨I.raw, fun r hr => (I.w r hr).imp id fun q => ⟨q.1, by omega⟩, I.u, I.nd⟩
theorem eqT_strs (xs : List Str) : TL.eqT (.lst (sT xs)) (.lst []) = xs.isEmpty := by
  rw [eqT_nil]; cases xs <;> rfl
theorem okD_strs {xs : List Str} (h : ∀ x ∈ xs, okS x) : okD (.lst (sT xs)) = true := okD_lst (n := 0) (fun t ht => by
  obtain ⟨x, hx, rfl⟩ := List.mem_map.mp ht
  exact ⟨rfl, Nat.zero_le _, h x hx⟩) (by decide)
theorem d_x_led (E : Env g C) : Def g "_law_x_led" 2 3 (strT prPlay) := by
  refine mkDef E.f__law_x_led sc__law_x_led rfl (fun _ _ _ _ _ _ _ us hl => match us, hl with | [_, _], _ => rfl) ?_
  rintro us O Q hl ⟨a, c, k0, ts, R, rfl, s0, ⟨U, N, rfl, hU, hN, hNU, hk, rfl⟩, q⟩
  have big : 10000 ≤ sizeLine := by decide
  have hNl : N.length ≤ 12 := Nat.le_trans (nd_len hN hNU) hU.len
  refine ws_cons ?_
  refine par2 2 3 (w_int (w_lst True.intro ⟨Nat.zero_le _, .inr fun d hd => ?_⟩))
  have hda := s0.has.fresh hd
  have S0 : SL a c d k0 [] (sup O d (.lst [])) := ⟨s0.has.other hda.1 hda.2, hda.1, hda.2, sup_same⟩
  refine ws_cons (fr (wr1 E.b_range (w_bin o_add (w_int (drw E (by decide) (v 0 rfl ⟨a, c, rfl, w_int ⟨4, k0, rfl, by decide, by decide, S0.h, by omega, fun n4 O1 hn4 hh1 e1 => ⟨2, (n4 : Nat), rfl, rfl, True.intro, (2 + n4 : Nat), ?_, by omega, by omega, fun i ρ1 O3 => ∃ m x4 x5 x6 x7 x8 rs, ρ1 = [some (.cell a), some (.t (.lst (sT N))), some (.t (.int (m : Nat))), some (.cell d), x4, x5, x6, x7, x8, none] ∧ SL a c d (k0 + 1 + i * 200) rs O3 ∧ LedI U i m rs ∧ 2 ≤ m ∧ m ≤ 2 + i * 3 ∧ rs.length ≤ i * 3, ⟨2, none, none, none, none, none, [], rfl, S0.next hh1 e1, ⟨fun r hr => (by cases hr), fun r hr => (by cases hr), fun r hr => (by cases hr), List.nodup_nil⟩, Nat.le_refl _, Nat.le_refl _, Nat.zero_le _⟩, ?_, ?_⟩⟩⟩))))))
  · show Vl.t (T.int (2 + (n4 : Int))) = Vl.t (T.int ((2 + n4 : Nat) : Int))
    rw [Int.natCast_add]
    rfl
  · rintro i u ρ1 O3 hu ⟨m, x4, x5, x6, x7, x8, rs, rfl, SL3, LI, hm2, hmi, hrs⟩
    obtain ⟨rfl, hin⟩ := rng_at hu
    refine ⟨_, _, gn 4, ?_⟩
    refine ws_cons ?_
    refine par2 5 6 (w_slice (mxd E (by decide) (v 0 rfl ⟨a, c, rfl, v 1 rfl ⟨.lst (sT N), sT N, _, rfl, .inl rfl, by rw [List.length_map]; omega, SL3.h, by rw [List.length_map]; omega, fun out O4 hp hh4 e4 => ?_⟩⟩)))
    obtain ⟨M, hM, rfl⟩ := perm_map_inv hp
    have SL4 := SL3.next hh4 e4
    have Mnd : M.Nodup := hM.nodup_iff.mpr hN
    have MU : ∀ x ∈ M, x ∈ U := fun x hx => hNU x (hM.mem_iff.mp hx)
    rw [List.length_map] at SL4
    show W g _ _ _ _ _ _
    refine pck E (by decide) (v 0 rfl ⟨a, c, rfl, w_lst ⟨fun _ => rfl, fun _ => rfl, fun _ => rfl, fun _ => rfl, fun _ => rfl, fun _ => rfl, True.intro⟩ (w_int (w_int (w_int (w_int (w_int (w_int ⟨by show 6 ≤ sizeLine; omega, .inl ⟨[_, _, _, _, _, _], rfl, iT [1, 2, 2, 3, 3, 3], _, rfl, by decide, by decide, SL4.h, by omega, fun t O5 ht hh5 e5 => ?_⟩⟩))))))⟩)
    obtain ⟨b, hb, rfl⟩ := mem_iT ht
    have hb3 : b ≤ 3 := by simp at hb; omega
    have SL5 := SL4.next hh5 e5
    refine ⟨_, rfl, .inl ⟨sT M, rfl, ?_⟩⟩
    rw [cut_to, ← List.map_take]
    refine w_int ?_
    generalize hK : k0 + 1 + i * 200 + N.length + 1 = K at SL5
    refine ws_one (w1_while (fun z ρ2 O6 => ∃ (lot : List Str) (m here : Nat) (rs : List RawS), ∃ x7 x8, z = lot.length ∧ ρ2 = [some (.cell a), some (.t (.lst (sT N))), some (.t (.int (m : Nat))), some (.cell d), some (.t (.int (i : Nat))), some (.t (.lst (sT lot))), some (.t (.int (here : Nat))), x7, x8, none] ∧ lot.Nodup ∧ (∀ x ∈ lot, x ∈ U) ∧ lot.length ≤ 3 ∧ SL a c d (K + (3 - lot.length)) rs O6 ∧ LedI U (i + 1) m rs ∧ 2 ≤ m ∧ m + lot.length ≤ 2 + (i + 1) * 3 ∧ rs.length + lot.length ≤ (i + 1) * 3 ∧ here < m ∧ (lot = [] ∨ ∀ r ∈ rs, r.w = way i → r.one ≠ here)) ⟨_, M.take b, m, 0, rs, x7, x8, rfl, rfl, Mnd.sublist (List.take_sublist _ _), fun x hx => MU x (List.mem_of_mem_take hx), by rw [List.length_take]; omega, SL5.mono (Nat.le_add_right _ _), LI.up (Nat.le_succ _) (Nat.le_refl _), hm2, by rw [List.length_take]; omega, by rw [List.length_take]; omega, by omega, .inr fun r hr e => ?_⟩ ?_)
    · obtain ⟨j, h1, h2⟩ := LI.w r hr
      rw [h2] at e
      have := way_inj e
      omega
    rintro z ρ2 O6 ⟨lot, m, here, rs, x7, x8, rfl, rfl, lnd, lU, l3, SL6, LI, hm2, hmi, hrs, hh, hfree⟩
    have lok : ∀ x ∈ lot, okS x := fun x hx => hU.ok x (lU x hx)
    refine wb_cmp o_ne (v 5 rfl (w_lst True.intro ⟨Nat.zero_le _, .inl ⟨[], rfl, .lst (sT lot), .lst [], rfl, rfl, okD_strs lok, by decide, _, rfl, fun h => ?_, fun h => ?_⟩⟩)) rfl
    · have hne : lot ≠ [] := by
        rw [eqT_strs] at h
        intro e
        subst e
        cases h
      have hpos : 1 ≤ lot.length := by
        have := List.length_pos_iff.mpr hne
        omega
      have hfree : ∀ r ∈ rs, r.w = way i → r.one ≠ here := hfree.resolve_left hne
      refine ws_cons (st 7 (w_bin o_add (w_int (drw E (by decide) (v 0 rfl ⟨a, c, rfl, cB b_len E.b_len (v 5 rfl ⟨sT lot, .inl rfl, (sT lot).length, _, rfl, by rw [List.length_map]; omega, by rw [List.length_map]; omega, SL6.h, by omega, fun y O7 hy hh7 e7 => ⟨1, (y : Nat), rfl, rfl, True.intro, ?_⟩⟩)⟩)))))
      have SL7 := SL6.next hh7 e7
      rw [List.length_map] at hy
      have hy : y < lot.length := by omega
      have ey : (1 : Int) + (y : Nat) = ((y + 1 : Nat) : Int) := by omega
      show WS g 2 _ [some (.cell a), some (.t (.lst (sT N))), some (.t (.int (m : Nat))), some (.cell d), some (.t (.int (i : Nat))), some (.t (.lst (sT lot))), some (.t (.int (here : Nat))), some (.t (.int ((1 : Int) + (y : Nat)))), x8, none] _ _ _
      rw [ey]
      have main : ∀ (D : TD) (other m' : Nat), (∀ ρ' O', (∃ m', m' < lot.length ∧ (fun z ρ2 O6 => ∃ (lot : List Str) (m here : Nat) (rs : List RawS), ∃ x7 x8, z = lot.length ∧ ρ2 = [some (.cell a), some (.t (.lst (sT N))), some (.t (.int (m : Nat))), some (.cell d), some (.t (.int (i : Nat))), some (.t (.lst (sT lot))), some (.t (.int (here : Nat))), x7, x8, none] ∧ lot.Nodup ∧ (∀ x ∈ lot, x ∈ U) ∧ lot.length ≤ 3 ∧ SL a c d (K + (3 - lot.length)) rs O6 ∧ LedI U (i + 1) m rs ∧ 2 ≤ m ∧ m + lot.length ≤ 2 + (i + 1) * 3 ∧ rs.length + lot.length ≤ (i + 1) * 3 ∧ here < m ∧ (lot = [] ∨ ∀ r ∈ rs, r.w = way i → r.one ≠ here)) m' ρ' O') → D.nx ρ' O') → ((y + 1 = lot.length ∧ other = 1 ∧ m' = m) ∨ (y + 1 ≠ lot.length ∧ other = m ∧ m' = m + 1)) → WS g 2 (fS n__law_x_led (defScope s__law_x_led)) [some (.cell a), some (.t (.lst (sT N))), some (.t (.int (m : Nat))), some (.cell d), some (.t (.int (i : Nat))), some (.t (.lst (sT lot))), some (.t (.int (here : Nat))), some (.t (.int ((y + 1 : Nat) : Int))), some (.t (.int (other : Nat))), none] O7 (match (match (defBody s__law_x_led).getD 1 (.Pass ⟨0, 0, 0, 0⟩) with | .For _ _ b _ _ => b.getD 1 (.Pass ⟨0, 0, 0, 0⟩) | _ => .Pass ⟨0, 0, 0, 0⟩) with | .While _ b _ _ => b.drop 2 | _ => []) D := by
        intro D other m' hD hc
        have hom : other < m' ∧ m ≤ m' := by rcases hc with ⟨_, rfl, rfl⟩ | ⟨_, rfl, rfl⟩ <;> omega
        have hr : RawOk m' ⟨way i, here, other, lot.take (y + 1), [], []⟩ := ⟨(way_good i).dep, by show here < m'; omega, hom.1, fun x hx => hU.nm x (lU x (List.mem_of_mem_take hx)), lnd.sublist (List.take_sublist _ _), by show (lot.take (y + 1)).length ≤ 50; rw [List.length_take]; omega, fun x hx => (by cases hx), List.nodup_nil, Nat.zero_le _, rfl, fun x hx => (by cases hx)⟩
        refine ws_cons (sx (app (v 3 rfl ⟨d, rfl, ⟨_, SL7.l⟩, w_tup ⟨fun _ => rfl, fun _ => rfl, fun _ => rfl, fun _ => rfl, fun _ => rfl, True.intro⟩ (w_tup ⟨fun _ => rfl, fun _ => rfl, True.intro⟩ (w_str (v 4 rfl ⟨[_, _], rfl, by show 2 ≤ sizeLine; omega, v 6 rfl (v 8 rfl (w_slice (v 5 rfl ?_)))⟩)))⟩)))
        show W g _ _ _ _ _ _
        refine v 7 rfl ⟨((y + 1 : Nat) : Int), rfl, .inl ⟨sT lot, rfl, w_dnew (.inl ⟨[_, _, _, _, _], rfl, by show 5 ≤ sizeLine; omega, _, SL7.l, by rw [List.length_map, List.length_map]; omega, ?_⟩)⟩⟩
        rw [cut_to, ← List.map_take]
        have SL8 := SL7.snoc ⟨way i, here, other, lot.take (y + 1), [], []⟩
        refine ws_one ?_
        refine par3 6 2 5 (v 8 rfl (w_bin o_add (v 2 rfl (cT b_int E.b_int (w_cmp o_ne (v 8 rfl (w_int ⟨.int (other : Nat), .int 1, rfl, rfl, okD_int _, okD_int _, .inr ⟨_, rfl, ⟨(m : Nat), _, rfl, rfl, True.intro, w_slice (v 5 rfl ?_)⟩⟩⟩)) rfl)))))
        show W g _ _ _ _ _ _
        refine v 7 rfl ⟨((y + 1 : Nat) : Int), rfl, .inl ⟨sT lot, rfl, ?_⟩⟩
        rw [cut_from, ← List.map_drop]
        have em : ((m : Nat) : Int) + (if (!TL.eqT (.int (other : Nat)) (.int 1)) = true then 1 else 0) = ((m' : Nat) : Int) := by
          rw [eqT_int]
          rcases hc with ⟨_, rfl, rfl⟩ | ⟨_, rfl, rfl⟩
          · simp
          · have : ¬ ((other : Nat) : Int) = 1 := by omega
            simp [this]
        have ld : (lot.drop (y + 1)).length = lot.length - (y + 1) := List.length_drop
        refine hD _ _ ⟨(lot.drop (y + 1)).length, by omega, lot.drop (y + 1), m', other, rs ++ [⟨way i, here, other, lot.take (y + 1), [], []⟩], some (.t (.int ((y + 1 : Nat) : Int))), some (.t (.int (other : Nat))), rfl, ?_, lnd.sublist (List.drop_sublist _ _), fun x hx => lU x (List.mem_of_mem_drop hx), by omega, SL8.mono (by omega), (LI.up (Nat.le_refl _) hom.2).snoc hr rfl (fun x hx => lU x (List.mem_of_mem_take hx)) hfree, by omega, by rcases hc with ⟨_, rfl, rfl⟩ | ⟨_, rfl, rfl⟩ <;> omega, by rw [List.length_append, List.length_singleton]; omega, hom.1, ?_⟩
        · show ([some (.cell a), some (.t (.lst (sT N))), some (.t (.int (((m : Nat) : Int) + (if (!TL.eqT (.int (other : Nat)) (.int 1)) = true then 1 else 0)))), some (.cell d), some (.t (.int (i : Nat))), some (.t (.lst (sT (lot.drop (y + 1))))), some (.t (.int (other : Nat))), some (.t (.int ((y + 1 : Nat) : Int))), some (.t (.int (other : Nat))), none] : Rho) = _
          rw [em]
        · rcases hc with ⟨h1, rfl, rfl⟩ | ⟨h1, rfl, rfl⟩
          · exact .inl (List.length_eq_zero_iff.mp (by omega))
          · refine .inr fun s hs e => ?_
            rcases mem_snoc hs with hs | rfl
            · have := (LI.raw s hs).one
              omega
            · show here ≠ other
              omega
      refine ws_cons (st 8 (w_if (wb_cmp o_eq (v 7 rfl (cB b_len E.b_len (v 5 rfl ⟨sT lot, .inl rfl, .int ((y + 1 : Nat) : Int), .int (sT lot).length, rfl, rfl, okD_int _, okD_int _, _, rfl, fun h => w_int ?_, fun h => v 2 rfl ?_⟩))) rfl)))
      · rw [eqT_int, List.length_map] at h
        have h := of_decide_eq_true h
        exact main _ 1 m (fun _ _ h => h) (.inl ⟨by omega, rfl, rfl⟩)
      · rw [eqT_int, List.length_map] at h
        have h := of_decide_eq_false h
        exact main _ m (m + 1) (fun _ _ h => h) (.inr ⟨by omega, rfl, rfl⟩)
    · have hne : lot = [] := by
        rw [eqT_strs] at h
        cases lot with
        | nil => rfl
        | cons x l => cases h
      subst hne
      exact ⟨m, _, _, _, _, _, rs, rfl, SL6.mono (by show K + 3 ≤ _; omega), LI, hm2, by simpa using hmi, by simpa using hrs⟩
  · rintro ρ1 O3 ⟨m, x4, x5, x6, x7, x8, rs, rfl, SL3, LI, hm2, hmi, hrs⟩
    rw [rng_l] at SL3 LI hmi hrs
    generalize hK : k0 + 1 + (2 + n4) * 200 = K at SL3
    have hrs15 : rs.length ≤ 15 := by omega
    have hm17 : m ≤ 17 := by omega
    refine ws_cons (fr (wr1 E.b_range (v 2 rfl ⟨(m : Nat), rfl, by omega, by omega, fun h ρ2 O4 => ∃ x4 x5 x6 x7 x8 x9 rs, ρ2 = [some (.cell a), some (.t (.lst (sT N))), some (.t (.int (m : Nat))), some (.cell d), x4, x5, x6, x7, x8, x9] ∧ SL a c d (K + h * 30) rs O4 ∧ BackI U h m rs ∧ rs.length ≤ 15 + h, ⟨x4, x5, x6, x7, x8, none, rs, rfl, SL3, ⟨LI.raw, fun r hr => .inl (by obtain ⟨j, _, h2⟩ := LI.w r hr; exact ⟨j, h2⟩), LI.u, LI.nd⟩, hrs15⟩, ?_, ?_⟩)))
    · rintro h u ρ2 O4 hu ⟨x4, x5, x6, x7, x8, x9, rs, rfl, SL4, BI, hrl⟩
      obtain ⟨rfl, hhm⟩ := rng_at hu
      refine ⟨_, _, gn 6, ?_⟩
      refine ws_one (w1_if (wb_cmp o_eq (drw E (by decide) (v 0 rfl ⟨a, c, rfl, w_int ⟨3, _, rfl, by decide, by decide, SL4.h, by omega, fun y O5 hy hh5 e5 => w_int ⟨.int (y : Nat), .int 0, rfl, rfl, okD_int _, okD_int _, _, rfl, fun _ => ?_, fun _ => ws_nil ⟨_, _, _, _, _, _, rs, rfl, (SL4.next hh5 e5).mono (by omega), BI.up, by omega⟩⟩⟩⟩)) rfl))
      have SL5 := SL4.next hh5 e5
      refine ws_cons (st 9 (w_slice (mxd E (by decide) (v 0 rfl ⟨a, c, rfl, v 1 rfl ⟨.lst (sT N), sT N, _, rfl, .inl rfl, by rw [List.length_map]; omega, SL5.h, by rw [List.length_map]; omega, fun out O6 hp hh6 e6 => ?_⟩⟩))))
      obtain ⟨M, hM, rfl⟩ := perm_map_inv hp
      have SL6 := SL5.next hh6 e6
      have Mnd : M.Nodup := hM.nodup_iff.mpr hN
      have MU : ∀ x ∈ M, x ∈ U := fun x hx => hNU x (hM.mem_iff.mp hx)
      rw [List.length_map] at SL6
      show W g _ _ _ _ _ _
      refine drw E (by decide) (v 0 rfl ⟨a, c, rfl, w_int ⟨2, _, rfl, by decide, by decide, SL6.h, by omega, fun b O7 hb hh7 e7 => ⟨(b : Nat), rfl, .inl ⟨sT M, rfl, ?_⟩⟩⟩⟩)
      rw [cut_to, ← List.map_take]
      have SL7 := SL6.next hh7 e7
      refine ws_one (sx (app (v 3 rfl ⟨d, rfl, ⟨_, SL7.l⟩, w_tup ⟨fun _ => rfl, fun _ => rfl, fun _ => rfl, fun _ => rfl, fun _ => rfl, True.intro⟩ (w_str (v 6 rfl (pck E (by decide) (v 0 rfl ⟨a, c, rfl, w_lst ⟨fun _ => rfl, fun _ => rfl, True.intro⟩ (w_int (v 6 rfl ⟨by show 2 ≤ sizeLine; omega, .inl ⟨[_, _], rfl, _, _, rfl, by show 1 ≤ 2; decide, by show 2 < 2 ^ 30; decide, SL7.h, by omega, fun t O8 ht hh8 e8 => v 9 rfl (w_dnew (.inl ⟨[_, _, _, _, _], rfl, by show 5 ≤ sizeLine; omega, _, (SL7.next hh8 e8).l, by rw [List.length_map, List.length_map]; omega, ?_⟩))⟩⟩))⟩))))⟩)))
      have SL8 := SL7.next hh8 e8
      have ho : ∃ o : Nat, o < m ∧ t = .int (o : Nat) := by
        simp only [List.mem_cons, List.not_mem_nil, or_false] at ht
        rcases ht with rfl | rfl
        · exact ⟨0, by omega, rfl⟩
        · exact ⟨h, hhm, rfl⟩
      obtain ⟨o, hom, rfl⟩ := ho
      have hr : RawOk m ⟨back, h, o, M.take b, [], []⟩ := ⟨back_good.dep, hhm, hom, fun x hx => hU.nm x (MU x (List.mem_of_mem_take hx)), Mnd.sublist (List.take_sublist _ _), by show (M.take b).length ≤ 50; rw [List.length_take, hM.length_eq]; omega, fun x hx => (by cases hx), List.nodup_nil, Nat.zero_le _, rfl, fun x hx => (by cases hx)⟩
      refine ⟨_, _, _, _, _, _, rs ++ [⟨back, h, o, M.take b, [], []⟩], rfl, (SL8.snoc ⟨back, h, o, M.take b, [], []⟩).mono (by omega), BI.snoc hr rfl (fun x hx => MU x (List.mem_of_mem_take hx)) rfl, by rw [List.length_append, List.length_singleton]; omega⟩
    · rintro ρ2 O4 ⟨x4, x5, x6, x7, x8, x9, rs, rfl, SL4, BI, hrl⟩
      rw [rng_l] at SL4 BI hrl
      have D : Drawn U m rs [1] := ⟨by omega, by omega, by omega, BI.raw, fun r hr => by
        rcases BI.w r hr with ⟨j, e⟩ | ⟨e, _⟩
        · rw [e]; exact way_good j
        · rw [e]; exact back_good, BI.u, BI.nd, fun b hb => by
        rw [List.mem_singleton] at hb; omega, by decide⟩
      obtain ⟨O', s', sp⟩ := split_S SL4.h SL4.da SL4.dc SL4.l
      refine ws_one (w1_ret (w_retS (w_frzE (ρ' := [some (.cell a), some (.t (.lst (sT N))), some (.t (.int (m : Nat))), some (.t (.lst (rs.map rawT))), x4, x5, x6, x7, x8, x9]) sp (.keep (.keep (.keep (.frz (Frz.flat sup_same) (.keep (.keep (.keep (.keep (.keep (.keep .nil)))))))))) ?_)))
      refine w_tup ⟨fun _ => rfl, fun _ => rfl, fun _ => rfl, True.intro⟩ (v 2 rfl (mxd E (by decide) (v 0 rfl ⟨a, c, rfl, v 3 rfl ⟨_, rs.map rawT, _, rfl, .inl rfl, by rw [List.length_map]; omega, s'.has, by rw [List.length_map]; omega, fun out O13 hp hh13 e13 => w_lst ⟨fun _ => rfl, True.intro⟩ (w_int ⟨by show 1 ≤ sizeLine; omega, .inl ⟨[_], rfl, [_, _, _], rfl, by show 3 ≤ sizeLine; omega, ?_⟩⟩)⟩⟩)))
      obtain ⟨rs', hrs', rfl⟩ := perm_map_inv hp
      rw [List.length_map] at hh13
      exact ⟨a, c, k0 + 3000, _, hh13.mono (by omega), .inl rfl, fun O2 s2 => q _ _ ⟨rfl, m, rs', [1], rfl, D.perm hrs' (List.Perm.refl _), by decide⟩ O2 s2⟩
end Far
namespace Far
open PySem PySem.Spec PyProof.Rows L2 TL
variable {g : G} {C : Addr}
abbrev six : List Str := ["hold", "look", "order", "r9", "wait", "a1"]
theorem six_ok : UOk six := by
  refine ⟨by decide, by decide, fun x hx => ?_, fun x hx => ?_⟩
  · simp only [six, List.mem_cons, List.not_mem_nil, or_false] at hx
    rcases hx with rfl | rfl | rfl | rfl | rfl | rfl <;> decide
  · simp only [six, List.mem_cons, List.not_mem_nil, or_false] at hx
    rcases hx with rfl | rfl | rfl | rfl | rfl | rfl <;> exact okS_of (by decide +kernel)
abbrev prSome : SPre := fun ts k R => ts = [] ∧ k + 4000 < lim ∧ R = fun t k' => k' = k + 4000 ∧ ∃ n rs bs, t = drawnT n rs bs ∧ Drawn six n rs bs ∧ bs.length ≤ 20
theorem d_x_some (E : Env g C) : Def g "_law_x_some" 1 4 (strT prSome) := by
  refine mkDef E.f__law_x_some sc__law_x_some rfl (fun _ _ _ _ _ _ _ us hl => match us, hl with | [_], _ => rfl) ?_
  rintro us O Q hl ⟨a, c, k0, ts, R, rfl, s0, ⟨rfl, hk, rfl⟩, q⟩
  have big : 10000 ≤ sizeLine := by decide
  refine ws_cons (st 1 (w_slice (mxd E (by decide) (v 0 rfl ⟨a, c, rfl, w_lst ⟨fun _ => rfl, fun _ => rfl, fun _ => rfl, fun _ => rfl, fun _ => rfl, fun _ => rfl, True.intro⟩ (w_str (w_str (w_str (w_str (w_str (w_str ⟨by show 6 ≤ sizeLine; omega, .inl ⟨[_, _, _, _, _, _], rfl, .lst (sT six), sT six, _, rfl, .inl rfl, by decide, s0.has, by show k0 + 6 < lim; omega, fun out O4 hp hh4 e4 => ?_⟩⟩))))))⟩))))
  obtain ⟨M, hM, rfl⟩ := perm_map_inv hp
  have hh4 : Has O4 a c (k0 + 6) := hh4
  have Mnd : M.Nodup := hM.nodup_iff.mpr six_ok.nd
  have MU : ∀ x ∈ M, x ∈ six := fun x hx => hM.mem_iff.mp hx
  show W g _ _ _ _ _ _
  refine w_bin o_add (w_int (drw E (by decide) (v 0 rfl ⟨a, c, rfl, w_int ⟨4, _, rfl, by decide, by decide, hh4, by omega, fun y O5 hy hh5 e5 => ⟨3, (y : Nat), rfl, rfl, True.intro, (3 + y : Nat), ?_, .inl ⟨sT M, rfl, ?_⟩⟩⟩⟩)))
  · show Vl.t (T.int (3 + (y : Int))) = Vl.t (T.int ((3 + y : Nat) : Int))
    rw [Int.natCast_add]
    rfl
  rw [cut_to, ← List.map_take]
  generalize hL : M.take (3 + y) = L
  have Lnd : L.Nodup := by rw [← hL]; exact Mnd.sublist (List.take_sublist _ _)
  have LU : ∀ x ∈ L, x ∈ six := fun x hx => MU x (by rw [← hL] at hx; exact List.mem_of_mem_take hx)
  refine ws_one (w1_ret (w_retS (w_if (wb_cmp o_eq (drw E (by decide) (v 0 rfl ⟨a, c, rfl, w_int ⟨3, _, rfl, by decide, by decide, hh5, by omega, fun y O6 hy hh6 e6 => w_int ⟨.int (y : Nat), .int 0, rfl, rfl, okD_int _, okD_int _, _, rfl, fun _ => ?_, fun _ => ?_⟩⟩⟩)) rfl))))
  · refine cS (d_x_play E) (v 0 rfl (w_slice (v 1 rfl ?_)))
    show W g _ _ _ _ _ _
    refine w_int ⟨(4 : Nat), rfl, .inl ⟨sT L, rfl, ?_⟩⟩
    rw [cut_to, ← List.map_take]
    refine ⟨a, c, _, [.lst (sT (L.take 4))], _, rfl, hh6, ⟨six, L.take 4, rfl, six_ok, Lnd.sublist (List.take_sublist _ _), fun x hx => LU x (List.mem_of_mem_take hx), by omega, rfl⟩, ?_⟩
    rintro t k' ⟨rfl, n, rs, bs, rfl, D⟩ O7 hh7 e7
    exact ⟨a, c, k0 + 4000, _, hh7.mono (by omega), .inl rfl, fun O2 s2 => q _ _ ⟨rfl, n, rs, bs, rfl, D⟩ O2 s2⟩
  · refine cS (d_x_led E) (v 0 rfl (v 1 rfl ⟨a, c, _, [.lst (sT L)], _, rfl, hh6, ⟨six, L, rfl, six_ok, Lnd, LU, by omega, rfl⟩, ?_⟩))
    rintro t k' ⟨rfl, n, rs, bs, rfl, D⟩ O7 hh7 e7
    exact ⟨a, c, k0 + 4000, _, hh7.mono (by omega), .inl rfl, fun O2 s2 => q _ _ ⟨rfl, n, rs, bs, rfl, D⟩ O2 s2⟩
/-! ### the package's play of it -/
theorem loose_atom {t u : T} (h : isLT t = false) (l : Loose t u) : u = t := by
  cases l with
  | same _ _ => rfl
  | seq e _ _ => rw [(isLT_seq e).1] at h; cases h
theorem loose_seq {t u : T} {xs : List T} (e : t = .lst xs ∨ t = .tup xs) (l : Loose t u) : ∃ ys, (u = .lst ys ∨ u = .tup ys) ∧ LooseL xs ys := by
  cases l with
  | same _ h => rw [(isLT_seq e).1] at h; cases h
  | seq e1 e2 l =>
    have : ∀ {a b : List T}, (t = .lst a ∨ t = .tup a) → (t = .lst b ∨ t = .tup b) → a = b := by
      intro a b h1 h2
      rcases h1 with rfl | rfl <;> rcases h2 with h | h <;> first | cases h | (injection h)
      all_goals first | rfl | assumption
    have := this e e1
    subst this
    exact ⟨_, e2, l⟩
theorem looseL_len : ∀ {xs ys : List T}, LooseL xs ys → xs.length = ys.length
  | _, _, .nil => rfl
  | _, _, .cons _ l => congrArg (· + 1) (looseL_len l)
theorem looseL_at : ∀ {xs ys : List T} {i : Nat} {x y : T}, LooseL xs ys → xs[i]? = some x → ys[i]? = some y → Loose x y
  | _, _, _, _, _, .nil, h, _ => by simp at h
  | _, _, 0, _, _, .cons l _, h1, h2 => by simp at h1 h2; subst h1 h2; exact l
  | _, _, i + 1, _, _, .cons _ l, h1, h2 => looseL_at (i := i) l (by simpa using h1) (by simpa using h2)
theorem looseL_atoms : ∀ {xs ys : List T}, (∀ x ∈ xs, isLT x = false) → LooseL xs ys → ys = xs
  | _, _, _, .nil => rfl
  | _, _, h, .cons l r => by
    rw [loose_atom (h _ List.mem_cons_self) l, looseL_atoms (fun x hx => h x (List.mem_cons_of_mem _ hx)) r]
theorem sT_atoms (xs : List Str) : ∀ t ∈ sT xs, isLT t = false := fun t ht => by
  obtain ⟨x, _, rfl⟩ := List.mem_map.mp ht
  rfl
theorem iT_atoms (xs : List Nat) : ∀ t ∈ iT xs, isLT t = false := fun t ht => by
  obtain ⟨x, _, rfl⟩ := List.mem_map.mp ht
  rfl
theorem AtW.atom {k : NestedKey} (h : AtW k) : isLT (kT k) = false ∧ noIns (kT k) = true ∧ nodes (kT k) = 0 ∧ asW (kT k) = kT k ∧ ∀ d, wordD d (kT k) = true := by
  cases h with
  | num i => exact ⟨rfl, rfl, rfl, rfl, fun d => by cases d <;> rfl⟩
  | text x _ => exact ⟨rfl, rfl, rfl, rfl, fun d => by cases d <;> rfl⟩
theorem nodesL_0 : ∀ {xs : List T}, (∀ x ∈ xs, nodes x = 0) → nodesL xs = 0
  | [], _ => rfl
  | x :: xs, h => by rw [nodesL, h x List.mem_cons_self, nodesL_0 fun y hy => h y (List.mem_cons_of_mem _ hy)]
theorem GoodW.loose {k : NestedKey} (h : GoodW k) {u : T} (l : Loose (kT k) u) : wordD 2 u = true ∧ asW u = kT k := by
  cases h with
  | at_ h =>
    rw [loose_atom h.atom.1 l]
    exact ⟨h.atom.2.2.2.2 2, h.atom.2.2.2.1⟩
  | @tup ks h hl =>
    rw [kT_tup] at l
    obtain ⟨ys, e, l⟩ := loose_seq (.inr rfl) l
    have ey : ys = ks.map kT := looseL_atoms (fun t ht => by
      obtain ⟨k, hk, rfl⟩ := List.mem_map.mp ht
      exact (h k hk).atom.1) l
    subst ey
    have h1 : (ks.map kT).all (wordD 1) = true := List.all_eq_true.mpr fun t ht => by
      obtain ⟨k, hk, rfl⟩ := List.mem_map.mp ht
      exact (h k hk).atom.2.2.2.2 1
    have h2 : (ks.map kT).map asW = ks.map kT := by
      rw [List.map_map]
      exact List.map_congr_left fun k hk => (h k hk).atom.2.2.2.1
    rw [kT_tup]
    rcases e with rfl | rfl
    · refine ⟨?_, ?_⟩
      · show (decide ((ks.map kT).length ≤ 100) && (ks.map kT).all (wordD 1)) = true
        rw [h1, List.length_map, decide_eq_true hl]; rfl
      · show T.tup (asWs (ks.map kT)) = _
        rw [asWs_map, h2]
    · refine ⟨?_, ?_⟩
      · show (decide ((ks.map kT).length ≤ 100) && (ks.map kT).all (wordD 1)) = true
        rw [h1, List.length_map, decide_eq_true hl]; rfl
      · show T.tup (asWs (ks.map kT)) = _
        rw [asWs_map, h2]
theorem raw_loose {r : RawS} {t : T} (h : GoodW r.w) (l : Loose (rawT r) t) : IsRaw r t := by
  obtain ⟨ys, e, l⟩ := loose_seq (.inr rfl) l
  cases l with
  | @cons _ y1 _ _ l1 l =>
    cases l with
    | @cons _ y2 _ _ l2 l =>
      cases l with
      | @cons _ y3 _ _ l3 l =>
        cases l with
        | @cons _ y4 _ _ l4 l =>
          cases l with
          | @cons _ y5 _ _ l5 l =>
            cases l with
            | nil =>
              have e2 := loose_atom (by rfl) l2
              have e3 := loose_atom (by rfl) l3
              have e5 := loose_atom (by rfl) l5
              subst e2 e3 e5
              obtain ⟨zs, e4, l4⟩ := loose_seq (.inl rfl) l4
              have := looseL_atoms (sT_atoms r.rules) l4
              subst this
              obtain ⟨h1, h2⟩ := h.loose l1
              exact ⟨y1, y4, e, e4, h1, h2⟩
theorem raw_lvl {r : RawS} (h : GoodW r.w) (hr : r.rules.length ≤ 50) : lvl 2 (rawT r) := by
  refine .inr ⟨_, .inr rfl, by show 5 ≤ 10000; decide, fun x hx => ?_⟩
  simp only [List.mem_cons, List.not_mem_nil, or_false] at hx
  rcases hx with rfl | rfl | rfl | rfl | rfl
  · generalize r.w = w at h
    cases h with
    | at_ h => exact .inl ⟨h.atom.1, h.atom.2.1⟩
    | @tup ks h hl =>
      refine .inr ⟨ks.map kT, .inr (kT_tup ks), by rw [List.length_map]; omega, fun t ht => ?_⟩
      obtain ⟨k, hk, rfl⟩ := List.mem_map.mp ht
      exact ⟨(h k hk).atom.1, (h k hk).atom.2.1⟩
  · exact .inl ⟨rfl, rfl⟩
  · exact .inl ⟨rfl, rfl⟩
  · refine .inr ⟨sT r.rules, .inl rfl, by rw [List.length_map]; omega, fun t ht => ?_⟩
    obtain ⟨x, _, rfl⟩ := List.mem_map.mp ht
    exact ⟨rfl, rfl⟩
  · exact .inl ⟨rfl, rfl⟩
theorem raw_nodes {r : RawS} (h : GoodW r.w) : nodes (rawT r) ≤ 3 := by
  have h1 : nodes (kT r.w) ≤ 1 := by
    generalize r.w = w at h
    cases h with
    | at_ h => rw [h.atom.2.2.1]; decide
    | @tup ks h hl =>
      rw [kT_tup, nodes_seq (.inr rfl), nodesL_0 fun t ht => ?_]
      · exact Nat.le_refl _
      · obtain ⟨k, hk, rfl⟩ := List.mem_map.mp ht
        exact (h k hk).atom.2.2.1
  have h2 : nodes (.lst (sT r.rules)) = 1 := by
    rw [nodes_seq (.inl rfl), nodesL_0 fun t ht => ?_]
    obtain ⟨x, _, rfl⟩ := List.mem_map.mp ht
    rfl
  show nodesL [kT r.w, .int r.one, .int r.other, .lst (sT r.rules), .dic (r.sk.map .text) r.sv] + 1 ≤ 3
  simp only [nodesL]
  rw [h2]
  simp only [nodes]
  omega
theorem raws_nodes : ∀ {rs : List RawS}, (∀ r ∈ rs, GoodW r.w) → nodesL (rs.map rawT) ≤ rs.length * 3
  | [], _ => Nat.le_refl _
  | r :: rs, h => by
    have h1 := raw_nodes (h r List.mem_cons_self)
    have h2 := raws_nodes fun x hx => h x (List.mem_cons_of_mem _ hx)
    rw [List.map_cons, nodesL, List.length_cons]
    omega
abbrev prMade (C : Addr) : SPre := fun ts k R => ∃ U n rs bs, ts = [drawnT n rs bs] ∧ Drawn U n rs bs ∧ k + 500 < lim ∧ R = fun t k' => k' = k + 500 ∧ ∃ rows bad, t = plT C rows bad ∧ Made n rs bs rows bad
theorem d_x_made (E : Env g C) : Def g "_law_x_made" 2 9 (strT (prMade C)) := by
  refine mkDef E.f__law_x_made sc__law_x_made rfl (fun _ _ _ _ _ _ _ us hl => match us, hl with | [_, _], _ => rfl) ?_
  rintro us O Q hl ⟨a, c, k0, ts, R, rfl, s0, ⟨U, n, rs, bs, rfl, D, hk, rfl⟩, q⟩
  have big : 10000 ≤ sizeLine := by decide
  have hrn := raws_nodes D.w
  have hrl := D.len
  have n1 : nodes (.lst (rs.map rawT)) ≤ 181 := by rw [nodes_seq (.inl rfl)]; omega
  have n2 : nodes (.lst (iT bs)) = 1 := by
    rw [nodes_seq (.inl rfl), nodesL_0 fun t ht => ?_]
    obtain ⟨x, _, rfl⟩ := List.mem_map.mp ht
    rfl
  refine ws_one (w1_ret (w_retS (w_make (d_init E) (Nat.le_refl _) rfl ⟨fun _ => rfl, fun _ => rfl, fun _ => rfl, True.intro⟩ rfl ?_)))
  refine ix x_seq (v 1 rfl (w_int ⟨_, 0, .int n, .inr rfl, rfl, at_nat (j := 0) rfl, ?_⟩))
  refine cS (d_loose E 3) (v 0 rfl (ix x_seq (v 1 rfl (w_int ⟨_, 1, .lst (rs.map rawT), .inr rfl, rfl, at_nat (j := 1) rfl, a, c, k0, [.lst (rs.map rawT)], _, rfl, s0.has, ⟨_, rfl, .inr ⟨_, .inl rfl, by rw [List.length_map]; omega, fun t ht => ?_⟩, by omega, rfl⟩, ?_⟩))))
  · obtain ⟨r, hr, rfl⟩ := List.mem_map.mp ht
    exact raw_lvl (D.w r hr) (D.raw r hr).len
  rintro t1 k' ⟨rfl, l1⟩ O3 hh3 e3
  have hbl := D.blen
  refine cS (d_loose E 1) (v 0 rfl (ix x_seq (v 1 rfl (w_int ⟨_, 2, .lst (iT bs), .inr rfl, rfl, at_nat (j := 2) rfl, a, c, _, [.lst (iT bs)], _, rfl, hh3, ⟨_, rfl, .inr ⟨_, .inl rfl, by rw [List.length_map]; omega, fun t ht => ?_⟩, by omega, rfl⟩, ?_⟩))))
  · obtain ⟨x, _, rfl⟩ := List.mem_map.mp ht
    exact ⟨rfl, rfl⟩
  rintro t2 k' ⟨rfl, l2⟩ O4 hh4 e4
  obtain ⟨ss, e1, l1⟩ := loose_seq (.inl rfl) l1
  obtain ⟨zs, e2, l2⟩ := loose_seq (.inl rfl) l2
  have := looseL_atoms (iT_atoms bs) l2
  subst this
  have hlen := looseL_len l1
  rw [List.length_map] at hlen
  refine ⟨[.int n, t1, t2], rfl, fun d => ⟨d, t1, t2, ss, n, rs, bs, rfl, rfl, D.given, e1, hlen.symm, fun i s r h1 h2 => ?_, e2, fun rows bad hM => ⟨rfl, plT C rows bad, .ins sup_same (FrzL.ts [_, _]), ?_⟩⟩⟩
  · exact raw_loose (D.w r (List.mem_of_getElem? h2)) (looseL_at l1 (by rw [List.getElem?_map, h2]; rfl) h1)
  · exact ⟨a, c, k0 + 500, _, hh4.mono (by omega), .inl rfl, fun O2 s2 => q _ _ ⟨rfl, rows, bad, rfl, hM⟩ O2 s2⟩
end Far
/-! The plain law of the play of six pairs. -/
namespace Far
open PySem PySem.Spec PyProof.Rows L2 TL
structure Prs (M : List Str) (X Y : Nat → Str) : Prop where
  xi : ∀ i j, i < 6 → j < 6 → X i = X j → i = j
  yi : ∀ i j, i < 6 → j < 6 → Y i = Y j → i = j
  xy : ∀ i j, i < 6 → j < 6 → X i ≠ Y j
  mem : ∀ a, a ∈ M ↔ ∃ k, k < 6 ∧ (a = X k ∨ a = Y k)
  nd : M.Nodup
def chN (X Y : Nat → Str) : Nat → List (List Str)
  | 0 => [[]]
  | k + 1 => (chN X Y k).map (· ++ [X k]) ++ (chN X Y k).map (· ++ [Y k])
def pairS (X Y : Nat → Str) (k : Nat) : SetS := sortS [X k, Y k]
def lots6 (X Y : Nat → Str) : List SetS := sortX ((List.range 6).map (pairS X Y))
def least6 (X Y : Nat → Str) : List SetS := sortX ((chN X Y 6).map sortS)
def great6 (M : List Str) (X Y : Nat → Str) : List SetS := sortX ((List.range 6).map fun k => without (sortS M) [X k, Y k])
section
variable {M : List Str} {X Y : Nat → Str}
theorem pairS_mem {k : Nat} {a : Str} : a ∈ pairS X Y k ↔ a = X k ∨ a = Y k := by
  unfold pairS
  rw [sortS_mem]
  simp
theorem pairS_srt (P : Prs M X Y) {k : Nat} (hk : k < 6) : Srt (pairS X Y k) := sortS_srt (by
  have := P.xy k k hk hk
  simp [this])
theorem pairS_len (k : Nat) : (pairS X Y k).length = 2 := by unfold pairS; rw [sortS_len]; rfl
/-- one of each pair -/
structure One (X Y : Nat → Str) (m : Nat) (z : List Str) : Prop where
  nd : z.Nodup
  len : z.length = m
  mem : ∀ a ∈ z, ∃ k, k < m ∧ (a = X k ∨ a = Y k)
  one : ∀ k, k < m → (X k ∈ z ∧ Y k ∉ z) ∨ (X k ∉ z ∧ Y k ∈ z)
theorem One.snoc (P : Prs M X Y) {m : Nat} (hm : m < 6) {z : List Str} (o : One X Y m z) {c d : Str} (h : (c = X m ∧ d = Y m) ∨ (c = Y m ∧ d = X m)) : One X Y (m + 1) (z ++ [c]) := by
  have hX : X m ∉ z := fun q => by
    obtain ⟨k, hk, e | e⟩ := o.mem _ q
    · have := P.xi m k hm (by omega) e; omega
    · exact P.xy m k hm (by omega) e
  have hY : Y m ∉ z := fun q => by
    obtain ⟨k, hk, e | e⟩ := o.mem _ q
    · exact P.xy k m (by omega) hm e.symm
    · have := P.yi m k hm (by omega) e; omega
  have hc : c ∉ z := by rcases h with ⟨rfl, _⟩ | ⟨rfl, _⟩ <;> assumption
  refine ⟨?_, by simp [o.len], fun a ha => ?_, fun k hk => ?_⟩
  · rw [List.nodup_append]
    refine ⟨o.nd, by simp, fun a ha b hb e => ?_⟩
    rw [List.mem_singleton] at hb
    subst hb e
    exact hc ha
  · rcases mem_snoc ha with q | rfl
    · obtain ⟨k, hk, e⟩ := o.mem a q
      exact ⟨k, by omega, e⟩
    · refine ⟨m, by omega, ?_⟩
      rcases h with ⟨rfl, _⟩ | ⟨rfl, _⟩
      · exact .inl rfl
      · exact .inr rfl
  · simp only [List.mem_append, List.mem_singleton, not_or]
    by_cases e : k = m
    · subst e
      have := P.xy k k hm hm
      rcases h with ⟨rfl, _⟩ | ⟨rfl, _⟩
      · exact .inl ⟨.inr rfl, hY, fun q => this q.symm⟩
      · exact .inr ⟨⟨hX, this⟩, .inr rfl⟩
    · have hk' : k < m := by omega
      have c1 : c ≠ X k := by
        rcases h with ⟨rfl, _⟩ | ⟨rfl, _⟩
        · intro q; have := P.xi m k hm (by omega) q; omega
        · intro q; exact P.xy k m (by omega) hm q.symm
      have c2 : c ≠ Y k := by
        rcases h with ⟨rfl, _⟩ | ⟨rfl, _⟩
        · intro q; exact P.xy m k hm (by omega) q
        · intro q; have := P.yi m k hm (by omega) q; omega
      rcases o.one k hk' with ⟨h1, h2⟩ | ⟨h1, h2⟩
      · exact .inl ⟨.inl h1, h2, fun q => c2 q.symm⟩
      · exact .inr ⟨⟨h1, fun q => c1 q.symm⟩, .inl h2⟩
theorem chN_one (P : Prs M X Y) : ∀ {m : Nat}, m ≤ 6 → ∀ z ∈ chN X Y m, One X Y m z
  | 0, _, z, hz => by
    rw [chN, List.mem_singleton] at hz
    subst hz
    exact ⟨List.nodup_nil, rfl, fun a ha => (by cases ha), fun k hk => absurd hk (Nat.not_lt_zero k)⟩
  | m + 1, hm, z, hz => by
    rw [chN, List.mem_append] at hz
    rcases hz with hz | hz
    · obtain ⟨y, hy, rfl⟩ := List.mem_map.mp hz
      exact (chN_one P (by omega) y hy).snoc P (by omega) (.inl ⟨rfl, rfl⟩)
    · obtain ⟨y, hy, rfl⟩ := List.mem_map.mp hz
      exact (chN_one P (by omega) y hy).snoc P (by omega) (.inr ⟨rfl, rfl⟩)
theorem chN_has (P : Prs M X Y) {x : List Str} (h : ∀ k, k < 6 → (X k ∈ x ∧ Y k ∉ x) ∨ (X k ∉ x ∧ Y k ∈ x)) : ∀ {m : Nat}, m ≤ 6 → ∃ z ∈ chN X Y m, ∀ a, a ∈ z ↔ a ∈ x ∧ ∃ k, k < m ∧ (a = X k ∨ a = Y k)
  | 0, _ => ⟨[], by simp [chN], fun a => ⟨fun h => (by cases h), fun ⟨_, k, hk, _⟩ => absurd hk (Nat.not_lt_zero k)⟩⟩
  | m + 1, hm => by
    obtain ⟨z, hz, hz2⟩ := chN_has P h (m := m) (by omega)
    rcases h m (by omega) with ⟨h1, h2⟩ | ⟨h1, h2⟩
    · refine ⟨z ++ [X m], by rw [chN, List.mem_append]; exact .inl (List.mem_map.mpr ⟨z, hz, rfl⟩), fun a => ?_⟩
      rw [List.mem_append, List.mem_singleton, hz2]
      constructor
      · rintro (⟨q, k, hk, e⟩ | rfl)
        · exact ⟨q, k, by omega, e⟩
        · exact ⟨h1, m, by omega, .inl rfl⟩
      · rintro ⟨q, k, hk, e⟩
        by_cases ek : k = m
        · subst ek
          rcases e with rfl | rfl
          · exact .inr rfl
          · exact absurd q h2
        · exact .inl ⟨q, k, by omega, e⟩
    · refine ⟨z ++ [Y m], by rw [chN, List.mem_append]; exact .inr (List.mem_map.mpr ⟨z, hz, rfl⟩), fun a => ?_⟩
      rw [List.mem_append, List.mem_singleton, hz2]
      constructor
      · rintro (⟨q, k, hk, e⟩ | rfl)
        · exact ⟨q, k, by omega, e⟩
        · exact ⟨h2, m, by omega, .inr rfl⟩
      · rintro ⟨q, k, hk, e⟩
        by_cases ek : k = m
        · subst ek
          rcases e with rfl | rfl
          · exact absurd q h1
          · exact .inr rfl
        · exact .inl ⟨q, k, by omega, e⟩
def Dif (z z' : List Str) : Prop := ∃ a, (a ∈ z ∧ a ∉ z') ∨ (a ∉ z ∧ a ∈ z')
theorem chN_dif (P : Prs M X Y) : ∀ {m : Nat}, m ≤ 6 → (chN X Y m).Pairwise Dif
  | 0, _ => List.pairwise_singleton _ _
  | m + 1, hm => by
    have ih := chN_dif P (m := m) (by omega)
    have one := chN_one P (m := m) (by omega)
    have fresh : ∀ z ∈ chN X Y m, X m ∉ z ∧ Y m ∉ z := fun z hz => by
      constructor
      · intro q
        obtain ⟨k, hk, e | e⟩ := (one z hz).mem _ q
        · have := P.xi m k (by omega) (by omega) e; omega
        · exact P.xy m k (by omega) (by omega) e
      · intro q
        obtain ⟨k, hk, e | e⟩ := (one z hz).mem _ q
        · exact P.xy k m (by omega) (by omega) e.symm
        · have := P.yi m k (by omega) (by omega) e; omega
    have keep : ∀ c, (c = X m ∨ c = Y m) → ((chN X Y m).map (· ++ [c])).Pairwise Dif := fun c hc => by
      rw [List.pairwise_map]
      refine ih.imp_of_mem fun {z z'} hz hz' ⟨a, h⟩ => ?_
      have ne : ∀ {w}, w ∈ chN X Y m → a ∈ w → a ≠ c := fun hw ha e => by
        subst e
        rcases hc with rfl | rfl
        · exact (fresh _ hw).1 ha
        · exact (fresh _ hw).2 ha
      refine ⟨a, ?_⟩
      simp only [List.mem_append, List.mem_singleton, not_or]
      rcases h with ⟨h1, h2⟩ | ⟨h1, h2⟩
      · exact .inl ⟨.inl h1, h2, ne hz h1⟩
      · exact .inr ⟨⟨h1, ne hz' h2⟩, .inl h2⟩
    rw [chN, List.pairwise_append]
    refine ⟨keep _ (.inl rfl), keep _ (.inr rfl), fun z hz z' hz' => ?_⟩
    obtain ⟨y, hy, rfl⟩ := List.mem_map.mp hz
    obtain ⟨y', hy', rfl⟩ := List.mem_map.mp hz'
    refine ⟨X m, .inl ⟨by simp, fun q => ?_⟩⟩
    rcases mem_snoc q with q | q
    · exact (fresh y' hy').1 q
    · exact P.xy m m (by omega) (by omega) q
theorem chN_len : ∀ m, (chN X Y m).length = 2 ^ m
  | 0 => rfl
  | m + 1 => by rw [chN, List.length_append, List.length_map, List.length_map, chN_len m, Nat.pow_succ]; omega
theorem lex_ltK {L : List SetS} {n : Nat} (h : L.Pairwise fun a b => lexB a b = true) (hl : ∀ x ∈ L, x.length = n) : L.Pairwise ltK :=
  h.imp_of_mem fun {a b} ha hb q => by
    unfold ltK ltKb
    rw [if_pos (by rw [hl a ha, hl b hb])]
    exact q
theorem sortX_mem {L : List SetS} {x : SetS} : x ∈ sortX L ↔ x ∈ L := (sortX_perm L).mem_iff
/-- the threats -/
theorem lots6_mem {x : SetS} : x ∈ lots6 X Y ↔ ∃ k, k < 6 ∧ x = pairS X Y k := by
  unfold lots6
  rw [sortX_mem, List.mem_map]
  constructor
  · rintro ⟨k, hk, rfl⟩
    exact ⟨k, List.mem_range.mp hk, rfl⟩
  · rintro ⟨k, hk, rfl⟩
    exact ⟨k, List.mem_range.mpr hk, rfl⟩
theorem nodup_range_map {α : Type} {f : Nat → α} (h : ∀ i j, i < 6 → j < 6 → f i = f j → i = j) : ((List.range 6).map f).Nodup := by
  rw [List.Nodup, List.pairwise_map]
  refine (List.nodup_range (n := 6)).imp_of_mem fun {i j} hi hj hne e => ?_
  exact hne (h i j (List.mem_range.mp hi) (List.mem_range.mp hj) e)
theorem pairS_inj (P : Prs M X Y) {i j : Nat} (hi : i < 6) (hj : j < 6) (e : pairS X Y i = pairS X Y j) : i = j := by
  have : X i ∈ pairS X Y j := by rw [← e]; exact pairS_mem.mpr (.inl rfl)
  rcases pairS_mem.mp this with q | q
  · exact P.xi i j hi hj q
  · exact absurd q (P.xy i j hi hj)
theorem lots6_pw (P : Prs M X Y) : (lots6 X Y).Pairwise ltK :=
  lex_ltK (n := 2) (sortX_srt (nodup_range_map fun i j hi hj e => pairS_inj P hi hj e)) fun x hx => by
    obtain ⟨k, _, rfl⟩ := lots6_mem.mp hx
    exact pairS_len k
def Br6 (X Y : Nat → Str) (x : SetS) : Prop := Srt x ∧ ∃ k, k < 6 ∧ X k ∈ x ∧ Y k ∈ x
theorem min6 (P : Prs M X Y) {x : SetS} : MinIn (Br6 X Y) x ↔ x ∈ lots6 X Y := by
  rw [lots6_mem]
  have sub : ∀ {k y}, X k ∈ y → Y k ∈ y → Sb (pairS X Y k) y := fun h1 h2 a ha => by
    rcases pairS_mem.mp ha with rfl | rfl <;> assumption
  have br : ∀ {k}, k < 6 → Br6 X Y (pairS X Y k) := fun {k} hk => ⟨pairS_srt P hk, k, hk, pairS_mem.mpr (.inl rfl), pairS_mem.mpr (.inr rfl)⟩
  constructor
  · rintro ⟨⟨_, k, hk, h1, h2⟩, h3⟩
    exact ⟨k, hk, (h3 _ (br hk) (sub h1 h2)).symm⟩
  · rintro ⟨k, hk, rfl⟩
    refine ⟨br hk, fun y ⟨hy, j, hj, h1, h2⟩ hs => ?_⟩
    have hx := P.xy j j hj hj
    refine Sb.antisymm hy (pairS_srt P hk) hs (sub ?_ ?_)
    · rcases pairS_mem.mp (hs _ h1) with q | q
      · rw [← q]; exact h1
      · rcases pairS_mem.mp (hs _ h2) with q2 | q2
        · rw [← q2]; exact h2
        · exact absurd (q.trans q2.symm) hx
    · rcases pairS_mem.mp (hs _ h2) with q | q
      · rcases pairS_mem.mp (hs _ h1) with q2 | q2
        · exact absurd (q2.trans q.symm) hx
        · rw [← q2]; exact h1
      · rw [← q]; exact h2
/-- one of each pair -/
def T6 (M : List Str) (X Y : Nat → Str) (x : SetS) : Prop := Srt x ∧ (∀ a ∈ x, a ∈ M) ∧ ∀ k, k < 6 → (X k ∈ x ∧ Y k ∉ x) ∨ (X k ∉ x ∧ Y k ∈ x)
theorem hit6 (P : Prs M X Y) {x : SetS} : MinHit (lots6 X Y) x ↔ T6 M X Y x := by
  have xm : ∀ k, k < 6 → X k ∈ M := fun k hk => (P.mem _).mpr ⟨k, hk, .inl rfl⟩
  have ym : ∀ k, k < 6 → Y k ∈ M := fun k hk => (P.mem _).mpr ⟨k, hk, .inr rfl⟩
  have hh : ∀ {y : SetS}, Hit (lots6 X Y) y ↔ ∀ k, k < 6 → X k ∈ y ∨ Y k ∈ y := fun {y} => by
    constructor
    · intro h k hk
      obtain ⟨a, h1, h2⟩ := h _ (lots6_mem.mpr ⟨k, hk, rfl⟩)
      rcases pairS_mem.mp h1 with rfl | rfl
      · exact .inl h2
      · exact .inr h2
    · intro h l hl
      obtain ⟨k, hk, rfl⟩ := lots6_mem.mp hl
      rcases h k hk with q | q
      · exact ⟨_, pairS_mem.mpr (.inl rfl), q⟩
      · exact ⟨_, pairS_mem.mpr (.inr rfl), q⟩
  constructor
  · intro h
    refine ⟨h.1.1, minhit_sub (U := M) (fun l hl a ha => ?_) h, fun k hk => ?_⟩
    · obtain ⟨k, hk, rfl⟩ := lots6_mem.mp hl
      exact (P.mem a).mpr ⟨k, hk, pairS_mem.mp ha⟩
    · have h1 := hh.mp h.1.2
      by_cases q1 : X k ∈ x
      · by_cases q2 : Y k ∈ x
        · exfalso
          have hs : Srt (x.filter fun a => !decide (a = X k)) := h.1.1.filter _
          have hm : ∀ a, a ∈ (x.filter fun a => !decide (a = X k)) ↔ a ∈ x ∧ a ≠ X k := fun a => by
            rw [List.mem_filter]; simp
          have := h.2 _ ⟨hs, hh.mpr fun j hj => ?_⟩ fun a ha => ((hm a).mp ha).1
          · rw [← this] at q1
            exact ((hm _).mp q1).2 rfl
          · by_cases e : j = k
            · subst e
              exact .inr ((hm _).mpr ⟨q2, fun q => P.xy j j hk hk q.symm⟩)
            · rcases h1 j hj with q | q
              · exact .inl ((hm _).mpr ⟨q, fun q => e (P.xi j k hj hk q)⟩)
              · exact .inr ((hm _).mpr ⟨q, fun q => P.xy k j hk hj q.symm⟩)
        · exact .inl ⟨q1, q2⟩
      · exact .inr ⟨q1, (h1 k hk).resolve_left q1⟩
  · rintro ⟨h1, h2, h3⟩
    refine ⟨⟨h1, hh.mpr fun k hk => (h3 k hk).imp (·.1) (·.2)⟩, fun y hy hs => Sb.antisymm hy.1 h1 hs fun a ha => ?_⟩
    obtain ⟨k, hk, e⟩ := (P.mem a).mp (h2 a ha)
    have hy2 := hh.mp hy.2 k hk
    rcases e with rfl | rfl
    · rcases hy2 with q | q
      · exact q
      · rcases h3 k hk with ⟨_, z⟩ | ⟨z, _⟩
        · exact absurd (hs _ q) z
        · exact absurd ha z
    · rcases hy2 with q | q
      · rcases h3 k hk with ⟨_, z⟩ | ⟨z, _⟩
        · exact absurd ha z
        · exact absurd (hs _ q) z
      · exact q
theorem least6_mem (P : Prs M X Y) {x : SetS} : x ∈ least6 X Y ↔ MinHit (lots6 X Y) x := by
  rw [hit6 P]
  unfold least6
  rw [sortX_mem, List.mem_map]
  constructor
  · rintro ⟨z, hz, rfl⟩
    have o := chN_one P (Nat.le_refl 6) z hz
    refine ⟨sortS_srt o.nd, fun a ha => ?_, fun k hk => ?_⟩
    · exact (P.mem a).mpr (o.mem a (sortS_mem.mp ha))
    · rw [sortS_mem, sortS_mem]; exact o.one k hk
  · rintro ⟨h1, h2, h3⟩
    obtain ⟨z, hz, hm⟩ := chN_has P h3 (Nat.le_refl 6)
    refine ⟨z, hz, srt_ext (sortS_srt (chN_one P (Nat.le_refl 6) z hz).nd) h1 fun a => ?_⟩
    rw [sortS_mem, hm]
    exact ⟨fun h => h.1, fun h => ⟨h, (P.mem a).mp (h2 a h)⟩⟩
theorem least6_len' (P : Prs M X Y) {x : SetS} (h : x ∈ least6 X Y) : x.length = 6 := by
  unfold least6 at h
  rw [sortX_mem, List.mem_map] at h
  obtain ⟨z, hz, rfl⟩ := h
  rw [sortS_len]
  exact (chN_one P (Nat.le_refl 6) z hz).len
theorem least6_len : (least6 X Y).length = 64 := by
  unfold least6
  rw [(sortX_perm _).length_eq, List.length_map, chN_len]
theorem least6_pw (P : Prs M X Y) : (least6 X Y).Pairwise ltK := by
  refine lex_ltK (n := 6) (sortX_srt ?_) fun x hx => least6_len' P hx
  rw [List.Nodup, List.pairwise_map]
  refine (chN_dif P (Nat.le_refl 6)).imp fun {z z'} ⟨a, h⟩ e => ?_
  have : a ∈ z ↔ a ∈ z' := by rw [← sortS_mem (xs := z), e, sortS_mem]
  rcases h with ⟨h1, h2⟩ | ⟨h1, h2⟩
  · exact h2 (this.mp h1)
  · exact h1 (this.mpr h2)
/-- the greatest that break -/
theorem without_pair (k : Nat) : without (sortS M) [X k, Y k] = without (sortS M) (pairS X Y k) := by
  unfold without
  refine List.filter_congr fun a _ => ?_
  congr 1
  have : a ∈ [X k, Y k] ↔ a ∈ pairS X Y k := by rw [pairS_mem]; simp
  simp only [this]
theorem great6_mem {x : SetS} : x ∈ great6 M X Y ↔ ∃ t ∈ lots6 X Y, x = without (sortS M) t := by
  unfold great6
  rw [sortX_mem, List.mem_map]
  constructor
  · rintro ⟨k, hk, rfl⟩
    exact ⟨_, lots6_mem.mpr ⟨k, List.mem_range.mp hk, rfl⟩, without_pair k⟩
  · rintro ⟨t, ht, rfl⟩
    obtain ⟨k, hk, rfl⟩ := lots6_mem.mp ht
    exact ⟨k, List.mem_range.mpr hk, without_pair k⟩
theorem without_len {N t : SetS} (hN : Srt N) (ht : Srt t) (hs : Sb t N) : (without N t).length + t.length = N.length := by
  have h1 : N.filter (fun a => decide (a ∈ t)) = t := srt_ext (hN.filter _) ht fun a => by
    rw [List.mem_filter]
    exact ⟨fun h => of_decide_eq_true h.2, fun h => ⟨hs a h, decide_eq_true h⟩⟩
  have h2 : ∀ L : List Str, (L.filter fun a => !decide (a ∈ t)).length + (L.filter fun a => decide (a ∈ t)).length = L.length := by
    intro L
    induction L with
    | nil => rfl
    | cons b L ih =>
      rw [List.filter_cons, List.filter_cons]
      by_cases q : b ∈ t
      · rw [decide_eq_true q]
        simp only [Bool.not_true, Bool.false_eq_true, if_false, if_true, List.length_cons]
        omega
      · rw [decide_eq_false q]
        simp only [Bool.not_false, Bool.false_eq_true, if_false, if_true, List.length_cons]
        omega
  have := h2 N
  rw [h1] at this
  exact this
theorem pairS_sub (P : Prs M X Y) {k : Nat} (hk : k < 6) : Sb (pairS X Y k) (sortS M) := fun a ha => sortS_mem.mpr ((P.mem a).mpr ⟨k, hk, pairS_mem.mp ha⟩)
theorem great6_pw (P : Prs M X Y) : (great6 M X Y).Pairwise ltK := by
  have hN : Srt (sortS M) := sortS_srt P.nd
  refine lex_ltK (n := (sortS M).length - 2) (sortX_srt (nodup_range_map fun i j hi hj e => ?_)) fun x hx => ?_
  · rw [without_pair, without_pair] at e
    refine pairS_inj P hi hj (srt_ext (pairS_srt P hi) (pairS_srt P hj) fun a => ?_)
    have h := fun a => (show a ∈ without (sortS M) (pairS X Y i) ↔ a ∈ without (sortS M) (pairS X Y j) by rw [e])
    have h := h a
    rw [without_mem, without_mem] at h
    constructor
    · intro q
      by_cases z : a ∈ pairS X Y j
      · exact z
      · exact absurd q (h.mpr ⟨pairS_sub P hi a q, z⟩).2
    · intro q
      by_cases z : a ∈ pairS X Y i
      · exact z
      · exact absurd q (h.mp ⟨pairS_sub P hj a q, z⟩).2
  · obtain ⟨t, ht, rfl⟩ := great6_mem.mp hx
    obtain ⟨k, hk, rfl⟩ := lots6_mem.mp ht
    have := without_len hN (pairS_srt P hk) (pairS_sub P hk)
    rw [pairS_len] at this
    omega
end
end Far
namespace Far
open PySem PySem.Spec PyProof.Rows L2 TL
variable {g : G} {C : Addr}
abbrev twelve : List Str := ["a", "b2", "c", "hold", "k9", "m", "n1", "order", "p", "twelvesigns1", "y", "z"]
theorem twelve_ok : UOk twelve := by
  refine ⟨by decide, by decide, fun x hx => ?_, fun x hx => ?_⟩
  · simp only [twelve, List.mem_cons, List.not_mem_nil, or_false] at hx
    rcases hx with rfl | rfl | rfl | rfl | rfl | rfl | rfl | rfl | rfl | rfl | rfl | rfl <;> decide
  · simp only [twelve, List.mem_cons, List.not_mem_nil, or_false] at hx
    rcases hx with rfl | rfl | rfl | rfl | rfl | rfl | rfl | rfl | rfl | rfl | rfl | rfl <;> exact okS_of (by decide +kernel)
abbrev onW : NestedKey := .text "on"
theorem on_good : GoodW onW := .at_ (.text _ (okS_of (by decide +kernel)))
def wayR (X : Nat → Str) (k : Nat) : RawS := ⟨way k, 0, k + 2, [X k], [], []⟩
def onR (Y : Nat → Str) (k : Nat) : RawS := ⟨onW, k + 2, 1, [Y k], ["a"], [.int (k : Nat)]⟩
def rs6 (X Y : Nat → Str) : List RawS := (List.range 6).map (wayR X) ++ (List.range 6).map (onR Y)
abbrev xOf (M : List Str) (k : Nat) : Str := M.getD (2 * k) ""
abbrev yOf (M : List Str) (k : Nat) : Str := M.getD (2 * k + 1) ""
theorem getD_at {M : List Str} {i : Nat} (h : i < M.length) : M[i]? = some (M.getD i "") := by
  rw [List.getD_eq_getElem?_getD, List.getElem?_eq_getElem h]; rfl
theorem prs_of {M : List Str} (nd : M.Nodup) (hl : M.length = 12) : Prs M (xOf M) (yOf M) := by
  have inj : ∀ {i j : Nat}, i < 12 → j < 12 → M.getD i "" = M.getD j "" → i = j := fun {i j} hi hj e => by
    have h1 := getD_at (M := M) (i := i) (by omega)
    have h2 := getD_at (M := M) (i := j) (by omega)
    rw [e] at h1
    exact (List.getElem?_inj (by omega) nd).mp (h1.trans h2.symm)
  refine ⟨fun i j hi hj e => ?_, fun i j hi hj e => ?_, fun i j hi hj e => ?_, fun a => ?_, nd⟩
  · have := inj (by omega) (by omega) e; omega
  · have := inj (by omega) (by omega) e; omega
  · have := inj (by omega) (by omega) e; omega
  · constructor
    · intro h
      obtain ⟨i, hi⟩ := List.mem_iff_getElem?.mp h
      have hl' := (List.getElem?_eq_some_iff.mp hi).1
      have e := getD_at hl'
      rw [hi] at e
      have e := Option.some.inj e
      by_cases q : i % 2 = 0
      · exact ⟨i / 2, by omega, .inl (by rw [e]; show M.getD i "" = M.getD (2 * (i / 2)) ""; congr 1; omega)⟩
      · exact ⟨i / 2, by omega, .inr (by rw [e]; show M.getD i "" = M.getD (2 * (i / 2) + 1) ""; congr 1; omega)⟩
    · rintro ⟨k, hk, rfl | rfl⟩
      · exact List.mem_of_getElem? (getD_at (by omega))
      · exact List.mem_of_getElem? (getD_at (by omega))
section
variable {M : List Str} {X Y : Nat → Str}
theorem rs6_mem {r : RawS} : r ∈ rs6 X Y ↔ ∃ k, k < 6 ∧ (r = wayR X k ∨ r = onR Y k) := by
  unfold rs6
  rw [List.mem_append, List.mem_map, List.mem_map]
  constructor
  · rintro (⟨k, hk, rfl⟩ | ⟨k, hk, rfl⟩)
    · exact ⟨k, List.mem_range.mp hk, .inl rfl⟩
    · exact ⟨k, List.mem_range.mp hk, .inr rfl⟩
  · rintro ⟨k, hk, rfl | rfl⟩
    · exact .inl ⟨k, List.mem_range.mpr hk, rfl⟩
    · exact .inr ⟨k, List.mem_range.mpr hk, rfl⟩
theorem drawn6 (P : Prs M X Y) (hM : ∀ x ∈ M, x ∈ twelve) : Drawn twelve 8 (rs6 X Y) [1] := by
  have xm : ∀ k, k < 6 → X k ∈ twelve := fun k hk => hM _ ((P.mem _).mpr ⟨k, hk, .inl rfl⟩)
  have ym : ∀ k, k < 6 → Y k ∈ twelve := fun k hk => hM _ ((P.mem _).mpr ⟨k, hk, .inr rfl⟩)
  refine ⟨by decide, by decide, by simp [rs6], fun r hr => ?_, fun r hr => ?_, fun r hr => ?_, ?_, fun b hb => by rw [List.mem_singleton] at hb; omega, by decide⟩
  · obtain ⟨k, hk, rfl | rfl⟩ := rs6_mem.mp hr
    · exact ⟨(way_good k).dep, by show 0 < 8; decide, by show k + 2 < 8; omega, fun x hx => by
        have : x = X k := List.mem_singleton.mp hx
        subst this
        exact twelve_ok.nm _ (xm k hk), (by exact List.pairwise_singleton _ _), by show 1 ≤ 50; decide, fun x hx => (by cases hx), List.nodup_nil, Nat.zero_le _, rfl, fun x hx => (by cases hx)⟩
    · exact ⟨on_good.dep, by show k + 2 < 8; omega, by show 1 < 8; decide, fun x hx => by
        have : x = Y k := List.mem_singleton.mp hx
        subst this
        exact twelve_ok.nm _ (ym k hk), (by exact List.pairwise_singleton _ _), by show 1 ≤ 50; decide, fun x hx => by
        have : x = "a" := List.mem_singleton.mp hx
        subst this
        decide, (by exact List.pairwise_singleton _ _), by show 1 ≤ 50; decide, rfl, fun x hx => by
        have : x = .int (k : Nat) := List.mem_singleton.mp hx
        subst this
        rfl⟩
  · obtain ⟨k, hk, rfl | rfl⟩ := rs6_mem.mp hr
    · exact way_good k
    · exact on_good
  · obtain ⟨k, hk, rfl | rfl⟩ := rs6_mem.mp hr
    · intro x hx
      have : x = X k := List.mem_singleton.mp hx
      subst this
      exact xm k hk
    · intro x hx
      have : x = Y k := List.mem_singleton.mp hx
      subst this
      exact ym k hk
  · have e : (rs6 X Y).map (fun r => (r.one, r.w)) = (rs6 (fun _ => "") (fun _ => "")).map (fun r => (r.one, r.w)) := rfl
    rw [e]
    decide
theorem reach6 {rs : List RawS} {rows : List (List St)} {bad : List Nat} (Mk : Made 8 rs [1] rows bad) (hp : rs.Perm (rs6 X Y)) {x : SetS} : Reach rows x 1 ↔ ∃ k, k < 6 ∧ X k ∈ x ∧ Y k ∈ x := by
  have all : ∀ s, Reach rows x s → s = 0 ∨ (∃ k, k < 6 ∧ s = k + 2 ∧ X k ∈ x) ∨ (s = 1 ∧ ∃ k, k < 6 ∧ X k ∈ x ∧ Y k ∈ x) := by
    intro s h
    induction h with
    | zero => exact .inl rfl
    | @step h row s _ h2 h3 h4 ih =>
      obtain ⟨r, hr, e1, _, e2, e3⟩ := Mk.back h2 h3
      obtain ⟨k, hk, rfl | rfl⟩ := rs6_mem.mp (hp.mem_iff.mp hr)
      · refine .inr (.inl ⟨k, hk, e2, h4 _ ?_⟩)
        rw [e3, sortS_mem]
        exact List.mem_singleton.mpr rfl
      · have e1 : k + 2 = h := e1
        have hy : Y k ∈ x := h4 _ (by rw [e3, sortS_mem]; exact List.mem_singleton.mpr rfl)
        refine .inr (.inr ⟨e2, ?_⟩)
        rcases ih with q | ⟨k', _, q, hx⟩ | ⟨q, _⟩
        · omega
        · have : k' = k := by omega
          subst this
          exact ⟨k', hk, hx, hy⟩
        · omega
  constructor
  · intro h
    rcases all 1 h with q | ⟨k, _, q, _⟩ | ⟨_, q⟩
    · omega
    · omega
    · exact q
  · rintro ⟨k, hk, hx, hy⟩
    obtain ⟨row, s, h1, h2, _, h3, h4⟩ := Mk.forth (hp.mem_iff.mpr (rs6_mem.mpr ⟨k, hk, .inl rfl⟩)) (by show 0 < 8; decide)
    obtain ⟨row', s', h1', h2', _, h3', h4'⟩ := Mk.forth (hp.mem_iff.mpr (rs6_mem.mpr ⟨k, hk, .inr rfl⟩)) (by show k + 2 < 8; omega)
    have r1 : Reach rows x s.other := .step .zero h1 h2 fun a ha => by
      rw [h4, sortS_mem] at ha
      have : a = X k := List.mem_singleton.mp ha
      rw [this]; exact hx
    rw [h3] at r1
    have r2 : Reach rows x s'.other := .step r1 h1' h2' fun a ha => by
      rw [h4', sortS_mem] at ha
      have : a = Y k := List.mem_singleton.mp ha
      rw [this]; exact hy
    rw [h3'] at r2
    exact r2
theorem thr6 (P : Prs M X Y) {rs : List RawS} {rows : List (List St)} {bad : List Nat} (Mk : Made 8 rs [1] rows bad) (hp : rs.Perm (rs6 X Y)) {N : SetS} {Th : List SetS} (I : IsThr rows bad N Th) : Th = lots6 X Y := by
  refine srtK_ext I.pw (lots6_pw P) fun x => ?_
  rw [I.mem, ← min6 P]
  refine min_congr (fun y => ?_) x
  unfold Br Br6
  refine and_congr_right fun _ => ?_
  rw [← reach6 Mk hp]
  constructor
  · rintro ⟨s, hs, hr⟩
    have := (Mk.bad s).mp hs
    rw [List.mem_singleton] at this
    subst this
    exact hr
  · intro hr
    exact ⟨1, (Mk.bad 1).mpr (List.mem_singleton.mpr rfl), hr⟩
theorem names6 (P : Prs M X Y) {rs : List RawS} (hp : rs.Perm (rs6 X Y)) (a : Str) : a ∈ sortS M ↔ ∃ r ∈ rs, a ∈ r.rules := by
  rw [sortS_mem, P.mem]
  constructor
  · rintro ⟨k, hk, rfl | rfl⟩
    · exact ⟨wayR X k, hp.mem_iff.mpr (rs6_mem.mpr ⟨k, hk, .inl rfl⟩), List.mem_singleton.mpr rfl⟩
    · exact ⟨onR Y k, hp.mem_iff.mpr (rs6_mem.mpr ⟨k, hk, .inr rfl⟩), List.mem_singleton.mpr rfl⟩
  · rintro ⟨r, hr, ha⟩
    obtain ⟨k, hk, rfl | rfl⟩ := rs6_mem.mp (hp.mem_iff.mp hr)
    · exact ⟨k, hk, .inl (List.mem_singleton.mp ha)⟩
    · exact ⟨k, hk, .inr (List.mem_singleton.mp ha)⟩
end
theorem looseL_refl : ∀ {xs : List T}, (∀ x ∈ xs, isLT x = false) → LooseL xs xs
  | [], _ => .nil
  | x :: xs, h => .cons (.same x (h x List.mem_cons_self)) (looseL_refl fun y hy => h y (List.mem_cons_of_mem _ hy))
theorem good_refl {k : NestedKey} (h : GoodW k) : Loose (kT k) (kT k) := by
  cases h with
  | at_ h => exact .same _ h.atom.1
  | @tup ks h _ =>
    rw [kT_tup]
    exact .seq (.inr rfl) (.inr rfl) (looseL_refl fun t ht => by
      obtain ⟨k, hk, rfl⟩ := List.mem_map.mp ht
      exact (h k hk).atom.1)
theorem raw_self {r : RawS} (h : GoodW r.w) : IsRaw r (rawT r) := ⟨kT r.w, .lst (sT r.rules), .inr rfl, .inl rfl, (h.loose (good_refl h)).1, (h.loose (good_refl h)).2⟩
end Far
namespace Far
open PySem PySem.Spec PyProof.Rows L2 TL
variable {g : G} {C : Addr}
theorem sm_set {x : SetS} (h : ∀ s ∈ x, okS s) (hl : x.length ≤ 10000) (d : Nat) : sm (d + 1) (SetT x) := .inr ⟨sT x, .inr rfl, by rw [List.length_map]; exact hl, fun t ht => by
  obtain ⟨s, hs, rfl⟩ := List.mem_map.mp ht
  cases d with
  | zero => exact ⟨s, rfl, h s hs⟩
  | succ d => exact .inl ⟨s, rfl, h s hs⟩⟩
theorem sm_sets {L : List SetS} (h : okL L) (hx : ∀ x ∈ L, x.length ≤ 10000) (hl : L.length ≤ 10000) (d : Nat) : sm (d + 2) (.lst (sets L)) := .inr ⟨sets L, .inl rfl, by rw [List.length_map]; exact hl, fun t ht => by
  obtain ⟨x, hxm, rfl⟩ := List.mem_map.mp ht
  exact sm_set (h x hxm) (hx x hxm) d⟩
abbrev prMany : SPre := fun ts k R => ts = [] ∧ k + 100 < lim ∧ R = fun t k' => k' = k + 100 ∧ t = .bl true
/-- behind the first steps -/
theorem many_tail (E : Env g C) {a c d : Addr} {k0 : Nat} {M : List Str} {X Y : Nat → Str} (P : Prs M X Y) (Mlen : M.length = 12) (MU : ∀ x ∈ M, x ∈ twelve) (gp : ∀ k : Nat, k < 6 → ((List.range 6).map fun k => SetT [X k, Y k])[k]? = some (SetT [X k, Y k])) {O : Store} (S : SL a c d (k0 + 12) ((List.range 6).map (wayR X)) O) (hk : k0 + 100 < lim) {Q : Vl → Store → Prop} (q : ∀ O2, SS a c (k0 + 100) O2 → Q (.t (.bl true)) O2) :
    WS g 8 (fS n__law_many_right (defScope s__law_many_right)) [some (.cell a), some (.t (.lst (sT M))), some (.t (.lst ((List.range 6).map fun k => SetT [X k, Y k]))), some (.cell d), none, none, none, none, none, none, none, none, none] O ((defBody s__law_many_right).drop 3) { nx := fun _ O' => Q (.t .non) O', rt := Q } := by
  have big : 10000 ≤ sizeLine := by decide
  have xm : ∀ k, k < 6 → X k ∈ twelve := fun k hk => MU _ ((P.mem _).mpr ⟨k, hk, .inl rfl⟩)
  have ym : ∀ k, k < 6 → Y k ∈ twelve := fun k hk => MU _ ((P.mem _).mpr ⟨k, hk, .inr rfl⟩)
  refine ws_cons (sx (ext (v 3 rfl ⟨d, rfl, ⟨_, S.l⟩, lcA (α := Nat) [("_law_k", 10)] [10] (fun k => .t (.int (k : Nat))) (fun k => rawT (onR Y k)) (wr1 E.b_range (w_int ⟨6, rfl, by decide, by decide, List.range 6, rng_nat 6, by show 6 ≤ sizeLine; omega, fun k hk => ⟨_, gn 10, ?_⟩, .inl ⟨_, _, rfl, S.l, by simp; omega, ?_⟩⟩))⟩)))
  · have hk := List.mem_range.mp hk
    refine w_tup ⟨fun _ => rfl, fun _ => rfl, fun _ => rfl, fun _ => rfl, fun _ => rfl, True.intro⟩ (w_str (w_bin o_add (v 10 rfl (w_int ⟨(k : Nat), 2, rfl, rfl, True.intro, w_int (w_lst ⟨fun _ => rfl, True.intro⟩ (ix x_seq (ix x_seq (v 2 rfl (v 10 rfl ⟨_, (k : Nat), SetT [X k, Y k], .inl rfl, rfl, at_nat (gp k hk), w_int ⟨_, 1, .str (Y k), .inr rfl, rfl, at_nat (j := 1) rfl, by show 1 ≤ sizeLine; omega, .inl ⟨[_], rfl, w_disp (w_str ⟨.inr "a", rfl, v 10 rfl (.inl ⟨_, rfl, [_, _, _, _, _], rfl, by show 5 ≤ sizeLine; omega, ?_, rfl⟩)⟩)⟩⟩⟩)))))⟩))))
    rfl
  have S1 : SL a c d (k0 + 12) (rs6 X Y) (sup O d (.lst ((((List.range 6).map (wayR X)).map rawT).map Vl.t ++ ((List.range 6).map fun k => rawT (onR Y k)).map Vl.t))) := ⟨S.h.other S.da S.dc, S.da, S.dc, by
    rw [sup_same]
    unfold rs6
    rw [List.map_append, List.map_append]
    rw [List.map_map, List.map_map, List.map_map]
    rfl⟩
  show WS g 8 _ [some (.cell a), some (.t (.lst (sT M))), some (.t (.lst ((List.range 6).map fun k => SetT [X k, Y k]))), some (.cell d), none, none, none, none, none, none, none, none, none] (sup O d (.lst ((((List.range 6).map (wayR X)).map rawT).map Vl.t ++ ((List.range 6).map fun k => rawT (onR Y k)).map Vl.t))) _ _
  generalize (sup O d (.lst ((((List.range 6).map (wayR X)).map rawT).map Vl.t ++ ((List.range 6).map fun k => rawT (onR Y k)).map Vl.t))) = O1 at S1
  obtain ⟨O', s', sp⟩ := split_S S1.h S1.da S1.dc S1.l
  refine ws_frz (ρ' := [some (.cell a), some (.t (.lst (sT M))), some (.t (.lst ((List.range 6).map fun k => SetT [X k, Y k]))), some (.t (.lst ((rs6 X Y).map rawT))), none, none, none, none, none, none, none, none, none]) sp (.keep (.keep (.keep (.frz (Frz.flat sup_same) (.keep (.keep (.keep (.keep (.keep (.keep (.keep (.keep (.keep .nil))))))))))))) ?_
  clear S S1 sp
  -- the least sets
  refine ws_cons (st 4 (w_lst ⟨fun _ => rfl, True.intro⟩ (w_tup True.intro ⟨[], rfl, Nat.zero_le _, by show 1 ≤ sizeLine; omega, .inl ⟨[.tup []], rfl, ?_⟩⟩)))
  refine ws_cons (fr (wi_list (v 2 rfl ⟨_, rfl, fun i ρ1 O3 => ∃ x5, ρ1 = [some (.cell a), some (.t (.lst (sT M))), some (.t (.lst ((List.range 6).map fun k => SetT [X k, Y k]))), some (.t (.lst ((rs6 X Y).map rawT))), some (.t (.lst (sets (chN X Y i)))), x5, none, none, none, none, none, none, none] ∧ O3 = O', ⟨none, rfl, rfl⟩, ?_, ?_⟩)))
  · rintro i u ρ1 O3 hu ⟨x5, rfl, rfl⟩
    obtain ⟨t, h1, rfl⟩ := map_get hu
    obtain ⟨k, h2, rfl⟩ := map_get h1
    obtain ⟨h3, h4⟩ := List.getElem?_eq_some_iff.mp h2
    rw [List.length_range] at h3
    rw [List.getElem_range] at h4
    subst h4
    have hc : (chN X Y i).length ≤ 64 := by rw [chN_len]; exact Nat.pow_le_pow_right (by decide) (show i ≤ 6 by omega)
    have ol : ∀ z ∈ chN X Y i, z.length ≤ 6 := fun z hz => by rw [(chN_one P (by omega) z hz).len]; omega
    have ec : ((chN X Y i).map fun z => SetT (z ++ [X i])) ++ ((chN X Y i).map fun z => SetT (z ++ [Y i])) = sets (chN X Y (i + 1)) := by
      rw [chN]
      simp [Function.comp_def]
    refine ⟨_, _, gn 5, ws_one (st 4 (w_bin o_catL (lcA (α := SetS) [("_law_one", 12)] [12] (fun z => .t (SetT z)) (fun z => SetT (z ++ [X i])) (wi_list (v 4 rfl ⟨_, rfl, chN X Y i, by rw [List.map_map]; rfl, by omega, fun z hz => ⟨_, gn 12, w_bin o_catT (v 12 rfl (w_slice (v 5 rfl ?_)))⟩, .inl (lcA (α := SetS) [("_law_one", 12)] [12] (fun z => .t (SetT z)) (fun z => SetT (z ++ [Y i])) (wi_list (v 4 rfl ⟨_, rfl, chN X Y i, by rw [List.map_map]; rfl, by omega, fun z hz => ⟨_, gn 12, w_bin o_catT (v 12 rfl (w_slice (v 5 rfl ?_)))⟩, .inl ⟨_, _, rfl, rfl, by simp; omega, some (.t (SetT [X i, Y i])), by rw [← ec]; rfl, rfl⟩⟩)))⟩)))))⟩
    · show W g _ _ _ _ _ _
      refine w_int ⟨(1 : Nat), rfl, .inr ⟨[.str (X i), .str (Y i)], rfl, sT z, _, rfl, rfl, ?_, ?_, rfl⟩⟩
      · have := ol z hz
        rw [cut_to]
        simp
        omega
      · rw [cut_to]
        simp
    · refine w_int ⟨(1 : Nat), rfl, ?_⟩
      refine .inr ⟨[.str (X i), .str (Y i)], rfl, sT z, _, rfl, rfl, ?_, ?_, rfl⟩
      · have := ol z hz
        rw [cut_from]
        simp
        omega
      · rw [cut_from]
        simp
  rintro ρ1 O3 ⟨x5, rfl, rfl⟩
  rw [List.length_map, List.length_map, List.length_range]
  have okM : ∀ s ∈ M, okS s := fun s hs => twelve_ok.ok s (MU s hs)
  have o6 : ∀ z ∈ chN X Y 6, One X Y 6 z := chN_one P (Nat.le_refl 6)
  have l64 : (chN X Y 6).length = 64 := chN_len 6
  have eL : (chN X Y 6).map (fun z => SetT (sortS z)) = sets ((chN X Y 6).map sortS) := by simp [Function.comp_def]
  obtain ⟨a1, a2, a3, a4⟩ := srtd_sets ((chN X Y 6).map sortS) (fun x hx => by
    obtain ⟨z, hz, rfl⟩ := List.mem_map.mp hx
    intro e
    have := congrArg List.length e
    rw [sortS_len, (o6 z hz).len] at this
    cases this) (by rw [List.length_map]; omega)
  refine ws_cons (st 4 (cB b_sortedA E.b_sorted (lcA (α := SetS) [("_law_one", 12)] [12] (fun z => .t (SetT z)) (fun z => SetT (sortS z)) (wi_list (v 4 rfl ⟨_, rfl, chN X Y 6, by rw [List.map_map]; rfl, by omega, fun z hz => ⟨_, gn 12, ?_⟩, .inl ⟨_, .inl rfl, by rw [eL]; exact a1, by rw [eL]; exact a2, by rw [eL]; exact a3, by rw [eL]; exact a4, ?_⟩⟩)))))
  · obtain ⟨s1, s2, s3, s4⟩ := srtd_strs z (by rw [(o6 z hz).len]; omega)
    exact cT b_tuple E.b_tuple (cB b_sortedA E.b_sorted (v 12 rfl ⟨sT z, .inr rfl, s1, s2, s3, s4, _, .inl rfl, by rw [sortT_strs], rfl⟩))
  rw [eL, sortT_sets]
  have eP : (List.range 6).map (fun k => SetT (pairS X Y k)) = sets ((List.range 6).map (pairS X Y)) := by simp [Function.comp_def]
  obtain ⟨b1, b2, b3, b4⟩ := srtd_sets ((List.range 6).map (pairS X Y)) (fun x hx => by
    obtain ⟨k, _, rfl⟩ := List.mem_map.mp hx
    intro e
    have := congrArg List.length e
    rw [pairS_len] at this
    cases this) (by rw [List.length_map, List.length_range]; omega)
  refine ws_cons (st 6 (cB b_sortedA E.b_sorted (lcA (α := Nat) [("_law_pair", 5)] [5] (fun k => .t (SetT [X k, Y k])) (fun k => SetT (pairS X Y k)) (wi_list (v 2 rfl ⟨_, rfl, List.range 6, by rw [List.map_map]; rfl, by rw [List.length_range]; omega, fun k hk => ⟨_, gn 5, ?_⟩, .inl ⟨_, .inl rfl, by rw [eP]; exact b1, by rw [eP]; exact b2, by rw [eP]; exact b3, by rw [eP]; exact b4, ?_⟩⟩)))))
  · obtain ⟨s1, s2, s3, s4⟩ := srtd_strs [X k, Y k] (by show 2 ≤ sizeLine; omega)
    exact cT b_tuple E.b_tuple (cB b_sortedA E.b_sorted (v 5 rfl ⟨sT [X k, Y k], .inr rfl, s1, s2, s3, s4, _, .inl rfl, by rw [sortT_strs]; rfl, rfl⟩))
  rw [eP, sortT_sets]
  have eG : (List.range 6).map (fun k => SetT (without (sortS M) [X k, Y k])) = sets ((List.range 6).map fun k => without (sortS M) [X k, Y k]) := by simp [Function.comp_def]
  have gne : ∀ x ∈ (List.range 6).map (fun k => without (sortS M) [X k, Y k]), x ≠ [] := fun x hx => by
    obtain ⟨k, hk, rfl⟩ := List.mem_map.mp hx
    have hk := List.mem_range.mp hk
    intro e
    have := without_len (sortS_srt P.nd) (pairS_srt P hk) (pairS_sub P hk)
    rw [← without_pair, e, pairS_len, sortS_len, Mlen] at this
    cases this
  obtain ⟨c1, c2, c3, c4⟩ := srtd_sets ((List.range 6).map fun k => without (sortS M) [X k, Y k]) gne (by rw [List.length_map, List.length_range]; omega)
  obtain ⟨m1, m2, m3, m4⟩ := srtd_strs M (by omega)
  refine ws_cons (st 7 (cB b_sortedA E.b_sorted (lcA (α := Nat) [("_law_pair", 5)] [5] (fun k => .t (SetT [X k, Y k])) (fun k => SetT (without (sortS M) [X k, Y k])) (wi_list (v 2 rfl ⟨_, rfl, List.range 6, by rw [List.map_map]; rfl, by rw [List.length_range]; omega, fun k hk => ⟨[some (.cell a), some (.t (.lst (sT M))), some (.t (.lst ((List.range 6).map fun k => SetT [X k, Y k]))), some (.t (.lst ((rs6 X Y).map rawT))), some (.t (.lst (sets (sortX ((chN X Y 6).map sortS))))), some (.t (SetT [X k, Y k])), some (.t (.lst (sets (sortX ((List.range 6).map (pairS X Y)))))), none, none, none, none, none, none], gn 5, ?_⟩, .inl ⟨_, .inl rfl, by rw [eG]; exact c1, by rw [eG]; exact c2, by rw [eG]; exact c3, by rw [eG]; exact c4, ?_⟩⟩)))))
  · refine cT b_tuple E.b_tuple (lcP (α := Str) [("_law_name", 11)] [11] (fun x => .t (.str x)) (fun x => !decide (x ∈ [X k, Y k])) T.str (wi_list (cB b_sortedA E.b_sorted (v 1 rfl ⟨sT M, .inl rfl, m1, m2, m3, m4, sT (sortS M), by rw [sortT_strs], sortS M, by rw [List.map_map]; rfl, by rw [sortS_len]; omega, fun x hx => ⟨_, gn 11, wb_cmp o_notInS (v 11 rfl (v 5 rfl ⟨x, [X k, Y k], rfl, .inr rfl, _, rfl, rfl, rfl, fun _ => v 11 rfl ⟨rfl, rfl⟩⟩)) rfl⟩, .inl ⟨_, .inl rfl, rfl, rfl⟩⟩))))
  rw [eG, sortT_sets]
  show WS g 8 _ [some (.cell a), some (.t (.lst (sT M))), some (.t (.lst ((List.range 6).map fun k => SetT [X k, Y k]))), some (.t (.lst ((rs6 X Y).map rawT))), some (.t (.lst (sets (least6 X Y)))), x5, some (.t (.lst (sets (lots6 X Y)))), some (.t (.lst (sets (great6 M X Y)))), none, none, none, none, none] O3 _ _
  have D6 := drawn6 P MU
  -- the play
  refine ws_cons (st 8 (w_make (d_init E) (by decide) rfl ⟨fun _ => rfl, fun _ => rfl, fun _ => rfl, True.intro⟩ rfl (w_int (mxd E (by decide) (v 0 rfl ⟨a, c, rfl, v 3 rfl ⟨_, (rs6 X Y).map rawT, _, rfl, .inl rfl, by rw [List.length_map]; have := D6.len; omega, s'.has, by rw [List.length_map]; have := D6.len; omega, fun out O5 hp hh5 e5 => w_lst ⟨fun _ => rfl, True.intro⟩ (w_int ⟨by show 1 ≤ sizeLine; omega, .inl ⟨[_], rfl, ?_⟩⟩)⟩⟩)))))
  obtain ⟨rs, hrs, rfl⟩ := perm_map_inv hp
  have D := D6.perm hrs (List.Perm.refl [1])
  have hh5 : Has O5 a c (k0 + 24) := hh5
  refine ⟨[.int 8, .lst (rs.map rawT), .lst (iT [1])], rfl, fun d' => ⟨d', .lst (rs.map rawT), .lst (iT [1]), rs.map rawT, 8, rs, [1], rfl, rfl, D.given, .inl rfl, by rw [List.length_map], fun i s r h1 h2 => ?_, .inl rfl, fun rows bad hMd => ⟨rfl, plT C rows bad, .ins sup_same (FrzL.ts [_, _]), ?_⟩⟩⟩
  · rw [List.getElem?_map, h2] at h1
    cases h1
    exact raw_self (D.w r (List.mem_of_getElem? h2))
  have hN : Srt (sortS M) := sortS_srt P.nd
  have B : BarOk rows bad (sortS M) := hMd.barok D twelve_ok hN (names6 P hrs)
  have Bd := hMd.badok D
  have lsub : ∀ x ∈ least6 X Y, (∀ s ∈ x, s ∈ M) ∧ Srt x := fun x hx => by
    have := (hit6 P).mp ((least6_mem P).mp hx)
    exact ⟨this.2.1, this.1⟩
  have tsub : ∀ x ∈ lots6 X Y, (∀ s ∈ x, s ∈ M) ∧ x.length = 2 := fun x hx => by
    obtain ⟨k, hk, rfl⟩ := lots6_mem.mp hx
    exact ⟨fun s hs => sortS_mem.mp (pairS_sub P hk s hs), pairS_len k⟩
  have gsub : ∀ x ∈ great6 M X Y, (∀ s ∈ x, s ∈ M) ∧ x.length ≤ 12 := fun x hx => by
    obtain ⟨t, ht, rfl⟩ := great6_mem.mp hx
    refine ⟨fun s hs => sortS_mem.mp (without_sub s hs), ?_⟩
    have : (without (sortS M) t).length ≤ (sortS M).length := List.length_filter_le _ _
    rw [sortS_len] at this
    omega
  have ll : (lots6 X Y).length = 6 := by unfold lots6; rw [(sortX_perm _).length_eq, List.length_map, List.length_range]
  have lg : (great6 M X Y).length = 6 := by unfold great6; rw [(sortX_perm _).length_eq, List.length_map, List.length_range]
  have l6 : (least6 X Y).length = 64 := least6_len
  have sm3 : sm 3 (.lst [.lst (sets (lots6 X Y)), .lst (sets (least6 X Y)), .lst (sets (great6 M X Y))]) := .inr ⟨_, .inl rfl, by show 3 ≤ 10000; decide, fun t ht => by
    simp only [List.mem_cons, List.not_mem_nil, or_false] at ht
    rcases ht with rfl | rfl | rfl
    · exact sm_sets (fun x hx s hs => okM s ((tsub x hx).1 s hs)) (fun x hx => by have := (tsub x hx).2; omega) (by omega) 0
    · exact sm_sets (fun x hx s hs => okM s ((lsub x hx).1 s hs)) (fun x hx => by have := least6_len' P hx; omega) (by omega) 0
    · exact sm_sets (fun x hx s hs => okM s ((gsub x hx).1 s hs)) (fun x hx => by have := (gsub x hx).2; omega) (by omega) 0⟩
  have leq : ∀ Th, IsThr rows bad (sortS M) Th → ∀ R : List SetS, R.Pairwise ltK → (∀ x, x ∈ R ↔ MinHit Th x) → R = least6 X Y := fun Th hT R hR hm => by
    have := thr6 P hMd hrs hT
    subst this
    exact srtK_ext hR (least6_pw P) fun x => by rw [hm x, least6_mem P]
  refine ws_cons (w1_if (wb_not (wb_val (cP (d_same E 3) (w_lst ⟨fun _ => rfl, fun _ => rfl, fun _ => rfl, True.intro⟩ (cL (d_threats E) spThr_mono (v 8 rfl ⟨[plT C rows bad], rfl, rows, bad, sortS M, rfl, B, Bd, fun Th hT => .inl (cL (d_least_sets E) spLs_mono (v 8 rfl ⟨[plT C rows bad], rfl, rows, bad, sortS M, rfl, B, Bd, fun Th2 hT2 Ls hLp hL => .inl (cL (d_greatest_breaking E) spGb_mono (v 8 rfl ⟨[plT C rows bad], rfl, rows, bad, sortS M, rfl, B, Bd, fun Th3 hT3 Gr hGp hG => .inl ⟨by show 3 ≤ sizeLine; omega, .inl ⟨[_, _, _], rfl, ?_⟩⟩⟩))⟩))⟩)))) fun _ _ => rfl)))
  have e1 := thr6 P hMd hrs hT
  have e2 := leq Th2 hT2 Ls hLp hL
  have e3 := thr6 P hMd hrs hT3
  subst e1 e2 e3
  have e4 : Gr = great6 M X Y := srtK_ext hGp (great6_pw P) fun x => by rw [hG x, great6_mem]
  subst e4
  refine w_lst ⟨fun _ => rfl, fun _ => rfl, fun _ => rfl, True.intro⟩ (v 6 rfl (v 4 rfl (v 7 rfl ⟨by show 3 ≤ sizeLine; omega, .inl ⟨[_, _, _], rfl, [_, _], rfl, _, rfl, sm3, _, rfl, fun h => absurd h (by decide), fun _ => ws_nil ?_⟩⟩)))
  refine ws_cons (st 9 (cL (d_least_sets E) spLs_mono (v 8 rfl ⟨[plT C rows bad], rfl, rows, bad, sortS M, rfl, B, Bd, fun Th2 hT2 Ls2 hLp2 hL2 => .inl ?_⟩)))
  have e5 := leq Th2 hT2 Ls2 hLp2 hL2
  subst e5
  have eT := thr6 P hMd hrs hT2
  have nm : ∀ x : SetS, x ∈ least6 X Y → ∀ y : SetS, y.Sublist x → Names y := fun x hx y hy => ⟨fun s hs => twelve_ok.nm s (MU s ((lsub x hx).1 s (hy.subset hs))), (lsub x hx).2.nodup.sublist hy, by
    have h1 := hy.length_le
    have := least6_len' P hx
    omega⟩
  have pick : ∀ i : Nat, (i : Int) < 64 → ∃ x, x ∈ least6 X Y ∧ (sets (least6 X Y))[i]? = some (SetT x) := fun i hi => by
    have hl : i < (least6 X Y).length := by omega
    exact ⟨(least6 X Y)[i], List.getElem_mem hl, by rw [List.getElem?_map, List.getElem?_eq_getElem hl]; rfl⟩
  refine ws_one (w1_ret (w_retS (w_and (cP (d_keeps E) (v 8 rfl (ix x_seq (v 9 rfl (drw E (by decide) (v 0 rfl ⟨a, c, rfl, w_int ⟨64, _, rfl, by decide, by decide, hh5, by omega, fun i O6 hi hh6 e6 => ?_⟩⟩)))))))))
  obtain ⟨x, hx, gx⟩ := pick i hi
  refine ⟨_, (i : Nat), SetT x, .inl rfl, rfl, at_nat gx, [plT C rows bad, SetT x], rfl, rows, bad, SetT x, x, rfl, hMd.plok D, .inr rfl, nm x hx x (List.Sublist.refl _), fun b hb => ⟨b, rfl, fun _ => ?_, fun hf => ?_⟩⟩
  · refine w_one (w_not (cP (d_keeps E) (v 8 rfl (w_slice (ix x_seq (v 9 rfl (drw E (by decide) (v 0 rfl ⟨a, c, rfl, w_int ⟨64, _, rfl, by decide, by decide, hh6, by omega, fun j O7 hj hh7 e7 => ?_⟩⟩))))))))
    obtain ⟨y, hy, gy⟩ := pick j hj
    refine ⟨_, (j : Nat), SetT y, .inl rfl, rfl, at_nat gy, ?_⟩
    show W g _ _ _ _ _ _
    refine w_int ⟨(1 : Nat), rfl, .inr ⟨sT y, rfl, ?_⟩⟩
    rw [cut_from, ← List.map_drop]
    refine ⟨[plT C rows bad, SetT (y.drop 1)], rfl, rows, bad, SetT (y.drop 1), y.drop 1, rfl, hMd.plok D, .inr rfl, nm y hy _ (List.drop_sublist _ _), fun b2 hb2 => ⟨b2, rfl, a, c, k0 + 100, .bl true, hh7.mono (by omega), .inl ?_, fun O2 s2 => q O2 s2⟩⟩
    have hn : b2 = false := by
      cases b2 with
      | false => rfl
      | true =>
        exfalso
        have h1 := (keeps_iff B hT2 (y.drop 1)).mp (hb2.mp rfl)
        rw [eT] at h1
        have hm := (least6_mem P).mp hy
        have h2 := hm.2 (y.drop 1) ⟨hm.1.1.sublist (List.drop_sublist _ _), h1⟩ fun s hs => List.mem_of_mem_drop hs
        have h3 := congrArg List.length h2
        rw [List.length_drop, least6_len' P hy] at h3
        omega
    subst hn
    rfl
  · exfalso
    have h1 : Hit Th2 x := by rw [eT]; exact ((least6_mem P).mp hx).1.2
    have := hb.mpr ((keeps_iff B hT2 x).mpr h1)
    rw [this] at hf
    cases hf
end Far
namespace Far
open PySem PySem.Spec PyProof.Rows L2 TL
variable {g : G} {C : Addr}
theorem d_many_right (E : Env g C) : Def g "_law_many_right" 1 9 (strT prMany) := by
  refine mkDef E.f__law_many_right sc__law_many_right rfl (fun _ _ _ _ _ _ _ us hl => match us, hl with | [_], _ => rfl) ?_
  rintro us O Q hl ⟨a, c, k0, ts, R, rfl, s0, ⟨rfl, hk, rfl⟩, q⟩
  have big : 10000 ≤ sizeLine := by decide
  refine ws_cons (st 1 (mxd E (by decide) (v 0 rfl ⟨a, c, rfl, w_lst ⟨fun _ => rfl, fun _ => rfl, fun _ => rfl, fun _ => rfl, fun _ => rfl, fun _ => rfl, fun _ => rfl, fun _ => rfl, fun _ => rfl, fun _ => rfl, fun _ => rfl, fun _ => rfl, True.intro⟩ (w_str (w_str (w_str (w_str (w_str (w_str (w_str (w_str (w_str (w_str (w_str (w_str ⟨by show 12 ≤ sizeLine; omega, .inl ⟨[_, _, _, _, _, _, _, _, _, _, _, _], rfl, .lst (sT twelve), sT twelve, _, rfl, .inl rfl, by decide, s0.has, by show k0 + 12 < lim; omega, fun out O1 hp hh1 e1 => ?_⟩⟩))))))))))))⟩)))
  obtain ⟨M, hM, rfl⟩ := perm_map_inv hp
  have hh1 : Has O1 a c (k0 + 12) := hh1
  have Mnd : M.Nodup := hM.nodup_iff.mpr twelve_ok.nd
  have MU : ∀ x ∈ M, x ∈ twelve := fun x hx => hM.mem_iff.mp hx
  have Mlen : M.length = 12 := hM.length_eq
  have P := prs_of Mnd Mlen
  have getT : ∀ i : Nat, i < 12 → (sT M)[i]? = some (.str (M.getD i "")) := fun i hi => by rw [List.getElem?_map, getD_at (by omega)]; rfl
  generalize hX : xOf M = X at P
  generalize hY : yOf M = Y at P
  have gx : ∀ k : Nat, k < 6 → (sT M)[2 * k]? = some (.str (X k)) := fun k hk => by rw [← hX]; exact getT _ (by omega)
  have gy : ∀ k : Nat, k < 6 → (sT M)[2 * k + 1]? = some (.str (Y k)) := fun k hk => by rw [← hY]; exact getT _ (by omega)
  refine ws_cons (stC 2 (lcA (α := Nat) [("_law_k", 10)] [10] (fun k => .t (.int (k : Nat))) (fun k => SetT [X k, Y k]) (wr1 E.b_range (w_int ⟨6, rfl, by decide, by decide, List.range 6, rng_nat 6, by show 6 ≤ sizeLine; omega, fun k hk => ⟨_, gn 10, ?_⟩, .inl ?_⟩))))
  · have hk := List.mem_range.mp hk
    refine w_tup ⟨fun _ => rfl, fun _ => rfl, True.intro⟩ (ix x_seq (v 1 rfl (w_bin o_mul (w_int (v 10 rfl ⟨2, (k : Nat), rfl, rfl, .inl ⟨by decide, by decide⟩, sT M, ((2 * k : Nat) : Int), .str (X k), .inl rfl, ?_, at_nat (gx k hk), ix x_seq (v 1 rfl (w_bin o_add (w_bin o_mul (w_int (v 10 rfl ⟨2, (k : Nat), rfl, rfl, .inl ⟨by decide, by decide⟩, w_int ⟨_, 1, rfl, rfl, True.intro, sT M, ((2 * k + 1 : Nat) : Int), .str (Y k), .inl rfl, ?_, at_nat (gy k hk), [_, _], rfl, by show 2 ≤ sizeLine; omega, rfl, rfl⟩⟩)))))⟩)))))
    · show Vl.t (T.int (2 * (k : Int))) = _
      rw [Int.natCast_mul]; rfl
    · show Vl.t (T.int (2 * (k : Int) + 1)) = _
      rw [Int.natCast_add, Int.natCast_mul]; rfl
  show WS g 8 _ [some (.cell a), some (.t (.lst (sT M))), some (.t (.lst ((List.range 6).map fun k => SetT [X k, Y k]))), none, none, none, none, none, none, none, none, none, none] O1 _ _
  have gp : ∀ k : Nat, k < 6 → ((List.range 6).map fun k => SetT [X k, Y k])[k]? = some (SetT [X k, Y k]) := fun k hk => by
    rw [List.getElem?_map, List.getElem?_range hk]; rfl
  refine ws_cons (stLcA (α := Nat) 3 [("_law_k", 10)] [10] (fun k => .t (.int (k : Nat))) (fun k => rawT (wayR X k)) (wr1 E.b_range (w_int ⟨6, rfl, by decide, by decide, List.range 6, rng_nat 6, by show 6 ≤ sizeLine; omega, fun k hk => ⟨_, gn 10, ?_⟩, .inr fun d hd => ?_⟩)))
  · have hk := List.mem_range.mp hk
    refine w_tup ⟨fun _ => rfl, fun _ => rfl, fun _ => rfl, fun _ => rfl, fun _ => rfl, True.intro⟩ (w_tup ⟨fun _ => rfl, fun _ => rfl, True.intro⟩ (w_str (v 10 rfl ⟨[_, _], rfl, by show 2 ≤ sizeLine; omega, w_int (w_bin o_add (v 10 rfl (w_int ⟨(k : Nat), 2, rfl, rfl, True.intro, w_lst ⟨fun _ => rfl, True.intro⟩ (ix x_seq (ix x_seq (v 2 rfl (v 10 rfl ⟨_, (k : Nat), SetT [X k, Y k], .inl rfl, rfl, at_nat (gp k hk), w_int ⟨_, 0, .str (X k), .inr rfl, rfl, at_nat (j := 0) rfl, by show 1 ≤ sizeLine; omega, .inl ⟨[_], rfl, w_dnew (.inl ⟨[_, _, _, _, _], rfl, by show 5 ≤ sizeLine; omega, ?_, rfl⟩)⟩⟩⟩))))⟩)))⟩)))
    show Vl.t (T.tup [.tup [.str "way", .int k], .int 0, .int ((k : Int) + 2), .lst [.str (X k)], .dic [] []]) = _
    rfl
  refine many_tail E P Mlen MU gp ⟨hh1.other (hh1.fresh hd).1 (hh1.fresh hd).2, (hh1.fresh hd).1, (hh1.fresh hd).2, ?_⟩ hk fun O2 s2 => q _ _ ⟨rfl, rfl⟩ O2 s2
  rw [sup_same, List.map_map]
  rfl
end Far
namespace Far
open PySem PySem.Spec PyProof.Rows L2 TL
variable {g : G} {C : Addr}
/-! ### one turn of the law -/
section
variable {n : Nat} {rs : List RawS} {bs : List Nat} {rows : List (List St)} {bad : List Nat} {N : SetS} {Th Th2 Ls Gr : List SetS} {kp : SetS → Bool}
theorem thr_eq (h1 : IsThr rows bad N Th) (h2 : IsThr rows bad N Th2) : Th2 = Th := srtK_ext h2.pw h1.pw fun x => by rw [h2.mem, h1.mem]
theorem lbreaks_iff (M : Made n rs bs rows bad) (X : List Str) : LBreaks n rs bs X ↔ Breaks rows bad X := by
  unfold LBreaks Breaks
  rw [under_eq M X]
  exact ⟨fun ⟨s, h1, h2⟩ => ⟨s, (M.bad s).mpr h1, h2⟩, fun ⟨s, h1, h2⟩ => ⟨s, (M.bad s).mp h1, h2⟩⟩
/-- whether x is a greatest set that is not kept, as the law asks it -/
def grB (N : SetS) (K : List SetS) (x : SetS) : Bool := !decide (x ∈ K) && ((N.filter fun a => !decide (a ∈ x)).map (addS x)).all fun y => decide (y ∈ K)
theorem grB_iff (A : Anti N Th) (hk : ∀ X, kp X = true ↔ Hit Th X) {x : SetS} (hx : Srt x) (hs : Sb x N) : grB N ((allS N N.length).filter kp) x = true ↔ ∃ t ∈ Th, x = without N t := by
  have mem : ∀ y, Srt y → Sb y N → (y ∈ (allS N N.length).filter kp ↔ Hit Th y) := fun y h1 h2 => by
    rw [List.mem_filter, allS_mem, hk]
    exact ⟨fun h => h.2, fun h => ⟨⟨h1, h2⟩, h⟩⟩
  rw [← greatest_iff A hx hs]
  unfold grB
  rw [Bool.and_eq_true, Bool.not_eq_true', decide_eq_false_iff_not, mem x hx hs, List.all_eq_true]
  refine and_congr_right fun _ => ⟨fun h a ha hn => ?_, fun h y hy => ?_⟩
  · have := of_decide_eq_true (h (addS x a) (List.mem_map.mpr ⟨a, List.mem_filter.mpr ⟨ha, by rw [decide_eq_false hn]; rfl⟩, rfl⟩))
    refine (mem _ (addS_srt hx hn) fun b hb => ?_).mp this
    rcases addS_mem.mp hb with q | rfl
    · exact hs b q
    · exact ha
  · obtain ⟨a, ha, rfl⟩ := List.mem_map.mp hy
    obtain ⟨h1, h2⟩ := List.mem_filter.mp ha
    have hn : a ∉ x := fun q => by rw [decide_eq_true q] at h2; cases h2
    refine decide_eq_true ((mem _ (addS_srt hx hn) fun b hb => ?_).mpr (h a h1 hn))
    rcases addS_mem.mp hb with q | rfl
    · exact hs b q
    · exact h1
/-- what a turn knows -/
structure Tn (n : Nat) (rs : List RawS) (bs : List Nat) (rows : List (List St)) (bad : List Nat) (N : SetS) (kp : SetS → Bool) : Prop where
  D : Drawn six n rs bs
  Mk : Made n rs bs rows bad
  hN : Srt N
  hm : ∀ x, x ∈ N ↔ ∃ r ∈ rs, x ∈ r.rules
  hk : ∀ X, kp X = true ↔ ¬ LBreaks n rs bs X
theorem Tn.B (t : Tn n rs bs rows bad N kp) : BarOk rows bad N := t.Mk.barok t.D six_ok t.hN t.hm
theorem Tn.Bd (t : Tn n rs bs rows bad N kp) : BadOk rows bad := t.Mk.badok t.D
theorem Tn.kpH (t : Tn n rs bs rows bad N kp) (hT : IsThr rows bad N Th) (X : SetS) : kp X = true ↔ Hit Th X := by
  rw [t.hk X, lbreaks_iff t.Mk, keeps_iff t.B hT]
theorem Tn.sub (t : Tn n rs bs rows bad N kp) : ∀ x ∈ N, x ∈ six := fun x hx => by
  obtain ⟨r, h1, h2⟩ := (t.hm x).mp hx
  exact t.D.u r h1 x h2
theorem Tn.n12 (t : Tn n rs bs rows bad N kp) : N.length ≤ 6 := nd_len (m := six) t.hN.nodup t.sub
theorem Tn.ok (t : Tn n rs bs rows bad N kp) : ∀ x ∈ N, okS x := fun x hx => six_ok.ok x (t.sub x hx)
theorem Tn.every (t : Tn n rs bs rows bad N kp) : (allS N N.length).length ≤ 64 := Nat.le_trans (allS_len t.hN _) (Nat.pow_le_pow_right (by decide) t.n12)
end
abbrev turnB : List Stmt := match (defBody s_law).getD 2 (.Pass ⟨0, 0, 0, 0⟩) with
  | .For _ _ b _ _ => b
  | _ => []
abbrev rho2 (C a : Addr) (x2 : Option Vl) (n : Nat) (rs : List RawS) (bs : List Nat) (rows : List (List St)) (bad : List Nat) (N : SetS) (kp : SetS → Bool) (Ls Gr : List SetS) (x10 x11 x12 x13 x14 : Option Vl) : Rho :=
  [none, some (.cell a), x2, some (.t (drawnT n rs bs)), some (.t (plT C rows bad)), some (.t (.lst (sT N))), some (.t (.lst (sets ((allS N N.length).filter kp)))), some (.t (.lst (sets (allS N N.length)))), some (.t (.lst (sets Ls))), some (.t (.lst (sets Gr))), x10, x11, x12, x13, x14]
/-- the end of a turn -/
abbrev TurnEnd (a c : Addr) (k : Nat) (D : TD) : Prop := ∀ x2 x3 x4 x5 x6 x7 x8 x9 x10 x11 x12 x13 x14 O, Has O a c k → D.nx [none, some (.cell a), x2, x3, x4, x5, x6, x7, x8, x9, x10, x11, x12, x13, x14] O
theorem eqT_sets_nil (L : List SetS) : TL.eqT (.lst (sets L)) (.lst []) = decide (L = []) := eqT_sets L []
theorem eqT_sets_one (L : List SetS) : TL.eqT (.lst (sets L)) (.lst [.tup []]) = decide (L = [[]]) := eqT_sets L [[]]
theorem turnZ (E : Env g C) {a c : Addr} {k : Nat} {n : Nat} {rs : List RawS} {bs : List Nat} {rows : List (List St)} {bad : List Nat} {N : SetS} {Th Ls Gr : List SetS} {kp : SetS → Bool} (t : Tn n rs bs rows bad N kp) (hT : IsThr rows bad N Th) (hLp : Ls.Pairwise ltK) (hL : ∀ x, x ∈ Ls ↔ MinHit Th x) (hGp : Gr.Pairwise ltK) (hG : ∀ x, x ∈ Gr ↔ ∃ t ∈ Th, x = without N t) {x2 x10 x11 x12 x13 x14 : Option Vl} {O : Store} (hh : Has O a c k) (hk : k + 1000 < lim) {D : TD} (hD : TurnEnd a c (k + 1000) D) :
    WS g 9 (fS n_law (defScope s_law)) (rho2 C a x2 n rs bs rows bad N kp Ls Gr x10 x11 x12 x13 x14) O (turnB.drop 11) D := by
  have big : 10000 ≤ sizeLine := by decide
  have B := t.B
  have Bd := t.Bd
  have A := hT.anti t.hN
  have n6 := t.n12
  have ev := t.every
  have okN := t.ok
  have okLs : okL Ls := fun x hx s hs => okN s (anti_hit_sub A ((hL x).mp hx) s hs)
  have okTh : okL Th := fun x hx s hs => okN s (A.sub x hx s hs)
  refine ws_cons (w1_if (wb_not (wb_val (cP (d_facts_right E) (v 5 rfl (cL (d_threats E) spThr_mono (v 4 rfl ⟨[plT C rows bad], rfl, rows, bad, N, rfl, B, Bd, fun Th2 hT2 => .inl (v 8 rfl (v 9 rfl ⟨[_, _, _, _], rfl, N, Th2, Ls, Gr, rfl, ?_, by omega, okN, hLp, ?_, hGp, ?_, _, rfl, fun h => absurd h (by decide), fun _ => ws_nil ?_⟩))⟩)))) fun _ _ => rfl)))
  · rw [thr_eq hT hT2]; exact A
  · rw [thr_eq hT hT2]; exact hL
  · rw [thr_eq hT hT2]; exact hG
  refine ws_cons (fr (wi_list (w_slice (mxd E (by decide) (v 1 rfl ⟨a, c, rfl, v 7 rfl ⟨_, sets (allS N N.length), _, rfl, .inl rfl, by rw [List.length_map]; omega, hh, by rw [List.length_map]; omega, fun out O3 hp hh3 e3 => ?_⟩⟩)))))
  obtain ⟨out, hout, rfl⟩ := perm_map_inv hp
  rw [List.length_map] at hh3
  have hh3 := hh3.mono (show k + (allS N N.length).length ≤ k + 64 by omega)
  show W g _ _ _ _ _ _
  refine w_int ⟨(8 : Nat), rfl, .inl ⟨sets out, rfl, ?_⟩⟩
  rw [cut_to, ← List.map_take]
  refine ⟨_, rfl, fun i ρ1 O4 => ∃ x10, ρ1 = rho2 C a x2 n rs bs rows bad N kp Ls Gr x10 x11 x12 x13 x14 ∧ Has O4 a c (k + 64 + i * 10), ⟨_, rfl, hh3⟩, ?_, ?_⟩
  · rintro i u ρ1 O4 hu ⟨x10, rfl, hh4⟩
    obtain ⟨tt, h1, rfl⟩ := map_get hu
    obtain ⟨x, h2, rfl⟩ := map_get h1
    have hi8 : i < 8 := by
      have := (List.getElem?_eq_some_iff.mp h2).1
      rw [List.length_take] at this
      omega
    have hx := allS_mem.mp (hout.mem_iff.mp (List.mem_of_mem_take (List.mem_of_getElem? h2)))
    have xl : x.length ≤ 6 := Nat.le_trans (Sb.len hx.1 hx.2) n6
    refine ⟨_, _, gn 10, ws_one (w1_if (wb_cmp o_ne (cP (d_keeps E) (v 4 rfl (mxd E (by decide) (v 1 rfl ⟨a, c, rfl, v 10 rfl ⟨_, sT x, _, rfl, .inr rfl, by rw [List.length_map]; omega, hh4, by rw [List.length_map]; omega, fun out2 O5 hp2 hh5 e5 => ?_⟩⟩)))) rfl))⟩
    obtain ⟨X, hX, rfl⟩ := perm_map_inv hp2
    rw [List.length_map] at hh5
    refine ⟨[_, _], rfl, rows, bad, .lst (sT X), X, rfl, t.Mk.plok t.D, .inl rfl, ⟨fun s hs => six_ok.nm s (t.sub s (hx.2 s (hX.mem_iff.mp hs))), hX.nodup_iff.mpr hx.1.nodup, by rw [hX.length_eq]; omega⟩, fun b hb => ?_⟩
    refine w_cmp o_inL (v 10 rfl (v 6 rfl ⟨SetT x, _, rfl, rfl, okD_set fun s hs => okN s (hx.2 s hs), okD_sets fun y hy s hs => okN s ((allS_mem.mp (List.mem_filter.mp hy).1).2 s hs), _, _, rfl, rfl, okD_bl _, okD_bl _, _, rfl, fun h => ?_, fun _ => ws_nil ⟨_, rfl, hh5.mono (by omega)⟩⟩)) rfl
    exfalso
    rw [eqT_bl, any_eqT] at h
    have e : b = decide (x ∈ (allS N N.length).filter kp) := by
      rw [Bool.eq_iff_iff, decide_eq_true_eq, List.mem_filter, allS_mem, hb, keeps_iff B hT, t.kpH hT]
      constructor
      · intro h
        exact ⟨hx, fun l hl => by obtain ⟨z, h1, h2⟩ := h l hl; exact ⟨z, h1, hX.mem_iff.mp h2⟩⟩
      · rintro ⟨_, h⟩ l hl
        obtain ⟨z, h1, h2⟩ := h l hl
        exact ⟨z, h1, hX.mem_iff.mpr h2⟩
    rw [← e] at h
    simp at h
  · rintro ρ1 O4 ⟨x10, rfl, hh4⟩
    rw [List.length_map, List.length_map, List.length_take] at hh4
    have hh4 := hh4.mono (show _ ≤ k + 1000 by omega)
    refine ws_one (w1_if (wb_chain (wp_or (wb_cmp o_ne (w_cmp o_eq (v 8 rfl (w_lst ⟨fun _ => rfl, True.intro⟩ (w_tup True.intro ⟨[], rfl, Nat.zero_le _, by show 1 ≤ sizeLine; omega, .inl ⟨[_], rfl, .lst (sets Ls), .lst [.tup []], rfl, rfl, okD_sets okLs, by decide, ?_⟩⟩))) rfl) rfl))))
    refine w_cmp o_eq (cL (d_threats E) spThr_mono (v 4 rfl ⟨[plT C rows bad], rfl, rows, bad, N, rfl, B, Bd, fun Th2 hT2 => .inl (w_lst True.intro ⟨Nat.zero_le _, .inl ⟨[], rfl, .lst (sets Th2), .lst [], rfl, rfl, okD_sets (by rw [thr_eq hT hT2]; exact okTh), by decide, _, _, rfl, rfl, okD_bl _, okD_bl _, _, rfl, fun h => ?_, fun _ => ?_⟩⟩)⟩)) rfl
    · exfalso
      have := thr_eq hT hT2
      subst this
      have e : decide (Ls = [[]]) = decide (Th2 = []) := decide_eq_decide.mpr (no_threat A hLp hL)
      rw [eqT_bl, eqT_sets_one, eqT_sets_nil, e] at h
      simp at h
    · refine wp_one (wb_cmp o_ne (w_cmp o_eq (v 8 rfl (w_lst True.intro ⟨Nat.zero_le _, .inl ⟨[], rfl, .lst (sets Ls), .lst [], rfl, rfl, okD_sets okLs, by decide, ?_⟩⟩)) rfl) rfl)
      refine w_cmp o_eq (cL (d_threats E) spThr_mono (v 4 rfl ⟨[plT C rows bad], rfl, rows, bad, N, rfl, B, Bd, fun Th3 hT3 => .inl (w_lst ⟨fun _ => rfl, True.intro⟩ (w_tup True.intro ⟨[], rfl, Nat.zero_le _, by show 1 ≤ sizeLine; omega, .inl ⟨[_], rfl, .lst (sets Th3), .lst [.tup []], rfl, rfl, okD_sets (by rw [thr_eq hT hT3]; exact okTh), by decide, _, _, rfl, rfl, okD_bl _, okD_bl _, _, rfl, fun h => ?_, fun _ => ws_nil (hD _ _ _ _ _ _ _ _ _ _ _ _ _ _ hh4)⟩⟩))⟩)) rfl
      exfalso
      have := thr_eq hT hT3
      subst this
      have e : decide (Ls = []) = decide (Th3 = [[]]) := decide_eq_decide.mpr (all_threat A hLp hL)
      rw [eqT_bl, eqT_sets_nil, eqT_sets_one, e] at h
      simp at h
end Far
namespace Far
open PySem PySem.Spec PyProof.Rows L2 TL
variable {g : G} {C : Addr}
theorem turnY (E : Env g C) {a c : Addr} {k : Nat} {n : Nat} {rs : List RawS} {bs : List Nat} {rows : List (List St)} {bad : List Nat} {N : SetS} {R : List SetS} {kp : SetS → Bool} (t : Tn n rs bs rows bad N kp) (hR : R.Pairwise ltK) (hRm : ∀ x, x ∈ R ↔ MinIn (· ∈ (allS N N.length).filter kp) x) {x2 x10 x11 x12 x13 x14 : Option Vl} {O : Store} (hh : Has O a c k) (hk : k + 1000 < lim) {D : TD} (hD : TurnEnd a c (k + 1000) D) :
    WS g 9 (fS n_law (defScope s_law)) (rho2 C a x2 n rs bs rows bad N kp R ((allS N N.length).filter (grB N ((allS N N.length).filter kp))) x10 x11 x12 x13 x14) O (turnB.drop 7) D := by
  have big : 10000 ≤ sizeLine := by decide
  have B := t.B
  have Bd := t.Bd
  have n6 := t.n12
  have ev := t.every
  have okN := t.ok
  have l64 : ∀ {L : List SetS}, L.Pairwise ltK → (∀ x ∈ L, Srt x ∧ Sb x N) → L.length ≤ 64 := fun hp h => Nat.le_trans (nd_len' (pwK_nodup hp) fun y hy => allS_mem.mpr (h y hy)) ev
  refine ws_cons (st 12 (w_lst ⟨fun _ => rfl, fun _ => rfl, True.intro⟩ (cL (d_least_sets E) spLs_mono (v 4 rfl ⟨[plT C rows bad], rfl, rows, bad, N, rfl, B, Bd, fun Th hT Ls hLp hL => .inr fun e1 he1 => cL (d_greatest_breaking E) spGb_mono (v 4 rfl ⟨[plT C rows bad], rfl, rows, bad, N, rfl, B, Bd, fun Th2 hT2 Gr hGp hG => .inr fun e2 he2 => ⟨by show 2 ≤ sizeLine; omega, .inr fun e3 he3 => ?_⟩⟩)⟩))))
  have := thr_eq hT hT2
  subst this
  have A := hT.anti t.hN
  have eR : R = Ls := least_eq A (kp := kp) (fun x _ _ => t.kpH hT x) hR hRm hLp hL
  have eG : (allS N N.length).filter (grB N ((allS N N.length).filter kp)) = Gr := greatest_eq A (fun x h1 h2 => grB_iff A (t.kpH hT) h1 h2) hGp hG
  rw [eG]
  subst eR
  have lsub : ∀ x ∈ R, Srt x ∧ Sb x N := fun x hx => ⟨((hL x).mp hx).1.1, anti_hit_sub A ((hL x).mp hx)⟩
  have gsub : ∀ x ∈ Gr, Srt x ∧ Sb x N := fun x hx => by
    obtain ⟨t, _, rfl⟩ := (hG x).mp hx
    exact ⟨without_srt A.ns, without_sub⟩
  have ll := l64 hLp lsub
  have lg := l64 hGp gsub
  have sm3 : sm 3 (.lst [.lst (sets R), .lst (sets Gr)]) := .inr ⟨_, .inl rfl, by show 2 ≤ 10000; decide, fun t ht => by
    simp only [List.mem_cons, List.not_mem_nil, or_false] at ht
    rcases ht with rfl | rfl
    · exact sm_sets (fun x hx s hs => okN s ((lsub x hx).2 s hs)) (fun x hx => by have := Sb.len (lsub x hx).1 (lsub x hx).2; omega) (by omega) 0
    · exact sm_sets (fun x hx s hs => okN s ((gsub x hx).2 s hs)) (fun x hx => by have := Sb.len (gsub x hx).1 (gsub x hx).2; omega) (by omega) 0⟩
  have n1 := hh.fresh he1
  have hh1 : Has (sup O e1 (.lst ((sets R).map Vl.t))) a c k := hh.other n1.1 n1.2
  have n2 := hh1.fresh he2
  have e21 : e2 ≠ e1 := fun e => by subst e; rw [sup_same] at he2; cases he2
  have hh2 : Has (sup (sup O e1 (.lst ((sets R).map Vl.t))) e2 (.lst ((sets Gr).map Vl.t))) a c k := hh1.other n2.1 n2.2
  have n3 := hh2.fresh he3
  have e32 : e3 ≠ e2 := fun e => by subst e; rw [sup_same] at he3; cases he3
  have e31 : e3 ≠ e1 := fun e => by subst e; rw [sup_ne e21.symm, sup_same] at he3; cases he3
  have hh3 : Has (sup (sup (sup O e1 (.lst ((sets R).map Vl.t))) e2 (.lst ((sets Gr).map Vl.t))) e3 (.lst [.cell e1, .cell e2])) a c k := hh2.other n3.1 n3.2
  have o3 : (sup (sup (sup O e1 (.lst ((sets R).map Vl.t))) e2 (.lst ((sets Gr).map Vl.t))) e3 (.lst [.cell e1, .cell e2])) e3 = some (.lst [.cell e1, .cell e2]) := sup_same
  have o2 : (sup (sup (sup O e1 (.lst ((sets R).map Vl.t))) e2 (.lst ((sets Gr).map Vl.t))) e3 (.lst [.cell e1, .cell e2])) e2 = some (.lst ((sets Gr).map Vl.t)) := by rw [sup_ne e32.symm, sup_same]
  have o1 : (sup (sup (sup O e1 (.lst ((sets R).map Vl.t))) e2 (.lst ((sets Gr).map Vl.t))) e3 (.lst [.cell e1, .cell e2])) e1 = some (.lst ((sets R).map Vl.t)) := by rw [sup_ne e31.symm, sup_ne e21.symm, sup_same]
  show WS g 9 _ (rho2 C a x2 n rs bs rows bad N kp R Gr x10 x11 (some (.cell e3)) x13 x14) (sup (sup (sup O e1 (.lst ((sets R).map Vl.t))) e2 (.lst ((sets Gr).map Vl.t))) e3 (.lst [.cell e1, .cell e2])) _ _
  generalize (sup (sup (sup O e1 (.lst ((sets R).map Vl.t))) e2 (.lst ((sets Gr).map Vl.t))) e3 (.lst [.cell e1, .cell e2])) = O3 at hh3 o1 o2 o3
  refine ws_cons (w1_if (wb_pure (ρ' := [none, none, x2, some (.t (drawnT n rs bs)), some (.t (plT C rows bad)), some (.t (.lst (sT N))), some (.t (.lst (sets ((allS N N.length).filter kp)))), some (.t (.lst (sets (allS N N.length)))), some (.t (.lst (sets R))), some (.t (.lst (sets Gr))), x10, x11, some (.t (.lst [.lst (sets R), .lst (sets Gr)])), x13, x14]) (.keep (.none (.keep (.keep (.keep (.keep (.keep (.keep (.keep (.keep (.keep (.keep (.frz (.lst o3 (.cons (.lst o1 (FrzL.ts _)) (.cons (.lst o2 (FrzL.ts _)) .nil))) (.keep (.keep .nil))))))))))))))) (wb_not (wb_val (cP (d_same E 3) (v 12 rfl (w_lst ⟨fun _ => rfl, fun _ => rfl, True.intro⟩ (v 8 rfl (v 9 rfl ⟨by show 2 ≤ sizeLine; omega, .inl ⟨[_, _], rfl, [_, _], rfl, _, rfl, sm3, _, rfl, fun h => absurd h (by decide), fun _ => ws_nil ?_⟩⟩))))) fun _ _ => rfl))))
  refine ws_cons (w1_forC (fun _ _ => rfl) (v 12 rfl ⟨e3, _, rfl, o3, fun i ρ1 O4 => ∃ x13 L1 L2, ρ1 = rho2 C a x2 n rs bs rows bad N kp R Gr x10 x11 (some (.cell e3)) x13 x14 ∧ O4 e3 = some (.lst [.cell e1, .cell e2]) ∧ O4 e1 = some (.lst L1) ∧ O4 e2 = some (.lst L2) ∧ L1.length ≤ 64 + i ∧ L2.length ≤ 64 + i ∧ Has O4 a c k, ⟨_, _, _, rfl, o3, o1, o2, by simpa using ll, by simpa using lg, hh3⟩, fun i ρ1 O4 ⟨_, _, _, _, h, _⟩ => h, ?_, ?_⟩))
  · rintro i u ρ1 O4 hu ⟨x13, L1, L2, rfl, p3, p1, p2, q1, q2, hh4⟩
    match i, hu with
    | 0, hu =>
      simp at hu
      subst hu
      refine ⟨_, _, gn 13, ws_one (sx (app (v 13 rfl ⟨e1, rfl, ⟨_, p1⟩, w_str ⟨L1, p1, by omega, _, L1 ++ [_], L2, rfl, ?_, sup_same, ?_, ?_, by omega, hh4.other n1.1 n1.2⟩⟩)))⟩
      · rw [sup_ne e31]; exact p3
      · rw [sup_ne e21]; exact p2
      · rw [List.length_append, List.length_singleton]; omega
    | 1, hu =>
      simp at hu
      subst hu
      refine ⟨_, _, gn 13, ws_one (sx (app (v 13 rfl ⟨e2, rfl, ⟨_, p2⟩, w_str ⟨L2, p2, by omega, _, L1, L2 ++ [_], rfl, ?_, ?_, sup_same, by omega, ?_, hh4.other n2.1 n2.2⟩⟩)))⟩
      · rw [sup_ne e32]; exact p3
      · rw [sup_ne e21.symm]; exact p1
      · rw [List.length_append, List.length_singleton]; omega
    | i + 2, hu => simp at hu
  · rintro ρ1 O4 ⟨x13, L1, L2, rfl, p3, p1, p2, q1, q2, hh4⟩
    refine ws_cons (w1_if (wb_not (wb_val (cP (d_same E 3) (w_lst ⟨fun _ => rfl, fun _ => rfl, True.intro⟩ (cL (d_least_sets E) spLs_mono (v 4 rfl ⟨[plT C rows bad], rfl, rows, bad, N, rfl, B, Bd, fun Th3 hT3 Ls3 hLp3 hL3 => .inl (cL (d_greatest_breaking E) spGb_mono (v 4 rfl ⟨[plT C rows bad], rfl, rows, bad, N, rfl, B, Bd, fun Th4 hT4 Gr4 hGp4 hG4 => .inl ⟨by show 2 ≤ sizeLine; omega, .inl ⟨[_, _], rfl, ?_⟩⟩⟩))⟩)))) fun _ _ => rfl)))
    have E3 := thr_eq hT hT3
    have E4 := thr_eq hT hT4
    have e5 : Ls3 = R := srtK_ext hLp3 hLp fun x => by rw [hL3 x, hL x, E3]
    have e6 : Gr4 = Gr := srtK_ext hGp4 hGp fun x => by rw [hG4 x, hG x, E4]
    subst e5 e6
    refine w_lst ⟨fun _ => rfl, fun _ => rfl, True.intro⟩ (v 8 rfl (v 9 rfl ⟨by show 2 ≤ sizeLine; omega, .inl ⟨[_, _], rfl, [_, _], rfl, _, rfl, sm3, _, rfl, fun h => absurd h (by decide), fun _ => ws_nil ?_⟩⟩))
    exact turnZ E t hT hLp hL hGp hG hh4 hk hD
end Far
namespace Far
open PySem PySem.Spec PyProof.Rows L2 TL
variable {g : G} {C : Addr}
theorem turnX (E : Env g C) {a c : Addr} {k : Nat} {n : Nat} {rs : List RawS} {bs : List Nat} {rows : List (List St)} {bad : List Nat} {N : SetS} {R : List SetS} {kp : SetS → Bool} (t : Tn n rs bs rows bad N kp) (hR : R.Pairwise ltK) (hRm : ∀ x, x ∈ R ↔ MinIn (· ∈ (allS N N.length).filter kp) x) {x2 x9 x10 x11 x12 x13 x14 : Option Vl} {O : Store} (hh : Has O a c k) (hk : k + 1000 < lim) {D : TD} (hD : TurnEnd a c (k + 1000) D) :
    WS g 9 (fS n_law (defScope s_law)) [none, some (.cell a), x2, some (.t (drawnT n rs bs)), some (.t (plT C rows bad)), some (.t (.lst (sT N))), some (.t (.lst (sets ((allS N N.length).filter kp)))), some (.t (.lst (sets (allS N N.length)))), some (.t (.lst (sets R))), x9, x10, x11, x12, x13, x14] O (turnB.drop 5) D := by
  have big : 10000 ≤ sizeLine := by decide
  have n6 := t.n12
  have ev := t.every
  have okN := t.ok
  refine ws_cons (st 9 (w_lst True.intro ⟨Nat.zero_le _, .inr fun d hd => ?_⟩))
  have hd2 := hh.fresh hd
  have hYY := fun (x10 x11 x12 x13 x14 : Option Vl) (O : Store) (hh : Has O a c k) => turnY E t hR hRm (x2 := x2) (x10 := x10) (x11 := x11) (x12 := x12) (x13 := x13) (x14 := x14) hh hk hD
  have aM : ∀ x ∈ allS N N.length, Srt x ∧ Sb x N := fun x hx => allS_mem.mp hx
  generalize hEv : allS N N.length = Ev at ev aM hYY
  have okE : okL Ev := fun x hx s hs => okN s ((aM x hx).2 s hs)
  have okK : okL (Ev.filter kp) := fun x hx => okE x (List.mem_filter.mp hx).1
  refine ws_cons (fr (wi_list (v 7 rfl ⟨sets Ev, rfl, fun i ρ1 O3 => ∃ x10 x11, ρ1 = [none, some (.cell a), x2, some (.t (drawnT n rs bs)), some (.t (plT C rows bad)), some (.t (.lst (sT N))), some (.t (.lst (sets (Ev.filter kp)))), some (.t (.lst (sets Ev))), some (.t (.lst (sets R))), some (.cell d), x10, x11, x12, x13, x14] ∧ O3 = sup O d (.lst ((sets ((Ev.take i).filter (grB N (Ev.filter kp)))).map Vl.t)), ⟨_, _, rfl, rfl⟩, ?_, ?_⟩)))
  · rintro i u ρ1 O3 hu ⟨x10, x11, rfl, rfl⟩
    obtain ⟨tt, h1, rfl⟩ := map_get hu
    obtain ⟨x, h2, rfl⟩ := map_get h1
    have hxm := List.mem_of_getElem? h2
    have hx := aM x hxm
    have xl : x.length ≤ 6 := Nat.le_trans (Sb.len hx.1 hx.2) n6
    have okx : ∀ s ∈ x, okS s := fun s hs => okN s (hx.2 s hs)
    have fs := filter_snoc (p := grB N (Ev.filter kp)) h2
    have fl : ((Ev.take i).filter (grB N (Ev.filter kp))).length ≤ 64 := Nat.le_trans (List.length_filter_le _ _) (by rw [List.length_take]; omega)
    refine ⟨_, _, gn 10, ws_cons (stLcP (α := Str) 11 [("_law_name", 14)] [14] (fun a => .t (.str a)) (fun a => !decide (a ∈ x)) (fun a => SetT (addS x a)) (wi_list (v 5 rfl ⟨sT N, rfl, N, by rw [List.map_map]; rfl, by omega, fun b hb => ⟨_, gn 14, ?_⟩, .inl ?_⟩)))⟩
    · refine wb_cmp o_notInS (v 14 rfl (v 10 rfl ⟨b, x, rfl, .inr rfl, _, rfl, rfl, rfl, fun _ => ?_⟩)) rfl
      obtain ⟨s1, s2, s3, s4⟩ := srtd_strs (x ++ [b]) (by rw [List.length_append, List.length_singleton]; omega)
      refine cT b_tuple E.b_tuple (cB b_sortedA E.b_sorted (w_bin o_catT (v 10 rfl (w_tup ⟨fun _ => rfl, True.intro⟩ (v 14 rfl ⟨[.str b], rfl, by show 1 ≤ sizeLine; omega, sT x, [.str b], rfl, rfl, by rw [List.length_map]; show x.length + 1 ≤ sizeLine; omega, sT (x ++ [b]), .inr (by simp), s1, s2, s3, s4, _, .inl rfl, by rw [sortT_strs]; rfl, rfl⟩)))))
    have eM : (N.filter fun a => !decide (a ∈ x)).map (fun a => SetT (addS x a)) = sets ((N.filter fun a => !decide (a ∈ x)).map (addS x)) := by simp [Function.comp_def]
    rw [eM]
    have okM : okL ((N.filter fun a => !decide (a ∈ x)).map (addS x)) := fun y hy s hs => by
      obtain ⟨b, hb, rfl⟩ := List.mem_map.mp hy
      rcases addS_mem.mp hs with q | rfl
      · exact okx s q
      · exact okN s (List.mem_filter.mp hb).1
    have mz : ((N.filter fun a => !decide (a ∈ x)).map (addS x)).length ≤ sizeLine := by
      have : (N.filter fun a => !decide (a ∈ x)).length ≤ N.length := List.length_filter_le _ _
      rw [List.length_map]; omega
    refine ws_one (w1_if (wb_chain (wp_and (wb_cmp o_notInL (v 10 rfl (v 6 rfl ⟨SetT x, sets (Ev.filter kp), rfl, rfl, okD_set okx, okD_sets okK, _, rfl, fun h => ?_, fun h => ⟨fun h => (by cases h), fun _ => ws_nil ⟨_, _, rfl, ?_⟩⟩⟩)) rfl))))
    · rw [any_eqT] at h
      refine wp_one (wb_val (cP (d_x_in E) (v 11 rfl (v 6 rfl ⟨[_, _], rfl, .inr ⟨_, Ev.filter kp, rfl, mz, okM, okK, _, rfl, fun h2 => ?_, fun h2 => ws_nil ⟨_, _, rfl, ?_⟩⟩⟩))) fun _ _ => rfl)
      · have hg : grB N (Ev.filter kp) x = true := by unfold grB; rw [h, h2]; rfl
        refine ws_one (sx (app (v 9 rfl ⟨d, rfl, ⟨_, sup_same⟩, v 10 rfl ⟨_, sup_same, ?_, _, _, rfl, ?_⟩⟩)))
        · simp only [List.length_map]; omega
        · rw [sup_sup, fs, hg]
          simp
      · have hg : grB N (Ev.filter kp) x = false := by unfold grB; rw [h, h2]; rfl
        rw [fs, hg]
        simp
    · rw [any_eqT] at h
      have hg : grB N (Ev.filter kp) x = false := by unfold grB; rw [h]; rfl
      rw [fs, hg]
      simp
  · rintro ρ1 O3 ⟨x10, x11, rfl, rfl⟩
    rw [List.length_map, List.length_map, List.take_length]
    obtain ⟨O', s', sp⟩ := split_S (hh.other (y := .lst ((sets (Ev.filter (grB N (Ev.filter kp)))).map Vl.t)) hd2.1 hd2.2) hd2.1 hd2.2 sup_same
    refine ws_frz (ρ' := [none, some (.cell a), x2, some (.t (drawnT n rs bs)), some (.t (plT C rows bad)), some (.t (.lst (sT N))), some (.t (.lst (sets (Ev.filter kp)))), some (.t (.lst (sets Ev))), some (.t (.lst (sets R))), some (.t (.lst (sets (Ev.filter (grB N (Ev.filter kp)))))), x10, x11, x12, x13, x14]) sp (.keep (.keep (.keep (.keep (.keep (.keep (.keep (.keep (.keep (.frz (Frz.flat sup_same) (.keep (.keep (.keep (.keep (.keep .nil))))))))))))))) ?_
    subst hEv
    exact hYY _ _ _ _ _ _ s'.has
theorem turnV (E : Env g C) {a c : Addr} {k : Nat} {n : Nat} {rs : List RawS} {bs : List Nat} (Dr : Drawn six n rs bs) {x2 x4 x5 x6 x7 x8 x9 x10 x11 x12 x13 x14 : Option Vl} {O : Store} (hh : Has O a c k) (hk : k + 2000 < lim) {D : TD} (hD : TurnEnd a c (k + 1500) D) :
    WS g 9 (fS n_law (defScope s_law)) [none, some (.cell a), x2, some (.t (drawnT n rs bs)), x4, x5, x6, x7, x8, x9, x10, x11, x12, x13, x14] O (turnB.drop 3) D := by
  have big : 10000 ≤ sizeLine := by decide
  have rl := Dr.len
  refine ws_cons ?_
  refine par3 4 5 6 ?_
  refine cS (d_x_made E) (v 1 rfl (v 3 rfl ⟨a, c, k, [drawnT n rs bs], _, rfl, hh, ⟨six, n, rs, bs, rfl, Dr, by omega, rfl⟩, ?_⟩))
  rintro tt k' ⟨rfl, rows, bad, rfl, Mk⟩ O2 hh2 e2
  refine cP (d_x_names E) (v 3 rfl ⟨[drawnT n rs bs], rfl, n, rs, bs, rfl, by omega, fun r hr => ⟨(Dr.raw r hr).nd, (Dr.raw r hr).len⟩, fun N hN hm => ?_⟩)
  refine cP (d_x_keeping E) (v 3 rfl ⟨[drawnT n rs bs], rfl, six, n, rs, bs, N, rfl, Dr, six_ok, hN, hm, fun kp hkp => ?_⟩)
  have t : Tn n rs bs rows bad N kp := ⟨Dr, Mk, hN, hm, hkp⟩
  have n6 := t.n12
  have ev := t.every
  have fl : ((allS N N.length).filter kp).length ≤ 64 := Nat.le_trans (List.length_filter_le _ _) ev
  refine ws_cons ?_
  refine par2 7 8 ?_
  refine cP (d_x_all E) (v 5 rfl ⟨[.lst (sT N)], rfl, N, rfl, hN, by omega, t.ok, ?_⟩)
  refine cP (d_x_least E) (v 6 rfl ⟨[_], rfl, (allS N N.length).filter kp, rfl, (allS_pw hN _).filter _, fun x hx => (allS_mem.mp (List.mem_filter.mp hx).1).1, fun x hx => ?_, by omega, fun R hR hRm => ?_⟩)
  · have h := allS_mem.mp (List.mem_filter.mp hx).1
    have := Sb.len h.1 h.2
    omega
  exact turnX E t hR hRm hh2 (by omega) hD
/-- one turn -/
theorem turn (E : Env g C) {a c : Addr} {k : Nat} {x2 x3 x4 x5 x6 x7 x8 x9 x10 x11 x12 x13 x14 : Option Vl} {O : Store} (hh : Has O a c k) (hk : k + 10000 < lim) {D : TD} (hD : TurnEnd a c (k + 10000) D) :
    WS g 9 (fS n_law (defScope s_law)) [none, some (.cell a), x2, x3, x4, x5, x6, x7, x8, x9, x10, x11, x12, x13, x14] O turnB D := by
  have big : 10000 ≤ sizeLine := by decide
  refine ws_cons (st 3 (cS (d_x_some E) (v 1 rfl ⟨a, c, k, [], _, rfl, hh, ⟨rfl, by omega, rfl⟩, ?_⟩)))
  rintro tt k' ⟨rfl, n, rs, bs, rfl, Dr, hb20⟩ O1 hh1 e1
  have third : ∀ (bs : List Nat) (O : Store), Drawn six n rs bs → Has O a c (k + 4000 + 1) → WS g 9 (fS n_law (defScope s_law)) [none, some (.cell a), x2, some (.t (drawnT n rs bs)), x4, x5, x6, x7, x8, x9, x10, x11, x12, x13, x14] O (turnB.drop 2) D := by
    intro bs O Dr hh2
    refine ws_cons (w1_if (wb_cmp o_eq (drw E (by decide) (v 1 rfl ⟨a, c, rfl, w_int ⟨12, _, rfl, by decide, by decide, hh2, by omega, fun y O3 hy hh3 e3 => w_int ⟨.int (y : Nat), .int 0, rfl, rfl, okD_int _, okD_int _, _, rfl, fun _ => ?_, fun _ => ws_nil ?_⟩⟩⟩)) rfl))
    · have D2 : Drawn six n rs [] := ⟨Dr.pos, Dr.small, Dr.len, Dr.raw, Dr.w, Dr.u, Dr.nd, fun b hb => (by cases hb), Nat.zero_le _⟩
      refine ws_one (st 3 (w_tup ⟨fun _ => rfl, fun _ => rfl, fun _ => rfl, True.intro⟩ (ix x_seq (v 3 rfl (w_int ⟨_, 0, .int n, .inr rfl, rfl, at_nat (j := 0) rfl, ix x_seq (v 3 rfl (w_int ⟨_, 1, .lst (rs.map rawT), .inr rfl, rfl, at_nat (j := 1) rfl, w_lst True.intro ⟨Nat.zero_le _, .inl ⟨[], rfl, [_, _, _], rfl, by show 3 ≤ sizeLine; omega, ?_⟩⟩⟩))⟩)))))
      exact turnV E D2 hh3 (by omega) fun x2 x3 x4 x5 x6 x7 x8 x9 x10 x11 x12 x13 x14 O h => hD _ _ _ _ _ _ _ _ _ _ _ _ _ _ (h.mono (by omega))
    · exact turnV E Dr hh3 (by omega) fun x2 x3 x4 x5 x6 x7 x8 x9 x10 x11 x12 x13 x14 O h => hD _ _ _ _ _ _ _ _ _ _ _ _ _ _ (h.mono (by omega))
  refine ws_cons (w1_if (wb_cmp o_eq (drw E (by decide) (v 1 rfl ⟨a, c, rfl, w_int ⟨12, _, rfl, by decide, by decide, hh1, by omega, fun y O3 hy hh3 e3 => w_int ⟨.int (y : Nat), .int 0, rfl, rfl, okD_int _, okD_int _, _, rfl, fun _ => ?_, fun _ => ws_nil (third bs O3 Dr hh3)⟩⟩⟩)) rfl))
  have D2 : Drawn six n rs (bs ++ [0]) := ⟨Dr.pos, Dr.small, Dr.len, Dr.raw, Dr.w, Dr.u, Dr.nd, fun b hb => by
    rcases mem_snoc hb with q | rfl
    · exact Dr.bad b q
    · exact Dr.pos, by rw [List.length_append, List.length_singleton]; omega⟩
  have eb : iT bs ++ [T.int 0] = iT (bs ++ [0]) := by unfold iT; rw [List.map_append]; rfl
  refine ws_one (st 3 (w_tup ⟨fun _ => rfl, fun _ => rfl, fun _ => rfl, True.intro⟩ (ix x_seq (v 3 rfl (w_int ⟨_, 0, .int n, .inr rfl, rfl, at_nat (j := 0) rfl, ix x_seq (v 3 rfl (w_int ⟨_, 1, .lst (rs.map rawT), .inr rfl, rfl, at_nat (j := 1) rfl, w_bin o_catL (ix x_seq (v 3 rfl (w_int ⟨_, 2, .lst (iT bs), .inr rfl, rfl, at_nat (j := 2) rfl, w_lst ⟨fun _ => rfl, True.intro⟩ (w_int ⟨by show 1 ≤ sizeLine; omega, .inl ⟨[_], rfl, iT bs, [.int 0], rfl, rfl, by rw [List.length_map]; show bs.length + 1 ≤ sizeLine; omega, [_, _, _], rfl, by show 3 ≤ sizeLine; omega, ?_⟩⟩)⟩)))⟩))⟩)))))
  rw [eb]
  exact third (bs ++ [0]) O3 D2 hh3
/-- the law, behind its first statement -/
theorem law_rest (E : Env g C) {a c : Addr} {O : Store} (hh : Has O a c 0) {D : TD} (hD : ∀ O, D.rt (.t (.bl true)) O) :
    WS g 9 (fS n_law (defScope s_law)) [none, some (.cell a), none, none, none, none, none, none, none, none, none, none, none, none, none] O ((defBody s_law).drop 1) D := by
  refine ws_cons (w1_if (wb_not (wb_val (cS (d_many_right E) (v 1 rfl ⟨a, c, 0, [], _, rfl, hh, ⟨rfl, by decide, rfl⟩, ?_⟩)) fun _ _ => rfl)))
  rintro tt k' ⟨rfl, rfl⟩ O1 hh1 e1
  refine ⟨true, rfl, fun h => absurd h (by decide), fun _ => ws_nil ?_⟩
  refine ws_cons (fr (wr1 E.b_range (w_int ⟨4, rfl, by decide, by decide, fun i ρ1 O3 => ∃ x2 x3 x4 x5 x6 x7 x8 x9 x10 x11 x12 x13 x14, ρ1 = [none, some (.cell a), x2, x3, x4, x5, x6, x7, x8, x9, x10, x11, x12, x13, x14] ∧ Has O3 a c (100 + i * 10000), ⟨_, _, _, _, _, _, _, _, _, _, _, _, _, rfl, hh1⟩, ?_, ?_⟩)))
  · rintro i u ρ1 O3 hu ⟨x2, x3, x4, x5, x6, x7, x8, x9, x10, x11, x12, x13, x14, rfl, hh3⟩
    have hi : i < 4 := by
      have := (List.getElem?_eq_some_iff.mp hu).1
      rw [List.length_map, rng_len] at this
      exact this
    have hlim : 100 + i * 10000 + 10000 < lim := Nat.lt_of_le_of_lt (show _ ≤ 50000 by omega) (by decide)
    refine ⟨_, _, gn 2, turn E hh3 hlim fun x2 x3 x4 x5 x6 x7 x8 x9 x10 x11 x12 x13 x14 O h => ⟨_, _, _, _, _, _, _, _, _, _, _, _, _, rfl, h.mono (by omega)⟩⟩
  · rintro ρ1 O3 ⟨x2, x3, x4, x5, x6, x7, x8, x9, x10, x11, x12, x13, x14, rfl, hh3⟩
    exact ws_one (w1_ret (w_bl (hD _)))
end Far
namespace Far
open PySem PySem.Spec PyProof.Rows L2 TL
/-! ### the def law -/
section
variable {P : Program} {w : World} {K : PySem.W.Frag} {mg : Str → Option Value} {base : Heap} {f : Addr} {fd : FuncData}
def spStart (K : PySem.W.Frag) : Sp := fun vs H Q _ => ∃ (a : Addr) (ns : List Int), vs = [.ref a] ∧ SqL K H a (ns.map V.int) ∧ ∀ c p, H c = none → upd H c (.lst (ns.map V.int)) p = none → Q (.ref p) (upd (upd H c (.lst (ns.map V.int))) p (.lst [.ref c, .int 0, .int 0, .int 11]))
theorem ok_start (F : FunD K "_law_start" "_law_start" (defArgs s__law_start) (defBody s__law_start) (defScope s__law_start) [] [] f fd) (gl : mg "list" = none) : FnOk P w K mg base CX0 1 f fd ["_law_script"] (spStart K) := by
  refine F.ok sc__law_start (fun vs H Q E h => by obtain ⟨a, ns, rfl, _⟩ := h; rfl) (fun cdv A outer s H vs Q E hr h => ⟨_, PSs.nox (pss_one (ps_ret (pe_lst (pa_cons (pe_callTy call_list_of rfl gl rfl (pa_cons (pv 0) pa_nil)) (pa_cons pe_int (pa_cons pe_int (pa_cons pe_int pa_nil))))))), ?_⟩)
  obtain ⟨a, ns, rfl, hS, hQ⟩ := h
  exact ⟨.ref a, rfl, a, ns.map V.int, rfl, .inl hS, fun c hc => ⟨by show 4 ≤ sizeLine; decide, fun p hp => hQ c p hc hp⟩⟩
def spLaw (K : PySem.W.Frag) : Sp := fun vs H Q _ => ∃ (a : Addr) (ns : List Int), vs = [.ref a] ∧ SqL K H a (ns.map V.int) ∧ ∀ H', Q (.bl true) H'
theorem ok_law {C : Addr} (En : Env ⟨P, w, K, mg, base⟩ C) (F : FunD K "law" "law" (defArgs s_law) (defBody s_law) (defScope s_law) [] [] f fd) : FnOk P w K mg base CX0 10 f fd ["_law_script"] (spLaw K) := by
  obtain ⟨f1, fd1, hg1, F1⟩ := En.f__law_start
  have G1 : FnOk P w K mg base CX0 1 f1 fd1 ["_law_script"] (spStart K) := ok_start F1 En.b_list
  have b1 : Binds K fd1 ["_law_script"] [] := FunD.bindsN F1 fun _ _ _ _ _ _ us hl => match us, hl with | [_], _ => rfl
  refine F.ok sc_law (fun vs H Q E h => by obtain ⟨a, ns, rfl, _⟩ := h; rfl) (fun cdv A outer s H vs Q E hr h => ⟨_, PSs.nox (pss_cons (ps_set (i := 1) sc_law.nd rfl (.inl rfl) (pe_call G1 (hr.mono (by decide)) rfl hg1 F1.kp b1 .nil pass0 (pa_cons (pv 0) pa_nil))) pss_sem), ?_⟩)
  obtain ⟨a, ns, rfl, hS, hQ⟩ := h
  refine ⟨.ref a, rfl, a, ns, rfl, hS, fun c p hc hp => ?_⟩
  have hpc : p ≠ c := fun e => by subst e; rw [upd_same] at hp; cases hp
  refine law_rest En (a := p) (c := c) (O := strm p c ns 0 0 11) ⟨ns, 0, 0, 11, hpc, strm_a, strm_c hpc, by decide, by decide, by decide, by decide, by decide⟩ (D := { nx := fun _ _ => False, rt := fun u _ => u = .t (.bl true) }) (fun _ => rfl) _ ⟨rfl, rfl, hr, rfl, sc_law.nd, rfl⟩ _ (fun _ => none) _ ⟨rfl, fun i u hi => ?_⟩ ⟨fun b o e => (by cases e), fun b x e => ?_⟩ _ ⟨fun _ _ _ _ _ _ _ _ q => q.elim, fun u v F' H' O' s' c' r' q => ?_, fun _ _ _ _ _ _ _ _ q => q.elim, fun _ _ _ _ _ _ _ _ q => q.elim⟩
  · match i, hi with
    | 0, hi => cases hi
    | 1, hi => cases hi; exact ⟨.ref p, rfl, rfl⟩
    | 2, hi => cases hi
    | 3, hi => cases hi
    | 4, hi => cases hi
    | 5, hi => cases hi
    | 6, hi => cases hi
    | 7, hi => cases hi
    | 8, hi => cases hi
    | 9, hi => cases hi
    | 10, hi => cases hi
    | 11, hi => cases hi
    | 12, hi => cases hi
    | 13, hi => cases hi
    | 14, hi => cases hi
    | i + 15, hi => simp at hi
  · refine ⟨rfl, ?_⟩
    by_cases h1 : b = p
    · subst h1
      rw [strm_a] at e
      cases e
      exact ⟨_, upd_same, [.ref c, .int 0, .int 0, .int 11], rfl, .cons rfl (.cons (Rep.int _) (.cons (Rep.int _) (.cons (Rep.int _) .nil)))⟩
    · by_cases h2 : b = c
      · subst h2
        rw [strm_c hpc] at e
        cases e
        refine ⟨_, by rw [upd_ne h1]; exact upd_same, ns.map V.int, rfl, ?_⟩
        unfold sI
        have := (RepL.of_ints (w := w) (F := fun _ => none) ns).vreps
        rw [List.map_map] at this
        exact this
      · rw [strm_o h1 h2] at e
        cases e
  · subst q
    have := vrep_bl r'
    subst this
    exact hQ _
end
end Far
namespace Far
open PySem PySem.Spec PyProof.Rows L2 TL
theorem env_of {P : Program} {w : World} {K : PySem.W.Frag} {h : Heap} {mg : Str → Option Value} (X : K.In h) (G : h.Ns mainGlobals mg) (c : He.SaysD fa fn K) (base : Heap) : Env ⟨P, w, K, mg, base⟩ (He.ga K "Play") where
  f_is_list := by
    obtain ⟨fd, F⟩ := c.def_ 0 (d := d_0) rfl
    exact ⟨_, fd, He.glo_ok X G (c.fact 0 (f := .glo "is_list") rfl), F⟩
  f_is_integer := by
    obtain ⟨fd, F⟩ := c.def_ 1 (d := d_1) rfl
    exact ⟨_, fd, He.glo_ok X G (c.fact 1 (f := .glo "is_integer") rfl), F⟩
  f_is_number := by
    obtain ⟨fd, F⟩ := c.def_ 2 (d := d_2) rfl
    exact ⟨_, fd, He.glo_ok X G (c.fact 2 (f := .glo "is_number") rfl), F⟩
  f_is_name := by
    obtain ⟨fd, F⟩ := c.def_ 3 (d := d_3) rfl
    exact ⟨_, fd, He.glo_ok X G (c.fact 3 (f := .glo "is_name") rfl), F⟩
  f_is_word := by
    obtain ⟨fd, F⟩ := c.def_ 4 (d := d_4) rfl
    exact ⟨_, fd, He.glo_ok X G (c.fact 4 (f := .glo "is_word") rfl), F⟩
  f_as_word := by
    obtain ⟨fd, F⟩ := c.def_ 5 (d := d_5) rfl
    exact ⟨_, fd, He.glo_ok X G (c.fact 5 (f := .glo "as_word") rfl), F⟩
  f_are_names := by
    obtain ⟨fd, F⟩ := c.def_ 6 (d := d_6) rfl
    exact ⟨_, fd, He.glo_ok X G (c.fact 6 (f := .glo "are_names") rfl), F⟩
  f_each_once := by
    obtain ⟨fd, F⟩ := c.def_ 7 (d := d_7) rfl
    exact ⟨_, fd, He.glo_ok X G (c.fact 7 (f := .glo "each_once") rfl), F⟩
  f_is_stand := by
    obtain ⟨fd, F⟩ := c.def_ 8 (d := d_8) rfl
    exact ⟨_, fd, He.glo_ok X G (c.fact 8 (f := .glo "is_stand") rfl), F⟩
  f_kept_step := by
    obtain ⟨fd, F⟩ := c.def_ 9 (d := d_9) rfl
    exact ⟨_, fd, He.glo_ok X G (c.fact 9 (f := .glo "kept_step") rfl), F⟩
  f_checked_steps := by
    obtain ⟨fd, F⟩ := c.def_ 10 (d := d_10) rfl
    exact ⟨_, fd, He.glo_ok X G (c.fact 10 (f := .glo "checked_steps") rfl), F⟩
  f_checked_stands := by
    obtain ⟨fd, F⟩ := c.def_ 11 (d := d_11) rfl
    exact ⟨_, fd, He.glo_ok X G (c.fact 11 (f := .glo "checked_stands") rfl), F⟩
  f_checked_rules := by
    obtain ⟨fd, F⟩ := c.def_ 16 (d := d_16) rfl
    exact ⟨_, fd, He.glo_ok X G (c.fact 12 (f := .glo "checked_rules") rfl), F⟩
  f_can_be_done := by
    obtain ⟨fd, F⟩ := c.def_ 17 (d := d_17) rfl
    exact ⟨_, fd, He.glo_ok X G (c.fact 13 (f := .glo "can_be_done") rfl), F⟩
  f_steps_under := by
    obtain ⟨fd, F⟩ := c.def_ 18 (d := d_18) rfl
    exact ⟨_, fd, He.glo_ok X G (c.fact 14 (f := .glo "steps_under") rfl), F⟩
  f_shortest_runs := by
    obtain ⟨fd, F⟩ := c.def_ 19 (d := d_19) rfl
    exact ⟨_, fd, He.glo_ok X G (c.fact 15 (f := .glo "shortest_runs") rfl), F⟩
  f_break_run := by
    obtain ⟨fd, F⟩ := c.def_ 20 (d := d_20) rfl
    exact ⟨_, fd, He.glo_ok X G (c.fact 16 (f := .glo "break_run") rfl), F⟩
  f_keeps := by
    obtain ⟨fd, F⟩ := c.def_ 21 (d := d_21) rfl
    exact ⟨_, fd, He.glo_ok X G (c.fact 17 (f := .glo "keeps") rfl), F⟩
  f_is_part := by
    obtain ⟨fd, F⟩ := c.def_ 22 (d := d_22) rfl
    exact ⟨_, fd, He.glo_ok X G (c.fact 18 (f := .glo "is_part") rfl), F⟩
  f_in_order := by
    obtain ⟨fd, F⟩ := c.def_ 23 (d := d_23) rfl
    exact ⟨_, fd, He.glo_ok X G (c.fact 19 (f := .glo "in_order") rfl), F⟩
  f_least_of := by
    obtain ⟨fd, F⟩ := c.def_ 24 (d := d_24) rfl
    exact ⟨_, fd, He.glo_ok X G (c.fact 20 (f := .glo "least_of") rfl), F⟩
  f_least_hitting := by
    obtain ⟨fd, F⟩ := c.def_ 25 (d := d_25) rfl
    exact ⟨_, fd, He.glo_ok X G (c.fact 21 (f := .glo "least_hitting") rfl), F⟩
  f_joined := by
    obtain ⟨fd, F⟩ := c.def_ 26 (d := d_26) rfl
    exact ⟨_, fd, He.glo_ok X G (c.fact 22 (f := .glo "joined") rfl), F⟩
  f_least_barrings := by
    obtain ⟨fd, F⟩ := c.def_ 27 (d := d_27) rfl
    exact ⟨_, fd, He.glo_ok X G (c.fact 23 (f := .glo "least_barrings") rfl), F⟩
  f_threats := by
    obtain ⟨fd, F⟩ := c.def_ 28 (d := d_28) rfl
    exact ⟨_, fd, He.glo_ok X G (c.fact 24 (f := .glo "threats") rfl), F⟩
  f_least_sets := by
    obtain ⟨fd, F⟩ := c.def_ 29 (d := d_29) rfl
    exact ⟨_, fd, He.glo_ok X G (c.fact 25 (f := .glo "least_sets") rfl), F⟩
  f_greatest_breaking := by
    obtain ⟨fd, F⟩ := c.def_ 30 (d := d_30) rfl
    exact ⟨_, fd, He.glo_ok X G (c.fact 26 (f := .glo "greatest_breaking") rfl), F⟩
  f__law_x_play := by
    obtain ⟨fd, F⟩ := c.def_ 31 (d := d_31) rfl
    exact ⟨_, fd, He.glo_ok X G (c.fact 27 (f := .glo "_law_x_play") rfl), F⟩
  f__law_x_led := by
    obtain ⟨fd, F⟩ := c.def_ 32 (d := d_32) rfl
    exact ⟨_, fd, He.glo_ok X G (c.fact 28 (f := .glo "_law_x_led") rfl), F⟩
  f__law_x_some := by
    obtain ⟨fd, F⟩ := c.def_ 33 (d := d_33) rfl
    exact ⟨_, fd, He.glo_ok X G (c.fact 29 (f := .glo "_law_x_some") rfl), F⟩
  f__law_x_made := by
    obtain ⟨fd, F⟩ := c.def_ 34 (d := d_34) rfl
    exact ⟨_, fd, He.glo_ok X G (c.fact 30 (f := .glo "_law_x_made") rfl), F⟩
  f__law_x_names := by
    obtain ⟨fd, F⟩ := c.def_ 35 (d := d_35) rfl
    exact ⟨_, fd, He.glo_ok X G (c.fact 31 (f := .glo "_law_x_names") rfl), F⟩
  f__law_x_all := by
    obtain ⟨fd, F⟩ := c.def_ 36 (d := d_36) rfl
    exact ⟨_, fd, He.glo_ok X G (c.fact 32 (f := .glo "_law_x_all") rfl), F⟩
  f__law_x_in := by
    obtain ⟨fd, F⟩ := c.def_ 37 (d := d_37) rfl
    exact ⟨_, fd, He.glo_ok X G (c.fact 33 (f := .glo "_law_x_in") rfl), F⟩
  f__law_x_least := by
    obtain ⟨fd, F⟩ := c.def_ 38 (d := d_38) rfl
    exact ⟨_, fd, He.glo_ok X G (c.fact 34 (f := .glo "_law_x_least") rfl), F⟩
  f__law_x_keeps := by
    obtain ⟨fd, F⟩ := c.def_ 39 (d := d_39) rfl
    exact ⟨_, fd, He.glo_ok X G (c.fact 35 (f := .glo "_law_x_keeps") rfl), F⟩
  f__law_x_keeping := by
    obtain ⟨fd, F⟩ := c.def_ 40 (d := d_40) rfl
    exact ⟨_, fd, He.glo_ok X G (c.fact 36 (f := .glo "_law_x_keeping") rfl), F⟩
  f__law_start := by
    obtain ⟨fd, F⟩ := c.def_ 41 (d := d_41) rfl
    exact ⟨_, fd, He.glo_ok X G (c.fact 37 (f := .glo "_law_start") rfl), F⟩
  f__law_draw := by
    obtain ⟨fd, F⟩ := c.def_ 42 (d := d_42) rfl
    exact ⟨_, fd, He.glo_ok X G (c.fact 38 (f := .glo "_law_draw") rfl), F⟩
  f__law_pick := by
    obtain ⟨fd, F⟩ := c.def_ 43 (d := d_43) rfl
    exact ⟨_, fd, He.glo_ok X G (c.fact 39 (f := .glo "_law_pick") rfl), F⟩
  f__law_mixed := by
    obtain ⟨fd, F⟩ := c.def_ 44 (d := d_44) rfl
    exact ⟨_, fd, He.glo_ok X G (c.fact 40 (f := .glo "_law_mixed") rfl), F⟩
  f__law_same := by
    obtain ⟨fd, F⟩ := c.def_ 45 (d := d_45) rfl
    exact ⟨_, fd, He.glo_ok X G (c.fact 41 (f := .glo "_law_same") rfl), F⟩
  f__law_table := by
    obtain ⟨fd, F⟩ := c.def_ 46 (d := d_46) rfl
    exact ⟨_, fd, He.glo_ok X G (c.fact 42 (f := .glo "_law_table") rfl), F⟩
  f__law_next := by
    obtain ⟨fd, F⟩ := c.def_ 47 (d := d_47) rfl
    exact ⟨_, fd, He.glo_ok X G (c.fact 43 (f := .glo "_law_next") rfl), F⟩
  f__law_levels := by
    obtain ⟨fd, F⟩ := c.def_ 48 (d := d_48) rfl
    exact ⟨_, fd, He.glo_ok X G (c.fact 44 (f := .glo "_law_levels") rfl), F⟩
  f__law_loose := by
    obtain ⟨fd, F⟩ := c.def_ 49 (d := d_49) rfl
    exact ⟨_, fd, He.glo_ok X G (c.fact 45 (f := .glo "_law_loose") rfl), F⟩
  f__law_hit := by
    obtain ⟨fd, F⟩ := c.def_ 50 (d := d_50) rfl
    exact ⟨_, fd, He.glo_ok X G (c.fact 46 (f := .glo "_law_hit") rfl), F⟩
  f__law_facts_right := by
    obtain ⟨fd, F⟩ := c.def_ 51 (d := d_51) rfl
    exact ⟨_, fd, He.glo_ok X G (c.fact 47 (f := .glo "_law_facts_right") rfl), F⟩
  f__law_many_right := by
    obtain ⟨fd, F⟩ := c.def_ 52 (d := d_52) rfl
    exact ⟨_, fd, He.glo_ok X G (c.fact 48 (f := .glo "_law_many_right") rfl), F⟩
  f_law := by
    obtain ⟨fd, F⟩ := c.def_ 53 (d := d_53) rfl
    exact ⟨_, fd, He.glo_ok X G (c.fact 49 (f := .glo "law") rfl), F⟩
  b_isinstance := He.free_ok X G (c.fact 51 (f := .free "isinstance") rfl)
  b_len := He.free_ok X G (c.fact 52 (f := .free "len") rfl)
  b_all := He.free_ok X G (c.fact 53 (f := .free "all") rfl)
  b_any := He.free_ok X G (c.fact 54 (f := .free "any") rfl)
  b_tuple := He.free_ok X G (c.fact 55 (f := .free "tuple") rfl)
  b_list := He.free_ok X G (c.fact 56 (f := .free "list") rfl)
  b_sorted := He.free_ok X G (c.fact 57 (f := .free "sorted") rfl)
  b_dict := He.free_ok X G (c.fact 58 (f := .free "dict") rfl)
  b_int := He.free_ok X G (c.fact 59 (f := .free "int") rfl)
  b_str := He.free_ok X G (c.fact 60 (f := .free "str") rfl)
  b_bool := He.free_ok X G (c.fact 61 (f := .free "bool") rfl)
  b_enumerate := He.free_ok X G (c.fact 62 (f := .free "enumerate") rfl)
  b_range := He.free_ok X G (c.fact 63 (f := .free "range") rfl)
  b_min := He.free_ok X G (c.fact 64 (f := .free "min") rfl)
  b_zip := He.free_ok X G (c.fact 65 (f := .free "zip") rfl)
  t_SMALL := He.str_ok X G (c.fact 66 (f := .str "SMALL" "abcdefghijklmnopqrstuvwxyz") rfl)
  t_FIGURES := He.str_ok X G (c.fact 67 (f := .str "FIGURES" "0123456789") rfl)
  m_Play := He.glo_ok X G (c.fact 50 (f := .glo "Play") rfl)
  cls := He.cls_ok (c.fact 68 (f := .cls "Play") rfl)
  mkr := by
    obtain ⟨fd, F⟩ := c.def_ 12 (d := d_12) rfl
    exact ⟨_, fd, He.mkr_ok (c.fact 69 (f := .mkr "Play") rfl), F⟩
  m_steps := by
    obtain ⟨fd, F⟩ := c.def_ 13 (d := d_13) rfl
    exact ⟨_, fd, He.meth_ok (c.fact 70 (f := .meth "Play" "steps") rfl), F⟩
  m_rules := by
    obtain ⟨fd, F⟩ := c.def_ 14 (d := d_14) rfl
    exact ⟨_, fd, He.meth_ok (c.fact 71 (f := .meth "Play" "rules") rfl), F⟩
  m_len := by
    obtain ⟨fd, F⟩ := c.def_ 15 (d := d_15) rfl
    exact ⟨_, fd, He.meth_ok (c.fact 72 (f := .meth "Play" "__len__") rfl), F⟩
  n_table := He.noat_ok (c.fact 73 (f := .noat "Play" "own_table") rfl)
  n_bad := He.noat_ok (c.fact 74 (f := .noat "Play" "own_bad") rfl)
theorem facts {P : Program} {w : World} {K : PySem.W.Frag} {h : Heap} {mg : Str → Option Value} {f : Addr} (X : K.In h) (G : h.Ns mainGlobals mg) (hfa : mg ("law" : Str) = some (.ref f)) (c : He.SaysD fa fn K) :
    ∃ fd : FuncData, (∀ (s : Shared) (v : Value), BindsTo s fd ⟨[v], []⟩ [("_law_script", v)]) ∧ ∀ base : Heap, K.In base → base.Ns mainGlobals mg → FnOk P w K mg base CX0 10 f fd ["_law_script"] (spLaw K) := by
  obtain ⟨fd, F⟩ := c.def_ 53 (d := d_53) rfl
  have e := hfa.symm.trans (He.glo_ok X G (c.fact 49 (f := .glo "law") rfl))
  cases e
  have b := FunD.bindsA (ps := ["_law_script"]) F fun _ _ _ _ _ _ us hl => match us, hl with | [_], _ => rfl
  exact ⟨fd, fun s v => b s [v] rfl, fun base _ _ => ok_law (env_of X G c base) F⟩
end Far
open PySem PySem.W PySem.Calls PyProof.Rows
theorem PySem.Challenge.cw_farfolder_k09_whole_least_sets_holds : PySem.Challenge.rw_farfolder_k09_whole_least_sets.Holds := by
  w_on; o_law
  refine HandSHeadRun.head_any (r := OpenLaw.row PySem.Challenge.rw_farfolder_k09_whole_least_sets) (q := view (OpenLaw.row PySem.Challenge.rw_farfolder_k09_whole_least_sets).prog [65]) (H := Far.hk) (ob := Far.ob) (M := 12000) (loose := Far.lns) (d := HandSHeadRun.topDef (OpenLaw.row PySem.Challenge.rw_farfolder_k09_whole_least_sets).prog 65) (kwd := []) Far.ob_eq
    (by kernel_rfl) (fun s => by kernel_rfl) Far.run (by kernel_rfl) (by kernel_rfl) (by kernel_rfl) (by rfl) (by first | assumption | decide +kernel) (by decide +kernel) ⟨rfl, rfl, rfl, rfl, rfl, by decide +kernel⟩ ?hw ?hc
  case hw => w_witness2
  case hc =>
    refine L2.walk_ofE (l := PySem.Challenge.rw_farfolder_k09_whole_least_sets) (n := 63) (k := 10) (x := "_law_script") (CX := L2.CX0) rfl (by decide) (by kernel_rfl) ⟨rfl, by decide, by decide⟩ ?F (fun _ _ _ _ z => z)
    intro w mg fa h Y G hmg0
    obtain ⟨K, KX, c⟩ := Y
    have hmg : mg ("law" : PySem.Str) = some (.ref fa) := by
      have e : (HandSHeadRun.topDef (OpenLaw.row PySem.Challenge.rw_farfolder_k09_whole_least_sets).prog 65).name = ("law" : PySem.Str) := by kernel_rfl
      rw [← e]
      exact hmg0
    obtain ⟨fd, hb, hF⟩ := Far.facts (P := (PySem.Challenge.rw_farfolder_k09_whole_least_sets).prog) (w := w) KX G hmg c
    exact ⟨K, fd, Far.spLaw K, KX, hb, fun H a ns hl _ hS => ⟨a, ns, rfl, hS, fun _ => rfl⟩, hF⟩
