import PyProof.Rows.All
import Wide.All
import OpenK.AllK
import Wide.FinOn
import HandS.ForMost
import HandS.More
import HandS.TupAny
import HandS.IsInst
import HandS.Flow
import KE.DataCmp
import KE.KDictOf
import HandS.Rev
import HandS.Codes
import PySem.Challenge.RW_lastproof_k34_whole_clauses_follow_the_d
set_option Elab.async false
set_option maxRecDepth 100000
set_option maxHeartbeats 4000000
/-! The texts by places, the data, the heap's words, short rules. -/
namespace K3
open PySem PySem.Spec PyProof.Rows L2
def top (i : Nat) : Stmt := PySem.Challenge.pw_lastproof_k34_whole_clauses_follow_the_d.main.body.getD i (.Pass ⟨0, 0, 0, 0⟩)
abbrev s_inward_iff : Stmt := top 2
abbrev n_inward_iff : List Str := ["left", "right", "positive", "first", "second"]
abbrev p_inward_iff : List Str := ["left", "right", "positive"]
abbrev s_inward : Stmt := top 3
abbrev n_inward : List Str := ["formula", "positive", "tag", "left", "kept"]
abbrev p_inward : List Str := ["formula", "positive"]
abbrev s_is_variable : Stmt := top 5
abbrev n_is_variable : List Str := ["term"]
abbrev p_is_variable : List Str := ["term"]
abbrev s_collect : Stmt := top 6
abbrev n_collect : List Str := ["term", "found", "part"]
abbrev p_collect : List Str := ["term", "found"]
abbrev s_variables : Stmt := top 7
abbrev n_variables : List Str := ["term", "found"]
abbrev p_variables : List Str := ["term"]
abbrev s_collect_free : Stmt := top 10
abbrev n_collect_free : List Str := ["formula", "bound", "found", "tag", "term", "variable"]
abbrev p_collect_free : List Str := ["formula", "bound", "found"]
abbrev s_free_variables : Stmt := top 11
abbrev n_free_variables : List Str := ["formula", "found"]
abbrev p_free_variables : List Str := ["formula"]
abbrev s_skolem : Stmt := top 14
abbrev n_skolem : List Str := ["a", "k"]
abbrev p_skolem : List Str := ["a", "k"]
abbrev s_part_name : Stmt := top 15
abbrev n_part_name : List Str := ["a", "k"]
abbrev p_part_name : List Str := ["a", "k"]
abbrev s_is_simple : Stmt := top 17
abbrev n_is_simple : List Str := ["formula"]
abbrev p_is_simple : List Str := ["formula"]
abbrev s_Namer___init__ : Stmt := inClass (top 18) 0
abbrev n_Namer___init__ : List Str := ["self", "number"]
abbrev p_Namer___init__ : List Str := ["self", "number"]
abbrev s_Namer_short : Stmt := inClass (top 18) 1
abbrev n_Namer_short : List Str := ["self", "side", "free", "atom", "formula", "variable"]
abbrev p_Namer_short : List Str := ["self", "side"]
abbrev s_Namer_traverse : Stmt := inClass (top 18) 2
abbrev n_Namer_traverse : List Str := ["self", "formula", "tag", "left", "right"]
abbrev p_Namer_traverse : List Str := ["self", "formula"]
abbrev s_named : Stmt := top 19
abbrev n_named : List Str := ["number", "formula", "namer", "first"]
abbrev p_named : List Str := ["number", "formula"]
abbrev s_put : Stmt := top 21
abbrev n_put : List Str := ["term", "substitution", "part"]
abbrev p_put : List Str := ["term", "substitution"]
abbrev s_put_literal : Stmt := top 22
abbrev n_put_literal : List Str := ["literal", "substitution"]
abbrev p_put_literal : List Str := ["literal", "substitution"]
abbrev s_put_clause : Stmt := top 23
abbrev n_put_clause : List Str := ["clause", "substitution", "literal"]
abbrev p_put_clause : List Str := ["clause", "substitution"]
abbrev s_Opener___init__ : Stmt := inClass (top 25) 0
abbrev n_Opener___init__ : List Str := ["self", "number"]
abbrev p_Opener___init__ : List Str := ["self", "number"]
abbrev s_Opener_literal : Stmt := inClass (top 25) 1
abbrev n_Opener_literal : List Str := ["self", "formula", "values", "positive"]
abbrev p_Opener_literal : List Str := ["self", "formula", "values", "positive"]
abbrev s_Opener_traverse : Stmt := inClass (top 25) 2
abbrev n_Opener_traverse : List Str := ["self", "formula", "around", "values", "tag", "left", "inner", "inside"]
abbrev p_Opener_traverse : List Str := ["self", "formula", "around", "values"]
abbrev s_Opener_opened : Stmt := inClass (top 25) 3
abbrev n_Opener_opened : List Str := ["self", "formula"]
abbrev p_Opener_opened : List Str := ["self", "formula"]
abbrev s_collect_variables : Stmt := top 27
abbrev n_collect_variables : List Str := ["formula", "found"]
abbrev p_collect_variables : List Str := ["formula", "found"]
abbrev s_combined : Stmt := top 28
abbrev n_combined : List Str := ["left", "right", "one", "other"]
abbrev p_combined : List Str := ["left", "right"]
abbrev s_Spreader___init__ : Stmt := inClass (top 29) 0
abbrev n_Spreader___init__ : List Str := ["self", "number", "count"]
abbrev p_Spreader___init__ : List Str := ["self", "number", "count"]
abbrev s_Spreader_spread : Stmt := inClass (top 29) 1
abbrev n_Spreader_spread : List Str := ["self", "formula", "left", "left_extra", "right", "right_extra", "extra", "found", "atom", "more", "clause"]
abbrev p_Spreader_spread : List Str := ["self", "formula"]
abbrev s_same_sides : Stmt := top 31
abbrev n_same_sides : List Str := ["first", "second"]
abbrev p_same_sides : List Str := ["first", "second"]
abbrev s_same : Stmt := top 32
abbrev n_same : List Str := ["first", "second"]
abbrev p_same : List Str := ["first", "second"]
abbrev s_clause_variables : Stmt := top 33
abbrev n_clause_variables : List Str := ["clause", "found", "literal"]
abbrev p_clause_variables : List Str := ["clause"]
abbrev s_renumbered : Stmt := top 34
abbrev n_renumbered : List Str := ["clause", "new", "k", "variable"]
abbrev p_renumbered : List Str := ["clause"]
abbrev s_without_repeats : Stmt := top 36
abbrev n_without_repeats : List Str := ["clause", "kept", "literal", "one"]
abbrev p_without_repeats : List Str := ["clause"]
abbrev s_clauses_of : Stmt := top 37
abbrev n_clauses_of : List Str := ["number", "formula", "formulas", "count", "opener", "opened", "spreader", "clauses", "one", "found", "extra", "clause"]
abbrev p_clauses_of : List Str := ["number", "formula"]
abbrev s_law_cell : Stmt := top 39
abbrev n_law_cell : List Str := ["_law_script", "_law_k", "_law_cell_here", "_law_low", "_law_mid", "_law_high"]
abbrev p_law_cell : List Str := ["_law_script", "_law_k"]
abbrev s_law_formula_term : Stmt := top 40
abbrev n_law_formula_term : List Str := ["_law_row", "_law_deep", "_law_scope", "_law_kind", "_law_n", "_law_many", "_law_parts", "_law_k", "_law_found"]
abbrev p_law_formula_term : List Str := ["_law_row", "_law_deep", "_law_scope"]
abbrev s_law_formula_atom : Stmt := top 41
abbrev n_law_formula_atom : List Str := ["_law_row", "_law_scope", "_law_left", "_law_right", "_law_n", "_law_many", "_law_parts", "_law_k", "_law_found"]
abbrev p_law_formula_atom : List Str := ["_law_row", "_law_scope"]
abbrev s_law_formula : Stmt := top 42
abbrev n_law_formula : List Str := ["_law_row", "_law_deep", "_law_scope", "_law_count", "_law_kind", "_law_found", "_law_inner", "_law_left", "_law_right", "_law_tags"]
abbrev p_law_formula : List Str := ["_law_row", "_law_deep", "_law_scope", "_law_count"]
abbrev s_law_small_formula : Stmt := top 43
abbrev n_law_small_formula : List Str := ["_law_script", "_law_k", "_law_deep", "_law_found"]
abbrev p_law_small_formula : List Str := ["_law_script", "_law_k", "_law_deep"]
abbrev s_law_is_variable : Stmt := top 44
abbrev n_law_is_variable : List Str := ["_law_term"]
abbrev p_law_is_variable : List Str := ["_law_term"]
abbrev s_law_variables : Stmt := top 45
abbrev n_law_variables : List Str := ["_law_term", "_law_found", "_law_part"]
abbrev p_law_variables : List Str := ["_law_term", "_law_found"]
abbrev s_law_clause_variables : Stmt := top 46
abbrev n_law_clause_variables : List Str := ["_law_clause", "_law_found", "_law_literal"]
abbrev p_law_clause_variables : List Str := ["_law_clause"]
abbrev s_law_put : Stmt := top 47
abbrev n_law_put : List Str := ["_law_term", "_law_told", "_law_pair", "_law_part"]
abbrev p_law_put : List Str := ["_law_term", "_law_told"]
abbrev s_law_put_clause : Stmt := top 48
abbrev n_law_put_clause : List Str := ["_law_clause", "_law_told", "_law_one"]
abbrev p_law_put_clause : List Str := ["_law_clause", "_law_told"]
abbrev s_law_same : Stmt := top 49
abbrev n_law_same : List Str := ["_law_first", "_law_second"]
abbrev p_law_same : List Str := ["_law_first", "_law_second"]
abbrev s_law_renumbering : Stmt := top 50
abbrev n_law_renumbering : List Str := ["_law_found", "_law_k"]
abbrev p_law_renumbering : List Str := ["_law_found"]
abbrev s_law_open : Stmt := top 51
abbrev n_law_open : List Str := ["_law_formula_here", "_law_number", "_law_around", "_law_told", "_law_made", "_law_tag", "_law_truth", "_law_inner", "_law_left", "_law_right", "_law_first", "_law_second", "_law_variables_here", "_law_skolems", "_law_inside"]
abbrev p_law_open : List Str := ["_law_formula_here", "_law_number", "_law_around", "_law_told", "_law_made"]
abbrev s_law_tree_variables : Stmt := top 52
abbrev n_law_tree_variables : List Str := ["_law_tree", "_law_found"]
abbrev p_law_tree_variables : List Str := ["_law_tree", "_law_found"]
abbrev s_law_spread : Stmt := top 53
abbrev n_law_spread : List Str := ["_law_tree", "_law_number", "_law_count", "_law_left", "_law_right", "_law_extra", "_law_joined", "_law_one", "_law_atom", "_law_truth", "_law_more", "_law_other", "_law_clause"]
abbrev p_law_spread : List Str := ["_law_tree", "_law_number", "_law_count"]
abbrev s_law_neat : Stmt := top 54
abbrev n_law_neat : List Str := ["_law_clause", "_law_kept", "_law_literal", "_law_other"]
abbrev p_law_neat : List Str := ["_law_clause"]
abbrev s_law_due : Stmt := top 55
abbrev n_law_due : List Str := ["_law_number", "_law_formula_here", "_law_rows", "_law_skolems", "_law_count", "_law_clauses", "_law_trees", "_law_one", "_law_found", "_law_tree", "_law_made", "_law_clause"]
abbrev p_law_due : List Str := ["_law_number", "_law_formula_here"]
abbrev s_law : Stmt := top 56
abbrev n_law : List Str := ["_law_script", "_law_number", "_law_formula_here", "_law_tags", "_law_tag", "_law_second", "_law_told"]
abbrev p_law : List Str := ["_law_script"]
theorem sc_inward_iff : FnScope n_inward_iff p_inward_iff (defScope s_inward_iff) := ⟨rfl, rfl, rfl, by decide +kernel, rfl, by decide +kernel, by decide +kernel⟩
theorem sc_inward : FnScope n_inward p_inward (defScope s_inward) := ⟨rfl, rfl, rfl, by decide +kernel, rfl, by decide +kernel, by decide +kernel⟩
theorem sc_is_variable : FnScope n_is_variable p_is_variable (defScope s_is_variable) := ⟨rfl, rfl, rfl, by decide +kernel, rfl, by decide +kernel, by decide +kernel⟩
theorem sc_collect : FnScope n_collect p_collect (defScope s_collect) := ⟨rfl, rfl, rfl, by decide +kernel, rfl, by decide +kernel, by decide +kernel⟩
theorem sc_variables : FnScope n_variables p_variables (defScope s_variables) := ⟨rfl, rfl, rfl, by decide +kernel, rfl, by decide +kernel, by decide +kernel⟩
theorem sc_collect_free : FnScope n_collect_free p_collect_free (defScope s_collect_free) := ⟨rfl, rfl, rfl, by decide +kernel, rfl, by decide +kernel, by decide +kernel⟩
theorem sc_free_variables : FnScope n_free_variables p_free_variables (defScope s_free_variables) := ⟨rfl, rfl, rfl, by decide +kernel, rfl, by decide +kernel, by decide +kernel⟩
theorem sc_skolem : FnScope n_skolem p_skolem (defScope s_skolem) := ⟨rfl, rfl, rfl, by decide +kernel, rfl, by decide +kernel, by decide +kernel⟩
theorem sc_part_name : FnScope n_part_name p_part_name (defScope s_part_name) := ⟨rfl, rfl, rfl, by decide +kernel, rfl, by decide +kernel, by decide +kernel⟩
theorem sc_is_simple : FnScope n_is_simple p_is_simple (defScope s_is_simple) := ⟨rfl, rfl, rfl, by decide +kernel, rfl, by decide +kernel, by decide +kernel⟩
theorem sc_Namer___init__ : FnScope n_Namer___init__ p_Namer___init__ (defScope s_Namer___init__) := ⟨rfl, rfl, rfl, by decide +kernel, rfl, by decide +kernel, by decide +kernel⟩
theorem sc_Namer_short : FnScope n_Namer_short p_Namer_short (defScope s_Namer_short) := ⟨rfl, rfl, rfl, by decide +kernel, rfl, by decide +kernel, by decide +kernel⟩
theorem sc_Namer_traverse : FnScope n_Namer_traverse p_Namer_traverse (defScope s_Namer_traverse) := ⟨rfl, rfl, rfl, by decide +kernel, rfl, by decide +kernel, by decide +kernel⟩
theorem sc_named : FnScope n_named p_named (defScope s_named) := ⟨rfl, rfl, rfl, by decide +kernel, rfl, by decide +kernel, by decide +kernel⟩
theorem sc_put : FnScope n_put p_put (defScope s_put) := ⟨rfl, rfl, rfl, by decide +kernel, rfl, by decide +kernel, by decide +kernel⟩
theorem sc_put_literal : FnScope n_put_literal p_put_literal (defScope s_put_literal) := ⟨rfl, rfl, rfl, by decide +kernel, rfl, by decide +kernel, by decide +kernel⟩
theorem sc_put_clause : FnScope n_put_clause p_put_clause (defScope s_put_clause) := ⟨rfl, rfl, rfl, by decide +kernel, rfl, by decide +kernel, by decide +kernel⟩
theorem sc_Opener___init__ : FnScope n_Opener___init__ p_Opener___init__ (defScope s_Opener___init__) := ⟨rfl, rfl, rfl, by decide +kernel, rfl, by decide +kernel, by decide +kernel⟩
theorem sc_Opener_literal : FnScope n_Opener_literal p_Opener_literal (defScope s_Opener_literal) := ⟨rfl, rfl, rfl, by decide +kernel, rfl, by decide +kernel, by decide +kernel⟩
theorem sc_Opener_traverse : FnScope n_Opener_traverse p_Opener_traverse (defScope s_Opener_traverse) := ⟨rfl, rfl, rfl, by decide +kernel, rfl, by decide +kernel, by decide +kernel⟩
theorem sc_Opener_opened : FnScope n_Opener_opened p_Opener_opened (defScope s_Opener_opened) := ⟨rfl, rfl, rfl, by decide +kernel, rfl, by decide +kernel, by decide +kernel⟩
theorem sc_collect_variables : FnScope n_collect_variables p_collect_variables (defScope s_collect_variables) := ⟨rfl, rfl, rfl, by decide +kernel, rfl, by decide +kernel, by decide +kernel⟩
theorem sc_combined : FnScope n_combined p_combined (defScope s_combined) := ⟨rfl, rfl, rfl, by decide +kernel, rfl, by decide +kernel, by decide +kernel⟩
theorem sc_Spreader___init__ : FnScope n_Spreader___init__ p_Spreader___init__ (defScope s_Spreader___init__) := ⟨rfl, rfl, rfl, by decide +kernel, rfl, by decide +kernel, by decide +kernel⟩
theorem sc_Spreader_spread : FnScope n_Spreader_spread p_Spreader_spread (defScope s_Spreader_spread) := ⟨rfl, rfl, rfl, by decide +kernel, rfl, by decide +kernel, by decide +kernel⟩
theorem sc_same_sides : FnScope n_same_sides p_same_sides (defScope s_same_sides) := ⟨rfl, rfl, rfl, by decide +kernel, rfl, by decide +kernel, by decide +kernel⟩
theorem sc_same : FnScope n_same p_same (defScope s_same) := ⟨rfl, rfl, rfl, by decide +kernel, rfl, by decide +kernel, by decide +kernel⟩
theorem sc_clause_variables : FnScope n_clause_variables p_clause_variables (defScope s_clause_variables) := ⟨rfl, rfl, rfl, by decide +kernel, rfl, by decide +kernel, by decide +kernel⟩
theorem sc_renumbered : FnScope n_renumbered p_renumbered (defScope s_renumbered) := ⟨rfl, rfl, rfl, by decide +kernel, rfl, by decide +kernel, by decide +kernel⟩
theorem sc_without_repeats : FnScope n_without_repeats p_without_repeats (defScope s_without_repeats) := ⟨rfl, rfl, rfl, by decide +kernel, rfl, by decide +kernel, by decide +kernel⟩
theorem sc_clauses_of : FnScope n_clauses_of p_clauses_of (defScope s_clauses_of) := ⟨rfl, rfl, rfl, by decide +kernel, rfl, by decide +kernel, by decide +kernel⟩
theorem sc_law_cell : FnScope n_law_cell p_law_cell (defScope s_law_cell) := ⟨rfl, rfl, rfl, by decide +kernel, rfl, by decide +kernel, by decide +kernel⟩
theorem sc_law_formula_term : FnScope n_law_formula_term p_law_formula_term (defScope s_law_formula_term) := ⟨rfl, rfl, rfl, by decide +kernel, rfl, by decide +kernel, by decide +kernel⟩
theorem sc_law_formula_atom : FnScope n_law_formula_atom p_law_formula_atom (defScope s_law_formula_atom) := ⟨rfl, rfl, rfl, by decide +kernel, rfl, by decide +kernel, by decide +kernel⟩
theorem sc_law_formula : FnScope n_law_formula p_law_formula (defScope s_law_formula) := ⟨rfl, rfl, rfl, by decide +kernel, rfl, by decide +kernel, by decide +kernel⟩
theorem sc_law_small_formula : FnScope n_law_small_formula p_law_small_formula (defScope s_law_small_formula) := ⟨rfl, rfl, rfl, by decide +kernel, rfl, by decide +kernel, by decide +kernel⟩
theorem sc_law_is_variable : FnScope n_law_is_variable p_law_is_variable (defScope s_law_is_variable) := ⟨rfl, rfl, rfl, by decide +kernel, rfl, by decide +kernel, by decide +kernel⟩
theorem sc_law_variables : FnScope n_law_variables p_law_variables (defScope s_law_variables) := ⟨rfl, rfl, rfl, by decide +kernel, rfl, by decide +kernel, by decide +kernel⟩
theorem sc_law_clause_variables : FnScope n_law_clause_variables p_law_clause_variables (defScope s_law_clause_variables) := ⟨rfl, rfl, rfl, by decide +kernel, rfl, by decide +kernel, by decide +kernel⟩
theorem sc_law_put : FnScope n_law_put p_law_put (defScope s_law_put) := ⟨rfl, rfl, rfl, by decide +kernel, rfl, by decide +kernel, by decide +kernel⟩
theorem sc_law_put_clause : FnScope n_law_put_clause p_law_put_clause (defScope s_law_put_clause) := ⟨rfl, rfl, rfl, by decide +kernel, rfl, by decide +kernel, by decide +kernel⟩
theorem sc_law_same : FnScope n_law_same p_law_same (defScope s_law_same) := ⟨rfl, rfl, rfl, by decide +kernel, rfl, by decide +kernel, by decide +kernel⟩
theorem sc_law_renumbering : FnScope n_law_renumbering p_law_renumbering (defScope s_law_renumbering) := ⟨rfl, rfl, rfl, by decide +kernel, rfl, by decide +kernel, by decide +kernel⟩
theorem sc_law_open : FnScope n_law_open p_law_open (defScope s_law_open) := ⟨rfl, rfl, rfl, by decide +kernel, rfl, by decide +kernel, by decide +kernel⟩
theorem sc_law_tree_variables : FnScope n_law_tree_variables p_law_tree_variables (defScope s_law_tree_variables) := ⟨rfl, rfl, rfl, by decide +kernel, rfl, by decide +kernel, by decide +kernel⟩
theorem sc_law_spread : FnScope n_law_spread p_law_spread (defScope s_law_spread) := ⟨rfl, rfl, rfl, by decide +kernel, rfl, by decide +kernel, by decide +kernel⟩
theorem sc_law_neat : FnScope n_law_neat p_law_neat (defScope s_law_neat) := ⟨rfl, rfl, rfl, by decide +kernel, rfl, by decide +kernel, by decide +kernel⟩
theorem sc_law_due : FnScope n_law_due p_law_due (defScope s_law_due) := ⟨rfl, rfl, rfl, by decide +kernel, rfl, by decide +kernel, by decide +kernel⟩
theorem sc_law : FnScope n_law p_law (defScope s_law) := ⟨rfl, rfl, rfl, by decide +kernel, rfl, by decide +kernel, by decide +kernel⟩

/-! ### heaps -/
theorem same_new {H : Hp} {p : Addr} (h : H p = none) (o : HO) : Same H (upd H p o) := fun b u q => by rw [upd_ne (ne_of_none q h)]; exact q
/-- all but what stands at l is kept -/
def But (l : Addr) (H H' : Hp) : Prop := ∀ b o, H b = some o → b ≠ l → H' b = some o
/-- tuples are kept -/
def Tups (H H' : Hp) : Prop := ∀ a xs, H a = some (.tup xs) → H' a = some (.tup xs)
theorem Tups.refl (H : Hp) : Tups H H := fun _ _ h => h
theorem Tups.trans {H H1 H2 : Hp} (a : Tups H H1) (b : Tups H1 H2) : Tups H H2 := fun c o h => b c o (a c o h)
theorem Tups.of {H H' : Hp} (h : Same H H') : Tups H H' := fun _ _ e => h _ _ e
theorem But.of {l : Addr} {H H' : Hp} (h : Same H H') : But l H H' := fun b o e _ => h b o e
theorem But.refl (l : Addr) (H : Hp) : But l H H := fun _ _ e _ => e
theorem But.trans {l : Addr} {H H1 H2 : Hp} (a : But l H H1) (b : But l H1 H2) : But l H H2 := fun c o h n => b c o (a c o h n) n
theorem But.upd {l : Addr} {H : Hp} (o : HO) : But l H (upd H l o) := fun b u e n => by rw [upd_ne n]; exact e
/-- what is no tuple -/
def NoT : HO → Prop
  | .tup _ => False
  | _ => True
theorem But.tups {l : Addr} {H H' : Hp} (h : But l H H') {o : HO} (e : H l = some o) (n : NoT o) : Tups H H' := fun a xs q => h a _ q fun z => by
  subst z
  rw [e] at q
  cases q
  exact n
theorem But.free {l : Addr} {H H' : Hp} (h : But l H H') (e : H l = none) : Same H H' := fun b o q => h b o q (ne_of_none q e)
/-- all but what stands at l and m is kept -/
def But2 (l m : Addr) (H H' : Hp) : Prop := ∀ b o, H b = some o → b ≠ l → b ≠ m → H' b = some o
theorem But2.of {l m : Addr} {H H' : Hp} (h : Same H H') : But2 l m H H' := fun b o e _ _ => h b o e
theorem But2.ofl {l m : Addr} {H H' : Hp} (h : But l H H') : But2 l m H H' := fun b o e n _ => h b o e n
theorem But2.ofr {l m : Addr} {H H' : Hp} (h : But m H H') : But2 l m H H' := fun b o e _ n => h b o e n
theorem But2.refl (l m : Addr) (H : Hp) : But2 l m H H := fun _ _ e _ _ => e
theorem But2.trans {l m : Addr} {H H1 H2 : Hp} (a : But2 l m H H1) (b : But2 l m H1 H2) : But2 l m H H2 := fun c o h n1 n2 => b c o (a c o h n1 n2) n1 n2
theorem But2.tups {l m : Addr} {H H' : Hp} (h : But2 l m H H') {o u : HO} (e : H l = some o) (n : NoT o) (e2 : H m = some u) (n2 : NoT u) : Tups H H' := fun a xs q => h a _ q (fun z => by
  subst z
  rw [e] at q
  cases q
  exact n) fun z => by
  subst z
  rw [e2] at q
  cases q
  exact n2

/-! ### data of tuples: what never changes -/
def TT (K : PySem.W.Frag) (H : Hp) (a : Addr) (xs : List V) : Prop :=
  H a = some (.tup xs) ∨
    ∃ (o : Obj) (its : Array Value) (n : Nat), K.lookup a = some o ∧ o.cls = .type "tuple" ∧ o.data = .seq its n ∧ its.size ≤ sizeLine ∧ Vals xs its.toList
theorem TT.sq {K : PySem.W.Frag} {H : Hp} {a : Addr} {xs : List V} (h : TT K H a xs) : SqT K H a xs := h.elim (fun e => .inl (.inl e)) .inr
theorem TT.mono {K : PySem.W.Frag} {H H' : Hp} {a : Addr} {xs : List V} (h : TT K H a xs) (s : Tups H H') : TT K H' a xs := h.elim (fun e => .inl (s _ _ e)) .inr
mutual
inductive Im (K : PySem.W.Frag) (H : Hp) : V → PyData → Prop
  | bl (b : Bool) : Im K H (.bl b) (.bool b)
  | int (i : Int) : Im K H (.int i) (.int i)
  | str (x : Str) : Im K H (.str x) (.str x)
  | tup {a : Addr} {xs : List V} {ds : List PyData} : TT K H a xs → ImA K H xs ds → Im K H (.ref a) (.tuple ds)
inductive ImA (K : PySem.W.Frag) (H : Hp) : List V → List PyData → Prop
  | nil : ImA K H [] []
  | cons {v : V} {vs : List V} {d : PyData} {ds : List PyData} : Im K H v d → ImA K H vs ds → ImA K H (v :: vs) (d :: ds)
end
section
variable {K : PySem.W.Frag} {H H' : Hp}
mutual
theorem Im.mono (s : Tups H H') : ∀ {d : PyData} {v : V}, Im K H v d → Im K H' v d
  | _, _, .bl b => .bl b
  | _, _, .int i => .int i
  | _, _, .str x => .str x
  | _, _, .tup t r => .tup (t.mono s) (ImA.mono s r)
theorem ImA.mono (s : Tups H H') : ∀ {ds : List PyData} {vs : List V}, ImA K H vs ds → ImA K H' vs ds
  | _, _, .nil => .nil
  | _, _, .cons h r => .cons (Im.mono s h) (ImA.mono s r)
end
mutual
theorem Im.dp : ∀ {d : PyData} {v : V}, Im K H v d → Dp K H v d
  | _, _, .bl b => .bl b
  | _, _, .int i => .int i
  | _, _, .str x => .str x
  | _, _, .tup t r => .tup t.sq (ImA.dp r)
theorem ImA.dp : ∀ {ds : List PyData} {vs : List V}, ImA K H vs ds → DpAll K H vs ds
  | _, _, .nil => .nil
  | _, _, .cons h r => .cons (Im.dp h) (ImA.dp r)
end
theorem Im.to (h : Im K H v d) (s : Same H H') : Im K H' v d := h.mono (Tups.of s)
theorem ImA.to (h : ImA K H vs ds) (s : Same H H') : ImA K H' vs ds := h.mono (Tups.of s)
theorem ImA.len : ∀ {vs : List V} {ds : List PyData}, ImA K H vs ds → vs.length = ds.length
  | _, _, .nil => rfl
  | _, _, .cons _ r => congrArg (· + 1) r.len
theorem ImA.append : ∀ {vs ws : List V} {ds es : List PyData}, ImA K H vs ds → ImA K H ws es → ImA K H (vs ++ ws) (ds ++ es)
  | _, _, _, _, .nil, s => s
  | _, _, _, _, .cons h r, s => .cons h (ImA.append r s)
theorem ImA.one {v : V} {d : PyData} (h : Im K H v d) : ImA K H [v] [d] := .cons h .nil
theorem ImA.snoc {vs : List V} {ds : List PyData} {v : V} {d : PyData} (h : ImA K H vs ds) (q : Im K H v d) : ImA K H (vs ++ [v]) (ds ++ [d]) := h.append (.one q)
theorem ImA.get : ∀ {vs : List V} {ds : List PyData}, ImA K H vs ds → ∀ {i : Nat} {v : V}, vs[i]? = some v → ∃ d, ds[i]? = some d ∧ Im K H v d
  | _, _, .nil, i, v, e => by simp at e
  | _, _, .cons h r, 0, v, e => by
    have e' := Option.some.inj e
    subst e'
    exact ⟨_, rfl, h⟩
  | _, _, .cons h r, i + 1, v, e => r.get (i := i) e
theorem Im.str_inv {v : V} {x : Str} (h : Im K H v (.str x)) : v = .str x := by cases h; rfl
theorem Im.int_inv {v : V} {i : Int} (h : Im K H v (.int i)) : v = .int i := by cases h; rfl
theorem Im.bl_inv {v : V} {b : Bool} (h : Im K H v (.bool b)) : v = .bl b := by cases h; rfl
theorem Im.tup_inv {v : V} {ds : List PyData} (h : Im K H v (.tuple ds)) : ∃ a xs, v = .ref a ∧ TT K H a xs ∧ ImA K H xs ds := by
  cases h with
  | tup t r => exact ⟨_, _, rfl, t, r⟩
theorem im2 {v : V} {d e : PyData} (h : Im K H v (.tuple [d, e])) : ∃ a x y, v = .ref a ∧ TT K H a [x, y] ∧ Im K H x d ∧ Im K H y e := by
  obtain ⟨a, xs, rfl, t, r⟩ := h.tup_inv
  cases r with
  | cons h1 r => cases r with
    | cons h2 r => cases r; exact ⟨_, _, _, rfl, t, h1, h2⟩
theorem im3 {v : V} {d e f : PyData} (h : Im K H v (.tuple [d, e, f])) : ∃ a x y z, v = .ref a ∧ TT K H a [x, y, z] ∧ Im K H x d ∧ Im K H y e ∧ Im K H z f := by
  obtain ⟨a, xs, rfl, t, r⟩ := h.tup_inv
  cases r with
  | cons h1 r => cases r with
    | cons h2 r => cases r with
      | cons h3 r => cases r; exact ⟨_, _, _, _, rfl, t, h1, h2, h3⟩
/-! ### making tuples -/
theorem mk1 {x : V} {d : PyData} {Q : VK} (hx : Im K H x d) (k : ∀ p H', Same H H' → Im K H' (.ref p) (.tuple [d]) → Q (.ref p) H') : [x].length ≤ sizeLine ∧ ∀ p, H p = none → Q (.ref p) (upd H p (.tup [x])) :=
  ⟨by show 1 ≤ sizeLine; decide, fun p hp => k p _ (same_new hp _) (.tup (.inl upd_same) (.cons (hx.to (same_new hp _)) .nil))⟩
theorem mk2 {x y : V} {d e : PyData} {Q : VK} (hx : Im K H x d) (hy : Im K H y e) (k : ∀ p H', Same H H' → Im K H' (.ref p) (.tuple [d, e]) → Q (.ref p) H') : [x, y].length ≤ sizeLine ∧ ∀ p, H p = none → Q (.ref p) (upd H p (.tup [x, y])) :=
  ⟨by show 2 ≤ sizeLine; decide, fun p hp => k p _ (same_new hp _) (.tup (.inl upd_same) (.cons (hx.to (same_new hp _)) (.cons (hy.to (same_new hp _)) .nil)))⟩
theorem mk3 {x y z : V} {d e f : PyData} {Q : VK} (hx : Im K H x d) (hy : Im K H y e) (hz : Im K H z f) (k : ∀ p H', Same H H' → Im K H' (.ref p) (.tuple [d, e, f]) → Q (.ref p) H') : [x, y, z].length ≤ sizeLine ∧ ∀ p, H p = none → Q (.ref p) (upd H p (.tup [x, y, z])) :=
  ⟨by show 3 ≤ sizeLine; decide, fun p hp => k p _ (same_new hp _) (.tup (.inl upd_same) (.cons (hx.to (same_new hp _)) (.cons (hy.to (same_new hp _)) (.cons (hz.to (same_new hp _)) .nil))))⟩
theorem mk0 {Q : VK} (k : ∀ p H', Same H H' → Im K H' (.ref p) (.tuple []) → Q (.ref p) H') : ([] : List V).length ≤ sizeLine ∧ ∀ p, H p = none → Q (.ref p) (upd H p (.tup [])) :=
  ⟨by show 0 ≤ sizeLine; decide, fun p hp => k p _ (same_new hp _) (.tup (.inl upd_same) .nil)⟩
theorem nt0 {p : Addr} (hp : H p = none) : Same H (upd H p (.tup [])) ∧ Im K (upd H p (.tup [])) (.ref p) (.tuple []) := ⟨same_new hp _, .tup (.inl upd_same) .nil⟩
theorem nt1 {p : Addr} {x : V} {d : PyData} (hp : H p = none) (hx : Im K H x d) : Same H (upd H p (.tup [x])) ∧ Im K (upd H p (.tup [x])) (.ref p) (.tuple [d]) :=
  ⟨same_new hp _, .tup (.inl upd_same) (.cons (hx.to (same_new hp _)) .nil)⟩
theorem nt2 {p : Addr} {x y : V} {d e : PyData} (hp : H p = none) (hx : Im K H x d) (hy : Im K H y e) : Same H (upd H p (.tup [x, y])) ∧ Im K (upd H p (.tup [x, y])) (.ref p) (.tuple [d, e]) :=
  ⟨same_new hp _, .tup (.inl upd_same) (.cons (hx.to (same_new hp _)) (.cons (hy.to (same_new hp _)) .nil))⟩
theorem nt3 {p : Addr} {x y z : V} {d e f : PyData} (hp : H p = none) (hx : Im K H x d) (hy : Im K H y e) (hz : Im K H z f) : Same H (upd H p (.tup [x, y, z])) ∧ Im K (upd H p (.tup [x, y, z])) (.ref p) (.tuple [d, e, f]) :=
  ⟨same_new hp _, .tup (.inl upd_same) (.cons (hx.to (same_new hp _)) (.cons (hy.to (same_new hp _)) (.cons (hz.to (same_new hp _)) .nil)))⟩
theorem z1 : 1 ≤ sizeLine := by decide
theorem z2 : 2 ≤ sizeLine := by decide
theorem z3 : 3 ≤ sizeLine := by decide
/-- t + u -/
theorem cat_im {a b : Addr} {xs ys : List V} {ds es : List PyData} {Q : VK} (ha : TT K H a xs) (ra : ImA K H xs ds) (hb : TT K H b ys) (rb : ImA K H ys es) (hl : ds.length + es.length ≤ sizeLine)
    (k : ∀ p H', Same H H' → Im K H' (.ref p) (.tuple (ds ++ es)) → Q (.ref p) H') : rCatA K (.ref a) (.ref b) H Q := by
  refine ⟨a, b, xs, ys, rfl, rfl, ha.sq, hb.sq, by rw [ra.len, rb.len]; exact hl, fun e => ?_, fun _ e => ?_, fun _ _ p hp => ?_⟩
  · subst e
    cases ra
    exact k b H (Same.refl H) (.tup hb rb)
  · subst e
    cases rb
    rw [List.append_nil] at k
    exact k a H (Same.refl H) (.tup ha ra)
  · have s := same_new hp (.tup (xs ++ ys))
    exact k p _ s (.tup (.inl upd_same) ((ra.append rb).to s))
theorem cat_imV {v u : V} {ds es : List PyData} {Q : VK} (ha : Im K H v (.tuple ds)) (hb : Im K H u (.tuple es)) (hl : ds.length + es.length ≤ sizeLine)
    (k : ∀ p H', Same H H' → Im K H' (.ref p) (.tuple (ds ++ es)) → Q (.ref p) H') : rCatA K v u H Q := by
  obtain ⟨a, xs, rfl, ta, ra⟩ := ha.tup_inv
  obtain ⟨b, ys, rfl, tb, rb⟩ := hb.tup_inv
  exact cat_im ta ra tb rb hl k
end
/-- a list of data at l -/
def Ls (K : PySem.W.Frag) (H : Hp) (l : Addr) (ds : List PyData) : Prop := ∃ xs, H l = some (.lst xs) ∧ ImA K H xs ds
theorem Ls.to {K : PySem.W.Frag} {H H' : Hp} {l : Addr} {ds : List PyData} (h : Ls K H l ds) (s : Same H H') : Ls K H' l ds := by
  obtain ⟨xs, e, r⟩ := h
  exact ⟨xs, s _ _ e, r.to s⟩
theorem Ls.but {K : PySem.W.Frag} {H H' : Hp} {l p : Addr} {ds : List PyData} (h : Ls K H l ds) (s : But p H H') (t : Tups H H') (n : l ≠ p) : Ls K H' l ds := by
  obtain ⟨xs, e, r⟩ := h
  exact ⟨xs, s _ _ e n, r.mono t⟩

/-! ### tests of texts -/
theorem stT {x y : Str} {A B : Prop} (h : x = y) (a : A) : if decide (V.str x = V.str y) = true then A else B := by
  subst h
  rw [if_pos (by simp)]
  exact a
theorem stF {x y : Str} {A B : Prop} (h : ¬ x = y) (b : B) : if decide (V.str x = V.str y) = true then A else B := by
  rw [if_neg (by simp [h])]
  exact b

/-! ### defs and their promises -/
section
variable {P : Program} {w : World} {K : PySem.W.Frag} {mg : Str → Option Value} {base : Heap}
structure Def (K : PySem.W.Frag) (mg : Str → Option Value) (x : Str) (st : Stmt) (ps : List Str) : Prop where
  ex : ∃ f fd, Fun K x x st f fd ∧ Binds K fd ps [] ∧ mg x = some (.ref f)
structure Cal (P : Program) (w : World) (K : PySem.W.Frag) (mg : Str → Option Value) (base : Heap) (k : Nat) (x : Str) (ps : List Str) (sp : Sp) : Prop where
  ex : ∃ f fd, FnOk P w K mg base CX0 k f fd ps sp ∧ mg x = some (.ref f) ∧ PySem.W.keepIn K (.ref f) = true ∧ Binds K fd ps []
structure MDef (K : PySem.W.Frag) (C : Addr) (m qual : Str) (st : Stmt) (ps : List Str) : Prop where
  cl : Cls K C
  ex : ∃ f fd, Fun K m qual st f fd ∧ Binds K fd ps [] ∧ Meth K C m f
structure MCal (P : Program) (w : World) (K : PySem.W.Frag) (mg : Str → Option Value) (base : Heap) (C : Addr) (k : Nat) (m : Str) (ps : List Str) (sp : Sp) : Prop where
  cl : Cls K C
  ex : ∃ f fd, FnOk P w K mg base CX0 k f fd ps sp ∧ Meth K C m f ∧ Binds K fd ps []
structure KDef (K : PySem.W.Frag) (mg : Str → Option Value) (C : Addr) (x qual : Str) (st : Stmt) (ps : List Str) : Prop where
  ex : ∃ f fd, Fun K "__init__" qual st f fd ∧ Binds K fd ps [] ∧ Mk K C f ∧ mg x = some (.ref C)
structure KCal (P : Program) (w : World) (K : PySem.W.Frag) (mg : Str → Option Value) (base : Heap) (C : Addr) (k : Nat) (x : Str) (ps : List Str) (sp : Sp) : Prop where
  ex : ∃ f fd, FnOk P w K mg base CX0 k f fd ps sp ∧ Mk K C f ∧ mg x = some (.ref C) ∧ Binds K fd ps []
/-- what a held heap knows of lengths -/
structure Fit (K : PySem.W.Frag) (H : Hp) : Prop where
  t : ∀ a xs, SqT K H a xs → xs.length ≤ sizeLine
  l : ∀ a xs, SqL K H a xs → xs.length ≤ sizeLine
theorem pss_fit {X : Cx} {st : List Stmt} {t : TS} (h : PSs X st t) : PSs X st (fun D σ H => Fit X.K H → t D σ H) :=
  ⟨fun pins s σ H D I q => h.run pins s σ H D I (q ⟨fun _ _ z => by
    obtain ⟨_, _, _, e⟩ := I.tuple z
    exact e, fun _ _ z => by
    obtain ⟨_, _, _, e⟩ := I.list z
    exact e⟩)⟩
abbrev Bod (P : Program) (w : World) (K : PySem.W.Frag) (mg : Str → Option Value) (base : Heap) (k : Nat) (qual : Str) (st : Stmt) (N : List Str) (sp : Sp) : Prop :=
  ∀ (f : Addr) (cdv : Value) (A : Around) (outer : List Env) (s : Shared) (H : Hp) (vs : List V) (Q : VK) (E : XK), Room k (A.deeper (envOfC qual (defScope st) s.heap.objs.size f cdv)) → sp vs H Q E →
      ∃ t, PSs (cxOf CX0 P w K mg base N qual (defScope st) f cdv A outer s H E).nox (defBody st) t ∧ (Fit K H → t { nx := fun _ H' => Q .non H', rt := Q } (start N vs) H)
theorem fun_ok {x qual : Str} {st : Stmt} {f : Addr} {fd : FuncData} {N ps : List Str} {k : Nat} {sp : Sp} (F : Fun K x qual st f fd) (S : FnScope N ps (defScope st)) (len : ∀ vs H Q E, sp vs H Q E → vs.length = ps.length)
    (b : Bod P w K mg base k qual st N sp) : FnOk P w K mg base CX0 (k + 1) f fd ps sp :=
  F.ok S len fun cdv A outer s H vs Q E hr hsp => by
    obtain ⟨t, h, q⟩ := b f cdv A outer s H vs Q E hr hsp
    exact ⟨_, pss_fit h, q⟩
theorem Def.ok {x : Str} {st : Stmt} {N ps : List Str} {k : Nat} {sp : Sp} (D : Def K mg x st ps) (S : FnScope N ps (defScope st)) (len : ∀ vs H Q E, sp vs H Q E → vs.length = ps.length)
    (b : Bod P w K mg base k x st N sp) : Cal P w K mg base (k + 1) x ps sp := by
  obtain ⟨f, fd, F, bd, m⟩ := D.ex
  exact ⟨f, fd, fun_ok F S len b, m, F.kp, bd⟩
theorem MDef.ok {C : Addr} {m qual : Str} {st : Stmt} {N ps : List Str} {k : Nat} {sp : Sp} (D : MDef K C m qual st ps) (S : FnScope N ps (defScope st)) (len : ∀ vs H Q E, sp vs H Q E → vs.length = ps.length)
    (b : Bod P w K mg base k qual st N sp) : MCal P w K mg base C (k + 1) m ps sp := by
  obtain ⟨f, fd, F, bd, me⟩ := D.ex
  exact ⟨D.cl, f, fd, fun_ok F S len b, me, bd⟩
theorem KDef.ok {C : Addr} {x qual : Str} {st : Stmt} {N ps : List Str} {k : Nat} {sp : Sp} (D : KDef K mg C x qual st ps) (S : FnScope N ps (defScope st)) (len : ∀ vs H Q E, sp vs H Q E → vs.length = ps.length)
    (b : Bod P w K mg base k qual st N sp) : KCal P w K mg base C (k + 1) x ps sp := by
  obtain ⟨f, fd, F, bd, mk, m⟩ := D.ex
  exact ⟨f, fd, fun_ok F S len b, mk, m, bd⟩
/-- a promise that nothing can ask holds at every level -/
theorem Def.none {x : Str} {st : Stmt} {ps : List Str} {sp : Sp} (k : Nat) (D : Def K mg x st ps) (no : ∀ vs H Q E, ¬ sp vs H Q E) : Cal P w K mg base k x ps sp := by
  obtain ⟨f, fd, F, bd, m⟩ := D.ex
  exact ⟨f, fd, ⟨fun vs H Q E h => absurd h (no vs H Q E), fun A outer s H args us vs Q E _ _ _ _ h => absurd h (no vs H Q E)⟩, m, F.kp, bd⟩
theorem MDef.none {C : Addr} {m qual : Str} {st : Stmt} {ps : List Str} {sp : Sp} (k : Nat) (D : MDef K C m qual st ps) (no : ∀ vs H Q E, ¬ sp vs H Q E) : MCal P w K mg base C k m ps sp := by
  obtain ⟨f, fd, F, bd, me⟩ := D.ex
  exact ⟨D.cl, f, fd, ⟨fun vs H Q E h => absurd h (no vs H Q E), fun A outer s H args us vs Q E _ _ _ _ h => absurd h (no vs H Q E)⟩, me, bd⟩
end
section
variable {X : Cx} {k : Nat} {x m : Str} {ps : List Str} {sp : Sp} {e o : Expr} {es : List Expr} {t : TA} {ta : TE} {p pos apos : Pos} {C : Addr}
theorem pc (c : Cal X.prog X.w X.K X.mg X.base k x ps sp) (hr : Room k X.A) (hg : Gl X x) (ha : PA X (e :: es) t) (hdb : (x == ("__debug__" : Str)) = false := by decide) (he : starEach (e :: es) X.env = (false, eval e X.env) :: starEach es X.env := by rfl) (hpl : (backTo pos (starEach es X.env)).any (·.1) = false := by rfl) :
    PE X (.Call (.Name x p) (e :: es) [] pos) (tCall sp [] E0 t) := by
  obtain ⟨f, fd, F, hm, hk, bd⟩ := c.ex
  exact pe_call F hr hg hm hk bd .nil pass0 ha hdb he hpl
theorem pmk (c : KCal X.prog X.w X.K X.mg X.base C k x ps sp) (hr : Room (k + 1) X.A) (hg : Gl X x) (ha : PA X (e :: es) t) (hdb : (x == ("__debug__" : Str)) = false := by decide) (he : starEach (e :: es) X.env = (false, eval e X.env) :: starEach es X.env := by rfl) (hpl : (backTo pos (starEach es X.env)).any (·.1) = false := by rfl) :
    PE X (.Call (.Name x p) (e :: es) [] pos) (tMake C sp [] E0 t) := by
  obtain ⟨f, fd, F, mk, hm, bd⟩ := c.ex
  exact pe_make mk F hr hg hm bd .nil pass0 ha hdb he hpl
theorem pm {pl : Sem Bool} (c : MCal X.prog X.w X.K X.mg X.base C k m ps sp) (hr : Room k X.A) (he : PE X o ta) (ha : PA X (e :: es) t)
    (hst : starEach (e :: es) X.env = (false, eval e X.env) :: starEach es X.env := by rfl) (hpl : (backTo pos (starEach es X.env)).any (·.1) = false := by rfl)
    (ht : eval (.Call (.Attribute o m apos) (e :: es) [] pos) X.env = (do
      let ov ← eval o X.env
      standAt apos.atName
      let (f, first) ← holding [ov] (getMethod ov m pl)
      callWith pos f first (backTo pos (starEach (e :: es) X.env)) (backToKw pos (keywordEach [] X.env))) := by rfl) :
    PE X (.Call (.Attribute o m apos) (e :: es) [] pos) (tMeth C m sp [] E0 ta t) := by
  obtain ⟨f, fd, F, me, bd⟩ := c.ex
  exact pe_meth he c.cl me F hr bd .nil pass0 ha hst hpl ht
theorem pgl {a : Addr} (hg : Gl X x) (hm : X.mg x = some (.ref a)) (hd : (x == ("__debug__" : Str)) = false := by decide) : PE X (.Name x pos) (tC (.ref a)) := pe_glob (v := .ref a) hg hm rfl hd
theorem piL {K : PySem.W.Frag} {tg l : Expr} {tl : TE} (h : X.K = K) (hl : PE X l tl) : PI X tg l (iList K tl) := by subst h; exact pi_list hl
theorem ixT {K : PySem.W.Frag} (h : X.K = K) : IxR X (rIxT K) := by subst h; exact ix_tup
theorem ixL {K : PySem.W.Frag} (h : X.K = K) : IxR X (rIxL K) := by subst h; exact ix_list
theorem ixS {K : PySem.W.Frag} (h : X.K = K) : IxR X (rIx K) := by subst h; exact ix_seq
theorem catA {K : PySem.W.Frag} (h : X.K = K) : OpR X (binaryOp .Add) (rCatA K) := by subst h; exact op_catA
/-- dict(d), d a dict -/
theorem call_dictD : CallR X (.type "dict") (fun xs H Q => ∃ a kvs, xs = [.ref a] ∧ H a = some (.dK kvs) ∧ ∀ p, H p = none → Q (.ref p) (upd H p (.dK kvs))) := by
  intro pins s σ H xs us Q I r q
  obtain ⟨a, kvs, ex, ha, q⟩ := q
  subst ex
  obtain ⟨u, eu, rx⟩ := vals1 r
  subst eu
  cases rx
  obtain ⟨hl, hm, vs, rel, hd⟩ := (show ObjOk X.prog X.w H s.heap a (.dK kvs) from I.hok a _ ha)
  refine kt_call_dict (knd := mixKind X.prog X.w) hm hd (by rw [← Paired.length rel]; exact hl) fun h' hd' hs => ?_
  have kp : ∀ b u, s.heap.get? b = some u → h'.get? b = some u := fun b u e => (hs.2 b (Nat.ne_of_lt (Heap.lt_size e))).trans (Heap.get?_push_of_some _ e)
  have hm' : (s.heap.objs.size == sysModules) = false := beq_eq_false_iff_ne.mpr (Nat.ne_of_gt I.big)
  exact ⟨.ref s.heap.objs.size, upd H s.heap.objs.size (.dK kvs), I.laid (t' := s.toks) kp (Nat.le_refl _) (show ObjOk X.prog X.w _ _ _ (.dK kvs) from ⟨hl, hm', vs, rel, hd'⟩), rfl, q _ (I.hok.fresh (Nat.le_refl _))⟩
end
end K3

/-! The mirror: what the program and the law reckon, in plain Lean; and its bounds. -/
namespace K3
open PySem L2

inductive Tm where
  | var (n : Int)
  | app (s : Int × Int × Int) (args : List Tm)
mutual
def Tm.d : Tm → PyData
  | .var n => .int n
  | .app s as => .tuple [.tuple [.int s.1, .int s.2.1, .int s.2.2], .tuple (tmsD as)]
def tmsD : List Tm → List PyData
  | [] => []
  | t :: r => t.d :: tmsD r
end
theorem tmsD_map : ∀ l : List Tm, tmsD l = l.map Tm.d
  | [] => rfl
  | t :: r => by rw [tmsD, tmsD_map r]; rfl
theorem tmsD_len (l : List Tm) : (tmsD l).length = l.length := by rw [tmsD_map, List.length_map]
def symD (s : Int × Int × Int) : PyData := .tuple [.int s.1, .int s.2.1, .int s.2.2]
theorem Tm.d_app (s : Int × Int × Int) (as : List Tm) : (Tm.app s as).d = .tuple [symD s, .tuple (tmsD as)] := by rw [Tm.d, symD]
theorem Tm.d_var (n : Int) : (Tm.var n).d = .int n := by rw [Tm.d]
/-- depth at most d, variables from 0 to N - 1 -/
def Tm.ok (N : Int) : Nat → Tm → Prop
  | _, .var n => 0 ≤ n ∧ n < N
  | 0, .app _ as => as = []
  | d + 1, .app _ as => ∀ t ∈ as, Tm.ok N d t
theorem Tm.ok_var {N : Int} {d : Nat} {n : Int} : Tm.ok N d (.var n) ↔ (0 ≤ n ∧ n < N) := by cases d <;> simp [Tm.ok]
theorem Tm.ok_nil {N : Int} {d : Nat} {s : Int × Int × Int} : Tm.ok N d (.app s []) := by cases d <;> simp [Tm.ok]
theorem Tm.ok_app {N : Int} {d : Nat} {s : Int × Int × Int} {as : List Tm} : Tm.ok N (d + 1) (.app s as) ↔ ∀ t ∈ as, Tm.ok N d t := by simp [Tm.ok]
theorem Tm.ok_mono {N M : Int} (h : N ≤ M) : ∀ {d e : Nat} {t : Tm}, d ≤ e → Tm.ok N d t → Tm.ok M e t
  | d, e, .var n, _, q => by
    rw [Tm.ok_var] at q ⊢
    omega
  | 0, e, .app s as, _, q => by
    have q' : as = [] := q
    subst q'
    exact Tm.ok_nil
  | d + 1, 0, .app s as, z, q => by omega
  | d + 1, e + 1, .app s as, z, q => by
    rw [Tm.ok_app] at q ⊢
    exact fun t ht => Tm.ok_mono h (by omega) (q t ht)

/-! ### variables -/
def addV (f : List Int) (n : Int) : List Int := if n ∈ f then f else f ++ [n]
mutual
def col : Tm → List Int → List Int
  | .var n, f => addV f n
  | .app _ as, f => cols as f
def cols : List Tm → List Int → List Int
  | [], f => f
  | t :: r, f => cols r (col t f)
end
theorem col_var (n : Int) (f : List Int) : col (.var n) f = addV f n := by rw [col]
theorem col_app (s : Int × Int × Int) (as : List Tm) (f : List Int) : col (.app s as) f = cols as f := by rw [col]
theorem cols_nil (f : List Int) : cols [] f = f := by rw [cols]
theorem cols_cons (t : Tm) (r : List Tm) (f : List Int) : cols (t :: r) f = cols r (col t f) := by rw [cols]
theorem cols_append : ∀ (l r : List Tm) (f : List Int), cols (l ++ r) f = cols r (cols l f)
  | [], r, f => by rw [cols_nil]; rfl
  | t :: l, r, f => by rw [List.cons_append, cols_cons, cols_cons, cols_append l r]
theorem cols_snoc (l : List Tm) (t : Tm) (f : List Int) : cols (l ++ [t]) f = col t (cols l f) := by rw [cols_append, cols_cons, cols_nil]
/-- a list of different numbers from 0 to N - 1 -/
def Rg (N : Int) (f : List Int) : Prop := f.Nodup ∧ ∀ v ∈ f, 0 ≤ v ∧ v < N
theorem Rg.nil {N : Int} : Rg N [] := ⟨List.nodup_nil, fun v h => by cases h⟩
theorem Rg.snoc {N : Int} {f : List Int} {n : Int} (h : Rg N f) (hn : n ∉ f) (h0 : 0 ≤ n ∧ n < N) : Rg N (f ++ [n]) := by
  refine ⟨?_, fun v hv => ?_⟩
  · rw [List.nodup_append]
    refine ⟨h.1, by simp, fun a ha b hb => ?_⟩
    rw [List.mem_singleton] at hb
    subst hb
    exact fun e => hn (e ▸ ha)
  · rcases List.mem_append.mp hv with q | q
    · exact h.2 v q
    · rw [List.mem_singleton] at q
      rw [q]
      exact h0
theorem Rg.add {N : Int} {f : List Int} {n : Int} (h : Rg N f) (h0 : 0 ≤ n ∧ n < N) : Rg N (addV f n) := by
  unfold addV
  by_cases q : n ∈ f
  · rw [if_pos q]; exact h
  · rw [if_neg q]; exact h.snoc q h0
theorem nodup_len : ∀ (N : Nat) (f : List Int), f.Nodup → (∀ v ∈ f, 0 ≤ v ∧ v < (N : Int)) → f.length ≤ N
  | 0, f, _, h => by
    cases f with
    | nil => exact Nat.le_refl _
    | cons a r =>
      have := h a List.mem_cons_self
      omega
  | N + 1, f, nd, h => by
    have h1 : (f.filter fun v => decide (v ≠ (N : Int))).length ≤ N := by
      refine nodup_len N _ (nd.filter _) fun v hv => ?_
      rw [List.mem_filter] at hv
      have q1 := h v hv.1
      have q2 : v ≠ (N : Int) := of_decide_eq_true hv.2
      omega
    have h2 : f.length ≤ (f.filter fun v => decide (v ≠ (N : Int))).length + 1 := by
      clear h1 h
      induction f with
      | nil => simp
      | cons a r ih =>
        rw [List.nodup_cons] at nd
        by_cases e : a = (N : Int)
        · have : r.filter (fun v => decide (v ≠ (N : Int))) = r := by
            rw [List.filter_eq_self]
            intro b hb
            exact decide_eq_true fun q => nd.1 (by rw [e, ← q]; exact hb)
          rw [List.filter_cons, if_neg (by simp [e]), this]
          simp
        · rw [List.filter_cons, if_pos (by simp [e])]
          have := ih nd.2
          simp only [List.length_cons]
          omega
    omega
theorem Rg.len {N : Int} {f : List Int} (h : Rg N f) (hN : 0 ≤ N) : (f.length : Int) ≤ N := by
  have := nodup_len N.toNat f h.1 fun v hv => by
    have := h.2 v hv
    omega
  omega
theorem addV_le (f : List Int) (n : Int) : f.length ≤ (addV f n).length := by
  unfold addV
  by_cases q : n ∈ f
  · rw [if_pos q]; exact Nat.le_refl _
  · rw [if_neg q, List.length_append]; omega
theorem col_rg {N : Int} : ∀ {d : Nat} {t : Tm} {f : List Int}, Tm.ok N d t → Rg N f → Rg N (col t f)
  | d, .var n, f, h, g => by
    rw [col_var]
    exact g.add (Tm.ok_var.mp h)
  | 0, .app s as, f, h, g => by
    have e : as = [] := h
    subst e
    rw [col_app, cols_nil]
    exact g
  | d + 1, .app s as, f, h, g => by
    rw [col_app]
    rw [Tm.ok_app] at h
    have all : ∀ (l : List Tm) (f : List Int), (∀ t ∈ l, Tm.ok N d t) → Rg N f → Rg N (cols l f) := by
      intro l
      induction l with
      | nil => intro f _ g; rw [cols_nil]; exact g
      | cons t r ih =>
        intro f h g
        rw [cols_cons]
        exact ih _ (fun u hu => h u (List.mem_cons_of_mem _ hu)) (col_rg (h t List.mem_cons_self) g)
    exact all as f h g
theorem cols_rg {N : Int} {d : Nat} : ∀ {l : List Tm} {f : List Int}, (∀ t ∈ l, Tm.ok N d t) → Rg N f → Rg N (cols l f)
  | [], f, _, g => by rw [cols_nil]; exact g
  | t :: r, f, h, g => by
    rw [cols_cons]
    exact cols_rg (fun u hu => h u (List.mem_cons_of_mem _ hu)) (col_rg (h t List.mem_cons_self) g)
def tvars (t : Tm) : List Int := col t []
theorem tvars_rg {N : Int} {d : Nat} {t : Tm} (h : Tm.ok N d t) : Rg N (tvars t) := col_rg h Rg.nil

/-! ### substitutions -/
mutual
def put (σ : List (Int × Tm)) : Tm → Tm
  | .var n => (σ.lookup n).getD (.var n)
  | .app s as => .app s (puts σ as)
def puts (σ : List (Int × Tm)) : List Tm → List Tm
  | [] => []
  | t :: r => put σ t :: puts σ r
end
theorem put_var (σ : List (Int × Tm)) (n : Int) : put σ (.var n) = (σ.lookup n).getD (.var n) := by rw [put]
theorem put_app (σ : List (Int × Tm)) (s : Int × Int × Int) (as : List Tm) : put σ (.app s as) = .app s (puts σ as) := by rw [put]
theorem puts_map (σ : List (Int × Tm)) : ∀ l : List Tm, puts σ l = l.map (put σ)
  | [] => by rw [puts]; rfl
  | t :: r => by rw [puts, puts_map σ r]; rfl
theorem lookup_mem {σ : List (Int × Tm)} {n : Int} {t : Tm} : σ.lookup n = some t → (n, t) ∈ σ := by
  induction σ with
  | nil => intro h; cases h
  | cons p r ih =>
    intro h
    obtain ⟨m, u⟩ := p
    rw [List.lookup_cons] at h
    cases e : (n == m) with
    | true =>
      rw [e] at h
      have e' : n = m := eq_of_beq e
      have h' : u = t := Option.some.inj h
      subst e' h'
      exact List.mem_cons_self
    | false =>
      rw [e] at h
      exact List.mem_cons_of_mem _ (ih h)
theorem put_ok {N M : Int} (hNM : N ≤ M) {σ : List (Int × Tm)} {e : Nat} (hσ : ∀ p ∈ σ, Tm.ok M e p.2) : ∀ {d : Nat} {t : Tm}, Tm.ok N d t → Tm.ok M (d + e) (put σ t)
  | d, .var n, h => by
    rw [put_var]
    cases q : σ.lookup n with
    | none =>
      have := Tm.ok_var.mp h
      exact Tm.ok_var.mpr (by omega)
    | some u => exact Tm.ok_mono (Int.le_refl _) (by omega) (hσ _ (lookup_mem q))
  | 0, .app s as, h => by
    have e' : as = [] := h
    subst e'
    rw [put_app, puts]
    exact Tm.ok_nil
  | d + 1, .app s as, h => by
    rw [put_app, puts_map]
    rw [Tm.ok_app] at h
    rw [show d + 1 + e = (d + e) + 1 by omega, Tm.ok_app]
    intro u hu
    obtain ⟨t, ht, rfl⟩ := List.mem_map.mp hu
    exact put_ok hNM hσ (h t ht)

/-! ### formulas -/
inductive At where
  | atom (t : Tm)
  | equal (l r : Tm)
inductive Op where
  | and | or | implies | iff
  deriving DecidableEq
def Op.tag : Op → Str
  | .and => "and"
  | .or => "or"
  | .implies => "implies"
  | .iff => "iff"
inductive Fm where
  | at (a : At)
  | not (f : Fm)
  | bin (o : Op) (l r : Fm)
  | qu (q : Bool) (x : Int) (f : Fm)
inductive Nf where
  | lit (p : Bool) (a : At)
  | bin (o : Bool) (l r : Nf)
  | qu (q : Bool) (x : Int) (f : Nf)
structure Lit where
  p : Bool
  l : Tm
  r : Tm
inductive Tr where
  | lit (l : Lit)
  | bin (o : Bool) (l r : Tr)
abbrev Cl := List Lit
def sD (x : Str) : PyData := .str x
def tagB (o : Bool) : Str := if o then "and" else "or"
def tagQ (q : Bool) : Str := if q then "all" else "some"
def At.d : At → PyData
  | .atom t => .tuple [.str "atom", t.d]
  | .equal l r => .tuple [.str "equal", l.d, r.d]
def Fm.d : Fm → PyData
  | .at a => a.d
  | .not f => .tuple [.str "not", f.d]
  | .bin o l r => .tuple [.str o.tag, l.d, r.d]
  | .qu q x f => .tuple [.str (tagQ q), .int x, f.d]
def Nf.d : Nf → PyData
  | .lit true a => a.d
  | .lit false a => .tuple [.str "not", a.d]
  | .bin o l r => .tuple [.str (tagB o), l.d, r.d]
  | .qu q x f => .tuple [.str (tagQ q), .int x, f.d]
def Lit.d (l : Lit) : PyData := .tuple [.bool l.p, l.l.d, l.r.d]
def Tr.d : Tr → PyData
  | .lit l => .tuple [.str "literal", l.d]
  | .bin o l r => .tuple [.str (tagB o), l.d, r.d]
def clD (c : Cl) : PyData := .tuple (c.map Lit.d)
def truth : Tm := .app (0, 0, 0) []
def At.ok (N : Int) (d : Nat) : At → Prop
  | .atom t => t.ok N d
  | .equal l r => l.ok N d ∧ r.ok N d
/-- depth at most e -/
def Fm.ok (N : Int) (d : Nat) : Nat → Fm → Prop
  | _, .at a => a.ok N d
  | 0, _ => False
  | e + 1, .not f => Fm.ok N d e f
  | e + 1, .bin _ l r => Fm.ok N d e l ∧ Fm.ok N d e r
  | e + 1, .qu _ _ f => Fm.ok N d e f
theorem Fm.ok_at {N : Int} {d e : Nat} {a : At} : Fm.ok N d e (.at a) ↔ a.ok N d := by cases e <;> simp [Fm.ok]
theorem Fm.ok_mono {N : Int} {d : Nat} : ∀ {e e' : Nat} {f : Fm}, e ≤ e' → Fm.ok N d e f → Fm.ok N d e' f
  | _, _, .at a, _, h => Fm.ok_at.mpr (Fm.ok_at.mp h)
  | 0, _, .not f, _, h => h.elim
  | 0, _, .bin _ _ _, _, h => h.elim
  | 0, _, .qu _ _ _, _, h => h.elim
  | _ + 1, 0, .not f, z, h => by omega
  | _ + 1, 0, .bin _ _ _, z, h => by omega
  | _ + 1, 0, .qu _ _ _, z, h => by omega
  | e + 1, e' + 1, .not f, z, h => Fm.ok_mono (e := e) (e' := e') (by omega) h
  | e + 1, e' + 1, .bin _ l r, z, h => ⟨Fm.ok_mono (e := e) (e' := e') (by omega) h.1, Fm.ok_mono (e := e) (e' := e') (by omega) h.2⟩
  | e + 1, e' + 1, .qu _ _ f, z, h => Fm.ok_mono (e := e) (e' := e') (by omega) h

/-! free variables -/
def addF (b f : List Int) (v : Int) : List Int := if v ∈ b then f else addV f v
def addAll (b f vs : List Int) : List Int := vs.foldl (addF b) f
def fvs : Fm → List Int → List Int → List Int
  | .at (.atom t), b, f => addAll b f (tvars t)
  | .at (.equal l r), b, f => addAll b (addAll b f (tvars l)) (tvars r)
  | .not g, b, f => fvs g b f
  | .bin _ l r, b, f => fvs r b (fvs l b f)
  | .qu _ x g, b, f => fvs g (b ++ [x]) f
def fv (g : Fm) : List Int := fvs g [] []
theorem addAll_rg {N : Int} {b : List Int} : ∀ {vs f : List Int}, (∀ v ∈ vs, 0 ≤ v ∧ v < N) → Rg N f → Rg N (addAll b f vs)
  | [], f, _, g => g
  | v :: r, f, h, g => by
    show Rg N (addAll b (addF b f v) r)
    refine addAll_rg (fun u hu => h u (List.mem_cons_of_mem _ hu)) ?_
    unfold addF
    by_cases q : v ∈ b
    · rw [if_pos q]; exact g
    · rw [if_neg q]; exact g.add (h v List.mem_cons_self)
theorem fvs_rg {N : Int} {d : Nat} : ∀ {e : Nat} {g : Fm} {b f : List Int}, Fm.ok N d e g → Rg N f → Rg N (fvs g b f)
  | e, .at (.atom t), b, f, h, r => by
    rw [Fm.ok_at] at h
    exact addAll_rg (tvars_rg h).2 r
  | e, .at (.equal x y), b, f, h, r => by
    rw [Fm.ok_at] at h
    exact addAll_rg (tvars_rg h.2).2 (addAll_rg (tvars_rg h.1).2 r)
  | 0, .not f, _, _, h, _ => h.elim
  | 0, .bin _ _ _, _, _, h, _ => h.elim
  | 0, .qu _ _ _, _, _, h, _ => h.elim
  | e + 1, .not f, _, _, h, r => fvs_rg (e := e) (g := f) h r
  | e + 1, .bin _ x y, _, _, h, r => fvs_rg (e := e) (g := y) h.2 (fvs_rg (e := e) (g := x) h.1 r)
  | e + 1, .qu _ _ f, _, _, h, r => fvs_rg (e := e) (g := f) h r
theorem fv_rg {N : Int} {d e : Nat} {g : Fm} (h : Fm.ok N d e g) : Rg N (fv g) := fvs_rg h Rg.nil

/-! part names -/
def simple : Fm → Bool
  | .at _ => true
  | .not g => simple g
  | _ => false
def allOf (vs : List Int) (g : Fm) : Fm := vs.foldr (fun x f => .qu true x f) g
def partA (a c : Int) (vs : List Int) : Tm := .app (4, a, c) (vs.map .var)
def short (a : Int) (g : Fm) (c : Int) (ex : List Fm) : Fm × Int × List Fm :=
  if simple g then (g, c, ex) else
    (.at (.atom (partA a c (fv g))), c + 1, ex ++ [allOf (fv g) (.bin .iff (.at (.atom (partA a c (fv g)))) g)])
def trav (a : Int) : Fm → Int → List Fm → Fm × Int × List Fm
  | .at x, c, ex => (.at x, c, ex)
  | .not g, c, ex => (.not (trav a g c ex).1, (trav a g c ex).2)
  | .qu q x g, c, ex => (.qu q x (trav a g c ex).1, (trav a g c ex).2)
  | .bin o l r, c, ex =>
    let p := trav a l c ex
    let q := trav a r p.2.1 p.2.2
    if o = .iff then
      let p' := short a p.1 q.2.1 q.2.2
      let q' := short a q.1 p'.2.1 p'.2.2
      (.bin o p'.1 q'.1, q'.2)
    else (.bin o p.1 q.1, q.2)
def named (a : Int) (f : Fm) : List Fm × Int := ((trav a f 0 []).1 :: (trav a f 0 []).2.2, (trav a f 0 []).2.1)

/-! negation normal form -/
def inw : Fm → Bool → Nf
  | .at a, p => .lit p a
  | .not f, p => inw f (!p)
  | .bin .iff l r, p => .bin true (.bin false (inw l (!p)) (inw r true)) (.bin false (inw l p) (inw r false))
  | .bin .implies l r, p => .bin (!p) (inw l (!p)) (inw r p)
  | .bin .and l r, p => .bin p (inw l p) (inw r p)
  | .bin .or l r, p => .bin (!p) (inw l p) (inw r p)
  | .qu q x f, p => .qu (if p then q else !q) x (inw f p)

/-! opening -/
def opn (a : Int) : Nf → List Int → List (Int × Tm) → Int → Int → Tr × Int × Int
  | .lit p (.atom t), _, σ, nv, sk => (.lit ⟨p, put σ t, truth⟩, nv, sk)
  | .lit p (.equal l r), _, σ, nv, sk => (.lit ⟨p, put σ l, put σ r⟩, nv, sk)
  | .bin o l r, ar, σ, nv, sk =>
    let x := opn a l ar σ nv sk
    let y := opn a r ar σ x.2.1 x.2.2
    (.bin o x.1 y.1, y.2)
  | .qu true x f, ar, σ, nv, sk => opn a f (ar ++ [nv]) ((x, .var nv) :: σ) (nv + 1) sk
  | .qu false x f, ar, σ, nv, sk => opn a f ar ((x, .app (3, a, sk) (ar.map .var)) :: σ) nv (sk + 1)
def opnAll (a : Int) : List Fm → Int → List Tr
  | [], _ => []
  | f :: r, sk => (opn a (inw f true) [] [] 0 sk).1 :: opnAll a r (opn a (inw f true) [] [] 0 sk).2.2

/-! spreading -/
def colL (l : Lit) (f : List Int) : List Int := col l.r (col l.l f)
def trv : Tr → List Int → List Int
  | .lit l, f => colL l f
  | .bin _ l r, f => trv r (trv l f)
def combine (l r : List Cl) : List Cl := l.flatMap fun x => r.map fun y => x ++ y
def spr (a : Int) : Tr → Int → List Cl × List Cl × Int
  | .lit l, c => ([[l]], [], c)
  | .bin o l r, c =>
    let x := spr a l c
    let y := spr a r x.2.2
    if o then (x.1 ++ y.1, x.2.1 ++ y.2.1, y.2.2)
    else if x.1.length = 1 ∨ y.1.length = 1 then (combine x.1 y.1, x.2.1 ++ y.2.1, y.2.2)
    else
      let t := partA a y.2.2 (trv r [])
      (x.1.map fun k => k ++ [⟨true, t, truth⟩], (x.2.1 ++ y.2.1) ++ y.1.map fun k => ⟨false, t, truth⟩ :: k, y.2.2 + 1)

/-! neat clauses -/
def eqT (x y : Tm) : Bool := PyData.eqv x.d y.d
def sames (x y : Lit) : Bool := if (eqT x.l y.l && eqT x.r y.r) then true else eqT x.l y.r && eqT x.r y.l
def sameL (x y : Lit) : Bool := decide (x.p = y.p) && sames x y
def wrStep (k : Cl) (l : Lit) : Cl := if k.any (fun o => sameL o l) then k else k ++ [l]
def wr (c : Cl) : Cl := c.foldl wrStep []
def cvars (c : Cl) : List Int := c.foldl (fun f l => colL l f) []
def renm (vs : List Int) : List (Int × Tm) := vs.zipIdx.map fun p => (p.1, .var (p.2 : Int))
def putL (σ : List (Int × Tm)) (l : Lit) : Lit := ⟨l.p, put σ l.l, put σ l.r⟩
def ren (c : Cl) : Cl := c.map (putL (renm (cvars c)))
def neat (c : Cl) : Cl := ren (wr c)
def sprAll (a : Int) : List Tr → Int → List Cl
  | [], _ => []
  | t :: r, c => ((spr a t c).1 ++ (spr a t c).2.1).map neat ++ sprAll a r (spr a t c).2.2
def clausesM (a : Int) (f : Fm) : List Cl := sprAll a (opnAll a (named a f).1 0) (named a f).2

/-! ### the law's order of the two sides does not matter -/
theorem eqT_comm (x y : Tm) : eqT x y = eqT y x := by unfold eqT; exact PySem.W.eqv_comm _ _
theorem sames_comm (x y : Lit) : sames x y = sames y x := by
  unfold sames
  rw [eqT_comm x.l y.l, eqT_comm x.r y.r, eqT_comm x.l y.r, eqT_comm x.r y.l, Bool.and_comm (eqT y.r x.l)]
theorem sameL_comm (x y : Lit) : sameL x y = sameL y x := by
  unfold sameL
  rw [sames_comm x y]
  congr 1
  by_cases h : x.p = y.p
  · rw [decide_eq_true h, decide_eq_true h.symm]
  · rw [decide_eq_false h, decide_eq_false fun q => h q.symm]
end K3

/-! Loops, comprehensions, membership, dicts: the short words of the walks. -/
namespace K3
open PySem PySem.Spec PyProof.Rows L2
section
variable {K : PySem.W.Frag}
theorem But.to_same {H H1 H' : Hp} {D : Addr} (s : Same H H1) (hD : H D = none) (b : But D H1 H') : Same H H' := fun c o e => b c o (s c o e) (ne_of_none e hD)
theorem lst_tups {H : Hp} {D : Addr} {xs : List V} (e : H D = some (.lst xs)) (o : HO) : Tups H (upd H D o) := (But.upd o).tups e trivial
/-- the comprehension's list grows by data -/
theorem grow {H H' : Hp} {D : Addr} {acc : List V} {ds : List PyData} {y : V} {e : PyData} (s : Same H H') (hD : H D = none) (ha : H' D = some (.lst acc)) (ra : ImA K H' acc ds) (hy : Im K H' y e) :
    Same H (upd H' D (.lst (acc ++ [y]))) ∧ (upd H' D (.lst (acc ++ [y]))) D = some (.lst (acc ++ [y])) ∧ ImA K (upd H' D (.lst (acc ++ [y]))) (acc ++ [y]) (ds ++ [e]) :=
  ⟨But.to_same s hD (But.upd _), upd_same, ((ra.snoc hy).mono (lst_tups ha _))⟩
theorem take_snoc {α : Type} {l : List α} {i : Nat} {x : α} (h : l[i]? = some x) : l.take (i + 1) = l.take i ++ [x] := by
  rw [List.take_add_one, h]
  rfl
/-- [e for x in t]: t a tuple, e makes data -/
theorem lc_mapT {a D : Addr} {xs : List V} {es : List PyData} {i : Nat} {te : TE} {vs : List Nat} {σ : L2.St} {H : Hp} {Qd : Hp → Prop} (ht : TT K H a xs) (hl : es.length = xs.length) (hz : xs.length ≤ sizeLine) (hD : H D = none)
    (hs : ∀ (j : Nat) x e H', xs[j]? = some x → es[j]? = some e → Same H H' → ∀ R : VK, (∀ y H'', Same H' H'' → Im K H'' y e → R y H'') →
      wipe ((wipe σ vs).set i (some x)) vs = wipe σ vs ∧ te ((wipe σ vs).set i (some x)) H' R)
    (hd : ∀ H' ys, Same H H' → H' D = some (.lst ys) → ImA K H' ys es → Qd H') :
    ∃ W : Nat → Nat → Hp → Prop, (∃ m, W 0 m (upd H D (.lst []))) ∧ ∀ i' m H, W i' m H →
      ((Itt K a).stop i' H ∧ Qd H) ∨ ((Itt K a).go i' H ∧ ∃ Nx : Hp → Prop, (∀ H', Nx H' → ∃ m', m' < m ∧ W (i' + 1) m' H') ∧ ∀ x H', (Itt K a).yld i' H x H' → gName i x (wipe σ vs) H' fun σ2 H2 => wipe σ2 vs = wipe σ vs ∧ tYes σ2 H2 fun b H3 =>
        if b = true then te σ2 H3 fun y H4 => ∃ acc, H4 D = some (.lst acc) ∧ acc.length < sizeLine ∧ Nx (upd H4 D (.lst (acc ++ [y]))) else Nx H3) := by
  refine lc_tup (K := K) (a := a) (xs := xs) (fun j H' => Same H H' ∧ ∃ acc, H' D = some (.lst acc) ∧ ImA K H' acc (es.take j)) ⟨same_new hD _, [], upd_same, by rw [List.take_zero]; exact .nil⟩
    (fun j H' _ ⟨s, _⟩ => (ht.mono (Tups.of s)).sq) ?_ ?_
  · rintro j x H' hx ⟨s, acc, ea, ra⟩
    have hj : j < xs.length := (List.getElem?_eq_some_iff.mp hx).1
    obtain ⟨e, he⟩ : ∃ e, es[j]? = some e := ⟨es[j]'(by omega), List.getElem?_eq_getElem _⟩
    obtain ⟨h1, h2⟩ := hs j x e H' hx he s (fun y H4 => ∃ acc, H4 D = some (.lst acc) ∧ acc.length < sizeLine ∧ (Same H (upd H4 D (.lst (acc ++ [y]))) ∧ ∃ acc2, (upd H4 D (.lst (acc ++ [y]))) D = some (.lst acc2) ∧ ImA K (upd H4 D (.lst (acc ++ [y]))) acc2 (es.take (j + 1)))) (fun y H'' s2 hy => by
      have g := grow (s.trans s2) hD (s2 _ _ ea) (ra.to s2) hy
      have hlen := ra.len
      rw [List.length_take] at hlen
      exact ⟨acc, s2 _ _ ea, by omega, g.1, _, g.2.1, by rw [take_snoc he]; exact g.2.2⟩)
    refine ⟨h1, ?_⟩
    unfold tYes
    dsimp only
    rw [if_pos rfl]
    exact h2
  · rintro H' ⟨s, acc, ea, ra⟩
    rw [List.take_of_length_le (by omega)] at ra
    exact hd H' acc s ea ra
/-- the same over a list -/
theorem lc_mapL {a D : Addr} {xs : List V} {es : List PyData} {i : Nat} {te : TE} {vs : List Nat} {σ : L2.St} {H : Hp} {Qd : Hp → Prop} (ht : SqL K H a xs) (hl : es.length = xs.length) (hz : xs.length ≤ sizeLine) (hD : H D = none)
    (hs : ∀ (j : Nat) x e H', xs[j]? = some x → es[j]? = some e → Same H H' → ∀ R : VK, (∀ y H'', Same H' H'' → Im K H'' y e → R y H'') →
      wipe ((wipe σ vs).set i (some x)) vs = wipe σ vs ∧ te ((wipe σ vs).set i (some x)) H' R)
    (hd : ∀ H' ys, Same H H' → H' D = some (.lst ys) → ImA K H' ys es → Qd H') :
    ∃ W : Nat → Nat → Hp → Prop, (∃ m, W 0 m (upd H D (.lst []))) ∧ ∀ i' m H, W i' m H →
      ((Itl K a).stop i' H ∧ Qd H) ∨ ((Itl K a).go i' H ∧ ∃ Nx : Hp → Prop, (∀ H', Nx H' → ∃ m', m' < m ∧ W (i' + 1) m' H') ∧ ∀ x H', (Itl K a).yld i' H x H' → gName i x (wipe σ vs) H' fun σ2 H2 => wipe σ2 vs = wipe σ vs ∧ tYes σ2 H2 fun b H3 =>
        if b = true then te σ2 H3 fun y H4 => ∃ acc, H4 D = some (.lst acc) ∧ acc.length < sizeLine ∧ Nx (upd H4 D (.lst (acc ++ [y]))) else Nx H3) := by
  refine lc_list (K := K) (a := a) (xs := xs) (fun j H' => Same H H' ∧ ∃ acc, H' D = some (.lst acc) ∧ ImA K H' acc (es.take j)) ⟨same_new hD _, [], upd_same, by rw [List.take_zero]; exact .nil⟩
    (fun j H' _ ⟨s, _⟩ => s.seq ht) ?_ ?_
  · rintro j x H' hx ⟨s, acc, ea, ra⟩
    have hj : j < xs.length := (List.getElem?_eq_some_iff.mp hx).1
    obtain ⟨e, he⟩ : ∃ e, es[j]? = some e := ⟨es[j]'(by omega), List.getElem?_eq_getElem _⟩
    obtain ⟨h1, h2⟩ := hs j x e H' hx he s (fun y H4 => ∃ acc, H4 D = some (.lst acc) ∧ acc.length < sizeLine ∧ (Same H (upd H4 D (.lst (acc ++ [y]))) ∧ ∃ acc2, (upd H4 D (.lst (acc ++ [y]))) D = some (.lst acc2) ∧ ImA K (upd H4 D (.lst (acc ++ [y]))) acc2 (es.take (j + 1)))) (fun y H'' s2 hy => by
      have g := grow (s.trans s2) hD (s2 _ _ ea) (ra.to s2) hy
      have hlen := ra.len
      rw [List.length_take] at hlen
      exact ⟨acc, s2 _ _ ea, by omega, g.1, _, g.2.1, by rw [take_snoc he]; exact g.2.2⟩)
    refine ⟨h1, ?_⟩
    unfold tYes
    dsimp only
    rw [if_pos rfl]
    exact h2
  · rintro H' ⟨s, acc, ea, ra⟩
    rw [List.take_of_length_le (by omega)] at ra
    exact hd H' acc s ea ra

/-- the same over range(n) -/
theorem lc_mapR {n : Nat} {D : Addr} {es : List PyData} {i : Nat} {te : TE} {vs : List Nat} {σ : L2.St} {H : Hp} {Qd : Hp → Prop} (hl : es.length = n) (hz : n ≤ sizeLine) (hD : H D = none)
    (hs : ∀ (j : Nat) e H', es[j]? = some e → Same H H' → ∀ R : VK, (∀ y H'', Same H' H'' → Im K H'' y e → R y H'') →
      wipe ((wipe σ vs).set i (some (.int (0 + j)))) vs = wipe σ vs ∧ te ((wipe σ vs).set i (some (.int (0 + j)))) H' R)
    (hd : ∀ H' ys, Same H H' → H' D = some (.lst ys) → ImA K H' ys es → Qd H') :
    ∃ W : Nat → Nat → Hp → Prop, (∃ m, W 0 m (upd H D (.lst []))) ∧ ∀ i' m H, W i' m H →
      ((Itr 0 n).stop i' H ∧ Qd H) ∨ ((Itr 0 n).go i' H ∧ ∃ Nx : Hp → Prop, (∀ H', Nx H' → ∃ m', m' < m ∧ W (i' + 1) m' H') ∧ ∀ x H', (Itr 0 n).yld i' H x H' → gName i x (wipe σ vs) H' fun σ2 H2 => wipe σ2 vs = wipe σ vs ∧ tYes σ2 H2 fun b H3 =>
        if b = true then te σ2 H3 fun y H4 => ∃ acc, H4 D = some (.lst acc) ∧ acc.length < sizeLine ∧ Nx (upd H4 D (.lst (acc ++ [y]))) else Nx H3) := by
  refine lc_range (lo := 0) (n := n) (fun j H' => Same H H' ∧ ∃ acc, H' D = some (.lst acc) ∧ ImA K H' acc (es.take j)) ⟨same_new hD _, [], upd_same, by rw [List.take_zero]; exact .nil⟩ ?_ ?_
  · rintro j H' hj ⟨s, acc, ea, ra⟩
    obtain ⟨e, he⟩ : ∃ e, es[j]? = some e := ⟨es[j]'(by omega), List.getElem?_eq_getElem _⟩
    obtain ⟨h1, h2⟩ := hs j e H' he s (fun y H4 => ∃ acc, H4 D = some (.lst acc) ∧ acc.length < sizeLine ∧ (Same H (upd H4 D (.lst (acc ++ [y]))) ∧ ∃ acc2, (upd H4 D (.lst (acc ++ [y]))) D = some (.lst acc2) ∧ ImA K (upd H4 D (.lst (acc ++ [y]))) acc2 (es.take (j + 1)))) (fun y H'' s2 hy => by
      have g := grow (s.trans s2) hD (s2 _ _ ea) (ra.to s2) hy
      have hlen := ra.len
      rw [List.length_take] at hlen
      exact ⟨acc, s2 _ _ ea, by omega, g.1, _, g.2.1, by rw [take_snoc he]; exact g.2.2⟩)
    refine ⟨h1, ?_⟩
    unfold tYes
    dsimp only
    rw [if_pos rfl]
    exact h2
  · rintro H' ⟨s, acc, ea, ra⟩
    rw [List.take_of_length_le (by omega)] at ra
    exact hd H' acc s ea ra

/-! ### ints in lists -/
def iv (f : List Int) : List V := f.map V.int
theorem iv_len (f : List Int) : (iv f).length = f.length := List.length_map _
theorem iv_append (f g : List Int) : iv f ++ iv g = iv (f ++ g) := (List.map_append).symm
theorem iv_snoc (f : List Int) (n : Int) : iv f ++ [.int n] = iv (f ++ [n]) := iv_append f [n]
theorem iv_flat (f : List Int) : (iv f).all flatV = true := by
  unfold iv
  induction f with
  | nil => rfl
  | cons a r ih => rw [List.map_cons, List.all_cons, ih]; rfl
theorem inV_iv (n : Int) (f : List Int) : inV (.int n) (iv f) = decide (n ∈ f) := by
  unfold inV iv
  induction f with
  | nil => simp
  | cons a r ih =>
    rw [List.map_cons, List.any_cons, ih]
    show ((a == n) || decide (n ∈ r)) = decide (n ∈ a :: r)
    by_cases e : a = n
    · subst e; simp
    · have e2 : ¬ n = a := fun q => e q.symm
      simp [e, e2]
/-- x not in xs, iv -/
theorem notin_iv {H : Hp} {p : Addr} {n : Int} {f : List Int} {Q : VK} (h : SqL K H p (iv f)) (q : Q (.bl (!decide (n ∈ f))) H) : rIn K true (.int n) (.ref p) H Q :=
  ⟨p, _, rfl, .inl h, rfl, iv_flat f, by rw [inV_iv]; exact q⟩
theorem im_iv {H : Hp} : ∀ f : List Int, ImA K H (iv f) (f.map PyData.int)
  | [] => .nil
  | n :: r => .cons (.int n) (im_iv r)
theorem ima_iv {H : Hp} : ∀ {f : List Int} {vs : List V}, ImA K H vs (f.map PyData.int) → vs = iv f
  | [], _, h => by cases h; rfl
  | n :: r, _, h => by
    cases h with
    | cons a b =>
      rw [a.int_inv, ima_iv b]
      rfl
theorem tmsD_vars : ∀ f : List Int, tmsD (f.map Tm.var) = f.map PyData.int
  | [] => by rw [List.map_nil, tmsD]; rfl
  | n :: r => by rw [List.map_cons, tmsD, Tm.d_var, tmsD_vars r]; rfl
/-- the tuple of a list of iv -/
theorem im_vars {H : Hp} {p : Addr} {f : List Int} (h : TT K H p (iv f)) : Im K H (.ref p) (.tuple (tmsD (f.map Tm.var))) := .tup h (by rw [tmsD_vars]; exact im_iv f)

/-! ### a dict from iv to terms -/
def DR (K : PySem.W.Frag) (H : Hp) (a : Addr) (σ : List (Int × Tm)) : Prop :=
  ∃ kvs : List (Key × V), H a = some (.dK kvs) ∧ kvs.length ≤ σ.length ∧ ∀ n : Int, match σ.lookup n with
    | none => valV kvs (.inl n) = none
    | some t => ∃ v, valV kvs (.inl n) = some v ∧ Im K H v t.d
theorem DR.to {H H' : Hp} {a : Addr} {σ : List (Int × Tm)} (h : DR K H a σ) (s : Same H H') : DR K H' a σ := by
  obtain ⟨kvs, e, l, q⟩ := h
  refine ⟨kvs, s _ _ e, l, fun n => ?_⟩
  have q' := q n
  cases c : σ.lookup n with
  | none => rw [c] at q'; exact q'
  | some t =>
    rw [c] at q'
    obtain ⟨v, e1, e2⟩ := q'
    exact ⟨v, e1, e2.to s⟩
theorem DR.nil {H : Hp} {a : Addr} (h : H a = some (.dK [])) : DR K H a [] := ⟨[], h, Nat.le_refl _, fun _ => rfl⟩
theorem putK_len {κ : Type} [DecidableEq κ] (kvs : List (κ × V)) (k : κ) (v : V) : (putK kvs k v).length ≤ kvs.length + 1 := by
  unfold putK
  split
  · rw [List.length_map]; omega
  · rw [List.length_append]; simp
theorem valV_putK {κ : Type} [DecidableEq κ] (kvs : List (κ × V)) (k : κ) (v : V) (m : κ) : valV (putK kvs k v) m = if m = k then some v else valV kvs m := by
  by_cases h : (kvs.any fun kv => decide (kv.1 = k)) = true
  · unfold putK
    rw [if_pos h]
    induction kvs with
    | nil => simp at h
    | cons p r ih =>
      rw [List.map_cons]
      by_cases e : p.1 = k
      · rw [if_pos e]
        by_cases c : m = k
        · rw [if_pos c, valV_pos (show (p.1, v).1 = m by rw [c]; exact e)]
        · rw [if_neg c, valV_neg (show ¬ (p.1, v).1 = m from fun z => c (by rw [← z]; exact e)), valV_neg (fun z => c (by rw [← z]; exact e))]
          by_cases h' : (r.any fun kv => decide (kv.1 = k)) = true
          · rw [ih h', if_neg c]
          · have : r.map (fun kv => if kv.1 = k then (kv.1, v) else kv) = r := by
              rw [List.map_congr_left (g := id) (fun a ha => by
                have : ¬ a.1 = k := fun z => h' (List.any_eq_true.mpr ⟨a, ha, decide_eq_true z⟩)
                rw [if_neg this]; rfl), List.map_id]
            rw [this]
      · rw [if_neg e]
        have h' : (r.any fun kv => decide (kv.1 = k)) = true := by
          rw [List.any_cons, decide_eq_false e, Bool.false_or] at h
          exact h
        by_cases c : p.1 = m
        · have c2 : ¬ m = k := fun z => e (by rw [c]; exact z)
          rw [valV_pos c, valV_pos c, if_neg c2]
        · rw [valV_neg c, valV_neg c, ih h']
  · unfold putK
    rw [if_neg h]
    have hk : ∀ p ∈ kvs, ¬ p.1 = k := fun p hp z => h (List.any_eq_true.mpr ⟨p, hp, decide_eq_true z⟩)
    clear h
    induction kvs with
    | nil =>
      rw [List.nil_append]
      by_cases c : m = k
      · rw [if_pos c, valV_pos (show (k, v).1 = m from c.symm)]
      · rw [if_neg c, valV_neg (show ¬ (k, v).1 = m from fun z => c z.symm)]
    | cons p r ih =>
      rw [List.cons_append]
      have ih' := ih fun q hq => hk q (List.mem_cons_of_mem _ hq)
      have hp := hk p List.mem_cons_self
      by_cases c : p.1 = m
      · have c2 : ¬ m = k := fun z => hp (by rw [c]; exact z)
        rw [valV_pos c, valV_pos c, if_neg c2]
      · rw [valV_neg c, valV_neg c, ih']
/-- inner[x] = v in front -/
theorem DR.put {H : Hp} {a : Addr} {kvs : List (Key × V)} {σ : List (Int × Tm)} {x : Int} {t : Tm} {v : V} (e : H a = some (.dK kvs)) (l : kvs.length ≤ σ.length)
    (q : ∀ n : Int, match σ.lookup n with
      | none => valV kvs (.inl n) = none
      | some t => ∃ v, valV kvs (.inl n) = some v ∧ Im K H v t.d) (hv : Im K H v t.d) : DR K (upd H a (.dK (putK kvs (.inl x) v))) a ((x, t) :: σ) := by
  have tp : Tups H (upd H a (.dK (putK kvs (.inl x) v))) := (But.upd _).tups e trivial
  refine ⟨_, upd_same, by have := putK_len kvs (.inl x) v; rw [List.length_cons]; omega, fun n => ?_⟩
  rw [List.lookup_cons, valV_putK]
  cases c : (n == x) with
  | true =>
    have c' : n = x := eq_of_beq c
    subst c'
    rw [if_pos rfl]
    exact ⟨v, rfl, hv.mono tp⟩
  | false =>
    have c' : ¬ (Sum.inl n : Key) = Sum.inl x := fun z => by
      have := Sum.inl.inj z
      subst this
      simp at c
    rw [if_neg c']
    have q' := q n
    cases d : σ.lookup n with
    | none => rw [d] at q'; exact q'
    | some u =>
      rw [d] at q'
      obtain ⟨w, e1, e2⟩ := q'
      exact ⟨w, e1, e2.mono tp⟩
/-- the program's wishes of a new piece of data -/
abbrev Giv (K : PySem.W.Frag) (H : Hp) (Q : VK) (d : PyData) : Prop := ∀ v H', Same H H' → Im K H' v d → Q v H'
end
end K3

/-! bounds of the mirror. -/
namespace K3
open PySem L2
theorem simple_mono : ∀ {g : Fm}, simple g = true → simple g = true := fun h => h
theorem partA_ok {N : Int} {d : Nat} {a c : Int} {vs : List Int} (h : ∀ v ∈ vs, 0 ≤ v ∧ v < N) : Tm.ok N (d + 1) (partA a c vs) := by
  unfold partA
  rw [Tm.ok_app]
  intro t ht
  obtain ⟨v, hv, rfl⟩ := List.mem_map.mp ht
  exact Tm.ok_var.mpr (h v hv)
theorem allOf_ok {N : Int} {d : Nat} : ∀ {vs : List Int} {e : Nat} {g : Fm}, Fm.ok N d e g → Fm.ok N d (e + vs.length) (allOf vs g)
  | [], e, g, h => h
  | v :: r, e, g, h => by
    show Fm.ok N d (e + (r.length + 1)) (.qu true v (allOf r g))
    rw [← Nat.add_assoc]
    exact allOf_ok (vs := r) h
def Fm.w : Fm → Nat
  | .at _ => 1
  | .not f => f.w
  | .bin .iff l r => 2 * (l.w + r.w)
  | .bin _ l r => l.w + r.w
  | .qu _ _ f => f.w + 1
theorem allOf_w : ∀ (vs : List Int) (g : Fm), (allOf vs g).w = g.w + vs.length
  | [], g => rfl
  | v :: r, g => by
    show (allOf r g).w + 1 = _
    rw [allOf_w r g, List.length_cons]
    omega
theorem pow4 (e : Nat) : 4 ^ (e + 1) = 4 * 4 ^ e := by rw [Nat.pow_succ]; omega
theorem pow4_pos (e : Nat) : 1 ≤ 4 ^ e := Nat.one_le_pow e 4 (by decide)
theorem Fm.w_le {N : Int} {d : Nat} : ∀ {e : Nat} {f : Fm}, Fm.ok N d e f → f.w ≤ 4 ^ (e + 1)
  | e, .at _, _ => pow4_pos _
  | 0, .not f, h => h.elim
  | 0, .bin _ _ _, h => h.elim
  | 0, .qu _ _ _, h => h.elim
  | e + 1, .not f, h => by
    have := Fm.w_le (e := e) (f := f) h
    rw [pow4 (e + 1)]
    show f.w ≤ _
    omega
  | e + 1, .bin o l r, h => by
    have h1 := Fm.w_le (e := e) (f := l) h.1
    have h2 := Fm.w_le (e := e) (f := r) h.2
    rw [pow4 (e + 1)]
    cases o <;> simp only [Fm.w] <;> omega
  | e + 1, .qu _ _ f, h => by
    have := Fm.w_le (e := e) (f := f) h
    have := pow4_pos (e + 1)
    rw [pow4 (e + 1)]
    show f.w + 1 ≤ _
    omega
/-- what the additional formulas keep -/
def ExOk (N : Int) (d E W : Nat) (ex : List Fm) : Prop := ∀ g ∈ ex, Fm.ok N d E g ∧ g.w ≤ W
theorem short_ok {N : Int} {d e : Nat} {a c : Int} {ex : List Fm} {g : Fm} (h : Fm.ok N (d + 1) e g) : Fm.ok N (d + 1) e (short a g c ex).1 := by
  unfold short
  by_cases s : simple g = true
  · rw [if_pos s]; exact h
  · rw [if_neg s]
    exact Fm.ok_at.mpr (partA_ok (a := a) (c := c) (fv_rg h).2)
theorem short_len {a c : Int} {ex : List Fm} {g : Fm} : (short a g c ex).2.2.length ≤ ex.length + 1 := by
  unfold short
  by_cases s : simple g = true
  · rw [if_pos s]; exact Nat.le_succ _
  · rw [if_neg s]
    simp
theorem short_ex {N : Int} {d e E W : Nat} {a c : Int} {ex : List Fm} {g : Fm} (h : Fm.ok N (d + 1) e g) (h0 : 0 ≤ N) (hE : e + 1 + N.toNat ≤ E) (hW : 2 * (1 + 4 ^ (e + 1)) + N.toNat ≤ W) (hx : ExOk N (d + 1) E W ex) : ExOk N (d + 1) E W (short a g c ex).2.2 := by
  unfold short
  by_cases s : simple g = true
  · rw [if_pos s]; exact hx
  · rw [if_neg s]
    intro k hk
    rcases List.mem_append.mp hk with q | q
    · exact hx k q
    · rw [List.mem_singleton] at q
      subst q
      have rg := fv_rg h
      have hl := rg.len h0
      refine ⟨Fm.ok_mono (e := (e + 1) + (fv g).length) (by omega) (allOf_ok (e := e + 1) ⟨Fm.ok_at.mpr (partA_ok (a := a) (c := c) rg.2), h⟩), ?_⟩
      rw [allOf_w]
      have := Fm.w_le h
      simp only [Fm.w]
      omega
theorem trav_ok {N : Int} {d : Nat} {a : Int} : ∀ {e : Nat} {f : Fm} {c : Int} {ex : List Fm}, Fm.ok N (d + 1) e f → Fm.ok N (d + 1) e (trav a f c ex).1
  | e, .at x, c, ex, h => Fm.ok_at.mpr (Fm.ok_at.mp h)
  | 0, .not f, _, _, h => h.elim
  | 0, .bin _ _ _, _, _, h => h.elim
  | 0, .qu _ _ _, _, _, h => h.elim
  | e + 1, .not f, c, ex, h => trav_ok (e := e) (f := f) h
  | e + 1, .qu _ _ f, c, ex, h => trav_ok (e := e) (f := f) h
  | e + 1, .bin o l r, c, ex, h => by
    have h1 := trav_ok (a := a) (e := e) (f := l) (c := c) (ex := ex) h.1
    have h2 := trav_ok (a := a) (e := e) (f := r) (c := (trav a l c ex).2.1) (ex := (trav a l c ex).2.2) h.2
    unfold trav
    by_cases k : o = .iff
    · simp only [if_pos k]
      exact ⟨short_ok h1, short_ok h2⟩
    · simp only [if_neg k]
      exact ⟨h1, h2⟩
theorem two_pow (e : Nat) : 2 ^ (e + 1) = 2 * 2 ^ e := by rw [Nat.pow_succ]; omega
theorem trav_len {N : Int} {d : Nat} {a : Int} : ∀ {e : Nat} {f : Fm} {c : Int} {ex : List Fm}, Fm.ok N d e f → (trav a f c ex).2.2.length + 2 ≤ ex.length + 2 ^ (e + 1)
  | e, .at x, c, ex, h => by
    have := Nat.one_le_two_pow (n := e)
    have := two_pow e
    show ex.length + 2 ≤ _
    omega
  | 0, .not f, _, _, h => h.elim
  | 0, .bin _ _ _, _, _, h => h.elim
  | 0, .qu _ _ _, _, _, h => h.elim
  | e + 1, .not f, c, ex, h => by
    have := trav_len (a := a) (e := e) (f := f) (c := c) (ex := ex) h
    have := two_pow (e + 1)
    show (trav a f c ex).2.2.length + 2 ≤ _
    omega
  | e + 1, .qu _ _ f, c, ex, h => by
    have := trav_len (a := a) (e := e) (f := f) (c := c) (ex := ex) h
    have := two_pow (e + 1)
    show (trav a f c ex).2.2.length + 2 ≤ _
    omega
  | e + 1, .bin o l r, c, ex, h => by
    have h1 := trav_len (a := a) (e := e) (f := l) (c := c) (ex := ex) h.1
    have h2 := trav_len (a := a) (e := e) (f := r) (c := (trav a l c ex).2.1) (ex := (trav a l c ex).2.2) h.2
    have := two_pow (e + 1)
    unfold trav
    by_cases k : o = .iff
    · simp only [if_pos k]
      have h3 := short_len (a := a) (g := (trav a l c ex).1) (c := (trav a r (trav a l c ex).2.1 (trav a l c ex).2.2).2.1) (ex := (trav a r (trav a l c ex).2.1 (trav a l c ex).2.2).2.2)
      have h4 := short_len (a := a) (g := (trav a r (trav a l c ex).2.1 (trav a l c ex).2.2).1) (c := (short a (trav a l c ex).1 (trav a r (trav a l c ex).2.1 (trav a l c ex).2.2).2.1 (trav a r (trav a l c ex).2.1 (trav a l c ex).2.2).2.2).2.1)
        (ex := (short a (trav a l c ex).1 (trav a r (trav a l c ex).2.1 (trav a l c ex).2.2).2.1 (trav a r (trav a l c ex).2.1 (trav a l c ex).2.2).2.2).2.2)
      omega
    · simp only [if_neg k]
      omega
theorem trav_ex {N : Int} {d E W : Nat} {a : Int} (h0 : 0 ≤ N) : ∀ {e : Nat} {f : Fm} {c : Int} {ex : List Fm}, Fm.ok N (d + 1) e f → e + 1 + N.toNat ≤ E → 2 * (1 + 4 ^ (e + 1)) + N.toNat ≤ W → ExOk N (d + 1) E W ex → ExOk N (d + 1) E W (trav a f c ex).2.2
  | e, .at x, c, ex, h, _, _, hx => hx
  | 0, .not f, _, _, h, _, _, _ => h.elim
  | 0, .bin _ _ _, _, _, h, _, _, _ => h.elim
  | 0, .qu _ _ _, _, _, h, _, _, _ => h.elim
  | e + 1, .not f, c, ex, h, hE, hW, hx => by
    rw [pow4] at hW
    exact trav_ex h0 (e := e) (f := f) h (by omega) (by omega) hx
  | e + 1, .qu _ _ f, c, ex, h, hE, hW, hx => by
    rw [pow4] at hW
    exact trav_ex h0 (e := e) (f := f) h (by omega) (by omega) hx
  | e + 1, .bin o l r, c, ex, h, hE, hW, hx => by
    rw [pow4] at hW
    have h1 := trav_ex (a := a) (c := c) h0 (e := e) (f := l) h.1 (by omega) (by omega) hx
    have h2 := trav_ex (a := a) (c := (trav a l c ex).2.1) h0 (e := e) (f := r) h.2 (by omega) (by omega) h1
    have o1 := trav_ok (a := a) (e := e) (f := l) (c := c) (ex := ex) h.1
    have o2 := trav_ok (a := a) (e := e) (f := r) (c := (trav a l c ex).2.1) (ex := (trav a l c ex).2.2) h.2
    unfold trav
    by_cases k : o = .iff
    · simp only [if_pos k]
      exact short_ex o2 h0 (by omega) (by omega) (short_ex o1 h0 (by omega) (by omega) h2)
    · simp only [if_neg k]
      exact h2
/-- the named formulas of a formula of depth at most 5 over 15 variables -/
theorem named_ok {a : Int} {f : Fm} {e : Nat} (h : Fm.ok 15 2 e f) (he : e ≤ 5) : (∀ g ∈ (named a f).1, Fm.ok 15 2 21 g ∧ g.w ≤ 10000) ∧ (named a f).1.length ≤ 100 := by
  have h' : Fm.ok 15 2 5 f := Fm.ok_mono he h
  have o1 := trav_ok (a := a) (c := 0) (ex := []) h'
  have o2 := trav_ex (a := a) (c := 0) (ex := []) (E := 21) (W := 10000) (by decide) h' (by decide) (by decide) (fun g hg => by cases hg)
  have o3 := trav_len (a := a) (c := 0) (ex := []) h'
  unfold named
  refine ⟨fun g hg => ?_, ?_⟩
  · rcases List.mem_cons.mp hg with q | q
    · subst q
      exact ⟨Fm.ok_mono (by decide) o1, Nat.le_trans (Fm.w_le o1) (by decide)⟩
    · exact o2 g q
  · simp only [List.length_cons, List.length_nil] at o3 ⊢
    have : 2 ^ (5 + 1) = 64 := by decide
    omega

/-! ### behind negation normal form -/
def Nf.w : Nf → Nat
  | .lit _ _ => 1
  | .bin _ l r => l.w + r.w
  | .qu _ _ f => f.w + 1
def Nf.ok (N : Int) (d : Nat) : Nf → Prop
  | .lit _ a => a.ok N d
  | .bin _ l r => l.ok N d ∧ r.ok N d
  | .qu _ _ f => f.ok N d
/-- depth -/
def Nf.dp : Nf → Nat
  | .lit _ _ => 0
  | .bin _ l r => max l.dp r.dp + 1
  | .qu _ _ f => f.dp + 1
theorem inw_w : ∀ (f : Fm) (p : Bool), (inw f p).w = f.w
  | .at a, p => rfl
  | .not f, p => inw_w f (!p)
  | .bin .iff l r, p => by
    simp only [inw, Nf.w, Fm.w, inw_w]
    omega
  | .bin .implies l r, p => by simp only [inw, Nf.w, Fm.w, inw_w]
  | .bin .and l r, p => by simp only [inw, Nf.w, Fm.w, inw_w]
  | .bin .or l r, p => by simp only [inw, Nf.w, Fm.w, inw_w]
  | .qu q x f, p => by simp only [inw, Nf.w, Fm.w, inw_w]
theorem inw_ok {N : Int} {d : Nat} : ∀ {e : Nat} {f : Fm} {p : Bool}, Fm.ok N d e f → (inw f p).ok N d ∧ (inw f p).dp ≤ 2 * e
  | e, .at a, p, h => ⟨Fm.ok_at.mp h, Nat.zero_le _⟩
  | 0, .not f, _, h => h.elim
  | 0, .bin _ _ _, _, h => h.elim
  | 0, .qu _ _ _, _, h => h.elim
  | e + 1, .not f, p, h => by
    have := inw_ok (e := e) (f := f) (p := !p) h
    exact ⟨this.1, by show (inw f (!p)).dp ≤ _; omega⟩
  | e + 1, .bin .iff l r, p, h => by
    have h1 := inw_ok (e := e) (f := l) (p := !p) h.1
    have h2 := inw_ok (e := e) (f := r) (p := true) h.2
    have h3 := inw_ok (e := e) (f := l) (p := p) h.1
    have h4 := inw_ok (e := e) (f := r) (p := false) h.2
    simp only [inw, Nf.ok, Nf.dp]
    exact ⟨⟨⟨h1.1, h2.1⟩, h3.1, h4.1⟩, by omega⟩
  | e + 1, .bin .implies l r, p, h => by
    have h1 := inw_ok (e := e) (f := l) (p := !p) h.1
    have h2 := inw_ok (e := e) (f := r) (p := p) h.2
    simp only [inw, Nf.ok, Nf.dp]
    exact ⟨⟨h1.1, h2.1⟩, by omega⟩
  | e + 1, .bin .and l r, p, h => by
    have h1 := inw_ok (e := e) (f := l) (p := p) h.1
    have h2 := inw_ok (e := e) (f := r) (p := p) h.2
    simp only [inw, Nf.ok, Nf.dp]
    exact ⟨⟨h1.1, h2.1⟩, by omega⟩
  | e + 1, .bin .or l r, p, h => by
    have h1 := inw_ok (e := e) (f := l) (p := p) h.1
    have h2 := inw_ok (e := e) (f := r) (p := p) h.2
    simp only [inw, Nf.ok, Nf.dp]
    exact ⟨⟨h1.1, h2.1⟩, by omega⟩
  | e + 1, .qu q x f, p, h => by
    have h1 := inw_ok (e := e) (f := f) (p := p) h
    simp only [inw, Nf.ok, Nf.dp]
    exact ⟨h1.1, by omega⟩

/-! ### trees -/
def Tr.ok (M : Int) (d : Nat) : Tr → Prop
  | .lit l => l.l.ok M d ∧ l.r.ok M d
  | .bin _ l r => l.ok M d ∧ r.ok M d
def Tr.lv : Tr → Nat
  | .lit _ => 1
  | .bin _ l r => l.lv + r.lv
def Tr.dp : Tr → Nat
  | .lit _ => 0
  | .bin _ l r => max l.dp r.dp + 1
/-- what a substitution keeps -/
def SgOk (M : Int) (σ : List (Int × Tm)) : Prop := ∀ p ∈ σ, Tm.ok M 1 p.2
theorem truth_ok {M : Int} {d : Nat} : Tm.ok M d truth := Tm.ok_nil
theorem opn_ok {N M : Int} {d : Nat} {a : Int} (hNM : N ≤ M) : ∀ {f : Nf} {ar : List Int} {σ : List (Int × Tm)} {nv sk : Int}, f.ok N d → SgOk M σ → (∀ v ∈ ar, 0 ≤ v ∧ v < M) → 0 ≤ nv → nv + f.w ≤ M →
    (opn a f ar σ nv sk).1.ok M (d + 1) ∧ (opn a f ar σ nv sk).1.lv ≤ f.w ∧ (opn a f ar σ nv sk).1.dp ≤ f.dp ∧ nv ≤ (opn a f ar σ nv sk).2.1 ∧ (opn a f ar σ nv sk).2.1 ≤ nv + f.w
  | .lit p (.atom t), ar, σ, nv, sk, h, hσ, har, h0, hM => by
    simp only [opn, Tr.ok, Tr.lv, Tr.dp, Nf.w, Nf.dp]
    exact ⟨⟨put_ok hNM hσ h, truth_ok⟩, by omega, by omega, by omega, by omega⟩
  | .lit p (.equal l r), ar, σ, nv, sk, h, hσ, har, h0, hM => by
    simp only [opn, Tr.ok, Tr.lv, Tr.dp, Nf.w, Nf.dp]
    exact ⟨⟨put_ok hNM hσ h.1, put_ok hNM hσ h.2⟩, by omega, by omega, by omega, by omega⟩
  | .bin o l r, ar, σ, nv, sk, h, hσ, har, h0, hM => by
    simp only [Nf.w] at hM
    have h1 := opn_ok (a := a) hNM (f := l) (ar := ar) (σ := σ) (nv := nv) (sk := sk) h.1 hσ har h0 (by omega)
    have h2 := opn_ok (a := a) hNM (f := r) (ar := ar) (σ := σ) (nv := (opn a l ar σ nv sk).2.1) (sk := (opn a l ar σ nv sk).2.2) h.2 hσ har (by omega) (by omega)
    simp only [opn, Tr.ok, Tr.lv, Tr.dp, Nf.w, Nf.dp]
    exact ⟨⟨h1.1, h2.1⟩, by omega, by omega, by omega, by omega⟩
  | .qu true x f, ar, σ, nv, sk, h, hσ, har, h0, hM => by
    simp only [Nf.w] at hM
    have h1 := opn_ok (a := a) hNM (f := f) (ar := ar ++ [nv]) (σ := (x, .var nv) :: σ) (nv := nv + 1) (sk := sk) h (fun p hp => by
      rcases List.mem_cons.mp hp with q | q
      · rw [q]; exact Tm.ok_var.mpr (by omega)
      · exact hσ p q) (fun v hv => by
      rcases List.mem_append.mp hv with q | q
      · exact har v q
      · rw [List.mem_singleton] at q
        omega) (by omega) (by omega)
    simp only [opn, Nf.w, Nf.dp]
    exact ⟨h1.1, by omega, by omega, by omega, by omega⟩
  | .qu false x f, ar, σ, nv, sk, h, hσ, har, h0, hM => by
    simp only [Nf.w] at hM
    have h1 := opn_ok (a := a) hNM (f := f) (ar := ar) (σ := (x, .app (3, a, sk) (ar.map .var)) :: σ) (nv := nv) (sk := sk + 1) h (fun p hp => by
      rcases List.mem_cons.mp hp with q | q
      · rw [q]
        show Tm.ok M 1 (.app (3, a, sk) (ar.map .var))
        rw [Tm.ok_app]
        intro t ht
        obtain ⟨v, hv, rfl⟩ := List.mem_map.mp ht
        exact Tm.ok_var.mpr (har v hv)
      · exact hσ p q) har h0 (by omega)
    simp only [opn, Nf.w, Nf.dp]
    exact ⟨h1.1, by omega, by omega, by omega, by omega⟩
theorem trv_rg {M : Int} {d : Nat} : ∀ {t : Tr} {f : List Int}, t.ok M d → Rg M f → Rg M (trv t f)
  | .lit l, f, h, g => col_rg h.2 (col_rg h.1 g)
  | .bin _ l r, f, h, g => trv_rg (t := r) h.2 (trv_rg (t := l) h.1 g)
/-! ### clauses of a tree -/
abbrev CsOk (M : Int) (d L : Nat) (cs : List Cl) : Prop := ∀ c ∈ cs, (∀ l ∈ c, l.l.ok M d ∧ l.r.ok M d) ∧ c.length + 1 ≤ 2 * L
theorem combine_len (x y : List Cl) : (combine x y).length = x.length * y.length := by
  unfold combine
  induction x with
  | nil => simp
  | cons a r ih => rw [List.flatMap_cons, List.length_append, ih, List.length_map, List.length_cons]; rw [Nat.add_mul]; omega
theorem spr_ok {M : Int} {d : Nat} {a : Int} : ∀ {t : Tr} {c : Int}, t.ok M (d + 1) →
    CsOk M (d + 1) t.lv (spr a t c).1 ∧ CsOk M (d + 1) t.lv (spr a t c).2.1 ∧ 1 ≤ (spr a t c).1.length ∧ (spr a t c).1.length + (spr a t c).2.1.length ≤ t.lv
  | .lit l, c, h => by
    simp only [spr, Tr.lv]
    refine ⟨fun k hk => ?_, fun k hk => (by cases hk), by simp, by simp⟩
    rw [List.mem_singleton] at hk
    subst hk
    exact ⟨fun m hm => by rw [List.mem_singleton] at hm; subst hm; exact h, by simp⟩
  | .bin o l r, c, h => by
    obtain ⟨a1, a2, a3, a4⟩ := spr_ok (a := a) (t := l) (c := c) h.1
    obtain ⟨b1, b2, b3, b4⟩ := spr_ok (a := a) (t := r) (c := (spr a l c).2.2) h.2
    have hx : CsOk M (d + 1) (l.lv + r.lv) ((spr a l c).2.1 ++ (spr a r (spr a l c).2.2).2.1) := fun k hk => by
      rcases List.mem_append.mp hk with q | q
      · have := a2 k q
        exact ⟨this.1, by omega⟩
      · have := b2 k q
        exact ⟨this.1, by omega⟩
    cases o with
    | true =>
      simp only [spr, Tr.lv, if_true]
      refine ⟨fun k hk => ?_, hx, by rw [List.length_append]; omega, by simp only [List.length_append]; omega⟩
      rcases List.mem_append.mp hk with q | q
      · have := a1 k q
        exact ⟨this.1, by omega⟩
      · have := b1 k q
        exact ⟨this.1, by omega⟩
    | false =>
      simp only [spr, Tr.lv, Bool.false_eq_true, if_false]
      by_cases k1 : (spr a l c).1.length = 1 ∨ (spr a r (spr a l c).2.2).1.length = 1
      · simp only [if_pos k1]
        refine ⟨fun k hk => ?_, hx, ?_, ?_⟩
        · unfold combine at hk
          obtain ⟨x, hx', hk⟩ := List.mem_flatMap.mp hk
          obtain ⟨y, hy', rfl⟩ := List.mem_map.mp hk
          have q1 := a1 x hx'
          have q2 := b1 y hy'
          refine ⟨fun m hm => ?_, by rw [List.length_append]; omega⟩
          rcases List.mem_append.mp hm with z | z
          · exact q1.1 m z
          · exact q2.1 m z
        · rw [combine_len]
          exact Nat.mul_le_mul a3 b3
        · rw [combine_len, List.length_append]
          rcases k1 with e | e
          · rw [e]; omega
          · rw [e]; omega
      · simp only [if_neg k1]
        have rg : Rg M (trv r []) := trv_rg h.2 Rg.nil
        have ok1 : Tm.ok M (d + 1) (partA a (spr a r (spr a l c).2.2).2.2 (trv r [])) := partA_ok rg.2
        refine ⟨fun k hk => ?_, fun k hk => ?_, by rw [List.length_map]; omega, by simp only [List.length_append, List.length_map]; omega⟩
        · obtain ⟨x, hx', rfl⟩ := List.mem_map.mp hk
          have q1 := a1 x hx'
          have lv1 : 1 ≤ r.lv := by omega
          refine ⟨fun m hm => ?_, by rw [List.length_append, List.length_singleton]; omega⟩
          rcases List.mem_append.mp hm with z | z
          · exact q1.1 m z
          · rw [List.mem_singleton] at z
            subst z
            exact ⟨ok1, truth_ok⟩
        · rcases List.mem_append.mp hk with q | q
          · exact hx k q
          · obtain ⟨x, hx', rfl⟩ := List.mem_map.mp q
            have q1 := b1 x hx'
            have lv1 : 1 ≤ l.lv := by omega
            refine ⟨fun m hm => ?_, by rw [List.length_cons]; omega⟩
            rcases List.mem_cons.mp hm with z | z
            · subst z
              exact ⟨ok1, truth_ok⟩
            · exact q1.1 m z
end K3

namespace K3
open PySem PySem.Spec PyProof.Rows L2
/-! ### the built-ins' names, the module's constants -/
structure Txt (w : World) (K : PySem.W.Frag) (mg : Str → Option Value) : Prop where
  m_isinstance : mg "isinstance" = none
  m_int : mg "int" = none
  m_len : mg "len" = none
  m_tuple : mg "tuple" = none
  m_dict : mg "dict" = none
  m_range : mg "range" = none
  m_reversed : mg "reversed" = none
  m_enumerate : mg "enumerate" = none
  m_any : mg "any" = none
  m_list : mg "list" = none
  c_TRUTH : ∃ a, mg "TRUTH" = some (.ref a) ∧ ∀ H, Im K H (.ref a) truth.d
  c_JOINTS : ∃ a, mg "JOINTS" = some (.ref a) ∧ ∀ H, TT K H a [.str "and", .str "or", .str "implies", .str "iff"]
  c_OPPOSITE : ∃ a, mg "OPPOSITE" = some (.ref a) ∧ KDct K w a "and" (.str "or") ∧ KDct K w a "or" (.str "and") ∧ KDct K w a "all" (.str "some") ∧ KDct K w a "some" (.str "all")
section
variable {P : Program} {w : World} {K : PySem.W.Frag} {mg : Str → Option Value} {base : Heap}
/-- what a term's value is -/
theorem Tm.ty (t : Tm) {H : Hp} {v : V} (h : Im K H v t.d) : (∃ n, t = .var n ∧ v = .int n) ∨ (∃ s as a x y, t = .app s as ∧ v = .ref a ∧ TT K H a [x, y] ∧ Im K H x (symD s) ∧ Im K H y (.tuple (tmsD as))) := by
  cases t with
  | var n =>
    rw [Tm.d_var] at h
    exact .inl ⟨n, rfl, h.int_inv⟩
  | app s as =>
    rw [Tm.d_app] at h
    obtain ⟨a, x, y, rfl, t, h1, h2⟩ := im2 h
    exact .inr ⟨s, as, a, x, y, rfl, rfl, t, h1, h2⟩
theorem TT.tyX {H : Hp} {a : Addr} {xs : List V} (t : TT K H a xs) : TyX K H (.ref a) (.type "tuple") := by
  rcases t with e | ⟨o, its, n, e, c, _⟩
  · exact .base (.tup e)
  · exact .kTuple e c
def isV : Tm → Bool
  | .var _ => true
  | .app _ _ => false
/-- is_variable(term) -/
def spIsVar (K : PySem.W.Frag) : Sp := fun vs H Q _ => ∃ (v : V) (t : Tm), vs = [v] ∧ Im K H v t.d ∧ Q (.bl (isV t)) H
theorem isi_term {H : Hp} {v : V} {t : Tm} (h : Im K H v t.d) : ∃ u, TyX K H v u ∧ PySem.W.kitOne K u (.type "int") = some (isV t) := by
  rcases Tm.ty t h with ⟨n, rfl, rfl⟩ | ⟨s, as, a, x, y, rfl, rfl, tt, _, _⟩
  · exact ⟨_, .base (.int n), kit_ty (by show kitB "int" "int" = some true; decide +kernel)⟩
  · exact ⟨_, tt.tyX, kit_ty (by show kitB "tuple" "int" = some false; decide +kernel)⟩
theorem ok_is_variable (T : Txt w K mg) (D : Def K mg "is_variable" s_is_variable p_is_variable) : Cal P w K mg base 1 "is_variable" p_is_variable (spIsVar K) := by
  refine D.ok sc_is_variable (N := n_is_variable) (fun vs H Q E h => ?_) (fun f cdv A outer s H vs Q E hr h => ?_)
  · obtain ⟨v, t, rfl, _⟩ := h
    rfl
  obtain ⟨v, t, rfl, hv, q⟩ := h
  refine ⟨_, (pss_one (ps_ret (pe_callB call_isi rfl T.m_isinstance (by decide +kernel) (pa_cons (pv 0) (pa_cons (pe_bltn (v := .ty "int") (u := .type "int") rfl T.m_int (by decide +kernel) rfl) pa_nil))))), fun fit => ?_⟩
  obtain ⟨u, h1, h2⟩ := isi_term hv
  exact ⟨v, rfl, v, .ty "int", u, _, _, rfl, .ty _, h1, h2, q⟩
theorem ok_law_is_variable (T : Txt w K mg) (D : Def K mg "_law_is_variable" s_law_is_variable p_law_is_variable) : Cal P w K mg base 1 "_law_is_variable" p_law_is_variable (spIsVar K) := by
  refine D.ok sc_law_is_variable (N := n_law_is_variable) (fun vs H Q E h => ?_) (fun f cdv A outer s H vs Q E hr h => ?_)
  · obtain ⟨v, t, rfl, _⟩ := h
    rfl
  obtain ⟨v, t, rfl, hv, q⟩ := h
  refine ⟨_, (pss_one (ps_ret (pe_callB call_isi rfl T.m_isinstance (by decide +kernel) (pa_cons (pv 0) (pa_cons (pe_bltn (v := .ty "int") (u := .type "int") rfl T.m_int (by decide +kernel) rfl) pa_nil))))), fun fit => ?_⟩
  obtain ⟨u, h1, h2⟩ := isi_term hv
  exact ⟨v, rfl, v, .ty "int", u, _, _, rfl, .ty _, h1, h2, q⟩
end
end K3

/-! put and its kin. -/
namespace K3
open PySem PySem.Spec PyProof.Rows L2
section
variable {P : Program} {w : World} {K : PySem.W.Frag} {mg : Str → Option Value} {base : Heap}
def spPut (K : PySem.W.Frag) (n : Nat) : Sp := fun vs H Q _ => ∃ (v : V) (a : Addr) (t : Tm) (σ : List (Int × Tm)) (N : Int) (d : Nat), vs = [v, .ref a] ∧ Im K H v t.d ∧ t.ok N d ∧ d < n ∧ DR K H a σ ∧ Giv K H Q (put σ t).d
theorem ok_put (T : Txt w K mg) (D : Def K mg "put" s_put p_put) (c_is_variable : Cal P w K mg base 1 "is_variable" p_is_variable (spIsVar K)) : ∀ n : Nat, Cal P w K mg base (n + 1) "put" p_put (spPut K n)
  | 0 => D.none 1 fun vs H Q E h => by
    obtain ⟨v, a, t, σ, N, d, _, _, _, hd, _⟩ := h
    omega
  | n + 1 => by
    have c_put := ok_put T D c_is_variable n
    refine D.ok sc_put (N := n_put) (fun vs H Q E h => ?_) (fun f cdv A outer s H vs Q E hr h => ?_)
    · obtain ⟨v, a, t, σ, N, d, rfl, _⟩ := h
      rfl
    obtain ⟨v, a, t, σ, N, d, rfl, hv, hok, hd, hD, q⟩ := h
    refine ⟨_, (pss_cons (ps_if (pt_val (pc c_is_variable (hr.mono (by omega)) rfl (pa_cons (pv 0) pa_nil))) (pss_one (ps_ret (pe_dget2 (hu_of hr) (pv 1) (pv 0) (pv 0) ⟨rfl, rfl, rfl, rfl⟩))) pss_nil)
      (pss_one (ps_ret (pe_tup (pa_cons (pe_ix (ixT (K := K) rfl) (pv 0) pe_int (fun _ _ => rfl)) (pa_cons (pe_callTy call_tuple_of rfl T.m_tuple (by decide +kernel) (pa_cons (pe_lc (own := [("part", 2)]) (g := gName 2) rfl sc_put.nd (pi_tup (pe_ix (ixT (K := K) rfl) (pv 0) pe_int (fun _ _ => rfl))) (blkOk_by (own := [("part", 2)]) (N := n_put) (sc := defScope s_put) (by decide +kernel)) (fun _ _ _ _ _ => (pg_name (i := 2) sc_put.nd rfl (Or.inl rfl))) (fun _ _ _ _ _ => pts_nil) (fun _ _ _ _ _ => (pc c_put (hr.mono (by omega)) rfl (pa_cons (pv 2) (pa_cons (pv 1) pa_nil))))) pa_nil)) pa_nil)))))), fun fit => ?_⟩
    refine ⟨_, rfl, v, t, rfl, hv, _, rfl, ?_⟩
    rcases Tm.ty t hv with ⟨m, rfl, rfl⟩ | ⟨s, as, b, x, y, rfl, rfl, tt, hx, hy⟩
    · obtain ⟨kvs, e, l, z⟩ := hD
      refine iteT ⟨_, rfl, a, rfl, .inl ⟨kvs, .inl e⟩, _, rfl, _, rfl, _, DGet.k (k := .inl m) e, ?_⟩
      rw [put_var] at q
      have z' := z m
      cases c : σ.lookup m with
      | none =>
        rw [c] at z' q
        rw [z']
        exact q _ _ (Same.refl H) (by show Im K H (.int m) (Tm.var m).d; rw [Tm.d_var]; exact .int m)
      | some u =>
        rw [c] at z' q
        obtain ⟨v', e1, e2⟩ := z'
        rw [e1]
        exact q _ _ (Same.refl H) e2
    · refine iteF ?_
      obtain ⟨b', xs, rfl, t2, r2⟩ := hy.tup_inv
      refine ⟨_, rfl, b, _, 0, _, rfl, rfl, tt.sq, rfl, ?_⟩
      refine ⟨_, rfl, b, _, 1, _, rfl, rfl, tt.sq, rfl, b', rfl, ⟨_, t2.sq⟩, fun D hD' => ?_⟩
      have hl : (tmsD (puts σ as)).length = xs.length := by rw [tmsD_len, puts_map, List.length_map, r2.len, tmsD_len]
      refine lc_mapT (es := tmsD (puts σ as)) t2 hl (fit.t _ _ t2.sq) hD' (fun j x' e' H' hx' he' s R k => ⟨rfl, ?_⟩) fun H' ys s ey ry => ?_
      · obtain ⟨e0, he0, hx0⟩ := r2.get hx'
        rw [tmsD_map, List.getElem?_map] at he0
        obtain ⟨u, hu, rfl⟩ := Option.map_eq_some_iff.mp he0
        rw [tmsD_map, puts_map, List.map_map, List.getElem?_map, hu] at he'
        have e2 : (put σ u).d = e' := Option.some.inj he'
        subst e2
        cases d with
        | zero =>
          have z : as = [] := hok
          subst z
          simp at hu
        | succ d =>
          rw [Tm.ok_app] at hok
          exact ⟨_, rfl, _, rfl, x', a, u, σ, N, d, rfl, hx0.to s, hok u (List.mem_of_getElem? hu), by omega, hD.to s, k⟩
      · refine ⟨D, ys, rfl, .inl ⟨.inl (.inl ey), fun l hl' => ?_⟩⟩
        have s2 := same_new hl' (.tup ys)
        refine mk2 (hx.to (s.trans s2)) (.tup (.inl upd_same) (ry.to s2)) fun p H2 s3 i3 => ?_
        rw [put_app, Tm.d_app] at q
        exact q _ _ ((s.trans s2).trans s3) i3
/-- put_literal -/
def spPutL (K : PySem.W.Frag) (n : Nat) : Sp := fun vs H Q _ => ∃ (v : V) (a : Addr) (l : Lit) (σ : List (Int × Tm)) (N : Int) (d : Nat), vs = [v, .ref a] ∧ Im K H v l.d ∧ l.l.ok N d ∧ l.r.ok N d ∧ d < n ∧ DR K H a σ ∧ Giv K H Q (putL σ l).d
theorem ok_put_literal {n : Nat} (D : Def K mg "put_literal" s_put_literal p_put_literal) (c_put : Cal P w K mg base (n + 1) "put" p_put (spPut K n)) : Cal P w K mg base (n + 2) "put_literal" p_put_literal (spPutL K n) := by
  refine D.ok sc_put_literal (N := n_put_literal) (fun vs H Q E h => ?_) (fun f cdv A outer s H vs Q E hr h => ?_)
  · obtain ⟨v, a, t, σ, N, d, rfl, _⟩ := h
    rfl
  obtain ⟨v, a, l, σ, N, d, rfl, hv, h1, h2, hd, hD, q⟩ := h
  refine ⟨_, (pss_one (ps_ret (pe_tup (pa_cons (pe_ix (ixT (K := K) rfl) (pv 0) pe_int (fun _ _ => rfl)) (pa_cons (pc c_put (hr.mono (by omega)) rfl (pa_cons (pe_ix (ixT (K := K) rfl) (pv 0) pe_int (fun _ _ => rfl)) (pa_cons (pv 1) pa_nil))) (pa_cons (pc c_put (hr.mono (by omega)) rfl (pa_cons (pe_ix (ixT (K := K) rfl) (pv 0) pe_int (fun _ _ => rfl)) (pa_cons (pv 1) pa_nil))) pa_nil)))))), fun fit => ?_⟩
  obtain ⟨b, x, y, z, rfl, tt, hx, hy, hz⟩ := im3 hv
  refine ⟨_, rfl, b, _, 0, _, rfl, rfl, tt.sq, rfl, ?_⟩
  refine ⟨_, rfl, b, _, 1, _, rfl, rfl, tt.sq, rfl, _, rfl, y, a, l.l, σ, N, d, rfl, hy, h1, hd, hD, fun v1 H1 s1 i1 => ?_⟩
  refine ⟨_, rfl, b, _, 2, _, rfl, rfl, (tt.mono (Tups.of s1)).sq, rfl, _, rfl, z, a, l.r, σ, N, d, rfl, hz.to s1, h2, hd, hD.to s1, fun v2 H2 s2 i2 => ?_⟩
  refine mk3 ((hx.to s1).to s2) (i1.to s2) i2 fun p H3 s3 i3 => ?_
  exact q _ _ ((s1.trans s2).trans s3) i3
/-- put_clause -/
def spPutC (K : PySem.W.Frag) (n : Nat) : Sp := fun vs H Q _ => ∃ (v : V) (a : Addr) (c : Cl) (σ : List (Int × Tm)) (N : Int) (d : Nat), vs = [v, .ref a] ∧ Im K H v (clD c) ∧ (∀ l ∈ c, l.l.ok N d ∧ l.r.ok N d) ∧ d < n ∧ DR K H a σ ∧ Giv K H Q (clD (c.map (putL σ)))
theorem ok_put_clause {n : Nat} (T : Txt w K mg) (D : Def K mg "put_clause" s_put_clause p_put_clause) (c_put_literal : Cal P w K mg base (n + 2) "put_literal" p_put_literal (spPutL K n)) : Cal P w K mg base (n + 3) "put_clause" p_put_clause (spPutC K n) := by
  refine D.ok sc_put_clause (N := n_put_clause) (fun vs H Q E h => ?_) (fun f cdv A outer s H vs Q E hr h => ?_)
  · obtain ⟨v, a, t, σ, N, d, rfl, _⟩ := h
    rfl
  obtain ⟨v, a, c, σ, N, d, rfl, hv, hok, hd, hD, q⟩ := h
  refine ⟨_, (pss_one (ps_ret (pe_callTy call_tuple_of rfl T.m_tuple (by decide +kernel) (pa_cons (pe_lc (own := [("literal", 2)]) (g := gName 2) rfl sc_put_clause.nd (pi_tup (pv 0)) (blkOk_by (own := [("literal", 2)]) (N := n_put_clause) (sc := defScope s_put_clause) (by decide +kernel)) (fun _ _ _ _ _ => (pg_name (i := 2) sc_put_clause.nd rfl (Or.inl rfl))) (fun _ _ _ _ _ => pts_nil) (fun _ _ _ _ _ => (pc c_put_literal (hr.mono (by omega)) rfl (pa_cons (pv 2) (pa_cons (pv 1) pa_nil))))) pa_nil)))), fun fit => ?_⟩
  obtain ⟨b, xs, rfl, tt, r⟩ := hv.tup_inv
  refine ⟨_, rfl, b, rfl, ⟨_, tt.sq⟩, fun D' hD' => ?_⟩
  refine lc_mapT (es := (c.map (putL σ)).map Lit.d) tt (by simp [r.len]) (fit.t _ _ tt.sq) hD' (fun j x' e' H' hx' he' s R k => ⟨rfl, ?_⟩) fun H' ys s ey ry => ?_
  · obtain ⟨e0, he0, hx0⟩ := r.get hx'
    rw [List.getElem?_map] at he0
    obtain ⟨u, hu, rfl⟩ := Option.map_eq_some_iff.mp he0
    rw [List.map_map, List.getElem?_map, hu] at he'
    have e2 : (putL σ u).d = e' := Option.some.inj he'
    subst e2
    have hm := hok u (List.mem_of_getElem? hu)
    exact ⟨_, rfl, _, rfl, x', a, u, σ, N, d, rfl, hx0.to s, hm.1, hm.2, hd, hD.to s, k⟩
  · refine ⟨D', ys, rfl, .inl ⟨.inl (.inl ey), fun l hl' => ?_⟩⟩
    have s2 := same_new hl' (.tup ys)
    exact q _ _ (s.trans s2) (.tup (.inl upd_same) (ry.to s2))
end
end K3

/-! the law's put; the variables. -/
namespace K3
open PySem PySem.Spec PyProof.Rows L2
section
variable {P : Program} {w : World} {K : PySem.W.Frag} {mg : Str → Option Value} {base : Heap}
/-- the law's told: a list of pairs -/
def prD (p : Int × Tm) : PyData := .tuple [.int p.1, p.2.d]
abbrev LR (K : PySem.W.Frag) (H : Hp) (a : Addr) (σ : List (Int × Tm)) : Prop := Ls K H a (σ.map prD)
def spLPut (K : PySem.W.Frag) (n : Nat) : Sp := fun vs H Q _ => ∃ (v : V) (a : Addr) (t : Tm) (σ : List (Int × Tm)) (N : Int) (d : Nat), vs = [v, .ref a] ∧ Im K H v t.d ∧ t.ok N d ∧ d < n ∧ LR K H a σ ∧ Giv K H Q (put σ t).d
theorem lookup_take_none {σ : List (Int × Tm)} {m : Int} : ∀ {j : Nat} {p : Int × Tm}, σ[j]? = some p → (σ.take j).lookup m = none → σ.lookup m = if p.1 = m then some p.2 else σ.lookup m := by
  induction σ with
  | nil => intro j p h; simp at h
  | cons q r ih =>
    intro j p h hn
    cases j with
    | zero =>
      have e : q = p := Option.some.inj h
      subst e
      by_cases c : q.1 = m
      · rw [if_pos c]
        obtain ⟨q1, q2⟩ := q
        rw [List.lookup_cons, show (m == q1) = true by rw [show q1 = m from c]; simp]
      · rw [if_neg c]
    | succ j =>
      obtain ⟨q1, q2⟩ := q
      rw [List.take_succ_cons, List.lookup_cons] at hn
      rw [List.lookup_cons]
      cases c : (m == q1) with
      | true => rw [c] at hn; cases hn
      | false =>
        rw [c] at hn
        exact ih h hn
theorem lookup_take_step {σ : List (Int × Tm)} {m : Int} {j : Nat} {p : Int × Tm} (h : σ[j]? = some p) (hn : (σ.take j).lookup m = none) (hp : ¬ p.1 = m) : (σ.take (j + 1)).lookup m = none := by
  rw [take_snoc h]
  induction σ generalizing j with
  | nil => simp at h
  | cons q r ih =>
    obtain ⟨q1, q2⟩ := q
    cases j with
    | zero =>
      have e : (q1, q2) = p := Option.some.inj h
      rw [List.take_zero, List.nil_append, List.lookup_cons, show (m == p.1) = false from beq_eq_false_iff_ne.mpr fun z => hp z.symm]
      rfl
    | succ j =>
      rw [List.take_succ_cons, List.lookup_cons] at hn
      rw [List.take_succ_cons, List.cons_append, List.lookup_cons]
      cases c : (m == q1) with
      | true => rw [c] at hn; cases hn
      | false =>
        rw [c] at hn
        exact ih h hn
theorem ok_law_put (T : Txt w K mg) (D : Def K mg "_law_put" s_law_put p_law_put) (c_law_is_variable : Cal P w K mg base 1 "_law_is_variable" p_law_is_variable (spIsVar K)) : ∀ n : Nat, Cal P w K mg base (n + 1) "_law_put" p_law_put (spLPut K n)
  | 0 => D.none 1 fun vs H Q E h => by
    obtain ⟨v, a, t, σ, N, d, _, _, _, hd, _⟩ := h
    omega
  | n + 1 => by
    have c_law_put := ok_law_put T D c_law_is_variable n
    refine D.ok sc_law_put (N := n_law_put) (fun vs H Q E h => ?_) (fun f cdv A outer s H vs Q E hr h => ?_)
    · obtain ⟨v, a, t, σ, N, d, rfl, _⟩ := h
      rfl
    obtain ⟨v, a, t, σ, N, d, rfl, hv, hok, hd, hD, q⟩ := h
    refine ⟨_, (pss_cons (ps_if (pt_val (pc c_law_is_variable (hr.mono (by omega)) rfl (pa_cons (pv 0) pa_nil))) (pss_cons (ps_for PassesOwn.never rfl (pi_list (pv 1)) (pg_name (i := 2) sc_law_put.nd rfl (Or.inl rfl)) (pss_one (ps_if (pt_cmpR op_eq (pe_ix (ixT (K := K) rfl) (pv 2) pe_int (fun _ _ => rfl)) (pv 0) (nomark _)) (pss_one (ps_ret (pe_ix (ixT (K := K) rfl) (pv 2) pe_int (fun _ _ => rfl)))) pss_nil)))
      (pss_one (ps_ret (pv 0)))) pss_nil)
      (pss_one (ps_ret (pe_tup (pa_cons (pe_ix (ixT (K := K) rfl) (pv 0) pe_int (fun _ _ => rfl)) (pa_cons (pe_callTy call_tuple_of rfl T.m_tuple (by decide +kernel) (pa_cons (pe_lc (own := [("_law_part", 3)]) (g := gName 3) rfl sc_law_put.nd (pi_tup (pe_ix (ixT (K := K) rfl) (pv 0) pe_int (fun _ _ => rfl))) (blkOk_by (own := [("_law_part", 3)]) (N := n_law_put) (sc := defScope s_law_put) (by decide +kernel)) (fun _ _ _ _ _ => (pg_name (i := 3) sc_law_put.nd rfl (Or.inl rfl))) (fun _ _ _ _ _ => pts_nil) (fun _ _ _ _ _ => (pc c_law_put (hr.mono (by omega)) rfl (pa_cons (pv 3) (pa_cons (pv 1) pa_nil))))) pa_nil)) pa_nil)))))), fun fit => ?_⟩
    refine ⟨_, rfl, v, t, rfl, hv, _, rfl, ?_⟩
    rcases Tm.ty t hv with ⟨m, rfl, rfl⟩ | ⟨s, as, b, x, y, rfl, rfl, tt, hx, hy⟩
    · obtain ⟨xs, ea, ra⟩ := hD
      rw [put_var] at q
      have hl : xs.length = σ.length := by rw [ra.len, List.length_map]
      refine iteT ⟨_, rfl, a, rfl, ⟨xs, SqL.of ea⟩, for_list (K := K) (a := a) (xs := xs) (fun j σ' H' => ∃ u, σ' = [some (.int m), some (.ref a), u, none] ∧ H' = H ∧ (σ.take j).lookup m = none) ⟨none, rfl, rfl, rfl⟩ (fun j σ' H' _ ⟨_, _, e, _⟩ => by rw [e]; exact SqL.of ea) ?_ ?_⟩
      · rintro j y σ' H' hj ⟨u, rfl, rfl, hn⟩
        obtain ⟨e, he, hy⟩ := ra.get hj
        rw [List.getElem?_map] at he
        obtain ⟨p, hp, rfl⟩ := Option.map_eq_some_iff.mp he
        obtain ⟨b, x1, x2, rfl, tt, hx1, hx2⟩ := im2 hy
        have e1 := hx1.int_inv
        subst e1
        have look := lookup_take_none hp hn
        refine ⟨_, rfl, b, _, 0, _, rfl, rfl, tt.sq, rfl, _, rfl, rfl, _, rfl, ?_⟩
        refine ite2 (fun c => ?_) (fun c => ?_)
        · have c' : p.1 = m := V.int.inj (of_decide_eq_true c)
          rw [if_pos c'] at look
          rw [look] at q
          exact ⟨_, rfl, b, _, 1, _, rfl, rfl, tt.sq, rfl, q _ _ (Same.refl _) hx2⟩
        · have c' : ¬ p.1 = m := fun z => c (decide_eq_true (congrArg V.int z))
          exact ⟨_, rfl, rfl, lookup_take_step hp hn c'⟩
      · rintro σ' H' ⟨u, rfl, rfl, hn⟩
        rw [List.take_of_length_le (by omega)] at hn
        rw [hn] at q
        exact ⟨_, rfl, q _ _ (Same.refl _) (by show Im K _ (.int m) (Tm.var m).d; rw [Tm.d_var]; exact .int m)⟩
    · refine iteF ?_
      obtain ⟨b', xs, rfl, t2, r2⟩ := hy.tup_inv
      refine ⟨_, rfl, b, _, 0, _, rfl, rfl, tt.sq, rfl, ?_⟩
      refine ⟨_, rfl, b, _, 1, _, rfl, rfl, tt.sq, rfl, b', rfl, ⟨_, t2.sq⟩, fun D hD' => ?_⟩
      have hl : (tmsD (puts σ as)).length = xs.length := by rw [tmsD_len, puts_map, List.length_map, r2.len, tmsD_len]
      refine lc_mapT (es := tmsD (puts σ as)) t2 hl (fit.t _ _ t2.sq) hD' (fun j x' e' H' hx' he' s R k => ⟨rfl, ?_⟩) fun H' ys s ey ry => ?_
      · obtain ⟨e0, he0, hx0⟩ := r2.get hx'
        rw [tmsD_map, List.getElem?_map] at he0
        obtain ⟨u, hu, rfl⟩ := Option.map_eq_some_iff.mp he0
        rw [tmsD_map, puts_map, List.map_map, List.getElem?_map, hu] at he'
        have e2 : (put σ u).d = e' := Option.some.inj he'
        subst e2
        cases d with
        | zero =>
          have z : as = [] := hok
          subst z
          simp at hu
        | succ d =>
          rw [Tm.ok_app] at hok
          exact ⟨_, rfl, _, rfl, x', a, u, σ, N, d, rfl, hx0.to s, hok u (List.mem_of_getElem? hu), by omega, hD.to s, k⟩
      · refine ⟨D, ys, rfl, .inl ⟨.inl (.inl ey), fun l hl' => ?_⟩⟩
        have s2 := same_new hl' (.tup ys)
        refine mk2 (hx.to (s.trans s2)) (.tup (.inl upd_same) (ry.to s2)) fun p H2 s3 i3 => ?_
        rw [put_app, Tm.d_app] at q
        exact q _ _ ((s.trans s2).trans s3) i3
/-- _law_put_clause -/
def spLPutC (K : PySem.W.Frag) (n : Nat) : Sp := fun vs H Q _ => ∃ (v : V) (a : Addr) (c : Cl) (σ : List (Int × Tm)) (N : Int) (d : Nat), vs = [v, .ref a] ∧ Im K H v (clD c) ∧ (∀ l ∈ c, l.l.ok N d ∧ l.r.ok N d) ∧ d < n ∧ LR K H a σ ∧ Giv K H Q (clD (c.map (putL σ)))
theorem ok_law_put_clause {n : Nat} (T : Txt w K mg) (D : Def K mg "_law_put_clause" s_law_put_clause p_law_put_clause) (c_law_put : Cal P w K mg base (n + 1) "_law_put" p_law_put (spLPut K n)) : Cal P w K mg base (n + 2) "_law_put_clause" p_law_put_clause (spLPutC K n) := by
  refine D.ok sc_law_put_clause (N := n_law_put_clause) (fun vs H Q E h => ?_) (fun f cdv A outer s H vs Q E hr h => ?_)
  · obtain ⟨v, a, t, σ, N, d, rfl, _⟩ := h
    rfl
  obtain ⟨v, a, c, σ, N, d, rfl, hv, hok, hd, hD, q⟩ := h
  refine ⟨_, (pss_one (ps_ret (pe_callTy call_tuple_of rfl T.m_tuple (by decide +kernel) (pa_cons (pe_lc (own := [("_law_one", 2)]) (g := gName 2) rfl sc_law_put_clause.nd (pi_tup (pv 0)) (blkOk_by (own := [("_law_one", 2)]) (N := n_law_put_clause) (sc := defScope s_law_put_clause) (by decide +kernel)) (fun _ _ _ _ _ => (pg_name (i := 2) sc_law_put_clause.nd rfl (Or.inl rfl))) (fun _ _ _ _ _ => pts_nil) (fun _ _ _ _ _ => (pe_tup (pa_cons (pe_ix (ixT (K := K) rfl) (pv 2) pe_int (fun _ _ => rfl)) (pa_cons (pc c_law_put (hr.mono (by omega)) rfl (pa_cons (pe_ix (ixT (K := K) rfl) (pv 2) pe_int (fun _ _ => rfl)) (pa_cons (pv 1) pa_nil))) (pa_cons (pc c_law_put (hr.mono (by omega)) rfl (pa_cons (pe_ix (ixT (K := K) rfl) (pv 2) pe_int (fun _ _ => rfl)) (pa_cons (pv 1) pa_nil))) pa_nil)))))) pa_nil)))), fun fit => ?_⟩
  obtain ⟨b, xs, rfl, tt, r⟩ := hv.tup_inv
  refine ⟨_, rfl, b, rfl, ⟨_, tt.sq⟩, fun D' hD' => ?_⟩
  refine lc_mapT (es := (c.map (putL σ)).map Lit.d) tt (by simp [r.len]) (fit.t _ _ tt.sq) hD' (fun j x' e' H' hx' he' s R k => ⟨rfl, ?_⟩) fun H' ys s ey ry => ?_
  · obtain ⟨e0, he0, hx0⟩ := r.get hx'
    rw [List.getElem?_map] at he0
    obtain ⟨u, hu, rfl⟩ := Option.map_eq_some_iff.mp he0
    rw [List.map_map, List.getElem?_map, hu] at he'
    have e2 : (putL σ u).d = e' := Option.some.inj he'
    subst e2
    have hm := hok u (List.mem_of_getElem? hu)
    obtain ⟨b2, x, y, z, rfl, t2, hx, hy, hz⟩ := im3 (hx0.to s)
    refine ⟨_, rfl, b2, _, 0, _, rfl, rfl, t2.sq, rfl, ?_⟩
    refine ⟨_, rfl, b2, _, 1, _, rfl, rfl, t2.sq, rfl, _, rfl, y, a, u.l, σ, N, d, rfl, hy, hm.1, hd, hD.to s, fun v1 H1 s1 i1 => ?_⟩
    refine ⟨_, rfl, b2, _, 2, _, rfl, rfl, (t2.mono (Tups.of s1)).sq, rfl, _, rfl, z, a, u.r, σ, N, d, rfl, hz.to s1, hm.2, hd, hD.to (s.trans s1), fun v2 H2 s2 i2 => ?_⟩
    refine mk3 ((hx.to s1).to s2) (i1.to s2) i2 fun p H3 s3 i3 => ?_
    exact k _ _ ((s1.trans s2).trans s3) i3
  · refine ⟨D', ys, rfl, .inl ⟨.inl (.inl ey), fun l hl' => ?_⟩⟩
    have s2 := same_new hl' (.tup ys)
    exact q _ _ (s.trans s2) (.tup (.inl upd_same) (ry.to s2))

/-! ### variables -/
/-- a list of ints that holds what was asked -/
abbrev GivL (H : Hp) (Q : VK) (f : List Int) : Prop := ∀ (l : Addr) (H' : Hp), Same H H' → H' l = some (.lst (iv f)) → Q (.ref l) H'
def big : Int := 1000000
theorem big_line {N : Int} {f : List Int} (h : Rg N f) (h0 : 0 ≤ N) (hN : N ≤ big) : f.length < sizeLine := by
  have := h.len h0
  have : (f.length : Int) ≤ 1000000 := Int.le_trans this hN
  exact Nat.lt_of_le_of_lt (show f.length ≤ 1000000 by omega) (by decide)
def spLVars (K : PySem.W.Frag) (n : Nat) : Sp := fun vs H Q _ => ∃ (v : V) (a : Addr) (t : Tm) (g : List Int) (N : Int) (d : Nat), vs = [v, .ref a] ∧ Im K H v t.d ∧ t.ok N d ∧ d < n ∧ H a = some (.lst (iv g)) ∧ Rg N g ∧ 0 ≤ N ∧ N ≤ big ∧ GivL H Q (col t g)
theorem ok_law_variables (T : Txt w K mg) (D : Def K mg "_law_variables" s_law_variables p_law_variables) (c_law_is_variable : Cal P w K mg base 1 "_law_is_variable" p_law_is_variable (spIsVar K)) : ∀ n : Nat, Cal P w K mg base (n + 1) "_law_variables" p_law_variables (spLVars K n)
  | 0 => D.none 1 fun vs H Q E h => by
    obtain ⟨v, a, t, g, N, d, _, _, _, hd, _⟩ := h
    omega
  | n + 1 => by
    have c_law_variables := ok_law_variables T D c_law_is_variable n
    refine D.ok sc_law_variables (N := n_law_variables) (fun vs H Q E h => ?_) (fun f cdv A outer s H vs Q E hr h => ?_)
    · obtain ⟨v, a, t, g, N, d, rfl, _⟩ := h
      rfl
    obtain ⟨v, a, t, g, N, d, rfl, hv, hok, hd, ha, hg, h0, hN, q⟩ := h
    refine ⟨_, (pss_cons (ps_if (pt_val (pc c_law_is_variable (hr.mono (by omega)) rfl (pa_cons (pv 0) pa_nil))) (pss_cons (ps_if (pt_cmpR op_notIn_seq (pv 0) (pv 1) rfl) (pss_one (ps_set (i := 1) sc_law_variables.nd rfl (Or.inl rfl) (pe_op op_cat (pv 1) (pe_lst (pa_cons (pv 0) pa_nil))))) pss_nil)
      (pss_one (ps_ret (pv 1)))) pss_nil)
      (pss_cons (ps_for PassesOwn.never rfl (pi_tup (pe_ix (ixT (K := K) rfl) (pv 0) pe_int (fun _ _ => rfl))) (pg_name (i := 2) sc_law_variables.nd rfl (Or.inl rfl)) (pss_one (ps_set (i := 1) sc_law_variables.nd rfl (Or.inl rfl) (pc c_law_variables (hr.mono (by omega)) rfl (pa_cons (pv 2) (pa_cons (pv 1) pa_nil))))))
      (pss_one (ps_ret (pv 1))))), fun fit => ?_⟩
    refine ⟨_, rfl, v, t, rfl, hv, _, rfl, ?_⟩
    rcases Tm.ty t hv with ⟨m, rfl, rfl⟩ | ⟨s, as, b, x, y, rfl, rfl, tt, hx, hy⟩
    · rw [col_var] at q
      refine iteT ⟨_, rfl, _, rfl, notin_iv (SqL.of ha) ⟨_, rfl, ?_⟩⟩
      by_cases c : m ∈ g
      · rw [show addV g m = g by unfold addV; rw [if_pos c]] at q
        rw [decide_eq_true c]
        exact iteF ⟨_, rfl, q a H (Same.refl H) ha⟩
      · rw [show addV g m = g ++ [m] by unfold addV; rw [if_neg c]] at q
        rw [decide_eq_false c]
        have z := big_line hg h0 hN
        refine iteT ⟨_, rfl, _, rfl, (by show 1 ≤ sizeLine; decide), fun l hl => ?_⟩
        have s1 := same_new hl (.lst [.int m])
        refine ⟨a, l, _, _, rfl, rfl, s1 _ _ ha, upd_same, by rw [iv_len]; exact z, fun p hp => ?_⟩
        have s2 := same_new hp (.lst (iv g ++ [.int m]))
        exact ⟨_, rfl, q p _ (s1.trans s2) (by rw [upd_same, iv_snoc])⟩
    · refine iteF ?_
      obtain ⟨b', xs, rfl, t2, r2⟩ := hy.tup_inv
      rw [col_app] at q
      have hl : xs.length = as.length := by rw [r2.len, tmsD_len]
      refine ⟨_, rfl, b, _, 1, _, rfl, rfl, tt.sq, rfl, b', rfl, ⟨_, t2.sq⟩, for_tup (K := K) (a := b') (xs := xs) (fun j σ' H' => ∃ l u, σ' = [some (.ref b), some (.ref l), u] ∧ Same H H' ∧ H' l = some (.lst (iv (cols (as.take j) g))) ∧ Rg N (cols (as.take j) g))
        ⟨a, none, rfl, Same.refl H, by rw [List.take_zero, cols_nil]; exact ha, by rw [List.take_zero, cols_nil]; exact hg⟩ (fun j σ' H' _ ⟨_, _, _, s, _⟩ => (t2.mono (Tups.of s)).sq) ?_ ?_⟩
      · rintro j x' σ' H' hx' ⟨l, u, rfl, s, el, rg⟩
        obtain ⟨e0, he0, hx0⟩ := r2.get hx'
        rw [tmsD_map, List.getElem?_map] at he0
        obtain ⟨c, hc, rfl⟩ := Option.map_eq_some_iff.mp he0
        cases d with
        | zero =>
          have z : as = [] := hok
          subst z
          simp at hc
        | succ d =>
          rw [Tm.ok_app] at hok
          have okc := hok c (List.mem_of_getElem? hc)
          refine ⟨_, rfl, _, rfl, x', l, c, _, N, d, rfl, hx0.to s, okc, by omega, el, rg, h0, hN, fun l2 H2 s2 e2 => ?_⟩
          refine ⟨l2, _, rfl, s.trans s2, ?_, ?_⟩
          · rw [take_snoc hc, cols_snoc]; exact e2
          · rw [take_snoc hc, cols_snoc]; exact col_rg okc rg
      · rintro σ' H' ⟨l, u, rfl, s, el, rg⟩
        rw [List.take_of_length_le (by omega)] at el
        exact ⟨_, rfl, q l H' s el⟩
/-- collect -/
def spCol (K : PySem.W.Frag) (n : Nat) : Sp := fun vs H Q _ => ∃ (v : V) (a : Addr) (t : Tm) (g : List Int) (N : Int) (d : Nat), vs = [v, .ref a] ∧ Im K H v t.d ∧ t.ok N d ∧ d < n ∧ H a = some (.lst (iv g)) ∧ Rg N g ∧ 0 ≤ N ∧ N ≤ big ∧
  ∀ H', But a H H' → H' a = some (.lst (iv (col t g))) → Q .non H'
theorem ok_collect (T : Txt w K mg) (D : Def K mg "collect" s_collect p_collect) (c_is_variable : Cal P w K mg base 1 "is_variable" p_is_variable (spIsVar K)) : ∀ n : Nat, Cal P w K mg base (n + 1) "collect" p_collect (spCol K n)
  | 0 => D.none 1 fun vs H Q E h => by
    obtain ⟨v, a, t, g, N, d, _, _, _, hd, _⟩ := h
    omega
  | n + 1 => by
    have c_collect := ok_collect T D c_is_variable n
    refine D.ok sc_collect (N := n_collect) (fun vs H Q E h => ?_) (fun f cdv A outer s H vs Q E hr h => ?_)
    · obtain ⟨v, a, t, g, N, d, rfl, _⟩ := h
      rfl
    obtain ⟨v, a, t, g, N, d, rfl, hv, hok, hd, ha, hg, h0, hN, q⟩ := h
    refine ⟨_, (pss_one (ps_if (pt_val (pc c_is_variable (hr.mono (by omega)) rfl (pa_cons (pv 0) pa_nil))) (pss_one (ps_if (pt_cmpR op_notIn_seq (pv 0) (pv 1) rfl) (pss_one (ps_expr (pe_bm PySem.F.plainAttrs_list PySem.F.slot_list_append PySem.F.type_list_append mt_append (pv 1) (pa_cons (pv 0) pa_nil)))) pss_nil)) (pss_one (ps_for PassesOwn.never rfl (pi_tup (pe_ix (ixT (K := K) rfl) (pv 0) pe_int (fun _ _ => rfl))) (pg_name (i := 2) sc_collect.nd rfl (Or.inl rfl)) (pss_one (ps_expr (pc c_collect (hr.mono (by omega)) rfl (pa_cons (pv 2) (pa_cons (pv 1) pa_nil))))))))), fun fit => ?_⟩
    refine ⟨_, rfl, v, t, rfl, hv, _, rfl, ?_⟩
    rcases Tm.ty t hv with ⟨m, rfl, rfl⟩ | ⟨s, as, b, x, y, rfl, rfl, tt, hx, hy⟩
    · rw [col_var] at q
      refine iteT ⟨_, rfl, _, rfl, notin_iv (SqL.of ha) ⟨_, rfl, ?_⟩⟩
      by_cases c : m ∈ g
      · rw [show addV g m = g by unfold addV; rw [if_pos c]] at q
        rw [decide_eq_true c]
        exact iteF (q H (But.refl a H) ha)
      · rw [show addV g m = g ++ [m] by unfold addV; rw [if_neg c]] at q
        rw [decide_eq_false c]
        have z := big_line hg h0 hN
        refine iteT ⟨_, rfl, .inl ⟨rfl, _, SqL.of ha⟩, _, rfl, a, _, _, rfl, rfl, ha, by rw [iv_len]; exact z, ?_⟩
        exact q _ (But.upd _) (by rw [upd_same, iv_snoc])
    · refine iteF ?_
      obtain ⟨b', xs, rfl, t2, r2⟩ := hy.tup_inv
      rw [col_app] at q
      have hl : xs.length = as.length := by rw [r2.len, tmsD_len]
      refine ⟨_, rfl, b, _, 1, _, rfl, rfl, tt.sq, rfl, b', rfl, ⟨_, t2.sq⟩, for_tup (K := K) (a := b') (xs := xs) (fun j σ' H' => ∃ u, σ' = [some (.ref b), some (.ref a), u] ∧ But a H H' ∧ H' a = some (.lst (iv (cols (as.take j) g))) ∧ Rg N (cols (as.take j) g))
        ⟨none, rfl, But.refl a H, by rw [List.take_zero, cols_nil]; exact ha, by rw [List.take_zero, cols_nil]; exact hg⟩ (fun j σ' H' _ ⟨_, _, s, _⟩ => (t2.mono (s.tups ha trivial)).sq) ?_ ?_⟩
      · rintro j x' σ' H' hx' ⟨u, rfl, s, el, rg⟩
        obtain ⟨e0, he0, hx0⟩ := r2.get hx'
        rw [tmsD_map, List.getElem?_map] at he0
        obtain ⟨c, hc, rfl⟩ := Option.map_eq_some_iff.mp he0
        cases d with
        | zero =>
          have z : as = [] := hok
          subst z
          simp at hc
        | succ d =>
          rw [Tm.ok_app] at hok
          have okc := hok c (List.mem_of_getElem? hc)
          refine ⟨_, rfl, _, rfl, x', a, c, _, N, d, rfl, hx0.mono (s.tups ha trivial), okc, by omega, el, rg, h0, hN, fun H2 s2 e2 => ?_⟩
          refine ⟨_, rfl, s.trans s2, ?_, ?_⟩
          · rw [take_snoc hc, cols_snoc]; exact e2
          · rw [take_snoc hc, cols_snoc]; exact col_rg okc rg
      · rintro σ' H' ⟨u, rfl, s, el, rg⟩
        rw [List.take_of_length_le (by omega)] at el
        exact q H' s el
/-- variables -/
def spVars (K : PySem.W.Frag) (n : Nat) : Sp := fun vs H Q _ => ∃ (v : V) (t : Tm) (N : Int) (d : Nat), vs = [v] ∧ Im K H v t.d ∧ t.ok N d ∧ d < n ∧ 0 ≤ N ∧ N ≤ big ∧ GivL H Q (tvars t)
theorem ok_variables {n : Nat} (D : Def K mg "variables" s_variables p_variables) (c_collect : Cal P w K mg base (n + 1) "collect" p_collect (spCol K n)) : Cal P w K mg base (n + 2) "variables" p_variables (spVars K n) := by
  refine D.ok sc_variables (N := n_variables) (fun vs H Q E h => ?_) (fun f cdv A outer s H vs Q E hr h => ?_)
  · obtain ⟨v, t, N, d, rfl, _⟩ := h
    rfl
  obtain ⟨v, t, N, d, rfl, hv, hok, hd, h0, hN, q⟩ := h
  refine ⟨_, (pss_cons (ps_set (i := 1) sc_variables.nd rfl (Or.inl rfl) (pe_lst pa_nil))
      (pss_cons (ps_expr (pc c_collect (hr.mono (by omega)) rfl (pa_cons (pv 0) (pa_cons (pv 1) pa_nil))))
      (pss_one (ps_ret (pv 1))))), fun fit => ?_⟩
  refine ⟨Nat.zero_le _, fun l hl => ?_⟩
  have s1 := same_new hl (.lst [])
  refine ⟨_, rfl, _, rfl, v, l, t, [], N, d, rfl, hv.to s1, hok, hd, upd_same, Rg.nil, h0, hN, fun H' b e => ?_⟩
  exact ⟨_, rfl, q l H' (But.to_same s1 hl b) e⟩
end
end K3

/-! literals and clauses: variables, sameness, repeats, renumbering. -/
namespace K3
open PySem PySem.Spec PyProof.Rows L2
/-! ### what may be compared -/
mutual
theorem Tm.lay : ∀ t : Tm, t.d.canLay0 = true
  | .var n => by rw [Tm.d_var]; simp [PyData.canLay0]
  | .app s as => by
    rw [Tm.d_app]
    simp [PyData.canLay0, PyData.canLayAll0, symD, tmsLay as]
theorem tmsLay : ∀ l : List Tm, PyData.canLayAll0 (tmsD l) = true
  | [] => by rw [tmsD]; simp [PyData.canLayAll0]
  | t :: r => by rw [tmsD]; simp [PyData.canLayAll0, Tm.lay t, tmsLay r]
end
theorem depthAll_le {n : Nat} : ∀ {l : List PyData}, (∀ d ∈ l, d.depth ≤ n) → PyData.depthAll l ≤ n
  | [], _ => by simp [PyData.depthAll]
  | d :: r, h => by
    rw [PyData.depthAll]
    have h1 := h d List.mem_cons_self
    have h2 := depthAll_le (l := r) fun e he => h e (List.mem_cons_of_mem _ he)
    omega
theorem Tm.depth {N : Int} : ∀ {d : Nat} {t : Tm}, Tm.ok N d t → t.d.depth ≤ 2 * d + 2
  | d, .var n, _ => by rw [Tm.d_var]; simp [PyData.depth]
  | 0, .app s as, h => by
    have e : as = [] := h
    subst e
    rw [Tm.d_app, tmsD]
    simp [PyData.depth, PyData.depthAll, symD]
  | d + 1, .app s as, h => by
    rw [Tm.ok_app] at h
    rw [Tm.d_app]
    have q : PyData.depthAll (tmsD as) ≤ 2 * d + 2 := depthAll_le fun e he => by
      rw [tmsD_map] at he
      obtain ⟨u, hu, rfl⟩ := List.mem_map.mp he
      exact Tm.depth (h u hu)
    simp only [PyData.depth, PyData.depthAll, symD]
    omega
theorem Tm.shaped {N : Int} {d : Nat} {t : Tm} (h : t.ok N d) (hd : d ≤ 20) : SeqAt.shaped t.d = true := by
  unfold SeqAt.shaped
  rw [Bool.and_eq_true]
  have := Tm.depth h
  exact ⟨t.lay, decide_eq_true (by omega)⟩
abbrev Lit.ok (N : Int) (d : Nat) (l : Lit) : Prop := l.l.ok N d ∧ l.r.ok N d
abbrev ClOk (N : Int) (d : Nat) (c : Cl) : Prop := ∀ l ∈ c, Lit.ok N d l
theorem colL_rg {N : Int} {d : Nat} {l : Lit} {f : List Int} (h : l.ok N d) (g : Rg N f) : Rg N (colL l f) := col_rg h.2 (col_rg h.1 g)
def cvF (f : List Int) (c : Cl) : List Int := c.foldl (fun f l => colL l f) f
theorem cvF_snoc (f : List Int) (c : Cl) (l : Lit) : cvF f (c ++ [l]) = colL l (cvF f c) := by
  unfold cvF
  rw [List.foldl_append]
  rfl
theorem cvF_rg {N : Int} {d : Nat} : ∀ {c : Cl} {f : List Int}, ClOk N d c → Rg N f → Rg N (cvF f c)
  | [], f, _, g => g
  | l :: r, f, h, g => by
    show Rg N (cvF (colL l f) r)
    exact cvF_rg (fun u hu => h u (List.mem_cons_of_mem _ hu)) (colL_rg (h l List.mem_cons_self) g)
theorem cvars_rg {N : Int} {d : Nat} {c : Cl} (h : ClOk N d c) : Rg N (cvars c) := cvF_rg h Rg.nil
theorem ClOk.take {N : Int} {d : Nat} {c : Cl} (h : ClOk N d c) (j : Nat) : ClOk N d (c.take j) := fun l hl => h l (List.mem_of_mem_take hl)
section
variable {P : Program} {w : World} {K : PySem.W.Frag} {mg : Str → Option Value} {base : Heap}
theorem cl_get {H : Hp} {xs : List V} {c : Cl} (r : ImA K H xs (c.map Lit.d)) {j : Nat} {x : V} (h : xs[j]? = some x) : ∃ l, c[j]? = some l ∧ Im K H x l.d := by
  obtain ⟨e, he, hx⟩ := r.get h
  rw [List.getElem?_map] at he
  obtain ⟨l, hl, rfl⟩ := Option.map_eq_some_iff.mp he
  exact ⟨l, hl, hx⟩
/-- clause_variables, _law_clause_variables -/
def spCV (K : PySem.W.Frag) (n : Nat) : Sp := fun vs H Q _ => ∃ (v : V) (c : Cl) (N : Int) (d : Nat), vs = [v] ∧ Im K H v (clD c) ∧ ClOk N d c ∧ d < n ∧ 0 ≤ N ∧ N ≤ big ∧ GivL H Q (cvars c)
theorem ok_clause_variables {n : Nat} (D : Def K mg "clause_variables" s_clause_variables p_clause_variables) (c_collect : Cal P w K mg base (n + 1) "collect" p_collect (spCol K n)) : Cal P w K mg base (n + 2) "clause_variables" p_clause_variables (spCV K n) := by
  refine D.ok sc_clause_variables (N := n_clause_variables) (fun vs H Q E h => ?_) (fun f cdv A outer s H vs Q E hr h => ?_)
  · obtain ⟨v, c, N, d, rfl, _⟩ := h
    rfl
  obtain ⟨v, c, N, d, rfl, hv, hok, hd, h0, hN, q⟩ := h
  refine ⟨_, (pss_cons (ps_set (i := 1) sc_clause_variables.nd rfl (Or.inl rfl) (pe_lst pa_nil))
      (pss_cons (ps_for PassesOwn.never rfl (pi_tup (pv 0)) (pg_name (i := 2) sc_clause_variables.nd rfl (Or.inl rfl)) (pss_cons (ps_expr (pc c_collect (hr.mono (by omega)) rfl (pa_cons (pe_ix (ixT (K := K) rfl) (pv 2) pe_int (fun _ _ => rfl)) (pa_cons (pv 1) pa_nil))))
      (pss_one (ps_expr (pc c_collect (hr.mono (by omega)) rfl (pa_cons (pe_ix (ixT (K := K) rfl) (pv 2) pe_int (fun _ _ => rfl)) (pa_cons (pv 1) pa_nil)))))))
      (pss_one (ps_ret (pv 1))))), fun fit => ?_⟩
  obtain ⟨b, xs, rfl, tt, r⟩ := hv.tup_inv
  have hlen : xs.length = c.length := by rw [r.len, List.length_map]
  refine ⟨Nat.zero_le _, fun l hl => ?_⟩
  have s1 := same_new hl (.lst [])
  refine ⟨_, rfl, b, rfl, ⟨_, (tt.mono (Tups.of s1)).sq⟩, for_tup (K := K) (a := b) (xs := xs) (fun j σ' H' => ∃ u, σ' = [some (.ref b), some (.ref l), u] ∧ Same H H' ∧ H' l = some (.lst (iv (cvF [] (c.take j)))) ∧ Rg N (cvF [] (c.take j)))
    ⟨none, rfl, s1, by rw [List.take_zero]; exact upd_same, by rw [List.take_zero]; exact Rg.nil⟩ (fun j σ' H' _ ⟨_, _, s, _⟩ => (tt.mono (Tups.of s)).sq) ?_ ?_⟩
  · rintro j x σ' H' hx ⟨u, rfl, s, el, rg⟩
    obtain ⟨li, hli, hx0⟩ := cl_get r hx
    obtain ⟨b2, x1, x2, x3, rfl, t2, h1, h2, h3⟩ := im3 (hx0.to s)
    have okl := hok li (List.mem_of_getElem? hli)
    refine ⟨_, rfl, b2, _, 1, _, rfl, rfl, t2.sq, rfl, _, rfl, x2, l, li.l, _, N, d, rfl, h2, okl.1, hd, el, rg, h0, hN, fun H2 b2' e2 => ?_⟩
    have tp := b2'.tups el trivial
    refine ⟨_, rfl, b2, _, 2, _, rfl, rfl, (t2.mono tp).sq, rfl, _, rfl, x3, l, li.r, _, N, d, rfl, h3.mono tp, okl.2, hd, e2, col_rg okl.1 rg, h0, hN, fun H3 b3' e3 => ?_⟩
    refine ⟨_, rfl, But.to_same s1 hl (But.trans (H1 := H') ?_ (b2'.trans b3')), ?_, ?_⟩
    · intro b' o e n
      by_cases z : H b' = none
      · exact absurd e (by rw [upd_ne n, z]; simp)
      · cases z' : H b' with
        | none => exact absurd z' z
        | some o' =>
          have e' := s1 _ _ z'
          rw [e] at e'
          cases e'
          exact s _ _ z'
    · rw [take_snoc hli, cvF_snoc]; exact e3
    · rw [take_snoc hli, cvF_snoc]; exact colL_rg okl rg
  · rintro σ' H' ⟨u, rfl, s, el, rg⟩
    rw [List.take_of_length_le (by omega)] at el
    exact ⟨_, rfl, q l H' s el⟩
theorem ok_law_clause_variables {n : Nat} (D : Def K mg "_law_clause_variables" s_law_clause_variables p_law_clause_variables) (c_law_variables : Cal P w K mg base (n + 1) "_law_variables" p_law_variables (spLVars K n)) : Cal P w K mg base (n + 2) "_law_clause_variables" p_law_clause_variables (spCV K n) := by
  refine D.ok sc_law_clause_variables (N := n_law_clause_variables) (fun vs H Q E h => ?_) (fun f cdv A outer s H vs Q E hr h => ?_)
  · obtain ⟨v, c, N, d, rfl, _⟩ := h
    rfl
  obtain ⟨v, c, N, d, rfl, hv, hok, hd, h0, hN, q⟩ := h
  refine ⟨_, (pss_cons (ps_set (i := 1) sc_law_clause_variables.nd rfl (Or.inl rfl) (pe_lst pa_nil))
      (pss_cons (ps_for PassesOwn.never rfl (pi_tup (pv 0)) (pg_name (i := 2) sc_law_clause_variables.nd rfl (Or.inl rfl)) (pss_cons (ps_set (i := 1) sc_law_clause_variables.nd rfl (Or.inl rfl) (pc c_law_variables (hr.mono (by omega)) rfl (pa_cons (pe_ix (ixT (K := K) rfl) (pv 2) pe_int (fun _ _ => rfl)) (pa_cons (pv 1) pa_nil))))
      (pss_one (ps_set (i := 1) sc_law_clause_variables.nd rfl (Or.inl rfl) (pc c_law_variables (hr.mono (by omega)) rfl (pa_cons (pe_ix (ixT (K := K) rfl) (pv 2) pe_int (fun _ _ => rfl)) (pa_cons (pv 1) pa_nil)))))))
      (pss_one (ps_ret (pv 1))))), fun fit => ?_⟩
  obtain ⟨b, xs, rfl, tt, r⟩ := hv.tup_inv
  have hlen : xs.length = c.length := by rw [r.len, List.length_map]
  refine ⟨Nat.zero_le _, fun l hl => ?_⟩
  have s1 := same_new hl (.lst [])
  refine ⟨_, rfl, b, rfl, ⟨_, (tt.mono (Tups.of s1)).sq⟩, for_tup (K := K) (a := b) (xs := xs) (fun j σ' H' => ∃ l u, σ' = [some (.ref b), some (.ref l), u] ∧ Same H H' ∧ H' l = some (.lst (iv (cvF [] (c.take j)))) ∧ Rg N (cvF [] (c.take j)))
    ⟨l, none, rfl, s1, by rw [List.take_zero]; exact upd_same, by rw [List.take_zero]; exact Rg.nil⟩ (fun j σ' H' _ ⟨_, _, _, s, _⟩ => (tt.mono (Tups.of s)).sq) ?_ ?_⟩
  · rintro j x σ' H' hx ⟨l, u, rfl, s, el, rg⟩
    obtain ⟨li, hli, hx0⟩ := cl_get r hx
    obtain ⟨b2, x1, x2, x3, rfl, t2, h1, h2, h3⟩ := im3 (hx0.to s)
    have okl := hok li (List.mem_of_getElem? hli)
    refine ⟨_, rfl, b2, _, 1, _, rfl, rfl, t2.sq, rfl, _, rfl, x2, l, li.l, _, N, d, rfl, h2, okl.1, hd, el, rg, h0, hN, fun l2 H2 s2 e2 => ?_⟩
    refine ⟨_, rfl, b2, _, 2, _, rfl, rfl, (t2.mono (Tups.of s2)).sq, rfl, _, rfl, x3, l2, li.r, _, N, d, rfl, h3.to s2, okl.2, hd, e2, col_rg okl.1 rg, h0, hN, fun l3 H3 s3 e3 => ?_⟩
    refine ⟨l3, _, rfl, (s.trans s2).trans s3, ?_, ?_⟩
    · rw [take_snoc hli, cvF_snoc]; exact e3
    · rw [take_snoc hli, cvF_snoc]; exact colL_rg okl rg
  · rintro σ' H' ⟨l, u, rfl, s, el, rg⟩
    rw [List.take_of_length_le (by omega)] at el
    exact ⟨_, rfl, q l H' s el⟩

/-! ### sameness -/
def spSides (K : PySem.W.Frag) : Sp := fun vs H Q _ => ∃ (v u : V) (x y : Lit) (N M : Int) (d e : Nat), vs = [v, u] ∧ Im K H v x.d ∧ Im K H u y.d ∧ x.ok N d ∧ d ≤ 20 ∧ y.ok M e ∧ e ≤ 20 ∧ Q (.bl (sames x y)) H
def spSame (K : PySem.W.Frag) : Sp := fun vs H Q _ => ∃ (v u : V) (x y : Lit) (N M : Int) (d e : Nat), vs = [v, u] ∧ Im K H v x.d ∧ Im K H u y.d ∧ x.ok N d ∧ d ≤ 20 ∧ y.ok M e ∧ e ≤ 20 ∧ Q (.bl (sameL x y)) H
theorem ok_same_sides (D : Def K mg "same_sides" s_same_sides p_same_sides) : Cal P w K mg base 1 "same_sides" p_same_sides (spSides K) := by
  refine D.ok sc_same_sides (N := n_same_sides) (fun vs H Q E h => ?_) (fun f cdv A outer s H vs Q E hr h => ?_)
  · obtain ⟨v, u, x, y, N, M, d, e, rfl, _⟩ := h
    rfl
  obtain ⟨v, u, x, y, N, M, d, e, rfl, hv, hu, okx, hd, oky, he, q⟩ := h
  refine ⟨_, (pss_cons (ps_if (PW.pt (pw_and (pt_cmpR (op_eqD hr.units) (pe_ix (ixT (K := K) rfl) (pv 0) pe_int (fun _ _ => rfl)) (pe_ix (ixT (K := K) rfl) (pv 1) pe_int (fun _ _ => rfl)) (nomark _)) (pw_and1 (pt_cmpR (op_eqD hr.units) (pe_ix (ixT (K := K) rfl) (pv 0) pe_int (fun _ _ => rfl)) (pe_ix (ixT (K := K) rfl) (pv 1) pe_int (fun _ _ => rfl)) (nomark _))))) (pss_one (ps_ret pe_bl)) pss_nil)
      (pss_one (ps_ret (pe_and (pe_cmpR (op_eqD hr.units) (pe_ix (ixT (K := K) rfl) (pv 0) pe_int (fun _ _ => rfl)) (pe_ix (ixT (K := K) rfl) (pv 1) pe_int (fun _ _ => rfl)) (nomark _)) (pe_one (pe_cmpR (op_eqD hr.units) (pe_ix (ixT (K := K) rfl) (pv 0) pe_int (fun _ _ => rfl)) (pe_ix (ixT (K := K) rfl) (pv 1) pe_int (fun _ _ => rfl)) (nomark _))))))), fun fit => ?_⟩
  obtain ⟨a, x1, x2, x3, rfl, t1, h1, h2, h3⟩ := im3 hv
  obtain ⟨b, y1, y2, y3, rfl, t2, g1, g2, g3⟩ := im3 hu
  have sxl := Tm.shaped okx.1 hd
  have sxr := Tm.shaped okx.2 hd
  have syl := Tm.shaped oky.1 he
  have syr := Tm.shaped oky.2 he
  have fin : (eqT x.l y.l && eqT x.r y.r) = false → ∃ v : V, _ := fun hf => by
    unfold sames at q
    rw [hf, if_neg Bool.false_ne_true] at q
    exact ⟨.bl true, q⟩
  have tail : (eqT x.l y.l && eqT x.r y.r) = false → Q (.bl (eqT x.l y.r && eqT x.r y.l)) H := fun hf => by
    unfold sames at q
    rw [hf, if_neg Bool.false_ne_true] at q
    exact q
  clear fin
  refine ⟨_, rfl, a, _, 1, _, rfl, rfl, t1.sq, rfl, _, rfl, b, _, 1, _, rfl, rfl, t2.sq, rfl, _, _, h2.dp, g2.dp, sxl, syl, _, rfl, ?_⟩
  refine ite2 (fun c1 => ?_) (fun c1 => ?_)
  · refine ⟨_, rfl, a, _, 2, _, rfl, rfl, t1.sq, rfl, _, rfl, b, _, 2, _, rfl, rfl, t2.sq, rfl, _, _, h3.dp, g3.dp, sxr, syr, _, rfl, ?_⟩
    refine ite2 (fun c2 => ?_) (fun c2 => ?_)
    · have e1 : (eqT x.l y.l && eqT x.r y.r) = true := by rw [show eqT x.l y.l = true from c1, show eqT x.r y.r = true from c2]; rfl
      unfold sames at q
      rw [e1, if_pos rfl] at q
      exact q
    · have e1 : (eqT x.l y.l && eqT x.r y.r) = false := by rw [show eqT x.l y.l = true from c1, show eqT x.r y.r = false from Bool.eq_false_iff.mpr c2]; rfl
      have q2 := tail e1
      refine ⟨_, rfl, a, _, 1, _, rfl, rfl, t1.sq, rfl, _, rfl, b, _, 2, _, rfl, rfl, t2.sq, rfl, _, _, h2.dp, g3.dp, sxl, syr, _, rfl, ?_⟩
      refine ite2 (fun c3 => ?_) (fun c3 => ?_)
      · rw [show eqT x.l y.r = true from c3, Bool.true_and] at q2
        exact ⟨_, rfl, a, _, 2, _, rfl, rfl, t1.sq, rfl, _, rfl, b, _, 1, _, rfl, rfl, t2.sq, rfl, _, _, h3.dp, g2.dp, sxr, syl, q2⟩
      · rw [show eqT x.l y.r = false from Bool.eq_false_iff.mpr c3, Bool.false_and] at q2
        exact q2
  · have e1 : (eqT x.l y.l && eqT x.r y.r) = false := by rw [show eqT x.l y.l = false from Bool.eq_false_iff.mpr c1]; rfl
    have q2 := tail e1
    refine iteF ?_
    refine ⟨_, rfl, a, _, 1, _, rfl, rfl, t1.sq, rfl, _, rfl, b, _, 2, _, rfl, rfl, t2.sq, rfl, _, _, h2.dp, g3.dp, sxl, syr, _, rfl, ?_⟩
    refine ite2 (fun c3 => ?_) (fun c3 => ?_)
    · rw [show eqT x.l y.r = true from c3, Bool.true_and] at q2
      exact ⟨_, rfl, a, _, 2, _, rfl, rfl, t1.sq, rfl, _, rfl, b, _, 1, _, rfl, rfl, t2.sq, rfl, _, _, h3.dp, g2.dp, sxr, syl, q2⟩
    · rw [show eqT x.l y.r = false from Bool.eq_false_iff.mpr c3, Bool.false_and] at q2
      exact q2
theorem ok_same (D : Def K mg "same" s_same p_same) (c_same_sides : Cal P w K mg base 1 "same_sides" p_same_sides (spSides K)) : Cal P w K mg base 2 "same" p_same (spSame K) := by
  refine D.ok sc_same (N := n_same) (fun vs H Q E h => ?_) (fun f cdv A outer s H vs Q E hr h => ?_)
  · obtain ⟨v, u, x, y, N, M, d, e, rfl, _⟩ := h
    rfl
  obtain ⟨v, u, x, y, N, M, d, e, rfl, hv, hu, okx, hd, oky, he, q⟩ := h
  refine ⟨_, (pss_one (ps_ret (pe_and (pe_cmpR op_eq (pe_ix (ixT (K := K) rfl) (pv 0) pe_int (fun _ _ => rfl)) (pe_ix (ixT (K := K) rfl) (pv 1) pe_int (fun _ _ => rfl)) (nomark _)) (pe_one (pc c_same_sides (hr.mono (by omega)) rfl (pa_cons (pv 0) (pa_cons (pv 1) pa_nil))))))), fun fit => ?_⟩
  obtain ⟨a, x1, x2, x3, rfl, t1, h1, h2, h3⟩ := im3 (id hv)
  obtain ⟨b, y1, y2, y3, rfl, t2, g1, g2, g3⟩ := im3 (id hu)
  have e1 := h1.bl_inv
  have e2 := g1.bl_inv
  subst e1 e2
  unfold sameL at q
  refine ⟨_, rfl, a, _, 0, _, rfl, rfl, t1.sq, rfl, _, rfl, b, _, 0, _, rfl, rfl, t2.sq, rfl, rfl, _, rfl, ?_⟩
  refine ite2 (fun c => ?_) (fun c => ?_)
  · have c' : x.p = y.p := V.bl.inj (of_decide_eq_true c)
    rw [decide_eq_true c', Bool.true_and] at q
    exact ⟨_, rfl, _, rfl, _, _, x, y, N, M, d, e, rfl, hv, hu, okx, hd, oky, he, q⟩
  · have c' : ¬ x.p = y.p := fun z => c (decide_eq_true (congrArg V.bl z))
    rw [decide_eq_false c', Bool.false_and] at q
    exact q
theorem ok_law_same (D : Def K mg "_law_same" s_law_same p_law_same) : Cal P w K mg base 1 "_law_same" p_law_same (spSame K) := by
  refine D.ok sc_law_same (N := n_law_same) (fun vs H Q E h => ?_) (fun f cdv A outer s H vs Q E hr h => ?_)
  · obtain ⟨v, u, x, y, N, M, d, e, rfl, _⟩ := h
    rfl
  obtain ⟨v, u, x, y, N, M, d, e, rfl, hv, hu, okx, hd, oky, he, q⟩ := h
  refine ⟨_, (pss_cons (ps_if (pt_cmpR op_ne (pe_ix (ixT (K := K) rfl) (pv 0) pe_int (fun _ _ => rfl)) (pe_ix (ixT (K := K) rfl) (pv 1) pe_int (fun _ _ => rfl)) (nomark _)) (pss_one (ps_ret pe_bl)) pss_nil)
      (pss_cons (ps_if (PW.pt (pw_and (pt_cmpR (op_eqD hr.units) (pe_ix (ixT (K := K) rfl) (pv 0) pe_int (fun _ _ => rfl)) (pe_ix (ixT (K := K) rfl) (pv 1) pe_int (fun _ _ => rfl)) (nomark _)) (pw_and1 (pt_cmpR (op_eqD hr.units) (pe_ix (ixT (K := K) rfl) (pv 0) pe_int (fun _ _ => rfl)) (pe_ix (ixT (K := K) rfl) (pv 1) pe_int (fun _ _ => rfl)) (nomark _))))) (pss_one (ps_ret pe_bl)) pss_nil)
      (pss_one (ps_ret (pe_and (pe_cmpR (op_eqD hr.units) (pe_ix (ixT (K := K) rfl) (pv 0) pe_int (fun _ _ => rfl)) (pe_ix (ixT (K := K) rfl) (pv 1) pe_int (fun _ _ => rfl)) (nomark _)) (pe_one (pe_cmpR (op_eqD hr.units) (pe_ix (ixT (K := K) rfl) (pv 0) pe_int (fun _ _ => rfl)) (pe_ix (ixT (K := K) rfl) (pv 1) pe_int (fun _ _ => rfl)) (nomark _)))))))), fun fit => ?_⟩
  obtain ⟨a, x1, x2, x3, rfl, t1, h1, h2, h3⟩ := im3 hv
  obtain ⟨b, y1, y2, y3, rfl, t2, g1, g2, g3⟩ := im3 hu
  have sxl := Tm.shaped okx.1 hd
  have sxr := Tm.shaped okx.2 hd
  have syl := Tm.shaped oky.1 he
  have syr := Tm.shaped oky.2 he
  have z1 := h1.bl_inv
  have z2 := g1.bl_inv
  subst z1 z2
  unfold sameL at q
  refine ⟨_, rfl, a, _, 0, _, rfl, rfl, t1.sq, rfl, _, rfl, b, _, 0, _, rfl, rfl, t2.sq, rfl, rfl, _, rfl, ?_⟩
  by_cases c' : x.p = y.p
  · rw [decide_eq_true c', Bool.true_and] at q
    have tail : (eqT x.l y.l && eqT x.r y.r) = false → Q (.bl (eqT x.l y.r && eqT x.r y.l)) H := fun hf => by
      unfold sames at q
      rw [hf, if_neg Bool.false_ne_true] at q
      exact q
    rw [show decide (V.bl x.p = V.bl y.p) = true from decide_eq_true (congrArg V.bl c')]
    refine iteF ?_
    refine ⟨_, rfl, a, _, 1, _, rfl, rfl, t1.sq, rfl, _, rfl, b, _, 1, _, rfl, rfl, t2.sq, rfl, _, _, h2.dp, g2.dp, sxl, syl, _, rfl, ?_⟩
    refine ite2 (fun c1 => ?_) (fun c1 => ?_)
    · refine ⟨_, rfl, a, _, 2, _, rfl, rfl, t1.sq, rfl, _, rfl, b, _, 2, _, rfl, rfl, t2.sq, rfl, _, _, h3.dp, g3.dp, sxr, syr, _, rfl, ?_⟩
      refine ite2 (fun c2 => ?_) (fun c2 => ?_)
      · have e1 : (eqT x.l y.l && eqT x.r y.r) = true := by rw [show eqT x.l y.l = true from c1, show eqT x.r y.r = true from c2]; rfl
        unfold sames at q
        rw [e1, if_pos rfl] at q
        exact q
      · have e1 : (eqT x.l y.l && eqT x.r y.r) = false := by rw [show eqT x.l y.l = true from c1, show eqT x.r y.r = false from Bool.eq_false_iff.mpr c2]; rfl
        have q2 := tail e1
        refine ⟨_, rfl, a, _, 1, _, rfl, rfl, t1.sq, rfl, _, rfl, b, _, 2, _, rfl, rfl, t2.sq, rfl, _, _, h2.dp, g3.dp, sxl, syr, _, rfl, ?_⟩
        refine ite2 (fun c3 => ?_) (fun c3 => ?_)
        · rw [show eqT x.l y.r = true from c3, Bool.true_and] at q2
          exact ⟨_, rfl, a, _, 2, _, rfl, rfl, t1.sq, rfl, _, rfl, b, _, 1, _, rfl, rfl, t2.sq, rfl, _, _, h3.dp, g2.dp, sxr, syl, q2⟩
        · rw [show eqT x.l y.r = false from Bool.eq_false_iff.mpr c3, Bool.false_and] at q2
          exact q2
    · have e1 : (eqT x.l y.l && eqT x.r y.r) = false := by rw [show eqT x.l y.l = false from Bool.eq_false_iff.mpr c1]; rfl
      have q2 := tail e1
      refine iteF ?_
      refine ⟨_, rfl, a, _, 1, _, rfl, rfl, t1.sq, rfl, _, rfl, b, _, 2, _, rfl, rfl, t2.sq, rfl, _, _, h2.dp, g3.dp, sxl, syr, _, rfl, ?_⟩
      refine ite2 (fun c3 => ?_) (fun c3 => ?_)
      · rw [show eqT x.l y.r = true from c3, Bool.true_and] at q2
        exact ⟨_, rfl, a, _, 2, _, rfl, rfl, t1.sq, rfl, _, rfl, b, _, 1, _, rfl, rfl, t2.sq, rfl, _, _, h3.dp, g2.dp, sxr, syl, q2⟩
      · rw [show eqT x.l y.r = false from Bool.eq_false_iff.mpr c3, Bool.false_and] at q2
        exact q2
  · rw [decide_eq_false c', Bool.false_and] at q
    rw [show decide (V.bl x.p = V.bl y.p) = false from decide_eq_false fun z => c' (V.bl.inj z)]
    exact iteT q
end
end K3

/-! repeats, renumbering, neat clauses. -/
namespace K3
open PySem PySem.Spec PyProof.Rows L2
/-! ### the renumbering's list -/
theorem renm_len (vs : List Int) : (renm vs).length = vs.length := by unfold renm; simp
theorem renm_get {vs : List Int} {j : Nat} {v : Int} (h : vs[j]? = some v) : (renm vs)[j]? = some (v, Tm.var (j : Int)) := by
  unfold renm
  rw [List.getElem?_map, List.getElem?_zipIdx, h]
  simp
theorem renm_keys (vs : List Int) : (renm vs).map (·.1) = vs := by
  unfold renm
  rw [List.map_map]
  have : ((fun x : Int × Tm => x.1) ∘ fun p : Int × Nat => (p.1, Tm.var (p.2 : Int))) = Prod.fst := rfl
  rw [this, List.zipIdx_map_fst]
theorem lookup_none {σ : List (Int × Tm)} {n : Int} (h : n ∉ σ.map (·.1)) : σ.lookup n = none := by
  cases c : σ.lookup n with
  | none => rfl
  | some t => exact (h (List.mem_map.mpr ⟨(n, t), lookup_mem c, rfl⟩)).elim
theorem lookup_snoc {σ : List (Int × Tm)} {x : Int} {t : Tm} (h : σ.lookup x = none) (n : Int) : (σ ++ [(x, t)]).lookup n = ((x, t) :: σ).lookup n := by
  induction σ with
  | nil => rfl
  | cons p r ih =>
    obtain ⟨y, u⟩ := p
    rw [List.lookup_cons] at h
    rw [List.cons_append, List.lookup_cons, List.lookup_cons, List.lookup_cons]
    cases c : (x == y) with
    | true => rw [c] at h; cases h
    | false =>
      rw [c] at h
      have ih' := ih h
      rw [List.lookup_cons] at ih'
      cases d : (n == y) with
      | true =>
        have e1 : n = y := eq_of_beq d
        have e2 : (n == x) = false := by
          rw [e1]
          exact beq_eq_false_iff_ne.mpr fun z => by rw [z] at c; simp at c
        rw [e2]
      | false =>
        rw [ih']
theorem nodup_take {vs : List Int} (h : vs.Nodup) {j : Nat} {v : Int} (hj : vs[j]? = some v) : v ∉ vs.take j := by
  have e := take_snoc hj
  have nd : (vs.take (j + 1)).Nodup := h.sublist (List.take_sublist _ _)
  rw [e, List.nodup_append] at nd
  exact fun z => nd.2.2 v z v (by simp) rfl
theorem renm_new {vs : List Int} (h : vs.Nodup) {j : Nat} {v : Int} (hj : vs[j]? = some v) : ((renm vs).take j).lookup v = none := by
  refine lookup_none ?_
  rw [List.map_take, renm_keys]
  exact nodup_take h hj
section
variable {P : Program} {w : World} {K : PySem.W.Frag} {mg : Str → Option Value} {base : Heap}
theorem DR.congr {H : Hp} {a : Addr} {σ τ : List (Int × Tm)} (h : DR K H a σ) (l : σ.length = τ.length) (e : ∀ n, τ.lookup n = σ.lookup n) : DR K H a τ := by
  obtain ⟨kvs, h1, h2, h3⟩ := h
  refine ⟨kvs, h1, by omega, fun n => ?_⟩
  rw [e n]
  exact h3 n
theorem for_enum {a : Addr} {xs : List V} {g : TG} {tb : TS} {D : Ends} {σ : L2.St} {H : Hp} (Pv : Nat → L2.St → Hp → Prop) (h0 : Pv 0 σ H) (hq : ∀ i σ H, Pv i σ H → SqL K H a xs)
    (hs : ∀ (i : Nat) (x : V) (T : Addr) (σ : L2.St) (H : Hp), xs[i]? = some x → Pv i σ H → H T = none → g (.ref T) σ (upd H T (.tup [.int (i : Nat), x])) fun σ2 H2 => tb { D with nx := Pv (i + 1), ct := Pv (i + 1), bk := D.nx } σ2 H2) (hd : ∀ σ H, Pv xs.length σ H → D.nx σ H) :
    ∃ W : Nat → Nat → L2.St → Hp → Prop, (∃ m, W 0 m σ H) ∧ ∀ i m σ H, W i m σ H →
      ((Ite K a).stop i H ∧ D.nx σ H) ∨ ((Ite K a).go i H ∧ ∃ N : L2.St → Hp → Prop, (∀ σ' H', N σ' H' → ∃ m', m' < m ∧ W (i + 1) m' σ' H') ∧ ∀ v H', (Ite K a).yld i H v H' → g v σ H' fun σ2 H2 => tb { D with nx := N, ct := N, bk := D.nx } σ2 H2) := by
  refine ⟨fun i m σ H => m = xs.length - i ∧ i ≤ xs.length ∧ Pv i σ H, ⟨xs.length, rfl, Nat.zero_le _, h0⟩, ?_⟩
  rintro i m σ H ⟨rfl, hi, p⟩
  have q := hq i σ H p
  by_cases hlt : i < xs.length
  · have hx : xs[i]? = some xs[i] := List.getElem?_eq_getElem hlt
    refine .inr ⟨⟨xs, _, q, hx⟩, Pv (i + 1), fun σ' H' p' => ⟨xs.length - (i + 1), by omega, rfl, hlt, p'⟩, fun v H' y => ?_⟩
    obtain ⟨T, x', rfl, hT, rfl, f1⟩ := y
    exact hs i x' T σ H (f1 xs q) p hT
  · have e : i = xs.length := by omega
    subst e
    exact .inl ⟨⟨xs, q, Nat.le_refl _⟩, hd σ H p⟩
/-- renumbered -/
def spRen (K : PySem.W.Frag) (n : Nat) : Sp := fun vs H Q _ => ∃ (v : V) (c : Cl) (N : Int) (d : Nat), vs = [v] ∧ Im K H v (clD c) ∧ ClOk N d c ∧ d < n ∧ 0 ≤ N ∧ N ≤ big ∧
  ∀ (p : Addr) (x y : V) (H' : Hp), Same H H' → TT K H' p [x, y] → Im K H' x (clD (ren c)) → Q (.ref p) H'
theorem ok_renumbered {n : Nat} (T : Txt w K mg) (D : Def K mg "renumbered" s_renumbered p_renumbered) (c_clause_variables : Cal P w K mg base (n + 2) "clause_variables" p_clause_variables (spCV K n))
    (c_put_clause : Cal P w K mg base (n + 3) "put_clause" p_put_clause (spPutC K n)) : Cal P w K mg base (n + 4) "renumbered" p_renumbered (spRen K n) := by
  refine D.ok sc_renumbered (N := n_renumbered) (fun vs H Q E h => ?_) (fun f cdv A outer s H vs Q E hr h => ?_)
  · obtain ⟨v, c, N, d, rfl, _⟩ := h
    rfl
  obtain ⟨v, c, N, d, rfl, hv, hok, hd, h0, hN, q⟩ := h
  refine ⟨_, (pss_cons (ps_set (i := 1) sc_renumbered.nd rfl (Or.inl rfl) pe_dnewK)
      (pss_cons (ps_for PassesOwn.never rfl (pi_enum rfl T.m_enumerate (pa_cons (pc c_clause_variables (hr.mono (by omega)) rfl (pa_cons (pv 0) pa_nil)) pa_nil)) (pg_tup rfl (pgs_cons (pg_name (i := 2) sc_renumbered.nd rfl (Or.inl rfl)) (pgs_cons (pg_name (i := 3) sc_renumbered.nd rfl (Or.inl rfl)) pgs_nil))) (pss_one (ps_dput (hu_of hr) (pv 1) (pv 3) (pv 2) rfl)))
      (pss_one (ps_ret (pe_tup (pa_cons (pc c_put_clause (hr.mono (by omega)) rfl (pa_cons (pv 0) (pa_cons (pv 1) pa_nil))) (pa_cons (pv 1) pa_nil))))))), fun fit => ?_⟩
  intro a ha
  have s1 := same_new ha (.dK [])
  have hv1 := hv.to s1
  obtain ⟨b, xs, rfl, tt, r⟩ := hv.tup_inv
  have rg := cvars_rg hok
  refine ⟨_, rfl, _, c, N, d, rfl, hv1, hok, hd, h0, hN, fun l H2 s2 e2 => ?_⟩
  have hz := big_line rg h0 hN
  refine ⟨l, _, rfl, SqL.of e2, for_enum (K := K) (a := l) (xs := iv (cvars c)) (fun j σ' H' => ∃ u1 u2, σ' = [some (.ref b), some (.ref a), u1, u2] ∧ Same H H' ∧ H' l = some (.lst (iv (cvars c))) ∧ DR K H' a ((renm (cvars c)).take j))
    ⟨none, none, rfl, s1.trans s2, e2, (DR.nil (s2 _ _ upd_same)).congr (by simp) (by simp)⟩ (fun j σ' H' ⟨_, _, _, _, e, _⟩ => SqL.of e) ?_ ?_⟩
  · rintro j x T' σ' H' hx ⟨u1, u2, rfl, s, el, dr⟩ hT
    obtain ⟨y, hy, rfl⟩ : ∃ y, (cvars c)[j]? = some y ∧ x = .int y := by
      unfold iv at hx
      rw [List.getElem?_map] at hx
      obtain ⟨y, hy, e⟩ := Option.map_eq_some_iff.mp hx
      exact ⟨y, hy, e.symm⟩
    have s3 := same_new hT (.tup [.int (j : Nat), .int y])
    obtain ⟨kvs, ek, lk, qk⟩ := dr.to s3
    have hj : j < (cvars c).length := (List.getElem?_eq_some_iff.mp hy).1
    have lk2 : kvs.length < sizeLine := by
      rw [List.length_take] at lk
      omega
    refine ⟨T', _, rfl, SqT.of upd_same, rfl, _, _, rfl, _, _, rfl, rfl, ?_⟩
    refine ⟨_, rfl, _, rfl, _, rfl, a, _, rfl, DPut.k (k := .inl y) ek lk2, ?_⟩
    have lka : l ≠ a := by
      have := s3 _ _ el
      exact ne_of this ek (by intro z; cases z)
    refine ⟨_, _, rfl, ?_, ?_, ?_⟩
    · intro b' o e
      have nb : b' ≠ a := ne_of_none e ha
      rw [upd_ne nb]
      exact s3 _ _ (s _ _ e)
    · rw [upd_ne lka]
      exact s3 _ _ el
    · have hg := renm_get hy
      rw [take_snoc hg]
      refine (DR.put (t := Tm.var (j : Int)) ek lk qk (by rw [Tm.d_var]; exact .int _)).congr (by simp) fun m => ?_
      exact lookup_snoc (renm_new rg.1 hy) m
  · rintro σ' H' ⟨u1, u2, rfl, s, el, dr⟩
    rw [List.take_of_length_le (by rw [renm_len, iv_len]; exact Nat.le_refl _)] at dr
    refine ⟨_, rfl, _, rfl, _, a, c, _, N, d, rfl, (Im.tup tt r).to s, hok, hd, dr, fun v1 H3 s3 i3 => ?_⟩
    refine ⟨_, rfl, (by show 2 ≤ sizeLine; decide), fun p hp => ?_⟩
    have s4 := same_new hp (.tup [v1, .ref a])
    exact q p v1 (.ref a) _ ((s.trans s3).trans s4) (.inl upd_same) (i3.to s4)
/-- without_repeats -/
def wrF (k : Cl) (c : Cl) : Cl := c.foldl wrStep k
theorem wrF_snoc (k c : Cl) (l : Lit) : wrF k (c ++ [l]) = wrStep (wrF k c) l := by
  unfold wrF
  rw [List.foldl_append]
  rfl
theorem wrStep_ok {N : Int} {d : Nat} {k : Cl} {l : Lit} (h : ClOk N d k) (hl : l.ok N d) : ClOk N d (wrStep k l) := by
  unfold wrStep
  split
  · exact h
  · intro m hm
    rcases List.mem_append.mp hm with q | q
    · exact h m q
    · rw [List.mem_singleton] at q
      rw [q]
      exact hl
theorem wrF_ok {N : Int} {d : Nat} : ∀ {c k : Cl}, ClOk N d k → ClOk N d c → ClOk N d (wrF k c)
  | [], k, h, _ => h
  | l :: r, k, h, g => by
    show ClOk N d (wrF (wrStep k l) r)
    exact wrF_ok (wrStep_ok h (g l List.mem_cons_self)) fun m hm => g m (List.mem_cons_of_mem _ hm)
theorem wr_ok {N : Int} {d : Nat} {c : Cl} (h : ClOk N d c) : ClOk N d (wr c) := wrF_ok (fun l hl => by cases hl) h
theorem wrStep_len (k : Cl) (l : Lit) : (wrStep k l).length ≤ k.length + 1 := by
  unfold wrStep
  split
  · omega
  · simp
theorem wrF_len : ∀ (c k : Cl), (wrF k c).length ≤ k.length + c.length
  | [], k => Nat.le_refl _
  | l :: r, k => by
    show (wrF (wrStep k l) r).length ≤ _
    have h1 := wrF_len r (wrStep k l)
    have h2 := wrStep_len k l
    rw [List.length_cons]
    omega
def spWr (K : PySem.W.Frag) : Sp := fun vs H Q _ => ∃ (v : V) (c : Cl) (N : Int) (d : Nat), vs = [v] ∧ Im K H v (clD c) ∧ ClOk N d c ∧ d ≤ 20 ∧ Giv K H Q (clD (wr c))
theorem ok_without_repeats (T : Txt w K mg) (D : Def K mg "without_repeats" s_without_repeats p_without_repeats) (c_same : Cal P w K mg base 2 "same" p_same (spSame K)) : Cal P w K mg base 3 "without_repeats" p_without_repeats (spWr K) := by
  refine D.ok sc_without_repeats (N := n_without_repeats) (fun vs H Q E h => ?_) (fun f cdv A outer s H vs Q E hr h => ?_)
  · obtain ⟨v, c, N, d, rfl, _⟩ := h
    rfl
  obtain ⟨v, c, N, d, rfl, hv, hok, hd, q⟩ := h
  refine ⟨_, (pss_cons (ps_set (i := 1) sc_without_repeats.nd rfl (Or.inl rfl) (pe_lst pa_nil))
      (pss_cons (ps_for PassesOwn.never rfl (pi_tup (pv 0)) (pg_name (i := 2) sc_without_repeats.nd rfl (Or.inr rfl)) (pss_one (ps_if (pt_not (pt_truth (pe_lc (own := [("one", 3)]) (g := gName 3) rfl sc_without_repeats.nd (pi_list (pv 1)) (blkOk_by (own := [("one", 3)]) (N := n_without_repeats) (sc := defScope s_without_repeats) (by decide +kernel)) (fun _ _ _ _ _ => (pg_name (i := 3) sc_without_repeats.nd rfl (Or.inl rfl))) (fun _ _ _ _ _ => (pts_one (pt_val (pc c_same (hr.mono (by omega)) rfl (pa_cons (pv 3) (pa_cons (pv 2) pa_nil)))))) (fun _ _ _ _ _ => (pv 3))) (by intro _; rfl))) (pss_one (ps_expr (pe_bm PySem.F.plainAttrs_list PySem.F.slot_list_append PySem.F.type_list_append mt_append (pv 1) (pa_cons (pv 2) pa_nil)))) pss_nil)))
      (pss_one (ps_ret (pe_callTy call_tuple_of rfl T.m_tuple (by decide +kernel) (pa_cons (pv 1) pa_nil)))))), fun fit => ?_⟩
  obtain ⟨b, xs, rfl, tt, r⟩ := hv.tup_inv
  have hlen : xs.length = c.length := by rw [r.len, List.length_map]
  have hxs := fit.t _ _ tt.sq
  refine ⟨Nat.zero_le _, fun kl hkl => ?_⟩
  have s1 := same_new hkl (.lst [])
  refine ⟨_, rfl, b, rfl, ⟨_, (tt.mono (Tups.of s1)).sq⟩, for_tup (K := K) (a := b) (xs := xs) (fun j σ' H' => ∃ u, σ' = [some (.ref b), some (.ref kl), u, none] ∧ Same H H' ∧ Ls K H' kl ((wrF [] (c.take j)).map Lit.d))
    ⟨none, rfl, s1, [], upd_same, by rw [List.take_zero]; exact .nil⟩ (fun j σ' H' _ ⟨_, _, s, _⟩ => (tt.mono (Tups.of s)).sq) ?_ ?_⟩
  · rintro j x σ' H' hx ⟨u, rfl, s, ks, ek, rk⟩
    obtain ⟨li, hli, hx0⟩ := cl_get r hx
    have okl := hok li (List.mem_of_getElem? hli)
    have hj : j < c.length := (List.getElem?_eq_some_iff.mp hli).1
    have okk : ClOk N d (wrF [] (c.take j)) := wrF_ok (fun l hl => by cases hl) (hok.take j)
    have hkl' : ks.length = (wrF [] (c.take j)).length := by rw [rk.len, List.length_map]
    have hks : ks.length ≤ j := by
      have := wrF_len (c.take j) []
      rw [List.length_take, List.length_nil] at this
      omega
    generalize hk : wrF [] (c.take j) = k at *
    refine ⟨_, rfl, kl, rfl, ⟨ks, SqL.of ek⟩, fun D hD => ?_⟩
    refine lc_list (K := K) (a := kl) (xs := ks) (fun i H2 => Same H' H2 ∧ ∃ acc, H2 D = some (.lst acc) ∧ acc.length ≤ i ∧ (!acc.isEmpty) = (k.take i).any fun o => sameL o li) ⟨same_new hD _, [], upd_same, Nat.le_refl _, by simp⟩
      (fun i H2 _ ⟨s2, _⟩ => SqL.of (s2 _ _ ek)) ?_ ?_
    · rintro i y H2 hy ⟨s2, acc, ea, la, ba⟩
      obtain ⟨lo, hlo, hy0⟩ := cl_get rk hy
      have okl2 := okk lo (List.mem_of_getElem? hlo)
      refine ⟨rfl, ?_⟩
      have hx2 := (hx0.to s).to s2
      refine ⟨_, rfl, _, rfl, y, x, lo, li, N, N, d, d, rfl, hy0.to s2, hx2, okl2, hd, okl, hd, _, rfl, ?_⟩
      have hi : i < ks.length := (List.getElem?_eq_some_iff.mp hy).1
      have any_snoc : (k.take (i + 1)).any (fun o => sameL o li) = ((k.take i).any (fun o => sameL o li) || sameL lo li) := by
        rw [take_snoc hlo, List.any_append]
        simp
      refine ite2 (fun c1 => ?_) (fun c1 => ?_)
      · refine ⟨_, rfl, acc, ea, by omega, ?_, acc ++ [y], upd_same, by simp; omega, ?_⟩
        · exact But.to_same s2 hD (But.upd _)
        · rw [any_snoc, show sameL lo li = true from c1]
          simp
      · refine ⟨s2, acc, ea, by omega, ?_⟩
        rw [any_snoc, show sameL lo li = false from Bool.eq_false_iff.mpr c1, ba, Bool.or_false]
    · rintro H2 ⟨s2, acc, ea, la, ba⟩
      rw [List.take_of_length_le (by omega)] at ba
      refine ⟨_, .inl ⟨acc, SqL.of ea, rfl⟩, ?_⟩
      rw [ba]
      have hx2 := (hx0.to s).to s2
      cases c1 : k.any fun o => sameL o li with
      | true =>
        refine iteF ?_
        refine ⟨_, rfl, s.trans s2, ?_⟩
        rw [take_snoc hli, wrF_snoc, hk]
        unfold wrStep
        rw [c1, if_pos rfl]
        exact ⟨ks, s2 _ _ ek, rk.to s2⟩
      | false =>
        refine iteT ?_
        have ek2 := s2 _ _ ek
        refine ⟨_, rfl, .inl ⟨rfl, _, SqL.of ek2⟩, _, rfl, kl, ks, x, rfl, rfl, ek2, by omega, ?_⟩
        have g := grow (s.trans s2) hkl ek2 (rk.to s2) hx2
        refine ⟨_, rfl, g.1, ks ++ [x], g.2.1, ?_⟩
        rw [take_snoc hli, wrF_snoc, hk]
        unfold wrStep
        rw [c1, if_neg Bool.false_ne_true, List.map_append]
        exact g.2.2
  · rintro σ' H' ⟨u, rfl, s, ks, ek, rk⟩
    rw [List.take_of_length_le (by omega)] at rk
    refine ⟨_, rfl, kl, ks, rfl, .inl ⟨SqL.of ek, fun p hp => ?_⟩⟩
    have s2 := same_new hp (.tup ks)
    exact q _ _ (s.trans s2) (.tup (.inl upd_same) (rk.to s2))
/-- _law_renumbering -/
def spLRen (K : PySem.W.Frag) : Sp := fun vs H Q _ => ∃ (a : Addr) (g : List Int), vs = [.ref a] ∧ H a = some (.lst (iv g)) ∧ g.length ≤ 1000000 ∧ ∀ (l : Addr) (H' : Hp), Same H H' → LR K H' l (renm g) → Q (.ref l) H'
theorem ok_law_renumbering (T : Txt w K mg) (D : Def K mg "_law_renumbering" s_law_renumbering p_law_renumbering) : Cal P w K mg base 1 "_law_renumbering" p_law_renumbering (spLRen K) := by
  refine D.ok sc_law_renumbering (N := n_law_renumbering) (fun vs H Q E h => ?_) (fun f cdv A outer s H vs Q E hr h => ?_)
  · obtain ⟨a, g, rfl, _⟩ := h
    rfl
  obtain ⟨a, g, rfl, ha, hg, q⟩ := h
  refine ⟨_, (pss_one (ps_ret (pe_lc (own := [("_law_k", 1)]) (g := gName 1) rfl sc_law_renumbering.nd (pi_range1 rfl T.m_range (pa_cons (pe_callB call_len_seq rfl T.m_len PySem.boot_len (pa_cons (pv 0) pa_nil)) pa_nil)) (blkOk_by (own := [("_law_k", 1)]) (N := n_law_renumbering) (sc := defScope s_law_renumbering) (by decide +kernel)) (fun _ _ _ _ _ => (pg_name (i := 1) sc_law_renumbering.nd rfl (Or.inl rfl))) (fun _ _ _ _ _ => pts_nil) (fun _ _ _ _ _ => (pe_tup (pa_cons (pe_ix (ixL (K := K) rfl) (pv 0) (pv 1) (fun _ _ => rfl)) (pa_cons (pv 1) pa_nil))))))), fun fit => ?_⟩
  have hl : (iv g).length = g.length := iv_len g
  refine ⟨_, rfl, a, _, rfl, .inl (SqL.of ha), _, rfl, by rw [hl]; omega, by rw [hl]; omega, fun D hD => ?_⟩
  rw [hl, Int.toNat_natCast]
  refine lc_mapR (K := K) (es := (renm g).map prD) (by rw [List.length_map, renm_len]) (Nat.le_trans hg (by decide)) hD (fun j e' H' he s R kR => ⟨rfl, ?_⟩) fun H' ys s ey ry => ?_
  · rw [List.getElem?_map] at he
    obtain ⟨u, hu, rfl⟩ := Option.map_eq_some_iff.mp he
    have hj : j < g.length := by
      have := (List.getElem?_eq_some_iff.mp hu).1
      rw [renm_len] at this
      exact this
    have hgj : g[j]? = some g[j] := List.getElem?_eq_getElem hj
    have hx : (iv g)[j]? = some (.int g[j]) := by unfold iv; rw [List.getElem?_map, hgj]; rfl
    rw [renm_get hgj] at hu
    have eu := Option.some.inj hu
    subst eu
    refine ⟨_, rfl, _, rfl, a, _, _, _, rfl, rfl, SqL.of (s _ _ ha), at_of (j := j) (by omega) hx, _, rfl, ?_⟩
    refine mk2 (K := K) (d := .int g[j]) (e := .int (0 + (j : Int))) (.int _) (.int _) fun p H2 s2 i2 => ?_
    have e : prD (g[j], Tm.var (j : Int)) = .tuple [.int g[j], .int (0 + (j : Int))] := by
      unfold prD
      rw [Tm.d_var, Int.zero_add]
    exact kR _ _ s2 (by rw [e]; exact i2)
  · exact q D H' s ⟨ys, ey, ry⟩
/-- _law_neat -/
def spNeat (K : PySem.W.Frag) (n : Nat) : Sp := fun vs H Q _ => ∃ (v : V) (c : Cl) (N : Int) (d : Nat), vs = [v] ∧ Im K H v (clD c) ∧ ClOk N d c ∧ d < n ∧ d ≤ 20 ∧ 0 ≤ N ∧ N ≤ big ∧ c.length ≤ 1000000 ∧ Giv K H Q (clD (neat c))
theorem ok_law_neat {n : Nat} (T : Txt w K mg) (D : Def K mg "_law_neat" s_law_neat p_law_neat) (c_law_same : Cal P w K mg base 1 "_law_same" p_law_same (spSame K)) (c_law_renumbering : Cal P w K mg base 1 "_law_renumbering" p_law_renumbering (spLRen K))
    (c_law_clause_variables : Cal P w K mg base (n + 2) "_law_clause_variables" p_law_clause_variables (spCV K n)) (c_law_put_clause : Cal P w K mg base (n + 2) "_law_put_clause" p_law_put_clause (spLPutC K n)) : Cal P w K mg base (n + 3) "_law_neat" p_law_neat (spNeat K n) := by
  refine D.ok sc_law_neat (N := n_law_neat) (fun vs H Q E h => ?_) (fun f cdv A outer s H vs Q E hr h => ?_)
  · obtain ⟨v, c, N, d, rfl, _⟩ := h
    rfl
  obtain ⟨v, c, N, d, rfl, hv, hok, hdn, hd, h0, hN, hcl, q⟩ := h
  refine ⟨_, (pss_cons (ps_set (i := 1) sc_law_neat.nd rfl (Or.inl rfl) (pe_tup pa_nil))
      (pss_cons (ps_for PassesOwn.never rfl (pi_tup (pv 0)) (pg_name (i := 2) sc_law_neat.nd rfl (Or.inr rfl)) (pss_one (ps_if (pt_not (pt_val (pe_callB (cr_any rfl) rfl T.m_any (by decide +kernel) (pa_cons (pe_lc (own := [("_law_other", 3)]) (g := gName 3) rfl sc_law_neat.nd (pi_tup (pv 1)) (blkOk_by (own := [("_law_other", 3)]) (N := n_law_neat) (sc := defScope s_law_neat) (by decide +kernel)) (fun _ _ _ _ _ => (pg_name (i := 3) sc_law_neat.nd rfl (Or.inl rfl))) (fun _ _ _ _ _ => pts_nil) (fun _ _ _ _ _ => (pc c_law_same (hr.mono (by omega)) rfl (pa_cons (pv 2) (pa_cons (pv 3) pa_nil))))) pa_nil)))) (pss_one (ps_set (i := 1) sc_law_neat.nd rfl (Or.inl rfl) (pe_op (catA (K := K) rfl) (pv 1) (pe_tup (pa_cons (pv 2) pa_nil))))) pss_nil)))
      (pss_one (ps_ret (pc c_law_put_clause (hr.mono (by omega)) rfl (pa_cons (pv 1) (pa_cons (pc c_law_renumbering (hr.mono (by omega)) rfl (pa_cons (pc c_law_clause_variables (hr.mono (by omega)) rfl (pa_cons (pv 1) pa_nil)) pa_nil)) pa_nil))))))), fun fit => ?_⟩
  obtain ⟨b, xs, rfl, tt, r⟩ := hv.tup_inv
  have hlen : xs.length = c.length := by rw [r.len, List.length_map]
  have hxs := fit.t _ _ tt.sq
  refine ⟨(by show 0 ≤ sizeLine; decide), fun p0 hp0 => ?_⟩
  have s1 := same_new hp0 (.tup [])
  have i1 : Im K (upd H p0 (.tup [])) (.ref p0) (.tuple []) := .tup (.inl upd_same) .nil
  refine ⟨_, rfl, b, rfl, ⟨_, (tt.mono (Tups.of s1)).sq⟩, for_tup (K := K) (a := b) (xs := xs) (fun j σ' H' => ∃ k u, σ' = [some (.ref b), some k, u, none] ∧ Same H H' ∧ Im K H' k (clD (wrF [] (c.take j))))
    ⟨_, none, rfl, s1, by rw [List.take_zero]; exact i1⟩ (fun j σ' H' _ ⟨_, _, _, s, _⟩ => (tt.mono (Tups.of s)).sq) ?_ ?_⟩
  · rintro j x σ' H' hx ⟨kv, u, rfl, s, ik⟩
    obtain ⟨li, hli, hx0⟩ := cl_get r hx
    have okl := hok li (List.mem_of_getElem? hli)
    have hj : j < c.length := (List.getElem?_eq_some_iff.mp hli).1
    have okk : ClOk N d (wrF [] (c.take j)) := wrF_ok (fun l hl => by cases hl) (hok.take j)
    have hks : (wrF [] (c.take j)).length ≤ j := by
      have := wrF_len (c.take j) []
      rw [List.length_take, List.length_nil] at this
      omega
    generalize hk : wrF [] (c.take j) = k at *
    obtain ⟨ka, ks, rfl, tk, rk⟩ := Im.tup_inv (id ik)
    have hkl : ks.length = k.length := by rw [rk.len, List.length_map]
    refine ⟨_, rfl, ka, rfl, ⟨ks, tk.sq⟩, fun D hD => ?_⟩
    refine lc_mapT (es := (k.map fun o => sameL li o).map PyData.bool) tk (by simp [hkl]) (by omega) hD (fun i y e' H2 hy he s2 R kR => ⟨rfl, ?_⟩) fun H2 ys s2 ey ry => ?_
    · obtain ⟨lo, hlo, hy0⟩ := cl_get rk hy
      have okl2 := okk lo (List.mem_of_getElem? hlo)
      rw [List.map_map, List.getElem?_map, hlo] at he
      have e2 : PyData.bool (sameL li lo) = e' := Option.some.inj he
      subst e2
      exact ⟨_, rfl, _, rfl, x, y, li, lo, N, N, d, d, rfl, (hx0.to s).to s2, hy0.to s2, okl, hd, okl2, hd, kR _ _ (Same.refl _) (.bl _)⟩
    · have bools : ∀ (bs : List Bool) (zs : List V), ImA K H2 zs (bs.map PyData.bool) → zs = bs.map V.bl := by
        intro bs
        induction bs with
        | nil => intro zs h; cases h; rfl
        | cons b0 r0 ih =>
          intro zs h
          cases h with
          | cons h1 h2 => rw [h1.bl_inv, ih _ h2]; rfl
      have ez := bools _ _ ry
      subst ez
      refine ⟨D, _, rfl, SqL.of ey, _, rfl, ?_⟩
      have ea : ((k.map fun o => sameL li o).any id) = k.any fun o => sameL o li := by
        rw [List.any_map]
        congr 1
        funext o
        exact sameL_comm li o
      rw [ea]
      cases c1 : k.any fun o => sameL o li with
      | true =>
        refine iteF ⟨_, _, rfl, s.trans s2, ?_⟩
        rw [take_snoc hli, wrF_snoc, hk]
        unfold wrStep
        rw [c1, if_pos rfl]
        exact Im.to ik s2
      | false =>
        refine iteT ⟨_, rfl, _, rfl, z1, fun p hp => ?_⟩
        obtain ⟨s3, i3⟩ := nt1 hp ((hx0.to s).to s2)
        refine cat_imV (ds := k.map Lit.d) (es := [li.d]) (Im.to (Im.to ik s2) s3) i3 ?_ fun p2 H4 s4 i4 => ?_
        · simp only [List.length_map, List.length_singleton]
          exact Nat.le_trans (show k.length + 1 ≤ 1000001 by omega) (by decide)
        · refine ⟨_, _, rfl, ((s.trans s2).trans s3).trans s4, ?_⟩
          rw [take_snoc hli, wrF_snoc, hk]
          unfold wrStep clD
          rw [c1, if_neg Bool.false_ne_true, List.map_append]
          exact i4
  · rintro σ' H' ⟨kv, u, rfl, s, ik⟩
    rw [List.take_of_length_le (by omega)] at ik
    have okw := wr_ok hok
    refine ⟨_, rfl, _, rfl, kv, wr c, N, d, rfl, ik, okw, hdn, h0, hN, fun l H2 s2 e2 => ?_⟩
    have rg := cvars_rg okw
    have lr := rg.len h0
    have lr2 : (cvars (wr c)).length ≤ 1000000 := by
      have : ((cvars (wr c)).length : Int) ≤ 1000000 := Int.le_trans lr hN
      omega
    refine ⟨l, _, rfl, e2, lr2, fun l3 H3 s3 e3 => ?_⟩
    exact ⟨kv, l3, wr c, _, N, d, rfl, (ik.to s2).to s3, okw, hdn, e3, fun v4 H4 s4 i4 => q _ _ (((s.trans s2).trans s3).trans s4) i4⟩
end
end K3

/-! negation normal form. -/
namespace K3
open PySem PySem.Spec PyProof.Rows L2
section
variable {P : Program} {w : World} {K : PySem.W.Frag} {mg : Str → Option Value} {base : Heap}
def iffN (l r : Fm) (p : Bool) : Nf := .bin true (.bin false (inw l (!p)) (inw r true)) (.bin false (inw l p) (inw r false))
def spInw (K : PySem.W.Frag) (n : Nat) : Sp := fun vs H Q _ => ∃ (v : V) (f : Fm) (p : Bool) (N : Int) (d e : Nat), vs = [v, .bl p] ∧ Im K H v f.d ∧ f.ok N d e ∧ e < n ∧ Giv K H Q (inw f p).d
def spIff (K : PySem.W.Frag) (n : Nat) : Sp := fun vs H Q _ => ∃ (v u : V) (l r : Fm) (p : Bool) (N : Int) (d e : Nat), vs = [v, u, .bl p] ∧ Im K H v l.d ∧ Im K H u r.d ∧ l.ok N d e ∧ r.ok N d e ∧ e < n ∧ Giv K H Q (iffN l r p).d
theorem ok_inward_iff {n : Nat} (D : Def K mg "inward_iff" s_inward_iff p_inward_iff) (c_inward : Cal P w K mg base (2 * n) "inward" p_inward (spInw K n)) : Cal P w K mg base (2 * n + 1) "inward_iff" p_inward_iff (spIff K n) := by
  refine D.ok sc_inward_iff (N := n_inward_iff) (fun vs H Q E h => ?_) (fun f cdv A outer s H vs Q E hr h => ?_)
  · obtain ⟨v, u, l, r, p, N, d, e, rfl, _⟩ := h
    rfl
  obtain ⟨v, u, l, r, p, N, d, e, rfl, hv, hu, okl, okr, he, q⟩ := h
  refine ⟨_, (pss_cons (ps_set (i := 3) sc_inward_iff.nd rfl (Or.inl rfl) (pe_tup (pa_cons pe_str (pa_cons (pc c_inward (hr.mono (by omega)) rfl (pa_cons (pv 0) (pa_cons (pe_not (pv 2)) pa_nil))) (pa_cons (pc c_inward (hr.mono (by omega)) rfl (pa_cons (pv 1) (pa_cons pe_bl pa_nil))) pa_nil)))))
      (pss_cons (ps_set (i := 4) sc_inward_iff.nd rfl (Or.inl rfl) (pe_tup (pa_cons pe_str (pa_cons (pc c_inward (hr.mono (by omega)) rfl (pa_cons (pv 0) (pa_cons (pv 2) pa_nil))) (pa_cons (pc c_inward (hr.mono (by omega)) rfl (pa_cons (pv 1) (pa_cons pe_bl pa_nil))) pa_nil)))))
      (pss_one (ps_ret (pe_tup (pa_cons pe_str (pa_cons (pv 3) (pa_cons (pv 4) pa_nil)))))))), fun fit => ?_⟩
  refine ⟨_, rfl, _, rfl, _, rfl, v, l, !p, N, d, e, rfl, hv, okl, he, fun v1 H1 s1 i1 => ?_⟩
  refine ⟨_, rfl, u, r, true, N, d, e, rfl, hu.to s1, okr, he, fun v2 H2 s2 i2 => ?_⟩
  refine ⟨z3, fun p1 hp1 => ?_⟩
  obtain ⟨s3, i3⟩ := nt3 hp1 (.str "or") (i1.to s2) i2
  have s123 := (s1.trans s2).trans s3
  refine ⟨_, rfl, _, rfl, v, l, p, N, d, e, rfl, hv.to s123, okl, he, fun v3 H3 s4 i4 => ?_⟩
  refine ⟨_, rfl, u, r, false, N, d, e, rfl, (hu.to s123).to s4, okr, he, fun v4 H4 s5 i5 => ?_⟩
  refine ⟨z3, fun p2 hp2 => ?_⟩
  obtain ⟨s6, i6⟩ := nt3 hp2 (.str "or") (i4.to s5) i5
  refine ⟨_, rfl, _, rfl, z3, fun p3 hp3 => ?_⟩
  obtain ⟨s7, i7⟩ := nt3 hp3 (.str "and") (((i3.to s4).to s5).to s6) i6
  exact q _ _ ((((s123.trans s4).trans s5).trans s6).trans s7) i7
theorem ok_inward_step {n : Nat} (T : Txt w K mg) (D : Def K mg "inward" s_inward p_inward) (c_inward : Cal P w K mg base (2 * n) "inward" p_inward (spInw K n)) (c_inward_iff : Cal P w K mg base (2 * n + 1) "inward_iff" p_inward_iff (spIff K n)) :
    Cal P w K mg base (2 * n + 2) "inward" p_inward (spInw K (n + 1)) := by
  refine D.ok sc_inward (N := n_inward) (fun vs H Q E h => ?_) (fun f cdv A outer s H vs Q E hr h => ?_)
  · obtain ⟨v, f, p, N, d, e, rfl, _⟩ := h
    rfl
  obtain ⟨v, g, p, N, d, e, rfl, hv, hok, he, q⟩ := h
  obtain ⟨aO, mg_OPPOSITE, kA, kO, kL, kS⟩ := T.c_OPPOSITE
  refine ⟨_, (pss_cons (ps_set (i := 2) sc_inward.nd rfl (Or.inl rfl) (pe_ix (ixT (K := K) rfl) (pv 0) pe_int (fun _ _ => rfl)))
      (pss_cons (ps_if (PW.pt (pw_or (pt_cmpR op_eq (pv 2) pe_str (nomark _)) (pw_or1 (pt_cmpR op_eq (pv 2) pe_str (nomark _))))) (pss_one (ps_ret (pe_ifExp (pt_val (pv 1)) (pv 0) (pe_tup (pa_cons pe_str (pa_cons (pv 0) pa_nil)))))) pss_nil)
      (pss_cons (ps_if (pt_cmpR op_eq (pv 2) pe_str (nomark _)) (pss_one (ps_ret (pc c_inward (hr.mono (by omega)) rfl (pa_cons (pe_ix (ixT (K := K) rfl) (pv 0) pe_int (fun _ _ => rfl)) (pa_cons (pe_not (pv 1)) pa_nil))))) pss_nil)
      (pss_cons (ps_if (pt_cmpR op_eq (pv 2) pe_str (nomark _)) (pss_one (ps_ret (pc c_inward_iff (hr.mono (by omega)) rfl (pa_cons (pe_ix (ixT (K := K) rfl) (pv 0) pe_int (fun _ _ => rfl)) (pa_cons (pe_ix (ixT (K := K) rfl) (pv 0) pe_int (fun _ _ => rfl)) (pa_cons (pv 1) pa_nil)))))) pss_nil)
      (pss_cons (ps_if (pt_cmpR op_eq (pv 2) pe_str (nomark _)) (pss_cons (ps_set (i := 3) sc_inward.nd rfl (Or.inl rfl) (pc c_inward (hr.mono (by omega)) rfl (pa_cons (pe_ix (ixT (K := K) rfl) (pv 0) pe_int (fun _ _ => rfl)) (pa_cons (pe_not (pv 1)) pa_nil))))
      (pss_one (ps_ret (pe_tup (pa_cons (pe_ifExp (pt_val (pv 1)) pe_str pe_str) (pa_cons (pv 3) (pa_cons (pc c_inward (hr.mono (by omega)) rfl (pa_cons (pe_ix (ixT (K := K) rfl) (pv 0) pe_int (fun _ _ => rfl)) (pa_cons (pv 1) pa_nil))) pa_nil))))))) pss_nil)
      (pss_cons (ps_set (i := 4) sc_inward.nd rfl (Or.inl rfl) (pe_ifExp (pt_val (pv 1)) (pv 2) (pe_ix ix_kdict (pgl rfl mg_OPPOSITE) (pv 2) (fun _ _ => rfl))))
      (pss_cons (ps_if (PW.pt (pw_or (pt_cmpR op_eq (pv 2) pe_str (nomark _)) (pw_or1 (pt_cmpR op_eq (pv 2) pe_str (nomark _))))) (pss_one (ps_ret (pe_tup (pa_cons (pv 4) (pa_cons (pc c_inward (hr.mono (by omega)) rfl (pa_cons (pe_ix (ixT (K := K) rfl) (pv 0) pe_int (fun _ _ => rfl)) (pa_cons (pv 1) pa_nil))) (pa_cons (pc c_inward (hr.mono (by omega)) rfl (pa_cons (pe_ix (ixT (K := K) rfl) (pv 0) pe_int (fun _ _ => rfl)) (pa_cons (pv 1) pa_nil))) pa_nil)))))) pss_nil)
      (pss_one (ps_ret (pe_tup (pa_cons (pv 4) (pa_cons (pe_ix (ixT (K := K) rfl) (pv 0) pe_int (fun _ _ => rfl)) (pa_cons (pc c_inward (hr.mono (by omega)) rfl (pa_cons (pe_ix (ixT (K := K) rfl) (pv 0) pe_int (fun _ _ => rfl)) (pa_cons (pv 1) pa_nil))) pa_nil))))))))))))), fun fit => ?_⟩
  cases g with
  | «at» a =>
    have fin : ∀ (x : Str) (σ : L2.St), σ[0]? = some (some v) → σ[1]? = some (some (.bl p)) → (tIf (tB (tVar 1)) (tVar 0) (tTup (tCons (tC (.str "not")) (tCons (tVar 0) tNil)))) σ H Q := fun x σ e0 e1 => by
      refine ⟨_, e1, _, rfl, ?_⟩
      cases p with
      | true => exact iteT ⟨_, e0, q _ _ (Same.refl H) hv⟩
      | false =>
        refine iteF ⟨_, e0, z2, fun p1 hp1 => ?_⟩
        obtain ⟨s1, i1⟩ := nt2 hp1 (.str "not") hv
        exact q _ _ s1 i1
    cases a with
    | atom t =>
      obtain ⟨b, x, y, rfl, tt, hx, hy⟩ := im2 hv
      have ex := hx.str_inv
      subst ex
      refine ⟨_, rfl, b, _, 0, _, rfl, rfl, tt.sq, rfl, ?_⟩
      refine ⟨_, rfl, rfl, _, rfl, stT rfl (iteT ?_)⟩
      exact fin "atom" _ rfl rfl
    | equal t u =>
      obtain ⟨b, x, y, z, rfl, tt, hx, hy, hz⟩ := im3 hv
      have ex := hx.str_inv
      subst ex
      refine ⟨_, rfl, b, _, 0, _, rfl, rfl, tt.sq, rfl, ?_⟩
      refine ⟨_, rfl, rfl, _, rfl, stF (by decide +kernel) ⟨_, rfl, rfl, _, rfl, stT rfl ?_⟩⟩
      exact fin "equal" _ rfl rfl
  | not f =>
    cases e with
    | zero => exact hok.elim
    | succ e =>
    obtain ⟨b, x, y, rfl, tt, hx, hy⟩ := im2 hv
    have ex := hx.str_inv
    subst ex
    refine ⟨_, rfl, b, _, 0, _, rfl, rfl, tt.sq, rfl, ?_⟩
    refine ⟨_, rfl, rfl, _, rfl, stF (by decide +kernel) ⟨_, rfl, rfl, _, rfl, stF (by decide +kernel) ?_⟩⟩
    refine ⟨_, rfl, rfl, _, rfl, stT rfl ?_⟩
    exact ⟨_, rfl, b, _, 1, _, rfl, rfl, tt.sq, rfl, _, rfl, _, rfl, y, f, !p, N, d, e, rfl, hy, hok, by omega, q⟩
  | qu k xv f =>
    cases e with
    | zero => exact hok.elim
    | succ e =>
    obtain ⟨b, x, y, z, rfl, tt, hx, hy, hz⟩ := im3 hv
    have ex := hx.str_inv
    subst ex
    have hf : f.ok N d e := hok
    have he' : e < n := by omega
    cases k with
    | true =>
      refine ⟨_, rfl, b, _, 0, _, rfl, rfl, tt.sq, rfl, ?_⟩
      refine ⟨_, rfl, rfl, _, rfl, stF (by decide +kernel) ⟨_, rfl, rfl, _, rfl, stF (by decide +kernel) ?_⟩⟩
      refine ⟨_, rfl, rfl, _, rfl, stF (by decide +kernel) ?_⟩
      refine ⟨_, rfl, rfl, _, rfl, stF (by decide +kernel) ?_⟩
      refine ⟨_, rfl, rfl, _, rfl, stF (by decide +kernel) ?_⟩
      refine ⟨_, rfl, _, rfl, ?_⟩
      cases p with
      | true =>
        refine iteT ⟨_, rfl, ?_⟩
        refine ⟨_, rfl, rfl, _, rfl, stF (by decide +kernel) ⟨_, rfl, rfl, _, rfl, stF (by decide +kernel) ?_⟩⟩
        refine ⟨_, rfl, _, rfl, b, _, 1, _, rfl, rfl, tt.sq, rfl, ?_⟩
        refine ⟨_, rfl, b, _, 2, _, rfl, rfl, tt.sq, rfl, _, rfl, z, f, true, N, d, e, rfl, hz, hf, he', fun v1 H1 s1 i1 => ?_⟩
        refine ⟨z3, fun p1 hp1 => ?_⟩
        obtain ⟨s2, i2⟩ := nt3 hp1 (.str "all") (hy.to s1) i1
        exact q _ _ (s1.trans s2) i2
      | false =>
        refine iteF ⟨_, rfl, aO, _, _, rfl, rfl, kL, ?_⟩
        refine ⟨_, rfl, rfl, _, rfl, stF (by decide +kernel) ⟨_, rfl, rfl, _, rfl, stF (by decide +kernel) ?_⟩⟩
        refine ⟨_, rfl, _, rfl, b, _, 1, _, rfl, rfl, tt.sq, rfl, ?_⟩
        refine ⟨_, rfl, b, _, 2, _, rfl, rfl, tt.sq, rfl, _, rfl, z, f, false, N, d, e, rfl, hz, hf, he', fun v1 H1 s1 i1 => ?_⟩
        refine ⟨z3, fun p1 hp1 => ?_⟩
        obtain ⟨s2, i2⟩ := nt3 hp1 (.str "some") (hy.to s1) i1
        exact q _ _ (s1.trans s2) i2
    | false =>
      refine ⟨_, rfl, b, _, 0, _, rfl, rfl, tt.sq, rfl, ?_⟩
      refine ⟨_, rfl, rfl, _, rfl, stF (by decide +kernel) ⟨_, rfl, rfl, _, rfl, stF (by decide +kernel) ?_⟩⟩
      refine ⟨_, rfl, rfl, _, rfl, stF (by decide +kernel) ?_⟩
      refine ⟨_, rfl, rfl, _, rfl, stF (by decide +kernel) ?_⟩
      refine ⟨_, rfl, rfl, _, rfl, stF (by decide +kernel) ?_⟩
      refine ⟨_, rfl, _, rfl, ?_⟩
      cases p with
      | true =>
        refine iteT ⟨_, rfl, ?_⟩
        refine ⟨_, rfl, rfl, _, rfl, stF (by decide +kernel) ⟨_, rfl, rfl, _, rfl, stF (by decide +kernel) ?_⟩⟩
        refine ⟨_, rfl, _, rfl, b, _, 1, _, rfl, rfl, tt.sq, rfl, ?_⟩
        refine ⟨_, rfl, b, _, 2, _, rfl, rfl, tt.sq, rfl, _, rfl, z, f, true, N, d, e, rfl, hz, hf, he', fun v1 H1 s1 i1 => ?_⟩
        refine ⟨z3, fun p1 hp1 => ?_⟩
        obtain ⟨s2, i2⟩ := nt3 hp1 (.str "some") (hy.to s1) i1
        exact q _ _ (s1.trans s2) i2
      | false =>
        refine iteF ⟨_, rfl, aO, _, _, rfl, rfl, kS, ?_⟩
        refine ⟨_, rfl, rfl, _, rfl, stF (by decide +kernel) ⟨_, rfl, rfl, _, rfl, stF (by decide +kernel) ?_⟩⟩
        refine ⟨_, rfl, _, rfl, b, _, 1, _, rfl, rfl, tt.sq, rfl, ?_⟩
        refine ⟨_, rfl, b, _, 2, _, rfl, rfl, tt.sq, rfl, _, rfl, z, f, false, N, d, e, rfl, hz, hf, he', fun v1 H1 s1 i1 => ?_⟩
        refine ⟨z3, fun p1 hp1 => ?_⟩
        obtain ⟨s2, i2⟩ := nt3 hp1 (.str "all") (hy.to s1) i1
        exact q _ _ (s1.trans s2) i2
  | bin o l r =>
    cases e with
    | zero => exact hok.elim
    | succ e =>
    obtain ⟨b, x, y, z, rfl, tt, hx, hy, hz⟩ := im3 hv
    have ex := hx.str_inv
    subst ex
    have hl : l.ok N d e := hok.1
    have hR : r.ok N d e := hok.2
    have he' : e < n := by omega
    cases o with
    | iff =>
      refine ⟨_, rfl, b, _, 0, _, rfl, rfl, tt.sq, rfl, ?_⟩
      refine ⟨_, rfl, rfl, _, rfl, stF (by decide +kernel) ⟨_, rfl, rfl, _, rfl, stF (by decide +kernel) ?_⟩⟩
      refine ⟨_, rfl, rfl, _, rfl, stF (by decide +kernel) ?_⟩
      refine ⟨_, rfl, rfl, _, rfl, stT rfl ?_⟩
      exact ⟨_, rfl, b, _, 1, _, rfl, rfl, tt.sq, rfl, _, rfl, b, _, 2, _, rfl, rfl, tt.sq, rfl, _, rfl, y, z, l, r, p, N, d, e, rfl, hy, hz, hl, hR, he', q⟩
    | implies =>
      refine ⟨_, rfl, b, _, 0, _, rfl, rfl, tt.sq, rfl, ?_⟩
      refine ⟨_, rfl, rfl, _, rfl, stF (by decide +kernel) ⟨_, rfl, rfl, _, rfl, stF (by decide +kernel) ?_⟩⟩
      refine ⟨_, rfl, rfl, _, rfl, stF (by decide +kernel) ?_⟩
      refine ⟨_, rfl, rfl, _, rfl, stF (by decide +kernel) ?_⟩
      refine ⟨_, rfl, rfl, _, rfl, stT rfl ?_⟩
      refine ⟨_, rfl, b, _, 1, _, rfl, rfl, tt.sq, rfl, _, rfl, _, rfl, y, l, !p, N, d, e, rfl, hy, hl, he', fun v1 H1 s1 i1 => ?_⟩
      have t1 := (tt.mono (Tups.of s1)).sq
      cases p with
      | true =>
        refine ⟨_, rfl, _, rfl, iteT ?_⟩
        refine ⟨_, rfl, _, rfl, b, _, 2, _, rfl, rfl, t1, rfl, _, rfl, z, r, true, N, d, e, rfl, hz.to s1, hR, he', fun v2 H2 s2 i2 => ?_⟩
        refine ⟨z3, fun p1 hp1 => ?_⟩
        obtain ⟨s3, i3⟩ := nt3 hp1 (.str "or") (i1.to s2) i2
        exact q _ _ ((s1.trans s2).trans s3) i3
      | false =>
        refine ⟨_, rfl, _, rfl, iteF ?_⟩
        refine ⟨_, rfl, _, rfl, b, _, 2, _, rfl, rfl, t1, rfl, _, rfl, z, r, false, N, d, e, rfl, hz.to s1, hR, he', fun v2 H2 s2 i2 => ?_⟩
        refine ⟨z3, fun p1 hp1 => ?_⟩
        obtain ⟨s3, i3⟩ := nt3 hp1 (.str "and") (i1.to s2) i2
        exact q _ _ ((s1.trans s2).trans s3) i3
    | and =>
      refine ⟨_, rfl, b, _, 0, _, rfl, rfl, tt.sq, rfl, ?_⟩
      refine ⟨_, rfl, rfl, _, rfl, stF (by decide +kernel) ⟨_, rfl, rfl, _, rfl, stF (by decide +kernel) ?_⟩⟩
      refine ⟨_, rfl, rfl, _, rfl, stF (by decide +kernel) ?_⟩
      refine ⟨_, rfl, rfl, _, rfl, stF (by decide +kernel) ?_⟩
      refine ⟨_, rfl, rfl, _, rfl, stF (by decide +kernel) ?_⟩
      refine ⟨_, rfl, _, rfl, ?_⟩
      cases p with
      | true =>
        refine iteT ⟨_, rfl, ?_⟩
        refine ⟨_, rfl, rfl, _, rfl, stT rfl (iteT ?_)⟩
        refine ⟨_, rfl, _, rfl, b, _, 1, _, rfl, rfl, tt.sq, rfl, _, rfl, y, l, true, N, d, e, rfl, hy, hl, he', fun v1 H1 s1 i1 => ?_⟩
        refine ⟨_, rfl, b, _, 2, _, rfl, rfl, (tt.mono (Tups.of s1)).sq, rfl, _, rfl, z, r, true, N, d, e, rfl, hz.to s1, hR, he', fun v2 H2 s2 i2 => ?_⟩
        refine ⟨z3, fun p1 hp1 => ?_⟩
        obtain ⟨s3, i3⟩ := nt3 hp1 (.str "and") (i1.to s2) i2
        exact q _ _ ((s1.trans s2).trans s3) i3
      | false =>
        refine iteF ⟨_, rfl, aO, _, _, rfl, rfl, kA, ?_⟩
        refine ⟨_, rfl, rfl, _, rfl, stT rfl (iteT ?_)⟩
        refine ⟨_, rfl, _, rfl, b, _, 1, _, rfl, rfl, tt.sq, rfl, _, rfl, y, l, false, N, d, e, rfl, hy, hl, he', fun v1 H1 s1 i1 => ?_⟩
        refine ⟨_, rfl, b, _, 2, _, rfl, rfl, (tt.mono (Tups.of s1)).sq, rfl, _, rfl, z, r, false, N, d, e, rfl, hz.to s1, hR, he', fun v2 H2 s2 i2 => ?_⟩
        refine ⟨z3, fun p1 hp1 => ?_⟩
        obtain ⟨s3, i3⟩ := nt3 hp1 (.str "or") (i1.to s2) i2
        exact q _ _ ((s1.trans s2).trans s3) i3
    | or =>
      refine ⟨_, rfl, b, _, 0, _, rfl, rfl, tt.sq, rfl, ?_⟩
      refine ⟨_, rfl, rfl, _, rfl, stF (by decide +kernel) ⟨_, rfl, rfl, _, rfl, stF (by decide +kernel) ?_⟩⟩
      refine ⟨_, rfl, rfl, _, rfl, stF (by decide +kernel) ?_⟩
      refine ⟨_, rfl, rfl, _, rfl, stF (by decide +kernel) ?_⟩
      refine ⟨_, rfl, rfl, _, rfl, stF (by decide +kernel) ?_⟩
      refine ⟨_, rfl, _, rfl, ?_⟩
      cases p with
      | true =>
        refine iteT ⟨_, rfl, ?_⟩
        refine ⟨_, rfl, rfl, _, rfl, stF (by decide +kernel) ⟨_, rfl, rfl, _, rfl, stT rfl ?_⟩⟩
        refine ⟨_, rfl, _, rfl, b, _, 1, _, rfl, rfl, tt.sq, rfl, _, rfl, y, l, true, N, d, e, rfl, hy, hl, he', fun v1 H1 s1 i1 => ?_⟩
        refine ⟨_, rfl, b, _, 2, _, rfl, rfl, (tt.mono (Tups.of s1)).sq, rfl, _, rfl, z, r, true, N, d, e, rfl, hz.to s1, hR, he', fun v2 H2 s2 i2 => ?_⟩
        refine ⟨z3, fun p1 hp1 => ?_⟩
        obtain ⟨s3, i3⟩ := nt3 hp1 (.str "or") (i1.to s2) i2
        exact q _ _ ((s1.trans s2).trans s3) i3
      | false =>
        refine iteF ⟨_, rfl, aO, _, _, rfl, rfl, kO, ?_⟩
        refine ⟨_, rfl, rfl, _, rfl, stF (by decide +kernel) ⟨_, rfl, rfl, _, rfl, stT rfl ?_⟩⟩
        refine ⟨_, rfl, _, rfl, b, _, 1, _, rfl, rfl, tt.sq, rfl, _, rfl, y, l, false, N, d, e, rfl, hy, hl, he', fun v1 H1 s1 i1 => ?_⟩
        refine ⟨_, rfl, b, _, 2, _, rfl, rfl, (tt.mono (Tups.of s1)).sq, rfl, _, rfl, z, r, false, N, d, e, rfl, hz.to s1, hR, he', fun v2 H2 s2 i2 => ?_⟩
        refine ⟨z3, fun p1 hp1 => ?_⟩
        obtain ⟨s3, i3⟩ := nt3 hp1 (.str "and") (i1.to s2) i2
        exact q _ _ ((s1.trans s2).trans s3) i3
theorem ok_inward (T : Txt w K mg) (D : Def K mg "inward" s_inward p_inward) (D2 : Def K mg "inward_iff" s_inward_iff p_inward_iff) : ∀ n : Nat, Cal P w K mg base (2 * n) "inward" p_inward (spInw K n)
  | 0 => D.none 0 fun vs H Q E h => by
    obtain ⟨v, f, p, N, d, e, _, _, _, he, _⟩ := h
    omega
  | n + 1 => ok_inward_step T D (ok_inward T D D2 n) (ok_inward_iff D2 (ok_inward T D D2 n))
end
end K3

/-! part names for the sides of iff. -/
namespace K3
open PySem PySem.Spec PyProof.Rows L2
section
variable {P : Program} {w : World} {K : PySem.W.Frag} {mg : Str → Option Value} {base : Heap}
/-! ### tests of a tag in slot i -/
section
variable {σ : L2.St} {H : Hp} {D : Ends} {A B : TS} {x y z : Str} {i : Nat}
theorem tagT (e : σ[i]? = some (some (.str x))) (h : x = y) (k : A D σ H) : tIfS (tTest (tOp rEq (tVar i) (tC (.str y)))) A B D σ H := ⟨_, e, rfl, _, rfl, stT h k⟩
theorem tagF (e : σ[i]? = some (some (.str x))) (h : ¬ x = y) (k : B D σ H) : tIfS (tTest (tOp rEq (tVar i) (tC (.str y)))) A B D σ H := ⟨_, e, rfl, _, rfl, stF h k⟩
theorem tagOrT (e : σ[i]? = some (some (.str x))) (h : x = y ∨ x = z) (k : A D σ H) : tIfS (tOr (tTest (tOp rEq (tVar i) (tC (.str y)))) (tTest (tOp rEq (tVar i) (tC (.str z))))) A B D σ H := by
  by_cases c : x = y
  · exact ⟨_, e, rfl, _, rfl, stT c (iteT k)⟩
  · have c2 : x = z := h.resolve_left c
    exact ⟨_, e, rfl, _, rfl, stF c ⟨_, e, rfl, _, rfl, stT c2 k⟩⟩
theorem tagOrF (e : σ[i]? = some (some (.str x))) (h1 : ¬ x = y) (h2 : ¬ x = z) (k : B D σ H) : tIfS (tOr (tTest (tOp rEq (tVar i) (tC (.str y)))) (tTest (tOp rEq (tVar i) (tC (.str z))))) A B D σ H :=
  ⟨_, e, rfl, _, rfl, stF h1 ⟨_, e, rfl, _, rfl, stF h2 k⟩⟩
end
theorem at0 {x : V} {xs : List V} : atI (x :: xs) 0 = some x := at_of (j := 0) rfl rfl
/-- a formula's tag -/
def Fm.tag : Fm → Str
  | .at (.atom _) => "atom"
  | .at (.equal _ _) => "equal"
  | .not _ => "not"
  | .bin o _ _ => o.tag
  | .qu q _ _ => tagQ q
theorem Fm.im {H : Hp} {v : V} : ∀ {f : Fm}, Im K H v f.d → ∃ a xs ds, v = .ref a ∧ TT K H a (.str f.tag :: xs) ∧ ImA K H xs ds ∧ f.d = .tuple (.str f.tag :: ds)
  | .at (.atom t), h => by
    obtain ⟨a, x, y, rfl, tt, hx, hy⟩ := im2 h
    have e := hx.str_inv
    subst e
    exact ⟨a, _, _, rfl, tt, .one hy, rfl⟩
  | .at (.equal l r), h => by
    obtain ⟨a, x, y, z, rfl, tt, hx, hy, hz⟩ := im3 h
    have e := hx.str_inv
    subst e
    exact ⟨a, _, _, rfl, tt, .cons hy (.one hz), rfl⟩
  | .not f, h => by
    obtain ⟨a, x, y, rfl, tt, hx, hy⟩ := im2 h
    have e := hx.str_inv
    subst e
    exact ⟨a, _, _, rfl, tt, .one hy, rfl⟩
  | .bin o l r, h => by
    obtain ⟨a, x, y, z, rfl, tt, hx, hy, hz⟩ := im3 h
    have e := hx.str_inv
    subst e
    exact ⟨a, _, _, rfl, tt, .cons hy (.one hz), rfl⟩
  | .qu q x f, h => by
    obtain ⟨a, x, y, z, rfl, tt, hx, hy, hz⟩ := im3 h
    have e := hx.str_inv
    subst e
    exact ⟨a, _, _, rfl, tt, .cons hy (.one hz), rfl⟩
/-! ### is_simple -/
def nots : Fm → Nat
  | .not g => nots g + 1
  | _ => 0
def spSimple (K : PySem.W.Frag) : Sp := fun vs H Q _ => ∃ (v : V) (f : Fm), vs = [v] ∧ Im K H v f.d ∧ Q (.bl (simple f)) H
theorem ok_is_simple (D : Def K mg "is_simple" s_is_simple p_is_simple) : Cal P w K mg base 1 "is_simple" p_is_simple (spSimple K) := by
  refine D.ok sc_is_simple (N := n_is_simple) (fun vs H Q E h => ?_) (fun f cdv A outer s H vs Q E hr h => ?_)
  · obtain ⟨v, f, rfl, _⟩ := h
    rfl
  obtain ⟨v, g, rfl, hv, q⟩ := h
  refine ⟨_, (pss_cons (ps_while PassesOwn.never (pt_cmpR op_eq (pe_ix (ixT (K := K) rfl) (pv 0) pe_int (fun _ _ => rfl)) pe_str (nomark _)) (pss_one (ps_set (i := 0) sc_is_simple.nd rfl (Or.inl rfl) (pe_ix (ixT (K := K) rfl) (pv 0) pe_int (fun _ _ => rfl)))))
      (pss_one (ps_ret (pe_or (pe_cmpR op_eq (pe_ix (ixT (K := K) rfl) (pv 0) pe_int (fun _ _ => rfl)) pe_str (nomark _)) (pe_one (pe_cmpR op_eq (pe_ix (ixT (K := K) rfl) (pv 0) pe_int (fun _ _ => rfl)) pe_str (nomark _))))))), fun fit => ?_⟩
  refine ⟨fun m σ' H' => H' = H ∧ ∃ u k, σ' = [some u] ∧ Im K H u k.d ∧ simple k = simple g ∧ m = nots k, ⟨_, rfl, v, g, rfl, hv, rfl, rfl⟩, ?_⟩
  rintro m σ' H' ⟨rfl, u, k, rfl, hu, ek, rfl⟩
  obtain ⟨a, xs, ds, rfl, tt, ra, ed⟩ := Fm.im hu
  refine ⟨_, rfl, a, _, 0, _, rfl, rfl, tt.sq, at0, rfl, _, rfl, ?_⟩
  cases k with
  | not k' =>
    refine stT rfl ⟨_, fun σ' H' z => ⟨nots k', Nat.lt_succ_self _, z⟩, ?_⟩
    obtain ⟨a2, x2, y2, e2, t2, h1, h2⟩ := im2 hu
    cases e2
    exact ⟨_, rfl, a, _, 1, _, rfl, rfl, t2.sq, rfl, rfl, y2, k', rfl, h2, ek, rfl⟩
  | «at» x =>
    rw [← ek] at q
    cases x with
    | atom t => exact stF (show ¬ ("atom" : Str) = "not" by decide +kernel) ⟨_, rfl, a, _, 0, _, rfl, rfl, tt.sq, at0, rfl, _, rfl, stT rfl q⟩
    | equal t r =>
      refine stF (show ¬ ("equal" : Str) = "not" by decide +kernel) ⟨_, rfl, a, _, 0, _, rfl, rfl, tt.sq, at0, rfl, _, rfl, stF (show ¬ ("equal" : Str) = "atom" by decide +kernel) ⟨_, rfl, a, _, 0, _, rfl, rfl, tt.sq, at0, rfl, ?_⟩⟩
      have e1 : decide (V.str (Fm.tag (.at (.equal t r))) = V.str "equal") = true := decide_eq_true rfl
      show Q (.bl (decide (V.str (Fm.tag (.at (.equal t r))) = V.str "equal"))) H'
      rw [e1]
      exact q
  | bin o l r =>
    have h1 : ¬ o.tag = "atom" := by cases o <;> decide +kernel
    have h2 : ¬ o.tag = "equal" := by cases o <;> decide +kernel
    have h3 : ¬ o.tag = "not" := by cases o <;> decide +kernel
    refine stF h3 ⟨_, rfl, a, _, 0, _, rfl, rfl, tt.sq, at0, rfl, _, rfl, stF h1 ⟨_, rfl, a, _, 0, _, rfl, rfl, tt.sq, at0, rfl, ?_⟩⟩
    have e1 : decide (V.str (Fm.tag (.bin o l r)) = V.str "equal") = false := decide_eq_false fun z => h2 (V.str.inj z)
    rw [← ek] at q
    show Q (.bl (decide (V.str (Fm.tag (.bin o l r)) = V.str "equal"))) H'
    rw [e1]
    exact q
  | qu b x l =>
    have h1 : ¬ tagQ b = "atom" := by cases b <;> decide +kernel
    have h2 : ¬ tagQ b = "equal" := by cases b <;> decide +kernel
    have h3 : ¬ tagQ b = "not" := by cases b <;> decide +kernel
    refine stF h3 ⟨_, rfl, a, _, 0, _, rfl, rfl, tt.sq, at0, rfl, _, rfl, stF h1 ⟨_, rfl, a, _, 0, _, rfl, rfl, tt.sq, at0, rfl, ?_⟩⟩
    have e1 : decide (V.str (Fm.tag (.qu b x l)) = V.str "equal") = false := decide_eq_false fun z => h2 (V.str.inj z)
    rw [← ek] at q
    show Q (.bl (decide (V.str (Fm.tag (.qu b x l)) = V.str "equal"))) H'
    rw [e1]
    exact q
def absI : V → Int
  | .int i => i
  | _ => 0
theorem iv_inj {f g : List Int} (h : iv f = iv g) : f = g := by
  have e := congrArg (List.map absI) h
  unfold iv at e
  rw [List.map_map, List.map_map, show (absI ∘ V.int) = id from rfl, List.map_id, List.map_id] at e
  exact e
/-! ### free variables -/
def At.ts : At → List Tm
  | .atom t => [t]
  | .equal l r => [l, r]
def fvT (b f : List Int) (ts : List Tm) : List Int := ts.foldl (fun f t => addAll b f (tvars t)) f
theorem fvs_at (a : At) (b f : List Int) : fvs (.at a) b f = fvT b f a.ts := by cases a <;> rfl
theorem fvT_snoc (b f : List Int) (l : List Tm) (t : Tm) : fvT b f (l ++ [t]) = addAll b (fvT b f l) (tvars t) := by
  unfold fvT
  rw [List.foldl_append]
  rfl
theorem addAll_snoc (b f l : List Int) (v : Int) : addAll b f (l ++ [v]) = addF b (addAll b f l) v := by
  unfold addAll
  rw [List.foldl_append]
  rfl
theorem At.ok_ts {N : Int} {d : Nat} {a : At} (h : a.ok N d) : ∀ t ∈ a.ts, t.ok N d := by
  cases a with
  | atom t => intro u hu; rw [show u = t by simpa [At.ts] using hu]; exact h
  | equal l r =>
    intro u hu
    have : u = l ∨ u = r := by simpa [At.ts] using hu
    rcases this with e | e
    · rw [e]; exact h.1
    · rw [e]; exact h.2
theorem fvT_rg {N : Int} {d : Nat} {b : List Int} : ∀ {ts : List Tm} {f : List Int}, (∀ t ∈ ts, t.ok N d) → Rg N f → Rg N (fvT b f ts)
  | [], f, _, g => g
  | t :: r, f, h, g => by
    show Rg N (fvT b (addAll b f (tvars t)) r)
    exact fvT_rg (fun u hu => h u (List.mem_cons_of_mem _ hu)) (addAll_rg (tvars_rg (h t List.mem_cons_self)).2 g)
theorem cut1 {x : V} {xs : List V} : cutV (x :: xs) (some 1) none = xs := by
  unfold cutV
  have h1 : HT.sIx (x :: xs).length 0 (some 1) = 1 := by
    show (if (1 : Int) < 0 then ((1 : Int) + ((x :: xs).length : Int)).toNat else min (1 : Int).toNat (x :: xs).length) = 1
    rw [if_neg (by decide), List.length_cons]
    show min 1 (xs.length + 1) = 1
    omega
  have h2 : HT.sIx (x :: xs).length (x :: xs).length none = xs.length + 1 := rfl
  rw [h1, h2]
  show (xs.take (xs.length + 1 - 1)) = xs
  rw [Nat.add_sub_cancel, List.take_length]
theorem cut1_not {x : V} {xs : List V} : ¬ (HT.sIx (x :: xs).length 0 (some 1) = 0 ∧ HT.sIx (x :: xs).length (x :: xs).length none = (x :: xs).length) := fun h => by
  have h1 : HT.sIx (x :: xs).length 0 (some 1) = 1 := by
    show (if (1 : Int) < 0 then ((1 : Int) + ((x :: xs).length : Int)).toNat else min (1 : Int).toNat (x :: xs).length) = 1
    rw [if_neg (by decide), List.length_cons]
    show min 1 (xs.length + 1) = 1
    omega
  rw [h1] at h
  exact absurd h.1 (by decide)
theorem nodup_take_mem {vs : List Int} {j : Nat} {v : Int} (hj : vs[j]? = some v) : v ∈ vs := List.mem_of_getElem? hj
def spCF (K : PySem.W.Frag) (m n : Nat) : Sp := fun vs H Q _ => ∃ (v : V) (b l : Addr) (f : Fm) (bs g : List Int) (N : Int) (d e : Nat), vs = [v, .ref b, .ref l] ∧ Im K H v f.d ∧ f.ok N d e ∧ e < n ∧ d < m ∧ H b = some (.lst (iv bs)) ∧ b ≠ l ∧ bs.length + e ≤ 1000 ∧
  H l = some (.lst (iv g)) ∧ Rg N g ∧ 0 ≤ N ∧ N ≤ big ∧ ∀ H', But l H H' → H' l = some (.lst (iv (fvs f bs g))) → Q .non H'
theorem ok_collect_free {m : Nat} (T : Txt w K mg) (D : Def K mg "collect_free" s_collect_free p_collect_free) (c_variables : Cal P w K mg base (m + 2) "variables" p_variables (spVars K m)) : ∀ n : Nat, Cal P w K mg base (n + m + 2) "collect_free" p_collect_free (spCF K m n)
  | 0 => D.none _ fun vs H Q E h => by
    obtain ⟨v, b, l, f, bs, g, N, d, e, _, _, _, he, _⟩ := h
    omega
  | n + 1 => by
    have c_collect_free := ok_collect_free T D c_variables n
    rw [show n + 1 + m + 2 = (n + m + 2) + 1 by omega]
    refine D.ok sc_collect_free (N := n_collect_free) (fun vs H Q E h => ?_) (fun f cdv A outer s H vs Q E hr h => ?_)
    · obtain ⟨v, b, l, f, bs, g, N, d, e, rfl, _⟩ := h
      rfl
    obtain ⟨v, b, l, k, bs, g, N, d, e, rfl, hv, hok, he, hd, hb, nbl, hbs, hl, rg, h0, hN, q⟩ := h
    obtain ⟨aJ, mg_JOINTS, tJ⟩ := T.c_JOINTS
    refine ⟨_, (pss_cons (ps_set (i := 3) sc_collect_free.nd rfl (Or.inl rfl) (pe_ix (ixT (K := K) rfl) (pv 0) pe_int (fun _ _ => rfl)))
      (pss_one (ps_if (PW.pt (pw_or (pt_cmpR op_eq (pv 3) pe_str (nomark _)) (pw_or1 (pt_cmpR op_eq (pv 3) pe_str (nomark _))))) (pss_one (ps_for PassesOwn.never rfl (pi_tup (pe_slice sl_tup (pv 0) (po_some pe_int) po_none)) (pg_name (i := 4) sc_collect_free.nd rfl (Or.inl rfl)) (pss_one (ps_for PassesOwn.never rfl (pi_list (pc c_variables (hr.mono (by omega)) rfl (pa_cons (pv 4) pa_nil))) (pg_name (i := 5) sc_collect_free.nd rfl (Or.inl rfl)) (pss_one (ps_if (PW.pt (pw_and (pt_cmpR op_notIn_seq (pv 5) (pv 1) rfl) (pw_and1 (pt_cmpR op_notIn_seq (pv 5) (pv 2) rfl)))) (pss_one (ps_expr (pe_bm PySem.F.plainAttrs_list PySem.F.slot_list_append PySem.F.type_list_append mt_append (pv 2) (pa_cons (pv 5) pa_nil)))) pss_nil)))))) (pss_one (ps_if (pt_cmpR op_eq (pv 3) pe_str (nomark _)) (pss_one (ps_expr (pc c_collect_free (hr.mono (by omega)) rfl (pa_cons (pe_ix (ixT (K := K) rfl) (pv 0) pe_int (fun _ _ => rfl)) (pa_cons (pv 1) (pa_cons (pv 2) pa_nil)))))) (pss_one (ps_if (pt_cmpR op_in_seq (pv 3) (pgl rfl mg_JOINTS) rfl) (pss_cons (ps_expr (pc c_collect_free (hr.mono (by omega)) rfl (pa_cons (pe_ix (ixT (K := K) rfl) (pv 0) pe_int (fun _ _ => rfl)) (pa_cons (pv 1) (pa_cons (pv 2) pa_nil)))))
      (pss_one (ps_expr (pc c_collect_free (hr.mono (by omega)) rfl (pa_cons (pe_ix (ixT (K := K) rfl) (pv 0) pe_int (fun _ _ => rfl)) (pa_cons (pv 1) (pa_cons (pv 2) pa_nil))))))) (pss_one (ps_expr (pc c_collect_free (hr.mono (by omega)) rfl (pa_cons (pe_ix (ixT (K := K) rfl) (pv 0) pe_int (fun _ _ => rfl)) (pa_cons (pe_op op_cat (pv 1) (pe_lst (pa_cons (pe_ix (ixT (K := K) rfl) (pv 0) pe_int (fun _ _ => rfl)) pa_nil))) (pa_cons (pv 2) pa_nil))))))))))))), fun fit => ?_⟩
    have tg0 : ∀ {a : Addr} {xs : List V}, TT K H a xs → True := fun _ => trivial
    clear tg0
    cases k with
    | «at» x =>
      rw [fvs_at] at q
      have okx := At.ok_ts (Fm.ok_at.mp hok)
      obtain ⟨a, xs, ts, tg, rfl, htg, tt, rt, ets⟩ : ∃ (a : Addr) (xs : List V) (ts : List Tm) (tg : Str), v = .ref a ∧ (tg = "atom" ∨ tg = "equal") ∧ TT K H a (.str tg :: xs) ∧ ImA K H xs (ts.map Tm.d) ∧ ts = x.ts := by
        cases x with
        | atom t =>
          obtain ⟨a, x1, x2, rfl, tt, hx, hy⟩ := im2 hv
          have ex := hx.str_inv
          subst ex
          exact ⟨a, _, [t], "atom", rfl, .inl rfl, tt, .one hy, rfl⟩
        | equal t r =>
          obtain ⟨a, x1, x2, x3, rfl, tt, hx, hy, hz⟩ := im3 hv
          have ex := hx.str_inv
          subst ex
          exact ⟨a, _, [t, r], "equal", rfl, .inr rfl, tt, .cons hy (.one hz), rfl⟩
      rw [← ets] at okx q
      have hlen : xs.length = ts.length := by rw [rt.len, List.length_map]
      refine ⟨_, rfl, a, _, 0, _, rfl, rfl, tt.sq, at0, ?_⟩
      refine tagOrT rfl htg ?_
      refine ⟨_, rfl, _, rfl, a, _, rfl, tt.sq, cut1_not, fun p hp => ?_⟩
      rw [cut1]
      have s1 := same_new hp (.tup xs)
      refine ⟨p, rfl, ⟨xs, SqT.of upd_same⟩, for_tup (K := K) (a := p) (xs := xs) (fun j σ' H' => ∃ u1 u2, σ' = [some (.ref a), some (.ref b), some (.ref l), some (.str tg), u1, u2] ∧ But l H H' ∧ H' p = some (.tup xs) ∧ H' l = some (.lst (iv (fvT bs g (ts.take j)))))
        ⟨none, none, rfl, But.of s1, upd_same, by rw [List.take_zero]; exact s1 _ _ hl⟩ (fun j σ' H' _ ⟨_, _, _, _, e, _⟩ => SqT.of e) ?_ ?_⟩
      · rintro j x' σ' H' hx ⟨u1, u2, rfl, bu, ep, el⟩
        obtain ⟨e0, he0, hx0⟩ := rt.get hx
        rw [List.getElem?_map] at he0
        obtain ⟨t, ht, rfl⟩ := Option.map_eq_some_iff.mp he0
        have okt := okx t (List.mem_of_getElem? ht)
        have tp := bu.tups hl trivial
        have rgj : Rg N (fvT bs g (ts.take j)) := fvT_rg (fun u hu => okx u (List.mem_of_mem_take hu)) rg
        generalize hG : fvT bs g (ts.take j) = G at *
        refine ⟨_, rfl, x', t, N, d, rfl, hx0.mono tp, okt, hd, h0, hN, fun lv H2 s2 e2 => ?_⟩
        have rv := tvars_rg okt
        refine ⟨lv, rfl, ⟨_, SqL.of e2⟩, for_list (K := K) (a := lv) (xs := iv (tvars t)) (fun i σ' H3 => ∃ u2, σ' = [some (.ref a), some (.ref b), some (.ref l), some (.str tg), some x', u2] ∧ But l H2 H3 ∧ H3 lv = some (.lst (iv (tvars t))) ∧ H3 l = some (.lst (iv (addAll bs G ((tvars t).take i)))))
          ⟨_, rfl, But.refl l H2, e2, by rw [List.take_zero]; exact s2 _ _ el⟩ (fun i σ' H3 _ ⟨_, _, _, e, _⟩ => SqL.of e) ?_ ?_⟩
        · rintro i y σ' H3 hy ⟨u2, rfl, b3, ev, el3⟩
          obtain ⟨vv, hvv, rfl⟩ : ∃ vv, (tvars t)[i]? = some vv ∧ y = .int vv := by
            unfold iv at hy
            rw [List.getElem?_map] at hy
            obtain ⟨vv, h1, h2⟩ := Option.map_eq_some_iff.mp hy
            exact ⟨vv, h1, h2.symm⟩
          have eb3 : H3 b = some (.lst (iv bs)) := b3 _ _ (s2 _ _ (bu _ _ hb nbl)) nbl
          have rgi : Rg N (addAll bs G ((tvars t).take i)) := addAll_rg (fun z hz => rv.2 z (List.mem_of_mem_take hz)) rgj
          have zl := big_line rgi h0 hN
          rw [show addAll bs G ((tvars t).take (i + 1)) = addF bs (addAll bs G ((tvars t).take i)) vv by rw [take_snoc hvv, addAll_snoc]]
          generalize hA : addAll bs G ((tvars t).take i) = A at *
          refine ⟨_, rfl, _, rfl, notin_iv (SqL.of eb3) ⟨_, rfl, ?_⟩⟩
          by_cases c1 : vv ∈ bs
          · rw [decide_eq_true c1]
            refine iteF (iteF ⟨_, rfl, b3, ev, ?_⟩)
            rw [el3]
            unfold addF
            rw [if_pos c1]
          · rw [decide_eq_false c1]
            refine iteT ⟨_, rfl, _, rfl, notin_iv (SqL.of el3) ⟨_, rfl, ?_⟩⟩
            unfold addF
            rw [if_neg c1]
            unfold addV
            by_cases c2 : vv ∈ A
            · rw [decide_eq_true c2, if_pos c2]
              exact iteF ⟨_, rfl, b3, ev, el3⟩
            · rw [decide_eq_false c2, if_neg c2]
              refine iteT ⟨_, rfl, .inl ⟨rfl, _, SqL.of el3⟩, _, rfl, l, _, _, rfl, rfl, el3, by rw [iv_len]; exact zl, ?_⟩
              have nlv : lv ≠ l := fun z => by
                subst z
                have e5 := el3.symm.trans ev
                have e6 : iv A = iv (tvars t) := HO.lst.inj (Option.some.inj e5)
                have e7 : A = tvars t := iv_inj e6
                exact c2 (by rw [e7]; exact List.mem_of_getElem? hvv)
              exact ⟨_, rfl, b3.trans (But.upd _), by rw [upd_ne nlv]; exact ev, by rw [upd_same, iv_snoc]⟩
        · rintro σ' H3 ⟨u2, rfl, b3, ev, el3⟩
          rw [List.take_of_length_le (by rw [iv_len]; exact Nat.le_refl _)] at el3
          have ne : p ≠ l := fun z => by rw [z] at ep; rw [el] at ep; cases ep
          exact ⟨_, _, rfl, (bu.trans (But.of s2)).trans b3, b3 _ _ (s2 _ _ ep) ne, by rw [take_snoc ht, fvT_snoc, hG]; exact el3⟩
      · rintro σ' H' ⟨u1, u2, rfl, bu, ep, el⟩
        rw [List.take_of_length_le (by omega)] at el
        exact q H' bu el
    | not k =>
      cases e with
      | zero => exact hok.elim
      | succ e =>
      obtain ⟨a, x, y, rfl, tt, hx, hy⟩ := im2 hv
      have ex := hx.str_inv
      subst ex
      refine ⟨_, rfl, a, _, 0, _, rfl, rfl, tt.sq, rfl, ?_⟩
      refine tagOrF rfl (by decide +kernel) (by decide +kernel) ?_
      refine tagT rfl rfl ?_
      exact ⟨_, rfl, a, _, 1, _, rfl, rfl, tt.sq, rfl, _, rfl, _, rfl, y, b, l, k, bs, g, N, d, e, rfl, hy, hok, by omega, hd, hb, nbl, by omega, hl, rg, h0, hN, q⟩
    | bin o k1 k2 =>
      cases e with
      | zero => exact hok.elim
      | succ e =>
      obtain ⟨a, x, y, z, rfl, tt, hx, hy, hz⟩ := im3 hv
      have ex := hx.str_inv
      subst ex
      have h1 : ¬ o.tag = "atom" := by cases o <;> decide +kernel
      have h2 : ¬ o.tag = "equal" := by cases o <;> decide +kernel
      have h3 : ¬ o.tag = "not" := by cases o <;> decide +kernel
      have h4 : inV (.str o.tag) [.str "and", .str "or", .str "implies", .str "iff"] = true := by cases o <;> decide +kernel
      refine ⟨_, rfl, a, _, 0, _, rfl, rfl, tt.sq, rfl, ?_⟩
      refine tagOrF rfl h1 h2 ?_
      refine tagF rfl h3 ?_
      refine ⟨_, rfl, aJ, _, rfl, .inr (tJ H).sq, rfl, rfl, _, rfl, ?_⟩
      rw [if_neg Bool.false_ne_true, h4]
      refine iteT ?_
      refine ⟨_, rfl, a, _, 1, _, rfl, rfl, tt.sq, rfl, _, rfl, _, rfl, y, b, l, k1, bs, g, N, d, e, rfl, hy, hok.1, by omega, hd, hb, nbl, by omega, hl, rg, h0, hN, fun H1 b1 e1 => ?_⟩
      have tp := b1.tups hl trivial
      exact ⟨_, rfl, a, _, 2, _, rfl, rfl, (tt.mono tp).sq, rfl, _, rfl, _, rfl, z, b, l, k2, bs, _, N, d, e, rfl, hz.mono tp, hok.2, by omega, hd, b1 _ _ hb nbl, nbl, by omega, e1, fvs_rg hok.1 rg, h0, hN, fun H2 b2 e2 => q H2 (b1.trans b2) e2⟩
    | qu k xv f =>
      cases e with
      | zero => exact hok.elim
      | succ e =>
      obtain ⟨a, x, y, z, rfl, tt, hx, hy, hz⟩ := im3 hv
      have ex := hx.str_inv
      have ey := hy.int_inv
      subst ex ey
      have h1 : ¬ tagQ k = "atom" := by cases k <;> decide +kernel
      have h2 : ¬ tagQ k = "equal" := by cases k <;> decide +kernel
      have h3 : ¬ tagQ k = "not" := by cases k <;> decide +kernel
      have h4 : inV (.str (tagQ k)) [.str "and", .str "or", .str "implies", .str "iff"] = false := by cases k <;> decide +kernel
      refine ⟨_, rfl, a, _, 0, _, rfl, rfl, tt.sq, rfl, ?_⟩
      refine tagOrF rfl h1 h2 ?_
      refine tagF rfl h3 ?_
      refine ⟨_, rfl, aJ, _, rfl, .inr (tJ H).sq, rfl, rfl, _, rfl, ?_⟩
      rw [if_neg Bool.false_ne_true, h4]
      refine iteF ?_
      refine ⟨_, rfl, a, _, 2, _, rfl, rfl, tt.sq, rfl, _, rfl, _, rfl, a, _, 1, _, rfl, rfl, tt.sq, rfl, z1, fun p hp => ?_⟩
      have s1 := same_new hp (.lst [.int xv])
      have hbs2 : bs.length + 1 ≤ sizeLine := Nat.le_trans (show bs.length + 1 ≤ 1000 by omega) (by decide)
      refine ⟨b, p, _, _, rfl, rfl, s1 _ _ hb, upd_same, by rw [iv_len]; exact hbs2, fun p2 hp2 => ?_⟩
      have s2 := same_new hp2 (.lst (iv bs ++ [.int xv]))
      have s12 := s1.trans s2
      refine ⟨_, rfl, z, p2, l, f, bs ++ [xv], g, N, d, e, rfl, hz.to s12, hok, by omega, hd, by rw [upd_same, iv_snoc], ?_, by rw [List.length_append, List.length_singleton]; omega, s12 _ _ hl, rg, h0, hN, fun H2 b2 e2 => ?_⟩
      · exact fun zz => by
          have := s1 _ _ hl
          rw [← zz] at this
          rw [hp2] at this
          cases this
      · exact q H2 ((But.of s12).trans b2) e2
/-- free_variables -/
def spFV (K : PySem.W.Frag) (m n : Nat) : Sp := fun vs H Q _ => ∃ (v : V) (f : Fm) (N : Int) (d e : Nat), vs = [v] ∧ Im K H v f.d ∧ f.ok N d e ∧ e < n ∧ d < m ∧ e ≤ 1000 ∧ 0 ≤ N ∧ N ≤ big ∧ GivL H Q (fv f)
theorem ok_free_variables {m n : Nat} (D : Def K mg "free_variables" s_free_variables p_free_variables) (c_collect_free : Cal P w K mg base (n + m + 2) "collect_free" p_collect_free (spCF K m n)) : Cal P w K mg base (n + m + 3) "free_variables" p_free_variables (spFV K m n) := by
  refine D.ok sc_free_variables (N := n_free_variables) (fun vs H Q E h => ?_) (fun f cdv A outer s H vs Q E hr h => ?_)
  · obtain ⟨v, f, N, d, e, rfl, _⟩ := h
    rfl
  obtain ⟨v, g, N, d, e, rfl, hv, hok, he, hd, he2, h0, hN, q⟩ := h
  refine ⟨_, (pss_cons (ps_set (i := 1) sc_free_variables.nd rfl (Or.inl rfl) (pe_lst pa_nil))
      (pss_cons (ps_expr (pc c_collect_free (hr.mono (by omega)) rfl (pa_cons (pv 0) (pa_cons (pe_lst pa_nil) (pa_cons (pv 1) pa_nil)))))
      (pss_one (ps_ret (pv 1))))), fun fit => ?_⟩
  refine ⟨Nat.zero_le _, fun l hl => ?_⟩
  have s1 := same_new hl (.lst [])
  refine ⟨_, rfl, Nat.zero_le _, fun b hb => ?_⟩
  have s2 := same_new hb (.lst [])
  have nbl : b ≠ l := fun z => by rw [z, upd_same] at hb; cases hb
  refine ⟨_, rfl, v, b, l, g, [], [], N, d, e, rfl, (hv.to s1).to s2, hok, he, hd, upd_same, nbl, by simpa using he2, s2 _ _ upd_same, Rg.nil, h0, hN, fun H2 b2 e2 => ?_⟩
  refine ⟨_, rfl, q l H2 ?_ e2⟩
  exact But.to_same s1 hl ((But.of s2).trans b2)
end
end K3

/-! the Namer. -/
namespace K3
open PySem PySem.Spec PyProof.Rows L2
section
variable {P : Program} {w : World} {K : PySem.W.Frag} {mg : Str → Option Value} {base : Heap}
theorem putF_len (f : Str) (v : V) : ∀ fs : List (Str × V), (putF f v fs).length ≤ fs.length + 1
  | [] => Nat.le_refl _
  | (g, x) :: r => by
    unfold putF
    split
    · simp
    · have := putF_len f v r
      simp only [List.length_cons]
      omega
/-- skolem, part_name -/
def spSym (K : PySem.W.Frag) (k : Int) : Sp := fun vs H Q _ => ∃ a b : Int, vs = [.int a, .int b] ∧ Giv K H Q (symD (k, a, b))
theorem ok_part_name (D : Def K mg "part_name" s_part_name p_part_name) : Cal P w K mg base 1 "part_name" p_part_name (spSym K 4) := by
  refine D.ok sc_part_name (N := n_part_name) (fun vs H Q E h => ?_) (fun f cdv A outer s H vs Q E hr h => ?_)
  · obtain ⟨a, b, rfl, _⟩ := h
    rfl
  obtain ⟨a, b, rfl, q⟩ := h
  refine ⟨_, (pss_one (ps_ret (pe_tup (pa_cons pe_int (pa_cons (pv 0) (pa_cons (pv 1) pa_nil)))))), fun fit => ?_⟩
  refine ⟨_, rfl, _, rfl, z3, fun p hp => ?_⟩
  obtain ⟨s1, i1⟩ := nt3 (K := K) hp (.int 4) (.int a) (.int b)
  exact q _ _ s1 i1
theorem ok_skolem (D : Def K mg "skolem" s_skolem p_skolem) : Cal P w K mg base 1 "skolem" p_skolem (spSym K 3) := by
  refine D.ok sc_skolem (N := n_skolem) (fun vs H Q E h => ?_) (fun f cdv A outer s H vs Q E hr h => ?_)
  · obtain ⟨a, b, rfl, _⟩ := h
    rfl
  obtain ⟨a, b, rfl, q⟩ := h
  refine ⟨_, (pss_one (ps_ret (pe_tup (pa_cons pe_int (pa_cons (pv 0) (pa_cons (pv 1) pa_nil)))))), fun fit => ?_⟩
  refine ⟨_, rfl, _, rfl, z3, fun p hp => ?_⟩
  obtain ⟨s1, i1⟩ := nt3 (K := K) hp (.int 3) (.int a) (.int b)
  exact q _ _ s1 i1
/-! ### the object -/
def nf (a c : Int) (l : Addr) : List (Str × V) := putF "extra" (.ref l) (putF "count" (.int c) (putF "number" (.int a) []))
theorem ne_cn : ¬ (("number" : Str) = "count") := by decide +kernel
theorem ne_en : ¬ (("number" : Str) = "extra") := by decide +kernel
theorem ne_ec : ¬ (("count" : Str) = "extra") := by decide +kernel
theorem nf_len (a c : Int) (l : Addr) : (nf a c l).length < 1000 := by
  unfold nf
  have h1 := putF_len "extra" (.ref l) (putF "count" (.int c) (putF "number" (.int a) []))
  have h2 := putF_len "count" (.int c) (putF "number" (.int a) [])
  have h3 := putF_len "number" (.int a) []
  simp only [List.length_nil] at h3
  omega
theorem nf_number (a c : Int) (l : Addr) : (nf a c l).lookup ("number" : Str) = some (.int a) := by
  unfold nf
  rw [lookup_putF, if_neg ne_en, lookup_putF, if_neg ne_cn, lookup_putF, if_pos rfl]
theorem nf_count (a c : Int) (l : Addr) : (nf a c l).lookup ("count" : Str) = some (.int c) := by
  unfold nf
  rw [lookup_putF, if_neg ne_ec, lookup_putF, if_pos rfl]
theorem nf_extra (a c : Int) (l : Addr) : (nf a c l).lookup ("extra" : Str) = some (.ref l) := by
  unfold nf
  rw [lookup_putF, if_pos rfl]
theorem nf_no (a c : Int) (l : Addr) {m : Str} (h1 : ¬ m = "extra") (h2 : ¬ m = "count") (h3 : ¬ m = "number") : (nf a c l).lookup m = none := by
  unfold nf
  rw [lookup_putF, if_neg h1, lookup_putF, if_neg h2, lookup_putF, if_neg h3]
  rfl
theorem nf_eq (a c : Int) (l : Addr) : nf a c l = ([("number", V.int a), ("count", V.int c), ("extra", V.ref l)] : List (Str × V)) := by
  unfold nf
  show putF "extra" (.ref l) (if ("number" : Str) = "count" then _ else (("number" : Str), V.int a) :: [(("count" : Str), V.int c)]) = _
  rw [if_neg ne_cn]
  show (if ("number" : Str) = "extra" then _ else (("number" : Str), V.int a) :: (if ("count" : Str) = "extra" then _ else (("count" : Str), V.int c) :: [(("extra" : Str), V.ref l)])) = _
  rw [if_neg ne_en, if_neg ne_ec]
  all_goals rfl
theorem nf_put (a c c' : Int) (l : Addr) : putF "count" (.int c') (nf a c l) = nf a c' l := by
  rw [nf_eq, nf_eq]
  show (if ("number" : Str) = "count" then _ else (("number" : Str), V.int a) :: (if ("count" : Str) = "count" then (("count" : Str), V.int c') :: [(("extra" : Str), V.ref l)] else _)) = _
  rw [if_neg ne_cn, if_pos rfl]
  all_goals rfl
/-- what is asked of the class Namer -/
structure TN (K : PySem.W.Frag) (C : Addr) : Prop where
  cl : Cls K C
  number : NoAttr K C "number"
  count : NoAttr K C "count"
  extra : NoAttr K C "extra"
structure NamerAt (K : PySem.W.Frag) (C : Addr) (H : Hp) (p : Addr) (a c : Int) (l : Addr) (ex : List Fm) : Prop where
  ob : ∃ dx, H p = some (.ins C dx (nf a c l))
  ls : Ls K H l (ex.map Fm.d)
theorem NamerAt.ne {C : Addr} {H : Hp} {p l : Addr} {a c : Int} {ex : List Fm} (h : NamerAt K C H p a c l ex) : p ≠ l := by
  obtain ⟨⟨dx, e⟩, xs, e2, _⟩ := h
  exact ne_of e e2 (by intro z; cases z)
theorem NamerAt.to {C : Addr} {H H' : Hp} {p l : Addr} {a c : Int} {ex : List Fm} (h : NamerAt K C H p a c l ex) (s : Same H H') : NamerAt K C H' p a c l ex := by
  obtain ⟨⟨dx, e⟩, ls⟩ := h
  exact ⟨⟨dx, s _ _ e⟩, ls.to s⟩
def spNInit (C : Addr) : Sp := fun vs H Q _ => ∃ (p dx : Addr) (a : Int), vs = [.ref p, .int a] ∧ H p = some (.ins C dx []) ∧ ∀ (l : Addr) (H' : Hp), H l = none → H' l = some (.lst []) → H' p = some (.ins C dx (nf a 0 l)) → But p H H' → Q .non H'
theorem ok_Namer_init {C : Addr} (TC : TN K C) (D : KDef K mg C "Namer" "Namer.__init__" s_Namer___init__ p_Namer___init__) : KCal P w K mg base C 1 "Namer" p_Namer___init__ (spNInit C) := by
  refine D.ok sc_Namer___init__ (N := n_Namer___init__) (fun vs H Q E h => ?_) (fun f cdv A outer s H vs Q E hr h => ?_)
  · obtain ⟨p, dx, a, rfl, _⟩ := h
    rfl
  obtain ⟨p, dx, a, rfl, hp, q⟩ := h
  refine ⟨_, (pss_cons (ps_fld (pv 0) (pv 1) rfl)
      (pss_cons (ps_fld (pv 0) pe_int rfl)
      (pss_one (ps_fld (pv 0) (pe_lst pa_nil) rfl)))), fun fit => ?_⟩
  have l1 := putF_len "number" (.int a) []
  have l2 := putF_len "count" (.int 0) (putF "number" (.int a) [])
  simp only [List.length_nil] at l1
  refine ⟨_, rfl, _, rfl, p, C, dx, _, rfl, hp, TC.cl, TC.number, by decide, ?_⟩
  refine ⟨_, rfl, p, C, dx, _, rfl, upd_same, TC.cl, TC.count, by omega, ?_⟩
  refine ⟨Nat.zero_le _, fun l hl => ?_⟩
  have npl : p ≠ l := fun z => by rw [← z, upd_same] at hl; cases hl
  have hl0 : H l = none := by rw [upd_ne npl.symm, upd_ne npl.symm] at hl; exact hl
  refine ⟨_, rfl, p, C, dx, _, rfl, (upd_ne npl).trans upd_same, TC.cl, TC.extra, by omega, ?_⟩
  refine q l _ hl0 ?_ upd_same fun b o e n => ?_
  · rw [upd_ne npl.symm, upd_same]
  · rw [upd_ne n, upd_ne (ne_of_none e hl0), upd_ne n, upd_ne n]
    exact e
/-- short -/
def spShort (K : PySem.W.Frag) (C : Addr) (m n : Nat) : Sp := fun vs H Q _ => ∃ (p l : Addr) (v : V) (g : Fm) (a c : Int) (ex : List Fm) (N : Int) (d e : Nat), vs = [.ref p, v] ∧ NamerAt K C H p a c l ex ∧ Im K H v g.d ∧ g.ok N d e ∧ e < n ∧ d < m ∧ e ≤ 1000 ∧ 0 ≤ N ∧ N ≤ big ∧ ex.length ≤ 1000000 ∧
  ∀ v' H', But2 p l H H' → NamerAt K C H' p a (short a g c ex).2.1 l (short a g c ex).2.2 → Im K H' v' (short a g c ex).1.d → Q v' H'
theorem allOf_d (x : Int) (vs : List Int) (g : Fm) : (allOf (x :: vs) g).d = .tuple [.str "all", .int x, (allOf vs g).d] := rfl
theorem ok_Namer_short {C : Addr} {m n : Nat} (T : Txt w K mg) (TC : TN K C) (D : MDef K C "short" "Namer.short" s_Namer_short p_Namer_short) (c_is_simple : Cal P w K mg base 1 "is_simple" p_is_simple (spSimple K)) (c_part_name : Cal P w K mg base 1 "part_name" p_part_name (spSym K 4))
    (c_free_variables : Cal P w K mg base (n + m + 3) "free_variables" p_free_variables (spFV K m n)) : MCal P w K mg base C (n + m + 4) "short" p_Namer_short (spShort K C m n) := by
  refine D.ok sc_Namer_short (N := n_Namer_short) (fun vs H Q E h => ?_) (fun f cdv A outer s H vs Q E hr h => ?_)
  · obtain ⟨p, l, v, g, a, c, ex, N, d, e, rfl, _⟩ := h
    rfl
  obtain ⟨p, l, v, g, a, c, ex, N, d, e, rfl, na, hv, hok, he, hd, he2, h0, hN, hex, q⟩ := h
  refine ⟨_, (pss_cons (ps_if (pt_val (pc c_is_simple (hr.mono (by omega)) rfl (pa_cons (pv 1) pa_nil))) (pss_one (ps_ret (pv 1))) pss_nil)
      (pss_cons (ps_set (i := 2) sc_Namer_short.nd rfl (Or.inl rfl) (pc c_free_variables (hr.mono (by omega)) rfl (pa_cons (pv 1) pa_nil)))
      (pss_cons (ps_set (i := 3) sc_Namer_short.nd rfl (Or.inl rfl) (pe_tup (pa_cons pe_str (pa_cons (pe_tup (pa_cons (pc c_part_name (hr.mono (by omega)) rfl (pa_cons (pe_fld (pv 0) rfl) (pa_cons (pe_fld (pv 0) rfl) pa_nil))) (pa_cons (pe_callTy call_tuple_of rfl T.m_tuple (by decide +kernel) (pa_cons (pv 2) pa_nil)) pa_nil))) pa_nil))))
      (pss_cons (ps_fldaug (pv 0) pe_int in_add)
      (pss_cons (ps_set (i := 4) sc_Namer_short.nd rfl (Or.inl rfl) (pe_tup (pa_cons pe_str (pa_cons (pv 3) (pa_cons (pv 1) pa_nil)))))
      (pss_cons (ps_for PassesOwn.never rfl (pi_reversed rfl T.m_reversed (pa_cons (pv 2) pa_nil)) (pg_name (i := 5) sc_Namer_short.nd rfl (Or.inl rfl)) (pss_one (ps_set (i := 4) sc_Namer_short.nd rfl (Or.inl rfl) (pe_tup (pa_cons pe_str (pa_cons (pv 5) (pa_cons (pv 4) pa_nil)))))))
      (pss_cons (ps_expr (pe_bm PySem.F.plainAttrs_list PySem.F.slot_list_append PySem.F.type_list_append mt_append (pe_fld (pv 0) rfl) (pa_cons (pv 4) pa_nil)))
      (pss_one (ps_ret (pv 3)))))))))), fun fit => ?_⟩
  refine ⟨_, rfl, v, g, rfl, hv, _, rfl, ?_⟩
  cases hs : simple g with
  | true =>
    refine iteT ⟨_, rfl, ?_⟩
    unfold short at q
    simp only [if_pos hs] at q
    exact q v H (But2.refl p l H) na hv
  | false =>
    have hs' : ¬ simple g = true := by rw [hs]; exact Bool.false_ne_true
    unfold short at q
    simp only [if_neg hs'] at q
    refine iteF ?_
    obtain ⟨⟨dx, hp⟩, xs, hl, rx⟩ := id na
    have npl := na.ne
    have rg := fv_rg hok
    refine ⟨_, rfl, v, g, N, d, e, rfl, hv, hok, he, hd, he2, h0, hN, fun lf H1 s1 e1 => ?_⟩
    refine ⟨_, rfl, p, C, dx, _, _, rfl, s1 _ _ hp, TC.cl, TC.number, nf_number _ _ _, _, rfl, p, C, dx, _, _, rfl, s1 _ _ hp, TC.cl, TC.count, nf_count _ _ _, a, c, rfl, fun v1 H2 s2 i2 => ?_⟩
    refine ⟨_, rfl, lf, _, rfl, .inl ⟨SqL.of (s2 _ _ e1), fun tp htp => ?_⟩⟩
    have s3 := same_new htp (.tup (iv (fv g)))
    have i3 : Im K (upd H2 tp (.tup (iv (fv g)))) (.ref tp) (.tuple (tmsD ((fv g).map Tm.var))) := im_vars (.inl upd_same)
    refine ⟨z2, fun p1 hp1 => ?_⟩
    obtain ⟨s4, i4⟩ := nt2 hp1 (i2.to s3) i3
    refine ⟨z2, fun p2 hp2 => ?_⟩
    obtain ⟨s5, i5⟩ := nt2 hp2 (.str "atom") i4
    have s15 := (((s1.trans s2).trans s3).trans s4).trans s5
    have ei : (Fm.at (.atom (partA a c (fv g)))).d = .tuple [.str "atom", .tuple [symD (4, a, c), .tuple (tmsD ((fv g).map Tm.var))]] := by
      show PyData.tuple [.str "atom", (partA a c (fv g)).d] = _
      unfold partA
      rw [Tm.d_app]
    have i5' := i5
    rw [← ei] at i5'
    have ef5 := s5 _ _ (s4 _ _ (s3 _ _ (s2 _ _ e1)))
    have hv5 := hv.to s15
    have hp5 := s15 _ _ hp
    have hl5 := s15 _ _ hl
    have rx5 := rx.to s15
    generalize hH5 : upd (upd (upd H2 tp (.tup (iv (fv g)))) p1 (.tup [v1, .ref tp])) p2 (.tup [.str "atom", .ref p1]) = H5 at *
    clear hH5 i5 i4 i3 s5 s4 s3 hp1 hp2 htp
    refine ⟨_, rfl, p, C, dx, _, _, rfl, hp5, TC.cl, TC.count, nf_count _ _ _, _, _, rfl, rfl, dx, _, hp5, nf_len _ _ _, ?_⟩
    rw [nf_put]
    have b6 : But p H5 (upd H5 p (.ins C dx (nf a (c + 1) l))) := But.upd _
    have t6 := b6.tups hp5 trivial
    have hp6 : (upd H5 p (.ins C dx (nf a (c + 1) l))) p = some (.ins C dx (nf a (c + 1) l)) := upd_same
    have nfl : lf ≠ p := ne_of ef5 hp5 (by intro z; cases z)
    have ef6 := b6 _ _ ef5 nfl
    have hl6 := b6 _ _ hl5 npl.symm
    have rx6 := rx5.mono t6
    have hv6 := hv5.mono t6
    have i6 := i5'.mono t6
    generalize hH6 : upd H5 p (.ins C dx (nf a (c + 1) l)) = H6 at *
    clear hH6
    refine ⟨_, rfl, _, rfl, z3, fun p3 hp3 => ?_⟩
    obtain ⟨s7, i7⟩ := nt3 hp3 (.str "iff") i6 hv6
    have lenf : (iv (fv g)).length = (fv g).length := iv_len _
    refine ⟨_, rfl, lf, _, rfl, SqL.of (s7 _ _ ef6), RT.for_Itv (K := K) (a := lf) (xs := iv (fv g)) (fun j σ' H' => ∃ fvv u, σ' = [some (.ref p), some v, some (.ref lf), some (.ref p2), some fvv, u] ∧ Same H6 H' ∧ j ≤ (fv g).length ∧ Im K H' fvv (allOf ((fv g).drop ((fv g).length - j)) (.bin .iff (.at (.atom (partA a c (fv g)))) g)).d)
      ⟨_, none, rfl, s7, Nat.zero_le _, ?_⟩ (fun j σ' H' ⟨_, _, _, s, _⟩ => SqL.of (s _ _ ef6)) ?_ ?_⟩
    · rw [Nat.sub_zero, List.drop_length]
      exact i7
    · rintro j x σ' H' hj hx ⟨fvv, u, rfl, s, hj2, ij⟩
      rw [lenf] at hj hx
      obtain ⟨vv, hvv, rfl⟩ : ∃ vv, (fv g)[(fv g).length - 1 - j]? = some vv ∧ x = .int vv := by
        unfold iv at hx
        rw [List.getElem?_map] at hx
        obtain ⟨vv, h1, h2⟩ := Option.map_eq_some_iff.mp hx
        exact ⟨vv, h1, h2.symm⟩
      refine ⟨_, rfl, _, rfl, z3, fun p4 hp4 => ?_⟩
      obtain ⟨s8, i8⟩ := nt3 hp4 (.str "all") (.int vv) ij
      refine ⟨_, _, rfl, s.trans s8, hj, ?_⟩
      have hlt : (fv g).length - 1 - j < (fv g).length := by omega
      have ed : (fv g).drop ((fv g).length - (j + 1)) = vv :: (fv g).drop ((fv g).length - j) := by
        rw [show (fv g).length - (j + 1) = (fv g).length - 1 - j by omega, List.drop_eq_getElem_cons hlt, show (fv g).length - 1 - j + 1 = (fv g).length - j by omega]
        congr 1
        rw [List.getElem?_eq_getElem hlt] at hvv
        exact Option.some.inj hvv
      rw [ed, allOf_d]
      exact i8
    · rintro σ' H' ⟨fvv, u, rfl, s, hj2, ij⟩
      rw [lenf, Nat.sub_self, List.drop_zero] at ij
      have hp7 := s _ _ hp6
      have hl7 := s _ _ hl6
      have rx7 := rx6.to s
      have zl : xs.length < sizeLine := by
        rw [rx.len, List.length_map]
        exact Nat.lt_of_le_of_lt hex (by decide)
      refine ⟨_, rfl, p, C, dx, _, _, rfl, hp7, TC.cl, TC.extra, nf_extra _ _ _, .inl ⟨rfl, _, SqL.of hl7⟩, _, rfl, l, _, _, rfl, rfl, hl7, zl, ?_⟩
      have b8 : But l H' (upd H' l (.lst (xs ++ [fvv]))) := But.upd _
      have t8 := b8.tups hl7 trivial
      refine ⟨_, rfl, q (.ref p2) _ ?_ ⟨⟨dx, ?_⟩, xs ++ [fvv], upd_same, ?_⟩ ?_⟩
      · exact ((But2.of s15).trans (But2.ofl b6)).trans ((But2.of s).trans (But2.ofr b8))
      · exact b8 _ _ hp7 npl
      · rw [List.map_append]
        exact (rx7.snoc ij).mono t8
      · exact (i6.to s).mono t8
/-- traverse -/
def spTrav (K : PySem.W.Frag) (C : Addr) (m n : Nat) : Sp := fun vs H Q _ => ∃ (p l : Addr) (v : V) (g : Fm) (a c : Int) (ex : List Fm) (N : Int) (d e : Nat), vs = [.ref p, v] ∧ NamerAt K C H p a c l ex ∧ Im K H v g.d ∧ g.ok N (d + 1) e ∧ e < n ∧ d + 1 < m ∧ e ≤ 1000 ∧ 0 ≤ N ∧ N ≤ big ∧ ex.length + 2 ^ (e + 1) ≤ 1000000 ∧
  ∀ v' H', But2 p l H H' → NamerAt K C H' p a (trav a g c ex).2.1 l (trav a g c ex).2.2 → Im K H' v' (trav a g c ex).1.d → Q v' H'
theorem NamerAt.tups {C : Addr} {H H' : Hp} {p l : Addr} {a c : Int} {ex : List Fm} (h : NamerAt K C H p a c l ex) (b : But2 p l H H') : Tups H H' := by
  obtain ⟨⟨dx, e⟩, xs, e2, _⟩ := h
  exact b.tups e trivial e2 trivial
theorem no_short (a c : Int) (l : Addr) : (nf a c l).lookup ("short" : Str) = none := nf_no _ _ _ (by decide +kernel) (by decide +kernel) (by decide +kernel)
theorem no_traverse (a c : Int) (l : Addr) : (nf a c l).lookup ("traverse" : Str) = none := nf_no _ _ _ (by decide +kernel) (by decide +kernel) (by decide +kernel)
theorem ok_Namer_traverse {C : Addr} {m b : Nat} (D : MDef K C "traverse" "Namer.traverse" s_Namer_traverse p_Namer_traverse) (m_Namer_short : MCal P w K mg base C (b + m + 4) "short" p_Namer_short (spShort K C m b)) : ∀ n : Nat, n ≤ b → MCal P w K mg base C (n + (b + m + 4)) "traverse" p_Namer_traverse (spTrav K C m n)
  | 0, _ => D.none _ fun vs H Q E h => by
    obtain ⟨p, l, v, g, a, c, ex, N, d, e, _, _, _, _, he, _⟩ := h
    omega
  | n + 1, hnb => by
    have m_Namer_traverse := ok_Namer_traverse D m_Namer_short n (by omega)
    rw [show n + 1 + (b + m + 4) = (n + (b + m + 4)) + 1 by omega]
    refine D.ok sc_Namer_traverse (N := n_Namer_traverse) (fun vs H Q E h => ?_) (fun f cdv A outer s H vs Q E hr h => ?_)
    · obtain ⟨p, l, v, g, a, c, ex, N, d, e, rfl, _⟩ := h
      rfl
    obtain ⟨p, l, v, g, a, c, ex, N, d, e, rfl, na, hv, hok, he, hd, he2, h0, hN, hex, q⟩ := h
    refine ⟨_, (pss_cons (ps_set (i := 2) sc_Namer_traverse.nd rfl (Or.inl rfl) (pe_ix (ixT (K := K) rfl) (pv 1) pe_int (fun _ _ => rfl)))
      (pss_cons (ps_if (PW.pt (pw_or (pt_cmpR op_eq (pv 2) pe_str (nomark _)) (pw_or1 (pt_cmpR op_eq (pv 2) pe_str (nomark _))))) (pss_one (ps_ret (pv 1))) pss_nil)
      (pss_cons (ps_if (pt_cmpR op_eq (pv 2) pe_str (nomark _)) (pss_one (ps_ret (pe_tup (pa_cons pe_str (pa_cons (pm m_Namer_traverse (hr.mono (by omega)) (pv 0) (pa_cons (pe_ix (ixT (K := K) rfl) (pv 1) pe_int (fun _ _ => rfl)) pa_nil)) pa_nil))))) pss_nil)
      (pss_cons (ps_if (PW.pt (pw_or (pt_cmpR op_eq (pv 2) pe_str (nomark _)) (pw_or1 (pt_cmpR op_eq (pv 2) pe_str (nomark _))))) (pss_one (ps_ret (pe_tup (pa_cons (pv 2) (pa_cons (pe_ix (ixT (K := K) rfl) (pv 1) pe_int (fun _ _ => rfl)) (pa_cons (pm m_Namer_traverse (hr.mono (by omega)) (pv 0) (pa_cons (pe_ix (ixT (K := K) rfl) (pv 1) pe_int (fun _ _ => rfl)) pa_nil)) pa_nil)))))) pss_nil)
      (pss_cons (ps_set (i := 3) sc_Namer_traverse.nd rfl (Or.inl rfl) (pm m_Namer_traverse (hr.mono (by omega)) (pv 0) (pa_cons (pe_ix (ixT (K := K) rfl) (pv 1) pe_int (fun _ _ => rfl)) pa_nil)))
      (pss_cons (ps_set (i := 4) sc_Namer_traverse.nd rfl (Or.inl rfl) (pm m_Namer_traverse (hr.mono (by omega)) (pv 0) (pa_cons (pe_ix (ixT (K := K) rfl) (pv 1) pe_int (fun _ _ => rfl)) pa_nil)))
      (pss_cons (ps_if (pt_cmpR op_eq (pv 2) pe_str (nomark _)) (pss_cons (ps_set (i := 3) sc_Namer_traverse.nd rfl (Or.inl rfl) (pm m_Namer_short (hr.mono (by omega)) (pv 0) (pa_cons (pv 3) pa_nil)))
      (pss_one (ps_set (i := 4) sc_Namer_traverse.nd rfl (Or.inl rfl) (pm m_Namer_short (hr.mono (by omega)) (pv 0) (pa_cons (pv 4) pa_nil))))) pss_nil)
      (pss_one (ps_ret (pe_tup (pa_cons (pv 2) (pa_cons (pv 3) (pa_cons (pv 4) pa_nil))))))))))))), fun fit => ?_⟩
    cases g with
    | «at» x =>
      obtain ⟨b0, xs, ds, rfl, tt, ra, ed⟩ := Fm.im hv
      have htg : (Fm.at x).tag = "atom" ∨ (Fm.at x).tag = "equal" := by cases x with
        | atom t => exact .inl rfl
        | equal t r => exact .inr rfl
      refine ⟨_, rfl, b0, _, 0, _, rfl, rfl, tt.sq, at0, ?_⟩
      refine tagOrT rfl htg ?_
      exact ⟨_, rfl, q _ H (But2.refl p l H) na hv⟩
    | not k =>
      cases e with
      | zero => exact hok.elim
      | succ e =>
      obtain ⟨b0, x, y, rfl, tt, hx, hy⟩ := im2 hv
      have ex' := hx.str_inv
      subst ex'
      obtain ⟨dx, hp⟩ := na.ob
      have pw := two_pow (e + 1)
      refine ⟨_, rfl, b0, _, 0, _, rfl, rfl, tt.sq, rfl, ?_⟩
      refine tagOrF rfl (by decide +kernel) (by decide +kernel) ?_
      refine tagT rfl rfl ?_
      refine ⟨_, rfl, p, dx, _, rfl, hp, no_traverse _ _ _, _, rfl, b0, _, 1, _, rfl, rfl, tt.sq, rfl, p, l, y, k, a, c, ex, N, d, e, rfl, na, hy, hok, by omega, hd, by omega, h0, hN, by omega, fun v1 H1 b1 na1 i1 => ?_⟩
      refine ⟨z2, fun p1 hp1 => ?_⟩
      obtain ⟨s2, i2⟩ := nt2 hp1 (.str "not") i1
      exact q _ _ (b1.trans (But2.of s2)) (na1.to s2) i2
    | qu k xv f =>
      cases e with
      | zero => exact hok.elim
      | succ e =>
      obtain ⟨b0, x, y, z, rfl, tt, hx, hy, hz⟩ := im3 hv
      have ex' := hx.str_inv
      have ey := hy.int_inv
      subst ex' ey
      obtain ⟨dx, hp⟩ := na.ob
      have pw := two_pow (e + 1)
      have h1 : ¬ tagQ k = "atom" := by cases k <;> decide +kernel
      have h2 : ¬ tagQ k = "equal" := by cases k <;> decide +kernel
      have h3 : ¬ tagQ k = "not" := by cases k <;> decide +kernel
      have h4 : tagQ k = "all" ∨ tagQ k = "some" := by cases k; exact .inr rfl; exact .inl rfl
      refine ⟨_, rfl, b0, _, 0, _, rfl, rfl, tt.sq, rfl, ?_⟩
      refine tagOrF rfl h1 h2 ?_
      refine tagF rfl h3 ?_
      refine tagOrT rfl h4 ?_
      refine ⟨_, rfl, _, rfl, b0, _, 1, _, rfl, rfl, tt.sq, rfl, _, rfl, p, dx, _, rfl, hp, no_traverse _ _ _, _, rfl, b0, _, 2, _, rfl, rfl, tt.sq, rfl, p, l, z, f, a, c, ex, N, d, e, rfl, na, hz, hok, by omega, hd, by omega, h0, hN, by omega, fun v1 H1 b1 na1 i1 => ?_⟩
      refine ⟨z3, fun p1 hp1 => ?_⟩
      obtain ⟨s2, i2⟩ := nt3 hp1 (.str (tagQ k)) (.int xv) i1
      exact q _ _ (b1.trans (But2.of s2)) (na1.to s2) i2
    | bin o k1 k2 =>
      cases e with
      | zero => exact hok.elim
      | succ e =>
      obtain ⟨b0, x, y, z, rfl, tt, hx, hy, hz⟩ := im3 hv
      have ex' := hx.str_inv
      subst ex'
      obtain ⟨dx, hp⟩ := na.ob
      have pw := two_pow (e + 1)
      have h1 : ¬ o.tag = "atom" := by cases o <;> decide +kernel
      have h2 : ¬ o.tag = "equal" := by cases o <;> decide +kernel
      have h3 : ¬ o.tag = "not" := by cases o <;> decide +kernel
      have h4 : ¬ o.tag = "all" := by cases o <;> decide +kernel
      have h5 : ¬ o.tag = "some" := by cases o <;> decide +kernel
      have hk1 : Fm.ok N (d + 1) e k1 := hok.1
      have hk2 : Fm.ok N (d + 1) e k2 := hok.2
      have ln1 := trav_len (a := a) (c := c) (ex := ex) hk1
      have o1 := trav_ok (a := a) (c := c) (ex := ex) hk1
      refine ⟨_, rfl, b0, _, 0, _, rfl, rfl, tt.sq, rfl, ?_⟩
      refine tagOrF rfl h1 h2 ?_
      refine tagF rfl h3 ?_
      refine tagOrF rfl h4 h5 ?_
      refine ⟨_, rfl, p, dx, _, rfl, hp, no_traverse _ _ _, _, rfl, b0, _, 1, _, rfl, rfl, tt.sq, rfl, p, l, y, k1, a, c, ex, N, d, e, rfl, na, hy, hk1, by omega, hd, by omega, h0, hN, by omega, fun v1 H1 b1 na1 i1 => ?_⟩
      have t1 := na.tups b1
      have ln2 := trav_len (a := a) (c := (trav a k1 c ex).2.1) (ex := (trav a k1 c ex).2.2) hk2
      have o2 := trav_ok (a := a) (c := (trav a k1 c ex).2.1) (ex := (trav a k1 c ex).2.2) hk2
      unfold trav at q
      simp only at q
      generalize hx1 : trav a k1 c ex = X1 at *
      obtain ⟨dx1, hp1⟩ := na1.ob
      refine ⟨_, rfl, p, dx1, _, rfl, hp1, no_traverse _ _ _, _, rfl, b0, _, 2, _, rfl, rfl, (tt.mono t1).sq, rfl, p, l, z, k2, a, X1.2.1, X1.2.2, N, d, e, rfl, na1, hz.mono t1, hk2, by omega, hd, by omega, h0, hN, by omega, fun v2 H2 b2 na2 i2 => ?_⟩
      have t2 := na1.tups b2
      generalize hx2 : trav a k2 X1.2.1 X1.2.2 = X2 at *
      by_cases ho : o = .iff
      · subst ho
        simp only [if_true] at q
        obtain ⟨dx2, hp2⟩ := na2.ob
        have s1l := short_len (a := a) (g := X1.1) (c := X2.2.1) (ex := X2.2.2)
        have so1 := short_ok (a := a) (c := X2.2.1) (ex := X2.2.2) o1
        refine tagT rfl rfl ?_
        refine ⟨_, rfl, p, dx2, _, rfl, hp2, no_short _ _ _, _, rfl, p, l, v1, X1.1, a, X2.2.1, X2.2.2, N, d + 1, e, rfl, na2, i1.mono t2, o1, by omega, hd, by omega, h0, hN, by omega, fun v3 H3 b3 na3 i3 => ?_⟩
        have t3 := na2.tups b3
        generalize hx3 : short a X1.1 X2.2.1 X2.2.2 = X3 at *
        obtain ⟨dx3, hp3⟩ := na3.ob
        refine ⟨_, rfl, p, dx3, _, rfl, hp3, no_short _ _ _, _, rfl, p, l, v2, X2.1, a, X3.2.1, X3.2.2, N, d + 1, e, rfl, na3, i2.mono t3, o2, by omega, hd, by omega, h0, hN, by omega, fun v4 H4 b4 na4 i4 => ?_⟩
        have t4 := na3.tups b4
        refine ⟨_, rfl, _, rfl, _, rfl, z3, fun p5 hp5 => ?_⟩
        obtain ⟨s5, i5⟩ := nt3 hp5 (.str "iff") (i3.mono t4) i4
        exact q _ _ ((((b1.trans b2).trans b3).trans b4).trans (But2.of s5)) (na4.to s5) i5
      · have h6 : ¬ o.tag = "iff" := by cases o <;> first | exact absurd rfl ho | decide +kernel
        simp only [if_neg ho] at q
        refine tagF rfl h6 ?_
        refine ⟨_, rfl, _, rfl, _, rfl, z3, fun p5 hp5 => ?_⟩
        obtain ⟨s5, i5⟩ := nt3 hp5 (.str o.tag) (i1.mono t2) i2
        exact q _ _ ((b1.trans b2).trans (But2.of s5)) (na2.to s5) i5
/-- named -/
def spNamed (K : PySem.W.Frag) (n : Nat) : Sp := fun vs H Q _ => ∃ (v : V) (g : Fm) (a : Int) (N : Int) (d e : Nat), vs = [.int a, v] ∧ Im K H v g.d ∧ g.ok N (d + 1) e ∧ e < n ∧ e ≤ 5 ∧ d + 1 < 5 ∧ 0 ≤ N ∧ N ≤ big ∧
  ∀ (p l : Addr) (H' : Hp), Same H H' → TT K H' p [.ref l, .int (named a g).2] → Ls K H' l ((named a g).1.map Fm.d) → Q (.ref p) H'
theorem ok_named {C : Addr} {n k : Nat} (TC : TN K C) (D : Def K mg "named" s_named p_named) (k_Namer : KCal P w K mg base C 1 "Namer" p_Namer___init__ (spNInit C)) (m_Namer_traverse : MCal P w K mg base C (k + 2) "traverse" p_Namer_traverse (spTrav K C 5 n)) : Cal P w K mg base (k + 3) "named" p_named (spNamed K n) := by
  refine D.ok sc_named (N := n_named) (fun vs H Q E h => ?_) (fun f cdv A outer s H vs Q E hr h => ?_)
  · obtain ⟨v, g, a, N, d, e, rfl, _⟩ := h
    rfl
  obtain ⟨v, g, a, N, d, e, rfl, hv, hok, he, he5, hd, h0, hN, q⟩ := h
  refine ⟨_, (pss_cons (ps_set (i := 2) sc_named.nd rfl (Or.inl rfl) (pmk k_Namer (hr.mono (by omega)) rfl (pa_cons (pv 0) pa_nil)))
      (pss_cons (ps_set (i := 3) sc_named.nd rfl (Or.inl rfl) (pm m_Namer_traverse (hr.mono (by omega)) (pv 2) (pa_cons (pv 1) pa_nil)))
      (pss_one (ps_ret (pe_tup (pa_cons (pe_op op_cat (pe_lst (pa_cons (pv 3) pa_nil)) (pe_fld (pv 2) rfl)) (pa_cons (pe_fld (pv 2) rfl) pa_nil))))))), fun fit => ?_⟩
  refine ⟨_, rfl, ?_⟩
  intro p dx np ndx nne
  have s0 : Same H (upd (upd H dx (.own p)) p (.ins C dx [])) := (same_new ndx _).trans (same_new (by rw [upd_ne nne.symm]; exact np) _)
  refine ⟨p, dx, a, rfl, upd_same, fun l H1 hl0 el ep b1 => ⟨rfl, ?_⟩⟩
  have s1 : Same H H1 := But.to_same s0 np b1
  have na1 : NamerAt K C H1 p a 0 l [] := ⟨⟨dx, ep⟩, [], el, .nil⟩
  have pw : 2 ^ (e + 1) ≤ 2 ^ 6 := Nat.pow_le_pow_right (by decide) (by omega)
  refine ⟨_, rfl, p, dx, _, rfl, ep, no_traverse _ _ _, _, rfl, p, l, v, g, a, 0, [], N, d, e, rfl, na1, hv.to s1, hok, he, hd, by omega, h0, hN, by simp only [List.length_nil]; omega, fun v2 H2 b2 na2 i2 => ?_⟩
  have hl : H l = none := s0.free hl0
  have s2 : Same H H2 := fun b o e' => b2 b o (s1 _ _ e') (ne_of_none e' np) (ne_of_none e' hl)
  refine ⟨_, rfl, z1, fun q1 hq1 => ?_⟩
  have s3 := same_new hq1 (.lst [v2])
  obtain ⟨⟨dx2, ep2⟩, xs, el2, rx⟩ := na2.to s3
  have ln := trav_len (a := a) (c := 0) (ex := []) hok
  have lx := rx.len
  rw [List.length_map] at lx
  refine ⟨_, rfl, p, C, dx2, _, _, rfl, ep2, TC.cl, TC.extra, nf_extra _ _ _, q1, l, _, _, rfl, rfl, upd_same, el2, ?_, fun q2 hq2 => ?_⟩
  · simp only [List.length_singleton]
    simp only [List.length_nil] at ln
    exact Nat.le_trans (show 1 + xs.length ≤ 1000 by omega) (by decide)
  have s4 := same_new hq2 (.lst ([v2] ++ xs))
  refine ⟨_, rfl, p, C, dx2, _, _, rfl, s4 _ _ ep2, TC.cl, TC.count, nf_count _ _ _, z2, fun q3 hq3 => ?_⟩
  have s5 := same_new hq3 (.tup [.ref q2, .int (trav a g 0 []).2.1])
  refine q q3 q2 _ (((s2.trans s3).trans s4).trans s5) (.inl upd_same) ⟨_, s5 _ _ upd_same, ?_⟩
  exact ((ImA.cons ((i2.to s3)) rx).to s4).to s5
end
end K3

/-! the Opener. -/
namespace K3
open PySem PySem.Spec PyProof.Rows L2
def litM (p : Bool) (x : At) (σ : List (Int × Tm)) : Lit := match x with
  | .atom t => ⟨p, put σ t, truth⟩
  | .equal l r => ⟨p, put σ l, put σ r⟩
theorem opn_lit (a : Int) (p : Bool) (x : At) (ar : List Int) (σ : List (Int × Tm)) (nv sk : Int) : opn a (.lit p x) ar σ nv sk = (.lit (litM p x σ), nv, sk) := by cases x <;> rfl
section
variable {P : Program} {w : World} {K : PySem.W.Frag} {mg : Str → Option Value} {base : Heap}
/-! ### the object -/
def nop (a s n : Int) : List (Str × V) := putF "next_variable" (.int n) (putF "skolems" (.int s) (putF "number" (.int a) []))
theorem ne_sn : ¬ (("number" : Str) = "skolems") := by decide +kernel
theorem ne_vn : ¬ (("number" : Str) = "next_variable") := by decide +kernel
theorem ne_vs : ¬ (("skolems" : Str) = "next_variable") := by decide +kernel
theorem nop_len (a s n : Int) : (nop a s n).length < 1000 := by
  unfold nop
  have h1 := putF_len "next_variable" (.int n) (putF "skolems" (.int s) (putF "number" (.int a) []))
  have h2 := putF_len "skolems" (.int s) (putF "number" (.int a) [])
  have h3 := putF_len "number" (.int a) []
  simp only [List.length_nil] at h3
  omega
theorem nop_number (a s n : Int) : (nop a s n).lookup ("number" : Str) = some (.int a) := by
  unfold nop
  rw [lookup_putF, if_neg ne_vn, lookup_putF, if_neg ne_sn, lookup_putF, if_pos rfl]
theorem nop_skolems (a s n : Int) : (nop a s n).lookup ("skolems" : Str) = some (.int s) := by
  unfold nop
  rw [lookup_putF, if_neg ne_vs, lookup_putF, if_pos rfl]
theorem nop_next (a s n : Int) : (nop a s n).lookup ("next_variable" : Str) = some (.int n) := by
  unfold nop
  rw [lookup_putF, if_pos rfl]
theorem nop_no (a s n : Int) {m : Str} (h1 : ¬ m = "next_variable") (h2 : ¬ m = "skolems") (h3 : ¬ m = "number") : (nop a s n).lookup m = none := by
  unfold nop
  rw [lookup_putF, if_neg h1, lookup_putF, if_neg h2, lookup_putF, if_neg h3]
  rfl
theorem nop_eq (a s n : Int) : nop a s n = ([("number", V.int a), ("skolems", V.int s), ("next_variable", V.int n)] : List (Str × V)) := by
  unfold nop
  show putF "next_variable" (.int n) (if ("number" : Str) = "skolems" then _ else (("number" : Str), V.int a) :: [(("skolems" : Str), V.int s)]) = _
  rw [if_neg ne_sn]
  show (if ("number" : Str) = "next_variable" then _ else (("number" : Str), V.int a) :: (if ("skolems" : Str) = "next_variable" then _ else (("skolems" : Str), V.int s) :: [(("next_variable" : Str), V.int n)])) = _
  rw [if_neg ne_vn, if_neg ne_vs]
  all_goals rfl
theorem nop_puts (a s n m : Int) : putF "skolems" (.int m) (nop a s n) = nop a m n := by
  rw [nop_eq, nop_eq]
  show (if ("number" : Str) = "skolems" then _ else (("number" : Str), V.int a) :: (if ("skolems" : Str) = "skolems" then (("skolems" : Str), V.int m) :: [(("next_variable" : Str), V.int n)] else _)) = _
  rw [if_neg ne_sn, if_pos rfl]
  all_goals rfl
theorem nop_putn (a s n m : Int) : putF "next_variable" (.int m) (nop a s n) = nop a s m := by
  rw [nop_eq, nop_eq]
  show (if ("number" : Str) = "next_variable" then _ else (("number" : Str), V.int a) :: (if ("skolems" : Str) = "next_variable" then _ else (("skolems" : Str), V.int s) :: (if ("next_variable" : Str) = "next_variable" then [(("next_variable" : Str), V.int m)] else _))) = _
  rw [if_neg ne_vn, if_neg ne_vs, if_pos rfl]
  all_goals rfl
structure TO (K : PySem.W.Frag) (C : Addr) : Prop where
  cl : Cls K C
  number : NoAttr K C "number"
  skolems : NoAttr K C "skolems"
  next : NoAttr K C "next_variable"
def OpAt (C : Addr) (H : Hp) (p : Addr) (a s n : Int) : Prop := ∃ dx, H p = some (.ins C dx (nop a s n))
theorem OpAt.to {C : Addr} {H H' : Hp} {p : Addr} {a x n : Int} (h : OpAt C H p a x n) (s : Same H H') : OpAt C H' p a x n := by
  obtain ⟨dx, e⟩ := h
  exact ⟨dx, s _ _ e⟩
def spOInit (C : Addr) : Sp := fun vs H Q _ => ∃ (p dx : Addr) (a : Int), vs = [.ref p, .int a] ∧ H p = some (.ins C dx []) ∧ ∀ H', OpAt C H' p a 0 0 → But p H H' → Q .non H'
theorem ok_Opener_init {C : Addr} (TC : TO K C) (D : KDef K mg C "Opener" "Opener.__init__" s_Opener___init__ p_Opener___init__) : KCal P w K mg base C 1 "Opener" p_Opener___init__ (spOInit C) := by
  refine D.ok sc_Opener___init__ (N := n_Opener___init__) (fun vs H Q E h => ?_) (fun f cdv A outer s H vs Q E hr h => ?_)
  · obtain ⟨p, dx, a, rfl, _⟩ := h
    rfl
  obtain ⟨p, dx, a, rfl, hp, q⟩ := h
  refine ⟨_, (pss_cons (ps_fld (pv 0) (pv 1) rfl)
      (pss_cons (ps_fld (pv 0) pe_int rfl)
      (pss_one (ps_fld (pv 0) pe_int rfl)))), fun fit => ?_⟩
  have l1 := putF_len "number" (.int a) []
  have l2 := putF_len "skolems" (.int 0) (putF "number" (.int a) [])
  simp only [List.length_nil] at l1
  refine ⟨_, rfl, _, rfl, p, C, dx, _, rfl, hp, TC.cl, TC.number, by decide, ?_⟩
  refine ⟨_, rfl, p, C, dx, _, rfl, upd_same, TC.cl, TC.skolems, by omega, ?_⟩
  refine ⟨_, rfl, p, C, dx, _, rfl, upd_same, TC.cl, TC.next, by omega, ?_⟩
  exact q _ ⟨dx, upd_same⟩ fun b o e n => by rw [upd_ne n, upd_ne n, upd_ne n]; exact e
/-- literal -/
def spOLit (K : PySem.W.Frag) (m : Nat) : Sp := fun vs H Q _ => ∃ (u v : V) (b : Addr) (p : Bool) (x : At) (σ : List (Int × Tm)) (N : Int) (d : Nat), vs = [u, v, .ref b, .bl p] ∧ Im K H v x.d ∧ x.ok N d ∧ d < m ∧ DR K H b σ ∧ Giv K H Q (Tr.lit (litM p x σ)).d
theorem ok_Opener_literal {C : Addr} {m : Nat} (T : Txt w K mg) (D : MDef K C "literal" "Opener.literal" s_Opener_literal p_Opener_literal) (c_put : Cal P w K mg base (m + 1) "put" p_put (spPut K m)) : MCal P w K mg base C (m + 2) "literal" p_Opener_literal (spOLit K m) := by
  refine D.ok sc_Opener_literal (N := n_Opener_literal) (fun vs H Q E h => ?_) (fun f cdv A outer s H vs Q E hr h => ?_)
  · obtain ⟨u, v, b, p, x, σ, N, d, rfl, _⟩ := h
    rfl
  obtain ⟨u, v, b, p, x, σ, N, d, rfl, hv, hok, hd, hD, q⟩ := h
  obtain ⟨aT, mg_TRUTH, iT⟩ := T.c_TRUTH
  refine ⟨_, (pss_cons (ps_if (pt_cmpR op_eq (pe_ix (ixT (K := K) rfl) (pv 1) pe_int (fun _ _ => rfl)) pe_str (nomark _)) (pss_one (ps_ret (pe_tup (pa_cons pe_str (pa_cons (pe_tup (pa_cons (pv 3) (pa_cons (pc c_put (hr.mono (by omega)) rfl (pa_cons (pe_ix (ixT (K := K) rfl) (pv 1) pe_int (fun _ _ => rfl)) (pa_cons (pv 2) pa_nil))) (pa_cons (pgl rfl mg_TRUTH) pa_nil)))) pa_nil))))) pss_nil)
      (pss_one (ps_ret (pe_tup (pa_cons pe_str (pa_cons (pe_tup (pa_cons (pv 3) (pa_cons (pc c_put (hr.mono (by omega)) rfl (pa_cons (pe_ix (ixT (K := K) rfl) (pv 1) pe_int (fun _ _ => rfl)) (pa_cons (pv 2) pa_nil))) (pa_cons (pc c_put (hr.mono (by omega)) rfl (pa_cons (pe_ix (ixT (K := K) rfl) (pv 1) pe_int (fun _ _ => rfl)) (pa_cons (pv 2) pa_nil))) pa_nil)))) pa_nil)))))), fun fit => ?_⟩
  cases x with
  | atom t =>
    obtain ⟨a, x1, x2, rfl, tt, h1, h2⟩ := im2 hv
    have e1 := h1.str_inv
    subst e1
    refine ⟨_, rfl, a, _, 0, _, rfl, rfl, tt.sq, rfl, rfl, _, rfl, stT rfl ?_⟩
    refine ⟨_, rfl, _, rfl, a, _, 1, _, rfl, rfl, tt.sq, rfl, _, rfl, x2, b, t, σ, N, d, rfl, h2, hok, hd, hD, fun v1 H1 s1 i1 => ?_⟩
    refine ⟨z3, fun p1 hp1 => ?_⟩
    obtain ⟨s2, i2⟩ := nt3 hp1 (.bl p) i1 (iT H1)
    refine ⟨z2, fun p2 hp2 => ?_⟩
    obtain ⟨s3, i3⟩ := nt2 hp2 (.str "literal") i2
    exact q _ _ ((s1.trans s2).trans s3) i3
  | equal l r =>
    obtain ⟨a, x1, x2, x3, rfl, tt, h1, h2, h3⟩ := im3 hv
    have e1 := h1.str_inv
    subst e1
    refine ⟨_, rfl, a, _, 0, _, rfl, rfl, tt.sq, rfl, rfl, _, rfl, stF (by decide +kernel) ?_⟩
    refine ⟨_, rfl, _, rfl, a, _, 1, _, rfl, rfl, tt.sq, rfl, _, rfl, x2, b, l, σ, N, d, rfl, h2, hok.1, hd, hD, fun v1 H1 s1 i1 => ?_⟩
    refine ⟨_, rfl, a, _, 2, _, rfl, rfl, (tt.mono (Tups.of s1)).sq, rfl, _, rfl, x3, b, r, σ, N, d, rfl, h3.to s1, hok.2, hd, hD.to s1, fun v2 H2 s2 i2 => ?_⟩
    refine ⟨z3, fun p1 hp1 => ?_⟩
    obtain ⟨s3, i3⟩ := nt3 hp1 (.bl p) (i1.to s2) i2
    refine ⟨z2, fun p2 hp2 => ?_⟩
    obtain ⟨s4, i4⟩ := nt2 hp2 (.str "literal") i3
    exact q _ _ (((s1.trans s2).trans s3).trans s4) i4
/-- traverse -/
def arD (ar : List Int) : PyData := .tuple (tmsD (ar.map Tm.var))
def spOTrav (K : PySem.W.Frag) (C : Addr) (m n : Nat) : Sp := fun vs H Q _ => ∃ (p b : Addr) (v u : V) (f : Nf) (ar : List Int) (σ : List (Int × Tm)) (a sk nv : Int) (N : Int) (d : Nat), vs = [.ref p, v, u, .ref b] ∧ OpAt C H p a sk nv ∧ Im K H v f.d ∧ Im K H u (arD ar) ∧ DR K H b σ ∧
  f.ok N d ∧ f.dp < n ∧ d < m ∧ σ.length + f.dp ≤ 1000 ∧ ar.length + f.dp ≤ 1000 ∧
  ∀ v' H', But p H H' → OpAt C H' p a (opn a f ar σ nv sk).2.2 (opn a f ar σ nv sk).2.1 → Im K H' v' (opn a f ar σ nv sk).1.d → Q v' H'
theorem no_lit (a s n : Int) : (nop a s n).lookup ("literal" : Str) = none := nop_no _ _ _ (by decide +kernel) (by decide +kernel) (by decide +kernel)
theorem no_trav (a s n : Int) : (nop a s n).lookup ("traverse" : Str) = none := nop_no _ _ _ (by decide +kernel) (by decide +kernel) (by decide +kernel)
theorem no_opened (a s n : Int) : (nop a s n).lookup ("opened" : Str) = none := nop_no _ _ _ (by decide +kernel) (by decide +kernel) (by decide +kernel)
theorem DR.but {H H' : Hp} {b p : Addr} {σ : List (Int × Tm)} (h : DR K H b σ) (s : But p H H') (t : Tups H H') (n : b ≠ p) : DR K H' b σ := by
  obtain ⟨kvs, e, l, q⟩ := h
  refine ⟨kvs, s _ _ e n, l, fun n => ?_⟩
  have q' := q n
  cases c : σ.lookup n with
  | none => rw [c] at q'; exact q'
  | some t' =>
    rw [c] at q'
    obtain ⟨v, e1, e2⟩ := q'
    exact ⟨v, e1, e2.mono t⟩
theorem ok_Opener_traverse {C : Addr} {m : Nat} (T : Txt w K mg) (TC : TO K C) (D : MDef K C "traverse" "Opener.traverse" s_Opener_traverse p_Opener_traverse) (m_Opener_literal : MCal P w K mg base C (m + 2) "literal" p_Opener_literal (spOLit K m)) (c_skolem : Cal P w K mg base 1 "skolem" p_skolem (spSym K 3)) :
    ∀ n : Nat, MCal P w K mg base C (n + m + 2) "traverse" p_Opener_traverse (spOTrav K C m n)
  | 0 => D.none _ fun vs H Q E h => by
    obtain ⟨p, b, v, u, f, ar, σ, a, sk, nv, N, d, _, _, _, _, _, _, hn, _⟩ := h
    omega
  | n + 1 => by
    have m_Opener_traverse := ok_Opener_traverse T TC D m_Opener_literal c_skolem n
    rw [show n + 1 + m + 2 = (n + m + 2) + 1 by omega]
    refine D.ok sc_Opener_traverse (N := n_Opener_traverse) (fun vs H Q E h => ?_) (fun f cdv A outer s H vs Q E hr h => ?_)
    · obtain ⟨p, b, v, u, f, ar, σ, a, sk, nv, N, d, rfl, _⟩ := h
      rfl
    obtain ⟨p, b, v, u, f, ar, σ, a, sk, nv, N, d, rfl, ⟨dx, hp⟩, hv, hu, hD, hok, hn, hd, hσ, har, q⟩ := h
    refine ⟨_, (pss_cons (ps_set (i := 4) sc_Opener_traverse.nd rfl (Or.inl rfl) (pe_ix (ixT (K := K) rfl) (pv 1) pe_int (fun _ _ => rfl)))
      (pss_cons (ps_if (pt_cmpR op_eq (pv 4) pe_str (nomark _)) (pss_one (ps_ret (pm m_Opener_literal (hr.mono (by omega)) (pv 0) (pa_cons (pe_ix (ixT (K := K) rfl) (pv 1) pe_int (fun _ _ => rfl)) (pa_cons (pv 3) (pa_cons pe_bl pa_nil)))))) pss_nil)
      (pss_cons (ps_if (PW.pt (pw_or (pt_cmpR op_eq (pv 4) pe_str (nomark _)) (pw_or1 (pt_cmpR op_eq (pv 4) pe_str (nomark _))))) (pss_cons (ps_set (i := 5) sc_Opener_traverse.nd rfl (Or.inl rfl) (pm m_Opener_traverse (hr.mono (by omega)) (pv 0) (pa_cons (pe_ix (ixT (K := K) rfl) (pv 1) pe_int (fun _ _ => rfl)) (pa_cons (pv 2) (pa_cons (pv 3) pa_nil)))))
      (pss_one (ps_ret (pe_tup (pa_cons (pv 4) (pa_cons (pv 5) (pa_cons (pm m_Opener_traverse (hr.mono (by omega)) (pv 0) (pa_cons (pe_ix (ixT (K := K) rfl) (pv 1) pe_int (fun _ _ => rfl)) (pa_cons (pv 2) (pa_cons (pv 3) pa_nil)))) pa_nil))))))) pss_nil)
      (pss_cons (ps_set (i := 6) sc_Opener_traverse.nd rfl (Or.inl rfl) (pe_callTy call_dictD rfl T.m_dict (by decide +kernel) (pa_cons (pv 3) pa_nil)))
      (pss_cons (ps_if (pt_cmpR op_eq (pv 4) pe_str (nomark _)) (pss_cons (ps_dput (hu_of hr) (pv 6) (pe_ix (ixT (K := K) rfl) (pv 1) pe_int (fun _ _ => rfl)) (pe_fld (pv 0) rfl) rfl)
      (pss_cons (ps_set (i := 7) sc_Opener_traverse.nd rfl (Or.inl rfl) (pe_op (catA (K := K) rfl) (pv 2) (pe_tup (pa_cons (pe_fld (pv 0) rfl) pa_nil))))
      (pss_cons (ps_fldaug (pv 0) pe_int in_add)
      (pss_one (ps_ret (pm m_Opener_traverse (hr.mono (by omega)) (pv 0) (pa_cons (pe_ix (ixT (K := K) rfl) (pv 1) pe_int (fun _ _ => rfl)) (pa_cons (pv 7) (pa_cons (pv 6) pa_nil))))))))) pss_nil)
      (pss_cons (ps_if (pt_cmpR op_eq (pv 4) pe_str (nomark _)) (pss_cons (ps_dput (hu_of hr) (pv 6) (pe_ix (ixT (K := K) rfl) (pv 1) pe_int (fun _ _ => rfl)) (pe_tup (pa_cons (pc c_skolem (hr.mono (by omega)) rfl (pa_cons (pe_fld (pv 0) rfl) (pa_cons (pe_fld (pv 0) rfl) pa_nil))) (pa_cons (pv 2) pa_nil))) rfl)
      (pss_cons (ps_fldaug (pv 0) pe_int in_add)
      (pss_one (ps_ret (pm m_Opener_traverse (hr.mono (by omega)) (pv 0) (pa_cons (pe_ix (ixT (K := K) rfl) (pv 1) pe_int (fun _ _ => rfl)) (pa_cons (pv 2) (pa_cons (pv 6) pa_nil)))))))) pss_nil)
      (pss_one (ps_ret (pm m_Opener_literal (hr.mono (by omega)) (pv 0) (pa_cons (pv 1) (pa_cons (pv 3) (pa_cons pe_bl pa_nil)))))))))))), fun fit => ?_⟩
    have nbp : b ≠ p := by
      obtain ⟨kvs, e, _⟩ := hD
      exact ne_of e hp (by intro z; cases z)
    cases f with
    | lit po x =>
      rw [opn_lit] at q
      cases po with
      | false =>
        obtain ⟨a1, x1, x2, rfl, tt, h1, h2⟩ := im2 hv
        have e1 := h1.str_inv
        subst e1
        refine ⟨_, rfl, a1, _, 0, _, rfl, rfl, tt.sq, rfl, ?_⟩
        refine tagT rfl rfl ?_
        exact ⟨_, rfl, p, dx, _, rfl, hp, no_lit _ _ _, _, rfl, a1, _, 1, _, rfl, rfl, tt.sq, rfl, _, rfl, .ref p, x2, b, false, x, σ, N, d, rfl, h2, hok, hd, hD, fun v' H' s' i' => q v' H' (But.of s') ⟨dx, s' _ _ hp⟩ i'⟩
      | true =>
        have hv' : Im K H v (Fm.at x).d := hv
        obtain ⟨a1, xs, ds, rfl, tt, ra, ed⟩ := Fm.im hv'
        have h1 : ¬ (Fm.at x).tag = "not" := by cases x; exact (show ¬ ("atom" : Str) = "not" by decide +kernel); exact (show ¬ ("equal" : Str) = "not" by decide +kernel)
        have h2 : ¬ (Fm.at x).tag = "and" := by cases x; exact (show ¬ ("atom" : Str) = "and" by decide +kernel); exact (show ¬ ("equal" : Str) = "and" by decide +kernel)
        have h3 : ¬ (Fm.at x).tag = "or" := by cases x; exact (show ¬ ("atom" : Str) = "or" by decide +kernel); exact (show ¬ ("equal" : Str) = "or" by decide +kernel)
        have h4 : ¬ (Fm.at x).tag = "all" := by cases x; exact (show ¬ ("atom" : Str) = "all" by decide +kernel); exact (show ¬ ("equal" : Str) = "all" by decide +kernel)
        have h5 : ¬ (Fm.at x).tag = "some" := by cases x; exact (show ¬ ("atom" : Str) = "some" by decide +kernel); exact (show ¬ ("equal" : Str) = "some" by decide +kernel)
        refine ⟨_, rfl, a1, _, 0, _, rfl, rfl, tt.sq, at0, ?_⟩
        refine tagF rfl h1 ?_
        refine tagOrF rfl h2 h3 ?_
        obtain ⟨kvs, eb, lb, qb⟩ := id hD
        refine ⟨_, rfl, b, kvs, rfl, eb, fun d1 hd1 => ?_⟩
        have s1 := same_new hd1 (.dK kvs)
        refine tagF rfl h4 ?_
        refine tagF rfl h5 ?_
        exact ⟨_, rfl, p, dx, _, rfl, s1 _ _ hp, no_lit _ _ _, _, rfl, _, rfl, .ref p, .ref a1, b, true, x, σ, N, d, rfl, hv.to s1, hok, hd, hD.to s1, fun v' H' s' i' => q v' H' (But.of (s1.trans s')) ⟨dx, s' _ _ (s1 _ _ hp)⟩ i'⟩
    | bin o l r =>
      obtain ⟨a1, x1, x2, x3, rfl, tt, h1, h2, h3⟩ := im3 hv
      have e1 := h1.str_inv
      subst e1
      have t1 : ¬ tagB o = "not" := by cases o <;> decide +kernel
      have t2 : tagB o = "and" ∨ tagB o = "or" := by cases o; exact .inr rfl; exact .inl rfl
      have dpl : l.dp + 1 ≤ (Nf.bin o l r).dp := by simp only [Nf.dp]; omega
      have dpr : r.dp + 1 ≤ (Nf.bin o l r).dp := by simp only [Nf.dp]; omega
      refine ⟨_, rfl, a1, _, 0, _, rfl, rfl, tt.sq, rfl, ?_⟩
      refine tagF rfl t1 ?_
      refine tagOrT rfl t2 ?_
      refine ⟨_, rfl, p, dx, _, rfl, hp, no_trav _ _ _, _, rfl, a1, _, 1, _, rfl, rfl, tt.sq, rfl, _, rfl, _, rfl, p, b, x2, u, l, ar, σ, a, sk, nv, N, d, rfl, ⟨dx, hp⟩, h2, hu, hD, hok.1, by omega, hd, by omega, by omega, fun v1 H1 b1 o1 i1 => ?_⟩
      have tp1 := b1.tups hp trivial
      have hp1 := o1
      obtain ⟨dx1, hp1⟩ := hp1
      simp only [opn] at q
      generalize hX : opn a l ar σ nv sk = X at *
      refine ⟨_, rfl, _, rfl, _, rfl, p, dx1, _, rfl, hp1, no_trav _ _ _, _, rfl, a1, _, 2, _, rfl, rfl, (tt.mono tp1).sq, rfl, _, rfl, _, rfl, p, b, x3, u, r, ar, σ, a, X.2.2, X.2.1, N, d, rfl, o1, h3.mono tp1, hu.mono tp1, hD.but b1 tp1 nbp, hok.2, by omega, hd, by omega, by omega, fun v2 H2 b2 o2 i2 => ?_⟩
      have tp2 := b2.tups hp1 trivial
      refine ⟨z3, fun p1 hp1' => ?_⟩
      obtain ⟨s3, i3⟩ := nt3 hp1' (.str (tagB o)) (i1.mono tp2) i2
      exact q _ _ ((b1.trans b2).trans (But.of s3)) (o2.to s3) i3
    | qu k xv g =>
      obtain ⟨a1, x1, x2, x3, rfl, tt, h1, h2, h3⟩ := im3 hv
      have e1 := h1.str_inv
      have e2 := h2.int_inv
      subst e1 e2
      have t1 : ¬ tagQ k = "not" := by cases k <;> decide +kernel
      have t2 : ¬ tagQ k = "and" := by cases k <;> decide +kernel
      have t3 : ¬ tagQ k = "or" := by cases k <;> decide +kernel
      have dpg : g.dp + 1 ≤ (Nf.qu k xv g).dp := Nat.le_refl _
      have hok' : g.ok N d := hok
      obtain ⟨kvs, eb, lb, qb⟩ := id hD
      refine ⟨_, rfl, a1, _, 0, _, rfl, rfl, tt.sq, rfl, ?_⟩
      refine tagF rfl t1 ?_
      refine tagOrF rfl t2 t3 ?_
      refine ⟨_, rfl, b, kvs, rfl, eb, fun d1 hd1 => ?_⟩
      have s1 := same_new hd1 (.dK kvs)
      have hp1 := s1 _ _ hp
      have lkv : kvs.length < sizeLine := Nat.lt_of_le_of_lt (show kvs.length ≤ 1000 by omega) (by decide)
      have DR1 : DR K (upd H d1 (.dK kvs)) d1 σ := by
        obtain ⟨kvs', eb', lb', qb'⟩ := hD.to s1
        have : kvs' = kvs := by
          have := s1 _ _ eb
          rw [eb'] at this
          exact HO.dK.inj (Option.some.inj this)
        subst this
        exact ⟨_, upd_same, lb', qb'⟩
      have n1p : d1 ≠ p := fun z => by rw [z] at hd1; rw [hp] at hd1; cases hd1
      cases k with
      | true =>
        simp only [opn] at q
        refine tagT rfl rfl ?_
        obtain ⟨kv1, ek1, lk1, qk1⟩ := id DR1
        have ekk : kv1 = kvs := by
          rw [upd_same] at ek1
          exact (HO.dK.inj (Option.some.inj ek1)).symm
        subst ekk
        have tv1 : Im K (upd H d1 (.dK kv1)) (.int nv) (Tm.var nv).d := by rw [Tm.d_var]; exact .int nv
        have DR2 := DR.put (x := xv) ek1 lk1 qk1 tv1
        refine ⟨_, rfl, p, C, dx, _, _, rfl, hp1, TC.cl, TC.next, nop_next _ _ _, _, rfl, _, rfl, a1, _, 1, _, rfl, rfl, (tt.mono (Tups.of s1)).sq, rfl, d1, _, rfl, DPut.k (k := .inl xv) ek1 lkv, ?_⟩
        have b2 : But d1 (upd H d1 (.dK kv1)) (upd (upd H d1 (.dK kv1)) d1 (.dK (putK kv1 (Sum.inl xv) (.int nv)))) := But.upd _
        have s2 : Same H (upd (upd H d1 (.dK kv1)) d1 (.dK (putK kv1 (Sum.inl xv) (.int nv)))) := But.to_same s1 hd1 b2
        generalize hH2 : upd (upd H d1 (.dK kv1)) d1 (.dK (putK kv1 (Sum.inl xv) (.int nv))) = H2 at *
        have hp2 := s2 _ _ hp
        refine ⟨_, rfl, _, rfl, p, C, dx, _, _, rfl, hp2, TC.cl, TC.next, nop_next _ _ _, z1, fun q1 hq1 => ?_⟩
        obtain ⟨s3, i3⟩ := nt1 (K := K) hq1 (.int nv)
        refine cat_imV (ds := tmsD (ar.map Tm.var)) (es := [.int nv]) ((hu.to s2).to s3) i3 ?_ fun q2 H4 s4 i4 => ?_
        · rw [tmsD_len, List.length_map, List.length_singleton]
          exact Nat.le_trans (show ar.length + 1 ≤ 1001 by omega) (by decide)
        have i4' : Im K H4 (.ref q2) (arD (ar ++ [nv])) := by
          unfold arD
          rw [List.map_append, tmsD_map, List.map_append, ← tmsD_map]
          rw [show List.map Tm.d (List.map Tm.var [nv]) = [PyData.int nv] by rw [List.map_singleton, List.map_singleton, Tm.d_var]]
          exact i4
        have s24 := s3.trans s4
        have hp4 := s24 _ _ hp2
        refine ⟨_, rfl, p, C, dx, _, _, rfl, hp4, TC.cl, TC.next, nop_next _ _ _, _, _, rfl, rfl, dx, _, hp4, nop_len _ _ _, ?_⟩
        rw [nop_putn]
        have b5 : But p H4 (upd H4 p (.ins C dx (nop a sk (nv + 1)))) := But.upd _
        have t5 := b5.tups hp4 trivial
        have o5 : OpAt C (upd H4 p (.ins C dx (nop a sk (nv + 1)))) p a sk (nv + 1) := ⟨dx, upd_same⟩
        have hp5 : (upd H4 p (.ins C dx (nop a sk (nv + 1)))) p = some (.ins C dx (nop a sk (nv + 1))) := upd_same
        have tH5 : Tups H (upd H4 p (.ins C dx (nop a sk (nv + 1)))) := ((Tups.of s2).trans (Tups.of s24)).trans t5
        have DR5 := (DR2.to s24).but b5 t5 n1p
        generalize hH5 : upd H4 p (.ins C dx (nop a sk (nv + 1))) = H5 at *
        refine ⟨_, rfl, p, dx, _, rfl, hp5, no_trav _ _ _, _, rfl, a1, _, 2, _, rfl, rfl, (tt.mono tH5).sq, rfl, _, rfl, _, rfl, p, d1, x3, .ref q2, g, ar ++ [nv], (xv, .var nv) :: σ, a, sk, nv + 1, N, d, rfl, o5, h3.mono tH5, i4'.mono t5, DR5, hok', by omega, hd, by rw [List.length_cons]; omega, by rw [List.length_append, List.length_singleton]; omega, fun v' H' b' o' i' => ?_⟩
        exact q v' H' (((But.of s2).trans (But.of s24)).trans (b5.trans b')) o' i'
      | false =>
        simp only [opn] at q
        refine tagF rfl (by decide +kernel) ?_
        refine tagT rfl rfl ?_
        obtain ⟨kv1, ek1, lk1, qk1⟩ := id DR1
        have ekk : kv1 = kvs := by
          rw [upd_same] at ek1
          exact (HO.dK.inj (Option.some.inj ek1)).symm
        subst ekk
        refine ⟨_, rfl, p, C, dx, _, _, rfl, hp1, TC.cl, TC.number, nop_number _ _ _, _, rfl, p, C, dx, _, _, rfl, hp1, TC.cl, TC.skolems, nop_skolems _ _ _, a, sk, rfl, fun v1 H2 s2 i2 => ?_⟩
        refine ⟨_, rfl, z2, fun q1 hq1 => ?_⟩
        have s12 := s1.trans s2
        obtain ⟨s3, i3⟩ := nt2 hq1 i2 (hu.to s12)
        have s13 := s12.trans s3
        have i3' : Im K _ (.ref q1) (Tm.app (3, a, sk) (ar.map Tm.var)).d := Eq.mpr (by rw [Tm.d_app]; rfl) i3
        obtain ⟨kv2, ek2, lk2, qk2⟩ := (DR1.to s2).to s3
        have ek3 := s3 _ _ (s2 _ _ (upd_same (H := H) (a := d1) (o := .dK kv1)))
        have ekk : kv2 = kv1 := HO.dK.inj (Option.some.inj (ek2.symm.trans ek3))
        subst ekk
        have DR2 := DR.put (x := xv) ek2 lk2 qk2 i3'
        refine ⟨_, rfl, _, rfl, a1, _, 1, _, rfl, rfl, (tt.mono (Tups.of s13)).sq, rfl, d1, _, rfl, DPut.k (k := .inl xv) ek2 lkv, ?_⟩
        generalize hH3 : upd H2 q1 (.tup [v1, u]) = H3 at *
        have b4 : But d1 H3 (upd H3 d1 (.dK (putK kv2 (Sum.inl xv) (.ref q1)))) := But.upd _
        have s4 : Same H (upd H3 d1 (.dK (putK kv2 (Sum.inl xv) (.ref q1)))) := But.to_same s13 hd1 b4
        generalize hH4 : upd H3 d1 (.dK (putK kv2 (Sum.inl xv) (.ref q1))) = H4 at *
        have hp4 := s4 _ _ hp
        refine ⟨_, rfl, p, C, dx, _, _, rfl, hp4, TC.cl, TC.skolems, nop_skolems _ _ _, _, _, rfl, rfl, dx, _, hp4, nop_len _ _ _, ?_⟩
        rw [nop_puts]
        have b5 : But p H4 (upd H4 p (.ins C dx (nop a (sk + 1) nv))) := But.upd _
        have t5 := b5.tups hp4 trivial
        have o5 : OpAt C (upd H4 p (.ins C dx (nop a (sk + 1) nv))) p a (sk + 1) nv := ⟨dx, upd_same⟩
        have hp5 : (upd H4 p (.ins C dx (nop a (sk + 1) nv))) p = some (.ins C dx (nop a (sk + 1) nv)) := upd_same
        have tH5 : Tups H (upd H4 p (.ins C dx (nop a (sk + 1) nv))) := (Tups.of s4).trans t5
        have DR5 := DR2.but b5 t5 n1p
        generalize hH5 : upd H4 p (.ins C dx (nop a (sk + 1) nv)) = H5 at *
        refine ⟨_, rfl, p, dx, _, rfl, hp5, no_trav _ _ _, _, rfl, a1, _, 2, _, rfl, rfl, (tt.mono tH5).sq, rfl, _, rfl, _, rfl, p, d1, x3, u, g, ar, (xv, .app (3, a, sk) (ar.map .var)) :: σ, a, sk + 1, nv, N, d, rfl, o5, h3.mono tH5, hu.mono tH5, DR5, hok', by omega, hd, by rw [List.length_cons]; omega, by omega, fun v' H' b' o' i' => ?_⟩
        exact q v' H' ((But.of s4).trans (b5.trans b')) o' i'
/-- opened -/
def spOpened (K : PySem.W.Frag) (C : Addr) (m n : Nat) : Sp := fun vs H Q _ => ∃ (p : Addr) (v : V) (f : Nf) (a sk nv : Int) (N : Int) (d : Nat), vs = [.ref p, v] ∧ OpAt C H p a sk nv ∧ Im K H v f.d ∧ f.ok N d ∧ f.dp < n ∧ d < m ∧ f.dp ≤ 1000 ∧
  ∀ v' H' nv', But p H H' → OpAt C H' p a (opn a f [] [] 0 sk).2.2 nv' → Im K H' v' (opn a f [] [] 0 sk).1.d → Q v' H'
theorem ok_Opener_opened {C : Addr} {m n : Nat} (TC : TO K C) (D : MDef K C "opened" "Opener.opened" s_Opener_opened p_Opener_opened) (m_Opener_traverse : MCal P w K mg base C (n + m + 2) "traverse" p_Opener_traverse (spOTrav K C m n)) : MCal P w K mg base C (n + m + 3) "opened" p_Opener_opened (spOpened K C m n) := by
  refine D.ok sc_Opener_opened (N := n_Opener_opened) (fun vs H Q E h => ?_) (fun f cdv A outer s H vs Q E hr h => ?_)
  · obtain ⟨p, v, f, a, sk, nv, N, d, rfl, _⟩ := h
    rfl
  obtain ⟨p, v, f, a, sk, nv, N, d, rfl, ⟨dx, hp⟩, hv, hok, hn, hd, hdp, q⟩ := h
  refine ⟨_, (pss_cons (ps_fld (pv 0) pe_int rfl)
      (pss_one (ps_ret (pm m_Opener_traverse (hr.mono (by omega)) (pv 0) (pa_cons (pv 1) (pa_cons (pe_tup pa_nil) (pa_cons pe_dnewK pa_nil))))))), fun fit => ?_⟩
  refine ⟨_, rfl, p, C, dx, _, rfl, hp, TC.cl, TC.next, nop_len _ _ _, ?_⟩
  rw [nop_putn]
  have b1 : But p H (upd H p (.ins C dx (nop a sk 0))) := But.upd _
  have t1 := b1.tups hp trivial
  have hp1 : (upd H p (.ins C dx (nop a sk 0))) p = some (.ins C dx (nop a sk 0)) := upd_same
  generalize hH1 : upd H p (.ins C dx (nop a sk 0)) = H1 at *
  refine ⟨_, rfl, p, dx, _, rfl, hp1, no_trav _ _ _, _, rfl, Nat.zero_le _, fun q1 hq1 => ?_⟩
  obtain ⟨s2, i2⟩ := nt0 (K := K) hq1
  intro d1 hd1
  have s3 := same_new hd1 (.dK [])
  have s23 := s2.trans s3
  have i3 : Im K _ (.ref q1) (arD []) := Eq.mpr (by unfold arD; rw [List.map_nil, tmsD]) (i2.to s3)
  refine ⟨p, d1, v, .ref q1, f, [], [], a, sk, 0, N, d, rfl, ⟨dx, s23 _ _ hp1⟩, (hv.mono t1).to s23, i3, DR.nil upd_same, hok, hn, hd, by simpa using hdp, by simpa using hdp, fun v' H' b' o' i' => ?_⟩
  exact q v' H' _ (b1.trans ((But.of s23).trans b')) o' i'
end
end K3

/-! _law_open. -/
namespace K3
open PySem PySem.Spec PyProof.Rows L2
section
variable {P : Program} {w : World} {K : PySem.W.Frag} {mg : Str → Option Value} {base : Heap}
def spLOpen (K : PySem.W.Frag) (m n : Nat) : Sp := fun vs H Q _ => ∃ (t md : Addr) (v u : V) (f : Nf) (ar : List Int) (σ : List (Int × Tm)) (a sk nv : Int) (N : Int) (d : Nat), vs = [v, .int a, u, .ref t, .ref md] ∧ Im K H v f.d ∧ Im K H u (arD ar) ∧ LR K H t σ ∧ H md = some (.lst [.int nv, .int sk]) ∧
  f.ok N d ∧ f.dp < n ∧ d < m ∧ σ.length + f.dp ≤ 1000 ∧ ar.length + f.dp ≤ 1000 ∧
  ∀ (l md' : Addr) (v' : V) (H' : Hp), Same H H' → H' l = some (.lst [v', .ref md']) → Im K H' v' (opn a f ar σ nv sk).1.d → H' md' = some (.lst [.int (opn a f ar σ nv sk).2.1, .int (opn a f ar σ nv sk).2.2]) → Q (.ref l) H'
theorem ok_law_open {m : Nat} (T : Txt w K mg) (D : Def K mg "_law_open" s_law_open p_law_open) (c_law_put : Cal P w K mg base (m + 1) "_law_put" p_law_put (spLPut K m)) : ∀ n : Nat, Cal P w K mg base (n + m + 1) "_law_open" p_law_open (spLOpen K m n)
  | 0 => D.none _ fun vs H Q E h => by
    obtain ⟨t, md, v, u, f, ar, σ, a, sk, nv, N, d, _, _, _, _, _, _, hn, _⟩ := h
    omega
  | n + 1 => by
    have c_law_open := ok_law_open T D c_law_put n
    rw [show n + 1 + m + 1 = (n + m + 1) + 1 by omega]
    refine D.ok sc_law_open (N := n_law_open) (fun vs H Q E h => ?_) (fun f cdv A outer s H vs Q E hr h => ?_)
    · obtain ⟨t, md, v, u, f, ar, σ, a, sk, nv, N, d, rfl, _⟩ := h
      rfl
    obtain ⟨t, md, v, u, f, ar, σ, a, sk, nv, N, d, rfl, hv, hu, hL, hmd, hok, hn, hd, hσ, har, q⟩ := h
    refine ⟨_, (pss_cons (ps_set (i := 5) sc_law_open.nd rfl (Or.inl rfl) (pe_ix (ixT (K := K) rfl) (pv 0) pe_int (fun _ _ => rfl)))
      (pss_cons (ps_set (i := 6) sc_law_open.nd rfl (Or.inl rfl) (pe_tup (pa_cons (pe_tup (pa_cons pe_int (pa_cons pe_int (pa_cons pe_int pa_nil)))) (pa_cons (pe_tup pa_nil) pa_nil))))
      (pss_cons (ps_if (PW.pt (pw_or (pt_cmpR op_eq (pv 5) pe_str (nomark _)) (pw_or (pt_cmpR op_eq (pv 5) pe_str (nomark _)) (pw_or1 (pt_cmpR op_eq (pv 5) pe_str (nomark _)))))) (pss_cons (ps_set (i := 7) sc_law_open.nd rfl (Or.inl rfl) (pe_ifExp (pt_cmpR op_eq (pv 5) pe_str (nomark _)) (pe_ix (ixT (K := K) rfl) (pv 0) pe_int (fun _ _ => rfl)) (pv 0)))
      (pss_cons (ps_set (i := 8) sc_law_open.nd rfl (Or.inl rfl) (pc c_law_put (hr.mono (by omega)) rfl (pa_cons (pe_ix (ixT (K := K) rfl) (pv 7) pe_int (fun _ _ => rfl)) (pa_cons (pv 3) pa_nil))))
      (pss_cons (ps_set (i := 9) sc_law_open.nd rfl (Or.inl rfl) (pe_ifExp (pt_cmpR op_eq (pe_ix (ixT (K := K) rfl) (pv 7) pe_int (fun _ _ => rfl)) pe_str (nomark _)) (pc c_law_put (hr.mono (by omega)) rfl (pa_cons (pe_ix (ixT (K := K) rfl) (pv 7) pe_int (fun _ _ => rfl)) (pa_cons (pv 3) pa_nil))) (pv 6)))
      (pss_one (ps_ret (pe_lst (pa_cons (pe_tup (pa_cons pe_str (pa_cons (pe_tup (pa_cons (pe_cmpR op_ne (pv 5) pe_str (nomark _)) (pa_cons (pv 8) (pa_cons (pv 9) pa_nil)))) pa_nil))) (pa_cons (pv 4) pa_nil)))))))) pss_nil)
      (pss_cons (ps_if (PW.pt (pw_or (pt_cmpR op_eq (pv 5) pe_str (nomark _)) (pw_or1 (pt_cmpR op_eq (pv 5) pe_str (nomark _))))) (pss_cons (ps_set (i := 10) sc_law_open.nd rfl (Or.inl rfl) (pc c_law_open (hr.mono (by omega)) rfl (pa_cons (pe_ix (ixT (K := K) rfl) (pv 0) pe_int (fun _ _ => rfl)) (pa_cons (pv 1) (pa_cons (pv 2) (pa_cons (pv 3) (pa_cons (pv 4) pa_nil)))))))
      (pss_cons (ps_set (i := 11) sc_law_open.nd rfl (Or.inl rfl) (pc c_law_open (hr.mono (by omega)) rfl (pa_cons (pe_ix (ixT (K := K) rfl) (pv 0) pe_int (fun _ _ => rfl)) (pa_cons (pv 1) (pa_cons (pv 2) (pa_cons (pv 3) (pa_cons (pe_ix (ixL (K := K) rfl) (pv 10) pe_int (fun _ _ => rfl)) pa_nil)))))))
      (pss_one (ps_ret (pe_lst (pa_cons (pe_tup (pa_cons (pv 5) (pa_cons (pe_ix (ixL (K := K) rfl) (pv 10) pe_int (fun _ _ => rfl)) (pa_cons (pe_ix (ixL (K := K) rfl) (pv 11) pe_int (fun _ _ => rfl)) pa_nil)))) (pa_cons (pe_ix (ixL (K := K) rfl) (pv 11) pe_int (fun _ _ => rfl)) pa_nil))))))) pss_nil)
      (pss_cons (ps_set (i := 12) sc_law_open.nd rfl (Or.inl rfl) (pe_ix (ixL (K := K) rfl) (pv 4) pe_int (fun _ _ => rfl)))
      (pss_cons (ps_set (i := 13) sc_law_open.nd rfl (Or.inl rfl) (pe_ix (ixL (K := K) rfl) (pv 4) pe_int (fun _ _ => rfl)))
      (pss_cons (ps_if (pt_cmpR op_eq (pv 5) pe_str (nomark _)) (pss_cons (ps_set (i := 14) sc_law_open.nd rfl (Or.inl rfl) (pe_op op_cat (pe_lst (pa_cons (pe_tup (pa_cons (pe_ix (ixT (K := K) rfl) (pv 0) pe_int (fun _ _ => rfl)) (pa_cons (pv 12) pa_nil))) pa_nil)) (pv 3)))
      (pss_one (ps_ret (pc c_law_open (hr.mono (by omega)) rfl (pa_cons (pe_ix (ixT (K := K) rfl) (pv 0) pe_int (fun _ _ => rfl)) (pa_cons (pv 1) (pa_cons (pe_op (catA (K := K) rfl) (pv 2) (pe_tup (pa_cons (pv 12) pa_nil))) (pa_cons (pv 14) (pa_cons (pe_lst (pa_cons (pe_op op_add (pv 12) pe_int) (pa_cons (pv 13) pa_nil))) pa_nil))))))))) pss_nil)
      (pss_cons (ps_set (i := 14) sc_law_open.nd rfl (Or.inl rfl) (pe_op op_cat (pe_lst (pa_cons (pe_tup (pa_cons (pe_ix (ixT (K := K) rfl) (pv 0) pe_int (fun _ _ => rfl)) (pa_cons (pe_tup (pa_cons (pe_tup (pa_cons pe_int (pa_cons (pv 1) (pa_cons (pv 13) pa_nil)))) (pa_cons (pv 2) pa_nil))) pa_nil))) pa_nil)) (pv 3)))
      (pss_one (ps_ret (pc c_law_open (hr.mono (by omega)) rfl (pa_cons (pe_ix (ixT (K := K) rfl) (pv 0) pe_int (fun _ _ => rfl)) (pa_cons (pv 1) (pa_cons (pv 2) (pa_cons (pv 14) (pa_cons (pe_lst (pa_cons (pv 12) (pa_cons (pe_op op_add (pv 13) pe_int) pa_nil))) pa_nil)))))))))))))))), fun fit => ?_⟩
    have three : ∀ {σ' : L2.St} {H1 : Hp} {D' : Ends} {A' B' : TS} {x y1 y2 y3 : Str}, σ'[5]? = some (some (.str x)) → (¬ x = y1) → (¬ x = y2) → (¬ x = y3) → B' D' σ' H1 →
        tIfS (tOr (tTest (tOp rEq (tVar 5) (tC (.str y1)))) (tOr (tTest (tOp rEq (tVar 5) (tC (.str y2)))) (tTest (tOp rEq (tVar 5) (tC (.str y3)))))) A' B' D' σ' H1 := fun e h1 h2 h3 k =>
      ⟨_, e, rfl, _, rfl, stF h1 ⟨_, e, rfl, _, rfl, stF h2 ⟨_, e, rfl, _, rfl, stF h3 k⟩⟩⟩
    cases f with
    | lit po x =>
      rw [opn_lit] at q
      have body : ∀ (v0 : V) (H1 : Hp) (tv : V) (σ' : L2.St) (b : Bool) (lv rv : V), True := fun _ _ _ _ _ _ _ => trivial
      clear body
      cases po with
      | false =>
        obtain ⟨a1, x1, x2, rfl, tt, h1, h2⟩ := im2 hv
        have e1 := h1.str_inv
        subst e1
        refine ⟨_, rfl, a1, _, 0, _, rfl, rfl, tt.sq, rfl, ?_⟩
        refine ⟨z3, fun p1 hp1 => ?_⟩
        obtain ⟨s1, i1⟩ := nt3 (K := K) hp1 (.int 0) (.int 0) (.int 0)
        refine ⟨Nat.zero_le _, fun p2 hp2 => ?_⟩
        obtain ⟨s2, i2⟩ := nt0 (K := K) hp2
        refine ⟨z2, fun p3 hp3 => ?_⟩
        obtain ⟨s3, i3⟩ := nt2 hp3 (i1.to s2) i2
        have iT : Im K _ (.ref p3) truth.d := Eq.mpr (by unfold truth; rw [Tm.d_app, tmsD]; rfl) i3
        have s13 := (s1.trans s2).trans s3
        have t3 := (tt.mono (Tups.of s13)).sq
        generalize upd (upd (upd H p1 (.tup [.int 0, .int 0, .int 0])) p2 (.tup [])) p3 (.tup [.ref p1, .ref p2]) = H3 at *
        refine ⟨_, rfl, rfl, _, rfl, stT rfl (iteT ?_)⟩
        refine ⟨_, rfl, rfl, _, rfl, stT rfl ?_⟩
        refine ⟨_, rfl, a1, _, 1, _, rfl, rfl, t3, rfl, ?_⟩
        have h2' := h2.to s13
        cases x with
        | atom tm =>
          obtain ⟨a2, y1, y2, rfl, tt2, g1, g2⟩ := im2 h2'
          have e2 := g1.str_inv
          subst e2
          refine ⟨_, rfl, a2, _, 1, _, rfl, rfl, tt2.sq, rfl, _, rfl, y2, t, tm, σ, N, d, rfl, g2, hok, hd, hL.to s13, fun v1 H4 s4 i4 => ?_⟩
          refine ⟨_, rfl, a2, _, 0, _, rfl, rfl, (tt2.mono (Tups.of s4)).sq, rfl, rfl, _, rfl, stF (by decide +kernel) ?_⟩
          refine ⟨_, rfl, ?_⟩
          refine ⟨_, rfl, rfl, _, rfl, _, rfl, z3, fun p4 hp4 => ?_⟩
          have eb : (!decide (V.str "not" = V.str "not")) = false := by rw [decide_eq_true rfl]; rfl
          obtain ⟨s5, i5⟩ := nt3 hp4 (.bl (!decide (V.str "not" = V.str "not"))) i4 (iT.to s4)
          rw [eb] at i5
          refine ⟨z2, fun p5 hp5 => ?_⟩
          obtain ⟨s6, i6⟩ := nt2 hp5 (.str "literal") i5
          refine ⟨_, rfl, z2, fun p6 hp6 => ?_⟩
          have s7 := same_new hp6 (.lst [.ref p5, .ref md])
          have s47 := ((s4.trans s5).trans s6).trans s7
          exact q p6 md _ _ (s13.trans s47) upd_same (i6.to s7) (s47 _ _ (s13 _ _ hmd))
        | equal l r =>
          obtain ⟨a2, y1, y2, y3, rfl, tt2, g1, g2, g3⟩ := im3 h2'
          have e2 := g1.str_inv
          subst e2
          refine ⟨_, rfl, a2, _, 1, _, rfl, rfl, tt2.sq, rfl, _, rfl, y2, t, l, σ, N, d, rfl, g2, hok.1, hd, hL.to s13, fun v1 H4 s4 i4 => ?_⟩
          have t4 := (tt2.mono (Tups.of s4)).sq
          refine ⟨_, rfl, a2, _, 0, _, rfl, rfl, t4, rfl, rfl, _, rfl, stT rfl ?_⟩
          refine ⟨_, rfl, a2, _, 2, _, rfl, rfl, t4, rfl, _, rfl, y3, t, r, σ, N, d, rfl, g3.to s4, hok.2, hd, (hL.to s13).to s4, fun v2 H5 s5 i5 => ?_⟩
          refine ⟨_, rfl, rfl, _, rfl, _, rfl, z3, fun p4 hp4 => ?_⟩
          have eb : (!decide (V.str "not" = V.str "not")) = false := by rw [decide_eq_true rfl]; rfl
          obtain ⟨s6, i6⟩ := nt3 hp4 (.bl (!decide (V.str "not" = V.str "not"))) (i4.to s5) i5
          rw [eb] at i6
          refine ⟨z2, fun p5 hp5 => ?_⟩
          obtain ⟨s7, i7⟩ := nt2 hp5 (.str "literal") i6
          refine ⟨_, rfl, z2, fun p6 hp6 => ?_⟩
          have s8 := same_new hp6 (.lst [.ref p5, .ref md])
          have s48 := (((s4.trans s5).trans s6).trans s7).trans s8
          exact q p6 md _ _ (s13.trans s48) upd_same (i7.to s8) (s48 _ _ (s13 _ _ hmd))
      | true =>
        cases x with
        | atom tm =>
          obtain ⟨a2, y1, y2, rfl, tt2, g1, g2⟩ := im2 hv
          have e2 := g1.str_inv
          subst e2
          refine ⟨_, rfl, a2, _, 0, _, rfl, rfl, tt2.sq, rfl, ?_⟩
          refine ⟨z3, fun p1 hp1 => ?_⟩
          obtain ⟨s1, i1⟩ := nt3 (K := K) hp1 (.int 0) (.int 0) (.int 0)
          refine ⟨Nat.zero_le _, fun p2 hp2 => ?_⟩
          obtain ⟨s2, i2⟩ := nt0 (K := K) hp2
          refine ⟨z2, fun p3 hp3 => ?_⟩
          obtain ⟨s3, i3⟩ := nt2 hp3 (i1.to s2) i2
          have iT : Im K _ (.ref p3) truth.d := Eq.mpr (by unfold truth; rw [Tm.d_app, tmsD]; rfl) i3
          have s13 := (s1.trans s2).trans s3
          have t3 := (tt2.mono (Tups.of s13)).sq
          generalize upd (upd (upd H p1 (.tup [.int 0, .int 0, .int 0])) p2 (.tup [])) p3 (.tup [.ref p1, .ref p2]) = H3 at *
          refine ⟨_, rfl, rfl, _, rfl, stF (by decide +kernel) ⟨_, rfl, rfl, _, rfl, stT rfl (iteT ?_)⟩⟩
          refine ⟨_, rfl, rfl, _, rfl, stF (by decide +kernel) ?_⟩
          refine ⟨_, rfl, ?_⟩
          refine ⟨_, rfl, a2, _, 1, _, rfl, rfl, t3, rfl, _, rfl, y2, t, tm, σ, N, d, rfl, g2.to s13, hok, hd, hL.to s13, fun v1 H4 s4 i4 => ?_⟩
          refine ⟨_, rfl, a2, _, 0, _, rfl, rfl, (tt2.mono (Tups.of (s13.trans s4))).sq, rfl, rfl, _, rfl, stF (by decide +kernel) ?_⟩
          refine ⟨_, rfl, ?_⟩
          refine ⟨_, rfl, rfl, _, rfl, _, rfl, z3, fun p4 hp4 => ?_⟩
          have eb : (!decide (V.str "atom" = V.str "not")) = true := by rw [decide_eq_false (fun z => (show ¬ ("atom" : Str) = "not" by decide +kernel) (V.str.inj z))]; rfl
          obtain ⟨s5, i5⟩ := nt3 hp4 (.bl (!decide (V.str "atom" = V.str "not"))) i4 (iT.to s4)
          rw [eb] at i5
          refine ⟨z2, fun p5 hp5 => ?_⟩
          obtain ⟨s6, i6⟩ := nt2 hp5 (.str "literal") i5
          refine ⟨_, rfl, z2, fun p6 hp6 => ?_⟩
          have s7 := same_new hp6 (.lst [.ref p5, .ref md])
          have s47 := ((s4.trans s5).trans s6).trans s7
          exact q p6 md _ _ (s13.trans s47) upd_same (i6.to s7) (s47 _ _ (s13 _ _ hmd))
        | equal l r =>
          obtain ⟨a2, y1, y2, y3, rfl, tt2, g1, g2, g3⟩ := im3 hv
          have e2 := g1.str_inv
          subst e2
          refine ⟨_, rfl, a2, _, 0, _, rfl, rfl, tt2.sq, rfl, ?_⟩
          refine ⟨z3, fun p1 hp1 => ?_⟩
          obtain ⟨s1, i1⟩ := nt3 (K := K) hp1 (.int 0) (.int 0) (.int 0)
          refine ⟨Nat.zero_le _, fun p2 hp2 => ?_⟩
          obtain ⟨s2, i2⟩ := nt0 (K := K) hp2
          refine ⟨z2, fun p3 hp3 => ?_⟩
          obtain ⟨s3, i3⟩ := nt2 hp3 (i1.to s2) i2
          have s13 := (s1.trans s2).trans s3
          have t3 := (tt2.mono (Tups.of s13)).sq
          generalize upd (upd (upd H p1 (.tup [.int 0, .int 0, .int 0])) p2 (.tup [])) p3 (.tup [.ref p1, .ref p2]) = H3 at *
          refine ⟨_, rfl, rfl, _, rfl, stF (by decide +kernel) ⟨_, rfl, rfl, _, rfl, stF (by decide +kernel) ⟨_, rfl, rfl, _, rfl, stT rfl ?_⟩⟩⟩
          refine ⟨_, rfl, rfl, _, rfl, stF (by decide +kernel) ?_⟩
          refine ⟨_, rfl, ?_⟩
          refine ⟨_, rfl, a2, _, 1, _, rfl, rfl, t3, rfl, _, rfl, y2, t, l, σ, N, d, rfl, g2.to s13, hok.1, hd, hL.to s13, fun v1 H4 s4 i4 => ?_⟩
          have t4 := (tt2.mono (Tups.of (s13.trans s4))).sq
          refine ⟨_, rfl, a2, _, 0, _, rfl, rfl, t4, rfl, rfl, _, rfl, stT rfl ?_⟩
          refine ⟨_, rfl, a2, _, 2, _, rfl, rfl, t4, rfl, _, rfl, y3, t, r, σ, N, d, rfl, (g3.to s13).to s4, hok.2, hd, (hL.to s13).to s4, fun v2 H5 s5 i5 => ?_⟩
          refine ⟨_, rfl, rfl, _, rfl, _, rfl, z3, fun p4 hp4 => ?_⟩
          have eb : (!decide (V.str "equal" = V.str "not")) = true := by rw [decide_eq_false (fun z => (show ¬ ("equal" : Str) = "not" by decide +kernel) (V.str.inj z))]; rfl
          obtain ⟨s6, i6⟩ := nt3 hp4 (.bl (!decide (V.str "equal" = V.str "not"))) (i4.to s5) i5
          rw [eb] at i6
          refine ⟨z2, fun p5 hp5 => ?_⟩
          obtain ⟨s7, i7⟩ := nt2 hp5 (.str "literal") i6
          refine ⟨_, rfl, z2, fun p6 hp6 => ?_⟩
          have s8 := same_new hp6 (.lst [.ref p5, .ref md])
          have s48 := (((s4.trans s5).trans s6).trans s7).trans s8
          exact q p6 md _ _ (s13.trans s48) upd_same (i7.to s8) (s48 _ _ (s13 _ _ hmd))
    | bin o l r =>
      obtain ⟨a1, x1, x2, x3, rfl, tt, h1, h2, h3⟩ := im3 hv
      have e1 := h1.str_inv
      subst e1
      have t1 : ¬ tagB o = "not" := by cases o <;> decide +kernel
      have t2 : ¬ tagB o = "atom" := by cases o <;> decide +kernel
      have t3 : ¬ tagB o = "equal" := by cases o <;> decide +kernel
      have t4 : tagB o = "and" ∨ tagB o = "or" := by cases o; exact .inr rfl; exact .inl rfl
      have dpl : l.dp + 1 ≤ (Nf.bin o l r).dp := by simp only [Nf.dp]; omega
      have dpr : r.dp + 1 ≤ (Nf.bin o l r).dp := by simp only [Nf.dp]; omega
      refine ⟨_, rfl, a1, _, 0, _, rfl, rfl, tt.sq, rfl, ?_⟩
      refine ⟨z3, fun p1 hp1 => ?_⟩
      have s1 := same_new hp1 (.tup [.int 0, .int 0, .int 0])
      refine ⟨Nat.zero_le _, fun p2 hp2 => ?_⟩
      have s2 := same_new hp2 (.tup [])
      refine ⟨z2, fun p3 hp3 => ?_⟩
      have s3 := same_new hp3 (.tup [.ref p1, .ref p2])
      have s13 := (s1.trans s2).trans s3
      have tq := tt.mono (Tups.of s13)
      generalize upd (upd (upd H p1 (.tup [.int 0, .int 0, .int 0])) p2 (.tup [])) p3 (.tup [.ref p1, .ref p2]) = H3 at *
      refine three rfl t1 t2 t3 ?_
      refine tagOrT rfl t4 ?_
      refine ⟨_, rfl, a1, _, 1, _, rfl, rfl, tq.sq, rfl, _, rfl, _, rfl, _, rfl, _, rfl, t, md, x2, u, l, ar, σ, a, sk, nv, N, d, rfl, h2.to s13, hu.to s13, hL.to s13, s13 _ _ hmd, hok.1, by omega, hd, by omega, by omega, fun l1 md1 v1 H4 s4 e4 i4 em4 => ?_⟩
      have s14 := s13.trans s4
      simp only [opn] at q
      generalize hX : opn a l ar σ nv sk = X at *
      refine ⟨_, rfl, a1, _, 2, _, rfl, rfl, (tq.mono (Tups.of s4)).sq, rfl, _, rfl, _, rfl, _, rfl, _, rfl, l1, _, 1, _, rfl, rfl, SqL.of e4, rfl, t, md1, x3, u, r, ar, σ, a, X.2.2, X.2.1, N, d, rfl, h3.to s14, hu.to s14, hL.to s14, em4, hok.2, by omega, hd, by omega, by omega, fun l2 md2 v2 H5 s5 e5 i5 em5 => ?_⟩
      refine ⟨_, rfl, _, rfl, l1, _, 0, _, rfl, rfl, SqL.of (s5 _ _ e4), rfl, _, rfl, l2, _, 0, _, rfl, rfl, SqL.of e5, rfl, z3, fun p4 hp4 => ?_⟩
      obtain ⟨s6, i6⟩ := nt3 hp4 (.str (tagB o)) (i4.to s5) i5
      refine ⟨_, rfl, l2, _, 1, _, rfl, rfl, SqL.of (s6 _ _ e5), rfl, z2, fun p5 hp5 => ?_⟩
      have s7 := same_new hp5 (.lst [.ref p4, .ref md2])
      exact q p5 md2 _ _ (((s14.trans s5).trans s6).trans s7) upd_same (i6.to s7) (s7 _ _ (s6 _ _ em5))
    | qu k xv g =>
      obtain ⟨a1, x1, x2, x3, rfl, tt, h1, h2, h3⟩ := im3 hv
      have e1 := h1.str_inv
      have e2 := h2.int_inv
      subst e1 e2
      have t1 : ¬ tagQ k = "not" := by cases k <;> decide +kernel
      have t2 : ¬ tagQ k = "atom" := by cases k <;> decide +kernel
      have t3 : ¬ tagQ k = "equal" := by cases k <;> decide +kernel
      have t4 : ¬ tagQ k = "and" := by cases k <;> decide +kernel
      have t5 : ¬ tagQ k = "or" := by cases k <;> decide +kernel
      have dpg : g.dp + 1 ≤ (Nf.qu k xv g).dp := Nat.le_refl _
      have hok' : g.ok N d := hok
      refine ⟨_, rfl, a1, _, 0, _, rfl, rfl, tt.sq, rfl, ?_⟩
      refine ⟨z3, fun p1 hp1 => ?_⟩
      have s1 := same_new hp1 (.tup [.int 0, .int 0, .int 0])
      refine ⟨Nat.zero_le _, fun p2 hp2 => ?_⟩
      have s2 := same_new hp2 (.tup [])
      refine ⟨z2, fun p3 hp3 => ?_⟩
      have s3 := same_new hp3 (.tup [.ref p1, .ref p2])
      have s13 := (s1.trans s2).trans s3
      have tq := tt.mono (Tups.of s13)
      have hmd3 := s13 _ _ hmd
      generalize upd (upd (upd H p1 (.tup [.int 0, .int 0, .int 0])) p2 (.tup [])) p3 (.tup [.ref p1, .ref p2]) = H3 at *
      refine three rfl t1 t2 t3 ?_
      refine tagOrF rfl t4 t5 ?_
      refine ⟨_, rfl, md, _, 0, _, rfl, rfl, SqL.of hmd3, rfl, ?_⟩
      refine ⟨_, rfl, md, _, 1, _, rfl, rfl, SqL.of hmd3, rfl, ?_⟩
      cases k with
      | true =>
        simp only [opn] at q
        refine tagT rfl rfl ?_
        refine ⟨_, rfl, a1, _, 1, _, rfl, rfl, tq.sq, rfl, _, rfl, z2, fun p4 hp4 => ?_⟩
        obtain ⟨s4, i4⟩ := nt2 (K := K) hp4 (.int xv) (.int nv)
        refine ⟨z1, fun p5 hp5 => ?_⟩
        have s5 := same_new hp5 (.lst [.ref p4])
        obtain ⟨xs, et, rt⟩ := ((hL.to s13).to s4).to s5
        have lx : xs.length = σ.length := by rw [rt.len, List.length_map]
        refine ⟨_, rfl, p5, t, _, _, rfl, rfl, upd_same, et, ?_, fun p6 hp6 => ?_⟩
        · rw [List.length_singleton]
          exact Nat.le_trans (show 1 + xs.length ≤ 1001 by omega) (by decide)
        have s6 := same_new hp6 (.lst ([.ref p4] ++ xs))
        have s36 := (s4.trans s5).trans s6
        have iP : Im K _ (.ref p4) (prD (xv, Tm.var nv)) := Eq.mpr (by unfold prD; rw [Tm.d_var]) (i4.to s5)
        have L6 : LR K _ p6 ((xv, Tm.var nv) :: σ) := ⟨_, upd_same, (ImA.cons iP rt).to s6⟩
        refine ⟨_, rfl, a1, _, 2, _, rfl, rfl, (tq.mono (Tups.of s36)).sq, rfl, _, rfl, _, rfl, _, rfl, z1, fun p7 hp7 => ?_⟩
        obtain ⟨s7, i7⟩ := nt1 (K := K) hp7 (.int nv)
        refine cat_imV (ds := tmsD (ar.map Tm.var)) (es := [.int nv]) (((hu.to s13).to s36).to s7) i7 ?_ fun q2 H8 s8 i8 => ?_
        · rw [tmsD_len, List.length_map, List.length_singleton]
          exact Nat.le_trans (show ar.length + 1 ≤ 1001 by omega) (by decide)
        have i8' : Im K H8 (.ref q2) (arD (ar ++ [nv])) := by
          unfold arD
          rw [List.map_append, tmsD_map, List.map_append, ← tmsD_map]
          rw [show List.map Tm.d (List.map Tm.var [nv]) = [PyData.int nv] by rw [List.map_singleton, List.map_singleton, Tm.d_var]]
          exact i8
        refine ⟨_, rfl, _, rfl, _, _, rfl, rfl, _, rfl, z2, fun p9 hp9 => ?_⟩
        have s9 := same_new hp9 (.lst [.int (nv + 1), .int sk])
        have s39 := ((s36.trans s7).trans s8).trans s9
        refine ⟨p6, p9, x3, .ref q2, g, ar ++ [nv], (xv, .var nv) :: σ, a, sk, nv + 1, N, d, rfl, (h3.to s13).to s39, i8'.to s9, ((L6.to s7).to s8).to s9, upd_same, hok', by omega, hd, by rw [List.length_cons]; omega, by rw [List.length_append, List.length_singleton]; omega, fun l1 md1 v1 H' s' e' i' em' => ?_⟩
        exact q l1 md1 v1 H' ((s13.trans s39).trans s') e' i' em'
      | false =>
        simp only [opn] at q
        refine tagF rfl (by decide +kernel) ?_
        refine ⟨_, rfl, a1, _, 1, _, rfl, rfl, tq.sq, rfl, _, rfl, _, rfl, z3, fun p4 hp4 => ?_⟩
        obtain ⟨s4, i4⟩ := nt3 (K := K) hp4 (.int 3) (.int a) (.int sk)
        refine ⟨_, rfl, z2, fun p5 hp5 => ?_⟩
        obtain ⟨s5, i5⟩ := nt2 hp5 i4 ((hu.to s13).to s4)
        refine ⟨z2, fun p6 hp6 => ?_⟩
        obtain ⟨s6, i6⟩ := nt2 hp6 (.int xv) i5
        refine ⟨z1, fun p7 hp7 => ?_⟩
        have s7 := same_new hp7 (.lst [.ref p6])
        have s37 := ((s4.trans s5).trans s6).trans s7
        obtain ⟨xs, et, rt⟩ := (hL.to s13).to s37
        have lx : xs.length = σ.length := by rw [rt.len, List.length_map]
        refine ⟨_, rfl, p7, t, _, _, rfl, rfl, upd_same, et, ?_, fun p8 hp8 => ?_⟩
        · rw [List.length_singleton]
          exact Nat.le_trans (show 1 + xs.length ≤ 1001 by omega) (by decide)
        have s8 := same_new hp8 (.lst ([.ref p6] ++ xs))
        have s38 := s37.trans s8
        have iP : Im K _ (.ref p6) (prD (xv, Tm.app (3, a, sk) (ar.map Tm.var))) := Eq.mpr (by unfold prD; rw [Tm.d_app]; rfl) (i6.to s7)
        have L8 : LR K _ p8 ((xv, Tm.app (3, a, sk) (ar.map Tm.var)) :: σ) := ⟨_, upd_same, (ImA.cons iP rt).to s8⟩
        refine ⟨_, rfl, a1, _, 2, _, rfl, rfl, (tq.mono (Tups.of s38)).sq, rfl, _, rfl, _, rfl, _, rfl, _, rfl, _, rfl, _, _, rfl, rfl, z2, fun p9 hp9 => ?_⟩
        have s9 := same_new hp9 (.lst [.int nv, .int (sk + 1)])
        have s39 := s38.trans s9
        refine ⟨p8, p9, x3, u, g, ar, (xv, .app (3, a, sk) (ar.map .var)) :: σ, a, sk + 1, nv, N, d, rfl, (h3.to s13).to s39, (hu.to s13).to s39, L8.to s9, upd_same, hok', by omega, hd, by rw [List.length_cons]; omega, by omega, fun l1 md1 v1 H' s' e' i' em' => ?_⟩
        exact q l1 md1 v1 H' ((s13.trans s39).trans s') e' i' em'
end
end K3

/-! trees: variables, combined clauses, the Spreader. -/
namespace K3
open PySem PySem.Spec PyProof.Rows L2
theorem combine_snoc (l : List Cl) (x : Cl) (y : List Cl) : combine (l ++ [x]) y = combine l y ++ y.map fun k => x ++ k := by
  unfold combine
  rw [List.flatMap_append]
  simp
theorem combine_take_len (x y : List Cl) (i : Nat) : (combine (x.take i) y).length ≤ x.length * y.length := by
  rw [combine_len, List.length_take]
  exact Nat.mul_le_mul (Nat.min_le_right _ _) (Nat.le_refl _)
section
variable {P : Program} {w : World} {K : PySem.W.Frag} {mg : Str → Option Value} {base : Heap}
theorem Tr.tag {H : Hp} {v : V} {o : Bool} {l r : Tr} (h : Im K H v (Tr.bin o l r).d) : ∃ a y z, v = .ref a ∧ TT K H a [.str (tagB o), y, z] ∧ Im K H y l.d ∧ Im K H z r.d := by
  obtain ⟨a, x, y, z, rfl, tt, hx, hy, hz⟩ := im3 h
  have e := hx.str_inv
  subst e
  exact ⟨a, y, z, rfl, tt, hy, hz⟩
theorem Tr.litv {H : Hp} {v : V} {l : Lit} (h : Im K H v (Tr.lit l).d) : ∃ a y, v = .ref a ∧ TT K H a [.str "literal", y] ∧ Im K H y l.d := by
  obtain ⟨a, x, y, rfl, tt, hx, hy⟩ := im2 h
  have e := hx.str_inv
  subst e
  exact ⟨a, y, rfl, tt, hy⟩
theorem tagB_lit (o : Bool) : ¬ tagB o = "literal" := by cases o <;> decide +kernel
/-- collect_variables -/
def spCTV (K : PySem.W.Frag) (m n : Nat) : Sp := fun vs H Q _ => ∃ (v : V) (a : Addr) (t : Tr) (g : List Int) (N : Int) (d : Nat), vs = [v, .ref a] ∧ Im K H v t.d ∧ t.ok N d ∧ t.dp < n ∧ d < m ∧ H a = some (.lst (iv g)) ∧ Rg N g ∧ 0 ≤ N ∧ N ≤ big ∧
  ∀ H', But a H H' → H' a = some (.lst (iv (trv t g))) → Q .non H'
theorem ok_collect_variables {m : Nat} (D : Def K mg "collect_variables" s_collect_variables p_collect_variables) (c_collect : Cal P w K mg base (m + 1) "collect" p_collect (spCol K m)) : ∀ n : Nat, Cal P w K mg base (n + m + 1) "collect_variables" p_collect_variables (spCTV K m n)
  | 0 => D.none _ fun vs H Q E h => by
    obtain ⟨v, a, t, g, N, d, _, _, _, hn, _⟩ := h
    omega
  | n + 1 => by
    have c_collect_variables := ok_collect_variables D c_collect n
    rw [show n + 1 + m + 1 = (n + m + 1) + 1 by omega]
    refine D.ok sc_collect_variables (N := n_collect_variables) (fun vs H Q E h => ?_) (fun f cdv A outer s H vs Q E hr h => ?_)
    · obtain ⟨v, a, t, g, N, d, rfl, _⟩ := h
      rfl
    obtain ⟨v, a, t, g, N, d, rfl, hv, hok, hn, hd, ha, rg, h0, hN, q⟩ := h
    refine ⟨_, (pss_one (ps_if (pt_cmpR op_eq (pe_ix (ixT (K := K) rfl) (pv 0) pe_int (fun _ _ => rfl)) pe_str (nomark _)) (pss_cons (ps_expr (pc c_collect (hr.mono (by omega)) rfl (pa_cons (pe_ix (ixT (K := K) rfl) (pe_ix (ixT (K := K) rfl) (pv 0) pe_int (fun _ _ => rfl)) pe_int (fun _ _ => rfl)) (pa_cons (pv 1) pa_nil))))
      (pss_one (ps_expr (pc c_collect (hr.mono (by omega)) rfl (pa_cons (pe_ix (ixT (K := K) rfl) (pe_ix (ixT (K := K) rfl) (pv 0) pe_int (fun _ _ => rfl)) pe_int (fun _ _ => rfl)) (pa_cons (pv 1) pa_nil)))))) (pss_cons (ps_expr (pc c_collect_variables (hr.mono (by omega)) rfl (pa_cons (pe_ix (ixT (K := K) rfl) (pv 0) pe_int (fun _ _ => rfl)) (pa_cons (pv 1) pa_nil))))
      (pss_one (ps_expr (pc c_collect_variables (hr.mono (by omega)) rfl (pa_cons (pe_ix (ixT (K := K) rfl) (pv 0) pe_int (fun _ _ => rfl)) (pa_cons (pv 1) pa_nil)))))))), fun fit => ?_⟩
    cases t with
    | lit l =>
      obtain ⟨b, y, rfl, tt, hy⟩ := Tr.litv hv
      obtain ⟨b2, y1, y2, y3, rfl, t2, g1, g2, g3⟩ := im3 hy
      refine ⟨_, rfl, b, _, 0, _, rfl, rfl, tt.sq, rfl, rfl, _, rfl, stT rfl ?_⟩
      refine ⟨_, rfl, b, _, 1, _, rfl, rfl, tt.sq, rfl, b2, _, 1, _, rfl, rfl, t2.sq, rfl, _, rfl, y2, a, l.l, g, N, d, rfl, g2, hok.1, hd, ha, rg, h0, hN, fun H1 b1 e1 => ?_⟩
      have tp := b1.tups ha trivial
      exact ⟨_, rfl, b, _, 1, _, rfl, rfl, (tt.mono tp).sq, rfl, b2, _, 2, _, rfl, rfl, (t2.mono tp).sq, rfl, _, rfl, y3, a, l.r, _, N, d, rfl, g3.mono tp, hok.2, hd, e1, col_rg hok.1 rg, h0, hN, fun H2 b2' e2 => q H2 (b1.trans b2') e2⟩
    | bin o l r =>
      obtain ⟨b, y, z, rfl, tt, hy, hz⟩ := Tr.tag hv
      have dpl : l.dp + 1 ≤ (Tr.bin o l r).dp := by simp only [Tr.dp]; omega
      have dpr : r.dp + 1 ≤ (Tr.bin o l r).dp := by simp only [Tr.dp]; omega
      refine ⟨_, rfl, b, _, 0, _, rfl, rfl, tt.sq, rfl, rfl, _, rfl, stF (tagB_lit o) ?_⟩
      refine ⟨_, rfl, b, _, 1, _, rfl, rfl, tt.sq, rfl, _, rfl, y, a, l, g, N, d, rfl, hy, hok.1, by omega, hd, ha, rg, h0, hN, fun H1 b1 e1 => ?_⟩
      have tp := b1.tups ha trivial
      exact ⟨_, rfl, b, _, 2, _, rfl, rfl, (tt.mono tp).sq, rfl, _, rfl, z, a, r, _, N, d, rfl, hz.mono tp, hok.2, by omega, hd, e1, trv_rg hok.1 rg, h0, hN, fun H2 b2' e2 => q H2 (b1.trans b2') e2⟩
/-- _law_tree_variables -/
def spLTV (K : PySem.W.Frag) (m n : Nat) : Sp := fun vs H Q _ => ∃ (v : V) (a : Addr) (t : Tr) (g : List Int) (N : Int) (d : Nat), vs = [v, .ref a] ∧ Im K H v t.d ∧ t.ok N d ∧ t.dp < n ∧ d < m ∧ H a = some (.lst (iv g)) ∧ Rg N g ∧ 0 ≤ N ∧ N ≤ big ∧ GivL H Q (trv t g)
theorem ok_law_tree_variables {m : Nat} (D : Def K mg "_law_tree_variables" s_law_tree_variables p_law_tree_variables) (c_law_variables : Cal P w K mg base (m + 1) "_law_variables" p_law_variables (spLVars K m)) : ∀ n : Nat, Cal P w K mg base (n + m + 1) "_law_tree_variables" p_law_tree_variables (spLTV K m n)
  | 0 => D.none _ fun vs H Q E h => by
    obtain ⟨v, a, t, g, N, d, _, _, _, hn, _⟩ := h
    omega
  | n + 1 => by
    have c_law_tree_variables := ok_law_tree_variables D c_law_variables n
    rw [show n + 1 + m + 1 = (n + m + 1) + 1 by omega]
    refine D.ok sc_law_tree_variables (N := n_law_tree_variables) (fun vs H Q E h => ?_) (fun f cdv A outer s H vs Q E hr h => ?_)
    · obtain ⟨v, a, t, g, N, d, rfl, _⟩ := h
      rfl
    obtain ⟨v, a, t, g, N, d, rfl, hv, hok, hn, hd, ha, rg, h0, hN, q⟩ := h
    refine ⟨_, (pss_cons (ps_if (pt_cmpR op_eq (pe_ix (ixT (K := K) rfl) (pv 0) pe_int (fun _ _ => rfl)) pe_str (nomark _)) (pss_one (ps_ret (pc c_law_variables (hr.mono (by omega)) rfl (pa_cons (pe_ix (ixT (K := K) rfl) (pe_ix (ixT (K := K) rfl) (pv 0) pe_int (fun _ _ => rfl)) pe_int (fun _ _ => rfl)) (pa_cons (pc c_law_variables (hr.mono (by omega)) rfl (pa_cons (pe_ix (ixT (K := K) rfl) (pe_ix (ixT (K := K) rfl) (pv 0) pe_int (fun _ _ => rfl)) pe_int (fun _ _ => rfl)) (pa_cons (pv 1) pa_nil))) pa_nil))))) pss_nil)
      (pss_one (ps_ret (pc c_law_tree_variables (hr.mono (by omega)) rfl (pa_cons (pe_ix (ixT (K := K) rfl) (pv 0) pe_int (fun _ _ => rfl)) (pa_cons (pc c_law_tree_variables (hr.mono (by omega)) rfl (pa_cons (pe_ix (ixT (K := K) rfl) (pv 0) pe_int (fun _ _ => rfl)) (pa_cons (pv 1) pa_nil))) pa_nil)))))), fun fit => ?_⟩
    cases t with
    | lit l =>
      obtain ⟨b, y, rfl, tt, hy⟩ := Tr.litv hv
      obtain ⟨b2, y1, y2, y3, rfl, t2, g1, g2, g3⟩ := im3 hy
      refine ⟨_, rfl, b, _, 0, _, rfl, rfl, tt.sq, rfl, rfl, _, rfl, stT rfl ?_⟩
      refine ⟨_, rfl, b, _, 1, _, rfl, rfl, tt.sq, rfl, b2, _, 2, _, rfl, rfl, t2.sq, rfl, ?_⟩
      refine ⟨_, rfl, b, _, 1, _, rfl, rfl, tt.sq, rfl, b2, _, 1, _, rfl, rfl, t2.sq, rfl, _, rfl, y2, a, l.l, g, N, d, rfl, g2, hok.1, hd, ha, rg, h0, hN, fun l1 H1 s1 e1 => ?_⟩
      exact ⟨y3, l1, l.r, _, N, d, rfl, g3.to s1, hok.2, hd, e1, col_rg hok.1 rg, h0, hN, fun l2 H2 s2 e2 => q l2 H2 (s1.trans s2) e2⟩
    | bin o l r =>
      obtain ⟨b, y, z, rfl, tt, hy, hz⟩ := Tr.tag hv
      have dpl : l.dp + 1 ≤ (Tr.bin o l r).dp := by simp only [Tr.dp]; omega
      have dpr : r.dp + 1 ≤ (Tr.bin o l r).dp := by simp only [Tr.dp]; omega
      refine ⟨_, rfl, b, _, 0, _, rfl, rfl, tt.sq, rfl, rfl, _, rfl, stF (tagB_lit o) ?_⟩
      refine ⟨_, rfl, b, _, 2, _, rfl, rfl, tt.sq, rfl, ?_⟩
      refine ⟨_, rfl, b, _, 1, _, rfl, rfl, tt.sq, rfl, _, rfl, y, a, l, g, N, d, rfl, hy, hok.1, by omega, hd, ha, rg, h0, hN, fun l1 H1 s1 e1 => ?_⟩
      exact ⟨z, l1, r, _, N, d, rfl, hz.to s1, hok.2, by omega, hd, e1, trv_rg hok.1 rg, h0, hN, fun l2 H2 s2 e2 => q l2 H2 (s1.trans s2) e2⟩
/-! ### combined -/
abbrev LC (K : PySem.W.Frag) (H : Hp) (l : Addr) (cs : List Cl) : Prop := Ls K H l (cs.map clD)
abbrev Short (cs : List Cl) : Prop := ∀ c ∈ cs, c.length ≤ 1000000
theorem ls_get {H : Hp} {xs : List V} {cs : List Cl} (r : ImA K H xs (cs.map clD)) {j : Nat} {x : V} (h : xs[j]? = some x) : ∃ c, cs[j]? = some c ∧ Im K H x (clD c) := by
  obtain ⟨e, he, hx⟩ := r.get h
  rw [List.getElem?_map] at he
  obtain ⟨l, hl, rfl⟩ := Option.map_eq_some_iff.mp he
  exact ⟨l, hl, hx⟩
theorem clD_append (x y : Cl) : clD (x ++ y) = .tuple (x.map Lit.d ++ y.map Lit.d) := by unfold clD; rw [List.map_append]
def spComb (K : PySem.W.Frag) : Sp := fun vs H Q _ => ∃ (a b : Addr) (x y : List Cl), vs = [.ref a, .ref b] ∧ LC K H a x ∧ LC K H b y ∧ Short x ∧ Short y ∧ x.length * y.length ≤ 1000000 ∧ ∀ (l : Addr) (H' : Hp), Same H H' → LC K H' l (combine x y) → Q (.ref l) H'
theorem ok_combined (T : Txt w K mg) (D : Def K mg "combined" s_combined p_combined) : Cal P w K mg base 1 "combined" p_combined (spComb K) := by
  refine D.ok sc_combined (N := n_combined) (fun vs H Q E h => ?_) (fun f cdv A outer s H vs Q E hr h => ?_)
  · obtain ⟨a, b, x, y, rfl, _⟩ := h
    rfl
  obtain ⟨a, b, x, y, rfl, ⟨xs, ea, ra⟩, ⟨ys, eb, rb⟩, sx, sy, hxy, q⟩ := h
  refine ⟨_, (pss_one (ps_ret (pe_lc2 (own := [("one", 2), ("other", 3)]) (vs1 := [3]) rfl sc_combined.nd (pi_list (pv 0)) (blkOk_by (own := [("one", 2), ("other", 3)]) (N := n_combined) (sc := defScope s_combined) (by decide +kernel)) (by decide +kernel) (fun _ _ _ _ _ => (pg_name (i := 2) sc_combined.nd rfl (Or.inl rfl))) (fun _ _ _ _ _ => pts_nil) (fun _ _ _ _ _ => (piL (K := K) rfl (pv 1))) (fun _ _ _ _ _ => (pg_name (i := 3) sc_combined.nd rfl (Or.inl rfl))) (fun _ _ _ _ _ => pts_nil) (fun _ _ _ _ _ => (pe_op (catA (K := K) rfl) (pv 2) (pv 3)))))), fun fit => ?_⟩
  have lx : xs.length = x.length := by rw [ra.len, List.length_map]
  have ly : ys.length = y.length := by rw [rb.len, List.length_map]
  refine ⟨_, rfl, a, rfl, ⟨xs, SqL.of ea⟩, fun D hD => ?_⟩
  refine ⟨fun i m H' => m = xs.length - i ∧ i ≤ xs.length ∧ Same H H' ∧ Ls K H' D ((combine (x.take i) y).map clD), ⟨xs.length, by simp, Nat.zero_le _, same_new hD _, [], upd_same, .nil⟩, ?_⟩
  rintro i m H' ⟨rfl, hi, s1, acc, ed, rd⟩
  have hxs : SqL K H' a xs := SqL.of (s1 _ _ ea)
  by_cases hlt : i < xs.length
  · refine .inr ⟨⟨xs, xs[i], hxs, by simp [hlt]⟩, fun H2 => Same H H2 ∧ Ls K H2 D ((combine (x.take (i + 1)) y).map clD), fun H2 z => ⟨xs.length - (i + 1), by omega, rfl, hlt, z.1, z.2⟩, fun v H2 yl => ?_⟩
    obtain ⟨e2, yl⟩ := yl
    subst e2
    have hv := yl xs hxs
    obtain ⟨c, hc, iv1⟩ := ls_get ra hv
    refine ⟨rfl, ?_⟩
    unfold tYes
    dsimp only
    rw [if_pos rfl]
    refine ⟨_, rfl, b, rfl, ⟨ys, SqL.of (s1 _ _ eb)⟩, fun j k H3 => k = ys.length - j ∧ j ≤ ys.length ∧ Same H H3 ∧ Ls K H3 D ((combine (x.take i) y ++ (y.take j).map fun k => c ++ k).map clD), ⟨ys.length, by simp, Nat.zero_le _, s1, acc, ed, by rw [List.take_zero, List.map_nil, List.append_nil]; exact rd⟩, ?_⟩
    rintro j k H3 ⟨rfl, hj, s3, acc3, ed3, rd3⟩
    have hys : SqL K H3 b ys := SqL.of (s3 _ _ eb)
    by_cases hlt2 : j < ys.length
    · refine .inr ⟨⟨ys, ys[j], hys, by simp [hlt2]⟩, fun H4 => Same H H4 ∧ Ls K H4 D ((combine (x.take i) y ++ (y.take (j + 1)).map fun k => c ++ k).map clD), fun H4 z => ⟨ys.length - (j + 1), by omega, rfl, hlt2, z.1, z.2⟩, fun v2 H4 yl2 => ?_⟩
      obtain ⟨e4, yl2⟩ := yl2
      subst e4
      obtain ⟨c2, hc2, iv2⟩ := ls_get rb (yl2 ys hys)
      refine ⟨rfl, ?_⟩
      rw [if_pos rfl]
      have m1 := sx c (List.mem_of_getElem? hc)
      have m2 := sy c2 (List.mem_of_getElem? hc2)
      refine ⟨_, rfl, _, rfl, ?_⟩
      refine cat_imV (K := K) (ds := c.map Lit.d) (es := c2.map Lit.d) (iv1.to s3) (iv2.to s3) ?_ fun p H5 s5 i5 => ?_
      · rw [List.length_map, List.length_map]
        exact Nat.le_trans (show c.length + c2.length ≤ 2000000 by omega) (by decide)
      · have ln := rd3.len
        rw [List.length_map, List.length_append, List.length_map, List.length_take] at ln
        have lc := combine_len (x.take i) y
        rw [List.length_take] at lc
        have hi' : i < x.length := by omega
        have hm : min i x.length * y.length + y.length ≤ x.length * y.length := by
          rw [Nat.min_eq_left (by omega), ← Nat.succ_mul]
          exact Nat.mul_le_mul hi' (Nat.le_refl _)
        have i5' : Im K H5 (.ref p) (clD (c ++ c2)) := by rw [clD_append]; exact i5
        have g := grow (s3.trans s5) hD (s5 _ _ ed3) (rd3.to s5) i5'
        refine ⟨acc3, s5 _ _ ed3, Nat.lt_of_le_of_lt (show acc3.length ≤ 1000000 by omega) (by decide), g.1, _, g.2.1, ?_⟩
        have eg : combine (x.take i) y ++ (y.take (j + 1)).map (fun k => c ++ k) = (combine (x.take i) y ++ (y.take j).map fun k => c ++ k) ++ [c ++ c2] := by
          rw [take_snoc hc2, List.map_append, ← List.append_assoc]
          rfl
        rw [eg, List.map_append]
        exact g.2.2
    · have e : j = ys.length := by omega
      subst e
      rw [show y.take ys.length = y from List.take_of_length_le (by omega)] at rd3
      refine .inl ⟨⟨ys, hys, Nat.le_refl _⟩, s3, acc3, ed3, ?_⟩
      rw [take_snoc hc, combine_snoc]
      exact rd3
  · have e : i = xs.length := by omega
    subst e
    rw [List.take_of_length_le (by omega)] at rd
    exact .inl ⟨⟨xs, hxs, Nat.le_refl _⟩, q D H' s1 ⟨acc, ed, rd⟩⟩
end
end K3

/-! the Spreader, _law_spread. -/
namespace K3
open PySem PySem.Spec PyProof.Rows L2
section
variable {P : Program} {w : World} {K : PySem.W.Frag} {mg : Str → Option Value} {base : Heap}
theorem Ls.len {H : Hp} {l : Addr} {ds : List PyData} {xs : List V} (h : Ls K H l ds) (e : H l = some (.lst xs)) : xs.length = ds.length := by
  obtain ⟨ys, e2, r⟩ := h
  rw [e] at e2
  have e3 : xs = ys := HO.lst.inj (Option.some.inj e2)
  rw [e3]
  exact r.len
theorem cat_ls {H : Hp} {l b : Addr} {ds es : List PyData} {Q : VK} (h : Ls K H l ds) (h2 : Ls K H b es) (hl : ds.length + es.length ≤ 1000000) (k : ∀ p H', Same H H' → Ls K H' p (ds ++ es) → Q (.ref p) H') : rCat (.ref l) (.ref b) H Q := by
  obtain ⟨xs, e1, r1⟩ := h
  obtain ⟨ys, e2, r2⟩ := h2
  refine ⟨l, b, xs, ys, rfl, rfl, e1, e2, ?_, fun p hp => ?_⟩
  · rw [r1.len, r2.len]
    exact Nat.le_trans hl (by decide)
  · have s := same_new hp (.lst (xs ++ ys))
    exact k p _ s ⟨_, upd_same, (r1.append r2).to s⟩
/-! ### the object -/
def sf (a c : Int) : List (Str × V) := putF "count" (.int c) (putF "number" (.int a) [])
theorem sf_len (a c : Int) : (sf a c).length < 1000 := by
  unfold sf
  have h2 := putF_len "count" (.int c) (putF "number" (.int a) [])
  have h3 := putF_len "number" (.int a) []
  simp only [List.length_nil] at h3
  omega
theorem sf_number (a c : Int) : (sf a c).lookup ("number" : Str) = some (.int a) := by
  unfold sf
  rw [lookup_putF, if_neg ne_cn, lookup_putF, if_pos rfl]
theorem sf_count (a c : Int) : (sf a c).lookup ("count" : Str) = some (.int c) := by
  unfold sf
  rw [lookup_putF, if_pos rfl]
theorem sf_no (a c : Int) {m : Str} (h2 : ¬ m = "count") (h3 : ¬ m = "number") : (sf a c).lookup m = none := by
  unfold sf
  rw [lookup_putF, if_neg h2, lookup_putF, if_neg h3]
  rfl
theorem sf_eq (a c : Int) : sf a c = ([("number", V.int a), ("count", V.int c)] : List (Str × V)) := by
  unfold sf
  show (if ("number" : Str) = "count" then _ else (("number" : Str), V.int a) :: [(("count" : Str), V.int c)]) = _
  rw [if_neg ne_cn]
  all_goals rfl
theorem sf_put (a c c' : Int) : putF "count" (.int c') (sf a c) = sf a c' := by
  rw [sf_eq, sf_eq]
  show (if ("number" : Str) = "count" then _ else (("number" : Str), V.int a) :: (if ("count" : Str) = "count" then [(("count" : Str), V.int c')] else _)) = _
  rw [if_neg ne_cn, if_pos rfl]
  all_goals rfl
structure TS2 (K : PySem.W.Frag) (C : Addr) : Prop where
  cl : Cls K C
  number : NoAttr K C "number"
  count : NoAttr K C "count"
def SpAt (C : Addr) (H : Hp) (p : Addr) (a c : Int) : Prop := ∃ dx, H p = some (.ins C dx (sf a c))
theorem SpAt.to {C : Addr} {H H' : Hp} {p : Addr} {a c : Int} (h : SpAt C H p a c) (s : Same H H') : SpAt C H' p a c := by
  obtain ⟨dx, e⟩ := h
  exact ⟨dx, s _ _ e⟩
theorem no_spread (a c : Int) : (sf a c).lookup ("spread" : Str) = none := sf_no _ _ (by decide +kernel) (by decide +kernel)
def spSInit (C : Addr) : Sp := fun vs H Q _ => ∃ (p dx : Addr) (a c : Int), vs = [.ref p, .int a, .int c] ∧ H p = some (.ins C dx []) ∧ ∀ H', SpAt C H' p a c → But p H H' → Q .non H'
theorem ok_Spreader_init {C : Addr} (TC : TS2 K C) (D : KDef K mg C "Spreader" "Spreader.__init__" s_Spreader___init__ p_Spreader___init__) : KCal P w K mg base C 1 "Spreader" p_Spreader___init__ (spSInit C) := by
  refine D.ok sc_Spreader___init__ (N := n_Spreader___init__) (fun vs H Q E h => ?_) (fun f cdv A outer s H vs Q E hr h => ?_)
  · obtain ⟨p, dx, a, c, rfl, _⟩ := h
    rfl
  obtain ⟨p, dx, a, c, rfl, hp, q⟩ := h
  refine ⟨_, (pss_cons (ps_fld (pv 0) (pv 1) rfl)
      (pss_one (ps_fld (pv 0) (pv 2) rfl))), fun fit => ?_⟩
  have l1 := putF_len "number" (.int a) []
  simp only [List.length_nil] at l1
  refine ⟨_, rfl, _, rfl, p, C, dx, _, rfl, hp, TC.cl, TC.number, by decide, ?_⟩
  refine ⟨_, rfl, _, rfl, p, C, dx, _, rfl, upd_same, TC.cl, TC.count, by omega, ?_⟩
  exact q _ ⟨dx, upd_same⟩ fun b o e n => by rw [upd_ne n, upd_ne n]; exact e
/-- what the walks ask of a tree -/
structure TrOk (M : Int) (d n m : Nat) (t : Tr) : Prop where
  ok : t.ok M (d + 1)
  dp : t.dp < n
  d : d + 1 < m
  lv : t.lv ≤ 100000
  m0 : 0 ≤ M
  mb : M ≤ big
theorem spr_short {M : Int} {d n m : Nat} {t : Tr} {a c : Int} (h : TrOk M d n m t) : Short (spr a t c).1 ∧ Short (spr a t c).2.1 ∧ (spr a t c).1.length + (spr a t c).2.1.length ≤ 100000 := by
  obtain ⟨h1, h2, h3, h4⟩ := spr_ok (a := a) (c := c) h.ok
  have := h.lv
  exact ⟨fun k hk => by have := (h1 k hk).2; omega, fun k hk => by have := (h2 k hk).2; omega, by omega⟩
theorem TrOk.l {M : Int} {d n m : Nat} {o : Bool} {l r : Tr} (h : TrOk M d (n + 1) m (.bin o l r)) : TrOk M d n m l := by
  obtain ⟨h1, h2, h3, h4, h5, h6⟩ := h
  simp only [Tr.dp, Tr.lv] at h2 h4
  exact ⟨h1.1, by omega, h3, by omega, h5, h6⟩
theorem TrOk.r {M : Int} {d n m : Nat} {o : Bool} {l r : Tr} (h : TrOk M d (n + 1) m (.bin o l r)) : TrOk M d n m r := by
  obtain ⟨h1, h2, h3, h4, h5, h6⟩ := h
  simp only [Tr.dp, Tr.lv] at h2 h4
  exact ⟨h1.2, by omega, h3, by omega, h5, h6⟩
def negL (t : Tm) : Lit := ⟨false, t, truth⟩
def posL (t : Tm) : Lit := ⟨true, t, truth⟩
def orS (a : Int) (r : Tr) (x y : List Cl × List Cl × Int) : List Cl × List Cl × Int :=
  if x.1.length = 1 ∨ y.1.length = 1 then (combine x.1 y.1, x.2.1 ++ y.2.1, y.2.2)
  else (x.1.map fun k => k ++ [posL (partA a y.2.2 (trv r []))], (x.2.1 ++ y.2.1) ++ y.1.map fun k => negL (partA a y.2.2 (trv r [])) :: k, y.2.2 + 1)
theorem spr_and (a : Int) (l r : Tr) (c : Int) : spr a (.bin true l r) c = ((spr a l c).1 ++ (spr a r (spr a l c).2.2).1, (spr a l c).2.1 ++ (spr a r (spr a l c).2.2).2.1, (spr a r (spr a l c).2.2).2.2) := rfl
theorem spr_or (a : Int) (l r : Tr) (c : Int) : spr a (.bin false l r) c = orS a r (spr a l c) (spr a r (spr a l c).2.2) := rfl
theorem partA_d (a c : Int) (vs : List Int) : (partA a c vs).d = .tuple [symD (4, a, c), .tuple (tmsD (vs.map Tm.var))] := by unfold partA; rw [Tm.d_app]
/-- spread -/
def spSpr (K : PySem.W.Frag) (C : Addr) (m n : Nat) : Sp := fun vs H Q _ => ∃ (p : Addr) (v : V) (t : Tr) (a c : Int) (M : Int) (d : Nat), vs = [.ref p, v] ∧ SpAt C H p a c ∧ Im K H v t.d ∧ TrOk M d n m t ∧
  ∀ (r l1 l2 : Addr) (H' : Hp), But p H H' → SpAt C H' p a (spr a t c).2.2 → TT K H' r [.ref l1, .ref l2] → LC K H' l1 (spr a t c).1 → LC K H' l2 (spr a t c).2.1 → Q (.ref r) H'
theorem Ls.ne {H : Hp} {l p : Addr} {ds : List PyData} {C dx : Addr} {fs : List (Str × V)} (h : Ls K H l ds) (e : H p = some (.ins C dx fs)) : l ≠ p := by
  obtain ⟨xs, e1, _⟩ := h
  exact ne_of e1 e (by intro z; cases z)
theorem ok_Spreader_spread {C : Addr} {m b : Nat} (T : Txt w K mg) (TC : TS2 K C) (D : MDef K C "spread" "Spreader.spread" s_Spreader_spread p_Spreader_spread) (c_collect_variables : Cal P w K mg base (b + m + 1) "collect_variables" p_collect_variables (spCTV K m b)) (c_combined : Cal P w K mg base 1 "combined" p_combined (spComb K)) (c_part_name : Cal P w K mg base 1 "part_name" p_part_name (spSym K 4)) :
    ∀ n : Nat, n ≤ b → MCal P w K mg base C (n + (b + m + 1)) "spread" p_Spreader_spread (spSpr K C m n)
  | 0, _ => D.none _ fun vs H Q E h => by
    obtain ⟨p, v, t, a, c, M, d, _, _, _, ht, _⟩ := h
    have := ht.dp
    omega
  | n + 1, hnb => by
    have m_Spreader_spread := ok_Spreader_spread T TC D c_collect_variables c_combined c_part_name n (by omega)
    rw [show n + 1 + (b + m + 1) = (n + (b + m + 1)) + 1 by omega]
    refine D.ok sc_Spreader_spread (N := n_Spreader_spread) (fun vs H Q E h => ?_) (fun f cdv A outer s H vs Q E hr h => ?_)
    · obtain ⟨p, v, t, a, c, M, d, rfl, _⟩ := h
      rfl
    obtain ⟨p, v, t, a, c, M, d, rfl, ⟨dx, hp⟩, hv, ht, q⟩ := h
    obtain ⟨aT, mg_TRUTH, iT⟩ := T.c_TRUTH
    refine ⟨_, (pss_cons (ps_if (pt_cmpR op_eq (pe_ix (ixT (K := K) rfl) (pv 1) pe_int (fun _ _ => rfl)) pe_str (nomark _)) (pss_one (ps_ret (pe_tup (pa_cons (pe_lst (pa_cons (pe_tup (pa_cons (pe_ix (ixT (K := K) rfl) (pv 1) pe_int (fun _ _ => rfl)) pa_nil)) pa_nil)) (pa_cons (pe_lst pa_nil) pa_nil))))) pss_nil)
      (pss_cons (ps_asg (pm m_Spreader_spread (hr.mono (by omega)) (pv 0) (pa_cons (pe_ix (ixT (K := K) rfl) (pv 1) pe_int (fun _ _ => rfl)) pa_nil)) (pg_tup rfl (pgs_cons (pg_name (i := 2) sc_Spreader_spread.nd rfl (Or.inl rfl)) (pgs_cons (pg_name (i := 3) sc_Spreader_spread.nd rfl (Or.inl rfl)) pgs_nil))))
      (pss_cons (ps_asg (pm m_Spreader_spread (hr.mono (by omega)) (pv 0) (pa_cons (pe_ix (ixT (K := K) rfl) (pv 1) pe_int (fun _ _ => rfl)) pa_nil)) (pg_tup rfl (pgs_cons (pg_name (i := 4) sc_Spreader_spread.nd rfl (Or.inl rfl)) (pgs_cons (pg_name (i := 5) sc_Spreader_spread.nd rfl (Or.inl rfl)) pgs_nil))))
      (pss_cons (ps_set (i := 6) sc_Spreader_spread.nd rfl (Or.inl rfl) (pe_op op_cat (pv 3) (pv 5)))
      (pss_cons (ps_if (pt_cmpR op_eq (pe_ix (ixT (K := K) rfl) (pv 1) pe_int (fun _ _ => rfl)) pe_str (nomark _)) (pss_one (ps_ret (pe_tup (pa_cons (pe_op op_cat (pv 2) (pv 4)) (pa_cons (pv 6) pa_nil))))) pss_nil)
      (pss_cons (ps_if (PW.pt (pw_or (pt_cmpR op_eq (pe_callB call_len_seq rfl T.m_len PySem.boot_len (pa_cons (pv 2) pa_nil)) pe_int (nomark _)) (pw_or1 (pt_cmpR op_eq (pe_callB call_len_seq rfl T.m_len PySem.boot_len (pa_cons (pv 4) pa_nil)) pe_int (nomark _))))) (pss_one (ps_ret (pe_tup (pa_cons (pc c_combined (hr.mono (by omega)) rfl (pa_cons (pv 2) (pa_cons (pv 4) pa_nil))) (pa_cons (pv 6) pa_nil))))) pss_nil)
      (pss_cons (ps_set (i := 7) sc_Spreader_spread.nd rfl (Or.inl rfl) (pe_lst pa_nil))
      (pss_cons (ps_expr (pc c_collect_variables (hr.mono (by omega)) rfl (pa_cons (pe_ix (ixT (K := K) rfl) (pv 1) pe_int (fun _ _ => rfl)) (pa_cons (pv 7) pa_nil))))
      (pss_cons (ps_set (i := 8) sc_Spreader_spread.nd rfl (Or.inr rfl) (pe_tup (pa_cons (pc c_part_name (hr.mono (by omega)) rfl (pa_cons (pe_fld (pv 0) rfl) (pa_cons (pe_fld (pv 0) rfl) pa_nil))) (pa_cons (pe_callTy call_tuple_of rfl T.m_tuple (by decide +kernel) (pa_cons (pv 7) pa_nil)) pa_nil))))
      (pss_cons (ps_fldaug (pv 0) pe_int in_add)
      (pss_cons (ps_setLc (i := 9) (own := [("clause", 10)]) (g := gName 10) rfl sc_Spreader_spread.nd rfl rfl (sw_true rfl rfl rfl (by decide +kernel)) (pi_list (pv 4)) (blkOk_by (own := [("clause", 10)]) (N := n_Spreader_spread) (sc := defScope s_Spreader_spread) (by decide +kernel)) (fun _ _ _ _ _ => (pg_name (i := 10) sc_Spreader_spread.nd rfl (Or.inl rfl))) (fun _ _ _ _ _ => pts_nil) (fun _ _ _ _ _ => (pe_op (catA (K := K) rfl) (pe_tup (pa_cons (pe_tup (pa_cons pe_bl (pa_cons (pv 8) (pa_cons (pgl rfl mg_TRUTH) pa_nil)))) pa_nil)) (pv 10))))
      (pss_one (ps_ret (pe_tup (pa_cons (pe_lc (own := [("clause", 10)]) (g := gName 10) rfl sc_Spreader_spread.nd (pi_list (pv 2)) (blkOk_by (own := [("clause", 10)]) (N := n_Spreader_spread) (sc := defScope s_Spreader_spread) (by decide +kernel)) (fun _ _ _ _ _ => (pg_name (i := 10) sc_Spreader_spread.nd rfl (Or.inl rfl))) (fun _ _ _ _ _ => pts_nil) (fun _ _ _ _ _ => (pe_op (catA (K := K) rfl) (pv 10) (pe_tup (pa_cons (pe_tup (pa_cons pe_bl (pa_cons (pv 8) (pa_cons (pgl rfl mg_TRUTH) pa_nil)))) pa_nil))))) (pa_cons (pe_op op_cat (pv 6) (pv 9)) pa_nil)))))))))))))))), fun fit => ?_⟩
    cases t with
    | lit l =>
      obtain ⟨a1, y, rfl, tt, hy⟩ := Tr.litv hv
      refine ⟨_, rfl, a1, _, 0, _, rfl, rfl, tt.sq, rfl, rfl, _, rfl, stT rfl ?_⟩
      refine ⟨_, rfl, a1, _, 1, _, rfl, rfl, tt.sq, rfl, z1, fun p1 hp1 => ?_⟩
      obtain ⟨s1, i1⟩ := nt1 hp1 hy
      refine ⟨z1, fun p2 hp2 => ?_⟩
      have s2 := same_new hp2 (.lst [.ref p1])
      refine ⟨Nat.zero_le _, fun p3 hp3 => ?_⟩
      have s3 := same_new hp3 (.lst [])
      refine ⟨z2, fun p4 hp4 => ?_⟩
      have s4 := same_new hp4 (.tup [.ref p2, .ref p3])
      have s14 := ((s1.trans s2).trans s3).trans s4
      exact q p4 p2 p3 _ (But.of s14) ⟨dx, s14 _ _ hp⟩ (.inl upd_same) ⟨_, s4 _ _ (s3 _ _ upd_same), (((ImA.one i1).to s2).to s3).to s4⟩ ⟨_, s4 _ _ upd_same, .nil⟩
    | bin o l r =>
      obtain ⟨a1, y, z, rfl, tt, hy, hz⟩ := Tr.tag hv
      obtain ⟨shl1, shl2, shl3⟩ := spr_short (a := a) (c := c) ht.l
      obtain ⟨shr1, shr2, shr3⟩ := spr_short (a := a) (c := (spr a l c).2.2) ht.r
      refine ⟨_, rfl, a1, _, 0, _, rfl, rfl, tt.sq, rfl, rfl, _, rfl, stF (tagB_lit o) ?_⟩
      refine ⟨_, rfl, p, dx, _, rfl, hp, no_spread _ _, _, rfl, a1, _, 1, _, rfl, rfl, tt.sq, rfl, p, y, l, a, c, M, d, rfl, ⟨dx, hp⟩, hy, ht.l, fun r1 l1 l2 H1 b1 o1 t1 e1 e2 => ?_⟩
      refine ⟨r1, _, rfl, t1.sq, rfl, _, _, rfl, _, _, rfl, rfl, ?_⟩
      have tp1 := b1.tups hp trivial
      obtain ⟨dx1, hp1⟩ := id o1
      have tt1 := tt.mono tp1
      have hz1 := hz.mono tp1
      generalize hX : spr a l c = X at *
      refine ⟨_, rfl, p, dx1, _, rfl, hp1, no_spread _ _, _, rfl, a1, _, 2, _, rfl, rfl, tt1.sq, rfl, p, z, r, a, X.2.2, M, d, rfl, o1, hz1, ht.r, fun r2 l3 l4 H2 b2 o2 t2 e3 e4 => ?_⟩
      refine ⟨r2, _, rfl, t2.sq, rfl, _, _, rfl, _, _, rfl, rfl, ?_⟩
      have tp2 := b2.tups hp1 trivial
      have tt2 := tt1.mono tp2
      have hz2 := hz1.mono tp2
      have e1' := e1.but b2 tp2 (e1.ne hp1)
      have e2' := e2.but b2 tp2 (e2.ne hp1)
      generalize hY : spr a r X.2.2 = Y at *
      refine ⟨_, rfl, _, rfl, ?_⟩
      refine cat_ls e2' e4 (by rw [List.length_map, List.length_map]; omega) fun q1 H3 s3 e5 => ?_
      have bb3 : But p H H3 := (b1.trans b2).trans (But.of s3)
      have o3 := o2.to s3
      have e1'' := e1'.to s3
      have e3'' := e3.to s3
      have tt3 := tt2.mono (Tups.of s3)
      have hz3 := hz2.to s3
      refine ⟨_, rfl, a1, _, 0, _, rfl, rfl, tt3.sq, rfl, rfl, _, rfl, ?_⟩
      cases o with
      | true =>
        rw [spr_and, hX, hY] at q
        refine stT rfl ?_
        refine ⟨_, rfl, _, rfl, ?_⟩
        refine cat_ls e1'' e3'' (by rw [List.length_map, List.length_map]; omega) fun q2 H4 s4 e6 => ?_
        refine ⟨_, rfl, z2, fun q3 hq3 => ?_⟩
        have s5 := same_new hq3 (.tup [.ref q2, .ref q1])
        refine q q3 q2 q1 _ ((bb3.trans (But.of s4)).trans (But.of s5)) ((o3.to s4).to s5) (.inl upd_same) ?_ ?_
        · show Ls K _ q2 _
          rw [List.map_append]
          exact e6.to s5
        · show Ls K _ q1 _
          rw [List.map_append]
          exact (e5.to s4).to s5
      | false =>
        rw [spr_or, hX, hY] at q
        refine stF (by decide +kernel) ?_
        obtain ⟨xs, ex, rx⟩ := id e1''
        obtain ⟨ys, ey, ry⟩ := id e3''
        have lx : xs.length = X.1.length := by rw [rx.len, List.length_map]
        have ly : ys.length = Y.1.length := by rw [ry.len, List.length_map]
        refine ⟨_, rfl, _, xs, rfl, .inl (SqL.of ex), rfl, _, rfl, ?_⟩
        refine ite2 (fun c1 => iteT ?_) (fun c1 => ⟨_, rfl, _, ys, rfl, .inl (SqL.of ey), rfl, _, rfl, ite2 (fun c2 => ?_) (fun c2 => ?_)⟩)
        · have k1 : X.1.length = 1 ∨ Y.1.length = 1 := .inl (by have := V.int.inj (of_decide_eq_true c1); omega)
          unfold orS at q
          simp only [if_pos k1] at q
          refine ⟨_, rfl, _, rfl, l1, l3, X.1, Y.1, rfl, e1'', e3'', shl1, shr1, ?_, fun q2 H4 s4 e6 => ?_⟩
          · rcases k1 with e | e
            · rw [e, Nat.one_mul]; omega
            · rw [e, Nat.mul_one]; omega
          refine ⟨_, rfl, z2, fun q3 hq3 => ?_⟩
          have s5 := same_new hq3 (.tup [.ref q2, .ref q1])
          refine q q3 q2 q1 _ ((bb3.trans (But.of s4)).trans (But.of s5)) ((o3.to s4).to s5) (.inl upd_same) (e6.to s5) ?_
          show Ls K _ q1 _
          rw [List.map_append]
          exact (e5.to s4).to s5
        · have k1 : X.1.length = 1 ∨ Y.1.length = 1 := .inr (by have := V.int.inj (of_decide_eq_true c2); omega)
          unfold orS at q
          simp only [if_pos k1] at q
          refine ⟨_, rfl, _, rfl, l1, l3, X.1, Y.1, rfl, e1'', e3'', shl1, shr1, ?_, fun q2 H4 s4 e6 => ?_⟩
          · rcases k1 with e | e
            · rw [e, Nat.one_mul]; omega
            · rw [e, Nat.mul_one]; omega
          refine ⟨_, rfl, z2, fun q3 hq3 => ?_⟩
          have s5 := same_new hq3 (.tup [.ref q2, .ref q1])
          refine q q3 q2 q1 _ ((bb3.trans (But.of s4)).trans (But.of s5)) ((o3.to s4).to s5) (.inl upd_same) (e6.to s5) ?_
          show Ls K _ q1 _
          rw [List.map_append]
          exact (e5.to s4).to s5
        · have k1 : ¬ (X.1.length = 1 ∨ Y.1.length = 1) := fun z => by
            rcases z with z | z
            · exact c1 (decide_eq_true (by rw [lx, z]; rfl))
            · exact c2 (decide_eq_true (by rw [ly, z]; rfl))
          unfold orS at q
          simp only [if_neg k1] at q
          have rg : Rg M (trv r []) := trv_rg ht.r.ok Rg.nil
          generalize hF : trv r [] = F at *
          refine ⟨Nat.zero_le _, fun fl hfl => ?_⟩
          have s4 := same_new hfl (.lst [])
          refine ⟨_, rfl, a1, _, 2, _, rfl, rfl, (tt3.mono (Tups.of s4)).sq, rfl, _, rfl, z, fl, r, [], M, d + 1, rfl, hz3.to s4, ht.r.ok, by have := ht.r.dp; omega, ht.d, upd_same, Rg.nil, ht.m0, ht.mb, fun H5 b5 e7 => ?_⟩
          rw [hF] at e7
          have s5 : Same H3 H5 := But.to_same s4 hfl b5
          obtain ⟨dx5, hp5⟩ := o3.to s5
          refine ⟨_, rfl, p, C, dx5, _, _, rfl, hp5, TC.cl, TC.number, sf_number _ _, _, rfl, p, C, dx5, _, _, rfl, hp5, TC.cl, TC.count, sf_count _ _, a, Y.2.2, rfl, fun v6 H6 s6 i6 => ?_⟩
          refine ⟨_, rfl, fl, _, rfl, .inl ⟨SqL.of (s6 _ _ e7), fun tp htp => ?_⟩⟩
          have s7 := same_new htp (.tup (iv F))
          have i7 : Im K (upd H6 tp (.tup (iv F))) (.ref tp) (.tuple (tmsD (F.map Tm.var))) := im_vars (.inl upd_same)
          refine ⟨z2, fun p8 hp8 => ?_⟩
          obtain ⟨s8, i8⟩ := nt2 hp8 (i6.to s7) i7
          rw [← partA_d] at i8
          generalize hA : partA a Y.2.2 F = At at *
          have s58 := ((s5.trans s6).trans s7).trans s8
          generalize upd (upd H6 tp (.tup (iv F))) p8 (.tup [v6, .ref tp]) = H8 at *
          obtain ⟨dx8, hp8'⟩ := o3.to s58
          refine ⟨_, rfl, p, C, dx8, _, _, rfl, hp8', TC.cl, TC.count, sf_count _ _, _, _, rfl, rfl, dx8, _, hp8', sf_len _ _, ?_⟩
          rw [sf_put]
          have b9 : But p H8 (upd H8 p (.ins C dx8 (sf a (Y.2.2 + 1)))) := But.upd _
          have t9 := b9.tups hp8' trivial
          have o9 : SpAt C (upd H8 p (.ins C dx8 (sf a (Y.2.2 + 1)))) p a (Y.2.2 + 1) := ⟨dx8, upd_same⟩
          have f1 := (e1''.to s58).but b9 t9 ((e1''.to s58).ne hp8')
          have f3 := (e3''.to s58).but b9 t9 ((e3''.to s58).ne hp8')
          have f5 := (e5.to s58).but b9 t9 ((e5.to s58).ne hp8')
          have i9 := i8.mono t9
          have bb9 : But p H (upd H8 p (.ins C dx8 (sf a (Y.2.2 + 1)))) := (bb3.trans (But.of s58)).trans b9
          generalize upd H8 p (.ins C dx8 (sf a (Y.2.2 + 1))) = H9 at *
          obtain ⟨ys9, ey9, ry9⟩ := id f3
          have ly9 : ys9.length = Y.1.length := by rw [ry9.len, List.length_map]
          refine ⟨_, rfl, l3, rfl, ⟨ys9, SqL.of ey9⟩, fun D1 hD1 => ?_⟩
          refine lc_mapL (K := K) (es := (Y.1.map fun k => negL At :: k).map clD) (SqL.of ey9) (by rw [List.length_map, List.length_map]; exact ly9.symm) (Nat.le_trans (show ys9.length ≤ 1000000 by omega) (by decide)) hD1 (fun j x' e' H' hx' he' sj R kR => ⟨rfl, ?_⟩) fun H10 ysn s10 eyn ryn => ?_
          · obtain ⟨cc, hcc, icc⟩ := ls_get ry9 hx'
            rw [List.map_map, List.getElem?_map, hcc] at he'
            have ee : clD (negL At :: cc) = e' := Option.some.inj he'
            subst ee
            have mc := shr1 cc (List.mem_of_getElem? hcc)
            refine ⟨_, rfl, z3, fun p11 hp11 => ?_⟩
            obtain ⟨s11, i11⟩ := nt3 hp11 (.bl false) (i9.to sj) (iT _)
            refine ⟨z1, fun p12 hp12 => ?_⟩
            obtain ⟨s12, i12⟩ := nt1 hp12 i11
            refine ⟨_, rfl, ?_⟩
            refine cat_imV (K := K) (ds := [(negL At).d]) (es := cc.map Lit.d) i12 (((icc.to sj).to s11).to s12) ?_ fun p13 H13 s13 i13 => ?_
            · rw [List.length_map, List.length_singleton]
              exact Nat.le_trans (show 1 + cc.length ≤ 1000001 by omega) (by decide)
            · exact kR _ _ ((s11.trans s12).trans s13) i13
          obtain ⟨xs10, ex10, rx10⟩ := f1.to s10
          have lx10 : xs10.length = X.1.length := by rw [rx10.len, List.length_map]
          refine ⟨_, rfl, l1, rfl, ⟨xs10, SqL.of ex10⟩, fun D2 hD2 => ?_⟩
          refine lc_mapL (K := K) (es := (X.1.map fun k => k ++ [posL At]).map clD) (SqL.of ex10) (by rw [List.length_map, List.length_map]; exact lx10.symm) (Nat.le_trans (show xs10.length ≤ 1000000 by omega) (by decide)) hD2 (fun j x' e' H' hx' he' sj R kR => ⟨rfl, ?_⟩) fun H14 xsn s14 exn rxn => ?_
          · obtain ⟨cc, hcc, icc⟩ := ls_get rx10 hx'
            rw [List.map_map, List.getElem?_map, hcc] at he'
            have ee : clD (cc ++ [posL At]) = e' := Option.some.inj he'
            subst ee
            have mc := shl1 cc (List.mem_of_getElem? hcc)
            refine ⟨_, rfl, _, rfl, z3, fun p11 hp11 => ?_⟩
            obtain ⟨s11, i11⟩ := nt3 hp11 (.bl true) ((i9.to s10).to sj) (iT _)
            refine ⟨z1, fun p12 hp12 => ?_⟩
            obtain ⟨s12, i12⟩ := nt1 hp12 i11
            refine cat_imV (K := K) (ds := cc.map Lit.d) (es := [(posL At).d]) (((icc.to sj).to s11).to s12) i12 ?_ fun p13 H13 s13 i13 => ?_
            · rw [List.length_map, List.length_singleton]
              exact Nat.le_trans (show cc.length + 1 ≤ 1000001 by omega) (by decide)
            · exact kR _ _ ((s11.trans s12).trans s13) (by rw [clD_append]; exact i13)
          have fm : Ls K H14 D1 ((Y.1.map fun k => negL At :: k).map clD) := ⟨ysn, s14 _ _ eyn, ryn.to s14⟩
          refine ⟨_, rfl, _, rfl, ?_⟩
          refine cat_ls ((f5.to s10).to s14) fm (by simp only [List.length_append, List.length_map]; omega) fun q2 H15 s15 e15 => ?_
          refine ⟨z2, fun q3 hq3 => ?_⟩
          have s16 := same_new hq3 (.tup [.ref D2, .ref q2])
          have s916 := ((s10.trans s14).trans s15).trans s16
          refine q q3 D2 q2 _ (bb9.trans (But.of s916)) (o9.to s916) (.inl upd_same) ⟨xsn, s16 _ _ (s15 _ _ exn), (rxn.to s15).to s16⟩ ?_
          show Ls K _ q2 _
          rw [List.map_append, List.map_append]
          exact e15.to s16
end
end K3

/-! _law_spread. -/
namespace K3
open PySem PySem.Spec PyProof.Rows L2
section
variable {P : Program} {w : World} {K : PySem.W.Frag} {mg : Str → Option Value} {base : Heap}
def spLSpr (K : PySem.W.Frag) (m n : Nat) : Sp := fun vs H Q _ => ∃ (v : V) (t : Tr) (a c : Int) (M : Int) (d : Nat), vs = [v, .int a, .int c] ∧ Im K H v t.d ∧ TrOk M d n m t ∧
  ∀ (r l1 l2 : Addr) (H' : Hp), Same H H' → H' r = some (.lst [.ref l1, .ref l2, .int (spr a t c).2.2]) → LC K H' l1 (spr a t c).1 → LC K H' l2 (spr a t c).2.1 → Q (.ref r) H'
theorem ok_law_spread {m b : Nat} (T : Txt w K mg) (D : Def K mg "_law_spread" s_law_spread p_law_spread) (c_law_tree_variables : Cal P w K mg base (b + m + 1) "_law_tree_variables" p_law_tree_variables (spLTV K m b)) :
    ∀ n : Nat, n ≤ b → Cal P w K mg base (n + (b + m + 1)) "_law_spread" p_law_spread (spLSpr K m n)
  | 0, _ => D.none _ fun vs H Q E h => by
    obtain ⟨v, t, a, c, M, d, _, _, ht, _⟩ := h
    have := ht.dp
    omega
  | n + 1, hnb => by
    have c_law_spread := ok_law_spread T D c_law_tree_variables n (by omega)
    rw [show n + 1 + (b + m + 1) = (n + (b + m + 1)) + 1 by omega]
    refine D.ok sc_law_spread (N := n_law_spread) (fun vs H Q E h => ?_) (fun f cdv A outer s H vs Q E hr h => ?_)
    · obtain ⟨v, t, a, c, M, d, rfl, _⟩ := h
      rfl
    obtain ⟨v, t, a, c, M, d, rfl, hv, ht, q⟩ := h
    refine ⟨_, (pss_cons (ps_if (pt_cmpR op_eq (pe_ix (ixT (K := K) rfl) (pv 0) pe_int (fun _ _ => rfl)) pe_str (nomark _)) (pss_one (ps_ret (pe_lst (pa_cons (pe_lst (pa_cons (pe_tup (pa_cons (pe_ix (ixT (K := K) rfl) (pv 0) pe_int (fun _ _ => rfl)) pa_nil)) pa_nil)) (pa_cons (pe_lst pa_nil) (pa_cons (pv 2) pa_nil)))))) pss_nil)
      (pss_cons (ps_set (i := 3) sc_law_spread.nd rfl (Or.inl rfl) (pc c_law_spread (hr.mono (by omega)) rfl (pa_cons (pe_ix (ixT (K := K) rfl) (pv 0) pe_int (fun _ _ => rfl)) (pa_cons (pv 1) (pa_cons (pv 2) pa_nil)))))
      (pss_cons (ps_set (i := 4) sc_law_spread.nd rfl (Or.inl rfl) (pc c_law_spread (hr.mono (by omega)) rfl (pa_cons (pe_ix (ixT (K := K) rfl) (pv 0) pe_int (fun _ _ => rfl)) (pa_cons (pv 1) (pa_cons (pe_ix (ixL (K := K) rfl) (pv 3) pe_int (fun _ _ => rfl)) pa_nil)))))
      (pss_cons (ps_set (i := 2) sc_law_spread.nd rfl (Or.inl rfl) (pe_ix (ixL (K := K) rfl) (pv 4) pe_int (fun _ _ => rfl)))
      (pss_cons (ps_set (i := 5) sc_law_spread.nd rfl (Or.inl rfl) (pe_op op_cat (pe_ix (ixL (K := K) rfl) (pv 3) pe_int (fun _ _ => rfl)) (pe_ix (ixL (K := K) rfl) (pv 4) pe_int (fun _ _ => rfl))))
      (pss_cons (ps_if (pt_cmpR op_eq (pe_ix (ixT (K := K) rfl) (pv 0) pe_int (fun _ _ => rfl)) pe_str (nomark _)) (pss_one (ps_ret (pe_lst (pa_cons (pe_op op_cat (pe_ix (ixL (K := K) rfl) (pv 3) pe_int (fun _ _ => rfl)) (pe_ix (ixL (K := K) rfl) (pv 4) pe_int (fun _ _ => rfl))) (pa_cons (pv 5) (pa_cons (pv 2) pa_nil)))))) pss_nil)
      (pss_cons (ps_if (PW.pt (pw_or (pt_cmpR op_eq (pe_callB call_len_seq rfl T.m_len PySem.boot_len (pa_cons (pe_ix (ixL (K := K) rfl) (pv 3) pe_int (fun _ _ => rfl)) pa_nil)) pe_int (nomark _)) (pw_or1 (pt_cmpR op_eq (pe_callB call_len_seq rfl T.m_len PySem.boot_len (pa_cons (pe_ix (ixL (K := K) rfl) (pv 4) pe_int (fun _ _ => rfl)) pa_nil)) pe_int (nomark _))))) (pss_cons (ps_set (i := 6) sc_law_spread.nd rfl (Or.inl rfl) (pe_lst pa_nil))
      (pss_cons (ps_for PassesOwn.never rfl (pi_list (pe_ix (ixL (K := K) rfl) (pv 3) pe_int (fun _ _ => rfl))) (pg_name (i := 7) sc_law_spread.nd rfl (Or.inr rfl)) (pss_one (ps_set (i := 6) sc_law_spread.nd rfl (Or.inl rfl) (pe_op op_cat (pv 6) (pe_lc (own := [("_law_other", 11)]) (g := gName 11) rfl sc_law_spread.nd (pi_list (pe_ix (ixL (K := K) rfl) (pv 4) pe_int (fun _ _ => rfl))) (blkOk_by (own := [("_law_other", 11)]) (N := n_law_spread) (sc := defScope s_law_spread) (by decide +kernel)) (fun _ _ _ _ _ => (pg_name (i := 11) sc_law_spread.nd rfl (Or.inl rfl))) (fun _ _ _ _ _ => pts_nil) (fun _ _ _ _ _ => (pe_op (catA (K := K) rfl) (pv 7) (pv 11))))))))
      (pss_one (ps_ret (pe_lst (pa_cons (pv 6) (pa_cons (pv 5) (pa_cons (pv 2) pa_nil)))))))) pss_nil)
      (pss_cons (ps_set (i := 8) sc_law_spread.nd rfl (Or.inr rfl) (pe_tup (pa_cons (pe_tup (pa_cons pe_int (pa_cons (pv 1) (pa_cons (pv 2) pa_nil)))) (pa_cons (pe_callTy call_tuple_of rfl T.m_tuple (by decide +kernel) (pa_cons (pc c_law_tree_variables (hr.mono (by omega)) rfl (pa_cons (pe_ix (ixT (K := K) rfl) (pv 0) pe_int (fun _ _ => rfl)) (pa_cons (pe_lst pa_nil) pa_nil))) pa_nil)) pa_nil))))
      (pss_cons (ps_set (i := 9) sc_law_spread.nd rfl (Or.inr rfl) (pe_tup (pa_cons (pe_tup (pa_cons pe_int (pa_cons pe_int (pa_cons pe_int pa_nil)))) (pa_cons (pe_tup pa_nil) pa_nil))))
      (pss_cons (ps_setLc (i := 10) (own := [("_law_clause", 12)]) (g := gName 12) rfl sc_law_spread.nd rfl rfl (sw_true rfl rfl rfl (by decide +kernel)) (pi_list (pe_ix (ixL (K := K) rfl) (pv 4) pe_int (fun _ _ => rfl))) (blkOk_by (own := [("_law_clause", 12)]) (N := n_law_spread) (sc := defScope s_law_spread) (by decide +kernel)) (fun _ _ _ _ _ => (pg_name (i := 12) sc_law_spread.nd rfl (Or.inl rfl))) (fun _ _ _ _ _ => pts_nil) (fun _ _ _ _ _ => (pe_op (catA (K := K) rfl) (pe_tup (pa_cons (pe_tup (pa_cons pe_bl (pa_cons (pv 8) (pa_cons (pv 9) pa_nil)))) pa_nil)) (pv 12))))
      (pss_one (ps_ret (pe_lst (pa_cons (pe_lc (own := [("_law_clause", 12)]) (g := gName 12) rfl sc_law_spread.nd (pi_list (pe_ix (ixL (K := K) rfl) (pv 3) pe_int (fun _ _ => rfl))) (blkOk_by (own := [("_law_clause", 12)]) (N := n_law_spread) (sc := defScope s_law_spread) (by decide +kernel)) (fun _ _ _ _ _ => (pg_name (i := 12) sc_law_spread.nd rfl (Or.inl rfl))) (fun _ _ _ _ _ => pts_nil) (fun _ _ _ _ _ => (pe_op (catA (K := K) rfl) (pv 12) (pe_tup (pa_cons (pe_tup (pa_cons pe_bl (pa_cons (pv 8) (pa_cons (pv 9) pa_nil)))) pa_nil))))) (pa_cons (pe_op op_cat (pv 5) (pv 10)) (pa_cons (pe_op op_add (pv 2) pe_int) pa_nil)))))))))))))))), fun fit => ?_⟩
    cases t with
    | lit l =>
      obtain ⟨a1, y, rfl, tt, hy⟩ := Tr.litv hv
      refine ⟨_, rfl, a1, _, 0, _, rfl, rfl, tt.sq, rfl, rfl, _, rfl, stT rfl ?_⟩
      refine ⟨_, rfl, a1, _, 1, _, rfl, rfl, tt.sq, rfl, z1, fun p1 hp1 => ?_⟩
      obtain ⟨s1, i1⟩ := nt1 hp1 hy
      refine ⟨z1, fun p2 hp2 => ?_⟩
      have s2 := same_new hp2 (.lst [.ref p1])
      refine ⟨Nat.zero_le _, fun p3 hp3 => ?_⟩
      have s3 := same_new hp3 (.lst [])
      refine ⟨_, rfl, z3, fun p4 hp4 => ?_⟩
      have s4 := same_new hp4 (.lst [.ref p2, .ref p3, .int c])
      have s14 := ((s1.trans s2).trans s3).trans s4
      exact q p4 p2 p3 _ s14 upd_same ⟨_, s4 _ _ (s3 _ _ upd_same), (((ImA.one i1).to s2).to s3).to s4⟩ ⟨_, s4 _ _ upd_same, .nil⟩
    | bin o l r =>
      obtain ⟨a1, y, z, rfl, tt, hy, hz⟩ := Tr.tag hv
      obtain ⟨shl1, shl2, shl3⟩ := spr_short (a := a) (c := c) ht.l
      obtain ⟨shr1, shr2, shr3⟩ := spr_short (a := a) (c := (spr a l c).2.2) ht.r
      refine ⟨_, rfl, a1, _, 0, _, rfl, rfl, tt.sq, rfl, rfl, _, rfl, stF (tagB_lit o) ?_⟩
      refine ⟨_, rfl, a1, _, 1, _, rfl, rfl, tt.sq, rfl, _, rfl, _, rfl, y, l, a, c, M, d, rfl, hy, ht.l, fun r1 l1 l2 H1 s1 t1 e1 e2 => ?_⟩
      generalize hX : spr a l c = X at *
      refine ⟨_, rfl, a1, _, 2, _, rfl, rfl, (tt.mono (Tups.of s1)).sq, rfl, _, rfl, _, rfl, r1, _, 2, _, rfl, rfl, SqL.of t1, rfl, z, r, a, X.2.2, M, d, rfl, hz.to s1, ht.r, fun r2 l3 l4 H2 s2 t2 e3 e4 => ?_⟩
      have t1' := s2 _ _ t1
      have e1' := e1.to s2
      have e2' := e2.to s2
      generalize hY : spr a r X.2.2 = Y at *
      refine ⟨_, rfl, r2, _, 2, _, rfl, rfl, SqL.of t2, rfl, ?_⟩
      refine ⟨_, rfl, r1, _, 1, _, rfl, rfl, SqL.of t1', rfl, _, rfl, r2, _, 1, _, rfl, rfl, SqL.of t2, rfl, ?_⟩
      refine cat_ls e2' e4 (by rw [List.length_map, List.length_map]; omega) fun q1 H3 s3 e5 => ?_
      have s13 := (s1.trans s2).trans s3
      have e1'' := e1'.to s3
      have e3'' := e3.to s3
      have t1'' := s3 _ _ t1'
      have t2'' := s3 _ _ t2
      have tt3 := tt.mono (Tups.of s13)
      have hz3 := hz.to s13
      refine ⟨_, rfl, a1, _, 0, _, rfl, rfl, tt3.sq, rfl, rfl, _, rfl, ?_⟩
      cases o with
      | true =>
        rw [spr_and, hX, hY] at q
        refine stT rfl ?_
        refine ⟨_, rfl, r1, _, 0, _, rfl, rfl, SqL.of t1'', rfl, _, rfl, r2, _, 0, _, rfl, rfl, SqL.of t2'', rfl, ?_⟩
        refine cat_ls e1'' e3'' (by rw [List.length_map, List.length_map]; omega) fun q2 H4 s4 e6 => ?_
        refine ⟨_, rfl, _, rfl, z3, fun q3 hq3 => ?_⟩
        have s5 := same_new hq3 (.lst [.ref q2, .ref q1, .int Y.2.2])
        refine q q3 q2 q1 _ ((s13.trans s4).trans s5) upd_same ?_ ?_
        · show Ls K _ q2 _
          rw [List.map_append]
          exact e6.to s5
        · show Ls K _ q1 _
          rw [List.map_append]
          exact (e5.to s4).to s5
      | false =>
        rw [spr_or, hX, hY] at q
        refine stF (by decide +kernel) ?_
        obtain ⟨xs, ex, rx⟩ := id e1''
        obtain ⟨ys, ey, ry⟩ := id e3''
        have lx : xs.length = X.1.length := by rw [rx.len, List.length_map]
        have ly : ys.length = Y.1.length := by rw [ry.len, List.length_map]
        by_cases k1 : X.1.length = 1 ∨ Y.1.length = 1
        · unfold orS at q
          simp only [if_pos k1] at q
          have hxy : X.1.length * Y.1.length ≤ 1000000 := by
            rcases k1 with e | e
            · rw [e, Nat.one_mul]; omega
            · rw [e, Nat.mul_one]; omega
          refine ⟨_, rfl, r1, _, 0, _, rfl, rfl, SqL.of t1'', rfl, l1, xs, rfl, .inl (SqL.of ex), rfl, _, rfl, ?_⟩
          have tst : ∀ {A' : Prop} {B' : Prop} {C' : Prop}, A' → (X.1.length ≠ 1 → Y.1.length = 1 → C') → (if decide (V.int ((xs.length : Nat) : Int) = V.int 1) = true then (if true = true then A' else B') else C') := fun hA hC => by
            by_cases e : X.1.length = 1
            · rw [if_pos (decide_eq_true (by rw [lx, e]; rfl))]
              exact iteT hA
            · rw [if_neg fun z => e (by have := V.int.inj (of_decide_eq_true z); omega)]
              exact hC e (k1.resolve_left e)
          refine (fun (go : _) => tst go fun e1 e2 => ⟨_, rfl, r2, _, 0, _, rfl, rfl, SqL.of t2'', rfl, l3, ys, rfl, .inl (SqL.of ey), rfl, _, rfl, ite2 (fun _ => go) (fun z => (z (decide_eq_true (by rw [ly, e2]; rfl))).elim)⟩) ?_
          refine ⟨Nat.zero_le _, fun jl hjl => ?_⟩
          have s4 := same_new hjl (.lst [])
          refine ⟨_, rfl, r1, _, 0, _, rfl, rfl, SqL.of (s4 _ _ t1''), rfl, l1, rfl, ⟨xs, SqL.of (s4 _ _ ex)⟩, for_list (K := K) (a := l1) (xs := xs) (fun j σ' H' => ∃ jv u, σ' = [some (.ref a1), some (.int a), some (.int Y.2.2), some (.ref r1), some (.ref r2), some (.ref q1), some (.ref jv), u, none, none, none, none, none] ∧ Same H3 H' ∧ LC K H' jv (combine (X.1.take j) Y.1))
            ⟨jl, none, rfl, s4, [], upd_same, .nil⟩ (fun j σ' H' _ ⟨_, _, _, s, _⟩ => SqL.of (s _ _ ex)) ?_ ?_⟩
          · rintro j x' σ' H' hx ⟨jv, u, rfl, sj, lj⟩
            obtain ⟨cx, hcx, icx⟩ := ls_get rx hx
            have mx := shl1 cx (List.mem_of_getElem? hcx)
            have hj : j < X.1.length := (List.getElem?_eq_some_iff.mp hcx).1
            have eys := sj _ _ ey
            refine ⟨_, rfl, ?_⟩
            refine ⟨_, rfl, r2, _, 0, _, rfl, rfl, SqL.of (sj _ _ t2''), rfl, l3, rfl, ⟨ys, SqL.of eys⟩, fun D1 hD1 => ?_⟩
            refine lc_mapL (K := K) (es := (Y.1.map fun k => cx ++ k).map clD) (SqL.of eys) (by rw [List.length_map, List.length_map]; exact ly.symm) (Nat.le_trans (show ys.length ≤ 1000000 by omega) (by decide)) hD1 (fun i y' e' H5 hy' he' s5 R kR => ⟨rfl, ?_⟩) fun H10 zs s10 ez rz => ?_
            · obtain ⟨cy, hcy, icy⟩ := ls_get ry hy'
              rw [List.map_map, List.getElem?_map, hcy] at he'
              have ee : clD (cx ++ cy) = e' := Option.some.inj he'
              subst ee
              have my := shr1 cy (List.mem_of_getElem? hcy)
              refine ⟨_, rfl, _, rfl, ?_⟩
              refine cat_imV (K := K) (ds := cx.map Lit.d) (es := cy.map Lit.d) ((icx.to sj).to s5) ((icy.to sj).to s5) ?_ fun p13 H13 s13 i13 => ?_
              · rw [List.length_map, List.length_map]
                exact Nat.le_trans (show cx.length + cy.length ≤ 2000000 by omega) (by decide)
              · exact kR _ _ s13 (by rw [clD_append]; exact i13)
            have lz : Ls K H10 D1 ((Y.1.map fun k => cx ++ k).map clD) := ⟨zs, ez, rz⟩
            refine cat_ls (lj.to s10) lz ?_ fun q2 H11 s11 e11 => ?_
            · have lc := combine_len (X.1.take j) Y.1
              rw [List.length_take] at lc
              have hm : min j X.1.length * Y.1.length + Y.1.length ≤ X.1.length * Y.1.length := by
                rw [Nat.min_eq_left (by omega), ← Nat.succ_mul]
                exact Nat.mul_le_mul hj (Nat.le_refl _)
              simp only [List.length_map]
              omega
            refine ⟨q2, _, rfl, (sj.trans s10).trans s11, ?_⟩
            show Ls K H11 q2 _
            rw [take_snoc hcx, combine_snoc, List.map_append]
            exact e11
          · rintro σ' H' ⟨jv, u, rfl, sj, lj⟩
            rw [List.take_of_length_le (by omega)] at lj
            refine ⟨_, rfl, _, rfl, _, rfl, z3, fun q3 hq3 => ?_⟩
            have s5 := same_new hq3 (.lst [.ref jv, .ref q1, .int Y.2.2])
            refine q q3 jv q1 _ ((s13.trans sj).trans s5) upd_same (lj.to s5) ?_
            show Ls K _ q1 _
            rw [List.map_append]
            exact (e5.to sj).to s5
        · unfold orS at q
          simp only [if_neg k1] at q
          have c1 : ¬ decide (V.int ((xs.length : Nat) : Int) = V.int 1) = true := fun z => k1 (.inl (by have := V.int.inj (of_decide_eq_true z); omega))
          have c2 : ¬ decide (V.int ((ys.length : Nat) : Int) = V.int 1) = true := fun z => k1 (.inr (by have := V.int.inj (of_decide_eq_true z); omega))
          refine ⟨_, rfl, r1, _, 0, _, rfl, rfl, SqL.of t1'', rfl, l1, xs, rfl, .inl (SqL.of ex), rfl, _, rfl, ?_⟩
          refine ite2 (fun z => absurd z c1) (fun _ => ?_)
          refine ⟨_, rfl, r2, _, 0, _, rfl, rfl, SqL.of t2'', rfl, l3, ys, rfl, .inl (SqL.of ey), rfl, _, rfl, ?_⟩
          refine ite2 (fun z => absurd z c2) (fun _ => ?_)
          have rg : Rg M (trv r []) := trv_rg ht.r.ok Rg.nil
          generalize hF : trv r [] = F at *
          refine ⟨_, rfl, _, rfl, z3, fun p1 hp1 => ?_⟩
          obtain ⟨s4, i4⟩ := nt3 (K := K) hp1 (.int 4) (.int a) (.int Y.2.2)
          refine ⟨_, rfl, a1, _, 2, _, rfl, rfl, (tt3.mono (Tups.of s4)).sq, rfl, Nat.zero_le _, fun fl hfl => ?_⟩
          have s5 := same_new hfl (.lst [])
          refine ⟨z, fl, r, [], M, d + 1, rfl, (hz3.to s4).to s5, ht.r.ok, by have := ht.r.dp; omega, ht.d, upd_same, Rg.nil, ht.m0, ht.mb, fun fl2 H6 s6 e7 => ?_⟩
          rw [hF] at e7
          refine ⟨fl2, _, rfl, .inl ⟨SqL.of e7, fun tp htp => ?_⟩⟩
          have s7 := same_new htp (.tup (iv F))
          have i7 : Im K (upd H6 tp (.tup (iv F))) (.ref tp) (.tuple (tmsD (F.map Tm.var))) := im_vars (.inl upd_same)
          refine ⟨z2, fun p8 hp8 => ?_⟩
          obtain ⟨s8, i8⟩ := nt2 hp8 (((i4.to s5).to s6).to s7) i7
          have i8' : Im K _ (.ref p8) (partA a Y.2.2 F).d := Eq.mpr (by rw [partA_d]; rfl) i8
          generalize hA : partA a Y.2.2 F = At at *
          have s38 := (((s4.trans s5).trans s6).trans s7).trans s8
          generalize upd (upd H6 tp (.tup (iv F))) p8 (.tup [.ref p1, .ref tp]) = H8 at *
          refine ⟨z3, fun p9 hp9 => ?_⟩
          obtain ⟨s9, i9⟩ := nt3 (K := K) hp9 (.int 0) (.int 0) (.int 0)
          refine ⟨Nat.zero_le _, fun p10 hp10 => ?_⟩
          obtain ⟨s10, i10⟩ := nt0 (K := K) hp10
          refine ⟨z2, fun p11 hp11 => ?_⟩
          obtain ⟨s11, i11⟩ := nt2 hp11 (i9.to s10) i10
          have iT : Im K _ (.ref p11) truth.d := Eq.mpr (by unfold truth; rw [Tm.d_app, tmsD]; rfl) i11
          have s811 := (s9.trans s10).trans s11
          have iA := i8'.to s811
          have s311 := s38.trans s811
          have t1n := s311 _ _ t1''
          have t2n := s311 _ _ t2''
          have f1 := e1''.to s311
          have f3 := e3''.to s311
          have f5 := e5.to s311
          generalize upd (upd (upd H8 p9 (.tup [.int 0, .int 0, .int 0])) p10 (.tup [])) p11 (.tup [.ref p9, .ref p10]) = H9 at *
          obtain ⟨ys9, ey9, ry9⟩ := id f3
          have ly9 : ys9.length = Y.1.length := by rw [ry9.len, List.length_map]
          refine ⟨_, rfl, r2, _, 0, _, rfl, rfl, SqL.of t2n, rfl, l3, rfl, ⟨ys9, SqL.of ey9⟩, fun D1 hD1 => ?_⟩
          refine lc_mapL (K := K) (es := (Y.1.map fun k => negL At :: k).map clD) (SqL.of ey9) (by rw [List.length_map, List.length_map]; exact ly9.symm) (Nat.le_trans (show ys9.length ≤ 1000000 by omega) (by decide)) hD1 (fun j x' e' H' hx' he' sj R kR => ⟨rfl, ?_⟩) fun H10 ysn s10' eyn ryn => ?_
          · obtain ⟨cc, hcc, icc⟩ := ls_get ry9 hx'
            rw [List.map_map, List.getElem?_map, hcc] at he'
            have ee : clD (negL At :: cc) = e' := Option.some.inj he'
            subst ee
            have mc := shr1 cc (List.mem_of_getElem? hcc)
            refine ⟨_, rfl, _, rfl, z3, fun p12 hp12 => ?_⟩
            obtain ⟨s12, i12⟩ := nt3 hp12 (.bl false) (iA.to sj) (iT.to sj)
            refine ⟨z1, fun p13 hp13 => ?_⟩
            obtain ⟨s13', i13⟩ := nt1 hp13 i12
            refine ⟨_, rfl, ?_⟩
            refine cat_imV (K := K) (ds := [(negL At).d]) (es := cc.map Lit.d) i13 (((icc.to sj).to s12).to s13') ?_ fun p14 H14 s14 i14 => ?_
            · rw [List.length_map, List.length_singleton]
              exact Nat.le_trans (show 1 + cc.length ≤ 1000001 by omega) (by decide)
            · exact kR _ _ ((s12.trans s13').trans s14) i14
          obtain ⟨xs10, ex10, rx10⟩ := f1.to s10'
          have lx10 : xs10.length = X.1.length := by rw [rx10.len, List.length_map]
          refine ⟨_, rfl, r1, _, 0, _, rfl, rfl, SqL.of (s10' _ _ t1n), rfl, l1, rfl, ⟨xs10, SqL.of ex10⟩, fun D2 hD2 => ?_⟩
          refine lc_mapL (K := K) (es := (X.1.map fun k => k ++ [posL At]).map clD) (SqL.of ex10) (by rw [List.length_map, List.length_map]; exact lx10.symm) (Nat.le_trans (show xs10.length ≤ 1000000 by omega) (by decide)) hD2 (fun j x' e' H' hx' he' sj R kR => ⟨rfl, ?_⟩) fun H14 xsn s14 exn rxn => ?_
          · obtain ⟨cc, hcc, icc⟩ := ls_get rx10 hx'
            rw [List.map_map, List.getElem?_map, hcc] at he'
            have ee : clD (cc ++ [posL At]) = e' := Option.some.inj he'
            subst ee
            have mc := shl1 cc (List.mem_of_getElem? hcc)
            refine ⟨_, rfl, _, rfl, _, rfl, z3, fun p12 hp12 => ?_⟩
            obtain ⟨s12, i12⟩ := nt3 hp12 (.bl true) ((iA.to s10').to sj) ((iT.to s10').to sj)
            refine ⟨z1, fun p13 hp13 => ?_⟩
            obtain ⟨s13', i13⟩ := nt1 hp13 i12
            refine cat_imV (K := K) (ds := cc.map Lit.d) (es := [(posL At).d]) (((icc.to sj).to s12).to s13') i13 ?_ fun p14 H15 s15 i15 => ?_
            · rw [List.length_map, List.length_singleton]
              exact Nat.le_trans (show cc.length + 1 ≤ 1000001 by omega) (by decide)
            · exact kR _ _ ((s12.trans s13').trans s15) (by rw [clD_append]; exact i15)
          have fm : Ls K H14 D1 ((Y.1.map fun k => negL At :: k).map clD) := ⟨ysn, s14 _ _ eyn, ryn.to s14⟩
          refine ⟨_, rfl, _, rfl, ?_⟩
          refine cat_ls ((f5.to s10').to s14) fm (by simp only [List.length_append, List.length_map]; omega) fun q2 H15 s15 e15 => ?_
          refine ⟨_, rfl, _, _, rfl, rfl, z3, fun q3 hq3 => ?_⟩
          have s16 := same_new hq3 (.lst [.ref D2, .ref q2, .int (Y.2.2 + 1)])
          have s916 := ((s10'.trans s14).trans s15).trans s16
          refine q q3 D2 q2 _ (s13.trans (s311.trans s916)) upd_same ⟨xsn, s16 _ _ (s15 _ _ exn), (rxn.to s15).to s16⟩ ?_
          show Ls K _ q2 _
          rw [List.map_append, List.map_append]
          exact e15.to s16
end
end K3

/-! what the law makes of its script: numbers, terms, formulas. -/
namespace K3
open PySem PySem.Spec PyProof.Rows L2
section
variable {P : Program} {w : World} {K : PySem.W.Frag} {mg : Str → Option Value} {base : Heap}
def Scr (K : PySem.W.Frag) (H : Hp) (a : Addr) : Prop := ∃ ns : List Int, SqL K H a (ns.map V.int) ∧ ns.length ≤ 63
theorem Scr.to {H H' : Hp} {a : Addr} (h : Scr K H a) (s : Same H H') : Scr K H' a := by
  obtain ⟨ns, h1, h2⟩ := h
  exact ⟨ns, s.seq h1, h2⟩
def spCell (K : PySem.W.Frag) : Sp := fun vs H Q _ => ∃ (a : Addr) (k : Int), vs = [.ref a, .int k] ∧ Scr K H a ∧ 0 ≤ k ∧ ∀ z : Int, 0 ≤ z → Q (.int z) H
theorem ok_law_cell (T : Txt w K mg) (D : Def K mg "_law_cell" s_law_cell p_law_cell) : Cal P w K mg base 1 "_law_cell" p_law_cell (spCell K) := by
  refine D.ok sc_law_cell (N := n_law_cell) (fun vs H Q E h => ?_) (fun f cdv A outer s H vs Q E hr h => ?_)
  · obtain ⟨a, k, rfl, _⟩ := h
    rfl
  obtain ⟨a, k, rfl, ⟨ns, hS, hn⟩, hk, q⟩ := h
  refine ⟨_, (pss_cons (ps_set (i := 2) sc_law_cell.nd rfl (Or.inl rfl) (pe_op op_add (pe_op op_mul pe_int (pv 1)) pe_int))
      (C8.pss_cut (ps_if (pt_cmpR op_lt (pv 1) (pe_callB call_len_seq rfl T.m_len PySem.boot_len (pa_cons (pv 0) pa_nil)) (nomark _)) (pss_one (ps_set (i := 2) sc_law_cell.nd rfl (Or.inl rfl) (pe_ix (ixL (K := K) rfl) (pv 0) (pv 1) (fun _ _ => rfl)))) pss_nil)
      (C8.pss_cut (ps_if (pt_cmpR op_lt (pv 2) pe_int (nomark _)) (pss_one (ps_set (i := 2) sc_law_cell.nd rfl (Or.inl rfl) (pe_op op_sub pe_int (pe_op op_mul pe_int (pv 2))))) pss_nil)
      (C8.pss_cut (ps_if (pt_cmpR op_lt (pv 2) pe_int (nomark _)) (pss_cons (ps_set (i := 3) sc_law_cell.nd rfl (Or.inl rfl) (pe_op op_mod (pe_callTy call_int1 rfl T.m_int (by decide +kernel) (pa_cons (pe_op op_add (pe_op op_add (pe_op op_mul (pv 2) pe_int) (pe_op op_mul (pv 1) pe_int)) pe_int) pa_nil)) pe_int))
      (pss_cons (ps_set (i := 4) sc_law_cell.nd rfl (Or.inl rfl) (pe_op op_mod (pe_callTy call_int1 rfl T.m_int (by decide +kernel) (pa_cons (pe_op op_add (pe_op op_add (pe_op op_mul (pv 3) pe_int) (pe_op op_mul (pv 1) pe_int)) pe_int) pa_nil)) pe_int))
      (pss_cons (ps_set (i := 5) sc_law_cell.nd rfl (Or.inl rfl) (pe_op op_mod (pe_callTy call_int1 rfl T.m_int (by decide +kernel) (pa_cons (pe_op op_add (pe_op op_add (pe_op op_mul (pv 4) pe_int) (pv 3)) pe_int) pa_nil)) pe_int))
      (pss_one (ps_set (i := 2) sc_law_cell.nd rfl (Or.inl rfl) (pe_op op_add (pe_op op_mul (pe_op op_add (pe_op op_mul (pv 5) pe_int) (pv 4)) pe_int) (pv 3))))))) pss_nil)
      (pss_one (ps_ret (pv 2))))))), fun fit => ?_⟩
  have md : ∀ x y : Int, 0 < y → 0 ≤ x % y := fun x y h => Int.emod_nonneg x (by omega)
  refine ⟨_, rfl, _, _, rfl, rfl, .inl ⟨by decide, by decide⟩, _, _, rfl, rfl, ?_⟩
  refine ⟨fun σ' H' => H' = H ∧ ∃ z : Int, σ' = [some (.ref a), some (.int k), some (.int z), none, none, none], ?_, ?_⟩
  · refine ⟨_, rfl, _, rfl, a, _, rfl, .inl hS, _, _, rfl, rfl, _, rfl, ?_⟩
    refine ite2 (fun c => ?_) (fun c => ⟨rfl, _, rfl⟩)
    have c' : k < (((ns.map V.int).length : Nat) : Int) := of_decide_eq_true c
    rw [List.length_map] at c'
    have hk' : k.toNat < ns.length := by omega
    have hx : (ns.map V.int)[k.toNat]? = some (.int ns[k.toNat]) := by rw [List.getElem?_map, List.getElem?_eq_getElem hk']; rfl
    exact ⟨_, rfl, _, rfl, a, _, _, _, rfl, rfl, hS, at_of (j := k.toNat) (by omega) hx, rfl, _, rfl⟩
  rintro σ' H' ⟨rfl, z, rfl⟩
  refine ⟨fun σ' H'' => H'' = H' ∧ ∃ z : Int, 0 ≤ z ∧ σ' = [some (.ref a), some (.int k), some (.int z), none, none, none], ?_, ?_⟩
  · refine ⟨_, rfl, _, _, rfl, rfl, _, rfl, ?_⟩
    refine ite2 (fun c => ?_) (fun c => ⟨rfl, z, ?_, rfl⟩)
    · have c' : z < 0 := of_decide_eq_true c
      exact ⟨_, rfl, _, _, rfl, rfl, .inl ⟨by decide, by decide⟩, _, _, rfl, rfl, rfl, 1 - 2 * z, by omega, rfl⟩
    · have c' : ¬ z < 0 := fun y => c (decide_eq_true y)
      omega
  rintro σ' H'' ⟨rfl, z, hz, rfl⟩
  refine ⟨fun σ' H2 => H2 = H'' ∧ ∃ z : Int, 0 ≤ z ∧ σ'[2]? = some (some (.int z)), ?_, ?_⟩
  · refine ⟨_, rfl, _, _, rfl, rfl, _, rfl, ?_⟩
    refine ite2 (fun c => ?_) (fun c => ⟨rfl, z, hz, rfl⟩)
    refine ⟨_, rfl, _, _, rfl, rfl, .inr ⟨by decide, by decide⟩, _, rfl, _, _, rfl, rfl, .inr ⟨by decide, by decide⟩, _, _, rfl, rfl, _, _, rfl, rfl, .inl ⟨_, rfl, _, _, rfl, rfl, (by show (0 : Int) < 2147483647; decide), ?_⟩⟩
    refine ⟨_, rfl, _, _, rfl, rfl, .inr ⟨by decide, by decide⟩, _, rfl, _, _, rfl, rfl, .inr ⟨by decide, by decide⟩, _, _, rfl, rfl, _, _, rfl, rfl, .inl ⟨_, rfl, _, _, rfl, rfl, (by show (0 : Int) < 2147483629; decide), ?_⟩⟩
    refine ⟨_, rfl, _, _, rfl, rfl, .inr ⟨by decide, by decide⟩, _, rfl, _, _, rfl, rfl, _, _, rfl, rfl, .inl ⟨_, rfl, _, _, rfl, rfl, (by show (0 : Int) < 2147483587; decide), ?_⟩⟩
    refine ⟨_, rfl, _, _, rfl, rfl, .inr ⟨by decide, by decide⟩, _, rfl, _, _, rfl, rfl, _, _, rfl, rfl, .inr ⟨by decide, by decide⟩, _, rfl, _, _, rfl, rfl, rfl, _, ?_, rfl⟩
    have h1 := md (z * 48271 + k * 69621 + 11) 2147483647 (by decide)
    generalize (z * 48271 + k * 69621 + 11) % 2147483647 = lo at *
    have h2 := md (lo * 16807 + k * 31 + 1013) 2147483629 (by decide)
    generalize (lo * 16807 + k * 31 + 1013) % 2147483629 = mi at *
    have h3 := md (mi * 39373 + lo + 77) 2147483587 (by decide)
    generalize (mi * 39373 + lo + 77) % 2147483587 = hi at *
    omega
  rintro σ' H2 ⟨rfl, z, hz, e⟩
  exact ⟨_, e, q z hz⟩
/-! ### terms -/
structure ScOk (N : Int) (H : Hp) (a : Addr) (sc : List Int) : Prop where
  at_ : H a = some (.lst (iv sc))
  rg : ∀ v ∈ sc, 0 ≤ v ∧ v < N
  len : sc.length ≤ 1000
theorem ScOk.to {N : Int} {H H' : Hp} {a : Addr} {sc : List Int} (h : ScOk N H a sc) (s : Same H H') : ScOk N H' a sc := ⟨s _ _ h.at_, h.rg, h.len⟩
def spGT (K : PySem.W.Frag) (n : Nat) : Sp := fun vs H Q _ => ∃ (row : Int) (d : Nat) (sa : Addr) (sc : List Int) (N : Int), vs = [.int row, .int (d : Int), .ref sa] ∧ ScOk N H sa sc ∧ d < n ∧
  ∀ (r : Addr) (x : V) (t : Tm) (row' : Int) (H' : Hp), Same H H' → TT K H' r [x, .int row'] → Im K H' x t.d → t.ok N d → Q (.ref r) H'
theorem ok_law_formula_term (T : Txt w K mg) (D : Def K mg "_law_formula_term" s_law_formula_term p_law_formula_term) : ∀ n : Nat, Cal P w K mg base n "_law_formula_term" p_law_formula_term (spGT K n)
  | 0 => D.none 0 fun vs H Q E h => by
    obtain ⟨row, d, sa, sc, N, _, _, hd, _⟩ := h
    omega
  | n + 1 => by
    have c_law_formula_term := ok_law_formula_term T D n
    refine D.ok sc_law_formula_term (N := n_law_formula_term) (fun vs H Q E h => ?_) (fun f cdv A outer s H vs Q E hr h => ?_)
    · obtain ⟨row, d, sa, sc, N, rfl, _⟩ := h
      rfl
    obtain ⟨row, d, sa, sc, N, rfl, hsc, hd, q⟩ := h
    refine ⟨_, (pss_cons (ps_set (i := 3) sc_law_formula_term.nd rfl (Or.inl rfl) (pe_op op_mod (pe_callTy call_int1 rfl T.m_int (by decide +kernel) (pa_cons (pv 0) pa_nil)) pe_int))
      (pss_cons (ps_set (i := 0) sc_law_formula_term.nd rfl (Or.inl rfl) (pe_op op_fdiv (pv 0) pe_int))
      (pss_cons (ps_if (PW.pt (pw_and (pt_cmpR op_lt (pv 3) pe_int (nomark _)) (pw_and1 (pt_truth (pv 2) (by intro _; rfl))))) (pss_one (ps_ret (pe_tup (pa_cons (pe_ix (ixL (K := K) rfl) (pv 2) (pe_op op_mod (pe_callTy call_int1 rfl T.m_int (by decide +kernel) (pa_cons (pv 0) pa_nil)) (pe_callB call_len_seq rfl T.m_len PySem.boot_len (pa_cons (pv 2) pa_nil))) (fun _ _ => rfl)) (pa_cons (pe_op op_fdiv (pv 0) (pe_callB call_len_seq rfl T.m_len PySem.boot_len (pa_cons (pv 2) pa_nil))) pa_nil))))) pss_nil)
      (pss_cons (ps_set (i := 4) sc_law_formula_term.nd rfl (Or.inl rfl) (pe_op op_mod (pe_callTy call_int1 rfl T.m_int (by decide +kernel) (pa_cons (pv 0) pa_nil)) pe_int))
      (pss_cons (ps_set (i := 5) sc_law_formula_term.nd rfl (Or.inl rfl) (pe_op op_mod (pe_op op_fdiv (pv 0) pe_int) pe_int))
      (pss_cons (ps_set (i := 0) sc_law_formula_term.nd rfl (Or.inl rfl) (pe_op op_fdiv (pv 0) pe_int))
      (C8.pss_cut (ps_if (pt_cmpR op_eq (pv 1) pe_int (nomark _)) (pss_one (ps_set (i := 5) sc_law_formula_term.nd rfl (Or.inl rfl) pe_int)) pss_nil)
      (pss_cons (ps_set (i := 6) sc_law_formula_term.nd rfl (Or.inl rfl) (pe_lst pa_nil))
      (pss_cons (ps_for PassesOwn.never rfl (pi_range1 rfl T.m_range (pa_cons (pv 5) pa_nil)) (pg_name (i := 7) sc_law_formula_term.nd rfl (Or.inl rfl)) (pss_cons (ps_set (i := 8) sc_law_formula_term.nd rfl (Or.inl rfl) (pc c_law_formula_term (hr.mono (by omega)) rfl (pa_cons (pv 0) (pa_cons (pe_op op_sub (pv 1) pe_int) (pa_cons (pv 2) pa_nil)))))
      (pss_cons (ps_expr (pe_bm PySem.F.plainAttrs_list PySem.F.slot_list_append PySem.F.type_list_append mt_append (pv 6) (pa_cons (pe_ix (ixT (K := K) rfl) (pv 8) pe_int (fun _ _ => rfl)) pa_nil)))
      (pss_one (ps_set (i := 0) sc_law_formula_term.nd rfl (Or.inl rfl) (pe_ix (ixT (K := K) rfl) (pv 8) pe_int (fun _ _ => rfl)))))))
      (pss_one (ps_ret (pe_tup (pa_cons (pe_tup (pa_cons (pe_tup (pa_cons pe_int (pa_cons (pv 4) (pa_cons pe_int pa_nil)))) (pa_cons (pe_callTy call_tuple_of rfl T.m_tuple (by decide +kernel) (pa_cons (pv 6) pa_nil)) pa_nil))) (pa_cons (pv 0) pa_nil)))))))))))))), fun fit => ?_⟩
    refine ⟨_, rfl, .inl ⟨_, rfl, _, _, rfl, rfl, (by show (0 : Int) < 4; decide), ?_⟩⟩
    refine ⟨_, rfl, _, _, rfl, rfl, ⟨by decide, by decide⟩, ?_⟩
    have isc : SqL K H sa (iv sc) := SqL.of hsc.at_
    have lsc := iv_len sc
    refine ⟨_, rfl, _, _, rfl, rfl, _, rfl, ?_⟩
    refine (fun (go : _) => ite2 (fun c => ⟨_, rfl, _, .inl ⟨_, isc, rfl⟩, ite2 (fun c2 => ?tak) (fun c2 => go)⟩) (fun c => iteF go)) ?rst
    case tak =>
      have hne : sc ≠ [] := fun z => by rw [z] at c2; exact absurd c2 (by decide)
      have hl : 0 < sc.length := List.length_pos_iff.mpr hne
      have hl2 : (0 : Int) < ((iv sc).length : Nat) := by rw [lsc]; omega
      have hl3 : ((iv sc).length : Int) < 1073741824 := by rw [lsc]; have := hsc.len; omega
      have h0 := Int.emod_nonneg (row / 4) (show (((iv sc).length : Nat) : Int) ≠ 0 by omega)
      have h1 := Int.emod_lt_of_pos (row / 4) hl2
      refine ⟨_, rfl, _, rfl, .inl ⟨_, rfl, _, rfl, sa, _, rfl, .inl isc, _, _, rfl, rfl, hl2, ?_⟩⟩
      have hk' : ((row / 4) % (((iv sc).length : Nat) : Int)).toNat < sc.length := by rw [lsc] at h0 h1 ⊢; omega
      have hx : (iv sc)[((row / 4) % (((iv sc).length : Nat) : Int)).toNat]? = some (.int sc[((row / 4) % (((iv sc).length : Nat) : Int)).toNat]) := by unfold iv; rw [List.getElem?_map]; unfold iv at hk'; rw [List.getElem?_eq_getElem hk']; rfl
      refine ⟨sa, _, _, _, rfl, rfl, isc, at_of (j := ((row / 4) % (((iv sc).length : Nat) : Int)).toNat) (by omega) hx, ?_⟩
      refine ⟨_, rfl, _, rfl, sa, _, rfl, .inl isc, _, _, rfl, rfl, ⟨hl2, hl3⟩, z2, fun p hp => ?_⟩
      have s1 := same_new hp (.tup [.int sc[((row / 4) % (((iv sc).length : Nat) : Int)).toNat], .int ((row / 4) / (((iv sc).length : Nat) : Int))])
      exact q p _ (Tm.var sc[((row / 4) % (((iv sc).length : Nat) : Int)).toNat]) _ _ s1 (.inl upd_same) (by rw [Tm.d_var]; exact .int _) (Tm.ok_var.mpr (hsc.rg _ (List.getElem_mem hk')))
    case rst =>
      refine ⟨_, rfl, .inl ⟨_, rfl, _, _, rfl, rfl, (by show (0 : Int) < 3; decide), ?_⟩⟩
      refine ⟨_, rfl, _, _, rfl, rfl, ⟨by decide, by decide⟩, _, _, rfl, rfl, (by show (0 : Int) < 3; decide), ?_⟩
      refine ⟨_, rfl, _, _, rfl, rfl, ⟨by decide, by decide⟩, ?_⟩
      have m0 := Int.emod_nonneg (row / 4 / 3) (show (3 : Int) ≠ 0 by decide)
      have m1 := Int.emod_lt_of_pos (row / 4 / 3) (show (0 : Int) < 3 by decide)
      refine ⟨fun σ' H' => H' = H ∧ ∃ (row2 kk nn : Int) (m : Nat), (d = 0 → m = 0) ∧ m ≤ 2 ∧ σ' = [some (.int row2), some (.int (d : Int)), some (.ref sa), some (.int kk), some (.int nn), some (.int (m : Int)), none, none, none], ?_, ?_⟩
      · refine ⟨_, rfl, rfl, _, rfl, ?_⟩
        refine ite2 (fun c => ⟨rfl, _, _, _, 0, fun _ => rfl, by decide, rfl⟩) (fun c => ⟨rfl, row / 4 / 9, row % 4, row / 4 % 3, (row / 4 / 3 % 3).toNat, fun e => ?_, by omega, ?_⟩)
        · exact (c (decide_eq_true (by rw [e]; rfl))).elim
        · rw [show (((row / 4 / 3 % 3).toNat : Nat) : Int) = row / 4 / 3 % 3 by omega]
          rfl
      rintro σ' H' ⟨rfl, row2, kk, nn, m, hm0, hm2, rfl⟩
      refine ⟨Nat.zero_le _, fun pl hpl => ?_⟩
      have s1 := same_new hpl (.lst [])
      refine ⟨_, rfl, (m : Int), rfl, by omega, by omega, ?_⟩
      rw [Int.toNat_natCast]
      refine for_range (lo := 0) (n := m) (fun j σ' H2 => ∃ rw' u1 u2 ts, σ' = [some (.int rw'), some (.int (d : Int)), some (.ref sa), some (.int kk), some (.int nn), some (.int (m : Int)), some (.ref pl), u1, u2] ∧ Same H' H2 ∧ Ls K H2 pl (tmsD ts) ∧ ts.length = j ∧ ∀ t ∈ ts, Tm.ok N (d - 1) t)
        ⟨row2, none, none, [], rfl, s1, ⟨[], upd_same, by rw [tmsD]; exact .nil⟩, rfl, fun t h => by cases h⟩ ?_ ?_
      · rintro j σ' H2 hj ⟨rw', u1, u2, ts, rfl, s, ⟨xs, ex, rx⟩, ht, hok⟩
        have hd0 : d ≠ 0 := fun z => by have := hm0 z; omega
        obtain ⟨e, rfl⟩ : ∃ e, d = e + 1 := ⟨d - 1, by omega⟩
        refine ⟨_, rfl, _, rfl, _, _, rfl, rfl, _, rfl, rw', e, sa, sc, N, ?_, hsc.to s, by omega, fun r x t row' H3 s3 tt ix okt => ?_⟩
        · show [V.int rw', V.int (((e + 1 : Nat) : Int) - 1), V.ref sa] = _
          rw [show (((e + 1 : Nat) : Int) - 1) = (e : Int) by omega]
        have ex3 := s3 _ _ ex
        have lx := rx.len
        rw [tmsD_len] at lx
        refine ⟨_, rfl, .inl ⟨rfl, _, SqL.of ex3⟩, _, rfl, r, _, 0, _, rfl, rfl, tt.sq, rfl, pl, xs, x, rfl, rfl, ex3, Nat.lt_of_le_of_lt (show xs.length ≤ 1000 by omega) (by decide), ?_⟩
        have b4 : But pl H3 (upd H3 pl (.lst (xs ++ [x]))) := But.upd _
        have t4 := b4.tups ex3 trivial
        have s4 : Same H' (upd H3 pl (.lst (xs ++ [x]))) := But.to_same (s.trans s3) hpl b4
        refine ⟨_, rfl, r, _, 1, _, rfl, rfl, (tt.mono t4).sq, rfl, ?_⟩
        refine ⟨row', _, _, ts ++ [t], rfl, s4, ⟨xs ++ [x], upd_same, ?_⟩, by rw [List.length_append, ht]; rfl, fun u hu => ?_⟩
        · rw [show tmsD (ts ++ [t]) = tmsD ts ++ [t.d] by rw [tmsD_map, tmsD_map, List.map_append]; rfl]
          exact ((rx.to s3).snoc ix).mono t4
        · rcases List.mem_append.mp hu with z | z
          · exact hok u z
          · rw [List.mem_singleton] at z
            rw [z]
            exact okt
      · rintro σ' H2 ⟨rw', u1, u2, ts, rfl, s, ⟨xs, ex, rx⟩, ht, hok⟩
        refine ⟨_, rfl, z3, fun p1 hp1 => ?_⟩
        obtain ⟨s2, i2⟩ := nt3 (K := K) hp1 (.int 2) (.int nn) (.int 0)
        refine ⟨_, rfl, pl, xs, rfl, .inl ⟨SqL.of (s2 _ _ ex), fun p2 hp2 => ?_⟩⟩
        have s3 := same_new hp2 (.tup xs)
        have i3 : Im K _ (.ref p2) (.tuple (tmsD ts)) := .tup (.inl upd_same) ((rx.to s2).to s3)
        refine ⟨z2, fun p3 hp3 => ?_⟩
        obtain ⟨s4, i4⟩ := nt2 hp3 (i2.to s3) i3
        refine ⟨_, rfl, z2, fun p4 hp4 => ?_⟩
        have s5 := same_new hp4 (.tup [.ref p3, .int rw'])
        have okA : Tm.ok N d (Tm.app (2, nn, 0) ts) := by
          cases d with
          | zero =>
            have : ts = [] := List.eq_nil_of_length_eq_zero (by rw [ht]; exact hm0 rfl)
            rw [this]
            exact Tm.ok_nil
          | succ e => exact Tm.ok_app.mpr hok
        have i5 : Im K _ (.ref p3) (Tm.app (2, nn, 0) ts).d := Eq.mpr (by rw [Tm.d_app]; rfl) (i4.to s5)
        exact q p4 _ _ rw' _ ((((s.trans s2).trans s3).trans s4).trans s5) (.inl upd_same) i5 okA
end
end K3

/-! what the law makes of its script: atoms and formulas. -/
namespace K3
open PySem PySem.Spec PyProof.Rows L2
section
variable {P : Program} {w : World} {K : PySem.W.Frag} {mg : Str → Option Value} {base : Heap}
def spGA (K : PySem.W.Frag) : Sp := fun vs H Q _ => ∃ (row : Int) (sa : Addr) (sc : List Int) (N : Int), vs = [.int row, .ref sa] ∧ ScOk N H sa sc ∧
  ∀ (r : Addr) (x : V) (t : At) (row' : Int) (H' : Hp), Same H H' → TT K H' r [x, .int row'] → Im K H' x t.d → t.ok N 2 → Q (.ref r) H'
theorem ok_law_formula_atom (T : Txt w K mg) (D : Def K mg "_law_formula_atom" s_law_formula_atom p_law_formula_atom) (c_law_formula_term : Cal P w K mg base 2 "_law_formula_term" p_law_formula_term (spGT K 2)) : Cal P w K mg base 3 "_law_formula_atom" p_law_formula_atom (spGA K) := by
  refine D.ok sc_law_formula_atom (N := n_law_formula_atom) (fun vs H Q E h => ?_) (fun f cdv A outer s H vs Q E hr h => ?_)
  · obtain ⟨row, sa, sc, N, rfl, _⟩ := h
    rfl
  obtain ⟨row, sa, sc, N, rfl, hsc, q⟩ := h
  refine ⟨_, (pss_cons (ps_if (pt_cmpR op_eq (pe_op op_mod (pe_callTy call_int1 rfl T.m_int (by decide +kernel) (pa_cons (pv 0) pa_nil)) pe_int) pe_int (nomark _)) (pss_cons (ps_set (i := 2) sc_law_formula_atom.nd rfl (Or.inl rfl) (pc c_law_formula_term (hr.mono (by omega)) rfl (pa_cons (pe_op op_fdiv (pv 0) pe_int) (pa_cons pe_int (pa_cons (pv 1) pa_nil)))))
      (pss_cons (ps_set (i := 3) sc_law_formula_atom.nd rfl (Or.inl rfl) (pc c_law_formula_term (hr.mono (by omega)) rfl (pa_cons (pe_ix (ixT (K := K) rfl) (pv 2) pe_int (fun _ _ => rfl)) (pa_cons pe_int (pa_cons (pv 1) pa_nil)))))
      (pss_one (ps_ret (pe_tup (pa_cons (pe_tup (pa_cons pe_str (pa_cons (pe_ix (ixT (K := K) rfl) (pv 2) pe_int (fun _ _ => rfl)) (pa_cons (pe_ix (ixT (K := K) rfl) (pv 3) pe_int (fun _ _ => rfl)) pa_nil)))) (pa_cons (pe_ix (ixT (K := K) rfl) (pv 3) pe_int (fun _ _ => rfl)) pa_nil))))))) pss_nil)
      (pss_cons (ps_set (i := 4) sc_law_formula_atom.nd rfl (Or.inl rfl) (pe_op op_add pe_int (pe_op op_mod (pe_op op_fdiv (pv 0) pe_int) pe_int)))
      (pss_cons (ps_set (i := 5) sc_law_formula_atom.nd rfl (Or.inl rfl) (pe_op op_mod (pe_op op_fdiv (pv 0) pe_int) pe_int))
      (pss_cons (ps_set (i := 0) sc_law_formula_atom.nd rfl (Or.inl rfl) (pe_op op_fdiv (pv 0) pe_int))
      (pss_cons (ps_set (i := 6) sc_law_formula_atom.nd rfl (Or.inl rfl) (pe_lst pa_nil))
      (pss_cons (ps_for PassesOwn.never rfl (pi_range1 rfl T.m_range (pa_cons (pv 5) pa_nil)) (pg_name (i := 7) sc_law_formula_atom.nd rfl (Or.inl rfl)) (pss_cons (ps_set (i := 8) sc_law_formula_atom.nd rfl (Or.inl rfl) (pc c_law_formula_term (hr.mono (by omega)) rfl (pa_cons (pv 0) (pa_cons pe_int (pa_cons (pv 1) pa_nil)))))
      (pss_cons (ps_expr (pe_bm PySem.F.plainAttrs_list PySem.F.slot_list_append PySem.F.type_list_append mt_append (pv 6) (pa_cons (pe_ix (ixT (K := K) rfl) (pv 8) pe_int (fun _ _ => rfl)) pa_nil)))
      (pss_one (ps_set (i := 0) sc_law_formula_atom.nd rfl (Or.inl rfl) (pe_ix (ixT (K := K) rfl) (pv 8) pe_int (fun _ _ => rfl)))))))
      (pss_one (ps_ret (pe_tup (pa_cons (pe_tup (pa_cons pe_str (pa_cons (pe_tup (pa_cons (pe_tup (pa_cons pe_int (pa_cons (pv 4) (pa_cons pe_int pa_nil)))) (pa_cons (pe_callTy call_tuple_of rfl T.m_tuple (by decide +kernel) (pa_cons (pv 6) pa_nil)) pa_nil))) pa_nil))) (pa_cons (pv 0) pa_nil))))))))))), fun fit => ?_⟩
  refine ⟨_, rfl, .inl ⟨_, rfl, _, _, rfl, rfl, (by show (0 : Int) < 3; decide), rfl, _, rfl, ?_⟩⟩
  refine ite2 (fun c => ?_) (fun c => ?_)
  · refine ⟨_, rfl, _, _, rfl, rfl, ⟨by decide, by decide⟩, _, rfl, _, 1, sa, sc, N, rfl, hsc, by decide, fun r1 x1 t1 w1 H1 s1 tt1 i1 o1 => ?_⟩
    refine ⟨_, rfl, r1, _, 1, _, rfl, rfl, tt1.sq, rfl, _, rfl, w1, 1, sa, sc, N, rfl, hsc.to s1, by decide, fun r2 x2 t2 w2 H2 s2 tt2 i2 o2 => ?_⟩
    refine ⟨_, rfl, r1, _, 0, _, rfl, rfl, (tt1.mono (Tups.of s2)).sq, rfl, _, rfl, r2, _, 0, _, rfl, rfl, tt2.sq, rfl, z3, fun p3 hp3 => ?_⟩
    obtain ⟨s3, i3⟩ := nt3 hp3 (.str "equal") (i1.to s2) i2
    refine ⟨_, rfl, r2, _, 1, _, rfl, rfl, (tt2.mono (Tups.of s3)).sq, rfl, z2, fun p4 hp4 => ?_⟩
    have s4 := same_new hp4 (.tup [.ref p3, .int w2])
    exact q p4 _ (.equal t1 t2) w2 _ (((s1.trans s2).trans s3).trans s4) (.inl upd_same) (i3.to s4) ⟨Tm.ok_mono (Int.le_refl _) (by decide) o1, Tm.ok_mono (Int.le_refl _) (by decide) o2⟩
  · have m0 := Int.emod_nonneg (row / 9) (show (3 : Int) ≠ 0 by decide)
    have m1 := Int.emod_lt_of_pos (row / 9) (show (0 : Int) < 3 by decide)
    refine ⟨_, rfl, _, _, rfl, rfl, ⟨by decide, by decide⟩, _, _, rfl, rfl, (by show (0 : Int) < 3; decide), _, _, rfl, rfl, ?_⟩
    refine ⟨_, rfl, _, _, rfl, rfl, ⟨by decide, by decide⟩, _, _, rfl, rfl, (by show (0 : Int) < 3; decide), ?_⟩
    refine ⟨_, rfl, _, _, rfl, rfl, ⟨by decide, by decide⟩, ?_⟩
    refine ⟨Nat.zero_le _, fun pl hpl => ?_⟩
    have s1 := same_new hpl (.lst [])
    refine ⟨_, rfl, row / 9 % 3, rfl, by omega, by omega, ?_⟩
    refine for_range (lo := 0) (n := (row / 9 % 3).toNat) (fun j σ' H2 => ∃ (rw' nn mm : Int) (u1 u2 : Option V) (ts : List Tm), σ' = [some (.int rw'), some (.ref sa), none, none, some (.int nn), some (.int mm), some (.ref pl), u1, u2] ∧ Same H H2 ∧ Ls K H2 pl (tmsD ts) ∧ ts.length = j ∧ ∀ t ∈ ts, Tm.ok N 1 t)
      ⟨_, _, _, none, none, [], rfl, s1, ⟨[], upd_same, by rw [tmsD]; exact .nil⟩, rfl, fun t h => by cases h⟩ ?_ ?_
    · rintro j σ' H2 hj ⟨rw', nn, mm, u1, u2, ts, rfl, s, ⟨xs, ex, rx⟩, ht, hok⟩
      refine ⟨_, rfl, _, rfl, rw', 1, sa, sc, N, rfl, hsc.to s, by decide, fun r x t row' H3 s3 tt ix okt => ?_⟩
      have ex3 := s3 _ _ ex
      have lx := rx.len
      rw [tmsD_len] at lx
      refine ⟨_, rfl, .inl ⟨rfl, _, SqL.of ex3⟩, _, rfl, r, _, 0, _, rfl, rfl, tt.sq, rfl, pl, xs, x, rfl, rfl, ex3, Nat.lt_of_le_of_lt (show xs.length ≤ 1000 by omega) (by decide), ?_⟩
      have b4 : But pl H3 (upd H3 pl (.lst (xs ++ [x]))) := But.upd _
      have t4 := b4.tups ex3 trivial
      have s4 : Same H (upd H3 pl (.lst (xs ++ [x]))) := But.to_same (s.trans s3) hpl b4
      refine ⟨_, rfl, r, _, 1, _, rfl, rfl, (tt.mono t4).sq, rfl, ?_⟩
      refine ⟨row', nn, mm, _, _, ts ++ [t], rfl, s4, ⟨xs ++ [x], upd_same, ?_⟩, by rw [List.length_append, ht]; rfl, fun u hu => ?_⟩
      · rw [show tmsD (ts ++ [t]) = tmsD ts ++ [t.d] by rw [tmsD_map, tmsD_map, List.map_append]; rfl]
        exact ((rx.to s3).snoc ix).mono t4
      · rcases List.mem_append.mp hu with z | z
        · exact hok u z
        · rw [List.mem_singleton] at z
          rw [z]
          exact okt
    · rintro σ' H2 ⟨rw', nn, mm, u1, u2, ts, rfl, s, ⟨xs, ex, rx⟩, ht, hok⟩
      refine ⟨_, rfl, z3, fun p1 hp1 => ?_⟩
      obtain ⟨s2, i2⟩ := nt3 (K := K) hp1 (.int 1) (.int nn) (.int 0)
      refine ⟨_, rfl, pl, xs, rfl, .inl ⟨SqL.of (s2 _ _ ex), fun p2 hp2 => ?_⟩⟩
      have s3 := same_new hp2 (.tup xs)
      have i3 : Im K _ (.ref p2) (.tuple (tmsD ts)) := .tup (.inl upd_same) ((rx.to s2).to s3)
      refine ⟨z2, fun p3 hp3 => ?_⟩
      obtain ⟨s4, i4⟩ := nt2 hp3 (i2.to s3) i3
      have i4' : Im K _ (.ref p3) (Tm.app (1, nn, 0) ts).d := Eq.mpr (by rw [Tm.d_app]; rfl) i4
      refine ⟨z2, fun p4 hp4 => ?_⟩
      obtain ⟨s5, i5⟩ := nt2 hp4 (.str "atom") i4'
      refine ⟨_, rfl, z2, fun p5 hp5 => ?_⟩
      have s6 := same_new hp5 (.tup [.ref p4, .int rw'])
      exact q p5 _ (.atom (.app (1, nn, 0) ts)) rw' _ (((((s.trans s2).trans s3).trans s4).trans s5).trans s6) (.inl upd_same) (i5.to s6) ((Tm.ok_app (s := (1, nn, 0))).mpr hok)
/-! ### formulas -/
def opOf (k : Int) : Op := if k = 3 then .and else if k = 4 then .or else if k = 5 then .implies else .iff
def spGF (K : PySem.W.Frag) (n : Nat) : Sp := fun vs H Q _ => ∃ (row : Int) (d : Nat) (sa : Addr) (sc : List Int) (c : Int), vs = [.int row, .int (d : Int), .ref sa, .int c] ∧ ScOk 15 H sa sc ∧ d < n ∧ 0 ≤ c ∧ c + 2 ^ d ≤ 16 ∧ sc.length + d ≤ 100 ∧
  ∀ (r : Addr) (x : V) (f : Fm) (row' c' : Int) (H' : Hp), Same H H' → H' r = some (.lst [x, .int row', .int c']) → Im K H' x f.d → Fm.ok 15 2 d f → c ≤ c' → c' + 1 ≤ c + 2 ^ d → Q (.ref r) H'
theorem pw2 (e : Nat) : (2 : Int) ^ (e + 1) = 2 * 2 ^ e := by rw [Int.pow_succ, Int.mul_comm]
theorem pw2_pos (e : Nat) : (1 : Int) ≤ 2 ^ e := by
  have : (0 : Int) < 2 ^ e := Int.pow_pos (by decide)
  omega
theorem ok_law_formula (T : Txt w K mg) (D : Def K mg "_law_formula" s_law_formula p_law_formula) (c_law_formula_atom : Cal P w K mg base 3 "_law_formula_atom" p_law_formula_atom (spGA K)) : ∀ n : Nat, Cal P w K mg base (n + 3) "_law_formula" p_law_formula (spGF K n)
  | 0 => D.none _ fun vs H Q E h => by
    obtain ⟨row, d, sa, sc, c, _, _, hd, _⟩ := h
    omega
  | n + 1 => by
    have c_law_formula := ok_law_formula T D c_law_formula_atom n
    rw [show n + 1 + 3 = (n + 3) + 1 by omega]
    refine D.ok sc_law_formula (N := n_law_formula) (fun vs H Q E h => ?_) (fun f cdv A outer s H vs Q E hr h => ?_)
    · obtain ⟨row, d, sa, sc, c, rfl, _⟩ := h
      rfl
    obtain ⟨row, d, sa, sc, c, rfl, hsc, hd, hc0, hc, hlen, q⟩ := h
    refine ⟨_, (pss_cons (ps_set (i := 4) sc_law_formula.nd rfl (Or.inl rfl) (pe_op op_mod (pe_callTy call_int1 rfl T.m_int (by decide +kernel) (pa_cons (pv 0) pa_nil)) pe_int))
      (pss_cons (ps_set (i := 0) sc_law_formula.nd rfl (Or.inl rfl) (pe_op op_fdiv (pv 0) pe_int))
      (pss_cons (ps_if (PW.pt (pw_or (pt_cmpR op_eq (pv 1) pe_int (nomark _)) (pw_or1 (pt_cmpR op_eq (pv 4) pe_int (nomark _))))) (pss_cons (ps_set (i := 5) sc_law_formula.nd rfl (Or.inl rfl) (pc c_law_formula_atom (hr.mono (by omega)) rfl (pa_cons (pv 0) (pa_cons (pv 2) pa_nil))))
      (pss_one (ps_ret (pe_lst (pa_cons (pe_ix (ixT (K := K) rfl) (pv 5) pe_int (fun _ _ => rfl)) (pa_cons (pe_ix (ixT (K := K) rfl) (pv 5) pe_int (fun _ _ => rfl)) (pa_cons (pv 3) pa_nil))))))) pss_nil)
      (pss_cons (ps_if (pt_cmpR op_lt (pv 4) pe_int (nomark _)) (pss_cons (ps_set (i := 6) sc_law_formula.nd rfl (Or.inl rfl) (pc c_law_formula (hr.mono (by omega)) rfl (pa_cons (pv 0) (pa_cons (pe_op op_sub (pv 1) pe_int) (pa_cons (pv 2) (pa_cons (pv 3) pa_nil))))))
      (pss_one (ps_ret (pe_lst (pa_cons (pe_tup (pa_cons pe_str (pa_cons (pe_ix (ixL (K := K) rfl) (pv 6) pe_int (fun _ _ => rfl)) pa_nil))) (pa_cons (pe_ix (ixL (K := K) rfl) (pv 6) pe_int (fun _ _ => rfl)) (pa_cons (pe_ix (ixL (K := K) rfl) (pv 6) pe_int (fun _ _ => rfl)) pa_nil))))))) pss_nil)
      (pss_cons (ps_if (pt_cmpR op_gt (pv 4) pe_int (nomark _)) (pss_cons (ps_set (i := 6) sc_law_formula.nd rfl (Or.inl rfl) (pc c_law_formula (hr.mono (by omega)) rfl (pa_cons (pv 0) (pa_cons (pe_op op_sub (pv 1) pe_int) (pa_cons (pe_op op_cat (pv 2) (pe_lst (pa_cons (pv 3) pa_nil))) (pa_cons (pe_op op_add (pv 3) pe_int) pa_nil))))))
      (pss_one (ps_ret (pe_lst (pa_cons (pe_tup (pa_cons (pe_ifExp (pt_cmpR op_eq (pv 4) pe_int (nomark _)) pe_str pe_str) (pa_cons (pv 3) (pa_cons (pe_ix (ixL (K := K) rfl) (pv 6) pe_int (fun _ _ => rfl)) pa_nil)))) (pa_cons (pe_ix (ixL (K := K) rfl) (pv 6) pe_int (fun _ _ => rfl)) (pa_cons (pe_ix (ixL (K := K) rfl) (pv 6) pe_int (fun _ _ => rfl)) pa_nil))))))) pss_nil)
      (pss_cons (ps_set (i := 7) sc_law_formula.nd rfl (Or.inl rfl) (pc c_law_formula (hr.mono (by omega)) rfl (pa_cons (pv 0) (pa_cons (pe_op op_sub (pv 1) pe_int) (pa_cons (pv 2) (pa_cons (pv 3) pa_nil))))))
      (pss_cons (ps_set (i := 8) sc_law_formula.nd rfl (Or.inl rfl) (pc c_law_formula (hr.mono (by omega)) rfl (pa_cons (pe_ix (ixL (K := K) rfl) (pv 7) pe_int (fun _ _ => rfl)) (pa_cons (pe_op op_sub (pv 1) pe_int) (pa_cons (pv 2) (pa_cons (pe_ix (ixL (K := K) rfl) (pv 7) pe_int (fun _ _ => rfl)) pa_nil))))))
      (pss_cons (ps_set (i := 9) sc_law_formula.nd rfl (Or.inl rfl) (pe_lst (pa_cons pe_str (pa_cons pe_str (pa_cons pe_str (pa_cons pe_str pa_nil))))))
      (pss_one (ps_ret (pe_lst (pa_cons (pe_tup (pa_cons (pe_ix (ixL (K := K) rfl) (pv 9) (pe_op op_sub (pv 4) pe_int) (fun _ _ => rfl)) (pa_cons (pe_ix (ixL (K := K) rfl) (pv 7) pe_int (fun _ _ => rfl)) (pa_cons (pe_ix (ixL (K := K) rfl) (pv 8) pe_int (fun _ _ => rfl)) pa_nil)))) (pa_cons (pe_ix (ixL (K := K) rfl) (pv 8) pe_int (fun _ _ => rfl)) (pa_cons (pe_ix (ixL (K := K) rfl) (pv 8) pe_int (fun _ _ => rfl)) pa_nil)))))))))))))), fun fit => ?_⟩
    have k0 := Int.emod_nonneg row (show (9 : Int) ≠ 0 by decide)
    have k9 := Int.emod_lt_of_pos row (show (0 : Int) < 9 by decide)
    refine ⟨_, rfl, .inl ⟨_, rfl, _, _, rfl, rfl, (by show (0 : Int) < 9; decide), ?_⟩⟩
    refine ⟨_, rfl, _, _, rfl, rfl, ⟨by decide, by decide⟩, ?_⟩
    refine ⟨_, rfl, rfl, _, rfl, ?_⟩
    refine (fun (go : _) => ite2 (fun c => iteT go) (fun c1 => ⟨_, rfl, rfl, _, rfl, ite2 (fun c => go) (fun c2 => ?deep)⟩)) ?flat
    case flat =>
      refine ⟨_, rfl, _, rfl, _, sa, sc, 15, rfl, hsc, fun r1 x1 t1 w1 H1 s1 tt1 i1 o1 => ?_⟩
      refine ⟨_, rfl, r1, _, 0, _, rfl, rfl, tt1.sq, rfl, _, rfl, r1, _, 1, _, rfl, rfl, tt1.sq, rfl, _, rfl, z3, fun p hp => ?_⟩
      have s2 := same_new hp (.lst [x1, .int w1, .int c])
      have := pw2_pos d
      exact q p x1 (.at t1) w1 c _ (s1.trans s2) upd_same (i1.to s2) (Fm.ok_at.mpr o1) (Int.le_refl _) (by omega)
    case deep =>
      have hd0 : d ≠ 0 := fun z => c1 (decide_eq_true (by rw [z]; rfl))
      obtain ⟨e, rfl⟩ : ∃ e, d = e + 1 := ⟨d - 1, by omega⟩
      rw [pw2] at hc q
      have p1 := pw2_pos e
      have ee : ∀ (y : V), [V.int (row / 9), V.int (((e + 1 : Nat) : Int) - 1), V.ref sa, y] = [V.int (row / 9), V.int (e : Int), V.ref sa, y] := fun y => by rw [show (((e + 1 : Nat) : Int) - 1) = (e : Int) by omega]
      refine ⟨_, rfl, _, _, rfl, rfl, _, rfl, ?_⟩
      refine ite2 (fun c3 => ?_) (fun c3 => ?_)
      · -- not
        refine ⟨_, rfl, _, rfl, _, _, rfl, rfl, _, rfl, _, rfl, row / 9, e, sa, sc, c, ee (.int c), hsc, by omega, hc0, by omega, by omega, fun r1 x1 f1 w1 c1' H1 s1 l1 i1 o1 hc1 hc2 => ?_⟩
        refine ⟨_, rfl, r1, _, 0, _, rfl, rfl, SqL.of l1, rfl, z2, fun p2 hp2 => ?_⟩
        obtain ⟨s2, i2⟩ := nt2 hp2 (.str "not") i1
        have l2 := s2 _ _ l1
        refine ⟨_, rfl, r1, _, 1, _, rfl, rfl, SqL.of l2, rfl, _, rfl, r1, _, 2, _, rfl, rfl, SqL.of l2, rfl, z3, fun p3 hp3 => ?_⟩
        have s3 := same_new hp3 (.lst [.ref p2, .int w1, .int c1'])
        exact q p3 _ (.not f1) w1 c1' _ ((s1.trans s2).trans s3) upd_same (i2.to s3) o1 hc1 (by omega)
      · have c3' : ¬ row % 9 < 3 := fun z => c3 (decide_eq_true z)
        refine ⟨_, rfl, _, _, rfl, rfl, _, rfl, ?_⟩
        refine ite2 (fun c4 => ?_) (fun c4 => ?_)
        · -- all, some
          refine ⟨_, rfl, _, rfl, _, _, rfl, rfl, _, rfl, _, rfl, z1, fun pn hpn => ?_⟩
          have s0 := same_new hpn (.lst [.int c])
          refine ⟨sa, pn, _, _, rfl, rfl, s0 _ _ hsc.at_, upd_same, ?_, fun ps hps => ?_⟩
          · rw [iv_len]
            exact Nat.le_trans (show sc.length + 1 ≤ 101 by omega) (by decide)
          have s1 := same_new hps (.lst (iv sc ++ [.int c]))
          have sc1 : ScOk 15 (upd (upd H pn (.lst [.int c])) ps (.lst (iv sc ++ [.int c]))) ps (sc ++ [c]) := ⟨by rw [upd_same, iv_snoc], fun v hv => by
            rcases List.mem_append.mp hv with z | z
            · exact hsc.rg v z
            · rw [List.mem_singleton] at z
              omega, by rw [List.length_append, List.length_singleton]; omega⟩
          refine ⟨_, rfl, _, _, rfl, rfl, row / 9, e, ps, sc ++ [c], c + 1, ?_, sc1, by omega, by omega, by omega, by rw [List.length_append, List.length_singleton]; omega, fun r1 x1 f1 w1 c1' H1 s2 l1 i1 o1 hc1 hc2 => ?_⟩
          · show [V.int (row / 9), V.int (((e + 1 : Nat) : Int) - 1), V.ref ps, V.int (c + 1)] = _
            rw [show (((e + 1 : Nat) : Int) - 1) = (e : Int) by omega]
          have s02 := (s0.trans s1).trans s2
          refine ⟨_, rfl, rfl, _, rfl, ?_⟩
          refine ite2 (fun c5 => ?_) (fun c5 => ?_)
          · refine ⟨_, rfl, _, rfl, r1, _, 0, _, rfl, rfl, SqL.of l1, rfl, z3, fun p2 hp2 => ?_⟩
            obtain ⟨s3, i3⟩ := nt3 hp2 (.str "all") (.int c) i1
            have l2 := s3 _ _ l1
            refine ⟨_, rfl, r1, _, 1, _, rfl, rfl, SqL.of l2, rfl, _, rfl, r1, _, 2, _, rfl, rfl, SqL.of l2, rfl, z3, fun p3 hp3 => ?_⟩
            have s4 := same_new hp3 (.lst [.ref p2, .int w1, .int c1'])
            exact q p3 _ (.qu true c f1) w1 c1' _ ((s02.trans s3).trans s4) upd_same (i3.to s4) o1 (by omega) (by omega)
          · refine ⟨_, rfl, _, rfl, r1, _, 0, _, rfl, rfl, SqL.of l1, rfl, z3, fun p2 hp2 => ?_⟩
            obtain ⟨s3, i3⟩ := nt3 hp2 (.str "some") (.int c) i1
            have l2 := s3 _ _ l1
            refine ⟨_, rfl, r1, _, 1, _, rfl, rfl, SqL.of l2, rfl, _, rfl, r1, _, 2, _, rfl, rfl, SqL.of l2, rfl, z3, fun p3 hp3 => ?_⟩
            have s4 := same_new hp3 (.lst [.ref p2, .int w1, .int c1'])
            exact q p3 _ (.qu false c f1) w1 c1' _ ((s02.trans s3).trans s4) upd_same (i3.to s4) o1 (by omega) (by omega)
        · -- two sides
          have c4' : ¬ 6 < row % 9 := fun z => c4 (decide_eq_true z)
          refine ⟨_, rfl, _, rfl, _, _, rfl, rfl, _, rfl, _, rfl, row / 9, e, sa, sc, c, ee (.int c), hsc, by omega, hc0, by omega, by omega, fun r1 x1 f1 w1 c1' H1 s1 l1 i1 o1 hc1 hc2 => ?_⟩
          refine ⟨_, rfl, r1, _, 1, _, rfl, rfl, SqL.of l1, rfl, _, rfl, _, _, rfl, rfl, _, rfl, _, rfl, r1, _, 2, _, rfl, rfl, SqL.of l1, rfl, w1, e, sa, sc, c1', ?_, hsc.to s1, by omega, by omega, by omega, by omega, fun r2 x2 f2 w2 c2' H2 s2 l2 i2 o2 hc3 hc4 => ?_⟩
          · show [V.int w1, V.int (((e + 1 : Nat) : Int) - 1), V.ref sa, V.int c1'] = _
            rw [show (((e + 1 : Nat) : Int) - 1) = (e : Int) by omega]
          refine ⟨(by show 4 ≤ sizeLine; decide), fun pt hpt => ?_⟩
          have s3 := same_new hpt (.lst [.str "and", .str "or", .str "implies", .str "iff"])
          have s23 := s2.trans s3
          have l1' := s23 _ _ l1
          have l2' := s3 _ _ l2
          have ix : ∃ o : Op, ([.str "and", .str "or", .str "implies", .str "iff"] : List V)[(row % 9 - 3).toNat]? = some (.str o.tag) := by
            have hk : (row % 9 - 3).toNat = 0 ∨ (row % 9 - 3).toNat = 1 ∨ (row % 9 - 3).toNat = 2 ∨ (row % 9 - 3).toNat = 3 := by omega
            rcases hk with h | h | h | h
            · rw [h]; exact ⟨.and, rfl⟩
            · rw [h]; exact ⟨.or, rfl⟩
            · rw [h]; exact ⟨.implies, rfl⟩
            · rw [h]; exact ⟨.iff, rfl⟩
          obtain ⟨o, ho⟩ := ix
          refine ⟨_, rfl, _, rfl, _, _, rfl, rfl, pt, _, _, _, rfl, rfl, SqL.of upd_same, at_of (j := (row % 9 - 3).toNat) (by omega) ho, ?_⟩
          refine ⟨_, rfl, r1, _, 0, _, rfl, rfl, SqL.of l1', rfl, _, rfl, r2, _, 0, _, rfl, rfl, SqL.of l2', rfl, z3, fun p4 hp4 => ?_⟩
          obtain ⟨s4, i4⟩ := nt3 hp4 (.str o.tag) (i1.to s23) (i2.to s3)
          have l2'' := s4 _ _ l2'
          refine ⟨_, rfl, r2, _, 1, _, rfl, rfl, SqL.of l2'', rfl, _, rfl, r2, _, 2, _, rfl, rfl, SqL.of l2'', rfl, z3, fun p5 hp5 => ?_⟩
          have s5 := same_new hp5 (.lst [.ref p4, .int w2, .int c2'])
          exact q p5 _ (.bin o f1 f2) w2 c2' _ (((s1.trans s23).trans s4).trans s5) upd_same (i4.to s5) ⟨o1, o2⟩ (by omega) (by omega)
/-- _law_small_formula -/
def spGS (K : PySem.W.Frag) : Sp := fun vs H Q _ => ∃ (a : Addr) (k : Int) (d : Nat), vs = [.ref a, .int k, .int (d : Int)] ∧ Scr K H a ∧ 0 ≤ k ∧ d ≤ 4 ∧ ∀ (x : V) (f : Fm) (H' : Hp), Same H H' → Im K H' x f.d → Fm.ok 15 2 4 f → Q x H'
theorem ok_law_small_formula (D : Def K mg "_law_small_formula" s_law_small_formula p_law_small_formula) (c_law_cell : Cal P w K mg base 1 "_law_cell" p_law_cell (spCell K)) (c_law_formula : Cal P w K mg base 8 "_law_formula" p_law_formula (spGF K 5)) : Cal P w K mg base 9 "_law_small_formula" p_law_small_formula (spGS K) := by
  refine D.ok sc_law_small_formula (N := n_law_small_formula) (fun vs H Q E h => ?_) (fun f cdv A outer s H vs Q E hr h => ?_)
  · obtain ⟨a, k, d, rfl, _⟩ := h
    rfl
  obtain ⟨a, k, d, rfl, hS, hk, hd, q⟩ := h
  refine ⟨_, (pss_cons (ps_set (i := 3) sc_law_small_formula.nd rfl (Or.inl rfl) (pc c_law_formula (hr.mono (by omega)) rfl (pa_cons (pc c_law_cell (hr.mono (by omega)) rfl (pa_cons (pv 0) (pa_cons (pv 1) pa_nil))) (pa_cons (pv 2) (pa_cons (pe_lst pa_nil) (pa_cons pe_int pa_nil))))))
      (pss_one (ps_ret (pe_ix (ixL (K := K) rfl) (pv 3) pe_int (fun _ _ => rfl))))), fun fit => ?_⟩
  refine ⟨_, rfl, _, rfl, a, k, rfl, hS, hk, fun z hz => ?_⟩
  refine ⟨_, rfl, Nat.zero_le _, fun p hp => ?_⟩
  have s1 := same_new hp (.lst [])
  have h16 : (0 : Int) + 2 ^ d ≤ 16 := by
    have : d = 0 ∨ d = 1 ∨ d = 2 ∨ d = 3 ∨ d = 4 := by omega
    rcases this with e | e | e | e | e <;> (rw [e]; decide)
  refine ⟨z, d, p, [], 0, rfl, ⟨upd_same, (fun v hv => (by cases hv)), Nat.zero_le _⟩, by omega, Int.le_refl _, h16, by rw [List.length_nil]; omega, fun r x f row' c' H' s2 l2 i2 o2 _ _ => ?_⟩
  exact ⟨_, rfl, r, _, 0, _, rfl, rfl, SqL.of l2, rfl, q x f H' (s1.trans s2) i2 (Fm.ok_mono hd o2)⟩
end
end K3

/-! clauses_of. -/
namespace K3
open PySem PySem.Spec PyProof.Rows L2
/-! ### the lists of the mirror, item by item -/
def skA (a : Int) : List Fm → Int → Int
  | [], sk => sk
  | f :: r, sk => skA a r (opn a (inw f true) [] [] 0 sk).2.2
theorem opnAll_snoc (a : Int) (f : Fm) : ∀ (l : List Fm) (sk : Int), opnAll a (l ++ [f]) sk = opnAll a l sk ++ [(opn a (inw f true) [] [] 0 (skA a l sk)).1]
  | [], sk => rfl
  | g :: r, sk => by
    show _ :: opnAll a (r ++ [f]) _ = _ :: (opnAll a r _ ++ _)
    rw [opnAll_snoc a f r]
    rfl
theorem skA_snoc (a : Int) (f : Fm) : ∀ (l : List Fm) (sk : Int), skA a (l ++ [f]) sk = (opn a (inw f true) [] [] 0 (skA a l sk)).2.2
  | [], sk => rfl
  | g :: r, sk => by
    show skA a (r ++ [f]) _ = _
    rw [skA_snoc a f r]
    rfl
theorem opnAll_len (a : Int) : ∀ (l : List Fm) (sk : Int), (opnAll a l sk).length = l.length
  | [], _ => rfl
  | g :: r, sk => by
    show (opnAll a r _).length + 1 = _
    rw [opnAll_len a r]
    rfl
def cA (a : Int) : List Tr → Int → Int
  | [], c => c
  | t :: r, c => cA a r (spr a t c).2.2
def cls1 (a : Int) (t : Tr) (c : Int) : List Cl := (spr a t c).1 ++ (spr a t c).2.1
theorem sprAll_snoc (a : Int) (t : Tr) : ∀ (l : List Tr) (c : Int), sprAll a (l ++ [t]) c = sprAll a l c ++ (cls1 a t (cA a l c)).map neat
  | [], c => by show (cls1 a t c).map neat ++ [] = [] ++ _; simp [cA]
  | g :: r, c => by
    show (cls1 a g c).map neat ++ sprAll a (r ++ [t]) _ = ((cls1 a g c).map neat ++ sprAll a r _) ++ _
    rw [sprAll_snoc a t r, List.append_assoc]
    rfl
theorem cA_snoc (a : Int) (t : Tr) : ∀ (l : List Tr) (c : Int), cA a (l ++ [t]) c = (spr a t (cA a l c)).2.2
  | [], c => rfl
  | g :: r, c => by
    show cA a (r ++ [t]) _ = _
    rw [cA_snoc a t r]
    rfl
/-! ### bounds -/
def MM : Int := 20000
/-- what each tree of the opened list keeps -/
structure TreeOk (t : Tr) : Prop where
  ok : TrOk MM 2 43 5 t
  lv : t.lv ≤ 10000
def FmOk (g : Fm) : Prop := Fm.ok 15 2 21 g ∧ g.w ≤ 10000
theorem tree_ok {a : Int} {g : Fm} {sk : Int} (h : FmOk g) : TreeOk (opn a (inw g true) [] [] 0 sk).1 := by
  have h1 := inw_ok (p := true) h.1
  have h2 := opn_ok (N := 15) (M := MM) (d := 2) (a := a) (by decide) (f := inw g true) (ar := []) (σ := []) (nv := 0) (sk := sk) h1.1 (fun p hp => by cases hp) (fun v hv => by cases hv) (Int.le_refl _) (by rw [inw_w]; have := h.2; show (0 : Int) + (g.w : Int) ≤ 20000; omega)
  have hw := inw_w g true
  have := h.2
  exact ⟨⟨h2.1, by omega, by decide, by omega, by decide, by decide⟩, by omega⟩
theorem opnAll_ok {a : Int} : ∀ {l : List Fm} {sk : Int}, (∀ g ∈ l, FmOk g) → ∀ t ∈ opnAll a l sk, TreeOk t
  | [], _, _, t, ht => by cases ht
  | g :: r, sk, h, t, ht => by
    rcases List.mem_cons.mp ht with e | e
    · rw [e]
      exact tree_ok (h g List.mem_cons_self)
    · exact opnAll_ok (fun k hk => h k (List.mem_cons_of_mem _ hk)) t e
theorem cls1_ok {a c : Int} {t : Tr} (h : TreeOk t) : (∀ k ∈ cls1 a t c, ClOk MM 3 k ∧ k.length ≤ 20000) ∧ (cls1 a t c).length ≤ 10000 := by
  obtain ⟨h1, h2, h3, h4⟩ := spr_ok (a := a) (c := c) h.ok.ok
  have := h.lv
  refine ⟨fun k hk => ?_, by unfold cls1; rw [List.length_append]; omega⟩
  rcases List.mem_append.mp hk with q | q
  · have := h1 k q
    exact ⟨this.1, by omega⟩
  · have := h2 k q
    exact ⟨this.1, by omega⟩
theorem sprAll_len {a : Int} : ∀ {l : List Tr} {c : Int}, (∀ t ∈ l, TreeOk t) → (sprAll a l c).length ≤ l.length * 10000
  | [], _, _ => Nat.le_refl _
  | t :: r, c, h => by
    have h1 := (cls1_ok (a := a) (c := c) (h t List.mem_cons_self)).2
    have h2 := sprAll_len (a := a) (l := r) (c := (spr a t c).2.2) fun k hk => h k (List.mem_cons_of_mem _ hk)
    show ((cls1 a t c).map neat ++ sprAll a r (spr a t c).2.2).length ≤ _
    rw [List.length_append, List.length_map, List.length_cons]
    omega
theorem renm_ok {N : Int} {f : List Int} (h : Rg N f) (h0 : 0 ≤ N) : ∀ p ∈ renm f, Tm.ok N 0 p.2 := fun p hp => by
  have hl := h.len h0
  obtain ⟨i, hi⟩ := List.getElem?_of_mem hp
  have hlt : i < f.length := by
    have := (List.getElem?_eq_some_iff.mp hi).1
    rw [renm_len] at this
    exact this
  rw [renm_get (List.getElem?_eq_getElem hlt)] at hi
  have e := Option.some.inj hi
  rw [← e]
  exact Tm.ok_var.mpr (by omega)
theorem neat_ok {N : Int} {d : Nat} {c : Cl} (h : ClOk N d c) (h0 : 0 ≤ N) : ClOk N d (neat c) := fun l hl => by
  have hw := wr_ok h
  have rg := cvars_rg hw
  have rn := renm_ok rg h0
  unfold neat ren at hl
  obtain ⟨m, hm, rfl⟩ := List.mem_map.mp hl
  have := hw m hm
  exact ⟨put_ok (e := 0) (Int.le_refl _) rn this.1, put_ok (e := 0) (Int.le_refl _) rn this.2⟩
theorem sprAll_ok {a : Int} : ∀ {l : List Tr} {c : Int}, (∀ t ∈ l, TreeOk t) → ∀ k ∈ sprAll a l c, ClOk MM 3 k
  | [], _, _, k, hk => by cases hk
  | t :: r, c, h, k, hk => by
    rcases List.mem_append.mp (show k ∈ (cls1 a t c).map neat ++ sprAll a r (spr a t c).2.2 from hk) with q | q
    · obtain ⟨m, hm, rfl⟩ := List.mem_map.mp q
      exact neat_ok ((cls1_ok (a := a) (c := c) (h t List.mem_cons_self)).1 m hm).1 (by decide)
    · exact sprAll_ok (fun u hu => h u (List.mem_cons_of_mem _ hu)) k q
section
variable {P : Program} {w : World} {K : PySem.W.Frag} {mg : Str → Option Value} {base : Heap}
theorem fm_get {H : Hp} {xs : List V} {fs : List Fm} (r : ImA K H xs (fs.map Fm.d)) {j : Nat} {x : V} (h : xs[j]? = some x) : ∃ c, fs[j]? = some c ∧ Im K H x c.d := by
  obtain ⟨e, he, hx⟩ := r.get h
  rw [List.getElem?_map] at he
  obtain ⟨l, hl, rfl⟩ := Option.map_eq_some_iff.mp he
  exact ⟨l, hl, hx⟩
theorem tr_get {H : Hp} {xs : List V} {fs : List Tr} (r : ImA K H xs (fs.map Tr.d)) {j : Nat} {x : V} (h : xs[j]? = some x) : ∃ c, fs[j]? = some c ∧ Im K H x c.d := by
  obtain ⟨e, he, hx⟩ := r.get h
  rw [List.getElem?_map] at he
  obtain ⟨l, hl, rfl⟩ := Option.map_eq_some_iff.mp he
  exact ⟨l, hl, hx⟩
def spClauses (K : PySem.W.Frag) : Sp := fun vs H Q _ => ∃ (v : V) (f : Fm) (a : Int), vs = [.int a, v] ∧ Im K H v f.d ∧ Fm.ok 15 2 5 f ∧ ∀ (l : Addr) (H' : Hp), Same H H' → LC K H' l (clausesM a f) → Q (.ref l) H'
theorem cat_lsN {H : Hp} {l b : Addr} {ds es : List PyData} {Q : VK} (h : Ls K H l ds) (h2 : Ls K H b es) (hl : ds.length + es.length ≤ 1000000) (k : ∀ p H', H p = none → Same H H' → Ls K H' p (ds ++ es) → Q (.ref p) H') : rCat (.ref l) (.ref b) H Q := by
  obtain ⟨xs, e1, r1⟩ := h
  obtain ⟨ys, e2, r2⟩ := h2
  refine ⟨l, b, xs, ys, rfl, rfl, e1, e2, ?_, fun p hp => ?_⟩
  · rw [r1.len, r2.len]
    exact Nat.le_trans hl (by decide)
  · have s := same_new hp (.lst (xs ++ ys))
    exact k p _ hp s ⟨_, upd_same, (r1.append r2).to s⟩
/-- a list made of data stands on behind a store elsewhere -/
theorem Ls.upd {H : Hp} {l p : Addr} {ds : List PyData} {xs : List V} (h : Ls K H l ds) (n : l ≠ p) (e : H p = some (.lst xs)) (ys : List V) : Ls K (upd H p (.lst ys)) l ds := h.but (But.upd _) (lst_tups e _) n
theorem ok_clauses_of {CO CS : Addr} (TCO : TO K CO) (TCS : TS2 K CS) (D : Def K mg "clauses_of" s_clauses_of p_clauses_of) (c_named : Cal P w K mg base 22 "named" p_named (spNamed K 6)) (k_Opener : KCal P w K mg base CO 1 "Opener" p_Opener___init__ (spOInit CO)) (m_Opener_opened : MCal P w K mg base CO 51 "opened" p_Opener_opened (spOpened K CO 5 43))
    (c_inward : Cal P w K mg base 44 "inward" p_inward (spInw K 22)) (k_Spreader : KCal P w K mg base CS 1 "Spreader" p_Spreader___init__ (spSInit CS)) (m_Spreader_spread : MCal P w K mg base CS 92 "spread" p_Spreader_spread (spSpr K CS 5 43)) (c_renumbered : Cal P w K mg base 9 "renumbered" p_renumbered (spRen K 5)) (c_without_repeats : Cal P w K mg base 3 "without_repeats" p_without_repeats (spWr K)) :
    Cal P w K mg base 96 "clauses_of" p_clauses_of (spClauses K) := by
  refine D.ok sc_clauses_of (N := n_clauses_of) (fun vs H Q E h => ?_) (fun f cdv A outer s H vs Q E hr h => ?_)
  · obtain ⟨v, f, a, rfl, _⟩ := h
    rfl
  obtain ⟨v, g, a, rfl, hv, hok, q⟩ := h
  refine ⟨_, (pss_cons (ps_asg (pc c_named (hr.mono (by omega)) rfl (pa_cons (pv 0) (pa_cons (pv 1) pa_nil))) (pg_tup rfl (pgs_cons (pg_name (i := 2) sc_clauses_of.nd rfl (Or.inl rfl)) (pgs_cons (pg_name (i := 3) sc_clauses_of.nd rfl (Or.inl rfl)) pgs_nil))))
      (pss_cons (ps_set (i := 4) sc_clauses_of.nd rfl (Or.inr rfl) (pmk k_Opener (hr.mono (by omega)) rfl (pa_cons (pv 0) pa_nil)))
      (pss_cons (ps_setLc (i := 5) (own := [("one", 8)]) (g := gName 8) rfl sc_clauses_of.nd rfl rfl (sw_true rfl rfl rfl (by decide +kernel)) (pi_list (pv 2)) (blkOk_by (own := [("one", 8)]) (N := n_clauses_of) (sc := defScope s_clauses_of) (by decide +kernel)) (fun _ _ _ _ _ => (pg_name (i := 8) sc_clauses_of.nd rfl (Or.inl rfl))) (fun _ _ _ _ _ => pts_nil) (fun _ _ _ _ _ => (pm m_Opener_opened (hr.mono (by omega)) (pv 4) (pa_cons (pc c_inward (hr.mono (by omega)) rfl (pa_cons (pv 8) (pa_cons pe_bl pa_nil))) pa_nil))))
      (pss_cons (ps_set (i := 6) sc_clauses_of.nd rfl (Or.inl rfl) (pmk k_Spreader (hr.mono (by omega)) rfl (pa_cons (pv 0) (pa_cons (pv 3) pa_nil))))
      (pss_cons (ps_set (i := 7) sc_clauses_of.nd rfl (Or.inl rfl) (pe_lst pa_nil))
      (pss_cons (ps_for PassesOwn.never rfl (pi_list (pv 5)) (pg_name (i := 8) sc_clauses_of.nd rfl (Or.inl rfl)) (pss_cons (ps_asg (pm m_Spreader_spread (hr.mono (by omega)) (pv 6) (pa_cons (pv 8) pa_nil)) (pg_tup rfl (pgs_cons (pg_name (i := 9) sc_clauses_of.nd rfl (Or.inl rfl)) (pgs_cons (pg_name (i := 10) sc_clauses_of.nd rfl (Or.inl rfl)) pgs_nil))))
      (pss_one (ps_for PassesOwn.never rfl (pi_list (pe_op op_cat (pv 9) (pv 10))) (pg_name (i := 11) sc_clauses_of.nd rfl (Or.inl rfl)) (pss_one (ps_expr (pe_bm PySem.F.plainAttrs_list PySem.F.slot_list_append PySem.F.type_list_append mt_append (pv 7) (pa_cons (pe_ix (ixT (K := K) rfl) (pc c_renumbered (hr.mono (by omega)) rfl (pa_cons (pc c_without_repeats (hr.mono (by omega)) rfl (pa_cons (pv 11) pa_nil)) pa_nil)) pe_int (fun _ _ => rfl)) pa_nil))))))))
      (pss_one (ps_ret (pv 7))))))))), fun fit => ?_⟩
  have nok := named_ok (a := a) hok (Nat.le_refl _)
  refine ⟨_, rfl, _, rfl, v, g, a, 15, 1, 5, rfl, hv, hok, by decide, by decide, by decide, by decide, by decide, fun p1 l1 H1 s1 t1 e1 => ?_⟩
  refine ⟨p1, _, rfl, t1.sq, rfl, _, _, rfl, _, _, rfl, rfl, ?_⟩
  have qd : clausesM a g = sprAll a (opnAll a (named a g).1 0) (named a g).2 := rfl
  rw [qd] at q
  generalize hfs : (named a g).1 = fs at *
  generalize hcn : (named a g).2 = cn at *
  refine ⟨_, rfl, ?_⟩
  intro p dx np ndx nne
  have s0 : Same H1 (upd (upd H1 dx (.own p)) p (.ins CO dx [])) := (same_new ndx _).trans (same_new (by rw [upd_ne nne.symm]; exact np) _)
  refine ⟨p, dx, a, rfl, upd_same, fun H2 o2 b2 => ⟨rfl, ?_⟩⟩
  have s2 : Same H1 H2 := But.to_same s0 np b2
  have e2 := e1.to s2
  obtain ⟨xs, ex, rx⟩ := id e2
  have lx : xs.length = fs.length := by rw [rx.len, List.length_map]
  refine ⟨_, rfl, l1, rfl, ⟨xs, SqL.of ex⟩, fun DD hDD => ?_⟩
  have nDp : DD ≠ p := fun z => by
    obtain ⟨dx2, h2⟩ := o2
    rw [z, h2] at hDD
    cases hDD
  refine lc_list (K := K) (a := l1) (xs := xs) (fun j H' => Same H1 H' ∧ Ls K H' l1 (fs.map Fm.d) ∧ H' l1 = some (.lst xs) ∧ (∃ nv, OpAt CO H' p a (skA a (fs.take j) 0) nv) ∧ Ls K H' DD ((opnAll a (fs.take j) 0).map Tr.d))
    ⟨s2.trans (same_new hDD _), e2.to (same_new hDD _), (same_new hDD _) _ _ ex, ⟨0, o2.to (same_new hDD _)⟩, [], upd_same, .nil⟩ (fun j H' _ ⟨_, _, e, _⟩ => SqL.of e) ?_ ?_
  · rintro j x H' hx ⟨sj, lj, ej, ⟨nv, oj⟩, acc, ea, ra⟩
    have rxj : ImA K H' xs (fs.map Fm.d) := by
      obtain ⟨ys, ey, ry⟩ := lj
      rw [ej] at ey
      rw [HO.lst.inj (Option.some.inj ey)]
      exact ry
    obtain ⟨fj, hfj, ixj⟩ := fm_get rxj hx
    have okj : FmOk fj := nok.1 fj (List.mem_of_getElem? hfj)
    have hj : j < xs.length := (List.getElem?_eq_some_iff.mp hx).1
    refine ⟨rfl, ?_⟩
    unfold tYes
    dsimp only
    rw [if_pos rfl]
    obtain ⟨dxj, hpj⟩ := id oj
    refine ⟨_, rfl, p, dxj, _, rfl, hpj, no_opened _ _ _, _, rfl, x, fj, true, 15, 2, 21, rfl, ixj, okj.1, by decide, fun v3 H3 s3 i3 => ?_⟩
    have io := inw_ok (p := true) okj.1
    refine ⟨p, v3, inw fj true, a, _, _, 15, 2, rfl, oj.to s3, i3, io.1, by omega, by decide, by omega, fun v4 H4 nv4 b4 o4 i4 => ?_⟩
    have hp3 := s3 _ _ hpj
    have t4 := b4.tups hp3 trivial
    have sj4 : Same H1 H4 := But.to_same (sj.trans s3) np b4
    have nl1 : l1 ≠ p := ne_of (s3 _ _ ej) hp3 (by intro z; cases z)
    have ea4 := b4 _ _ (s3 _ _ ea) nDp
    have ra4 := (ra.to s3).mono t4
    have la := ra.len
    rw [List.length_map, opnAll_len, List.length_take] at la
    have b5 : But DD H4 (upd H4 DD (.lst (acc ++ [v4]))) := But.upd _
    have t5 := b5.tups ea4 trivial
    have hD1 : H1 DD = none := s2.free hDD
    obtain ⟨dx4, hp4⟩ := id o4
    have nl1D : l1 ≠ DD := fun z => by rw [z] at ex; rw [hDD] at ex; cases ex
    refine ⟨acc, ea4, Nat.lt_of_le_of_lt (show acc.length ≤ 100 by have := nok.2; omega) (by decide), But.to_same sj4 hD1 b5, ?_, ?_, ⟨nv4, dx4, ?_⟩, acc ++ [v4], upd_same, ?_⟩
    · exact ((lj.to s3).but b4 t4 nl1).but b5 t5 nl1D
    · exact b5 _ _ (b4 _ _ (s3 _ _ ej) nl1) nl1D
    · rw [take_snoc hfj, skA_snoc]
      exact b5 _ _ hp4 nDp.symm
    · rw [take_snoc hfj, opnAll_snoc, List.map_append]
      exact (ra4.snoc i4).mono t5
  rintro H3 ⟨s3, l3, e3, ⟨nv3, o3⟩, lD⟩
  rw [List.take_of_length_le (by omega)] at o3 lD
  have hD1 : H1 DD = none := s2.free hDD
  have tok : ∀ t ∈ opnAll a fs 0, TreeOk t := opnAll_ok fun k hk => nok.1 k hk
  have tlen : (opnAll a fs 0).length ≤ 100 := by rw [opnAll_len]; exact nok.2
  generalize hts : opnAll a fs 0 = ts at *
  refine ⟨_, rfl, _, rfl, ?_⟩
  intro p4 dx4 np4 ndx4 nne4
  have s40 : Same H3 (upd (upd H3 dx4 (.own p4)) p4 (.ins CS dx4 [])) := (same_new ndx4 _).trans (same_new (by rw [upd_ne nne4.symm]; exact np4) _)
  refine ⟨p4, dx4, a, cn, rfl, upd_same, fun H4 o4 b4 => ⟨rfl, ?_⟩⟩
  have s4 : Same H3 H4 := But.to_same s40 np4 b4
  have lD4 := lD.to s4
  refine ⟨Nat.zero_le _, fun cl hcl => ?_⟩
  have s5 := same_new hcl (.lst [])
  have ncp : cl ≠ p4 := fun z => by
    obtain ⟨d', h'⟩ := o4
    rw [z, h'] at hcl
    cases hcl
  obtain ⟨zs, ez, rz⟩ := id (lD4.to s5)
  have lz : zs.length = ts.length := by rw [rz.len, List.length_map]
  have nDc : DD ≠ cl := fun z => by
    obtain ⟨zs', ez', _⟩ := lD4
    rw [z, hcl] at ez'
    cases ez'
  have np41 : H1 p4 = none := s3.free np4
  have hcl1 : H1 cl = none := (s3.trans s4).free hcl
  have hcl3 : H3 cl = none := s4.free hcl
  refine ⟨_, rfl, DD, rfl, ⟨zs, SqL.of ez⟩, for_list (K := K) (a := DD) (xs := zs) (fun j σ' H' => ∃ u8 u9 u10 u11, σ' = [some (.int a), some v, some (.ref l1), some (.int cn), some (.ref p), some (.ref DD), some (.ref p4), some (.ref cl), u8, u9, u10, u11] ∧ Same H1 H' ∧ H' DD = some (.lst zs) ∧ ImA K H' zs (ts.map Tr.d) ∧ SpAt CS H' p4 a (cA a (ts.take j) cn) ∧ LC K H' cl (sprAll a (ts.take j) cn))
    ⟨none, none, none, none, rfl, (s3.trans s4).trans s5, ez, rz, o4.to s5, [], upd_same, .nil⟩ (fun j σ' H' _ ⟨_, _, _, _, _, _, e, _⟩ => SqL.of e) ?_ ?_⟩
  · rintro j x σ' H' hx ⟨u8, u9, u10, u11, rfl, sj, ej, rj, oj, lj⟩
    obtain ⟨tj, htj, ixj⟩ := tr_get rj hx
    have okj := tok tj (List.mem_of_getElem? htj)
    have hj : j < zs.length := (List.getElem?_eq_some_iff.mp hx).1
    obtain ⟨dxj, hpj⟩ := id oj
    refine ⟨_, rfl, p4, dxj, _, rfl, hpj, no_spread _ _, _, rfl, p4, x, tj, a, _, MM, 2, rfl, oj, ixj, okj.ok, fun r6 l6 k6 H6 b6 o6 t6 e6 f6 => ?_⟩
    refine ⟨r6, _, rfl, t6.sq, rfl, _, _, rfl, _, _, rfl, rfl, ?_⟩
    have tp6 := b6.tups hpj trivial
    have nDp4 : DD ≠ p4 := ne_of ej hpj (by intro z; cases z)
    have ncp4 : cl ≠ p4 := lj.ne hpj
    have sj6 : Same H1 H6 := But.to_same sj np41 b6
    have ej6 := b6 _ _ ej nDp4
    have rj6 := rj.mono tp6
    have lj6 := lj.but b6 tp6 ncp4
    have ck := cls1_ok (a := a) (c := cA a (ts.take j) cn) okj
    refine ⟨_, rfl, _, rfl, ?_⟩
    refine cat_lsN e6 f6 ?_ fun z7 H7 hz7 s7 e7 => ?_
    · have := ck.2
      unfold cls1 at this
      rw [List.length_append] at this
      rw [List.length_map, List.length_map]
      omega
    have e7' : LC K H7 z7 (cls1 a tj (cA a (ts.take j) cn)) := by
      show Ls K H7 z7 _
      unfold cls1
      rw [List.map_append]
      exact e7
    have sl := sprAll_len (a := a) (l := ts.take j) (c := cn) fun t ht => tok t (List.mem_of_mem_take ht)
    rw [List.length_take] at sl
    rw [take_snoc htj, sprAll_snoc, cA_snoc]
    generalize hcs : cls1 a tj (cA a (ts.take j) cn) = cs at *
    generalize hpre : sprAll a (ts.take j) cn = pre at *
    obtain ⟨ys, ey, ry⟩ := id e7'
    have ly : ys.length = cs.length := by rw [ry.len, List.length_map]
    have lj7 := lj6.to s7
    have nzc : z7 ≠ cl := fun z => by
      obtain ⟨w1, e1', _⟩ := lj6
      rw [z, e1'] at hz7
      cases hz7
    have ej7 := s7 _ _ ej6
    have rj7 := rj6.to s7
    have sj7 := sj6.trans s7
    have o7 := o6.to s7
    refine ⟨z7, rfl, ⟨ys, SqL.of ey⟩, for_list (K := K) (a := z7) (xs := ys) (fun i σ' H' => ∃ u11, σ' = [some (.int a), some v, some (.ref l1), some (.int cn), some (.ref p), some (.ref DD), some (.ref p4), some (.ref cl), some x, some (.ref l6), some (.ref k6), u11] ∧ But cl H7 H' ∧ LC K H' cl (pre ++ (cs.take i).map neat))
      ⟨_, rfl, But.refl cl H7, by rw [List.take_zero, List.map_nil, List.append_nil]; exact lj7⟩ (fun i σ' H' _ ⟨_, _, b, _⟩ => SqL.of (b _ _ ey nzc)) ?_ ?_⟩
    · rintro i y σ' H' hy ⟨u11', rfl, bi, li⟩
      obtain ⟨ci, hci, ici⟩ := ls_get ry hy
      have okc := ck.1 ci (List.mem_of_getElem? hci)
      have hi : i < ys.length := (List.getElem?_eq_some_iff.mp hy).1
      obtain ⟨ws0, ew0, rw0⟩ := lj7
      have tpi := bi.tups ew0 trivial
      obtain ⟨ws, ew, rw1⟩ := li
      have lw := rw1.len
      rw [List.length_map, List.length_append, List.length_map, List.length_take] at lw
      have lsm : ws.length < sizeLine := Nat.lt_of_le_of_lt (show ws.length ≤ 1010000 by have := ck.2; omega) (by decide)
      refine ⟨_, rfl, .inl ⟨rfl, _, SqL.of ew⟩, _, rfl, y, ci, MM, 3, rfl, ici.mono tpi, okc.1, by decide, fun v8 H8 s8 i8 => ?_⟩
      refine ⟨v8, wr ci, MM, 3, rfl, i8, wr_ok okc.1, by decide, by decide, by decide, fun p9 x9 y9 H9 s9 t9 i9 => ?_⟩
      have ew9 := s9 _ _ (s8 _ _ ew)
      refine ⟨p9, _, 0, _, rfl, rfl, t9.sq, rfl, cl, ws, x9, rfl, rfl, ew9, lsm, ?_⟩
      have b10 : But cl H9 (upd H9 cl (.lst (ws ++ [x9]))) := But.upd _
      have t10 := b10.tups ew9 trivial
      refine ⟨_, rfl, (bi.trans ((But.of s8).trans (But.of s9))).trans b10, ws ++ [x9], upd_same, ?_⟩
      have eg : pre ++ (cs.take (i + 1)).map neat = (pre ++ (cs.take i).map neat) ++ [ren (wr ci)] := by
        rw [take_snoc hci, List.map_append, ← List.append_assoc]
        rfl
      rw [eg, List.map_append]
      exact (((rw1.to s8).to s9).snoc i9).mono t10
    · rintro σ' H' ⟨u11', rfl, bi, li⟩
      rw [List.take_of_length_le (by omega)] at li
      obtain ⟨ws0, ew0, rw0⟩ := lj7
      have tpi := bi.tups ew0 trivial
      obtain ⟨dx7, hp7⟩ := o7
      exact ⟨_, _, _, _, rfl, But.to_same sj7 hcl1 bi, bi _ _ ej7 nDc, rj7.mono tpi, ⟨dx7, bi _ _ hp7 ncp4.symm⟩, li⟩
  · rintro σ' H' ⟨u8, u9, u10, u11, rfl, sj, ej, rj, oj, lj⟩
    rw [List.take_of_length_le (by omega)] at lj
    exact ⟨_, rfl, q cl H' (s1.trans sj) lj⟩
end
end K3

/-! _law_due, law. -/
namespace K3
open PySem PySem.Spec PyProof.Rows L2
section
variable {P : Program} {w : World} {K : PySem.W.Frag} {mg : Str → Option Value} {base : Heap}
theorem ok_law_due (T : Txt w K mg) (D : Def K mg "_law_due" s_law_due p_law_due) (c_named : Cal P w K mg base 22 "named" p_named (spNamed K 6)) (c_law_open : Cal P w K mg base 49 "_law_open" p_law_open (spLOpen K 5 43))
    (c_inward : Cal P w K mg base 44 "inward" p_inward (spInw K 22)) (c_law_spread : Cal P w K mg base 92 "_law_spread" p_law_spread (spLSpr K 5 43)) (c_law_neat : Cal P w K mg base 8 "_law_neat" p_law_neat (spNeat K 5)) :
    Cal P w K mg base 96 "_law_due" p_law_due (spClauses K) := by
  refine D.ok sc_law_due (N := n_law_due) (fun vs H Q E h => ?_) (fun f cdv A outer s H vs Q E hr h => ?_)
  · obtain ⟨v, f, a, rfl, _⟩ := h
    rfl
  obtain ⟨v, g, a, rfl, hv, hok, q⟩ := h
  refine ⟨_, (pss_cons (ps_set (i := 2) sc_law_due.nd rfl (Or.inl rfl) (pc c_named (hr.mono (by omega)) rfl (pa_cons (pv 0) (pa_cons (pv 1) pa_nil))))
      (pss_cons (ps_set (i := 3) sc_law_due.nd rfl (Or.inl rfl) pe_int)
      (pss_cons (ps_set (i := 4) sc_law_due.nd rfl (Or.inl rfl) (pe_ix (ixT (K := K) rfl) (pv 2) pe_int (fun _ _ => rfl)))
      (pss_cons (ps_set (i := 5) sc_law_due.nd rfl (Or.inl rfl) (pe_lst pa_nil))
      (pss_cons (ps_set (i := 6) sc_law_due.nd rfl (Or.inl rfl) (pe_lst pa_nil))
      (pss_cons (ps_for PassesOwn.never rfl (pi_list (pe_ix (ixT (K := K) rfl) (pv 2) pe_int (fun _ _ => rfl))) (pg_name (i := 7) sc_law_due.nd rfl (Or.inl rfl)) (pss_cons (ps_set (i := 8) sc_law_due.nd rfl (Or.inl rfl) (pc c_law_open (hr.mono (by omega)) rfl (pa_cons (pc c_inward (hr.mono (by omega)) rfl (pa_cons (pv 7) (pa_cons pe_bl pa_nil))) (pa_cons (pv 0) (pa_cons (pe_tup pa_nil) (pa_cons (pe_lst pa_nil) (pa_cons (pe_lst (pa_cons pe_int (pa_cons (pv 3) pa_nil))) pa_nil)))))))
      (pss_cons (ps_set (i := 3) sc_law_due.nd rfl (Or.inl rfl) (pe_ix (ixL (K := K) rfl) (pe_ix (ixL (K := K) rfl) (pv 8) pe_int (fun _ _ => rfl)) pe_int (fun _ _ => rfl)))
      (pss_one (ps_expr (pe_bm PySem.F.plainAttrs_list PySem.F.slot_list_append PySem.F.type_list_append mt_append (pv 6) (pa_cons (pe_ix (ixL (K := K) rfl) (pv 8) pe_int (fun _ _ => rfl)) pa_nil)))))))
      (pss_cons (ps_for PassesOwn.never rfl (pi_list (pv 6)) (pg_name (i := 9) sc_law_due.nd rfl (Or.inl rfl)) (pss_cons (ps_set (i := 10) sc_law_due.nd rfl (Or.inl rfl) (pc c_law_spread (hr.mono (by omega)) rfl (pa_cons (pv 9) (pa_cons (pv 0) (pa_cons (pv 4) pa_nil)))))
      (pss_cons (ps_set (i := 4) sc_law_due.nd rfl (Or.inl rfl) (pe_ix (ixL (K := K) rfl) (pv 10) pe_int (fun _ _ => rfl)))
      (pss_one (ps_set (i := 5) sc_law_due.nd rfl (Or.inl rfl) (pe_op op_cat (pv 5) (pe_lc (own := [("_law_clause", 11)]) (g := gName 11) rfl sc_law_due.nd (pi_list (pe_op op_cat (pe_ix (ixL (K := K) rfl) (pv 10) pe_int (fun _ _ => rfl)) (pe_ix (ixL (K := K) rfl) (pv 10) pe_int (fun _ _ => rfl)))) (blkOk_by (own := [("_law_clause", 11)]) (N := n_law_due) (sc := defScope s_law_due) (by decide +kernel)) (fun _ _ _ _ _ => (pg_name (i := 11) sc_law_due.nd rfl (Or.inl rfl))) (fun _ _ _ _ _ => pts_nil) (fun _ _ _ _ _ => (pc c_law_neat (hr.mono (by omega)) rfl (pa_cons (pv 11) pa_nil))))))))))
      (pss_one (ps_ret (pv 5)))))))))), fun fit => ?_⟩
  have nok := named_ok (a := a) hok (Nat.le_refl _)
  refine ⟨_, rfl, _, rfl, v, g, a, 15, 1, 5, rfl, hv, hok, by decide, by decide, by decide, by decide, by decide, fun p1 l1 H1 s1 t1 e1 => ?_⟩
  have qd : clausesM a g = sprAll a (opnAll a (named a g).1 0) (named a g).2 := rfl
  rw [qd] at q
  generalize hfs : (named a g).1 = fs at *
  generalize hcn : (named a g).2 = cn at *
  refine ⟨_, rfl, p1, _, 1, _, rfl, rfl, t1.sq, rfl, ?_⟩
  refine ⟨Nat.zero_le _, fun cl hcl => ?_⟩
  have s2 := same_new hcl (.lst [])
  refine ⟨Nat.zero_le _, fun tl htl => ?_⟩
  have s3 := same_new htl (.lst [])
  have s13 := s2.trans s3
  have t3 := t1.mono (Tups.of s13)
  obtain ⟨xs, ex, rx⟩ := e1.to s13
  have lx : xs.length = fs.length := by rw [rx.len, List.length_map]
  have cl3 := s3 _ _ (upd_same (H := H1) (a := cl) (o := .lst []))
  have htl1 : H1 tl = none := s2.free htl
  refine ⟨_, rfl, p1, _, 0, _, rfl, rfl, t3.sq, rfl, l1, rfl, ⟨xs, SqL.of ex⟩, for_list (K := K) (a := l1) (xs := xs) (fun j σ' H' => ∃ u7 u8, σ' = [some (.int a), some v, some (.ref p1), some (.int (skA a (fs.take j) 0)), some (.int cn), some (.ref cl), some (.ref tl), u7, u8, none, none, none] ∧ Same H1 H' ∧ H' l1 = some (.lst xs) ∧ ImA K H' xs (fs.map Fm.d) ∧ H' cl = some (.lst []) ∧ Ls K H' tl ((opnAll a (fs.take j) 0).map Tr.d))
    ⟨none, none, rfl, s13, ex, rx, cl3, [], upd_same, .nil⟩ (fun j σ' H' _ ⟨_, _, _, _, e, _⟩ => SqL.of e) ?_ ?_⟩
  · rintro j x σ' H' hx ⟨u7, u8, rfl, sj, ej, rj, cj, acc, ea, ra⟩
    obtain ⟨fj, hfj, ixj⟩ := fm_get rj hx
    have okj : FmOk fj := nok.1 fj (List.mem_of_getElem? hfj)
    have hj : j < xs.length := (List.getElem?_eq_some_iff.mp hx).1
    have io := inw_ok (p := true) okj.1
    refine ⟨_, rfl, x, fj, true, 15, 2, 21, rfl, ixj, okj.1, by decide, fun v4 H4 s4 i4 => ?_⟩
    refine ⟨_, rfl, Nat.zero_le _, fun p5 hp5 => ?_⟩
    obtain ⟨s5, i5⟩ := nt0 (K := K) hp5
    refine ⟨Nat.zero_le _, fun p6 hp6 => ?_⟩
    have s6 := same_new hp6 (.lst [])
    refine ⟨_, rfl, z2, fun p7 hp7 => ?_⟩
    have s7 := same_new hp7 (.lst [.int 0, .int (skA a (fs.take j) 0)])
    have s47 := ((s4.trans s5).trans s6).trans s7
    have i5' : Im K _ (.ref p5) (arD []) := Eq.mpr (by unfold arD; rw [List.map_nil, tmsD]) ((i5.to s6).to s7)
    refine ⟨p6, p7, v4, .ref p5, inw fj true, [], [], a, _, 0, 15, 2, rfl, ((i4.to s5).to s6).to s7, i5', ⟨[], s7 _ _ upd_same, .nil⟩, upd_same, io.1, by omega, by decide, by simp only [List.length_nil]; omega, by simp only [List.length_nil]; omega, fun l8 m8 v8 H8 s8 e8 i8 em8 => ?_⟩
    have s48 := s47.trans s8
    refine ⟨_, rfl, l8, _, 1, _, rfl, rfl, SqL.of e8, rfl, m8, _, 1, _, rfl, rfl, SqL.of em8, rfl, ?_⟩
    have ea8 := s48 _ _ ea
    have la := ra.len
    rw [List.length_map, opnAll_len, List.length_take] at la
    refine ⟨_, rfl, .inl ⟨rfl, _, SqL.of ea8⟩, _, rfl, l8, _, 0, _, rfl, rfl, SqL.of e8, rfl, tl, acc, v8, rfl, rfl, ea8, Nat.lt_of_le_of_lt (show acc.length ≤ 100 by have := nok.2; omega) (by decide), ?_⟩
    have b9 : But tl H8 (upd H8 tl (.lst (acc ++ [v8]))) := But.upd _
    have t9 := b9.tups ea8 trivial
    have nl : l1 ≠ tl := fun z => by
      obtain ⟨w1, ew1, _⟩ := e1
      rw [z, htl1] at ew1
      cases ew1
    have nc : cl ≠ tl := fun z => by
      rw [← z, upd_same] at htl
      cases htl
    refine ⟨some x, some (.ref l8), ?_, But.to_same (sj.trans s48) htl1 b9, b9 _ _ (s48 _ _ ej) nl, (rj.to s48).mono t9, b9 _ _ (s48 _ _ cj) nc, acc ++ [v8], upd_same, ?_⟩
    · rw [take_snoc hfj, skA_snoc]
      rfl
    · rw [take_snoc hfj, opnAll_snoc, List.map_append]
      exact ((ra.to s48).snoc i8).mono t9
  rintro σ' H3 ⟨u7, u8, rfl, sj, ej, rj, cj, lj⟩
  rw [show fs.take xs.length = fs from List.take_of_length_le (by omega)] at lj ⊢
  have tok : ∀ t ∈ opnAll a fs 0, TreeOk t := opnAll_ok fun k hk => nok.1 k hk
  have tlen : (opnAll a fs 0).length ≤ 100 := by rw [opnAll_len]; exact nok.2
  generalize hts : opnAll a fs 0 = ts at *
  obtain ⟨zs, ez, rz⟩ := lj
  have lz : zs.length = ts.length := by rw [rz.len, List.length_map]
  refine ⟨_, rfl, tl, rfl, ⟨zs, SqL.of ez⟩, for_list (K := K) (a := tl) (xs := zs) (fun j σ' H' => ∃ (ca : Addr) (u9 u10 : Option V), σ' = [some (.int a), some v, some (.ref p1), some (.int (skA a fs 0)), some (.int (cA a (ts.take j) cn)), some (.ref ca), some (.ref tl), u7, u8, u9, u10, none] ∧ Same H3 H' ∧ LC K H' ca (sprAll a (ts.take j) cn))
    ⟨cl, none, none, rfl, Same.refl H3, [], cj, .nil⟩ (fun j σ' H' _ ⟨_, _, _, _, s, _⟩ => SqL.of (s _ _ ez)) ?_ ?_⟩
  · rintro j x σ' H' hx ⟨ca, u9, u10, rfl, sk, lk⟩
    obtain ⟨tj, htj, ixj⟩ := tr_get rz hx
    have okj := tok tj (List.mem_of_getElem? htj)
    have hj : j < zs.length := (List.getElem?_eq_some_iff.mp hx).1
    refine ⟨_, rfl, _, rfl, _, rfl, x, tj, a, _, MM, 2, rfl, ixj.to sk, okj.ok, fun r6 l6 k6 H6 s6 t6 e6 f6 => ?_⟩
    refine ⟨_, rfl, r6, _, 2, _, rfl, rfl, SqL.of t6, rfl, ?_⟩
    have ck := cls1_ok (a := a) (c := cA a (ts.take j) cn) okj
    refine ⟨_, rfl, ?_⟩
    refine ⟨_, rfl, r6, _, 0, _, rfl, rfl, SqL.of t6, rfl, _, rfl, r6, _, 1, _, rfl, rfl, SqL.of t6, rfl, ?_⟩
    refine cat_ls e6 f6 ?_ fun z7 H7 s7 e7 => ?_
    · have := ck.2
      unfold cls1 at this
      rw [List.length_append] at this
      rw [List.length_map, List.length_map]
      omega
    have e7' : LC K H7 z7 (cls1 a tj (cA a (ts.take j) cn)) := by
      show Ls K H7 z7 _
      unfold cls1
      rw [List.map_append]
      exact e7
    have sl := sprAll_len (a := a) (l := ts.take j) (c := cn) fun t ht => tok t (List.mem_of_mem_take ht)
    rw [List.length_take] at sl
    rw [take_snoc htj, sprAll_snoc, cA_snoc]
    generalize hcs : cls1 a tj (cA a (ts.take j) cn) = cs at *
    generalize hpre : sprAll a (ts.take j) cn = pre at *
    obtain ⟨ys, ey, ry⟩ := id e7'
    have ly : ys.length = cs.length := by rw [ry.len, List.length_map]
    refine ⟨z7, rfl, ⟨ys, SqL.of ey⟩, fun DD hDD => ?_⟩
    refine lc_mapL (K := K) (es := (cs.map neat).map clD) (SqL.of ey) (by rw [List.length_map, List.length_map]; exact ly.symm) (Nat.le_trans (show ys.length ≤ 10000 by have := ck.2; omega) (by decide)) hDD (fun i y e' H8 hy he s8 R kR => ⟨rfl, ?_⟩) fun H9 ns s9 en rn => ?_
    · obtain ⟨ci, hci, ici⟩ := ls_get ry hy
      have okc := ck.1 ci (List.mem_of_getElem? hci)
      rw [List.map_map, List.getElem?_map, hci] at he
      have ee : clD (neat ci) = e' := Option.some.inj he
      subst ee
      exact ⟨_, rfl, y, ci, MM, 3, rfl, ici.to s8, okc.1, by decide, by decide, by decide, by decide, by omega, kR⟩
    · have lc9 : Ls K H9 DD ((cs.map neat).map clD) := ⟨ns, en, rn⟩
      have lp9 : Ls K H9 ca (pre.map clD) := ((lk.to s6).to s7).to s9
      refine cat_ls lp9 lc9 ?_ fun z10 H10 s10 e10 => ?_
      · rw [List.length_map, List.length_map, List.length_map]
        have := ck.2
        have hm : min j ts.length ≤ 99 := by omega
        omega
      refine ⟨z10, _, _, rfl, (((sk.trans s6).trans s7).trans s9).trans s10, ?_⟩
      show Ls K H10 z10 _
      rw [List.map_append]
      exact e10
  · rintro σ' H' ⟨ca, u9, u10, rfl, sk, lk⟩
    rw [List.take_of_length_le (by omega)] at lk
    exact ⟨_, rfl, q ca H' ((s1.trans sj).trans sk) lk⟩
/-! ### what is compared at the end -/
theorem lit_lay (l : Lit) : l.d.canLay0 = true := by
  unfold Lit.d
  simp [PyData.canLay0, PyData.canLayAll0, Tm.lay]
theorem all_lay : ∀ {l : List PyData}, (∀ d ∈ l, d.canLay0 = true) → PyData.canLayAll0 l = true
  | [], _ => by simp [PyData.canLayAll0]
  | d :: r, h => by
    rw [PyData.canLayAll0, h d List.mem_cons_self, all_lay fun e he => h e (List.mem_cons_of_mem _ he)]
    rfl
theorem cl_lay (c : Cl) : (clD c).canLay0 = true := by
  unfold clD
  rw [PyData.canLay0]
  refine all_lay fun d hd => ?_
  obtain ⟨l, _, rfl⟩ := List.mem_map.mp hd
  exact lit_lay l
theorem cs_lay (cs : List Cl) : (PyData.list (cs.map clD)).canLay0 = true := by
  rw [PyData.canLay0]
  refine all_lay fun d hd => ?_
  obtain ⟨l, _, rfl⟩ := List.mem_map.mp hd
  exact cl_lay l
theorem lit_depth {N : Int} {l : Lit} (h : l.l.ok N 3 ∧ l.r.ok N 3) : l.d.depth ≤ 9 := by
  have h1 := Tm.depth h.1
  have h2 := Tm.depth h.2
  unfold Lit.d
  simp only [PyData.depth, PyData.depthAll]
  omega
theorem cl_depth {N : Int} {c : Cl} (h : ClOk N 3 c) : (clD c).depth ≤ 10 := by
  unfold clD
  have : PyData.depthAll (c.map Lit.d) ≤ 9 := depthAll_le fun d hd => by
    obtain ⟨l, hl, rfl⟩ := List.mem_map.mp hd
    exact lit_depth (h l hl)
  simp only [PyData.depth]
  omega
theorem cs_shaped {N : Int} {cs : List Cl} (h : ∀ c ∈ cs, ClOk N 3 c) : SeqAt.shaped (.list (cs.map clD)) = true := by
  unfold SeqAt.shaped
  rw [Bool.and_eq_true]
  refine ⟨cs_lay cs, decide_eq_true ?_⟩
  have : PyData.depthAll (cs.map clD) ≤ 10 := depthAll_le fun d hd => by
    obtain ⟨c, hc, rfl⟩ := List.mem_map.mp hd
    exact cl_depth (h c hc)
  simp only [PyData.depth]
  omega
theorem clausesM_ok {a : Int} {f : Fm} (h : Fm.ok 15 2 5 f) : ∀ c ∈ clausesM a f, ClOk MM 3 c := by
  have nok := named_ok (a := a) h (Nat.le_refl _)
  exact sprAll_ok (opnAll_ok fun k hk => nok.1 k hk)
/-- law -/
def spLaw (K : PySem.W.Frag) : Sp := fun vs H Q _ => ∃ a : Addr, vs = [.ref a] ∧ Scr K H a ∧ ∀ H', Q (.bl true) H'
theorem ok_law {fa : Addr} {fd : FuncData} (T : Txt w K mg) (F : Fun K "law" "law" s_law fa fd) (c_law_cell : Cal P w K mg base 1 "_law_cell" p_law_cell (spCell K)) (c_law_small_formula : Cal P w K mg base 9 "_law_small_formula" p_law_small_formula (spGS K)) (c_clauses_of : Cal P w K mg base 96 "clauses_of" p_clauses_of (spClauses K))
    (c_law_due : Cal P w K mg base 96 "_law_due" p_law_due (spClauses K)) : FnOk P w K mg base CX0 100 fa fd p_law (spLaw K) := by
  refine fun_ok F sc_law (N := n_law) (fun vs H Q E h => ?_) (fun f cdv A outer s H vs Q E hr h => ?_)
  · obtain ⟨a, rfl, _⟩ := h
    rfl
  obtain ⟨a, rfl, hS, q⟩ := h
  refine ⟨_, (pss_cons (ps_set (i := 1) sc_law.nd rfl (Or.inl rfl) (pe_op op_mod (pc c_law_cell (hr.mono (by omega)) rfl (pa_cons (pv 0) (pa_cons pe_int pa_nil))) pe_int))
      (C8.pss_cut (ps_if (pt_cmpR op_eq (pe_op op_mod (pc c_law_cell (hr.mono (by omega)) rfl (pa_cons (pv 0) (pa_cons pe_int pa_nil))) pe_int) pe_int (nomark _)) (pss_one (ps_set (i := 1) sc_law.nd rfl (Or.inl rfl) (pe_op op_mod (pc c_law_cell (hr.mono (by omega)) rfl (pa_cons (pv 0) (pa_cons pe_int pa_nil))) (pe_op op_pow pe_int pe_int)))) pss_nil)
      (pss_cons (ps_set (i := 2) sc_law.nd rfl (Or.inl rfl) (pc c_law_small_formula (hr.mono (by omega)) rfl (pa_cons (pv 0) (pa_cons pe_int (pa_cons (pe_op op_mod (pc c_law_cell (hr.mono (by omega)) rfl (pa_cons (pv 0) (pa_cons pe_int pa_nil))) pe_int) pa_nil)))))
      (C8.pss_cut (ps_if (pt_cmpR op_eq (pe_op op_mod (pc c_law_cell (hr.mono (by omega)) rfl (pa_cons (pv 0) (pa_cons pe_int pa_nil))) pe_int) pe_int (nomark _)) (pss_cons (ps_set (i := 3) sc_law.nd rfl (Or.inl rfl) (pe_lst (pa_cons pe_str (pa_cons pe_str (pa_cons pe_str (pa_cons pe_str pa_nil))))))
      (pss_cons (ps_set (i := 4) sc_law.nd rfl (Or.inl rfl) (pe_ix (ixL (K := K) rfl) (pv 3) (pe_op op_mod (pe_op op_fdiv (pc c_law_cell (hr.mono (by omega)) rfl (pa_cons (pv 0) (pa_cons pe_int pa_nil))) pe_int) pe_int) (fun _ _ => rfl)))
      (pss_cons (ps_set (i := 5) sc_law.nd rfl (Or.inl rfl) (pc c_law_small_formula (hr.mono (by omega)) rfl (pa_cons (pv 0) (pa_cons pe_int (pa_cons pe_int pa_nil)))))
      (pss_one (ps_set (i := 2) sc_law.nd rfl (Or.inl rfl) (pe_tup (pa_cons (pv 4) (pa_cons (pv 2) (pa_cons (pv 5) pa_nil))))))))) pss_nil)
      (pss_cons (ps_set (i := 6) sc_law.nd rfl (Or.inl rfl) (pc c_clauses_of (hr.mono (by omega)) rfl (pa_cons (pv 1) (pa_cons (pv 2) pa_nil))))
      (pss_one (ps_ret (pe_and (pe_callB call_isi rfl T.m_isinstance (by decide +kernel) (pa_cons (pv 6) (pa_cons (pe_bltn (v := .ty "list") (u := .type "list") rfl T.m_list (by decide +kernel) rfl) pa_nil))) (pe_one (pe_cmpR (op_eqD hr.units) (pv 6) (pc c_law_due (hr.mono (by omega)) rfl (pa_cons (pv 1) (pa_cons (pv 2) pa_nil))) (nomark _))))))))))), fun fit => ?_⟩
  refine ⟨_, rfl, a, 0, rfl, hS, Int.le_refl _, fun z0 h0 => ?_⟩
  refine ⟨_, _, rfl, rfl, (by show (0 : Int) < 7; decide), ?_⟩
  refine ⟨fun σ' H' => H' = H ∧ ∃ m : Int, σ' = [some (.ref a), some (.int m), none, none, none, none, none], ?_, ?_⟩
  · refine ⟨_, rfl, a, 1, rfl, hS, by decide, fun z1 h1 => ?_⟩
    refine ⟨_, _, rfl, rfl, (by show (0 : Int) < 4; decide), rfl, _, rfl, ?_⟩
    refine ite2 (fun c => ?_) (fun c => ⟨rfl, _, rfl⟩)
    exact ⟨_, rfl, a, 0, rfl, hS, by decide, fun z2 h2 => ⟨_, _, rfl, rfl, ⟨by decide, by decide, by decide⟩, _, _, rfl, rfl, (by show (0 : Int) < 10 ^ Int.toNat 9; decide), rfl, _, rfl⟩⟩
  rintro σ' H' ⟨rfl, m, rfl⟩
  refine ⟨_, rfl, _, rfl, a, 3, rfl, hS, by decide, fun z3' h3 => ?_⟩
  have d0 := Int.emod_nonneg z3' (show (5 : Int) ≠ 0 by decide)
  have d1 := Int.emod_lt_of_pos z3' (show (0 : Int) < 5 by decide)
  refine ⟨_, _, rfl, rfl, (by show (0 : Int) < 5; decide), a, 2, (z3' % 5).toNat, ?_, hS, by decide, by omega, fun x1 f1 H1 s1 i1 o1 => ?_⟩
  · show [V.ref a, V.int 2, V.int (z3' % 5)] = _
    rw [show (((z3' % 5).toNat : Nat) : Int) = z3' % 5 by omega]
  refine ⟨fun σ' H2 => ∃ (x : V) (u3 u4 u5 : Option V) (g : Fm), σ' = [some (.ref a), some (.int m), some x, u3, u4, u5, none] ∧ Same H' H2 ∧ Im K H2 x g.d ∧ Fm.ok 15 2 5 g, ?_, ?_⟩
  · refine ⟨_, rfl, a, 4, rfl, hS.to s1, by decide, fun z4 h4 => ?_⟩
    refine ⟨_, _, rfl, rfl, (by show (0 : Int) < 3; decide), rfl, _, rfl, ?_⟩
    refine ite2 (fun c => ?_) (fun c => ⟨x1, none, none, none, f1, rfl, s1, i1, Fm.ok_mono (by decide) o1⟩)
    refine ⟨(by show 4 ≤ sizeLine; decide), fun pt hpt => ?_⟩
    have s2 := same_new hpt (.lst [.str "or", .str "and", .str "iff", .str "implies"])
    have s12 := s1.trans s2
    refine ⟨_, rfl, _, rfl, a, 4, rfl, hS.to s12, by decide, fun z5 h5 => ?_⟩
    have e0 := Int.emod_nonneg (z5 / 3) (show (4 : Int) ≠ 0 by decide)
    have e1 := Int.emod_lt_of_pos (z5 / 3) (show (0 : Int) < 4 by decide)
    have ix : ∃ o : Op, ([.str "or", .str "and", .str "iff", .str "implies"] : List V)[(z5 / 3 % 4).toNat]? = some (.str o.tag) := by
      have hk : (z5 / 3 % 4).toNat = 0 ∨ (z5 / 3 % 4).toNat = 1 ∨ (z5 / 3 % 4).toNat = 2 ∨ (z5 / 3 % 4).toNat = 3 := by omega
      rcases hk with h | h | h | h
      · rw [h]; exact ⟨.or, rfl⟩
      · rw [h]; exact ⟨.and, rfl⟩
      · rw [h]; exact ⟨.iff, rfl⟩
      · rw [h]; exact ⟨.implies, rfl⟩
    obtain ⟨o, ho⟩ := ix
    refine ⟨_, _, rfl, rfl, ⟨by decide, by decide⟩, _, _, rfl, rfl, (by show (0 : Int) < 4; decide), pt, _, _, _, rfl, rfl, SqL.of upd_same, at_of (j := (z5 / 3 % 4).toNat) (by omega) ho, ?_⟩
    refine ⟨_, rfl, a, 5, 3, rfl, hS.to s12, by decide, by decide, fun x2 f2 H3 s3 i2 o2 => ?_⟩
    refine ⟨_, rfl, _, rfl, _, rfl, z3, fun p4 hp4 => ?_⟩
    obtain ⟨s4, i4⟩ := nt3 hp4 (.str o.tag) ((i1.to s2).to s3) i2
    exact ⟨_, _, _, _, .bin o f1 f2, rfl, (s12.trans s3).trans s4, i4, o1, o2⟩
  rintro σ' H2 ⟨x, u3, u4, u5, g, rfl, s2, ig, og⟩
  have cok := clausesM_ok (a := m) og
  refine ⟨_, rfl, _, rfl, x, g, m, rfl, ig, og, fun l3 H3 s3 e3 => ?_⟩
  obtain ⟨ws, ew, rw3⟩ := id e3
  refine ⟨_, rfl, .ref l3, .ty "list", .type "list", _, true, rfl, .ty _, .base (.lst ew), kit_ty (by show kitB "list" "list" = some true; decide +kernel), _, rfl, ?_⟩
  refine iteT ?_
  refine ⟨_, rfl, _, rfl, _, rfl, x, g, m, rfl, ig.to s3, og, fun l4 H4 s4 e4 => ?_⟩
  obtain ⟨ws4, ew4, rw4⟩ := e4
  have sh := cs_shaped cok
  refine ⟨.list ((clausesM m g).map clD), .list ((clausesM m g).map clD), .lst (SqL.of (s4 _ _ ew)) ((rw3.to s4).dp), .lst (SqL.of ew4) rw4.dp, sh, sh, ?_⟩
  rw [SeqAt.eqv_refl _ (cs_lay _)]
  exact q H4
end
end K3

/-! What the top has written, all promises joined, the law's own head. -/
namespace K3
open PySem PySem.Spec PyProof.Rows L2
section
variable {K : PySem.W.Frag} {mg : Str → Option Value} {h : Heap}
theorem def_mk {x : Str} {st : Stmt} {ps : List Str} {f : Addr} {oc : Value} {od an : Option Addr} {sl : Array (Option Value)} {kV dc pm cd ct : Value} (X : K.In h) (G : h.Ns mainGlobals mg)
    (a : PySem.W.nsIn K mainGlobals x = some (some (.ref f))) (l : K.lookup f = some ⟨oc, od, .func (PySem.W.fnOf x x (defArgs st) (defBody st) (defScope st) .none kV dc pm an cd ct), sl⟩) (c : PySem.W.codeIn K cd x = true) (k : PySem.W.keepIn K (.ref f) = true)
    (b : ∀ (kV doc pm : Value) (an : Option Addr) (cdv ct : Value) (us : List Value), us.length = ps.length → bindArgs (PySem.W.fnOf x x (defArgs st) (defBody st) (defScope st) .none kV doc pm an cdv ct) ⟨us, []⟩ = pure (ps.zip us)) : Def K mg x st ps := by
  have F := fun_mk (st := st) l c k
  exact ⟨f, _, F, F.binds b, PySem.W.mg_of X G a⟩
theorem mdef_mk {C : Addr} {m q : Str} {st : Stmt} {ps : List Str} {f : Addr} {oc : Value} {od an : Option Addr} {sl : Array (Option Value)} {kV dc pm cd ct : Value} (cl : Cls K C)
    (a : PySem.W.findIn K (.ref C) m = some (some (.ref f))) (i : PySem.W.isFn K (.ref f) = true) (l : K.lookup f = some ⟨oc, od, .func (PySem.W.fnOf m q (defArgs st) (defBody st) (defScope st) .none kV dc pm an cd ct), sl⟩) (c : PySem.W.codeIn K cd q = true) (k : PySem.W.keepIn K (.ref f) = true)
    (b : ∀ (kV doc pm : Value) (an : Option Addr) (cdv ct : Value) (us : List Value), us.length = ps.length → bindArgs (PySem.W.fnOf m q (defArgs st) (defBody st) (defScope st) .none kV doc pm an cdv ct) ⟨us, []⟩ = pure (ps.zip us)) : MDef K C m q st ps := by
  have F := fun_mk (st := st) l c k
  exact ⟨cl, f, _, F, F.binds b, a, i, k⟩
theorem kdef_mk {C : Addr} {x q : Str} {st : Stmt} {ps : List Str} {f : Addr} {oc : Value} {od an : Option Addr} {sl : Array (Option Value)} {kV dc pm cd ct : Value} (X : K.In h) (G : h.Ns mainGlobals mg)
    (z : PySem.W.nsIn K mainGlobals x = some (some (.ref C))) (mk : PySem.W.makesIn K C = true) (kc : PySem.W.keepIn K (.ref C) = true)
    (a : PySem.W.findIn K (.ref C) "__init__" = some (some (.ref f))) (i : PySem.W.isFn K (.ref f) = true) (l : K.lookup f = some ⟨oc, od, .func (PySem.W.fnOf "__init__" q (defArgs st) (defBody st) (defScope st) .none kV dc pm an cd ct), sl⟩) (c : PySem.W.codeIn K cd q = true) (k : PySem.W.keepIn K (.ref f) = true)
    (b : ∀ (kV doc pm : Value) (an : Option Addr) (cdv ct : Value) (us : List Value), us.length = ps.length → bindArgs (PySem.W.fnOf "__init__" q (defArgs st) (defBody st) (defScope st) .none kV doc pm an cdv ct) ⟨us, []⟩ = pure (ps.zip us)) : KDef K mg C x q st ps := by
  have F := fun_mk (st := st) l c k
  exact ⟨f, _, F, F.binds b, ⟨mk, a, i, kc⟩, PySem.W.mg_of X G z⟩
theorem cls_mk {C : Addr} (pg : PySem.W.plainGet K C Str.empty = true) (hd : PySem.W.hasDictIn K C = true) (po : PySem.W.plainOver K C = true) (sa : PySem.W.findIn K (.ref C) "__setattr__" = some (some (.builtin "object.__setattr__"))) : Cls K C := ⟨pg, hd, po, sa⟩
theorem tn_mk {C : Addr} (cl : Cls K C) (n0 : PySem.W.findIn K (.ref C) "number" = some none) (n1 : PySem.W.findIn K (.ref C) "count" = some none) (n2 : PySem.W.findIn K (.ref C) "extra" = some none) : TN K C := ⟨cl, n0, n1, n2⟩
theorem to_mk {C : Addr} (cl : Cls K C) (n0 : PySem.W.findIn K (.ref C) "number" = some none) (n1 : PySem.W.findIn K (.ref C) "skolems" = some none) (n2 : PySem.W.findIn K (.ref C) "next_variable" = some none) : TO K C := ⟨cl, n0, n1, n2⟩
theorem ts_mk {C : Addr} (cl : Cls K C) (n0 : PySem.W.findIn K (.ref C) "number" = some none) (n1 : PySem.W.findIn K (.ref C) "count" = some none) : TS2 K C := ⟨cl, n0, n1⟩
/-- TRUTH -/
theorem truth_mk {a b c : Addr} {o1 o2 o3 : Option Addr} {n1 n2 n3 : Nat} {s1 s2 s3 : Array (Option Value)} {t1 t2 t3 : Tok} (X : K.In h) (G : h.Ns mainGlobals mg) (z : PySem.W.nsIn K mainGlobals "TRUTH" = some (some (.ref a)))
    (l1 : K.lookup a = some ⟨.type "tuple", o1, .seq #[.ref b, .ref c] n1, s1⟩) (l2 : K.lookup b = some ⟨.type "tuple", o2, .seq #[.int 0 t1, .int 0 t2, .int 0 t3] n2, s2⟩) (l3 : K.lookup c = some ⟨.type "tuple", o3, .seq #[] n3, s3⟩) :
    ∃ a, mg "TRUTH" = some (.ref a) ∧ ∀ H, Im K H (.ref a) truth.d := by
  refine ⟨a, PySem.W.mg_of X G z, fun H => ?_⟩
  have e : truth.d = .tuple [symD (0, 0, 0), .tuple []] := by unfold truth; rw [Tm.d_app, tmsD]
  rw [e]
  refine .tup (xs := [.ref b, .ref c]) (.inr ⟨_, _, _, l1, rfl, rfl, by show 2 ≤ sizeLine; decide, .cons rfl (.cons rfl .nil)⟩) (.cons (.tup (xs := [.int 0, .int 0, .int 0]) (.inr ⟨_, _, _, l2, rfl, rfl, by show 3 ≤ sizeLine; decide, .cons ⟨_, rfl⟩ (.cons ⟨_, rfl⟩ (.cons ⟨_, rfl⟩ .nil))⟩) (.cons (.int 0) (.cons (.int 0) (.cons (.int 0) .nil)))) (.cons (.tup (xs := []) (.inr ⟨_, _, _, l3, rfl, rfl, by show 0 ≤ sizeLine; decide, .nil⟩) .nil) .nil))
/-- JOINTS -/
theorem joints_mk {a : Addr} {o1 : Option Addr} {n1 : Nat} {s1 : Array (Option Value)} {t1 t2 t3 t4 : Tok} (X : K.In h) (G : h.Ns mainGlobals mg) (z : PySem.W.nsIn K mainGlobals "JOINTS" = some (some (.ref a)))
    (l1 : K.lookup a = some ⟨.type "tuple", o1, .seq #[.str "and" t1, .str "or" t2, .str "implies" t3, .str "iff" t4] n1, s1⟩) : ∃ a, mg "JOINTS" = some (.ref a) ∧ ∀ H, TT K H a [.str "and", .str "or", .str "implies", .str "iff"] :=
  ⟨a, PySem.W.mg_of X G z, fun H => .inr ⟨_, _, _, l1, rfl, rfl, by show 4 ≤ sizeLine; decide, .cons ⟨_, rfl⟩ (.cons ⟨_, rfl⟩ (.cons ⟨_, rfl⟩ (.cons ⟨_, rfl⟩ .nil)))⟩⟩
/-- OPPOSITE -/
theorem opposite_mk {w : World} {a : Addr} {es : Array DictEntry} {n : Nat} {t1 t2 t3 t4 : Tok} (X : K.In h) (G : h.Ns mainGlobals mg) (z : PySem.W.nsIn K mainGlobals "OPPOSITE" = some (some (.ref a))) (l : K.lookup a = some ⟨.type "dict", none, .dict es n, #[]⟩) (hk : PySem.W.KeysLit w.params es.toList)
    (e1 : PySem.W.nsIn K a "and" = some (some (.str "or" t1))) (e2 : PySem.W.nsIn K a "or" = some (some (.str "and" t2))) (e3 : PySem.W.nsIn K a "all" = some (some (.str "some" t3))) (e4 : PySem.W.nsIn K a "some" = some (some (.str "all" t4))) :
    ∃ a, mg "OPPOSITE" = some (.ref a) ∧ KDct K w a "and" (.str "or") ∧ KDct K w a "or" (.str "and") ∧ KDct K w a "all" (.str "some") ∧ KDct K w a "some" (.str "all") :=
  ⟨a, PySem.W.mg_of X G z, ⟨es, n, _, l, hk, e1, _, rfl⟩, ⟨es, n, _, l, hk, e2, _, rfl⟩, ⟨es, n, _, l, hk, e3, _, rfl⟩, ⟨es, n, _, l, hk, e4, _, rfl⟩⟩
end
/-- every def of the top -/
structure Defs (K : PySem.W.Frag) (mg : Str → Option Value) (CN CO CS : Addr) : Prop where
  d_inward_iff : Def K mg "inward_iff" s_inward_iff p_inward_iff
  d_inward : Def K mg "inward" s_inward p_inward
  d_is_variable : Def K mg "is_variable" s_is_variable p_is_variable
  d_collect : Def K mg "collect" s_collect p_collect
  d_variables : Def K mg "variables" s_variables p_variables
  d_collect_free : Def K mg "collect_free" s_collect_free p_collect_free
  d_free_variables : Def K mg "free_variables" s_free_variables p_free_variables
  d_skolem : Def K mg "skolem" s_skolem p_skolem
  d_part_name : Def K mg "part_name" s_part_name p_part_name
  d_is_simple : Def K mg "is_simple" s_is_simple p_is_simple
  d_named : Def K mg "named" s_named p_named
  d_put : Def K mg "put" s_put p_put
  d_put_literal : Def K mg "put_literal" s_put_literal p_put_literal
  d_put_clause : Def K mg "put_clause" s_put_clause p_put_clause
  d_collect_variables : Def K mg "collect_variables" s_collect_variables p_collect_variables
  d_combined : Def K mg "combined" s_combined p_combined
  d_same_sides : Def K mg "same_sides" s_same_sides p_same_sides
  d_same : Def K mg "same" s_same p_same
  d_clause_variables : Def K mg "clause_variables" s_clause_variables p_clause_variables
  d_renumbered : Def K mg "renumbered" s_renumbered p_renumbered
  d_without_repeats : Def K mg "without_repeats" s_without_repeats p_without_repeats
  d_clauses_of : Def K mg "clauses_of" s_clauses_of p_clauses_of
  d_law_cell : Def K mg "_law_cell" s_law_cell p_law_cell
  d_law_formula_term : Def K mg "_law_formula_term" s_law_formula_term p_law_formula_term
  d_law_formula_atom : Def K mg "_law_formula_atom" s_law_formula_atom p_law_formula_atom
  d_law_formula : Def K mg "_law_formula" s_law_formula p_law_formula
  d_law_small_formula : Def K mg "_law_small_formula" s_law_small_formula p_law_small_formula
  d_law_is_variable : Def K mg "_law_is_variable" s_law_is_variable p_law_is_variable
  d_law_variables : Def K mg "_law_variables" s_law_variables p_law_variables
  d_law_clause_variables : Def K mg "_law_clause_variables" s_law_clause_variables p_law_clause_variables
  d_law_put : Def K mg "_law_put" s_law_put p_law_put
  d_law_put_clause : Def K mg "_law_put_clause" s_law_put_clause p_law_put_clause
  d_law_same : Def K mg "_law_same" s_law_same p_law_same
  d_law_renumbering : Def K mg "_law_renumbering" s_law_renumbering p_law_renumbering
  d_law_open : Def K mg "_law_open" s_law_open p_law_open
  d_law_tree_variables : Def K mg "_law_tree_variables" s_law_tree_variables p_law_tree_variables
  d_law_spread : Def K mg "_law_spread" s_law_spread p_law_spread
  d_law_neat : Def K mg "_law_neat" s_law_neat p_law_neat
  d_law_due : Def K mg "_law_due" s_law_due p_law_due
  m_Namer_short : MDef K CN "short" "Namer.short" s_Namer_short p_Namer_short
  m_Namer_traverse : MDef K CN "traverse" "Namer.traverse" s_Namer_traverse p_Namer_traverse
  m_Opener_literal : MDef K CO "literal" "Opener.literal" s_Opener_literal p_Opener_literal
  m_Opener_traverse : MDef K CO "traverse" "Opener.traverse" s_Opener_traverse p_Opener_traverse
  m_Opener_opened : MDef K CO "opened" "Opener.opened" s_Opener_opened p_Opener_opened
  m_Spreader_spread : MDef K CS "spread" "Spreader.spread" s_Spreader_spread p_Spreader_spread
  k_Namer : KDef K mg CN "Namer" "Namer.__init__" s_Namer___init__ p_Namer___init__
  k_Opener : KDef K mg CO "Opener" "Opener.__init__" s_Opener___init__ p_Opener___init__
  k_Spreader : KDef K mg CS "Spreader" "Spreader.__init__" s_Spreader___init__ p_Spreader___init__
section
variable {P : Program} {w : World} {K : PySem.W.Frag} {mg : Str → Option Value} {base : Heap}
/-- law keeps its promise -/
theorem law_ok {CN CO CS fa : Addr} {fd : FuncData} (T : Txt w K mg) (TNm : TN K CN) (TOp : TO K CO) (TSp : TS2 K CS) (D : Defs K mg CN CO CS) (F : Fun K "law" "law" s_law fa fd) : FnOk P w K mg base CX0 100 fa fd p_law (spLaw K) := by
  have isv : Cal P w K mg base 1 "is_variable" p_is_variable (spIsVar K) := ok_is_variable T D.d_is_variable
  have lisv : Cal P w K mg base 1 "_law_is_variable" p_law_is_variable (spIsVar K) := ok_law_is_variable T D.d_law_is_variable
  have put5 : Cal P w K mg base 6 "put" p_put (spPut K 5) := ok_put T D.d_put isv 5
  have putL5 : Cal P w K mg base 7 "put_literal" p_put_literal (spPutL K 5) := ok_put_literal D.d_put_literal put5
  have putC5 : Cal P w K mg base 8 "put_clause" p_put_clause (spPutC K 5) := ok_put_clause T D.d_put_clause putL5
  have lput5 : Cal P w K mg base 6 "_law_put" p_law_put (spLPut K 5) := ok_law_put T D.d_law_put lisv 5
  have lputC5 : Cal P w K mg base 7 "_law_put_clause" p_law_put_clause (spLPutC K 5) := ok_law_put_clause T D.d_law_put_clause lput5
  have col5 : Cal P w K mg base 6 "collect" p_collect (spCol K 5) := ok_collect T D.d_collect isv 5
  have var5 : Cal P w K mg base 7 "variables" p_variables (spVars K 5) := ok_variables D.d_variables col5
  have lvar5 : Cal P w K mg base 6 "_law_variables" p_law_variables (spLVars K 5) := ok_law_variables T D.d_law_variables lisv 5
  have cv5 : Cal P w K mg base 7 "clause_variables" p_clause_variables (spCV K 5) := ok_clause_variables D.d_clause_variables col5
  have lcv5 : Cal P w K mg base 7 "_law_clause_variables" p_law_clause_variables (spCV K 5) := ok_law_clause_variables D.d_law_clause_variables lvar5
  have sides : Cal P w K mg base 1 "same_sides" p_same_sides (spSides K) := ok_same_sides D.d_same_sides
  have same : Cal P w K mg base 2 "same" p_same (spSame K) := ok_same D.d_same sides
  have lsame : Cal P w K mg base 1 "_law_same" p_law_same (spSame K) := ok_law_same D.d_law_same
  have ren5 : Cal P w K mg base 9 "renumbered" p_renumbered (spRen K 5) := ok_renumbered T D.d_renumbered cv5 putC5
  have wrp : Cal P w K mg base 3 "without_repeats" p_without_repeats (spWr K) := ok_without_repeats T D.d_without_repeats same
  have lren : Cal P w K mg base 1 "_law_renumbering" p_law_renumbering (spLRen K) := ok_law_renumbering T D.d_law_renumbering
  have lneat : Cal P w K mg base 8 "_law_neat" p_law_neat (spNeat K 5) := ok_law_neat T D.d_law_neat lsame lren lcv5 lputC5
  have inw22 : Cal P w K mg base 44 "inward" p_inward (spInw K 22) := ok_inward T D.d_inward D.d_inward_iff 22
  have simp1 : Cal P w K mg base 1 "is_simple" p_is_simple (spSimple K) := ok_is_simple D.d_is_simple
  have cf6 : Cal P w K mg base 13 "collect_free" p_collect_free (spCF K 5 6) := ok_collect_free T D.d_collect_free var5 6
  have fv6 : Cal P w K mg base 14 "free_variables" p_free_variables (spFV K 5 6) := ok_free_variables (m := 5) (n := 6) D.d_free_variables cf6
  have part1 : Cal P w K mg base 1 "part_name" p_part_name (spSym K 4) := ok_part_name D.d_part_name
  have skol1 : Cal P w K mg base 1 "skolem" p_skolem (spSym K 3) := ok_skolem D.d_skolem
  have kN : KCal P w K mg base CN 1 "Namer" p_Namer___init__ (spNInit CN) := ok_Namer_init TNm D.k_Namer
  have short6 : MCal P w K mg base CN 15 "short" p_Namer_short (spShort K CN 5 6) := ok_Namer_short (m := 5) (n := 6) T TNm D.m_Namer_short simp1 part1 fv6
  have ntrav6 : MCal P w K mg base CN 21 "traverse" p_Namer_traverse (spTrav K CN 5 6) := ok_Namer_traverse (m := 5) (b := 6) D.m_Namer_traverse short6 6 (Nat.le_refl 6)
  have named6 : Cal P w K mg base 22 "named" p_named (spNamed K 6) := ok_named (k := 19) TNm D.d_named kN ntrav6
  have kO : KCal P w K mg base CO 1 "Opener" p_Opener___init__ (spOInit CO) := ok_Opener_init TOp D.k_Opener
  have olit : MCal P w K mg base CO 7 "literal" p_Opener_literal (spOLit K 5) := ok_Opener_literal T D.m_Opener_literal put5
  have otrav : MCal P w K mg base CO 50 "traverse" p_Opener_traverse (spOTrav K CO 5 43) := ok_Opener_traverse (m := 5) T TOp D.m_Opener_traverse olit skol1 43
  have oopened : MCal P w K mg base CO 51 "opened" p_Opener_opened (spOpened K CO 5 43) := ok_Opener_opened (m := 5) (n := 43) TOp D.m_Opener_opened otrav
  have ctv : Cal P w K mg base 49 "collect_variables" p_collect_variables (spCTV K 5 43) := ok_collect_variables (m := 5) D.d_collect_variables col5 43
  have ltv : Cal P w K mg base 49 "_law_tree_variables" p_law_tree_variables (spLTV K 5 43) := ok_law_tree_variables (m := 5) D.d_law_tree_variables lvar5 43
  have comb : Cal P w K mg base 1 "combined" p_combined (spComb K) := ok_combined T D.d_combined
  have kS : KCal P w K mg base CS 1 "Spreader" p_Spreader___init__ (spSInit CS) := ok_Spreader_init TSp D.k_Spreader
  have sspread : MCal P w K mg base CS 92 "spread" p_Spreader_spread (spSpr K CS 5 43) := ok_Spreader_spread (m := 5) (b := 43) T TSp D.m_Spreader_spread ctv comb part1 43 (Nat.le_refl 43)
  have lopen : Cal P w K mg base 49 "_law_open" p_law_open (spLOpen K 5 43) := ok_law_open (m := 5) T D.d_law_open lput5 43
  have lspread : Cal P w K mg base 92 "_law_spread" p_law_spread (spLSpr K 5 43) := ok_law_spread (m := 5) (b := 43) T D.d_law_spread ltv 43 (Nat.le_refl 43)
  have cell : Cal P w K mg base 1 "_law_cell" p_law_cell (spCell K) := ok_law_cell T D.d_law_cell
  have gt2 : Cal P w K mg base 2 "_law_formula_term" p_law_formula_term (spGT K 2) := ok_law_formula_term T D.d_law_formula_term 2
  have ga : Cal P w K mg base 3 "_law_formula_atom" p_law_formula_atom (spGA K) := ok_law_formula_atom T D.d_law_formula_atom gt2
  have gf : Cal P w K mg base 8 "_law_formula" p_law_formula (spGF K 5) := ok_law_formula T D.d_law_formula ga 5
  have gs : Cal P w K mg base 9 "_law_small_formula" p_law_small_formula (spGS K) := ok_law_small_formula D.d_law_small_formula cell gf
  have cof : Cal P w K mg base 96 "clauses_of" p_clauses_of (spClauses K) := ok_clauses_of TOp TSp D.d_clauses_of named6 kO oopened inw22 kS sspread ren5 wrp
  have due : Cal P w K mg base 96 "_law_due" p_law_due (spClauses K) := ok_law_due T D.d_law_due named6 lopen inw22 lspread lneat
  exact ok_law T F cell gs cof due
end
theorem all_mk {l : PySem.W.OpenLaw} {w : World} {K : PySem.W.Frag} {h : Heap} {mg : Str → Option Value} {fa f CN CO CS : Addr} (X : K.In h) (G : h.Ns mainGlobals mg) (hfa : mg "law" = some (.ref fa))
    {oc : Value} {od an : Option Addr} {sl : Array (Option Value)} {kV dc pm cd ct : Value}
    (a1 : PySem.W.nsIn K mainGlobals "law" = some (some (.ref f))) (l1 : K.lookup f = some ⟨oc, od, .func (PySem.W.fnOf "law" "law" (defArgs s_law) (defBody s_law) (defScope s_law) .none kV dc pm an cd ct), sl⟩) (c1 : PySem.W.codeIn K cd "law" = true) (k1 : PySem.W.keepIn K (.ref f) = true)
    (T : Txt w K mg) (TNm : TN K CN) (TOp : TO K CO) (TSp : TS2 K CS) (D : Defs K mg CN CO CS) :
    ∃ fd : FuncData, (∀ (s : Shared) (v : Value), BindsTo s fd ⟨[v], []⟩ [("_law_script", v)]) ∧ ∀ base : Heap, K.In base → base.Ns mainGlobals mg → FnOk l.prog w K mg base CX0 100 fa fd ["_law_script"] (spLaw K) := by
  have e := hfa.symm.trans (PySem.W.mg_of X G a1)
  cases e
  exact ⟨PySem.W.fnOf "law" "law" (defArgs s_law) (defBody s_law) (defScope s_law) .none kV dc pm an cd ct, fun s v => .of_eq rfl, fun base _ _ => law_ok T TNm TOp TSp D (fun_mk (st := s_law) l1 c1 k1)⟩
theorem walk {l : PySem.W.OpenLaw} {q : Program} {loose : List Str} {XP : (Str → Option Value) → Heap → Prop} {YP : World → Heap → Prop} {d : DefRec} {K : Params → PySem.W.Frag} (hn : l.most = some 63) (hdf : d.params.defaults = [])
    (hY : ∀ (w : World) (h : Heap), YP w h → (K w.params).In h)
    (F : ∀ (w : World) (mg : Str → Option Value) (fa : Addr) (h : Heap), (K w.params).In h → h.Ns mainGlobals mg → mg d.name = some (.ref fa) →
      ∃ fd : FuncData, (∀ (s : Shared) (u : Value), BindsTo s fd ⟨[u], []⟩ [("_law_script", u)]) ∧ ∀ base : Heap, (K w.params).In base → base.Ns mainGlobals mg → FnOk l.prog w (K w.params) mg base CX0 100 fa fd ["_law_script"] (spLaw (K w.params))) :
    PySem.W.WalkO q loose XP YP l.row.toRowW d [] (fun f vs => PySem.call f vs) :=
  L2.walk_of (n := 63) (k := 100) (x := "_law_script") (CX := fun _ => CX0) (sp := fun w => spLaw (K w.params)) hn (by decide) hdf ⟨rfl, by decide, by decide⟩ hY F (fun _ _ a ns hl _ hS => ⟨a, rfl, ⟨ns, hS, hl⟩, fun _ => rfl⟩) fun _ _ _ _ _ z => z
end K3

open PySem PySem.W PyProof.Rows
set_option maxRecDepth 100000 in
set_option maxHeartbeats 0 in
theorem PySem.Challenge.cw_lastproof_k34_whole_clauses_follow_the_d_holds : PySem.Challenge.rw_lastproof_k34_whole_clauses_follow_the_d.Holds := by
  w_on; o_law; k_head; (case hw => w_witness2)
  k_fill
  refine K3.walk (l := PySem.Challenge.rw_lastproof_k34_whole_clauses_follow_the_d) rfl rfl (fun w h Y => PySem.W.kIn_of Y) ?F
  case F =>
    intro w mg fa h KX G hmg
    refine' K3.all_mk KX G hmg ?a1 ?l1 ?c1 ?k1 ?T ?TN ?TO ?TS ?D
    (case a1 => k_is)
    (case l1 => k_is)
    (case c1 => k_is)
    (case k1 => k_is)
    case D =>
      refine' ⟨?f0, ?f1, ?f2, ?f3, ?f4, ?f5, ?f6, ?f7, ?f8, ?f9, ?f10, ?f11, ?f12, ?f13, ?f14, ?f15, ?f16, ?f17, ?f18, ?f19, ?f20, ?f21, ?f22, ?f23, ?f24, ?f25, ?f26, ?f27, ?f28, ?f29, ?f30, ?f31, ?f32, ?f33, ?f34, ?f35, ?f36, ?f37, ?f38, ?m0, ?m1, ?m2, ?m3, ?m4, ?m5, ?k0, ?k1, ?k2⟩
      case k0 =>
        refine' K3.kdef_mk KX G ?z ?mk ?kc ?a ?i ?l ?c ?k (fun _ _ _ _ _ _ us hl => match us, hl with | [_, _], _ => rfl)
        (case z => k_is)
        (case mk => k_is)
        (case kc => k_is)
        (case a => k_is)
        (case i => k_is)
        (case l => k_is)
        (case c => k_is)
        (case k => k_is)
      case k1 =>
        refine' K3.kdef_mk KX G ?z ?mk ?kc ?a ?i ?l ?c ?k (fun _ _ _ _ _ _ us hl => match us, hl with | [_, _], _ => rfl)
        (case z => k_is)
        (case mk => k_is)
        (case kc => k_is)
        (case a => k_is)
        (case i => k_is)
        (case l => k_is)
        (case c => k_is)
        (case k => k_is)
      case k2 =>
        refine' K3.kdef_mk KX G ?z ?mk ?kc ?a ?i ?l ?c ?k (fun _ _ _ _ _ _ us hl => match us, hl with | [_, _, _], _ => rfl)
        (case z => k_is)
        (case mk => k_is)
        (case kc => k_is)
        (case a => k_is)
        (case i => k_is)
        (case l => k_is)
        (case c => k_is)
        (case k => k_is)
      case f0 =>
        refine' K3.def_mk KX G ?a ?l ?c ?k (fun _ _ _ _ _ _ us hl => match us, hl with | [_, _, _], _ => rfl)
        (case a => k_is)
        (case l => k_is)
        (case c => k_is)
        (case k => k_is)
      case f1 =>
        refine' K3.def_mk KX G ?a ?l ?c ?k (fun _ _ _ _ _ _ us hl => match us, hl with | [_, _], _ => rfl)
        (case a => k_is)
        (case l => k_is)
        (case c => k_is)
        (case k => k_is)
      case f2 =>
        refine' K3.def_mk KX G ?a ?l ?c ?k (fun _ _ _ _ _ _ us hl => match us, hl with | [_], _ => rfl)
        (case a => k_is)
        (case l => k_is)
        (case c => k_is)
        (case k => k_is)
      case f3 =>
        refine' K3.def_mk KX G ?a ?l ?c ?k (fun _ _ _ _ _ _ us hl => match us, hl with | [_, _], _ => rfl)
        (case a => k_is)
        (case l => k_is)
        (case c => k_is)
        (case k => k_is)
      case f4 =>
        refine' K3.def_mk KX G ?a ?l ?c ?k (fun _ _ _ _ _ _ us hl => match us, hl with | [_], _ => rfl)
        (case a => k_is)
        (case l => k_is)
        (case c => k_is)
        (case k => k_is)
      case f5 =>
        refine' K3.def_mk KX G ?a ?l ?c ?k (fun _ _ _ _ _ _ us hl => match us, hl with | [_, _, _], _ => rfl)
        (case a => k_is)
        (case l => k_is)
        (case c => k_is)
        (case k => k_is)
      case f6 =>
        refine' K3.def_mk KX G ?a ?l ?c ?k (fun _ _ _ _ _ _ us hl => match us, hl with | [_], _ => rfl)
        (case a => k_is)
        (case l => k_is)
        (case c => k_is)
        (case k => k_is)
      case f7 =>
        refine' K3.def_mk KX G ?a ?l ?c ?k (fun _ _ _ _ _ _ us hl => match us, hl with | [_, _], _ => rfl)
        (case a => k_is)
        (case l => k_is)
        (case c => k_is)
        (case k => k_is)
      case f8 =>
        refine' K3.def_mk KX G ?a ?l ?c ?k (fun _ _ _ _ _ _ us hl => match us, hl with | [_, _], _ => rfl)
        (case a => k_is)
        (case l => k_is)
        (case c => k_is)
        (case k => k_is)
      case f9 =>
        refine' K3.def_mk KX G ?a ?l ?c ?k (fun _ _ _ _ _ _ us hl => match us, hl with | [_], _ => rfl)
        (case a => k_is)
        (case l => k_is)
        (case c => k_is)
        (case k => k_is)
      case f10 =>
        refine' K3.def_mk KX G ?a ?l ?c ?k (fun _ _ _ _ _ _ us hl => match us, hl with | [_, _], _ => rfl)
        (case a => k_is)
        (case l => k_is)
        (case c => k_is)
        (case k => k_is)
      case f11 =>
        refine' K3.def_mk KX G ?a ?l ?c ?k (fun _ _ _ _ _ _ us hl => match us, hl with | [_, _], _ => rfl)
        (case a => k_is)
        (case l => k_is)
        (case c => k_is)
        (case k => k_is)
      case f12 =>
        refine' K3.def_mk KX G ?a ?l ?c ?k (fun _ _ _ _ _ _ us hl => match us, hl with | [_, _], _ => rfl)
        (case a => k_is)
        (case l => k_is)
        (case c => k_is)
        (case k => k_is)
      case f13 =>
        refine' K3.def_mk KX G ?a ?l ?c ?k (fun _ _ _ _ _ _ us hl => match us, hl with | [_, _], _ => rfl)
        (case a => k_is)
        (case l => k_is)
        (case c => k_is)
        (case k => k_is)
      case f14 =>
        refine' K3.def_mk KX G ?a ?l ?c ?k (fun _ _ _ _ _ _ us hl => match us, hl with | [_, _], _ => rfl)
        (case a => k_is)
        (case l => k_is)
        (case c => k_is)
        (case k => k_is)
      case f15 =>
        refine' K3.def_mk KX G ?a ?l ?c ?k (fun _ _ _ _ _ _ us hl => match us, hl with | [_, _], _ => rfl)
        (case a => k_is)
        (case l => k_is)
        (case c => k_is)
        (case k => k_is)
      case f16 =>
        refine' K3.def_mk KX G ?a ?l ?c ?k (fun _ _ _ _ _ _ us hl => match us, hl with | [_, _], _ => rfl)
        (case a => k_is)
        (case l => k_is)
        (case c => k_is)
        (case k => k_is)
      case f17 =>
        refine' K3.def_mk KX G ?a ?l ?c ?k (fun _ _ _ _ _ _ us hl => match us, hl with | [_, _], _ => rfl)
        (case a => k_is)
        (case l => k_is)
        (case c => k_is)
        (case k => k_is)
      case f18 =>
        refine' K3.def_mk KX G ?a ?l ?c ?k (fun _ _ _ _ _ _ us hl => match us, hl with | [_], _ => rfl)
        (case a => k_is)
        (case l => k_is)
        (case c => k_is)
        (case k => k_is)
      case f19 =>
        refine' K3.def_mk KX G ?a ?l ?c ?k (fun _ _ _ _ _ _ us hl => match us, hl with | [_], _ => rfl)
        (case a => k_is)
        (case l => k_is)
        (case c => k_is)
        (case k => k_is)
      case f20 =>
        refine' K3.def_mk KX G ?a ?l ?c ?k (fun _ _ _ _ _ _ us hl => match us, hl with | [_], _ => rfl)
        (case a => k_is)
        (case l => k_is)
        (case c => k_is)
        (case k => k_is)
      case f21 =>
        refine' K3.def_mk KX G ?a ?l ?c ?k (fun _ _ _ _ _ _ us hl => match us, hl with | [_, _], _ => rfl)
        (case a => k_is)
        (case l => k_is)
        (case c => k_is)
        (case k => k_is)
      case f22 =>
        refine' K3.def_mk KX G ?a ?l ?c ?k (fun _ _ _ _ _ _ us hl => match us, hl with | [_, _], _ => rfl)
        (case a => k_is)
        (case l => k_is)
        (case c => k_is)
        (case k => k_is)
      case f23 =>
        refine' K3.def_mk KX G ?a ?l ?c ?k (fun _ _ _ _ _ _ us hl => match us, hl with | [_, _, _], _ => rfl)
        (case a => k_is)
        (case l => k_is)
        (case c => k_is)
        (case k => k_is)
      case f24 =>
        refine' K3.def_mk KX G ?a ?l ?c ?k (fun _ _ _ _ _ _ us hl => match us, hl with | [_, _], _ => rfl)
        (case a => k_is)
        (case l => k_is)
        (case c => k_is)
        (case k => k_is)
      case f25 =>
        refine' K3.def_mk KX G ?a ?l ?c ?k (fun _ _ _ _ _ _ us hl => match us, hl with | [_, _, _, _], _ => rfl)
        (case a => k_is)
        (case l => k_is)
        (case c => k_is)
        (case k => k_is)
      case f26 =>
        refine' K3.def_mk KX G ?a ?l ?c ?k (fun _ _ _ _ _ _ us hl => match us, hl with | [_, _, _], _ => rfl)
        (case a => k_is)
        (case l => k_is)
        (case c => k_is)
        (case k => k_is)
      case f27 =>
        refine' K3.def_mk KX G ?a ?l ?c ?k (fun _ _ _ _ _ _ us hl => match us, hl with | [_], _ => rfl)
        (case a => k_is)
        (case l => k_is)
        (case c => k_is)
        (case k => k_is)
      case f28 =>
        refine' K3.def_mk KX G ?a ?l ?c ?k (fun _ _ _ _ _ _ us hl => match us, hl with | [_, _], _ => rfl)
        (case a => k_is)
        (case l => k_is)
        (case c => k_is)
        (case k => k_is)
      case f29 =>
        refine' K3.def_mk KX G ?a ?l ?c ?k (fun _ _ _ _ _ _ us hl => match us, hl with | [_], _ => rfl)
        (case a => k_is)
        (case l => k_is)
        (case c => k_is)
        (case k => k_is)
      case f30 =>
        refine' K3.def_mk KX G ?a ?l ?c ?k (fun _ _ _ _ _ _ us hl => match us, hl with | [_, _], _ => rfl)
        (case a => k_is)
        (case l => k_is)
        (case c => k_is)
        (case k => k_is)
      case f31 =>
        refine' K3.def_mk KX G ?a ?l ?c ?k (fun _ _ _ _ _ _ us hl => match us, hl with | [_, _], _ => rfl)
        (case a => k_is)
        (case l => k_is)
        (case c => k_is)
        (case k => k_is)
      case f32 =>
        refine' K3.def_mk KX G ?a ?l ?c ?k (fun _ _ _ _ _ _ us hl => match us, hl with | [_, _], _ => rfl)
        (case a => k_is)
        (case l => k_is)
        (case c => k_is)
        (case k => k_is)
      case f33 =>
        refine' K3.def_mk KX G ?a ?l ?c ?k (fun _ _ _ _ _ _ us hl => match us, hl with | [_], _ => rfl)
        (case a => k_is)
        (case l => k_is)
        (case c => k_is)
        (case k => k_is)
      case f34 =>
        refine' K3.def_mk KX G ?a ?l ?c ?k (fun _ _ _ _ _ _ us hl => match us, hl with | [_, _, _, _, _], _ => rfl)
        (case a => k_is)
        (case l => k_is)
        (case c => k_is)
        (case k => k_is)
      case f35 =>
        refine' K3.def_mk KX G ?a ?l ?c ?k (fun _ _ _ _ _ _ us hl => match us, hl with | [_, _], _ => rfl)
        (case a => k_is)
        (case l => k_is)
        (case c => k_is)
        (case k => k_is)
      case f36 =>
        refine' K3.def_mk KX G ?a ?l ?c ?k (fun _ _ _ _ _ _ us hl => match us, hl with | [_, _, _], _ => rfl)
        (case a => k_is)
        (case l => k_is)
        (case c => k_is)
        (case k => k_is)
      case f37 =>
        refine' K3.def_mk KX G ?a ?l ?c ?k (fun _ _ _ _ _ _ us hl => match us, hl with | [_], _ => rfl)
        (case a => k_is)
        (case l => k_is)
        (case c => k_is)
        (case k => k_is)
      case f38 =>
        refine' K3.def_mk KX G ?a ?l ?c ?k (fun _ _ _ _ _ _ us hl => match us, hl with | [_, _], _ => rfl)
        (case a => k_is)
        (case l => k_is)
        (case c => k_is)
        (case k => k_is)
      case m0 =>
        refine' K3.mdef_mk (K3.cls_mk ?pg ?hd ?po ?sa) ?a ?i ?l ?c ?k (fun _ _ _ _ _ _ us hl => match us, hl with | [_, _], _ => rfl)
        (case pg => k_is)
        (case hd => k_is)
        (case po => k_is)
        (case sa => k_is)
        (case a => k_is)
        (case i => k_is)
        (case l => k_is)
        (case c => k_is)
        (case k => k_is)
      case m1 =>
        refine' K3.mdef_mk (K3.cls_mk ?pg ?hd ?po ?sa) ?a ?i ?l ?c ?k (fun _ _ _ _ _ _ us hl => match us, hl with | [_, _], _ => rfl)
        (case pg => k_is)
        (case hd => k_is)
        (case po => k_is)
        (case sa => k_is)
        (case a => k_is)
        (case i => k_is)
        (case l => k_is)
        (case c => k_is)
        (case k => k_is)
      case m2 =>
        refine' K3.mdef_mk (K3.cls_mk ?pg ?hd ?po ?sa) ?a ?i ?l ?c ?k (fun _ _ _ _ _ _ us hl => match us, hl with | [_, _, _, _], _ => rfl)
        (case pg => k_is)
        (case hd => k_is)
        (case po => k_is)
        (case sa => k_is)
        (case a => k_is)
        (case i => k_is)
        (case l => k_is)
        (case c => k_is)
        (case k => k_is)
      case m3 =>
        refine' K3.mdef_mk (K3.cls_mk ?pg ?hd ?po ?sa) ?a ?i ?l ?c ?k (fun _ _ _ _ _ _ us hl => match us, hl with | [_, _, _, _], _ => rfl)
        (case pg => k_is)
        (case hd => k_is)
        (case po => k_is)
        (case sa => k_is)
        (case a => k_is)
        (case i => k_is)
        (case l => k_is)
        (case c => k_is)
        (case k => k_is)
      case m4 =>
        refine' K3.mdef_mk (K3.cls_mk ?pg ?hd ?po ?sa) ?a ?i ?l ?c ?k (fun _ _ _ _ _ _ us hl => match us, hl with | [_, _], _ => rfl)
        (case pg => k_is)
        (case hd => k_is)
        (case po => k_is)
        (case sa => k_is)
        (case a => k_is)
        (case i => k_is)
        (case l => k_is)
        (case c => k_is)
        (case k => k_is)
      case m5 =>
        refine' K3.mdef_mk (K3.cls_mk ?pg ?hd ?po ?sa) ?a ?i ?l ?c ?k (fun _ _ _ _ _ _ us hl => match us, hl with | [_, _], _ => rfl)
        (case pg => k_is)
        (case hd => k_is)
        (case po => k_is)
        (case sa => k_is)
        (case a => k_is)
        (case i => k_is)
        (case l => k_is)
        (case c => k_is)
        (case k => k_is)
    case TN =>
      refine' K3.tn_mk (K3.cls_mk ?pg ?hd ?po ?sa) ?n0 ?n1 ?n2
      (case pg => k_is)
      (case hd => k_is)
      (case po => k_is)
      (case sa => k_is)
      (case n0 => k_is)
      (case n1 => k_is)
      (case n2 => k_is)
    case TO =>
      refine' K3.to_mk (K3.cls_mk ?pg ?hd ?po ?sa) ?n0 ?n1 ?n2
      (case pg => k_is)
      (case hd => k_is)
      (case po => k_is)
      (case sa => k_is)
      (case n0 => k_is)
      (case n1 => k_is)
      (case n2 => k_is)
    case TS =>
      refine' K3.ts_mk (K3.cls_mk ?pg ?hd ?po ?sa) ?n0 ?n1
      (case pg => k_is)
      (case hd => k_is)
      (case po => k_is)
      (case sa => k_is)
      (case n0 => k_is)
      (case n1 => k_is)
    case T =>
      refine' ⟨PySem.W.mg_none_of KX G ?b0, PySem.W.mg_none_of KX G ?b1, PySem.W.mg_none_of KX G ?b2, PySem.W.mg_none_of KX G ?b3, PySem.W.mg_none_of KX G ?b4, PySem.W.mg_none_of KX G ?b5, PySem.W.mg_none_of KX G ?b6, PySem.W.mg_none_of KX G ?b7, PySem.W.mg_none_of KX G ?b8, PySem.W.mg_none_of KX G ?b9, ?cT, ?cJ, ?cO⟩
      (case b0 => k_is)
      (case b1 => k_is)
      (case b2 => k_is)
      (case b3 => k_is)
      (case b4 => k_is)
      (case b5 => k_is)
      (case b6 => k_is)
      (case b7 => k_is)
      (case b8 => k_is)
      (case b9 => k_is)
      case cT =>
        refine' K3.truth_mk KX G ?z ?l1 ?l2 ?l3
        (case z => k_is)
        (case l1 => k_is)
        (case l2 => k_is)
        (case l3 => k_is)
      case cJ =>
        refine' K3.joints_mk KX G ?z ?l1
        (case z => k_is)
        (case l1 => k_is)
      case cO =>
        refine' K3.opposite_mk KX G ?z ?l ?hk ?e1 ?e2 ?e3 ?e4
        (case z => k_is)
        (case l => k_is)
        (case hk => exact ⟨⟨_, _, rfl, rfl⟩, ⟨_, _, rfl, rfl⟩, ⟨_, _, rfl, rfl⟩, ⟨_, _, rfl, rfl⟩, True.intro⟩)
        (case e1 => k_is)
        (case e2 => k_is)
        (case e3 => k_is)
        (case e4 => k_is)

