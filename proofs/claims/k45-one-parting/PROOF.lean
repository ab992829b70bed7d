import PyProof.Rows.All
import Wide.All
import OpenK.AllK
import Wide.FinOn
import KE.KStateDown
import Lean
import HandS.Base
import HandS.Call
import HandS.Ends
import HandS.More
import HandS.Words
import HandS.WordsExc
import HandS.Defaults
import HandS.Head0
import HandS.Head1
import HandS.Head2
import HandS.HeadEnd
import HandS.HeadHook1
import HandS.HeadHook2
import HandS.HeadHook3
import HandS.HeadHook4
import HandS.EndTab
import HandS.HeadWalk
import HandS.ForMost
import HandS.IsInst
import HandS.Flow
import HandS.Conv
import HandS.DictTup
import HandS.SetKeys
import HandS.TupMul
import HandS.Zip
import HandS.Star
import HandS.NoneIn
import HandS.FStr
import HandS.RaiseMore
import HandS.SortInts
import HandS.Wide
import HandS.WideMore
import HandS.WideBits
import HandS.Style
import HandS.Small
import HandS.Lambda
import HandS.SortKw
import KE.KDictDisplayH
import HandS.TupLen
import KE.KSortTupAny
import KE.DataMinKey
import KE.SortKeyHeap
import PySem.Challenge.RW_leastequal_k45_whole_whatever_order_one
/-! part K45Hd -/
set_option autoImplicit true
set_option Elab.async false
set_option linter.all false
set_option maxRecDepth 100000
set_option maxHeartbeats 0
/-! The text by places, the defs as data, the facts of the head and its run. Printed by gen_head.py. -/
namespace K45
open PySem PySem.Spec PyProof.Rows L2
def top (i : Nat) : Stmt := PySem.Challenge.pw_leastequal_k45_whole_whatever_order_one.main.body.getD i (.Pass ⟨0, 0, 0, 0⟩)
abbrev s_is_integer : Stmt := top 8
abbrev s_is_within : Stmt := top 9
abbrev s_fixed : Stmt := top 11
abbrev s_bits_up : Stmt := top 14
abbrev s_shape_of : Stmt := top 15
abbrev s_is_spelling : Stmt := top 24
abbrev s_is_name : Stmt := top 25
abbrev s_call_of : Stmt := top 26
abbrev s_shape_in : Stmt := top 27
abbrev s_is_leaf : Stmt := top 28
abbrev s_kind_of : Stmt := top 29
abbrev s_need_term : Stmt := top 30
abbrev s_parts_in : Stmt := top 31
abbrev s_items_of : Stmt := top 33
abbrev s_term_text : Stmt := top 34
abbrev s_least_sizes : Stmt := top 36
abbrev s_first_terms : Stmt := top 37
abbrev s__law_jar : Stmt := top 40
abbrev s__law_lot : Stmt := top 41
abbrev s__law_take : Stmt := top 42
abbrev s__law_mixed : Stmt := top 43
abbrev s__law_word : Stmt := top 44
abbrev s__law_truth : Stmt := top 45
abbrev s__law_term : Stmt := top 46
abbrev s__law_parts : Stmt := top 47
abbrev s__law_put : Stmt := top 48
abbrev s__law_told : Stmt := top 49
abbrev s__law_join : Stmt := top 50
abbrev s__law_find : Stmt := top 51
abbrev s__law_as_told : Stmt := top 52
abbrev s__law_under : Stmt := top 53
abbrev s__law_made : Stmt := top 54
abbrev s_law : Stmt := top 55
abbrev m___init__ : Stmt := inClass (top 38) 0
abbrev m__laid : Stmt := inClass (top 38) 2
abbrev m_put : Stmt := inClass (top 38) 3
abbrev m__told : Stmt := inClass (top 38) 4
abbrev m__merged : Stmt := inClass (top 38) 5
abbrev m_join : Stmt := inClass (top 38) 6
abbrev m_class_of : Stmt := inClass (top 38) 7
abbrev m__found : Stmt := inClass (top 38) 8
abbrev m__need : Stmt := inClass (top 38) 9
abbrev m_nodes : Stmt := inClass (top 38) 10
abbrev m_kind : Stmt := inClass (top 38) 11
abbrev m_first_term : Stmt := inClass (top 38) 12
def d_is_integer : He.DefD := ⟨("is_integer", none), "is_integer", "is_integer", defArgs s_is_integer, defBody s_is_integer, defScope s_is_integer, [], []⟩
def d_is_within : He.DefD := ⟨("is_within", none), "is_within", "is_within", defArgs s_is_within, defBody s_is_within, defScope s_is_within, [], []⟩
def d_fixed : He.DefD := ⟨("fixed", none), "fixed", "fixed", defArgs s_fixed, defBody s_fixed, defScope s_fixed, [], []⟩
def d_bits_up : He.DefD := ⟨("bits_up", none), "bits_up", "bits_up", defArgs s_bits_up, defBody s_bits_up, defScope s_bits_up, [], []⟩
def d_shape_of : He.DefD := ⟨("shape_of", none), "shape_of", "shape_of", defArgs s_shape_of, defBody s_shape_of, defScope s_shape_of, [], []⟩
def d_is_spelling : He.DefD := ⟨("is_spelling", none), "is_spelling", "is_spelling", defArgs s_is_spelling, defBody s_is_spelling, defScope s_is_spelling, [], []⟩
def d_is_name : He.DefD := ⟨("is_name", none), "is_name", "is_name", defArgs s_is_name, defBody s_is_name, defScope s_is_name, [], []⟩
def d_call_of : He.DefD := ⟨("call_of", none), "call_of", "call_of", defArgs s_call_of, defBody s_call_of, defScope s_call_of, [], []⟩
def d_shape_in : He.DefD := ⟨("shape_in", none), "shape_in", "shape_in", defArgs s_shape_in, defBody s_shape_in, defScope s_shape_in, [], []⟩
def d_is_leaf : He.DefD := ⟨("is_leaf", none), "is_leaf", "is_leaf", defArgs s_is_leaf, defBody s_is_leaf, defScope s_is_leaf, [], []⟩
def d_kind_of : He.DefD := ⟨("kind_of", none), "kind_of", "kind_of", defArgs s_kind_of, defBody s_kind_of, defScope s_kind_of, [], []⟩
def d_need_term : He.DefD := ⟨("need_term", none), "need_term", "need_term", defArgs s_need_term, defBody s_need_term, defScope s_need_term, [.str "term"], []⟩
def d_parts_in : He.DefD := ⟨("parts_in", none), "parts_in", "parts_in", defArgs s_parts_in, defBody s_parts_in, defScope s_parts_in, [], []⟩
def d_items_of : He.DefD := ⟨("items_of", none), "items_of", "items_of", defArgs s_items_of, defBody s_items_of, defScope s_items_of, [], []⟩
def d_term_text : He.DefD := ⟨("term_text", none), "term_text", "term_text", defArgs s_term_text, defBody s_term_text, defScope s_term_text, [], []⟩
def d_least_sizes : He.DefD := ⟨("least_sizes", none), "least_sizes", "least_sizes", defArgs s_least_sizes, defBody s_least_sizes, defScope s_least_sizes, [], []⟩
def d_first_terms : He.DefD := ⟨("first_terms", none), "first_terms", "first_terms", defArgs s_first_terms, defBody s_first_terms, defScope s_first_terms, [], []⟩
def d__law_jar : He.DefD := ⟨("_law_jar", none), "_law_jar", "_law_jar", defArgs s__law_jar, defBody s__law_jar, defScope s__law_jar, [], []⟩
def d__law_lot : He.DefD := ⟨("_law_lot", none), "_law_lot", "_law_lot", defArgs s__law_lot, defBody s__law_lot, defScope s__law_lot, [], []⟩
def d__law_take : He.DefD := ⟨("_law_take", none), "_law_take", "_law_take", defArgs s__law_take, defBody s__law_take, defScope s__law_take, [], []⟩
def d__law_mixed : He.DefD := ⟨("_law_mixed", none), "_law_mixed", "_law_mixed", defArgs s__law_mixed, defBody s__law_mixed, defScope s__law_mixed, [], []⟩
def d__law_word : He.DefD := ⟨("_law_word", none), "_law_word", "_law_word", defArgs s__law_word, defBody s__law_word, defScope s__law_word, [], []⟩
def d__law_truth : He.DefD := ⟨("_law_truth", none), "_law_truth", "_law_truth", defArgs s__law_truth, defBody s__law_truth, defScope s__law_truth, [], []⟩
def d__law_term : He.DefD := ⟨("_law_term", none), "_law_term", "_law_term", defArgs s__law_term, defBody s__law_term, defScope s__law_term, [], []⟩
def d__law_parts : He.DefD := ⟨("_law_parts", none), "_law_parts", "_law_parts", defArgs s__law_parts, defBody s__law_parts, defScope s__law_parts, [], []⟩
def d__law_put : He.DefD := ⟨("_law_put", none), "_law_put", "_law_put", defArgs s__law_put, defBody s__law_put, defScope s__law_put, [], []⟩
def d__law_told : He.DefD := ⟨("_law_told", none), "_law_told", "_law_told", defArgs s__law_told, defBody s__law_told, defScope s__law_told, [], []⟩
def d__law_join : He.DefD := ⟨("_law_join", none), "_law_join", "_law_join", defArgs s__law_join, defBody s__law_join, defScope s__law_join, [], []⟩
def d__law_find : He.DefD := ⟨("_law_find", none), "_law_find", "_law_find", defArgs s__law_find, defBody s__law_find, defScope s__law_find, [], []⟩
def d__law_as_told : He.DefD := ⟨("_law_as_told", none), "_law_as_told", "_law_as_told", defArgs s__law_as_told, defBody s__law_as_told, defScope s__law_as_told, [], []⟩
def d__law_under : He.DefD := ⟨("_law_under", none), "_law_under", "_law_under", defArgs s__law_under, defBody s__law_under, defScope s__law_under, [], []⟩
def d__law_made : He.DefD := ⟨("_law_made", none), "_law_made", "_law_made", defArgs s__law_made, defBody s__law_made, defScope s__law_made, [], []⟩
def d_law : He.DefD := ⟨("law", none), "law", "law", defArgs s_law, defBody s_law, defScope s_law, [], []⟩
def dm___init__ : He.DefD := ⟨("Classes", some "__init__"), "__init__", "Classes.__init__", defArgs m___init__, defBody m___init__, defScope m___init__, [], []⟩
def dm__laid : He.DefD := ⟨("Classes", some "_laid"), "_laid", "Classes._laid", defArgs m__laid, defBody m__laid, defScope m__laid, [], []⟩
def dm_put : He.DefD := ⟨("Classes", some "put"), "put", "Classes.put", defArgs m_put, defBody m_put, defScope m_put, [], []⟩
def dm__told : He.DefD := ⟨("Classes", some "_told"), "_told", "Classes._told", defArgs m__told, defBody m__told, defScope m__told, [], []⟩
def dm__merged : He.DefD := ⟨("Classes", some "_merged"), "_merged", "Classes._merged", defArgs m__merged, defBody m__merged, defScope m__merged, [], []⟩
def dm_join : He.DefD := ⟨("Classes", some "join"), "join", "Classes.join", defArgs m_join, defBody m_join, defScope m_join, [], []⟩
def dm_class_of : He.DefD := ⟨("Classes", some "class_of"), "class_of", "Classes.class_of", defArgs m_class_of, defBody m_class_of, defScope m_class_of, [], []⟩
def dm__found : He.DefD := ⟨("Classes", some "_found"), "_found", "Classes._found", defArgs m__found, defBody m__found, defScope m__found, [], []⟩
def dm__need : He.DefD := ⟨("Classes", some "_need"), "_need", "Classes._need", defArgs m__need, defBody m__need, defScope m__need, [], []⟩
def dm_nodes : He.DefD := ⟨("Classes", some "nodes"), "nodes", "Classes.nodes", defArgs m_nodes, defBody m_nodes, defScope m_nodes, [], []⟩
def dm_kind : He.DefD := ⟨("Classes", some "kind"), "kind", "Classes.kind", defArgs m_kind, defBody m_kind, defScope m_kind, [], []⟩
def dm_first_term : He.DefD := ⟨("Classes", some "first_term"), "first_term", "Classes.first_term", defArgs m_first_term, defBody m_first_term, defScope m_first_term, [], []⟩
def fn1 : List He.DefD := [d_is_integer, d_is_within, d_fixed, d_bits_up, d_shape_of, d_is_spelling, d_is_name, d_call_of, d_shape_in, d_is_leaf, d_kind_of, d_need_term, d_parts_in, d_items_of, d_term_text, d_least_sizes, d_first_terms, d__law_jar, d__law_lot, d__law_take]
def fn2 : List He.DefD := [d__law_mixed, d__law_word, d__law_truth, d__law_term, d__law_parts, d__law_put, d__law_told, d__law_join, d__law_find, d__law_as_told, d__law_under, d__law_made, d_law]
def fn3 : List He.DefD := [dm___init__, dm__laid, dm_put, dm__told, dm__merged, dm_join, dm_class_of, dm__found, dm__need, dm_nodes, dm_kind, dm_first_term]
def fn : List He.DefD := fn1 ++ (fn2 ++ fn3)
def fa1 : List He.Fa := [.glo "is_integer", .glo "is_within", .glo "fixed", .glo "bits_up", .glo "shape_of", .glo "is_spelling", .glo "is_name", .glo "call_of", .glo "shape_in", .glo "is_leaf", .glo "kind_of", .glo "need_term", .glo "parts_in", .glo "items_of", .glo "term_text", .glo "least_sizes", .glo "first_terms", .glo "_law_jar", .glo "_law_lot", .glo "_law_take", .glo "_law_mixed", .glo "_law_word", .glo "_law_truth", .glo "_law_term", .glo "_law_parts", .glo "_law_put", .glo "_law_told", .glo "_law_join", .glo "_law_find", .glo "_law_as_told", .glo "_law_under", .glo "_law_made", .glo "law"]
def fa2 : List He.Fa := [.free "isinstance", .free "int", .free "bool", .free "list", .free "tuple", .free "str", .free "len", .free "all", .free "zip", .free "range", .free "sorted", .free "sum", .free "min", .free "max", .free "abs", .free "dict"]
def fa3 : List He.Fa := [.glo "Classes", .glo "SHAPES", .glo "INDEXES", .glo "TRUTHS", .glo "LEAF_KINDS", .int "MOST_NUMBER" 2147483647, .int "MOST_PARTS" 6, .str "LETTERS" "abcdefghijklmnopqrstuvwxyz", .str "FIGURES" "0123456789", .cls "Classes", .mkr "Classes"]
def fa4 : List He.Fa := [.noat "Classes" "places", .noat "Classes" "many", .noat "Classes" "record", .noat "Classes" "_made", .noat "Classes" "_where", .noat "Classes" "_rows", .noat "Classes" "_uses", .noat "Classes" "_kinds", .noat "Classes" "_first"]
def fa5 : List He.Fa := [.meth "Classes" "_laid", .meth "Classes" "put", .meth "Classes" "_told", .meth "Classes" "_merged", .meth "Classes" "join", .meth "Classes" "class_of", .meth "Classes" "_found", .meth "Classes" "_need", .meth "Classes" "nodes", .meth "Classes" "kind", .meth "Classes" "first_term"]
def fa : List He.Fa := fa1 ++ (fa2 ++ (fa3 ++ (fa4 ++ fa5)))
def shKeys : List Str := ["add", "sub", "mul", "and", "or", "xor", "neg", "flip", "at", "if", "eq", "lt", "less", "both", "either", "no"]
def lkKeys : List Str := ["number", "name", "flag", "true", "false"]
def ts : List He.Tab := [(fun K => He.ga K "SHAPES", shKeys), (fun K => He.ga K "LEAF_KINDS", lkKeys)]
/-- a tuple of the top at an address -/
def tupA (K : PySem.W.Frag) (a : Addr) (vs : List He.Dv) : Bool := match K.lookup a with
  | some ⟨.type c, _, .seq its _, _⟩ => decide (c = "tuple") && (decide (its.size ≤ sizeLine) && He.relAll (vs.map (He.Dv.v K)) its.toList)
  | _ => false
theorem tupA_ok {K : PySem.W.Frag} {a : Addr} {vs : List He.Dv} (h : tupA K a vs = true) (H : Hp) : SqT K H a (vs.map (He.Dv.v K)) := by
  unfold tupA at h
  cases q : K.lookup a with
  | none =>
    rw [q] at h
    cases h
  | some o =>
    obtain ⟨oc, od, dt, osl⟩ := o
    rw [q] at h
    cases oc with
    | type c =>
      cases dt with
      | seq its n =>
        obtain ⟨h1, h2⟩ := He.ba (show (decide (c = "tuple") && (decide (its.size ≤ sizeLine) && He.relAll (vs.map (He.Dv.v K)) its.toList)) = true from h)
        obtain ⟨h3, h4⟩ := He.ba h2
        exact .inr ⟨_, its, n, q, congrArg Value.type (of_decide_eq_true h1), rfl, of_decide_eq_true h3, He.relAll_ok h4⟩
      | _ => cases h
    | _ => cases dt <;> cases h
/-- the shape of a label, its second part -/
def shp (k : Str) (K : PySem.W.Frag) : Addr := match PySem.W.nsIn K (He.ga K "SHAPES") k with
  | some (some (.ref a)) => a
  | _ => 0
def shq (k : Str) (K : PySem.W.Frag) : Addr := match K.lookup (shp k K) with
  | some ⟨_, _, .seq its _, _⟩ => (match (its.toList : List Value)[(1 : Nat)]? with
    | some (.ref a) => a
    | _ => 0)
  | _ => 0
def shVals : List (Str × He.Dv) := [("neg", .adr (shp "neg")), ("add", .adr (shp "add")), ("if", .adr (shp "if")), ("at", .adr (shp "at")), ("eq", .adr (shp "eq")), ("no", .adr (shp "no")), ("both", .adr (shp "both"))]
def lkVals : List (Str × He.Dv) := [("number", .str "word"), ("name", .str "word"), ("flag", .str "truth"), ("true", .str "truth"), ("false", .str "truth")]
def lkNo : List Str := ["neg", "shl 3", "at", "no", "add", "eq", "both", "if", "loop up 1", "call go 0"]
def noKey (K : PySem.W.Frag) (x z : Str) : Bool := He.eqO (PySem.W.nsIn K (He.ga K x) z) (some none)
def ex (K : PySem.W.Frag) : Bool := (lkNo.all fun z => noKey K "LEAF_KINDS" z) && (noKey K "SHAPES" "shl 3" && (He.tupB K "INDEXES" [.str "0", .str "1", .str "2", .str "3", .str "4", .str "5"] && (He.tupB K "TRUTHS" [.str "true", .str "false"] && (He.valsB K (He.ga K "LEAF_KINDS") lkVals && (He.valsB K (He.ga K "SHAPES") shVals && (tupA K (shp "neg" K) [.str "word", .adr (shq "neg")] && (tupA K (shq "neg" K) [.str "word"] && (tupA K (shp "add" K) [.str "word", .adr (shq "add")] && (tupA K (shq "add" K) [.str "word", .str "word"] && (tupA K (shp "if" K) [.str "word", .adr (shq "if")] && (tupA K (shq "if" K) [.str "truth", .str "word", .str "word"] && (tupA K (shp "at" K) [.str "word", .adr (shq "at")] && (tupA K (shq "at" K) [.str "word"] && (tupA K (shp "eq" K) [.str "truth", .adr (shq "eq")] && (tupA K (shq "eq" K) [.str "word", .str "word"] && (tupA K (shp "no" K) [.str "truth", .adr (shq "no")] && (tupA K (shq "no" K) [.str "truth"] && (tupA K (shp "both" K) [.str "truth", .adr (shq "both")] && (tupA K (shq "both" K) [.str "truth", .str "truth"])))))))))))))))))))
def tf : List He.Defn := [("first_terms", none)]
abbrev R : PySem.W.OpenRow := PySem.W.OpenLaw.row PySem.Challenge.rw_leastequal_k45_whole_whatever_order_one
abbrev hk : PySem.W.Hook := He.hookX 6 fa fn ts tf ex
def ob (s : PySem.W.SharedT) : He.AlX := He.obsX 6 fa fn ts tf ex (HandSHeadRun.getT s)
theorem ob_eq (s : PySem.W.SharedT) : ob s = hk.obs s.abs := He.obsX_eq (HandSHeadRun.getT_eq s)
def names1 : List PySem.Str := ["_wall", "EqualError", "BadTerm", "Misfit", "Missing", "NoClass", "SHAPES", "MOST_NUMBER", "MOST_PARTS", "LETTERS", "FIGURES", "INDEXES", "TRUTHS", "LEAF_KINDS", "Classes", "is_integer", "is_within", "fixed", "bits_up", "shape_of", "is_spelling", "is_name", "call_of", "shape_in", "is_leaf", "kind_of", "need_term", "parts_in", "items_of", "term_text"]
def names2 : List PySem.Str := ["least_sizes", "first_terms", "_law_jar", "_law_lot", "_law_take", "_law_mixed", "_law_word", "_law_truth", "_law_term", "_law_parts", "_law_put", "_law_told", "_law_join", "_law_find", "_law_as_told", "_law_under", "_law_made"]
def names : List PySem.Str := names1 ++ names2
end K45
/-! part K45Run -/
set_option autoImplicit true
set_option Elab.async false
set_option linter.all false
set_option maxRecDepth 100000
set_option maxHeartbeats 0
namespace K45
open PySem PySem.W PySem.Calls PyProof.Rows
theorem runF (w : World) : HandSHeadRun.RunEq R (PySem.W.view R.prog [55]) hk ob 6000 names (w.withFollow "special-get-raises" false) := by
  intro os
  kernel_rfl
theorem runT (w : World) : HandSHeadRun.RunEq R (PySem.W.view R.prog [55]) hk ob 6000 names (w.withFollow "special-get-raises" true) := by
  intro os
  kernel_rfl
theorem run (w : World) : HandSHeadRun.RunEq R (PySem.W.view R.prog [55]) hk ob 6000 names w := byRow2 "special-get-raises" runF runT w
end K45
/-! part K45M1 -/
set_option autoImplicit true
set_option autoImplicit false
set_option linter.all false
/-! Plain mathematics: terms, nodes, congruence, what a closed table of nodes says. No program in sight. -/
namespace K45
/-- the leaves that the law draws -/
inductive Lf where
  | na | nb | nc | n0 | n7 | go | fp | fa | tr
  deriving DecidableEq
/-- the labels that the law draws -/
inductive Lab where
  | neg | shl | mem | no | add | equ | both | cond | loop
  deriving DecidableEq
inductive T where
  | lf (i : Lf) | un (l : Lab) (a : T) | bin (l : Lab) (a b : T) | ter (l : Lab) (a b c : T)
  deriving DecidableEq
inductive Hd where
  | lf (i : Lf) | nd (l : Lab)
  deriving DecidableEq
inductive N where
  | lf (i : Lf) | nd (l : Lab) (ids : List Nat)
  deriving DecidableEq
def N.hd : N → Hd
  | .lf i => .lf i
  | .nd l _ => .nd l
def N.ids : N → List Nat
  | .lf _ => []
  | .nd _ ids => ids
def T.hd : T → Hd
  | .lf i => .lf i
  | .un l _ => .nd l
  | .bin l _ _ => .nd l
  | .ter l _ _ _ => .nd l
def T.parts : T → List T
  | .lf _ => []
  | .un _ a => [a]
  | .bin _ a b => [a, b]
  | .ter _ a b c => [a, b, c]
def T.size : T → Nat
  | .lf _ => 1
  | .un _ a => 1 + a.size
  | .bin _ a b => 1 + a.size + b.size
  | .ter _ a b c => 1 + a.size + b.size + c.size
def T.depth : T → Nat
  | .lf _ => 1
  | .un _ a => 1 + a.depth
  | .bin _ a b => 1 + max a.depth b.depth
  | .ter _ a b c => 1 + max a.depth (max b.depth c.depth)
/-- a term and all its parts -/
def T.under : T → List T
  | .lf i => [.lf i]
  | .un l a => .un l a :: a.under
  | .bin l a b => .bin l a b :: (a.under ++ b.under)
  | .ter l a b c => .ter l a b c :: (a.under ++ (b.under ++ c.under))
theorem T.size_pos (t : T) : 0 < t.size := by cases t <;> simp only [T.size] <;> omega
theorem T.size_part {t p : T} (h : p ∈ t.parts) : p.size < t.size := by
  cases t <;> simp only [T.parts, List.mem_cons, List.not_mem_nil, or_false] at h
  · subst h; simp only [T.size]; omega
  · rcases h with rfl | rfl <;> simp only [T.size] <;> omega
  · rcases h with rfl | rfl | rfl <;> simp only [T.size] <;> omega
theorem T.depth_part {t p : T} (h : p ∈ t.parts) : p.depth < t.depth := by
  cases t <;> simp only [T.parts, List.mem_cons, List.not_mem_nil, or_false] at h
  · subst h; simp only [T.depth]; omega
  · rcases h with rfl | rfl <;> simp only [T.depth] <;> omega
  · rcases h with rfl | rfl | rfl <;> simp only [T.depth] <;> omega
theorem T.depth_pos (t : T) : 0 < t.depth := by cases t <;> simp only [T.depth] <;> omega
theorem T.depth_le_size (t : T) : t.depth ≤ t.size := by
  induction t with
  | lf i => exact Nat.le_refl _
  | un l a ih => simp only [T.depth, T.size]; omega
  | bin l a b ih1 ih2 => simp only [T.depth, T.size]; omega
  | ter l a b c ih1 ih2 ih3 => simp only [T.depth, T.size]; omega
/-- a proof by the parts -/
theorem T.byParts {P : T → Prop} (h : ∀ t, (∀ p ∈ t.parts, P p) → P t) : ∀ t, P t := by
  intro t
  induction t with
  | lf i => exact h _ (by simp [T.parts])
  | un l a ih => exact h _ (by simpa [T.parts] using ih)
  | bin l a b ih1 ih2 => exact h _ (by simpa [T.parts] using ⟨ih1, ih2⟩)
  | ter l a b c ih1 ih2 ih3 => exact h _ (by simpa [T.parts] using ⟨ih1, ih2, ih3⟩)
theorem T.ext_parts {s t : T} (h : s.hd = t.hd) (hp : s.parts = t.parts) : s = t := by
  cases s <;> cases t <;> simp_all [T.hd, T.parts]
theorem T.under_eq (t : T) : t.under = t :: (t.parts.map T.under).flatten := by
  cases t <;> simp [T.under, T.parts]
theorem T.self_under (t : T) : t ∈ t.under := by rw [T.under_eq]; exact List.mem_cons_self
theorem T.under_part {t p : T} (h : p ∈ t.parts) : ∀ q ∈ p.under, q ∈ t.under := by
  intro q hq
  rw [T.under_eq]
  exact List.mem_cons_of_mem _ (List.mem_flatten.mpr ⟨_, List.mem_map.mpr ⟨p, h, rfl⟩, hq⟩)
theorem T.under_closed (t : T) : ∀ q ∈ t.under, ∀ p ∈ q.parts, p ∈ t.under := by
  refine T.byParts (P := fun t => ∀ q ∈ t.under, ∀ p ∈ q.parts, p ∈ t.under) ?_ t
  intro t ih q hq p hp
  rw [T.under_eq] at hq
  rcases List.mem_cons.mp hq with rfl | hq
  · exact T.under_part hp p p.self_under
  · obtain ⟨l, hl, hq⟩ := List.mem_flatten.mp hq
    obtain ⟨r, hr, rfl⟩ := List.mem_map.mp hl
    exact T.under_part hr p (ih r hr q hq p hp)
theorem T.under_size (t : T) : ∀ q ∈ t.under, q.size ≤ t.size := by
  refine T.byParts (P := fun t => ∀ q ∈ t.under, q.size ≤ t.size) ?_ t
  intro t ih q hq
  rw [T.under_eq] at hq
  rcases List.mem_cons.mp hq with rfl | hq
  · exact Nat.le_refl _
  · obtain ⟨l, hl, hq⟩ := List.mem_flatten.mp hq
    obtain ⟨r, hr, rfl⟩ := List.mem_map.mp hl
    exact Nat.le_trans (ih r hr q hq) (Nat.le_of_lt (T.size_part hr))

/-! ### nodes, tables -/
abbrev Tab := N → Option Nat
def N.map (f : Nat → Nat) : N → N
  | .lf i => .lf i
  | .nd l ids => .nd l (ids.map f)
theorem N.map_hd (f : Nat → Nat) (n : N) : (n.map f).hd = n.hd := by cases n <;> rfl
theorem N.map_ids (f : Nat → Nat) (n : N) : (n.map f).ids = n.ids.map f := by cases n <;> rfl
theorem N.ext {n m : N} (h : n.hd = m.hd) (h2 : n.ids = m.ids) : n = m := by
  cases n <;> cases m <;> simp_all [N.hd, N.ids]
theorem N.map_id (n : N) : n.map id = n := by cases n <;> simp [N.map]
theorem N.map_map (f g : Nat → Nat) (n : N) : (n.map f).map g = n.map (g ∘ f) := by cases n <;> simp [N.map]
theorem N.map_congr {f g : Nat → Nat} {n : N} (h : ∀ i ∈ n.ids, f i = g i) : n.map f = n.map g := by
  refine N.ext (by rw [N.map_hd, N.map_hd]) ?_
  rw [N.map_ids, N.map_ids]
  exact List.map_congr_left h
/-- the class in which a term lies, the node of a term -/
def find (W : Tab) : T → Option Nat
  | .lf i => W (.lf i)
  | .un l a => (find W a).bind fun x => W (.nd l [x])
  | .bin l a b => (find W a).bind fun x => (find W b).bind fun y => W (.nd l [x, y])
  | .ter l a b c => (find W a).bind fun x => (find W b).bind fun y => (find W c).bind fun z => W (.nd l [x, y, z])
def nd (W : Tab) : T → Option N
  | .lf i => some (.lf i)
  | .un l a => (find W a).bind fun x => some (.nd l [x])
  | .bin l a b => (find W a).bind fun x => (find W b).bind fun y => some (.nd l [x, y])
  | .ter l a b c => (find W a).bind fun x => (find W b).bind fun y => (find W c).bind fun z => some (.nd l [x, y, z])
theorem find_nd (W : Tab) (t : T) : find W t = (nd W t).bind W := by
  cases t with
  | lf i => rfl
  | un l a => cases h : find W a <;> simp [find, nd, h]
  | bin l a b => cases h : find W a <;> cases h2 : find W b <;> simp [find, nd, h, h2]
  | ter l a b c => cases h : find W a <;> cases h2 : find W b <;> cases h3 : find W c <;> simp [find, nd, h, h2, h3]
theorem map1 {o1 : Option Nat} {ids : List Nat} (e : [o1] = ids.map some) : ∃ x, ids = [x] ∧ o1 = some x := by
  rcases ids with _ | ⟨x, _ | ⟨y, r⟩⟩ <;> simp at e
  exact ⟨x, rfl, e⟩
theorem map2 {o1 o2 : Option Nat} {ids : List Nat} (e : [o1, o2] = ids.map some) : ∃ x y, ids = [x, y] ∧ o1 = some x ∧ o2 = some y := by
  rcases ids with _ | ⟨x, _ | ⟨y, _ | ⟨z, r⟩⟩⟩ <;> simp at e
  exact ⟨x, y, rfl, e.1, e.2⟩
theorem map3 {o1 o2 o3 : Option Nat} {ids : List Nat} (e : [o1, o2, o3] = ids.map some) : ∃ x y z, ids = [x, y, z] ∧ o1 = some x ∧ o2 = some y ∧ o3 = some z := by
  rcases ids with _ | ⟨x, _ | ⟨y, _ | ⟨z, _ | ⟨u, r⟩⟩⟩⟩ <;> simp at e
  exact ⟨x, y, z, rfl, e.1, e.2.1, e.2.2⟩
theorem nd_iff {W : Tab} {t : T} {n : N} : nd W t = some n ↔ n.hd = t.hd ∧ t.parts.map (find W) = n.ids.map some := by
  constructor
  · intro e
    cases t with
    | lf i => simp only [nd, Option.some.injEq] at e; subst e; exact ⟨rfl, rfl⟩
    | un l a =>
      cases h1 : find W a <;> simp [nd, h1] at e
      subst e; simp [T.hd, T.parts, h1, N.hd, N.ids]
    | bin l a b =>
      cases h1 : find W a <;> cases h2 : find W b <;> simp [nd, h1, h2] at e
      subst e; simp [T.hd, T.parts, h1, h2, N.hd, N.ids]
    | ter l a b c =>
      cases h1 : find W a <;> cases h2 : find W b <;> cases h3 : find W c <;> simp [nd, h1, h2, h3] at e
      subst e; simp [T.hd, T.parts, h1, h2, h3, N.hd, N.ids]
  · rintro ⟨eh, e⟩
    cases t with
    | lf i => cases n <;> simp_all [T.parts, nd, T.hd, N.hd, N.ids]
    | un l a =>
      cases n with
      | lf i => simp [N.hd, T.hd] at eh
      | nd m ids =>
        simp only [N.hd, T.hd, Hd.nd.injEq] at eh
        subst eh
        obtain ⟨x, rfl, e1⟩ := map1 e
        simp [nd, e1]
    | bin l a b =>
      cases n with
      | lf i => simp [N.hd, T.hd] at eh
      | nd m ids =>
        simp only [N.hd, T.hd, Hd.nd.injEq] at eh
        subst eh
        obtain ⟨x, y, rfl, e1, e2⟩ := map2 e
        simp [nd, e1, e2]
    | ter l a b c =>
      cases n with
      | lf i => simp [N.hd, T.hd] at eh
      | nd m ids =>
        simp only [N.hd, T.hd, Hd.nd.injEq] at eh
        subst eh
        obtain ⟨x, y, z, rfl, e1, e2, e3⟩ := map3 e
        simp [nd, e1, e2, e3]
theorem find_some {W : Tab} {t : T} {i : Nat} (h : find W t = some i) : ∃ n, nd W t = some n ∧ W n = some i := by
  rw [find_nd] at h
  exact Option.bind_eq_some_iff.mp h
theorem find_of {W : Tab} {t : T} {n : N} {i : Nat} (h : nd W t = some n) (h2 : W n = some i) : find W t = some i := by
  rw [find_nd, h]; exact h2
theorem map_some_mem {W : Tab} : ∀ {ps : List T} {ids : List Nat}, ps.map (find W) = ids.map some → ∀ p ∈ ps, ∃ i ∈ ids, find W p = some i
  | [], [], _, p, hp => by cases hp
  | [], _ :: _, e, _, _ => by simp at e
  | _ :: _, [], e, _, _ => by simp at e
  | q :: ps, i :: ids, e, p, hp => by
    simp only [List.map_cons, List.cons.injEq] at e
    rcases List.mem_cons.mp hp with rfl | hp
    · exact ⟨i, List.mem_cons_self, e.1⟩
    · obtain ⟨j, hj, ej⟩ := map_some_mem e.2 p hp
      exact ⟨j, List.mem_cons_of_mem _ hj, ej⟩
theorem map_some_mem' {W : Tab} : ∀ {ps : List T} {ids : List Nat}, ps.map (find W) = ids.map some → ∀ i ∈ ids, ∃ p ∈ ps, find W p = some i
  | [], [], _, p, hp => by cases hp
  | [], _ :: _, e, _, _ => by simp at e
  | _ :: _, [], e, _, _ => by simp at e
  | q :: ps, i :: ids, e, j, hj => by
    simp only [List.map_cons, List.cons.injEq] at e
    rcases List.mem_cons.mp hj with rfl | hj
    · exact ⟨q, List.mem_cons_self, e.1⟩
    · obtain ⟨p, hp, ep⟩ := map_some_mem' e.2 j hj
      exact ⟨p, List.mem_cons_of_mem _ hp, ep⟩
/-- the parts of a term that lies somewhere lie somewhere -/
theorem find_part {W : Tab} {t p : T} {i : Nat} (h : find W t = some i) (hp : p ∈ t.parts) : ∃ j, find W p = some j := by
  obtain ⟨n, hn, _⟩ := find_some h
  obtain ⟨j, _, e⟩ := map_some_mem (nd_iff.mp hn).2 p hp
  exact ⟨j, e⟩

/-! ### tables renamed -/
structure Le (ρ : Nat → Nat) (W W' : Tab) : Prop where
  to : ∀ n i, W n = some i → W' (n.map ρ) = some (ρ i)
theorem Le.refl (W : Tab) : Le id W W := ⟨fun n i h => by rw [N.map_id]; exact h⟩
theorem Le.trans {ρ ρ' : Nat → Nat} {W W' W'' : Tab} (a : Le ρ W W') (b : Le ρ' W' W'') : Le (ρ' ∘ ρ) W W'' :=
  ⟨fun n i h => by rw [← N.map_map]; exact b.to _ _ (a.to _ _ h)⟩
theorem Le.parts {ρ : Nat → Nat} {W W' : Tab} : ∀ {ps : List T} {ids : List Nat}, (∀ p ∈ ps, ∀ i, find W p = some i → find W' p = some (ρ i)) → ps.map (find W) = ids.map some → ps.map (find W') = (ids.map ρ).map some
  | [], [], _, _ => rfl
  | [], _ :: _, _, e => by simp at e
  | _ :: _, [], _, e => by simp at e
  | q :: ps, i :: ids, h, e => by
    simp only [List.map_cons, List.cons.injEq] at e ⊢
    exact ⟨h q List.mem_cons_self i e.1, Le.parts (fun p hp => h p (List.mem_cons_of_mem _ hp)) e.2⟩
theorem Le.find {ρ : Nat → Nat} {W W' : Tab} (h : Le ρ W W') : ∀ (t : T) (i : Nat), K45.find W t = some i → K45.find W' t = some (ρ i) := by
  refine T.byParts ?_
  intro t ih i e
  obtain ⟨n, hn, hi⟩ := find_some e
  obtain ⟨e1, e2⟩ := nd_iff.mp hn
  exact find_of (n := n.map ρ) (nd_iff.mpr ⟨by rw [N.map_hd]; exact e1, by rw [N.map_ids]; exact Le.parts ih e2⟩) (h.to n i hi)
theorem Le.nd {ρ : Nat → Nat} {W W' : Tab} (h : Le ρ W W') {t : T} {n : N} (e : K45.nd W t = some n) : K45.nd W' t = some (n.map ρ) := by
  obtain ⟨e1, e2⟩ := nd_iff.mp e
  exact nd_iff.mpr ⟨by rw [N.map_hd]; exact e1, by rw [N.map_ids]; exact Le.parts (fun p _ => h.find p) e2⟩

/-! ### equality by exchange -/
inductive Eqv (R : T → T → Prop) : T → T → Prop
  | refl (t : T) : Eqv R t t
  | symm {s t : T} : Eqv R s t → Eqv R t s
  | trans {s t u : T} : Eqv R s t → Eqv R t u → Eqv R s u
  | base {s t : T} : R s t → Eqv R s t
  | un {l : Lab} {a a' : T} : Eqv R a a' → Eqv R (.un l a) (.un l a')
  | bin {l : Lab} {a a' b b' : T} : Eqv R a a' → Eqv R b b' → Eqv R (.bin l a b) (.bin l a' b')
  | ter {l : Lab} {a a' b b' c c' : T} : Eqv R a a' → Eqv R b b' → Eqv R c c' → Eqv R (.ter l a b c) (.ter l a' b' c')
theorem Eqv.mono {R R' : T → T → Prop} (h : ∀ a b, R a b → Eqv R' a b) {s t : T} (e : Eqv R s t) : Eqv R' s t := by
  induction e with
  | refl t => exact .refl t
  | symm _ ih => exact .symm ih
  | trans _ _ ih1 ih2 => exact .trans ih1 ih2
  | base r => exact h _ _ r
  | un _ ih => exact .un ih
  | bin _ _ ih1 ih2 => exact .bin ih1 ih2
  | ter _ _ _ ih1 ih2 ih3 => exact .ter ih1 ih2 ih3
/-- whole worths: a class, or a term of worths without one -/
inductive D where
  | cls (i : Nat) | lf (i : Lf) | un (l : Lab) (a : D) | bin (l : Lab) (a b : D) | ter (l : Lab) (a b c : D)
def D.id? : D → Option Nat
  | .cls i => some i
  | _ => none
def dcase (o : Option Nat) (d : D) : D := match o with
  | some i => .cls i
  | none => d
def worth (W : Tab) : T → D
  | .lf i => dcase (W (.lf i)) (.lf i)
  | .un l a => dcase ((worth W a).id?.bind fun x => W (.nd l [x])) (.un l (worth W a))
  | .bin l a b => dcase ((worth W a).id?.bind fun x => (worth W b).id?.bind fun y => W (.nd l [x, y])) (.bin l (worth W a) (worth W b))
  | .ter l a b c => dcase ((worth W a).id?.bind fun x => (worth W b).id?.bind fun y => (worth W c).id?.bind fun z => W (.nd l [x, y, z])) (.ter l (worth W a) (worth W b) (worth W c))
theorem dcase_id {o : Option Nat} {d : D} (h : d.id? = none) : (dcase o d).id? = o := by
  cases o with
  | none => exact h
  | some i => rfl
theorem worth_id (W : Tab) (t : T) : (worth W t).id? = find W t := by
  induction t with
  | lf i => exact dcase_id rfl
  | un l a ih => unfold worth find; rw [dcase_id rfl, ih]
  | bin l a b ih1 ih2 => unfold worth find; rw [dcase_id rfl, ih1, ih2]
  | ter l a b c ih1 ih2 ih3 => unfold worth find; rw [dcase_id rfl, ih1, ih2, ih3]
theorem worth_of {W : Tab} {t : T} {i : Nat} (h : find W t = some i) : worth W t = .cls i := by
  have h2 := worth_id W t
  rw [h] at h2
  cases e : worth W t <;> rw [e] at h2 <;> simp [D.id?] at h2
  rw [h2]
/-- Birkhoff: exchanges keep the class -/
theorem find_eqv {R : T → T → Prop} {W : Tab} (hR : ∀ a b, R a b → ∃ i, find W a = some i ∧ find W b = some i) {s t : T} (e : Eqv R s t) : find W s = find W t := by
  have key : worth W s = worth W t := by
    induction e with
    | refl t => rfl
    | symm _ ih => exact ih.symm
    | trans _ _ ih1 ih2 => exact ih1.trans ih2
    | base r => obtain ⟨i, h1, h2⟩ := hR _ _ r; rw [worth_of h1, worth_of h2]
    | un _ ih => unfold worth; rw [ih]
    | bin _ _ ih1 ih2 => unfold worth; rw [ih1, ih2]
    | ter _ _ _ ih1 ih2 ih3 => unfold worth; rw [ih1, ih2, ih3]
  rw [← worth_id, ← worth_id, key]
/-- a term for each class: the table says nothing but what follows from R -/
def app (cl : Nat → T) : N → T
  | .lf i => .lf i
  | .nd l [a] => .un l (cl a)
  | .nd l [a, b] => .bin l (cl a) (cl b)
  | .nd l [a, b, c] => .ter l (cl a) (cl b) (cl c)
  | .nd _ _ => .lf .na
def Sound (R : T → T → Prop) (cl : Nat → T) (W : Tab) : Prop := ∀ n i, W n = some i → Eqv R (app cl n) (cl i)
theorem app_map {R : T → T → Prop} {cl : Nat → T} {f : Nat → Nat} (h : ∀ a, Eqv R (cl (f a)) (cl a)) (n : N) : Eqv R (app cl (n.map f)) (app cl n) := by
  cases n with
  | lf i => exact .refl _
  | nd l ids =>
    match ids with
    | [] => exact .refl _
    | [a] => exact .un (h a)
    | [a, b] => exact .bin (h a) (h b)
    | [a, b, c] => exact .ter (h a) (h b) (h c)
    | _ :: _ :: _ :: _ :: _ => exact .refl _
theorem app_congr {cl cl' : Nat → T} {n : N} (h : ∀ a ∈ n.ids, cl a = cl' a) : app cl n = app cl' n := by
  cases n with
  | lf i => rfl
  | nd l ids =>
    match ids, h with
    | [], _ => rfl
    | [a], h => simp [app, h a (by simp [N.ids])]
    | [a, b], h => simp [app, h a (by simp [N.ids]), h b (by simp [N.ids])]
    | [a, b, c], h => simp [app, h a (by simp [N.ids]), h b (by simp [N.ids]), h c (by simp [N.ids])]
    | _ :: _ :: _ :: _ :: _, _ => rfl
theorem app_nd {R : T → T → Prop} {cl : Nat → T} {W : Tab} {t : T} {n : N} (h : nd W t = some n) (hp : ∀ p ∈ t.parts, ∀ i, find W p = some i → Eqv R p (cl i)) : Eqv R t (app cl n) := by
  obtain ⟨e1, e2⟩ := nd_iff.mp h
  cases t with
  | lf i =>
    cases n with
    | lf j => simp only [N.hd, T.hd, Hd.lf.injEq] at e1; subst e1; exact .refl _
    | nd m ids => simp [N.hd, T.hd] at e1
  | un l a =>
    cases n with
    | lf j => simp [N.hd, T.hd] at e1
    | nd m ids =>
      simp only [N.hd, T.hd, Hd.nd.injEq] at e1; subst e1
      obtain ⟨x, rfl, e1⟩ := map1 e2
      exact .un (hp a (by simp [T.parts]) x e1)
  | bin l a b =>
    cases n with
    | lf j => simp [N.hd, T.hd] at e1
    | nd m ids =>
      simp only [N.hd, T.hd, Hd.nd.injEq] at e1; subst e1
      obtain ⟨x, y, rfl, e1, e2⟩ := map2 e2
      exact .bin (hp a (by simp [T.parts]) x e1) (hp b (by simp [T.parts]) y e2)
  | ter l a b c =>
    cases n with
    | lf j => simp [N.hd, T.hd] at e1
    | nd m ids =>
      simp only [N.hd, T.hd, Hd.nd.injEq] at e1; subst e1
      obtain ⟨x, y, z, rfl, e1, e2, e3⟩ := map3 e2
      exact .ter (hp a (by simp [T.parts]) x e1) (hp b (by simp [T.parts]) y e2) (hp c (by simp [T.parts]) z e3)
theorem Sound.find {R : T → T → Prop} {cl : Nat → T} {W : Tab} (s : Sound R cl W) : ∀ (t : T) (i : Nat), K45.find W t = some i → Eqv R t (cl i) := by
  refine T.byParts ?_
  intro t ih i e
  obtain ⟨n, hn, hi⟩ := find_some e
  exact .trans (app_nd hn ih) (s n i hi)
theorem Sound.same {R : T → T → Prop} {cl : Nat → T} {W : Tab} (s : Sound R cl W) {a b : T} {i : Nat} (h1 : K45.find W a = some i) (h2 : K45.find W b = some i) : Eqv R a b :=
  .trans (s.find a i h1) (.symm (s.find b i h2))

/-! ### a whole parting -/
/-- S: all terms that were put, with their parts; R: what was joined -/
structure Whole (S : List T) (R : T → T → Prop) (W : Tab) : Prop where
  put : ∀ t ∈ S, ∃ i, find W t = some i
  cov : ∀ n i, W n = some i → ∃ t ∈ S, nd W t = some n
  sound : ∀ a b i, find W a = some i → find W b = some i → Eqv R a b
  closed : ∀ a b, R a b → ∃ i, find W a = some i ∧ find W b = some i
section
variable {S : List T} {R : T → T → Prop} {W W' : Tab}
theorem Whole.iff (h : Whole S R W) {a b : T} (ha : a ∈ S) : find W a = find W b ↔ Eqv R a b := by
  constructor
  · intro e
    obtain ⟨i, hi⟩ := h.put a ha
    exact h.sound a b i hi (by rw [← e]; exact hi)
  · exact find_eqv h.closed
theorem Whole.same (h : Whole S R W) (h' : Whole S R W') {a b : T} (ha : a ∈ S) : find W a = find W b ↔ find W' a = find W' b := by
  rw [h.iff ha, h'.iff ha]
/-- what lies with a put term lies with it in every whole parting -/
theorem Whole.to (h : Whole S R W) (h' : Whole S R W') {u : T} (hu : u ∈ S) {t : T} (e : find W t = find W u) : find W' t = find W' u :=
  ((h'.iff hu).mpr ((h.iff hu).mp e.symm)).symm
theorem Whole.nd_to (h : Whole S R W) (h' : Whole S R W') (hS : ∀ t ∈ S, ∀ p ∈ t.parts, p ∈ S) {a b : T} (ha : a ∈ S) (hb : b ∈ S) (e : nd W a = nd W b) : nd W' a = nd W' b := by
  obtain ⟨i, hi⟩ := h.put a ha
  obtain ⟨n, hn, _⟩ := find_some hi
  have hn' : nd W b = some n := by rw [← e]; exact hn
  obtain ⟨j, hj⟩ := h'.put a ha
  obtain ⟨m, hm, _⟩ := find_some hj
  rw [hm]
  symm
  obtain ⟨a1, a2⟩ := nd_iff.mp hn
  obtain ⟨b1, b2⟩ := nd_iff.mp hn'
  obtain ⟨c1, c2⟩ := nd_iff.mp hm
  refine nd_iff.mpr ⟨by rw [c1, ← a1, b1], ?_⟩
  rw [← c2]
  have e2 : a.parts.map (find W) = b.parts.map (find W) := by rw [a2, b2]
  have key : ∀ (ps qs : List T), (∀ p ∈ ps, p ∈ S) → ps.map (find W) = qs.map (find W) → qs.map (find W') = ps.map (find W') := by
    intro ps
    induction ps with
    | nil => intro qs _ e; cases qs with
      | nil => rfl
      | cons q qs => simp at e
    | cons p ps ih =>
      intro qs hp e
      cases qs with
      | nil => simp at e
      | cons q qs =>
        simp only [List.map_cons, List.cons.injEq] at e ⊢
        exact ⟨h.to h' (hp p List.mem_cons_self) e.1.symm, ih qs (fun p hp' => hp p (List.mem_cons_of_mem _ hp')) e.2⟩
  exact key _ _ (hS a ha) e2
end
end K45
/-! part K45M2 -/
set_option autoImplicit true
set_option autoImplicit false
set_option linter.all false
/-! Plain mathematics: the closing of a table, step by step; counts; the least terms; texts. -/
namespace K45
/-! ### a table as a list -/
def look (ws : List (N × Nat)) : Tab := fun n => (ws.find? fun p => decide (p.1 = n)).map (·.2)
theorem look_mem {ws : List (N × Nat)} {n : N} {i : Nat} (h : look ws n = some i) : (n, i) ∈ ws := by
  unfold look at h
  obtain ⟨p, hp, e⟩ := Option.map_eq_some_iff.mp h
  have h1 := List.mem_of_find?_eq_some hp
  have h2 := List.find?_some hp
  simp only [decide_eq_true_eq] at h2
  rw [← h2, ← e]
  exact h1
theorem look_of {ws : List (N × Nat)} {n : N} {i : Nat} (nd : (ws.map (·.1)).Nodup) (h : (n, i) ∈ ws) : look ws n = some i := by
  induction ws with
  | nil => cases h
  | cons p ws ih =>
    simp only [List.map_cons, List.nodup_cons] at nd
    rcases List.mem_cons.mp h with rfl | h
    · simp [look]
    · have hn : ¬ p.1 = n := fun e => nd.1 (by rw [e]; exact List.mem_map.mpr ⟨_, h, rfl⟩)
      have := ih nd.2 h
      unfold look at this ⊢
      rw [List.find?_cons_of_neg (by simp [hn])]
      exact this
theorem look_iff {ws : List (N × Nat)} {n : N} {i : Nat} (nd : (ws.map (·.1)).Nodup) : look ws n = some i ↔ (n, i) ∈ ws := ⟨look_mem, look_of nd⟩
theorem look_none {ws : List (N × Nat)} {n : N} : look ws n = none ↔ n ∉ ws.map (·.1) := by
  unfold look
  rw [Option.map_eq_none_iff, List.find?_eq_none]
  constructor
  · intro h hm
    obtain ⟨p, hp, e⟩ := List.mem_map.mp hm
    exact h p hp (by simp [e])
  · intro h p hp e
    simp only [decide_eq_true_eq] at e
    exact h (List.mem_map.mpr ⟨p, hp, e⟩)

/-! ### the closing -/
def Eqz (f : Nat → Nat) (P : List (Nat × Nat)) : Prop := ∀ p ∈ P, f p.1 = f p.2
/-- W0 is being closed: ρ tells where the classes have gone, P what is still to be joined, a and b were to be joined at first -/
structure Run (R : T → T → Prop) (cl : Nat → T) (W0 W : Tab) (ρ : Nat → Nat) (P : List (Nat × Nat)) (a b : Nat) : Prop where
  to : ∀ n i, W0 n = some i → ∃ j, W (n.map ρ) = some j ∧ ∀ f : Nat → Nat, Eqz f P → f j = f (ρ i)
  of : ∀ n j, W n = some j → ∃ n0 i, W0 n0 = some i ∧ n = n0.map ρ
  goal : ∀ f : Nat → Nat, Eqz f P → f (ρ a) = f (ρ b)
  snd : ∀ c, Eqv R (cl (ρ c)) (cl c)
  sndP : ∀ p ∈ P, Eqv R (cl p.1) (cl p.2)
  sndW : Sound R cl W
section
variable {R : T → T → Prop} {cl : Nat → T} {W0 W W' : Tab} {ρ : Nat → Nat} {P P' : List (Nat × Nat)} {a b : Nat}
theorem Run.start (s : Sound R cl W0) (h : Eqv R (cl a) (cl b)) : Run R cl W0 W0 id [(a, b)] a b where
  to := fun n i e => ⟨i, by rw [N.map_id]; exact e, fun f _ => rfl⟩
  of := fun n j e => ⟨n, j, e, by rw [N.map_id]⟩
  goal := fun f h => h (a, b) List.mem_cons_self
  snd := fun c => .refl _
  sndP := fun p hp => by rw [List.mem_singleton.mp hp]; exact h
  sndW := s
theorem Run.skip (r : Run R cl W0 W ρ P a b) (h : ∀ p ∈ P, p ∈ P' ∨ p.1 = p.2) (h' : ∀ p ∈ P', p ∈ P) : Run R cl W0 W ρ P' a b := by
  have k : ∀ f : Nat → Nat, Eqz f P' → Eqz f P := fun f z p hp => (h p hp).elim (z p) (fun e => by rw [e])
  exact ⟨fun n i e => by obtain ⟨j, h1, h2⟩ := r.to n i e; exact ⟨j, h1, fun f z => h2 f (k f z)⟩, r.of, fun f z => r.goal f (k f z), r.snd, fun p hp => r.sndP p (h' p hp), r.sndW⟩
/-- the lesser class for the greater one -/
def sg (low high c : Nat) : Nat := if c = high then low else c
theorem Run.step (r : Run R cl W0 W ρ P a b) {low high : Nat} (hlh : ∃ p ∈ P, p = (low, high) ∨ p = (high, low))
    (s1 : ∀ n j, W n = some j → ∃ j', W' (n.map (sg low high)) = some j' ∧ ∀ f : Nat → Nat, Eqz f P' → f j' = f (sg low high j))
    (s2 : ∀ n' j', W' n' = some j' → ∃ n j, W n = some j ∧ n' = n.map (sg low high) ∧ j' = sg low high j)
    (s3 : ∀ p ∈ P, (sg low high p.1, sg low high p.2) ∈ P' ∨ sg low high p.1 = sg low high p.2)
    (s4 : ∀ q ∈ P', (∃ p ∈ P, q = (sg low high p.1, sg low high p.2)) ∨ ∃ n1 j1 n2 j2, W n1 = some j1 ∧ W n2 = some j2 ∧ n1.map (sg low high) = n2.map (sg low high) ∧ q = (sg low high j1, sg low high j2)) :
    Run R cl W0 W' (sg low high ∘ ρ) P' a b := by
  have k : ∀ f : Nat → Nat, Eqz f P' → Eqz (f ∘ sg low high) P := fun f z p hp => (s3 p hp).elim (fun e => z _ e) (fun e => congrArg f e)
  have hl : Eqv R (cl low) (cl high) := by
    obtain ⟨p, hp, e⟩ := hlh
    rcases e with rfl | rfl
    · exact r.sndP _ hp
    · exact .symm (r.sndP _ hp)
  have sgc : ∀ d, Eqv R (cl (sg low high d)) (cl d) := fun d => by
    unfold sg
    split
    · rename_i e; rw [e]; exact hl
    · exact .refl _
  refine ⟨fun n i e => ?_, fun n j e => ?_, fun f z => r.goal _ (k f z), fun c => .trans (sgc _) (r.snd c), fun q hq => ?_, fun n j e => ?_⟩
  · obtain ⟨j, h1, h2⟩ := r.to n i e
    obtain ⟨j', h3, h4⟩ := s1 _ _ h1
    rw [N.map_map] at h3
    exact ⟨j', h3, fun f z => (h4 f z).trans (h2 _ (k f z))⟩
  · obtain ⟨n1, j1, h1, rfl, rfl⟩ := s2 n j e
    obtain ⟨n0, i, h2, rfl⟩ := r.of _ _ h1
    exact ⟨n0, i, h2, by rw [N.map_map]⟩
  · rcases s4 q hq with ⟨p, hp, rfl⟩ | ⟨n1, j1, n2, j2, h1, h2, h3, rfl⟩
    · exact .trans (sgc _) (.trans (r.sndP p hp) (.symm (sgc _)))
    · refine .trans (sgc _) (.trans (.symm (r.sndW _ _ h1)) (.trans (.trans (.symm (app_map sgc n1)) ?_) (.trans (r.sndW _ _ h2) (.symm (sgc _)))))
      rw [h3]
      exact app_map sgc n2
  · obtain ⟨n1, j1, h1, rfl, rfl⟩ := s2 n j e
    exact .trans (app_map sgc n1) (.trans (r.sndW _ _ h1) (.symm (sgc _)))
theorem Run.le (r : Run R cl W0 W ρ [] a b) : Le ρ W0 W := ⟨fun n i e => by
  obtain ⟨j, h1, h2⟩ := r.to n i e
  rw [h1, show j = ρ i from h2 id (fun p hp => by cases hp)]⟩
theorem Run.eq (r : Run R cl W0 W ρ [] a b) : ρ a = ρ b := r.goal id (fun p hp => by cases hp)
end

/-! ### counts -/
theorem len_le {α β : Type} (r : α → β → Prop) : ∀ (L : List α) (M : List β), L.Nodup → (∀ x ∈ L, ∃ y ∈ M, r x y) → (∀ x ∈ L, ∀ x' ∈ L, ∀ y, r x y → r x' y → x = x') → L.length ≤ M.length
  | [], M, _, _, _ => Nat.zero_le _
  | x :: L, M, nd, h1, h2 => by
    obtain ⟨y, hy, hr⟩ := h1 x List.mem_cons_self
    obtain ⟨s, t, rfl⟩ := List.append_of_mem hy
    have nd' := List.nodup_cons.mp nd
    have ih := len_le r L (s ++ t) nd'.2 (fun x' hx' => by
      obtain ⟨y', hy', hr'⟩ := h1 x' (List.mem_cons_of_mem _ hx')
      refine ⟨y', ?_, hr'⟩
      rcases List.mem_append.mp hy' with q | q
      · exact List.mem_append_left _ q
      · rcases List.mem_cons.mp q with rfl | q
        · exact absurd (h2 x List.mem_cons_self x' (List.mem_cons_of_mem _ hx') y' hr hr') (fun e => nd'.1 (by rw [e]; exact hx'))
        · exact List.mem_append_right _ q) (fun x' hx' x'' hx'' => h2 x' (List.mem_cons_of_mem _ hx') x'' (List.mem_cons_of_mem _ hx''))
    simp only [List.length_cons, List.length_append] at ih ⊢
    omega
theorem len_eq {α β : Type} (r : α → β → Prop) (L : List α) (M : List β) (nL : L.Nodup) (nM : M.Nodup) (h1 : ∀ x ∈ L, ∃ y ∈ M, r x y) (h2 : ∀ y ∈ M, ∃ x ∈ L, r x y)
    (i1 : ∀ x x' y, r x y → r x' y → x = x') (i2 : ∀ x y y', r x y → r x y' → y = y') : L.length = M.length :=
  Nat.le_antisymm (len_le r L M nL h1 fun x _ x' _ y => i1 x x' y) (len_le (fun y x => r x y) M L nM h2 fun y _ y' _ x => i2 x y y')
section
variable {S : List T} {R : T → T → Prop}
theorem Whole.nd_some {W : Tab} (h : Whole S R W) {s : T} (hs : s ∈ S) : ∃ n i, nd W s = some n ∧ W n = some i ∧ find W s = some i := by
  obtain ⟨i, hi⟩ := h.put s hs
  obtain ⟨n, hn, e⟩ := find_some hi
  exact ⟨n, i, hn, e, hi⟩
/-- as many nodes -/
theorem Whole.nodes {ws ws' : List (N × Nat)} (h : Whole S R (look ws)) (h' : Whole S R (look ws')) (hS : ∀ t ∈ S, ∀ p ∈ t.parts, p ∈ S) (n1 : (ws.map (·.1)).Nodup) (n2 : (ws'.map (·.1)).Nodup) : ws.length = ws'.length := by
  have e := len_eq (fun (n m : N) => ∃ s ∈ S, nd (look ws) s = some n ∧ nd (look ws') s = some m) (ws.map (·.1)) (ws'.map (·.1)) n1 n2 (fun n hn => ?_) (fun n hn => ?_) (fun n n' m => ?_) (fun n m m' => ?_)
  · simpa using e
  · obtain ⟨⟨n, i⟩, hp, rfl⟩ := List.mem_map.mp hn
    obtain ⟨s, hs, e⟩ := h.cov n i (look_of n1 hp)
    obtain ⟨m, j, a1, a2, _⟩ := h'.nd_some hs
    exact ⟨m, List.mem_map.mpr ⟨_, look_mem a2, rfl⟩, s, hs, e, a1⟩
  · obtain ⟨⟨n, i⟩, hp, rfl⟩ := List.mem_map.mp hn
    obtain ⟨s, hs, e⟩ := h'.cov n i (look_of n2 hp)
    obtain ⟨m, j, a1, a2, _⟩ := h.nd_some hs
    exact ⟨m, List.mem_map.mpr ⟨_, look_mem a2, rfl⟩, s, hs, a1, e⟩
  · rintro ⟨s, hs, a1, a2⟩ ⟨t, ht, b1, b2⟩
    have := h'.nd_to h hS hs ht (a2.trans b2.symm)
    rw [a1, b1] at this
    exact Option.some.inj this
  · rintro ⟨s, hs, a1, a2⟩ ⟨t, ht, b1, b2⟩
    have := h.nd_to h' hS hs ht (a1.trans b1.symm)
    rw [a2, b2] at this
    exact Option.some.inj this
/-- as many classes -/
theorem Whole.classes {W W' : Tab} {L L' : List Nat} (h : Whole S R W) (h' : Whole S R W') (n1 : L.Nodup) (n2 : L'.Nodup) (l1 : ∀ c, c ∈ L ↔ ∃ s ∈ S, find W s = some c) (l2 : ∀ c, c ∈ L' ↔ ∃ s ∈ S, find W' s = some c) : L.length = L'.length := by
  refine len_eq (fun (c d : Nat) => ∃ s ∈ S, find W s = some c ∧ find W' s = some d) L L' n1 n2 (fun c hc => ?_) (fun c hc => ?_) (fun n n' m => ?_) (fun n m m' => ?_)
  · obtain ⟨s, hs, e⟩ := (l1 c).mp hc
    obtain ⟨d, hd⟩ := h'.put s hs
    exact ⟨d, (l2 d).mpr ⟨s, hs, hd⟩, s, hs, e, hd⟩
  · obtain ⟨s, hs, e⟩ := (l2 c).mp hc
    obtain ⟨d, hd⟩ := h.put s hs
    exact ⟨d, (l1 d).mpr ⟨s, hs, hd⟩, s, hs, hd, e⟩
  · rintro ⟨s, hs, a1, a2⟩ ⟨t, ht, b1, b2⟩
    have := h'.to h ht (t := s) (a2.trans b2.symm)
    rw [a1, b1] at this
    exact Option.some.inj this
  · rintro ⟨s, hs, a1, a2⟩ ⟨t, ht, b1, b2⟩
    have := h.to h' ht (t := s) (a1.trans b1.symm)
    rw [a2, b2] at this
    exact Option.some.inj this
/-- as many nodes in a class -/
theorem Whole.members {W W' : Tab} {L L' : List N} (h : Whole S R W) (h' : Whole S R W') (hS : ∀ t ∈ S, ∀ p ∈ t.parts, p ∈ S) {u : T} (hu : u ∈ S) {c c' : Nat} (hc : find W u = some c) (hc' : find W' u = some c') (n1 : L.Nodup) (n2 : L'.Nodup)
    (l1 : ∀ n, n ∈ L ↔ W n = some c) (l2 : ∀ n, n ∈ L' ↔ W' n = some c') : L.length = L'.length := by
  refine len_eq (fun (n m : N) => ∃ s ∈ S, nd W s = some n ∧ nd W' s = some m) L L' n1 n2 (fun n hn => ?_) (fun n hn => ?_) (fun n n' m => ?_) (fun n m m' => ?_)
  · have hn := (l1 n).mp hn
    obtain ⟨s, hs, e⟩ := h.cov n c hn
    obtain ⟨m, j, a1, a2, a3⟩ := h'.nd_some hs
    have q := h.to h' hu (t := s) ((find_of e hn).trans hc.symm)
    rw [a3, hc'] at q
    rw [Option.some.inj q] at a2
    exact ⟨m, (l2 m).mpr a2, s, hs, e, a1⟩
  · have hn := (l2 n).mp hn
    obtain ⟨s, hs, e⟩ := h'.cov n c' hn
    obtain ⟨m, j, a1, a2, a3⟩ := h.nd_some hs
    have q := h'.to h hu (t := s) ((find_of e hn).trans hc'.symm)
    rw [a3, hc] at q
    rw [Option.some.inj q] at a2
    exact ⟨m, (l1 m).mpr a2, s, hs, a1, e⟩
  · rintro ⟨s, hs, a1, a2⟩ ⟨t, ht, b1, b2⟩
    have := h'.nd_to h hS hs ht (a2.trans b2.symm)
    rw [a1, b1] at this
    exact Option.some.inj this
  · rintro ⟨s, hs, a1, a2⟩ ⟨t, ht, b1, b2⟩
    have := h.nd_to h' hS hs ht (a1.trans b1.symm)
    rw [a2, b2] at this
    exact Option.some.inj this
end

/-! ### kinds -/
def Lf.word : Lf → Bool
  | .fp => false | .fa => false | .tr => false | _ => true
def Lab.word : Lab → Bool
  | .no => false | .equ => false | .both => false | _ => true
def Lab.args : Lab → List Bool
  | .neg => [true] | .shl => [true] | .mem => [true] | .no => [false]
  | .add => [true, true] | .equ => [true, true] | .both => [false, false]
  | .cond => [false, true, true] | .loop => [true, true, true]
def Hd.word : Hd → Bool
  | .lf i => i.word
  | .nd l => l.word
def Hd.args : Hd → List Bool
  | .lf _ => []
  | .nd l => l.args
def T.word (t : T) : Bool := t.hd.word
def T.ok : T → Prop
  | .lf _ => True
  | .un l a => l.args = [a.word] ∧ a.ok
  | .bin l a b => l.args = [a.word, b.word] ∧ a.ok ∧ b.ok
  | .ter l a b c => l.args = [a.word, b.word, c.word] ∧ a.ok ∧ b.ok ∧ c.ok
theorem T.ok_iff (t : T) : t.ok ↔ t.hd.args = t.parts.map T.word ∧ ∀ p ∈ t.parts, p.ok := by
  cases t <;> simp [T.ok, T.hd, T.parts, Hd.args]
theorem T.ok_under {t : T} (h : t.ok) : ∀ q ∈ t.under, q.ok := by
  revert h
  refine T.byParts (P := fun t => t.ok → ∀ q ∈ t.under, q.ok) ?_ t
  intro t ih h q hq
  rw [T.under_eq] at hq
  rcases List.mem_cons.mp hq with rfl | hq
  · exact h
  · obtain ⟨l, hl, hq⟩ := List.mem_flatten.mp hq
    obtain ⟨r, hr, rfl⟩ := List.mem_map.mp hl
    exact ih r hr (((T.ok_iff t).mp h).2 r hr) q hq
theorem Eqv.word {R : T → T → Prop} (hR : ∀ a b, R a b → a.word = b.word) {s t : T} (e : Eqv R s t) : s.word = t.word := by
  induction e with
  | refl t => rfl
  | symm _ ih => exact ih.symm
  | trans _ _ ih1 ih2 => exact ih1.trans ih2
  | base r => exact hR _ _ r
  | un _ _ => rfl
  | bin _ _ _ _ => rfl
  | ter _ _ _ _ _ _ => rfl

/-! ### the least members -/
/-- sz: the least size of a class's members -/
structure Sizes (W : Tab) (sz : Nat → Nat) : Prop where
  le : ∀ t c, find W t = some c → sz c ≤ t.size
  at_ : ∀ t c, find W t = some c → ∃ u, find W u = some c ∧ u.size = sz c
def wsum (sz : Nat → Nat) (n : N) : Nat := 1 + (n.ids.map sz).sum
/-- fnd: the first member of a class -/
structure Firsts (W : Tab) (sz : Nat → Nat) (txt : T → List Nat) (fnd : Nat → T) : Prop where
  at_ : ∀ n c, W n = some c → ∃ m, W m = some c ∧ wsum sz m = sz c ∧ fnd c = app fnd m
  least : ∀ n c, W n = some c → wsum sz n = sz c → ¬ txt (app fnd n) < txt (fnd c)
theorem T.size_parts (t : T) : t.size = 1 + (t.parts.map T.size).sum := by
  cases t <;> simp [T.size, T.parts] <;> omega
theorem app_find {S : List T} {W : Tab} {fnd : Nat → T} {v : T} {n : N} (hv : nd W v = some n) (h : ∀ i ∈ n.ids, find W (fnd i) = some i) : nd W (app fnd n) = some n ∧ (app fnd n).hd = n.hd ∧ (app fnd n).parts = n.ids.map fnd := by
  obtain ⟨e1, e2⟩ := nd_iff.mp hv
  have main : (app fnd n).hd = n.hd ∧ (app fnd n).parts = n.ids.map fnd := by
    cases n with
    | lf i => exact ⟨rfl, rfl⟩
    | nd m ids =>
      cases v with
      | lf i => simp [N.hd, T.hd] at e1
      | un l a => obtain ⟨x, rfl, _⟩ := map1 e2; exact ⟨rfl, rfl⟩
      | bin l a b => obtain ⟨x, y, rfl, _⟩ := map2 e2; exact ⟨rfl, rfl⟩
      | ter l a b c => obtain ⟨x, y, z, rfl, _⟩ := map3 e2; exact ⟨rfl, rfl⟩
  refine ⟨nd_iff.mpr ⟨main.1.symm, ?_⟩, main⟩
  rw [main.2, List.map_map]
  exact List.map_congr_left h
section
variable {S : List T} {R : T → T → Prop} {W W' : Tab} {sz sz' : Nat → Nat} {txt : T → List Nat} {fnd fnd' : Nat → T}
theorem sum_mem {f : Nat → Nat} {ids : List Nat} {i : Nat} (h : i ∈ ids) : f i ≤ (ids.map f).sum := by
  induction ids with
  | nil => cases h
  | cons j ids ih =>
    simp only [List.map_cons, List.sum_cons]
    rcases List.mem_cons.mp h with rfl | h
    · omega
    · have := ih h; omega
theorem Whole.sizes (h : Whole S R W) (h' : Whole S R W') (z : Sizes W sz) (z' : Sizes W' sz') {u : T} (hu : u ∈ S) {c c' : Nat} (hc : find W u = some c) (hc' : find W' u = some c') : sz c = sz' c' := by
  obtain ⟨t, h1, h2⟩ := z.at_ u c hc
  obtain ⟨t', h1', h2'⟩ := z'.at_ u c' hc'
  have a := h.to h' hu (t := t) (h1.trans hc.symm)
  have b := h'.to h hu (t := t') (h1'.trans hc'.symm)
  have q1 := z'.le t c' (a.trans hc')
  have q2 := z.le t' c (b.trans hc)
  omega
/-- the first member is a member, of the least size; it is a lawful term -/
theorem Firsts.member (h : Whole S R W) (hk : ∀ t ∈ S, t.ok) (hR : ∀ a b, R a b → a.word = b.word) (z : Sizes W sz) (f : Firsts W sz txt fnd) :
    ∀ (k : Nat) (c : Nat) (n : N), W n = some c → sz c = k → find W (fnd c) = some c ∧ (fnd c).ok ∧ (fnd c).size = sz c := by
  intro k
  induction k using Nat.strongRecOn with
  | _ k ih =>
    intro c n hn hk'
    obtain ⟨m, m1, m2, m3⟩ := f.at_ n c hn
    obtain ⟨v, hv, e⟩ := h.cov m c m1
    have lt : ∀ i ∈ m.ids, sz i < sz c := fun i hi => by
      have := sum_mem (f := sz) hi
      unfold wsum at m2
      omega
    have ex : ∀ i ∈ m.ids, ∃ p ∈ v.parts, find W p = some i := map_some_mem' (nd_iff.mp e).2
    have key : ∀ i ∈ m.ids, find W (fnd i) = some i ∧ (fnd i).ok ∧ (fnd i).size = sz i := fun i hi => by
      obtain ⟨p, hp, ep⟩ := ex i hi
      obtain ⟨n', _, en'⟩ := find_some ep
      exact ih (sz i) (by have := lt i hi; omega) i n' en' rfl
    obtain ⟨a1, a2, a3⟩ := app_find (S := S) (fnd := fnd) e fun i hi => (key i hi).1
    rw [m3]
    refine ⟨find_of a1 m1, ?_, ?_⟩
    · rw [T.ok_iff, a2, a3]
      obtain ⟨e1, e2⟩ := nd_iff.mp e
      refine ⟨?_, fun p hp => ?_⟩
      · rw [e1, ((T.ok_iff v).mp (hk v hv)).1]
        have gen : ∀ (ps : List T) (ids : List Nat), (∀ i ∈ ids, find W (fnd i) = some i) → ps.map (find W) = ids.map some → ps.map T.word = (ids.map fnd).map T.word := by
          intro ps
          induction ps with
          | nil => intro ids _ e; cases ids with
            | nil => rfl
            | cons => simp at e
          | cons p ps ihp =>
            intro ids hid e
            cases ids with
            | nil => simp at e
            | cons i ids =>
              simp only [List.map_cons, List.cons.injEq] at e ⊢
              exact ⟨(h.sound _ _ i e.1 (hid i List.mem_cons_self)).word hR, ihp ids (fun j hj => hid j (List.mem_cons_of_mem _ hj)) e.2⟩
        exact gen _ _ (fun i hi => (key i hi).1) e2
      · obtain ⟨i, hi, rfl⟩ := List.mem_map.mp hp
        exact (key i hi).2.1
    · rw [T.size_parts, a3, List.map_map, ← m2, wsum]
      congr 2
      exact List.map_congr_left fun i hi => (key i hi).2.2
/-- the first members do not hang on the numbers of the classes -/
theorem Whole.firsts (h : Whole S R W) (h' : Whole S R W') (hS : ∀ t ∈ S, ∀ p ∈ t.parts, p ∈ S) (hk : ∀ t ∈ S, t.ok) (hR : ∀ a b, R a b → a.word = b.word) (z : Sizes W sz) (z' : Sizes W' sz') (f : Firsts W sz txt fnd) (f' : Firsts W' sz' txt fnd')
    (inj : ∀ s t : T, s.ok → t.ok → txt s = txt t → s = t) : ∀ (k : Nat) (u : T), u ∈ S → ∀ c c', find W u = some c → find W' u = some c' → sz c = k → fnd c = fnd' c' := by
  intro k
  induction k using Nat.strongRecOn with
  | _ k ih =>
    intro u hu c c' hc hc' hsz
    have one : ∀ {W W' : Tab} {sz sz' : Nat → Nat} {fnd fnd' : Nat → T}, Whole S R W → Whole S R W' → Sizes W sz → Sizes W' sz' → Firsts W sz txt fnd → Firsts W' sz' txt fnd' → (∀ (u : T), u ∈ S → ∀ d d', find W u = some d → find W' u = some d' → sz d < k → fnd d = fnd' d') →
        ∀ c c', find W u = some c → find W' u = some c' → sz c = k → ¬ txt (fnd c) < txt (fnd' c') := by
      intro W W' sz sz' fnd fnd' h h' z z' f f' ih c c' hc hc' hsz
      obtain ⟨n, hn, e0⟩ := find_some hc
      obtain ⟨m, m1, m2, m3⟩ := f.at_ n c e0
      obtain ⟨v, hv, e⟩ := h.cov m c m1
      obtain ⟨m', j, a1, a2, a3⟩ := h'.nd_some hv
      have q := h.to h' hu (t := v) ((find_of e m1).trans hc.symm)
      rw [a3, hc'] at q
      rw [Option.some.inj q] at a2
      obtain ⟨b1, b2⟩ := nd_iff.mp e
      obtain ⟨d1, d2⟩ := nd_iff.mp a1
      have lt : ∀ i ∈ m.ids, sz i < k := fun i hi => by
        have := sum_mem (f := sz) hi
        unfold wsum at m2
        omega
      have gen : ∀ (ps : List T) (ids ids' : List Nat), (∀ p ∈ ps, p ∈ S) → (∀ i ∈ ids, sz i < k) → ps.map (find W) = ids.map some → ps.map (find W') = ids'.map some → ids.map sz = ids'.map sz' ∧ ids.map fnd = ids'.map fnd' := by
        intro ps
        induction ps with
        | nil => intro ids ids' _ _ e e'; cases ids <;> cases ids' <;> simp at e e' ⊢
        | cons p ps ihp =>
          intro ids ids' hp hl e e'
          cases ids with
          | nil => simp at e
          | cons i ids =>
            cases ids' with
            | nil => simp at e'
            | cons i' ids' =>
              simp only [List.map_cons, List.cons.injEq] at e e' ⊢
              obtain ⟨r1, r2⟩ := ihp ids ids' (fun q hq => hp q (List.mem_cons_of_mem _ hq)) (fun j hj => hl j (List.mem_cons_of_mem _ hj)) e.2 e'.2
              exact ⟨⟨h.sizes h' z z' (hp p List.mem_cons_self) e.1 e'.1, r1⟩, ih p (hp p List.mem_cons_self) i i' e.1 e'.1 (hl i List.mem_cons_self), r2⟩
      obtain ⟨g1, g2⟩ := gen v.parts m.ids m'.ids (hS v hv) lt b2 d2
      have esz := h.sizes h' z z' hu hc hc'
      have w' : wsum sz' m' = sz' c' := by
        unfold wsum at m2 ⊢
        rw [← g1, m2, esz]
      have ea : app fnd m = app fnd' m' := by
        have mem : ∀ i ∈ m.ids, find W (fnd i) = some i := fun i hi => by
          obtain ⟨p, hp, ep⟩ := map_some_mem' b2 i hi
          obtain ⟨n', _, en'⟩ := find_some ep
          exact (Firsts.member h hk hR z f _ i n' en' rfl).1
        have mem' : ∀ i ∈ m'.ids, find W' (fnd' i) = some i := fun i hi => by
          obtain ⟨p, hp, ep⟩ := map_some_mem' d2 i hi
          obtain ⟨n', _, en'⟩ := find_some ep
          exact (Firsts.member h' hk hR z' f' _ i n' en' rfl).1
        obtain ⟨_, c2, c3⟩ := app_find (S := S) e mem
        obtain ⟨_, c2', c3'⟩ := app_find (S := S) a1 mem'
        exact T.ext_parts (by rw [c2, c2', b1, d1]) (by rw [c3, c3', g2])
      rw [m3, ea]
      exact f'.least m' c' a2 w'
    have esz := h.sizes h' z z' hu hc hc'
    have n1 := one h h' z z' f f' (fun u hu d d' e1 e2 hl => ih (sz d) hl u hu d d' e1 e2 rfl) c c' hc hc' hsz
    have n2 := one h' h z' z f' f (fun u hu d d' e1 e2 hl => (ih (sz d') (by rw [h.sizes h' z z' hu e2 e1]; exact hl) u hu d' d e2 e1 rfl).symm) c' c hc' hc (by rw [← esz]; exact hsz)
    obtain ⟨n, _, e0⟩ := find_some hc
    obtain ⟨n', _, e0'⟩ := find_some hc'
    refine inj _ _ (Firsts.member h hk hR z f _ c n e0 rfl).2.1 (Firsts.member h' hk hR z' f' _ c' n' e0' rfl).2.1 ?_
    exact List.le_antisymm (List.not_lt.mp n2) (List.not_lt.mp n1)
end
end K45
/-! part K45M3 -/
set_option autoImplicit true
set_option autoImplicit false
set_option linter.all false
/-! Plain mathematics: the text of a term tells the term. -/
namespace K45
inductive Itm where
  | lp | rp | a | b | c1 | z0 | m7 | qp | qa | tru | call | go | neg | shl | d3 | mem | no | add | equ | both | cond | loop | up | d1
  deriving DecidableEq
def Itm.cps : Itm → List Nat
  | .lp => [40] | .rp => [41] | .a => [97] | .b => [98] | .c1 => [99, 49] | .z0 => [48] | .m7 => [45, 55] | .qp => [63, 112] | .qa => [63, 97] | .tru => [116, 114, 117, 101]
  | .call => [99, 97, 108, 108] | .go => [103, 111] | .neg => [110, 101, 103] | .shl => [115, 104, 108] | .d3 => [51] | .mem => [97, 116] | .no => [110, 111] | .add => [97, 100, 100] | .equ => [101, 113]
  | .both => [98, 111, 116, 104] | .cond => [105, 102] | .loop => [108, 111, 111, 112] | .up => [117, 112] | .d1 => [49]
theorem Itm.cps_inj {s t : Itm} (h : s.cps = t.cps) : s = t := by
  cases s <;> cases t <;> first | rfl | (simp [Itm.cps] at h)
theorem Itm.cps_sp (t : Itm) : 32 ∉ t.cps := by cases t <;> simp [Itm.cps]
theorem Itm.cps_ne (t : Itm) : t.cps ≠ [] := by cases t <;> simp [Itm.cps]
def Lf.toks : Lf → List Itm
  | .na => [.a] | .nb => [.b] | .nc => [.c1] | .n0 => [.z0] | .n7 => [.m7] | .go => [.lp, .call, .go, .z0, .rp] | .fp => [.qp] | .fa => [.qa] | .tr => [.tru]
def Lab.toks : Lab → List Itm
  | .neg => [.neg] | .shl => [.shl, .d3] | .mem => [.mem] | .no => [.no] | .add => [.add] | .equ => [.equ] | .both => [.both] | .cond => [.cond] | .loop => [.loop, .up, .d1]
def T.toks : T → List Itm
  | .lf i => i.toks
  | .un l a => .lp :: (l.toks ++ (a.toks ++ [.rp]))
  | .bin l a b => .lp :: (l.toks ++ (a.toks ++ (b.toks ++ [.rp])))
  | .ter l a b c => .lp :: (l.toks ++ (a.toks ++ (b.toks ++ (c.toks ++ [.rp]))))
def sep : List (List Nat) → List Nat
  | [] => []
  | [w] => w
  | w :: v :: r => w ++ (32 :: sep (v :: r))
def T.txt (t : T) : List Nat := sep (t.toks.map Itm.cps)
theorem word_inj : ∀ (u v x y : List Nat), 32 ∉ u → 32 ∉ v → u ++ 32 :: x = v ++ 32 :: y → u = v ∧ x = y
  | [], [], x, y, _, _, e => ⟨rfl, by simpa using e⟩
  | [], c :: v, x, y, _, hv, e => by
    simp only [List.nil_append, List.cons_append, List.cons.injEq] at e
    exact absurd (by rw [← e.1]; exact List.mem_cons_self) hv
  | c :: u, [], x, y, hu, _, e => by
    simp only [List.nil_append, List.cons_append, List.cons.injEq] at e
    exact absurd (by rw [e.1]; exact List.mem_cons_self) hu
  | c :: u, d :: v, x, y, hu, hv, e => by
    simp only [List.cons_append, List.cons.injEq] at e
    obtain ⟨h1, h2⟩ := word_inj u v x y (fun h => hu (List.mem_cons_of_mem _ h)) (fun h => hv (List.mem_cons_of_mem _ h)) e.2
    exact ⟨by rw [e.1, h1], h2⟩
theorem word_no {u v y : List Nat} (hu : 32 ∉ u) (e : u = v ++ 32 :: y) : False := hu (by rw [e]; simp)
theorem sep_ne {w : List Nat} {r : List (List Nat)} (h : w ≠ []) : sep (w :: r) ≠ [] := by
  cases r <;> simp [sep, h]
theorem sep_inj : ∀ (s t : List Itm), sep (s.map Itm.cps) = sep (t.map Itm.cps) → s = t
  | [], [], _ => rfl
  | [], y :: t, e => absurd e.symm (by rw [List.map_cons]; exact sep_ne (Itm.cps_ne y))
  | x :: s, [], e => absurd e (by rw [List.map_cons]; exact sep_ne (Itm.cps_ne x))
  | [x], [y], e => by rw [Itm.cps_inj (show x.cps = y.cps from e)]
  | [x], y :: y' :: t, e => (word_no (Itm.cps_sp x) (show x.cps = y.cps ++ 32 :: sep ((y' :: t).map Itm.cps) from e)).elim
  | x :: x' :: s, [y], e => (word_no (Itm.cps_sp y) (show y.cps = x.cps ++ 32 :: sep ((x' :: s).map Itm.cps) from e.symm)).elim
  | x :: x' :: s, y :: y' :: t, e => by
    obtain ⟨h1, h2⟩ := word_inj _ _ _ _ (Itm.cps_sp x) (Itm.cps_sp y) (show x.cps ++ 32 :: sep ((x' :: s).map Itm.cps) = y.cps ++ 32 :: sep ((y' :: t).map Itm.cps) from e)
    rw [Itm.cps_inj h1, sep_inj (x' :: s) (y' :: t) h2]
/-- what a term's tokens begin with -/
theorem toks_ne (t : T) : ∃ k r, t.toks = k :: r := by
  cases t with
  | lf i => cases i <;> exact ⟨_, _, rfl⟩
  | un l a => exact ⟨_, _, rfl⟩
  | bin l a b => exact ⟨_, _, rfl⟩
  | ter l a b c => exact ⟨_, _, rfl⟩
theorem lab_inj : ∀ (l m : Lab) (x y : List Itm), l.toks ++ x = m.toks ++ y → l = m ∧ x = y := by
  intro l m x y e
  cases l <;> cases m <;> simp [Lab.toks] at e <;> first | exact ⟨rfl, e⟩ | exact e.elim
theorem lab_go (l : Lab) (x y : List Itm) : ¬ (l.toks ++ x = .call :: y) := by
  cases l <;> simp [Lab.toks]
theorem toks_inj : ∀ (s t : T), s.ok → t.ok → ∀ x y, s.toks ++ x = t.toks ++ y → s = t ∧ x = y := by
  have leafNode : ∀ (i : Lf) (l : Lab) (z x y : List Itm), ¬ (i.toks ++ x = .lp :: (l.toks ++ z) ++ y) := by
    intro i l z x y e
    cases i <;> simp [Lf.toks] at e
    exact lab_go l (z ++ y) _ e.symm
  intro s
  induction s with
  | lf i =>
    intro t _ _ x y e
    cases t with
    | lf j => cases i <;> cases j <;> simp [T.toks, Lf.toks] at e <;> first | exact ⟨rfl, e⟩ | exact e.elim
    | un l a => exact (leafNode i l _ x y e).elim
    | bin l a b => exact (leafNode i l _ x y e).elim
    | ter l a b c => exact (leafNode i l _ x y e).elim
  | un l a ih =>
    intro t hs ht x y e
    cases t with
    | lf j => exact (leafNode j l _ y x e.symm).elim
    | un m a' =>
      simp only [T.toks, List.cons_append, List.append_assoc, List.cons.injEq, true_and] at e
      obtain ⟨rfl, e1⟩ := lab_inj _ _ _ _ e
      obtain ⟨rfl, e2⟩ := ih a' hs.2 ht.2 _ _ e1
      exact ⟨rfl, by simpa using e2⟩
    | bin m a' b' =>
      simp only [T.toks, List.cons_append, List.append_assoc, List.cons.injEq, true_and] at e
      obtain ⟨rfl, e1⟩ := lab_inj _ _ _ _ e
      have := hs.1.symm.trans ht.1
      simp at this
    | ter m a' b' c' =>
      simp only [T.toks, List.cons_append, List.append_assoc, List.cons.injEq, true_and] at e
      obtain ⟨rfl, e1⟩ := lab_inj _ _ _ _ e
      have := hs.1.symm.trans ht.1
      simp at this
  | bin l a b ih1 ih2 =>
    intro t hs ht x y e
    cases t with
    | lf j => exact (leafNode j l _ y x e.symm).elim
    | un m a' =>
      simp only [T.toks, List.cons_append, List.append_assoc, List.cons.injEq, true_and] at e
      obtain ⟨rfl, e1⟩ := lab_inj _ _ _ _ e
      have := hs.1.symm.trans ht.1
      simp at this
    | bin m a' b' =>
      simp only [T.toks, List.cons_append, List.append_assoc, List.cons.injEq, true_and] at e
      obtain ⟨rfl, e1⟩ := lab_inj _ _ _ _ e
      obtain ⟨rfl, e2⟩ := ih1 a' hs.2.1 ht.2.1 _ _ e1
      obtain ⟨rfl, e3⟩ := ih2 b' hs.2.2 ht.2.2 _ _ e2
      exact ⟨rfl, by simpa using e3⟩
    | ter m a' b' c' =>
      simp only [T.toks, List.cons_append, List.append_assoc, List.cons.injEq, true_and] at e
      obtain ⟨rfl, e1⟩ := lab_inj _ _ _ _ e
      have := hs.1.symm.trans ht.1
      simp at this
  | ter l a b c ih1 ih2 ih3 =>
    intro t hs ht x y e
    cases t with
    | lf j => exact (leafNode j l _ y x e.symm).elim
    | un m a' =>
      simp only [T.toks, List.cons_append, List.append_assoc, List.cons.injEq, true_and] at e
      obtain ⟨rfl, e1⟩ := lab_inj _ _ _ _ e
      have := hs.1.symm.trans ht.1
      simp at this
    | bin m a' b' =>
      simp only [T.toks, List.cons_append, List.append_assoc, List.cons.injEq, true_and] at e
      obtain ⟨rfl, e1⟩ := lab_inj _ _ _ _ e
      have := hs.1.symm.trans ht.1
      simp at this
    | ter m a' b' c' =>
      simp only [T.toks, List.cons_append, List.append_assoc, List.cons.injEq, true_and] at e
      obtain ⟨rfl, e1⟩ := lab_inj _ _ _ _ e
      obtain ⟨rfl, e2⟩ := ih1 a' hs.2.1 ht.2.1 _ _ e1
      obtain ⟨rfl, e3⟩ := ih2 b' hs.2.2.1 ht.2.2.1 _ _ e2
      obtain ⟨rfl, e4⟩ := ih3 c' hs.2.2.2 ht.2.2.2 _ _ e3
      exact ⟨rfl, by simpa using e4⟩
theorem txt_inj (s t : T) (hs : s.ok) (ht : t.ok) (e : s.txt = t.txt) : s = t := by
  have h := sep_inj _ _ e
  exact (toks_inj s t hs ht [] [] (by rw [h])).1
end K45
/-! part K45B -/
set_option autoImplicit true
set_option Elab.async false
set_option linter.all false
set_option maxRecDepth 100000
set_option maxHeartbeats 4000000
/-! What the defs stand on: facts of the head, defs by their promises, terms and nodes in the heap. -/
namespace K45
open PySem PySem.Spec PyProof.Rows L2
/-- the facts behind the top -/
structure Fx (P : Program) (w : World) (K : PySem.W.Frag) (mg : Str → Option Value) (base : Heap) : Prop where
  says : He.SaysT fa fn ts w K
  more : ex K = true
  glo : ∀ x : Str, (He.Fa.glo x).ok K = true → mg x = some (.ref (He.ga K x))
  free : ∀ x : Str, (He.Fa.free x).ok K = true → mg x = none
  int : ∀ (x : Str) (i : Int), (He.Fa.int x i).ok K = true → ∃ t, mg x = some (.int i t)
  str : ∀ (x z : Str), (He.Fa.str x z).ok K = true → ∃ t, mg x = some (.str z t)
  tab : ∀ p ∈ tf, LamX.TabB base mg (He.cT K p).1 (He.cT K p).2
section
variable {P : Program} {w : World} {K : PySem.W.Frag} {mg : Str → Option Value} {base : Heap}
theorem Fx.fact (X : Fx P w K mg base) (i : Nat) {f : He.Fa} (h : fa[i]? = some f := by rfl) : f.ok K = true := X.says.d.fact i h
theorem Fx.fn (X : Fx P w K mg base) (i : Nat) {d : He.DefD} (h : fn[i]? = some d := by rfl) : ∃ fd, FunD K d.name d.qual d.params d.body d.scope (d.dvs K) (d.kws K) (He.fAd K d.at_) fd := X.says.d.def_ i h
/-- a def of the module keeps a promise -/
structure Ok (P : Program) (w : World) (K : PySem.W.Frag) (mg : Str → Option Value) (base : Heap) (x : Str) (ps : List Str) (k : Nat) (sp : Sp) (f : Addr) (fd : FuncData) : Prop where
  gl : mg x = some (.ref f)
  kp : PySem.W.keepIn K (.ref f) = true
  bi : Binds K fd ps []
  ok : FnOk P w K mg base CX0 k f fd ps sp
abbrev OkD (P : Program) (w : World) (K : PySem.W.Frag) (mg : Str → Option Value) (base : Heap) (x : Str) (ps : List Str) (k : Nat) (sp : Sp) : Prop := ∃ f fd, Ok P w K mg base x ps k sp f fd
theorem OkD.mono {x : Str} {ps : List Str} {j k : Nat} {sp : Sp} (h : OkD P w K mg base x ps j sp) (l : j ≤ k) : OkD P w K mg base x ps k sp := by
  obtain ⟨f, fd, o⟩ := h
  exact ⟨f, fd, o.gl, o.kp, o.bi, o.ok.mono l⟩
theorem OkD.imp {x : Str} {ps : List Str} {k : Nat} {sp sp' : Sp} (h : OkD P w K mg base x ps k sp) (l : ∀ vs H Q E, sp' vs H Q E → sp vs H Q E) : OkD P w K mg base x ps k sp' := by
  obtain ⟨f, fd, o⟩ := h
  exact ⟨f, fd, o.gl, o.kp, o.bi, o.ok.imp l⟩
/-- a method of Classes keeps a promise -/
structure OkM (P : Program) (w : World) (K : PySem.W.Frag) (mg : Str → Option Value) (base : Heap) (x : Str) (ps : List Str) (k : Nat) (sp : Sp) (f : Addr) (fd : FuncData) : Prop where
  me : Meth K (He.ga K "Classes") x f
  bi : Binds K fd ps []
  ok : FnOk P w K mg base CX0 k f fd ps sp
abbrev OkE (P : Program) (w : World) (K : PySem.W.Frag) (mg : Str → Option Value) (base : Heap) (x : Str) (ps : List Str) (k : Nat) (sp : Sp) : Prop := ∃ f fd, OkM P w K mg base x ps k sp f fd
theorem OkE.mono {x : Str} {ps : List Str} {j k : Nat} {sp : Sp} (h : OkE P w K mg base x ps j sp) (l : j ≤ k) : OkE P w K mg base x ps k sp := by
  obtain ⟨f, fd, o⟩ := h
  exact ⟨f, fd, o.me, o.bi, o.ok.mono l⟩
theorem okN {x qual : Str} {params : Arguments} {body : List Stmt} {scope : Scope} {dvs : List V} {kws : List (Str × V)} {f : Addr} {fd : FuncData} {N ps : List Str} {k : Nat} {sp : Sp} (F : FunD K x qual params body scope dvs kws f fd) (S : FnScope N ps scope) (len : ∀ vs H Q E, sp vs H Q E → vs.length = ps.length)
    (hbody : ∀ (cdv : Value) (A : Around) (outer : List Env) (s : Shared) (H : Hp) (vs : List V) (Q : VK) (E : XK), Room k (A.deeper (envOfC qual scope s.heap.objs.size f cdv)) → sp vs H Q E →
      ∃ t, PSs (cxOf CX0 P w K mg base N qual scope f cdv A outer s H E).nox body t ∧ t { nx := fun _ H' => Q .non H', rt := Q } (start N vs) H) : FnOk P w K mg base CX0 (k + 1) f fd ps sp :=
  F.ok S len fun cdv A outer s H vs Q E hr h => by
    obtain ⟨t, h1, h2⟩ := hbody cdv A outer s H vs Q E hr h
    exact ⟨t, h1.nox, h2⟩
end
section
variable {X : Cx} {k : Nat} {x : Str} {ps : List Str} {sp : Sp} {f : Addr} {fd : FuncData} {e : Expr} {es : List Expr} {p pos : Pos} {t : TA}
/-- f(e, ..), f a def of the module -/
theorem pe_d (D : Ok X.prog X.w X.K X.mg X.base x ps k sp f fd) (hr : Room k X.A) (hg : Gl X x) (ha : PA X (e :: es) t) (hdb : (x == ("__debug__" : Str)) = false := by decide) (he : starEach (e :: es) X.env = (false, eval e X.env) :: starEach es X.env := by rfl)
    (hpl : (backTo pos (starEach es X.env)).any (·.1) = false := by rfl) :
    PE X (.Call (.Name x p) (e :: es) [] pos) (tCall sp [] E0 t) := pe_call D.ok hr hg D.gl D.kp D.bi .nil pass0 ha hdb he hpl
end

section
variable {P : Program} {w : World} {K : PySem.W.Frag} {mg : Str → Option Value} {base : Heap}
theorem Fx.b_isinstance (X : Fx P w K mg base) : mg "isinstance" = none := X.free _ (X.fact 33 (f := .free "isinstance") rfl)
theorem Fx.b_int (X : Fx P w K mg base) : mg "int" = none := X.free _ (X.fact 34 (f := .free "int") rfl)
theorem Fx.b_bool (X : Fx P w K mg base) : mg "bool" = none := X.free _ (X.fact 35 (f := .free "bool") rfl)
theorem Fx.b_list (X : Fx P w K mg base) : mg "list" = none := X.free _ (X.fact 36 (f := .free "list") rfl)
theorem Fx.b_tuple (X : Fx P w K mg base) : mg "tuple" = none := X.free _ (X.fact 37 (f := .free "tuple") rfl)
theorem Fx.b_str (X : Fx P w K mg base) : mg "str" = none := X.free _ (X.fact 38 (f := .free "str") rfl)
theorem Fx.b_len (X : Fx P w K mg base) : mg "len" = none := X.free _ (X.fact 39 (f := .free "len") rfl)
theorem Fx.b_all (X : Fx P w K mg base) : mg "all" = none := X.free _ (X.fact 40 (f := .free "all") rfl)
theorem Fx.b_zip (X : Fx P w K mg base) : mg "zip" = none := X.free _ (X.fact 41 (f := .free "zip") rfl)
theorem Fx.b_range (X : Fx P w K mg base) : mg "range" = none := X.free _ (X.fact 42 (f := .free "range") rfl)
theorem Fx.b_sorted (X : Fx P w K mg base) : mg "sorted" = none := X.free _ (X.fact 43 (f := .free "sorted") rfl)
theorem Fx.b_sum (X : Fx P w K mg base) : mg "sum" = none := X.free _ (X.fact 44 (f := .free "sum") rfl)
theorem Fx.b_min (X : Fx P w K mg base) : mg "min" = none := X.free _ (X.fact 45 (f := .free "min") rfl)
theorem Fx.b_max (X : Fx P w K mg base) : mg "max" = none := X.free _ (X.fact 46 (f := .free "max") rfl)
theorem Fx.b_abs (X : Fx P w K mg base) : mg "abs" = none := X.free _ (X.fact 47 (f := .free "abs") rfl)
theorem Fx.b_dict (X : Fx P w K mg base) : mg "dict" = none := X.free _ (X.fact 48 (f := .free "dict") rfl)
theorem Fx.g_Classes (X : Fx P w K mg base) : mg "Classes" = some (.ref (He.ga K "Classes")) := X.glo _ (X.fact 49 (f := .glo "Classes") rfl)
theorem Fx.g_SHAPES (X : Fx P w K mg base) : mg "SHAPES" = some (.ref (He.ga K "SHAPES")) := X.glo _ (X.fact 50 (f := .glo "SHAPES") rfl)
theorem Fx.g_INDEXES (X : Fx P w K mg base) : mg "INDEXES" = some (.ref (He.ga K "INDEXES")) := X.glo _ (X.fact 51 (f := .glo "INDEXES") rfl)
theorem Fx.g_TRUTHS (X : Fx P w K mg base) : mg "TRUTHS" = some (.ref (He.ga K "TRUTHS")) := X.glo _ (X.fact 52 (f := .glo "TRUTHS") rfl)
theorem Fx.g_LEAF_KINDS (X : Fx P w K mg base) : mg "LEAF_KINDS" = some (.ref (He.ga K "LEAF_KINDS")) := X.glo _ (X.fact 53 (f := .glo "LEAF_KINDS") rfl)
theorem Fx.g_MN (X : Fx P w K mg base) : ∃ t, mg "MOST_NUMBER" = some (.int 2147483647 t) := X.int _ _ (X.fact 54 (f := .int "MOST_NUMBER" 2147483647) rfl)
theorem Fx.g_MP (X : Fx P w K mg base) : ∃ t, mg "MOST_PARTS" = some (.int 6 t) := X.int _ _ (X.fact 55 (f := .int "MOST_PARTS" 6) rfl)
theorem Fx.g_LE (X : Fx P w K mg base) : ∃ t, mg "LETTERS" = some (.str "abcdefghijklmnopqrstuvwxyz" t) := X.str _ _ (X.fact 56 (f := .str "LETTERS" "abcdefghijklmnopqrstuvwxyz") rfl)
theorem Fx.g_FI (X : Fx P w K mg base) : ∃ t, mg "FIGURES" = some (.str "0123456789" t) := X.str _ _ (X.fact 57 (f := .str "FIGURES" "0123456789") rfl)
theorem Fx.cl (X : Fx P w K mg base) : Cls K (He.ga K "Classes") := He.cls_ok (X.fact 58 (f := .cls "Classes") rfl)
theorem Fx.maker (X : Fx P w K mg base) : Mk K (He.ga K "Classes") (He.ma K (He.ga K "Classes") "__init__") := He.mkr_ok (X.fact 59 (f := .mkr "Classes") rfl)
theorem Fx.nplaces (X : Fx P w K mg base) : NoAttr K (He.ga K "Classes") "places" := He.noat_ok (X.fact 60 (f := .noat "Classes" "places") rfl)
theorem Fx.nmany (X : Fx P w K mg base) : NoAttr K (He.ga K "Classes") "many" := He.noat_ok (X.fact 61 (f := .noat "Classes" "many") rfl)
theorem Fx.nrecord (X : Fx P w K mg base) : NoAttr K (He.ga K "Classes") "record" := He.noat_ok (X.fact 62 (f := .noat "Classes" "record") rfl)
theorem Fx.n_made (X : Fx P w K mg base) : NoAttr K (He.ga K "Classes") "_made" := He.noat_ok (X.fact 63 (f := .noat "Classes" "_made") rfl)
theorem Fx.n_where (X : Fx P w K mg base) : NoAttr K (He.ga K "Classes") "_where" := He.noat_ok (X.fact 64 (f := .noat "Classes" "_where") rfl)
theorem Fx.n_rows (X : Fx P w K mg base) : NoAttr K (He.ga K "Classes") "_rows" := He.noat_ok (X.fact 65 (f := .noat "Classes" "_rows") rfl)
theorem Fx.n_uses (X : Fx P w K mg base) : NoAttr K (He.ga K "Classes") "_uses" := He.noat_ok (X.fact 66 (f := .noat "Classes" "_uses") rfl)
theorem Fx.n_kinds (X : Fx P w K mg base) : NoAttr K (He.ga K "Classes") "_kinds" := He.noat_ok (X.fact 67 (f := .noat "Classes" "_kinds") rfl)
theorem Fx.n_first (X : Fx P w K mg base) : NoAttr K (He.ga K "Classes") "_first" := He.noat_ok (X.fact 68 (f := .noat "Classes" "_first") rfl)
theorem Fx.m__laid (X : Fx P w K mg base) : Meth K (He.ga K "Classes") "_laid" (He.ma K (He.ga K "Classes") "_laid") := He.meth_ok (X.fact 69 (f := .meth "Classes" "_laid") rfl)
theorem Fx.m_put (X : Fx P w K mg base) : Meth K (He.ga K "Classes") "put" (He.ma K (He.ga K "Classes") "put") := He.meth_ok (X.fact 70 (f := .meth "Classes" "put") rfl)
theorem Fx.m__told (X : Fx P w K mg base) : Meth K (He.ga K "Classes") "_told" (He.ma K (He.ga K "Classes") "_told") := He.meth_ok (X.fact 71 (f := .meth "Classes" "_told") rfl)
theorem Fx.m__merged (X : Fx P w K mg base) : Meth K (He.ga K "Classes") "_merged" (He.ma K (He.ga K "Classes") "_merged") := He.meth_ok (X.fact 72 (f := .meth "Classes" "_merged") rfl)
theorem Fx.m_join (X : Fx P w K mg base) : Meth K (He.ga K "Classes") "join" (He.ma K (He.ga K "Classes") "join") := He.meth_ok (X.fact 73 (f := .meth "Classes" "join") rfl)
theorem Fx.m_class_of (X : Fx P w K mg base) : Meth K (He.ga K "Classes") "class_of" (He.ma K (He.ga K "Classes") "class_of") := He.meth_ok (X.fact 74 (f := .meth "Classes" "class_of") rfl)
theorem Fx.m__found (X : Fx P w K mg base) : Meth K (He.ga K "Classes") "_found" (He.ma K (He.ga K "Classes") "_found") := He.meth_ok (X.fact 75 (f := .meth "Classes" "_found") rfl)
theorem Fx.m__need (X : Fx P w K mg base) : Meth K (He.ga K "Classes") "_need" (He.ma K (He.ga K "Classes") "_need") := He.meth_ok (X.fact 76 (f := .meth "Classes" "_need") rfl)
theorem Fx.m_nodes (X : Fx P w K mg base) : Meth K (He.ga K "Classes") "nodes" (He.ma K (He.ga K "Classes") "nodes") := He.meth_ok (X.fact 77 (f := .meth "Classes" "nodes") rfl)
theorem Fx.m_kind (X : Fx P w K mg base) : Meth K (He.ga K "Classes") "kind" (He.ma K (He.ga K "Classes") "kind") := He.meth_ok (X.fact 78 (f := .meth "Classes" "kind") rfl)
theorem Fx.m_first_term (X : Fx P w K mg base) : Meth K (He.ga K "Classes") "first_term" (He.ma K (He.ga K "Classes") "first_term") := He.meth_ok (X.fact 79 (f := .meth "Classes" "first_term") rfl)
/-! ### the tables of the top -/
theorem Fx.lkT (X : Fx P w K mg base) : ∃ es n, KDict K w (He.ga K "LEAF_KINDS") es n := X.says.tab 1 (t := (fun K => He.ga K "LEAF_KINDS", lkKeys)) rfl
theorem Fx.shT (X : Fx P w K mg base) : ∃ es n, KDict K w (He.ga K "SHAPES") es n := X.says.tab 0 (t := (fun K => He.ga K "SHAPES", shKeys)) rfl
theorem Fx.lkNone (X : Fx P w K mg base) {z : Str} (h : z ∈ lkNo) : PySem.W.nsIn K (He.ga K "LEAF_KINDS") z = some none := by
  have h1 := (He.ba X.more).1
  exact He.eqO_ok (List.all_eq_true.mp h1 z h)
theorem Fx.shNone (X : Fx P w K mg base) : PySem.W.nsIn K (He.ga K "SHAPES") "shl 3" = some none := He.eqO_ok (He.ba (He.ba X.more).2).1
theorem Fx.indexes (X : Fx P w K mg base) (H : Hp) : SqT K H (He.ga K "INDEXES") [.str "0", .str "1", .str "2", .str "3", .str "4", .str "5"] := He.tupB_ok (He.ba (He.ba (He.ba X.more).2).2).1 H
theorem Fx.truths (X : Fx P w K mg base) (H : Hp) : SqT K H (He.ga K "TRUTHS") [.str "true", .str "false"] := He.tupB_ok (He.ba (He.ba (He.ba (He.ba X.more).2).2).2).1 H
theorem Fx.lkVal (X : Fx P w K mg base) (i : Nat) {q : Str × He.Dv} (h : lkVals[i]? = some q := by rfl) : ∃ u, PySem.W.nsIn K (He.ga K "LEAF_KINDS") q.1 = some (some u) ∧ RelV (q.2.v K) u := He.valsB_ok (He.ba (He.ba (He.ba (He.ba (He.ba X.more).2).2).2).2).1 (List.mem_of_getElem? h)
theorem Fx.shVal (X : Fx P w K mg base) (i : Nat) {q : Str × He.Dv} (h : shVals[i]? = some q := by rfl) : ∃ u, PySem.W.nsIn K (He.ga K "SHAPES") q.1 = some (some u) ∧ RelV (q.2.v K) u := He.valsB_ok (He.ba (He.ba (He.ba (He.ba (He.ba (He.ba X.more).2).2).2).2).2).1 (List.mem_of_getElem? h)
theorem Fx.sh_neg (X : Fx P w K mg base) (H : Hp) : SqT K H (shp "neg" K) [.str "word", .ref (shq "neg" K)] := tupA_ok (He.ba (He.ba (He.ba (He.ba (He.ba (He.ba (He.ba X.more).2).2).2).2).2).2).1 H
theorem Fx.sq_neg (X : Fx P w K mg base) (H : Hp) : SqT K H (shq "neg" K) [.str "word"] := tupA_ok (He.ba (He.ba (He.ba (He.ba (He.ba (He.ba (He.ba (He.ba X.more).2).2).2).2).2).2).2).1 H
theorem Fx.sh_add (X : Fx P w K mg base) (H : Hp) : SqT K H (shp "add" K) [.str "word", .ref (shq "add" K)] := tupA_ok (He.ba (He.ba (He.ba (He.ba (He.ba (He.ba (He.ba (He.ba (He.ba X.more).2).2).2).2).2).2).2).2).1 H
theorem Fx.sq_add (X : Fx P w K mg base) (H : Hp) : SqT K H (shq "add" K) [.str "word", .str "word"] := tupA_ok (He.ba (He.ba (He.ba (He.ba (He.ba (He.ba (He.ba (He.ba (He.ba (He.ba X.more).2).2).2).2).2).2).2).2).2).1 H
theorem Fx.sh_if (X : Fx P w K mg base) (H : Hp) : SqT K H (shp "if" K) [.str "word", .ref (shq "if" K)] := tupA_ok (He.ba (He.ba (He.ba (He.ba (He.ba (He.ba (He.ba (He.ba (He.ba (He.ba (He.ba X.more).2).2).2).2).2).2).2).2).2).2).1 H
theorem Fx.sq_if (X : Fx P w K mg base) (H : Hp) : SqT K H (shq "if" K) [.str "truth", .str "word", .str "word"] := tupA_ok (He.ba (He.ba (He.ba (He.ba (He.ba (He.ba (He.ba (He.ba (He.ba (He.ba (He.ba (He.ba X.more).2).2).2).2).2).2).2).2).2).2).2).1 H
theorem Fx.sh_at (X : Fx P w K mg base) (H : Hp) : SqT K H (shp "at" K) [.str "word", .ref (shq "at" K)] := tupA_ok (He.ba (He.ba (He.ba (He.ba (He.ba (He.ba (He.ba (He.ba (He.ba (He.ba (He.ba (He.ba (He.ba X.more).2).2).2).2).2).2).2).2).2).2).2).2).1 H
theorem Fx.sq_at (X : Fx P w K mg base) (H : Hp) : SqT K H (shq "at" K) [.str "word"] := tupA_ok (He.ba (He.ba (He.ba (He.ba (He.ba (He.ba (He.ba (He.ba (He.ba (He.ba (He.ba (He.ba (He.ba (He.ba X.more).2).2).2).2).2).2).2).2).2).2).2).2).2).1 H
theorem Fx.sh_eq (X : Fx P w K mg base) (H : Hp) : SqT K H (shp "eq" K) [.str "truth", .ref (shq "eq" K)] := tupA_ok (He.ba (He.ba (He.ba (He.ba (He.ba (He.ba (He.ba (He.ba (He.ba (He.ba (He.ba (He.ba (He.ba (He.ba (He.ba X.more).2).2).2).2).2).2).2).2).2).2).2).2).2).2).1 H
theorem Fx.sq_eq (X : Fx P w K mg base) (H : Hp) : SqT K H (shq "eq" K) [.str "word", .str "word"] := tupA_ok (He.ba (He.ba (He.ba (He.ba (He.ba (He.ba (He.ba (He.ba (He.ba (He.ba (He.ba (He.ba (He.ba (He.ba (He.ba (He.ba X.more).2).2).2).2).2).2).2).2).2).2).2).2).2).2).2).1 H
theorem Fx.sh_no (X : Fx P w K mg base) (H : Hp) : SqT K H (shp "no" K) [.str "truth", .ref (shq "no" K)] := tupA_ok (He.ba (He.ba (He.ba (He.ba (He.ba (He.ba (He.ba (He.ba (He.ba (He.ba (He.ba (He.ba (He.ba (He.ba (He.ba (He.ba (He.ba X.more).2).2).2).2).2).2).2).2).2).2).2).2).2).2).2).2).1 H
theorem Fx.sq_no (X : Fx P w K mg base) (H : Hp) : SqT K H (shq "no" K) [.str "truth"] := tupA_ok (He.ba (He.ba (He.ba (He.ba (He.ba (He.ba (He.ba (He.ba (He.ba (He.ba (He.ba (He.ba (He.ba (He.ba (He.ba (He.ba (He.ba (He.ba X.more).2).2).2).2).2).2).2).2).2).2).2).2).2).2).2).2).2).1 H
theorem Fx.sh_both (X : Fx P w K mg base) (H : Hp) : SqT K H (shp "both" K) [.str "truth", .ref (shq "both" K)] := tupA_ok (He.ba (He.ba (He.ba (He.ba (He.ba (He.ba (He.ba (He.ba (He.ba (He.ba (He.ba (He.ba (He.ba (He.ba (He.ba (He.ba (He.ba (He.ba (He.ba X.more).2).2).2).2).2).2).2).2).2).2).2).2).2).2).2).2).2).2).1 H
theorem Fx.sq_both (X : Fx P w K mg base) (H : Hp) : SqT K H (shq "both" K) [.str "truth", .str "truth"] := tupA_ok (He.ba (He.ba (He.ba (He.ba (He.ba (He.ba (He.ba (He.ba (He.ba (He.ba (He.ba (He.ba (He.ba (He.ba (He.ba (He.ba (He.ba (He.ba (He.ba X.more).2).2).2).2).2).2).2).2).2).2).2).2).2).2).2).2).2).2).2 H
end
/-! ### labels, leaves, nodes -/
def Lab.str : Lab → Str
  | .neg => "neg" | .shl => "shl 3" | .mem => "at" | .no => "no" | .add => "add" | .equ => "eq" | .both => "both" | .cond => "if" | .loop => "loop up 1"
def Lf.str : Lf → Str
  | .na => "name" | .nb => "name" | .nc => "name" | .n0 => "number" | .n7 => "number" | .go => "call go 0" | .fp => "flag" | .fa => "flag" | .tr => "true"
def Lf.rest : Lf → List Key
  | .na => [.inr "a"] | .nb => [.inr "b"] | .nc => [.inr "c1"] | .n0 => [.inl 0] | .n7 => [.inl (-7)] | .go => [] | .fp => [.inr "p"] | .fa => [.inr "a"] | .tr => []
def Hd.str : Hd → Str
  | .lf i => i.str
  | .nd l => l.str
def Hd.rest : Hd → List Key
  | .lf i => i.rest
  | .nd _ => []
abbrev idK (i : Nat) : Key := .inl (i : Int)
/-- a node as a dict's key -/
def N.key (n : N) : List Key := .inr n.hd.str :: (n.hd.rest ++ n.ids.map idK)
theorem ids_inj : ∀ {a b : List Nat}, a.map idK = b.map idK → a = b
  | [], [], _ => rfl
  | [], _ :: _, h => by simp at h
  | _ :: _, [], h => by simp at h
  | x :: a, y :: b, h => by
    simp only [List.map_cons, List.cons.injEq, Sum.inl.injEq] at h
    rw [ids_inj h.2, show x = y by omega]
theorem lf_key_inj {i j : Lf} (h : (.inr i.str :: i.rest : List Key) = .inr j.str :: j.rest) : i = j := by
  cases i <;> cases j <;> first | rfl | (exact absurd h (by decide +kernel))
theorem lab_str_inj {l m : Lab} (h : l.str = m.str) : l = m := by
  cases l <;> cases m <;> first | rfl | (exact absurd h (by decide +kernel))
theorem lab_lf (l : Lab) (i : Lf) : ¬ l.str = i.str := by
  cases l <;> cases i <;> decide +kernel
theorem N.key_inj {n m : N} (h : n.key = m.key) : n = m := by
  cases n with
  | lf i =>
    cases m with
    | lf j =>
      rw [lf_key_inj (show (.inr i.str :: i.rest : List Key) = .inr j.str :: j.rest by simpa [N.key, N.hd, N.ids, Hd.str, Hd.rest] using h)]
    | nd l b =>
      simp only [N.key, N.hd, N.ids, Hd.str, List.cons.injEq, Sum.inr.injEq] at h
      exact absurd h.1.symm (lab_lf l i)
  | nd l a =>
    cases m with
    | lf j =>
      simp only [N.key, N.hd, N.ids, Hd.str, List.cons.injEq, Sum.inr.injEq] at h
      exact absurd h.1 (lab_lf l j)
    | nd l' b =>
      simp only [N.key, N.hd, N.ids, Hd.str, Hd.rest, List.nil_append, List.cons.injEq, Sum.inr.injEq] at h
      rw [lab_str_inj h.1, ids_inj h.2]

/-! ### terms in the heap -/
/-- v is the term t -/
def TmAt (H : Hp) : T → V → Prop
  | .lf i, v => ∃ a, v = .ref a ∧ H a = some (.tup (.str i.str :: i.rest.map kV))
  | .un l x, v => ∃ a u, v = .ref a ∧ H a = some (.tup [.str l.str, u]) ∧ TmAt H x u
  | .bin l x y, v => ∃ a u u', v = .ref a ∧ H a = some (.tup [.str l.str, u, u']) ∧ TmAt H x u ∧ TmAt H y u'
  | .ter l x y z, v => ∃ a u u' u'', v = .ref a ∧ H a = some (.tup [.str l.str, u, u', u'']) ∧ TmAt H x u ∧ TmAt H y u' ∧ TmAt H z u''
/-- all tuples stay -/
def Tups (H H' : Hp) : Prop := ∀ b xs, H b = some (.tup xs) → H' b = some (.tup xs)
theorem Tups.refl (H : Hp) : Tups H H := fun _ _ h => h
theorem Tups.trans {H H1 H2 : Hp} (a : Tups H H1) (b : Tups H1 H2) : Tups H H2 := fun c xs h => b c xs (a c xs h)
theorem Tups.of {H H' : Hp} (h : Same H H') : Tups H H' := fun b xs e => h b _ e
theorem Tups.upd {H : Hp} {p : Addr} {o : HO} (h : ∀ xs, H p ≠ some (.tup xs)) : Tups H (upd H p o) := fun b xs e => by
  rw [upd_ne (fun z => h xs (by rw [← z]; exact e))]; exact e
theorem Same.upd {H : Hp} {p : Addr} {o : HO} (h : H p = none) : Same H (upd H p o) := fun b u e => by
  rw [upd_ne (ne_of_none e h)]; exact e
theorem Tups.new {H : Hp} {p : Addr} {o : HO} (h : H p = none) : Tups H (L2.upd H p o) := .of (Same.upd h)
theorem TmAt.keep {H H' : Hp} (h : Tups H H') : ∀ {t : T} {v : V}, TmAt H t v → TmAt H' t v
  | .lf i, v, ⟨a, e, q⟩ => ⟨a, e, h _ _ q⟩
  | .un l x, v, ⟨a, u, e, q, q1⟩ => ⟨a, u, e, h _ _ q, q1.keep h⟩
  | .bin l x y, v, ⟨a, u, u', e, q, q1, q2⟩ => ⟨a, u, u', e, h _ _ q, q1.keep h, q2.keep h⟩
  | .ter l x y z, v, ⟨a, u, u', u'', e, q, q1, q2, q3⟩ => ⟨a, u, u', u'', e, h _ _ q, q1.keep h, q2.keep h, q3.keep h⟩
theorem TmAt.iff {H : Hp} {t : T} {v : V} : TmAt H t v ↔ ∃ a us, v = .ref a ∧ H a = some (.tup (.str t.hd.str :: (t.hd.rest.map kV ++ us))) ∧ Paired (TmAt H) t.parts us := by
  cases t with
  | lf i =>
    constructor
    · rintro ⟨a, e, q⟩; exact ⟨a, [], e, by rw [List.append_nil]; exact q, .nil⟩
    · rintro ⟨a, us, e, q, r⟩; cases r; exact ⟨a, e, by rw [List.append_nil] at q; exact q⟩
  | un l x =>
    constructor
    · rintro ⟨a, u, e, q, q1⟩; exact ⟨a, [u], e, q, .cons q1 .nil⟩
    · rintro ⟨a, us, e, q, r⟩; cases r with | cons q1 r => cases r; exact ⟨a, _, e, q, q1⟩
  | bin l x y =>
    constructor
    · rintro ⟨a, u, u', e, q, q1, q2⟩; exact ⟨a, [u, u'], e, q, .cons q1 (.cons q2 .nil)⟩
    · rintro ⟨a, us, e, q, r⟩; cases r with | cons q1 r => cases r with | cons q2 r => cases r; exact ⟨a, _, _, e, q, q1, q2⟩
  | ter l x y z =>
    constructor
    · rintro ⟨a, u, u', u'', e, q, q1, q2, q3⟩; exact ⟨a, [u, u', u''], e, q, .cons q1 (.cons q2 (.cons q3 .nil))⟩
    · rintro ⟨a, us, e, q, r⟩; cases r with | cons q1 r => cases r with | cons q2 r => cases r with | cons q3 r => cases r; exact ⟨a, _, _, _, e, q, q1, q2, q3⟩
theorem Paired.imp {α β : Type} {R R' : α → β → Prop} (h : ∀ a b, R a b → R' a b) : ∀ {xs : List α} {ys : List β}, Paired R xs ys → Paired R' xs ys
  | _, _, .nil => .nil
  | _, _, .cons r t => .cons (h _ _ r) (Paired.imp h t)
theorem Paired.get {α β : Type} {R : α → β → Prop} : ∀ {xs : List α} {ys : List β} {i : Nat} {y : β}, Paired R xs ys → ys[i]? = some y → ∃ x, xs[i]? = some x ∧ R x y
  | _, _, _, _, .nil, e => by simp at e
  | _, _, 0, _, .cons r _, e => by simp at e; subst e; exact ⟨_, rfl, r⟩
  | _, _, i + 1, y, .cons _ t, e => by
    obtain ⟨x, h1, h2⟩ := Paired.get (i := i) (y := y) t (by simpa using e)
    exact ⟨x, by simpa using h1, h2⟩
theorem Paired.get' {α β : Type} {R : α → β → Prop} : ∀ {xs : List α} {ys : List β} {i : Nat} {x : α}, Paired R xs ys → xs[i]? = some x → ∃ y, ys[i]? = some y ∧ R x y
  | _, _, _, _, .nil, e => by simp at e
  | _, _, 0, _, .cons r _, e => by simp at e; subst e; exact ⟨_, rfl, r⟩
  | _, _, i + 1, x, .cons _ t, e => by
    obtain ⟨y, h1, h2⟩ := Paired.get' (i := i) (x := x) t (by simpa using e)
    exact ⟨y, by simpa using h1, h2⟩
theorem Paired.snoc {α β : Type} {R : α → β → Prop} {x : α} {y : β} (h : R x y) : ∀ {xs : List α} {ys : List β}, Paired R xs ys → Paired R (xs ++ [x]) (ys ++ [y])
  | _, _, .nil => .cons h .nil
  | _, _, .cons r t => .cons r (Paired.snoc h t)
theorem Paired.len {α β : Type} {R : α → β → Prop} : ∀ {xs : List α} {ys : List β}, Paired R xs ys → xs.length = ys.length
  | _, _, .nil => rfl
  | _, _, .cons _ t => by rw [List.length_cons, List.length_cons, Paired.len t]
/-- what is an exact object of a term: an address -/
theorem TmAt.ref {H : Hp} {t : T} {v : V} (h : TmAt H t v) : ∃ a us, v = .ref a ∧ H a = some (.tup (.str t.hd.str :: (t.hd.rest.map kV ++ us))) ∧ Paired (TmAt H) t.parts us := TmAt.iff.mp h
end K45
namespace K45
open PySem PySem.Spec PyProof.Rows L2
/-! ### a term's tuple, item by item -/
def T.its (t : T) : List (Key ⊕ T) := .inl (.inr t.hd.str) :: (t.hd.rest.map .inl ++ t.parts.map .inr)
def ItAt (H : Hp) : Key ⊕ T → V → Prop
  | .inl k, u => u = kV k
  | .inr t, u => TmAt H t u
theorem ItAt.keep {H H' : Hp} (h : Tups H H') : ∀ {i : Key ⊕ T} {u : V}, ItAt H i u → ItAt H' i u
  | .inl _, _, e => e
  | .inr _, _, e => TmAt.keep h e
theorem its_keys {H : Hp} : ∀ (ks : List Key) {ts : List T} {us : List V}, Paired (TmAt H) ts us → Paired (ItAt H) (ks.map .inl ++ ts.map .inr) (ks.map kV ++ us)
  | [], _, _, .nil => .nil
  | [], _, _, .cons r t => .cons r (its_keys [] t)
  | k :: ks, _, _, r => .cons rfl (its_keys ks r)
theorem its_split {H : Hp} : ∀ (ks : List Key) {ts : List T} {xs : List V}, Paired (ItAt H) (ks.map .inl ++ ts.map .inr) xs → ∃ us, xs = ks.map kV ++ us ∧ Paired (TmAt H) ts us
  | [], [], _, .nil => ⟨[], rfl, .nil⟩
  | [], _ :: _, _, .cons r t => by
    obtain ⟨us, e, h⟩ := its_split [] t
    exact ⟨_ :: us, by rw [e]; rfl, .cons r h⟩
  | k :: ks, _, _, .cons r t => by
    obtain ⟨us, e, h⟩ := its_split ks t
    have r' : _ = kV k := r
    exact ⟨us, by rw [e, r']; rfl, h⟩
theorem TmAt.its {H : Hp} {t : T} {v : V} : TmAt H t v ↔ ∃ a xs, v = .ref a ∧ H a = some (.tup xs) ∧ Paired (ItAt H) t.its xs := by
  rw [TmAt.iff]
  constructor
  · rintro ⟨a, us, e, h, r⟩
    exact ⟨a, _, e, h, .cons rfl (its_keys _ r)⟩
  · rintro ⟨a, xs, e, h, r⟩
    cases r with
    | cons r1 r2 =>
      obtain ⟨us, e2, h2⟩ := its_split _ r2
      have r1' : _ = kV (.inr t.hd.str) := r1
      exact ⟨a, us, e, by rw [h, e2, r1']; rfl, h2⟩
theorem its_depth {t : T} {p : T} (h : Sum.inr p ∈ t.its) : p.depth < t.depth := by
  unfold T.its at h
  simp only [List.mem_cons, reduceCtorEq, List.mem_append, List.mem_map, false_or, exists_false, and_false, Sum.inr.injEq, exists_eq_right] at h
  exact T.depth_part h
theorem its_len (t : T) : t.its.length ≤ 6 := by
  have h1 : t.parts.length ≤ 3 := by cases t <;> simp [T.parts]
  have h2 : t.hd.rest.length ≤ 1 := by
    cases t with
    | lf i => cases i <;> simp [T.hd, Hd.rest, Lf.rest]
    | un l a => simp [T.hd, Hd.rest]
    | bin l a b => simp [T.hd, Hd.rest]
    | ter l a b c => simp [T.hd, Hd.rest]
  simp only [T.its, List.length_cons, List.length_append, List.length_map]
  omega
theorem size6 {n : Nat} (h : n ≤ 6) : n < sizeLine := Nat.lt_of_le_of_lt h (by decide)
end K45
namespace K45
open PySem PySem.Spec PyProof.Rows L2
/-! ### loops over any walk of a known length -/
theorem lc_it {J : It} {n : Nat} {g : TG} {tt : TT} {te : TE} {vs : List Nat} {σ : L2.St} {H1 : Hp} {D : Addr} {Qd : Hp → Prop} (Pv : Nat → Hp → Prop) (h0 : Pv 0 (upd H1 D (.lst []))) (hgo : ∀ i H, i < n → Pv i H → J.go i H) (hst : ∀ H, Pv n H → J.stop n H)
    (hs : ∀ i x H H', i < n → Pv i H → J.yld i H x H' → g x (wipe σ vs) H' fun σ2 H2 => wipe σ2 vs = wipe σ vs ∧ tt σ2 H2 fun b H3 =>
      if b = true then te σ2 H3 fun y H4 => ∃ acc, H4 D = some (.lst acc) ∧ acc.length < sizeLine ∧ Pv (i + 1) (upd H4 D (.lst (acc ++ [y]))) else Pv (i + 1) H3) (hd : ∀ H, Pv n H → Qd H) :
    ∃ W : Nat → Nat → Hp → Prop, (∃ m, W 0 m (upd H1 D (.lst []))) ∧ ∀ i m H, W i m H →
      (J.stop i H ∧ Qd H) ∨ (J.go i H ∧ ∃ Nx : Hp → Prop, (∀ H', Nx H' → ∃ m', m' < m ∧ W (i + 1) m' H') ∧ ∀ x H', J.yld i H x H' → g x (wipe σ vs) H' fun σ2 H2 => wipe σ2 vs = wipe σ vs ∧ tt σ2 H2 fun b H3 =>
        if b = true then te σ2 H3 fun y H4 => ∃ acc, H4 D = some (.lst acc) ∧ acc.length < sizeLine ∧ Nx (upd H4 D (.lst (acc ++ [y]))) else Nx H3) := by
  refine ⟨fun i m H => m = n - i ∧ i ≤ n ∧ Pv i H, ⟨n, by simp, Nat.zero_le _, h0⟩, ?_⟩
  rintro i m H ⟨rfl, hi, p⟩
  by_cases hlt : i < n
  · exact .inr ⟨hgo i H hlt p, Pv (i + 1), fun H' p' => ⟨n - (i + 1), by omega, rfl, hlt, p'⟩, fun x H' y => hs i x H H' hlt p y⟩
  · have e : i = n := by omega
    subst e
    exact .inl ⟨hst H p, hd H p⟩
theorem for_it {J : It} {n : Nat} {g : TG} {tb : TS} {D : Ends} {σ : L2.St} {H : Hp} (Pv : Nat → L2.St → Hp → Prop) (h0 : Pv 0 σ H) (hgo : ∀ i σ H, i < n → Pv i σ H → J.go i H) (hst : ∀ σ H, Pv n σ H → J.stop n H)
    (hs : ∀ i x σ H H', i < n → Pv i σ H → J.yld i H x H' → g x σ H' fun σ2 H2 => tb { D with nx := Pv (i + 1), ct := Pv (i + 1), bk := D.nx } σ2 H2) (hd : ∀ σ H, Pv n σ H → D.nx σ H) :
    ∃ W : Nat → Nat → L2.St → Hp → Prop, (∃ m, W 0 m σ H) ∧ ∀ i m σ H, W i m σ H →
      (J.stop i H ∧ D.nx σ H) ∨ (J.go i H ∧ ∃ N : L2.St → Hp → Prop, (∀ σ' H', N σ' H' → ∃ m', m' < m ∧ W (i + 1) m' σ' H') ∧ ∀ x H', J.yld i H x H' → g x σ H' fun σ2 H2 => tb { D with nx := N, ct := N, bk := D.nx } σ2 H2) := by
  refine ⟨fun i m σ H => m = n - i ∧ i ≤ n ∧ Pv i σ H, ⟨n, by simp, Nat.zero_le _, h0⟩, ?_⟩
  rintro i m σ H ⟨rfl, hi, p⟩
  by_cases hlt : i < n
  · exact .inr ⟨hgo i σ H hlt p, Pv (i + 1), fun σ' H' p' => ⟨n - (i + 1), by omega, rfl, hlt, p'⟩, fun x H' y => hs i x σ H H' hlt p y⟩
  · have e : i = n := by omega
    subst e
    exact .inl ⟨hst σ H p, hd σ H p⟩
/-- is the one text in the other -/
def inT (i j : Str) : Bool := !(Builtin.Str.occurrences j i 0 j.length 1).isEmpty
end K45
/-! part K45R1 -/
set_option autoImplicit true
set_option Elab.async false
set_option linter.all false
set_option maxRecDepth 100000
set_option maxHeartbeats 4000000
/-! Rules of our own: a tuple times 0; an attribute as a target; a dict display of one tuple key. -/
namespace K45
open PySem PySem.Spec PyProof.Rows L2
theorem tuple_mul0 (l : Addr) (items : Array Value) (n : Nat) (dd : Option Addr) (sl : Array (Option Value)) (u : Tok) (c1 : (items.isEmpty || (0 : Int) == 1) = false) :
    Meets (Builtin.«tuple.__mul__» ⟨[.ref l, .int 0 u], []⟩) (fun _ R s => s.heap.get? l = some { cls := .type "tuple", dict := dd, data := .seq items n, slots := sl } ∧
      R (.ok (.ret (Value.ref s.heap.objs.size))) { s with heap := s.heap.push { cls := Value.type "tuple", data := Data.seq #[] }, toks := s.toks }) :=
  .of_wp fun prog w A R s h => by
    obtain ⟨hp, g, d, tk, os⟩ := s
    obtain ⟨hl, h⟩ := h
    have f1 := AutoSeq1.idx_int
    wp_walk using wpAny_loadPart' hl
    repeat (first
      | (refine wpAny_ite_false (decide_eq_false (by rw [c1]; exact Bool.false_ne_true)) ?_; wp_walk using wpAny_loadPart' hl)
      | (refine wpAny_ite_true (by simp) ?_; wp_walk using wpAny_loadPart' hl)
      | (refine wpAny_ite_false (by simp) ?_; wp_walk using wpAny_loadPart' hl))
    exact ⟨_, rfl, h⟩
def rRepT0 (K : PySem.W.Frag) : R2 := fun x y H Q => ∃ l xs, x = .ref l ∧ y = .int 0 ∧ SqT K H l xs ∧ xs ≠ [] ∧ ∀ p, H p = none → Q (.ref p) (upd H p (.tup []))
section
variable {X : Cx}
theorem op_repT0 : OpR X (binaryOp .Mult) (rRepT0 X.K) := by
  intro pins s σ H x y v u Q I rx ry h
  obtain ⟨l, xs, rfl, rfl, hT, hne, q⟩ := h
  cases rx
  obtain ⟨t, rfl⟩ := ry
  obtain ⟨its, r, ⟨⟨cls, dd, data, sl⟩, ho, hc, n, hd⟩, hs⟩ := I.tuple hT
  simp only at hc hd
  subst hc hd
  have hle : its.length = xs.length := r.length.symm
  have hn : its ≠ [] := fun e => hne (by
    rw [e] at hle
    exact List.eq_nil_of_length_eq_zero hle.symm)
  have hi : its.toArray.isEmpty = false := by
    cases its with
    | nil => exact absurd rfl hn
    | cons a b => rfl
  have c1 : (its.toArray.isEmpty || (0 : Int) == 1) = false := by
    rw [hi, Bool.false_or]
    rfl
  refine wpAny_binaryOp_repeat_ref (T := "tuple") (U := "int") (by decide) ⟨_, ho, rfl⟩ (fun s' => typeIs_int s' 0 t) noFill_tuple_mul F.fills_int_mul F.slot_int_rmul repeat_tuple F.slot_int_index.lookup
    (call_meets F.slot_int_rmul (typeIs_int s 0 t) F.entry_int_rmul (F.args_int_rmul_2 _ _) (int_rmul_tuple 0 t l its.toArray n dd sl)
      ⟨ho, rfl, ⟨_, ho, rfl⟩, call_meets F.slot_tuple_mul ⟨_, ho, rfl⟩ F.entry_tuple_mul (F.args_tuple_mul_2 _ _) (tuple_mul0 l its.toArray n dd sl t c1) ⟨ho, ?_⟩⟩)
  refine ⟨.ref s.heap.objs.size, _, I.laid (t' := s.toks) (o := .tup []) (fun b ob q => Heap.get?_push_of_some _ q) (Nat.le_refl _) ?_, rfl, q _ (I.hok.fresh (Nat.le_refl _))⟩
  exact ⟨by show 0 ≤ sizeLine; decide, [], .nil, IsTup.new _ _⟩
end
end K45
/-! part K45W1 -/
set_option autoImplicit true
set_option Elab.async false
set_option linter.all false
set_option maxRecDepth 100000
set_option maxHeartbeats 4000000
/-! Walks: is_integer, is_within, parts_in, fixed. -/
namespace K45
open PySem PySem.Spec PyProof.Rows L2
variable {P : Program} {w : World} {K : PySem.W.Frag} {mg : Str → Option Value} {base : Heap}
theorem sc_is_integer : FnScope ["value"] ["value"] (defScope s_is_integer) := ⟨rfl, rfl, rfl, by decide +kernel, rfl, by decide +kernel, by decide +kernel⟩
def sp_is_integer : Sp := fun vs H Q _ => ∃ n : Int, vs = [.int n] ∧ Q (.bl true) H
theorem ok_is_integer (X : Fx P w K mg base) : OkD P w K mg base "is_integer" ["value"] 1 sp_is_integer := by
  obtain ⟨fd, F⟩ := X.fn 0 (d := d_is_integer) rfl
  refine ⟨_, fd, X.glo _ (X.fact 0 (f := .glo "is_integer") rfl), F.kp, F.bindsN fun _ _ _ _ _ _ us hl => match us, hl with | [_], _ => rfl, okN F sc_is_integer (fun vs H Q E h => ?_) (fun cdv A outer s H vs Q E hr h => ?_)⟩
  · obtain ⟨n, rfl, _⟩ := h
    rfl
  · obtain ⟨n, rfl, h⟩ := h
    refine ⟨_, pss_one (ps_ret (pe_and (pe_callB call_isi (by rfl) X.b_isinstance (by decide +kernel) (pa_cons (pv 0) (pa_cons (pe_bltn (v := .ty "int") (by rfl) X.b_int (by decide +kernel) rfl) pa_nil)))
      (pe_one (pe_not (pe_callB call_isi (by rfl) X.b_isinstance (by decide +kernel) (pa_cons (pv 0) (pa_cons (pe_bltn (v := .ty "bool") (by rfl) X.b_bool (by decide +kernel) rfl) pa_nil))))))), ?_⟩
    refine ⟨_, rfl, _, _, _, _, true, rfl, .ty _, .base (.int _), kit_ty (by decide +kernel), _, rfl, iteT ?_⟩
    exact ⟨_, rfl, _, _, _, _, false, rfl, .ty _, .base (.int _), kit_ty (by decide +kernel), _, rfl, h⟩
theorem sc_is_within : FnScope ["value", "least", "most"] ["value", "least", "most"] (defScope s_is_within) := ⟨rfl, rfl, rfl, by decide +kernel, rfl, by decide +kernel, by decide +kernel⟩
def sp_is_within : Sp := fun vs H Q _ => ∃ n a b : Int, vs = [.int n, .int a, .int b] ∧ a ≤ n ∧ n ≤ b ∧ Q (.bl true) H
theorem ok_is_within (X : Fx P w K mg base) : OkD P w K mg base "is_within" ["value", "least", "most"] 2 sp_is_within := by
  obtain ⟨fd, F⟩ := X.fn 1 (d := d_is_within) rfl
  obtain ⟨_, _, D⟩ := ok_is_integer X
  refine ⟨_, fd, X.glo _ (X.fact 1 (f := .glo "is_within") rfl), F.kp, F.bindsN fun _ _ _ _ _ _ us hl => match us, hl with | [_, _, _], _ => rfl, okN F sc_is_within (fun vs H Q E h => ?_) (fun cdv A outer s H vs Q E hr h => ?_)⟩
  · obtain ⟨n, a, b, rfl, _⟩ := h
    rfl
  · obtain ⟨n, a, b, rfl, h1, h2, h⟩ := h
    refine ⟨_, pss_cons (ps_if (pt_not (pt_val (pe_d D hr (by rfl) (pa_cons (pv 0) pa_nil)))) (pss_one (ps_ret pe_bl)) pss_nil)
      (pss_cons (ps_if (PW.pt (pw_and (pt_cmp (pc_notN (pv 1))) (pw_and1 (pt_cmpR op_lt (pv 0) (pv 1) (nomark _))))) (pss_one (ps_ret pe_bl)) pss_nil)
      (pss_one (ps_ret (pe_or (pe_cmp (pc_isN (pv 2)) rfl) (pe_one (pe_cmpR op_le (pv 0) (pv 2) (nomark _))))))), ?_⟩
    refine ⟨_, rfl, n, rfl, true, rfl, iteF ?_⟩
    refine ⟨_, rfl, true, rfl, iteT ⟨_, rfl, _, rfl, _, _, rfl, rfl, _, rfl, ?_⟩⟩
    rw [decide_eq_false (by omega)]
    refine iteF ⟨_, rfl, false, rfl, iteF ⟨_, rfl, _, rfl, _, _, rfl, rfl, ?_⟩⟩
    show Q (.bl (decide (n ≤ b))) H
    rw [decide_eq_true h2]
    exact h
theorem cut1 (x : V) (xs : List V) : cutV (x :: xs) (some 1) none = xs := by
  have e1 : HT.sIx (x :: xs).length 0 (some ((1 : Nat) : Int)) = min 1 (x :: xs).length := HT.sIx_nat _ _ 1
  have e2 : HT.sIx (x :: xs).length 0 (some 1) = 1 := by
    rw [show (1 : Int) = ((1 : Nat) : Int) from rfl, e1, List.length_cons]; omega
  unfold cutV
  rw [e2, HT.sIx_none]
  simp
theorem cut1_ne (x : V) (xs : List V) : ¬ (HT.sIx (x :: xs).length 0 (some 1) = 0 ∧ HT.sIx (x :: xs).length (x :: xs).length none = (x :: xs).length) := by
  have e1 : HT.sIx (x :: xs).length 0 (some ((1 : Nat) : Int)) = min 1 (x :: xs).length := HT.sIx_nat _ _ 1
  rw [show (some (1 : Int)) = some ((1 : Nat) : Int) from rfl, e1, List.length_cons]
  omega
/-- is the label one of a leaf's -/
def isLk (z : Str) : Bool := (lkVals.map (·.1)).contains z
theorem sc_parts_in : FnScope ["term"] ["term"] (defScope s_parts_in) := ⟨rfl, rfl, rfl, by decide +kernel, rfl, by decide +kernel, by decide +kernel⟩
/-- a node or a term: a new tuple of what stands behind the label -/
def sp_parts_in : Sp := fun vs H Q _ => ∃ (a : Addr) (h : Hd) (us : List V), vs = [.ref a] ∧ H a = some (.tup (.str h.str :: (h.rest.map kV ++ us))) ∧ (∀ i, h = .lf i → us = []) ∧ ∀ p, H p = none → Q (.ref p) (upd H p (.tup us))
theorem lk_hd (X : Fx P w K mg base) (h : Hd) : ∃ r, PySem.W.nsIn K (He.ga K "LEAF_KINDS") h.str = some r ∧ (r.isSome = true → h.rest ≠ [] ∨ h = .lf .tr) ∧ (r.isSome = false → h.rest = [] ∧ h ≠ .lf .tr) := by
  cases h with
  | lf i =>
    cases i with
    | na => obtain ⟨u, h1, _⟩ := X.lkVal 1 (q := ("name", .str "word")) rfl; exact ⟨_, h1, fun _ => .inl (by simp [Hd.rest, Lf.rest]), fun z => (by cases z)⟩
    | nb => obtain ⟨u, h1, _⟩ := X.lkVal 1 (q := ("name", .str "word")) rfl; exact ⟨_, h1, fun _ => .inl (by simp [Hd.rest, Lf.rest]), fun z => (by cases z)⟩
    | nc => obtain ⟨u, h1, _⟩ := X.lkVal 1 (q := ("name", .str "word")) rfl; exact ⟨_, h1, fun _ => .inl (by simp [Hd.rest, Lf.rest]), fun z => (by cases z)⟩
    | n0 => obtain ⟨u, h1, _⟩ := X.lkVal 0 (q := ("number", .str "word")) rfl; exact ⟨_, h1, fun _ => .inl (by simp [Hd.rest, Lf.rest]), fun z => (by cases z)⟩
    | n7 => obtain ⟨u, h1, _⟩ := X.lkVal 0 (q := ("number", .str "word")) rfl; exact ⟨_, h1, fun _ => .inl (by simp [Hd.rest, Lf.rest]), fun z => (by cases z)⟩
    | go => exact ⟨_, X.lkNone (z := "call go 0") (by decide +kernel), fun z => (by cases z), fun _ => ⟨rfl, by simp⟩⟩
    | fp => obtain ⟨u, h1, _⟩ := X.lkVal 2 (q := ("flag", .str "truth")) rfl; exact ⟨_, h1, fun _ => .inl (by simp [Hd.rest, Lf.rest]), fun z => (by cases z)⟩
    | fa => obtain ⟨u, h1, _⟩ := X.lkVal 2 (q := ("flag", .str "truth")) rfl; exact ⟨_, h1, fun _ => .inl (by simp [Hd.rest, Lf.rest]), fun z => (by cases z)⟩
    | tr => obtain ⟨u, h1, _⟩ := X.lkVal 3 (q := ("true", .str "truth")) rfl; exact ⟨_, h1, fun _ => .inr rfl, fun z => (by cases z)⟩
  | nd l =>
    refine ⟨_, X.lkNone (z := l.str) (by cases l <;> decide +kernel), fun z => (by cases z), fun _ => ⟨rfl, by simp⟩⟩
theorem ok_parts_in (X : Fx P w K mg base) : OkD P w K mg base "parts_in" ["term"] 1 sp_parts_in := by
  obtain ⟨fd, F⟩ := X.fn 12 (d := d_parts_in) rfl
  obtain ⟨es, n, T⟩ := X.lkT
  refine ⟨_, fd, X.glo _ (X.fact 12 (f := .glo "parts_in") rfl), F.kp, F.bindsN fun _ _ _ _ _ _ us hl => match us, hl with | [_], _ => rfl, okN F sc_parts_in (fun vs H Q E h => ?_) (fun cdv A outer s H vs Q E hr h => ?_)⟩
  · obtain ⟨a, h, us, rfl, _⟩ := h
    rfl
  · obtain ⟨a, h, us, rfl, ha, hl, hQ⟩ := h
    refine ⟨_, pss_one (ps_ret (pe_ifExp (pt_cmpR (op_in_kd T) (pe_ix ix_tup (pv 0) pe_int (fun _ _ => rfl)) (pe_glob (v := .ref (He.ga K "LEAF_KINDS")) rfl X.g_LEAF_KINDS rfl) rfl) (pe_tup pa_nil) (pe_slice sl_tup (pv 0) (po_some pe_int) po_none))), ?_⟩
    obtain ⟨r, e, y, z⟩ := lk_hd X h
    refine ⟨_, rfl, a, _, 0, _, rfl, rfl, SqT.of ha, atI_nat (j := 0) rfl, h.str, r, rfl, rfl, e, _, rfl, ?_⟩
    cases q : r.isSome with
    | true =>
      refine iteT ⟨by show 0 ≤ sizeLine; decide, fun p hp => ?_⟩
      have e0 : us = [] := by
        rcases y q with h1 | h1
        · cases h with
          | lf i => exact hl i rfl
          | nd l => exact absurd rfl h1
        · exact hl _ h1
      subst e0
      exact hQ p hp
    | false =>
      refine iteF ⟨_, rfl, 1, rfl, a, _, rfl, SqT.of ha, cut1_ne _ _, fun p hp => ?_⟩
      rw [cut1, (z q).1]
      exact hQ p hp
end K45
/-! part K45W2 -/
set_option autoImplicit true
set_option Elab.async false
set_option linter.all false
set_option maxRecDepth 100000
set_option maxHeartbeats 4000000
/-! Walks: fixed. -/
namespace K45
open PySem PySem.Spec PyProof.Rows L2
variable {P : Program} {w : World} {K : PySem.W.Frag} {mg : Str → Option Value} {base : Heap}
theorem sc_fixed : FnScope ["value", "part"] ["value"] (defScope s_fixed) := ⟨rfl, rfl, rfl, by decide +kernel, rfl, by decide +kernel, by decide +kernel⟩
/-- a copy of a term; a text or a number is itself -/
def sp_fixed (n : Nat) : Sp := fun vs H Q _ => ∃ (it : Key ⊕ T) (v : V), vs = [v] ∧ ItAt H it v ∧ (∀ t, it = .inr t → t.depth ≤ n) ∧ ∀ H' u, Same H H' → ItAt H' it u → Q u H'
theorem kit_lt {K : PySem.W.Frag} : PySem.W.kitAny K (.type "tuple") [.type "list", .type "tuple"] = some true :=
  kitAny_cons (b := false) (kit_ty (by decide +kernel)) (fun _ => kitAny_cons (b := true) (kit_ty (by decide +kernel)) (fun z => (by cases z)) (fun _ => rfl)) (fun z => (by cases z))
theorem kit_ls {K : PySem.W.Frag} : PySem.W.kitAny K (.type "str") [.type "list", .type "tuple"] = some false :=
  kitAny_cons (b := false) (kit_ty (by decide +kernel)) (fun _ => kitAny_cons (b := false) (kit_ty (by decide +kernel)) (fun _ => kitAny_nil) (fun z => (by cases z))) (fun z => (by cases z))
theorem kit_li {K : PySem.W.Frag} : PySem.W.kitAny K (.type "int") [.type "list", .type "tuple"] = some false :=
  kitAny_cons (b := false) (kit_ty (by decide +kernel)) (fun _ => kitAny_cons (b := false) (kit_ty (by decide +kernel)) (fun _ => kitAny_nil) (fun z => (by cases z))) (fun z => (by cases z))
theorem cls_lt : Paired ClsV [V.ty "list", V.ty "tuple"] [Value.type "list", Value.type "tuple"] := .cons (.ty _) (.cons (.ty _) .nil)
theorem ok_fixed (X : Fx P w K mg base) : ∀ n : Nat, OkD P w K mg base "fixed" ["value"] (n + 1) (sp_fixed n) := by
  have step : ∀ (k n : Nat) (rec : n = 0 ∨ ∃ m, n = m + 1 ∧ OkD P w K mg base "fixed" ["value"] k (sp_fixed m)), OkD P w K mg base "fixed" ["value"] (k + 1) (sp_fixed n) := by
    intro k n rec
    obtain ⟨fd, F⟩ := X.fn 2 (d := d_fixed) rfl
    have bi : Binds K fd ["value"] [] := F.bindsN fun _ _ _ _ _ _ us hl => match us, hl with | [_], _ => rfl
    have gl := X.glo _ (X.fact 2 (f := .glo "fixed") rfl)
    refine ⟨_, fd, gl, F.kp, bi, okN F sc_fixed (fun vs H Q E h => ?_) (fun cdv A outer s H vs Q E hr h => ?_)⟩
    · obtain ⟨_, _, rfl, _⟩ := h
      rfl
    · obtain ⟨it, v, rfl, hv, hd, h⟩ := h
      cases it with
      | inl key =>
        have ev : v = kV key := hv
        subst ev
        refine ⟨_, pss_cons (ps_if (pt_val (pe_callB call_isiT (by rfl) X.b_isinstance (by decide +kernel) (pa_cons (pv 0) (pa_cons (pe_tup (pa_cons (pe_bltn (v := .ty "list") (by rfl) X.b_list (by decide +kernel) rfl) (pa_cons (pe_bltn (v := .ty "tuple") (by rfl) X.b_tuple (by decide +kernel) rfl) pa_nil))) pa_nil))))
          pss_never pss_nil) (pss_one (ps_ret (pv 0))), ?_⟩
        refine ⟨_, rfl, (by show 2 ≤ sizeLine; decide), fun p hp => ?_⟩
        cases key with
        | inl i => exact ⟨_, p, _, _, _, false, rfl, upd_same, cls_lt, .base (.int _), kit_li, _, rfl, iteF ⟨_, rfl, h _ _ (Same.upd hp) rfl⟩⟩
        | inr x => exact ⟨_, p, _, _, _, false, rfl, upd_same, cls_lt, .base (.str _), kit_ls, _, rfl, iteF ⟨_, rfl, h _ _ (Same.upd hp) rfl⟩⟩
      | inr t =>
        have ht : TmAt H t v := hv
        obtain ⟨m, rfl, f', fd', D⟩ : ∃ m, n = m + 1 ∧ OkD P w K mg base "fixed" ["value"] k (sp_fixed m) := by
          rcases rec with e | e
          · have := hd t rfl
            have := t.depth_pos
            omega
          · exact e
        obtain ⟨a, xs, rfl, ha, hp⟩ := TmAt.its.mp ht
        refine ⟨_, pss_cons (ps_if (pt_val (pe_callB call_isiT (by rfl) X.b_isinstance (by decide +kernel) (pa_cons (pv 0) (pa_cons (pe_tup (pa_cons (pe_bltn (v := .ty "list") (by rfl) X.b_list (by decide +kernel) rfl) (pa_cons (pe_bltn (v := .ty "tuple") (by rfl) X.b_tuple (by decide +kernel) rfl) pa_nil))) pa_nil))))
          (pss_one (ps_ret (pe_callTy call_tuple_of (by rfl) X.b_tuple (by decide +kernel) (pa_cons (pe_lc (own := [("part", 1)]) (g := gName 1) (tt := tYes) rfl sc_fixed.nd (pi_tup (pv 0)) (blkOk_by (own := [("part", 1)]) (N := ["value", "part"]) (sc := defScope s_fixed) (by decide +kernel))
            (fun _ _ _ _ _ => pg_name (i := 1) sc_fixed.nd rfl (Or.inl rfl)) (fun _ _ _ _ _ => pts_nil) (fun _ _ _ _ _ => pe_d D hr (by rfl) (pa_cons (pv 1) pa_nil))) pa_nil)))) pss_nil) (pss_never), ?_⟩
        refine ⟨_, rfl, (by show 2 ≤ sizeLine; decide), fun p hnp => ?_⟩
        have s1 : Same H (upd H p (.tup [.ty "list", .ty "tuple"])) := Same.upd hnp
        refine ⟨_, p, _, _, _, true, rfl, upd_same, cls_lt, .base (.tup (s1 _ _ ha)), kit_lt, _, rfl, iteT ?_⟩
        have lx := Paired.len hp
        refine ⟨_, rfl, a, rfl, ⟨_, SqT.of (s1 _ _ ha)⟩, fun D' hD => lc_tup (K := K) (a := a) (xs := xs) (fun i H2 => Same (upd H p (.tup [.ty "list", .ty "tuple"])) H2 ∧ ∃ ys, H2 D' = some (.lst ys) ∧ ys.length = i ∧ Paired (ItAt H2) (t.its.take i) ys)
          ⟨Same.upd hD, [], upd_same, rfl, .nil⟩ (fun i H2 _ ⟨s2, _⟩ => SqT.of (s2 _ _ (s1 _ _ ha))) ?_ ?_⟩
        · rintro i x H2 hx ⟨s2, ys, hy, ly, py⟩
          obtain ⟨it, hit, rit⟩ := Paired.get hp hx
          have s12 := Same.trans s1 s2
          refine ⟨rfl, _, rfl, it, x, rfl, rit.keep (.of s12), fun t' e => ?_, fun H3 u s3 hu => ?_⟩
          · subst e
            have := its_depth (List.mem_of_getElem? hit)
            have := hd t rfl
            omega
          · refine ⟨ys, s3 _ _ hy, ?_, fun b o e => ?_, _, upd_same, by rw [List.length_append, ly]; rfl, ?_⟩
            · have hi := (List.getElem?_eq_some_iff.mp hit).1
              have := its_len t
              exact size6 (by omega)
            · rw [upd_ne (ne_of_none e hD)]
              exact s3 _ _ (s2 _ _ e)
            · have nD : Tups H3 (upd H3 D' (.lst (ys ++ [u]))) := Tups.upd fun zs e => by rw [s3 _ _ hy] at e; cases e
              rw [List.take_add_one, hit]
              refine Paired.snoc (hu.keep nD) (Paired.imp (fun _ _ z => ItAt.keep (.trans (.of s3) nD) z) py)
        · rintro H2 ⟨s2, ys, hy, ly, py⟩
          refine ⟨D', ys, rfl, .inl ⟨SqL.of hy, fun l hl => ?_⟩⟩
          have s3 : Same H (upd H2 l (.tup ys)) := Same.trans s1 (Same.trans s2 (Same.upd hl))
          refine h _ _ s3 (TmAt.its.mpr ⟨l, ys, rfl, upd_same, ?_⟩)
          rw [lx.symm, List.take_length] at py
          exact Paired.imp (fun _ _ z => ItAt.keep (.new hl) z) py
  intro n
  induction n with
  | zero => exact step 0 0 (.inl rfl)
  | succ m ih => exact step (m + 1) (m + 1) (.inr ⟨m, rfl, ih⟩)
end K45
/-! part K45W3 -/
set_option autoImplicit true
set_option Elab.async false
set_option linter.all false
set_option maxRecDepth 100000
set_option maxHeartbeats 4000000
/-! Walks: bits_up, shape_of, is_spelling, is_name, call_of, shape_in, is_leaf. -/
namespace K45
open PySem PySem.Spec PyProof.Rows L2
variable {P : Program} {w : World} {K : PySem.W.Frag} {mg : Str → Option Value} {base : Heap}
theorem sc_bits_up : FnScope ["label", "k"] ["label"] (defScope s_bits_up) := ⟨rfl, rfl, rfl, by decide +kernel, rfl, by decide +kernel, by decide +kernel⟩
def sp_bits_up : Sp := fun vs H Q _ => vs = [.str "shl 3"] ∧ Q (.int 3) H
theorem shl_k (i : Nat) (hi : i ≤ 2) : decide (V.str "shl 3" = V.str (Str.empty ++ "shl " ++ (toString (1 + (i : Int)) : Str))) = decide (i = 2) := by
  match i, hi with
  | 0, _ => decide +kernel
  | 1, _ => decide +kernel
  | 2, _ => decide +kernel
theorem ok_bits_up (X : Fx P w K mg base) : OkD P w K mg base "bits_up" ["label"] 1 sp_bits_up := by
  obtain ⟨fd, F⟩ := X.fn 3 (d := d_bits_up) rfl
  refine ⟨_, fd, X.glo _ (X.fact 3 (f := .glo "bits_up") rfl), F.kp, F.bindsN fun _ _ _ _ _ _ us hl => match us, hl with | [_], _ => rfl, okN F sc_bits_up (fun vs H Q E h => ?_) (fun cdv A outer s H vs Q E hr h => ?_)⟩
  · obtain ⟨rfl, _⟩ := h
    rfl
  · obtain ⟨rfl, h⟩ := h
    refine ⟨_, pss_cons (ps_for PassesOwn.never rfl (pi_range2 (by rfl) X.b_range (pa_cons pe_int (pa_cons pe_int pa_nil))) (pg_name (i := 1) sc_bits_up.nd rfl (Or.inl rfl))
      (pss_one (ps_if (pt_cmpR op_eq (pv 0) (pe_joined (.cons pe_str (.cons (pe_fmt (pv 1)) .nil))) (nomark _)) (pss_one (ps_ret (pv 1))) pss_nil))) pss_never, ?_⟩
    refine ⟨1, 32, rfl, by decide, for_range (lo := 1) (n := 31) (fun i σ H' => i ≤ 2 ∧ H' = H ∧ ∃ v, σ = [some (.str "shl 3"), v]) ⟨by decide, rfl, none, rfl⟩ ?_ ?_⟩
    · rintro i σ H' hi ⟨h2, rfl, v, rfl⟩
      refine ⟨_, rfl, "shl ", rfl, by decide +kernel, _, rfl, .inr ⟨_, rfl, ?_, _, rfl, ?_, rfl, _, rfl, ?_⟩⟩
      · have : (1 + (i : Int)).natAbs ≤ 3 := by omega
        exact Nat.lt_of_le_of_lt (Nat.log2_le_self _) (by omega)
      · match i, h2 with
        | 0, _ => decide +kernel
        | 1, _ => decide +kernel
        | 2, _ => decide +kernel
      · rw [shl_k i h2]
        refine ite2 (fun e => ?_) (fun e => ?_)
        · have e2 : i = 2 := by simpa using e
          subst e2
          exact ⟨_, rfl, h⟩
        · have e2 : ¬ i = 2 := by simpa using e
          exact ⟨by omega, rfl, _, rfl⟩
    · rintro σ H' ⟨h2, _⟩
      exact absurd h2 (by decide)
/-! the shapes of the labels -/
def Lab.kindS (l : Lab) : Str := if l.word then "word" else "truth"
def kS (b : Bool) : Str := if b then "word" else "truth"
def sp_shape_of (K : PySem.W.Frag) : Sp := fun vs H Q _ => ∃ l : Lab, l ≠ .loop ∧ vs = [.str l.str] ∧ ∀ (H' : Hp) (a b : Addr), Same H H' → SqT K H' a [.str (kS l.word), .ref b] → SqT K H' b (l.args.map fun k => .str (kS k)) → Q (.ref a) H'

theorem sh_lab (X : Fx P w K mg base) (l : Lab) (h1 : l ≠ .loop) (h2 : l ≠ .shl) : (∃ u, PySem.W.nsIn K (He.ga K "SHAPES") l.str = some (some u) ∧ RelV (.ref (shp l.str K)) u) ∧
    ∀ H, SqT K H (shp l.str K) [.str (kS l.word), .ref (shq l.str K)] ∧ SqT K H (shq l.str K) (l.args.map fun k => .str (kS k)) := by
  cases l with
  | neg => exact ⟨X.shVal 0 (q := ("neg", .adr (shp "neg"))) rfl, fun H => ⟨X.sh_neg H, X.sq_neg H⟩⟩
  | shl => exact absurd rfl h2
  | mem => exact ⟨X.shVal 3 (q := ("at", .adr (shp "at"))) rfl, fun H => ⟨X.sh_at H, X.sq_at H⟩⟩
  | no => exact ⟨X.shVal 5 (q := ("no", .adr (shp "no"))) rfl, fun H => ⟨X.sh_no H, X.sq_no H⟩⟩
  | add => exact ⟨X.shVal 1 (q := ("add", .adr (shp "add"))) rfl, fun H => ⟨X.sh_add H, X.sq_add H⟩⟩
  | equ => exact ⟨X.shVal 4 (q := ("eq", .adr (shp "eq"))) rfl, fun H => ⟨X.sh_eq H, X.sq_eq H⟩⟩
  | both => exact ⟨X.shVal 6 (q := ("both", .adr (shp "both"))) rfl, fun H => ⟨X.sh_both H, X.sq_both H⟩⟩
  | cond => exact ⟨X.shVal 2 (q := ("if", .adr (shp "if"))) rfl, fun H => ⟨X.sh_if H, X.sq_if H⟩⟩
  | loop => exact absurd rfl h1
theorem sc_shape_of : FnScope ["label"] ["label"] (defScope s_shape_of) := ⟨rfl, rfl, rfl, by decide +kernel, rfl, by decide +kernel, by decide +kernel⟩
theorem ok_shape_of (X : Fx P w K mg base) : OkD P w K mg base "shape_of" ["label"] 2 (sp_shape_of K) := by
  obtain ⟨fd, F⟩ := X.fn 4 (d := d_shape_of) rfl
  obtain ⟨es, n, TT⟩ := X.shT
  obtain ⟨_, _, D⟩ := ok_bits_up X
  refine ⟨_, fd, X.glo _ (X.fact 4 (f := .glo "shape_of") rfl), F.kp, F.bindsN fun _ _ _ _ _ _ us hl => match us, hl with | [_], _ => rfl, okN F sc_shape_of (fun vs H Q E h => ?_) (fun cdv A outer s H vs Q E hr h => ?_)⟩
  · obtain ⟨l, _, rfl, _⟩ := h
    rfl
  · obtain ⟨l, hl, rfl, h⟩ := h
    refine ⟨_, pss_cons (ps_if (pt_not (pt_val (pe_callB call_isi (by rfl) X.b_isinstance (by decide +kernel) (pa_cons (pv 0) (pa_cons (pe_bltn (v := .ty "str") (by rfl) X.b_str (by decide +kernel) rfl) pa_nil))))) pss_never pss_nil)
      (pss_cons (ps_if (pt_cmpR (op_in_kd TT) (pv 0) (pe_glob (v := .ref (He.ga K "SHAPES")) rfl X.g_SHAPES rfl) rfl) (pss_one (ps_ret (pe_ix ix_kdict (pe_glob (v := .ref (He.ga K "SHAPES")) rfl X.g_SHAPES rfl) (pv 0) (fun _ _ => rfl)))) pss_nil)
      (pss_one (ps_ret (pe_ifExp (pt_cmpR op_gt (pe_d D hr (by rfl) (pa_cons (pv 0) pa_nil)) pe_int (nomark _)) (pe_tup (pa_cons pe_str (pa_cons (pe_tup (pa_cons pe_str pa_nil)) pa_nil))) pe_non)))), ?_⟩
    refine ⟨_, rfl, _, _, _, _, true, rfl, .ty _, .base (.str _), kit_ty (by decide +kernel), _, rfl, iteF ?_⟩
    by_cases e : l = .shl
    · subst e
      refine ⟨_, rfl, "shl 3", none, rfl, rfl, X.shNone, _, rfl, iteF ?_⟩
      refine ⟨_, rfl, rfl, 3, 0, rfl, rfl, true, rfl, iteT ?_⟩
      refine ⟨(by show 1 ≤ sizeLine; decide), fun p hp => ⟨(by show 2 ≤ sizeLine; decide), fun q hq => ?_⟩⟩
      have hqp : p ≠ q := ne_of_none upd_same hq
      exact h _ q p (Same.trans (Same.upd hp) (Same.upd hq)) (SqT.of upd_same) (SqT.of (by rw [upd_ne hqp, upd_same]; rfl))
    · obtain ⟨⟨u, e1, e2⟩, q⟩ := sh_lab X l hl e
      refine ⟨_, rfl, l.str, some u, rfl, rfl, e1, _, rfl, iteT ?_⟩
      refine ⟨_, rfl, _, l.str, _, rfl, rfl, ⟨es, n, u, TT.at_, TT.lit, e1, e2⟩, ?_⟩
      exact h H _ _ (Same.refl _) (q H).1 (q H).2
/-! spellings -/
def spells : List Str := ["a", "b", "c1", "p", "go", "up"]
def ABC : Str := "abcdefghijklmnopqrstuvwxyz"
def NUM : Str := "0123456789"
def spellOk (x : Str) : Bool := decide (1 ≤ x.length) && (decide (x.length ≤ 8) && ((match x.cps[0]? with | some c => inT ⟨#[c]⟩ ABC | none => false) && x.cps.toList.all fun c => inT ⟨#[c]⟩ ABC || inT ⟨#[c]⟩ NUM))
theorem spells_ok : spells.all spellOk = true := by decide +kernel
theorem sc_is_spelling : FnScope ["value", "sign"] ["value"] (defScope s_is_spelling) := ⟨rfl, rfl, rfl, by decide +kernel, rfl, by decide +kernel, by decide +kernel⟩
def sp_is_spelling : Sp := fun vs H Q _ => ∃ x ∈ spells, vs = [.str x] ∧ ∀ H', Same H H' → Q (.bl true) H'
theorem ok_is_spelling (X : Fx P w K mg base) : OkD P w K mg base "is_spelling" ["value"] 1 sp_is_spelling := by
  obtain ⟨fd, F⟩ := X.fn 5 (d := d_is_spelling) rfl
  obtain ⟨t1, gL⟩ := X.g_LE
  obtain ⟨t2, gF⟩ := X.g_FI
  refine ⟨_, fd, X.glo _ (X.fact 5 (f := .glo "is_spelling") rfl), F.kp, F.bindsN fun _ _ _ _ _ _ us hl => match us, hl with | [_], _ => rfl, okN F sc_is_spelling (fun vs H Q E h => ?_) (fun cdv A outer s H vs Q E hr h => ?_)⟩
  · obtain ⟨l, _, rfl, _⟩ := h
    rfl
  · obtain ⟨x, hx, rfl, h⟩ := h
    have ok := List.all_eq_true.mp spells_ok x hx
    unfold spellOk at ok
    obtain ⟨o1, ok⟩ := He.ba ok
    obtain ⟨o2, ok⟩ := He.ba ok
    obtain ⟨o3, o4⟩ := He.ba ok
    have l1 : 1 ≤ x.length := of_decide_eq_true o1
    have l8 : x.length ≤ 8 := of_decide_eq_true o2
    have lz : x.length ≤ sizeLine := Nat.le_trans l8 (by decide)
    obtain ⟨c0, hc0, i0⟩ : ∃ c, x.cps[0]? = some c ∧ inT ⟨#[c]⟩ ABC = true := by
      cases e : x.cps[0]? with
      | none => rw [e] at o3; cases o3
      | some c => rw [e] at o3; exact ⟨c, rfl, o3⟩
    have lsz : x.cps.size = x.length := rfl
    refine ⟨_, pss_cons (ps_if (PW.pt (pw_or (pt_not (pt_val (pe_callB call_isi (by rfl) X.b_isinstance (by decide +kernel) (pa_cons (pv 0) (pa_cons (pe_bltn (v := .ty "str") (by rfl) X.b_str (by decide +kernel) rfl) pa_nil)))))
        (pw_or (pt_not (pt_chain op_le op_le pe_int (pe_callB call_len_str (by rfl) X.b_len (by decide +kernel) (pa_cons (pv 0) pa_nil)) pe_int))
        (pw_or1 (pt_cmpR op_notIn_str (pe_ix ix_str (pv 0) pe_int (fun _ _ => rfl)) (pe_glob (v := .str ABC) rfl gL ⟨_, rfl⟩) rfl))))) pss_never pss_nil)
      (pss_one (ps_ret (pe_callB (cr_all rfl) (by rfl) X.b_all (by decide +kernel) (pa_cons (pe_lc (own := [("sign", 1)]) (g := gName 1) (tt := tYes) rfl sc_is_spelling.nd (pi_str (pv 0)) (blkOk_by (own := [("sign", 1)]) (N := ["value", "sign"]) (sc := defScope s_is_spelling) (by decide +kernel))
        (fun _ _ _ _ _ => pg_name (i := 1) sc_is_spelling.nd rfl (Or.inl rfl)) (fun _ _ _ _ _ => pts_nil)
        (fun _ _ _ _ _ => pe_or (pe_cmpR op_in_str (pv 1) (pe_glob (v := .str ABC) rfl gL ⟨_, rfl⟩) rfl) (pe_one (pe_cmpR op_in_str (pv 1) (pe_glob (v := .str NUM) rfl gF ⟨_, rfl⟩) rfl)))) pa_nil)))), ?_⟩
    refine ⟨_, rfl, _, _, _, _, true, rfl, .ty _, .base (.str _), kit_ty (by decide +kernel), _, rfl, iteF ?_⟩
    refine ⟨_, rfl, _, rfl, lz, _, _, rfl, rfl, _, rfl, ?_⟩
    rw [decide_eq_true (show (1 : Int) ≤ (x.length : Int) by omega)]
    refine iteT ⟨_, _, rfl, rfl, _, rfl, ?_⟩
    rw [decide_eq_true (show (x.length : Int) ≤ 8 by omega)]
    refine iteF ⟨_, rfl, x, 0, c0, rfl, rfl, lz, atI_nat (j := 0) (by simpa using hc0), _, _, rfl, rfl, _, rfl, ?_⟩
    have i0' : (!(Builtin.Str.occurrences ABC ⟨#[c0]⟩ 0 ABC.length 1).isEmpty) = true := i0
    rw [i0']
    refine iteF ⟨_, rfl, x, rfl, fun D' hD => lc_it (n := x.cps.size) (fun i H2 => Same H H2 ∧ H2 D' = some (.lst (List.replicate i (.bl true)))) ⟨Same.upd hD, upd_same⟩ (fun i H2 hi _ => hi) (fun H2 _ => Nat.le_refl _) ?_ ?_⟩
    · rintro i v H2 H3 hi ⟨s2, h2⟩ ⟨rfl, c, hc, rfl⟩
      refine ⟨rfl, _, rfl, _, _, rfl, rfl, _, rfl, ?_⟩
      have hb := List.all_eq_true.mp o4 c (by rw [Array.mem_toList_iff]; exact Array.mem_of_getElem? hc)
      have fin : ∃ acc, H3 D' = some (.lst acc) ∧ acc.length < sizeLine ∧ (Same H (upd H3 D' (.lst (acc ++ [.bl true]))) ∧ (upd H3 D' (.lst (acc ++ [.bl true]))) D' = some (.lst (List.replicate (i + 1) (.bl true)))) := by
        refine ⟨_, h2, by rw [List.length_replicate]; exact Nat.lt_of_lt_of_le hi (Nat.le_trans (by rw [lsz]; exact l8) (by decide)), fun b o e => ?_, by rw [upd_same, List.replicate_succ', ]⟩
        rw [upd_ne (ne_of_none e hD)]
        exact s2 _ _ e
      cases q : inT ⟨#[c]⟩ ABC with
      | true =>
        have q' : (!(Builtin.Str.occurrences ABC ⟨#[c]⟩ 0 ABC.length 1).isEmpty) = true := q
        rw [q']
        exact iteT fin
      | false =>
        have q' : (!(Builtin.Str.occurrences ABC ⟨#[c]⟩ 0 ABC.length 1).isEmpty) = false := q
        rw [q']
        rw [q] at hb
        have q2 : (!(Builtin.Str.occurrences NUM ⟨#[c]⟩ 0 NUM.length 1).isEmpty) = true := (by simpa using hb : inT ⟨#[c]⟩ NUM = true)
        refine iteF ⟨_, rfl, _, _, rfl, rfl, ?_⟩
        show ∃ acc, H3 D' = some (.lst acc) ∧ acc.length < sizeLine ∧ (Same H (upd H3 D' (.lst (acc ++ [.bl (!(Builtin.Str.occurrences NUM ⟨#[c]⟩ 0 NUM.length 1).isEmpty)]))) ∧ (upd H3 D' (.lst (acc ++ [.bl (!(Builtin.Str.occurrences NUM ⟨#[c]⟩ 0 NUM.length 1).isEmpty)]))) D' = some (.lst (List.replicate (i + 1) (.bl true))))
        rw [q2]
        exact fin
    · rintro H2 ⟨s2, h2⟩
      refine ⟨D', List.replicate x.cps.size true, rfl, SqL.of (by rw [h2, List.map_replicate]), ?_⟩
      rw [show (List.replicate x.cps.size true).all id = true by simp]
      exact h H2 s2
end K45
/-! part K45W4 -/
set_option autoImplicit true
set_option Elab.async false
set_option linter.all false
set_option maxRecDepth 100000
set_option maxHeartbeats 4000000
/-! Walks: is_name, call_of, shape_in, is_leaf, kind_of, need_term. -/
namespace K45
open PySem PySem.Spec PyProof.Rows L2
variable {P : Program} {w : World} {K : PySem.W.Frag} {mg : Str → Option Value} {base : Heap}
def nameL : List Str := ["a", "b", "c1"]
theorem nameL_sp : nameL.all (fun x => spells.contains x) = true := by decide +kernel
theorem nameL_no : nameL.all (fun x => !inV (.str x) [.str "true", .str "false"]) = true := by decide +kernel
theorem sc_is_name : FnScope ["value"] ["value"] (defScope s_is_name) := ⟨rfl, rfl, rfl, by decide +kernel, rfl, by decide +kernel, by decide +kernel⟩
def sp_is_name : Sp := fun vs H Q _ => ∃ x ∈ nameL, vs = [.str x] ∧ ∀ H', Same H H' → Q (.bl true) H'
theorem ok_is_name (X : Fx P w K mg base) : OkD P w K mg base "is_name" ["value"] 2 sp_is_name := by
  obtain ⟨fd, F⟩ := X.fn 6 (d := d_is_name) rfl
  obtain ⟨_, _, D⟩ := ok_is_spelling X
  refine ⟨_, fd, X.glo _ (X.fact 6 (f := .glo "is_name") rfl), F.kp, F.bindsN fun _ _ _ _ _ _ us hl => match us, hl with | [_], _ => rfl, okN F sc_is_name (fun vs H Q E h => ?_) (fun cdv A outer s H vs Q E hr h => ?_)⟩
  · obtain ⟨l, _, rfl, _⟩ := h
    rfl
  · obtain ⟨x, hx, rfl, h⟩ := h
    refine ⟨_, pss_one (ps_ret (pe_and (pe_d D hr (by rfl) (pa_cons (pv 0) pa_nil)) (pe_one (pe_cmpR op_notIn_seq (pv 0) (pe_glob (v := .ref (He.ga K "TRUTHS")) rfl X.g_TRUTHS rfl) rfl)))), ?_⟩
    refine ⟨_, rfl, x, List.contains_iff_mem.mp (List.all_eq_true.mp nameL_sp x hx), rfl, fun H1 s1 => ⟨true, rfl, iteT ⟨_, rfl, _, _, rfl, .inr (X.truths H1), rfl, rfl, ?_⟩⟩⟩
    have e : (!inV (.str x) [.str "true", .str "false"]) = true := List.all_eq_true.mp nameL_no x hx
    show Q (.bl (!inV (.str x) [.str "true", .str "false"])) H1
    rw [e]
    exact h H1 s1
/-! labels of calls -/
def Hd.words : Hd → List Str
  | .nd .neg => ["neg"] | .nd .shl => ["shl", "3"] | .nd .mem => ["at"] | .nd .no => ["no"] | .nd .add => ["add"] | .nd .equ => ["eq"] | .nd .both => ["both"] | .nd .cond => ["if"] | .nd .loop => ["loop", "up", "1"]
  | .lf .go => ["call", "go", "0"]
  | .lf _ => []
def Hd.lab (h : Hd) : Prop := h = .lf .go ∨ ∃ l, h = .nd l
theorem Hd.split {h : Hd} (l : h.lab) : Txt.split h.str " " = h.words ∧ h.str.length + 2 ≤ 100 := by
  rcases l with rfl | ⟨l, rfl⟩
  · decide +kernel
  · cases l <;> decide +kernel
def Hd.callV : Hd → Option (List V)
  | .lf .go => some [.str "call", .str "go", .int 0]
  | .nd .loop => some [.str "loop", .str "up", .int 1]
  | _ => none
theorem sc_call_of : FnScope ["label", "items"] ["label"] (defScope s_call_of) := ⟨rfl, rfl, rfl, by decide +kernel, rfl, by decide +kernel, by decide +kernel⟩
def sp_call_of : Sp := fun vs H Q _ => ∃ h : Hd, h.lab ∧ vs = [.str h.str] ∧ (h.callV = none → ∀ H', Same H H' → Q .non H') ∧ ∀ c, h.callV = some c → ∀ H' p, Same H H' → H' p = some (.tup c) → Q (.ref p) H'
theorem call_words {h : Hd} (l : h.lab) (c : List V) (e : h.callV = some c) : ∃ a b d n, h.words = [a, b, d] ∧ c = [.str a, .str b, .int n] ∧ inV (.str a) [.str "call", .str "loop"] = true ∧ b ∈ spells ∧ inV (.str d) [.str "0", .str "1", .str "2", .str "3", .str "4", .str "5"] = true ∧ PySem.intText? d = some n ∧ d.length ≤ 640 := by
  rcases l with rfl | ⟨l, rfl⟩
  · cases e
    exact ⟨"call", "go", "0", 0, rfl, rfl, by decide +kernel, List.contains_iff_mem.mp (by decide +kernel), by decide +kernel, by decide +kernel, by decide +kernel⟩
  · cases l <;> first | (cases e; done) | skip
    cases e
    exact ⟨"loop", "up", "1", 1, rfl, rfl, by decide +kernel, List.contains_iff_mem.mp (by decide +kernel), by decide +kernel, by decide +kernel, by decide +kernel⟩
theorem call_short {h : Hd} (l : h.lab) (e : h.callV = none) : h.words.length ≠ 3 := by
  rcases l with rfl | ⟨l, rfl⟩
  · cases e
  · cases l <;> first | (cases e; done) | (simp [Hd.words])
theorem ok_call_of (X : Fx P w K mg base) : OkD P w K mg base "call_of" ["label"] 2 sp_call_of := by
  obtain ⟨fd, F⟩ := X.fn 7 (d := d_call_of) rfl
  obtain ⟨_, _, D⟩ := ok_is_spelling X
  refine ⟨_, fd, X.glo _ (X.fact 7 (f := .glo "call_of") rfl), F.kp, F.bindsN fun _ _ _ _ _ _ us hl => match us, hl with | [_], _ => rfl, okN F sc_call_of (fun vs H Q E h => ?_) (fun cdv A outer s H vs Q E hr h => ?_)⟩
  · obtain ⟨l, _, rfl, _⟩ := h
    rfl
  · obtain ⟨h, hl, rfl, hn, hs⟩ := h
    obtain ⟨e1, e2⟩ := Hd.split hl
    refine ⟨_, pss_cons (ps_set (i := 1) sc_call_of.nd rfl (Or.inl rfl) (pe_ifExp (pt_val (pe_callB call_isi (by rfl) X.b_isinstance (by decide +kernel) (pa_cons (pv 0) (pa_cons (pe_bltn (v := .ty "str") (by rfl) X.b_str (by decide +kernel) rfl) pa_nil)))) (pe_split (pv 0) pe_str) (pe_lst pa_nil)))
      (pss_cons (ps_if (PW.pt (pw_or (pt_cmpR op_ne (pe_callB call_len_seq (by rfl) X.b_len (by decide +kernel) (pa_cons (pv 1) pa_nil)) pe_int (nomark _))
        (pw_or (pt_cmpR op_notIn_seq (pe_ix ix_list (pv 1) pe_int (fun _ _ => rfl)) (pe_tup (pa_cons pe_str (pa_cons pe_str pa_nil))) rfl)
        (pw_or (pt_not (pt_val (pe_d D hr (by rfl) (pa_cons (pe_ix ix_list (pv 1) pe_int (fun _ _ => rfl)) pa_nil))))
        (pw_or1 (pt_cmpR op_notIn_seq (pe_ix ix_list (pv 1) pe_int (fun _ _ => rfl)) (pe_glob (v := .ref (He.ga K "INDEXES")) rfl (X.glo _ (X.fact 51 (f := .glo "INDEXES") rfl)) rfl) rfl))))))
        (pss_one (ps_ret pe_non)) pss_nil)
      (pss_one (ps_ret (pe_tup (pa_cons (pe_ix ix_list (pv 1) pe_int (fun _ _ => rfl)) (pa_cons (pe_ix ix_list (pv 1) pe_int (fun _ _ => rfl)) (pa_cons (pe_callTy call_int_str (by rfl) X.b_int (by decide +kernel) (pa_cons (pe_ix ix_list (pv 1) pe_int (fun _ _ => rfl)) pa_nil)) pa_nil))))))), ?_⟩
    refine ⟨_, rfl, _, _, _, _, true, rfl, .ty _, .base (.str _), kit_ty (by decide +kernel), _, rfl, iteT ?_⟩
    refine ⟨_, rfl, ⟨_, rfl⟩, h.str, " ", rfl, rfl, by decide +kernel, Nat.le_trans e2 (by decide), fun p hp => ?_⟩
    rw [e1]
    have s1 : Same H (upd H p (.lst (h.words.map V.str))) := Same.upd hp
    refine ⟨_, rfl, p, _, rfl, .inl (SqL.of upd_same), rfl, _, rfl, ?_⟩
    cases ec : h.callV with
    | none =>
      have q := call_short hl ec
      have e3 : (!decide (V.int ((h.words.map V.str).length : Int) = V.int 3)) = true := by
        rw [List.length_map]
        simp only [Bool.not_eq_true', decide_eq_false_iff_not]
        intro z
        have z2 := V.int.inj z
        omega
      rw [e3]
      exact iteT (hn ec _ s1)
    | some c =>
      obtain ⟨a, b, d, n, w1, rfl, i1, i2, i3, i4, i5⟩ := call_words hl c ec
      rw [w1] at s1 ⊢
      refine iteF ?_
      have hL : (upd H p (.lst ([a, b, d].map V.str))) p = some (.lst [.str a, .str b, .str d]) := upd_same
      refine ⟨_, rfl, p, _, 0, _, rfl, rfl, SqL.of hL, atI_nat (j := 0) rfl, (by show 2 ≤ sizeLine; decide), fun p2 hp2 => ?_⟩
      refine ⟨p2, _, rfl, .inr (SqT.of upd_same), rfl, rfl, _, rfl, ?_⟩
      have ei1 : (!inV (.str a) [.str "call", .str "loop"]) = false := by rw [i1]; rfl
      show if (!inV (.str a) [.str "call", .str "loop"]) = true then _ else _
      rw [ei1]
      refine iteF ?_
      have hL2 := Same.upd hp2 (o := .tup [.str "call", .str "loop"]) _ _ hL
      refine ⟨_, rfl, p, _, 1, _, rfl, rfl, SqL.of hL2, atI_nat (j := 1) rfl, b, i2, rfl, fun H3 s3 => ⟨true, rfl, iteF ?_⟩⟩
      have hL3 := s3 _ _ hL2
      refine ⟨_, rfl, p, _, 2, _, rfl, rfl, SqL.of hL3, atI_nat (j := 2) rfl, _, _, rfl, .inr (X.indexes H3), rfl, rfl, _, rfl, ?_⟩
      have ei3 : (!inV (.str d) [.str "0", .str "1", .str "2", .str "3", .str "4", .str "5"]) = false := by rw [i3]; rfl
      show if (!inV (.str d) [.str "0", .str "1", .str "2", .str "3", .str "4", .str "5"]) = true then _ else _
      rw [ei3]
      refine iteF ?_
      refine ⟨_, rfl, p, _, 0, _, rfl, rfl, SqL.of hL3, atI_nat (j := 0) rfl, _, rfl, p, _, 1, _, rfl, rfl, SqL.of hL3, atI_nat (j := 1) rfl, _, rfl, p, _, 2, _, rfl, rfl, SqL.of hL3, atI_nat (j := 2) rfl, d, n, rfl, i4, i5, (by show 3 ≤ sizeLine; decide), fun p4 hp4 => ?_⟩
      exact hs _ ec _ p4 (Same.trans (Same.trans (Same.trans s1 (Same.upd hp2)) s3) (Same.upd hp4)) upd_same
end K45
/-! part K45W5 -/
set_option autoImplicit true
set_option Elab.async false
set_option linter.all false
set_option maxRecDepth 100000
set_option maxHeartbeats 4000000
/-! Walks: shape_in, is_leaf, kind_of, need_term. -/
namespace K45
open PySem PySem.Spec PyProof.Rows L2
variable {P : Program} {w : World} {K : PySem.W.Frag} {mg : Str → Option Value} {base : Heap}
theorem sc_shape_in : FnScope ["label", "many", "call", "shape", "least"] ["label", "many"] (defScope s_shape_in) := ⟨rfl, rfl, rfl, by decide +kernel, rfl, by decide +kernel, by decide +kernel⟩
def sp_shape_in (K : PySem.W.Frag) : Sp := fun vs H Q _ => ∃ h : Hd, h.lab ∧ vs = [.str h.str, .int h.args.length] ∧ ∀ (H' : Hp) (a b : Addr), Same H H' → SqT K H' a [.str (kS h.word), .ref b] → SqT K H' b (h.args.map fun k => .str (kS k)) → Q (.ref a) H'
theorem ok_shape_in (X : Fx P w K mg base) : OkD P w K mg base "shape_in" ["label", "many"] 3 (sp_shape_in K) := by
  obtain ⟨fd, F⟩ := X.fn 8 (d := d_shape_in) rfl
  obtain ⟨_, _, D1⟩ := ok_call_of X
  obtain ⟨_, _, D2⟩ := ok_shape_of X
  obtain ⟨tm, gM⟩ := X.g_MP
  refine ⟨_, fd, X.glo _ (X.fact 8 (f := .glo "shape_in") rfl), F.kp, F.bindsN fun _ _ _ _ _ _ us hl => match us, hl with | [_, _], _ => rfl, okN F sc_shape_in (fun vs H Q E h => ?_) (fun cdv A outer s H vs Q E hr h => ?_)⟩
  · obtain ⟨l, _, rfl, _⟩ := h
    rfl
  · obtain ⟨h, hl, rfl, hQ⟩ := h
    refine ⟨_, pss_cons (ps_set (i := 2) sc_shape_in.nd rfl (Or.inl rfl) (pe_d D1 hr (by rfl) (pa_cons (pv 0) pa_nil)))
      (pss_cons (ps_if (pt_cmp (pc_isN (pv 2)))
        (pss_cons (ps_set (i := 3) sc_shape_in.nd rfl (Or.inl rfl) (pe_d D2 hr (by rfl) (pa_cons (pv 0) pa_nil)))
          (pss_one (ps_ret (pe_ifExp (PW.pt (pw_and (pt_cmp (pc_notN (pv 3))) (pw_and1 (pt_cmpR op_eq (pe_callB call_len_seq (by rfl) X.b_len (by decide +kernel) (pa_cons (pe_ix ix_tup (pv 3) pe_int (fun _ _ => rfl)) pa_nil)) (pv 1) (nomark _))))) (pv 3) pe_non)))) pss_nil)
      (pss_cons (ps_set (i := 4) sc_shape_in.nd rfl (Or.inl rfl) (pe_ifExp (pt_cmpR op_eq (pe_ix ix_tup (pv 2) pe_int (fun _ _ => rfl)) pe_str (nomark _)) pe_int pe_int))
      (pss_cons (ps_if (pt_not (pt_chain op_le op_le (pv 4) (pv 1) (pe_op op_add (pe_op op_fdiv (pv 4) pe_int) (pe_glob (v := .int 6) rfl gM ⟨_, rfl⟩)))) pss_never pss_nil)
      (pss_one (ps_ret (pe_tup (pa_cons pe_str (pa_cons (pe_op (OpR.or op_repT0 op_repT) (pe_tup (pa_cons pe_str pa_nil)) (pv 1)) pa_nil)))))))), ?_⟩
    refine ⟨_, rfl, h, hl, rfl, fun hc H1 s1 => ?_, fun c hc H1 p s1 hp => ?_⟩
    · refine ⟨_, rfl, _, rfl, iteT ?_⟩
      obtain ⟨l, rfl⟩ : ∃ l, h = .nd l := by
        rcases hl with rfl | h
        · cases hc
        · exact h
      have nl : l ≠ .loop := fun e => by subst e; cases hc
      refine ⟨_, rfl, l, nl, rfl, fun H2 a b s2 ha hb => ?_⟩
      refine ⟨_, rfl, _, rfl, iteT ⟨_, rfl, a, _, 1, _, rfl, rfl, ha, atI_nat (j := 1) rfl, b, _, rfl, .inr hb, _, rfl, rfl, _, rfl, ?_⟩⟩
      have e : decide (V.int (((l.args.map fun k => V.str (kS k)).length : Nat) : Int) = V.int ((Hd.nd l).args.length : Nat)) = true := by
        rw [List.length_map]; exact decide_eq_true rfl
      rw [e]
      exact iteT ⟨_, rfl, hQ H2 a b (Same.trans s1 s2) ha hb⟩
    · refine ⟨_, rfl, _, rfl, iteF ?_⟩
      rcases hl with rfl | ⟨l, rfl⟩
      · cases hc
        refine ⟨_, rfl, p, _, 0, _, rfl, rfl, SqT.of hp, atI_nat (j := 0) rfl, rfl, _, rfl, ?_⟩
        have e1 : decide (V.str "call" = V.str "call") = true := by decide +kernel
        rw [e1]
        refine iteT ?_
        refine ⟨_, rfl, _, rfl, _, _, rfl, rfl, _, rfl, iteT ⟨_, rfl, _, _, rfl, rfl, ⟨by decide, by decide⟩, _, _, rfl, rfl, _, _, rfl, rfl, _, rfl, iteF ?_⟩⟩
        refine ⟨(by show 1 ≤ sizeLine; decide), fun q hq => ⟨_, rfl, .inl ⟨q, _, rfl, rfl, SqT.of upd_same, by simp, fun r hr' => ⟨(by show 2 ≤ sizeLine; decide), fun u hu => ?_⟩⟩⟩⟩
        have hru : r ≠ u := ne_of_none upd_same hu
        exact hQ _ u r (Same.trans s1 (Same.trans (Same.upd hq) (Same.trans (Same.upd hr') (Same.upd hu)))) (SqT.of upd_same) (SqT.of (by rw [upd_ne hru, upd_same]; rfl))
      · cases l <;> first | (cases hc; done) | skip
        cases hc
        refine ⟨_, rfl, p, _, 0, _, rfl, rfl, SqT.of hp, atI_nat (j := 0) rfl, rfl, _, rfl, ?_⟩
        have e1 : decide (V.str "loop" = V.str "call") = false := by decide +kernel
        rw [e1]
        refine iteF ?_
        refine ⟨_, rfl, _, rfl, _, _, rfl, rfl, _, rfl, iteT ⟨_, rfl, _, _, rfl, rfl, ⟨by decide, by decide⟩, _, _, rfl, rfl, _, _, rfl, rfl, _, rfl, iteF ?_⟩⟩
        refine ⟨(by show 1 ≤ sizeLine; decide), fun q hq => ⟨_, rfl, .inr ⟨q, _, _, rfl, rfl, SqT.of upd_same, by simp, by decide, by decide, by decide, fun r hr' => ⟨(by show 2 ≤ sizeLine; decide), fun u hu => ?_⟩⟩⟩⟩
        have hru : r ≠ u := ne_of_none upd_same hu
        exact hQ _ u r (Same.trans s1 (Same.trans (Same.upd hq) (Same.trans (Same.upd hr') (Same.upd hu)))) (SqT.of upd_same) (SqT.of (by rw [upd_ne hru, upd_same]; rfl))
/-! leaves -/
theorem sc_is_leaf : FnScope ["value"] ["value"] (defScope s_is_leaf) := ⟨rfl, rfl, rfl, by decide +kernel, rfl, by decide +kernel, by decide +kernel⟩
def sp_is_leaf : Sp := fun vs H Q _ => ∃ (i : Lf) (a : Addr), i ≠ .go ∧ vs = [.ref a] ∧ H a = some (.tup (.str i.str :: i.rest.map kV)) ∧ ∀ H', Same H H' → Q (.bl true) H'
theorem lf_cases (i : Lf) (h : i ≠ .go) : i = .tr ∨ (∃ n : Int, i.str = "number" ∧ i.rest = [.inl n] ∧ -2147483647 ≤ n ∧ n ≤ 2147483647) ∨ (∃ x, x ∈ nameL ∧ i.str = "name" ∧ i.rest = [.inr x]) ∨ ∃ x, x ∈ spells ∧ i.str = "flag" ∧ i.rest = [.inr x] := by
  cases i with
  | na => exact .inr (.inr (.inl ⟨"a", List.contains_iff_mem.mp (by decide +kernel), rfl, rfl⟩))
  | nb => exact .inr (.inr (.inl ⟨"b", List.contains_iff_mem.mp (by decide +kernel), rfl, rfl⟩))
  | nc => exact .inr (.inr (.inl ⟨"c1", List.contains_iff_mem.mp (by decide +kernel), rfl, rfl⟩))
  | n0 => exact .inr (.inl ⟨0, rfl, rfl, by decide, by decide⟩)
  | n7 => exact .inr (.inl ⟨-7, rfl, rfl, by decide, by decide⟩)
  | go => exact absurd rfl h
  | fp => exact .inr (.inr (.inr ⟨"p", List.contains_iff_mem.mp (by decide +kernel), rfl, rfl⟩))
  | fa => exact .inr (.inr (.inr ⟨"a", List.contains_iff_mem.mp (by decide +kernel), rfl, rfl⟩))
  | tr => exact .inl rfl
theorem ok_is_leaf (X : Fx P w K mg base) : OkD P w K mg base "is_leaf" ["value"] 3 sp_is_leaf := by
  obtain ⟨fd, F⟩ := X.fn 9 (d := d_is_leaf) rfl
  obtain ⟨_, _, D1⟩ := ok_is_within X
  obtain ⟨_, _, D2⟩ := ok_is_name X
  obtain ⟨_, _, D3⟩ := (ok_is_spelling X).mono (k := 2) (by decide)
  obtain ⟨tm, gM⟩ := X.g_MN
  refine ⟨_, fd, X.glo _ (X.fact 9 (f := .glo "is_leaf") rfl), F.kp, F.bindsN fun _ _ _ _ _ _ us hl => match us, hl with | [_], _ => rfl, okN F sc_is_leaf (fun vs H Q E h => ?_) (fun cdv A outer s H vs Q E hr h => ?_)⟩
  · obtain ⟨i, a, _, rfl, _⟩ := h
    rfl
  · obtain ⟨i, a, hi, rfl, ha, h⟩ := h
    refine ⟨_, pss_cons (ps_if (pt_cmpR op_in_seq (pe_ix ix_tup (pv 0) pe_int (fun _ _ => rfl)) (pe_glob (v := .ref (He.ga K "TRUTHS")) rfl X.g_TRUTHS rfl) rfl) (pss_one (ps_ret (pe_cmpR op_eq (pe_callB call_len_seq (by rfl) X.b_len (by decide +kernel) (pa_cons (pv 0) pa_nil)) pe_int (nomark _)))) pss_nil)
      (pss_cons (ps_if (pt_cmpR op_ne (pe_callB call_len_seq (by rfl) X.b_len (by decide +kernel) (pa_cons (pv 0) pa_nil)) pe_int (nomark _)) pss_never pss_nil)
      (pss_cons (ps_if (pt_cmpR op_eq (pe_ix ix_tup (pv 0) pe_int (fun _ _ => rfl)) pe_str (nomark _))
        (pss_one (ps_ret (pe_d D1 hr (by rfl) (pa_cons (pe_ix ix_tup (pv 0) pe_int (fun _ _ => rfl)) (pa_cons (pe_un un_neg (pe_glob (v := .int 2147483647) rfl gM ⟨_, rfl⟩)) (pa_cons (pe_glob (v := .int 2147483647) rfl gM ⟨_, rfl⟩) pa_nil)))))) pss_nil)
      (pss_one (ps_ret (pe_ifExp (pt_cmpR op_eq (pe_ix ix_tup (pv 0) pe_int (fun _ _ => rfl)) pe_str (nomark _)) (pe_d D2 hr (by rfl) (pa_cons (pe_ix ix_tup (pv 0) pe_int (fun _ _ => rfl)) pa_nil)) (pe_d D3 hr (by rfl) (pa_cons (pe_ix ix_tup (pv 0) pe_int (fun _ _ => rfl)) pa_nil))))))), ?_⟩
    have start : ∀ (Z : Prop), (inV (.str i.str) [.str "true", .str "false"] = true → Z) → True := fun _ _ => trivial
    rcases lf_cases i hi with rfl | ⟨n, e1, e2, b1, b2⟩ | ⟨x, hx, e1, e2⟩ | ⟨x, hx, e1, e2⟩
    · refine ⟨_, rfl, a, _, 0, _, rfl, rfl, SqT.of ha, atI_nat (j := 0) rfl, _, _, rfl, .inr (X.truths H), rfl, rfl, _, rfl, ?_⟩
      have e : inV (V.str Lf.tr.str) [.str "true", .str "false"] = true := by decide +kernel
      show if inV (V.str Lf.tr.str) [.str "true", .str "false"] = true then _ else _
      rw [e]
      exact iteT ⟨_, rfl, a, _, rfl, .inr (SqT.of ha), rfl, h H (Same.refl _)⟩
    · rw [e1, e2] at ha
      refine ⟨_, rfl, a, _, 0, _, rfl, rfl, SqT.of ha, atI_nat (j := 0) rfl, _, _, rfl, .inr (X.truths H), rfl, rfl, _, rfl, ?_⟩
      have e : inV (V.str "number") [.str "true", .str "false"] = false := by decide +kernel
      show if inV (V.str "number") [.str "true", .str "false"] = true then _ else _
      rw [e]
      refine iteF ⟨_, rfl, a, _, rfl, .inr (SqT.of ha), rfl, _, rfl, iteF ?_⟩
      have d1 : decide (V.str "number" = V.str "number") = true := by decide +kernel
      refine ⟨_, rfl, a, _, 0, _, rfl, rfl, SqT.of ha, atI_nat (j := 0) rfl, rfl, _, rfl, ?_⟩
      rw [d1]
      exact iteT ⟨_, rfl, a, _, 1, _, rfl, rfl, SqT.of ha, atI_nat (j := 1) rfl, _, rfl, n, -2147483647, 2147483647, rfl, b1, b2, h H (Same.refl _)⟩
    · rw [e1, e2] at ha
      refine ⟨_, rfl, a, _, 0, _, rfl, rfl, SqT.of ha, atI_nat (j := 0) rfl, _, _, rfl, .inr (X.truths H), rfl, rfl, _, rfl, ?_⟩
      have e : inV (V.str "name") [.str "true", .str "false"] = false := by decide +kernel
      show if inV (V.str "name") [.str "true", .str "false"] = true then _ else _
      rw [e]
      refine iteF ⟨_, rfl, a, _, rfl, .inr (SqT.of ha), rfl, _, rfl, iteF ?_⟩
      have d1 : decide (V.str "name" = V.str "number") = false := by decide +kernel
      have d2 : decide (V.str "name" = V.str "name") = true := by decide +kernel
      refine ⟨_, rfl, a, _, 0, _, rfl, rfl, SqT.of ha, atI_nat (j := 0) rfl, rfl, _, rfl, ?_⟩
      rw [d1]
      refine iteF ⟨_, rfl, a, _, 0, _, rfl, rfl, SqT.of ha, atI_nat (j := 0) rfl, rfl, _, rfl, ?_⟩
      rw [d2]
      exact iteT ⟨_, rfl, a, _, 1, _, rfl, rfl, SqT.of ha, atI_nat (j := 1) rfl, x, hx, rfl, h⟩
    · rw [e1, e2] at ha
      refine ⟨_, rfl, a, _, 0, _, rfl, rfl, SqT.of ha, atI_nat (j := 0) rfl, _, _, rfl, .inr (X.truths H), rfl, rfl, _, rfl, ?_⟩
      have e : inV (V.str "flag") [.str "true", .str "false"] = false := by decide +kernel
      show if inV (V.str "flag") [.str "true", .str "false"] = true then _ else _
      rw [e]
      refine iteF ⟨_, rfl, a, _, rfl, .inr (SqT.of ha), rfl, _, rfl, iteF ?_⟩
      have d1 : decide (V.str "flag" = V.str "number") = false := by decide +kernel
      have d2 : decide (V.str "flag" = V.str "name") = false := by decide +kernel
      refine ⟨_, rfl, a, _, 0, _, rfl, rfl, SqT.of ha, atI_nat (j := 0) rfl, rfl, _, rfl, ?_⟩
      rw [d1]
      refine iteF ⟨_, rfl, a, _, 0, _, rfl, rfl, SqT.of ha, atI_nat (j := 0) rfl, rfl, _, rfl, ?_⟩
      rw [d2]
      exact iteF ⟨_, rfl, a, _, 1, _, rfl, rfl, SqT.of ha, atI_nat (j := 1) rfl, x, hx, rfl, h⟩
end K45
/-! part K45W6 -/
set_option autoImplicit true
set_option Elab.async false
set_option linter.all false
set_option maxRecDepth 100000
set_option maxHeartbeats 4000000
/-! Walks: kind_of, need_term. -/
namespace K45
open PySem PySem.Spec PyProof.Rows L2
variable {P : Program} {w : World} {K : PySem.W.Frag} {mg : Str → Option Value} {base : Heap}
theorem Same.sqT {H H' : Hp} {a : Addr} {xs : List V} (e : Same H H') (h : SqT K H a xs) : SqT K H' a xs := by
  rcases h with (h | ⟨o, h⟩) | h
  · exact .inl (.inl (e _ _ h))
  · exact .inl (.inr ⟨o, e _ _ h⟩)
  · exact .inr h
theorem lk_val (X : Fx P w K mg base) (i : Lf) (h : i ≠ .go) : ∃ u, PySem.W.nsIn K (He.ga K "LEAF_KINDS") i.str = some (some u) ∧ RelV (.str (kS i.word)) u := by
  cases i with
  | na => exact X.lkVal 1 (q := ("name", .str "word")) rfl
  | nb => exact X.lkVal 1 (q := ("name", .str "word")) rfl
  | nc => exact X.lkVal 1 (q := ("name", .str "word")) rfl
  | n0 => exact X.lkVal 0 (q := ("number", .str "word")) rfl
  | n7 => exact X.lkVal 0 (q := ("number", .str "word")) rfl
  | go => exact absurd rfl h
  | fp => exact X.lkVal 2 (q := ("flag", .str "truth")) rfl
  | fa => exact X.lkVal 2 (q := ("flag", .str "truth")) rfl
  | tr => exact X.lkVal 3 (q := ("true", .str "truth")) rfl
theorem lk_lab (X : Fx P w K mg base) {h : Hd} (l : h.lab) : PySem.W.nsIn K (He.ga K "LEAF_KINDS") h.str = some none ∧ h.rest = [] := by
  rcases l with rfl | ⟨l, rfl⟩
  · exact ⟨X.lkNone (z := "call go 0") (by decide +kernel), rfl⟩
  · exact ⟨X.lkNone (z := l.str) (by cases l <;> decide +kernel), rfl⟩
theorem sc_kind_of : FnScope ["value", "shape", "part", "kind"] ["value"] (defScope s_kind_of) := ⟨rfl, rfl, rfl, by decide +kernel, rfl, by decide +kernel, by decide +kernel⟩
def sp_kind (n : Nat) : Sp := fun vs H Q _ => ∃ (t : T) (v : V), vs = [v] ∧ TmAt H t v ∧ t.ok ∧ t.depth ≤ n ∧ ∀ H', Same H H' → Q (.str (kS t.word)) H'
theorem hd_cases (h : Hd) : (∃ i, i ≠ .go ∧ h = .lf i) ∨ h.lab := by
  cases h with
  | lf i =>
    by_cases e : i = .go
    · exact .inr (.inl (by rw [e]))
    · exact .inl ⟨i, e, rfl⟩
  | nd l => exact .inr (.inr ⟨l, rfl⟩)
theorem ok_kind (X : Fx P w K mg base) : ∀ n : Nat, OkD P w K mg base "kind_of" ["value"] (n + 4) (sp_kind n) := by
  have step : ∀ (k n : Nat) (rec : n = 0 ∨ ∃ m, n = m + 1 ∧ OkD P w K mg base "kind_of" ["value"] (k + 3) (sp_kind m)), OkD P w K mg base "kind_of" ["value"] (k + 4) (sp_kind n) := by
    intro k n rec
    obtain ⟨fd, F⟩ := X.fn 10 (d := d_kind_of) rfl
    obtain ⟨_, _, D1⟩ := (ok_is_leaf X).mono (k := k + 3) (by omega)
    obtain ⟨_, _, D2⟩ := (ok_shape_in X).mono (k := k + 3) (by omega)
    obtain ⟨es, ne, TT⟩ := X.lkT
    refine ⟨_, fd, X.glo _ (X.fact 10 (f := .glo "kind_of") rfl), F.kp, F.bindsN fun _ _ _ _ _ _ us hl => match us, hl with | [_], _ => rfl, okN F sc_kind_of (fun vs H Q E h => ?_) (fun cdv A outer s H vs Q E hr h => ?_)⟩
    · obtain ⟨_, _, rfl, _⟩ := h
      rfl
    · obtain ⟨t, v, rfl, ht, hk, hd, h⟩ := h
      obtain ⟨m, rfl, f', fd', D⟩ : ∃ m, n = m + 1 ∧ OkD P w K mg base "kind_of" ["value"] (k + 3) (sp_kind m) := by
        rcases rec with e | e
        · have := t.depth_pos
          omega
        · exact e
      obtain ⟨a, us, rfl, ha, hp⟩ := TmAt.iff.mp ht
      refine ⟨_, pss_cons (ps_if (PW.pt (pw_or (pt_not (pt_val (pe_callB call_isiT (by rfl) X.b_isinstance (by decide +kernel) (pa_cons (pv 0) (pa_cons (pe_tup (pa_cons (pe_bltn (v := .ty "list") (by rfl) X.b_list (by decide +kernel) rfl) (pa_cons (pe_bltn (v := .ty "tuple") (by rfl) X.b_tuple (by decide +kernel) rfl) pa_nil))) pa_nil)))))
          (pw_or (pt_cmpR op_eq (pe_callB call_len_seq (by rfl) X.b_len (by decide +kernel) (pa_cons (pv 0) pa_nil)) pe_int (nomark _))
          (pw_or1 (pt_not (pt_val (pe_callB call_isi (by rfl) X.b_isinstance (by decide +kernel) (pa_cons (pe_ix ix_tup (pv 0) pe_int (fun _ _ => rfl)) (pa_cons (pe_bltn (v := .ty "str") (by rfl) X.b_str (by decide +kernel) rfl) pa_nil))))))))) pss_never pss_nil)
        (pss_cons (ps_if (pt_cmpR (op_in_kd TT) (pe_ix ix_tup (pv 0) pe_int (fun _ _ => rfl)) (pe_glob (v := .ref (He.ga K "LEAF_KINDS")) rfl X.g_LEAF_KINDS rfl) rfl)
          (pss_one (ps_ret (pe_ifExp (pt_val (pe_d D1 hr (by rfl) (pa_cons (pv 0) pa_nil))) (pe_ix ix_kdict (pe_glob (v := .ref (He.ga K "LEAF_KINDS")) rfl X.g_LEAF_KINDS rfl) (pe_ix ix_tup (pv 0) pe_int (fun _ _ => rfl)) (fun _ _ => rfl)) pe_non))) pss_nil)
        (pss_cons (ps_set (i := 1) sc_kind_of.nd rfl (Or.inl rfl) (pe_d D2 hr (by rfl) (pa_cons (pe_ix ix_tup (pv 0) pe_int (fun _ _ => rfl)) (pa_cons (pe_op op_sub (pe_callB call_len_seq (by rfl) X.b_len (by decide +kernel) (pa_cons (pv 0) pa_nil)) pe_int) pa_nil))))
        (pss_cons (ps_if (PW.pt (pw_or (pt_cmp (pc_isN (pv 1)))
          (pw_or1 (pt_not (pt_val (pe_callB (cr_all rfl) (by rfl) X.b_all (by decide +kernel) (pa_cons (pe_lc (own := [("part", 2), ("kind", 3)]) (g := gTup K 2 (gCons (gName 2) (gCons (gName 3) gNil))) (tt := tYes) rfl sc_kind_of.nd
            (RZ.pi_zipA (by rfl) X.b_zip (pa_cons (pe_slice sl_tup (pv 0) (po_some pe_int) po_none) (pa_cons (pe_ix ix_tup (pv 1) pe_int (fun _ _ => rfl)) pa_nil)))
            (blkOk_by (own := [("part", 2), ("kind", 3)]) (N := ["value", "shape", "part", "kind"]) (sc := defScope s_kind_of) (by decide +kernel))
            (fun _ _ _ _ _ => pg_tup rfl (pgs_cons (pg_name (i := 2) sc_kind_of.nd rfl (Or.inl rfl)) (pgs_cons (pg_name (i := 3) sc_kind_of.nd rfl (Or.inl rfl)) pgs_nil))) (fun _ _ _ _ _ => pts_nil)
            (fun _ _ _ _ _ => pe_cmpR op_eq (pe_d D hr (by rfl) (pa_cons (pv 2) pa_nil)) (pv 3) (nomark _))) pa_nil))))))) pss_never pss_nil)
        (pss_one (ps_ret (pe_ix ix_tup (pv 1) pe_int (fun _ _ => rfl))))))), ?_⟩
      refine ⟨_, rfl, (by show 2 ≤ sizeLine; decide), fun p hnp => ?_⟩
      have s1 : Same H (upd H p (.tup [.ty "list", .ty "tuple"])) := Same.upd hnp
      have ha1 := s1 _ _ ha
      refine ⟨_, p, _, _, _, true, rfl, upd_same, cls_lt, .base (.tup ha1), kit_lt, _, rfl, iteF ?_⟩
      refine ⟨_, rfl, a, _, rfl, .inr (SqT.of ha1), rfl, _, rfl, ?_⟩
      have z0 : decide (V.int (((V.str t.hd.str :: (t.hd.rest.map kV ++ us)).length : Nat) : Int) = V.int 0) = false := by
        refine decide_eq_false fun z => ?_
        have z2 := V.int.inj z
        simp only [List.length_cons] at z2
        omega
      rw [z0]
      refine iteF ⟨_, rfl, a, _, 0, _, rfl, rfl, SqT.of ha1, atI_nat (j := 0) rfl, _, _, _, _, true, rfl, .ty _, .base (.str _), kit_ty (by decide +kernel), _, rfl, iteF ?_⟩
      rcases hd_cases t.hd with ⟨i, hi, ei⟩ | hl
      · -- a leaf
        obtain ⟨u, e1, e2⟩ := lk_val X i hi
        have et : t = .lf i := by
          cases t <;> simp only [T.hd, Hd.lf.injEq, reduceCtorEq] at ei
          rw [ei]
        subst et
        cases hp
        refine ⟨_, rfl, a, _, 0, _, rfl, rfl, SqT.of ha1, atI_nat (j := 0) rfl, i.str, some u, rfl, rfl, e1, _, rfl, iteT ?_⟩
        refine ⟨_, rfl, i, a, hi, rfl, by rw [ha1]; simp [T.hd, Hd.str, Hd.rest], fun H2 s2 => ⟨true, rfl, iteT ?_⟩⟩
        exact ⟨_, rfl, a, _, 0, _, rfl, rfl, SqT.of (s2 _ _ ha1), atI_nat (j := 0) rfl, _, i.str, _, rfl, rfl, ⟨es, ne, u, TT.at_, TT.lit, e1, e2⟩, h _ (Same.trans s1 s2)⟩
      · obtain ⟨l1, l2⟩ := lk_lab X hl
        obtain ⟨k1, k2⟩ := (T.ok_iff t).mp hk
        have lu := Paired.len hp
        have la : t.hd.args.length = us.length := by rw [k1, List.length_map, lu]
        rw [l2] at ha1
        refine ⟨_, rfl, a, _, 0, _, rfl, rfl, SqT.of ha1, atI_nat (j := 0) rfl, t.hd.str, none, rfl, rfl, l1, _, rfl, iteF ?_⟩
        refine ⟨_, rfl, a, _, 0, _, rfl, rfl, SqT.of ha1, atI_nat (j := 0) rfl, _, rfl, a, _, rfl, .inr (SqT.of ha1), _, _, rfl, rfl, t.hd, hl, ?_, fun H2 b c s2 hb hc => ?_⟩
        · have e : (((V.str t.hd.str :: (List.map kV [] ++ us)).length : Nat) : Int) - 1 = (t.hd.args.length : Nat) := by
            rw [la]
            simp only [List.map_nil, List.nil_append, List.length_cons]
            omega
          show [V.str t.hd.str, V.int ((((V.str t.hd.str :: (List.map kV [] ++ us)).length : Nat) : Int) - 1)] = _
          rw [e]
        · have ha2 := s2 _ _ ha1
          refine ⟨_, rfl, _, rfl, iteF ?_⟩
          refine ⟨_, rfl, 1, rfl, a, _, rfl, SqT.of ha2, cut1_ne _ _, fun q hq => ?_⟩
          rw [cut1]
          have s3 : Same H2 (upd H2 q (.tup us)) := Same.upd hq
          refine ⟨_, rfl, b, _, 1, _, rfl, rfl, Same.sqT s3 hb, atI_nat (j := 1) rfl, q, c, us, _, rfl, .inr ⟨SqT.of (by rw [upd_same]; rfl), Same.sqT s3 hc, fun D' hD => ?_⟩⟩
          have hq2 : SqT K (upd H2 q (.tup us)) q us := SqT.of upd_same
          have lc : (t.hd.args.map fun k => V.str (kS k)).length = us.length := by rw [List.length_map, la]
          refine lc_it (n := us.length) (fun i H3 => Same (upd H2 q (.tup us)) H3 ∧ H3 D' = some (.lst (List.replicate i (.bl true)))) ⟨Same.upd hD, upd_same⟩
            (fun i H3 hi ⟨s4, _⟩ => ⟨us, _, us[i], (t.hd.args.map fun k => V.str (kS k))[i], Same.sqT s4 hq2, Same.sqT (Same.trans s3 s4) hc, List.getElem?_eq_getElem hi, List.getElem?_eq_getElem (by omega)⟩)
            (fun H3 ⟨s4, _⟩ => ⟨us, _, Same.sqT s4 hq2, Same.sqT (Same.trans s3 s4) hc, .inl (Nat.le_refl _)⟩) ?_ ?_
          · rintro i v H3 H4 hi ⟨s4, h4⟩ ⟨TT', x, y, rfl, hT, rfl, fx, fy⟩
            have hx := fx us (Same.sqT s4 hq2)
            have hy := fy _ (Same.sqT (Same.trans s3 s4) hc)
            obtain ⟨p', hp', tp'⟩ := Paired.get hp hx
            have mp : p' ∈ t.parts := List.mem_of_getElem? hp'
            rw [k1, List.map_map, List.getElem?_map, hp'] at hy
            have ey : V.str (kS p'.word) = y := by simpa using hy
            have s5 : Same H3 (upd H3 TT' (.tup [x, y])) := Same.upd hT
            refine ⟨TT', [x, y], rfl, SqT.of upd_same, rfl, x, [y], rfl, y, [], rfl, rfl, rfl, ?_⟩
            refine ⟨_, rfl, p', x, rfl, tp'.keep (.of (Same.trans s1 (Same.trans s2 (Same.trans s3 (Same.trans s4 s5))))), k2 p' mp, ?_, fun H5 s6 => ⟨_, rfl, ?_, ?_⟩⟩
            · have := T.depth_part mp
              omega
            · rw [← ey]; rfl
            · refine ⟨_, s6 _ _ (s5 _ _ h4), by rw [List.length_replicate]; exact size6 (by have := its_len t; simp only [T.its, List.length_cons, List.length_append, List.length_map] at this; omega), fun b' o e => ?_, ?_⟩
              · rw [upd_ne (ne_of_none e hD)]
                exact s6 _ _ (s5 _ _ (s4 _ _ e))
              · rw [upd_same, List.replicate_succ', ← ey]
                simp
          · rintro H3 ⟨s4, h4⟩
            refine ⟨D', List.replicate us.length true, rfl, SqL.of (by rw [h4, List.map_replicate]), ?_⟩
            rw [show (List.replicate us.length true).all id = true by simp]
            refine ⟨true, rfl, iteF ⟨_, rfl, b, _, 0, _, rfl, rfl, Same.sqT (Same.trans s3 s4) hb, atI_nat (j := 0) rfl, ?_⟩⟩
            exact h H3 (Same.trans s1 (Same.trans s2 (Same.trans s3 s4)))
  intro n
  induction n with
  | zero => exact step 0 0 (.inl rfl)
  | succ m ih => exact step (m + 1) (m + 1) (.inr ⟨m, rfl, ih⟩)
/-! need_term -/
theorem sc_need_term : FnScope ["value", "part"] ["value", "part"] (defScope s_need_term) := ⟨rfl, rfl, rfl, by decide +kernel, rfl, by decide +kernel, by decide +kernel⟩
def sp_need (n : Nat) : Sp := fun vs H Q _ => ∃ (t : T) (v x : V), vs = [v, x] ∧ TmAt H t v ∧ t.ok ∧ t.depth ≤ n ∧ ∀ H' u, Same H H' → TmAt H' t u → Q u H'
/-- need_term with both arguments, and with the default -/
structure OkNeed (P : Program) (w : World) (K : PySem.W.Frag) (mg : Str → Option Value) (base : Heap) (k n : Nat) (f : Addr) (fd : FuncData) (ds : List Value) : Prop where
  two : Ok P w K mg base "need_term" ["value", "part"] k (sp_need n) f fd
  bi : Binds K fd ["value", "part"] ds
  dv : Vals [.str "term"] ds
theorem ok_need (X : Fx P w K mg base) (n : Nat) : ∃ f fd ds, OkNeed P w K mg base (n + 5) n f fd ds := by
  obtain ⟨fd, F⟩ := X.fn 11 (d := d_need_term) rfl
  obtain ⟨_, _, D1⟩ := ok_kind X n
  obtain ⟨_, _, D2⟩ := (ok_fixed X n).mono (k := n + 4) (by omega)
  obtain ⟨ds, dv, bi⟩ := F.binds1 (ps := ["value", "part"]) 1 0 (by simp [He.DefD.dvs, d_need_term]) rfl fun T kV doc pm an cdv ct us its h1 h2 => match us, its, h1, h2 with | [a], [c], _, _ => ⟨_, rfl, rfl⟩
  obtain ⟨ds2, dv2, bi2⟩ := F.binds1 (ps := ["value", "part"]) 2 1 (by simp [He.DefD.dvs, d_need_term]) rfl fun T kV doc pm an cdv ct us its h1 h2 => match us, its, h1, h2 with | [a, b], [c], _, _ => ⟨_, rfl, rfl⟩
  have e2 : ds2 = [] := by
    cases dv2
    rfl
  subst e2
  refine ⟨_, fd, ds, ⟨X.glo _ (X.fact 11 (f := .glo "need_term") rfl), F.kp, bi2, okN F sc_need_term (fun vs H Q E h => ?_) (fun cdv A outer s H vs Q E hr h => ?_)⟩, bi, dv⟩
  · obtain ⟨_, _, _, rfl, _⟩ := h
    rfl
  · obtain ⟨t, v, x, rfl, ht, hk, hd, h⟩ := h
    refine ⟨_, pss_cons (ps_if (pt_cmp (pc_isN (pe_d D1 hr (by rfl) (pa_cons (pv 0) pa_nil)))) pss_never pss_nil) (pss_one (ps_ret (pe_d D2 hr (by rfl) (pa_cons (pv 0) pa_nil)))), ?_⟩
    refine ⟨_, rfl, t, v, rfl, ht, hk, hd, fun H1 s1 => ⟨_, rfl, iteF ⟨_, rfl, .inr t, v, rfl, ht.keep (.of s1), fun t' e => by cases e; exact hd, fun H2 u s2 hu => h H2 u (Same.trans s1 s2) hu⟩⟩⟩
end K45
/-! part K45W7 -/
set_option autoImplicit true
set_option Elab.async false
set_option linter.all false
set_option maxRecDepth 100000
set_option maxHeartbeats 4000000
/-! Walks: items_of, term_text. -/
namespace K45
open PySem PySem.Spec PyProof.Rows L2
variable {P : Program} {w : World} {K : PySem.W.Frag} {mg : Str → Option Value} {base : Heap}
def Itm.str : Itm → Str
  | .lp => "(" | .rp => ")" | .a => "a" | .b => "b" | .c1 => "c1" | .z0 => "0" | .m7 => "-7" | .qp => "?p" | .qa => "?a" | .tru => "true"
  | .call => "call" | .go => "go" | .neg => "neg" | .shl => "shl" | .d3 => "3" | .mem => "at" | .no => "no" | .add => "add" | .equ => "eq"
  | .both => "both" | .cond => "if" | .loop => "loop" | .up => "up" | .d1 => "1"
theorem Itm.str_cps (t : Itm) : t.str.cps.toList = t.cps := by cases t <;> decide +kernel
theorem Itm.str_len (t : Itm) : t.str.length ≤ 4 := by cases t <;> decide +kernel
def T.items (t : T) : List Str := t.toks.map Itm.str
theorem words_toks {h : Hd} (hl : h.lab) : ∀ t : T, t.hd = h → t.items = ((("(" : Str)) :: h.words) ++ ((t.parts.map T.items).flatten ++ [((")" : Str))]) := by
  intro t e
  subst e
  cases t with
  | lf i =>
    rcases hl with e | ⟨l, e⟩
    · simp only [T.hd, Hd.lf.injEq] at e
      subst e
      decide +kernel
    · simp [T.hd] at e
  | un l a => cases l <;> simp [T.items, T.toks, T.hd, T.parts, Hd.words, Lab.toks, Itm.str]
  | bin l a b => cases l <;> simp [T.items, T.toks, T.hd, T.parts, Hd.words, Lab.toks, Itm.str]
  | ter l a b c => cases l <;> simp [T.items, T.toks, T.hd, T.parts, Hd.words, Lab.toks, Itm.str]
theorem T.toks_len (t : T) : t.toks.length ≤ 5 * t.size := by
  induction t with
  | lf i => cases i <;> simp [T.toks, Lf.toks, T.size]
  | un l a ih => have : l.toks.length ≤ 3 := by (cases l <;> simp [Lab.toks])
                 simp only [T.toks, T.size, List.length_cons, List.length_append, List.length_nil]; omega
  | bin l a b ih1 ih2 => have : l.toks.length ≤ 3 := by (cases l <;> simp [Lab.toks])
                         simp only [T.toks, T.size, List.length_cons, List.length_append, List.length_nil]; omega
  | ter l a b c ih1 ih2 ih3 => have : l.toks.length ≤ 3 := by (cases l <;> simp [Lab.toks])
                               simp only [T.toks, T.size, List.length_cons, List.length_append, List.length_nil]; omega
theorem T.items_len (t : T) : t.items.length ≤ 5 * t.size := by rw [T.items, List.length_map]; exact t.toks_len
/-- what a leaf's text is made of -/
def Lf.last : Lf → V
  | .na => .str "a" | .nb => .str "b" | .nc => .str "c1" | .n0 => .int 0 | .n7 => .int (-7) | .go => .str "call go 0" | .fp => .str "p" | .fa => .str "a" | .tr => .str "true"
def Lf.lastS : Lf → Str
  | .na => "a" | .nb => "b" | .nc => "c1" | .n0 => toString (0 : Int) | .n7 => toString (-7 : Int) | .go => "call go 0" | .fp => "p" | .fa => "a" | .tr => "true"
def Lf.sign (i : Lf) : Str := if i.str = "flag" then "?" else ""
theorem leaf_last (i : Lf) : atI (.str i.str :: i.rest.map kV) (-1) = some i.last := by
  cases i <;> rfl
theorem leaf_last' (i : Lf) (h : i ≠ .go) : (∃ n : Int, i.last = .int n ∧ n.natAbs.log2 < 1920 ∧ i.lastS = toString n) ∨ ∃ x, i.last = .str x ∧ i.lastS = x := by
  cases i with
  | na => exact .inr ⟨_, rfl, rfl⟩
  | nb => exact .inr ⟨_, rfl, rfl⟩
  | nc => exact .inr ⟨_, rfl, rfl⟩
  | n0 => exact .inl ⟨0, rfl, by decide +kernel, rfl⟩
  | n7 => exact .inl ⟨-7, rfl, by decide +kernel, rfl⟩
  | go => exact absurd rfl h
  | fp => exact .inr ⟨_, rfl, rfl⟩
  | fa => exact .inr ⟨_, rfl, rfl⟩
  | tr => exact .inr ⟨_, rfl, rfl⟩
theorem leaf_items (i : Lf) (h : i ≠ .go) : (T.lf i).items = [i.sign ++ i.lastS] ∧ i.sign.length + i.lastS.length ≤ 100 := by
  cases i <;> first | (exact absurd rfl h) | (decide +kernel)
theorem sc_items_of : FnScope ["term", "sign", "found", "part"] ["term"] (defScope s_items_of) := ⟨rfl, rfl, rfl, by decide +kernel, rfl, by decide +kernel, by decide +kernel⟩
def sp_items (n : Nat) : Sp := fun vs H Q _ => ∃ (t : T) (v : V), vs = [v] ∧ TmAt H t v ∧ t.depth ≤ n ∧ t.size ≤ 1000 ∧ ∀ H' p, Same H H' → H' p = some (.lst (t.items.map V.str)) → Q (.ref p) H'
theorem parts_size {t p : T} (h : p ∈ t.parts) : p.size < t.size := T.size_part h
theorem flat_take (t : T) (i : Nat) : ((t.parts.take i).map T.items).flatten.length ≤ 5 * t.size := by
  have h1 : ((t.parts.map T.items).flatten).length ≤ 5 * t.size := by
    rcases hd_cases t.hd with ⟨j, _, e⟩ | l
    · cases t <;> simp [T.hd] at e
      simp [T.parts]
    · have := t.items_len
      rw [words_toks l t rfl, List.length_append, List.length_append] at this
      omega
  refine Nat.le_trans ?_ h1
  rw [List.map_take]
  have : (t.parts.map T.items).flatten = ((t.parts.map T.items).take i).flatten ++ ((t.parts.map T.items).drop i).flatten := by
    rw [← List.flatten_append, List.take_append_drop]
  rw [this, List.length_append]
  omega
theorem ok_items (X : Fx P w K mg base) : ∀ n : Nat, OkD P w K mg base "items_of" ["term"] (n + 2) (sp_items n) := by
  have step : ∀ (k n : Nat) (rec : n = 0 ∨ ∃ m, n = m + 1 ∧ OkD P w K mg base "items_of" ["term"] (k + 1) (sp_items m)), OkD P w K mg base "items_of" ["term"] (k + 2) (sp_items n) := by
    intro k n rec
    obtain ⟨fd, F⟩ := X.fn 13 (d := d_items_of) rfl
    obtain ⟨_, _, D1⟩ := (ok_parts_in X).mono (k := k + 1) (by omega)
    obtain ⟨es, ne, TT⟩ := X.lkT
    refine ⟨_, fd, X.glo _ (X.fact 13 (f := .glo "items_of") rfl), F.kp, F.bindsN fun _ _ _ _ _ _ us hl => match us, hl with | [_], _ => rfl, okN F sc_items_of (fun vs H Q E h => ?_) (fun cdv A outer s H vs Q E hr h => ?_)⟩
    · obtain ⟨_, _, rfl, _⟩ := h
      rfl
    · obtain ⟨t, v, rfl, ht, hd, hs, h⟩ := h
      obtain ⟨m, rfl, f', fd', D⟩ : ∃ m, n = m + 1 ∧ OkD P w K mg base "items_of" ["term"] (k + 1) (sp_items m) := by
        rcases rec with e | e
        · have := t.depth_pos
          omega
        · exact e
      obtain ⟨a, us, rfl, ha, hp⟩ := TmAt.iff.mp ht
      refine ⟨_, pss_cons (ps_if (pt_cmpR (op_in_kd TT) (pe_ix ix_tup (pv 0) pe_int (fun _ _ => rfl)) (pe_glob (v := .ref (He.ga K "LEAF_KINDS")) rfl X.g_LEAF_KINDS rfl) rfl)
          (pss_cons (ps_set (i := 1) sc_items_of.nd rfl (Or.inl rfl) (pe_ifExp (pt_cmpR op_eq (pe_ix ix_tup (pv 0) pe_int (fun _ _ => rfl)) pe_str (nomark _)) pe_str pe_str))
          (pss_one (ps_ret (pe_lst (pa_cons (pe_op op_add_str (pv 1) (pe_callTy (CallR.or call_str_int SkE.call_str_str) (by rfl) X.b_str (by decide +kernel) (pa_cons (pe_ix ix_tup (pv 0) (pe_un un_neg pe_int) (fun _ _ => rfl)) pa_nil))) pa_nil))))) pss_nil)
        (pss_cons (ps_set (i := 2) sc_items_of.nd rfl (Or.inl rfl) (pe_op op_cat (pe_lst (pa_cons pe_str pa_nil)) (pe_split (pe_ix ix_tup (pv 0) pe_int (fun _ _ => rfl)) pe_str)))
        (pss_cons (ps_for PassesOwn.never rfl (pi_tup (pe_d D1 hr (by rfl) (pa_cons (pv 0) pa_nil))) (pg_name (i := 3) sc_items_of.nd rfl (Or.inl rfl))
          (pss_one (ps_set (i := 2) sc_items_of.nd rfl (Or.inl rfl) (pe_op op_cat (pv 2) (pe_d D hr (by rfl) (pa_cons (pv 3) pa_nil))))))
        (pss_one (ps_ret (pe_op op_cat (pv 2) (pe_lst (pa_cons pe_str pa_nil))))))), ?_⟩
      rcases hd_cases t.hd with ⟨i, hi, ei⟩ | hl
      · obtain ⟨u, e1, e2⟩ := lk_val X i hi
        have et : t = .lf i := by
          cases t <;> simp only [T.hd, Hd.lf.injEq, reduceCtorEq] at ei
          rw [ei]
        subst et
        cases hp
        have ha' : H a = some (.tup (.str i.str :: i.rest.map kV)) := by rw [ha]; simp [T.hd, Hd.str, Hd.rest]
        obtain ⟨li1, li2⟩ := leaf_items i hi
        refine ⟨_, rfl, a, _, 0, _, rfl, rfl, SqT.of ha', atI_nat (j := 0) rfl, i.str, some u, rfl, rfl, e1, _, rfl, iteT ?_⟩
        have fin : ∀ p, H p = none → Q (.ref p) (upd H p (.lst [.str (i.sign ++ i.lastS)])) := fun p hp => by
          refine h _ p (Same.upd hp) ?_
          rw [upd_same, li1]
          rfl
        refine ⟨_, rfl, a, _, 0, _, rfl, rfl, SqT.of ha', atI_nat (j := 0) rfl, rfl, _, rfl, ?_⟩
        by_cases hf : i.str = "flag"
        · rw [decide_eq_true (show V.str i.str = V.str "flag" by rw [hf])]
          have es : ("?" : Str) = i.sign := by unfold Lf.sign; rw [if_pos hf]
          refine iteT ?_
          rcases leaf_last' i hi with ⟨n, q1, q2, q3⟩ | ⟨x, q1, q3⟩
          · refine ⟨_, rfl, _, rfl, _, rfl, a, _, -1, _, rfl, rfl, SqT.of ha', (leaf_last i).trans (congrArg some q1), .inl ⟨n, rfl, q2, _, _, rfl, rfl, ?_, (by show 1 ≤ sizeLine; decide), ?_⟩⟩
            · rw [← q3, es]; exact Nat.le_trans li2 (by decide)
            · rw [← q3, es]; exact fin
          · refine ⟨_, rfl, _, rfl, _, rfl, a, _, -1, _, rfl, rfl, SqT.of ha', (leaf_last i).trans (congrArg some q1), .inr ⟨x, rfl, _, _, rfl, rfl, ?_, (by show 1 ≤ sizeLine; decide), ?_⟩⟩
            · rw [← q3, es]; exact Nat.le_trans li2 (by decide)
            · rw [← q3, es]; exact fin
        · rw [decide_eq_false (show ¬ V.str i.str = V.str "flag" from fun z => hf (V.str.inj z))]
          have es : ("" : Str) = i.sign := by unfold Lf.sign; rw [if_neg hf]
          refine iteF ?_
          rcases leaf_last' i hi with ⟨n, q1, q2, q3⟩ | ⟨x, q1, q3⟩
          · refine ⟨_, rfl, _, rfl, _, rfl, a, _, -1, _, rfl, rfl, SqT.of ha', (leaf_last i).trans (congrArg some q1), .inl ⟨n, rfl, q2, _, _, rfl, rfl, ?_, (by show 1 ≤ sizeLine; decide), ?_⟩⟩
            · rw [← q3, es]; exact Nat.le_trans li2 (by decide)
            · rw [← q3, es]; exact fin
          · refine ⟨_, rfl, _, rfl, _, rfl, a, _, -1, _, rfl, rfl, SqT.of ha', (leaf_last i).trans (congrArg some q1), .inr ⟨x, rfl, _, _, rfl, rfl, ?_, (by show 1 ≤ sizeLine; decide), ?_⟩⟩
            · rw [← q3, es]; exact Nat.le_trans li2 (by decide)
            · rw [← q3, es]; exact fin
      · obtain ⟨l1, l2⟩ := lk_lab X hl
        obtain ⟨e1, e2⟩ := Hd.split hl
        have lu := Paired.len hp
        have ha' : H a = some (.tup (.str t.hd.str :: us)) := by rw [ha, l2]; rfl
        refine ⟨_, rfl, a, _, 0, _, rfl, rfl, SqT.of ha', atI_nat (j := 0) rfl, t.hd.str, none, rfl, rfl, l1, _, rfl, iteF ?_⟩
        have wl : t.hd.words.length ≤ 10 := by
          rcases hl with e | ⟨l, e⟩
          · rw [e]; decide
          · rw [e]; cases l <;> decide
        refine ⟨(by show 1 ≤ sizeLine; decide), fun p1 hp1 => ?_⟩
        have s1 : Same H (upd H p1 (.lst [.str "("])) := Same.upd hp1
        refine ⟨_, rfl, a, _, 0, _, rfl, rfl, SqT.of (s1 _ _ ha'), atI_nat (j := 0) rfl, ⟨_, rfl⟩, t.hd.str, " ", rfl, rfl, by decide +kernel, Nat.le_trans e2 (by decide), fun p2 hp2 => ?_⟩
        rw [e1]
        have s2 := Same.upd hp2 (o := .lst (t.hd.words.map V.str))
        refine ⟨p1, p2, _, _, rfl, rfl, s2 _ _ upd_same, upd_same, ?_, fun p3 hp3 => ?_⟩
        · rw [List.length_map]; exact Nat.le_trans (Nat.add_le_add_left wl _) (by decide)
        have s3 := Same.upd hp3 (o := .lst ([V.str "("] ++ t.hd.words.map V.str))
        have s123 := Same.trans s1 (Same.trans s2 s3)
        refine ⟨_, rfl, a, t.hd, us, rfl, by rw [s123 _ _ ha']; rw [l2]; rfl, fun i e => ?_, fun p4 hp4 => ?_⟩
        · have e0 : t = .lf i := by
            cases t <;> simp only [T.hd, Hd.lf.injEq, reduceCtorEq] at e
            rw [e]
          subst e0
          cases hp
          rfl
        have s4 := Same.upd hp4 (o := .tup us)
        refine ⟨p4, rfl, ⟨_, SqT.of upd_same⟩, for_tup (K := K) (a := p4) (xs := us) (fun i σ H2 => Same (upd (upd (upd (upd H p1 (.lst [.str "("])) p2 (.lst (t.hd.words.map V.str))) p3 (.lst ([V.str "("] ++ t.hd.words.map V.str))) p4 (.tup us)) H2 ∧ ∃ f v, σ = [some (.ref a), none, some (.ref f), v] ∧ H2 f = some (.lst ((((("(" : Str)) :: t.hd.words) ++ ((t.parts.take i).map T.items).flatten).map V.str)))
          ⟨Same.refl _, p3, none, rfl, by rw [s4 _ _ upd_same]; simp⟩ (fun i σ H2 _ ⟨s5, _⟩ => SqT.of (s5 _ _ upd_same)) ?_ ?_⟩
        · rintro i x σ H2 hx ⟨s5, f, v, rfl, hf⟩
          obtain ⟨p', hp', tp'⟩ := Paired.get hp hx
          have mp : p' ∈ t.parts := List.mem_of_getElem? hp'
          refine ⟨_, rfl, _, rfl, p', x, rfl, tp'.keep (.of (Same.trans s123 (Same.trans s4 s5))), ?_, ?_, fun H3 q s6 hq => ?_⟩
          · have := T.depth_part mp
            omega
          · have := T.size_part mp
            omega
          refine ⟨f, q, _, _, rfl, rfl, s6 _ _ hf, hq, ?_, fun r hr' => ⟨Same.trans s5 (Same.trans s6 (Same.upd hr')), r, _, rfl, ?_⟩⟩
          · have b1 := flat_take t i
            have b2 := p'.items_len
            have b3 := T.size_part mp
            rw [List.length_map, List.length_map, List.length_append, List.length_cons]
            have : ((("(" : Str)) :: t.hd.words).length ≤ 11 := by rw [List.length_cons]; omega
            refine Nat.le_trans (m := 20000) ?_ (by decide)
            omega
          · rw [upd_same, List.take_add_one, hp']
            simp
        · rintro σ H2 ⟨s5, f, v, rfl, hf⟩
          have e5 : t.parts.take us.length = t.parts := by rw [← lu, List.take_length]
          rw [e5] at hf
          refine ⟨_, rfl, (by show 1 ≤ sizeLine; decide), fun p5 hp5 => ?_⟩
          have s6 := Same.upd hp5 (o := .lst [V.str ")"])
          refine ⟨f, p5, _, _, rfl, rfl, s6 _ _ hf, upd_same, ?_, fun p6 hp6 => ?_⟩
          · have b := t.items_len
            rw [words_toks hl t rfl] at b
            simp only [List.length_append, List.length_cons, List.length_nil, List.length_map] at b ⊢
            refine Nat.le_trans (m := 20000) ?_ (by decide)
            omega
          · refine h _ p6 (Same.trans s123 (Same.trans s4 (Same.trans s5 (Same.trans s6 (Same.upd hp6))))) ?_
            rw [upd_same, words_toks hl t rfl]
            simp
  intro n
  induction n with
  | zero => exact step 0 0 (.inl rfl)
  | succ m ih => exact step (m + 1) (m + 1) (.inr ⟨m, rfl, ih⟩)
end K45
/-! part K45W8 -/
set_option autoImplicit true
set_option Elab.async false
set_option linter.all false
set_option maxRecDepth 100000
set_option maxHeartbeats 4000000
/-! Walks: term_text. -/
namespace K45
open PySem PySem.Spec PyProof.Rows L2
variable {P : Program} {w : World} {K : PySem.W.Frag} {mg : Str → Option Value} {base : Heap}
theorem sep_join : ∀ ps : List (List Nat), TL.joinL [32] ps = sep ps
  | [] => rfl
  | [_] => rfl
  | p :: q :: r => by
    show p ++ ([32] ++ TL.joinL [32] (q :: r)) = p ++ (32 :: sep (q :: r))
    rw [sep_join (q :: r)]
    rfl
theorem text_txt (t : T) : (Txt.join " " t.items).cps.toList = t.txt := by
  rw [TL.join_eq]
  have h := TL.tl_join " " t.items
  have e : (" " : Str).cps.toList = [32] := by decide +kernel
  have e2 : TL.tl (" " : Str) = [32] := e
  rw [e2, sep_join] at h
  refine Eq.trans h ?_
  unfold T.txt T.items
  rw [List.map_map]
  congr 1
  exact List.map_congr_left fun k _ => k.str_cps
theorem sc_term_text : FnScope ["term"] ["term"] (defScope s_term_text) := ⟨rfl, rfl, rfl, by decide +kernel, rfl, by decide +kernel, by decide +kernel⟩
def sp_text (n : Nat) : Sp := fun vs H Q _ => ∃ (t : T) (v : V), vs = [v] ∧ TmAt H t v ∧ t.ok ∧ t.depth ≤ n ∧ t.size ≤ 1000 ∧ ∀ H' x, Same H H' → x.cps.toList = t.txt → Q (.str x) H'
theorem sum_le4 : ∀ l : List Str, (∀ x ∈ l, x.length ≤ 4) → (l.map (·.length)).sum ≤ 4 * l.length
  | [], _ => Nat.le_refl _
  | x :: l, h => by
    have h1 := h x List.mem_cons_self
    have h2 := sum_le4 l fun y hy => h y (List.mem_cons_of_mem _ hy)
    simp only [List.map_cons, List.sum_cons, List.length_cons]
    omega
theorem ok_text (X : Fx P w K mg base) (n : Nat) : OkD P w K mg base "term_text" ["term"] (n + 6) (sp_text n) := by
  obtain ⟨fd, F⟩ := X.fn 14 (d := d_term_text) rfl
  obtain ⟨f2, fd2, ds, D2⟩ := ok_need X n
  obtain ⟨_, _, D1⟩ := (ok_items X n).mono (k := n + 5) (by omega)
  refine ⟨_, fd, X.glo _ (X.fact 14 (f := .glo "term_text") rfl), F.kp, F.bindsN fun _ _ _ _ _ _ us hl => match us, hl with | [_], _ => rfl, okN F sc_term_text (fun vs H Q E h => ?_) (fun cdv A outer s H vs Q E hr h => ?_)⟩
  · obtain ⟨_, _, rfl, _⟩ := h
    rfl
  · obtain ⟨t, v, rfl, ht, hk, hd, hs, h⟩ := h
    refine ⟨_, pss_one (ps_ret (pe_join pe_str (pe_d D1 hr (by rfl) (pa_cons (pe_call D2.two.ok hr (by rfl) D2.two.gl D2.two.kp D2.bi D2.dv pass0 (pa_cons (pv 0) pa_nil)) pa_nil)))), ?_⟩
    refine ⟨⟨_, rfl⟩, _, rfl, t, v, _, rfl, ht, hk, hd, fun H1 u s1 hu => ⟨t, u, rfl, hu, hd, hs, fun H2 p s2 hp => ?_⟩⟩
    refine ⟨" ", p, t.items, rfl, rfl, .inl (SqL.of hp), ?_, h H2 _ (Same.trans s1 s2) (text_txt t)⟩
    have b := t.items_len
    have b2 := sum_le4 t.items fun x hx => by
      obtain ⟨k, _, rfl⟩ := List.mem_map.mp hx
      exact k.str_len
    have e : (" " : Str).length = 1 := by decide +kernel
    rw [e]
    omega
end K45
/-! part K45R2 -/
set_option autoImplicit true
set_option Elab.async false
set_option linter.all false
set_option maxRecDepth 100000
set_option maxHeartbeats 4000000
/-! Rules: an attribute among the targets of a tuple; {node: v}; dict.pop(node). -/
namespace K45
open PySem PySem.Spec PyProof.Rows L2
section
variable {X : Cx} {o : Expr} {f : Str} {pos : Pos} {to : TE}
/-- e.f = .., as one of several targets -/
def gFld (K : PySem.W.Frag) (to : TE) (f : Str) : TG := fun v σ H Q => to σ H fun x H1 => ∃ a C dx fs, x = .ref a ∧ H1 a = some (.ins C dx fs) ∧ Cls K C ∧ NoAttr K C f ∧ fs.length < 1000 ∧ Q σ (upd H1 a (.ins C dx (putF f v fs)))
theorem pg_fld (ho : PE X o to) : PG X (.Attribute o f pos) (gFld X.K to f) := by
  refine ⟨fun pins s σ H v u Q I r h => ?_⟩
  rw [assign_Attribute]
  refine wpAny_bind (wpAny_holding (thn (ho.run pins s σ H _ I h) fun ov s1 ⟨x, H1, I1, rx, a, C, dx, fs, ex, ea, c, n, l, q⟩ => ?_))
  subst ex
  obtain rfl : ov = Value.ref a := rx
  refine wpAny_bind (wpAny_standAt (wpAny_bind (wpAny_holding (setattr_ok I1 ea c n l r fun s2 I2 => ?_))))
  exact wpAny_release ⟨σ, _, I2, q⟩
end
section
variable {X : Cx} {k v : Expr} {pos : Pos} {tk tv : TE}
/-- {k: v} with k a tuple of ints and texts -/
def tDisp1T (tk tv : TE) : TE := fun σ H Q => ∀ p, H p = none → tk σ (upd H p (.dT [])) fun x H1 => tv σ H1 fun y H2 => ∃ b ks, x = .ref b ∧ H2 p = some (.dT []) ∧ H2 b = some (.tup (ks.map kV)) ∧ Q (.ref p) (upd H2 p (.dT [(ks, y)]))
theorem pe_dispT1 (hu : X.A.units + 1 < cLine) (hk : PE X k tk) (hv : PE X v tv) : PE X (.Dict [some k] [v] pos) (tDisp1T tk tv) := by
  refine ⟨fun pins s σ H Q I q => ?_⟩
  have hn := I.hok.fresh (Nat.le_refl s.heap.objs.size)
  have I1 := I.laid (a := s.heap.objs.size) (o := .dT []) (h' := s.heap.push { cls := .type "dict", data := .dict #[] }) (t' := s.toks) (fun _ _ q => Heap.get?_push_of_some _ q) (Nat.le_refl _) (dt_empty s.heap I.big)
  have hu' : (tupleKind (mixKind X.prog X.w)).room X.A := (show X.A.units < cLine by omega)
  have hshape : (evalEachOpt [some k] X.env).zip ((evalEach [v] X.env).map fun v => do let x ← v; standAt pos; pure x) = ([(eval k X.env, do let x ← eval v X.env; standAt pos; pure x)] : List (Sem Value × Sem Value)).map fun p => (some p.1, p.2) := rfl
  rw [arm_eval_Dict, hshape, dictDisplay_pairs _ (by simp) (by show 1 < 17; omega)]
  refine wpAny_bind (wpAny_standAt (wpAny_bind (wpAny_subDictH (knd := tupleKind (mixKind X.prog X.w)) (Q := fun d s' => wpAny (model X.prog X.w) X.A (pure (Value.ref d)) (EP X pins σ Q) X.xe s') hu' (by show 1 ≤ 15; omega) ?_)))
  refine evalPairs_cons (thn (hk.run pins _ σ _ _ I1 (q _ hn)) fun kv s1 ⟨x, H1, I2, rx, q1⟩ => wpAny_bind (thn (hv.run pins s1 σ H1 _ I2 q1) fun vv s2 ⟨y, H2, I3, ry, b, ks, ex, hp, hb, q2⟩ => wpAny_bind (wpAny_standAt (wpAny_pure (evalPairs_nil ?_)))))
  subst ex
  obtain rfl : kv = Value.ref b := rx
  obtain ⟨z, hd, xs, rel, dd⟩ := dt_of I3.hok hp
  have dd0 := dd
  cases rel
  refine ⟨[(ks, b, vv)], ⟨rfl, rfl, key_of I3.hok hb, trivial⟩, dd, fun h' tk' dd' hs => ?_⟩
  obtain ⟨o, es, ep, hq, h2, h3, h4, _, h5⟩ := dd'
  have I4 : Inv X pins σ (upd H2 s.heap.objs.size (.dT [(ks, y)])) { s2 with heap := h', toks := tk' } :=
    d_write I3 (by rw [hp]; exact True.intro) hs ⟨o, hq⟩ ⟨by show 1 ≤ sizeLine; decide, hd, [(ks, b, vv)], .cons ⟨rfl, (by rw [upd_ne (ne_of hb hp (fun z => nomatch z))]; exact hb), ry⟩ .nil, o, es, ep, hq, h2, h3, h4, h5⟩
  exact wpAny_pure ⟨.ref s.heap.objs.size, _, I4, rfl, q2⟩
/-- d.pop(node), there -/
def rPopT1 : V → List V → Hp → VK → Prop := fun x xs H Q => ∃ (a : Addr) (kvs : List (List L2.Key × V)) (k : List L2.Key) (b : Addr) (v : V), x = .ref a ∧ xs = [.ref b] ∧ H a = some (.dT kvs) ∧ H b = some (.tup (k.map kV)) ∧
  valV kvs k = some v ∧ Q v (upd H a (.dT (dropK kvs k)))
theorem mt_popT1 (hu : X.A.units + 1 < cLine) : MtR X "dict.pop" rPopT1 := by
  intro pins s σ H x xs v us Q I rx rxs h
  obtain ⟨a, kvs, k, b, v0, rfl, rfl, ha, hb, ev, q⟩ := h
  cases rx
  obtain rfl := Vals.ref1 rxs
  obtain ⟨z, hd, xs', rel, dd⟩ := dt_of I.hok ha
  have hz : xs'.length ≤ sizeLine := by rw [← Paired.length rel]; exact z
  have r := rel.val k
  rw [ev] at r
  obtain ⟨p, hp⟩ : ∃ p, atKey xs' k = some p := by
    cases e : atKey xs' k with
    | none => rw [e] at r; exact (show False from r).elim
    | some p => exact ⟨p, rfl⟩
  rw [hp] at r
  have rv : RelV v0 p.2 := r
  refine call_pop_heap (more := []) (.inl rfl) (PySem.F.args_dict_pop_2 _ _) (tupleKind_room_in1 hu) (key_of I.hok hb) hd dd hp (fun h' dd' hs => ?_) hz
  obtain ⟨o, es, ep, hq, h2, h3, h4, _, h5⟩ := dd'
  have rel' : KT H (dropK kvs k) (withoutH xs' k) := DX.KT_drop k rel
  have I2 : Inv X pins σ (upd H a (.dT (dropK kvs k))) { s with heap := h', toks := s.toks + (tupleKind (mixKind X.prog X.w)).draws k } :=
    d_write I (by rw [ha]; exact True.intro) hs ⟨o, hq⟩ ⟨Nat.le_trans (dropK_le kvs k) z, hd, _, rel'.keeps (fun c ys ec => (by rw [upd_ne (ne_of ec ha (fun z => nomatch z))]; exact ec)), o, es, ep, hq, h2, h3, h4, h5⟩
  exact ⟨v0, _, I2, rv, q⟩
end
end K45
/-! part K45C1 -/
set_option autoImplicit true
set_option Elab.async false
set_option linter.all false
set_option maxRecDepth 100000
set_option maxHeartbeats 4000000
/-! An object of Classes in the heap. -/
namespace K45
open PySem PySem.Spec PyProof.Rows L2
/-! ### entries -/
abbrev Ent := List L2.Key × V
def wE (p : N × Nat) : Ent := (p.1.key, .int p.2)
def uE (n : N) : Ent := (n.key, .bl true)
theorem key_iff {n m : N} : n.key = m.key ↔ n = m := ⟨N.key_inj, fun e => by rw [e]⟩
theorem val_w (ws : List (N × Nat)) (n : N) : valV (ws.map wE) n.key = (look ws n).map fun i => .int (i : Int) := by
  induction ws with
  | nil => rfl
  | cons p ws ih =>
    rw [List.map_cons]
    by_cases e : p.1 = n
    · rw [valV_pos (p := wE p) (show p.1.key = n.key by rw [e])]
      unfold look
      rw [List.find?_cons_of_pos (by simp [e])]
      rfl
    · rw [valV_neg (p := wE p) (show ¬ p.1.key = n.key from fun z => e (N.key_inj z)), ih]
      unfold look
      rw [List.find?_cons_of_neg (by simp [e])]
theorem val_u (l : List N) (n : N) : valV (l.map uE) n.key = if n ∈ l then some (.bl true) else none := by
  induction l with
  | nil => rfl
  | cons m l ih =>
    rw [List.map_cons]
    by_cases e : m = n
    · rw [valV_pos (p := uE m) (show m.key = n.key by rw [e]), if_pos (by rw [e]; exact List.mem_cons_self)]
      rfl
    · rw [valV_neg (p := uE m) (show ¬ m.key = n.key from fun z => e (N.key_inj z)), ih]
      by_cases h : n ∈ l
      · rw [if_pos h, if_pos (List.mem_cons_of_mem _ h)]
      · rw [if_neg h, if_neg (fun z => (List.mem_cons.mp z).elim (fun q => e q.symm) h)]
theorem drop_w (ws : List (N × Nat)) (n : N) : dropK (ws.map wE) n.key = (ws.filter fun p => decide (p.1 ≠ n)).map wE := by
  induction ws with
  | nil => rfl
  | cons p ws ih =>
    unfold dropK at ih ⊢
    by_cases e : p.1 = n
    · rw [List.map_cons, List.filter_cons_of_neg (by simp [wE, e]), List.filter_cons_of_neg (by simp [e]), ih]
    · rw [List.map_cons, List.filter_cons_of_pos (by simp [wE, key_iff, e]), List.filter_cons_of_pos (by simp [e]), List.map_cons, ih]
def del (n : N) (l : List N) : List N := l.filter fun m => decide (m ≠ n)
theorem drop_u (l : List N) (n : N) : dropK (l.map uE) n.key = (del n l).map uE := by
  unfold del
  induction l with
  | nil => rfl
  | cons p l ih =>
    unfold dropK at ih ⊢
    by_cases e : p = n
    · rw [List.map_cons, List.filter_cons_of_neg (by simp [uE, e]), List.filter_cons_of_neg (by simp [e]), ih]
    · rw [List.map_cons, List.filter_cons_of_pos (by simp [uE, key_iff, e]), List.filter_cons_of_pos (by simp [e]), List.map_cons, ih]
theorem del_no {n : N} {l : List N} (h : n ∉ l) : del n l = l := by
  unfold del
  exact List.filter_eq_self.mpr fun m hm => by simp; exact fun e => h (by rw [← e]; exact hm)
theorem mem_del {n m : N} {l : List N} : m ∈ del n l ↔ m ∈ l ∧ m ≠ n := by unfold del; simp
def ins (n : N) (l : List N) : List N := if n ∈ l then l else l ++ [n]
theorem mem_ins {n m : N} {l : List N} : m ∈ ins n l ↔ m ∈ l ∨ m = n := by
  unfold ins
  split
  · constructor
    · exact .inl
    · rintro (h | rfl) <;> assumption
  · simp
theorem nodup_del {n : N} {l : List N} (h : l.Nodup) : (del n l).Nodup := h.filter _
theorem nodup_ins {n : N} {l : List N} (h : l.Nodup) : (ins n l).Nodup := by
  unfold ins
  split
  · exact h
  · rename_i q
    exact List.nodup_append.mpr ⟨h, by simp, fun a ha b hb => by rw [List.mem_singleton.mp hb]; exact fun e => q (by rw [← e]; exact ha)⟩
theorem put_u (l : List N) (n : N) : putK (l.map uE) n.key (.bl true) = (ins n l).map uE := by
  unfold ins
  by_cases h : n ∈ l
  · rw [if_pos h]
    unfold putK
    rw [if_pos (by rw [valV_any, val_u, if_pos h]; rfl), List.map_map]
    refine List.map_congr_left fun m _ => ?_
    show (if m.key = n.key then (m.key, V.bl true) else (m.key, V.bl true)) = _
    split <;> rfl
  · rw [if_neg h, putK_new _ (by rw [val_u, if_neg h]), List.map_append]
    rfl
theorem put_w {ws : List (N × Nat)} {n : N} (i : Nat) (h : look ws n = none) : putK (ws.map wE) n.key (.int i) = (ws ++ [(n, i)]).map wE := by
  rw [putK_new _ (by rw [val_w, h]; rfl), List.map_append]
  rfl
def setW (ws : List (N × Nat)) (n : N) (i : Nat) : List (N × Nat) := ws.map fun p => if p.1 = n then (p.1, i) else p
theorem put_w' {ws : List (N × Nat)} {n : N} {j : Nat} (i : Nat) (h : look ws n = some j) : putK (ws.map wE) n.key (.int i) = (setW ws n i).map wE := by
  unfold putK setW
  rw [if_pos (by rw [valV_any, val_w, h]; rfl), List.map_map, List.map_map]
  refine List.map_congr_left fun p _ => ?_
  show (if p.1.key = n.key then (p.1.key, V.int i) else (p.1.key, V.int p.2)) = wE (if p.1 = n then (p.1, i) else p)
  by_cases e : p.1 = n
  · rw [if_pos (by rw [e]), if_pos e]; rfl
  · rw [if_neg (fun z => e (N.key_inj z)), if_neg e]; rfl
theorem idK_inj {i j : Nat} : idK i = idK j ↔ i = j := by
  constructor
  · intro e
    have := Sum.inl.inj e
    omega
  · intro e; rw [e]
theorem val_i (l : List Nat) (f : Nat → V) (c : Nat) : valV (l.map fun d => (idK d, f d)) (idK c) = if c ∈ l then some (f c) else none := by
  induction l with
  | nil => rfl
  | cons d l ih =>
    rw [List.map_cons]
    by_cases e : d = c
    · rw [valV_pos (p := (idK d, f d)) (show idK d = idK c by rw [e]), if_pos (by rw [e]; exact List.mem_cons_self), e]
    · rw [valV_neg (p := (idK d, f d)) (show ¬ idK d = idK c from fun z => e (idK_inj.mp z)), ih]
      by_cases h : c ∈ l
      · rw [if_pos h, if_pos (List.mem_cons_of_mem _ h)]
      · rw [if_neg h, if_neg (fun z => (List.mem_cons.mp z).elim (fun q => e q.symm) h)]
def out (c : Nat) (l : List Nat) : List Nat := l.filter fun d => decide (d ≠ c)
theorem mem_out {c d : Nat} {l : List Nat} : d ∈ out c l ↔ d ∈ l ∧ d ≠ c := by unfold out; simp
theorem drop_i (l : List Nat) (f : Nat → V) (c : Nat) : dropK (l.map fun d => (idK d, f d)) (idK c) = (out c l).map fun d => (idK d, f d) := by
  unfold out
  induction l with
  | nil => rfl
  | cons d l ih =>
    unfold dropK at ih ⊢
    by_cases e : d = c
    · rw [List.map_cons, List.filter_cons_of_neg (by simp [e]), List.filter_cons_of_neg (by simp [e]), ih]
    · rw [List.map_cons, List.filter_cons_of_pos (by simpa using fun z => e (idK_inj.mp (by simpa using z))), List.filter_cons_of_pos (by simp [e]), List.map_cons, ih]
theorem put_i {l : List Nat} {f : Nat → V} {c : Nat} (y : V) (h : c ∉ l) : putK (l.map fun d => (idK d, f d)) (idK c) y = (l ++ [c]).map fun d => (idK d, if d = c then y else f d) := by
  rw [putK_new _ (by rw [val_i, if_neg h]), List.map_append]
  congr 1
  · exact List.map_congr_left fun d hd => by rw [if_neg (fun e => h (by rw [← e]; exact hd))]
  · show [(idK c, y)] = [(idK c, if c = c then y else f c)]
    rw [if_pos rfl]

theorem N.key_map (n : N) : n.key.map kV = .str n.hd.str :: (n.hd.rest.map kV ++ n.ids.map fun i : Nat => V.int (i : Int)) := by
  simp only [N.key, List.map_cons, List.map_append, List.map_map]
  rfl
theorem ins_ins (n : N) (l : List N) : ins n (ins n l) = ins n l := by
  have h : n ∈ ins n l := mem_ins.mpr (.inr rfl)
  exact if_pos h
theorem ins_len (n : N) (l : List N) : (ins n l).length ≤ l.length + 1 := by
  unfold ins
  split
  · omega
  · rw [List.length_append]; simp
theorem N.leaf_ids {n : N} {i : Lf} (h : n.hd = .lf i) : n.ids = [] := by
  cases n with
  | lf j => rfl
  | nd l ids => simp [N.hd] at h
/-! ### the object -/
structure G where
  ws : List (N × Nat)
  made : Nat
  many : Nat
  liveR : List Nat
  liveU : List Nat
  liveK : List Nat
  ra : Nat → Addr
  ua : Nat → Addr
  rl : Nat → List N
  ul : Nat → List N
  cl : Nat → T
  wa : Addr
  ro : Addr
  us : Addr
  ki : Addr
  pl : Addr
  rc : Addr
  pls : List V
  rcs : List V
  fv : V
  dx : Addr
def flds (p m r d w ro us ki f : V) : List (Str × V) :=
  [("places", p), ("many", m), ("record", r), ("_made", d), ("_where", w), ("_rows", ro), ("_uses", us), ("_kinds", ki), ("_first", f)]
def G.fs (g : G) : List (Str × V) := flds (.ref g.pl) (.int g.many) (.ref g.rc) (.int g.made) (.ref g.wa) (.ref g.ro) (.ref g.us) (.ref g.ki) g.fv
section
variable (p m r d w ro us ki f x : V)
theorem lk_places : List.lookup ("places" : Str) (flds p m r d w ro us ki f) = some p := rfl
theorem lk_many : List.lookup ("many" : Str) (flds p m r d w ro us ki f) = some m := rfl
theorem lk_record : List.lookup ("record" : Str) (flds p m r d w ro us ki f) = some r := rfl
theorem lk_made : List.lookup ("_made" : Str) (flds p m r d w ro us ki f) = some d := rfl
theorem lk_where : List.lookup ("_where" : Str) (flds p m r d w ro us ki f) = some w := rfl
theorem lk_rows : List.lookup ("_rows" : Str) (flds p m r d w ro us ki f) = some ro := rfl
theorem lk_uses : List.lookup ("_uses" : Str) (flds p m r d w ro us ki f) = some us := rfl
theorem lk_kinds : List.lookup ("_kinds" : Str) (flds p m r d w ro us ki f) = some ki := rfl
theorem lk_first : List.lookup ("_first" : Str) (flds p m r d w ro us ki f) = some f := rfl
theorem pt_places : putF "places" x (flds p m r d w ro us ki f) = flds x m r d w ro us ki f := rfl
theorem pt_many : putF "many" x (flds p m r d w ro us ki f) = flds p x r d w ro us ki f := rfl
theorem pt_record : putF "record" x (flds p m r d w ro us ki f) = flds p m x d w ro us ki f := rfl
theorem pt_made : putF "_made" x (flds p m r d w ro us ki f) = flds p m r x w ro us ki f := rfl
theorem pt_first : putF "_first" x (flds p m r d w ro us ki f) = flds p m r d w ro us ki x := rfl
end
end K45
/-! part K45C2 -/
set_option autoImplicit true
set_option Elab.async false
set_option linter.all false
set_option maxRecDepth 100000
set_option maxHeartbeats 4000000
/-! An object of Classes in the heap: the steps of its change. -/
namespace K45
open PySem PySem.Spec PyProof.Rows L2
def ov {α : Type} (f : Nat → α) (c : Nat) (x : α) : Nat → α := fun d => if d = c then x else f d
theorem ov_same {α : Type} {f : Nat → α} {c : Nat} {x : α} : ov f c x c = x := if_pos rfl
theorem ov_ne {α : Type} {f : Nat → α} {c d : Nat} {x : α} (h : d ≠ c) : ov f c x d = f d := if_neg h
structure At (K : PySem.W.Frag) (o : Addr) (g : G) (H : Hp) : Prop where
  obj : H o = some (.ins (He.ga K "Classes") g.dx g.fs)
  wh : H g.wa = some (.dT (g.ws.map wE))
  rows : H g.ro = some (.dK (g.liveR.map fun c => (idK c, .ref (g.ra c))))
  uses : H g.us = some (.dK (g.liveU.map fun c => (idK c, .ref (g.ua c))))
  kinds : H g.ki = some (.dK (g.liveK.map fun c => (idK c, .str (kS (g.cl c).word))))
  row : ∀ c ∈ g.liveR, H (g.ra c) = some (.dT ((g.rl c).map uE))
  use : ∀ c ∈ g.liveU, H (g.ua c) = some (.dT ((g.ul c).map uE))
  hpl : H g.pl = some (.tup g.pls)
  hrc : H g.rc = some (.tup g.rcs)
  d1 : ∀ c ∈ g.liveR, ∀ d ∈ g.liveR, g.ra c = g.ra d → c = d
  d2 : ∀ c ∈ g.liveU, ∀ d ∈ g.liveU, g.ua c = g.ua d → c = d
  d3 : ∀ c ∈ g.liveR, ∀ d ∈ g.liveU, g.ra c ≠ g.ua d
  d4 : ∀ c ∈ g.liveR, g.ra c ≠ g.wa
  d5 : ∀ c ∈ g.liveU, g.ua c ≠ g.wa
  d6 : g.ro ≠ g.us
  d7 : g.ro ≠ g.ki
  d8 : g.us ≠ g.ki
def foot (o : Addr) (g : G) (b : Addr) : Prop := b = o ∨ b = g.wa ∨ b = g.ro ∨ b = g.us ∨ b = g.ki ∨ (∃ c ∈ g.liveR, b = g.ra c) ∨ ∃ c ∈ g.liveU, b = g.ua c
section
variable {K : PySem.W.Frag} {o a : Addr} {g g' g0 : G} {H H' H0 : Hp} {x : HO}
theorem At.of (h : At K o g H) (k : ∀ b u, H b = some u → (foot o g b ∨ ∃ xs, u = .tup xs) → H' b = some u) : At K o g H' where
  obj := k _ _ h.obj (.inl (.inl rfl))
  wh := k _ _ h.wh (.inl (.inr (.inl rfl)))
  rows := k _ _ h.rows (.inl (.inr (.inr (.inl rfl))))
  uses := k _ _ h.uses (.inl (.inr (.inr (.inr (.inl rfl)))))
  kinds := k _ _ h.kinds (.inl (.inr (.inr (.inr (.inr (.inl rfl))))))
  row := fun c hc => k _ _ (h.row c hc) (.inl (.inr (.inr (.inr (.inr (.inr (.inl ⟨c, hc, rfl⟩)))))))
  use := fun c hc => k _ _ (h.use c hc) (.inl (.inr (.inr (.inr (.inr (.inr (.inr ⟨c, hc, rfl⟩)))))))
  hpl := k _ _ h.hpl (.inr ⟨_, rfl⟩)
  hrc := k _ _ h.hrc (.inr ⟨_, rfl⟩)
  d1 := h.d1
  d2 := h.d2
  d3 := h.d3
  d4 := h.d4
  d5 := h.d5
  d6 := h.d6
  d7 := h.d7
  d8 := h.d8
theorem At.same (h : At K o g H) (s : Same H H') : At K o g H' := h.of fun b u e _ => s b u e
theorem foot.some (h : At K o g H) {b : Addr} (f : foot o g b) : ∃ u, H b = Option.some u ∧ ∀ xs, u ≠ .tup xs := by
  rcases f with rfl | rfl | rfl | rfl | rfl | ⟨c, hc, rfl⟩ | ⟨c, hc, rfl⟩
  · exact ⟨_, h.obj, fun _ z => nomatch z⟩
  · exact ⟨_, h.wh, fun _ z => nomatch z⟩
  · exact ⟨_, h.rows, fun _ z => nomatch z⟩
  · exact ⟨_, h.uses, fun _ z => nomatch z⟩
  · exact ⟨_, h.kinds, fun _ z => nomatch z⟩
  · exact ⟨_, h.row c hc, fun _ z => nomatch z⟩
  · exact ⟨_, h.use c hc, fun _ z => nomatch z⟩
theorem At.other (h : At K o g H) (ha : ¬ foot o g a) (ht : ∀ xs, H a ≠ some (.tup xs)) : At K o g (upd H a x) := h.of fun b u e f => by
  rw [upd_ne (fun z => ?_)]; exact e
  subst z
  rcases f with f | ⟨xs, rfl⟩
  · exact ha f
  · exact ht xs e
/-- what else lies in the heap stays; what the object gains was not there -/
structure Fr (o : Addr) (g0 g : G) (H0 H : Hp) : Prop where
  keep : ∀ b u, ¬ foot o g0 b → H0 b = some u → H b = some u
  new : ∀ b, foot o g b → foot o g0 b ∨ H0 b = none
theorem Fr.refl : Fr o g g H H := ⟨fun _ _ _ e => e, fun _ f => .inl f⟩
theorem Fr.step (f : Fr o g0 g H0 H) (k : ∀ b u, ¬ foot o g b → H b = some u → H' b = some u) (n : ∀ b, foot o g' b → foot o g b ∨ H0 b = none) : Fr o g0 g' H0 H' where
  keep := fun b u hb e => k b u (fun z => (f.new b z).elim hb fun q => by rw [e] at q; cases q) (f.keep b u hb e)
  new := fun b hb => (n b hb).elim (f.new b) .inr
theorem Fr.trans {g1 : G} {H1 : Hp} (f : Fr o g0 g H0 H) (f2 : Fr o g g1 H H1) (hn : ∀ b, H b = none → H0 b = none) : Fr o g0 g1 H0 H1 :=
  f.step f2.keep fun b hb => (f2.new b hb).imp (fun z => z) (hn b)
/-- the object as it stands, and what came of the heap since H0 -/
structure Sg (K : PySem.W.Frag) (o : Addr) (g0 : G) (H0 : Hp) (g : G) (H : Hp) : Prop where
  at_ : At K o g H
  fr : Fr o g0 g H0 H
  grow : ∀ b, H b = none → H0 b = none
theorem Sg.refl (h : At K o g H) : Sg K o g H g H := ⟨h, .refl, fun _ e => e⟩
theorem Sg.trans {g1 : G} {H1 : Hp} (s : Sg K o g0 H0 g H) (t : Sg K o g H g1 H1) : Sg K o g0 H0 g1 H1 := ⟨t.at_, s.fr.trans t.fr s.grow, fun b e => s.grow b (t.grow b e)⟩
theorem Same.none (s : Same H H') {b : Addr} (e : H' b = none) : H b = none := by
  cases q : H b with
  | none => rfl
  | some u => rw [s b u q] at e; cases e
theorem Sg.same (s : Sg K o g0 H0 g H) (t : Same H H') : Sg K o g0 H0 g H' := ⟨s.at_.same t, s.fr.step (fun b u _ e => t b u e) fun _ f => .inl f, fun b e => s.grow b (Same.none t e)⟩
theorem Sg.tups (s : Sg K o g0 H0 g H) (h0 : At K o g0 H0) : Tups H0 H := fun b xs e => s.fr.keep b _ (fun f => by
  obtain ⟨u, h1, h2⟩ := f.some h0
  rw [e] at h1
  exact h2 xs (Option.some.inj h1).symm) e
theorem upd_none {b : Addr} (e : upd H a x b = none) : H b = none := by
  unfold upd at e
  split at e
  · cases e
  · exact e
theorem Sg.mk' (s : Sg K o g0 H0 g H) (ha : foot o g a) (h : At K o g' (upd H a x)) (n : ∀ b, foot o g' b → foot o g b ∨ H0 b = none) : Sg K o g0 H0 g' (upd H a x) :=
  ⟨h, s.fr.step (fun b u hb e => by rw [upd_ne (fun z => hb (by rw [z]; exact ha))]; exact e) n, fun b e => s.grow b (upd_none e)⟩
/-! ### the steps -/
theorem Sg.fld (s : Sg K o g0 H0 g H) (made many : Nat) (pl rc : Addr) (pls rcs : List V) (fv : V) (hp : H pl = some (.tup pls)) (hr : H rc = some (.tup rcs)) :
    Sg K o g0 H0 { g with made := made, many := many, pl := pl, rc := rc, pls := pls, rcs := rcs, fv := fv }
      (upd H o (.ins (He.ga K "Classes") g.dx (flds (.ref pl) (.int many) (.ref rc) (.int made) (.ref g.wa) (.ref g.ro) (.ref g.us) (.ref g.ki) fv))) := by
  have h := s.at_
  refine s.mk' (.inl rfl) ?_ fun b f => .inl f
  exact {
    obj := upd_same
    wh := by rw [upd_ne (ne_of h.wh h.obj (fun z => nomatch z))]; exact h.wh
    rows := by rw [upd_ne (ne_of h.rows h.obj (fun z => nomatch z))]; exact h.rows
    uses := by rw [upd_ne (ne_of h.uses h.obj (fun z => nomatch z))]; exact h.uses
    kinds := by rw [upd_ne (ne_of h.kinds h.obj (fun z => nomatch z))]; exact h.kinds
    row := fun c hc => by rw [upd_ne (ne_of (h.row c hc) h.obj (fun z => nomatch z))]; exact h.row c hc
    use := fun c hc => by rw [upd_ne (ne_of (h.use c hc) h.obj (fun z => nomatch z))]; exact h.use c hc
    hpl := by rw [upd_ne (ne_of hp h.obj (fun z => nomatch z))]; exact hp
    hrc := by rw [upd_ne (ne_of hr h.obj (fun z => nomatch z))]; exact hr
    d1 := h.d1, d2 := h.d2, d3 := h.d3, d4 := h.d4, d5 := h.d5, d6 := h.d6, d7 := h.d7, d8 := h.d8 }
theorem Sg.setW (s : Sg K o g0 H0 g H) (ws : List (N × Nat)) : Sg K o g0 H0 { g with ws := ws } (upd H g.wa (.dT (ws.map wE))) := by
  have h := s.at_
  refine s.mk' (.inr (.inl rfl)) ?_ fun b f => .inl f
  exact {
    obj := by rw [upd_ne (ne_of h.obj h.wh (fun z => nomatch z))]; exact h.obj
    wh := upd_same
    rows := by rw [upd_ne (ne_of h.rows h.wh (fun z => nomatch z))]; exact h.rows
    uses := by rw [upd_ne (ne_of h.uses h.wh (fun z => nomatch z))]; exact h.uses
    kinds := by rw [upd_ne (ne_of h.kinds h.wh (fun z => nomatch z))]; exact h.kinds
    row := fun c hc => by rw [upd_ne (h.d4 c hc)]; exact h.row c hc
    use := fun c hc => by rw [upd_ne (h.d5 c hc)]; exact h.use c hc
    hpl := by rw [upd_ne (ne_of h.hpl h.wh (fun z => nomatch z))]; exact h.hpl
    hrc := by rw [upd_ne (ne_of h.hrc h.wh (fun z => nomatch z))]; exact h.hrc
    d1 := h.d1, d2 := h.d2, d3 := h.d3, d4 := h.d4, d5 := h.d5, d6 := h.d6, d7 := h.d7, d8 := h.d8 }
theorem Sg.setRow (s : Sg K o g0 H0 g H) {c : Nat} (hc : c ∈ g.liveR) (l : List N) : Sg K o g0 H0 { g with rl := ov g.rl c l } (upd H (g.ra c) (.dT (l.map uE))) := by
  have h := s.at_
  have hr := h.row c hc
  refine s.mk' (.inr (.inr (.inr (.inr (.inr (.inl ⟨c, hc, rfl⟩)))))) ?_ fun b f => .inl f
  exact {
    obj := by rw [upd_ne (ne_of h.obj hr (fun z => nomatch z))]; exact h.obj
    wh := by rw [upd_ne (fun z => h.d4 c hc z.symm)]; exact h.wh
    rows := by rw [upd_ne (ne_of h.rows hr (fun z => nomatch z))]; exact h.rows
    uses := by rw [upd_ne (ne_of h.uses hr (fun z => nomatch z))]; exact h.uses
    kinds := by rw [upd_ne (ne_of h.kinds hr (fun z => nomatch z))]; exact h.kinds
    row := fun d hd => by
      by_cases e : d = c
      · subst e; show _ = some (HO.dT ((ov g.rl d l d).map uE)); rw [ov_same]; exact upd_same
      · show _ = some (HO.dT ((ov g.rl c l d).map uE)); rw [ov_ne e, upd_ne (fun z => e (h.d1 d hd c hc z))]; exact h.row d hd
    use := fun d hd => by rw [upd_ne (fun z => h.d3 c hc d hd z.symm)]; exact h.use d hd
    hpl := by rw [upd_ne (ne_of h.hpl hr (fun z => nomatch z))]; exact h.hpl
    hrc := by rw [upd_ne (ne_of h.hrc hr (fun z => nomatch z))]; exact h.hrc
    d1 := h.d1, d2 := h.d2, d3 := h.d3, d4 := h.d4, d5 := h.d5, d6 := h.d6, d7 := h.d7, d8 := h.d8 }
theorem Sg.setUse (s : Sg K o g0 H0 g H) {c : Nat} (hc : c ∈ g.liveU) (l : List N) : Sg K o g0 H0 { g with ul := ov g.ul c l } (upd H (g.ua c) (.dT (l.map uE))) := by
  have h := s.at_
  have hr := h.use c hc
  refine s.mk' (.inr (.inr (.inr (.inr (.inr (.inr ⟨c, hc, rfl⟩)))))) ?_ fun b f => .inl f
  exact {
    obj := by rw [upd_ne (ne_of h.obj hr (fun z => nomatch z))]; exact h.obj
    wh := by rw [upd_ne (fun z => h.d5 c hc z.symm)]; exact h.wh
    rows := by rw [upd_ne (ne_of h.rows hr (fun z => nomatch z))]; exact h.rows
    uses := by rw [upd_ne (ne_of h.uses hr (fun z => nomatch z))]; exact h.uses
    kinds := by rw [upd_ne (ne_of h.kinds hr (fun z => nomatch z))]; exact h.kinds
    row := fun d hd => by rw [upd_ne (fun z => h.d3 d hd c hc z)]; exact h.row d hd
    use := fun d hd => by
      by_cases e : d = c
      · subst e; show _ = some (HO.dT ((ov g.ul d l d).map uE)); rw [ov_same]; exact upd_same
      · show _ = some (HO.dT ((ov g.ul c l d).map uE)); rw [ov_ne e, upd_ne (fun z => e (h.d2 d hd c hc z))]; exact h.use d hd
    hpl := by rw [upd_ne (ne_of h.hpl hr (fun z => nomatch z))]; exact h.hpl
    hrc := by rw [upd_ne (ne_of h.hrc hr (fun z => nomatch z))]; exact h.hrc
    d1 := h.d1, d2 := h.d2, d3 := h.d3, d4 := h.d4, d5 := h.d5, d6 := h.d6, d7 := h.d7, d8 := h.d8 }
theorem Sg.popRow (s : Sg K o g0 H0 g H) (c : Nat) : Sg K o g0 H0 { g with liveR := out c g.liveR } (upd H g.ro (.dK ((out c g.liveR).map fun d => (idK d, .ref (g.ra d))))) := by
  have h := s.at_
  have i : ∀ {d}, d ∈ out c g.liveR → d ∈ g.liveR := fun z => (mem_out.mp z).1
  refine s.mk' (.inr (.inr (.inl rfl))) ?_ fun b f => .inl ?_
  · exact {
      obj := by rw [upd_ne (ne_of h.obj h.rows (fun z => nomatch z))]; exact h.obj
      wh := by rw [upd_ne (ne_of h.wh h.rows (fun z => nomatch z))]; exact h.wh
      rows := upd_same
      uses := by rw [upd_ne (fun z => h.d6 z.symm)]; exact h.uses
      kinds := by rw [upd_ne (fun z => h.d7 z.symm)]; exact h.kinds
      row := fun d hd => by rw [upd_ne (ne_of (h.row d (i hd)) h.rows (fun z => nomatch z))]; exact h.row d (i hd)
      use := fun d hd => by rw [upd_ne (ne_of (h.use d hd) h.rows (fun z => nomatch z))]; exact h.use d hd
      hpl := by rw [upd_ne (ne_of h.hpl h.rows (fun z => nomatch z))]; exact h.hpl
      hrc := by rw [upd_ne (ne_of h.hrc h.rows (fun z => nomatch z))]; exact h.hrc
      d1 := fun c hc d hd => h.d1 c (i hc) d (i hd)
      d2 := h.d2
      d3 := fun c hc => h.d3 c (i hc)
      d4 := fun c hc => h.d4 c (i hc)
      d5 := h.d5, d6 := h.d6, d7 := h.d7, d8 := h.d8 }
  · rcases f with f | f | f | f | f | ⟨d, hd, f⟩ | f
    · exact .inl f
    · exact .inr (.inl f)
    · exact .inr (.inr (.inl f))
    · exact .inr (.inr (.inr (.inl f)))
    · exact .inr (.inr (.inr (.inr (.inl f))))
    · exact .inr (.inr (.inr (.inr (.inr (.inl ⟨d, i hd, f⟩)))))
    · exact .inr (.inr (.inr (.inr (.inr (.inr f)))))
theorem Sg.popUse (s : Sg K o g0 H0 g H) (c : Nat) : Sg K o g0 H0 { g with liveU := out c g.liveU } (upd H g.us (.dK ((out c g.liveU).map fun d => (idK d, .ref (g.ua d))))) := by
  have h := s.at_
  have i : ∀ {d}, d ∈ out c g.liveU → d ∈ g.liveU := fun z => (mem_out.mp z).1
  refine s.mk' (.inr (.inr (.inr (.inl rfl)))) ?_ fun b f => .inl ?_
  · exact {
      obj := by rw [upd_ne (ne_of h.obj h.uses (fun z => nomatch z))]; exact h.obj
      wh := by rw [upd_ne (ne_of h.wh h.uses (fun z => nomatch z))]; exact h.wh
      rows := by rw [upd_ne h.d6]; exact h.rows
      uses := upd_same
      kinds := by rw [upd_ne (fun z => h.d8 z.symm)]; exact h.kinds
      row := fun d hd => by rw [upd_ne (ne_of (h.row d hd) h.uses (fun z => nomatch z))]; exact h.row d hd
      use := fun d hd => by rw [upd_ne (ne_of (h.use d (i hd)) h.uses (fun z => nomatch z))]; exact h.use d (i hd)
      hpl := by rw [upd_ne (ne_of h.hpl h.uses (fun z => nomatch z))]; exact h.hpl
      hrc := by rw [upd_ne (ne_of h.hrc h.uses (fun z => nomatch z))]; exact h.hrc
      d1 := h.d1
      d2 := fun c hc d hd => h.d2 c (i hc) d (i hd)
      d3 := fun c hc d hd => h.d3 c hc d (i hd)
      d4 := h.d4
      d5 := fun c hc => h.d5 c (i hc)
      d6 := h.d6, d7 := h.d7, d8 := h.d8 }
  · rcases f with f | f | f | f | f | f | ⟨d, hd, f⟩
    · exact .inl f
    · exact .inr (.inl f)
    · exact .inr (.inr (.inl f))
    · exact .inr (.inr (.inr (.inl f)))
    · exact .inr (.inr (.inr (.inr (.inl f))))
    · exact .inr (.inr (.inr (.inr (.inr (.inl f)))))
    · exact .inr (.inr (.inr (.inr (.inr (.inr ⟨d, i hd, f⟩)))))
/-- _kinds is made anew -/
theorem Sg.setK (s : Sg K o g0 H0 g H) (l : List Nat) (cl : Nat → T) : Sg K o g0 H0 { g with liveK := l, cl := cl } (upd H g.ki (.dK (l.map fun d => (idK d, .str (kS (cl d).word))))) := by
  have h := s.at_
  refine s.mk' (.inr (.inr (.inr (.inr (.inl rfl))))) ?_ fun b f => .inl f
  exact {
    obj := by rw [upd_ne (ne_of h.obj h.kinds (fun z => nomatch z))]; exact h.obj
    wh := by rw [upd_ne (ne_of h.wh h.kinds (fun z => nomatch z))]; exact h.wh
    rows := by rw [upd_ne h.d7]; exact h.rows
    uses := by rw [upd_ne h.d8]; exact h.uses
    kinds := upd_same
    row := fun d hd => by rw [upd_ne (ne_of (h.row d hd) h.kinds (fun z => nomatch z))]; exact h.row d hd
    use := fun d hd => by rw [upd_ne (ne_of (h.use d hd) h.kinds (fun z => nomatch z))]; exact h.use d hd
    hpl := by rw [upd_ne (ne_of h.hpl h.kinds (fun z => nomatch z))]; exact h.hpl
    hrc := by rw [upd_ne (ne_of h.hrc h.kinds (fun z => nomatch z))]; exact h.hrc
    d1 := h.d1, d2 := h.d2, d3 := h.d3, d4 := h.d4, d5 := h.d5, d6 := h.d6, d7 := h.d7, d8 := h.d8 }
/-- a new row -/
theorem Sg.addRow (s : Sg K o g0 H0 g H) {c : Nat} {p : Addr} {l : List N} (hc : c ∉ g.liveR) (hp : H p = some (.dT (l.map uE))) (hf : ¬ foot o g p) (hn : H0 p = none) :
    Sg K o g0 H0 { g with liveR := g.liveR ++ [c], ra := ov g.ra c p, rl := ov g.rl c l } (upd H g.ro (.dK ((g.liveR ++ [c]).map fun d => (idK d, .ref (ov g.ra c p d))))) := by
  have h := s.at_
  have old : ∀ {d}, d ∈ g.liveR → d ≠ c := fun hd e => hc (by rw [← e]; exact hd)
  refine s.mk' (.inr (.inr (.inl rfl))) ?_ fun b f => ?_
  · exact {
      obj := by rw [upd_ne (ne_of h.obj h.rows (fun z => nomatch z))]; exact h.obj
      wh := by rw [upd_ne (ne_of h.wh h.rows (fun z => nomatch z))]; exact h.wh
      rows := upd_same
      uses := by rw [upd_ne (fun z => h.d6 z.symm)]; exact h.uses
      kinds := by rw [upd_ne (fun z => h.d7 z.symm)]; exact h.kinds
      row := fun d hd => by
        show upd H g.ro _ (ov g.ra c p d) = some (.dT ((ov g.rl c l d).map uE))
        rcases List.mem_append.mp hd with hd | hd
        · rw [ov_ne (old hd), ov_ne (old hd), upd_ne (ne_of (h.row d hd) h.rows (fun z => nomatch z))]; exact h.row d hd
        · rw [List.mem_singleton.mp hd, ov_same, ov_same, upd_ne (ne_of hp h.rows (fun z => nomatch z))]; exact hp
      use := fun d hd => by rw [upd_ne (ne_of (h.use d hd) h.rows (fun z => nomatch z))]; exact h.use d hd
      hpl := by rw [upd_ne (ne_of h.hpl h.rows (fun z => nomatch z))]; exact h.hpl
      hrc := by rw [upd_ne (ne_of h.hrc h.rows (fun z => nomatch z))]; exact h.hrc
      d1 := fun d hd e he => by
        show ov g.ra c p d = ov g.ra c p e → d = e
        rcases List.mem_append.mp hd with hd | hd <;> rcases List.mem_append.mp he with he | he
        · rw [ov_ne (old hd), ov_ne (old he)]; exact h.d1 d hd e he
        · rw [ov_ne (old hd), List.mem_singleton.mp he, ov_same]; exact fun z => absurd (.inr (.inr (.inr (.inr (.inr (.inl ⟨d, hd, z.symm⟩)))))) hf
        · rw [ov_ne (old he), List.mem_singleton.mp hd, ov_same]; exact fun z => absurd (.inr (.inr (.inr (.inr (.inr (.inl ⟨e, he, z⟩)))))) hf
        · rw [List.mem_singleton.mp hd, List.mem_singleton.mp he]; exact fun _ => rfl
      d2 := h.d2
      d3 := fun d hd e he => by
        show ov g.ra c p d ≠ _
        rcases List.mem_append.mp hd with hd | hd
        · rw [ov_ne (old hd)]; exact h.d3 d hd e he
        · rw [List.mem_singleton.mp hd, ov_same]; exact fun z => hf (.inr (.inr (.inr (.inr (.inr (.inr ⟨e, he, z⟩))))))
      d4 := fun d hd => by
        show ov g.ra c p d ≠ _
        rcases List.mem_append.mp hd with hd | hd
        · rw [ov_ne (old hd)]; exact h.d4 d hd
        · rw [List.mem_singleton.mp hd, ov_same]; exact fun z => hf (.inr (.inl z))
      d5 := h.d5, d6 := h.d6, d7 := h.d7, d8 := h.d8 }
  · rcases f with f | f | f | f | f | ⟨d, hd, f⟩ | f
    · exact .inl (.inl f)
    · exact .inl (.inr (.inl f))
    · exact .inl (.inr (.inr (.inl f)))
    · exact .inl (.inr (.inr (.inr (.inl f))))
    · exact .inl (.inr (.inr (.inr (.inr (.inl f)))))
    · have f : b = ov g.ra c p d := f
      rcases List.mem_append.mp hd with hd | hd
      · rw [ov_ne (old hd)] at f
        exact .inl (.inr (.inr (.inr (.inr (.inr (.inl ⟨d, hd, f⟩))))))
      · rw [List.mem_singleton.mp hd, ov_same] at f
        exact .inr (by rw [f]; exact hn)
    · exact .inl (.inr (.inr (.inr (.inr (.inr (.inr f))))))
theorem Sg.addUse (s : Sg K o g0 H0 g H) {c : Nat} {p : Addr} {l : List N} (hc : c ∉ g.liveU) (hp : H p = some (.dT (l.map uE))) (hf : ¬ foot o g p) (hn : H0 p = none) :
    Sg K o g0 H0 { g with liveU := g.liveU ++ [c], ua := ov g.ua c p, ul := ov g.ul c l } (upd H g.us (.dK ((g.liveU ++ [c]).map fun d => (idK d, .ref (ov g.ua c p d))))) := by
  have h := s.at_
  have old : ∀ {d}, d ∈ g.liveU → d ≠ c := fun hd e => hc (by rw [← e]; exact hd)
  refine s.mk' (.inr (.inr (.inr (.inl rfl)))) ?_ fun b f => ?_
  · exact {
      obj := by rw [upd_ne (ne_of h.obj h.uses (fun z => nomatch z))]; exact h.obj
      wh := by rw [upd_ne (ne_of h.wh h.uses (fun z => nomatch z))]; exact h.wh
      rows := by rw [upd_ne h.d6]; exact h.rows
      uses := upd_same
      kinds := by rw [upd_ne (fun z => h.d8 z.symm)]; exact h.kinds
      row := fun d hd => by rw [upd_ne (ne_of (h.row d hd) h.uses (fun z => nomatch z))]; exact h.row d hd
      use := fun d hd => by
        show upd H g.us _ (ov g.ua c p d) = some (.dT ((ov g.ul c l d).map uE))
        rcases List.mem_append.mp hd with hd | hd
        · rw [ov_ne (old hd), ov_ne (old hd), upd_ne (ne_of (h.use d hd) h.uses (fun z => nomatch z))]; exact h.use d hd
        · rw [List.mem_singleton.mp hd, ov_same, ov_same, upd_ne (ne_of hp h.uses (fun z => nomatch z))]; exact hp
      hpl := by rw [upd_ne (ne_of h.hpl h.uses (fun z => nomatch z))]; exact h.hpl
      hrc := by rw [upd_ne (ne_of h.hrc h.uses (fun z => nomatch z))]; exact h.hrc
      d1 := h.d1
      d2 := fun d hd e he => by
        show ov g.ua c p d = ov g.ua c p e → d = e
        rcases List.mem_append.mp hd with hd | hd <;> rcases List.mem_append.mp he with he | he
        · rw [ov_ne (old hd), ov_ne (old he)]; exact h.d2 d hd e he
        · rw [ov_ne (old hd), List.mem_singleton.mp he, ov_same]; exact fun z => absurd (.inr (.inr (.inr (.inr (.inr (.inr ⟨d, hd, z.symm⟩)))))) hf
        · rw [ov_ne (old he), List.mem_singleton.mp hd, ov_same]; exact fun z => absurd (.inr (.inr (.inr (.inr (.inr (.inr ⟨e, he, z⟩)))))) hf
        · rw [List.mem_singleton.mp hd, List.mem_singleton.mp he]; exact fun _ => rfl
      d3 := fun e he d hd => by
        show _ ≠ ov g.ua c p d
        rcases List.mem_append.mp hd with hd | hd
        · rw [ov_ne (old hd)]; exact h.d3 e he d hd
        · rw [List.mem_singleton.mp hd, ov_same]; exact fun z => hf (.inr (.inr (.inr (.inr (.inr (.inl ⟨e, he, z.symm⟩))))))
      d4 := h.d4
      d5 := fun d hd => by
        show ov g.ua c p d ≠ _
        rcases List.mem_append.mp hd with hd | hd
        · rw [ov_ne (old hd)]; exact h.d5 d hd
        · rw [List.mem_singleton.mp hd, ov_same]; exact fun z => hf (.inr (.inl z))
      d6 := h.d6, d7 := h.d7, d8 := h.d8 }
  · rcases f with f | f | f | f | f | f | ⟨d, hd, f⟩
    · exact .inl (.inl f)
    · exact .inl (.inr (.inl f))
    · exact .inl (.inr (.inr (.inl f)))
    · exact .inl (.inr (.inr (.inr (.inl f))))
    · exact .inl (.inr (.inr (.inr (.inr (.inl f)))))
    · exact .inl (.inr (.inr (.inr (.inr (.inr (.inl f))))))
    · have f : b = ov g.ua c p d := f
      rcases List.mem_append.mp hd with hd | hd
      · rw [ov_ne (old hd)] at f
        exact .inl (.inr (.inr (.inr (.inr (.inr (.inr ⟨d, hd, f⟩))))))
      · rw [List.mem_singleton.mp hd, ov_same] at f
        exact .inr (by rw [f]; exact hn)
/-- what the object's lists of uses are beyond the live classes does not matter -/
theorem Sg.ulC (s : Sg K o g0 H0 g H) {ul : Nat → List N} (e : ∀ c ∈ g.liveU, g.ul c = ul c) : Sg K o g0 H0 { g with ul := ul } H :=
  ⟨{ s.at_ with use := fun c hc => by show H (g.ua c) = some (.dT ((ul c).map uE)); rw [← e c hc]; exact s.at_.use c hc }, s.fr.step (fun _ _ _ e => e) fun _ f => .inl f, s.grow⟩
theorem Sg.rlC (s : Sg K o g0 H0 g H) {rl : Nat → List N} (e : ∀ c ∈ g.liveR, g.rl c = rl c) : Sg K o g0 H0 { g with rl := rl } H :=
  ⟨{ s.at_ with row := fun c hc => by show H (g.ra c) = some (.dT ((rl c).map uE)); rw [← e c hc]; exact s.at_.row c hc }, s.fr.step (fun _ _ _ e => e) fun _ f => .inl f, s.grow⟩
theorem Sg.of (s : Sg K o g0 H0 g H) (h : At K o g H') (k : ∀ b u, ¬ foot o g b → H b = some u → H' b = some u) (n : ∀ b, H' b = none → H b = none) : Sg K o g0 H0 g H' :=
  ⟨h, s.fr.step k fun _ f => .inl f, fun b e => s.grow b (n b e)⟩
theorem At.notlst (h : At K o g H) {b : Addr} {xs : List V} (e : H b = some (.lst xs)) : ¬ foot o g b := by
  rintro (rfl | rfl | rfl | rfl | rfl | ⟨c, hc, rfl⟩ | ⟨c, hc, rfl⟩)
  · rw [h.obj] at e; cases e
  · rw [h.wh] at e; cases e
  · rw [h.rows] at e; cases e
  · rw [h.uses] at e; cases e
  · rw [h.kinds] at e; cases e
  · rw [h.row c hc] at e; cases e
  · rw [h.use c hc] at e; cases e
theorem At.fresh (h : At K o g H) {b : Addr} (e : H b = none) : ¬ foot o g b := fun f => by
  obtain ⟨u, h1, _⟩ := f.some h
  rw [e] at h1
  cases h1
/-- a thing of one's own, made since H0 -/
theorem Sg.scratch (s : Sg K o g0 H0 g H) (hn : H0 a = none) (ha : ¬ foot o g a) (ht : ∀ xs, H a ≠ some (.tup xs)) : Sg K o g0 H0 g (upd H a x) :=
  ⟨s.at_.other ha ht, ⟨fun b u hb e => by rw [upd_ne (fun z => by rw [z, hn] at e; cases e)]; exact s.fr.keep b u hb e, fun b f => s.fr.new b f⟩, fun b e => s.grow b (upd_none e)⟩
end
theorem put_ref {l : List Nat} {f : Nat → Addr} {c : Nat} {p : Addr} (h : c ∉ l) : putK (l.map fun d => (idK d, V.ref (f d))) (idK c) (.ref p) = (l ++ [c]).map fun d => (idK d, V.ref (ov f c p d)) := by
  rw [put_i (f := fun d => V.ref (f d)) _ h]
  refine List.map_congr_left fun d _ => ?_
  unfold ov
  by_cases e : d = c
  · rw [if_pos e, if_pos e]
  · rw [if_neg e, if_neg e]
theorem put_kind {l : List Nat} {cl : Nat → T} {c : Nat} {t : T} (h : c ∉ l) : putK (l.map fun d => (idK d, V.str (kS (cl d).word))) (idK c) (.str (kS t.word)) = (l ++ [c]).map fun d => (idK d, V.str (kS (ov cl c t d).word)) := by
  rw [put_i (f := fun d => V.str (kS (cl d).word)) _ h]
  refine List.map_congr_left fun d _ => ?_
  unfold ov
  by_cases e : d = c
  · rw [if_pos e, if_pos e]
  · rw [if_neg e, if_neg e]
end K45
/-! part K45C3 -/
set_option autoImplicit true
set_option Elab.async false
set_option linter.all false
set_option maxRecDepth 100000
set_option maxHeartbeats 4000000
/-! What stands in an object of Classes: laws of its change, in plain terms. -/
namespace K45
open PySem PySem.Spec PyProof.Rows L2
structure Goo (g : G) : Prop where
  nd : (g.ws.map (·.1)).Nodup
  lnd : g.liveR.Nodup
  lu : g.liveU = g.liveR
  lk : g.liveK = g.liveR
  row : ∀ c ∈ g.liveR, ∀ n, n ∈ g.rl c ↔ (n, c) ∈ g.ws
  use : ∀ c ∈ g.liveR, ∀ n, n ∈ g.ul c ↔ c ∈ n.ids ∧ ∃ i, (n, i) ∈ g.ws
  rnd : ∀ c ∈ g.liveR, (g.rl c).Nodup
  und : ∀ c ∈ g.liveR, (g.ul c).Nodup
  pla : ∀ n i, (n, i) ∈ g.ws → i ∈ g.liveR ∧ (∀ j ∈ n.ids, j ∈ g.liveR) ∧ n.ids.length ≤ 3
  low : ∀ c ∈ g.liveR, c < g.made
  cnt : g.ws.length ≤ g.made
structure Good (S : List T) (R : T → T → Prop) (g : G) : Prop where
  oo : Goo g
  many : g.many = g.ws.length
  plc : g.pls.length = g.liveR.length
  ful : ∀ c ∈ g.liveR, ∃ n, (n, c) ∈ g.ws
  cov : ∀ n i, look g.ws n = some i → ∃ t ∈ S, K45.nd (look g.ws) t = some n
  snd : Sound R g.cl (look g.ws)
  fv : g.fv = .non
theorem Goo.look (h : Goo g) {n : N} {i : Nat} : K45.look g.ws n = some i ↔ (n, i) ∈ g.ws := look_iff h.nd
theorem Goo.one (h : Goo g) {n : N} {i j : Nat} (a : (n, i) ∈ g.ws) (b : (n, j) ∈ g.ws) : i = j := by
  have x := h.look.mpr a
  rw [h.look.mpr b] at x
  exact (Option.some.inj x).symm
theorem parts3 (t : T) : t.parts.length ≤ 3 := by cases t <;> simp [T.parts]
theorem nd_len {W : Tab} {t : T} {n : N} (h : nd W t = some n) : n.ids.length ≤ 3 := by
  have e := congrArg List.length (nd_iff.mp h).2
  rw [List.length_map, List.length_map] at e
  rw [← e]
  exact parts3 t
theorem look_app {ws : List (N × Nat)} {n m : N} {i : Nat} (h : look ws n = none) : look (ws ++ [(n, i)]) m = if m = n then some i else look ws m := by
  unfold look
  rw [List.find?_append]
  by_cases e : m = n
  · subst e
    have : List.find? (fun p => decide (p.1 = m)) ws = none := by
      unfold look at h
      exact Option.map_eq_none_iff.mp h
    rw [this, if_pos rfl]
    simp
  · rw [if_neg e]
    have : List.find? (fun p : N × Nat => decide (p.1 = m)) [(n, i)] = none := by
      rw [List.find?_cons_of_neg (by simpa using fun z => e z.symm)]
      rfl
    rw [this, Option.or_none]
theorem nodup_len {ws : List (N × Nat)} {l : List N} (hl : l.Nodup) (h : ∀ n ∈ l, ∃ i, (n, i) ∈ ws) : l.length ≤ ws.length :=
  len_le (fun n p => p.1 = n) l ws hl (fun n hn => let ⟨i, hi⟩ := h n hn; ⟨_, hi, rfl⟩) fun a _ b _ p x y => x.symm.trans y
/-! ### a new class -/
def G.lay (g : G) (n : N) (t : T) (p q pl : Addr) (pls : List V) (ul : Nat → List N) : G :=
  { g with ws := g.ws ++ [(n, g.made)], made := g.made + 1, many := g.many + 1, liveR := g.liveR ++ [g.made], liveU := g.liveU ++ [g.made], liveK := g.liveK ++ [g.made],
           ra := ov g.ra g.made p, ua := ov g.ua g.made q, rl := ov g.rl g.made [n], ul := ul, cl := ov g.cl g.made t, pl := pl, pls := pls, fv := .non }
section
variable {S : List T} {R : T → T → Prop} {g g' : G}
theorem Good.lay (h : Good S R g) {n : N} {t : T} {p q pl : Addr} {pls : List V} {ul : Nat → List N} (hn : nd (look g.ws) t = some n) (hl : look g.ws n = none) (ht : t ∈ S) (hp : pls.length = g.liveR.length + 1)
    (u1 : ∀ c ∈ g.liveR, ul c = if c ∈ n.ids then ins n (g.ul c) else g.ul c) (u2 : ul g.made = []) :
    Good S R (g.lay n t p q pl pls ul) ∧ Le id (look g.ws) (look (g.lay n t p q pl pls ul).ws) ∧ find (look (g.lay n t p q pl pls ul).ws) t = some g.made := by
  have o := h.oo
  have lt : ∀ {c}, c ∈ g.liveR → c ≠ g.made := fun hc e => by have := o.low _ hc; omega
  have fresh : g.made ∉ g.liveR := fun hc => lt hc rfl
  have idl : ∀ j ∈ n.ids, j ∈ g.liveR := fun j hj => by
    obtain ⟨x, _, e⟩ := map_some_mem' (nd_iff.mp hn).2 j hj
    obtain ⟨m, _, e2⟩ := find_some e
    exact (o.pla m j (o.look.mp e2)).1
  have nn : ∀ {m i}, (m, i) ∈ g.ws → m ≠ n := fun hm e => by
    have := o.look.mpr hm
    rw [e, hl] at this
    cases this
  have le : Le id (look g.ws) (look (g.ws ++ [(n, g.made)])) := ⟨fun m i e => by
    rw [N.map_id, look_app hl, if_neg (nn (o.look.mp e))]
    exact e⟩
  have hnd : nd (look (g.ws ++ [(n, g.made)])) t = some n := by
    have := le.nd hn
    rwa [N.map_id] at this
  have mem : ∀ {m i}, (m, i) ∈ g.ws ++ [(n, g.made)] ↔ (m, i) ∈ g.ws ∨ (m = n ∧ i = g.made) := by
    intro m i
    rw [List.mem_append, List.mem_singleton, Prod.mk.injEq]
  refine ⟨⟨⟨?_, ?_, ?_, ?_, ?_, ?_, ?_, ?_, ?_, ?_, ?_⟩, ?_, ?_, ?_, ?_, ?_, rfl⟩, le, find_of hnd (by rw [show (g.lay n t p q pl pls ul).ws = g.ws ++ [(n, g.made)] from rfl, look_app hl, if_pos rfl])⟩
  · show ((g.ws ++ [(n, g.made)]).map (·.1)).Nodup
    rw [List.map_append]
    refine List.nodup_append.mpr ⟨o.nd, by simp, fun a ha b hb => ?_⟩
    rw [List.map_cons, List.map_nil, List.mem_singleton] at hb
    obtain ⟨x, hx, rfl⟩ := List.mem_map.mp ha
    rw [hb]
    exact nn hx
  · show (g.liveR ++ [g.made]).Nodup
    exact List.nodup_append.mpr ⟨o.lnd, by simp, fun a ha b hb => by rw [List.mem_singleton.mp hb]; exact lt ha⟩
  · show g.liveU ++ _ = g.liveR ++ _; rw [o.lu]
  · show g.liveK ++ _ = g.liveR ++ _; rw [o.lk]
  · intro c hc m
    show m ∈ ov g.rl g.made [n] c ↔ (m, c) ∈ g.ws ++ [(n, g.made)]
    rw [mem]
    rcases List.mem_append.mp hc with hc | hc
    · rw [ov_ne (lt hc), o.row c hc]
      exact ⟨.inl, fun z => z.elim (fun z => z) fun z => absurd z.2 (lt hc)⟩
    · rw [List.mem_singleton.mp hc, ov_same, List.mem_singleton]
      exact ⟨fun z => .inr ⟨z, rfl⟩, fun z => z.elim (fun z => absurd (o.pla _ _ z).1 fresh) (·.1)⟩
  · intro c hc m
    show m ∈ ul c ↔ c ∈ m.ids ∧ ∃ i, (m, i) ∈ g.ws ++ [(n, g.made)]
    have ex : (∃ i, (m, i) ∈ g.ws ++ [(n, g.made)]) ↔ (∃ i, (m, i) ∈ g.ws) ∨ m = n := by
      constructor
      · rintro ⟨i, z⟩; exact (mem.mp z).elim (fun z => .inl ⟨i, z⟩) fun z => .inr z.1
      · rintro (⟨i, z⟩ | z)
        · exact ⟨i, mem.mpr (.inl z)⟩
        · exact ⟨g.made, mem.mpr (.inr ⟨z, rfl⟩)⟩
    rw [ex]
    rcases List.mem_append.mp hc with hc | hc
    · rw [u1 c hc]
      by_cases ci : c ∈ n.ids
      · rw [if_pos ci, mem_ins, o.use c hc]
        constructor
        · rintro (⟨a, b⟩ | rfl)
          · exact ⟨a, .inl b⟩
          · exact ⟨ci, .inr rfl⟩
        · rintro ⟨a, b | b⟩
          · exact .inl ⟨a, b⟩
          · exact .inr b
      · rw [if_neg ci, o.use c hc]
        exact ⟨fun ⟨a, b⟩ => ⟨a, .inl b⟩, fun ⟨a, b⟩ => ⟨a, b.elim (fun z => z) fun z => absurd (by rw [← z]; exact a) ci⟩⟩
    · rw [List.mem_singleton.mp hc, u2]
      refine ⟨fun z => (by cases z), fun ⟨a, b⟩ => ?_⟩
      rcases b with ⟨i, b⟩ | rfl
      · exact absurd ((o.pla _ _ b).2.1 _ a) fresh
      · exact absurd (idl _ a) fresh
  · intro c hc
    show (ov g.rl g.made [n] c).Nodup
    rcases List.mem_append.mp hc with hc | hc
    · rw [ov_ne (lt hc)]; exact o.rnd c hc
    · rw [List.mem_singleton.mp hc, ov_same]; simp
  · intro c hc
    show (ul c).Nodup
    rcases List.mem_append.mp hc with hc | hc
    · rw [u1 c hc]
      split
      · exact nodup_ins (o.und c hc)
      · exact o.und c hc
    · rw [List.mem_singleton.mp hc, u2]; simp
  · intro m i hm
    show i ∈ g.liveR ++ [g.made] ∧ (∀ j ∈ m.ids, j ∈ g.liveR ++ [g.made]) ∧ _
    rcases mem.mp hm with hm | ⟨rfl, rfl⟩
    · obtain ⟨a, b, c⟩ := o.pla m i hm
      exact ⟨List.mem_append_left _ a, fun j hj => List.mem_append_left _ (b j hj), c⟩
    · exact ⟨by simp, fun j hj => List.mem_append_left _ (idl j hj), nd_len hn⟩
  · intro c hc
    show c < g.made + 1
    rcases List.mem_append.mp hc with hc | hc
    · have := o.low c hc
      omega
    · rw [List.mem_singleton.mp hc]
      omega
  · show (g.ws ++ [(n, g.made)]).length ≤ g.made + 1
    rw [List.length_append]
    have := o.cnt
    simp
    omega
  · show g.many + 1 = (g.ws ++ [(n, g.made)]).length
    rw [List.length_append, h.many]
    rfl
  · show pls.length = (g.liveR ++ [g.made]).length
    rw [hp, List.length_append]
    rfl
  · intro c hc
    show ∃ m, (m, c) ∈ g.ws ++ [(n, g.made)]
    rcases List.mem_append.mp hc with hc | hc
    · obtain ⟨m, b⟩ := h.ful c hc
      exact ⟨m, mem.mpr (.inl b)⟩
    · rw [List.mem_singleton.mp hc]
      exact ⟨n, mem.mpr (.inr ⟨rfl, rfl⟩)⟩
  · intro m i hm
    have hm : look (g.ws ++ [(n, g.made)]) m = some i := hm
    show ∃ t ∈ S, nd (look (g.ws ++ [(n, g.made)])) t = some m
    rw [look_app hl] at hm
    by_cases e : m = n
    · exact ⟨t, ht, by rw [e]; exact hnd⟩
    · rw [if_neg e] at hm
      obtain ⟨u, hu, eu⟩ := h.cov m i hm
      have := le.nd eu
      rw [N.map_id] at this
      exact ⟨u, hu, this⟩
  · intro m i hm
    have hm : look (g.ws ++ [(n, g.made)]) m = some i := hm
    show Eqv R (app (ov g.cl g.made t) m) (ov g.cl g.made t i)
    have old : ∀ (m : N), (∀ j ∈ m.ids, j ∈ g.liveR) → app (ov g.cl g.made t) m = app g.cl m := fun m hm => app_congr fun j hj => ov_ne (lt (hm j hj))
    rw [look_app hl] at hm
    by_cases e : m = n
    · rw [if_pos e] at hm
      cases hm
      subst e
      rw [ov_same, old m idl]
      exact .symm (app_nd hn fun x hx j hj => h.snd.find x j hj)
    · rw [if_neg e] at hm
      obtain ⟨a, b, _⟩ := o.pla m i (o.look.mp hm)
      rw [ov_ne (lt a), old m b]
      exact h.snd m i hm
end
end K45
/-! part K45C4 -/
set_option autoImplicit true
set_option Elab.async false
set_option linter.all false
set_option maxRecDepth 100000
set_option maxHeartbeats 4000000
/-! Two classes become one: laws, in plain terms. -/
namespace K45
open PySem PySem.Spec PyProof.Rows L2
theorem sg_no {low high : Nat} (h : low ≠ high) (n : N) : high ∉ (n.map (sg low high)).ids := by
  rw [N.map_ids]
  intro z
  obtain ⟨x, _, e⟩ := List.mem_map.mp z
  unfold sg at e
  split at e
  · exact h e
  · contradiction
theorem sg_id {low high : Nat} {n : N} (h : high ∉ n.ids) : n.map (sg low high) = n := by
  have : n.map (sg low high) = n.map id := N.map_congr fun i hi => by
    unfold sg
    rw [if_neg (fun e => h (by rw [← e]; exact hi))]
    rfl
  rw [this, N.map_id]
def cut (ws : List (N × Nat)) (m : N) : List (N × Nat) := ws.filter fun p => decide (p.1 ≠ m)
theorem mem_cut {ws : List (N × Nat)} {m n : N} {c : Nat} : (n, c) ∈ cut ws m ↔ (n, c) ∈ ws ∧ n ≠ m := by unfold cut; simp
theorem nd_cut {ws : List (N × Nat)} (m : N) (h : (ws.map (·.1)).Nodup) : ((cut ws m).map (·.1)).Nodup := h.sublist (List.Sublist.map _ List.filter_sublist)
theorem nd_one {ws : List (N × Nat)} (h : (ws.map (·.1)).Nodup) {n : N} {i j : Nat} (a : (n, i) ∈ ws) (b : (n, j) ∈ ws) : i = j := by
  have x := look_of h a
  rw [look_of h b] at x
  exact (Option.some.inj x).symm
theorem cut_len {ws : List (N × Nat)} {m : N} {c : Nat} (h : (m, c) ∈ ws) : (cut ws m).length < ws.length := by
  unfold cut
  have := List.length_filter_lt_length_iff_exists (l := ws) (p := fun p => decide (p.1 ≠ m))
  exact this.mpr ⟨_, h, by simp⟩
structure TI (g0 : G) (low high : Nat) (L : List N) (i : Nat) (fd : List (Nat × Nat)) (g : G) : Prop where
  nd : (g.ws.map (·.1)).Nodup
  old : ∀ n c, (n, c) ∈ g0.ws → n ∉ L.take i → (n, c) ∈ g.ws
  of : ∀ n c, (n, c) ∈ g.ws → ((n, c) ∈ g0.ws ∧ n ∉ L.take i) ∨ ∃ m ∈ L.take i, (m, c) ∈ g0.ws ∧ n = m.map (sg low high)
  im : ∀ m ∈ L.take i, ∀ c, (m, c) ∈ g0.ws → ∃ c', (m.map (sg low high), c') ∈ g.ws ∧ (c = c' ∨ (c, c') ∈ fd)
  fdo : ∀ p ∈ fd, ∃ m ∈ L.take i, (m, p.1) ∈ g0.ws ∧ (m.map (sg low high), p.2) ∈ g.ws
  row : ∀ c ∈ g0.liveR, ∀ n, n ∈ g.rl c ↔ (n, c) ∈ g.ws
  use : ∀ c ∈ g0.liveR, c ≠ high → ∀ n, n ∈ g.ul c ↔ c ∈ n.ids ∧ ∃ j, (n, j) ∈ g.ws
  rnd : ∀ c ∈ g0.liveR, (g.rl c).Nodup
  und : ∀ c ∈ g0.liveR, c ≠ high → (g.ul c).Nodup
  lr : g.liveR = g0.liveR
  lu : g.liveU = out high g0.liveR
  lk : g.liveK = g0.liveR
  made : g.made = g0.made
  cl : g.cl = g0.cl
  fv : g.fv = g0.fv
  rc : g.rcs = g0.rcs
  len : g.ws.length ≤ g0.ws.length
  fln : fd.length ≤ i
section
variable {g0 g : G} {low high : Nat} {L : List N} {i c : Nat} {fd : List (Nat × Nat)} {m : N}
theorem TI.start (h0 : Goo g0) (lu : g.liveU = out high g0.liveR) (e1 : g.ws = g0.ws) (e2 : g.rl = g0.rl) (e3 : g.ul = g0.ul) (e4 : g.liveR = g0.liveR) (e5 : g.liveK = g0.liveK) (e6 : g.made = g0.made) (e7 : g.cl = g0.cl) (e8 : g.fv = g0.fv) (e9 : g.rcs = g0.rcs) : TI g0 low high L 0 [] g where
  nd := by rw [e1]; exact h0.nd
  old := fun n c h _ => by rw [e1]; exact h
  of := fun n c h => by rw [e1] at h; exact .inl ⟨h, by simp⟩
  im := fun m h => by simp at h
  fdo := fun p h => by cases h
  row := fun c hc n => by rw [e1, e2]; exact h0.row c hc n
  use := fun c hc _ n => by rw [e1, e3]; exact h0.use c hc n
  rnd := fun c hc => by rw [e2]; exact h0.rnd c hc
  und := fun c hc _ => by rw [e3]; exact h0.und c hc
  lr := e4
  lu := lu
  lk := e5.trans h0.lk
  made := e6
  cl := e7
  fv := e8
  rc := e9
  len := by rw [e1]; exact Nat.le_refl _
  fln := Nat.zero_le _
theorem take_snoc {α : Type} {L : List α} {i : Nat} {m : α} (h : L[i]? = some m) : L.take (i + 1) = L.take i ++ [m] := by
  rw [List.take_add_one, h]
  rfl
theorem nodup_take {α : Type} {L : List α} {i : Nat} {m : α} (nd : L.Nodup) (h : L[i]? = some m) : m ∉ L.take i := by
  intro z
  have e : (L.take (i + 1)).Nodup := nd.sublist (List.take_sublist _ _)
  rw [take_snoc h] at e
  exact (List.nodup_append.mp e).2.2 m z m List.mem_cons_self rfl
/-- a node that names the greater class is taken out -/
theorem TI.from (t : TI g0 low high L i fd g) (hlh : low ≠ high) (hm : high ∈ m.ids) (h : (m, c) ∈ g.ws) : (m, c) ∈ g0.ws := by
  rcases t.of m c h with h | ⟨x, _, _, e⟩
  · exact h.1
  · exact absurd (by rw [← e]; exact hm) (sg_no hlh x)
theorem TI.hit (h0 : Goo g0) (t : TI g0 low high L i fd g) (hlh : low ≠ high) (hL : ∀ m ∈ L, high ∈ m.ids) (nL : L.Nodup) (hi : L[i]? = some m) (hc : (m, c) ∈ g.ws) {c' : Nat} (hl : look (cut g.ws m) (m.map (sg low high)) = some c')
    {rl ul : Nat → List N} (r1 : ∀ d ∈ g0.liveR, rl d = if d = c then del m (g.rl d) else g.rl d) (u1 : ∀ d ∈ g0.liveR, d ≠ high → ul d = if d ∈ m.ids then del m (g.ul d) else g.ul d) :
    TI g0 low high L (i + 1) (fd ++ [(c, c')]) { g with ws := cut g.ws m, rl := rl, ul := ul } := by
  have mh : high ∈ m.ids := hL m (List.mem_of_getElem? hi)
  have mt := nodup_take nL hi
  have m0 := t.from hlh mh hc
  have ne : ∀ x : N, x.map (sg low high) ≠ m := fun x e => sg_no hlh x (by rw [e]; exact mh)
  have tk : ∀ {n : N}, n ∈ L.take (i + 1) ↔ n ∈ L.take i ∨ n = m := fun {n} => by rw [take_snoc hi]; simp
  have lk := look_mem hl
  constructor
  · exact nd_cut m t.nd
  · intro n d h hn
    exact mem_cut.mpr ⟨t.old n d h fun z => hn (tk.mpr (.inl z)), fun z => hn (tk.mpr (.inr z))⟩
  · intro n d h
    obtain ⟨h, hn⟩ := mem_cut.mp h
    rcases t.of n d h with ⟨a, b⟩ | ⟨x, hx, a, b⟩
    · exact .inl ⟨a, fun z => (tk.mp z).elim b hn⟩
    · exact .inr ⟨x, tk.mpr (.inl hx), a, b⟩
  · intro x hx d hd
    rcases tk.mp hx with hx | rfl
    · obtain ⟨e, a, b⟩ := t.im x hx d hd
      exact ⟨e, mem_cut.mpr ⟨a, ne x⟩, b.imp (fun z => z) (List.mem_append_left _)⟩
    · have := h0.one hd m0
      subst this
      exact ⟨c', lk, .inr (by simp)⟩
  · intro p hp
    rcases List.mem_append.mp hp with hp | hp
    · obtain ⟨x, hx, a, b⟩ := t.fdo p hp
      exact ⟨x, tk.mpr (.inl hx), a, mem_cut.mpr ⟨b, ne x⟩⟩
    · rw [List.mem_singleton.mp hp]
      exact ⟨m, tk.mpr (.inr rfl), m0, lk⟩
  · intro d hd n
    show n ∈ rl d ↔ (n, d) ∈ cut g.ws m
    rw [r1 d hd, mem_cut]
    split
    · rw [mem_del, t.row d hd]
    · rename_i e
      rw [t.row d hd]
      exact ⟨fun z => ⟨z, fun q => e (nd_one t.nd (by rw [← q]; exact z) hc)⟩, (·.1)⟩
  · intro d hd dh n
    show n ∈ ul d ↔ d ∈ n.ids ∧ ∃ j, (n, j) ∈ cut g.ws m
    have ex : (∃ j, (n, j) ∈ cut g.ws m) ↔ (∃ j, (n, j) ∈ g.ws) ∧ n ≠ m := ⟨fun ⟨j, z⟩ => ⟨⟨j, (mem_cut.mp z).1⟩, (mem_cut.mp z).2⟩, fun ⟨⟨j, z⟩, q⟩ => ⟨j, mem_cut.mpr ⟨z, q⟩⟩⟩
    rw [u1 d hd dh, ex]
    split
    · rw [mem_del, t.use d hd dh, and_assoc]
    · rename_i e
      rw [t.use d hd dh]
      exact ⟨fun z => ⟨z.1, z.2, fun q => e (by rw [← q]; exact z.1)⟩, fun z => ⟨z.1, z.2.1⟩⟩
  · intro d hd
    show (rl d).Nodup
    rw [r1 d hd]
    split
    · exact nodup_del (t.rnd d hd)
    · exact t.rnd d hd
  · intro d hd dh
    show (ul d).Nodup
    rw [u1 d hd dh]
    split
    · exact nodup_del (t.und d hd dh)
    · exact t.und d hd dh
  · exact t.lr
  · exact t.lu
  · exact t.lk
  · exact t.made
  · exact t.cl
  · exact t.fv
  · exact t.rc
  · exact Nat.le_of_lt (Nat.lt_of_lt_of_le (cut_len hc) t.len)
  · rw [List.length_append]
    have := t.fln
    simp
    omega
theorem TI.miss (h0 : Goo g0) (t : TI g0 low high L i fd g) (hlh : low ≠ high) (hL : ∀ m ∈ L, high ∈ m.ids) (nL : L.Nodup) (hi : L[i]? = some m) (hc : (m, c) ∈ g.ws) (hl : look (cut g.ws m) (m.map (sg low high)) = none)
    {rl ul : Nat → List N} (r1 : ∀ d ∈ g0.liveR, rl d = if d = c then ins (m.map (sg low high)) (del m (g.rl d)) else g.rl d)
    (u1 : ∀ d ∈ g0.liveR, d ≠ high → ul d = if d ∈ (m.map (sg low high)).ids then ins (m.map (sg low high)) (if d ∈ m.ids then del m (g.ul d) else g.ul d) else if d ∈ m.ids then del m (g.ul d) else g.ul d) :
    TI g0 low high L (i + 1) fd { g with ws := cut g.ws m ++ [(m.map (sg low high), c)], rl := rl, ul := ul } := by
  have mh : high ∈ m.ids := hL m (List.mem_of_getElem? hi)
  have mt := nodup_take nL hi
  have m0 := t.from hlh mh hc
  have ne : ∀ x : N, x.map (sg low high) ≠ m := fun x e => sg_no hlh x (by rw [e]; exact mh)
  have tk : ∀ {n : N}, n ∈ L.take (i + 1) ↔ n ∈ L.take i ∨ n = m := fun {n} => by rw [take_snoc hi]; simp
  have no := look_none.mp hl
  have mem : ∀ {n : N} {d : Nat}, (n, d) ∈ cut g.ws m ++ [(m.map (sg low high), c)] ↔ ((n, d) ∈ g.ws ∧ n ≠ m) ∨ (n = m.map (sg low high) ∧ d = c) := fun {n d} => by
    rw [List.mem_append, mem_cut, List.mem_singleton, Prod.mk.injEq]
  constructor
  · show ((cut g.ws m ++ [(m.map (sg low high), c)]).map (·.1)).Nodup
    rw [List.map_append]
    refine List.nodup_append.mpr ⟨nd_cut m t.nd, by simp, fun a ha b hb e => no ?_⟩
    rw [List.map_cons, List.map_nil, List.mem_singleton] at hb
    have hb : b = m.map (sg low high) := hb
    rw [← hb, ← e]
    exact ha
  · intro n d h hn
    exact mem.mpr (.inl ⟨t.old n d h fun z => hn (tk.mpr (.inl z)), fun z => hn (tk.mpr (.inr z))⟩)
  · intro n d h
    rcases mem.mp h with ⟨h, hn⟩ | ⟨rfl, rfl⟩
    · rcases t.of n d h with ⟨a, b⟩ | ⟨x, hx, a, b⟩
      · exact .inl ⟨a, fun z => (tk.mp z).elim b hn⟩
      · exact .inr ⟨x, tk.mpr (.inl hx), a, b⟩
    · exact .inr ⟨m, tk.mpr (.inr rfl), m0, rfl⟩
  · intro x hx d hd
    rcases tk.mp hx with hx | rfl
    · obtain ⟨e, a, b⟩ := t.im x hx d hd
      exact ⟨e, mem.mpr (.inl ⟨a, ne x⟩), b⟩
    · have := h0.one hd m0
      subst this
      exact ⟨d, mem.mpr (.inr ⟨rfl, rfl⟩), .inl rfl⟩
  · intro p hp
    obtain ⟨x, hx, a, b⟩ := t.fdo p hp
    exact ⟨x, tk.mpr (.inl hx), a, mem.mpr (.inl ⟨b, ne x⟩)⟩
  · intro d hd n
    show n ∈ rl d ↔ (n, d) ∈ cut g.ws m ++ [(m.map (sg low high), c)]
    rw [r1 d hd, mem]
    split
    · rename_i e
      rw [mem_ins, mem_del, t.row d hd]
      exact ⟨fun z => z.imp (fun z => z) fun z => ⟨z, e⟩, fun z => z.imp (fun z => z) (·.1)⟩
    · rename_i e
      rw [t.row d hd]
      exact ⟨fun z => .inl ⟨z, fun q => e (nd_one t.nd (by rw [← q]; exact z) hc)⟩, fun z => z.elim (·.1) fun z => absurd z.2 e⟩
  · intro d hd dh n
    show n ∈ ul d ↔ d ∈ n.ids ∧ ∃ j, (n, j) ∈ cut g.ws m ++ [(m.map (sg low high), c)]
    have ex : (∃ j, (n, j) ∈ cut g.ws m ++ [(m.map (sg low high), c)]) ↔ ((∃ j, (n, j) ∈ g.ws) ∧ n ≠ m) ∨ n = m.map (sg low high) := by
      constructor
      · rintro ⟨j, z⟩
        exact (mem.mp z).imp (fun z => ⟨⟨j, z.1⟩, z.2⟩) (·.1)
      · rintro (⟨⟨j, z⟩, q⟩ | q)
        · exact ⟨j, mem.mpr (.inl ⟨z, q⟩)⟩
        · exact ⟨c, mem.mpr (.inr ⟨q, rfl⟩)⟩
    have mid : n ∈ (if d ∈ m.ids then del m (g.ul d) else g.ul d) ↔ d ∈ n.ids ∧ (∃ j, (n, j) ∈ g.ws) ∧ n ≠ m := by
      split
      · rw [mem_del, t.use d hd dh, and_assoc]
      · rename_i e
        rw [t.use d hd dh]
        exact ⟨fun z => ⟨z.1, z.2, fun q => e (by rw [← q]; exact z.1)⟩, fun z => ⟨z.1, z.2.1⟩⟩
    rw [u1 d hd dh, ex]
    by_cases e : d ∈ (m.map (sg low high)).ids
    · rw [if_pos e, mem_ins, mid]
      constructor
      · rintro (⟨a, b⟩ | q)
        · exact ⟨a, .inl b⟩
        · exact ⟨by rw [q]; exact e, .inr q⟩
      · rintro ⟨a, b | b⟩
        · exact .inl ⟨a, b⟩
        · exact .inr b
    · rw [if_neg e, mid]
      exact ⟨fun z => ⟨z.1, .inl z.2⟩, fun z => ⟨z.1, z.2.elim (fun z => z) fun q => absurd (by rw [← q]; exact z.1) e⟩⟩
  · intro d hd
    show (rl d).Nodup
    rw [r1 d hd]
    split
    · exact nodup_ins (nodup_del (t.rnd d hd))
    · exact t.rnd d hd
  · intro d hd dh
    show (ul d).Nodup
    have b : (if d ∈ m.ids then del m (g.ul d) else g.ul d).Nodup := by
      split
      · exact nodup_del (t.und d hd dh)
      · exact t.und d hd dh
    rw [u1 d hd dh]
    split
    · exact nodup_ins b
    · exact b
  · exact t.lr
  · exact t.lu
  · exact t.lk
  · exact t.made
  · exact t.cl
  · exact t.fv
  · exact t.rc
  · show (cut g.ws m ++ [(m.map (sg low high), c)]).length ≤ _
    rw [List.length_append]
    have := cut_len hc
    have := t.len
    simp
    omega
  · have := t.fln
    omega
end
/-- the places of the greater class are renamed -/
structure MI (g1 : G) (low high : Nat) (M : List N) (j : Nat) (g : G) : Prop where
  nd : (g.ws.map (·.1)).Nodup
  mem : ∀ n c, (n, c) ∈ g.ws ↔ ∃ c0, (n, c0) ∈ g1.ws ∧ c = if n ∈ M.take j then low else c0
  row : ∀ c ∈ out high g1.liveR, ∀ n, n ∈ g.rl c ↔ n ∈ g1.rl c ∨ (c = low ∧ n ∈ M.take j)
  rnd : ∀ c ∈ out high g1.liveR, (g.rl c).Nodup
  lr : g.liveR = out high g1.liveR
  lu : g.liveU = g1.liveU
  lk : g.liveK = g1.liveK
  ul : g.ul = g1.ul
  made : g.made = g1.made
  cl : g.cl = g1.cl
  fv : g.fv = g1.fv
  rc : g.rcs = g1.rcs
  len : g.ws.length = g1.ws.length
section
variable {g1 g : G} {low high : Nat} {M : List N} {j : Nat} {m : N}
theorem map_setW (ws : List (N × Nat)) (n : N) (i : Nat) : (setW ws n i).map (·.1) = ws.map (·.1) := by
  unfold setW
  rw [List.map_map]
  refine List.map_congr_left fun p _ => ?_
  show (if p.1 = n then (p.1, i) else p).1 = p.1
  split <;> rfl
theorem mem_setW {ws : List (N × Nat)} {n x : N} {i c : Nat} : (x, c) ∈ setW ws n i ↔ ∃ c0, (x, c0) ∈ ws ∧ c = if x = n then i else c0 := by
  unfold setW
  rw [List.mem_map]
  constructor
  · rintro ⟨p, hp, e⟩
    by_cases q : p.1 = n
    · rw [if_pos q] at e
      obtain ⟨rfl, rfl⟩ := Prod.mk.inj e
      exact ⟨p.2, hp, by rw [if_pos q]⟩
    · rw [if_neg q] at e
      subst e
      exact ⟨c, hp, by rw [if_neg q]⟩
  · rintro ⟨c0, h, e⟩
    refine ⟨(x, c0), h, ?_⟩
    show (if x = n then (x, i) else (x, c0)) = _
    by_cases q : x = n
    · rw [if_pos q] at e ⊢; rw [e]
    · rw [if_neg q] at e ⊢; rw [e]
theorem MI.step (t : MI g1 low high M j g) (nM : M.Nodup) (hj : M[j]? = some m) (hl : low ∈ out high g1.liveR) {rl : Nat → List N} (r1 : ∀ d ∈ out high g1.liveR, rl d = if d = low then ins m (g.rl d) else g.rl d) :
    MI g1 low high M (j + 1) { g with ws := setW g.ws m low, rl := rl } := by
  have tk : ∀ {n : N}, n ∈ M.take (j + 1) ↔ n ∈ M.take j ∨ n = m := fun {n} => by rw [take_snoc hj]; simp
  constructor
  · show ((setW g.ws m low).map (·.1)).Nodup
    rw [map_setW]; exact t.nd
  · intro n c
    show (n, c) ∈ setW g.ws m low ↔ _
    rw [mem_setW]
    constructor
    · rintro ⟨c0, h, e⟩
      obtain ⟨c1, h1, e1⟩ := (t.mem n c0).mp h
      refine ⟨c1, h1, ?_⟩
      by_cases q : n = m
      · rw [if_pos q] at e
        rw [if_pos (tk.mpr (.inr q)), e]
      · rw [if_neg q] at e
        by_cases z : n ∈ M.take j
        · rw [if_pos z] at e1
          rw [if_pos (tk.mpr (.inl z)), e, e1]
        · rw [if_neg z] at e1
          rw [if_neg (fun y => (tk.mp y).elim z q), e, e1]
    · rintro ⟨c1, h1, e⟩
      refine ⟨if n ∈ M.take j then low else c1, (t.mem n _).mpr ⟨c1, h1, rfl⟩, ?_⟩
      by_cases q : n = m
      · rw [if_pos q, e, if_pos (tk.mpr (.inr q))]
      · rw [if_neg q, e]
        by_cases z : n ∈ M.take j
        · rw [if_pos z, if_pos (tk.mpr (.inl z))]
        · rw [if_neg z, if_neg (fun y => (tk.mp y).elim z q)]
  · intro c hc n
    show n ∈ rl c ↔ _
    rw [r1 c hc]
    split
    · rename_i e
      rw [mem_ins, t.row c hc, or_assoc]
      constructor
      · rintro (a | ⟨_, a⟩ | a)
        · exact .inl a
        · exact .inr ⟨e, tk.mpr (.inl a)⟩
        · exact .inr ⟨e, tk.mpr (.inr a)⟩
      · rintro (a | ⟨_, a⟩)
        · exact .inl a
        · exact (tk.mp a).elim (fun a => .inr (.inl ⟨e, a⟩)) fun a => .inr (.inr a)
    · rename_i e
      rw [t.row c hc]
      exact ⟨fun z => z.imp (fun z => z) fun z => absurd z.1 e, fun z => z.imp (fun z => z) fun z => absurd z.1 e⟩
  · intro c hc
    show (rl c).Nodup
    rw [r1 c hc]
    split
    · exact nodup_ins (t.rnd c hc)
    · exact t.rnd c hc
  · exact t.lr
  · exact t.lu
  · exact t.lk
  · exact t.ul
  · exact t.made
  · exact t.cl
  · exact t.fv
  · exact t.rc
  · show (setW g.ws m low).length = _
    unfold setW
    rw [List.length_map]
    exact t.len
end
end K45
/-! part K45C5 -/
set_option autoImplicit true
set_option Elab.async false
set_option linter.all false
set_option maxRecDepth 100000
set_option maxHeartbeats 4000000
/-! Two classes become one: the whole step. -/
namespace K45
open PySem PySem.Spec PyProof.Rows L2
theorem sg_high {low high : Nat} : sg low high high = low := if_pos rfl
theorem sg_ne {low high c : Nat} (h : c ≠ high) : sg low high c = c := if_neg h
section
variable {g0 g1 g : G} {low high : Nat} {L M : List N} {fd : List (Nat × Nat)}
theorem MI.end_mem (hM : ∀ n, n ∈ M ↔ (n, high) ∈ g1.ws) (n1 : (g1.ws.map (·.1)).Nodup) (mi : MI g1 low high M M.length g) (n : N) (c : Nat) : (n, c) ∈ g.ws ↔ ∃ c0, (n, c0) ∈ g1.ws ∧ c = sg low high c0 := by
  rw [mi.mem, List.take_length]
  constructor
  · rintro ⟨c0, h, e⟩
    refine ⟨c0, h, ?_⟩
    by_cases z : n ∈ M
    · rw [if_pos z] at e
      rw [nd_one n1 h ((hM n).mp z), sg_high, e]
    · rw [if_neg z] at e
      rw [sg_ne (fun q => z ((hM n).mpr (by rw [← q]; exact h))), e]
  · rintro ⟨c0, h, e⟩
    refine ⟨c0, h, ?_⟩
    by_cases z : n ∈ M
    · rw [if_pos z]
      rw [nd_one n1 h ((hM n).mp z), sg_high] at e
      exact e
    · rw [if_neg z]
      rw [sg_ne (fun q => z ((hM n).mpr (by rw [← q]; exact h)))] at e
      exact e
theorem merge_goo (h0 : Goo g0) (hl : low ∈ g0.liveR) (hlh : low ≠ high) (hL : ∀ m, m ∈ L ↔ high ∈ m.ids ∧ ∃ c, (m, c) ∈ g0.ws) (t : TI g0 low high L L.length fd g1) (hM : ∀ n, n ∈ M ↔ (n, high) ∈ g1.ws) (mi : MI g1 low high M M.length g) :
    Goo { g with liveK := out high g.liveK } := by
  have em := mi.end_mem hM t.nd
  have er : g.liveR = out high g0.liveR := by rw [mi.lr, t.lr]
  have eu : g.liveU = out high g0.liveR := by rw [mi.lu, t.lu]
  have sgl : ∀ c ∈ g0.liveR, sg low high c ∈ out high g0.liveR := fun c hc => by
    by_cases e : c = high
    · rw [e, sg_high]; exact mem_out.mpr ⟨hl, hlh⟩
    · rw [sg_ne e]; exact mem_out.mpr ⟨hc, e⟩
  have tl : ∀ {n : N}, n ∈ L.take L.length ↔ n ∈ L := by rw [List.take_length]
  have ex : ∀ n, (∃ j, (n, j) ∈ g.ws) ↔ ∃ j, (n, j) ∈ g1.ws := fun n => ⟨fun ⟨j, h⟩ => let ⟨c0, a, _⟩ := (em n j).mp h; ⟨c0, a⟩, fun ⟨j, h⟩ => ⟨_, (em n _).mpr ⟨j, h, rfl⟩⟩⟩
  constructor
  · exact mi.nd
  · show g.liveR.Nodup
    rw [er]; exact h0.lnd.filter _
  · show g.liveU = g.liveR
    rw [eu, er]
  · show out high g.liveK = g.liveR
    rw [mi.lk, t.lk, er]
  · intro c hc n
    have hc : c ∈ g.liveR := hc
    rw [mi.lr] at hc
    have hc' := hc
    rw [t.lr] at hc
    obtain ⟨c1, c2⟩ := mem_out.mp hc
    show n ∈ g.rl c ↔ (n, c) ∈ g.ws
    rw [mi.row c hc', List.take_length, t.row c c1, em, hM]
    constructor
    · rintro (a | ⟨rfl, a⟩)
      · exact ⟨c, a, (sg_ne c2).symm⟩
      · exact ⟨high, a, sg_high.symm⟩
    · rintro ⟨c0, a, e⟩
      by_cases q : c0 = high
      · rw [q, sg_high] at e
        exact .inr ⟨e, by rw [← q]; exact a⟩
      · rw [sg_ne q] at e
        exact .inl (by rw [e]; exact a)
  · intro c hc n
    have hc : c ∈ g.liveR := hc
    rw [er] at hc
    obtain ⟨c1, c2⟩ := mem_out.mp hc
    show n ∈ g.ul c ↔ c ∈ n.ids ∧ ∃ j, (n, j) ∈ g.ws
    rw [mi.ul, t.use c c1 c2, ex]
  · intro c hc
    have hc : c ∈ g.liveR := hc
    rw [mi.lr] at hc
    exact mi.rnd c hc
  · intro c hc
    have hc : c ∈ g.liveR := hc
    rw [er] at hc
    obtain ⟨c1, c2⟩ := mem_out.mp hc
    show (g.ul c).Nodup
    rw [mi.ul]
    exact t.und c c1 c2
  · intro n i h
    show i ∈ g.liveR ∧ (∀ j ∈ n.ids, j ∈ g.liveR) ∧ _
    rw [er]
    obtain ⟨c0, a, e⟩ := (em n i).mp h
    rcases t.of n c0 a with ⟨a, b⟩ | ⟨m, hm, a, b⟩
    · obtain ⟨p1, p2, p3⟩ := h0.pla n c0 a
      exact ⟨by rw [e]; exact sgl c0 p1, fun j hj => mem_out.mpr ⟨p2 j hj, fun q => b (tl.mpr ((hL n).mpr ⟨by rw [← q]; exact hj, c0, a⟩))⟩, p3⟩
    · obtain ⟨p1, p2, p3⟩ := h0.pla m c0 a
      refine ⟨by rw [e]; exact sgl c0 p1, fun j hj => ?_, by rw [b, N.map_ids, List.length_map]; exact p3⟩
      rw [b, N.map_ids] at hj
      obtain ⟨x, hx, rfl⟩ := List.mem_map.mp hj
      exact sgl x (p2 x hx)
  · intro c hc
    have hc : c ∈ g.liveR := hc
    rw [er] at hc
    show c < g.made
    rw [mi.made, t.made]
    exact h0.low c (mem_out.mp hc).1
  · show g.ws.length ≤ g.made
    rw [mi.made, t.made, mi.len]
    exact Nat.le_trans t.len h0.cnt
/-- where the classes have gone -/
structure Cz (γ : Nat → Option Nat) (ρ : Nat → Nat) (l0 l : List Nat) : Prop where
  stay : ∀ c, γ c = none → ρ c = c
  go : ∀ c d, γ c = some d → d < c ∧ ρ c = ρ d
  lv : ∀ c ∈ l, γ c = none
  to : ∀ c ∈ l0, ρ c ∈ l
  sub : ∀ c ∈ l, c ∈ l0
theorem Cz.start (l : List Nat) : Cz (fun _ => none) id l l := ⟨fun _ _ => rfl, fun _ _ h => (by cases h), fun _ _ => rfl, fun _ h => h, fun _ h => h⟩
theorem Cz.live {γ : Nat → Option Nat} {ρ : Nat → Nat} {l0 l : List Nat} (z : Cz γ ρ l0 l) {c : Nat} (h : c ∈ l) : ρ c = c := z.stay c (z.lv c h)
theorem Cz.step {γ : Nat → Option Nat} {ρ : Nat → Nat} {l0 l : List Nat} (z : Cz γ ρ l0 l) {low high : Nat} (h1 : low ∈ l) (h2 : high ∈ l) (h : low < high) : Cz (ov γ high (some low)) (sg low high ∘ ρ) l0 (out high l) where
  stay := fun c e => by
    by_cases q : c = high
    · rw [q, ov_same] at e; cases e
    · rw [ov_ne q] at e
      show sg low high (ρ c) = c
      rw [z.stay c e, sg_ne q]
  go := fun c d e => by
    by_cases q : c = high
    · rw [q, ov_same] at e
      obtain rfl : low = d := Option.some.inj e
      rw [q]
      refine ⟨h, ?_⟩
      show sg low high (ρ high) = sg low high (ρ low)
      rw [z.live h1, z.live h2, sg_high, sg_ne (by omega)]
    · rw [ov_ne q] at e
      obtain ⟨a, b⟩ := z.go c d e
      exact ⟨a, congrArg (sg low high) b⟩
  lv := fun c hc => by
    obtain ⟨a, b⟩ := mem_out.mp hc
    rw [ov_ne b]
    exact z.lv c a
  to := fun c hc => by
    show sg low high (ρ c) ∈ _
    by_cases q : ρ c = high
    · rw [q, sg_high]; exact mem_out.mpr ⟨h1, by omega⟩
    · rw [sg_ne q]; exact mem_out.mpr ⟨z.to c hc, q⟩
  sub := fun c hc => z.sub c (mem_out.mp hc).1
def pm (ρ : Nat → Nat) (p : Nat × Nat) : Nat × Nat := (ρ p.1, ρ p.2)
theorem merge_run {R : T → T → Prop} {cl : Nat → T} {W0 : Tab} {ρ : Nat → Nat} {γ : Nat → Option Nat} {l0 : List Nat} {left : List (Nat × Nat)} {one other a b : Nat} (h0 : Goo g0) (hl : low ∈ g0.liveR) (hh : high ∈ g0.liveR) (hlh : low ≠ high)
    (hL : ∀ m, m ∈ L ↔ high ∈ m.ids ∧ ∃ c, (m, c) ∈ g0.ws) (t : TI g0 low high L L.length fd g1) (hM : ∀ n, n ∈ M ↔ (n, high) ∈ g1.ws) (mi : MI g1 low high M M.length g)
    (z : Cz γ ρ l0 g0.liveR) (hp : ∀ p ∈ left, p.1 ∈ l0 ∧ p.2 ∈ l0) (r : Run R cl W0 (look g0.ws) ρ ((left ++ [(one, other)]).map (pm ρ)) a b) (hx : (ρ one, ρ other) = (low, high) ∨ (ρ one, ρ other) = (high, low)) :
    Run R cl W0 (look g.ws) (sg low high ∘ ρ) ((left ++ fd).map (pm (sg low high ∘ ρ))) a b ∧ ∀ p ∈ left ++ fd, p.1 ∈ l0 ∧ p.2 ∈ l0 := by
  have em := mi.end_mem hM t.nd
  have tl : ∀ {n : N}, n ∈ L.take L.length ↔ n ∈ L := by rw [List.take_length]
  have fl : ∀ p ∈ fd, p.1 ∈ g0.liveR ∧ p.2 ∈ g0.liveR := fun p hp => by
    obtain ⟨m, _, a, b⟩ := t.fdo p hp
    refine ⟨(h0.pla _ _ a).1, ?_⟩
    rcases t.of _ _ b with ⟨b, _⟩ | ⟨x, _, b, _⟩
    · exact (h0.pla _ _ b).1
    · exact (h0.pla _ _ b).1
  have lk0 : ∀ {n : N} {c : Nat}, look g0.ws n = some c ↔ (n, c) ∈ g0.ws := fun {n c} => h0.look
  have lk1 : ∀ {n : N} {c : Nat}, look g.ws n = some c ↔ (n, c) ∈ g.ws := fun {n c} => look_iff mi.nd
  refine ⟨Run.step r ⟨_, List.mem_map.mpr ⟨(one, other), by simp, rfl⟩, hx⟩ ?_ ?_ ?_ ?_, fun p hp' => ?_⟩
  · intro n j hj
    have hj := lk0.mp hj
    by_cases q : n ∈ L
    · obtain ⟨c', a, b⟩ := t.im n (tl.mpr q) j hj
      refine ⟨sg low high c', lk1.mpr ((em _ _).mpr ⟨c', a, rfl⟩), fun f hf => ?_⟩
      rcases b with b | b
      · rw [b]
      · have := hf (pm (sg low high ∘ ρ) (j, c')) (List.mem_map.mpr ⟨_, List.mem_append_right _ b, rfl⟩)
        obtain ⟨l1, l2⟩ := fl _ b
        have e1 : ρ j = j := z.live l1
        have e2 : ρ c' = c' := z.live l2
        have this : f (sg low high (ρ j)) = f (sg low high (ρ c')) := this
        rw [e1, e2] at this
        exact this.symm
    · have hn : high ∉ n.ids := fun x => q ((hL n).mpr ⟨x, j, hj⟩)
      rw [sg_id hn]
      exact ⟨_, lk1.mpr ((em _ _).mpr ⟨j, t.old n j hj (fun x => q (tl.mp x)), rfl⟩), fun _ _ => rfl⟩
  · intro n' j' hj
    obtain ⟨c0, x, e⟩ := (em _ _).mp (lk1.mp hj)
    rcases t.of _ _ x with ⟨x, y⟩ | ⟨m, _, x, y⟩
    · have hn : high ∉ n'.ids := fun w => y (tl.mpr ((hL n').mpr ⟨w, c0, x⟩))
      exact ⟨n', c0, lk0.mpr x, (sg_id hn).symm, e⟩
    · exact ⟨m, c0, lk0.mpr x, y, e⟩
  · intro p hp'
    obtain ⟨q, hq, rfl⟩ := List.mem_map.mp hp'
    rcases List.mem_append.mp hq with hq | hq
    · exact .inl (List.mem_map.mpr ⟨q, List.mem_append_left _ hq, rfl⟩)
    · rw [List.mem_singleton.mp hq]
      right
      show sg low high (ρ one) = sg low high (ρ other)
      rcases hx with e | e
      · obtain ⟨e1, e2⟩ := Prod.mk.inj e
        rw [e1, e2, sg_high, sg_ne hlh]
      · obtain ⟨e1, e2⟩ := Prod.mk.inj e
        rw [e1, e2, sg_high, sg_ne hlh]
  · intro q hq
    obtain ⟨p, hp', rfl⟩ := List.mem_map.mp hq
    rcases List.mem_append.mp hp' with hp' | hp'
    · exact .inl ⟨pm ρ p, List.mem_map.mpr ⟨p, List.mem_append_left _ hp', rfl⟩, rfl⟩
    · right
      obtain ⟨l1, l2⟩ := fl _ hp'
      obtain ⟨m, _, x, y⟩ := t.fdo p hp'
      have e1 : ρ p.1 = p.1 := z.live l1
      have e2 : ρ p.2 = p.2 := z.live l2
      have e3 : pm (sg low high ∘ ρ) p = (sg low high p.1, sg low high p.2) := by
        show (sg low high (ρ p.1), sg low high (ρ p.2)) = _
        rw [e1, e2]
      rw [e3]
      rcases t.of _ _ y with ⟨y, w⟩ | ⟨m', _, y, w⟩
      · exact ⟨m, p.1, _, p.2, lk0.mpr x, lk0.mpr y, by rw [sg_id (sg_no hlh m)], rfl⟩
      · exact ⟨m, p.1, m', p.2, lk0.mpr x, lk0.mpr y, w, rfl⟩
  · rcases List.mem_append.mp hp' with h | h
    · exact hp p h
    · exact ⟨z.sub _ (fl p h).1, z.sub _ (fl p h).2⟩
/-- nothing is left to be joined -/
theorem merge_end {S : List T} {R : T → T → Prop} {W0 : Tab} {ρ : Nat → Nat} {γ : Nat → Option Nat} {l0 : List Nat} {a b : Nat} {pl : Addr} {pls : List V} (h : Goo g) (hf : g.fv = .non) (z : Cz γ ρ l0 g.liveR) (r : Run R g.cl W0 (look g.ws) ρ [] a b)
    (full : ∀ c ∈ l0, ∃ n, W0 n = some c) (cov : ∀ n i, W0 n = some i → ∃ t ∈ S, nd W0 t = some n) (hp : pls.length = g.liveR.length) :
    Good S R { g with many := g.ws.length, pl := pl, pls := pls } ∧ Le ρ W0 (look g.ws) ∧ ρ a = ρ b := by
  have le := r.le
  refine ⟨⟨⟨h.nd, h.lnd, h.lu, h.lk, h.row, h.use, h.rnd, h.und, h.pla, h.low, h.cnt⟩, rfl, hp, fun c hc => ?_, fun n i hn => ?_, r.sndW, hf⟩, le, r.eq⟩
  · have hc : c ∈ g.liveR := hc
    obtain ⟨n, hn⟩ := full c (z.sub c hc)
    have := le.to n c hn
    rw [z.live hc] at this
    exact ⟨_, h.look.mp this⟩
  · obtain ⟨n0, j, h1, h2⟩ := r.of n i hn
    obtain ⟨t, ht, e⟩ := cov n0 j h1
    exact ⟨t, ht, by rw [h2]; exact le.nd e⟩
end
end K45
/-! part K45E1 -/
set_option autoImplicit true
set_option Elab.async false
set_option linter.all false
set_option maxRecDepth 100000
set_option maxHeartbeats 4000000
/-! Terms and nodes as data: equality. -/
namespace K45
open PySem PySem.Spec PyProof.Rows L2
def kD : L2.Key → PyData
  | .inl i => .int i
  | .inr x => .str x
def Lf.dat (i : Lf) : List PyData := .str i.str :: i.rest.map kD
def enc : T → PyData
  | .lf i => .tuple i.dat
  | .un l a => .tuple [.str l.str, enc a]
  | .bin l a b => .tuple [.str l.str, enc a, enc b]
  | .ter l a b c => .tuple [.str l.str, enc a, enc b, enc c]
theorem dp_keys {K : PySem.W.Frag} {H : Hp} : ∀ ks : List L2.Key, DpAll K H (ks.map kV) (ks.map kD)
  | [] => .nil
  | .inl i :: ks => .cons (.int i) (dp_keys ks)
  | .inr x :: ks => .cons (.str x) (dp_keys ks)
theorem TmAt.dp {K : PySem.W.Frag} {H : Hp} : ∀ {t : T} {v : V}, TmAt H t v → Dp K H v (enc t)
  | .lf i, v, ⟨a, e, h⟩ => by rw [e]; exact .tup (.of h) (.cons (.str _) (dp_keys _))
  | .un l x, v, ⟨a, u, e, h, h1⟩ => by rw [e]; exact .tup (.of h) (.cons (.str _) (.cons h1.dp .nil))
  | .bin l x y, v, ⟨a, u, u', e, h, h1, h2⟩ => by rw [e]; exact .tup (.of h) (.cons (.str _) (.cons h1.dp (.cons h2.dp .nil)))
  | .ter l x y z, v, ⟨a, u, u', u'', e, h, h1, h2, h3⟩ => by rw [e]; exact .tup (.of h) (.cons (.str _) (.cons h1.dp (.cons h2.dp (.cons h3.dp .nil))))
theorem dp_all {K : PySem.W.Frag} {H : Hp} : ∀ {ts : List T} {us : List V}, Paired (TmAt H) ts us → DpAll K H us (ts.map enc)
  | _, _, .nil => .nil
  | _, _, .cons r t => .cons r.dp (dp_all t)
theorem lab_ok (l : Lab) : PyData.canLay0 (.str l.str) = true := by cases l <;> decide +kernel
theorem lf_ok (i : Lf) : PyData.canLayAll0 i.dat = true ∧ PyData.depthAll i.dat ≤ 1 := by cases i <;> decide +kernel
theorem enc_ok (t : T) : (enc t).canLay0 = true := by
  induction t with
  | lf i => simp only [enc, PyData.canLay0]; exact (lf_ok i).1
  | un l a ih => simp [enc, PyData.canLay0, PyData.canLayAll0, ih, show PyData.strOk l.str = true from lab_ok l]
  | bin l a b ih1 ih2 => simp [enc, PyData.canLay0, PyData.canLayAll0, ih1, ih2, show PyData.strOk l.str = true from lab_ok l]
  | ter l a b c ih1 ih2 ih3 => simp [enc, PyData.canLay0, PyData.canLayAll0, ih1, ih2, ih3, show PyData.strOk l.str = true from lab_ok l]
theorem enc_depth (t : T) : (enc t).depth ≤ t.depth + 1 := by
  induction t with
  | lf i => have := (lf_ok i).2; simp only [enc, PyData.depth, T.depth]; omega
  | un l a ih => simp only [enc, PyData.depth, PyData.depthAll, T.depth]; omega
  | bin l a b ih1 ih2 => simp only [enc, PyData.depth, PyData.depthAll, T.depth]; omega
  | ter l a b c ih1 ih2 ih3 => simp only [enc, PyData.depth, PyData.depthAll, T.depth]; omega
theorem enc_shaped {t : T} (h : t.depth ≤ 60) : SeqAt.shaped (enc t) = true := by
  unfold SeqAt.shaped
  rw [enc_ok, Bool.true_and]
  have := enc_depth t
  exact decide_eq_true (by omega)
theorem parts_ok : ∀ ts : List T, PyData.canLayAll0 (ts.map enc) = true
  | [] => rfl
  | t :: ts => by simp [PyData.canLayAll0, enc_ok t, parts_ok ts]
theorem parts_depth {n : Nat} : ∀ ts : List T, (∀ t ∈ ts, t.depth ≤ n) → PyData.depthAll (ts.map enc) ≤ n + 1
  | [], _ => by simp [PyData.depthAll]
  | t :: ts, h => by
    have h1 := h t List.mem_cons_self
    have h2 := parts_depth ts fun x hx => h x (List.mem_cons_of_mem _ hx)
    have h3 := enc_depth t
    simp only [List.map_cons, PyData.depthAll]
    omega
theorem parts_shaped {ts : List T} (h : ∀ t ∈ ts, t.depth ≤ 60) : SeqAt.shaped (.tuple (ts.map enc)) = true := by
  unfold SeqAt.shaped
  have h1 : (PyData.tuple (ts.map enc)).canLay0 = true := by simp only [PyData.canLay0]; exact parts_ok ts
  rw [h1, Bool.true_and]
  have := parts_depth ts h
  exact decide_eq_true (by simp only [PyData.depth]; omega)
theorem eqv_empty (ds : List PyData) : PyData.eqv (.tuple ds) (.tuple []) = ds.isEmpty := by
  cases ds <;> simp [PyData.eqv, PyData.eqvAll]
theorem lab_eq (l m : Lab) : (l.str == m.str) = decide (l = m) := by cases l <;> cases m <;> decide +kernel
theorem lf_eq (i j : Lf) : PyData.eqvAll i.dat j.dat = decide (i = j) := by cases i <;> cases j <;> decide +kernel
theorem lab_lf1 (l : Lab) (i : Lf) : (l.str == i.str) = false := by cases l <;> cases i <;> decide +kernel
theorem lab_lf2 (l : Lab) (i : Lf) : (i.str == l.str) = false := by cases l <;> cases i <;> decide +kernel
theorem enc_eqv : ∀ s t : T, PyData.eqv (enc s) (enc t) = decide (s = t) := by
  intro s
  induction s with
  | lf i => intro t; cases t <;> simp [enc, PyData.eqv, lf_eq, Lf.dat, PyData.eqvAll, lab_lf2] <;> exact lf_eq i _
  | un l a ih => intro t; cases t <;> simp [enc, PyData.eqv, Lf.dat, PyData.eqvAll, lab_lf1, lab_eq, ih]
  | bin l a b ih1 ih2 => intro t; cases t <;> simp [enc, PyData.eqv, Lf.dat, PyData.eqvAll, lab_lf1, lab_eq, ih1, ih2]
  | ter l a b c ih1 ih2 ih3 => intro t; cases t <;> simp [enc, PyData.eqv, Lf.dat, PyData.eqvAll, lab_lf1, lab_eq, ih1, ih2, ih3]
/-! nodes -/
def encN (n : N) : PyData := .tuple (n.key.map kD)
theorem dpN {K : PySem.W.Frag} {H : Hp} {a : Addr} {n : N} (h : H a = some (.tup (n.key.map kV))) : Dp K H (.ref a) (encN n) := .tup (.of h) (dp_keys _)
theorem ids_ok : ∀ ids : List Nat, PyData.canLayAll0 (ids.map fun i => kD (idK i)) = true ∧ PyData.depthAll (ids.map fun i => kD (idK i)) ≤ 1
  | [] => by simp [PyData.canLayAll0, PyData.depthAll]
  | i :: ids => by
    have h := ids_ok ids
    simp [PyData.canLayAll0, PyData.depthAll, PyData.canLay0, PyData.depth, kD, idK] at h ⊢
    exact ⟨h.1, by omega⟩
theorem encN_shaped (n : N) : SeqAt.shaped (encN n) = true := by
  unfold SeqAt.shaped encN
  cases n with
  | lf i => cases i <;> decide +kernel
  | nd l ids =>
    have h := ids_ok ids
    have e : (N.nd l ids).key.map kD = .str l.str :: (ids.map fun i => kD (idK i)) := by
      simp only [N.key, N.hd, N.ids, Hd.str, Hd.rest, List.nil_append, List.map_cons, List.map_map]
      rfl
    rw [e]
    simp only [PyData.canLay0, PyData.canLayAll0, PyData.depth, PyData.depthAll, h.1, show PyData.strOk l.str = true from lab_ok l, Bool.true_and, Bool.and_true]
    exact decide_eq_true (by omega)
theorem ids_eqv : ∀ a b : List Nat, PyData.eqvAll (a.map fun i => kD (idK i)) (b.map fun i => kD (idK i)) = decide (a = b)
  | [], [] => by simp [PyData.eqvAll]
  | [], _ :: _ => by simp [PyData.eqvAll]
  | _ :: _, [] => by simp [PyData.eqvAll]
  | x :: a, y :: b => by
    rw [List.map_cons, List.map_cons, PyData.eqvAll, ids_eqv a b]
    by_cases e : x = y
    · subst e; simp [kD, PyData.eqv]
    · have : ¬ ((x : Int) = (y : Int)) := by omega
      simp [e, kD, PyData.eqv, this]
theorem encN_eqv (n m : N) : PyData.eqv (encN n) (encN m) = decide (n = m) := by
  have e : ∀ (l : Lab) (ids : List Nat), (N.nd l ids).key.map kD = .str l.str :: (ids.map fun i => kD (idK i)) := fun l ids => by
    simp only [N.key, N.hd, N.ids, Hd.str, Hd.rest, List.nil_append, List.map_cons, List.map_map]
    rfl
  have e2 : ∀ i : Lf, (N.lf i).key.map kD = i.dat := fun i => by simp [N.key, N.hd, N.ids, Hd.str, Hd.rest, Lf.dat, kD]
  unfold encN
  cases n with
  | lf i =>
    cases m with
    | lf j => rw [e2, e2]; simp only [PyData.eqv, lf_eq, N.lf.injEq]
    | nd l b => rw [e2, e]; simp [PyData.eqv, Lf.dat, PyData.eqvAll, lab_lf2]
  | nd l a =>
    cases m with
    | lf j => rw [e2, e]; simp [PyData.eqv, Lf.dat, PyData.eqvAll, lab_lf1]
    | nd l' b =>
      rw [e, e]
      simp only [PyData.eqv, PyData.eqvAll, lab_eq, ids_eqv, N.nd.injEq]
      by_cases h : l = l' <;> simp [h]
end K45
/-! part K45L1 -/
set_option autoImplicit true
set_option Elab.async false
set_option linter.all false
set_option maxRecDepth 100000
set_option maxHeartbeats 4000000
/-! Walks: _laid. -/
namespace K45
open PySem PySem.Spec PyProof.Rows L2
section
variable {K : PySem.W.Frag} {o : Addr} {g : G} {H : Hp}
theorem At.gt (h : At K o g H) (c : Cls K (He.ga K "Classes")) {f : Str} (n : NoAttr K (He.ga K "Classes") f) {v : V} (l : g.fs.lookup f = some v) {Q : VK} (q : Q v H) :
    ∃ a C dx fs v', V.ref o = .ref a ∧ H a = some (.ins C dx fs) ∧ Cls K C ∧ NoAttr K C f ∧ fs.lookup f = some v' ∧ Q v' H := ⟨o, _, _, _, _, rfl, h.obj, c, n, l, q⟩
theorem At.st (h : At K o g H) (c : Cls K (He.ga K "Classes")) {f : Str} (n : NoAttr K (He.ga K "Classes") f) {y : V} {R : Hp → Prop} (q : R (upd H o (.ins (He.ga K "Classes") g.dx (putF f y g.fs)))) :
    ∃ a C dx fs, V.ref o = .ref a ∧ H a = some (.ins C dx fs) ∧ Cls K C ∧ NoAttr K C f ∧ fs.length < 1000 ∧ R (upd H a (.ins C dx (putF f y fs))) := ⟨o, _, _, _, rfl, h.obj, c, n, (by show 9 < 1000; omega), q⟩
end
section
variable {X : Cx} {k : Nat} {x : Str} {ps : List Str} {sp : Sp} {f : Addr} {fd : FuncData} {e o : Expr} {es : List Expr} {pos apos : Pos} {ta : TE} {t : TA} {pl : Sem Bool}
/-- o.m(e, ..), m a method of Classes -/
theorem pe_m {C : Addr} (D : OkM X.prog X.w X.K X.mg X.base x ps k sp f fd) (c : Cls X.K C) (hr : Room k X.A) (he : PE X o ta) (ha : PA X (e :: es) t)
    (hst : starEach (e :: es) X.env = (false, eval e X.env) :: starEach es X.env := by rfl) (hpl : (backTo pos (starEach es X.env)).any (·.1) = false := by rfl)
    (ht : eval (.Call (.Attribute o x apos) (e :: es) [] pos) X.env = (do
      let ov ← eval o X.env
      standAt apos.atName
      let (f, first) ← holding [ov] (getMethod ov x pl)
      callWith pos f first (backTo pos (starEach (e :: es) X.env)) (backToKw pos (keywordEach [] X.env))) := by rfl) (hC : He.ga X.K "Classes" = C := by rfl) :
    PE X (.Call (.Attribute o x apos) (e :: es) [] pos) (tMeth C x sp [] E0 ta t) := pe_meth he c (by rw [← hC]; exact D.me) D.ok hr D.bi .nil pass0 ha hst hpl ht
end
variable {P : Program} {w : World} {K : PySem.W.Frag} {mg : Str → Option Value} {base : Heap}
def sp_laid (K : PySem.W.Frag) (S : List T) (R : T → T → Prop) (n : Nat) : Sp := fun vs H Q _ => ∃ (o : Addr) (g : G) (t : T) (v : V), vs = [.ref o, v] ∧ At K o g H ∧ Good S R g ∧ TmAt H t v ∧ t.ok ∧ t.depth ≤ n ∧ t.depth ≤ 50 ∧ (∀ u ∈ t.under, u ∈ S) ∧ g.made + t.size ≤ 2000 ∧
  ∀ H' g' i, Sg K o g H g' H' → Good S R g' → Le id (look g.ws) (look g'.ws) → find (look g'.ws) t = some i → g'.made ≤ g.made + t.size → g'.rcs = g.rcs → Q (.int (i : Int)) H'
theorem sc_laid : FnScope ["self", "term", "node", "part", "place"] ["self", "term"] (defScope m__laid) := ⟨rfl, rfl, rfl, by decide +kernel, rfl, by decide +kernel, by decide +kernel⟩
theorem ok_laid (X : Fx P w K mg base) (S : List T) (R : T → T → Prop) : ∀ n : Nat, OkE P w K mg base "_laid" ["self", "term"] (n + 5) (sp_laid K S R n) := by
  have step : ∀ (n : Nat) (rec : n = 0 ∨ ∃ m, n = m + 1 ∧ OkE P w K mg base "_laid" ["self", "term"] (n + 4) (sp_laid K S R m)), OkE P w K mg base "_laid" ["self", "term"] (n + 5) (sp_laid K S R n) := by
    intro n rec
    obtain ⟨fd, F⟩ := X.fn 34 (d := dm__laid) rfl
    obtain ⟨_, _, D1⟩ := (ok_parts_in X).mono (k := n + 4) (by omega)
    obtain ⟨_, _, D2⟩ := ok_kind X n
    refine ⟨_, fd, X.m__laid, F.bindsN fun _ _ _ _ _ _ us hl => match us, hl with | [_, _], _ => rfl, okN F sc_laid (fun vs H Q E h => ?_) (fun cdv A outer s H vs Q E hr h => ?_)⟩
    · obtain ⟨o, _, _, _, rfl, _⟩ := h
      rfl
    · obtain ⟨o, g, t, v, rfl, h1, h2, ht, hk, hd, hd5, hS, hm, hQ⟩ := h
      obtain ⟨m, rfl, f', fd', D⟩ : ∃ m, n = m + 1 ∧ OkE P w K mg base "_laid" ["self", "term"] (n + 4) (sp_laid K S R m) := by
        rcases rec with e | e
        · have := t.depth_pos
          omega
        · exact e
      have hu := hu_of hr
      obtain ⟨t2, hrest, fin⟩ : ∃ t2, PSs (cxOf CX0 P w K mg base ["self", "term", "node", "part", "place"] "Classes._laid" (defScope m__laid) (He.fAd K dm__laid.at_) cdv A outer s H E).nox ((defBody m__laid).drop 2) t2 ∧
          ∀ (H1 : Hp) (g1 : G) (b : Addr) (nn : N), Sg K o g H g1 H1 → Good S R g1 → Le id (look g.ws) (look g1.ws) → nd (look g1.ws) t = some nn → H1 b = some (.tup (nn.key.map kV)) → g1.made + 1 ≤ g.made + t.size → g1.rcs = g.rcs →
            t2 { nx := fun _ H' => Q .non H', rt := Q } [some (.ref o), some v, some (.ref b), none, none] H1 := by
        refine ⟨_, pss_cons (ps_if (pt_cmp (pc_dnotin hu (pv 2) (pe_fld (pv 0) (by rfl))))
          (pss_cons (ps_set (i := 4) sc_laid.nd rfl (Or.inl rfl) (pe_fld (pv 0) (by rfl)))
          (pss_cons (ps_fld (pv 0) (pe_op op_add (pv 4) pe_int) (by rfl))
          (pss_cons (ps_asg (pe_tup (pa_cons (pv 4) (pa_cons (pe_dispT1 hu (pv 2) pe_bl) (pa_cons pe_dnewT pa_nil))))
            (pg_tup rfl (pgs_cons (pg_sub (pe_fld (pv 0) (by rfl)) (pv 2) (set_dict hu)) (pgs_cons (pg_sub (pe_fld (pv 0) (by rfl)) (pv 4) (set_dict hu)) (pgs_cons (pg_sub (pe_fld (pv 0) (by rfl)) (pv 4) (set_dict hu)) pgs_nil)))))
          (pss_cons (ps_dput hu (pe_fld (pv 0) (by rfl)) (pv 4) (pe_d D2 hr (by rfl) (pa_cons (pv 1) pa_nil)) (by rfl))
          (pss_cons (ps_asg (pe_tup (pa_cons (pe_tup (StX.pa_star (pe_fld (pv 0) (by rfl)) (pa_cons (pv 4) pa_nil))) (pa_cons (pe_op op_add (pe_fld (pv 0) (by rfl)) pe_int) pa_nil)))
            (pg_tup rfl (pgs_cons (pg_fld (pv 0)) (pgs_cons (pg_fld (pv 0)) pgs_nil))))
          (pss_cons (ps_for PassesOwn.never rfl (pi_tup (pe_d D1 hr (by rfl) (pa_cons (pv 2) pa_nil))) (pg_name (i := 3) sc_laid.nd rfl (Or.inl rfl))
            (pss_one (ps_dput hu (pe_dget hu (pe_fld (pv 0) (by rfl)) (pv 3) (fun _ _ => rfl)) (pv 2) pe_bl (by rfl))))
          (pss_one (ps_fld (pv 0) pe_non (by rfl))))))))) pss_nil)
          (pss_one (ps_ret (pe_dget hu (pe_fld (pv 0) (by rfl)) (pv 2) (fun _ _ => rfl)))), ?_⟩
        intro H1 g1 b nn s1 gd1 le1 hnd hb hmade hrc
        refine ⟨_, rfl, _, rfl, o, _, _, _, _, rfl, s1.at_.obj, X.cl, X.n_where, lk_where .., ⟨g1.wa, _, rfl, DGet.t s1.at_.wh hb, _, rfl, ?_⟩⟩
        rw [val_w]
        cases hl : look g1.ws nn with
        | some i =>
          refine iteF ⟨_, rfl, o, _, _, _, _, rfl, s1.at_.obj, X.cl, X.n_where, lk_where .., ⟨_, rfl, g1.wa, _, rfl, (by have := DGet.t s1.at_.wh hb; rw [val_w, hl] at this; exact this), hQ H1 g1 i s1 gd1 le1 (find_of hnd hl) (by omega) hrc⟩⟩
        | none =>
          have ht1 := fun {H2 : Hp} {g2 : G} (s2 : Sg K o g H g2 H2) => ht.keep (s2.tups h1)
          have low : ∀ c ∈ g1.liveR, c ≠ g1.made := fun c hc e => by have := gd1.oo.low c hc; omega
          have fresh : g1.made ∉ g1.liveR := fun z => low _ z rfl
          have freshU : g1.made ∉ g1.liveU := by rw [gd1.oo.lu]; exact fresh
          have freshK : g1.made ∉ g1.liveK := by rw [gd1.oo.lk]; exact fresh
          have idl : ∀ c ∈ nn.ids, c ∈ g1.liveR := fun c hc => by
            obtain ⟨x, _, e⟩ := map_some_mem' (nd_iff.mp hnd).2 c hc
            obtain ⟨m, _, e2⟩ := find_some e
            exact (gd1.oo.pla m c (gd1.oo.look.mp e2)).1
          have wl : g1.ws.length ≤ 2000 := by have := gd1.oo.cnt; omega
          have ll : g1.liveR.length ≤ 2000 := by
            have := gd1.oo.cnt
            have : g1.liveR.length ≤ g1.ws.length := len_le (fun c p => p.2 = c) g1.liveR g1.ws gd1.oo.lnd (fun c hc => let ⟨n, hn⟩ := gd1.ful c hc; ⟨_, hn, rfl⟩) fun a _ b _ p x y => x.symm.trans y
            omega
          have sz : ∀ {n : Nat}, n ≤ 5000 → n < sizeLine := fun h => Nat.lt_of_le_of_lt h (by decide)
          -- the number
          refine iteT ⟨_, rfl, o, _, _, _, _, rfl, s1.at_.obj, X.cl, X.n_made, lk_made .., ?_⟩
          refine ⟨_, rfl, _, _, rfl, rfl, _, rfl, o, _, _, _, rfl, s1.at_.obj, X.cl, X.n_made, (by show 9 < 1000; omega), ?_⟩
          have s2 : Sg K o g H { g1 with made := g1.made + 1 } _ := s1.fld (g1.made + 1) g1.many g1.pl g1.rc g1.pls g1.rcs g1.fv s1.at_.hpl s1.at_.hrc
          have hb2 := Sg.tups (Sg.trans s1 (.refl s1.at_)) h1
          show tSeq _ _ _ _ (upd H1 o (.ins (He.ga K "Classes") g1.dx (flds (.ref g1.pl) (.int g1.many) (.ref g1.rc) (.int (g1.made + 1 : Nat)) (.ref g1.wa) (.ref g1.ro) (.ref g1.us) (.ref g1.ki) g1.fv)))
          have hbo : upd H1 o (.ins (He.ga K "Classes") g1.dx (flds (.ref g1.pl) (.int g1.many) (.ref g1.rc) (.int (g1.made + 1 : Nat)) (.ref g1.wa) (.ref g1.ro) (.ref g1.us) (.ref g1.ki) g1.fv)) b = some (.tup (nn.key.map kV)) := by
            rw [upd_ne (ne_of hb s1.at_.obj (fun z => nomatch z))]; exact hb
          generalize upd H1 o (.ins (He.ga K "Classes") g1.dx (flds (.ref g1.pl) (.int g1.many) (.ref g1.rc) (.int (g1.made + 1 : Nat)) (.ref g1.wa) (.ref g1.ro) (.ref g1.us) (.ref g1.ki) g1.fv)) = H2 at s2 hbo
          -- the three entries
          refine ⟨_, rfl, fun p hp => ⟨_, rfl, b, nn.key, rfl, upd_same, ?_, fun q hq => ⟨(by show 3 ≤ sizeLine; decide), fun r hr' => ?_⟩⟩⟩
          · rw [upd_ne (ne_of_none hbo hp)]; exact hbo
          have hpq : q ≠ p := fun z => by rw [z, upd_same] at hq; cases hq
          have hrq : r ≠ q := fun z => by rw [z, upd_same] at hr'; cases hr'
          have hrp : r ≠ p := fun z => by rw [z, upd_ne (fun y => hpq y.symm), upd_same] at hr'; cases hr'
          have hq2 : H2 q = none := upd_none (upd_none hq)
          have hr2 : H2 r = none := upd_none (upd_none (upd_none hr'))
          have q3 : Same H2 (upd (upd (upd (upd H2 p (.dT [])) p (.dT [(nn.key, .bl true)])) q (.dT [])) r (.tup [.int g1.made, .ref p, .ref q])) := fun c u e => by
            rw [upd_ne (ne_of_none e hr2), upd_ne (ne_of_none e hq2), upd_ne (ne_of_none e hp), upd_ne (ne_of_none e hp)]; exact e
          have p3 : upd (upd (upd (upd H2 p (.dT [])) p (.dT [(nn.key, .bl true)])) q (.dT [])) r (.tup [.int g1.made, .ref p, .ref q]) p = some (.dT ([nn].map uE)) := by
            rw [upd_ne (fun z => hrp z.symm), upd_ne (fun z => hpq z.symm), upd_same]; rfl
          have p4 : upd (upd (upd (upd H2 p (.dT [])) p (.dT [(nn.key, .bl true)])) q (.dT [])) r (.tup [.int g1.made, .ref p, .ref q]) q = some (.dT (([] : List N).map uE)) := by
            rw [upd_ne (fun z => hrq z.symm), upd_same]; rfl
          refine ⟨r, [.int g1.made, .ref p, .ref q], rfl, SqT.of upd_same, rfl, ?_⟩
          have s3 := s2.same q3
          have hb3 := q3 _ _ hbo
          generalize upd (upd (upd (upd H2 p (.dT [])) p (.dT [(nn.key, .bl true)])) q (.dT [])) r (.tup [.int g1.made, .ref p, .ref q]) = H3 at s3 hb3 p3 p4 ⊢
          have pf : ¬ foot o g1 p := fun z => s2.at_.fresh hp z
          have qf : ¬ foot o g1 q := fun z => s2.at_.fresh hq2 z
          have pn : H p = none := s2.grow p hp
          have qn : H q = none := s2.grow q hq2
          have l4 : putK (g1.ws.map wE) nn.key (.int g1.made) = (g1.ws ++ [(nn, g1.made)]).map wE := put_w _ hl
          refine ⟨_, _, rfl, _, rfl, o, _, _, _, _, rfl, s3.at_.obj, X.cl, X.n_where, lk_where .., _, rfl, _, _, rfl, DPut.t s3.at_.wh hb3 (by rw [List.length_map]; exact sz (by show g1.ws.length ≤ _; omega)), ?_⟩
          rw [l4]
          have s4 : Sg K o g H { g1 with made := g1.made + 1, ws := g1.ws ++ [(nn, g1.made)] } _ := s3.setW (g1.ws ++ [(nn, g1.made)])
          have ne4 : ∀ {c : Addr}, ¬ foot o g1 c → c ≠ g1.wa := fun hc z => hc (.inr (.inl z))
          have p5 : upd H3 g1.wa (.dT ((g1.ws ++ [(nn, g1.made)]).map wE)) p = some (.dT ([nn].map uE)) := by rw [upd_ne (ne4 pf)]; exact p3
          have p6 : upd H3 g1.wa (.dT ((g1.ws ++ [(nn, g1.made)]).map wE)) q = some (.dT (([] : List N).map uE)) := by rw [upd_ne (ne4 qf)]; exact p4
          have hb4 : upd H3 g1.wa (.dT ((g1.ws ++ [(nn, g1.made)]).map wE)) b = some (.tup (nn.key.map kV)) := by rw [upd_ne (ne_of hb3 s3.at_.wh (fun z => nomatch z))]; exact hb3
          generalize upd H3 g1.wa (.dT ((g1.ws ++ [(nn, g1.made)]).map wE)) = H4 at s4 p5 p6 hb4 ⊢
          refine ⟨_, _, rfl, _, rfl, o, _, _, _, _, rfl, s4.at_.obj, X.cl, X.n_rows, lk_rows .., _, rfl, _, _, rfl, DPut.k (k := idK g1.made) s4.at_.rows (by rw [List.length_map]; exact sz (by show g1.liveR.length ≤ _; omega)), ?_⟩
          have s5 : Sg K o g H { g1 with made := g1.made + 1, ws := g1.ws ++ [(nn, g1.made)], liveR := g1.liveR ++ [g1.made], ra := ov g1.ra g1.made p, rl := ov g1.rl g1.made [nn] } _ := s4.addRow (c := g1.made) (p := p) (l := [nn]) fresh p5 pf pn
          rw [show putK (g1.liveR.map fun c => (idK c, V.ref (g1.ra c))) (idK g1.made) (.ref p) = _ from put_ref fresh]
          have neR : ∀ {c : Addr}, ¬ foot o g1 c → c ≠ g1.ro := fun hc z => hc (.inr (.inr (.inl z)))
          have qf5 : ¬ foot o { g1 with made := g1.made + 1, ws := g1.ws ++ [(nn, g1.made)], liveR := g1.liveR ++ [g1.made], ra := ov g1.ra g1.made p, rl := ov g1.rl g1.made [nn] } q := by
            rintro (z | z | z | z | z | ⟨c, hc, z⟩ | z)
            · exact qf (.inl z)
            · exact qf (.inr (.inl z))
            · exact qf (.inr (.inr (.inl z)))
            · exact qf (.inr (.inr (.inr (.inl z))))
            · exact qf (.inr (.inr (.inr (.inr (.inl z)))))
            · have z : q = ov g1.ra g1.made p c := z
              rcases List.mem_append.mp hc with hc | hc
              · rw [ov_ne (low c hc)] at z
                exact qf (.inr (.inr (.inr (.inr (.inr (.inl ⟨c, hc, z⟩))))))
              · rw [List.mem_singleton.mp hc, ov_same] at z
                exact hpq z
            · exact qf (.inr (.inr (.inr (.inr (.inr (.inr z))))))
          generalize hh : upd H4 g1.ro (HO.dK _) = H5 at s5 ⊢
          have p7 : H5 q = some (.dT (([] : List N).map uE)) := by rw [← hh, upd_ne (neR qf)]; exact p6
          have hb5 : H5 b = some (.tup (nn.key.map kV)) := by rw [← hh, upd_ne (ne_of hb4 s4.at_.rows (fun z => nomatch z))]; exact hb4
          clear hh
          refine ⟨_, _, rfl, _, rfl, o, _, _, _, _, rfl, s5.at_.obj, X.cl, X.n_uses, lk_uses .., _, rfl, _, _, rfl, DPut.k (k := idK g1.made) s5.at_.uses (by rw [List.length_map]; exact sz (by show g1.liveU.length ≤ _; rw [gd1.oo.lu]; omega)), ?_⟩
          have s6 : Sg K o g H { g1 with made := g1.made + 1, ws := g1.ws ++ [(nn, g1.made)], liveR := g1.liveR ++ [g1.made], ra := ov g1.ra g1.made p, rl := ov g1.rl g1.made [nn], liveU := g1.liveU ++ [g1.made], ua := ov g1.ua g1.made q, ul := ov g1.ul g1.made [] } _ := s5.addUse (c := g1.made) (p := q) (l := []) freshU p7 qf5 qn
          rw [show putK (g1.liveU.map fun c => (idK c, V.ref (g1.ua c))) (idK g1.made) (.ref q) = _ from put_ref freshU]
          generalize hh : upd H5 g1.us (HO.dK _) = H6 at s6 ⊢
          have hb6 : H6 b = some (.tup (nn.key.map kV)) := by rw [← hh, upd_ne (ne_of hb5 s5.at_.uses (fun z => nomatch z))]; exact hb5
          clear hh
          refine ⟨rfl, ?_⟩
          -- the kind
          refine ⟨_, rfl, t, v, rfl, ht1 s6, hk, hd, fun H7 q7 => ?_⟩
          have s7 := s6.same q7
          have hb7 := q7 _ _ hb6
          refine ⟨_, rfl, o, _, _, _, _, rfl, s7.at_.obj, X.cl, X.n_kinds, lk_kinds .., _, rfl, _, _, rfl, DPut.k (k := idK g1.made) s7.at_.kinds (by rw [List.length_map]; exact sz (by show g1.liveK.length ≤ _; rw [gd1.oo.lk]; omega)), ?_⟩
          have s8 : Sg K o g H { g1 with made := g1.made + 1, ws := g1.ws ++ [(nn, g1.made)], liveR := g1.liveR ++ [g1.made], ra := ov g1.ra g1.made p, rl := ov g1.rl g1.made [nn], liveU := g1.liveU ++ [g1.made], ua := ov g1.ua g1.made q, ul := ov g1.ul g1.made [], liveK := g1.liveK ++ [g1.made], cl := ov g1.cl g1.made t } _ := s7.setK (g1.liveK ++ [g1.made]) (ov g1.cl g1.made t)
          rw [show putK (g1.liveK.map fun c => (idK c, V.str (kS (g1.cl c).word))) (idK g1.made) (.str (kS t.word)) = _ from put_kind freshK]
          generalize hh : upd H7 g1.ki (HO.dK _) = H8 at s8 ⊢
          have hb8 : H8 b = some (.tup (nn.key.map kV)) := by rw [← hh, upd_ne (ne_of hb7 s7.at_.kinds (fun z => nomatch z))]; exact hb7
          clear hh
          -- places, many
          refine ⟨_, rfl, o, _, _, _, _, rfl, s8.at_.obj, X.cl, X.nplaces, lk_places .., _, _, rfl, .inl (SqT.of s8.at_.hpl), _, rfl, ?_⟩
          have pls : (g1.pls ++ [V.int g1.made]).length = g1.liveR.length + 1 := by rw [List.length_append, gd1.plc]; rfl
          refine ⟨by show (g1.pls ++ [V.int g1.made]).length ≤ sizeLine; rw [pls]; exact Nat.le_of_lt (sz (by omega)), fun p9 hp9 => ?_⟩
          have s9 := s8.same (Same.upd hp9 (o := .tup (g1.pls ++ [V.int g1.made])))
          have pl9 : upd H8 p9 (.tup (g1.pls ++ [V.int g1.made])) p9 = some (.tup (g1.pls ++ [V.int g1.made])) := upd_same
          have hb9 := Same.upd hp9 (o := .tup (g1.pls ++ [V.int g1.made])) _ _ hb8
          generalize upd H8 p9 (.tup (g1.pls ++ [V.int g1.made])) = H9 at s9 pl9 hb9 ⊢
          refine ⟨_, rfl, o, _, _, _, _, rfl, s9.at_.obj, X.cl, X.nmany, lk_many .., _, _, rfl, rfl, (by show 2 ≤ sizeLine; decide), fun r9 hr9 => ?_⟩
          have s10 := s9.same (Same.upd hr9 (o := .tup [.ref p9, .int ((g1.many : Int) + 1)]))
          have pl10 := Same.upd hr9 (o := .tup [.ref p9, .int ((g1.many : Int) + 1)]) _ _ pl9
          have hb10 := Same.upd hr9 (o := .tup [.ref p9, .int ((g1.many : Int) + 1)]) _ _ hb9
          refine ⟨r9, [.ref p9, .int ((g1.many : Int) + 1)], rfl, SqT.of upd_same, rfl, _, _, rfl, ?_⟩
          generalize upd H9 r9 (.tup [.ref p9, .int ((g1.many : Int) + 1)]) = H10 at s10 pl10 hb10 ⊢
          refine ⟨_, rfl, o, _, _, _, rfl, s10.at_.obj, X.cl, X.nplaces, (by show 9 < 1000; omega), _, _, rfl, ?_⟩
          have s11 : Sg K o g H { g1 with made := g1.made + 1, ws := g1.ws ++ [(nn, g1.made)], liveR := g1.liveR ++ [g1.made], ra := ov g1.ra g1.made p, rl := ov g1.rl g1.made [nn], liveU := g1.liveU ++ [g1.made], ua := ov g1.ua g1.made q, ul := ov g1.ul g1.made [], liveK := g1.liveK ++ [g1.made], cl := ov g1.cl g1.made t, pl := p9, pls := g1.pls ++ [V.int g1.made] } _ := s10.fld (g1.made + 1) g1.many p9 g1.rc (g1.pls ++ [V.int g1.made]) g1.rcs g1.fv pl10 s10.at_.hrc
          change gFld _ _ _ _ _ (upd H10 o (.ins (He.ga K "Classes") g1.dx (flds (.ref p9) (.int g1.many) (.ref g1.rc) (.int (g1.made + 1 : Nat)) (.ref g1.wa) (.ref g1.ro) (.ref g1.us) (.ref g1.ki) g1.fv))) _
          change Sg K o g H _ (upd H10 o (.ins (He.ga K "Classes") g1.dx (flds (.ref p9) (.int g1.many) (.ref g1.rc) (.int (g1.made + 1 : Nat)) (.ref g1.wa) (.ref g1.ro) (.ref g1.us) (.ref g1.ki) g1.fv))) at s11
          generalize hh : upd H10 o _ = H11 at s11 ⊢
          have hb11 : H11 b = some (.tup (nn.key.map kV)) := by rw [← hh, upd_ne (ne_of hb10 s10.at_.obj (fun z => nomatch z))]; exact hb10
          clear hh
          refine ⟨_, rfl, o, _, _, _, rfl, s11.at_.obj, X.cl, X.nmany, (by show 9 < 1000; omega), rfl, ?_⟩
          have s12 : Sg K o g H { g1 with made := g1.made + 1, ws := g1.ws ++ [(nn, g1.made)], liveR := g1.liveR ++ [g1.made], ra := ov g1.ra g1.made p, rl := ov g1.rl g1.made [nn], liveU := g1.liveU ++ [g1.made], ua := ov g1.ua g1.made q, ul := ov g1.ul g1.made [], liveK := g1.liveK ++ [g1.made], cl := ov g1.cl g1.made t, pl := p9, pls := g1.pls ++ [V.int g1.made], many := g1.many + 1 } _ := s11.fld (g1.made + 1) (g1.many + 1) p9 g1.rc (g1.pls ++ [V.int g1.made]) g1.rcs g1.fv s11.at_.hpl s11.at_.hrc
          change tSeq _ _ _ _ (upd H11 o (.ins (He.ga K "Classes") g1.dx (flds (.ref p9) (.int (g1.many + 1 : Nat)) (.ref g1.rc) (.int (g1.made + 1 : Nat)) (.ref g1.wa) (.ref g1.ro) (.ref g1.us) (.ref g1.ki) g1.fv)))
          change Sg K o g H _ (upd H11 o (.ins (He.ga K "Classes") g1.dx (flds (.ref p9) (.int (g1.many + 1 : Nat)) (.ref g1.rc) (.int (g1.made + 1 : Nat)) (.ref g1.wa) (.ref g1.ro) (.ref g1.us) (.ref g1.ki) g1.fv))) at s12
          generalize hh : upd H11 o _ = H12 at s12 ⊢
          have hb12 : H12 b = some (.tup (nn.key.map kV)) := by rw [← hh, upd_ne (ne_of hb11 s11.at_.obj (fun z => nomatch z))]; exact hb11
          clear hh
          -- the uses
          refine ⟨_, rfl, b, nn.hd, nn.ids.map fun i : Nat => V.int (i : Int), rfl, by rw [hb12, N.key_map], fun i e => by rw [N.leaf_ids e]; rfl, fun p' hp' => ?_⟩
          have s13 := s12.same (Same.upd hp' (o := .tup (nn.ids.map fun i : Nat => V.int (i : Int))))
          have hb13 := Same.upd hp' (o := .tup (nn.ids.map fun i : Nat => V.int (i : Int))) _ _ hb12
          refine ⟨p', rfl, ⟨_, SqT.of upd_same⟩, for_tup (K := K) (a := p') (xs := nn.ids.map fun i : Nat => V.int (i : Int)) (fun i σ H' => ∃ ul v3, σ = [some (.ref o), some v, some (.ref b), v3, some (.int g1.made)] ∧ Sg K o g H ({ g1 with made := g1.made + 1, ws := g1.ws ++ [(nn, g1.made)], liveR := g1.liveR ++ [g1.made], ra := ov g1.ra g1.made p, rl := ov g1.rl g1.made [nn], liveU := g1.liveU ++ [g1.made], ua := ov g1.ua g1.made q, ul := ul, liveK := g1.liveK ++ [g1.made], cl := ov g1.cl g1.made t, pl := p9, pls := g1.pls ++ [V.int g1.made], many := g1.many + 1 }) H' ∧
              H' b = some (.tup (nn.key.map kV)) ∧ H' p' = some (.tup (nn.ids.map fun i : Nat => V.int (i : Int))) ∧ ∀ c ∈ g1.liveR ++ [g1.made], ul c = if c ∈ nn.ids.take i then ins nn (ov g1.ul g1.made [] c) else ov g1.ul g1.made [] c)
            ⟨_, none, rfl, s13, hb13, upd_same, fun c _ => by simp⟩ (fun i σ H' _ ⟨_, _, _, _, _, h, _⟩ => SqT.of h) ?_ ?_⟩
          · rintro i x σ H' hx ⟨ul, v3, rfl, s14, hb14, hp14, hul⟩
            rw [List.getElem?_map] at hx
            obtain ⟨c, hc, rfl⟩ := Option.map_eq_some_iff.mp hx
            have cm := idl c (List.mem_of_getElem? hc)
            have cU : c ∈ g1.liveU ++ [g1.made] := List.mem_append_left _ (by rw [gd1.oo.lu]; exact cm)
            have cR : c ∈ g1.liveR ++ [g1.made] := List.mem_append_left _ cm
            have ulen : (ul c).length ≤ 2001 := by
              have h1 : (g1.ul c).length ≤ g1.ws.length := nodup_len (gd1.oo.und c cm) fun n hn => ((gd1.oo.use c cm n).mp hn).2
              have h2 := ins_len nn (g1.ul c)
              rw [hul c cR, ov_ne (low c cm)]
              split <;> omega
            refine ⟨_, rfl, o, _, _, _, _, rfl, s14.at_.obj, X.cl, X.n_uses, lk_uses .., _, rfl, g1.us, .ref (ov g1.ua g1.made q c), rfl, ?_, _, rfl, _, _, rfl, DPut.t (s14.at_.use c cU) hb14 (by rw [List.length_map]; exact sz (by show (ul c).length ≤ _; omega)), ?_⟩
            · have := DGet.k (k := idK c) s14.at_.uses
              rw [val_i (f := fun d => V.ref (ov g1.ua g1.made q d)), if_pos cU] at this
              exact this
            · rw [put_u]
              have s15 : Sg K o g H ({ g1 with made := g1.made + 1, ws := g1.ws ++ [(nn, g1.made)], liveR := g1.liveR ++ [g1.made], ra := ov g1.ra g1.made p, rl := ov g1.rl g1.made [nn], liveU := g1.liveU ++ [g1.made], ua := ov g1.ua g1.made q, ul := ov ul c (ins nn (ul c)), liveK := g1.liveK ++ [g1.made], cl := ov g1.cl g1.made t, pl := p9, pls := g1.pls ++ [V.int g1.made], many := g1.many + 1 }) _ := s14.setUse cU (ins nn (ul c))
              refine ⟨_, _, rfl, s15, ?_, ?_, fun d hd' => ?_⟩
              · rw [upd_ne (ne_of hb14 (s14.at_.use c cU) (fun z => nomatch z))]; exact hb14
              · rw [upd_ne (ne_of hp14 (s14.at_.use c cU) (fun z => nomatch z))]; exact hp14
              · rw [take_snoc hc]
                by_cases e : d = c
                · subst e
                  rw [ov_same, if_pos (by simp), hul d hd']
                  split
                  · rw [ins_ins]
                  · rfl
                · rw [ov_ne e, hul d hd']
                  have : (d ∈ nn.ids.take i ++ [c]) ↔ d ∈ nn.ids.take i := by simp [e]
                  by_cases q : d ∈ nn.ids.take i
                  · rw [if_pos q, if_pos (this.mpr q)]
                  · rw [if_neg q, if_neg (fun z => q (this.mp z))]
          · rintro σ H' ⟨ul, v3, rfl, s14, hb14, hp14, hul⟩
            rw [List.length_map, List.take_length] at hul
            refine ⟨_, rfl, o, _, _, _, rfl, s14.at_.obj, X.cl, X.n_first, (by show 9 < 1000; omega), ?_⟩
            have s15 : Sg K o g H (g1.lay nn t p q p9 (g1.pls ++ [V.int g1.made]) ul) _ := s14.fld (g1.made + 1) (g1.many + 1) p9 g1.rc (g1.pls ++ [V.int g1.made]) g1.rcs .non s14.at_.hpl s14.at_.hrc
            change Ends.nx _ _ (upd H' o (.ins (He.ga K "Classes") g1.dx (flds (.ref p9) (.int (g1.many + 1 : Nat)) (.ref g1.rc) (.int (g1.made + 1 : Nat)) (.ref g1.wa) (.ref g1.ro) (.ref g1.us) (.ref g1.ki) .non)))
            change Sg K o g H _ (upd H' o (.ins (He.ga K "Classes") g1.dx (flds (.ref p9) (.int (g1.many + 1 : Nat)) (.ref g1.rc) (.int (g1.made + 1 : Nat)) (.ref g1.wa) (.ref g1.ro) (.ref g1.us) (.ref g1.ki) .non))) at s15
            generalize hh : upd H' o _ = H16 at s15 ⊢
            have hb16 : H16 b = some (.tup (nn.key.map kV)) := by rw [← hh, upd_ne (ne_of hb14 s14.at_.obj (fun z => nomatch z))]; exact hb14
            clear hh
            obtain ⟨gd2, le2, fd2⟩ := gd1.lay (p := p) (q := q) (pl := p9) (ul := ul) hnd hl (hS t t.self_under) pls
              (fun c hc => by rw [hul c (List.mem_append_left _ hc), ov_ne (low c hc)])
              (by rw [hul g1.made (by simp), ov_same, if_neg (fun z => fresh (idl _ z))])
            refine ⟨_, rfl, o, _, _, _, _, rfl, s15.at_.obj, X.cl, X.n_where, lk_where .., _, rfl, g1.wa, _, rfl, ?_, hQ H16 _ g1.made s15 gd2 (le1.trans le2) fd2 (by show g1.made + 1 ≤ _; omega) hrc⟩
            have := DGet.t s15.at_.wh hb16
            rw [val_w, show look (g1.lay nn t p q p9 (g1.pls ++ [V.int g1.made]) ul).ws nn = some g1.made from (look_app hl).trans (if_pos rfl)] at this
            exact this
      refine ⟨_, pss_cons (ps_set (i := 2) sc_laid.nd rfl (Or.inl rfl) (pv 1))
        (pss_cons (ps_if (pt_cmpR (op_neD hr.units) (pe_d D1 hr (by rfl) (pa_cons (pv 1) pa_nil)) (pe_tup pa_nil) (nomark _))
          (pss_one (ps_set (i := 2) sc_laid.nd rfl (Or.inl rfl) (pe_tup (pa_cons (pe_ix ix_tup (pv 1) pe_int (fun _ _ => rfl)) (StX.pa_star (pe_lc (own := [("part", 3)]) (g := gName 3) (tt := tYes) rfl sc_laid.nd (pi_tup (pe_slice sl_tup (pv 1) (po_some pe_int) po_none))
            (blkOk_by (own := [("part", 3)]) (N := ["self", "term", "node", "part", "place"]) (sc := defScope m__laid) (by decide +kernel))
            (fun _ _ _ _ _ => pg_name (i := 3) sc_laid.nd rfl (Or.inl rfl)) (fun _ _ _ _ _ => pts_nil) (fun _ _ _ _ _ => pe_m D X.cl hr (pv 0) (pa_cons (pv 3) pa_nil))) pa_nil))))) pss_nil) hrest), ?_⟩
      obtain ⟨a, us, rfl, ha, hp⟩ := TmAt.iff.mp ht
      have leafc : ∀ i, t.hd = .lf i → us = [] := fun i e => by
        have e0 : t = .lf i := by
          cases t <;> simp only [T.hd, Hd.lf.injEq, reduceCtorEq] at e
          rw [e]
        subst e0
        cases hp
        rfl
      refine ⟨_, rfl, _, rfl, a, t.hd, us, rfl, ha, leafc, fun p hp' => ⟨(by show 0 ≤ sizeLine; decide), fun q hq => ?_⟩⟩
      have q1 : Same H (upd (upd H p (.tup us)) q (.tup [])) := Same.trans (Same.upd hp') (Same.upd hq)
      have pq : upd (upd H p (.tup us)) q (.tup []) p = some (.tup us) := Same.upd hq _ _ upd_same
      refine ⟨.tuple (t.parts.map enc), .tuple [], .tup (SqT.of pq) (dp_all (Paired.imp (fun _ _ z => TmAt.keep (.of q1) z) hp)), .tup (SqT.of upd_same) .nil, parts_shaped (fun x hx => by have := T.depth_part hx; omega), by decide +kernel, _, rfl, ?_⟩
      rw [eqv_empty]
      have s1 := (Sg.refl h1).same q1
      generalize upd (upd H p (.tup us)) q (.tup []) = H1 at q1 s1 ⊢
      have ha1 := q1 _ _ ha
      by_cases hl : ∃ i, t = .lf i
      · obtain ⟨i, rfl⟩ := hl
        cases hp
        refine iteF (fin H1 g a (.lf i) s1 h2 (.refl _) rfl ?_ ?_ rfl)
        · rw [N.key_map, ha1]; rfl
        · exact Nat.le_refl _
      · have hne : ∃ l ids0, t.hd = .nd l ∧ t.parts = ids0 ∧ t.parts ≠ [] := by
          cases t with
          | lf i => exact absurd ⟨i, rfl⟩ hl
          | un l x => exact ⟨l, _, rfl, rfl, by simp [T.parts]⟩
          | bin l x y => exact ⟨l, _, rfl, rfl, by simp [T.parts]⟩
          | ter l x y z => exact ⟨l, _, rfl, rfl, by simp [T.parts]⟩
        obtain ⟨l, _, e1, _, e2⟩ := hne
        have e3 : (!(t.parts.map enc).isEmpty) = true := by
          cases e : t.parts with
          | nil => exact absurd e e2
          | cons => rfl
        rw [e3]
        have ha2 : H a = some (.tup (.str l.str :: us)) := by rw [ha, e1]; rfl
        have ha3 := q1 _ _ ha2
        have lu := Paired.len hp
        have l3 : us.length ≤ 3 := by rw [← lu]; exact parts3 t
        refine iteT ⟨_, rfl, a, _, 0, _, rfl, rfl, SqT.of ha3, atI_nat (j := 0) rfl, _, rfl, 1, rfl, a, _, rfl, SqT.of ha3, cut1_ne _ _, fun r hr' => ?_⟩
        rw [cut1]
        have s2 := s1.same (Same.upd hr' (o := .tup us))
        have q2 : Same H (upd H1 r (.tup us)) := Same.trans q1 (Same.upd hr')
        have hr2 : upd H1 r (.tup us) r = some (.tup us) := upd_same
        generalize upd H1 r (.tup us) = H2 at s2 q2 hr2 ⊢
        have szp : ∀ i, ((t.parts.take (i + 1)).map T.size).sum ≤ (t.parts.map T.size).sum := fun i => by
          have : t.parts.map T.size = (t.parts.take (i + 1)).map T.size ++ (t.parts.drop (i + 1)).map T.size := by rw [← List.map_append, List.take_append_drop]
          rw [this, List.sum_append]
          omega
        have tsz := T.size_parts t
        refine ⟨r, rfl, ⟨_, SqT.of hr2⟩, fun D' hD => lc_tup (K := K) (a := r) (xs := us) (fun i H3 => ∃ g3 ids, Sg K o g H g3 H3 ∧ Good S R g3 ∧ Le id (look g.ws) (look g3.ws) ∧ g3.rcs = g.rcs ∧ (t.parts.take i).map (find (look g3.ws)) = ids.map some ∧
            H3 D' = some (.lst (ids.map fun j : Nat => V.int (j : Int))) ∧ g3.made ≤ g.made + ((t.parts.take i).map T.size).sum ∧ H3 r = some (.tup us))
          ⟨g, [], s2.same (Same.upd hD), h2, .refl _, rfl, by simp, upd_same, by simp, Same.upd hD _ _ hr2⟩ (fun i H3 _ ⟨_, _, _, _, _, _, _, _, _, h⟩ => SqT.of h) ?_ ?_⟩
        · rintro i x H3 hx ⟨g3, ids, s3, gd3, le3, rc3, hf3, hD3, hm3, hr3⟩
          obtain ⟨t', ht', tx⟩ := Paired.get hp hx
          have mp : t' ∈ t.parts := List.mem_of_getElem? ht'
          have tk := take_snoc ht'
          have sz1 := szp i
          rw [tk, List.map_append, List.sum_append] at sz1
          have sz2 : ([t'].map T.size).sum = t'.size := by simp
          have dn : H D' = none := Same.none q2 hD
          refine ⟨rfl, _, rfl, o, g3.dx, g3.fs, rfl, s3.at_.obj, rfl, _, rfl, o, g3, t', x, rfl, s3.at_, gd3, tx.keep (s3.tups h1), ((T.ok_iff t).mp hk).2 t' mp, ?_, ?_, fun u hu' => hS u (T.under_part mp u hu'), ?_, fun H4 g4 j s4 gd4 le4 f4 m4 rc4 => ?_⟩
          · have := T.depth_part mp; omega
          · have := T.depth_part mp; omega
          · omega
          · have hD4 : H4 D' = some (.lst (ids.map fun j : Nat => V.int (j : Int))) := s4.fr.keep _ _ (s3.at_.notlst hD3) hD3
            have hr4 : H4 r = some (.tup us) := s4.tups s3.at_ _ _ hr3
            refine ⟨_, hD4, ?_, g4, ids ++ [j], ?_, gd4, le3.trans le4, rc4.trans rc3, ?_, ?_, ?_, ?_⟩
            · have : ids.length = (t.parts.take i).length := by
                have := congrArg List.length hf3
                simpa using this.symm
              rw [List.length_map, this]
              exact size6 (by rw [List.length_take]; omega)
            · exact (s3.trans s4).scratch dn (s4.at_.notlst hD4) fun xs z => by rw [hD4] at z; cases z
            · rw [tk, List.map_append, List.map_append]
              congr 1
              · have : ids.map some = (ids.map id).map some := by rw [List.map_id]
                rw [this]
                exact Le.parts (fun p _ k e => le4.find p k e) hf3
              · show [find (look g4.ws) t'] = [some j]
                rw [f4]
            · rw [upd_same, List.map_append]; rfl
            · rw [tk, List.map_append, List.sum_append]; omega
            · rw [upd_ne (fun z => by rw [z, hD4] at hr4; cases hr4)]; exact hr4
        · rintro H3 ⟨g3, ids, s3, gd3, le3, rc3, hf3, hD3, hm3, hr3⟩
          rw [← lu, List.take_length] at hf3 hm3
          have il : ids.length ≤ 3 := by
            have := congrArg List.length hf3
            rw [List.length_map, List.length_map] at this
            omega
          refine ⟨D', _, rfl, .inr (SqL.of hD3), ?_, fun b hb => ?_⟩
          · show (V.str l.str :: ((ids.map fun j : Nat => V.int (j : Int)) ++ [])).length ≤ sizeLine
            rw [List.length_cons, List.length_append, List.length_map]
            exact Nat.le_of_lt (size6 (by simp; omega))
          · have s4 := s3.same (Same.upd hb (o := .tup (.str l.str :: ((ids.map fun j : Nat => V.int (j : Int)) ++ []))))
            refine fin _ g3 b (.nd l ids) s4 gd3 le3 (nd_iff.mpr ⟨e1.symm, hf3⟩) ?_ (by omega) rc3
            rw [N.key_map, upd_same, List.append_nil]
            rfl
  intro n
  induction n with
  | zero => exact step 0 (.inl rfl)
  | succ m ih => exact step (m + 1) (.inr ⟨m, rfl, ih⟩)
end K45
/-! part K45L2 -/
set_option autoImplicit true
set_option Elab.async false
set_option linter.all false
set_option maxRecDepth 100000
set_option maxHeartbeats 4000000
/-! Walks: put, _told. -/
namespace K45
open PySem PySem.Spec PyProof.Rows L2
variable {P : Program} {w : World} {K : PySem.W.Frag} {mg : Str → Option Value} {base : Heap}
theorem sc_put : FnScope ["self", "term"] ["self", "term"] (defScope m_put) := ⟨rfl, rfl, rfl, by decide +kernel, rfl, by decide +kernel, by decide +kernel⟩
theorem ok_put (X : Fx P w K mg base) (S : List T) (R : T → T → Prop) (n : Nat) : OkE P w K mg base "put" ["self", "term"] (n + 6) (sp_laid K S R n) := by
  obtain ⟨fd, F⟩ := X.fn 35 (d := dm_put) rfl
  obtain ⟨_, _, D1⟩ := ok_laid X S R n
  obtain ⟨f2, fd2, ds, D2⟩ := ok_need X n
  refine ⟨_, fd, X.m_put, F.bindsN fun _ _ _ _ _ _ us hl => match us, hl with | [_, _], _ => rfl, okN F sc_put (fun vs H Q E h => ?_) (fun cdv A outer s H vs Q E hr h => ?_)⟩
  · obtain ⟨o, _, _, _, rfl, _⟩ := h
    rfl
  · obtain ⟨o, g, t, v, rfl, h1, h2, ht, hk, hd, hd5, hS, hm, hQ⟩ := h
    refine ⟨_, pss_one (ps_ret (pe_m D1 X.cl hr (pv 0) (pa_cons (pe_d D2.two hr (by rfl) (pa_cons (pv 1) (pa_cons pe_str pa_nil))) pa_nil))), ?_⟩
    refine ⟨_, rfl, o, g.dx, g.fs, rfl, h1.obj, rfl, _, rfl, t, v, _, rfl, ht, hk, hd, fun H1 u s1 hu => ?_⟩
    exact ⟨o, g, t, u, rfl, h1.same s1, h2, hu, hk, hd, hd5, hS, hm, fun H' g' i s2 a b c d e => hQ H' g' i (((Sg.refl h1).same s1).trans s2) a b c d e⟩
/-! _told -/
def PairAt (H : Hp) (p : Nat × Nat) (v : V) : Prop := ∃ b, v = .ref b ∧ H b = some (.tup [.int p.1, .int p.2])
theorem PairAt.keep {H H' : Hp} (h : Tups H H') {p : Nat × Nat} {v : V} (x : PairAt H p v) : PairAt H' p v := by
  obtain ⟨b, e, q⟩ := x
  exact ⟨b, e, h _ _ q⟩
def sp_told (K : PySem.W.Frag) : Sp := fun vs H Q _ => ∃ (o : Addr) (g : G) (low high : Nat), vs = [.ref o, .int (high : Int), .int (low : Int)] ∧ At K o g H ∧ Goo g ∧ g.made ≤ 2000 ∧ low ∈ g.liveR ∧ high ∈ g.liveR ∧ low ≠ high ∧
  ∀ H' g1 p fd ps, Sg K o g H g1 H' → TI g low high (g.ul high) (g.ul high).length fd g1 → H p = none → H' p = some (.lst ps) → Paired (PairAt H') fd ps → Q (.ref p) H'
/-- what stays through a turn of _told -/
structure Wt (K : PySem.W.Frag) (o : Addr) (g : G) (H : Hp) (p b : Addr) (m : N) (fd : List (Nat × Nat)) (ps : List V) (H1 : Hp) (gx : G) (H' : Hp) : Prop where
  sg : Sg K o g H gx H'
  hb : H' b = some (.tup (m.key.map kV))
  hp : H' p = some (.lst ps)
  pr : Paired (PairAt H') fd ps
  ls : ∀ c xs, H c = none → c ≠ p → H1 c = some (.lst xs) → H' c = some (.lst xs)
section
variable {o : Addr} {g gx gy : G} {H H1 H' H'' : Hp} {p b : Addr} {m : N} {fd : List (Nat × Nat)} {ps : List V} {a : Addr} {x : HO}
theorem Wt.step (w : Wt K o g H p b m fd ps H1 gx H') (s : Sg K o g H gy H'') (k : ∀ c u, H' c = some u → ((∃ xs, u = .tup xs) ∨ ∃ xs, u = .lst xs) → H'' c = some u) : Wt K o g H p b m fd ps H1 gy H'' :=
  ⟨s, k _ _ w.hb (.inl ⟨_, rfl⟩), k _ _ w.hp (.inr ⟨_, rfl⟩), Paired.imp (fun _ _ z => PairAt.keep (fun c xs e => k c _ e (.inl ⟨xs, rfl⟩)) z) w.pr, fun c xs h1 h2 h3 => k _ _ (w.ls c xs h1 h2 h3) (.inr ⟨_, rfl⟩)⟩
theorem Wt.same (w : Wt K o g H p b m fd ps H1 gx H') (t : Same H' H'') : Wt K o g H p b m fd ps H1 gx H'' := w.step (w.sg.same t) fun c u e _ => t c u e
theorem Wt.foot (w : Wt K o g H p b m fd ps H1 gx H') (ha : foot o gx a) (s : Sg K o g H gy (upd H' a x)) : Wt K o g H p b m fd ps H1 gy (upd H' a x) := w.step s fun c u e h => by
  rw [upd_ne (fun z => ?_)]; exact e
  subst z
  rcases h with ⟨xs, rfl⟩ | ⟨xs, rfl⟩
  · obtain ⟨u, h1, h2⟩ := foot.some w.sg.at_ ha
    rw [e] at h1
    exact h2 xs (Option.some.inj h1).symm
  · exact w.sg.at_.notlst e ha
end
abbrev tN : List Str := ["self", "high", "low", "found", "node", "place", "part", "new"]
theorem sc_told : FnScope tN ["self", "high", "low"] (defScope m__told) := ⟨rfl, rfl, rfl, by decide +kernel, rfl, by decide +kernel, by decide +kernel⟩
theorem ok_told (X : Fx P w K mg base) : OkE P w K mg base "_told" ["self", "high", "low"] 1 (sp_told K) := by
  obtain ⟨fd, F⟩ := X.fn 36 (d := dm__told) rfl
  refine ⟨_, fd, X.m__told, F.bindsN fun _ _ _ _ _ _ us hl => match us, hl with | [_, _, _], _ => rfl, okN F sc_told (fun vs H Q E h => ?_) (fun cdv A outer s H vs Q E hr h => ?_)⟩
  · obtain ⟨o, _, _, _, rfl, _⟩ := h
    rfl
  · obtain ⟨o, g, low, high, rfl, h1, h2, hm, hlow, hhigh, hlh, hQ⟩ := h
    have hu := hu_of hr
    obtain ⟨t2, hrest, fin⟩ : ∃ t2, PSs (cxOf CX0 P w K mg base tN "Classes._told" (defScope m__told) (He.fAd K dm__told.at_) cdv A outer s H E).nox
        (match defBody m__told with | [_, .For _ _ b _ _, _] => b | _ => []) t2 ∧ ∀ (H1 : Hp) (g1 : G) (i : Nat) (fd : List (Nat × Nat)) (m : N) (b p : Addr) (ps : List V) (v4 v5 v6 v7 : Option V) (D : Ends),
            Sg K o g H g1 H1 → TI g low high (g.ul high) i fd g1 → (g.ul high)[i]? = some m → H1 b = some (.tup (m.key.map kV)) → H p = none → H1 p = some (.lst ps) → Paired (PairAt H1) fd ps →
            (∀ H2 g2 fd2 ps2 v5 v6 v7, Sg K o g H g2 H2 → TI g low high (g.ul high) (i + 1) fd2 g2 → H2 p = some (.lst ps2) → Paired (PairAt H2) fd2 ps2 → (∀ c xs, H c = none → c ≠ p → H1 c = some (.lst xs) → H2 c = some (.lst xs)) →
              D.nx [some (.ref o), some (.int high), some (.int low), some (.ref p), some (.ref b), v5, v6, v7] H2) →
            t2 D [some (.ref o), some (.int high), some (.int low), some (.ref p), some (.ref b), v5, v6, v7] H1 := by
      refine ⟨_, pss_cons (ps_set (i := 5) sc_told.nd rfl (Or.inl rfl) (pe_bm PySem.F.plainAttrs_dict PySem.F.slot_dict_pop PySem.F.type_dict_pop (mt_popT1 hu) (pe_fld (pv 0) (by rfl)) (pa_cons (pv 4) pa_nil)))
        (pss_cons (ps_expr (pe_bm PySem.F.plainAttrs_dict PySem.F.slot_dict_pop PySem.F.type_dict_pop (mt_popT1 hu) (pe_dget hu (pe_fld (pv 0) (by rfl)) (pv 5) (fun _ _ => rfl)) (pa_cons (pv 4) pa_nil)))
        (pss_cons (ps_for PassesOwn.never rfl (pi_tup (pe_slice sl_tup (pv 4) (po_some pe_int) po_none)) (pg_name (i := 6) sc_told.nd rfl (Or.inl rfl))
          (pss_one (ps_if (pt_cmpR op_ne (pv 6) (pv 1) (nomark _)) (pss_one (ps_expr (pe_bm PySem.F.plainAttrs_dict PySem.F.slot_dict_pop PySem.F.type_dict_pop (DX.mt_popT hu) (pe_dget hu (pe_fld (pv 0) (by rfl)) (pv 6) (fun _ _ => rfl)) (pa_cons (pv 4) (pa_cons pe_non pa_nil))))) pss_nil)))
        (pss_cons (ps_set (i := 7) sc_told.nd rfl (Or.inl rfl) (pe_tup (pa_cons (pe_ix ix_tup (pv 4) pe_int (fun _ _ => rfl)) (StX.pa_star (pe_lc (own := [("part", 6)]) (g := gName 6) (tt := tYes) rfl sc_told.nd (pi_tup (pe_slice sl_tup (pv 4) (po_some pe_int) po_none))
            (blkOk_by (own := [("part", 6)]) (N := tN) (sc := defScope m__told) (by decide +kernel))
            (fun _ _ _ _ _ => pg_name (i := 6) sc_told.nd rfl (Or.inl rfl)) (fun _ _ _ _ _ => pts_nil) (fun _ _ _ _ _ => pe_ifExp (pt_cmpR op_eq (pv 6) (pv 1) (nomark _)) (pv 2) (pv 6))) pa_nil))))
        (pss_one (ps_if (pt_cmp (pc_din hu (pv 7) (pe_fld (pv 0) (by rfl))))
          (pss_one (ps_expr (pe_bm PySem.F.plainAttrs_list PySem.F.slot_list_append PySem.F.type_list_append mt_append (pv 3) (pa_cons (pe_tup (pa_cons (pv 5) (pa_cons (pe_dget hu (pe_fld (pv 0) (by rfl)) (pv 7) (fun _ _ => rfl)) pa_nil))) pa_nil))))
          (pss_cons (ps_dput hu (pe_fld (pv 0) (by rfl)) (pv 7) (pv 5) (by rfl))
          (pss_cons (ps_dput hu (pe_dget hu (pe_fld (pv 0) (by rfl)) (pv 5) (fun _ _ => rfl)) (pv 7) pe_bl (by rfl))
          (pss_one (ps_for PassesOwn.never rfl (pi_tup (pe_slice sl_tup (pv 7) (po_some pe_int) po_none)) (pg_name (i := 6) sc_told.nd rfl (Or.inl rfl))
            (pss_one (ps_dput hu (pe_dget hu (pe_fld (pv 0) (by rfl)) (pv 6) (fun _ _ => rfl)) (pv 7) pe_bl (by rfl)))))))))))), ?_⟩
      intro H1 g1 i fd m b p ps v4 v5 v6 v7 D s1 t hi hb hpn hp hpr hk
      have ml : m ∈ g.ul high := List.mem_of_getElem? hi
      obtain ⟨mh, c0, hc0⟩ := (h2.use high hhigh m).mp ml
      have hL : ∀ m ∈ g.ul high, high ∈ m.ids := fun m hm => ((h2.use high hhigh m).mp hm).1
      have nL := h2.und high hhigh
      have hc1 := t.old m c0 hc0 (nodup_take nL hi)
      obtain ⟨c0l, idl, id3⟩ := h2.pla m c0 hc0
      have c0R : c0 ∈ g1.liveR := by rw [t.lr]; exact c0l
      have wl : g1.ws.length ≤ 2000 := by have := t.len; have := h2.cnt; omega
      have sz : ∀ {n : Nat}, n ≤ 5000 → n < sizeLine := fun h => Nat.lt_of_le_of_lt h (by decide)
      obtain ⟨l, ids, rfl⟩ : ∃ l ids, m = .nd l ids := by
        cases m with
        | lf i => exact absurd mh (by simp [N.ids])
        | nd l ids => exact ⟨l, ids, rfl⟩
      have w1 : Wt K o g H p b (.nd l ids) fd ps H1 g1 H1 := ⟨s1, hb, hp, hpr, fun _ _ _ _ e => e⟩
      -- out of _where
      refine ⟨_, rfl, o, _, _, _, _, rfl, s1.at_.obj, X.cl, X.n_where, lk_where .., .inr (.inr (.inl ⟨rfl, .inr ⟨_, s1.at_.wh⟩⟩)), _, rfl, g1.wa, _, (N.nd l ids).key, b, _, rfl, rfl, s1.at_.wh, hb, (val_w ..).trans (by rw [look_of t.nd hc1]; rfl), ?_⟩
      rw [drop_w]
      have s2 : Sg K o g H { g1 with ws := cut g1.ws (.nd l ids) } _ := s1.setW (cut g1.ws (.nd l ids))
      have w2 := w1.foot (.inr (.inl rfl)) s2
      change tSeq _ _ _ _ (upd H1 g1.wa (.dT ((cut g1.ws (.nd l ids)).map wE)))
      generalize upd H1 g1.wa (.dT ((cut g1.ws (.nd l ids)).map wE)) = H2 at s2 w2 ⊢
      -- out of its row
      refine ⟨_, rfl, o, _, _, _, _, rfl, s2.at_.obj, X.cl, X.n_rows, lk_rows .., _, rfl, g1.ro, .ref (g1.ra c0), rfl, ?_, .inr (.inr (.inl ⟨rfl, .inr ⟨_, s2.at_.row c0 c0R⟩⟩)), _, rfl, g1.ra c0, _, (N.nd l ids).key, b, _, rfl, rfl, s2.at_.row c0 c0R, w2.hb, (val_u ..).trans (if_pos ((t.row c0 c0l _).mpr hc1)), ?_⟩
      · have := DGet.k (k := idK c0) s2.at_.rows
        rw [val_i (f := fun d => V.ref (g1.ra d)), if_pos c0R] at this
        exact this
      rw [drop_u]
      have s3 : Sg K o g H { g1 with ws := cut g1.ws (.nd l ids), rl := ov g1.rl c0 (del (.nd l ids) (g1.rl c0)) } _ := s2.setRow c0R (del (.nd l ids) (g1.rl c0))
      have w3 := w2.foot (.inr (.inr (.inr (.inr (.inr (.inl ⟨c0, c0R, rfl⟩)))))) s3
      change tSeq _ _ _ _ (upd H2 (g1.ra c0) (.dT ((del (.nd l ids) (g1.rl c0)).map uE)))
      change Wt K o g H p b (.nd l ids) fd ps H1 _ (upd H2 (g1.ra c0) (.dT ((del (.nd l ids) (g1.rl c0)).map uE))) at w3
      clear s3
      generalize upd H2 (g1.ra c0) (.dT ((del (.nd l ids) (g1.rl c0)).map uE)) = H3 at w3 ⊢
      -- out of the uses
      have kx : (N.nd l ids).key.map kV = .str l.str :: (ids.map fun j : Nat => V.int (j : Int)) := by rw [N.key_map]; rfl
      refine ⟨_, rfl, 1, rfl, b, _, rfl, SqT.of w3.hb, by rw [kx]; exact cut1_ne _ _, fun r hr' => ?_⟩
      rw [kx, cut1]
      have w4 := w3.same (Same.upd hr' (o := .tup (ids.map fun j : Nat => V.int (j : Int))))
      have hr4 : upd H3 r (.tup (ids.map fun j : Nat => V.int (j : Int))) r = some (.tup (ids.map fun j : Nat => V.int (j : Int))) := upd_same
      generalize upd H3 r (.tup (ids.map fun j : Nat => V.int (j : Int))) = H4 at w4 hr4 ⊢
      refine ⟨r, rfl, ⟨_, SqT.of hr4⟩, for_tup (K := K) (a := r) (xs := ids.map fun j : Nat => V.int (j : Int)) (fun j σ H' => ∃ ul v6, σ = [some (.ref o), some (.int high), some (.int low), some (.ref p), some (.ref b), some (.int c0), v6, v7] ∧
          Wt K o g H p b (.nd l ids) fd ps H1 ({ g1 with ws := cut g1.ws (.nd l ids), rl := ov g1.rl c0 (del (.nd l ids) (g1.rl c0)), ul := ul }) H' ∧ H' r = some (.tup (ids.map fun j : Nat => V.int (j : Int))) ∧ ∀ d ∈ g.liveR, d ≠ high → ul d = if d ∈ ids.take j then del (.nd l ids) (g1.ul d) else g1.ul d)
        ⟨g1.ul, v6, rfl, w4, hr4, fun d _ _ => by simp⟩ (fun i σ H' _ ⟨_, _, _, _, h, _⟩ => SqT.of h) ?_ ?_⟩
      · rintro j x σ H' hx ⟨ul, v6, rfl, w5, hr5, hul⟩
        rw [List.getElem?_map] at hx
        obtain ⟨d, hd, rfl⟩ := Option.map_eq_some_iff.mp hx
        have dl := idl d (List.mem_of_getElem? hd)
        have tk := take_snoc hd
        refine ⟨_, rfl, _, rfl, rfl, _, rfl, ?_⟩
        by_cases e : d = high
        · rw [show (!decide (V.int (d : Int) = V.int (high : Int))) = false by rw [e]; simp]
          refine iteF ⟨ul, _, rfl, w5, hr5, fun c hc ch => ?_⟩
          rw [hul c hc ch, tk]
          have : (c ∈ ids.take j ++ [d]) ↔ c ∈ ids.take j := by simp; exact fun z => absurd (z.trans e) ch
          by_cases q : c ∈ ids.take j
          · rw [if_pos q, if_pos (this.mpr q)]
          · rw [if_neg q, if_neg (fun z => q (this.mp z))]
        · have ne : ¬ (V.int (d : Int) = V.int (high : Int)) := fun z => e (by have := V.int.inj z; omega)
          rw [show (!decide (V.int (d : Int) = V.int (high : Int))) = true by rw [decide_eq_false ne]; rfl]
          have dU : d ∈ g1.liveU := by rw [t.lu]; exact mem_out.mpr ⟨dl, e⟩
          have next : ∀ H'' l', Wt K o g H p b (.nd l ids) fd ps H1 ({ g1 with ws := cut g1.ws (.nd l ids), rl := ov g1.rl c0 (del (.nd l ids) (g1.rl c0)), ul := ov ul d l' }) H'' → H'' r = some (.tup (ids.map fun j : Nat => V.int (j : Int))) → l' = del (.nd l ids) (ul d) →
              ∃ ul2 v6, [some (.ref o), some (.int high), some (.int low), some (.ref p), some (.ref b), some (.int c0), some (.int d), v7] = [some (.ref o), some (.int high), some (.int low), some (.ref p), some (.ref b), some (.int c0), v6, v7] ∧
              Wt K o g H p b (.nd l ids) fd ps H1 ({ g1 with ws := cut g1.ws (.nd l ids), rl := ov g1.rl c0 (del (.nd l ids) (g1.rl c0)), ul := ul2 }) H'' ∧ H'' r = some (.tup (ids.map fun j : Nat => V.int (j : Int))) ∧ ∀ d ∈ g.liveR, d ≠ high → ul2 d = if d ∈ ids.take (j + 1) then del (.nd l ids) (g1.ul d) else g1.ul d := by
            intro H'' l' w6 hr6 el
            refine ⟨ov ul d l', _, rfl, w6, hr6, fun c hc ch => ?_⟩
            rw [tk]
            by_cases q : c = d
            · subst q
              rw [ov_same, el, if_pos (by simp), hul c hc ch]
              split
              · rw [del_no (fun z => (mem_del.mp z).2 rfl)]
              · rfl
            · rw [ov_ne q, hul c hc ch]
              have : (c ∈ ids.take j ++ [d]) ↔ c ∈ ids.take j := by simp [q]
              by_cases z : c ∈ ids.take j
              · rw [if_pos z, if_pos (this.mpr z)]
              · rw [if_neg z, if_neg (fun y => z (this.mp y))]
          refine iteT ⟨_, rfl, o, _, _, _, _, rfl, w5.sg.at_.obj, X.cl, X.n_uses, lk_uses .., _, rfl, g1.us, .ref (g1.ua d), rfl, ?_, .inr (.inr (.inl ⟨rfl, .inr ⟨_, w5.sg.at_.use d dU⟩⟩)), _, rfl, g1.ua d, _, (N.nd l ids).key, b, _, rfl, rfl, w5.sg.at_.use d dU, w5.hb, fun v hv => ?_, fun hv => ?_⟩
          · have := DGet.k (k := idK d) w5.sg.at_.uses
            rw [val_i (f := fun d => V.ref (g1.ua d)), if_pos dU] at this
            exact this
          · rw [drop_u]
            have s6 := w5.sg.setUse dU (del (.nd l ids) (ul d))
            refine next _ _ (w5.foot (.inr (.inr (.inr (.inr (.inr (.inr ⟨d, dU, rfl⟩)))))) s6) ?_ rfl
            rw [upd_ne (ne_of hr5 (w5.sg.at_.use d dU) (fun z => nomatch z))]; exact hr5
          · have hv : valV ((ul d).map uE) (N.nd l ids).key = none := hv
            rw [val_u] at hv
            have hno : N.nd l ids ∉ ul d := fun z => by rw [if_pos z] at hv; cases hv
            refine next _ (ul d) (w5.step (w5.sg.ulC fun c _ => ?_) fun _ _ e _ => e) hr5 (del_no hno).symm
            by_cases z : c = d
            · subst z; rw [ov_same]
            · rw [ov_ne z]
      rintro σ H' ⟨ul, v6, rfl, w5, _, hul⟩
      rw [List.length_map, List.take_length] at hul
      clear w4 hr4 w3 w2 s2
      -- the new node
      refine ⟨_, rfl, b, _, 0, _, rfl, rfl, SqT.of w5.hb, by rw [kx]; exact atI_nat (j := 0) rfl, _, rfl, 1, rfl, b, _, rfl, SqT.of w5.hb, by rw [kx]; exact cut1_ne _ _, fun r hr' => ?_⟩
      rw [kx, cut1]
      have w6 := w5.same (Same.upd hr' (o := .tup (ids.map fun j : Nat => V.int (j : Int))))
      have hr4 : upd H' r (.tup (ids.map fun j : Nat => V.int (j : Int))) r = some (.tup (ids.map fun j : Nat => V.int (j : Int))) := upd_same
      generalize upd H' r (.tup (ids.map fun j : Nat => V.int (j : Int))) = H6 at w6 hr4 ⊢
      clear w5
      refine ⟨r, rfl, ⟨_, SqT.of hr4⟩, fun D' hD => lc_tup (K := K) (a := r) (xs := ids.map fun j : Nat => V.int (j : Int)) (fun j H' => Same H6 H' ∧ H' D' = some (.lst ((ids.take j).map fun j : Nat => V.int (sg low high j : Nat))))
        ⟨Same.upd hD, by rw [upd_same]; simp⟩ (fun i H' _ ⟨h, _⟩ => SqT.of (h _ _ hr4)) ?_ ?_⟩
      · rintro j x H' hx ⟨s7, hD7⟩
        rw [List.getElem?_map] at hx
        obtain ⟨d, hd, rfl⟩ := Option.map_eq_some_iff.mp hx
        have tk := take_snoc hd
        have fin : ∃ acc, H' D' = some (.lst acc) ∧ acc.length < sizeLine ∧ (Same H6 (upd H' D' (.lst (acc ++ [V.int (sg low high d : Nat)]))) ∧ (upd H' D' (.lst (acc ++ [V.int (sg low high d : Nat)]))) D' = some (.lst ((ids.take (j + 1)).map fun j : Nat => V.int (sg low high j : Nat)))) := by
          refine ⟨_, hD7, ?_, fun c u e => ?_, ?_⟩
          · rw [List.length_map, List.length_take]
            have : ids.length ≤ 3 := id3
            exact size6 (by omega)
          · rw [upd_ne (ne_of_none e hD)]; exact s7 _ _ e
          · rw [upd_same, tk, List.map_append]; rfl
        refine ⟨rfl, _, rfl, _, rfl, rfl, _, rfl, ?_⟩
        by_cases e : d = high
        · rw [show decide (V.int (d : Int) = V.int (high : Int)) = true by rw [e]; simp]
          have : sg low high d = low := by rw [e]; exact if_pos rfl
          rw [this] at fin
          exact iteT ⟨_, rfl, fin⟩
        · have ne : ¬ (V.int (d : Int) = V.int (high : Int)) := fun z => e (by have := V.int.inj z; omega)
          rw [decide_eq_false ne]
          have : sg low high d = d := if_neg e
          rw [this] at fin
          exact iteF ⟨_, rfl, fin⟩
      rintro H' ⟨s7, hD7⟩
      rw [List.length_map, List.take_length] at hD7
      have w7 := w6.same s7
      clear w6 s7
      refine ⟨D', _, rfl, .inr (SqL.of hD7), ?_, fun nb hnb => ?_⟩
      · show (V.str l.str :: ((ids.map fun j : Nat => V.int (sg low high j : Nat)) ++ [])).length ≤ sizeLine
        rw [List.length_cons, List.length_append, List.length_map]
        have : ids.length ≤ 3 := id3
        exact Nat.le_of_lt (size6 (by simp; omega))
      have w8 := w7.same (Same.upd hnb (o := .tup (.str l.str :: ((ids.map fun j : Nat => V.int (sg low high j : Nat)) ++ []))))
      have hn8 : upd H' nb (.tup (.str l.str :: ((ids.map fun j : Nat => V.int (sg low high j : Nat)) ++ []))) nb = some (.tup (((N.nd l ids).map (sg low high)).key.map kV)) := by
        rw [upd_same, N.key_map, N.map_ids, N.map_hd, List.map_map, List.append_nil]; rfl
      change tSeq _ _ _ [some (.ref o), some (.int high), some (.int low), some (.ref p), some (.ref b), some (.int c0), v6, some (.ref nb)] (upd H' nb (.tup (.str l.str :: ((ids.map fun j : Nat => V.int (sg low high j : Nat)) ++ []))))
      generalize upd H' nb (.tup (.str l.str :: ((ids.map fun j : Nat => V.int (sg low high j : Nat)) ++ []))) = H8 at w8 hn8 ⊢
      clear w7
      have mapl : ∀ d ∈ ((N.nd l ids).map (sg low high)).ids, d ∈ g.liveR ∧ d ≠ high := fun d hd => by
        rw [N.map_ids] at hd
        obtain ⟨x, hx, rfl⟩ := List.mem_map.mp hd
        by_cases e : x = high
        · rw [e, sg_high]; exact ⟨hlow, hlh⟩
        · rw [sg_ne e]; exact ⟨idl x hx, e⟩
      refine ⟨_, rfl, _, rfl, o, _, _, _, _, rfl, w8.sg.at_.obj, X.cl, X.n_where, lk_where .., g1.wa, _, rfl, DGet.t w8.sg.at_.wh hn8, _, rfl, ?_⟩
      rw [val_w]
      cases hl : look (cut g1.ws (.nd l ids)) ((N.nd l ids).map (sg low high)) with
      | some c' =>
        have lps : ps.length = fd.length := (Paired.len w8.pr).symm
        have ltl : (g.ul high).length ≤ g.ws.length := nodup_len nL fun n hn => ((h2.use high hhigh n).mp hn).2
        have hil := (List.getElem?_eq_some_iff.mp hi).1
        have := t.fln
        have := h2.cnt
        refine iteT ⟨_, rfl, .inl ⟨rfl, _, SqL.of w8.hp⟩, _, rfl, _, rfl, o, _, _, _, _, rfl, w8.sg.at_.obj, X.cl, X.n_where, lk_where .., _, rfl, g1.wa, .int (c' : Int), rfl, ?_, (by show 2 ≤ sizeLine; decide), fun r2 hr2 => ?_⟩
        · have := DGet.t w8.sg.at_.wh hn8
          rw [val_w, hl] at this
          exact this
        have w9 := w8.same (Same.upd hr2 (o := .tup [.int c0, .int c']))
        have hr9 : upd H8 r2 (.tup [.int c0, .int c']) r2 = some (.tup [.int c0, .int c']) := upd_same
        refine ⟨p, ps, .ref r2, rfl, rfl, w9.hp, sz (by omega), ?_⟩
        change D.nx [some (.ref o), some (.int high), some (.int low), some (.ref p), some (.ref b), some (.int c0), v6, some (.ref nb)] (upd (upd H8 r2 (.tup [.int c0, .int c'])) p (.lst (ps ++ [.ref r2])))
        generalize upd H8 r2 (.tup [.int c0, .int c']) = H9 at w9 hr9 ⊢
        have tp : Tups H9 (upd H9 p (.lst (ps ++ [.ref r2]))) := Tups.upd fun xs e => by rw [w9.hp] at e; cases e
        refine hk _ _ (fd ++ [(c0, c')]) _ _ _ _ (w9.sg.scratch hpn (w9.sg.at_.notlst w9.hp) fun xs e => by rw [w9.hp] at e; cases e)
          (t.hit h2 hlh hL nL hi hc1 hl (rl := ov g1.rl c0 (del (.nd l ids) (g1.rl c0))) (ul := ul) (fun d _ => ?_) (fun d hd dh => hul d hd dh)) upd_same (Paired.snoc ⟨r2, rfl, tp _ _ hr9⟩ (Paired.imp (fun _ _ z => z.keep tp) w9.pr)) fun c xs h1 h2 h3 => ?_
        · by_cases e : d = c0
          · rw [if_pos e, e, ov_same]
          · rw [if_neg e, ov_ne e]
        · rw [upd_ne h2]
          exact w9.ls c xs h1 h2 h3
      | none =>
        refine iteF ⟨_, rfl, _, rfl, o, _, _, _, _, rfl, w8.sg.at_.obj, X.cl, X.n_where, lk_where .., _, rfl, g1.wa, _, rfl, DPut.t w8.sg.at_.wh hn8 (by rw [List.length_map]; exact sz (by show (cut g1.ws _).length ≤ _; have := cut_len hc1; omega)), ?_⟩
        rw [put_w _ hl]
        have s9 : Sg K o g H ({ g1 with ws := cut g1.ws (.nd l ids) ++ [((N.nd l ids).map (sg low high), c0)], rl := ov g1.rl c0 (del (.nd l ids) (g1.rl c0)), ul := ul }) _ := w8.sg.setW (cut g1.ws (.nd l ids) ++ [((N.nd l ids).map (sg low high), c0)])
        have w9 := w8.foot (.inr (.inl rfl)) s9
        have hn9 : upd H8 g1.wa (.dT ((cut g1.ws (.nd l ids) ++ [((N.nd l ids).map (sg low high), c0)]).map wE)) nb = some (.tup (((N.nd l ids).map (sg low high)).key.map kV)) := by
          rw [upd_ne (ne_of hn8 w8.sg.at_.wh (fun z => nomatch z))]; exact hn8
        change tSeq _ _ _ [some (.ref o), some (.int high), some (.int low), some (.ref p), some (.ref b), some (.int c0), v6, some (.ref nb)] (upd H8 g1.wa (.dT ((cut g1.ws (.nd l ids) ++ [((N.nd l ids).map (sg low high), c0)]).map wE)))
        change Wt K o g H p b (.nd l ids) fd ps H1 _ (upd H8 g1.wa (.dT ((cut g1.ws (.nd l ids) ++ [((N.nd l ids).map (sg low high), c0)]).map wE))) at w9
        clear s9
        generalize upd H8 g1.wa (.dT ((cut g1.ws (.nd l ids) ++ [((N.nd l ids).map (sg low high), c0)]).map wE)) = H9 at w9 hn9 ⊢
        clear w8 hn8
        have rlen : (ov g1.rl c0 (del (.nd l ids) (g1.rl c0)) c0).length ≤ 2000 := by
          rw [ov_same]
          have h1 : (g1.rl c0).length ≤ g1.ws.length := nodup_len (t.rnd c0 c0l) fun n hn => ⟨_, (t.row c0 c0l n).mp hn⟩
          have h2 : (del (.nd l ids) (g1.rl c0)).length ≤ (g1.rl c0).length := List.length_filter_le _ _
          omega
        refine ⟨_, rfl, o, _, _, _, _, rfl, w9.sg.at_.obj, X.cl, X.n_rows, lk_rows .., _, rfl, g1.ro, .ref (g1.ra c0), rfl, ?_, _, rfl, g1.ra c0, _, rfl, DPut.t (w9.sg.at_.row c0 c0R) hn9 (by rw [List.length_map]; exact sz (by show (ov g1.rl c0 (del (.nd l ids) (g1.rl c0)) c0).length ≤ _; omega)), ?_⟩
        · have := DGet.k (k := idK c0) w9.sg.at_.rows
          rw [val_i (f := fun d => V.ref (g1.ra d)), if_pos c0R] at this
          exact this
        rw [put_u]
        have s10 : Sg K o g H ({ g1 with ws := cut g1.ws (.nd l ids) ++ [((N.nd l ids).map (sg low high), c0)], rl := ov (ov g1.rl c0 (del (.nd l ids) (g1.rl c0))) c0 (ins ((N.nd l ids).map (sg low high)) (ov g1.rl c0 (del (.nd l ids) (g1.rl c0)) c0)), ul := ul }) _ := w9.sg.setRow c0R (ins ((N.nd l ids).map (sg low high)) (ov g1.rl c0 (del (.nd l ids) (g1.rl c0)) c0))
        have w10 := w9.foot (.inr (.inr (.inr (.inr (.inr (.inl ⟨c0, c0R, rfl⟩)))))) s10
        have hn10 : upd H9 (g1.ra c0) (.dT ((ins ((N.nd l ids).map (sg low high)) (ov g1.rl c0 (del (.nd l ids) (g1.rl c0)) c0)).map uE)) nb = some (.tup (((N.nd l ids).map (sg low high)).key.map kV)) := by
          rw [upd_ne (ne_of hn9 (w9.sg.at_.row c0 c0R) (fun z => nomatch z))]; exact hn9
        change Ends.nx _ [some (.ref o), some (.int high), some (.int low), some (.ref p), some (.ref b), some (.int c0), v6, some (.ref nb)] (upd H9 (g1.ra c0) (.dT ((ins ((N.nd l ids).map (sg low high)) (ov g1.rl c0 (del (.nd l ids) (g1.rl c0)) c0)).map uE)))
        change Wt K o g H p b (.nd l ids) fd ps H1 _ (upd H9 (g1.ra c0) (.dT ((ins ((N.nd l ids).map (sg low high)) (ov g1.rl c0 (del (.nd l ids) (g1.rl c0)) c0)).map uE))) at w10
        clear s10
        generalize upd H9 (g1.ra c0) (.dT ((ins ((N.nd l ids).map (sg low high)) (ov g1.rl c0 (del (.nd l ids) (g1.rl c0)) c0)).map uE)) = H10 at w10 hn10 ⊢
        clear w9 hn9
        have kx2 : ((N.nd l ids).map (sg low high)).key.map kV = .str l.str :: (((N.nd l ids).map (sg low high)).ids.map fun j : Nat => V.int (j : Int)) := by rw [N.key_map]; rfl
        refine ⟨_, rfl, 1, rfl, nb, _, rfl, SqT.of hn10, by rw [kx2]; exact cut1_ne _ _, fun r hr' => ?_⟩
        rw [kx2, cut1]
        have w11 := w10.same (Same.upd hr' (o := .tup (((N.nd l ids).map (sg low high)).ids.map fun j : Nat => V.int (j : Int))))
        have hr4 : upd H10 r (.tup (((N.nd l ids).map (sg low high)).ids.map fun j : Nat => V.int (j : Int))) r = some (.tup (((N.nd l ids).map (sg low high)).ids.map fun j : Nat => V.int (j : Int))) := upd_same
        have hn11 := Same.upd hr' (o := .tup (((N.nd l ids).map (sg low high)).ids.map fun j : Nat => V.int (j : Int))) _ _ hn10
        generalize upd H10 r (.tup (((N.nd l ids).map (sg low high)).ids.map fun j : Nat => V.int (j : Int))) = H11 at w11 hr4 hn11 ⊢
        clear w10 hn10
        refine ⟨r, rfl, ⟨_, SqT.of hr4⟩, for_tup (K := K) (a := r) (xs := ((N.nd l ids).map (sg low high)).ids.map fun j : Nat => V.int (j : Int)) (fun j σ H' => ∃ ul2 v6, σ = [some (.ref o), some (.int high), some (.int low), some (.ref p), some (.ref b), some (.int c0), v6, some (.ref nb)] ∧
            Wt K o g H p b (.nd l ids) fd ps H1 ({ g1 with ws := cut g1.ws (.nd l ids) ++ [((N.nd l ids).map (sg low high), c0)], rl := ov (ov g1.rl c0 (del (.nd l ids) (g1.rl c0))) c0 (ins ((N.nd l ids).map (sg low high)) (ov g1.rl c0 (del (.nd l ids) (g1.rl c0)) c0)), ul := ul2 }) H' ∧ H' r = some (.tup (((N.nd l ids).map (sg low high)).ids.map fun j : Nat => V.int (j : Int))) ∧ H' nb = some (.tup (((N.nd l ids).map (sg low high)).key.map kV)) ∧
            ∀ d ∈ g.liveR, d ≠ high → ul2 d = if d ∈ ((N.nd l ids).map (sg low high)).ids.take j then ins ((N.nd l ids).map (sg low high)) (ul d) else ul d)
          ⟨ul, v6, rfl, w11, hr4, hn11, fun d _ _ => by simp⟩ (fun i σ H' _ ⟨_, _, _, _, h, _⟩ => SqT.of h) ?_ ?_⟩
        · rintro j x σ H' hx ⟨ul2, v6, rfl, w12, hr12, hn12, hul2⟩
          rw [List.getElem?_map] at hx
          obtain ⟨d, hd, rfl⟩ := Option.map_eq_some_iff.mp hx
          obtain ⟨dl, dh⟩ := mapl d (List.mem_of_getElem? hd)
          have tk := take_snoc hd
          have dU : d ∈ g1.liveU := by rw [t.lu]; exact mem_out.mpr ⟨dl, dh⟩
          have ulen : (ul2 d).length ≤ 2001 := by
            have h1 : (g1.ul d).length ≤ g1.ws.length := nodup_len (t.und d dl dh) fun n hn => ((t.use d dl dh n).mp hn).2
            have h3 : (ul d).length ≤ (g1.ul d).length := by
              rw [hul d dl dh]
              split
              · exact List.length_filter_le _ _
              · exact Nat.le_refl _
            have h2 := ins_len ((N.nd l ids).map (sg low high)) (ul d)
            rw [hul2 d dl dh]
            split <;> omega
          refine ⟨_, rfl, o, _, _, _, _, rfl, w12.sg.at_.obj, X.cl, X.n_uses, lk_uses .., _, rfl, g1.us, .ref (g1.ua d), rfl, ?_, _, rfl, g1.ua d, _, rfl, DPut.t (w12.sg.at_.use d dU) hn12 (by rw [List.length_map]; exact sz (by show (ul2 d).length ≤ _; omega)), ?_⟩
          · have := DGet.k (k := idK d) w12.sg.at_.uses
            rw [val_i (f := fun d => V.ref (g1.ua d)), if_pos dU] at this
            exact this
          rw [put_u]
          have s13 := w12.sg.setUse dU (ins ((N.nd l ids).map (sg low high)) (ul2 d))
          refine ⟨ov ul2 d (ins ((N.nd l ids).map (sg low high)) (ul2 d)), _, rfl, w12.foot (.inr (.inr (.inr (.inr (.inr (.inr ⟨d, dU, rfl⟩)))))) s13, ?_, ?_, fun c hc ch => ?_⟩
          · rw [upd_ne (ne_of hr12 (w12.sg.at_.use d dU) (fun z => nomatch z))]; exact hr12
          · rw [upd_ne (ne_of hn12 (w12.sg.at_.use d dU) (fun z => nomatch z))]; exact hn12
          · rw [tk]
            by_cases q : c = d
            · subst q
              rw [ov_same, if_pos (by simp), hul2 c hc ch]
              split
              · rw [ins_ins]
              · rfl
            · rw [ov_ne q, hul2 c hc ch]
              have : (c ∈ ((N.nd l ids).map (sg low high)).ids.take j ++ [d]) ↔ c ∈ ((N.nd l ids).map (sg low high)).ids.take j := by simp [q]
              by_cases z : c ∈ ((N.nd l ids).map (sg low high)).ids.take j
              · rw [if_pos z, if_pos (this.mpr z)]
              · rw [if_neg z, if_neg (fun y => z (this.mp y))]
        · rintro σ H' ⟨ul2, v6, rfl, w12, _, _, hul2⟩
          rw [List.length_map, List.take_length] at hul2
          refine hk _ _ fd _ _ _ _ w12.sg (t.miss h2 hlh hL nL hi hc1 hl (rl := ov (ov g1.rl c0 (del (.nd l ids) (g1.rl c0))) c0 (ins ((N.nd l ids).map (sg low high)) (ov g1.rl c0 (del (.nd l ids) (g1.rl c0)) c0))) (ul := ul2) (fun d _ => ?_) (fun d hd dh => ?_)) w12.hp w12.pr w12.ls
          · by_cases e : d = c0
            · rw [if_pos e, e, ov_same, ov_same]
            · rw [if_neg e, ov_ne e, ov_ne e]
          · rw [hul2 d hd dh, hul d hd dh]; rfl
    refine ⟨_, pss_cons (ps_set (i := 3) sc_told.nd rfl (Or.inl rfl) (pe_lst pa_nil))
      (pss_cons (ps_for PassesOwn.never rfl (pi_list (pe_callTy (call_list_dT rfl) (by rfl) X.b_list (by decide +kernel) (pa_cons (pe_dpop1 (pe_fld (pv 0) (by rfl)) (pv 1) ⟨rfl, rfl, rfl, rfl⟩) pa_nil))) (pg_name (i := 4) sc_told.nd rfl (Or.inl rfl)) hrest)
      (pss_one (ps_ret (pv 3)))), ?_⟩
    refine ⟨(by show 0 ≤ sizeLine; decide), fun p hp => ?_⟩
    have s1 := (Sg.refl h1).same (Same.upd hp (o := .lst []))
    have hp1 : upd H p (.lst []) p = some (.lst []) := upd_same
    have t1 : ∀ b xs, upd H p (.lst []) b = some (.tup xs) → H b = some (.tup xs) := fun b xs e => by
      rw [upd_ne (fun z => by rw [z, upd_same] at e; cases e)] at e; exact e
    have hU : high ∈ g.liveU := by rw [h2.lu]; exact hhigh
    change tSeq _ _ _ [some (.ref o), some (.int high), some (.int low), some (.ref p), none, none, none, none] (upd H p (.lst []))
    generalize upd H p (.lst []) = H1 at s1 hp1 t1 ⊢
    refine ⟨_, rfl, o, _, _, _, _, rfl, s1.at_.obj, X.cl, X.n_uses, lk_uses .., g.us, rfl, .inl ⟨_, .inl s1.at_.uses⟩, _, rfl, _, idK high, .ref (g.ua high), s1.at_.uses, rfl, (val_i (f := fun d => V.ref (g.ua d)) ..).trans (if_pos hU), ?_⟩
    rw [drop_i (f := fun d => V.ref (g.ua d))]
    have s2 : Sg K o g H { g with liveU := out high g.liveU } _ := s1.popUse high
    have hp2 : upd H1 g.us (.dK ((out high g.liveU).map fun d => (idK d, V.ref (g.ua d)))) p = some (.lst []) := by rw [upd_ne (ne_of hp1 s1.at_.uses (fun z => nomatch z))]; exact hp1
    have t2' : ∀ b xs, upd H1 g.us (.dK ((out high g.liveU).map fun d => (idK d, V.ref (g.ua d)))) b = some (.tup xs) → H b = some (.tup xs) := fun b xs e => t1 b xs (by
      rw [upd_ne (fun z => by rw [z, upd_same] at e; cases e)] at e; exact e)
    have hd2 : upd H1 g.us (.dK ((out high g.liveU).map fun d => (idK d, V.ref (g.ua d)))) (g.ua high) = some (.dT ((g.ul high).map uE)) := by rw [upd_ne (ne_of (s1.at_.use high hU) s1.at_.uses (fun z => nomatch z))]; exact s1.at_.use high hU
    generalize upd H1 g.us (.dK ((out high g.liveU).map fun d => (idK d, V.ref (g.ua d)))) = H2 at s2 hp2 t2' hd2 ⊢
    refine ⟨g.ua high, _, rfl, .inl hd2, fun q bs hq hk => ?_⟩
    have s3 := s2.same (Same.upd hq (o := .lst (bs.map V.ref)))
    have qp : q ≠ p := (ne_of_none hp2 hq).symm
    have hqn : H q = none := s2.grow q hq
    have hp3 := Same.upd hq (o := .lst (bs.map V.ref)) _ _ hp2
    have hq3 : upd H2 q (.lst (bs.map V.ref)) q = some (.lst (bs.map V.ref)) := upd_same
    refine ⟨q, rfl, ⟨_, SqL.of hq3⟩, for_list (K := K) (a := q) (xs := bs.map V.ref) (fun i σ H' => ∃ g1 fd ps v4 v5 v6 v7, σ = [some (.ref o), some (.int high), some (.int low), some (.ref p), v4, v5, v6, v7] ∧ Sg K o g H g1 H' ∧ TI g low high (g.ul high) i fd g1 ∧
        H' p = some (.lst ps) ∧ Paired (PairAt H') fd ps ∧ H' q = some (.lst (bs.map V.ref)))
      ⟨_, [], [], none, none, none, none, rfl, s3, TI.start h2 (by show out high g.liveU = _; rw [h2.lu]) rfl rfl rfl rfl rfl rfl rfl rfl rfl, hp3, .nil, hq3⟩ (fun i σ H' _ ⟨_, _, _, _, _, _, _, _, _, _, _, _, h⟩ => SqL.of h) ?_ ?_⟩
    · rintro i x σ H' hx ⟨g1, fd, ps, v4, v5, v6, v7, rfl, s4, ti, hp4, pr4, hq4⟩
      rw [List.getElem?_map] at hx
      obtain ⟨b, hb, rfl⟩ := Option.map_eq_some_iff.mp hx
      obtain ⟨kv, hkv, hbt⟩ := Paired.get hk hb
      rw [List.getElem?_map] at hkv
      obtain ⟨m, hm', rfl⟩ := Option.map_eq_some_iff.mp hkv
      have hbH : H b = some (.tup (m.key.map kV)) := t2' _ _ hbt
      exact fin H' g1 i fd m b p ps v4 v5 v6 v7 _ s4 ti hm' (s4.tups h1 _ _ hbH) hp hp4 pr4 fun H5 g5 fd5 ps5 v5 v6 v7 s5 ti5 hp5 pr5 ls5 => ⟨g5, fd5, ps5, _, _, _, _, rfl, s5, ti5, hp5, pr5, ls5 q _ hqn qp hq4⟩
    · rintro σ H' ⟨g1, fd, ps, v4, v5, v6, v7, rfl, s4, ti, hp4, pr4, hq4⟩
      have lb : bs.length = (g.ul high).length := by
        have := Paired.len hk
        rw [List.length_map] at this
        exact this.symm
      rw [List.length_map, lb] at ti
      exact ⟨_, rfl, hQ H' g1 p fd ps s4 ti hp hp4 pr4⟩
end K45
/-! part K45R3 -/
set_option autoImplicit true
set_option Elab.async false
set_option linter.all false
set_option maxRecDepth 100000
set_option maxHeartbeats 4000000
/-! Rules: sorted(d) of a dict of ints, any number of them; xs != [] of pairs of ints. -/
namespace K45
open PySem PySem.Spec PyProof.Rows L2
section
variable {X : Cx}
def rSortedDI : List V → Hp → VK → Prop := fun xs H Q => ∃ (a : Addr) (kvs : List (L2.Key × V)) (ks : List Int), xs = [V.ref a] ∧ Rd H a (.dK kvs) ∧ kvs.map (·.1) = ks.map Sum.inl ∧
    ∀ (ys : List Int) (p : Addr), ys.Perm ks → ys.Pairwise (· ≤ ·) → H p = none → Q (.ref p) (upd H p (.lst (ys.map V.int)))
theorem cr_sortedDI (hcalm : X.calm = true) : CallR X (.builtin "sorted") rSortedDI := by
  intro pins s σ H xs us Q I r q
  obtain ⟨a, kvs, ks, ex, hd, hks, q⟩ := q
  subst ex
  obtain ⟨u, eu, rx⟩ := vals1 r
  subst eu
  cases rx
  obtain ⟨z, lo, vs, rel, dd⟩ := dk_rd I.hok hd
  obtain ⟨ep, hat⟩ := dd.dictAt
  have hkeys : vs.map (·.1) = ks.map Sum.inl := rel.keys.symm.trans hks
  have hl : vs.length = ks.length := by
    have e := congrArg List.length hkeys
    rw [List.length_map, List.length_map] at e
    exact e
  have h16 : vs.length ≤ sizeLine := by rw [← rel.length]; exact z
  refine Calls.call_function_entry PyProof.Rows.kind_sorted PyProof.Rows.plain_sorted PyProof.Rows.entry_sorted (PyProof.Rows.args_sorted1 _) ?_
  unfold Builtin.«sorted»
  refine wpAny_bind (m := checkCount "sorted" 1 1 _) (wpAny_pure ?_)
  refine wpAny_bind (PySem.W.kdu_collect (A := X.A.in1) (PySem.W.kdl_dict (knd := mixKind X.prog X.w) (kvs := vs) (ep := ep) lo) (I.ok.hd hcalm) hat h16 fun h' tk acc hk hacc => ?_)
  have hal : acc.toList.length = ks.length := by rw [Array.length_toList, hacc.1, hl]
  have hS : IntsAre acc.toList ks := ints_each hal fun j v e => by
    obtain ⟨k, x, e1, e2⟩ := hacc.2 j v (by rw [← Array.getElem?_toList]; exact e)
    have e3 : (vs.map (·.1))[j]? = some k := by rw [List.getElem?_map, e1]; rfl
    rw [hkeys, List.getElem?_map] at e3
    cases e4 : ks[j]? with
    | none => rw [e4] at e3; cases e3
    | some y =>
      rw [e4] at e3
      have e5 : Sum.inl y = k := Option.some.inj e3
      subst e5
      rcases keyIs_shape (show keyIs (Sum.inl y) v = true from e2) with ⟨i, t, ek, ev⟩ | ⟨z, t, ek, ev⟩
      · cases ek
        exact ⟨y, t, rfl, ev⟩
      · cases ek
  have hz2 : acc.toList.length ≤ sizeLine := by rw [hal, ← hl]; exact h16
  have I1 : Inv X pins σ H { s with heap := h', toks := tk } := I.kept hk
  refine wpAny_bind (wpAny_newList ?_ hz2)
  have hoL : (h'.push (seqObj "list" acc.toList.toArray 0)).get? h'.objs.size = some (seqObj "list" acc.toList.toArray 0) := Heap.get?_push_size _ rfl
  show wpAny _ _ _ _ _ { s with heap := h'.push (seqObj "list" acc.toList.toArray 0), toks := tk }
  refine wpAny_bind (wpAny_holding (wpAny_call_entry PyProof.Rows.slot_list_sort ⟨_, hoL, rfl⟩ PyProof.Rows.entry_list_sort
    (SrtO.list_sort_ord (s := { s with heap := h'.push (seqObj "list" acc.toList.toArray 0), toks := tk }) SrtO.swo_int hoL hz2 (fun h2 => SrtO.ints_sortable hS h2) fun out h1 h2 => ⟨.none, rfl, ?_⟩) (PyProof.Rows.args_list_sort _)))
  obtain ⟨k1, k2, k3⟩ := SrtO.ints_out hS h1 h2
  obtain ⟨e', he'⟩ := PyProof.Rows.sortedHeap_at (vs := acc.toList) (out := out.toArray) hoL
  have hlen : ((out.map SrtO.iv).map V.int).length ≤ sizeLine := by
    rw [List.length_map, k2.length_eq, ← hl]
    exact h16
  refine wpAny_pure ⟨_, rfl, .ref h'.objs.size, upd H h'.objs.size (.lst ((out.map SrtO.iv).map V.int)), I1.laid (t' := tk) (fun b u e => ?_) (Nat.le_refl _)
    (show ObjOk X.prog X.w _ _ _ (.lst ((out.map SrtO.iv).map V.int)) from ⟨hlen, out, e', vals_of_ints k1, he'⟩), rfl, q _ _ k2 k3 (I1.hok.fresh (Nat.le_refl _))⟩
  have hb : b < h'.objs.size := Heap.lt_size e
  rw [PyProof.Rows.sortedHeap_old (Nat.ne_of_lt hb) (by rw [size_push']; exact Nat.lt_succ_of_lt hb)]
  exact Heap.get?_push_of_some _ e
end
/-! pairs of ints as data -/
def encP (p : Nat × Nat) : PyData := .tuple [.int p.1, .int p.2]
theorem encP_shaped (L : List (Nat × Nat)) : SeqAt.shaped (.list (L.map encP)) = true := by
  have h : PyData.canLayAll0 (L.map encP) = true ∧ PyData.depthAll (L.map encP) ≤ 1 := by
    induction L with
    | nil => simp [PyData.canLayAll0, PyData.depthAll]
    | cons p L ih =>
      simp only [List.map_cons, PyData.canLayAll0, PyData.depthAll, ih.1, encP, PyData.canLay0, PyData.depth, Bool.and_true, true_and]
      omega
  unfold SeqAt.shaped
  simp only [PyData.canLay0, PyData.depth, h.1, Bool.true_and]
  exact decide_eq_true (by omega)
theorem eqvL_empty (ds : List PyData) : PyData.eqv (.list ds) (.list []) = ds.isEmpty := by
  cases ds <;> simp [PyData.eqv, PyData.eqvAll]
end K45
/-! part K45C6 -/
set_option autoImplicit true
set_option Elab.async false
set_option linter.all false
set_option maxRecDepth 100000
set_option maxHeartbeats 4000000
/-! What _merged keeps. -/
namespace K45
open PySem PySem.Spec PyProof.Rows L2
theorem upd_comm {H : Hp} {a b : Addr} {x y : HO} (h : a ≠ b) : upd (upd H a x) b y = upd (upd H b y) a x := by
  funext c
  unfold upd
  by_cases e : c = b
  · by_cases f : c = a
    · exact absurd (f.symm.trans e) h
    · rw [if_pos e, if_neg f, if_pos e]
  · rw [if_neg e]
    by_cases f : c = a
    · rw [if_pos f, if_pos f]
    · rw [if_neg f, if_neg f, if_neg e]
theorem Paired.snoc_inv {α β : Type} {R : α → β → Prop} {x : α} : ∀ {xs : List α} {ys : List β}, Paired R (xs ++ [x]) ys → ∃ ys' y, ys = ys' ++ [y] ∧ Paired R xs ys' ∧ R x y
  | [], _, .cons r t => by cases t; exact ⟨[], _, rfl, .nil, r⟩
  | z :: xs, _, .cons r t => by
    obtain ⟨ys', y, e, p, q⟩ := Paired.snoc_inv t
    exact ⟨_ :: ys', y, by rw [e]; rfl, .cons r p, q⟩
theorem Paired.app {α β : Type} {R : α → β → Prop} : ∀ {xs xs' : List α} {ys ys' : List β}, Paired R xs ys → Paired R xs' ys' → Paired R (xs ++ xs') (ys ++ ys')
  | _, _, _, _, .nil, h => h
  | _, _, _, _, .cons r t, h => .cons r (Paired.app t h)
theorem out_len {c : Nat} {l : List Nat} (nd : l.Nodup) (h : c ∈ l) : (out c l).length + 1 = l.length := by
  induction l with
  | nil => cases h
  | cons d l ih =>
    obtain ⟨h1, h2⟩ := List.nodup_cons.mp nd
    unfold out at ih ⊢
    by_cases e : d = c
    · subst e
      rw [List.filter_cons_of_neg (by simp), List.length_cons, List.filter_eq_self.mpr fun x hx => by simp; exact fun z => h1 (by rw [← z]; exact hx)]
    · rw [List.filter_cons_of_pos (by simp [e]), List.length_cons, List.length_cons, ih h2 ((List.mem_cons.mp h).resolve_left fun z => e z.symm)]
section
variable {K : PySem.W.Frag} {o a : Addr} {g g' g0 : G} {H H' H0 : Hp} {x : HO}
theorem Sg.other (s : Sg K o g0 H0 g H) (hf : foot o g0 a ∨ H0 a = none) (ha : ¬ foot o g a) (ht : ∀ xs, H a ≠ some (.tup xs)) : Sg K o g0 H0 g (upd H a x) :=
  ⟨s.at_.other ha ht, ⟨fun b u hb e => by
    rw [upd_ne (fun z => by subst z; exact hf.elim hb fun q => by rw [q] at e; cases e)]; exact s.fr.keep b u hb e, fun b f => s.fr.new b f⟩, fun b e => s.grow b (upd_none e)⟩
theorem At.gone (h : At K o g H) {c : Nat} (hc : c ∈ g.liveR) : ¬ foot o { g with liveR := out c g.liveR } (g.ra c) := by
  have hr := h.row c hc
  rintro (z | z | z | z | z | ⟨d, hd, z⟩ | ⟨d, hd, z⟩)
  · exact ne_of hr h.obj (fun z => nomatch z) z
  · exact h.d4 c hc z
  · exact ne_of hr h.rows (fun z => nomatch z) z
  · exact ne_of hr h.uses (fun z => nomatch z) z
  · exact ne_of hr h.kinds (fun z => nomatch z) z
  · obtain ⟨h1, h2⟩ := mem_out.mp hd
    exact h2 (h.d1 c hc d h1 z).symm
  · exact h.d3 c hc d hd z
end
theorem MI.start {g0 g1 : G} {low high i : Nat} {L : List N} {fd : List (Nat × Nat)} (t : TI g0 low high L i fd g1) (M : List N) : MI g1 low high M 0 { g1 with liveR := out high g1.liveR } where
  nd := t.nd
  mem := fun n c => by simp
  row := fun c hc n => by simp
  rnd := fun c hc => t.rnd c (by have := (mem_out.mp hc).1; rw [t.lr] at this; exact this)
  lr := rfl
  lu := rfl
  lk := rfl
  ul := rfl
  made := rfl
  cl := rfl
  fv := rfl
  rc := rfl
  len := rfl
structure Mw (K : PySem.W.Frag) (o : Addr) (R : T → T → Prop) (g : G) (H : Hp) (a b : Nat) (lp gp : Addr) (g1 : G) (ρ : Nat → Nat) (γ : Nat → Option Nat) (left : List (Nat × Nat)) (ps : List V) (gk : List (L2.Key × V)) (H' : Hp) : Prop where
  sg : Sg K o g H g1 H'
  goo : Goo g1
  fv : g1.fv = .non
  made : g1.made = g.made
  rc : g1.rcs = g.rcs
  cl : g1.cl = g.cl
  wsl : g1.ws.length ≤ g.ws.length
  cz : Cz γ ρ g.liveR g1.liveR
  run : Run R g.cl (look g.ws) (look g1.ws) ρ (left.map (pm ρ)) a b
  lf : ∀ p ∈ left, p.1 ∈ g.liveR ∧ p.2 ∈ g.liveR
  hl : H' lp = some (.lst ps)
  pr : Paired (PairAt H') left ps
  hg : H' gp = some (.dK gk)
  gf : ¬ foot o g1 gp
  gv : ∀ c : Nat, valV gk (idK c) = (γ c).map fun d : Nat => V.int (d : Int)
  gl : gk.length + g1.liveR.length ≤ g.liveR.length
  ms : left.length + g1.liveR.length * (g.ws.length + 1) ≤ g.liveR.length * (g.ws.length + 1) + 1
section
variable {K : PySem.W.Frag} {o : Addr} {R : T → T → Prop} {g : G} {H : Hp} {a b : Nat} {lp gp : Addr} {g1 : G} {ρ : Nat → Nat} {γ : Nat → Option Nat} {left : List (Nat × Nat)} {ps : List V} {gk : List (L2.Key × V)} {H' H'' : Hp}
theorem Mw.same (m : Mw K o R g H a b lp gp g1 ρ γ left ps gk H') (s : Same H' H'') : Mw K o R g H a b lp gp g1 ρ γ left ps gk H'' :=
  { m with sg := m.sg.same s, hl := s _ _ m.hl, pr := Paired.imp (fun _ _ z => z.keep (.of s)) m.pr, hg := s _ _ m.hg }
theorem dpPairs {K : PySem.W.Frag} {H : Hp} : ∀ {L : List (Nat × Nat)} {ps : List V}, Paired (PairAt H) L ps → DpAll K H ps (L.map encP)
  | _, _, .nil => .nil
  | _, _, .cons ⟨b, e, h⟩ t => by rw [e]; exact .cons (.tup (.of h) (.cons (.int _) (.cons (.int _) .nil))) (dpPairs t)
/-- one = gone[one], till it is not there -/
theorem chase {gp : Addr} {gk : List (L2.Key × V)} {γ : Nat → Option Nat} {ρ : Nat → Nat} {l0 l : List Nat} (z : Cz γ ρ l0 l) {i : Nat} {x : Nat} {σ : L2.St} {D : Ends} {H : Hp} (hi : i < σ.length) (i4 : i ≠ 4) (hx : σ[i]? = some (some (.int (x : Int)))) (h4 : σ[4]? = some (some (.ref gp))) (hg : H gp = some (.dK gk))
    (gv : ∀ c : Nat, valV gk (idK c) = (γ c).map fun d : Nat => V.int (d : Int)) (h : D.nx (σ.set i (some (.int (ρ x : Nat)))) H) : tWhile (tB (tDIn (tVar i) (tVar 4))) (tAsg (tDGet (tVar 4) (tVar i)) (gName i)) D σ H := by
  refine ⟨fun m σ' H' => H' = H ∧ σ' = σ.set i (some (.int (m : Int))) ∧ ρ m = ρ x, ⟨x, rfl, ?_, rfl⟩, ?_⟩
  · refine List.ext_getElem? fun j => ?_
    by_cases e : i = j
    · subst e
      rw [List.getElem?_set_self hi, hx]
    · rw [List.getElem?_set_ne e]
  · rintro m σ' H' ⟨rfl, rfl, e⟩
    have g1 : (σ.set i (some (V.int (m : Int))))[i]? = some (some (.int (m : Int))) := by rw [List.getElem?_set]; simp [hi]
    have g4 : (σ.set i (some (V.int (m : Int))))[4]? = some (some (.ref gp)) := by rw [List.getElem?_set_ne i4]; exact h4
    refine ⟨_, g1, _, g4, gp, _, rfl, DGet.k (k := idK m) hg, _, rfl, ?_⟩
    rw [gv m]
    cases q : γ m with
    | none =>
      refine iteF ?_
      have := z.stay m q
      rw [← e, this] at h
      exact h
    | some d =>
      obtain ⟨d1, d2⟩ := z.go m d q
      refine iteT ⟨fun σ' H'' => H'' = H' ∧ σ' = σ.set i (some (.int (d : Int))), fun σ' H'' ⟨a, b⟩ => ⟨d, d1, a, b, by rw [← d2]; exact e⟩, _, g4, _, g1, gp, .int (d : Int), rfl, ?_, rfl, ?_⟩
      · have := DGet.k (k := idK m) hg
        rw [gv m, q] at this
        exact this
      · show (σ.set i (some (V.int (m : Int)))).set i (some (V.int (d : Int))) = _
        rw [List.set_set]
end
end K45
/-! part K45L3 -/
set_option autoImplicit true
set_option Elab.async false
set_option linter.all false
set_option maxRecDepth 100000
set_option maxHeartbeats 4000000
/-! Walks: _merged. -/
namespace K45
open PySem PySem.Spec PyProof.Rows L2
variable {P : Program} {w : World} {K : PySem.W.Frag} {mg : Str → Option Value} {base : Heap}
def sp_merged (K : PySem.W.Frag) (S : List T) (R : T → T → Prop) : Sp := fun vs H Q _ => ∃ (o : Addr) (g : G) (a b : Nat), vs = [.ref o, .int (a : Int), .int (b : Int)] ∧ At K o g H ∧ Good S R g ∧ g.made ≤ 2000 ∧ a ∈ g.liveR ∧ b ∈ g.liveR ∧ Eqv R (g.cl a) (g.cl b) ∧
  ∀ H' g' ρ, Sg K o g H g' H' → Good S R g' → Le ρ (look g.ws) (look g'.ws) → ρ a = ρ b → g'.made = g.made → g'.rcs = g.rcs → Q .non H'
abbrev mN : List Str := ["self", "one", "other", "left", "gone", "low", "high", "node"]
theorem sc_merged : FnScope mN ["self", "one", "other"] (defScope m__merged) := ⟨rfl, rfl, rfl, by decide +kernel, rfl, by decide +kernel, by decide +kernel⟩
theorem ok_merged (X : Fx P w K mg base) (S : List T) (R : T → T → Prop) : OkE P w K mg base "_merged" ["self", "one", "other"] 2 (sp_merged K S R) := by
  obtain ⟨fd, F⟩ := X.fn 37 (d := dm__merged) rfl
  obtain ⟨_, _, D1⟩ := ok_told X
  refine ⟨_, fd, X.m__merged, F.bindsN fun _ _ _ _ _ _ us hl => match us, hl with | [_, _, _], _ => rfl, okN F sc_merged (fun vs H Q E h => ?_) (fun cdv A outer s H vs Q E hr h => ?_)⟩
  · obtain ⟨o, _, _, _, rfl, _⟩ := h
    rfl
  · obtain ⟨o, g, a, b, rfl, h1, h2, hm, ha, hb, hab, hQ⟩ := h
    have hu := hu_of hr
    have sz : ∀ {n : Nat}, n ≤ 16000000 → n < sizeLine := fun h => Nat.lt_of_le_of_lt h (by decide)
    have cnt0 : g.ws.length ≤ 2000 := by have := h2.oo.cnt; omega
    have ll0 : g.liveR.length ≤ 2000 := by
      have : g.liveR.length ≤ g.ws.length := len_le (fun c p => p.2 = c) g.liveR g.ws h2.oo.lnd (fun c hc => let ⟨n, hn⟩ := h2.ful c hc; ⟨_, hn, rfl⟩) fun a _ b _ p x y => x.symm.trans y
      omega
    have big0 : g.liveR.length * (g.ws.length + 1) ≤ 2000 * 2001 := Nat.mul_le_mul ll0 (by omega)
    refine ⟨_, pss_cons (ps_par (i := 3) (j := 4) rfl sc_merged.nd rfl rfl (by decide) rfl rfl (pa_cons (pe_lst (pa_cons (pe_tup (pa_cons (pv 1) (pa_cons (pv 2) pa_nil))) pa_nil)) (pa_cons pe_dnewK pa_nil)) (by rfl))
      (pss_cons (ps_while PassesOwn.never (pt_cmpR (op_neD hr.units) (pv 3) (pe_lst pa_nil) (nomark _))
        (pss_cons (ps_asg (pe_bm0 PySem.F.plainAttrs_list PySem.F.slot_list_pop PySem.F.type_list_pop mt_pop (pv 3)) (pg_tup rfl (pgs_cons (pg_name (i := 1) sc_merged.nd rfl (Or.inl rfl)) (pgs_cons (pg_name (i := 2) sc_merged.nd rfl (Or.inl rfl)) pgs_nil))))
        (pss_cons (ps_while PassesOwn.never (pt_cmp (pc_din hu (pv 1) (pv 4))) (pss_one (ps_set (i := 1) sc_merged.nd rfl (Or.inl rfl) (pe_dget hu (pv 4) (pv 1) (fun _ _ => rfl)))))
        (pss_cons (ps_while PassesOwn.never (pt_cmp (pc_din hu (pv 2) (pv 4))) (pss_one (ps_set (i := 2) sc_merged.nd rfl (Or.inl rfl) (pe_dget hu (pv 4) (pv 2) (fun _ _ => rfl)))))
        (pss_one (ps_if (pt_cmpR op_ne (pv 1) (pv 2) (nomark _))
          (pss_cons (ps_par (i := 5) (j := 6) rfl sc_merged.nd rfl rfl (by decide) rfl rfl (pa_cons (pe_callB (call_min2 rfl) (by rfl) X.b_min (by decide +kernel) (pa_cons (pv 1) (pa_cons (pv 2) pa_nil))) (pa_cons (pe_callB (call_max2 rfl) (by rfl) X.b_max (by decide +kernel) (pa_cons (pv 1) (pa_cons (pv 2) pa_nil))) pa_nil)) (by rfl))
          (pss_cons (ps_dput hu (pv 4) (pv 6) (pv 5) (by rfl))
          (pss_cons (ps_expr (pe_bm PySem.F.plainAttrs_list PySem.F.slot_list_extend PySem.F.type_list_extend mt_extend (pv 3) (pa_cons (pe_m D1 X.cl hr (pv 0) (pa_cons (pv 6) (pa_cons (pv 5) pa_nil))) pa_nil)))
          (pss_cons (ps_lock (ps_for PassesOwn.never rfl (pi_keys (pe_dpop1 (pe_fld (pv 0) (by rfl)) (pv 6) ⟨rfl, rfl, rfl, rfl⟩)) (pg_name (i := 7) sc_merged.nd rfl (Or.inl rfl))
            (pss_cons (ps_dput hu (pe_fld (pv 0) (by rfl)) (pv 7) (pv 5) (by rfl))
            (pss_one (ps_dput hu (pe_dget hu (pe_fld (pv 0) (by rfl)) (pv 5) (fun _ _ => rfl)) (pv 7) pe_bl (by rfl))))))
          (pss_one (ps_expr (pe_dpop1 (pe_fld (pv 0) (by rfl)) (pv 6) ⟨rfl, rfl, rfl, rfl⟩))))))) pss_nil))))))
      (pss_cons (ps_asg (pe_tup (pa_cons (pe_callTy call_tuple_of (by rfl) X.b_tuple (by decide +kernel) (pa_cons (pe_callB (cr_sortedDI rfl) (by rfl) X.b_sorted (by decide +kernel) (pa_cons (pe_fld (pv 0) (by rfl)) pa_nil)) pa_nil)) (pa_cons (pe_callB call_len_dT (by rfl) X.b_len (by decide +kernel) (pa_cons (pe_fld (pv 0) (by rfl)) pa_nil)) pa_nil)))
        (pg_tup rfl (pgs_cons (pg_fld (pv 0)) (pgs_cons (pg_fld (pv 0)) pgs_nil))))
      (pss_one (ps_fld (pv 0) pe_non (by rfl))))), ?_⟩
    refine ⟨_, rfl, _, rfl, (by show 2 ≤ sizeLine; decide), fun tp htp => ⟨(by show 1 ≤ sizeLine; decide), fun lp hlp gp hgp => ⟨_, _, rfl, ?_⟩⟩⟩
    have q0 : Same H (upd (upd (upd H tp (.tup [.int a, .int b])) lp (.lst [.ref tp])) gp (.dK [])) := Same.trans (Same.upd htp) (Same.trans (Same.upd hlp) (Same.upd hgp))
    have hlpn : H lp = none := upd_none hlp
    have hgpn : H gp = none := upd_none (upd_none hgp)
    have lgp : gp ≠ lp := fun z => by rw [z, upd_same] at hgp; cases hgp
    have m0 : Mw K o R g H a b lp gp g id (fun _ => none) [(a, b)] [.ref tp] [] (upd (upd (upd H tp (.tup [.int a, .int b])) lp (.lst [.ref tp])) gp (.dK [])) := by
      refine ⟨(Sg.refl h1).same q0, h2.oo, h2.fv, rfl, rfl, rfl, Nat.le_refl _, Cz.start _, Run.start h2.snd hab, fun p hp => ?_, Same.upd hgp _ _ upd_same, .cons ⟨tp, rfl, ?_⟩ .nil, upd_same, h1.fresh hgpn, fun c => rfl, by simp, by simp; omega⟩
      · rw [List.mem_singleton.mp hp]; exact ⟨ha, hb⟩
      · exact Same.upd hgp _ _ (Same.upd hlp _ _ upd_same)
    change tSeq _ _ _ [some (.ref o), some (.int a), some (.int b), some (.ref lp), some (.ref gp), none, none, none] (upd (upd (upd H tp (.tup [.int a, .int b])) lp (.lst [.ref tp])) gp (.dK []))
    generalize upd (upd (upd H tp (.tup [.int a, .int b])) lp (.lst [.ref tp])) gp (.dK []) = H0 at m0 ⊢
    refine ⟨fun m σ H' => ∃ g1 ρ γ left ps gk v1 v2 v5 v6 v7, m = g1.liveR.length * (g.ws.length + 1) + left.length ∧ σ = [some (.ref o), v1, v2, some (.ref lp), some (.ref gp), v5, v6, v7] ∧ Mw K o R g H a b lp gp g1 ρ γ left ps gk H',
      ⟨_, g, id, fun _ => none, [(a, b)], _, _, _, _, _, _, _, rfl, rfl, m0⟩, ?_⟩
    rintro m σ H1 ⟨g1, ρ, γ, left, ps, gk, v1, v2, v5, v6, v7, rfl, rfl, w1⟩
    refine ⟨_, rfl, (by show 0 ≤ sizeLine; decide), fun q hq => ⟨.list (left.map encP), .list [], .lst (SqL.of (Same.upd hq _ _ w1.hl)) (dpPairs (w1.same (Same.upd hq)).pr), .lst (SqL.of upd_same) .nil, encP_shaped left, by decide +kernel, _, rfl, ?_⟩⟩
    rw [eqvL_empty]
    have w2 := w1.same (Same.upd hq (o := .lst []))
    generalize upd H1 q (.lst []) = H2 at w2 ⊢
    rcases List.eq_nil_or_concat left with rfl | ⟨left, ⟨x, y⟩, rfl⟩
    · -- nothing is left
      refine iteF ⟨_, rfl, o, _, _, _, _, rfl, w2.sg.at_.obj, X.cl, X.n_rows, lk_rows .., g1.ro, _, g1.liveR.map (fun c : Nat => (c : Int)), rfl, .inl w2.sg.at_.rows, by rw [List.map_map, List.map_map]; rfl, fun ys sp perm srt hsp => ⟨sp, _, rfl, .inl ⟨SqL.of upd_same, fun tp htp => ?_⟩⟩⟩
      have s3 := (w2.sg.same (Same.upd hsp (o := .lst (ys.map V.int)))).same (Same.upd htp (o := .tup (ys.map V.int)))
      have ht3 : upd (upd H2 sp (.lst (ys.map V.int))) tp (.tup (ys.map V.int)) tp = some (.tup (ys.map V.int)) := upd_same
      generalize upd (upd H2 sp (.lst (ys.map V.int))) tp (.tup (ys.map V.int)) = H3 at s3 ht3 ⊢
      refine ⟨_, rfl, o, _, _, _, _, rfl, s3.at_.obj, X.cl, X.n_where, lk_where .., g1.wa, _, rfl, s3.at_.wh, (by show 2 ≤ sizeLine; decide), fun r hr' => ?_⟩
      rw [List.length_map]
      have s4 := s3.same (Same.upd hr' (o := .tup [.ref tp, .int g1.ws.length]))
      have ht4 := Same.upd hr' (o := .tup [.ref tp, .int g1.ws.length]) _ _ ht3
      refine ⟨r, [.ref tp, .int g1.ws.length], rfl, SqT.of upd_same, rfl, _, _, rfl, ?_⟩
      generalize upd H3 r (.tup [.ref tp, .int g1.ws.length]) = H4 at s4 ht4 ⊢
      refine ⟨_, rfl, o, _, _, _, rfl, s4.at_.obj, X.cl, X.nplaces, (by show 9 < 1000; omega), _, _, rfl, ?_⟩
      have s5 : Sg K o g H { g1 with pl := tp, pls := ys.map V.int } _ := s4.fld g1.made g1.many tp g1.rc (ys.map V.int) g1.rcs g1.fv ht4 s4.at_.hrc
      change gFld _ _ _ _ _ (upd H4 o (.ins (He.ga K "Classes") g1.dx (flds (.ref tp) (.int g1.many) (.ref g1.rc) (.int g1.made) (.ref g1.wa) (.ref g1.ro) (.ref g1.us) (.ref g1.ki) g1.fv))) _
      change Sg K o g H _ (upd H4 o (.ins (He.ga K "Classes") g1.dx (flds (.ref tp) (.int g1.many) (.ref g1.rc) (.int g1.made) (.ref g1.wa) (.ref g1.ro) (.ref g1.us) (.ref g1.ki) g1.fv))) at s5
      generalize upd H4 o _ = H5 at s5 ⊢
      refine ⟨_, rfl, o, _, _, _, rfl, s5.at_.obj, X.cl, X.nmany, (by show 9 < 1000; omega), rfl, ?_⟩
      have s6 : Sg K o g H { g1 with pl := tp, pls := ys.map V.int, many := g1.ws.length } _ := s5.fld g1.made g1.ws.length tp g1.rc (ys.map V.int) g1.rcs g1.fv s5.at_.hpl s5.at_.hrc
      change Ends.nx _ _ (upd H5 o (.ins (He.ga K "Classes") g1.dx (flds (.ref tp) (.int g1.ws.length) (.ref g1.rc) (.int g1.made) (.ref g1.wa) (.ref g1.ro) (.ref g1.us) (.ref g1.ki) g1.fv)))
      change Sg K o g H _ (upd H5 o (.ins (He.ga K "Classes") g1.dx (flds (.ref tp) (.int g1.ws.length) (.ref g1.rc) (.int g1.made) (.ref g1.wa) (.ref g1.ro) (.ref g1.us) (.ref g1.ki) g1.fv))) at s6
      generalize upd H5 o _ = H6 at s6 ⊢
      refine ⟨_, rfl, o, _, _, _, rfl, s6.at_.obj, X.cl, X.n_first, (by show 9 < 1000; omega), ?_⟩
      have s7 : Sg K o g H { g1 with pl := tp, pls := ys.map V.int, many := g1.ws.length, fv := .non } _ := s6.fld g1.made g1.ws.length tp g1.rc (ys.map V.int) g1.rcs .non s6.at_.hpl s6.at_.hrc
      have run2 := w2.run
      rw [← w2.cl] at run2
      obtain ⟨gd, le, eab⟩ := merge_end (S := S) (pl := tp) (pls := ys.map V.int) w2.goo w2.fv w2.cz run2 (fun c hc => let ⟨n, hn⟩ := h2.ful c hc; ⟨n, h2.oo.look.mpr hn⟩) h2.cov (by rw [List.length_map, perm.length_eq, List.length_map])
      have e : ({ g1 with pl := tp, pls := ys.map V.int, many := g1.ws.length, fv := .non } : G) = { g1 with many := g1.ws.length, pl := tp, pls := ys.map V.int } := by rw [← w2.fv]
      exact hQ _ _ ρ s7 (by rw [e]; exact gd) le eab w2.made w2.rc
    · rw [List.concat_eq_append] at w2 ⊢
      rw [show (!((left ++ [(x, y)]).map encP).isEmpty) = true by simp]
      obtain ⟨ps, tb, rfl, pr2, hx⟩ := Paired.snoc_inv w2.pr
      obtain ⟨tb, rfl, htb⟩ := hx
      refine iteT ⟨fun σ' H' => ∃ g5 ρ γ left5 ps gk v1 v2 v5 v6 v7, g5.liveR.length * (g.ws.length + 1) + left5.length < g1.liveR.length * (g.ws.length + 1) + (left ++ [(x, y)]).length ∧ σ' = [some (.ref o), v1, v2, some (.ref lp), some (.ref gp), v5, v6, v7] ∧ Mw K o R g H a b lp gp g5 ρ γ left5 ps gk H',
        fun σ' H' ⟨g5, ρ, γ, left5, ps, gk, v1, v2, v5, v6, v7, lt, e, w⟩ => ⟨_, lt, g5, ρ, γ, left5, ps, gk, v1, v2, v5, v6, v7, rfl, e, w⟩, ?_⟩
      refine ⟨_, rfl, .inl ⟨rfl, _, SqL.of w2.hl⟩, lp, _, .ref tb, rfl, rfl, w2.hl, by simp, ?_⟩
      rw [List.dropLast_concat]
      have ht3 : upd H2 lp (.lst ps) tb = some (.tup [.int x, .int y]) := by rw [upd_ne (fun z => by rw [z, w2.hl] at htb; cases htb)]; exact htb
      have tp3 : Tups H2 (upd H2 lp (.lst ps)) := Tups.upd fun xs e => by rw [w2.hl] at e; cases e
      have s3 := w2.sg.scratch (x := .lst ps) hlpn (w2.sg.at_.notlst w2.hl) fun xs e => by rw [w2.hl] at e; cases e
      have hl3 : upd H2 lp (.lst ps) lp = some (.lst ps) := upd_same
      have pr3 := Paired.imp (fun _ _ z => PairAt.keep tp3 z) pr2
      have hg3 : upd H2 lp (.lst ps) gp = some (.dK gk) := by rw [upd_ne lgp]; exact w2.hg
      generalize upd H2 lp (.lst ps) = H3 at ht3 s3 hl3 pr3 hg3 ⊢
      refine ⟨tb, _, rfl, SqT.of ht3, rfl, _, _, rfl, _, _, rfl, rfl, ?_⟩
      change tSeq _ _ _ [some (.ref o), some (.int x), some (.int y), some (.ref lp), some (.ref gp), v5, v6, v7] H3
      have xl := w2.lf (x, y) (by simp)
      have lfl : ∀ p ∈ left, p.1 ∈ g.liveR ∧ p.2 ∈ g.liveR := fun p hp => w2.lf p (List.mem_append_left _ hp)
      refine chase w2.cz (i := 1) (x := x) (by show 1 < 8; omega) (by decide) rfl rfl hg3 w2.gv ?_
      refine chase w2.cz (i := 2) (x := y) (by show 2 < 8; omega) (by decide) rfl rfl hg3 w2.gv ?_
      change Ends.nx _ [some (.ref o), some (.int (ρ x : Nat)), some (.int (ρ y : Nat)), some (.ref lp), some (.ref gp), v5, v6, v7] H3
      refine ⟨_, rfl, _, rfl, rfl, _, rfl, ?_⟩
      have ms2 := w2.ms
      rw [List.length_append, List.length_singleton] at ms2
      by_cases exy : ρ x = ρ y
      · rw [show (!decide (V.int (ρ x : Nat) = V.int (ρ y : Nat))) = false by rw [exy]; simp]
        refine iteF ⟨g1, ρ, γ, left, ps, gk, _, _, _, _, _, ?_, rfl, { w2 with sg := s3, run := ?_, lf := lfl, hl := hl3, pr := pr3, hg := hg3, ms := by omega }⟩
        · rw [List.length_append, List.length_singleton]; omega
        · refine w2.run.skip (fun p hp => ?_) fun p hp => ?_
          · rw [List.map_append] at hp
            rcases List.mem_append.mp hp with hp | hp
            · exact .inl hp
            · rw [List.mem_singleton.mp hp]; exact .inr exy
          · rw [List.map_append]; exact List.mem_append_left _ hp
      · have ne : ¬ (V.int (ρ x : Nat) = V.int (ρ y : Nat)) := fun z => exy (by have := V.int.inj z; omega)
        rw [show (!decide (V.int (ρ x : Nat) = V.int (ρ y : Nat))) = true by rw [decide_eq_false ne]; rfl]
        refine iteT ⟨_, rfl, _, rfl, _, _, rfl, _, rfl, _, rfl, _, _, rfl, _, _, rfl, ?_⟩
        obtain ⟨low, high, hlt, hx, el, eh⟩ : ∃ low high : Nat, low < high ∧ ((ρ x, ρ y) = (low, high) ∨ (ρ x, ρ y) = (high, low)) ∧ (if ((ρ y : Nat) : Int) < ((ρ x : Nat) : Int) then ((ρ y : Nat) : Int) else ((ρ x : Nat) : Int)) = (low : Int) ∧
            (if ((ρ y : Nat) : Int) > ((ρ x : Nat) : Int) then ((ρ y : Nat) : Int) else ((ρ x : Nat) : Int)) = (high : Int) := by
          by_cases q : ρ x < ρ y
          · exact ⟨ρ x, ρ y, q, .inl rfl, if_neg (by omega), if_pos (by omega)⟩
          · exact ⟨ρ y, ρ x, by omega, .inr rfl, if_pos (by omega), if_neg (by omega)⟩
        rw [el, eh]
        have lowl : low ∈ g1.liveR := by
          rcases hx with e | e
          · rw [← (Prod.mk.inj e).1]; exact w2.cz.to x xl.1
          · rw [← (Prod.mk.inj e).2]; exact w2.cz.to y xl.2
        have highl : high ∈ g1.liveR := by
          rcases hx with e | e
          · rw [← (Prod.mk.inj e).2]; exact w2.cz.to y xl.2
          · rw [← (Prod.mk.inj e).1]; exact w2.cz.to x xl.1
        change tSeq _ _ _ [some (.ref o), some (.int (ρ x : Nat)), some (.int (ρ y : Nat)), some (.ref lp), some (.ref gp), some (.int low), some (.int high), v7] H3
        have gl2 := w2.gl
        refine ⟨_, rfl, _, rfl, _, rfl, gp, _, rfl, DPut.k (k := idK high) hg3 (sz (by omega)), ?_⟩
        have gv4 : ∀ c : Nat, valV (putK gk (idK high) (.int low)) (idK c) = (ov γ high (some low) c).map fun d : Nat => V.int (d : Int) := fun c => by
          rw [valV_put]
          by_cases e : c = high
          · rw [if_pos (by rw [e]), e, ov_same]; rfl
          · rw [if_neg (fun z => e (idK_inj.mp z)), ov_ne e, w2.gv]
        have gl4 := length_putK gk (idK high) (.int low)
        have tp4 : Tups H3 (upd H3 gp (.dK (putK gk (idK high) (.int low)))) := Tups.upd fun xs e => by rw [hg3] at e; cases e
        have s4 := s3.other (x := .dK (putK gk (idK high) (.int low))) (.inr hgpn) w2.gf fun xs e => by rw [hg3] at e; cases e
        have hl4 : upd H3 gp (.dK (putK gk (idK high) (.int low))) lp = some (.lst ps) := by rw [upd_ne lgp.symm]; exact hl3
        have hg4 : upd H3 gp (.dK (putK gk (idK high) (.int low))) gp = some (.dK (putK gk (idK high) (.int low))) := upd_same
        have pr4 := Paired.imp (fun _ _ z => PairAt.keep tp4 z) pr3
        generalize putK gk (idK high) (.int low) = gk4 at gv4 gl4 tp4 s4 hl4 hg4 pr4 ⊢
        generalize upd H3 gp (.dK gk4) = H4 at s4 hl4 hg4 pr4 ⊢
        have lps : ps.length = left.length := (Paired.len pr4).symm
        refine ⟨_, rfl, .inl ⟨rfl, _, SqL.of hl4⟩, _, rfl, o, g1.dx, g1.fs, rfl, s4.at_.obj, rfl, _, rfl, _, rfl, o, g1, low, high, rfl, s4.at_, w2.goo, by rw [w2.made]; exact hm, lowl, highl, Nat.ne_of_lt hlt, fun H5 g5 q fd qs s5 ti hqn hq5 prq => ?_⟩
        have hl5 := s5.fr.keep _ _ (s4.at_.notlst hl4) hl4
        have gf5 : ¬ foot o g5 gp := fun z => (s5.fr.new gp z).elim w2.gf fun q => by rw [hg4] at q; cases q
        have hg5 := s5.fr.keep _ _ w2.gf hg4
        have pr5 := Paired.imp (fun _ _ z => PairAt.keep (s5.tups s4.at_) z) pr4
        have s45 := s4.trans s5
        have lul : (g1.ul high).length ≤ g1.ws.length := nodup_len (w2.goo.und high highl) fun n hn => ((w2.goo.use high highl n).mp hn).2
        have wsl := w2.wsl
        have fdl := ti.fln
        have lqs : qs.length = fd.length := (Paired.len prq).symm
        have lb : left.length ≤ 2000 * 2001 + 1 := by omega
        refine ⟨lp, q, ps, qs, rfl, rfl, hl5, hq5, Nat.le_of_lt (sz (by omega)), ?_⟩
        have tp6 : Tups H5 (upd H5 lp (.lst (ps ++ qs))) := Tups.upd fun xs e => by rw [hl5] at e; cases e
        have s6 := s45.scratch (x := .lst (ps ++ qs)) hlpn (s45.at_.notlst hl5) fun xs e => by rw [hl5] at e; cases e
        have hl6 : upd H5 lp (.lst (ps ++ qs)) lp = some (.lst (ps ++ qs)) := upd_same
        have hg6 : upd H5 lp (.lst (ps ++ qs)) gp = some (.dK gk4) := by rw [upd_ne lgp]; exact hg5
        have pr6 : Paired (PairAt (upd H5 lp (.lst (ps ++ qs)))) (left ++ fd) (ps ++ qs) := Paired.imp (fun _ _ z => PairAt.keep tp6 z) (Paired.app pr5 prq)
        change tSeq _ _ _ [some (.ref o), some (.int (ρ x : Nat)), some (.int (ρ y : Nat)), some (.ref lp), some (.ref gp), some (.int low), some (.int high), v7] (upd H5 lp (.lst (ps ++ qs)))
        generalize upd H5 lp (.lst (ps ++ qs)) = H6 at s6 hl6 hg6 pr6 ⊢
        have hR5 : high ∈ g5.liveR := by rw [ti.lr]; exact highl
        have lR5 : low ∈ out high g5.liveR := mem_out.mpr ⟨by rw [ti.lr]; exact lowl, Nat.ne_of_lt hlt⟩
        have hd6 := s6.at_.row high hR5
        refine ⟨g5.ra high, .dT ((g5.rl high).map uE), hd6, trivial, fun od => ?_⟩
        have dro : g5.ra high ≠ g5.ro := ne_of hd6 s6.at_.rows (fun z => nomatch z)
        have dob : g5.ra high ≠ o := ne_of hd6 s6.at_.obj (fun z => nomatch z)
        refine ⟨_, rfl, o, _, _, _, _, rfl, (by rw [upd_ne dob.symm]; exact s6.at_.obj), X.cl, X.n_rows, lk_rows .., g5.ro, rfl, .inl ⟨_, .inl (by rw [upd_ne dro.symm]; exact s6.at_.rows)⟩, _, rfl, _, idK high, .ref (g5.ra high), (by rw [upd_ne dro.symm]; exact s6.at_.rows), rfl, (val_i (f := fun d => V.ref (g5.ra d)) ..).trans (if_pos hR5), ?_⟩
        rw [drop_i (f := fun d => V.ref (g5.ra d)), upd_comm dro]
        have s7 : Sg K o g H { g5 with liveR := out high g5.liveR } _ := (s6.popRow high).other (a := g5.ra high) (x := .frz od (.dT ((g5.rl high).map uE))) (s6.fr.new _ (.inr (.inr (.inr (.inr (.inr (.inl ⟨high, hR5, rfl⟩))))))) (s6.at_.gone hR5) fun xs e => by
          rw [upd_ne dro, hd6] at e; cases e
        have df7 := s6.at_.gone hR5
        have gf7 : ¬ foot o { g5 with liveR := out high g5.liveR } gp := fun z => gf5 (by
          rcases z with z | z | z | z | z | ⟨d, hd, z⟩ | z
          · exact .inl z
          · exact .inr (.inl z)
          · exact .inr (.inr (.inl z))
          · exact .inr (.inr (.inr (.inl z)))
          · exact .inr (.inr (.inr (.inr (.inl z))))
          · exact .inr (.inr (.inr (.inr (.inr (.inl ⟨d, (mem_out.mp hd).1, z⟩)))))
          · exact .inr (.inr (.inr (.inr (.inr (.inr z))))))
        have lro : lp ≠ g5.ro := ne_of hl6 s6.at_.rows (fun z => nomatch z)
        have ldr : lp ≠ g5.ra high := ne_of hl6 hd6 (fun z => nomatch z)
        have gro : gp ≠ g5.ro := fun z => gf5 (.inr (.inr (.inl z)))
        have gdr : gp ≠ g5.ra high := ne_of hg6 hd6 (fun z => nomatch z)
        have hl7 : upd (upd H6 g5.ro (.dK ((out high g5.liveR).map fun d => (idK d, V.ref (g5.ra d))))) (g5.ra high) (.frz od (.dT ((g5.rl high).map uE))) lp = some (.lst (ps ++ qs)) := by rw [upd_ne ldr, upd_ne lro]; exact hl6
        have hg7 : upd (upd H6 g5.ro (.dK ((out high g5.liveR).map fun d => (idK d, V.ref (g5.ra d))))) (g5.ra high) (.frz od (.dT ((g5.rl high).map uE))) gp = some (.dK gk4) := by rw [upd_ne gdr, upd_ne gro]; exact hg6
        have tp7 : Tups H6 (upd (upd H6 g5.ro (.dK ((out high g5.liveR).map fun d => (idK d, V.ref (g5.ra d))))) (g5.ra high) (.frz od (.dT ((g5.rl high).map uE)))) := fun c xs e => by
          rw [upd_ne (ne_of e hd6 (fun z => nomatch z)), upd_ne (ne_of e s6.at_.rows (fun z => nomatch z))]; exact e
        have pr7 := Paired.imp (fun _ _ z => PairAt.keep tp7 z) pr6
        have hd7 : upd (upd H6 g5.ro (.dK ((out high g5.liveR).map fun d => (idK d, V.ref (g5.ra d))))) (g5.ra high) (.frz od (.dT ((g5.rl high).map uE))) (g5.ra high) = some (.frz od (.dT ((g5.rl high).map uE))) := upd_same
        generalize upd (upd H6 g5.ro (.dK ((out high g5.liveR).map fun d => (idK d, V.ref (g5.ra d))))) (g5.ra high) (.frz od (.dT ((g5.rl high).map uE))) = H7 at s7 hl7 hg7 pr7 hd7 ⊢
        clear hl6 hg6 pr6 tp7 s5
        have rndM := ti.rnd high highl
        have ws5 : g5.ws.length ≤ 2000 := by have := ti.len; omega
        refine ⟨g5.ra high, od, rfl, .inr ⟨_, hd7, for_it (n := (g5.rl high).length) (fun i σ H' => ∃ gx v7, σ = [some (.ref o), some (.int (ρ x : Nat)), some (.int (ρ y : Nat)), some (.ref lp), some (.ref gp), some (.int low), some (.int high), v7] ∧
            Sg K o g H gx H' ∧ MI g5 low high (g5.rl high) i gx ∧ ¬ foot o gx (g5.ra high) ∧ ¬ foot o gx gp ∧ H' (g5.ra high) = some (.frz od (.dT ((g5.rl high).map uE))) ∧ H' lp = some (.lst (ps ++ qs)) ∧ Paired (PairAt H') (left ++ fd) (ps ++ qs) ∧ H' gp = some (.dK gk4))
          ⟨_, v7, rfl, s7, MI.start ti (g5.rl high), df7, gf7, hd7, hl7, pr7, hg7⟩ (fun i σ H' hi ⟨_, _, _, _, _, _, _, h, _⟩ => ⟨h, by rw [List.length_map]; exact hi⟩) (fun σ H' ⟨_, _, _, _, _, _, _, h, _⟩ => ⟨h, by rw [List.length_map]; exact Nat.le_refl _⟩) ?_ ?_⟩⟩
        · rintro i z σ H8 H9 hi ⟨gx, v7, rfl, s8, mi, df8, gf8, hd8, hl8, pr8, hg8⟩ ⟨rfl, k, v, q8, hk, rfl, hq8⟩
          rw [List.getElem?_map] at hk
          obtain ⟨m, hm', e⟩ := Option.map_eq_some_iff.mp hk
          obtain ⟨rfl, rfl⟩ := Prod.mk.inj e
          have lRx : low ∈ gx.liveR := by rw [mi.lr]; exact lR5
          have mM : (m, high) ∈ g5.ws := (ti.row high highl m).mp (List.mem_of_getElem? hm')
          obtain ⟨c, hc⟩ : ∃ c, look gx.ws m = some c := ⟨_, look_of mi.nd ((mi.mem m _).mpr ⟨high, mM, rfl⟩)⟩
          have rlen : (gx.rl low).length ≤ 2000 := by
            have h1 : (gx.rl low).length ≤ gx.ws.length := nodup_len (mi.rnd low lR5) fun n hn => by
              rcases (mi.row low lR5 n).mp hn with h | ⟨_, h⟩
              · have := (ti.row low (by rw [← ti.lr]; exact (mem_out.mp lR5).1) n).mp h
                exact ⟨_, (mi.mem n _).mpr ⟨low, this, rfl⟩⟩
              · have := (ti.row high highl n).mp (List.mem_of_mem_take h)
                exact ⟨_, (mi.mem n _).mpr ⟨high, this, rfl⟩⟩
            have := mi.len
            omega
          refine ⟨_, rfl, _, rfl, o, _, _, _, _, rfl, s8.at_.obj, X.cl, X.n_where, lk_where .., _, rfl, gx.wa, _, rfl, DPut.t s8.at_.wh hq8 (by rw [List.length_map]; exact sz (by have := mi.len; omega)), ?_⟩
          rw [put_w' _ hc]
          have s9 : Sg K o g H { gx with ws := setW gx.ws m low } _ := s8.setW (setW gx.ws m low)
          have hq9 : upd H9 gx.wa (.dT ((setW gx.ws m low).map wE)) q8 = some (.tup (m.key.map kV)) := by rw [upd_ne (ne_of hq8 s8.at_.wh (fun z => nomatch z))]; exact hq8
          have hd9 : upd H9 gx.wa (.dT ((setW gx.ws m low).map wE)) (g5.ra high) = some (.frz od (.dT ((g5.rl high).map uE))) := by rw [upd_ne (ne_of hd8 s8.at_.wh (fun z => nomatch z))]; exact hd8
          have hl9 : upd H9 gx.wa (.dT ((setW gx.ws m low).map wE)) lp = some (.lst (ps ++ qs)) := by rw [upd_ne (ne_of hl8 s8.at_.wh (fun z => nomatch z))]; exact hl8
          have hg9 : upd H9 gx.wa (.dT ((setW gx.ws m low).map wE)) gp = some (.dK gk4) := by rw [upd_ne (ne_of hg8 s8.at_.wh (fun z => nomatch z))]; exact hg8
          have tp9 : Tups H9 (upd H9 gx.wa (.dT ((setW gx.ws m low).map wE))) := Tups.upd fun xs e => by rw [s8.at_.wh] at e; cases e
          have pr9 := Paired.imp (fun _ _ z => PairAt.keep tp9 z) pr8
          change Ends.nx _ _ (upd H9 gx.wa (.dT ((setW gx.ws m low).map wE)))
          generalize upd H9 gx.wa (.dT ((setW gx.ws m low).map wE)) = H10 at s9 hq9 hd9 hl9 hg9 pr9 ⊢
          clear tp9
          refine ⟨_, rfl, o, _, _, _, _, rfl, s9.at_.obj, X.cl, X.n_rows, lk_rows .., _, rfl, gx.ro, .ref (gx.ra low), rfl, ?_, _, rfl, gx.ra low, _, rfl, DPut.t (s9.at_.row low lRx) hq9 (by rw [List.length_map]; exact sz (by show (gx.rl low).length ≤ _; omega)), ?_⟩
          · have := DGet.k (k := idK low) s9.at_.rows
            rw [val_i (f := fun d => V.ref (gx.ra d)), if_pos lRx] at this
            exact this
          rw [put_u]
          have s10 : Sg K o g H { gx with ws := setW gx.ws m low, rl := ov gx.rl low (ins m (gx.rl low)) } _ := s9.setRow lRx (ins m (gx.rl low))
          have hrow := s9.at_.row low lRx
          refine ⟨_, _, rfl, s10, mi.step rndM hm' lR5 (rl := ov gx.rl low (ins m (gx.rl low))) (fun d hd => ?_), df8, gf8, ?_, ?_, ?_, ?_⟩
          · by_cases e : d = low
            · rw [if_pos e, e, ov_same]
            · rw [if_neg e, ov_ne e]
          · rw [upd_ne (ne_of hd9 hrow (fun z => nomatch z))]; exact hd9
          · rw [upd_ne (ne_of hl9 hrow (fun z => nomatch z))]; exact hl9
          · exact Paired.imp (fun _ _ z => PairAt.keep (Tups.upd fun xs e => by rw [hrow] at e; cases e) z) pr9
          · rw [upd_ne (ne_of hg9 hrow (fun z => nomatch z))]; exact hg9
        · rintro σ H8 ⟨gx, v7, rfl, s8, mi, df8, gf8, hd8, hl8, pr8, hg8⟩
          refine ⟨hd8, ?_⟩
          have s9 := s8.other (a := g5.ra high) (x := .dT ((g5.rl high).map uE)) (s6.fr.new _ (.inr (.inr (.inr (.inr (.inr (.inl ⟨high, hR5, rfl⟩))))))) df8 fun xs e => by rw [hd8] at e; cases e
          have hl9 : upd H8 (g5.ra high) (.dT ((g5.rl high).map uE)) lp = some (.lst (ps ++ qs)) := by rw [upd_ne ldr]; exact hl8
          have hg9 : upd H8 (g5.ra high) (.dT ((g5.rl high).map uE)) gp = some (.dK gk4) := by rw [upd_ne gdr]; exact hg8
          have pr9 : Paired (PairAt (upd H8 (g5.ra high) (.dT ((g5.rl high).map uE)))) (left ++ fd) (ps ++ qs) := Paired.imp (fun _ _ z => PairAt.keep (Tups.upd fun xs e => by rw [hd8] at e; cases e) z) pr8
          generalize upd H8 (g5.ra high) (.dT ((g5.rl high).map uE)) = H9 at s9 hl9 hg9 pr9 ⊢
          have hkl : high ∈ gx.liveK := by rw [mi.lk, ti.lk]; exact highl
          refine ⟨_, rfl, o, _, _, _, _, rfl, s9.at_.obj, X.cl, X.n_kinds, lk_kinds .., gx.ki, rfl, .inl ⟨_, .inl s9.at_.kinds⟩, _, rfl, _, idK high, .str (kS (gx.cl high).word), s9.at_.kinds, rfl, (val_i (f := fun d => V.str (kS (gx.cl d).word)) ..).trans (if_pos hkl), ?_⟩
          rw [drop_i (f := fun d => V.str (kS (gx.cl d).word))]
          have s10 : Sg K o g H { gx with liveK := out high gx.liveK } _ := s9.setK (out high gx.liveK) gx.cl
          have hki := s9.at_.kinds
          have gki : gp ≠ gx.ki := fun z => gf8 (.inr (.inr (.inr (.inr (.inl z)))))
          have hLL : ∀ m, m ∈ g1.ul high ↔ high ∈ m.ids ∧ ∃ c, (m, c) ∈ g1.ws := fun m => w2.goo.use high highl m
          have hMM : ∀ n, n ∈ g5.rl high ↔ (n, high) ∈ g5.ws := fun n => ti.row high highl n
          have gx2 := merge_goo w2.goo lowl (Nat.ne_of_lt hlt) hLL ti hMM mi
          obtain ⟨run2, lf2⟩ := merge_run w2.goo lowl highl (Nat.ne_of_lt hlt) hLL ti hMM mi w2.cz lfl w2.run hx
          have liv : gx.liveR = out high g1.liveR := by rw [mi.lr, ti.lr]
          have ol := out_len w2.goo.lnd highl
          have mul : g1.liveR.length * (g.ws.length + 1) = (out high g1.liveR).length * (g.ws.length + 1) + (g.ws.length + 1) := by
            rw [← ol, Nat.add_mul]; omega
          refine ⟨_, sg low high ∘ ρ, ov γ high (some low), left ++ fd, ps ++ qs, gk4, _, _, _, _, _, ?_, rfl, ⟨s10, gx2, ?_, ?_, ?_, ?_, ?_, ?_, run2, lf2, ?_, ?_, ?_, gf8, gv4, ?_, ?_⟩⟩
          · show gx.liveR.length * _ + _ < _
            rw [liv, List.length_append, List.length_append, List.length_singleton]
            omega
          · show gx.fv = _; rw [mi.fv, ti.fv]; exact w2.fv
          · show gx.made = _; rw [mi.made, ti.made]; exact w2.made
          · show gx.rcs = _; rw [mi.rc, ti.rc]; exact w2.rc
          · show gx.cl = _; rw [mi.cl, ti.cl]; exact w2.cl
          · show gx.ws.length ≤ _; rw [mi.len]; exact Nat.le_trans ti.len wsl
          · show Cz _ _ _ gx.liveR
            rw [liv]
            exact w2.cz.step lowl highl hlt
          · rw [upd_ne (ne_of hl9 hki (fun z => nomatch z))]; exact hl9
          · exact Paired.imp (fun _ _ z => PairAt.keep (Tups.upd fun xs e => by rw [hki] at e; cases e) z) pr9
          · rw [upd_ne gki]; exact hg9
          · show gk4.length + gx.liveR.length ≤ _
            rw [liv]
            omega
          · show (left ++ fd).length + gx.liveR.length * _ ≤ _
            rw [liv, List.length_append]
            omega
end K45
/-! part K45R4 -/
set_option autoImplicit true
set_option Elab.async false
set_option linter.all false
set_option maxRecDepth 100000
set_option maxHeartbeats 4000000
/-! Rules: sorted of nodes (tuples of a text and ints or a text). -/
namespace K45
open PySem PySem.Spec PyProof.Rows L2
theorem str_cps {x y : Str} (h : x.cps.toList = y.cps.toList) : x = y := by
  have hc : x.cps = y.cps := Array.toList_inj.mp h
  cases x
  cases y
  simp only [Str.mk.injEq]
  exact hc
def tkN : L2.Key → Int ⊕ List Nat
  | .inl i => .inl i
  | .inr x => .inr x.cps.toList
def ltN (n m : N) : Bool := PyProof.Rows.lexLt itemOrd (n.key.map tkN) (m.key.map tkN)
theorem swoN {α : Type} (k : α → N) : SrtO.Swo (fun v u : α => ltN (k v) (k u)) := by
  refine ⟨fun x y h => ?_, fun x y z h1 h2 => ?_⟩
  · cases e : ltN (k y) (k x) with
    | false => rfl
    | true =>
      have := PyProof.Rows.lex_trans (O := itemOrd) _ _ _ h e
      rw [PyProof.Rows.lex_irrefl] at this
      cases this
  · cases e : ltN (k z) (k x) with
    | false => rfl
    | true =>
      rcases PyProof.Rows.lex_negTrans (O := itemOrd) _ ((k y).key.map tkN) _ e with q | q
      · have h2 : PyProof.Rows.lexLt itemOrd ((k z).key.map tkN) ((k y).key.map tkN) = false := h2
        rw [q] at h2; cases h2
      · have h1 : PyProof.Rows.lexLt itemOrd ((k y).key.map tkN) ((k x).key.map tkN) = false := h1
        rw [q] at h1; cases h1
/-- up to the first that differs the items are of one kind -/
def Okc : List L2.Key → List L2.Key → Prop
  | .inl i :: ks, .inl j :: ls => i = j → Okc ks ls
  | .inr x :: ks, .inr y :: ls => x = y → Okc ks ls
  | .inl _ :: _, .inr _ :: _ => False
  | .inr _ :: _, .inl _ :: _ => False
  | [], _ => True
  | _ :: _, [] => True
theorem okc_ids : ∀ a b : List Nat, Okc (a.map idK) (b.map idK)
  | [], _ => trivial
  | _ :: _, [] => trivial
  | x :: a, y :: b => fun _ => okc_ids a b
theorem okc_nodes (n m : N) : Okc n.key m.key := by
  cases n with
  | lf i =>
    cases m with
    | lf j => cases i <;> cases j <;> first | exact fun _ _ => trivial | exact fun _ => trivial | exact fun h => absurd h (by decide +kernel)
    | nd l ids => exact fun h => absurd h.symm (lab_lf l i)
  | nd l ids =>
    cases m with
    | lf j => exact fun h => absurd h (lab_lf l j)
    | nd l' ids' => exact fun _ => okc_ids ids ids'
section
variable {prog : Program} {w : World} {A : Around} {E : Value → Shared → Prop} {s : Shared}
theorem kat_keys {b fin : Bool} {Q : Bool → Shared → Prop} : ∀ (ks ls : List L2.Key) (us vs : List Value) (i : Nat), Vals (ks.map kV) us → Vals (ls.map kV) vs → Okc ks ls → fin = decide (ks.length < ls.length) →
    Q (PyProof.Rows.lexLt itemOrd (ks.map tkN) (ls.map tkN)) s → PySem.W.KatLex prog w A b fin Q (us.zip vs) i s
  | [], [], _, _, _, .nil, .nil, _, e, h => by rw [show fin = false by rw [e]; simp]; exact PySem.W.kat_nil h
  | [], _ :: _, _, _, _, .nil, .cons _ _, _, e, h => by rw [show fin = true by rw [e]; simp]; exact PySem.W.kat_nil h
  | _ :: _, [], _, _, _, .cons _ _, .nil, _, e, h => by rw [show fin = false by rw [e]; simp]; exact PySem.W.kat_nil h
  | .inl x :: ks, .inl y :: ls, _, _, i, .cons r rs, .cons q qs, ok, e, h => by
    obtain ⟨t, rfl⟩ := r
    obtain ⟨t', rfl⟩ := q
    refine PySem.W.kat_cons (SeqAt.EqAt.int_int x t y t' prog w _ _ ?_)
    refine PySem.W.kat_go (fun e1 => ?_) (fun e1 => ?_)
    · have exy : x = y := by simpa using e1
      subst exy
      refine PySem.W.kat_yes (kat_keys ks ls _ _ (i + 1) rs qs (ok rfl) (by rw [e]; simp) ?_)
      rw [List.map_cons, List.map_cons] at h
      exact (PyProof.Rows.lex_self (O := itemOrd) (tkN (.inl x)) _ _) ▸ h
    · have exy : x ≠ y := by simpa using e1
      refine PySem.W.kat_no (PyProof.Rows.oneLt_any_int ?_)
      rw [List.map_cons, List.map_cons, PyProof.Rows.lex_diff (O := itemOrd) (x := tkN (.inl x)) (y := tkN (.inl y)) (fun z => exy (Sum.inl.inj z))] at h
      exact h
  | .inr x :: ks, .inr y :: ls, _, _, i, .cons r rs, .cons q qs, ok, e, h => by
    obtain ⟨t, rfl⟩ := r
    obtain ⟨t', rfl⟩ := q
    refine PySem.W.kat_cons (SeqAt.EqAt.str_str x t y t' prog w _ _ ?_)
    refine PySem.W.kat_go (fun e1 => ?_) (fun e1 => ?_)
    · have exy : x = y := by simpa using e1
      subst exy
      refine PySem.W.kat_yes (kat_keys ks ls _ _ (i + 1) rs qs (ok rfl) (by rw [e]; simp) ?_)
      rw [List.map_cons, List.map_cons] at h
      exact (PyProof.Rows.lex_self (O := itemOrd) (tkN (.inr x)) _ _) ▸ h
    · have exy : x ≠ y := by simpa using e1
      refine PySem.W.kat_no (PyProof.Rows.oneLt_any_str ?_)
      rw [List.map_cons, List.map_cons, PyProof.Rows.lex_diff (O := itemOrd) (x := tkN (.inr x)) (y := tkN (.inr y)) (fun z => exy (str_cps (Sum.inr.inj z)))] at h
      exact h
  | .inl _ :: _, .inr _ :: _, _, _, _, _, _, ok, _, _ => ok.elim
  | .inr _ :: _, .inl _ :: _, _, _, _, _, _, ok, _, _ => ok.elim
def NodeAt (h : Heap) (v : Value) (n : N) : Prop := ∃ (a : Addr) (items : List Value) (o : Obj) (c : Nat), v = .ref a ∧ h.get? a = some o ∧ o.cls = .type "tuple" ∧ o.data = .seq items.toArray c ∧ Vals (n.key.map kV) items
theorem NodeAt.keeps {h h' : Heap} {v : Value} {n : N} (x : NodeAt h v n) (k : ∀ b o, h.get? b = some o → o.cls = .type "tuple" → h'.get? b = some o) : NodeAt h' v n := by
  obtain ⟨a, items, o, c, e, h1, h2, h3, h4⟩ := x
  exact ⟨a, items, o, c, e, k _ _ h1 h2, h2, h3, h4⟩
theorem node_cmp {vs : List Value} {k : Value → N} (hp : ∀ v ∈ vs, NodeAt s.heap v (k v)) : SrtO.Cmp prog w A s (tuples' true) (fun p => p.1 ∈ vs) (SrtO.lt2 fun v u => ltN (k v) (k u)) := by
  intro p q hm hm'
  obtain ⟨a, items, o, c, e, ho, hc, hd, hv⟩ := hp _ hm
  obtain ⟨a', items', o', c', e', ho', hc', hd', hv'⟩ := hp _ hm'
  show wpAny (model prog w) A (keyLt' (tuples' true) p.1 q.1) (fun r s' => s' = s ∧ r = ltN (k p.1) (k q.1)) (fun _ _ => False) s
  generalize k p.1 = n at hv ⊢
  generalize k q.1 = m at hv' ⊢
  rw [e, e']
  refine PySem.W.kat_lt ho hd ho' hd' ?_
  have l1 := hv.length
  have l2 := hv'.length
  rw [List.length_map] at l1 l2
  refine kat_keys n.key m.key items items' 0 hv hv' (okc_nodes n m) ?_ ⟨rfl, rfl⟩
  rw [l1, l2, List.size_toArray, List.size_toArray]
theorem node_firsts {h : Heap} {k : Value → N} : ∀ vs : List Value, (∀ v ∈ vs, NodeAt h v (k v)) → ∃ fs, PySem.W.KatTups h vs fs ∧ fs.length = vs.length ∧ ∀ f ∈ fs, ∃ x t, f = Value.str x t
  | [], _ => ⟨[], .nil, rfl, fun _ h => nomatch h⟩
  | v :: vs, hp => by
    obtain ⟨fs, h1, h2, h3⟩ := node_firsts vs fun u hu => hp u (List.mem_cons_of_mem _ hu)
    obtain ⟨a, items, o, c, rfl, ho, hc, hd, hv⟩ := hp v List.mem_cons_self
    have hv' : Vals (V.str (k (.ref a)).hd.str :: (((k (.ref a)).hd.rest ++ (k (.ref a)).ids.map idK).map kV)) items := hv
    cases hv' with
    | @cons x u xs us r rs =>
      obtain ⟨t, rfl⟩ := r
      refine ⟨Value.str (k (.ref a)).hd.str t :: fs, ?_, by rw [List.length_cons, List.length_cons, h2], fun f hf => ?_⟩
      · exact .cons ho hc hd rfl h1
      · rcases List.mem_cons.mp hf with rfl | hf
        · exact ⟨_, _, rfl⟩
        · exact h3 f hf
theorem node_sortable {a : Addr} {vs : List Value} {k : Value → N} (h0 : 0 < vs.length) (hp : ∀ v ∈ vs, NodeAt s.heap v (k v)) (ha : ∀ o, s.heap.get? a = some o → o.cls ≠ .type "tuple") : SrtO.SortableO prog w A s a vs fun v u => ltN (k v) (k u) := by
  intro h' keep
  have hp' : ∀ v ∈ vs, NodeAt h' v (k v) := fun v hm => (hp v hm).keeps fun b o e c => keep b o (fun z => by subst z; exact ha o e c) e
  obtain ⟨fs, h1, h2, h3⟩ := node_firsts vs hp'
  refine ⟨tuples' true, fun Q E hq => ?_, node_cmp hp'⟩
  refine PySem.W.kat_kind (T := .type "str") h1 (by omega) (fun f hm => ?_) (by rfl) ?_
  · obtain ⟨x, t, rfl⟩ := h3 f hm
    exact PySem.W.Looks.now
  · have e : (Value.type "str" != Value.type "tuple") = true := by first | decide +kernel | rfl | decide
    rw [e]
    exact hq
theorem nodeOf {H : Hp} {h : Heap} {P : Program} {b : Addr} {n : N} (ok : HOk P w H h) (e : H b = some (.tup (n.key.map kV))) : NodeAt h (.ref b) n := by
  obtain ⟨_, its, rv, o, ho, hc, c, hd⟩ := ok b _ e
  exact ⟨b, its, o, c, rfl, ho, hc, hd, rv⟩
theorem pick_node {h : Heap} {vs : List Value} (hv : ∀ v ∈ vs, ∃ n, NodeAt h v n) : ∃ k : Value → N, ∀ v ∈ vs, NodeAt h v (k v) := by
  classical
  exact ⟨fun v => if q : ∃ n, NodeAt h v n then q.choose else .lf .na, fun v hm => by dsimp only; rw [dif_pos (hv v hm)]; exact (hv v hm).choose_spec⟩
end
section
variable {X : Cx}
/-- sorted(l), l a list of nodes -/
def rSortedNL (K : PySem.W.Frag) : List V → Hp → VK → Prop := fun vs H Q => ∃ (a : Addr) (bs : List Addr), vs = [V.ref a] ∧ SqL K H a (bs.map V.ref) ∧ (∀ b ∈ bs, ∃ n : N, H b = some (.tup (n.key.map kV))) ∧
  ∀ (cs : List Addr) (p : Addr), cs.length = bs.length → H p = none → Q (.ref p) (upd H p (.lst (cs.map V.ref)))
theorem refs_of_perm {vs out : List Value} {bs : List Addr} (e : vs = bs.map Value.ref) (p : out.Perm vs) : ∃ cs : List Addr, out = cs.map Value.ref ∧ cs.length = bs.length := by
  subst e
  have : ∀ v ∈ out, ∃ b, v = Value.ref b := fun v hv => by
    obtain ⟨b, _, e⟩ := List.mem_map.mp (p.mem_iff.mp hv)
    exact ⟨b, e.symm⟩
  have hl := p.length_eq
  rw [List.length_map] at hl
  clear p
  revert this
  rw [← hl]
  clear hl
  induction out with
  | nil => exact fun _ => ⟨[], rfl, rfl⟩
  | cons v out ih =>
    intro h
    obtain ⟨b, rfl⟩ := h v List.mem_cons_self
    obtain ⟨cs, e, l⟩ := ih fun u hu => h u (List.mem_cons_of_mem _ hu)
    exact ⟨b :: cs, by rw [e]; rfl, by rw [List.length_cons, List.length_cons, l]⟩
theorem cr_sortedNL : CallR X (.builtin "sorted") (rSortedNL X.K) := by
  intro pins s σ H vs us Q I r h
  obtain ⟨a, bs, rfl, hs, hn, q⟩ := h
  obtain ⟨its, rv, hl, hz⟩ := I.list hs
  rw [Vals.ref1 r]
  have ei : its = bs.map Value.ref := refs_at rv
  have hz' : its.length ≤ sizeLine := by rw [← rv.length]; exact hz
  have hv : ∀ v ∈ its, ∃ n, NodeAt s.heap v n := fun v hm => by
    rw [ei] at hm
    obtain ⟨b, hb, rfl⟩ := List.mem_map.mp hm
    obtain ⟨n, e⟩ := hn b hb
    exact ⟨n, nodeOf I.hok e⟩
  obtain ⟨k, hk⟩ := pick_node hv
  refine SrtO.sorted_ord (swoN k) hl.isList hz' (fun h2 h₁ a' ha' kk => node_sortable (by omega) (fun v hm => (hk v hm).keeps fun b o e _ => (kk b o e).2) fun o e => ?_) fun out h1 h2 => ?_
  · rw [ha'] at e
    cases e
    intro c
    exact absurd (Value.type.inj c) (by decide)
  obtain ⟨cs, ec, lc⟩ := refs_of_perm ei h2.1
  obtain ⟨ep, he'⟩ := PyProof.Rows.sortedAll_at s.heap its out.toArray
  have hlen : (cs.map V.ref).length ≤ sizeLine := by
    rw [List.length_map, lc]
    rw [List.length_map] at hz
    exact hz
  exact ⟨.ref _, upd H (s.heap.objs.size + 1) (.lst (cs.map V.ref)), I.laid (t' := s.toks) (fun _ _ => PyProof.Rows.sortedAll_old) (Nat.le_succ _) ⟨hlen, out, ep, by rw [ec]; exact vals_refs cs, he'⟩, rfl, q _ _ lc (I.hok.fresh (Nat.le_succ _))⟩
/-- sorted(d), d a dict whose keys are nodes -/
def rSortedND : List V → Hp → VK → Prop := fun vs H Q => ∃ (a : Addr) (l : List N), vs = [V.ref a] ∧ Rd H a (.dT (l.map uE)) ∧
  ∀ (cs : List Addr) (p : Addr), cs.length = l.length → H p = none → Q (.ref p) (upd H p (.lst (cs.map V.ref)))
theorem cr_sortedND (hc : X.calm = true) : CallR X (.builtin "sorted") rSortedND := by
  intro pins s σ H xs us Q I r h
  obtain ⟨d, l, rfl, hd, q⟩ := h
  obtain ⟨u, rfl, rx⟩ := r.one
  cases rx
  obtain ⟨z, hs, ks, pr, o, es, ep, ho, hx, hdt, he, hn⟩ := (show ObjOk X.prog X.w H s.heap d (.dT (l.map uE)) from hd.ok I.hok)
  have l1 : es.size = ks.length := size_of_entries he
  have l2 : (l.map uE).length = ks.length := Paired.length pr
  have l3 : l.length = ks.length := by rw [← l2, List.length_map]
  refine Calls.call_function_entry PyProof.Rows.kind_sorted PyProof.Rows.plain_sorted PyProof.Rows.entry_sorted (PyProof.Rows.args_sorted1 _) ?_
  unfold Builtin.«sorted»
  refine wpAny_bind (m := checkCount "sorted" 1 1 _) (wpAny_pure ?_)
  refine wpAny_bind (PySem.W.kdu_collect (A := X.A.in1) (kdl_raw hs hx hdt) (I.ok.hd hc) ho (by omega) fun h' tk acc hk hacc => ?_)
  have ea : acc.toList = (ks.map fun x => x.2.1).map Value.ref := by
    have hl : acc.toList.length = ks.length := by rw [Array.length_toList, hacc.1]; exact l1
    apply List.ext_getElem?
    intro j
    rw [List.getElem?_map, List.getElem?_map]
    cases hj : acc.toList[j]? with
    | none =>
      have h1 := List.getElem?_eq_none_iff.mp hj
      rw [List.getElem?_eq_none (by omega)]
      all_goals rfl
    | some v =>
      obtain ⟨en, hen, hv⟩ := hacc.2 j v (by rw [← Array.getElem?_toList]; exact hj)
      have qe := entry_at he j
      rw [hen] at qe
      cases hb : ks[j]? with
      | none =>
        rw [hb] at qe
        exact nomatch (show some en = none from qe)
      | some b =>
        rw [hb] at qe
        have e2 : en = entryOfKey (tupleKind (mixKind X.prog X.w)) b := Option.some.inj qe
        rw [hv, e2]
        all_goals rfl
  have hv : ∀ v ∈ acc.toList, ∃ n, NodeAt s.heap v n := fun v hm => by
    rw [ea, List.map_map] at hm
    obtain ⟨x, hx', rfl⟩ := List.mem_map.mp hm
    obtain ⟨j, hj⟩ := List.mem_iff_getElem?.mp hx'
    obtain ⟨p, hp, r1, r2, r3⟩ := DX.pget pr hj
    rw [List.getElem?_map] at hp
    obtain ⟨n, _, rfl⟩ := Option.map_eq_some_iff.mp hp
    exact ⟨n, nodeOf I.hok r2⟩
  obtain ⟨k, hk2⟩ := pick_node hv
  have hal : acc.toList.length = l.length := by rw [Array.length_toList, hacc.1, l3]; exact l1
  have hz2 : acc.toList.length ≤ sizeLine := by rw [hal, l3, ← l2]; exact z
  have I1 : Inv X pins σ H { s with heap := h', toks := tk } := I.kept hk
  refine wpAny_bind (wpAny_newList ?_ hz2)
  have hoL : (h'.push (seqObj "list" acc.toList.toArray 0)).get? h'.objs.size = some (seqObj "list" acc.toList.toArray 0) := Heap.get?_push_size _ rfl
  show wpAny _ _ _ _ _ { s with heap := h'.push (seqObj "list" acc.toList.toArray 0), toks := tk }
  refine wpAny_bind (wpAny_holding (wpAny_call_entry PyProof.Rows.slot_list_sort ⟨_, hoL, rfl⟩ PyProof.Rows.entry_list_sort
    (SrtO.list_sort_ord (s := { s with heap := h'.push (seqObj "list" acc.toList.toArray 0), toks := tk }) (swoN k) hoL hz2 (fun h2 => node_sortable (by omega) (fun v hm => (hk2 v hm).keeps fun b o e _ => Heap.get?_push_of_some _ (hk b o e)) fun o e => ?_) fun out h1 h2 => ⟨.none, rfl, ?_⟩) (PyProof.Rows.args_list_sort _)))
  · rw [hoL] at e
    cases e
    intro c
    exact absurd (Value.type.inj c) (by decide)
  obtain ⟨cs, ec, lc⟩ := refs_of_perm ea h2.1
  rw [List.length_map, ← l3] at lc
  obtain ⟨e', he'⟩ := PyProof.Rows.sortedHeap_at (vs := acc.toList) (out := out.toArray) hoL
  have hlen : (cs.map V.ref).length ≤ sizeLine := by
    rw [List.length_map, lc, ← hal]
    exact hz2
  refine wpAny_pure ⟨_, rfl, .ref h'.objs.size, upd H h'.objs.size (.lst (cs.map V.ref)), I1.laid (t' := tk) (fun b u e => ?_) (Nat.le_refl _)
    (show ObjOk X.prog X.w _ _ _ (.lst (cs.map V.ref)) from ⟨hlen, out, e', by rw [ec]; exact vals_refs cs, he'⟩), rfl, q _ _ lc (I1.hok.fresh (Nat.le_refl _))⟩
  have hb : b < h'.objs.size := Heap.lt_size e
  rw [PyProof.Rows.sortedHeap_old (Nat.ne_of_lt hb) (by rw [size_push']; exact Nat.lt_succ_of_lt hb)]
  exact Heap.get?_push_of_some _ e
end
end K45
/-! part K45L4 -/
set_option autoImplicit true
set_option Elab.async false
set_option linter.all false
set_option maxRecDepth 100000
set_option maxHeartbeats 4000000
/-! Walks: join, _found, class_of, _need, nodes, kind, __init__. -/
namespace K45
open PySem PySem.Spec PyProof.Rows L2
variable {P : Program} {w : World} {K : PySem.W.Frag} {mg : Str → Option Value} {base : Heap}
theorem Good.live {S : List T} {R : T → T → Prop} {g : G} (h : Good S R g) {t : T} {i : Nat} (e : find (look g.ws) t = some i) : i ∈ g.liveR := by
  obtain ⟨n, _, hn⟩ := find_some e
  exact (h.oo.pla n i (h.oo.look.mp hn)).1
def sp_join (K : PySem.W.Frag) (S : List T) (R : T → T → Prop) (n : Nat) : Sp := fun vs H Q _ => ∃ (o : Addr) (g : G) (t u : T) (v v' : V) (y : Str), vs = [.ref o, v, v', .str y] ∧ At K o g H ∧ Good S R g ∧ TmAt H t v ∧ TmAt H u v' ∧ t.ok ∧ u.ok ∧ t.word = u.word ∧ t.depth ≤ n ∧ u.depth ≤ n ∧ n ≤ 50 ∧
  (∀ x ∈ t.under, x ∈ S) ∧ (∀ x ∈ u.under, x ∈ S) ∧ g.made + t.size + u.size ≤ 2000 ∧ g.rcs.length ≤ 1000 ∧ Eqv R t u ∧
  ∀ H' g' ρ v, Sg K o g H g' H' → Good S R g' → Le ρ (look g.ws) (look g'.ws) → (∃ i, find (look g'.ws) t = some i ∧ find (look g'.ws) u = some i) → g'.made ≤ g.made + t.size + u.size → g'.rcs.length ≤ g.rcs.length + 1 → Q v H'
abbrev jN : List Str := ["self", "one", "other", "why", "mine", "its", "place", "spot"]
theorem sc_join : FnScope jN ["self", "one", "other", "why"] (defScope m_join) := ⟨rfl, rfl, rfl, by decide +kernel, rfl, by decide +kernel, by decide +kernel⟩
theorem ok_join (X : Fx P w K mg base) (S : List T) (R : T → T → Prop) (n : Nat) : OkE P w K mg base "join" ["self", "one", "other", "why"] (n + 6) (sp_join K S R n) := by
  obtain ⟨fd, F⟩ := X.fn 38 (d := dm_join) rfl
  obtain ⟨_, _, DL⟩ := ok_laid X S R n
  obtain ⟨f2, fd2, ds, DN⟩ := ok_need X n
  obtain ⟨_, _, DK⟩ := (ok_kind X n).mono (k := n + 5) (by omega)
  obtain ⟨_, _, DM⟩ := (ok_merged X S R).mono (k := n + 5) (by omega)
  obtain ⟨_, _, DF⟩ := (ok_fixed X n).mono (k := n + 5) (by omega)
  refine ⟨_, fd, X.m_join, F.bindsN fun _ _ _ _ _ _ us hl => match us, hl with | [_, _, _, _], _ => rfl, okN F sc_join (fun vs H Q E h => ?_) (fun cdv A outer s H vs Q E hr h => ?_)⟩
  · obtain ⟨o, _, _, _, _, _, _, rfl, _⟩ := h
    rfl
  · obtain ⟨o, g, t, u, v, v', y, rfl, h1, h2, ht, hu', hkt, hku, hw, hdt, hdu, hn, hSt, hSu, hm, hrc, hab, hQ⟩ := h
    refine ⟨_, pss_cons (ps_par (i := 4) (j := 5) rfl sc_join.nd rfl rfl (by decide) rfl rfl (pa_cons (pe_d DN.two hr (by rfl) (pa_cons (pv 1) (pa_cons pe_str pa_nil))) (pa_cons (pe_d DN.two hr (by rfl) (pa_cons (pv 2) (pa_cons pe_str pa_nil))) pa_nil)) (by rfl))
      (pss_cons (ps_if (pt_cmpR op_ne (pe_d DK hr (by rfl) (pa_cons (pv 4) pa_nil)) (pe_d DK hr (by rfl) (pa_cons (pv 5) pa_nil)) (nomark _)) pss_never pss_nil)
      (pss_cons (ps_par (i := 6) (j := 7) rfl sc_join.nd rfl rfl (by decide) rfl rfl (pa_cons (pe_m DL X.cl hr (pv 0) (pa_cons (pv 4) pa_nil)) (pa_cons (pe_m DL X.cl hr (pv 0) (pa_cons (pv 5) pa_nil)) pa_nil)) (by rfl))
      (pss_cons (ps_if (pt_cmpR op_eq (pv 6) (pv 7) (nomark _)) (pss_one (ps_ret pe_bl)) pss_nil)
      (pss_cons (ps_fld (pv 0) (pe_tup (StX.pa_star (pe_fld (pv 0) (by rfl)) (pa_cons (pe_tup (pa_cons (pv 4) (pa_cons (pv 5) (pa_cons (pe_d DF hr (by rfl) (pa_cons (pv 3) pa_nil)) pa_nil)))) pa_nil))) (by rfl))
      (pss_cons (ps_expr (pe_m DM X.cl hr (pv 0) (pa_cons (pv 6) (pa_cons (pv 7) pa_nil))))
      (pss_one (ps_ret pe_bl))))))), ?_⟩
    refine ⟨_, rfl, t, v, _, rfl, ht, hkt, hdt, fun H1 v1 q1 ht1 => ⟨_, rfl, u, v', _, rfl, hu'.keep (.of q1), hku, hdu, fun H2 v2 q2 hu2 => ⟨_, _, rfl, ?_⟩⟩⟩
    have ht2 := ht1.keep (.of q2)
    have q12 := Same.trans q1 q2
    refine ⟨_, rfl, t, v1, rfl, ht2, hkt, hdt, fun H3 q3 => ⟨_, rfl, u, v2, rfl, hu2.keep (.of q3), hku, hdu, fun H4 q4 => ⟨rfl, _, rfl, ?_⟩⟩⟩
    rw [show (!decide (V.str (kS t.word) = V.str (kS u.word))) = false by rw [hw]; simp]
    have q4' := Same.trans q12 (Same.trans q3 q4)
    have ht4 := ht2.keep (.of (Same.trans q3 q4))
    have hu4 := hu2.keep (.of (Same.trans q3 q4))
    refine iteF ⟨_, rfl, o, g.dx, g.fs, rfl, (h1.same q4').obj, rfl, _, rfl, o, g, t, v1, rfl, h1.same q4', h2, ht4, hkt, hdt, by omega, hSt, by omega, fun H5 g5 i s5 gd5 le5 f5 m5 rc5 => ?_⟩
    refine ⟨_, rfl, o, g5.dx, g5.fs, rfl, s5.at_.obj, rfl, _, rfl, o, g5, u, v2, rfl, s5.at_, gd5, hu4.keep (s5.tups (h1.same q4')), hku, hdu, by omega, hSu, by omega, fun H6 g6 j s6 gd6 le6 f6 m6 rc6 => ⟨_, _, rfl, ?_⟩⟩
    have s56 : Sg K o g H g6 H6 := (((Sg.refl h1).same q4').trans s5).trans s6
    have le56 := le5.trans le6
    have fi : find (look g6.ws) t = some i := le6.find t i f5
    refine ⟨_, rfl, _, rfl, rfl, _, rfl, ?_⟩
    by_cases e : i = j
    · rw [decide_eq_true (show V.int (i : Int) = V.int (j : Int) by rw [e])]
      exact iteT (hQ H6 g6 _ _ s56 gd6 le56 ⟨i, fi, by rw [e]; exact f6⟩ (by omega) (by rw [rc6, rc5]; omega))
    · rw [decide_eq_false (fun z => e (by have := V.int.inj z; omega))]
      refine iteF ⟨_, rfl, o, _, _, _, _, rfl, s6.at_.obj, X.cl, X.nrecord, lk_record .., _, _, rfl, .inl (SqT.of s6.at_.hrc), _, rfl, _, rfl, _, rfl, .inl (.inr y), .str y, rfl, rfl, fun _ e => (by cases e), fun H7 z q7 hz => ?_⟩
      refine ⟨(by show 3 ≤ sizeLine; decide), fun r hr' => ⟨?_, fun r2 hr2 => ?_⟩⟩
      · rw [List.length_append, rc6, rc5]
        exact Nat.le_of_lt (Nat.lt_of_le_of_lt (show g.rcs.length + 1 ≤ 5000 by omega) (by decide))
      · have s8 := ((s6.same q7).same (Same.upd hr' (o := .tup [v1, v2, z]))).same (Same.upd hr2 (o := .tup (g6.rcs ++ [.ref r])))
        have hr8 : upd (upd H7 r (.tup [v1, v2, z])) r2 (.tup (g6.rcs ++ [.ref r])) r2 = some (.tup (g6.rcs ++ [.ref r])) := upd_same
        generalize upd (upd H7 r (.tup [v1, v2, z])) r2 (.tup (g6.rcs ++ [.ref r])) = H8 at s8 hr8 ⊢
        refine ⟨_, rfl, o, _, _, _, rfl, s8.at_.obj, X.cl, X.nrecord, (by show 9 < 1000; omega), ?_⟩
        have s9 : Sg K o g5 H5 { g6 with rc := r2, rcs := g6.rcs ++ [.ref r] } _ := s8.fld g6.made g6.many g6.pl r2 g6.pls (g6.rcs ++ [.ref r]) g6.fv s8.at_.hpl hr8
        change Ends.nx _ _ (upd H8 o (.ins (He.ga K "Classes") g6.dx (flds (.ref g6.pl) (.int g6.many) (.ref r2) (.int g6.made) (.ref g6.wa) (.ref g6.ro) (.ref g6.us) (.ref g6.ki) g6.fv)))
        change Sg K o g5 H5 _ (upd H8 o (.ins (He.ga K "Classes") g6.dx (flds (.ref g6.pl) (.int g6.many) (.ref r2) (.int g6.made) (.ref g6.wa) (.ref g6.ro) (.ref g6.us) (.ref g6.ki) g6.fv))) at s9
        generalize upd H8 o _ = H9 at s9 ⊢
        have gd9 : Good S R { g6 with rc := r2, rcs := g6.rcs ++ [.ref r] } := ⟨⟨gd6.oo.nd, gd6.oo.lnd, gd6.oo.lu, gd6.oo.lk, gd6.oo.row, gd6.oo.use, gd6.oo.rnd, gd6.oo.und, gd6.oo.pla, gd6.oo.low, gd6.oo.cnt⟩, gd6.many, gd6.plc, gd6.ful, gd6.cov, gd6.snd, gd6.fv⟩
        refine ⟨_, rfl, o, _, _, rfl, s9.at_.obj, rfl, _, rfl, _, rfl, o, _, i, j, rfl, s9.at_, gd9, (by show g6.made ≤ 2000; omega), gd6.live fi, gd6.live f6, .trans (.symm (gd6.snd.find t i fi)) (.trans hab (gd6.snd.find u j f6)), fun H10 g10 ρ s10 gd10 le10 e10 m10 rc10 => ?_⟩
        refine hQ H10 g10 _ _ ((((Sg.refl h1).same q4').trans s5).trans (s9.trans s10)) gd10 (le56.trans le10) ⟨ρ i, le10.find t i fi, by rw [e10]; exact le10.find u j f6⟩ ?_ ?_
        · rw [m10]; show g6.made ≤ _; omega
        · rw [rc10]
          show (g6.rcs ++ [V.ref r]).length ≤ _
          rw [List.length_append, rc6, rc5]
          exact Nat.le_refl _
end K45
/-! part K45L5 -/
set_option autoImplicit true
set_option Elab.async false
set_option linter.all false
set_option maxRecDepth 100000
set_option maxHeartbeats 4000000
/-! Walks: _found, class_of, _need, nodes, kind, __init__. -/
namespace K45
open PySem PySem.Spec PyProof.Rows L2
variable {P : Program} {w : World} {K : PySem.W.Frag} {mg : Str → Option Value} {base : Heap}
theorem no_none : ∀ ids : List Nat, inV .non (ids.map fun j : Nat => V.int (j : Int)) = false
  | [] => rfl
  | i :: ids => by
    unfold inV
    rw [List.map_cons, List.any_cons]
    exact (Bool.or_eq_false_iff.mpr ⟨rfl, no_none ids⟩)
theorem flat_ids : ∀ ids : List Nat, (ids.map fun j : Nat => V.int (j : Int)).all flatV = true
  | [] => rfl
  | i :: ids => by rw [List.map_cons, List.all_cons, flat_ids ids]; rfl
def sp_found (K : PySem.W.Frag) (n : Nat) : Sp := fun vs H Q _ => ∃ (o : Addr) (g : G) (t : T) (v : V) (i : Nat), vs = [.ref o, v] ∧ At K o g H ∧ TmAt H t v ∧ t.ok ∧ t.depth ≤ n ∧ t.depth ≤ 50 ∧ find (look g.ws) t = some i ∧ ∀ H', Same H H' → Q (.int (i : Int)) H'
abbrev fN : List Str := ["self", "term", "parts", "part"]
theorem sc_found : FnScope fN ["self", "term"] (defScope m__found) := ⟨rfl, rfl, rfl, by decide +kernel, rfl, by decide +kernel, by decide +kernel⟩
theorem ok_found (X : Fx P w K mg base) : ∀ n : Nat, OkE P w K mg base "_found" ["self", "term"] (n + 2) (sp_found K n) := by
  have step : ∀ (n : Nat) (rec : n = 0 ∨ ∃ m, n = m + 1 ∧ OkE P w K mg base "_found" ["self", "term"] (n + 1) (sp_found K m)), OkE P w K mg base "_found" ["self", "term"] (n + 2) (sp_found K n) := by
    intro n rec
    obtain ⟨fd, F⟩ := X.fn 40 (d := dm__found) rfl
    obtain ⟨_, _, D1⟩ := (ok_parts_in X).mono (k := n + 1) (by omega)
    refine ⟨_, fd, X.m__found, F.bindsN fun _ _ _ _ _ _ us hl => match us, hl with | [_, _], _ => rfl, okN F sc_found (fun vs H Q E h => ?_) (fun cdv A outer s H vs Q E hr h => ?_)⟩
    · obtain ⟨o, _, _, _, _, rfl, _⟩ := h
      rfl
    · obtain ⟨o, g, t, v, i, rfl, h1, ht, hk, hd, hd5, hf, hQ⟩ := h
      obtain ⟨m, rfl, f', fd', D⟩ : ∃ m, n = m + 1 ∧ OkE P w K mg base "_found" ["self", "term"] (n + 1) (sp_found K m) := by
        rcases rec with e | e
        · have := t.depth_pos
          omega
        · exact e
      have hu := hu_of hr
      refine ⟨_, pss_cons (ps_if (pt_cmpR (op_eqD hr.units) (pe_d D1 hr (by rfl) (pa_cons (pv 1) pa_nil)) (pe_tup pa_nil) (nomark _)) (pss_one (ps_ret (pe_dget1 hu (pe_fld (pv 0) (by rfl)) (pv 1) ⟨rfl, rfl, rfl, rfl⟩))) pss_nil)
        (pss_cons (ps_setLc (i := 2) (own := [("part", 3)]) (g := gName 3) (tt := tYes) rfl sc_found.nd rfl rfl (by rfl) (pi_tup (pe_slice sl_tup (pv 1) (po_some pe_int) po_none))
            (blkOk_by (own := [("part", 3)]) (N := fN) (sc := defScope m__found) (by decide +kernel))
            (fun _ _ _ _ _ => pg_name (i := 3) sc_found.nd rfl (Or.inl rfl)) (fun _ _ _ _ _ => pts_nil) (fun _ _ _ _ _ => pe_m D X.cl hr (pv 0) (pa_cons (pv 3) pa_nil)))
        (pss_one (ps_ret (pe_ifExp (pt_cmpR op_in_seq pe_non (pv 2) rfl) pe_non (pe_dget1 hu (pe_fld (pv 0) (by rfl)) (pe_tup (pa_cons (pe_ix ix_tup (pv 1) pe_int (fun _ _ => rfl)) (StX.pa_star (pv 2) pa_nil))) ⟨rfl, rfl, rfl, rfl⟩))))), ?_⟩
      obtain ⟨a, us, rfl, ha, hp⟩ := TmAt.iff.mp ht
      have leafc : ∀ i, t.hd = .lf i → us = [] := fun i e => by
        have e0 : t = .lf i := by
          cases t <;> simp only [T.hd, Hd.lf.injEq, reduceCtorEq] at e
          rw [e]
        subst e0
        cases hp
        rfl
      obtain ⟨nn, hnd, hw⟩ := find_some hf
      refine ⟨_, rfl, a, t.hd, us, rfl, ha, leafc, fun p hp' => ⟨(by show 0 ≤ sizeLine; decide), fun q hq => ?_⟩⟩
      have q1 : Same H (upd (upd H p (.tup us)) q (.tup [])) := Same.trans (Same.upd hp') (Same.upd hq)
      have pq : upd (upd H p (.tup us)) q (.tup []) p = some (.tup us) := Same.upd hq _ _ upd_same
      refine ⟨.tuple (t.parts.map enc), .tuple [], .tup (SqT.of pq) (dp_all (Paired.imp (fun _ _ z => TmAt.keep (.of q1) z) hp)), .tup (SqT.of upd_same) .nil, parts_shaped (fun x hx => by have := T.depth_part hx; omega), by decide +kernel, _, rfl, ?_⟩
      rw [eqv_empty]
      have s1 := h1.same q1
      generalize upd (upd H p (.tup us)) q (.tup []) = H1 at q1 s1 ⊢
      have ha1 := q1 _ _ ha
      by_cases hl : ∃ i, t = .lf i
      · obtain ⟨j, rfl⟩ := hl
        cases hp
        have en : nn = .lf j := by simpa [nd] using hnd.symm
        subst en
        refine iteT ⟨_, rfl, o, _, _, _, _, rfl, s1.obj, X.cl, X.n_where, lk_where .., g.wa, rfl, .inr ⟨_, .inl s1.wh⟩, _, rfl, _, DGet.t s1.wh (k := (N.lf j).key) (by rw [N.key_map, ha1]; rfl), ?_⟩
        rw [val_w, hw]
        exact hQ H1 q1
      · have hne : ∃ l ids0, t.hd = .nd l ∧ t.parts = ids0 ∧ t.parts ≠ [] := by
          cases t with
          | lf i => exact absurd ⟨i, rfl⟩ hl
          | un l x => exact ⟨l, _, rfl, rfl, by simp [T.parts]⟩
          | bin l x y => exact ⟨l, _, rfl, rfl, by simp [T.parts]⟩
          | ter l x y z => exact ⟨l, _, rfl, rfl, by simp [T.parts]⟩
        obtain ⟨l, _, e1, _, e2⟩ := hne
        have e3 : (t.parts.map enc).isEmpty = false := by
          cases e : t.parts with
          | nil => exact absurd e e2
          | cons => rfl
        rw [e3]
        obtain ⟨n1, n2⟩ := nd_iff.mp hnd
        have ha2 : H a = some (.tup (.str l.str :: us)) := by rw [ha, e1]; rfl
        have ha3 := q1 _ _ ha2
        have lu := Paired.len hp
        have l3 : us.length ≤ 3 := by rw [← lu]; exact parts3 t
        refine iteF ⟨_, rfl, 1, rfl, a, _, rfl, SqT.of ha3, cut1_ne _ _, fun r hr' => ?_⟩
        rw [cut1]
        have s2 := s1.same (Same.upd hr' (o := .tup us))
        have q2 : Same H (upd H1 r (.tup us)) := Same.trans q1 (Same.upd hr')
        have hr2 : upd H1 r (.tup us) r = some (.tup us) := upd_same
        generalize upd H1 r (.tup us) = H2 at s2 q2 hr2 ⊢
        have hl2 : us.length = nn.ids.length := by
          have := congrArg List.length n2
          rw [List.length_map, List.length_map] at this
          omega
        refine ⟨r, rfl, ⟨_, SqT.of hr2⟩, fun D' hD => lc_tup (K := K) (a := r) (xs := us) (fun i H3 => Same H2 H3 ∧ H3 D' = some (.lst ((nn.ids.take i).map fun j : Nat => V.int (j : Int))))
          ⟨Same.upd hD, by rw [upd_same]; simp⟩ (fun i H3 _ ⟨h, _⟩ => SqT.of (h _ _ hr2)) ?_ ?_⟩
        · rintro i x H3 hx ⟨s3, hD3⟩
          obtain ⟨t', ht', tx⟩ := Paired.get hp hx
          have mp : t' ∈ t.parts := List.mem_of_getElem? ht'
          have hi := (List.getElem?_eq_some_iff.mp hx).1
          obtain ⟨j, hj⟩ : ∃ j, nn.ids[i]? = some j := ⟨nn.ids[i], List.getElem?_eq_getElem (by omega)⟩
          have fj : find (look g.ws) t' = some j := by
            have := congrArg (fun l => l[i]?) n2
            simp only [List.getElem?_map, ht', hj, Option.map_some, Option.some.injEq] at this
            exact this
          have q3 := Same.trans q2 s3
          refine ⟨rfl, _, rfl, o, g.dx, g.fs, rfl, (h1.same q3).obj, rfl, _, rfl, o, g, t', x, j, rfl, h1.same q3, tx.keep (.of q3), ((T.ok_iff t).mp hk).2 t' mp, ?_, ?_, fj, fun H4 s4 => ?_⟩
          · have := T.depth_part mp; omega
          · have := T.depth_part mp; omega
          · refine ⟨_, s4 _ _ hD3, ?_, fun b u e => ?_, ?_⟩
            · rw [List.length_map, List.length_take]
              exact size6 (by omega)
            · rw [upd_ne (ne_of_none e hD)]; exact s4 _ _ (s3 _ _ e)
            · rw [upd_same, take_snoc hj, List.map_append]; rfl
        · rintro H3 ⟨s3, hD3⟩
          rw [hl2, List.take_length] at hD3
          have q3 := Same.trans q2 s3
          have s4 := s2.same s3
          refine ⟨_, rfl, D', _, rfl, .inl (SqL.of hD3), rfl, flat_ids nn.ids, _, rfl, ?_⟩
          show if (if false = true then !inV .non (nn.ids.map fun j : Nat => V.int (j : Int)) else inV .non (nn.ids.map fun j : Nat => V.int (j : Int))) = true then _ else _
          rw [if_neg Bool.false_ne_true, no_none]
          refine iteF ⟨_, rfl, o, _, _, _, _, rfl, s4.obj, X.cl, X.n_where, lk_where .., g.wa, rfl, .inr ⟨_, .inl s4.wh⟩, _, rfl, a, _, 0, _, rfl, rfl, SqT.of (s3 _ _ (q2 _ _ ha2)), atI_nat (j := 0) rfl, _, rfl, D', _, rfl, .inr (SqL.of hD3), ?_, fun b hb => ?_⟩
          · show (V.str l.str :: ((nn.ids.map fun j : Nat => V.int (j : Int)) ++ [])).length ≤ sizeLine
            rw [List.length_cons, List.length_append, List.length_map]
            exact Nat.le_of_lt (size6 (by simp; omega))
          · have s5 := s4.same (Same.upd hb (o := .tup (.str l.str :: ((nn.ids.map fun j : Nat => V.int (j : Int)) ++ []))))
            have hne : nn.hd = .nd l := n1.trans e1
            refine ⟨_, DGet.t s5.wh (k := nn.key) (by rw [upd_same, N.key_map, hne, List.append_nil]; rfl), ?_⟩
            rw [val_w, hw]
            exact hQ _ (Same.trans q3 (Same.upd hb))
  intro n
  induction n with
  | zero => exact step 0 (.inl rfl)
  | succ m ih => exact step (m + 1) (.inr ⟨m, rfl, ih⟩)
theorem sc_class_of : FnScope ["self", "term"] ["self", "term"] (defScope m_class_of) := ⟨rfl, rfl, rfl, by decide +kernel, rfl, by decide +kernel, by decide +kernel⟩
theorem ok_class_of (X : Fx P w K mg base) (n : Nat) : OkE P w K mg base "class_of" ["self", "term"] (n + 6) (sp_found K n) := by
  obtain ⟨fd, F⟩ := X.fn 39 (d := dm_class_of) rfl
  obtain ⟨_, _, D1⟩ := (ok_found X n).mono (k := n + 5) (by omega)
  obtain ⟨f2, fd2, ds, D2⟩ := ok_need X n
  refine ⟨_, fd, X.m_class_of, F.bindsN fun _ _ _ _ _ _ us hl => match us, hl with | [_, _], _ => rfl, okN F sc_class_of (fun vs H Q E h => ?_) (fun cdv A outer s H vs Q E hr h => ?_)⟩
  · obtain ⟨o, _, _, _, _, rfl, _⟩ := h
    rfl
  · obtain ⟨o, g, t, v, i, rfl, h1, ht, hk, hd, hd5, hf, hQ⟩ := h
    refine ⟨_, pss_one (ps_ret (pe_m D1 X.cl hr (pv 0) (pa_cons (pe_d D2.two hr (by rfl) (pa_cons (pv 1) (pa_cons pe_str pa_nil))) pa_nil))), ?_⟩
    exact ⟨_, rfl, o, g.dx, g.fs, rfl, h1.obj, rfl, _, rfl, t, v, _, rfl, ht, hk, hd, fun H1 u s1 hu => ⟨o, g, t, u, i, rfl, h1.same s1, hu, hk, hd, hd5, hf, fun H' s2 => hQ H' (Same.trans s1 s2)⟩⟩
/-! _need, nodes, kind -/
def sp_need1 (K : PySem.W.Frag) : Sp := fun vs H Q _ => ∃ (o : Addr) (g : G) (c : Nat), vs = [.ref o, .int (c : Int)] ∧ At K o g H ∧ c ∈ g.liveR ∧ ∀ H', Same H H' → Q .non H'
theorem sc_need1 : FnScope ["self", "place"] ["self", "place"] (defScope m__need) := ⟨rfl, rfl, rfl, by decide +kernel, rfl, by decide +kernel, by decide +kernel⟩
theorem ok_need1 (X : Fx P w K mg base) : OkE P w K mg base "_need" ["self", "place"] 2 (sp_need1 K) := by
  obtain ⟨fd, F⟩ := X.fn 41 (d := dm__need) rfl
  obtain ⟨_, _, D1⟩ := ok_is_integer X
  refine ⟨_, fd, X.m__need, F.bindsN fun _ _ _ _ _ _ us hl => match us, hl with | [_, _], _ => rfl, okN F sc_need1 (fun vs H Q E h => ?_) (fun cdv A outer s H vs Q E hr h => ?_)⟩
  · obtain ⟨o, _, _, rfl, _⟩ := h
    rfl
  · obtain ⟨o, g, c, rfl, h1, hc, hQ⟩ := h
    have hu := hu_of hr
    refine ⟨_, pss_one (ps_if (PW.pt (pw_or (pt_not (pt_val (pe_d D1 hr (by rfl) (pa_cons (pv 1) pa_nil)))) (pw_or1 (pt_cmp (pc_dnotin hu (pv 1) (pe_fld (pv 0) (by rfl))))))) pss_never pss_nil), ?_⟩
    refine ⟨_, rfl, c, rfl, _, rfl, ?_⟩
    refine iteF ⟨_, rfl, _, rfl, o, _, _, _, _, rfl, h1.obj, X.cl, X.n_rows, lk_rows .., g.ro, _, rfl, DGet.k (k := idK c) h1.rows, _, rfl, ?_⟩
    rw [val_i (f := fun d => V.ref (g.ra d)), if_pos hc]
    exact iteF (hQ H (Same.refl _))
end K45
/-! part K45L6 -/
set_option autoImplicit true
set_option Elab.async false
set_option linter.all false
set_option maxRecDepth 100000
set_option maxHeartbeats 4000000
/-! Walks: nodes, kind, __init__. -/
namespace K45
open PySem PySem.Spec PyProof.Rows L2
variable {P : Program} {w : World} {K : PySem.W.Frag} {mg : Str → Option Value} {base : Heap}
def sp_nodes (K : PySem.W.Frag) : Sp := fun vs H Q _ => ∃ (o : Addr) (g : G) (c : Nat), vs = [.ref o, .int (c : Int)] ∧ At K o g H ∧ c ∈ g.liveR ∧ ∀ H' p xs, Same H H' → H' p = some (.tup xs) → xs.length = (g.rl c).length → Q (.ref p) H'
theorem sc_nodes : FnScope ["self", "place"] ["self", "place"] (defScope m_nodes) := ⟨rfl, rfl, rfl, by decide +kernel, rfl, by decide +kernel, by decide +kernel⟩
theorem ok_nodes (X : Fx P w K mg base) : OkE P w K mg base "nodes" ["self", "place"] 3 (sp_nodes K) := by
  obtain ⟨fd, F⟩ := X.fn 42 (d := dm_nodes) rfl
  obtain ⟨_, _, D1⟩ := ok_need1 X
  refine ⟨_, fd, X.m_nodes, F.bindsN fun _ _ _ _ _ _ us hl => match us, hl with | [_, _], _ => rfl, okN F sc_nodes (fun vs H Q E h => ?_) (fun cdv A outer s H vs Q E hr h => ?_)⟩
  · obtain ⟨o, _, _, rfl, _⟩ := h
    rfl
  · obtain ⟨o, g, c, rfl, h1, hc, hQ⟩ := h
    have hu := hu_of hr
    refine ⟨_, pss_cons (ps_expr (pe_m D1 X.cl hr (pv 0) (pa_cons (pv 1) pa_nil))) (pss_one (ps_ret (pe_callTy call_tuple_of (by rfl) X.b_tuple (by decide +kernel) (pa_cons (pe_callB (cr_sortedND rfl) (by rfl) X.b_sorted (by decide +kernel) (pa_cons (pe_dget hu (pe_fld (pv 0) (by rfl)) (pv 1) (fun _ _ => rfl)) pa_nil)) pa_nil)))), ?_⟩
    refine ⟨_, rfl, o, g.dx, g.fs, rfl, h1.obj, rfl, _, rfl, o, g, c, rfl, h1, hc, fun H1 q1 => ?_⟩
    have h2 := h1.same q1
    refine ⟨_, rfl, o, _, _, _, _, rfl, h2.obj, X.cl, X.n_rows, lk_rows .., _, rfl, g.ro, .ref (g.ra c), rfl, ?_, g.ra c, g.rl c, rfl, .inl (h2.row c hc), fun cs p hl hp => ⟨p, _, rfl, .inl ⟨SqL.of upd_same, fun l hl' => ?_⟩⟩⟩
    · have := DGet.k (k := idK c) h2.rows
      rw [val_i (f := fun d => V.ref (g.ra d)), if_pos hc] at this
      exact this
    · exact hQ _ l _ (Same.trans q1 (Same.trans (Same.upd hp) (Same.upd hl'))) upd_same (by rw [List.length_map, hl])
def sp_kind1 (K : PySem.W.Frag) : Sp := fun vs H Q _ => ∃ (o : Addr) (g : G) (c : Nat), vs = [.ref o, .int (c : Int)] ∧ At K o g H ∧ c ∈ g.liveR ∧ c ∈ g.liveK ∧ ∀ H', Same H H' → Q (.str (kS (g.cl c).word)) H'
theorem sc_kind1 : FnScope ["self", "place"] ["self", "place"] (defScope m_kind) := ⟨rfl, rfl, rfl, by decide +kernel, rfl, by decide +kernel, by decide +kernel⟩
theorem ok_kind1 (X : Fx P w K mg base) : OkE P w K mg base "kind" ["self", "place"] 3 (sp_kind1 K) := by
  obtain ⟨fd, F⟩ := X.fn 43 (d := dm_kind) rfl
  obtain ⟨_, _, D1⟩ := ok_need1 X
  refine ⟨_, fd, X.m_kind, F.bindsN fun _ _ _ _ _ _ us hl => match us, hl with | [_, _], _ => rfl, okN F sc_kind1 (fun vs H Q E h => ?_) (fun cdv A outer s H vs Q E hr h => ?_)⟩
  · obtain ⟨o, _, _, rfl, _⟩ := h
    rfl
  · obtain ⟨o, g, c, rfl, h1, hc, hk, hQ⟩ := h
    have hu := hu_of hr
    refine ⟨_, pss_cons (ps_expr (pe_m D1 X.cl hr (pv 0) (pa_cons (pv 1) pa_nil))) (pss_one (ps_ret (pe_dget hu (pe_fld (pv 0) (by rfl)) (pv 1) (fun _ _ => rfl)))), ?_⟩
    refine ⟨_, rfl, o, g.dx, g.fs, rfl, h1.obj, rfl, _, rfl, o, g, c, rfl, h1, hc, fun H1 q1 => ?_⟩
    have h2 := h1.same q1
    refine ⟨_, rfl, o, _, _, _, _, rfl, h2.obj, X.cl, X.n_kinds, lk_kinds .., _, rfl, g.ki, .str (kS (g.cl c).word), rfl, ?_, hQ H1 q1⟩
    have := DGet.k (k := idK c) h2.kinds
    rw [val_i (f := fun d => V.str (kS (g.cl d).word)), if_pos hk] at this
    exact this
/-! __init__ -/
def Kp (o : Addr) (H H' : Hp) : Prop := ∀ b u, b ≠ o → H b = some u → H' b = some u
theorem Kp.same {o : Addr} {H H' : Hp} (h : Same H H') : Kp o H H' := fun b u _ e => h b u e
theorem Kp.trans {o : Addr} {H H1 H2 : Hp} (a : Kp o H H1) (b : Kp o H1 H2) : Kp o H H2 := fun c u hc e => b c u hc (a c u hc e)
theorem Kp.upd {o : Addr} {H : Hp} {x : HO} : Kp o H (L2.upd H o x) := fun b u hb e => by rw [upd_ne hb]; exact e
def sp_init (K : PySem.W.Frag) : Sp := fun vs H Q _ => ∃ (o dx : Addr), vs = [.ref o] ∧ H o = some (.ins (He.ga K "Classes") dx []) ∧ ∀ H' g, At K o g H' → (∀ S R, Good S R g) → g.made = 0 → g.rcs = [] → g.ws = [] → Kp o H H' → (∀ b, foot o g b → b = o ∨ H b = none) → (∀ b, H' b = none → H b = none) → Q .non H'
theorem sc_init : FnScope ["self"] ["self"] (defScope m___init__) := ⟨rfl, rfl, rfl, by decide +kernel, rfl, by decide +kernel, by decide +kernel⟩
theorem ok_init (X : Fx P w K mg base) : ∃ fd, FnOk P w K mg base CX0 1 (He.ma K (He.ga K "Classes") "__init__") fd ["self"] (sp_init K) ∧ Binds K fd ["self"] [] := by
  obtain ⟨fd, F⟩ := X.fn 33 (d := dm___init__) rfl
  refine ⟨fd, okN F sc_init (fun vs H Q E h => ?_) (fun cdv A outer s H vs Q E hr h => ?_), F.bindsN fun _ _ _ _ _ _ us hl => match us, hl with | [_], _ => rfl⟩
  · obtain ⟨o, _, rfl, _⟩ := h
    rfl
  · obtain ⟨o, dx, rfl, h0, hQ⟩ := h
    refine ⟨_, pss_cons (ps_fld (pv 0) (pe_tup pa_nil) (by rfl)) (pss_cons (ps_fld (pv 0) pe_int (by rfl)) (pss_cons (ps_fld (pv 0) (pe_tup pa_nil) (by rfl)) (pss_cons (ps_fld (pv 0) pe_int (by rfl))
      (pss_cons (ps_fld (pv 0) pe_dnewT (by rfl)) (pss_cons (ps_fld (pv 0) pe_dnewK (by rfl)) (pss_cons (ps_fld (pv 0) pe_dnewK (by rfl)) (pss_cons (ps_fld (pv 0) pe_dnewK (by rfl)) (pss_one (ps_fld (pv 0) pe_non (by rfl)))))))))), ?_⟩
    have a0 := h0
    have k0 : Kp o H H := fun _ _ _ e => e
    have n0 : ∀ b, H b = none → H b = none := fun _ e => e
    refine ⟨(by show 0 ≤ sizeLine; decide), fun p1 hp1 => ⟨_, rfl, o, _, dx, [], rfl, Same.upd hp1 _ _ a0, X.cl, X.nplaces, (by show 0 < 1000; omega), ?_⟩⟩
    have w1 : p1 ≠ o := (ne_of_none a0 hp1).symm
    have a1 : (upd (upd H p1 (.tup [])) o (.ins (He.ga K "Classes") dx [((("places" : Str)), (.ref p1 : V))])) o = some (.ins (He.ga K "Classes") dx [((("places" : Str)), (.ref p1 : V))]) := upd_same
    have f1_1 : (upd (upd H p1 (.tup [])) o (.ins (He.ga K "Classes") dx [((("places" : Str)), (.ref p1 : V))])) p1 = some (.tup []) := by rw [upd_ne w1, upd_same]
    have k1 : Kp o H (upd (upd H p1 (.tup [])) o (.ins (He.ga K "Classes") dx [((("places" : Str)), (.ref p1 : V))])) := (k0.trans (Kp.same (Same.upd hp1))).trans Kp.upd
    have n1 : ∀ b, (upd (upd H p1 (.tup [])) o (.ins (He.ga K "Classes") dx [((("places" : Str)), (.ref p1 : V))])) b = none → H b = none := fun b e => n0 b (upd_none (upd_none e))
    have z1 : H p1 = none := n0 _ hp1
    show tSeq _ _ _ _ (upd (upd H p1 (.tup [])) o (.ins (He.ga K "Classes") dx [((("places" : Str)), (.ref p1 : V))]))
    generalize upd (upd H p1 (.tup [])) o (.ins (He.ga K "Classes") dx [((("places" : Str)), (.ref p1 : V))]) = S1 at a1 k1 n1 f1_1 ⊢
    have f1 := f1_1
    clear f1_1
    refine ⟨_, rfl, o, _, dx, [((("places" : Str)), (.ref p1 : V))], rfl, a1, X.cl, X.nmany, (by show 1 < 1000; omega), ?_⟩
    have a2 : (upd S1 o (.ins (He.ga K "Classes") dx [((("places" : Str)), (.ref p1 : V)), ((("many" : Str)), (.int (0 : Nat) : V))])) o = some (.ins (He.ga K "Classes") dx [((("places" : Str)), (.ref p1 : V)), ((("many" : Str)), (.int (0 : Nat) : V))]) := upd_same
    have f1_2 : (upd S1 o (.ins (He.ga K "Classes") dx [((("places" : Str)), (.ref p1 : V)), ((("many" : Str)), (.int (0 : Nat) : V))])) p1 = some (.tup []) := by rw [upd_ne w1]; exact f1
    have k2 : Kp o H (upd S1 o (.ins (He.ga K "Classes") dx [((("places" : Str)), (.ref p1 : V)), ((("many" : Str)), (.int (0 : Nat) : V))])) := k1.trans Kp.upd
    have n2 : ∀ b, (upd S1 o (.ins (He.ga K "Classes") dx [((("places" : Str)), (.ref p1 : V)), ((("many" : Str)), (.int (0 : Nat) : V))])) b = none → H b = none := fun b e => n1 b (upd_none e)
    show tSeq _ _ _ _ (upd S1 o (.ins (He.ga K "Classes") dx [((("places" : Str)), (.ref p1 : V)), ((("many" : Str)), (.int (0 : Nat) : V))]))
    generalize upd S1 o (.ins (He.ga K "Classes") dx [((("places" : Str)), (.ref p1 : V)), ((("many" : Str)), (.int (0 : Nat) : V))]) = S2 at a2 k2 n2 f1_2 ⊢
    clear f1
    have f1 := f1_2
    clear f1_2
    refine ⟨(by show 0 ≤ sizeLine; decide), fun p3 hp3 => ⟨_, rfl, o, _, dx, [((("places" : Str)), (.ref p1 : V)), ((("many" : Str)), (.int (0 : Nat) : V))], rfl, Same.upd hp3 _ _ a2, X.cl, X.nrecord, (by show 2 < 1000; omega), ?_⟩⟩
    have w3 : p3 ≠ o := (ne_of_none a2 hp3).symm
    have a3 : (upd (upd S2 p3 (.tup [])) o (.ins (He.ga K "Classes") dx [((("places" : Str)), (.ref p1 : V)), ((("many" : Str)), (.int (0 : Nat) : V)), ((("record" : Str)), (.ref p3 : V))])) o = some (.ins (He.ga K "Classes") dx [((("places" : Str)), (.ref p1 : V)), ((("many" : Str)), (.int (0 : Nat) : V)), ((("record" : Str)), (.ref p3 : V))]) := upd_same
    have f1_3 : (upd (upd S2 p3 (.tup [])) o (.ins (He.ga K "Classes") dx [((("places" : Str)), (.ref p1 : V)), ((("many" : Str)), (.int (0 : Nat) : V)), ((("record" : Str)), (.ref p3 : V))])) p1 = some (.tup []) := by rw [upd_ne w1, upd_ne (ne_of_none f1 hp3)]; exact f1
    have f3_3 : (upd (upd S2 p3 (.tup [])) o (.ins (He.ga K "Classes") dx [((("places" : Str)), (.ref p1 : V)), ((("many" : Str)), (.int (0 : Nat) : V)), ((("record" : Str)), (.ref p3 : V))])) p3 = some (.tup []) := by rw [upd_ne w3, upd_same]
    have k3 : Kp o H (upd (upd S2 p3 (.tup [])) o (.ins (He.ga K "Classes") dx [((("places" : Str)), (.ref p1 : V)), ((("many" : Str)), (.int (0 : Nat) : V)), ((("record" : Str)), (.ref p3 : V))])) := (k2.trans (Kp.same (Same.upd hp3))).trans Kp.upd
    have n3 : ∀ b, (upd (upd S2 p3 (.tup [])) o (.ins (He.ga K "Classes") dx [((("places" : Str)), (.ref p1 : V)), ((("many" : Str)), (.int (0 : Nat) : V)), ((("record" : Str)), (.ref p3 : V))])) b = none → H b = none := fun b e => n2 b (upd_none (upd_none e))
    have z3 : H p3 = none := n2 _ hp3
    have e1_3 : p1 ≠ p3 := ne_of_none f1 hp3
    show tSeq _ _ _ _ (upd (upd S2 p3 (.tup [])) o (.ins (He.ga K "Classes") dx [((("places" : Str)), (.ref p1 : V)), ((("many" : Str)), (.int (0 : Nat) : V)), ((("record" : Str)), (.ref p3 : V))]))
    generalize upd (upd S2 p3 (.tup [])) o (.ins (He.ga K "Classes") dx [((("places" : Str)), (.ref p1 : V)), ((("many" : Str)), (.int (0 : Nat) : V)), ((("record" : Str)), (.ref p3 : V))]) = S3 at a3 k3 n3 f1_3 f3_3 ⊢
    clear f1
    have f1 := f1_3
    clear f1_3
    have f3 := f3_3
    clear f3_3
    refine ⟨_, rfl, o, _, dx, [((("places" : Str)), (.ref p1 : V)), ((("many" : Str)), (.int (0 : Nat) : V)), ((("record" : Str)), (.ref p3 : V))], rfl, a3, X.cl, X.n_made, (by show 3 < 1000; omega), ?_⟩
    have a4 : (upd S3 o (.ins (He.ga K "Classes") dx [((("places" : Str)), (.ref p1 : V)), ((("many" : Str)), (.int (0 : Nat) : V)), ((("record" : Str)), (.ref p3 : V)), ((("_made" : Str)), (.int (0 : Nat) : V))])) o = some (.ins (He.ga K "Classes") dx [((("places" : Str)), (.ref p1 : V)), ((("many" : Str)), (.int (0 : Nat) : V)), ((("record" : Str)), (.ref p3 : V)), ((("_made" : Str)), (.int (0 : Nat) : V))]) := upd_same
    have f1_4 : (upd S3 o (.ins (He.ga K "Classes") dx [((("places" : Str)), (.ref p1 : V)), ((("many" : Str)), (.int (0 : Nat) : V)), ((("record" : Str)), (.ref p3 : V)), ((("_made" : Str)), (.int (0 : Nat) : V))])) p1 = some (.tup []) := by rw [upd_ne w1]; exact f1
    have f3_4 : (upd S3 o (.ins (He.ga K "Classes") dx [((("places" : Str)), (.ref p1 : V)), ((("many" : Str)), (.int (0 : Nat) : V)), ((("record" : Str)), (.ref p3 : V)), ((("_made" : Str)), (.int (0 : Nat) : V))])) p3 = some (.tup []) := by rw [upd_ne w3]; exact f3
    have k4 : Kp o H (upd S3 o (.ins (He.ga K "Classes") dx [((("places" : Str)), (.ref p1 : V)), ((("many" : Str)), (.int (0 : Nat) : V)), ((("record" : Str)), (.ref p3 : V)), ((("_made" : Str)), (.int (0 : Nat) : V))])) := k3.trans Kp.upd
    have n4 : ∀ b, (upd S3 o (.ins (He.ga K "Classes") dx [((("places" : Str)), (.ref p1 : V)), ((("many" : Str)), (.int (0 : Nat) : V)), ((("record" : Str)), (.ref p3 : V)), ((("_made" : Str)), (.int (0 : Nat) : V))])) b = none → H b = none := fun b e => n3 b (upd_none e)
    show tSeq _ _ _ _ (upd S3 o (.ins (He.ga K "Classes") dx [((("places" : Str)), (.ref p1 : V)), ((("many" : Str)), (.int (0 : Nat) : V)), ((("record" : Str)), (.ref p3 : V)), ((("_made" : Str)), (.int (0 : Nat) : V))]))
    generalize upd S3 o (.ins (He.ga K "Classes") dx [((("places" : Str)), (.ref p1 : V)), ((("many" : Str)), (.int (0 : Nat) : V)), ((("record" : Str)), (.ref p3 : V)), ((("_made" : Str)), (.int (0 : Nat) : V))]) = S4 at a4 k4 n4 f1_4 f3_4 ⊢
    clear f1
    have f1 := f1_4
    clear f1_4
    clear f3
    have f3 := f3_4
    clear f3_4
    refine fun p5 hp5 => ⟨_, rfl, o, _, dx, [((("places" : Str)), (.ref p1 : V)), ((("many" : Str)), (.int (0 : Nat) : V)), ((("record" : Str)), (.ref p3 : V)), ((("_made" : Str)), (.int (0 : Nat) : V))], rfl, Same.upd hp5 _ _ a4, X.cl, X.n_where, (by show 4 < 1000; omega), ?_⟩
    have w5 : p5 ≠ o := (ne_of_none a4 hp5).symm
    have a5 : (upd (upd S4 p5 (.dT [])) o (.ins (He.ga K "Classes") dx [((("places" : Str)), (.ref p1 : V)), ((("many" : Str)), (.int (0 : Nat) : V)), ((("record" : Str)), (.ref p3 : V)), ((("_made" : Str)), (.int (0 : Nat) : V)), ((("_where" : Str)), (.ref p5 : V))])) o = some (.ins (He.ga K "Classes") dx [((("places" : Str)), (.ref p1 : V)), ((("many" : Str)), (.int (0 : Nat) : V)), ((("record" : Str)), (.ref p3 : V)), ((("_made" : Str)), (.int (0 : Nat) : V)), ((("_where" : Str)), (.ref p5 : V))]) := upd_same
    have f1_5 : (upd (upd S4 p5 (.dT [])) o (.ins (He.ga K "Classes") dx [((("places" : Str)), (.ref p1 : V)), ((("many" : Str)), (.int (0 : Nat) : V)), ((("record" : Str)), (.ref p3 : V)), ((("_made" : Str)), (.int (0 : Nat) : V)), ((("_where" : Str)), (.ref p5 : V))])) p1 = some (.tup []) := by rw [upd_ne w1, upd_ne (ne_of_none f1 hp5)]; exact f1
    have f3_5 : (upd (upd S4 p5 (.dT [])) o (.ins (He.ga K "Classes") dx [((("places" : Str)), (.ref p1 : V)), ((("many" : Str)), (.int (0 : Nat) : V)), ((("record" : Str)), (.ref p3 : V)), ((("_made" : Str)), (.int (0 : Nat) : V)), ((("_where" : Str)), (.ref p5 : V))])) p3 = some (.tup []) := by rw [upd_ne w3, upd_ne (ne_of_none f3 hp5)]; exact f3
    have f5_5 : (upd (upd S4 p5 (.dT [])) o (.ins (He.ga K "Classes") dx [((("places" : Str)), (.ref p1 : V)), ((("many" : Str)), (.int (0 : Nat) : V)), ((("record" : Str)), (.ref p3 : V)), ((("_made" : Str)), (.int (0 : Nat) : V)), ((("_where" : Str)), (.ref p5 : V))])) p5 = some (.dT []) := by rw [upd_ne w5, upd_same]
    have k5 : Kp o H (upd (upd S4 p5 (.dT [])) o (.ins (He.ga K "Classes") dx [((("places" : Str)), (.ref p1 : V)), ((("many" : Str)), (.int (0 : Nat) : V)), ((("record" : Str)), (.ref p3 : V)), ((("_made" : Str)), (.int (0 : Nat) : V)), ((("_where" : Str)), (.ref p5 : V))])) := (k4.trans (Kp.same (Same.upd hp5))).trans Kp.upd
    have n5 : ∀ b, (upd (upd S4 p5 (.dT [])) o (.ins (He.ga K "Classes") dx [((("places" : Str)), (.ref p1 : V)), ((("many" : Str)), (.int (0 : Nat) : V)), ((("record" : Str)), (.ref p3 : V)), ((("_made" : Str)), (.int (0 : Nat) : V)), ((("_where" : Str)), (.ref p5 : V))])) b = none → H b = none := fun b e => n4 b (upd_none (upd_none e))
    have z5 : H p5 = none := n4 _ hp5
    have e1_5 : p1 ≠ p5 := ne_of_none f1 hp5
    have e3_5 : p3 ≠ p5 := ne_of_none f3 hp5
    show tSeq _ _ _ _ (upd (upd S4 p5 (.dT [])) o (.ins (He.ga K "Classes") dx [((("places" : Str)), (.ref p1 : V)), ((("many" : Str)), (.int (0 : Nat) : V)), ((("record" : Str)), (.ref p3 : V)), ((("_made" : Str)), (.int (0 : Nat) : V)), ((("_where" : Str)), (.ref p5 : V))]))
    generalize upd (upd S4 p5 (.dT [])) o (.ins (He.ga K "Classes") dx [((("places" : Str)), (.ref p1 : V)), ((("many" : Str)), (.int (0 : Nat) : V)), ((("record" : Str)), (.ref p3 : V)), ((("_made" : Str)), (.int (0 : Nat) : V)), ((("_where" : Str)), (.ref p5 : V))]) = S5 at a5 k5 n5 f1_5 f3_5 f5_5 ⊢
    clear f1
    have f1 := f1_5
    clear f1_5
    clear f3
    have f3 := f3_5
    clear f3_5
    have f5 := f5_5
    clear f5_5
    refine fun p6 hp6 => ⟨_, rfl, o, _, dx, [((("places" : Str)), (.ref p1 : V)), ((("many" : Str)), (.int (0 : Nat) : V)), ((("record" : Str)), (.ref p3 : V)), ((("_made" : Str)), (.int (0 : Nat) : V)), ((("_where" : Str)), (.ref p5 : V))], rfl, Same.upd hp6 _ _ a5, X.cl, X.n_rows, (by show 5 < 1000; omega), ?_⟩
    have w6 : p6 ≠ o := (ne_of_none a5 hp6).symm
    have a6 : (upd (upd S5 p6 (.dK [])) o (.ins (He.ga K "Classes") dx [((("places" : Str)), (.ref p1 : V)), ((("many" : Str)), (.int (0 : Nat) : V)), ((("record" : Str)), (.ref p3 : V)), ((("_made" : Str)), (.int (0 : Nat) : V)), ((("_where" : Str)), (.ref p5 : V)), ((("_rows" : Str)), (.ref p6 : V))])) o = some (.ins (He.ga K "Classes") dx [((("places" : Str)), (.ref p1 : V)), ((("many" : Str)), (.int (0 : Nat) : V)), ((("record" : Str)), (.ref p3 : V)), ((("_made" : Str)), (.int (0 : Nat) : V)), ((("_where" : Str)), (.ref p5 : V)), ((("_rows" : Str)), (.ref p6 : V))]) := upd_same
    have f1_6 : (upd (upd S5 p6 (.dK [])) o (.ins (He.ga K "Classes") dx [((("places" : Str)), (.ref p1 : V)), ((("many" : Str)), (.int (0 : Nat) : V)), ((("record" : Str)), (.ref p3 : V)), ((("_made" : Str)), (.int (0 : Nat) : V)), ((("_where" : Str)), (.ref p5 : V)), ((("_rows" : Str)), (.ref p6 : V))])) p1 = some (.tup []) := by rw [upd_ne w1, upd_ne (ne_of_none f1 hp6)]; exact f1
    have f3_6 : (upd (upd S5 p6 (.dK [])) o (.ins (He.ga K "Classes") dx [((("places" : Str)), (.ref p1 : V)), ((("many" : Str)), (.int (0 : Nat) : V)), ((("record" : Str)), (.ref p3 : V)), ((("_made" : Str)), (.int (0 : Nat) : V)), ((("_where" : Str)), (.ref p5 : V)), ((("_rows" : Str)), (.ref p6 : V))])) p3 = some (.tup []) := by rw [upd_ne w3, upd_ne (ne_of_none f3 hp6)]; exact f3
    have f5_6 : (upd (upd S5 p6 (.dK [])) o (.ins (He.ga K "Classes") dx [((("places" : Str)), (.ref p1 : V)), ((("many" : Str)), (.int (0 : Nat) : V)), ((("record" : Str)), (.ref p3 : V)), ((("_made" : Str)), (.int (0 : Nat) : V)), ((("_where" : Str)), (.ref p5 : V)), ((("_rows" : Str)), (.ref p6 : V))])) p5 = some (.dT []) := by rw [upd_ne w5, upd_ne (ne_of_none f5 hp6)]; exact f5
    have f6_6 : (upd (upd S5 p6 (.dK [])) o (.ins (He.ga K "Classes") dx [((("places" : Str)), (.ref p1 : V)), ((("many" : Str)), (.int (0 : Nat) : V)), ((("record" : Str)), (.ref p3 : V)), ((("_made" : Str)), (.int (0 : Nat) : V)), ((("_where" : Str)), (.ref p5 : V)), ((("_rows" : Str)), (.ref p6 : V))])) p6 = some (.dK []) := by rw [upd_ne w6, upd_same]
    have k6 : Kp o H (upd (upd S5 p6 (.dK [])) o (.ins (He.ga K "Classes") dx [((("places" : Str)), (.ref p1 : V)), ((("many" : Str)), (.int (0 : Nat) : V)), ((("record" : Str)), (.ref p3 : V)), ((("_made" : Str)), (.int (0 : Nat) : V)), ((("_where" : Str)), (.ref p5 : V)), ((("_rows" : Str)), (.ref p6 : V))])) := (k5.trans (Kp.same (Same.upd hp6))).trans Kp.upd
    have n6 : ∀ b, (upd (upd S5 p6 (.dK [])) o (.ins (He.ga K "Classes") dx [((("places" : Str)), (.ref p1 : V)), ((("many" : Str)), (.int (0 : Nat) : V)), ((("record" : Str)), (.ref p3 : V)), ((("_made" : Str)), (.int (0 : Nat) : V)), ((("_where" : Str)), (.ref p5 : V)), ((("_rows" : Str)), (.ref p6 : V))])) b = none → H b = none := fun b e => n5 b (upd_none (upd_none e))
    have z6 : H p6 = none := n5 _ hp6
    have e1_6 : p1 ≠ p6 := ne_of_none f1 hp6
    have e3_6 : p3 ≠ p6 := ne_of_none f3 hp6
    have e5_6 : p5 ≠ p6 := ne_of_none f5 hp6
    show tSeq _ _ _ _ (upd (upd S5 p6 (.dK [])) o (.ins (He.ga K "Classes") dx [((("places" : Str)), (.ref p1 : V)), ((("many" : Str)), (.int (0 : Nat) : V)), ((("record" : Str)), (.ref p3 : V)), ((("_made" : Str)), (.int (0 : Nat) : V)), ((("_where" : Str)), (.ref p5 : V)), ((("_rows" : Str)), (.ref p6 : V))]))
    generalize upd (upd S5 p6 (.dK [])) o (.ins (He.ga K "Classes") dx [((("places" : Str)), (.ref p1 : V)), ((("many" : Str)), (.int (0 : Nat) : V)), ((("record" : Str)), (.ref p3 : V)), ((("_made" : Str)), (.int (0 : Nat) : V)), ((("_where" : Str)), (.ref p5 : V)), ((("_rows" : Str)), (.ref p6 : V))]) = S6 at a6 k6 n6 f1_6 f3_6 f5_6 f6_6 ⊢
    clear f1
    have f1 := f1_6
    clear f1_6
    clear f3
    have f3 := f3_6
    clear f3_6
    clear f5
    have f5 := f5_6
    clear f5_6
    have f6 := f6_6
    clear f6_6
    refine fun p7 hp7 => ⟨_, rfl, o, _, dx, [((("places" : Str)), (.ref p1 : V)), ((("many" : Str)), (.int (0 : Nat) : V)), ((("record" : Str)), (.ref p3 : V)), ((("_made" : Str)), (.int (0 : Nat) : V)), ((("_where" : Str)), (.ref p5 : V)), ((("_rows" : Str)), (.ref p6 : V))], rfl, Same.upd hp7 _ _ a6, X.cl, X.n_uses, (by show 6 < 1000; omega), ?_⟩
    have w7 : p7 ≠ o := (ne_of_none a6 hp7).symm
    have a7 : (upd (upd S6 p7 (.dK [])) o (.ins (He.ga K "Classes") dx [((("places" : Str)), (.ref p1 : V)), ((("many" : Str)), (.int (0 : Nat) : V)), ((("record" : Str)), (.ref p3 : V)), ((("_made" : Str)), (.int (0 : Nat) : V)), ((("_where" : Str)), (.ref p5 : V)), ((("_rows" : Str)), (.ref p6 : V)), ((("_uses" : Str)), (.ref p7 : V))])) o = some (.ins (He.ga K "Classes") dx [((("places" : Str)), (.ref p1 : V)), ((("many" : Str)), (.int (0 : Nat) : V)), ((("record" : Str)), (.ref p3 : V)), ((("_made" : Str)), (.int (0 : Nat) : V)), ((("_where" : Str)), (.ref p5 : V)), ((("_rows" : Str)), (.ref p6 : V)), ((("_uses" : Str)), (.ref p7 : V))]) := upd_same
    have f1_7 : (upd (upd S6 p7 (.dK [])) o (.ins (He.ga K "Classes") dx [((("places" : Str)), (.ref p1 : V)), ((("many" : Str)), (.int (0 : Nat) : V)), ((("record" : Str)), (.ref p3 : V)), ((("_made" : Str)), (.int (0 : Nat) : V)), ((("_where" : Str)), (.ref p5 : V)), ((("_rows" : Str)), (.ref p6 : V)), ((("_uses" : Str)), (.ref p7 : V))])) p1 = some (.tup []) := by rw [upd_ne w1, upd_ne (ne_of_none f1 hp7)]; exact f1
    have f3_7 : (upd (upd S6 p7 (.dK [])) o (.ins (He.ga K "Classes") dx [((("places" : Str)), (.ref p1 : V)), ((("many" : Str)), (.int (0 : Nat) : V)), ((("record" : Str)), (.ref p3 : V)), ((("_made" : Str)), (.int (0 : Nat) : V)), ((("_where" : Str)), (.ref p5 : V)), ((("_rows" : Str)), (.ref p6 : V)), ((("_uses" : Str)), (.ref p7 : V))])) p3 = some (.tup []) := by rw [upd_ne w3, upd_ne (ne_of_none f3 hp7)]; exact f3
    have f5_7 : (upd (upd S6 p7 (.dK [])) o (.ins (He.ga K "Classes") dx [((("places" : Str)), (.ref p1 : V)), ((("many" : Str)), (.int (0 : Nat) : V)), ((("record" : Str)), (.ref p3 : V)), ((("_made" : Str)), (.int (0 : Nat) : V)), ((("_where" : Str)), (.ref p5 : V)), ((("_rows" : Str)), (.ref p6 : V)), ((("_uses" : Str)), (.ref p7 : V))])) p5 = some (.dT []) := by rw [upd_ne w5, upd_ne (ne_of_none f5 hp7)]; exact f5
    have f6_7 : (upd (upd S6 p7 (.dK [])) o (.ins (He.ga K "Classes") dx [((("places" : Str)), (.ref p1 : V)), ((("many" : Str)), (.int (0 : Nat) : V)), ((("record" : Str)), (.ref p3 : V)), ((("_made" : Str)), (.int (0 : Nat) : V)), ((("_where" : Str)), (.ref p5 : V)), ((("_rows" : Str)), (.ref p6 : V)), ((("_uses" : Str)), (.ref p7 : V))])) p6 = some (.dK []) := by rw [upd_ne w6, upd_ne (ne_of_none f6 hp7)]; exact f6
    have f7_7 : (upd (upd S6 p7 (.dK [])) o (.ins (He.ga K "Classes") dx [((("places" : Str)), (.ref p1 : V)), ((("many" : Str)), (.int (0 : Nat) : V)), ((("record" : Str)), (.ref p3 : V)), ((("_made" : Str)), (.int (0 : Nat) : V)), ((("_where" : Str)), (.ref p5 : V)), ((("_rows" : Str)), (.ref p6 : V)), ((("_uses" : Str)), (.ref p7 : V))])) p7 = some (.dK []) := by rw [upd_ne w7, upd_same]
    have k7 : Kp o H (upd (upd S6 p7 (.dK [])) o (.ins (He.ga K "Classes") dx [((("places" : Str)), (.ref p1 : V)), ((("many" : Str)), (.int (0 : Nat) : V)), ((("record" : Str)), (.ref p3 : V)), ((("_made" : Str)), (.int (0 : Nat) : V)), ((("_where" : Str)), (.ref p5 : V)), ((("_rows" : Str)), (.ref p6 : V)), ((("_uses" : Str)), (.ref p7 : V))])) := (k6.trans (Kp.same (Same.upd hp7))).trans Kp.upd
    have n7 : ∀ b, (upd (upd S6 p7 (.dK [])) o (.ins (He.ga K "Classes") dx [((("places" : Str)), (.ref p1 : V)), ((("many" : Str)), (.int (0 : Nat) : V)), ((("record" : Str)), (.ref p3 : V)), ((("_made" : Str)), (.int (0 : Nat) : V)), ((("_where" : Str)), (.ref p5 : V)), ((("_rows" : Str)), (.ref p6 : V)), ((("_uses" : Str)), (.ref p7 : V))])) b = none → H b = none := fun b e => n6 b (upd_none (upd_none e))
    have z7 : H p7 = none := n6 _ hp7
    have e1_7 : p1 ≠ p7 := ne_of_none f1 hp7
    have e3_7 : p3 ≠ p7 := ne_of_none f3 hp7
    have e5_7 : p5 ≠ p7 := ne_of_none f5 hp7
    have e6_7 : p6 ≠ p7 := ne_of_none f6 hp7
    show tSeq _ _ _ _ (upd (upd S6 p7 (.dK [])) o (.ins (He.ga K "Classes") dx [((("places" : Str)), (.ref p1 : V)), ((("many" : Str)), (.int (0 : Nat) : V)), ((("record" : Str)), (.ref p3 : V)), ((("_made" : Str)), (.int (0 : Nat) : V)), ((("_where" : Str)), (.ref p5 : V)), ((("_rows" : Str)), (.ref p6 : V)), ((("_uses" : Str)), (.ref p7 : V))]))
    generalize upd (upd S6 p7 (.dK [])) o (.ins (He.ga K "Classes") dx [((("places" : Str)), (.ref p1 : V)), ((("many" : Str)), (.int (0 : Nat) : V)), ((("record" : Str)), (.ref p3 : V)), ((("_made" : Str)), (.int (0 : Nat) : V)), ((("_where" : Str)), (.ref p5 : V)), ((("_rows" : Str)), (.ref p6 : V)), ((("_uses" : Str)), (.ref p7 : V))]) = S7 at a7 k7 n7 f1_7 f3_7 f5_7 f6_7 f7_7 ⊢
    clear f1
    have f1 := f1_7
    clear f1_7
    clear f3
    have f3 := f3_7
    clear f3_7
    clear f5
    have f5 := f5_7
    clear f5_7
    clear f6
    have f6 := f6_7
    clear f6_7
    have f7 := f7_7
    clear f7_7
    refine fun p8 hp8 => ⟨_, rfl, o, _, dx, [((("places" : Str)), (.ref p1 : V)), ((("many" : Str)), (.int (0 : Nat) : V)), ((("record" : Str)), (.ref p3 : V)), ((("_made" : Str)), (.int (0 : Nat) : V)), ((("_where" : Str)), (.ref p5 : V)), ((("_rows" : Str)), (.ref p6 : V)), ((("_uses" : Str)), (.ref p7 : V))], rfl, Same.upd hp8 _ _ a7, X.cl, X.n_kinds, (by show 7 < 1000; omega), ?_⟩
    have w8 : p8 ≠ o := (ne_of_none a7 hp8).symm
    have a8 : (upd (upd S7 p8 (.dK [])) o (.ins (He.ga K "Classes") dx [((("places" : Str)), (.ref p1 : V)), ((("many" : Str)), (.int (0 : Nat) : V)), ((("record" : Str)), (.ref p3 : V)), ((("_made" : Str)), (.int (0 : Nat) : V)), ((("_where" : Str)), (.ref p5 : V)), ((("_rows" : Str)), (.ref p6 : V)), ((("_uses" : Str)), (.ref p7 : V)), ((("_kinds" : Str)), (.ref p8 : V))])) o = some (.ins (He.ga K "Classes") dx [((("places" : Str)), (.ref p1 : V)), ((("many" : Str)), (.int (0 : Nat) : V)), ((("record" : Str)), (.ref p3 : V)), ((("_made" : Str)), (.int (0 : Nat) : V)), ((("_where" : Str)), (.ref p5 : V)), ((("_rows" : Str)), (.ref p6 : V)), ((("_uses" : Str)), (.ref p7 : V)), ((("_kinds" : Str)), (.ref p8 : V))]) := upd_same
    have f1_8 : (upd (upd S7 p8 (.dK [])) o (.ins (He.ga K "Classes") dx [((("places" : Str)), (.ref p1 : V)), ((("many" : Str)), (.int (0 : Nat) : V)), ((("record" : Str)), (.ref p3 : V)), ((("_made" : Str)), (.int (0 : Nat) : V)), ((("_where" : Str)), (.ref p5 : V)), ((("_rows" : Str)), (.ref p6 : V)), ((("_uses" : Str)), (.ref p7 : V)), ((("_kinds" : Str)), (.ref p8 : V))])) p1 = some (.tup []) := by rw [upd_ne w1, upd_ne (ne_of_none f1 hp8)]; exact f1
    have f3_8 : (upd (upd S7 p8 (.dK [])) o (.ins (He.ga K "Classes") dx [((("places" : Str)), (.ref p1 : V)), ((("many" : Str)), (.int (0 : Nat) : V)), ((("record" : Str)), (.ref p3 : V)), ((("_made" : Str)), (.int (0 : Nat) : V)), ((("_where" : Str)), (.ref p5 : V)), ((("_rows" : Str)), (.ref p6 : V)), ((("_uses" : Str)), (.ref p7 : V)), ((("_kinds" : Str)), (.ref p8 : V))])) p3 = some (.tup []) := by rw [upd_ne w3, upd_ne (ne_of_none f3 hp8)]; exact f3
    have f5_8 : (upd (upd S7 p8 (.dK [])) o (.ins (He.ga K "Classes") dx [((("places" : Str)), (.ref p1 : V)), ((("many" : Str)), (.int (0 : Nat) : V)), ((("record" : Str)), (.ref p3 : V)), ((("_made" : Str)), (.int (0 : Nat) : V)), ((("_where" : Str)), (.ref p5 : V)), ((("_rows" : Str)), (.ref p6 : V)), ((("_uses" : Str)), (.ref p7 : V)), ((("_kinds" : Str)), (.ref p8 : V))])) p5 = some (.dT []) := by rw [upd_ne w5, upd_ne (ne_of_none f5 hp8)]; exact f5
    have f6_8 : (upd (upd S7 p8 (.dK [])) o (.ins (He.ga K "Classes") dx [((("places" : Str)), (.ref p1 : V)), ((("many" : Str)), (.int (0 : Nat) : V)), ((("record" : Str)), (.ref p3 : V)), ((("_made" : Str)), (.int (0 : Nat) : V)), ((("_where" : Str)), (.ref p5 : V)), ((("_rows" : Str)), (.ref p6 : V)), ((("_uses" : Str)), (.ref p7 : V)), ((("_kinds" : Str)), (.ref p8 : V))])) p6 = some (.dK []) := by rw [upd_ne w6, upd_ne (ne_of_none f6 hp8)]; exact f6
    have f7_8 : (upd (upd S7 p8 (.dK [])) o (.ins (He.ga K "Classes") dx [((("places" : Str)), (.ref p1 : V)), ((("many" : Str)), (.int (0 : Nat) : V)), ((("record" : Str)), (.ref p3 : V)), ((("_made" : Str)), (.int (0 : Nat) : V)), ((("_where" : Str)), (.ref p5 : V)), ((("_rows" : Str)), (.ref p6 : V)), ((("_uses" : Str)), (.ref p7 : V)), ((("_kinds" : Str)), (.ref p8 : V))])) p7 = some (.dK []) := by rw [upd_ne w7, upd_ne (ne_of_none f7 hp8)]; exact f7
    have f8_8 : (upd (upd S7 p8 (.dK [])) o (.ins (He.ga K "Classes") dx [((("places" : Str)), (.ref p1 : V)), ((("many" : Str)), (.int (0 : Nat) : V)), ((("record" : Str)), (.ref p3 : V)), ((("_made" : Str)), (.int (0 : Nat) : V)), ((("_where" : Str)), (.ref p5 : V)), ((("_rows" : Str)), (.ref p6 : V)), ((("_uses" : Str)), (.ref p7 : V)), ((("_kinds" : Str)), (.ref p8 : V))])) p8 = some (.dK []) := by rw [upd_ne w8, upd_same]
    have k8 : Kp o H (upd (upd S7 p8 (.dK [])) o (.ins (He.ga K "Classes") dx [((("places" : Str)), (.ref p1 : V)), ((("many" : Str)), (.int (0 : Nat) : V)), ((("record" : Str)), (.ref p3 : V)), ((("_made" : Str)), (.int (0 : Nat) : V)), ((("_where" : Str)), (.ref p5 : V)), ((("_rows" : Str)), (.ref p6 : V)), ((("_uses" : Str)), (.ref p7 : V)), ((("_kinds" : Str)), (.ref p8 : V))])) := (k7.trans (Kp.same (Same.upd hp8))).trans Kp.upd
    have n8 : ∀ b, (upd (upd S7 p8 (.dK [])) o (.ins (He.ga K "Classes") dx [((("places" : Str)), (.ref p1 : V)), ((("many" : Str)), (.int (0 : Nat) : V)), ((("record" : Str)), (.ref p3 : V)), ((("_made" : Str)), (.int (0 : Nat) : V)), ((("_where" : Str)), (.ref p5 : V)), ((("_rows" : Str)), (.ref p6 : V)), ((("_uses" : Str)), (.ref p7 : V)), ((("_kinds" : Str)), (.ref p8 : V))])) b = none → H b = none := fun b e => n7 b (upd_none (upd_none e))
    have z8 : H p8 = none := n7 _ hp8
    have e1_8 : p1 ≠ p8 := ne_of_none f1 hp8
    have e3_8 : p3 ≠ p8 := ne_of_none f3 hp8
    have e5_8 : p5 ≠ p8 := ne_of_none f5 hp8
    have e6_8 : p6 ≠ p8 := ne_of_none f6 hp8
    have e7_8 : p7 ≠ p8 := ne_of_none f7 hp8
    show Ends.nx _ _ (upd (upd S7 p8 (.dK [])) o (.ins (He.ga K "Classes") dx [((("places" : Str)), (.ref p1 : V)), ((("many" : Str)), (.int (0 : Nat) : V)), ((("record" : Str)), (.ref p3 : V)), ((("_made" : Str)), (.int (0 : Nat) : V)), ((("_where" : Str)), (.ref p5 : V)), ((("_rows" : Str)), (.ref p6 : V)), ((("_uses" : Str)), (.ref p7 : V)), ((("_kinds" : Str)), (.ref p8 : V))]))
    generalize upd (upd S7 p8 (.dK [])) o (.ins (He.ga K "Classes") dx [((("places" : Str)), (.ref p1 : V)), ((("many" : Str)), (.int (0 : Nat) : V)), ((("record" : Str)), (.ref p3 : V)), ((("_made" : Str)), (.int (0 : Nat) : V)), ((("_where" : Str)), (.ref p5 : V)), ((("_rows" : Str)), (.ref p6 : V)), ((("_uses" : Str)), (.ref p7 : V)), ((("_kinds" : Str)), (.ref p8 : V))]) = S8 at a8 k8 n8 f1_8 f3_8 f5_8 f6_8 f7_8 f8_8 ⊢
    clear f1
    have f1 := f1_8
    clear f1_8
    clear f3
    have f3 := f3_8
    clear f3_8
    clear f5
    have f5 := f5_8
    clear f5_8
    clear f6
    have f6 := f6_8
    clear f6_8
    clear f7
    have f7 := f7_8
    clear f7_8
    have f8 := f8_8
    clear f8_8
    refine ⟨_, rfl, o, _, dx, [((("places" : Str)), (.ref p1 : V)), ((("many" : Str)), (.int (0 : Nat) : V)), ((("record" : Str)), (.ref p3 : V)), ((("_made" : Str)), (.int (0 : Nat) : V)), ((("_where" : Str)), (.ref p5 : V)), ((("_rows" : Str)), (.ref p6 : V)), ((("_uses" : Str)), (.ref p7 : V)), ((("_kinds" : Str)), (.ref p8 : V))], rfl, a8, X.cl, X.n_first, (by show 8 < 1000; omega), ?_⟩
    have a9 : (upd S8 o (.ins (He.ga K "Classes") dx [((("places" : Str)), (.ref p1 : V)), ((("many" : Str)), (.int (0 : Nat) : V)), ((("record" : Str)), (.ref p3 : V)), ((("_made" : Str)), (.int (0 : Nat) : V)), ((("_where" : Str)), (.ref p5 : V)), ((("_rows" : Str)), (.ref p6 : V)), ((("_uses" : Str)), (.ref p7 : V)), ((("_kinds" : Str)), (.ref p8 : V)), ((("_first" : Str)), (.non : V))])) o = some (.ins (He.ga K "Classes") dx [((("places" : Str)), (.ref p1 : V)), ((("many" : Str)), (.int (0 : Nat) : V)), ((("record" : Str)), (.ref p3 : V)), ((("_made" : Str)), (.int (0 : Nat) : V)), ((("_where" : Str)), (.ref p5 : V)), ((("_rows" : Str)), (.ref p6 : V)), ((("_uses" : Str)), (.ref p7 : V)), ((("_kinds" : Str)), (.ref p8 : V)), ((("_first" : Str)), (.non : V))]) := upd_same
    have f1_9 : (upd S8 o (.ins (He.ga K "Classes") dx [((("places" : Str)), (.ref p1 : V)), ((("many" : Str)), (.int (0 : Nat) : V)), ((("record" : Str)), (.ref p3 : V)), ((("_made" : Str)), (.int (0 : Nat) : V)), ((("_where" : Str)), (.ref p5 : V)), ((("_rows" : Str)), (.ref p6 : V)), ((("_uses" : Str)), (.ref p7 : V)), ((("_kinds" : Str)), (.ref p8 : V)), ((("_first" : Str)), (.non : V))])) p1 = some (.tup []) := by rw [upd_ne w1]; exact f1
    have f3_9 : (upd S8 o (.ins (He.ga K "Classes") dx [((("places" : Str)), (.ref p1 : V)), ((("many" : Str)), (.int (0 : Nat) : V)), ((("record" : Str)), (.ref p3 : V)), ((("_made" : Str)), (.int (0 : Nat) : V)), ((("_where" : Str)), (.ref p5 : V)), ((("_rows" : Str)), (.ref p6 : V)), ((("_uses" : Str)), (.ref p7 : V)), ((("_kinds" : Str)), (.ref p8 : V)), ((("_first" : Str)), (.non : V))])) p3 = some (.tup []) := by rw [upd_ne w3]; exact f3
    have f5_9 : (upd S8 o (.ins (He.ga K "Classes") dx [((("places" : Str)), (.ref p1 : V)), ((("many" : Str)), (.int (0 : Nat) : V)), ((("record" : Str)), (.ref p3 : V)), ((("_made" : Str)), (.int (0 : Nat) : V)), ((("_where" : Str)), (.ref p5 : V)), ((("_rows" : Str)), (.ref p6 : V)), ((("_uses" : Str)), (.ref p7 : V)), ((("_kinds" : Str)), (.ref p8 : V)), ((("_first" : Str)), (.non : V))])) p5 = some (.dT []) := by rw [upd_ne w5]; exact f5
    have f6_9 : (upd S8 o (.ins (He.ga K "Classes") dx [((("places" : Str)), (.ref p1 : V)), ((("many" : Str)), (.int (0 : Nat) : V)), ((("record" : Str)), (.ref p3 : V)), ((("_made" : Str)), (.int (0 : Nat) : V)), ((("_where" : Str)), (.ref p5 : V)), ((("_rows" : Str)), (.ref p6 : V)), ((("_uses" : Str)), (.ref p7 : V)), ((("_kinds" : Str)), (.ref p8 : V)), ((("_first" : Str)), (.non : V))])) p6 = some (.dK []) := by rw [upd_ne w6]; exact f6
    have f7_9 : (upd S8 o (.ins (He.ga K "Classes") dx [((("places" : Str)), (.ref p1 : V)), ((("many" : Str)), (.int (0 : Nat) : V)), ((("record" : Str)), (.ref p3 : V)), ((("_made" : Str)), (.int (0 : Nat) : V)), ((("_where" : Str)), (.ref p5 : V)), ((("_rows" : Str)), (.ref p6 : V)), ((("_uses" : Str)), (.ref p7 : V)), ((("_kinds" : Str)), (.ref p8 : V)), ((("_first" : Str)), (.non : V))])) p7 = some (.dK []) := by rw [upd_ne w7]; exact f7
    have f8_9 : (upd S8 o (.ins (He.ga K "Classes") dx [((("places" : Str)), (.ref p1 : V)), ((("many" : Str)), (.int (0 : Nat) : V)), ((("record" : Str)), (.ref p3 : V)), ((("_made" : Str)), (.int (0 : Nat) : V)), ((("_where" : Str)), (.ref p5 : V)), ((("_rows" : Str)), (.ref p6 : V)), ((("_uses" : Str)), (.ref p7 : V)), ((("_kinds" : Str)), (.ref p8 : V)), ((("_first" : Str)), (.non : V))])) p8 = some (.dK []) := by rw [upd_ne w8]; exact f8
    have k9 : Kp o H (upd S8 o (.ins (He.ga K "Classes") dx [((("places" : Str)), (.ref p1 : V)), ((("many" : Str)), (.int (0 : Nat) : V)), ((("record" : Str)), (.ref p3 : V)), ((("_made" : Str)), (.int (0 : Nat) : V)), ((("_where" : Str)), (.ref p5 : V)), ((("_rows" : Str)), (.ref p6 : V)), ((("_uses" : Str)), (.ref p7 : V)), ((("_kinds" : Str)), (.ref p8 : V)), ((("_first" : Str)), (.non : V))])) := k8.trans Kp.upd
    have n9 : ∀ b, (upd S8 o (.ins (He.ga K "Classes") dx [((("places" : Str)), (.ref p1 : V)), ((("many" : Str)), (.int (0 : Nat) : V)), ((("record" : Str)), (.ref p3 : V)), ((("_made" : Str)), (.int (0 : Nat) : V)), ((("_where" : Str)), (.ref p5 : V)), ((("_rows" : Str)), (.ref p6 : V)), ((("_uses" : Str)), (.ref p7 : V)), ((("_kinds" : Str)), (.ref p8 : V)), ((("_first" : Str)), (.non : V))])) b = none → H b = none := fun b e => n8 b (upd_none e)
    show Q .non (upd S8 o (.ins (He.ga K "Classes") dx [((("places" : Str)), (.ref p1 : V)), ((("many" : Str)), (.int (0 : Nat) : V)), ((("record" : Str)), (.ref p3 : V)), ((("_made" : Str)), (.int (0 : Nat) : V)), ((("_where" : Str)), (.ref p5 : V)), ((("_rows" : Str)), (.ref p6 : V)), ((("_uses" : Str)), (.ref p7 : V)), ((("_kinds" : Str)), (.ref p8 : V)), ((("_first" : Str)), (.non : V))]))
    generalize upd S8 o (.ins (He.ga K "Classes") dx [((("places" : Str)), (.ref p1 : V)), ((("many" : Str)), (.int (0 : Nat) : V)), ((("record" : Str)), (.ref p3 : V)), ((("_made" : Str)), (.int (0 : Nat) : V)), ((("_where" : Str)), (.ref p5 : V)), ((("_rows" : Str)), (.ref p6 : V)), ((("_uses" : Str)), (.ref p7 : V)), ((("_kinds" : Str)), (.ref p8 : V)), ((("_first" : Str)), (.non : V))]) = S9 at a9 k9 n9 f1_9 f3_9 f5_9 f6_9 f7_9 f8_9 ⊢
    clear f1
    have f1 := f1_9
    clear f1_9
    clear f3
    have f3 := f3_9
    clear f3_9
    clear f5
    have f5 := f5_9
    clear f5_9
    clear f6
    have f6 := f6_9
    clear f6_9
    clear f7
    have f7 := f7_9
    clear f7_9
    clear f8
    have f8 := f8_9
    clear f8_9
    refine hQ S9 { ws := [], made := 0, many := 0, liveR := [], liveU := [], liveK := [], ra := fun _ => 0, ua := fun _ => 0, rl := fun _ => [], ul := fun _ => [], cl := fun _ => .lf .na, wa := p5, ro := p6, us := p7, ki := p8, pl := p1, rc := p3, pls := [], rcs := [], fv := .non, dx := dx } ?_ ?_ rfl rfl rfl k9 ?_ n9
    · exact ⟨a9, f5, f6, f7, f8, fun c hc => (nomatch hc), fun c hc => (nomatch hc), f1, f3, fun c hc => (nomatch hc), fun c hc => (nomatch hc), fun c hc => (nomatch hc), fun c hc => (nomatch hc), fun c hc => (nomatch hc), e6_7, e6_8, e7_8⟩
    · intro S R
      refine ⟨⟨List.nodup_nil, List.nodup_nil, rfl, rfl, fun c hc => (nomatch hc), fun c hc => (nomatch hc), fun c hc => (nomatch hc), fun c hc => (nomatch hc), fun n i hn => (nomatch hn), fun c hc => (nomatch hc), Nat.le_refl _⟩, rfl, rfl, fun c hc => (nomatch hc), fun n i hn => (nomatch hn), fun n i hn => (nomatch hn), rfl⟩
    · rintro b (z | z | z | z | z | ⟨c, hc, _⟩ | ⟨c, hc, _⟩)
      · exact .inl z
      · exact .inr (by rw [z]; exact z5)
      · exact .inr (by rw [z]; exact z6)
      · exact .inr (by rw [z]; exact z7)
      · exact .inr (by rw [z]; exact z8)
      · exact nomatch hc
      · exact nomatch hc
end K45
/-! part K45F1 -/
set_option autoImplicit true
set_option autoImplicit false
set_option linter.all false
/-! Plain mathematics: the least sizes by passes. -/
namespace K45
abbrev Sm := Nat → Option Nat
def defd (L : List Nat) (z : Sm) : Nat := (L.filter fun c => (z c).isSome).length
def mu (L : List Nat) (z : Sm) : Nat := (L.map fun c => (z c).getD (4 ^ (L.length + 1))).sum
def setS (z : Sm) (c k : Nat) : Sm := fun d => if d = c then some k else z d
structure Sz (W : Tab) (L : List Nat) (z : Sm) : Prop where
  snd : ∀ c k, z c = some k → ∃ t, find W t = some c ∧ t.size = k
  dom : ∀ c k, z c = some k → c ∈ L
  bd : ∀ c k, z c = some k → k ≤ 4 ^ defd L z
/-- what a node weighs so far -/
def wz (z : Sm) (ids : List Nat) : Nat := 1 + (ids.map fun i => (z i).getD 0).sum
theorem filter_le (p q : Nat → Bool) (h : ∀ d, p d = true → q d = true) : ∀ l : List Nat, (l.filter p).length ≤ (l.filter q).length
  | [] => Nat.le_refl _
  | d :: l => by
    have ih := filter_le p q h l
    by_cases e : p d = true
    · rw [List.filter_cons_of_pos e, List.filter_cons_of_pos (h d e), List.length_cons, List.length_cons]; omega
    · rw [List.filter_cons_of_neg e]
      by_cases f : q d = true
      · rw [List.filter_cons_of_pos f, List.length_cons]; omega
      · rw [List.filter_cons_of_neg f]; exact ih
theorem isSome_set {z : Sm} {c k : Nat} (d : Nat) (h : (z d).isSome = true) : (setS z c k d).isSome = true := by
  unfold setS
  split
  · rfl
  · exact h
theorem defd_le (L : List Nat) (z : Sm) : defd L z ≤ L.length := List.length_filter_le _ _
theorem defd_set {L : List Nat} {z : Sm} {c k : Nat} : defd L z ≤ defd L (setS z c k) := by
  exact filter_le _ _ (fun d h => isSome_set d h) L
theorem defd_new {L : List Nat} {z : Sm} {c k : Nat} (hc : c ∈ L) (h : z c = none) : defd L z + 1 ≤ defd L (setS z c k) := by
  unfold defd
  obtain ⟨a, b, rfl⟩ := List.append_of_mem hc
  have mono : ∀ l : List Nat, (l.filter fun d => (z d).isSome).length ≤ (l.filter fun d => (setS z c k d).isSome).length := filter_le _ _ (fun d h => isSome_set d h)
  have h1 := mono a
  have h2 := mono b
  have e1 : (setS z c k c).isSome = true := by unfold setS; rw [if_pos rfl]; rfl
  rw [List.filter_append, List.filter_append, List.filter_cons_of_neg (by simp [h]), List.filter_cons_of_pos (p := fun d => (setS z c k d).isSome) e1, List.length_append, List.length_append, List.length_cons]
  omega
theorem sum_lt {L : List Nat} {f g : Nat → Nat} {c : Nat} (hc : c ∈ L) (h : ∀ d, g d ≤ f d) (hl : g c < f c) : (L.map g).sum < (L.map f).sum := by
  have le : ∀ l : List Nat, (l.map g).sum ≤ (l.map f).sum := fun l => by
    induction l with
    | nil => exact Nat.le_refl _
    | cons d l ih => simp only [List.map_cons, List.sum_cons]; have := h d; omega
  obtain ⟨a, b, rfl⟩ := List.append_of_mem hc
  rw [List.map_append, List.map_append, List.sum_append, List.sum_append, List.map_cons, List.map_cons, List.sum_cons, List.sum_cons]
  have h1 := le a
  have h2 := le b
  omega
theorem wz_bd {W : Tab} {L : List Nat} {z : Sm} (s : Sz W L z) {ids : List Nat} (hd : ∀ i ∈ ids, (z i).isSome = true) (h3 : ids.length ≤ 3) : wz z ids ≤ 1 + 3 * 4 ^ defd L z := by
  have : ∀ l : List Nat, (∀ i ∈ l, (z i).isSome = true) → (l.map fun i => (z i).getD 0).sum ≤ l.length * 4 ^ defd L z := by
    intro l
    induction l with
    | nil => intro _; simp
    | cons i l ih =>
      intro h
      have h1 := ih fun j hj => h j (List.mem_cons_of_mem _ hj)
      obtain ⟨k, hk⟩ := Option.isSome_iff_exists.mp (h i List.mem_cons_self)
      have h2 := s.bd i k hk
      rw [List.map_cons, List.sum_cons, List.length_cons, Nat.add_mul, hk]
      simp only [Option.getD_some]
      omega
  have h1 := this ids hd
  have h2 : ids.length * 4 ^ defd L z ≤ 3 * 4 ^ defd L z := Nat.mul_le_mul_right _ h3
  unfold wz
  omega
theorem Sz.step {W : Tab} {L : List Nat} {z : Sm} (s : Sz W L z) {c : Nat} {n : N} (hc : c ∈ L) (hn : W n = some c) {v : T} (hv : nd W v = some n) (hd : ∀ i ∈ n.ids, (z i).isSome = true) (h3 : n.ids.length ≤ 3) (lt : ∀ k, z c = some k → wz z n.ids < k) :
    Sz W L (setS z c (wz z n.ids)) ∧ mu L (setS z c (wz z n.ids)) < mu L z := by
  have b := wz_bd s hd h3
  have p4 : 1 ≤ 4 ^ defd L z := Nat.one_le_pow _ _ (by decide)
  have dl := defd_le L z
  have big : 4 ^ defd L z ≤ 4 ^ L.length := Nat.pow_le_pow_right (by decide) dl
  have suc : 4 ^ (L.length + 1) = 4 * 4 ^ L.length := by rw [Nat.pow_succ]; omega
  refine ⟨⟨fun d k e => ?_, fun d k e => ?_, fun d k e => ?_⟩, ?_⟩
  · unfold setS at e
    split at e
    · rename_i q
      have ek := Option.some.inj e
      have ex : ∀ i, ∃ t : T, i ∈ n.ids → find W t = some i ∧ t.size = (z i).getD 0 := fun i => by
        by_cases hi : i ∈ n.ids
        · obtain ⟨k, hk⟩ := Option.isSome_iff_exists.mp (hd i hi)
          obtain ⟨t, h1, h2⟩ := s.snd i k hk
          exact ⟨t, fun _ => ⟨h1, by rw [hk]; exact h2⟩⟩
        · exact ⟨.lf .na, fun h => absurd h hi⟩
      obtain ⟨f, hf⟩ := Classical.axiomOfChoice ex
      obtain ⟨a1, a2, a3⟩ := app_find (S := []) (fnd := f) hv fun i hi => (hf i hi).1
      refine ⟨app f n, by rw [q]; exact find_of a1 hn, ?_⟩
      rw [T.size_parts, a3, List.map_map, ← ek]
      unfold wz
      congr 2
      exact List.map_congr_left fun i hi => (hf i hi).2
    · exact s.snd d k e
  · unfold setS at e
    split at e
    · rename_i q; rw [q]; exact hc
    · exact s.dom d k e
  · cases q : z c with
    | none =>
      have h1 := defd_new (k := wz z n.ids) hc q
      have h2 : 4 ^ (defd L z + 1) ≤ 4 ^ defd L (setS z c (wz z n.ids)) := Nat.pow_le_pow_right (by decide) h1
      rw [Nat.pow_succ] at h2
      unfold setS at e
      split at e
      · have ek := Option.some.inj e
        omega
      · have := s.bd d k e
        omega
    | some k0 =>
      have h1 := defd_set (L := L) (z := z) (c := c) (k := wz z n.ids)
      have h2 : 4 ^ defd L z ≤ 4 ^ defd L (setS z c (wz z n.ids)) := Nat.pow_le_pow_right (by decide) h1
      have h3' := lt k0 q
      have h4 := s.bd c k0 q
      unfold setS at e
      split at e
      · have ek := Option.some.inj e
        omega
      · have := s.bd d k e
        omega
  · unfold mu
    have hlt : wz z n.ids < (z c).getD (4 ^ (L.length + 1)) := by
      cases q : z c with
      | none =>
        show wz z n.ids < 4 ^ (L.length + 1)
        rw [suc]
        have p5 : 1 ≤ 4 ^ L.length := Nat.one_le_pow _ _ (by decide)
        by_cases e : defd L z = L.length
        · -- c itself is not there
          exfalso
          have h1 := defd_new (k := 0) hc q
          have h2 := defd_le L (setS z c 0)
          omega
        · have h5 : 4 ^ (defd L z + 1) ≤ 4 ^ L.length := Nat.pow_le_pow_right (by decide) (by omega)
          rw [Nat.pow_succ] at h5
          omega
      | some k0 => exact lt k0 q
    refine sum_lt hc (fun d => ?_) ?_
    · unfold setS
      by_cases e : d = c
      · rw [if_pos e, e]; exact Nat.le_of_lt hlt
      · rw [if_neg e]; exact Nat.le_refl _
    · unfold setS
      rw [if_pos rfl]
      exact hlt
/-- no node is lighter than its class -/
def Shut (W : Tab) (z : Sm) : Prop := ∀ n c, W n = some c → (∀ i ∈ n.ids, (z i).isSome = true) → ∃ k, z c = some k ∧ k ≤ wz z n.ids
theorem Shut.le {W : Tab} {z : Sm} (h : Shut W z) : ∀ (t : T) (c : Nat), find W t = some c → ∃ k, z c = some k ∧ k ≤ t.size := by
  refine T.byParts ?_
  intro t ih c e
  obtain ⟨n, hn, hc⟩ := find_some e
  obtain ⟨e1, e2⟩ := nd_iff.mp hn
  have key : ∀ (ps : List T) (ids : List Nat), (∀ p ∈ ps, ∀ c, find W p = some c → ∃ k, z c = some k ∧ k ≤ p.size) → ps.map (find W) = ids.map some → (∀ i ∈ ids, (z i).isSome = true) ∧ (ids.map fun i => (z i).getD 0).sum ≤ (ps.map T.size).sum := by
    intro ps
    induction ps with
    | nil => intro ids _ e; cases ids with
      | nil => exact ⟨fun _ h => (by cases h), Nat.le_refl _⟩
      | cons => simp at e
    | cons p ps ihp =>
      intro ids h e
      cases ids with
      | nil => simp at e
      | cons i ids =>
        simp only [List.map_cons, List.cons.injEq] at e
        obtain ⟨k, hk, hl⟩ := h p List.mem_cons_self i e.1
        obtain ⟨a, b⟩ := ihp ids (fun q hq => h q (List.mem_cons_of_mem _ hq)) e.2
        refine ⟨fun j hj => ?_, ?_⟩
        · rcases List.mem_cons.mp hj with rfl | hj
          · rw [hk]; rfl
          · exact a j hj
        · simp only [List.map_cons, List.sum_cons, hk, Option.getD_some]
          omega
  obtain ⟨a, b⟩ := key t.parts n.ids (fun p hp c => ih p hp c) e2
  obtain ⟨k, hk, hl⟩ := h n c hc a
  refine ⟨k, hk, ?_⟩
  rw [T.size_parts]
  unfold wz at hl
  omega
theorem Sz.sizes {W : Tab} {L : List Nat} {z : Sm} (s : Sz W L z) (h : Shut W z) : Sizes W fun c => (z c).getD 0 where
  le := fun t c e => by
    obtain ⟨k, hk, hl⟩ := h.le t c e
    show (z c).getD 0 ≤ _
    rw [hk]
    exact hl
  at_ := fun t c e => by
    obtain ⟨k, hk, _⟩ := h.le t c e
    obtain ⟨u, h1, h2⟩ := s.snd c k hk
    exact ⟨u, h1, by show u.size = (z c).getD 0; rw [hk]; exact h2⟩
end K45
/-! part K45L7 -/
set_option autoImplicit true
set_option Elab.async false
set_option linter.all false
set_option maxRecDepth 100000
set_option maxHeartbeats 4000000
/-! Walks: least_sizes. -/
namespace K45
open PySem PySem.Spec PyProof.Rows L2
variable {P : Program} {w : World} {K : PySem.W.Frag} {mg : Str → Option Value} {base : Heap}
/-- the rows of a whole table in the heap -/
structure Rws (H : Hp) (ro : Addr) (L : List Nat) (ra : Nat → Addr) (rl : Nat → List N) (W : Tab) : Prop where
  dict : H ro = some (.dK (L.map fun c => (idK c, .ref (ra c))))
  row : ∀ c ∈ L, H (ra c) = some (.dT ((rl c).map uE))
  mem : ∀ c ∈ L, ∀ n, n ∈ rl c ↔ W n = some c
  all : ∀ n c, W n = some c → c ∈ L
  cov : ∀ n c, W n = some c → ∃ v, nd W v = some n
  few : ∀ n c, W n = some c → n.ids.length ≤ 3 ∧ ∀ i ∈ n.ids, i ∈ L
def ZAt (H : Hp) (L : List Nat) (d : Addr) (z : Sm) : Prop := ∃ kvs, H d = some (.dK kvs) ∧ kvs.length ≤ defd L z ∧ ∀ c : Nat, valV kvs (idK c) = (z c).map fun k : Nat => V.int (k : Int)
def sp_sizes : Sp := fun vs H Q _ => ∃ (ro : Addr) (L : List Nat) (ra : Nat → Addr) (rl : Nat → List N) (W : Tab), vs = [.ref ro] ∧ Rws H ro L ra rl W ∧ L.length ≤ 2000 ∧ L.Nodup ∧ (∀ c ∈ L, ra c ≠ ro) ∧ ∀ H' d z, Same H H' → H d = none → ZAt H' L d z → Sz W L z → Shut W z → Q (.ref d) H'
theorem ZAt.same {H H' : Hp} {L : List Nat} {d : Addr} {z : Sm} (h : ZAt H L d z) (s : Same H H') : ZAt H' L d z := by
  obtain ⟨kvs, a, b, c⟩ := h
  exact ⟨kvs, s _ _ a, b, c⟩
theorem putK_len {kvs : List (L2.Key × V)} {k : L2.Key} {v : V} (h : (valV kvs k).isSome = true) : (putK kvs k v).length = kvs.length := by
  unfold putK
  rw [if_pos (by rw [valV_any]; exact h), List.length_map]
theorem sum_cast (f : Nat → Nat) : ∀ ids : List Nat, (1 : Int) + (ids.map fun i => ((f i : Nat) : Int)).sum = ((1 + (ids.map f).sum : Nat) : Int) := by
  have key : ∀ ids : List Nat, (ids.map fun i => ((f i : Nat) : Int)).sum = (((ids.map f).sum : Nat) : Int) := by
    intro ids
    induction ids with
    | nil => rfl
    | cons i ids ih => rw [List.map_cons, List.map_cons, List.sum_cons, List.sum_cons, ih]; omega
  intro ids
  rw [key]
  omega
/-- a node is not lighter than its class, or not yet weighed -/
def Cl1 (z : Sm) (c : Nat) (n : N) : Prop := (∃ k, z c = some k ∧ k ≤ wz z n.ids) ∨ ∃ i ∈ n.ids, z i = none
abbrev sN : List Str := ["rows", "sizes", "is_new", "place", "nodes", "node", "size", "part"]
theorem sc_sizes : FnScope sN ["rows"] (defScope s_least_sizes) := ⟨rfl, rfl, rfl, by decide +kernel, rfl, by decide +kernel, by decide +kernel⟩
theorem ok_sizes (X : Fx P w K mg base) : OkD P w K mg base "least_sizes" ["rows"] 2 sp_sizes := by
  obtain ⟨fd, F⟩ := X.fn 15 (d := d_least_sizes) rfl
  obtain ⟨_, _, D1⟩ := ok_parts_in X
  refine ⟨_, fd, X.glo _ (X.fact 15 (f := .glo "least_sizes") rfl), F.kp, F.bindsN fun _ _ _ _ _ _ us hl => match us, hl with | [_], _ => rfl, okN F sc_sizes (fun vs H Q E h => ?_) (fun cdv A outer s H vs Q E hr h => ?_)⟩
  · obtain ⟨_, _, _, _, _, rfl, _⟩ := h
    rfl
  · obtain ⟨ro, L, ra, rl, W, rfl, rw0, hL, ndL, hrr, hQ⟩ := h
    have hu := hu_of hr
    obtain ⟨t2, hin, fin⟩ : ∃ t2, PSs (cxOf CX0 P w K mg base sN "least_sizes" (defScope s_least_sizes) (He.fAd K d_least_sizes.at_) cdv A outer s H E).nox
        (match defBody s_least_sizes with | [_, .While _ [_, .For _ _ [.For _ _ b _ _] _ _] _ _, _] => b | _ => []) t2 ∧ ∀ (H1 : Hp) (d : Addr) (z : Sm) (c : Nat) (n : N) (b : Addr) (new : Bool) (v4 v6 v7 : Option V) (D : Ends),
            ZAt H1 L d z → Sz W L z → W n = some c → c ∈ L → H1 b = some (.tup (n.key.map kV)) →
            (∀ H2 v6, Same H1 H2 → (∃ k, z c = some k ∧ k ≤ wz z n.ids) ∨ (∃ i ∈ n.ids, z i = none) → D.nx [some (.ref ro), some (.ref d), some (.bl new), some (.int c), v4, some (.ref b), v6, v7] H2) →
            (∀ H2 v6, (∀ a u, a ≠ d → H1 a = some u → H2 a = some u) → ZAt H2 L d (setS z c (wz z n.ids)) → Sz W L (setS z c (wz z n.ids)) → mu L (setS z c (wz z n.ids)) < mu L z →
              D.nx [some (.ref ro), some (.ref d), some (.bl true), some (.int c), v4, some (.ref b), v6, v7] H2) →
            t2 D [some (.ref ro), some (.ref d), some (.bl new), some (.int c), v4, some (.ref b), v6, v7] H1 := by
      refine ⟨_, pss_one (ps_if (pt_val (pe_callB (cr_all rfl) (by rfl) X.b_all (by decide +kernel) (pa_cons (pe_lc (own := [("part", 7)]) (g := gName 7) (tt := tYes) rfl sc_sizes.nd (pi_tup (pe_d D1 hr (by rfl) (pa_cons (pv 5) pa_nil)))
            (blkOk_by (own := [("part", 7)]) (N := sN) (sc := defScope s_least_sizes) (by decide +kernel)) (fun _ _ _ _ _ => pg_name (i := 7) sc_sizes.nd rfl (Or.inl rfl)) (fun _ _ _ _ _ => pts_nil)
            (fun _ _ _ _ _ => pe_cmp (pc_din hu (pv 7) (pv 1)))) pa_nil)))
          (pss_cons (ps_set (i := 6) sc_sizes.nd rfl (Or.inl rfl) (pe_op op_add pe_int (pe_callB (cr_sum rfl) (by rfl) X.b_sum (by decide +kernel) (pa_cons (pe_lc (own := [("part", 7)]) (g := gName 7) (tt := tYes) rfl sc_sizes.nd (pi_tup (pe_d D1 hr (by rfl) (pa_cons (pv 5) pa_nil)))
            (blkOk_by (own := [("part", 7)]) (N := sN) (sc := defScope s_least_sizes) (by decide +kernel)) (fun _ _ _ _ _ => pg_name (i := 7) sc_sizes.nd rfl (Or.inl rfl)) (fun _ _ _ _ _ => pts_nil)
            (fun _ _ _ _ _ => pe_dget hu (pv 1) (pv 7) (fun _ _ => rfl))) pa_nil))))
          (pss_one (ps_if (PW.pt (pw_or (pt_cmp (pc_dnotin hu (pv 3) (pv 1))) (pw_or1 (pt_cmpR op_lt (pv 6) (pe_dget hu (pv 1) (pv 3) (fun _ _ => rfl)) (nomark _)))))
            (pss_cons (ps_dput hu (pv 1) (pv 3) (pv 6) (by rfl)) (pss_one (ps_set (i := 2) sc_sizes.nd rfl (Or.inl rfl) pe_bl))) pss_nil))) pss_nil), ?_⟩
      intro H1 d z c n b new v4 v6 v7 D hz sz hn hc hb k1 k2
      obtain ⟨few, fl⟩ := rw0.few n c hn
      obtain ⟨v, hv⟩ := rw0.cov n c hn
      refine ⟨_, rfl, b, n.hd, n.ids.map fun i : Nat => V.int (i : Int), rfl, by rw [hb, N.key_map], fun i e => by rw [N.leaf_ids e]; rfl, fun p hp => ?_⟩
      have q1 : Same H1 (upd H1 p (.tup (n.ids.map fun i : Nat => V.int (i : Int)))) := Same.upd hp
      have hp1 : upd H1 p (.tup (n.ids.map fun i : Nat => V.int (i : Int))) p = some (.tup (n.ids.map fun i : Nat => V.int (i : Int))) := upd_same
      generalize upd H1 p (.tup (n.ids.map fun i : Nat => V.int (i : Int))) = H2 at q1 hp1 ⊢
      refine ⟨p, rfl, ⟨_, SqT.of hp1⟩, fun D' hD => lc_tup (K := K) (a := p) (xs := n.ids.map fun i : Nat => V.int (i : Int)) (fun j H' => Same H2 H' ∧ H' D' = some (.lst ((n.ids.take j).map fun i => V.bl (z i).isSome)))
        ⟨Same.upd hD, by rw [upd_same]; simp⟩ (fun i H' _ ⟨h, _⟩ => SqT.of (h _ _ hp1)) ?_ ?_⟩
      · rintro j x H3 hx ⟨q3, hD3⟩
        rw [List.getElem?_map] at hx
        obtain ⟨i, hi, rfl⟩ := Option.map_eq_some_iff.mp hx
        obtain ⟨kvs, hk, hkl, hkv⟩ := hz.same (Same.trans q1 q3)
        refine ⟨rfl, _, rfl, _, rfl, d, _, rfl, DGet.k (k := idK i) hk, _, hD3, ?_, fun a u e => ?_, ?_⟩
        · rw [List.length_map, List.length_take]
          exact size6 (by omega)
        · rw [upd_ne (ne_of_none e hD)]; exact q3 _ _ e
        · rw [upd_same, take_snoc hi, List.map_append, hkv i, Option.isSome_map]; rfl
      rintro H3 ⟨q3, hD3⟩
      rw [List.length_map, List.take_length] at hD3
      refine ⟨D', n.ids.map fun i => (z i).isSome, rfl, SqL.of (by rw [hD3, List.map_map]; rfl), _, rfl, ?_⟩
      have q13 := Same.trans q1 q3
      by_cases hall : ∀ i ∈ n.ids, (z i).isSome = true
      · rw [show (n.ids.map fun i => (z i).isSome).all id = true by rw [List.all_map]; exact List.all_eq_true.mpr fun i hi => hall i hi]
        refine iteT ⟨_, rfl, b, n.hd, n.ids.map fun i : Nat => V.int (i : Int), rfl, by rw [q13 _ _ hb, N.key_map], fun i e => by rw [N.leaf_ids e]; rfl, fun p hp => ?_⟩
        have q4 : Same H3 (upd H3 p (.tup (n.ids.map fun i : Nat => V.int (i : Int)))) := Same.upd hp
        have hp4 : upd H3 p (.tup (n.ids.map fun i : Nat => V.int (i : Int))) p = some (.tup (n.ids.map fun i : Nat => V.int (i : Int))) := upd_same
        generalize upd H3 p (.tup (n.ids.map fun i : Nat => V.int (i : Int))) = H4 at q4 hp4 ⊢
        refine ⟨p, rfl, ⟨_, SqT.of hp4⟩, fun D' hD => lc_tup (K := K) (a := p) (xs := n.ids.map fun i : Nat => V.int (i : Int)) (fun j H' => Same H4 H' ∧ H' D' = some (.lst ((n.ids.take j).map fun i => V.int ((z i).getD 0 : Nat))))
          ⟨Same.upd hD, by rw [upd_same]; simp⟩ (fun i H' _ ⟨h, _⟩ => SqT.of (h _ _ hp4)) ?_ ?_⟩
        · rintro j x H5 hx ⟨q5, hD5⟩
          rw [List.getElem?_map] at hx
          obtain ⟨i, hi, rfl⟩ := Option.map_eq_some_iff.mp hx
          obtain ⟨kvs, hk, hkl, hkv⟩ := hz.same (Same.trans q13 (Same.trans q4 q5))
          obtain ⟨ki, hki⟩ := Option.isSome_iff_exists.mp (hall i (List.mem_of_getElem? hi))
          refine ⟨rfl, _, rfl, _, rfl, d, .int (ki : Int), rfl, ?_, _, hD5, ?_, fun a u e => ?_, ?_⟩
          · have := DGet.k (k := idK i) hk
            rw [hkv i, hki] at this
            exact this
          · rw [List.length_map, List.length_take]
            exact size6 (by omega)
          · rw [upd_ne (ne_of_none e hD)]; exact q5 _ _ e
          · rw [upd_same, take_snoc hi, List.map_append]
            show some (HO.lst (_ ++ [V.int (ki : Int)])) = some (HO.lst (_ ++ [V.int ((z i).getD 0 : Nat)]))
            rw [hki]; rfl
        rintro H5 ⟨q5, hD5⟩
        rw [List.length_map, List.take_length] at hD5
        have q15 := Same.trans q13 (Same.trans q4 q5)
        refine ⟨D', n.ids.map fun i => (((z i).getD 0 : Nat) : Int), rfl, SqL.of (by rw [hD5, List.map_map]; rfl), _, _, rfl, rfl, ?_⟩
        change Ends.nx _ [some (.ref ro), some (.ref d), some (.bl new), some (.int c), v4, some (.ref b), some (.int ((1 : Int) + (n.ids.map fun i => (((z i).getD 0 : Nat) : Int)).sum)), v7] H5
        rw [sum_cast (fun i => (z i).getD 0)]
        obtain ⟨kvs, hk, hkl, hkv⟩ := hz.same q15
        have put : (∀ k, z c = some k → wz z n.ids < k) → D.nx [some (.ref ro), some (.ref d), some (.bl true), some (.int c), v4, some (.ref b), some (.int (wz z n.ids : Nat)), v7] (upd H5 d (.dK (putK kvs (idK c) (.int (wz z n.ids : Nat))))) := fun lt => by
          obtain ⟨s1, s2⟩ := sz.step hc hn hv hall few lt
          refine k2 _ _ (fun a u hne e => by rw [upd_ne hne]; exact q15 _ _ e) ⟨_, upd_same, ?_, fun e => ?_⟩ s1 s2
          · cases q : z c with
            | none => exact Nat.le_trans (length_putK kvs (idK c) _) (Nat.le_trans (Nat.add_le_add_right hkl 1) (defd_new hc q))
            | some k => rw [putK_len (by rw [hkv c, q]; rfl)]; exact Nat.le_trans hkl defd_set
          · rw [valV_put]
            unfold setS
            by_cases q : e = c
            · rw [if_pos (by rw [q]), if_pos q]; rfl
            · rw [if_neg (fun y => q (idK_inj.mp y)), if_neg q, hkv]
        have room : kvs.length < sizeLine := Nat.lt_of_le_of_lt (Nat.le_trans hkl (Nat.le_trans (defd_le L z) hL)) (by decide)
        refine ⟨_, rfl, _, rfl, d, _, rfl, DGet.k (k := idK c) hk, _, rfl, ?_⟩
        rw [hkv c]
        cases hzc : z c with
        | none =>
          refine iteT (iteT ⟨_, rfl, _, rfl, _, rfl, d, _, rfl, DPut.k (k := idK c) hk room, ?_⟩)
          exact put fun k e => by rw [hzc] at e; cases e
        | some k0 =>
          refine iteF ⟨_, rfl, _, rfl, _, rfl, d, .int (k0 : Int), rfl, ?_, _, _, rfl, rfl, _, rfl, ?_⟩
          · have := DGet.k (k := idK c) hk
            rw [hkv c, hzc] at this
            exact this
          by_cases lt : wz z n.ids < k0
          · refine ite2 (fun _ => ⟨_, rfl, _, rfl, _, rfl, d, _, rfl, DPut.k (k := idK c) hk room, ?_⟩) fun e => ?_
            · exact put fun k e => by rw [hzc] at e; rw [← Option.some.inj e]; exact lt
            · exfalso
              have e : ¬ decide (((1 + (n.ids.map fun i => (z i).getD 0).sum : Nat) : Int) < (k0 : Int)) = true := e
              rw [decide_eq_true_eq] at e
              unfold wz at lt
              omega
          · refine ite2 (fun e => ?_) fun _ => ?_
            · exfalso
              have e : decide (((1 + (n.ids.map fun i => (z i).getD 0).sum : Nat) : Int) < (k0 : Int)) = true := e
              rw [decide_eq_true_eq] at e
              unfold wz at lt
              omega
            · exact k1 _ _ q15 (.inl ⟨k0, hzc, Nat.le_of_not_lt lt⟩)
      · rw [show (n.ids.map fun i => (z i).isSome).all id = false by
          rw [List.all_map]
          exact Bool.eq_false_iff.mpr fun q => hall fun i hi => List.all_eq_true.mp q i hi]
        refine iteF (k1 _ _ q13 (.inr ?_))
        refine Classical.byContradiction fun q => hall fun i hi => ?_
        cases e : z i with
        | none => exact absurd ⟨i, hi, e⟩ q
        | some k => rfl
    refine ⟨_, pss_cons (ps_asg (pe_tup (pa_cons pe_dnewK (pa_cons pe_bl pa_nil))) (pg_tup rfl (pgs_cons (pg_name (i := 1) sc_sizes.nd rfl (Or.inr rfl)) (pgs_cons (pg_name (i := 2) sc_sizes.nd rfl (Or.inl rfl)) pgs_nil))))
      (pss_cons (ps_while PassesOwn.never (pt_val (pv 2))
        (pss_cons (ps_set (i := 2) sc_sizes.nd rfl (Or.inl rfl) pe_bl)
        (pss_one (ps_lock (ps_for PassesOwn.never rfl (pi_items (pv 0)) (pg_tup rfl (pgs_cons (pg_name (i := 3) sc_sizes.nd rfl (Or.inl rfl)) (pgs_cons (pg_name (i := 4) sc_sizes.nd rfl (Or.inl rfl)) pgs_nil)))
          (pss_one (ps_lock (ps_for PassesOwn.never rfl (pi_keys (pv 4)) (pg_name (i := 5) sc_sizes.nd rfl (Or.inl rfl)) hin))))))))
      (pss_one (ps_ret (pv 1)))), ?_⟩
    refine fun d hd => ⟨(by show 2 ≤ sizeLine; decide), fun tp htp => ⟨tp, _, rfl, SqT.of upd_same, rfl, _, _, rfl, _, _, rfl, rfl, ?_⟩⟩
    have dro : ro ≠ d := ne_of_none rw0.dict hd
    have dra : ∀ c ∈ L, ra c ≠ d := fun c hc => ne_of_none (rw0.row c hc) hd
    have rro : ∀ c ∈ L, ra c ≠ ro := fun c hc => ne_of (rw0.row c hc) rw0.dict (fun z => nomatch z)
    have f0 : ∀ a u, a ≠ d → H a = some u → upd (upd H d (.dK [])) tp (.tup [.ref d, .bl true]) a = some u := fun a u ha e => by
      rw [upd_ne (fun z => ?_), upd_ne ha]
      · exact e
      · subst z
        rw [upd_ne ha, e] at htp
        cases htp
    have z0 : ZAt (upd (upd H d (.dK [])) tp (.tup [.ref d, .bl true])) L d (fun _ => none) := ⟨[], by rw [upd_ne (fun z => by rw [z] at htp; rw [upd_same] at htp; cases htp)]; exact upd_same, Nat.zero_le _, fun c => rfl⟩
    change Ends.nx _ [some (.ref ro), some (.ref d), some (.bl true), none, none, none, none, none] (upd (upd H d (.dK [])) tp (.tup [.ref d, .bl true]))
    generalize upd (upd H d (.dK [])) tp (.tup [.ref d, .bl true]) = H0 at f0 z0 ⊢
    refine ⟨fun m σ H' => ∃ z new v3 v4 v5 v6 v7, m = 2 * mu L z + (if new = true then 1 else 0) ∧ σ = [some (.ref ro), some (.ref d), some (.bl new), v3, v4, v5, v6, v7] ∧ (∀ a u, a ≠ d → H a = some u → H' a = some u) ∧ ZAt H' L d z ∧ Sz W L z ∧ (new = false → Shut W z),
      ⟨_, fun _ => none, true, none, none, none, none, none, rfl, rfl, f0, z0, ⟨fun c k e => (by cases e), fun c k e => (by cases e), fun c k e => (by cases e)⟩, fun e => (by cases e)⟩, ?_⟩
    rintro m σ H1 ⟨z, new, v3, v4, v5, v6, v7, rfl, rfl, fr1, za1, sz1, sh1⟩
    refine ⟨_, rfl, new, rfl, ?_⟩
    cases new with
    | false => exact iteF ⟨_, rfl, hQ H1 d z (fun a u e => fr1 a u (fun q => by rw [q, hd] at e; cases e) e) hd za1 sz1 (sh1 rfl)⟩
    | true =>
      refine iteT ⟨fun σ' H' => ∃ z2 new v3 v4 v5 v6 v7, 2 * mu L z2 + (if new = true then 1 else 0) < 2 * mu L z + (if true = true then 1 else 0) ∧ σ' = [some (.ref ro), some (.ref d), some (.bl new), v3, v4, v5, v6, v7] ∧ (∀ a u, a ≠ d → H a = some u → H' a = some u) ∧ ZAt H' L d z2 ∧ Sz W L z2 ∧ (new = false → Shut W z2),
        fun σ' H' ⟨z2, new, v3, v4, v5, v6, v7, lt, e, a, b, c, f⟩ => ⟨_, lt, z2, new, v3, v4, v5, v6, v7, rfl, e, a, b, c, f⟩, ?_⟩
      refine ⟨ro, _, fr1 _ _ dro rw0.dict, trivial, fun od => ⟨_, rfl, ro, od, _, rfl, upd_same, for_it (n := L.length) (fun i σ H' => ∃ z2 new v3 v4 v5 v6 v7, σ = [some (.ref ro), some (.ref d), some (.bl new), v3, v4, v5, v6, v7] ∧ (∀ a u, a ≠ d → a ≠ ro → H a = some u → H' a = some u) ∧
          H' ro = some (.frz od (.dK (L.map fun c => (idK c, .ref (ra c))))) ∧ ZAt H' L d z2 ∧ Sz W L z2 ∧ ((new = true ∧ mu L z2 < mu L z) ∨ (new = false ∧ z2 = z ∧ ∀ c ∈ L.take i, ∀ n ∈ rl c, Cl1 z c n)))
        ⟨z, false, v3, v4, v5, v6, v7, rfl, fun a u h1 h2 e => by rw [upd_ne h2]; exact fr1 a u h1 e, upd_same, ?_, sz1, .inr ⟨rfl, rfl, fun c hc => by simp at hc⟩⟩
        (fun i σ H' hi ⟨_, _, _, _, _, _, _, _, _, h, _⟩ => ⟨h, by rw [List.length_map]; exact hi⟩) (fun σ H' ⟨_, _, _, _, _, _, _, _, _, h, _⟩ => ⟨h, by rw [List.length_map]; exact Nat.le_refl _⟩) ?_ ?_⟩⟩
      · obtain ⟨kvs, a, b, c⟩ := za1
        exact ⟨kvs, by rw [upd_ne dro.symm]; exact a, b, c⟩
      · rintro i x σ H2 H3 hi ⟨z2, new, v3, v4, v5, v6, v7, rfl, fr2, fz2, za2, sz2, st2⟩ ⟨T', k, v, hk, rfl, hT, rfl⟩
        rw [List.getElem?_map] at hk
        obtain ⟨c, hcL, e⟩ := Option.map_eq_some_iff.mp hk
        obtain ⟨rfl, rfl⟩ := Prod.mk.inj e
        have cL : c ∈ L := List.mem_of_getElem? hcL
        have q3 : Same H2 (upd H2 T' (.tup [kV (idK c), .ref (ra c)])) := Same.upd hT
        refine ⟨T', [kV (idK c), .ref (ra c)], rfl, SqT.of upd_same, rfl, _, _, rfl, _, _, rfl, rfl, ?_⟩
        have hr3 := q3 _ _ (fr2 _ _ (dra c cL) (rro c cL) (rw0.row c cL))
        have fz3 := q3 _ _ fz2
        have za3 := za2.same q3
        have fr3 : ∀ a u, a ≠ d → a ≠ ro → H a = some u → upd H2 T' (.tup [kV (idK c), .ref (ra c)]) a = some u := fun a u h1 h2 e => q3 _ _ (fr2 a u h1 h2 e)
        change tLock _ _ [some (.ref ro), some (.ref d), some (.bl new), some (.int c), some (.ref (ra c)), v5, v6, v7] (upd H2 T' (.tup [kV (idK c), .ref (ra c)]))
        generalize upd H2 T' (.tup [kV (idK c), .ref (ra c)]) = H3 at hr3 fz3 za3 fr3 ⊢
        refine ⟨ra c, _, hr3, trivial, fun od2 => ⟨_, rfl, ra c, od2, rfl, .inr ⟨_, upd_same, for_it (n := (rl c).length) (fun j σ H' => ∃ z3 new v5 v6 v7, σ = [some (.ref ro), some (.ref d), some (.bl new), some (.int c), some (.ref (ra c)), v5, v6, v7] ∧
            (∀ a u, a ≠ d → a ≠ ro → a ≠ ra c → H a = some u → H' a = some u) ∧ H' ro = some (.frz od (.dK (L.map fun c => (idK c, .ref (ra c))))) ∧ H' (ra c) = some (.frz od2 (.dT ((rl c).map uE))) ∧ ZAt H' L d z3 ∧ Sz W L z3 ∧
            ((new = true ∧ mu L z3 < mu L z) ∨ (new = false ∧ z3 = z ∧ (∀ c ∈ L.take i, ∀ n ∈ rl c, Cl1 z c n) ∧ ∀ n ∈ (rl c).take j, Cl1 z c n)))
          ⟨z2, new, v5, v6, v7, rfl, fun a u h1 h2 h3 e => by rw [upd_ne h3]; exact fr3 a u h1 h2 e, by rw [upd_ne (rro c cL).symm]; exact fz3, upd_same, ?_, sz2, ?_⟩
          (fun j σ H' hj ⟨_, _, _, _, _, _, _, _, h, _⟩ => ⟨h, by rw [List.length_map]; exact hj⟩) (fun σ H' ⟨_, _, _, _, _, _, _, _, h, _⟩ => ⟨h, by rw [List.length_map]; exact Nat.le_refl _⟩) ?_ ?_⟩⟩⟩
        · obtain ⟨kvs, a, b, e⟩ := za3
          exact ⟨kvs, by rw [upd_ne (dra c cL).symm]; exact a, b, e⟩
        · rcases st2 with ⟨a, b⟩ | ⟨a, b, f⟩
          · exact .inl ⟨a, b⟩
          · exact .inr ⟨a, b, f, fun n hn => by simp at hn⟩
        · rintro j x σ H4 H5 hj ⟨z3, new, v5, v6, v7, rfl, fr4, fz4, fr24, za4, sz4, st4⟩ ⟨rfl, k, v, q, hk, rfl, hq⟩
          rw [List.getElem?_map] at hk
          obtain ⟨n, hn, e⟩ := Option.map_eq_some_iff.mp hk
          obtain ⟨rfl, rfl⟩ := Prod.mk.inj e
          have hW : W n = some c := (rw0.mem c cL n).mp (List.mem_of_getElem? hn)
          refine fin H5 d z3 c n q new _ _ _ _ za4 sz4 hW cL hq (fun H6 v6 q6 cl => ?_) (fun H6 v6 q6 za6 sz6 lt6 => ?_)
          · refine ⟨z3, new, _, _, _, rfl, fun a u h1 h2 h3 e => q6 _ _ (fr4 a u h1 h2 h3 e), q6 _ _ fz4, q6 _ _ fr24, za4.same q6, sz4, ?_⟩
            rcases st4 with ⟨a, b⟩ | ⟨a, rfl, f, g⟩
            · exact .inl ⟨a, b⟩
            · refine .inr ⟨a, rfl, f, fun m hm => ?_⟩
              rw [take_snoc hn] at hm
              rcases List.mem_append.mp hm with hm | hm
              · exact g m hm
              · rw [List.mem_singleton.mp hm]; exact cl
          · refine ⟨_, true, _, _, _, rfl, fun a u h1 h2 h3 e => q6 _ _ h1 (fr4 a u h1 h2 h3 e), q6 _ _ dro fz4, q6 _ _ (dra c cL) fr24, za6, sz6, .inl ⟨rfl, ?_⟩⟩
            rcases st4 with ⟨a, b⟩ | ⟨a, rfl, f, g⟩
            · exact Nat.lt_trans lt6 b
            · exact lt6
        · rintro σ H4 ⟨z3, new, v5, v6, v7, rfl, fr4, fz4, fr24, za4, sz4, st4⟩
          refine ⟨fr24, z3, new, _, _, _, _, _, rfl, fun a u h1 h2 e => ?_, by rw [upd_ne (rro c cL).symm]; exact fz4, ?_, sz4, ?_⟩
          · by_cases h3 : a = ra c
            · rw [h3, upd_same]
              rw [h3, rw0.row c cL] at e
              exact e
            · rw [upd_ne h3]; exact fr4 a u h1 h2 h3 e
          · obtain ⟨kvs, a, b, e⟩ := za4
            exact ⟨kvs, by rw [upd_ne (dra c cL).symm]; exact a, b, e⟩
          · rcases st4 with ⟨a, b⟩ | ⟨a, b, f, g⟩
            · exact .inl ⟨a, b⟩
            · refine .inr ⟨a, b, fun c' hc' => ?_⟩
              rw [take_snoc hcL] at hc'
              rw [List.take_length] at g
              rcases List.mem_append.mp hc' with hc' | hc'
              · exact f c' hc'
              · rw [List.mem_singleton.mp hc']; exact g
      · rintro σ H2 ⟨z2, new, v3, v4, v5, v6, v7, rfl, fr2, fz2, za2, sz2, st2⟩
        refine ⟨fz2, z2, new, v3, v4, v5, v6, v7, ?_, rfl, fun a u h1 e => ?_, ?_, sz2, fun hf => ?_⟩
        · rcases st2 with ⟨rfl, b⟩ | ⟨rfl, rfl, f⟩
          · simp only [if_true]; omega
          · simp
        · by_cases h2 : a = ro
          · rw [h2, upd_same]
            rw [h2, rw0.dict] at e
            exact e
          · rw [upd_ne h2]; exact fr2 a u h1 h2 e
        · obtain ⟨kvs, a, b, e⟩ := za2
          exact ⟨kvs, by rw [upd_ne dro.symm]; exact a, b, e⟩
        · rcases st2 with ⟨rfl, b⟩ | ⟨_, rfl, f⟩
          · cases hf
          · intro n c hn hd'
            have hc := rw0.all n c hn
            rw [List.take_length] at f
            rcases f c hc n ((rw0.mem c hc n).mpr hn) with h | ⟨i, hi, e⟩
            · exact h
            · have q := hd' i hi
              rw [e] at q
              cases q
end K45
/-! part K45R5 -/
set_option autoImplicit true
set_option Elab.async false
set_option linter.all false
set_option maxRecDepth 100000
set_option maxHeartbeats 4000000
/-! Rules: min(xs, key=f), f a def that gives texts. -/
namespace K45
open PySem PySem.Spec PyProof.Rows L2
theorem best_of {κ : Nat → List Nat} : ∀ n i, i ≤ n → ¬ κ i < κ (argBest (fun i j => decide (κ i < κ j)) n)
  | 0, i, h => by
    obtain rfl : i = 0 := by omega
    exact List.lt_irrefl _
  | n + 1, i, h => by
    have ih := fun i h => best_of (κ := κ) n i h
    unfold argBest
    by_cases e : κ (n + 1) < κ (argBest (fun i j => decide (κ i < κ j)) n)
    · rw [if_pos (decide_eq_true e)]
      by_cases q : i = n + 1
      · rw [q]; exact List.lt_irrefl _
      · exact fun z => ih i (by omega) (List.lt_trans z e)
    · rw [if_neg (by rw [decide_eq_true_eq]; exact e)]
      by_cases q : i = n + 1
      · rw [q]; exact e
      · exact ih i (by omega)
theorem best_le (bt : Nat → Nat → Bool) : ∀ n, argBest bt n ≤ n
  | 0 => Nat.le_refl _
  | n + 1 => by
    unfold argBest
    split
    · exact Nat.le_refl _
    · exact Nat.le_succ_of_le (best_le bt n)
section
variable {X : Cx} {pins : List (Addr × Obj)} {σ : L2.St} {H : Hp} {s : Shared}
/-- untracked records of ours have turned -/
theorem turned2 {h' : Heap} {t' : Nat} {ch : List Addr} (I : Inv X pins σ H s) (k : ∀ b o, b ∉ ch → s.heap.get? b = some o → h'.get? b = some o)
    (hc : ∀ b ∈ ch, H b = none ∧ b ≠ X.env.locals ∧ X.s_0.heap.objs.size ≤ b ∧ (∀ x c, X.env.cells.lookup x = some c → c ≠ b) ∧ ∀ p ∈ X.pn ++ pins, p.1 ≠ b) : Inv X pins σ H { s with heap := h', toks := t' } := by
  have nit : ∀ b u, H b = some u → b ∉ ch := fun b u e z => by rw [(hc b z).1] at e; cases e
  refine I.step (g' := s.gens) (d' := s.drawn) (ch := ch) (fun b hb => ⟨.inr (hc b hb).2.2.1, (hc b hb).2.1, (hc b hb).2.2.2.1, (hc b hb).2.2.2.2⟩) (fun b o _ _ hb e _ => k b o hb e) (fun b o _ _ hb e _ => ⟨o.slots, k b o hb e⟩) (fun _ _ _ _ n => n)
    (fun b o hb e => ⟨o, k b o hb e⟩) (fun _ _ e => e) (fun _ _ _ e => e) (fun b ps e => ⟨#[], by rw [e]; simp⟩) (fun m hm => ?_) (fun b u e => ?_) I.bare
  · obtain ⟨o, es, ep, ho, r⟩ := hm
    exact ⟨o, es, ep, k _ o (fun z => (hc _ z).2.1 rfl) ho, r⟩
  · refine (I.hok b u e).stay (fun c v hb q => k c v ?_ q) (fun _ q => q) fun _ _ q => q
    rcases hb with z | z
    · rw [z]; exact nit b u e
    · exact nit c _ z
theorem no_frs {b : Addr} (I : Inv X pins σ H s) (h : s.heap.objs.size ≤ b) : b ∉ frs X.stack := fun z => by
  rcases List.mem_cons.mp (I.stkSub _ z) with e | e
  · have h1 := I.lt
    rw [← e] at h1
    exact Nat.lt_irrefl _ (Nat.lt_of_lt_of_le h1 h)
  · exact I.nofs h e
/-- an address beyond the heap is nobody's -/
theorem beyond {b : Addr} (I : Inv X pins σ H s) (h : s.heap.objs.size ≤ b) : b ≠ X.env.locals ∧ X.s_0.heap.objs.size ≤ b ∧ (∀ x c, X.env.cells.lookup x = some c → c ≠ b) ∧ ∀ p ∈ X.pn ++ pins, p.1 ≠ b := by
  refine ⟨fun z => ?_, Nat.le_trans I.sz h, fun x c e z => ?_, fun p hp z => ?_⟩
  · have h1 := I.lt
    rw [← z] at h1
    exact Nat.lt_irrefl _ (Nat.lt_of_lt_of_le h1 h)
  · obtain ⟨v, o, ho, _⟩ := I.cell x c e
    have h1 := Heap.lt_size ho
    rw [z] at h1
    exact Nat.lt_irrefl _ (Nat.lt_of_lt_of_le h1 h)
  · have h1 := Heap.lt_size (I.pin p hp).1
    rw [z] at h1
    exact Nat.lt_irrefl _ (Nat.lt_of_lt_of_le h1 h)
end
section
variable {X : Cx}
def rMinKey (f : Addr) (sp : Sp) : List V → List V → Hp → VK → Prop := fun vs zs H Q => ∃ (p : Addr) (od : Obj) (us : List V) (κ : Nat → List Nat), vs = [V.ref p] ∧ zs = [V.ref f] ∧ H p = some (.frz od (.lst us)) ∧ 0 < us.length ∧
  (∀ i u H1, us[i]? = some u → Same H H1 → sp [u] H1 (fun v H2 => ∃ x : Str, v = .str x ∧ x.cps.toList = κ i ∧ Same H1 H2) E0) ∧
  ∀ j u H', us[j]? = some u → (∀ i, i < us.length → ¬ κ i < κ j) → Same H H' → Q u H'
theorem cr_minKey {f : Addr} {fd : FuncData} {x : Str} {k : Nat} {sp : Sp} (hc : X.calm = true) (hr : Room (k + 1) X.A) (F : FnOk X.prog X.w X.K X.mg X.base CX0 k f fd [x] sp) (hb : Binds X.K fd [x] []) : CallRK X (.builtin "min") [Str.ofString "key"] (rMinKey f sp) := by
  intro pins s σ H vs zs us ws Q I r rz h
  obtain ⟨p, od, xs, κ, rfl, rfl, hs, h0, hkey, q⟩ := h
  obtain ⟨eo, hz, its, nn, rv, eo2⟩ := I.hok p _ hs
  rw [eo] at eo2
  rw [Vals.ref1 r]
  obtain ⟨w1, rfl, e1⟩ := vals1 rz
  obtain rfl : w1 = Value.ref f := e1
  have hh : X.A.in1.handled = none := I.ok.hd hc
  have lst : ∀ h : Heap, h.get? p = some od → h.IsList p its.toArray := fun h e => ⟨od, e, by rw [Option.some.inj eo2], nn, by rw [Option.some.inj eo2]⟩
  have hpl : p < s.heap.objs.size := Heap.lt_size eo
  refine call_min_walkK (q := f) (wpAny_pyIter_list (lst _ eo) ?_)
  have hS : (s.heap.push { cls := .type "list_iterator", data := .fields #[.ref p, .int 0 0] }).objs.size = s.heap.objs.size + 1 := size_push' ..
  have W := (Walks.list (prog := X.prog) (w := X.w) (A := X.A.in1) hh s.heap.objs.size p (Nat.ne_of_lt hpl) its.toArray).toS
  have gI : (s.heap.push { cls := .type "list_iterator", data := .fields #[.ref p, .int 0 0] }).get? s.heap.objs.size = some { cls := .type "list_iterator", data := .fields #[.ref p, .int 0 0] } := Heap.get?_push_size _ rfl
  have gP : (s.heap.push { cls := .type "list_iterator", data := .fields #[.ref p, .int 0 0] }).get? p = some od := Heap.get?_push_of_some _ eo
  have hlen : its.length = xs.length := rv.length.symm
  have bI := beyond I (Nat.le_refl s.heap.objs.size)
  have bS := beyond I (b := s.heap.objs.size + 1) (Nat.le_succ _)
  have nI : H s.heap.objs.size = none := I.hok.fresh (Nat.le_refl _)
  have nS : H (s.heap.objs.size + 1) = none := I.hok.fresh (Nat.le_succ _)
  have I2 : Inv X pins σ H { s with heap := s.heap.push { cls := .type "list_iterator", data := .fields #[.ref p, .int 0 0] } } := I.kept (t' := s.toks) fun b o e => Heap.get?_push_of_some _ e
  have fS := no_frs I (b := s.heap.objs.size + 1) (Nat.le_succ _)
  have fI := no_frs I (Nat.le_refl s.heap.objs.size)
  have hcall : ∀ (s1 : Shared) (H1 : Hp) (oI oS : Obj), Inv X pins σ H1 s1 → H1 s.heap.objs.size = none → H1 (s.heap.objs.size + 1) = none → s1.heap.get? s.heap.objs.size = some oI → s1.heap.get? (s.heap.objs.size + 1) = some oS →
      ∀ (i : Nat) (u : V) (v : Value), xs[i]? = some u → RelV u v → Same H H1 →
      ∀ (E : Value → Shared → Prop) (Q : Value → Shared → Prop), (∀ (y : Str) (t : Tok) (s2 : Shared) (H2 : Hp), y.cps.toList = κ i → Inv X pins σ H2 s2 → Same H1 H2 → H2 s.heap.objs.size = none → H2 (s.heap.objs.size + 1) = none →
        s2.heap.get? s.heap.objs.size = some oI → s2.heap.get? (s.heap.objs.size + 1) = some oS → Q (.str y t) s2) → wpAny (model X.prog X.w) X.A.in1 (call (.ref f) [v]) Q E s1 := by
    intro s1 H1 oI oS I1 n1 n2 eI eS i u v hu r1 sm E Q hq
    refine wpAny_call (codeAny_mono (F.run X.A.in1 X.stack s1 H1 ⟨[v], []⟩ [v] [u] _ E0 hr.in1 I1.env0.in1 (hb s1 [v] I1.kIn rfl) (.cons r1 .nil) (hkey i u H1 hu sm)) fun r2 s2 hr2 => ?_)
    cases r2 with
    | error e => exact (show False from hr2).elim
    | ok fl =>
      cases fl with
      | next => exact (show False from hr2).elim
      | brk => exact (show False from hr2).elim
      | cont => exact (show False from hr2).elim
      | ret u2 =>
        obtain ⟨v2, H2, os, bare, un, hok, rv2, y, rfl, ey, sm2⟩ := hr2
        obtain ⟨t, rfl⟩ := rv2
        have I3 : Inv X pins σ H2 s2 := I1.call' (ch := []) os un hok bare fun b z => absurd z (by simp)
        exact hq y t s2 H2 ey I3 sm2 (un.free _ oI eI n1 (by simp)) (un.free _ oS eS n2 (by simp)) (un.keep _ oI eI n1 fI (by simp)) (un.keep _ oS eS n2 fS (by simp))
  have z0 : its.toArray.size = xs.length := by rw [List.size_toArray, hlen]
  refine ⟨s.heap.objs.size, _, _, _, its.toArray.size, _, _, fun s' => ∃ H', Inv X pins σ H' s' ∧ Same H H' ∧ H' s.heap.objs.size = none ∧ H' (s.heap.objs.size + 1) = none, fun i k _ => ∃ (y : Str) (t : Tok), k = .str y t ∧ y.cps.toList = κ i, fun i j => decide (κ i < κ j), rfl, W,
    ⟨⟨_, gI, rfl, rfl⟩, lst _ gP⟩, fun b hb => ?_, by rw [z0]; exact h0, ?_, ⟨H, I2, Same.refl _, nI, nS⟩, fun v s' hv ⟨H', I', sm, _, _⟩ => ?_⟩
  · rw [hS]
    rcases List.mem_cons.mp hb with rfl | hb
    · exact Nat.lt_succ_self _
    · rw [List.mem_singleton.mp hb]; exact Nat.lt_succ_of_lt hpl
  · rw [hS]
    refine ⟨fun s1 s2 ⟨H', I', sm, n1, n2⟩ mv => ?_, fun i k s1 s2 h _ => h, fun i v s1 oS Q E hi hP ⟨H', I', sm, n1, n2⟩ hst eS hq => ?_, fun i j ki kj s1 Q E _ ⟨y, t, e1, h1⟩ ⟨y', t', e2, h2⟩ hq => ?_⟩
    · obtain ⟨h2, g2, d2, t2, o2⟩ := s2
      have e1 : g2 = s1.gens := mv.gens
      have e2 : d2 = s1.drawn := mv.drawn
      have e3 : o2 = s1.os := mv.os
      subst e1 e2 e3
      refine ⟨H', turned2 (ch := [s.heap.objs.size + 1, s.heap.objs.size]) I' (fun b o hb e => mv.heap b o hb e) fun b hb => ?_, sm, n1, n2⟩
      rcases List.mem_cons.mp hb with rfl | hb
      · exact ⟨n2, bS⟩
      · rw [List.mem_singleton.mp hb]; exact ⟨n1, bI⟩
    · obtain ⟨⟨oI, eI, i1, i2⟩, li⟩ := hst
      have hv : its[i]? = some v := by simpa using hP
      obtain ⟨u, hu, ru⟩ := Paired.get rv hv
      refine hcall s1 H' oI oS I' n1 n2 eI eS i u v hu ru sm E Q fun y t s2 H2 ey I3 sm2 m1 m2 k1 k2 => ?_
      have sm3 := Same.trans sm sm2
      exact hq (.str y t) s2 ⟨H2, I3, sm3, m1, m2⟩ ⟨⟨oI, k1, i1, i2⟩, lst _ (I3.hok p _ (sm3 _ _ hs)).1⟩ k2 ⟨y, t, rfl, ey⟩ fun j k' h => h
    · rw [e1, e2]
      refine lt_str ?_
      rw [h1, h2]
      exact hq
  · have hv : its[argBest (fun i j => decide (κ i < κ j)) (its.toArray.size - 1)]? = some v := by simpa using hv
    obtain ⟨u, hu, ru⟩ := Paired.get rv hv
    refine ⟨u, H', I', ru, q _ u H' hu (fun i hi => best_of (its.toArray.size - 1) i (by omega)) sm⟩
end
end K45
/-! part K45R6 -/
set_option autoImplicit true
set_option Elab.async false
set_option linter.all false
set_option maxRecDepth 100000
set_option maxHeartbeats 4000000
/-! Rules: sorted(d, key=lambda place: (sizes[place], place)). -/
namespace K45
open PySem PySem.Spec PyProof.Rows L2
section
variable {prog : Program} {w : World} {A : Around} {s : Shared}
theorem lam_turn {f c' cc d : Addr} {qual : Str} {params : Arguments} {scope : Scope} {cl : List (Str × Addr)} {pm ctv : Value} {c : Int} {t : Tok} {k : Int} {tk : Tok} {g : L2.Key → Option Value} {p1 p2 p3 p4 p5 : Pos} {kk : Nat}
    (hroom : A.depth < recursionLimit)
    (hf : s.heap.get? f = some (PySem.W.kla_obj "<lambda>" qual params (.Tuple [.Subscript (.Name "sizes" p1) (.Name "place" p2) p3, .Name "place" p4] kk p5) scope cl pm c' ctv))
    (hcode : s.heap.CodeRec (.ref c') qual) (lim : s.heap.NoLimit) (hcl : cl.lookup ("sizes" : Str) = some cc) (hcell : s.heap.IsCell cc (some (.ref d)))
    (hsc : scope.kind = .function) (hco : scope.isCoroutine = false) (hgen : scope.isGenerator = false) (hown : ∀ x ∈ scope.names, x.2 ≠ .cell) (hloc : scope.names.lookup ("place" : Str) = some .local) (hfree : scope.names.lookup ("sizes" : Str) = some .free)
    (hbind : ∀ v, bindArgs (PySem.W.kla_fn "<lambda>" qual params (.Tuple [.Subscript (.Name "sizes" p1) (.Name "place" p2) p3, .Name "place" p4] kk p5) scope cl pm (.ref c') ctv) ⟨[v], []⟩ = pure [(("place" : Str), v)])
    (hd : s.heap.MapOf (mixKind prog w) d g) (hg : g (.inl c) = some (.int k tk)) :
    wpAny (model prog w) A (call (.ref f) [.int c t]) (PySem.W.KeyPure (.tuple [.int k, .int c]) s) (fun _ _ => False) s := by
  refine wpAny_call (PySem.W.kla_callFunE hroom hf rfl hco hgen rfl hcode ?_)
  rw [hbind]
  refine wpAny_pure (wpAny_newFunctionEnv hown (fun y hy => ?_) (fun h₁ hns hsb => ⟨lim.fresh _ hsb, ?_⟩) hsc)
  · rw [List.mem_singleton.mp hy]; exact hloc
  have kp : ∀ b o, s.heap.get? b = some o → h₁.get? b = some o := fun b o e => hsb.extBut b o (Nat.ne_of_lt (Heap.lt_size e)) (Heap.get?_push_of_some _ e)
  refine PySem.W.kla_codeExpr ?_
  have hcell' : h₁.IsCell cc (some (.ref d)) := let ⟨o, a, b⟩ := hcell; ⟨o, kp _ _ a, b⟩
  have hd' : h₁.MapOf (mixKind prog w) d g := let ⟨o, es, ep, a, b⟩ := hd; ⟨o, es, ep, kp _ _ a, b⟩
  have hty : ∀ tt, Shared.TypeIs { s with heap := h₁, toks := tt } (.ref d) "dict" := fun tt => let ⟨o, es, ep, a, b, _⟩ := hd'; ⟨o, a, b.1⟩
  refine wpAny_Tuple_spliced ?_
  refine Calls.spliced_cons (subD_of PySem.F.slot_dict_getitem.lookup (fun _ _ => rfl) (wpAny_Name (wpAny_loadName_free hsc hfree hcl hcell' (wpAny_Name (wpAny_loadName_local hsc hloc hns (v := .int c t) (by simp) ⟨hty _, ?_⟩)))))
  refine wpAny_getItem_of (knd := mixKind prog w) (k := .inl c) (kV_is (k := .inl c) ⟨t, rfl⟩) hd' hg ?_
  refine Calls.spliced_cons (wpAny_Name (wpAny_loadName_local hsc hloc hns (v := .int c t) (by simp) (Calls.spliced_nil ⟨by show 2 ≤ sizeLine; decide, ?_⟩)))
  refine ⟨_, _, rfl, fun b o e => Heap.get?_push_of_some _ (kp b o e), ?_⟩
  exact .tuple (Heap.get?_push_size _ rfl) rfl rfl (.cons (.int _ _) (.cons (.int _ _) .nil))
end
section
variable {X : Cx} {te : TE} {e : Expr} {p pos lpos kpos p1 p2 p3 p4 p5 : Pos} {kk i : Nat} {params : Arguments} {scope : Scope} {c P : Addr}
/-- by z, then by number -/
def zle (z : Nat → Nat) (a b : Nat) : Prop := z a < z b ∨ (z a = z b ∧ a ≤ b)
def kz2 (z : Nat → Nat) (n : Nat) : PyData := .tuple [.int (z n : Nat), .int (n : Nat)]
/-- sorted(d, key=lambda place: (sizes[place], place)): σ[i] is sizes -/
def tSL (T : List (Addr × Str)) (i : Nat) (te : TE) : TE := fun σ H Q => te σ H fun x H1 => ∃ (ro d : Addr) (L : List Nat) (kvs zs : List (L2.Key × V)) (z : Nat → Nat), x = .ref ro ∧ Rd H1 ro (.dK kvs) ∧ kvs.map (·.1) = L.map idK ∧ σ[i]? = some (some (.ref d)) ∧ H1 d = some (.dK zs) ∧
  (∀ n ∈ L, valV zs (idK n) = some (.int (z n : Nat))) ∧ LamX.Tabs T H1 ∧
  ∀ (H2 : Hp) (cs : List Nat) (l : Addr), LamX.ExtN H1 H2 → LamX.Tabs T H2 → H2 l = none → cs.Perm L → cs.Pairwise (zle z) → Q (.ref l) (upd H2 l (.lst (cs.map fun n : Nat => V.int (n : Int))))
theorem pe_sortedLam {T : List (Addr × Str)} (hc : X.calm = true) (hr : Room 4 X.A) (hg : Gl X "sorted") (hm : X.mg "sorted" = none) (he : PE X e te) (TB : LamX.TabB X.base X.mg c P) (hcode : X.env.code = .ref c)
    (hmT : (P, X.env.qual ++ "<lambda>") ∈ T) (huT : ∀ p ∈ T, p.1 = P → p.2 = X.env.qual ++ "<lambda>") (hN : X.N[i]? = some (("sizes" : Str))) (hci : X.env.scope.names.lookup ("sizes" : Str) = some .cell)
    (hdef : defaultsOf params X.env = ([], [])) (hfree : ∀ y ∈ scope.names, y.2 = .free → y.1 = "sizes")
    (hsc : scope.kind = .function) (hco : scope.isCoroutine = false) (hgen : scope.isGenerator = false) (hown : ∀ x ∈ scope.names, x.2 ≠ .cell) (hloc : scope.names.lookup ("place" : Str) = some .local) (hfr : scope.names.lookup ("sizes" : Str) = some .free)
    (hbind : ∀ qual cl pm c' ctv v, bindArgs (PySem.W.kla_fn "<lambda>" qual params (.Tuple [.Subscript (.Name "sizes" p1) (.Name "place" p2) p3, .Name "place" p4] kk p5) scope cl pm (.ref c') ctv) ⟨[v], []⟩ = pure [(("place" : Str), v)])
    (hst : backTo pos (starEach [e] X.env) = (false, eval e X.env) :: backTo pos (starEach [] X.env) := by rfl) (hpl : (backTo pos (starEach [e] X.env)).any (·.1) = false := by rfl) :
    PE X (.Call (.Name "sorted" p) [e] [⟨some "key", .Lambda params (.Tuple [.Subscript (.Name "sizes" p1) (.Name "place" p2) p3, .Name "place" p4] kk p5) scope lpos, kpos⟩] pos) (tSL T i te) := by
  refine ⟨fun pins s σ H Q I h => ?_⟩
  refine wpAny_Call_Name_kw (ld_blt (u := .builtin "sorted") I hg hm (by decide +kernel) ?_)
  refine PyProof.Rows.callWith_kw (id := "sorted") ?_ hst hpl
  rw [hst]
  refine Calls.spliced_cons (thn (he.run pins s σ H _ I h) fun u s1 ⟨x, H1, I1, rx, ro, d, L, kvs, zs, z, ex, hro, hks, hz, hd, hzs, hT, q⟩ => Calls.spliced_nil ?_)
  subst ex
  obtain rfl : u = Value.ref ro := rx
  show wpAny _ _ (evalAll [do let v ← eval (.Lambda params (.Tuple [.Subscript (.Name "sizes" p1) (.Name "place" p2) p3, .Name "place" p4] kk p5) scope lpos) X.env; standAt pos; pure v]) _ _ s1
  have hcells : ∀ y ∈ scope.names, y.2 = .free → ∃ c, X.env.cells.lookup y.1 = some c := fun y hy ey => by rw [hfree y hy ey]; exact I1.ok.has _ (.inl hci)
  refine wpAny_evalAll_cons (wpAny_bind (LamX.lam_make2 I1 TB hcode hmT huT hT hdef hcells fun f c' pm ctv H2 s2 I2 eN hT2 hf hfn hfs hcO => wpAny_bind (wpAny_standAt (wpAny_pure (wpAny_evalAll_nil ?_)))))
  -- what the lambda sees
  obtain ⟨m, hn, hl⟩ := I2.loc
  obtain ⟨u2, ru, lk⟩ := hl i "sizes" (.ref d) hN hz (.inr (.inl hci))
  obtain rfl : u2 = Value.ref d := ru
  obtain ⟨c0, hc0, hcell⟩ : ∃ c0, X.env.cells.lookup ("sizes" : Str) = some c0 ∧ s2.heap.IsCell c0 (some (.ref d)) := by
    rcases lk with ⟨hk, _⟩ | ⟨_, c0, h1, h2⟩
    · have hk : X.env.scope.names.lookup ("sizes" : Str) = some .local := hk
      rw [hci] at hk
      cases hk
    · exact ⟨c0, h1, h2⟩
  have hy : ((("sizes" : Str)), NameKind.free) ∈ scope.names := PySem.mem_of_lookup hfr
  obtain ⟨cc, hcl⟩ := mem_lookup (cloFrom_has (cells := X.env.cells) (acc := []) hy)
  have ecc : cc = c0 := by
    rcases cloFrom_mem (PySem.mem_of_lookup hcl) with hm' | ⟨_, h2⟩
    · cases hm'
    · rw [h2, hc0] <;> rfl
  subst ecc
  have hro2 : Rd H2 ro (.dK kvs) := by
    rcases hro with h | ⟨o, h⟩
    · exact .inl (eN _ _ h (fun _ z => nomatch z))
    · exact .inr ⟨o, eN _ _ h (fun _ z => nomatch z)⟩
  have hd2 := eN _ _ hd (fun _ z => nomatch z)
  obtain ⟨_, _, vs2, rel2, dd2⟩ := dk_of I2.hok hd2
  have hMap := dd2.mapOf
  have hval : ∀ n ∈ L, ∃ tk, valueAt vs2 (.inl (n : Int)) = some (.int (z n : Nat) tk) := fun n hn => by
    have r := rel2.val (idK n)
    rw [hzs n hn] at r
    cases e : valueAt vs2 (idK n) with
    | none => rw [e] at r; exact (show False from r).elim
    | some y =>
      rw [e] at r
      obtain ⟨tk, rfl⟩ := (show ∃ tk, y = Value.int (z n : Nat) tk from r)
      exact ⟨tk, rfl⟩
  have hcode2 : s2.heap.CodeRec (.ref c') (X.env.qual ++ "<lambda>") := by
    obtain ⟨⟨oc, vs, t, a, b, e⟩, _, _⟩ := I2.hok c' _ hcO
    exact ⟨c', oc, vs, t, rfl, a, b, e⟩
  have lim2 := I2.nolimit
  -- sorted
  obtain ⟨zz, lo, vs, rel, dd⟩ := dk_rd I2.hok hro2
  obtain ⟨ep, hat⟩ := dd.dictAt
  have hkeys : vs.map (·.1) = L.map idK := rel.keys.symm.trans hks
  have hlv : vs.length = L.length := by
    have e := congrArg List.length hkeys
    rw [List.length_map, List.length_map] at e
    exact e
  have h16 : vs.length ≤ sizeLine := by rw [← rel.length]; exact zz
  show wpAny _ _ (call (.builtin "sorted") [.ref ro] [(Str.ofString "key", .ref f)]) _ _ s2
  refine call_function_entry_kw PyProof.Rows.kind_sorted PyProof.Rows.plain_sorted PyProof.Rows.entry_sorted (PyProof.Rows.ksk_s1 _ _) ?_
  unfold Builtin.«sorted»
  refine wpAny_bind (m := checkCount "sorted" 1 1 _) (wpAny_pure ?_)
  refine wpAny_bind (PySem.W.kdu_collect (A := X.A.in1) (PySem.W.kdl_dict (knd := mixKind X.prog X.w) (kvs := vs) (ep := ep) lo) (I2.ok.hd hc) hat h16 fun h' tk acc hk hacc => ?_)
  have hal : acc.toList.length = L.length := by rw [Array.length_toList, hacc.1, hlv]
  have hE : PySem.W.EachIs (fun (v : Value) (n : Nat) => ∃ t, v = Value.int (n : Int) t) acc.toList L := by
    refine PySem.W.EachIs.of_zip hal fun q hq => ?_
    obtain ⟨j, hj⟩ := List.mem_iff_getElem?.mp hq
    obtain ⟨j1, j2⟩ := List.getElem?_zip_eq_some.mp hj
    obtain ⟨k, x, e1, e2⟩ := hacc.2 j q.1 (by rw [← Array.getElem?_toList]; exact j1)
    have e3 : (vs.map (·.1))[j]? = some k := by rw [List.getElem?_map, e1]; rfl
    rw [hkeys, List.getElem?_map, j2] at e3
    have e5 : idK q.2 = k := Option.some.inj e3
    subst e5
    rcases keyIs_shape (show keyIs (idK q.2) q.1 = true from e2) with ⟨i, t, ek, ev⟩ | ⟨y, t, ek, ev⟩
    · cases ek; exact ⟨t, ev⟩
    · cases ek
  have hz2 : acc.toList.length ≤ sizeLine := by rw [hal, ← hlv]; exact h16
  have I3 : Inv X pins σ H2 { s2 with heap := h', toks := tk } := I2.kept hk
  refine wpAny_bind (wpAny_newList ?_ hz2)
  have hoL : (h'.push (seqObj "list" acc.toList.toArray 0)).get? h'.objs.size = some (seqObj "list" acc.toList.toArray 0) := Heap.get?_push_size _ rfl
  show wpAny _ _ _ _ _ { s2 with heap := h'.push (seqObj "list" acc.toList.toArray 0), toks := tk }
  have kp2 : ∀ b o, s2.heap.get? b = some o → b ≠ h'.objs.size ∧ (h'.push (seqObj "list" acc.toList.toArray 0)).get? b = some o := fun b o e => ⟨Nat.ne_of_lt (Heap.lt_size (hk b o e)), Heap.get?_push_of_some _ (hk b o e)⟩
  refine wpAny_bind (wpAny_holding (wpAny_call_entry_kw PyProof.Rows.slot_list_sort ⟨_, hoL, rfl⟩ PyProof.Rows.entry_list_sort ?_ (PyProof.Rows.ksk_l1 _ _)))
  rw [PyProof.Rows.ksk_t1]
  have hal2 : PySem.W.AllAlike (L.map (kz2 z)) := PySem.W.AllAlike.of fun b b' => by unfold kz2; simp [PySem.W.alike, PySem.W.alikeAll, PyData.eqv]
  have hsk2 : PySem.W.Sortable (L.map (kz2 z)) := PySem.W.Sortable.tuples fun b => ⟨_, _, rfl⟩
  refine PySem.W.keyH_tree (kz := L.map (kz2 z)) (s := { s2 with heap := h'.push (seqObj "list" acc.toList.toArray 0), toks := tk }) hoL (by rw [List.length_map]; exact hal.symm) hz2 hal2 hsk2 (fun d hd => ?_) (PySem.W.keyH_turns hE fun v n ⟨t, ev⟩ hn h tk2 kp => ?_) fun h3 tk3 out cc3 kp hD ko => ⟨.none, rfl, ?_⟩
  · obtain ⟨n, _, rfl⟩ := List.mem_map.mp hd
    have hu := hr.units
    have hdp : (kz2 z n).depth = 1 := rfl
    rw [hdp]
    show X.A.units + 1 + 1 + 1 < _
    omega
  · subst ev
    have kp4 : ∀ b o, s2.heap.get? b = some o → h.get? b = some o := fun b o e => kp b o (kp2 b o e).1 (kp2 b o e).2
    obtain ⟨tk5, hv⟩ := hval n hn
    have hcell' : h.IsCell cc (some (.ref d)) := let ⟨o, a, b⟩ := hcell; ⟨o, kp4 _ _ a, b⟩
    have hd' : h.MapOf (mixKind X.prog X.w) d (valueAt vs2) := let ⟨o, es, ep, a, b⟩ := hMap; ⟨o, es, ep, kp4 _ _ a, b⟩
    have hcd' : h.CodeRec (.ref c') (X.env.qual ++ "<lambda>") := let ⟨y, o, ws, t, a, b, c⟩ := hcode2; ⟨y, o, ws, t, a, kp4 _ _ b, c⟩
    exact lam_turn (s := { s2 with heap := h, toks := tk2 }) (show X.A.depth < _ from hr.depth) (kp4 _ _ hf) hcd' (let ⟨mc, ⟨o, es, ep, a, b⟩, c⟩ := lim2; ⟨mc, ⟨o, es, ep, kp4 _ _ a, b⟩, c⟩) hcl hcell' hsc hco hgen hown hloc hfr (hbind _ _ _ _ _) hd' hv
  have ho2 := PySem.W.keyedOut_each (kz2 z) ko hE
  have hp := List.mergeSort_perm L (PySem.W.dataLe false (kz2 z))
  have hle : PySem.W.dataLe false (kz2 z) = fun p q => decide ((z p : Int) < z q ∨ ((z p : Int) = z q ∧ (p : Int) ≤ q)) := PySem.W.dataLe_ii (fun n : Nat => (z n : Int)) (fun n : Nat => (n : Int))
  have hs : (L.mergeSort (PySem.W.dataLe false (kz2 z))).Pairwise fun a b => PySem.W.dataLe false (kz2 z) a b = true := PySem.W.sort_pairwise (PySem.W.sortLe_total _ false _) L
  have hs2 : (L.mergeSort (PySem.W.dataLe false (kz2 z))).Pairwise (zle z) := hs.imp fun {a b} h => by
    rw [hle] at h
    have h := of_decide_eq_true h
    unfold zle
    omega
  generalize L.mergeSort (PySem.W.dataLe false (kz2 z)) = cs at ho2 hp hs2
  have hvo : Vals (cs.map fun n : Nat => V.int (n : Int)) out := by
    clear hp hs2 ko
    revert ho2
    generalize out = us
    intro e
    induction e with
    | nil => exact .nil
    | cons h t ih => exact .cons h ih
  have hol : out.length = cs.length := ho2.length
  have hlen : (cs.map fun n : Nat => V.int (n : Int)).length ≤ sizeLine := by
    rw [List.length_map, hp.length_eq, ← hal]
    exact hz2
  have k9 : ∀ b o, s2.heap.get? b = some o → h3.get? b = some o := fun b o e => kp b o (kp2 b o e).1 (kp2 b o e).2
  refine wpAny_pure ⟨_, rfl, .ref h'.objs.size, upd H2 h'.objs.size (.lst (cs.map fun n : Nat => V.int (n : Int))), I3.laid (t' := tk3) (fun b u e => ?_) (Nat.le_refl _)
    (show ObjOk X.prog X.w _ _ _ (.lst (cs.map fun n : Nat => V.int (n : Int))) from ⟨hlen, out, cc3, hvo, hD⟩), rfl, q H2 cs _ eN hT2 (I3.hok.fresh (Nat.le_refl _)) hp hs2⟩
  exact kp b u (Nat.ne_of_lt (Heap.lt_size e)) (Heap.get?_push_of_some _ e)
end
end K45
/-! part K45F2 -/
set_option autoImplicit true
set_option autoImplicit false
set_option linter.all false
/-! Plain mathematics: the first members, class by class. -/
namespace K45
section
variable {S : List T} {R : T → T → Prop} {W : Tab} {sz : Nat → Nat} {A : List Nat} {fnd : Nat → T}
theorem ids_lt {n : N} {c : Nat} (e : wsum sz n = sz c) {i : Nat} (hi : i ∈ n.ids) : sz i < sz c := by
  have := sum_mem (f := sz) hi
  unfold wsum at e
  omega
structure Fo (W : Tab) (sz : Nat → Nat) (A : List Nat) (fnd : Nat → T) : Prop where
  at_ : ∀ c ∈ A, ∃ m, W m = some c ∧ wsum sz m = sz c ∧ fnd c = app fnd m
  least : ∀ c ∈ A, ∀ n, W n = some c → wsum sz n = sz c → ¬ (app fnd n).txt < (fnd c).txt
  down : ∀ c ∈ A, ∀ n, W n = some c → wsum sz n = sz c → ∀ i ∈ n.ids, i ∈ A
  mem : ∀ c ∈ A, find W (fnd c) = some c ∧ (fnd c).ok ∧ (fnd c).size = sz c
theorem Fo.nil : Fo W sz [] fnd := ⟨fun _ h => (by cases h), fun _ h => (by cases h), fun _ h => (by cases h), fun _ h => (by cases h)⟩
theorem Fo.node (f : Fo W sz A fnd) (h : Whole S R W) (hk : ∀ t ∈ S, t.ok) (hR : ∀ a b, R a b → a.word = b.word) {n : N} {c : Nat} (hn : W n = some c) (hw : wsum sz n = sz c) (hd : ∀ i ∈ n.ids, i ∈ A) :
    find W (app fnd n) = some c ∧ (app fnd n).ok ∧ (app fnd n).size = sz c ∧ (app fnd n).hd = n.hd ∧ (app fnd n).parts = n.ids.map fnd := by
  obtain ⟨v, hv, e⟩ := h.cov n c hn
  have key : ∀ i ∈ n.ids, find W (fnd i) = some i ∧ (fnd i).ok ∧ (fnd i).size = sz i := fun i hi => f.mem i (hd i hi)
  obtain ⟨a1, a2, a3⟩ := app_find (S := S) (fnd := fnd) e fun i hi => (key i hi).1
  refine ⟨find_of a1 hn, ?_, ?_, a2, a3⟩
  · rw [T.ok_iff, a2, a3]
    obtain ⟨e1, e2⟩ := nd_iff.mp e
    refine ⟨?_, fun p hp => ?_⟩
    · rw [e1, ((T.ok_iff v).mp (hk v hv)).1]
      have gen : ∀ (ps : List T) (ids : List Nat), (∀ i ∈ ids, find W (fnd i) = some i) → ps.map (find W) = ids.map some → ps.map T.word = (ids.map fnd).map T.word := by
        intro ps
        induction ps with
        | nil => intro ids _ e; cases ids with
          | nil => rfl
          | cons => simp at e
        | cons p ps ihp =>
          intro ids hid e
          cases ids with
          | nil => simp at e
          | cons i ids =>
            simp only [List.map_cons, List.cons.injEq] at e ⊢
            exact ⟨(h.sound _ _ i e.1 (hid i List.mem_cons_self)).word hR, ihp ids (fun j hj => hid j (List.mem_cons_of_mem _ hj)) e.2⟩
      exact gen _ _ (fun i hi => (key i hi).1) e2
    · obtain ⟨i, hi, rfl⟩ := List.mem_map.mp hp
      exact (key i hi).2.1
  · rw [T.size_parts, a3, List.map_map, ← hw, wsum]
    congr 2
    exact List.map_congr_left fun i hi => (key i hi).2.2
theorem Fo.step (f : Fo W sz A fnd) (h : Whole S R W) (hk : ∀ t ∈ S, t.ok) (hR : ∀ a b, R a b → a.word = b.word) {c : Nat} (hc : c ∉ A) (hd : ∀ n, W n = some c → wsum sz n = sz c → ∀ i ∈ n.ids, i ∈ A) {m : N} (hm : W m = some c) (hw : wsum sz m = sz c)
    (hl : ∀ n, W n = some c → wsum sz n = sz c → ¬ (app fnd n).txt < (app fnd m).txt) : Fo W sz (A ++ [c]) (fun e => if e = c then app fnd m else fnd e) := by
  have same : ∀ n : N, (∀ i ∈ n.ids, i ∈ A) → app (fun e => if e = c then app fnd m else fnd e) n = app fnd n := fun n hi => app_congr fun i h' => by
    show (if i = c then _ else _) = _
    rw [if_neg]
    intro e
    rw [← e] at hc
    exact hc (hi i h')
  have old : ∀ d ∈ A, (if d = c then app fnd m else fnd d) = fnd d := fun d hd' => if_neg fun e => hc (by rw [← e]; exact hd')
  have new : (if c = c then app fnd m else fnd c) = app fnd m := if_pos rfl
  refine ⟨fun d hd' => ?_, fun d hd' n hn hwn => ?_, fun d hd' n hn hwn i hi => ?_, fun d hd' => ?_⟩
  all_goals rcases List.mem_append.mp hd' with q | q
  · obtain ⟨m', e1, e2, e3⟩ := f.at_ d q
    refine ⟨m', e1, e2, ?_⟩
    show (if d = c then _ else _) = _
    rw [old d q, same m' (f.down d q m' e1 e2)]
    exact e3
  · obtain rfl := List.mem_singleton.mp q
    refine ⟨m, hm, hw, ?_⟩
    show (if d = d then _ else _) = _
    rw [new, same m (hd m hm hw)]
  · show ¬ _ < (if d = c then app fnd m else fnd d).txt
    rw [old d q, same n (f.down d q n hn hwn)]
    exact f.least d q n hn hwn
  · obtain rfl := List.mem_singleton.mp q
    show ¬ _ < (if d = d then app fnd m else fnd d).txt
    rw [new, same n (hd n hn hwn)]
    exact hl n hn hwn
  · exact List.mem_append_left _ (f.down d q n hn hwn i hi)
  · obtain rfl := List.mem_singleton.mp q
    exact List.mem_append_left _ (hd n hn hwn i hi)
  · show find W (if d = c then app fnd m else fnd d) = _ ∧ (if d = c then app fnd m else fnd d).ok ∧ (if d = c then app fnd m else fnd d).size = _
    rw [old d q]
    exact f.mem d q
  · obtain rfl := List.mem_singleton.mp q
    show find W (if d = d then app fnd m else fnd d) = _ ∧ (if d = d then app fnd m else fnd d).ok ∧ (if d = d then app fnd m else fnd d).size = _
    rw [new]
    obtain ⟨a, b, e, _⟩ := f.node h hk hR hm hw (hd m hm hw)
    exact ⟨a, b, e⟩
theorem Fo.firsts (f : Fo W sz A fnd) (h : ∀ n c, W n = some c → c ∈ A) : Firsts W sz T.txt fnd :=
  ⟨fun n c hn => f.at_ c (h n c hn), fun n c hn hw => f.least c (h n c hn) n hn hw⟩
/-- what is smaller stands before -/
theorem before {z : Nat → Nat} {cs : List Nat} (hp : cs.Pairwise fun a b => z a < z b ∨ (z a = z b ∧ a ≤ b)) {i c d : Nat} (hc : cs[i]? = some c) (hd : d ∈ cs) (lt : z d < z c) : d ∈ cs.take i := by
  obtain ⟨j, hj⟩ := List.mem_iff_getElem?.mp hd
  by_cases q : j < i
  · exact List.mem_of_getElem? (i := j) (by rw [List.getElem?_take, if_pos q]; exact hj)
  · exfalso
    by_cases e : j = i
    · rw [e, hc] at hj
      cases hj
      exact Nat.lt_irrefl _ lt
    · obtain ⟨hi, ei⟩ := List.getElem?_eq_some_iff.mp hc
      obtain ⟨hj2, ej⟩ := List.getElem?_eq_some_iff.mp hj
      have := List.pairwise_iff_getElem.mp hp i j hi hj2 (by omega)
      rw [ei, ej] at this
      omega
end
end K45
/-! part K45L8 -/
set_option autoImplicit true
set_option Elab.async false
set_option linter.all false
set_option maxRecDepth 100000
set_option maxHeartbeats 4000000
/-! Walks: first_terms. -/
namespace K45
open PySem PySem.Spec PyProof.Rows L2
variable {P : Program} {w : World} {K : PySem.W.Frag} {mg : Str → Option Value} {base : Heap}
/-- a def whose code object is told -/
theorem okNC {x qual : Str} {params : Arguments} {body : List Stmt} {scope : Scope} {dvs : List V} {kws : List (Str × V)} {d : He.Defn} {fd : FuncData} {N ps : List Str} {k : Nat} {sp : Sp} (F : FunD K x qual params body scope dvs kws (He.fAd K d) fd) (S : FnScope N ps scope) (len : ∀ vs H Q E, sp vs H Q E → vs.length = ps.length)
    (hbody : ∀ (A : Around) (outer : List Env) (s : Shared) (H : Hp) (vs : List V) (Q : VK) (E : XK), Room k (A.deeper (envOfC qual scope s.heap.objs.size (He.fAd K d) (.ref (He.cT K d).1))) → sp vs H Q E →
      ∃ t, PSs (cxOf CX0 P w K mg base N qual scope (He.fAd K d) (.ref (He.cT K d).1) A outer s H E).nox body t ∧ t { nx := fun _ H' => Q .non H', rt := Q } (start N vs) H) : FnOk P w K mg base CX0 (k + 1) (He.fAd K d) fd ps sp := by
  obtain ⟨oc, od, dV, kV, doc, pm, an, cdv, ct, osl, rfl, lk, hcd, _, _⟩ := F.ex
  obtain ⟨c, rfl⟩ := He.codeIn_ref hcd
  have e : He.codeOf K d = c := He.codeOf_eq lk rfl
  subst e
  refine fn_of lk hcd S len fun A outer s H vs Q E hr h => ?_
  obtain ⟨t, h1, h2⟩ := hbody A outer s H vs Q E hr h
  exact ⟨t, h1.nox, h2⟩
abbrev ftN : List Str := ["rows", "sizes", "found", "place", "terms", "node", "part"]
theorem sc_first : FnScope ftN ["rows"] (defScope s_first_terms) := ⟨rfl, rfl, rfl, by decide +kernel, rfl, by decide +kernel, by decide +kernel⟩
/-- the table of the lambda's code objects -/
def fT (K : PySem.W.Frag) : List (Addr × Str) := [((He.cT K ("first_terms", none)).2, (envOfC "first_terms" (defScope s_first_terms) 0 0 .none).qual ++ "<lambda>")]
def sp_firsts (K : PySem.W.Frag) (S : List T) (R : T → T → Prop) (B : Nat) : Sp := fun vs H Q _ => ∃ (ro : Addr) (L : List Nat) (ra : Nat → Addr) (rl : Nat → List N) (W : Tab), vs = [.ref ro] ∧ Rws H ro L ra rl W ∧ L.length ≤ 2000 ∧ L.Nodup ∧ (∀ c ∈ L, ra c ≠ ro) ∧ (∀ c ∈ L, (rl c).length ≤ 2000) ∧
  Whole S R W ∧ (∀ t ∈ S, t.ok ∧ t.size ≤ B) ∧ (∀ a b, R a b → a.word = b.word) ∧ (∀ c ∈ L, ∃ n, W n = some c) ∧ LamX.Tabs (fT K) H ∧
  ∀ H' d kvs sz fnd, LamX.ExtN H H' → LamX.Tabs (fT K) H' → H d = none → H' d = some (.dK kvs) → kvs.length ≤ 2000 → (∀ c ∈ L, ∃ v, valV kvs (idK c) = some v ∧ TmAt H' (fnd c) v) → Sizes W sz → Firsts W sz T.txt fnd → Q (.ref d) H'
theorem ext_tabs {T : List (Addr × Str)} {H H' : Hp} {d : Addr} {kvs : List (L2.Key × V)} (h : LamX.Tabs T H) (hd : H d = some (.dK kvs)) (k : ∀ b u, b ≠ d → H b = some u → H' b = some u) : LamX.Tabs T H' := fun p hp => by
  obtain ⟨ps, h1, h2, h3⟩ := h p hp
  refine ⟨ps, k _ _ (fun e => by rw [e, hd] at h1; cases h1) h1, h2, fun pos cv hc => ?_⟩
  obtain ⟨c, e1, e2⟩ := h3 pos cv hc
  exact ⟨c, e1, k _ _ (fun e => by rw [e, hd] at e2; unfold LamX.CodeO at e2; cases e2) e2⟩
theorem ok_firsts (X : Fx P w K mg base) (S : List T) (R : T → T → Prop) (B : Nat) (hB : B ≤ 1000) : OkD P w K mg base "first_terms" ["rows"] (B + 10) (sp_firsts K S R B) := by
  obtain ⟨fd, F⟩ := X.fn 16 (d := d_first_terms) rfl
  obtain ⟨_, _, DS⟩ := (ok_sizes X).mono (k := B + 9) (by omega)
  obtain ⟨_, _, D1⟩ := (ok_parts_in X).mono (k := B + 9) (by omega)
  obtain ⟨_, _, DT⟩ := (ok_text X B).mono (k := B + 8) (by omega)
  refine ⟨_, fd, X.glo _ (X.fact 16 (f := .glo "first_terms") rfl), F.kp, F.bindsN fun _ _ _ _ _ _ us hl => match us, hl with | [_], _ => rfl, okNC F sc_first (fun vs H Q E h => ?_) (fun A outer s H vs Q E hr h => ?_)⟩
  · obtain ⟨_, _, _, _, _, rfl, _⟩ := h
    rfl
  · obtain ⟨ro, L, ra, rl, W, rfl, rw0, hL, ndL, hrr, hrl, hW, hS, hR, hne, hT, hQ⟩ := h
    have hu := hu_of hr
    have TB := X.tab ("first_terms", none) (by decide)
    refine ⟨_, pss_cons (ps_asg (pe_tup (pa_cons (pe_d DS hr (by rfl) (pa_cons (pv 0) pa_nil)) (pa_cons pe_dnewK pa_nil))) (pg_tup rfl (pgs_cons (pg_name (i := 1) sc_first.nd rfl (Or.inr rfl)) (pgs_cons (pg_name (i := 2) sc_first.nd rfl (Or.inr rfl)) pgs_nil))))
      (pss_cons (ps_for PassesOwn.never rfl (pi_list (pe_sortedLam (T := fT K) (i := 1) rfl (hr.mono (by omega)) (by rfl) X.b_sorted (pv 0) TB rfl (List.mem_singleton.mpr rfl) (fun p hp _ => by rw [List.mem_singleton.mp hp]; rfl) rfl rfl rfl (by decide +kernel) rfl rfl rfl (by decide +kernel) rfl rfl
          (fun _ _ _ _ _ _ => rfl))) (pg_name (i := 3) sc_first.nd rfl (Or.inl rfl))
        (pss_cons (ps_set (i := 4) sc_first.nd rfl (Or.inl rfl) (pe_lst pa_nil))
        (pss_cons (ps_lock (ps_for PassesOwn.never rfl (pi_keys (pe_dget hu (pv 0) (pv 3) (fun _ _ => rfl))) (pg_name (i := 5) sc_first.nd rfl (Or.inl rfl))
          (pss_one (ps_if (pt_cmpR op_eq (pe_op op_add pe_int (pe_callB (cr_sum rfl) (by rfl) X.b_sum (by decide +kernel) (pa_cons (pe_lc (own := [("part", 6)]) (g := gName 6) (tt := tYes) rfl sc_first.nd (pi_tup (pe_d D1 hr (by rfl) (pa_cons (pv 5) pa_nil)))
              (blkOk_by (own := [("part", 6)]) (N := ftN) (sc := defScope s_first_terms) (by decide +kernel)) (fun _ _ _ _ _ => pg_name (i := 6) sc_first.nd rfl (Or.inl rfl)) (fun _ _ _ _ _ => pts_nil)
              (fun _ _ _ _ _ => pe_dget hu (pv 1) (pv 6) (fun _ _ => rfl))) pa_nil))) (pe_dget hu (pv 1) (pv 3) (fun _ _ => rfl)) (nomark _))
            (pss_one (ps_expr (pe_bm PySem.F.plainAttrs_list PySem.F.slot_list_append PySem.F.type_list_append mt_append (pv 4) (pa_cons (pe_ifExp (pt_cmpR (op_neD hr.units) (pe_d D1 hr (by rfl) (pa_cons (pv 5) pa_nil)) (pe_tup pa_nil) (nomark _))
              (pe_tup (pa_cons (pe_ix ix_tup (pv 5) pe_int (fun _ _ => rfl)) (StX.pa_star (pe_lc (own := [("part", 6)]) (g := gName 6) (tt := tYes) rfl sc_first.nd (pi_tup (pe_slice sl_tup (pv 5) (po_some pe_int) po_none))
                (blkOk_by (own := [("part", 6)]) (N := ftN) (sc := defScope s_first_terms) (by decide +kernel)) (fun _ _ _ _ _ => pg_name (i := 6) sc_first.nd rfl (Or.inl rfl)) (fun _ _ _ _ _ => pts_nil)
                (fun _ _ _ _ _ => pe_dget hu (pv 2) (pv 6) (fun _ _ => rfl))) pa_nil))) (pv 5)) pa_nil)))) pss_nil))))
        (pss_one (ps_dput hu (pv 2) (pv 3) (pe_lock (pe_callBK (cr_minKey rfl hr DT.ok DT.bi) (by rfl) X.b_min (by decide +kernel) (pa_cons (pv 4) pa_nil) (pk_cons (pe_glob (v := .ref _) rfl DT.gl rfl) pk_nil))) (by rfl))))))
      (pss_one (ps_ret (pv 2)))), ?_⟩
    refine ⟨_, rfl, ro, L, ra, rl, W, rfl, rw0, hL, ndL, hrr, fun H1 d z q1 hd hz sz sh => fun fa hfa => ⟨(by show 2 ≤ sizeLine; decide), fun tp htp => ⟨tp, _, rfl, SqT.of upd_same, rfl, _, _, rfl, _, _, rfl, rfl, ?_⟩⟩⟩
    have fan : H fa = none := Same.none q1 hfa
    have q3 : Same H1 (upd (upd H1 fa (.dK [])) tp (.tup [.ref d, .ref fa])) := Same.trans (Same.upd hfa) (Same.upd htp)
    have hf3 : upd (upd H1 fa (.dK [])) tp (.tup [.ref d, .ref fa]) fa = some (.dK []) := Same.upd htp _ _ upd_same
    change tSeq _ _ _ [some (.ref ro), some (.ref d), some (.ref fa), none, none, none, none] (upd (upd H1 fa (.dK [])) tp (.tup [.ref d, .ref fa]))
    generalize upd (upd H1 fa (.dK [])) tp (.tup [.ref d, .ref fa]) = H3 at q3 hf3 ⊢
    have qq := Same.trans q1 q3
    obtain ⟨zs, hzd, hzl, hzv⟩ := hz.same q3
    have hsz := sz.sizes sh
    have zof : ∀ c ∈ L, ∃ k, z c = some k := fun c hc => by
      obtain ⟨n, hn⟩ := hne c hc
      obtain ⟨v, hv⟩ := rw0.cov n c hn
      obtain ⟨k, hk, _⟩ := sh.le v c (find_of hv hn)
      exact ⟨k, hk⟩
    have rows3 := qq _ _ rw0.dict
    refine ⟨_, rfl, ro, d, L, _, zs, fun c => (z c).getD 0, rfl, .inl rows3, (by rw [List.map_map]; exact List.map_congr_left fun c _ => rfl), rfl, hzd, fun c hc => ?_, LamX.Tabs.ext hT qq, fun H4 cs l eN hT4 hl hperm hpw => ?_⟩
    · obtain ⟨k, hk⟩ := zof c hc
      rw [hzv, hk]
      show some (V.int (k : Int)) = some (V.int (((z c).getD 0 : Nat) : Int))
      rw [hk]; rfl
    have w0 : ∀ b u, H b = some u → (∀ ps, u ≠ .tbl ps) → H4 b = some u := fun b u e n => eN _ _ (qq _ _ e) n
    have hl5 : upd H4 l (.lst (cs.map fun n : Nat => V.int (n : Int))) l = some (.lst (cs.map fun n : Nat => V.int (n : Int))) := upd_same
    have q5 : Same H4 (upd H4 l (.lst (cs.map fun n : Nat => V.int (n : Int)))) := Same.upd hl
    have w5 : ∀ b u, H b = some u → (∀ ps, u ≠ .tbl ps) → upd H4 l (.lst (cs.map fun n : Nat => V.int (n : Int))) b = some u := fun b u e n => q5 _ _ (w0 b u e n)
    have hT5 := LamX.Tabs.ext hT4 q5
    have hf5 := q5 _ _ (eN _ _ hf3 (fun _ z => nomatch z))
    have hz5 := q5 _ _ (eN _ _ hzd (fun _ z => nomatch z))
    refine ⟨l, rfl, ⟨_, SqL.of hl5⟩, ?_⟩
    generalize upd H4 l (.lst (cs.map fun n : Nat => V.int (n : Int))) = H5 at hl5 w5 hT5 hf5 hz5 ⊢
    have lf : l ≠ fa := ne_of hl5 hf5 (fun z => nomatch z)
    have fro : ∀ b u, H b = some u → b ≠ fa := fun b u e => ne_of_none e fan
    refine for_list (K := K) (a := l) (xs := cs.map fun n : Nat => V.int (n : Int)) (fun i σ H' => ∃ fnd kvs v3 v4 v5 v6, σ = [some (.ref ro), some (.ref d), some (.ref fa), v3, v4, v5, v6] ∧ (∀ b u, b ≠ fa → H5 b = some u → H' b = some u) ∧ H' fa = some (.dK kvs) ∧ kvs.length ≤ i ∧
        Fo W (fun c => (z c).getD 0) (cs.take i) fnd ∧ ∀ c ∈ cs.take i, ∃ v, valV kvs (idK c) = some v ∧ TmAt H' (fnd c) v)
      ⟨fun _ => .lf .na, [], none, none, none, none, rfl, fun _ _ _ e => e, hf5, Nat.zero_le _, by rw [List.take_zero]; exact .nil, fun c h => by simp at h⟩ (fun i σ H' _ ⟨_, _, _, _, _, _, _, h, _⟩ => SqL.of (h _ _ lf hl5)) ?_ ?_
    · rintro i x σ H6 hx ⟨fnd, kvs, v3, v4, v5, v6, rfl, k6, hf6, hk6, fo, ft⟩
      rw [List.getElem?_map] at hx
      obtain ⟨c, hc, rfl⟩ := Option.map_eq_some_iff.mp hx
      have cL : c ∈ L := hperm.mem_iff.mp (List.mem_of_getElem? hc)
      obtain ⟨kc, hkc⟩ := zof c cL
      have rows6 := k6 _ _ (fro _ _ rw0.dict) (w5 _ _ rw0.dict (fun _ z => nomatch z))
      have row6 := k6 _ _ (fro _ _ (rw0.row c cL)) (w5 _ _ (rw0.row c cL) (fun _ z => nomatch z))
      have dfa : d ≠ fa := by
        obtain ⟨_, h2, _⟩ := hz
        exact ne_of_none h2 hfa
      have zd6 := k6 _ _ dfa hz5
      refine ⟨(by show 0 ≤ sizeLine; decide), fun p hp => ?_⟩
      have sm7 : Same H6 (upd H6 p (.lst [])) := Same.upd hp
      have hp7 : upd H6 p (.lst []) p = some (.lst []) := upd_same
      change tSeq _ _ _ [some (.ref ro), some (.ref d), some (.ref fa), some (.int c), some (.ref p), v5, v6] (upd H6 p (.lst []))
      generalize upd H6 p (.lst []) = H7 at sm7 hp7 ⊢
      have rows7 := sm7 _ _ rows6
      have row7 := sm7 _ _ row6
      have zd7 := sm7 _ _ zd6
      have hf7 := sm7 _ _ hf6
      have pra : p ≠ ra c := ne_of hp7 row7 (fun z => nomatch z)
      have pro : p ≠ ro := ne_of hp7 rows7 (fun z => nomatch z)
      have pd : p ≠ d := ne_of hp7 zd7 (fun z => nomatch z)
      have pf : p ≠ fa := ne_of hp7 hf7 (fun z => nomatch z)
      have rad : ra c ≠ d := ne_of row7 zd7 (fun z => nomatch z)
      have raf : ra c ≠ fa := ne_of row7 hf7 (fun z => nomatch z)
      have raro := hrr c cL
      refine ⟨ra c, _, row7, trivial, fun od => ⟨_, rfl, _, rfl, ro, .ref (ra c), rfl, ?_, ra c, od, rfl, .inr ⟨_, upd_same, for_it (n := (rl c).length) (fun j σ H' => ∃ us v5 v6, σ = [some (.ref ro), some (.ref d), some (.ref fa), some (.int c), some (.ref p), v5, v6] ∧ (∀ b u, b ≠ p → b ≠ ra c → H7 b = some u → H' b = some u) ∧
          H' p = some (.lst us) ∧ H' (ra c) = some (.frz od (.dT ((rl c).map uE))) ∧ Paired (fun n v => TmAt H' (app fnd n) v) (((rl c).take j).filter fun n => decide (wz z n.ids = (z c).getD 0)) us)
        ⟨[], v5, v6, rfl, fun b u h1 h2 e => by rw [upd_ne h2]; exact e, by rw [upd_ne pra]; exact hp7, upd_same, by rw [List.take_zero]; exact .nil⟩
        (fun j σ H' hj ⟨_, _, _, _, _, _, h, _⟩ => ⟨h, by rw [List.length_map]; exact hj⟩) (fun σ H' ⟨_, _, _, _, _, _, h, _⟩ => ⟨h, by rw [List.length_map]; exact Nat.le_refl _⟩) ?_ ?_⟩⟩⟩
      · have := DGet.k (H := upd H7 (ra c) (.frz od (.dT ((rl c).map uE)))) (k := idK c) ((upd_ne raro.symm).trans rows7)
        rw [val_i (f := fun c => V.ref (ra c)), if_pos cL] at this
        exact this
      · rintro j x σ H8 H9 hj ⟨us, v5, v6, rfl, k8, p8, r8, pr8⟩ ⟨rfl, k, v, q, hk, rfl, hq⟩
        rw [List.getElem?_map] at hk
        obtain ⟨n, hn, e⟩ := Option.map_eq_some_iff.mp hk
        obtain ⟨rfl, rfl⟩ := Prod.mk.inj e
        have hWn : W n = some c := (rw0.mem c cL n).mp (List.mem_of_getElem? hn)
        obtain ⟨few, fl⟩ := rw0.few n c hWn
        have tk := take_snoc hn
        have zi : ∀ i ∈ n.ids, ∃ k, z i = some k := fun i hi => zof i (fl i hi)
        have zd9 := k8 _ _ pd.symm rad.symm zd7
        have hf9 := k8 _ _ pf.symm raf.symm hf7
        have tups9 : Tups H6 H9 := fun b xs e => k8 _ _ (fun z => by rw [z, hp] at e; cases e) (fun z => by rw [z, row6] at e; cases e) (sm7 _ _ e)
        have eI : (n.ids.map fun i : Nat => V.int (i : Int)) = (n.ids.map idK).map kV := by rw [List.map_map]; rfl
        refine ⟨_, rfl, q, n.hd, n.ids.map fun i : Nat => V.int (i : Int), rfl, by rw [hq, N.key_map], fun i e => by rw [N.leaf_ids e]; rfl, fun p1 hp1 => ?_⟩
        have q10 : Same H9 (upd H9 p1 (.tup (n.ids.map fun i : Nat => V.int (i : Int)))) := Same.upd hp1
        have hp10 : upd H9 p1 (.tup (n.ids.map fun i : Nat => V.int (i : Int))) p1 = some (.tup (n.ids.map fun i : Nat => V.int (i : Int))) := upd_same
        generalize upd H9 p1 (.tup (n.ids.map fun i : Nat => V.int (i : Int))) = H10 at q10 hp10 ⊢
        refine ⟨p1, rfl, ⟨_, SqT.of hp10⟩, fun D' hD => lc_tup (K := K) (a := p1) (xs := n.ids.map fun i : Nat => V.int (i : Int)) (fun j H' => Same H10 H' ∧ H' D' = some (.lst ((n.ids.take j).map fun i => V.int ((z i).getD 0 : Nat))))
            ⟨Same.upd hD, by rw [upd_same]; simp⟩ (fun i H' _ ⟨h, _⟩ => SqT.of (h _ _ hp10)) ?_ ?_⟩
        · rintro j' x H11 hx ⟨q11, hD11⟩
          rw [List.getElem?_map] at hx
          obtain ⟨i', hi', rfl⟩ := Option.map_eq_some_iff.mp hx
          obtain ⟨ki, hki⟩ := zi i' (List.mem_of_getElem? hi')
          refine ⟨rfl, _, rfl, _, rfl, d, .int (ki : Int), rfl, ?_, _, hD11, ?_, fun a u e => ?_, ?_⟩
          · have := DGet.k (k := idK i') (q11 _ _ (q10 _ _ zd9))
            rw [hzv i', hki] at this
            exact this
          · rw [List.length_map, List.length_take]
            exact size6 (by omega)
          · rw [upd_ne (ne_of_none e hD)]; exact q11 _ _ e
          · rw [upd_same, take_snoc hi', List.map_append]
            show some (HO.lst (_ ++ [V.int (ki : Int)])) = some (HO.lst (_ ++ [V.int ((z i').getD 0 : Nat)]))
            rw [hki]; rfl
        rintro H11 ⟨q11, hD11⟩
        rw [List.length_map, List.take_length] at hD11
        have q91 := Same.trans q10 q11
        refine ⟨D', n.ids.map fun i => (((z i).getD 0 : Nat) : Int), rfl, SqL.of (by rw [hD11, List.map_map]; rfl), _, _, rfl, rfl, _, rfl, _, rfl, d, .int (kc : Int), rfl, ?_, rfl, decide (wz z n.ids = (z c).getD 0), congrArg V.bl (decide_eq_decide.mpr ?_), ?_⟩
        · have := DGet.k (k := idK c) (q91 _ _ zd9)
          rw [hzv c, hkc] at this
          exact this
        · have e := sum_cast (fun i => (z i).getD 0) n.ids
          have e2 : ((1 + (n.ids.map fun i => (z i).getD 0).sum : Nat) : Int) = (wz z n.ids : Nat) := rfl
          have e3 : (z c).getD 0 = kc := by rw [hkc]; rfl
          refine ⟨fun h => ?_, fun h => ?_⟩
          · have h := V.int.inj h
            have h4 : (wz z n.ids : Int) = (kc : Int) := e2.symm.trans (e.symm.trans h)
            omega
          · exact congrArg V.int (e.trans (e2.trans (by rw [h, e3])))
        by_cases eqc : wz z n.ids = (z c).getD 0
        · rw [decide_eq_true eqc]
          have hids : ∀ i' ∈ n.ids, i' ∈ cs.take i := fun i' h' => before (z := fun c => (z c).getD 0) hpw hc (hperm.mem_iff.mpr (fl i' h')) (ids_lt (sz := fun c => (z c).getD 0) eqc h')
          obtain ⟨_, _, _, nh, np⟩ := fo.node hW (fun t h => (hS t h).1) hR hWn eqc hids
          have fin : ∀ H' v v6, Same H11 H' → TmAt H' (app fnd n) v → H' p = some (.lst us) ∧ us.length < sizeLine ∧ ∃ us' v5' v6', [some (V.ref ro), some (.ref d), some (.ref fa), some (.int (c : Int)), some (.ref p), some (.ref q), v6] = [some (.ref ro), some (.ref d), some (.ref fa), some (.int c), some (.ref p), v5', v6'] ∧ (∀ b u, b ≠ p → b ≠ ra c → H7 b = some u → upd H' p (.lst (us ++ [v])) b = some u) ∧
              upd H' p (.lst (us ++ [v])) p = some (.lst us') ∧ upd H' p (.lst (us ++ [v])) (ra c) = some (.frz od (.dT ((rl c).map uE))) ∧ Paired (fun n v' => TmAt (upd H' p (.lst (us ++ [v]))) (app fnd n) v') (((rl c).take (j + 1)).filter fun n => decide (wz z n.ids = (z c).getD 0)) us' := fun H' v v6 sm tm => by
            have q9' := Same.trans q91 sm
            have pp := q9' _ _ p8
            have tt : Tups H' (upd H' p (.lst (us ++ [v]))) := Tups.upd fun xs e => by rw [pp] at e; cases e
            refine ⟨pp, ?_, us ++ [v], _, _, rfl, fun b u h1 h2 e => by rw [upd_ne h1]; exact q9' _ _ (k8 _ _ h1 h2 e), upd_same, by rw [upd_ne pra.symm]; exact q9' _ _ r8, ?_⟩
            · have h1 := Paired.len pr8
              have h2 := List.length_filter_le (fun n => decide (wz z n.ids = (z c).getD 0)) ((rl c).take j)
              have h3 := hrl c cL
              have h4 : ((rl c).take j).length ≤ (rl c).length := by rw [List.length_take]; omega
              exact Nat.lt_of_le_of_lt (show us.length ≤ 2000 by omega) (by decide)
            · rw [tk, List.filter_append, List.filter_cons_of_pos (by rw [decide_eq_true_eq]; exact eqc)]
              exact Paired.snoc (R := fun n v' => TmAt (upd H' p (.lst (us ++ [v]))) (app fnd n) v') (tm.keep tt) (Paired.imp (R := fun n v => TmAt H9 (app fnd n) v) (fun _ _ z => TmAt.keep tt (TmAt.keep (.of q9') z)) pr8)
          refine iteT ⟨_, rfl, .inl ⟨rfl, _, SqL.of (q91 _ _ p8)⟩, _, rfl, q, n.hd, n.ids.map fun i : Nat => V.int (i : Int), rfl, by rw [q91 _ _ hq, N.key_map], fun i e => by rw [N.leaf_ids e]; rfl, fun p2 hp2 => ⟨(by show 0 ≤ sizeLine; decide), fun q2 hq2 => ?_⟩⟩
          have q12 : Same H11 (upd (upd H11 p2 (.tup (n.ids.map fun i : Nat => V.int (i : Int)))) q2 (.tup [])) := Same.trans (Same.upd hp2) (Same.upd hq2)
          have pq : upd (upd H11 p2 (.tup (n.ids.map fun i : Nat => V.int (i : Int)))) q2 (.tup []) p2 = some (.tup ((n.ids.map idK).map kV)) := by rw [← eI]; exact Same.upd hq2 _ _ upd_same
          refine ⟨.tuple ((n.ids.map idK).map kD), .tuple [], .tup (SqT.of pq) (dp_keys _), .tup (SqT.of upd_same) .nil, ?_, by decide +kernel, _, rfl, ?_⟩
          · have h := ids_ok n.ids
            unfold SeqAt.shaped
            rw [List.map_map]
            simp only [PyData.canLay0, PyData.depth]
            have h1 := h.1
            have h2 := h.2
            have h3 : PyData.canLayAll0 (n.ids.map (kD ∘ idK)) = true := h1
            have h4 : PyData.depthAll (n.ids.map (kD ∘ idK)) ≤ 1 := h2
            rw [h3, Bool.true_and]
            exact decide_eq_true (by omega)
          rw [eqv_empty]
          generalize upd (upd H11 p2 (.tup (n.ids.map fun i : Nat => V.int (i : Int)))) q2 (.tup []) = H12 at q12 ⊢
          have hq12 := q12 _ _ (q91 _ _ hq)
          by_cases hl : n.ids = []
          · rw [hl]
            refine iteF ⟨_, rfl, ?_⟩
            have tm : TmAt H12 (app fnd n) (.ref q) := TmAt.iff.mpr ⟨q, [], rfl, by rw [hq12, N.key_map, nh, hl]; rfl, by rw [np, hl]; exact .nil⟩
            obtain ⟨a1, a2, a3⟩ := fin H12 _ v6 q12 tm
            exact ⟨p, us, _, rfl, rfl, a1, a2, a3⟩
          · have hne' : (!((n.ids.map idK).map kD).isEmpty) = true := by
              cases e : n.ids with
              | nil => exact absurd e hl
              | cons => rfl
            rw [hne']
            have hhd : ∃ m, n.hd = .nd m := by
              cases n with
              | lf i => exact absurd rfl hl
              | nd m ids => exact ⟨m, rfl⟩
            obtain ⟨m, em⟩ := hhd
            have hq13 : H12 q = some (.tup (.str m.str :: n.ids.map fun i : Nat => V.int (i : Int))) := by rw [hq12, N.key_map, em]; rfl
            refine iteT ⟨_, rfl, q, _, 0, _, rfl, rfl, SqT.of hq13, atI_nat (j := 0) rfl, _, rfl, 1, rfl, q, _, rfl, SqT.of hq13, cut1_ne _ _, fun r hr' => ?_⟩
            rw [cut1]
            have q13 : Same H11 (upd H12 r (.tup (n.ids.map fun i : Nat => V.int (i : Int)))) := Same.trans q12 (Same.upd hr')
            have hr13 : upd H12 r (.tup (n.ids.map fun i : Nat => V.int (i : Int))) r = some (.tup (n.ids.map fun i : Nat => V.int (i : Int))) := upd_same
            generalize upd H12 r (.tup (n.ids.map fun i : Nat => V.int (i : Int))) = H13 at q13 hr13 ⊢
            have hf13 := q13 _ _ (q91 _ _ hf9)
            have tups13 : Tups H6 H13 := tups9.trans ((Tups.of q91).trans (.of q13))
            refine ⟨r, rfl, ⟨_, SqT.of hr13⟩, fun D2 hD2 => lc_tup (K := K) (a := r) (xs := n.ids.map fun i : Nat => V.int (i : Int)) (fun j H' => Same H13 H' ∧ ∃ vs, H' D2 = some (.lst vs) ∧ Paired (TmAt H') ((n.ids.take j).map fnd) vs)
              ⟨Same.upd hD2, [], upd_same, .nil⟩ (fun i H' _ ⟨h, _⟩ => SqT.of (h _ _ hr13)) ?_ ?_⟩
            · rintro j' x H14 hx ⟨q14, vs, hD14, pr14⟩
              rw [List.getElem?_map] at hx
              obtain ⟨i', hi', rfl⟩ := Option.map_eq_some_iff.mp hx
              obtain ⟨v, hv, tv⟩ := ft i' (hids i' (List.mem_of_getElem? hi'))
              have lvs := Paired.len pr14
              rw [List.length_map, List.length_take] at lvs
              have tt : Tups H14 (upd H14 D2 (.lst (vs ++ [v]))) := Tups.upd fun xs e => by rw [hD14] at e; cases e
              refine ⟨rfl, _, rfl, _, rfl, fa, v, rfl, ?_, _, hD14, ?_, fun a u e => ?_, vs ++ [v], upd_same, ?_⟩
              · have := DGet.k (k := idK i') (q14 _ _ hf13)
                rw [hv] at this
                exact this
              · exact size6 (by omega)
              · rw [upd_ne (ne_of_none e hD2)]; exact q14 _ _ e
              · rw [take_snoc hi', List.map_append]
                exact Paired.snoc (tv.keep (tups13.trans ((Tups.of q14).trans tt))) (Paired.imp (fun _ _ z => TmAt.keep tt z) pr14)
            · rintro H14 ⟨q14, vs, hD14, pr14⟩
              rw [List.length_map, List.take_length] at pr14
              have lvs := Paired.len pr14
              rw [List.length_map] at lvs
              refine ⟨D2, _, rfl, .inr (SqL.of hD14), ?_, fun b hb => ?_⟩
              · show (V.str m.str :: (vs ++ [])).length ≤ sizeLine
                rw [List.length_cons, List.append_nil]
                exact Nat.le_of_lt (size6 (by omega))
              · have q15 : Same H11 (upd H14 b (.tup (.str m.str :: (vs ++ [])))) := Same.trans q13 (Same.trans q14 (Same.upd hb))
                have tm : TmAt (upd H14 b (.tup (.str m.str :: (vs ++ [])))) (app fnd n) (.ref b) := TmAt.iff.mpr ⟨b, vs, rfl, by rw [upd_same, nh, em, List.append_nil]; rfl, by rw [np]; exact Paired.imp (fun _ _ z => TmAt.keep (.of (Same.upd hb)) z) pr14⟩
                obtain ⟨a1, a2, a3⟩ := fin _ _ v6 q15 tm
                exact ⟨p, us, _, rfl, rfl, a1, a2, a3⟩
        · rw [decide_eq_false eqc]
          refine iteF ⟨us, _, _, rfl, fun b u h1 h2 e => q91 _ _ (k8 _ _ h1 h2 e), q91 _ _ p8, q91 _ _ r8, ?_⟩
          rw [tk, List.filter_append, List.filter_cons_of_neg (by rw [decide_eq_true_eq]; exact eqc), List.filter_nil, List.append_nil]
          exact Paired.imp (R := fun n v => TmAt H9 (app fnd n) v) (fun _ _ z => TmAt.keep (.of q91) z) pr8
      · rintro σ H8 ⟨us, v5, v6, rfl, k8, p8, r8, pr8⟩
        rw [List.take_length] at pr8
        refine ⟨r8, ?_⟩
        have k9 : ∀ b u, b ≠ p → H7 b = some u → upd H8 (ra c) (.dT ((rl c).map uE)) b = some u := fun b u h1 e => by
          by_cases h2 : b = ra c
          · rw [h2, upd_same, ← row7, ← h2, e]
          · rw [upd_ne h2]; exact k8 _ _ h1 h2 e
        have p9 : upd H8 (ra c) (.dT ((rl c).map uE)) p = some (.lst us) := by rw [upd_ne pra]; exact p8
        have pr9 : Paired (fun n v => TmAt (upd H8 (ra c) (.dT ((rl c).map uE))) (app fnd n) v) ((rl c).filter fun n => decide (wz z n.ids = (z c).getD 0)) us :=
          Paired.imp (R := fun n v => TmAt H8 (app fnd n) v) (fun _ _ z => TmAt.keep (Tups.upd fun xs e => by rw [r8] at e; cases e) z) pr8
        generalize upd H8 (ra c) (.dT ((rl c).map uE)) = H9 at k9 p9 pr9 ⊢
        clear pr8 r8 p8 k8 H8
        -- the lightest nodes
        have hwc : ∀ n ∈ rl c, W n = some c := fun n hn => (rw0.mem c cL n).mp hn
        have memF : ∀ n, n ∈ (rl c).filter (fun n => decide (wz z n.ids = (z c).getD 0)) ↔ W n = some c ∧ wz z n.ids = (z c).getD 0 := fun n => by
          rw [List.mem_filter, decide_eq_true_eq, rw0.mem c cL n]
        have hids : ∀ n, W n = some c → wz z n.ids = (z c).getD 0 → ∀ i' ∈ n.ids, i' ∈ cs.take i := fun n hn hw i' h' => before (z := fun c => (z c).getD 0) hpw hc (hperm.mem_iff.mpr ((rw0.few n c hn).2 i' h')) (ids_lt (sz := fun c => (z c).getD 0) hw h')
        have hex : ∃ n, W n = some c ∧ wz z n.ids = (z c).getD 0 := by
          obtain ⟨n0, hn0⟩ := hne c cL
          obtain ⟨v0, hv0⟩ := rw0.cov n0 c hn0
          obtain ⟨t, ht, hts⟩ := hsz.at_ v0 c (find_of hv0 hn0)
          obtain ⟨n, hn, hc'⟩ := find_some ht
          refine ⟨n, hc', ?_⟩
          obtain ⟨e1, e2⟩ := nd_iff.mp hn
          have le : ∀ (ps : List T) (ids : List Nat), ps.map (find W) = ids.map some → (ids.map fun i => (z i).getD 0).sum ≤ (ps.map T.size).sum := by
            intro ps
            induction ps with
            | nil => intro ids e; cases ids with
              | nil => exact Nat.le_refl _
              | cons => simp at e
            | cons p ps ih =>
              intro ids e
              cases ids with
              | nil => simp at e
              | cons i ids =>
                simp only [List.map_cons, List.cons.injEq] at e
                have h1 := ih ids e.2
                have h2 : (z i).getD 0 ≤ p.size := hsz.le p i e.1
                simp only [List.map_cons, List.sum_cons]
                omega
          have h1 := le _ _ e2
          have h2 := T.size_parts t
          obtain ⟨k, hk, hle⟩ := sh n c hc' fun i' h' => by
            obtain ⟨k, hk⟩ := zof i' ((rw0.few n c hc').2 i' h')
            rw [hk]; rfl
          have h3 : (z c).getD 0 = k := by rw [hk]; rfl
          have h4 : wz z n.ids = 1 + (n.ids.map fun i => (z i).getD 0).sum := rfl
          have h5 : t.size = (z c).getD 0 := hts
          omega
        have hB2 : (z c).getD 0 ≤ B := by
          obtain ⟨n, hn, _⟩ := hex
          obtain ⟨v, hvS, hv⟩ := hW.cov n c hn
          exact Nat.le_trans (hsz.le v c (find_of hv hn)) (hS v hvS).2
        have hpos : 0 < us.length := by
          obtain ⟨n, hn⟩ := hex
          rw [← Paired.len pr9]
          exact List.length_pos_of_mem ((memF n).mpr hn)
        refine ⟨p, _, p9, trivial, fun od2 => ⟨_, rfl, p, od2, us, fun i => match ((rl c).filter fun n => decide (wz z n.ids = (z c).getD 0))[i]? with | some n => (app fnd n).txt | none => [], rfl, rfl, upd_same, hpos, fun i' u H' hu' sm => ?_, fun j u H' hj hmin sm => ?_⟩⟩
        · obtain ⟨n, hn, tn⟩ := Paired.get pr9 hu'
          have tn : TmAt H9 (app fnd n) u := tn
          obtain ⟨hWn, hwn⟩ := (memF n).mp (List.mem_of_getElem? hn)
          obtain ⟨_, ok, hs, _⟩ := fo.node hW (fun t h => (hS t h).1) hR hWn hwn (hids n hWn hwn)
          have tt : Tups H9 H' := (Tups.upd (fun xs e => by rw [p9] at e; cases e)).trans (.of sm)
          have sB : (app fnd n).size ≤ B := by rw [hs]; exact hB2
          refine ⟨app fnd n, u, rfl, tn.keep tt, ok, Nat.le_trans (T.depth_le_size _) sB, Nat.le_trans sB hB, fun H2 x s2 ex => ⟨x, rfl, ?_, s2⟩⟩
          rw [ex]
          simp only [hn]
        · obtain ⟨m, hm, tm⟩ := Paired.get pr9 hj
          have tm : TmAt H9 (app fnd m) u := tm
          obtain ⟨hWm, hwm⟩ := (memF m).mp (List.mem_of_getElem? hm)
          have ch : ∀ b v, b ≠ fa → b ≠ p → H9 b = some v → upd (upd H' p (.lst us)) fa (.dK (putK kvs (idK c) u)) b = some v := fun b v h1 h2 e => by
            rw [upd_ne h1, upd_ne h2]
            exact sm _ _ ((upd_ne h2).trans e)
          have ch6 : ∀ b v, b ≠ fa → H6 b = some v → upd (upd H' p (.lst us)) fa (.dK (putK kvs (idK c) u)) b = some v := fun b v h1 e => by
            have h2 : b ≠ p := ne_of_none e hp
            exact ch b v h1 h2 (k9 _ _ h2 (sm7 _ _ e))
          have f9 : H9 fa = some (.dK kvs) := k9 _ _ pf.symm hf7
          have t9 : Tups H9 (upd (upd H' p (.lst us)) fa (.dK (putK kvs (idK c) u))) := fun b xs e => ch b _ (fun z => by rw [z, f9] at e; cases e) (fun z => by rw [z, p9] at e; cases e) e
          have t6 : Tups H6 (upd (upd H' p (.lst us)) fa (.dK (putK kvs (idK c) u))) := fun b xs e => ch6 b _ (fun z => by rw [z, hf6] at e; cases e) e
          have hfn : upd H' p (.lst us) fa = some (.dK kvs) := by rw [upd_ne pf.symm]; exact sm _ _ ((upd_ne pf.symm).trans f9)
          have lt : i < cs.length := (List.getElem?_eq_some_iff.mp hc).1
          have ndc : cs.Nodup := hperm.nodup_iff.mpr ndL
          have cn : c ∉ cs.take i := nodup_take ndc hc
          refine ⟨sm _ _ upd_same, _, rfl, _, rfl, fa, _, rfl, DPut.k (k := idK c) hfn (Nat.lt_of_le_of_lt (show kvs.length ≤ 2000 by have := hperm.length_eq; omega) (by decide)), ?_⟩
          refine ⟨fun e => if e = c then app fnd m else fnd e, _, _, _, _, _, rfl, fun b v h1 e => ch6 b v h1 (k6 _ _ h1 e), upd_same, Nat.le_trans (length_putK kvs (idK c) _) (Nat.succ_le_succ hk6), ?_, ?_⟩
          · rw [take_snoc hc]
            refine fo.step hW (fun t h => (hS t h).1) hR cn hids hWm hwm fun n hn hw => ?_
            obtain ⟨i', hi'⟩ := List.mem_iff_getElem?.mp ((memF n).mpr ⟨hn, hw⟩)
            have h1 := hmin i' (by rw [← Paired.len pr9]; exact (List.getElem?_eq_some_iff.mp hi').1)
            simp only [hi', hm] at h1
            exact h1
          · intro c' hc'
            rw [take_snoc hc] at hc'
            rcases List.mem_append.mp hc' with h | h
            · obtain ⟨v, hv, tv⟩ := ft c' h
              have hne : c' ≠ c := fun e => cn (by rw [← e]; exact h)
              refine ⟨v, ?_, ?_⟩
              · rw [valV_put, if_neg (fun y => hne (idK_inj.mp y))]; exact hv
              · show TmAt _ (if c' = c then _ else _) v
                rw [if_neg hne]
                exact tv.keep t6
            · obtain rfl := List.mem_singleton.mp h
              refine ⟨u, ?_, ?_⟩
              · rw [valV_put, if_pos rfl]
              · show TmAt _ (if c' = c' then _ else _) u
                rw [if_pos rfl]
                exact tm.keep t9
    · rintro σ H6 ⟨fnd, kvs, v3, v4, v5, v6, rfl, k6, hf6, hk6, fo, ft⟩
      rw [List.length_map] at fo ft hk6
      rw [List.take_length] at fo ft
      refine ⟨_, rfl, hQ H6 fa kvs (fun c => (z c).getD 0) fnd (fun b u e n => k6 _ _ (fro _ _ e) (w5 b u e n)) (ext_tabs hT5 hf5 k6) fan hf6 (Nat.le_trans hk6 (by rw [hperm.length_eq]; exact hL)) (fun c hc => ft c (hperm.mem_iff.mpr hc)) hsz (fo.firsts fun n c hn => hperm.mem_iff.mpr (rw0.all n c hn))⟩
end K45
/-! part K45L9 -/
set_option autoImplicit true
set_option Elab.async false
set_option linter.all false
set_option maxRecDepth 100000
set_option maxHeartbeats 4000000
/-! Walks: first_term. -/
namespace K45
open PySem PySem.Spec PyProof.Rows L2
variable {P : Program} {w : World} {K : PySem.W.Frag} {mg : Str → Option Value} {base : Heap}
theorem At.ext {o : Addr} {g : G} {H H' : Hp} (h : At K o g H) (e : LamX.ExtN H H') : At K o g H' where
  obj := e _ _ h.obj (fun _ z => nomatch z)
  wh := e _ _ h.wh (fun _ z => nomatch z)
  rows := e _ _ h.rows (fun _ z => nomatch z)
  uses := e _ _ h.uses (fun _ z => nomatch z)
  kinds := e _ _ h.kinds (fun _ z => nomatch z)
  row := fun c hc => e _ _ (h.row c hc) (fun _ z => nomatch z)
  use := fun c hc => e _ _ (h.use c hc) (fun _ z => nomatch z)
  hpl := e _ _ h.hpl (fun _ z => nomatch z)
  hrc := e _ _ h.hrc (fun _ z => nomatch z)
  d1 := h.d1
  d2 := h.d2
  d3 := h.d3
  d4 := h.d4
  d5 := h.d5
  d6 := h.d6
  d7 := h.d7
  d8 := h.d8
theorem TmAt.ext {H H' : Hp} (e : LamX.ExtN H H') {t : T} {v : V} (h : TmAt H t v) : TmAt H' t v := TmAt.keep (fun b xs q => e _ _ q (fun _ z => nomatch z)) h
theorem At.setF {o : Addr} {g : G} {H : Hp} (h : At K o g H) (v : V) : At K o { g with fv := v } (upd H o (.ins (He.ga K "Classes") g.dx { g with fv := v }.fs)) where
  obj := upd_same
  wh := by rw [upd_ne (ne_of h.wh h.obj (fun z => nomatch z))]; exact h.wh
  rows := by rw [upd_ne (ne_of h.rows h.obj (fun z => nomatch z))]; exact h.rows
  uses := by rw [upd_ne (ne_of h.uses h.obj (fun z => nomatch z))]; exact h.uses
  kinds := by rw [upd_ne (ne_of h.kinds h.obj (fun z => nomatch z))]; exact h.kinds
  row := fun c hc => by rw [upd_ne (ne_of (h.row c hc) h.obj (fun z => nomatch z))]; exact h.row c hc
  use := fun c hc => by rw [upd_ne (ne_of (h.use c hc) h.obj (fun z => nomatch z))]; exact h.use c hc
  hpl := by rw [upd_ne (ne_of h.hpl h.obj (fun z => nomatch z))]; exact h.hpl
  hrc := by rw [upd_ne (ne_of h.hrc h.obj (fun z => nomatch z))]; exact h.hrc
  d1 := h.d1
  d2 := h.d2
  d3 := h.d3
  d4 := h.d4
  d5 := h.d5
  d6 := h.d6
  d7 := h.d7
  d8 := h.d8
theorem nodup_sub {α : Type} : ∀ (l m : List α), l.Nodup → (∀ x ∈ l, x ∈ m) → l.length ≤ m.length
  | [], _, _, _ => Nat.zero_le _
  | x :: l, m, nd, h => by
    obtain ⟨a, b, rfl⟩ := List.append_of_mem (h x List.mem_cons_self)
    have n1 := List.nodup_cons.mp nd
    have := nodup_sub l (a ++ b) n1.2 fun y hy => by
      have hne : y ≠ x := fun e => n1.1 (by rw [← e]; exact hy)
      rcases List.mem_append.mp (h y (List.mem_cons_of_mem _ hy)) with q | q
      · exact List.mem_append_left _ q
      · rcases List.mem_cons.mp q with q | q
        · exact absurd q hne
        · exact List.mem_append_right _ q
    simp only [List.length_append, List.length_cons] at this ⊢
    omega
theorem Goo.few {g : G} (h : Goo g) : g.liveR.length ≤ g.made := by
  have := nodup_sub g.liveR (List.range g.made) h.lnd fun c hc => List.mem_range.mpr (h.low c hc)
  rw [List.length_range] at this
  exact this
theorem Goo.rows {g : G} (h : Goo g) {c : Nat} (hc : c ∈ g.liveR) : (g.rl c).length ≤ g.made := by
  have := nodup_sub ((g.rl c).map fun n => (n, c)) g.ws (((h.rnd c hc).map (f := fun n => (n, c)) fun a b e q => e (Prod.mk.inj q).1)) fun x hx => by
    obtain ⟨n, hn, rfl⟩ := List.mem_map.mp hx
    exact (h.row c hc n).mp hn
  rw [List.length_map] at this
  exact Nat.le_trans this h.cnt
/-- the first terms lie in f, or nothing lies there -/
def Memo (g : G) (f : V) (H : Hp) (sz : Nat → Nat) (fnd : Nat → T) : Prop := ∃ fa kvs, f = .ref fa ∧ H fa = some (.dK kvs) ∧ (∀ c ∈ g.liveR, ∃ v, valV kvs (idK c) = some v ∧ TmAt H (fnd c) v) ∧ Sizes (look g.ws) sz ∧ Firsts (look g.ws) sz T.txt fnd
theorem Memo.ext {g : G} {f : V} {H H' : Hp} {sz : Nat → Nat} {fnd : Nat → T} (h : Memo g f H sz fnd) (e : LamX.ExtN H H') : Memo g f H' sz fnd := by
  obtain ⟨fa, kvs, a, b, c, d⟩ := h
  refine ⟨fa, kvs, a, e _ _ b (fun _ z => nomatch z), fun i hi => ?_, d⟩
  obtain ⟨v, h1, h2⟩ := c i hi
  exact ⟨v, h1, h2.ext e⟩
/-- all but o and the tables stay -/
def ExtB (o : Addr) (H H' : Hp) : Prop := ∀ b u, b ≠ o → H b = some u → (∀ ps, u ≠ .tbl ps) → H' b = some u
def sp_first (K : PySem.W.Frag) (B : Nat) : Sp := fun vs H Q _ => ∃ (S : List T) (R : T → T → Prop) (o : Addr) (g : G) (f : V) (c : Nat), vs = [.ref o, .int (c : Int)] ∧ At K o { g with fv := f } H ∧ Good S R g ∧ Whole S R (look g.ws) ∧ c ∈ g.liveR ∧ g.made ≤ 2000 ∧ (∀ t ∈ S, t.ok ∧ t.size ≤ B) ∧ (∀ a b, R a b → a.word = b.word) ∧ LamX.Tabs (fT K) H ∧
  (f = .non ∨ ∃ sz fnd, Memo g f H sz fnd) ∧ ∀ H' f' v sz fnd, ExtB o H H' → At K o { g with fv := f' } H' → Memo g f' H' sz fnd → LamX.Tabs (fT K) H' → TmAt H' (fnd c) v → Q v H'
theorem sc_first1 : FnScope ["self", "place"] ["self", "place"] (defScope m_first_term) := ⟨rfl, rfl, rfl, by decide +kernel, rfl, by decide +kernel, by decide +kernel⟩
theorem ok_first (X : Fx P w K mg base) (B : Nat) (hB : B ≤ 1000) : OkE P w K mg base "first_term" ["self", "place"] (B + 11) (sp_first K B) := by
  obtain ⟨fd, F⟩ := X.fn 44 (d := dm_first_term) rfl
  obtain ⟨_, _, D1⟩ := (ok_need1 X).mono (k := B + 10) (by omega)
  refine ⟨_, fd, X.m_first_term, F.bindsN fun _ _ _ _ _ _ us hl => match us, hl with | [_, _], _ => rfl, okN F sc_first1 (fun vs H Q E h => ?_) (fun cdv A outer s H vs Q E hr h => ?_)⟩
  · obtain ⟨_, _, _, _, _, _, rfl, _⟩ := h
    rfl
  · obtain ⟨S, R, o, g, f, c, rfl, h1, hG, hW, hc, hM, hS, hR, hT, hf, hQ⟩ := h
    obtain ⟨_, _, DF⟩ := ok_firsts X S R B hB
    have hu := hu_of hr
    refine ⟨_, pss_cons (ps_expr (pe_m D1 X.cl hr (pv 0) (pa_cons (pv 1) pa_nil))) (pss_cons (ps_if (pt_cmp (pc_isN (pe_fld (pv 0) (by rfl)))) (pss_one (ps_fld (pv 0) (pe_d DF hr (by rfl) (pa_cons (pe_fld (pv 0) (by rfl)) pa_nil)) (by rfl))) pss_nil)
      (pss_one (ps_ret (pe_dget hu (pe_fld (pv 0) (by rfl)) (pv 1) (fun _ _ => rfl))))), ?_⟩
    refine ⟨_, rfl, o, _, _, rfl, h1.obj, rfl, _, rfl, o, _, c, rfl, h1, hc, fun H1 q1 => ?_⟩
    have h2 := h1.same q1
    have hT1 := LamX.Tabs.ext hT q1
    have fin : ∀ H' f' sz fnd, ExtB o H H' → At K o { g with fv := f' } H' → Memo g f' H' sz fnd → LamX.Tabs (fT K) H' → tRet (tDGet (tFld K (tVar 0) "_first") (tVar 1)) { nx := fun _ H' => Q .non H', rt := Q } [some (.ref o), some (.int c)] H' := fun H' f' sz fnd e a m t => by
      obtain ⟨fa, kvs, rfl, hfa, hm, _, _⟩ := id m
      obtain ⟨v, hv, tv⟩ := hm c hc
      refine ⟨_, rfl, o, _, _, _, _, rfl, a.obj, X.cl, X.n_first, lk_first .., _, rfl, fa, v, rfl, ?_, hQ H' _ v sz fnd e a m t tv⟩
      have := DGet.k (k := idK c) hfa
      rw [hv] at this
      exact this
    refine ⟨_, rfl, o, _, _, _, _, rfl, h2.obj, X.cl, X.n_first, lk_first .., ?_⟩
    rcases hf with rfl | ⟨sz, fnd, m⟩
    · have rw1 : Rws H1 g.ro g.liveR g.ra g.rl (look g.ws) := {
        dict := h2.rows
        row := h2.row
        mem := fun c hc n => by rw [hG.oo.row c hc n, hG.oo.look]
        all := fun n c e => (hG.oo.pla n c (hG.oo.look.mp e)).1
        cov := fun n c e => by obtain ⟨t, _, ht⟩ := hW.cov n c e; exact ⟨t, ht⟩
        few := fun n c e => ⟨(hG.oo.pla n c (hG.oo.look.mp e)).2.2, (hG.oo.pla n c (hG.oo.look.mp e)).2.1⟩ }
      refine ⟨_, rfl, iteT ⟨_, rfl, o, _, _, _, _, rfl, h2.obj, X.cl, X.n_rows, lk_rows .., g.ro, g.liveR, g.ra, g.rl, look g.ws, rfl, rw1, Nat.le_trans hG.oo.few hM, hG.oo.lnd, fun c hc => ne_of (h2.row c hc) h2.rows (fun z => nomatch z), fun c hc => Nat.le_trans (hG.oo.rows hc) hM, hW, hS, hR, fun c hc => ?_, hT1, fun H3 d kvs sz fnd e t hd hfa hkl hm hz hfs => ?_⟩⟩
      · obtain ⟨n, hn⟩ := hG.ful c hc
        exact ⟨n, hG.oo.look.mpr hn⟩
      · have h3 := h2.ext e
        have od : d ≠ o := ne_of hfa h3.obj (fun z => nomatch z)
        refine ⟨_, rfl, o, _, _, _, rfl, h3.obj, X.cl, X.n_first, (by show 9 < 1000; omega), ?_⟩
        have ex : ExtB o H3 (upd H3 o (.ins (He.ga K "Classes") g.dx { g with fv := .ref d }.fs)) := fun b u h1 e _ => by rw [upd_ne h1]; exact e
        have tt : Tups H3 (upd H3 o (.ins (He.ga K "Classes") g.dx { g with fv := .ref d }.fs)) := Tups.upd fun xs e => by rw [h3.obj] at e; cases e
        refine fin (upd H3 o (.ins (He.ga K "Classes") g.dx { g with fv := .ref d }.fs)) (.ref d) sz fnd (fun b u h1 e1 n => ex b u h1 (e _ _ (q1 _ _ e1) n) n) (h3.setF (.ref d)) ⟨d, kvs, rfl, (upd_ne od).trans hfa, fun i hi => ?_, hz, hfs⟩ (fun p hp => ?_)
        · obtain ⟨v, a, b⟩ := hm i hi
          exact ⟨v, a, b.keep tt⟩
        · obtain ⟨ps, e1, e2, e3⟩ := t p hp
          refine ⟨ps, (upd_ne (ne_of e1 h3.obj (fun z => nomatch z))).trans e1, e2, fun pos cv hcv => ?_⟩
          obtain ⟨c', a, b⟩ := e3 pos cv hcv
          exact ⟨c', a, (upd_ne (ne_of b h3.obj (fun z => by unfold LamX.CodeO at z; cases z))).trans b⟩
    · obtain ⟨fa, kvs, rfl, _⟩ := id m
      refine ⟨_, rfl, iteF (fin H1 _ sz fnd (fun b u _ e _ => q1 _ _ e) h2 (m.ext (.of q1)) hT1)⟩
end K45
/-! part K45J1 -/
set_option autoImplicit true
set_option Elab.async false
set_option linter.all false
set_option maxRecDepth 100000
set_option maxHeartbeats 4000000
/-! Walks: _law_jar, _law_lot. -/
namespace K45
open PySem PySem.Spec PyProof.Rows L2
variable {P : Program} {w : World} {K : PySem.W.Frag} {mg : Str → Option Value} {base : Heap}
theorem lot_b1 (c t : Int) (h0 : 0 ≤ t) (h : t ≤ 5000) : (c % 2147483563 + 53231 * t + 3167).natAbs < 2 ^ 64 := by
  have h1 := Int.emod_nonneg c (show (2147483563 : Int) ≠ 0 by decide)
  have h2 := Int.emod_lt_of_pos c (show (0 : Int) < 2147483563 by decide)
  omega
theorem lot_b2 (M t : Int) (m0 : 0 ≤ M) (m1 : M < 2147483549) (h0 : 0 ≤ t) (h : t ≤ 5000) : (M * (2 * t + 3169) + 35251 * t * t + 79273).natAbs < 2 ^ 64 := by
  have h1 : M * (2 * t + 3169) ≤ 2147483549 * 13169 := Int.mul_le_mul (by omega) (by omega) (by omega) (by omega)
  have h2 : 0 ≤ M * (2 * t + 3169) := Int.mul_nonneg m0 (by omega)
  have h3 : 35251 * t * t ≤ 176255000 * 5000 := Int.mul_le_mul (by omega) h h0 (by omega)
  have h4 : 0 ≤ 35251 * t * t := Int.mul_nonneg (by omega) h0
  omega
theorem dp_ints {K : PySem.W.Frag} {H : Hp} : ∀ zs : List Int, DpAll K H (zs.map V.int) (zs.map PyData.int)
  | [] => .nil
  | z :: zs => .cons (.int _) (dp_ints zs)
theorem ints_ok : ∀ zs : List Int, PyData.canLayAll0 (zs.map PyData.int) = true ∧ PyData.depthAll (zs.map PyData.int) ≤ 1
  | [] => by simp [PyData.canLayAll0, PyData.depthAll]
  | z :: zs => by
    have h := ints_ok zs
    simp [PyData.canLayAll0, PyData.depthAll, PyData.canLay0, PyData.depth, h.1] at h ⊢
    omega
theorem ints_shaped (zs : List Int) : SeqAt.shaped (.list (zs.map PyData.int)) = true := by
  have h := ints_ok zs
  unfold SeqAt.shaped
  simp only [PyData.canLay0, PyData.depth]
  rw [h.1, Bool.true_and]
  have h2 := h.2
  exact decide_eq_true (by omega)
theorem eqv_nilL (ds : List PyData) : PyData.eqv (.list ds) (.list []) = ds.isEmpty := by
  cases ds <;> simp [PyData.eqv, PyData.eqvAll]
/-- the jar of lots: at most b turns are taken -/
def JarAt (H : Hp) (j cs : Addr) (b : Nat) : Prop := ∃ (zs : List Int) (t : Nat) (left : Int), H j = some (.lst [.ref cs, .int (t : Int), .int left]) ∧ H cs = some (.lst (zs.map V.int)) ∧ cs ≠ j ∧ t ≤ b
theorem JarAt.keep {H H' : Hp} {j cs : Addr} {b : Nat} (h : JarAt H j cs b) (k : ∀ a u, a = j ∨ a = cs → H a = some u → H' a = some u) : JarAt H' j cs b := by
  obtain ⟨zs, t, l, a, c, d⟩ := h
  exact ⟨zs, t, l, k _ _ (.inl rfl) a, k _ _ (.inr rfl) c, d⟩
abbrev nLot : List Str := ["_law_jar_here", "_law_many", "_law_left", "_law_turn", "_law_cell", "_law_mixed_here"]
theorem sc_lot : FnScope nLot ["_law_jar_here", "_law_many"] (defScope s__law_lot) := ⟨rfl, rfl, rfl, by decide +kernel, rfl, by decide +kernel, by decide +kernel⟩
def sp_lot : Sp := fun vs H Q _ => ∃ (j cs : Addr) (m : Nat) (b : Nat), vs = [.ref j, .int (m : Int)] ∧ JarAt H j cs b ∧ b ≤ 5000 ∧ 0 < m ∧ m < 1000000 ∧ ∀ H' (r : Nat), Kp j H H' → JarAt H' j cs (b + 1) → r < m → Q (.int (r : Int)) H'
theorem ok_lot (X : Fx P w K mg base) : OkD P w K mg base "_law_lot" ["_law_jar_here", "_law_many"] 1 sp_lot := by
  obtain ⟨fd, F⟩ := X.fn 18 (d := d__law_lot) rfl
  refine ⟨_, fd, X.glo _ (X.fact 18 (f := .glo "_law_lot") rfl), F.kp, F.bindsN fun _ _ _ _ _ _ us hl => match us, hl with | [_, _], _ => rfl, okN F sc_lot (fun vs H Q E h => ?_) (fun cdv A outer s H vs Q E hr h => ?_)⟩
  · obtain ⟨_, _, _, _, rfl, _⟩ := h
    rfl
  · obtain ⟨j, cs, m, b, rfl, ⟨zs, t, left, hj, hcs, hne, htb⟩, hb, m0, m1, hQ⟩ := h
    have hu := hu_of hr
    have mpos : (0 : Int) < (m : Int) := by omega
    have cd : CDiv (left) (m : Int) := ⟨mpos, by omega⟩
    have fin : ∀ (H' : Hp) (x : Int) (t' : Nat) (l' : Int), Kp j H H' → H' j = some (.lst [.ref cs, .int (t' : Int), .int l']) → t' ≤ b + 1 → Q (.int (x % (m : Int))) H' := fun H' x t' l' k e l => by
      have h0 := Int.emod_nonneg x (show (m : Int) ≠ 0 by omega)
      have h1 := Int.emod_lt_of_pos x mpos
      have e2 : x % (m : Int) = ((x % (m : Int)).toNat : Int) := (Int.toNat_of_nonneg h0).symm
      rw [e2]
      exact hQ H' _ k ⟨zs, t', l', e, k cs _ hne hcs, hne, l⟩ (by omega)
    obtain ⟨t2, hrest, run⟩ : ∃ t2, PSs (cxOf CX0 P w K mg base nLot "_law_lot" (defScope s__law_lot) (He.fAd K d__law_lot.at_) cdv A outer s H E).nox ((defBody s__law_lot).drop 5) t2 ∧ ∀ (H2 : Hp) (cell : Int) (v2 v5 : Option V), Kp j H H2 →
        H2 j = some (.lst [.ref cs, .int ((t + 1 : Nat) : Int), .int left]) → t2 { nx := fun _ H' => Q .non H', rt := Q } [some (.ref j), some (.int m), v2, some (.int t), some (.int cell), v5] H2 := by
      refine ⟨_, pss_cons (ps_if (PW.pt (pw_and (pt_cmp (pc_lt (pv 3) (pe_callB call_len_seq (by rfl) X.b_len (by decide +kernel) (pa_cons (pe_ix ix_list (pv 0) pe_int (fun _ _ => rfl)) pa_nil))))
          (pw_and1 (pt_cmp (pc_ge (pe_callB call_abs (by rfl) X.b_abs (by decide +kernel) (pa_cons (pv 4) pa_nil)) (pe_op op_pow pe_int pe_int))))))
        (pss_cons (ps_set (i := 2) sc_lot.nd rfl (Or.inl rfl) (pe_op op_add (pe_op op_mul pe_int (pe_op op_sub (pe_callB call_abs (by rfl) X.b_abs (by decide +kernel) (pa_cons (pv 4) pa_nil)) (pe_op op_pow pe_int pe_int))) (pe_callTy call_int1 (by rfl) X.b_int (by decide +kernel) (pa_cons (pe_cmp (pc_lt (pv 4) pe_int)) pa_nil))))
        (pss_cons (ps_asg (pe_op op_fdiv (pe_callTy call_int1 (by rfl) X.b_int (by decide +kernel) (pa_cons (pv 2) pa_nil)) (pv 1)) (pg_sub (pv 0) pe_int set_list))
        (pss_one (ps_ret (pe_op op_mod (pe_callTy call_int1 (by rfl) X.b_int (by decide +kernel) (pa_cons (pv 2) pa_nil)) (pv 1)))))) pss_nil)
      (pss_cons (ps_set (i := 5) sc_lot.nd rfl (Or.inl rfl) (pe_op op_mod (pe_callTy call_int1 (by rfl) X.b_int (by decide +kernel) (pa_cons (pe_op op_pow (pe_op op_add (pe_op op_add (pe_op op_mod (pe_callTy call_int1 (by rfl) X.b_int (by decide +kernel) (pa_cons (pv 4) pa_nil)) pe_int) (pe_op op_mul pe_int (pv 3))) pe_int) pe_int) pa_nil)) pe_int))
      (pss_cons (ps_set (i := 5) sc_lot.nd rfl (Or.inl rfl) (pe_op op_mod (pe_callTy call_int1 (by rfl) X.b_int (by decide +kernel) (pa_cons (pe_op op_pow (pe_op op_add (pe_op op_add (pe_op op_mul (pv 5) (pe_op op_add (pe_op op_mul pe_int (pv 3)) pe_int)) (pe_op op_mul (pe_op op_mul pe_int (pv 3)) (pv 3))) pe_int) pe_int) pa_nil)) pe_int))
      (pss_one (ps_ret (pe_op op_mod (pe_callTy call_int1 (by rfl) X.b_int (by decide +kernel) (pa_cons (pe_op op_fdiv (pv 5) pe_int) pa_nil)) (pv 1)))))), ?_⟩
      intro H2 cell v2 v5 k2 h2
      have hcs2 := k2 cs _ hne hcs
      have tb : (t : Int) ≤ 5000 := by omega
      refine ⟨_, rfl, _, rfl, j, _, 0, _, rfl, rfl, SqL.of h2, atI_nat (j := 0) rfl, cs, _, rfl, .inl (SqL.of hcs2), _, _, rfl, rfl, _, rfl, ?_⟩
      refine ite2 (fun _ => ?_) (fun _ => ?_)
      · refine ⟨_, rfl, _, rfl, _, _, rfl, rfl, ⟨by decide, by decide, by decide⟩, _, _, rfl, rfl, _, rfl, ?_⟩
        refine ite2 (fun _ => ?_) (fun _ => ?_)
        · refine ⟨_, rfl, _, rfl, _, _, rfl, rfl, ⟨by decide, by decide, by decide⟩, _, _, rfl, rfl, _, _, rfl, rfl, .inl ⟨by decide, by decide⟩, _, rfl, _, _, rfl, rfl, .inr ⟨_, rfl, _, _, rfl, rfl, ?_⟩⟩
          refine ⟨_, rfl, .inl ⟨_, rfl, _, rfl, _, _, rfl, rfl, ⟨mpos, by omega⟩, _, rfl, j, _, 2, 2, rfl, rfl, h2, rfl, _, rfl, .inl ⟨_, rfl, _, rfl, _, _, rfl, rfl, mpos, ?_⟩⟩⟩
          exact fin _ _ (t + 1) _ (k2.trans (fun b u h1 e => by rw [upd_ne h1]; exact e)) upd_same (by omega)
        · skip
          refine ⟨_, rfl, .inl ⟨_, rfl, _, _, rfl, rfl, (by show (0 : Int) < _; decide), _, rfl, _, _, rfl, rfl, .inl ⟨by decide, by decide⟩, _, _, rfl, rfl, _, _, rfl, rfl, _, _, rfl, rfl, ⟨by decide, by decide, lot_b1 _ _ (by omega) tb⟩, .inl ⟨_, rfl, _, _, rfl, rfl, (by show (0 : Int) < _; decide), ?_⟩⟩⟩
          refine ⟨_, rfl, _, rfl, _, _, rfl, rfl, .inl ⟨by decide, by decide⟩, _, _, rfl, rfl, _, _, rfl, rfl, .inr ⟨by omega, by omega⟩, _, rfl, _, _, rfl, rfl, .inl ⟨by decide, by decide⟩, _, rfl, _, _, rfl, rfl, .inr ⟨by omega, by omega⟩, _, _, rfl, rfl, _, _, rfl, rfl, _, _, rfl, rfl, ⟨by decide, by decide, lot_b2 _ _ (Int.emod_nonneg _ (by decide)) (Int.emod_lt_of_pos _ (by decide)) (by omega) tb⟩, .inl ⟨_, rfl, _, _, rfl, rfl, (by show (0 : Int) < _; decide), ?_⟩⟩
          refine ⟨_, rfl, _, _, rfl, rfl, ⟨by decide, by decide⟩, .inl ⟨_, rfl, _, rfl, _, _, rfl, rfl, mpos, ?_⟩⟩
          exact fin _ _ (t + 1) _ k2 h2 (by omega)
      · skip
        refine ⟨_, rfl, .inl ⟨_, rfl, _, _, rfl, rfl, (by show (0 : Int) < _; decide), _, rfl, _, _, rfl, rfl, .inl ⟨by decide, by decide⟩, _, _, rfl, rfl, _, _, rfl, rfl, _, _, rfl, rfl, ⟨by decide, by decide, lot_b1 _ _ (by omega) tb⟩, .inl ⟨_, rfl, _, _, rfl, rfl, (by show (0 : Int) < _; decide), ?_⟩⟩⟩
        refine ⟨_, rfl, _, rfl, _, _, rfl, rfl, .inl ⟨by decide, by decide⟩, _, _, rfl, rfl, _, _, rfl, rfl, .inr ⟨by omega, by omega⟩, _, rfl, _, _, rfl, rfl, .inl ⟨by decide, by decide⟩, _, rfl, _, _, rfl, rfl, .inr ⟨by omega, by omega⟩, _, _, rfl, rfl, _, _, rfl, rfl, _, _, rfl, rfl, ⟨by decide, by decide, lot_b2 _ _ (Int.emod_nonneg _ (by decide)) (Int.emod_lt_of_pos _ (by decide)) (by omega) tb⟩, .inl ⟨_, rfl, _, _, rfl, rfl, (by show (0 : Int) < _; decide), ?_⟩⟩
        refine ⟨_, rfl, _, _, rfl, rfl, ⟨by decide, by decide⟩, .inl ⟨_, rfl, _, rfl, _, _, rfl, rfl, mpos, ?_⟩⟩
        exact fin _ _ (t + 1) _ k2 h2 (by omega)
    refine ⟨_, pss_cons (ps_if (pt_cmp (pc_gt (pe_ix ix_list (pv 0) pe_int (fun _ _ => rfl)) pe_int))
        (pss_cons (ps_set (i := 2) sc_lot.nd rfl (Or.inl rfl) (pe_ix ix_list (pv 0) pe_int (fun _ _ => rfl)))
        (pss_cons (ps_asg (pe_op op_fdiv (pe_callTy call_int1 (by rfl) X.b_int (by decide +kernel) (pa_cons (pv 2) pa_nil)) (pv 1)) (pg_sub (pv 0) pe_int set_list))
        (pss_one (ps_ret (pe_op op_mod (pe_callTy call_int1 (by rfl) X.b_int (by decide +kernel) (pa_cons (pv 2) pa_nil)) (pv 1)))))) pss_nil)
      (pss_cons (ps_set (i := 3) sc_lot.nd rfl (Or.inl rfl) (pe_ix ix_list (pv 0) pe_int (fun _ _ => rfl)))
      (pss_cons (ps_asg (pe_op op_add (pv 3) pe_int) (pg_sub (pv 0) pe_int set_list))
      (pss_cons (ps_set (i := 4) sc_lot.nd rfl (Or.inl rfl) (pe_op op_add (pe_op op_mul pe_int (pv 3)) pe_int))
      (pss_cons (ps_if (pt_cmpR (op_neD hr.units) (pe_ix ix_list (pv 0) pe_int (fun _ _ => rfl)) (pe_lst pa_nil) (nomark _))
        (pss_one (ps_set (i := 4) sc_lot.nd rfl (Or.inl rfl) (pe_ix ix_list (pe_ix ix_list (pv 0) pe_int (fun _ _ => rfl)) (pe_op op_mod (pe_callTy call_int1 (by rfl) X.b_int (by decide +kernel) (pa_cons (pv 3) pa_nil)) (pe_callB call_len_seq (by rfl) X.b_len (by decide +kernel) (pa_cons (pe_ix ix_list (pv 0) pe_int (fun _ _ => rfl)) pa_nil))) (fun _ _ => rfl)))) pss_nil) hrest)))), ?_⟩
    refine ⟨_, rfl, j, _, 2, _, rfl, rfl, SqL.of hj, atI_nat (j := 2) rfl, _, _, rfl, rfl, _, rfl, ?_⟩
    refine ite2 (fun _ => ?_) (fun _ => ?_)
    · refine ⟨_, rfl, j, _, 2, _, rfl, rfl, SqL.of hj, atI_nat (j := 2) rfl, _, rfl, .inl ⟨_, rfl, _, rfl, _, _, rfl, rfl, ⟨mpos, by omega⟩, _, rfl, j, _, 2, 2, rfl, rfl, hj, rfl, _, rfl, .inl ⟨_, rfl, _, rfl, _, _, rfl, rfl, mpos, ?_⟩⟩⟩
      exact fin _ _ t _ (fun b u h1 e => by rw [upd_ne h1]; exact e) upd_same (by omega)
    · refine ⟨_, rfl, j, _, 1, _, rfl, rfl, SqL.of hj, atI_nat (j := 1) rfl, _, rfl, _, _, rfl, rfl, _, rfl, j, _, 1, 1, rfl, rfl, hj, rfl, ?_⟩
      have k1 : Kp j H (upd H j (.lst [.ref cs, .int ((t + 1 : Nat) : Int), .int left])) := fun b u h1 e => by rw [upd_ne h1]; exact e
      have hj1 : upd H j (.lst [.ref cs, .int ((t + 1 : Nat) : Int), .int left]) j = some (.lst [.ref cs, .int ((t + 1 : Nat) : Int), .int left]) := upd_same
      change tSeq _ _ _ [some (.ref j), some (.int m), none, some (.int t), none, none] (upd H j (.lst [.ref cs, .int ((t + 1 : Nat) : Int), .int left]))
      generalize upd H j (.lst [.ref cs, .int ((t + 1 : Nat) : Int), .int left]) = H1 at k1 hj1 ⊢
      have hcs1 := k1 cs _ hne hcs
      refine ⟨_, rfl, _, _, rfl, rfl, .inl ⟨by omega, by omega⟩, _, _, rfl, rfl, ?_⟩
      refine ⟨_, rfl, j, _, 0, _, rfl, rfl, SqL.of hj1, atI_nat (j := 0) rfl, (by show 0 ≤ sizeLine; decide), fun q hq => ?_⟩
      have q1 : Same H1 (upd H1 q (.lst [])) := Same.upd hq
      have k2 : Kp j H (upd H1 q (.lst [])) := k1.trans (Kp.same q1)
      have hj2 := q1 _ _ hj1
      have hcs2 := q1 _ _ hcs1
      refine ⟨.list (zs.map PyData.int), .list [], .lst (SqL.of hcs2) ?_, .lst (SqL.of upd_same) .nil, ?_, by decide +kernel, _, rfl, ?_⟩
      · exact dp_ints zs
      · exact ints_shaped zs
      · generalize upd H1 q (.lst []) = H2 at k2 hj2 hcs2 ⊢
        refine ite2 (fun e => ?_) (fun _ => run H2 _ _ _ k2 hj2)
        have hz : 0 < zs.length := by
          have e : (!PyData.eqv (.list (zs.map PyData.int)) (.list [])) = true := e
          rw [eqv_nilL] at e
          cases zs with
          | nil => cases e
          | cons => exact Nat.succ_pos _
        have hlt : t % zs.length < zs.length := Nat.mod_lt _ hz
        refine ⟨_, rfl, j, _, 0, _, rfl, rfl, SqL.of hj2, atI_nat (j := 0) rfl, _, rfl, .inl ⟨_, rfl, _, rfl, j, _, 0, _, rfl, rfl, SqL.of hj2, atI_nat (j := 0) rfl, cs, _, rfl, .inl (SqL.of hcs2), _, _, rfl, rfl, ?_, ?_⟩⟩
        · show (0 : Int) < ((zs.map V.int).length : Int)
          rw [List.length_map]
          omega
        · have e1 : (t : Int) % ((zs.map V.int).length : Int) = ((t % zs.length : Nat) : Int) := by
            rw [List.length_map]
            exact (Int.natCast_emod t zs.length).symm
          refine ⟨cs, _, _, .int (zs[t % zs.length]), rfl, rfl, SqL.of hcs2, ?_, run H2 _ _ _ k2 hj2⟩
          rw [e1]
          exact atI_nat (j := t % zs.length) (by rw [List.getElem?_map, List.getElem?_eq_getElem hlt]; rfl)
end K45
/-! part K45J2 -/
set_option autoImplicit true
set_option Elab.async false
set_option linter.all false
set_option maxRecDepth 100000
set_option maxHeartbeats 4000000
/-! Walks: _law_jar, _law_take. -/
namespace K45
open PySem PySem.Spec PyProof.Rows L2
variable {P : Program} {w : World} {K : PySem.W.Frag} {mg : Str → Option Value} {base : Heap}
theorem sc_take : FnScope ["_law_jar_here", "_law_some"] ["_law_jar_here", "_law_some"] (defScope s__law_take) := ⟨rfl, rfl, rfl, by decide +kernel, rfl, by decide +kernel, by decide +kernel⟩
def sp_take (K : PySem.W.Frag) : Sp := fun vs H Q _ => ∃ (j cs l : Addr) (us : List V) (b : Nat), vs = [.ref j, .ref l] ∧ JarAt H j cs b ∧ b ≤ 5000 ∧ H l = some (.lst us) ∧ l ≠ j ∧ 0 < us.length ∧ us.length < 1000000 ∧ ∀ H' (r : Nat) u, Kp j H H' → JarAt H' j cs (b + 1) → us[r]? = some u → Q u H'
theorem ok_take (X : Fx P w K mg base) : OkD P w K mg base "_law_take" ["_law_jar_here", "_law_some"] 2 (sp_take K) := by
  obtain ⟨fd, F⟩ := X.fn 19 (d := d__law_take) rfl
  obtain ⟨_, _, D1⟩ := ok_lot X
  refine ⟨_, fd, X.glo _ (X.fact 19 (f := .glo "_law_take") rfl), F.kp, F.bindsN fun _ _ _ _ _ _ us hl => match us, hl with | [_, _], _ => rfl, okN F sc_take (fun vs H Q E h => ?_) (fun cdv A outer s H vs Q E hr h => ?_)⟩
  · obtain ⟨_, _, _, _, _, rfl, _⟩ := h
    rfl
  · obtain ⟨j, cs, l, us, b, rfl, hj, hb, hl, hne, l0, l1, hQ⟩ := h
    refine ⟨_, pss_one (ps_ret (pe_ix ix_list (pv 1) (pe_d D1 hr (by rfl) (pa_cons (pv 0) (pa_cons (pe_callB call_len_seq (by rfl) X.b_len (by decide +kernel) (pa_cons (pv 1) pa_nil)) pa_nil))) (fun _ _ => rfl))), ?_⟩
    refine ⟨_, rfl, _, rfl, _, rfl, l, us, rfl, .inl (SqL.of hl), j, cs, us.length, b, rfl, hj, hb, l0, l1, fun H' r k hj' hr' => ?_⟩
    refine ⟨l, us, r, us[r], rfl, rfl, SqL.of (k _ _ hne hl), atI_nat (j := r) (List.getElem?_eq_getElem hr'), hQ H' r _ k hj' (List.getElem?_eq_getElem hr')⟩
theorem cutV_ints (zs : List Int) (lo hi : Option Int) : ∃ ys : List Int, cutV (zs.map V.int) lo hi = ys.map V.int := by
  have key : ∀ l : List V, (∀ v ∈ l, ∃ z, v = V.int z) → ∃ ys : List Int, l = ys.map V.int := by
    intro l
    induction l with
    | nil => intro _; exact ⟨[], rfl⟩
    | cons v l ih =>
      intro h
      obtain ⟨z, rfl⟩ := h v List.mem_cons_self
      obtain ⟨ys, rfl⟩ := ih fun x hx => h x (List.mem_cons_of_mem _ hx)
      exact ⟨z :: ys, rfl⟩
  refine key _ fun v hv => ?_
  have hm : v ∈ zs.map V.int := by
    unfold cutV at hv
    first | exact List.mem_of_mem_drop (List.mem_of_mem_take hv) | exact List.mem_of_mem_take (List.mem_of_mem_drop hv)
  obtain ⟨z, _, rfl⟩ := List.mem_map.mp hm
  exact ⟨z, rfl⟩
theorem sc_jar : FnScope ["_law_script", "_law_cell"] ["_law_script"] (defScope s__law_jar) := ⟨rfl, rfl, rfl, by decide +kernel, rfl, by decide +kernel, by decide +kernel⟩
def sp_jar (K : PySem.W.Frag) : Sp := fun vs H Q _ => ∃ (a : Addr) (zs : List Int), vs = [.ref a] ∧ SqL K H a (zs.map V.int) ∧ zs.length ≤ 1000 ∧ ∀ H' j cs, Same H H' → H j = none → H cs = none → JarAt H' j cs 0 → Q (.ref j) H'
theorem ok_jar (X : Fx P w K mg base) : OkD P w K mg base "_law_jar" ["_law_script"] 1 (sp_jar K) := by
  obtain ⟨fd, F⟩ := X.fn 17 (d := d__law_jar) rfl
  refine ⟨_, fd, X.glo _ (X.fact 17 (f := .glo "_law_jar") rfl), F.kp, F.bindsN fun _ _ _ _ _ _ us hl => match us, hl with | [_], _ => rfl, okN F sc_jar (fun vs H Q E h => ?_) (fun cdv A outer s H vs Q E hr h => ?_)⟩
  · obtain ⟨_, _, rfl, _⟩ := h
    rfl
  · obtain ⟨a, zs, rfl, ha, hz, hQ⟩ := h
    refine ⟨_, pss_one (ps_ret (pe_lst (pa_cons (pe_lc (own := [("_law_cell", 1)]) (g := gName 1) (tt := tYes) rfl sc_jar.nd (pi_list (pe_slice sl_list (pv 0) po_none (po_some pe_int)))
            (blkOk_by (own := [("_law_cell", 1)]) (N := ["_law_script", "_law_cell"]) (sc := defScope s__law_jar) (by decide +kernel)) (fun _ _ _ _ _ => pg_name (i := 1) sc_jar.nd rfl (Or.inl rfl)) (fun _ _ _ _ _ => pts_nil)
            (fun _ _ _ _ _ => pe_callTy call_int1 (by rfl) X.b_int (by decide +kernel) (pa_cons (pv 1) pa_nil))) (pa_cons pe_int (pa_cons pe_int pa_nil))))), ?_⟩
    obtain ⟨ys, hys⟩ := cutV_ints zs none (some 59)
    refine ⟨_, rfl, 59, rfl, a, _, rfl, ha, fun p hp => ?_⟩
    rw [hys]
    have q1 : Same H (upd H p (.lst (ys.map V.int))) := Same.upd hp
    have hp1 : upd H p (.lst (ys.map V.int)) p = some (.lst (ys.map V.int)) := upd_same
    generalize upd H p (.lst (ys.map V.int)) = H1 at q1 hp1 ⊢
    have hyl : ys.length ≤ 1000 := by
      have h1 := cutV_length (zs.map V.int) none (some 59)
      rw [hys, List.length_map, List.length_map] at h1
      omega
    refine ⟨p, rfl, ⟨_, SqL.of hp1⟩, fun D' hD => lc_list (K := K) (a := p) (xs := ys.map V.int) (fun i H' => Same H1 H' ∧ H' D' = some (.lst ((ys.take i).map V.int)))
      ⟨Same.upd hD, upd_same⟩ (fun i H' _ ⟨h, _⟩ => SqL.of (h _ _ hp1)) ?_ ?_⟩
    · rintro i x H2 hx ⟨q2, hD2⟩
      rw [List.getElem?_map] at hx
      obtain ⟨y, hy, rfl⟩ := Option.map_eq_some_iff.mp hx
      refine ⟨rfl, _, rfl, .inl ⟨_, rfl, _, hD2, ?_, fun b u e => ?_, ?_⟩⟩
      · rw [List.length_map, List.length_take]
        exact Nat.lt_of_le_of_lt (show _ ≤ 1000 by omega) (by decide)
      · rw [upd_ne (ne_of_none e hD)]; exact q2 _ _ e
      · rw [upd_same, take_snoc hy, List.map_append]; rfl
    · rintro H2 ⟨q2, hD2⟩
      rw [List.length_map, List.take_length] at hD2
      refine ⟨(by show 3 ≤ sizeLine; decide), fun j hj => ?_⟩
      have hD1 : H1 D' = none := hD
      refine hQ _ j D' (Same.trans q1 (Same.trans q2 (Same.upd hj))) (Same.none q1 (Same.none q2 hj)) (Same.none q1 hD1) ⟨ys, 0, 0, upd_same, Same.upd hj _ _ hD2, ne_of_none hD2 hj, Nat.le_refl _⟩
end K45
/-! part K45J3 -/
set_option autoImplicit true
set_option Elab.async false
set_option linter.all false
set_option maxRecDepth 100000
set_option maxHeartbeats 4000000
/-! Walks: _law_mixed. -/
namespace K45
open PySem PySem.Spec PyProof.Rows L2
variable {P : Program} {w : World} {K : PySem.W.Frag} {mg : Str → Option Value} {base : Heap}
/-- v is data, however the heap goes on -/
def Dat (K : PySem.W.Frag) (H : Hp) (v : V) : Prop := ∃ d : PyData, d.canLay0 = true ∧ d.depth ≤ 58 ∧ ∀ H', Tups H H' → Dp K H' v d
theorem Dat.keep {H H' : Hp} {v : V} (h : Dat K H v) (t : Tups H H') : Dat K H' v := by
  obtain ⟨d, a, b, c⟩ := h
  exact ⟨d, a, b, fun H2 t2 => c H2 (t.trans t2)⟩
theorem Dat.all {H : Hp} : ∀ us : List V, (∀ u ∈ us, Dat K H u) → ∃ ds, DpAll K H us ds ∧ ds.isEmpty = us.isEmpty ∧ PyData.canLayAll0 ds = true ∧ PyData.depthAll ds ≤ 59
  | [], _ => ⟨[], .nil, rfl, rfl, by simp [PyData.depthAll]⟩
  | u :: us, h => by
    obtain ⟨d, a, b, c⟩ := h u List.mem_cons_self
    obtain ⟨ds, x, _, y, z⟩ := Dat.all us fun v hv => h v (List.mem_cons_of_mem _ hv)
    refine ⟨d :: ds, .cons (c H (Tups.refl H)) x, rfl, by simp [PyData.canLayAll0, a, y], ?_⟩
    simp only [PyData.depthAll]
    omega
theorem Kp.tups {o : Addr} {H H' : Hp} (k : Kp o H H') (h : ∀ xs, H o ≠ some (.tup xs)) : Tups H H' := fun b xs e => k b _ (fun z => h xs (by rw [← z]; exact e)) e
theorem erase_perm {α : Type} : ∀ (l : List α) (n : Nat) (h : n < l.length), (l[n] :: l.eraseIdx n).Perm l
  | x :: l, 0, _ => .refl _
  | x :: l, n + 1, h => by
    have ih := erase_perm l n (Nat.lt_of_succ_lt_succ h)
    have hn : n < l.length := Nat.lt_of_succ_lt_succ h
    show (l[n]'hn :: x :: l.eraseIdx n).Perm (x :: l)
    exact (List.Perm.swap _ _ _).trans (ih.cons x)
abbrev nMix : List Str := ["_law_jar_here", "_law_some", "_law_left", "_law_found"]
theorem sc_mixed : FnScope nMix ["_law_jar_here", "_law_some"] (defScope s__law_mixed) := ⟨rfl, rfl, rfl, by decide +kernel, rfl, by decide +kernel, by decide +kernel⟩
def sp_mixed (K : PySem.W.Frag) : Sp := fun vs H Q _ => ∃ (j cs l : Addr) (us : List V) (b : Nat), vs = [.ref j, .ref l] ∧ JarAt H j cs b ∧ b + us.length ≤ 5000 ∧ H l = some (.lst us) ∧ (∀ u ∈ us, Dat K H u) ∧ ∀ H' q us', Kp j H H' → JarAt H' j cs (b + us.length) → H q = none → H' q = some (.lst us') → us'.Perm us → Q (.ref q) H'
theorem ok_mixed (X : Fx P w K mg base) : OkD P w K mg base "_law_mixed" ["_law_jar_here", "_law_some"] 2 (sp_mixed K) := by
  obtain ⟨fd, F⟩ := X.fn 20 (d := d__law_mixed) rfl
  obtain ⟨_, _, D1⟩ := ok_lot X
  refine ⟨_, fd, X.glo _ (X.fact 20 (f := .glo "_law_mixed") rfl), F.kp, F.bindsN fun _ _ _ _ _ _ us hl => match us, hl with | [_, _], _ => rfl, okN F sc_mixed (fun vs H Q E h => ?_) (fun cdv A outer s H vs Q E hr h => ?_)⟩
  · obtain ⟨_, _, _, _, _, rfl, _⟩ := h
    rfl
  · obtain ⟨j, cs, l, us, b, rfl, hj, hb, hl, hus, hQ⟩ := h
    refine ⟨_, pss_cons (ps_par (i := 2) (j := 3) rfl sc_mixed.nd rfl rfl (by decide) rfl rfl (pa_cons (pe_callTy call_list_of (by rfl) X.b_list (by decide +kernel) (pa_cons (pv 1) pa_nil)) (pa_cons (pe_lst pa_nil) pa_nil)) (by rfl))
      (pss_cons (ps_while PassesOwn.never (pt_cmpR (op_neD hr.units) (pv 2) (pe_lst pa_nil) (nomark _))
        (pss_one (ps_expr (pe_bm PySem.F.plainAttrs_list PySem.F.slot_list_append PySem.F.type_list_append mt_append (pv 3) (pa_cons (pe_bm PySem.F.plainAttrs_list PySem.F.slot_list_pop PySem.F.type_list_pop mt_popAt (pv 2)
          (pa_cons (pe_d D1 hr (by rfl) (pa_cons (pv 0) (pa_cons (pe_callB call_len_seq (by rfl) X.b_len (by decide +kernel) (pa_cons (pv 2) pa_nil)) pa_nil))) pa_nil)) pa_nil)))))
      (pss_one (ps_ret (pv 3)))), ?_⟩
    refine ⟨_, rfl, l, us, rfl, .inl (SqL.of hl), fun p hp => ⟨(by show 0 ≤ sizeLine; decide), fun f hf => ⟨_, _, rfl, ?_⟩⟩⟩
    have q1 : Same H (upd (upd H p (.lst us)) f (.lst [])) := Same.trans (Same.upd hp) (Same.upd hf)
    have hp1 : upd (upd H p (.lst us)) f (.lst []) p = some (.lst us) := Same.upd hf _ _ upd_same
    have hf1 : upd (upd H p (.lst us)) f (.lst []) f = some (.lst []) := upd_same
    have pf : p ≠ f := fun e => by rw [← e, upd_same] at hf; cases hf
    have hfn : H f = none := Same.none (Same.upd hp) hf
    change tSeq _ _ _ [some (.ref j), some (.ref l), some (.ref p), some (.ref f)] (upd (upd H p (.lst us)) f (.lst []))
    generalize upd (upd H p (.lst us)) f (.lst []) = H1 at q1 hp1 hf1 ⊢
    have hjH := hj
    obtain ⟨zs0, t0, l0, ej, ecs, ecj, _⟩ := hj
    have pj : p ≠ j := (ne_of_none ej hp).symm
    have pcs : p ≠ cs := (ne_of_none ecs hp).symm
    have fj : f ≠ j := (ne_of_none ej hfn).symm
    have fcs : f ≠ cs := (ne_of_none ecs hfn).symm
    have hj1 : JarAt H1 j cs b := hjH.keep fun a u _ e => q1 _ _ e
    refine ⟨fun m σ H' => ∃ ls fs, m = ls.length ∧ σ = [some (.ref j), some (.ref l), some (.ref p), some (.ref f)] ∧ Kp j H H' ∧ JarAt H' j cs (b + fs.length) ∧ H' p = some (.lst ls) ∧ H' f = some (.lst fs) ∧ (fs ++ ls).Perm us,
      ⟨_, us, [], rfl, rfl, Kp.same q1, hj1, hp1, hf1, .refl _⟩, ?_⟩
    rintro m σ H2 ⟨ls, fs, rfl, rfl, k2, hj2, hp2, hf2, pm⟩
    refine ⟨_, rfl, (by show 0 ≤ sizeLine; decide), fun q hq => ?_⟩
    have tq : Tups H (upd H2 q (.lst [])) := (k2.tups fun xs e => by rw [ej] at e; cases e).trans (.of (Same.upd hq))
    obtain ⟨ds, d1, d2, d3, d4⟩ := Dat.all (K := K) (H := upd H2 q (.lst [])) ls fun u hu => (hus u (pm.subset (List.mem_append_right _ hu))).keep tq
    have q3 : Same H2 (upd H2 q (.lst [])) := Same.upd hq
    refine ⟨.list ds, .list [], .lst (SqL.of (q3 _ _ hp2)) d1, .lst (SqL.of upd_same) .nil, ?_, by decide +kernel, _, rfl, ?_⟩
    · unfold SeqAt.shaped
      simp only [PyData.canLay0, PyData.depth]
      rw [d3, Bool.true_and]
      exact decide_eq_true (by omega)
    have k3 : Kp j H (upd H2 q (.lst [])) := k2.trans (Kp.same q3)
    have hj3 : JarAt (upd H2 q (.lst [])) j cs (b + fs.length) := hj2.keep fun a u _ e => q3 _ _ e
    have hp3 := q3 _ _ hp2
    have hf3 := q3 _ _ hf2
    rw [eqv_nilL, d2]
    generalize upd H2 q (.lst []) = H3 at k3 hj3 hp3 hf3 ⊢
    have len := pm.length_eq
    rw [List.length_append] at len
    cases ls with
    | nil =>
      rw [List.append_nil] at pm
      have len : fs.length = us.length := pm.length_eq
      refine iteF ⟨_, rfl, hQ H3 f fs k3 (by rw [← len]; exact hj3) hfn hf3 pm⟩
    | cons x ls =>
      refine iteT ⟨fun σ' H' => ∃ ls' fs', ls'.length < (x :: ls).length ∧ σ' = [some (.ref j), some (.ref l), some (.ref p), some (.ref f)] ∧ Kp j H H' ∧ JarAt H' j cs (b + fs'.length) ∧ H' p = some (.lst ls') ∧ H' f = some (.lst fs') ∧ (fs' ++ ls').Perm us,
        fun σ' H' ⟨ls', fs', lt, r⟩ => ⟨_, lt, ls', fs', rfl, r⟩, ?_⟩
      have lb : (x :: ls).length ≤ 5000 := by omega
      refine ⟨_, rfl, .inl ⟨rfl, _, SqL.of hf3⟩, _, rfl, .inl ⟨rfl, _, SqL.of hp3⟩, _, rfl, _, rfl, p, _, rfl, .inl (SqL.of hp3), j, cs, (x :: ls).length, b + fs.length, rfl, hj3, by omega, Nat.succ_pos _, Nat.lt_of_le_of_lt lb (by decide), fun H4 r k4 hj4 hr4 => ?_⟩
      have hp4 := k4 _ _ pj hp3
      have hf4 : upd H4 p (.lst ((x :: ls).eraseIdx r)) f = some (.lst fs) := by rw [upd_ne pf.symm]; exact k4 _ _ fj hf3
      refine ⟨p, x :: ls, r, r, (x :: ls)[r], rfl, rfl, hp4, by omega, by omega, ?_, List.getElem?_eq_getElem hr4, f, fs, _, rfl, rfl, hf4, Nat.lt_of_le_of_lt (show fs.length ≤ 5000 by omega) (by decide), ?_⟩
      · unfold seqIndex?
        have h1 : ¬ ((r : Int) < 0) := by omega
        simp only [if_neg h1]
        rw [if_pos (show (decide (0 ≤ (r : Int)) && decide ((r : Int) < ((x :: ls).length : Int))) = true by rw [decide_eq_true (by omega), decide_eq_true (by omega)]; rfl)]
        rfl
      · refine ⟨(x :: ls).eraseIdx r, fs ++ [(x :: ls)[r]], ?_, rfl, fun a u h1 e => ?_, ?_, ?_, upd_same, ?_⟩
        · rw [List.length_eraseIdx, if_pos hr4]
          exact Nat.sub_lt (Nat.succ_pos _) (by decide)
        · rw [upd_ne (ne_of_none e hfn), upd_ne (ne_of_none e hp)]
          exact k4 _ _ h1 (k3 _ _ h1 e)
        · rw [List.length_append]
          refine hj4.keep fun a u h e => ?_
          rw [upd_ne, upd_ne]
          · exact e
          · rcases h with rfl | rfl
            · exact pj.symm
            · exact pcs.symm
          · rcases h with rfl | rfl
            · exact fj.symm
            · exact fcs.symm
        · rw [upd_ne pf]; exact upd_same
        · have h1 : ((x :: ls)[r] :: (x :: ls).eraseIdx r).Perm (x :: ls) := erase_perm (x :: ls) r hr4
          rw [List.append_assoc]
          exact (List.Perm.append_left fs h1).trans pm
end K45
/-! part K45J4 -/
set_option autoImplicit true
set_option Elab.async false
set_option linter.all false
set_option maxRecDepth 100000
set_option maxHeartbeats 4000000
/-! Walks: _law_parts. -/
namespace K45
open PySem PySem.Spec PyProof.Rows L2
variable {P : Program} {w : World} {K : PySem.W.Frag} {mg : Str → Option Value} {base : Heap}
theorem sc_lparts : FnScope ["_law_term_here"] ["_law_term_here"] (defScope s__law_parts) := ⟨rfl, rfl, rfl, by decide +kernel, rfl, by decide +kernel, by decide +kernel⟩
/-- a node or a term: a tuple of what stands behind the label -/
def sp_lparts : Sp := fun vs H Q _ => ∃ (a : Addr) (h : Hd) (us : List V), vs = [.ref a] ∧ H a = some (.tup (.str h.str :: (h.rest.map kV ++ us))) ∧ (∀ i, h = .lf i → us = []) ∧ ∀ H' p, Same H H' → H' p = some (.tup us) → Q (.ref p) H'
theorem ok_lparts (X : Fx P w K mg base) : OkD P w K mg base "_law_parts" ["_law_term_here"] 1 sp_lparts := by
  obtain ⟨fd, F⟩ := X.fn 24 (d := d__law_parts) rfl
  refine ⟨_, fd, X.glo _ (X.fact 24 (f := .glo "_law_parts") rfl), F.kp, F.bindsN fun _ _ _ _ _ _ us hl => match us, hl with | [_], _ => rfl, okN F sc_lparts (fun vs H Q E h => ?_) (fun cdv A outer s H vs Q E hr h => ?_)⟩
  · obtain ⟨_, _, _, rfl, _⟩ := h
    rfl
  · obtain ⟨a, h, us, rfl, ha, hl, hQ⟩ := h
    refine ⟨_, pss_one (ps_ret (pe_ifExp (pt_cmpR op_in_seq (pe_ix ix_tup (pv 0) pe_int (fun _ _ => rfl)) (pe_tup (pa_cons pe_str (pa_cons pe_str (pa_cons pe_str pa_nil)))) rfl) (pe_tup pa_nil) (pe_slice sl_tup (pv 0) (po_some pe_int) po_none))), ?_⟩
    refine ⟨_, rfl, a, _, 0, _, rfl, rfl, SqT.of ha, atI_nat (j := 0) rfl, (by show 3 ≤ sizeLine; decide), fun p hp => ⟨p, _, rfl, .inr (SqT.of upd_same), rfl, rfl, _, rfl, ?_⟩⟩
    have q1 : Same H (upd H p (.tup [.str "number", .str "name", .str "flag"])) := Same.upd hp
    have ha1 := q1 _ _ ha
    generalize upd H p (.tup [.str "number", .str "name", .str "flag"]) = H1 at q1 ha1 ⊢
    have yes : inV (.str h.str) [.str "number", .str "name", .str "flag"] = true → us = [] := fun e => by
      cases h with
      | lf i => exact hl i rfl
      | nd l => exact absurd e (by cases l <;> decide +kernel)
    have no : ¬ inV (.str h.str) [.str "number", .str "name", .str "flag"] = true → h.rest = [] := fun e => by
      cases h with
      | lf i => cases i <;> first | rfl | exact absurd (by decide +kernel) e
      | nd l => rfl
    refine ite2 (fun e => ⟨(by show 0 ≤ sizeLine; decide), fun q hq => ?_⟩) (fun e => ⟨_, rfl, 1, rfl, a, _, rfl, SqT.of ha1, cut1_ne _ _, fun q hq => ?_⟩)
    · exact hQ _ q (Same.trans q1 (Same.upd hq)) (by rw [yes e]; exact upd_same)
    · rw [cut1, no e]
      exact hQ _ q (Same.trans q1 (Same.upd hq)) upd_same
end K45
/-! part K45J5 -/
set_option autoImplicit true
set_option Elab.async false
set_option linter.all false
set_option maxRecDepth 100000
set_option maxHeartbeats 4000000
/-! Walks: _law_under. -/
namespace K45
open PySem PySem.Spec PyProof.Rows L2
variable {P : Program} {w : World} {K : PySem.W.Frag} {mg : Str → Option Value} {base : Heap}
abbrev nUnd : List Str := ["_law_term_here", "_law_found", "_law_part"]
theorem sc_under : FnScope nUnd ["_law_term_here"] (defScope s__law_under) := ⟨rfl, rfl, rfl, by decide +kernel, rfl, by decide +kernel, by decide +kernel⟩
def sp_under (n : Nat) : Sp := fun vs H Q _ => ∃ (t : T) (v : V), vs = [v] ∧ TmAt H t v ∧ t.depth ≤ n ∧ t.under.length ≤ 1000 ∧ ∀ H' q us, Same H H' → H' q = some (.lst us) → H q = none → Paired (TmAt H') t.under us → Q (.ref q) H'
theorem ok_under (X : Fx P w K mg base) : ∀ n : Nat, OkD P w K mg base "_law_under" ["_law_term_here"] (n + 2) (sp_under n) := by
  have step : ∀ (n : Nat) (rec : n = 0 ∨ ∃ m, n = m + 1 ∧ OkD P w K mg base "_law_under" ["_law_term_here"] (n + 1) (sp_under m)), OkD P w K mg base "_law_under" ["_law_term_here"] (n + 2) (sp_under n) := by
    intro n rec
    obtain ⟨fd, F⟩ := X.fn 30 (d := d__law_under) rfl
    obtain ⟨_, _, D1⟩ := (ok_lparts X).mono (k := n + 1) (by omega)
    refine ⟨_, fd, X.glo _ (X.fact 30 (f := .glo "_law_under") rfl), F.kp, F.bindsN fun _ _ _ _ _ _ us hl => match us, hl with | [_], _ => rfl, okN F sc_under (fun vs H Q E h => ?_) (fun cdv A outer s H vs Q E hr h => ?_)⟩
    · obtain ⟨_, _, rfl, _⟩ := h
      rfl
    · obtain ⟨t, v, rfl, ht, hd, hz, hQ⟩ := h
      obtain ⟨m, rfl, f', fd', D⟩ : ∃ m, n = m + 1 ∧ OkD P w K mg base "_law_under" ["_law_term_here"] (n + 1) (sp_under m) := by
        rcases rec with e | e
        · have := t.depth_pos
          omega
        · exact e
      refine ⟨_, pss_cons (ps_set (i := 1) sc_under.nd rfl (Or.inl rfl) (pe_lst (pa_cons (pv 0) pa_nil)))
        (pss_cons (ps_for PassesOwn.never rfl (pi_tup (pe_d D1 hr (by rfl) (pa_cons (pv 0) pa_nil))) (pg_name (i := 2) sc_under.nd rfl (Or.inl rfl))
          (pss_one (ps_expr (pe_bm PySem.F.plainAttrs_list PySem.F.slot_list_extend PySem.F.type_list_extend mt_extend (pv 1) (pa_cons (pe_d D hr (by rfl) (pa_cons (pv 2) pa_nil)) pa_nil)))))
        (pss_one (ps_ret (pv 1)))), ?_⟩
      obtain ⟨a, us, rfl, ha, hp⟩ := TmAt.iff.mp ht
      have leafc : ∀ i, t.hd = .lf i → us = [] := fun i e => by
        have e0 : t = .lf i := by
          cases t <;> simp only [T.hd, Hd.lf.injEq, reduceCtorEq] at e
          rw [e]
        subst e0
        cases hp
        rfl
      refine ⟨_, rfl, (by show 1 ≤ sizeLine; decide), fun q hq => ?_⟩
      have q1 : Same H (upd H q (.lst [.ref a])) := Same.upd hq
      have hq1 : upd H q (.lst [.ref a]) q = some (.lst [.ref a]) := upd_same
      change tSeq _ _ _ [some (.ref a), some (.ref q), none] (upd H q (.lst [.ref a]))
      generalize upd H q (.lst [.ref a]) = H1 at q1 hq1 ⊢
      refine ⟨_, rfl, a, t.hd, us, rfl, q1 _ _ ha, leafc, fun H2 p q2 hp2 => ⟨p, rfl, ⟨_, SqT.of hp2⟩, ?_⟩⟩
      refine for_tup (K := K) (a := p) (xs := us) (fun i σ H' => ∃ xs v2, σ = [some (.ref a), some (.ref q), v2] ∧ Same H H' ∧ H' p = some (.tup us) ∧ H' q = some (.lst xs) ∧ Paired (TmAt H') (t :: ((t.parts.take i).map T.under).flatten) xs)
        ⟨[.ref a], none, rfl, Same.trans q1 q2, hp2, q2 _ _ hq1, .cons (TmAt.keep (.of (Same.trans q1 q2)) ht) .nil⟩ (fun i σ H' _ ⟨_, _, _, _, h, _⟩ => SqT.of h) ?_ ?_
      · rintro i x σ H3 hx ⟨xs, v2, rfl, q3, hp3, hq3, pr3⟩
        obtain ⟨t', ht', tx⟩ := Paired.get hp hx
        have mp : t' ∈ t.parts := List.mem_of_getElem? ht'
        have tk := take_snoc ht'
        have len := Paired.len pr3
        have under2 : (t :: ((t.parts.take (i + 1)).map T.under).flatten).length ≤ t.under.length := by
          rw [T.under_eq]
          have e : t.parts.map T.under = (t.parts.take (i + 1)).map T.under ++ (t.parts.drop (i + 1)).map T.under := by rw [← List.map_append, List.take_append_drop]
          rw [e, List.flatten_append, List.length_cons, List.length_cons, List.length_append]
          omega
        rw [tk, List.map_append, List.flatten_append] at under2
        simp only [List.map_cons, List.map_nil, List.flatten_cons, List.flatten_nil, List.append_nil, List.length_cons, List.length_append] at under2 len
        refine ⟨_, rfl, .inl ⟨rfl, _, SqL.of hq3⟩, _, rfl, t', x, rfl, tx.keep (.of q3), ?_, by omega, fun H4 b ys q4 hb4 hbn pr4 => ?_⟩
        · have := T.depth_part mp; omega
        have len4 := Paired.len pr4
        have hq4 := q4 _ _ hq3
        refine ⟨q, b, xs, ys, rfl, rfl, hq4, hb4, Nat.le_trans (show xs.length + ys.length ≤ 1000 by omega) (by decide), ?_⟩
        have tt : Tups H4 (upd H4 q (.lst (xs ++ ys))) := Tups.upd fun zs e => by rw [hq4] at e; cases e
        refine ⟨xs ++ ys, _, rfl, fun c u e => ?_, tt _ _ (q4 _ _ hp3), upd_same, ?_⟩
        · rw [upd_ne (ne_of_none e hq)]; exact q4 _ _ (q3 _ _ e)
        · rw [tk, List.map_append, List.flatten_append, ← List.cons_append]
          simp only [List.map_cons, List.map_nil, List.flatten_cons, List.flatten_nil, List.append_nil]
          exact Paired.app (Paired.imp (fun _ _ z => TmAt.keep tt (TmAt.keep (.of q4) z)) pr3) (Paired.imp (fun _ _ z => TmAt.keep tt z) pr4)
      · rintro σ H3 ⟨xs, v2, rfl, q3, hp3, hq3, pr3⟩
        rw [← Paired.len hp, List.take_length, ← T.under_eq] at pr3
        exact ⟨_, rfl, hQ H3 q xs q3 hq3 hq pr3⟩
  intro n
  induction n with
  | zero => exact step 0 (.inl rfl)
  | succ m ih => exact step (m + 1) (.inr ⟨m, rfl, ih⟩)
end K45
/-! part K45J6 -/
set_option autoImplicit true
set_option Elab.async false
set_option linter.all false
set_option maxRecDepth 100000
set_option maxHeartbeats 4000000
/-! Walks: _law_word, _law_truth, _law_term. -/
namespace K45
open PySem PySem.Spec PyProof.Rows L2
variable {P : Program} {w : World} {K : PySem.W.Frag} {mg : Str → Option Value} {base : Heap}
theorem JarAt.mono {H : Hp} {j cs : Addr} {b b' : Nat} (h : JarAt H j cs b) (l : b ≤ b') : JarAt H j cs b' := by
  obtain ⟨zs, t, x, a, c, d, e⟩ := h
  exact ⟨zs, t, x, a, c, d, Nat.le_trans e l⟩
theorem JarAt.same {H H' : Hp} {j cs : Addr} {b : Nat} (h : JarAt H j cs b) (s : Same H H') : JarAt H' j cs b := h.keep fun a u _ e => s a u e
theorem JarAt.ne {H : Hp} {j cs : Addr} {b : Nat} (h : JarAt H j cs b) {p : Addr} (hp : H p = none) : p ≠ j ∧ p ≠ cs := by
  obtain ⟨_, _, _, a, c, _⟩ := h
  exact ⟨(ne_of_none a hp).symm, (ne_of_none c hp).symm⟩
theorem JarAt.tups {H H' : Hp} {j cs : Addr} {b : Nat} (h : JarAt H j cs b) (k : Kp j H H') : Tups H H' := by
  obtain ⟨_, _, _, a, _⟩ := h
  exact k.tups fun xs e => by rw [a] at e; cases e
/-- most lots, most nodes of a term of this depth -/
def kd : Nat → Nat
  | 0 => 2
  | d + 1 => 2 + 3 * kd d
def zd : Nat → Nat
  | 0 => 1
  | d + 1 => 1 + 3 * zd d
theorem zd_pos : ∀ d, 0 < zd d
  | 0 => Nat.succ_pos _
  | d + 1 => by simp only [zd]; omega
theorem kd_pos : ∀ d, 2 ≤ kd d
  | 0 => Nat.le_refl _
  | d + 1 => by simp only [kd]; omega
/-- a term of parts -/
theorem mk_term (l : Lab) (ts : List T) (m z : Nat) (h0 : ts ≠ []) (ha : l.args = ts.map T.word) (hk : ∀ t ∈ ts, t.ok ∧ t.depth ≤ m ∧ t.size ≤ z) :
    ∃ t : T, t.hd = .nd l ∧ t.parts = ts ∧ t.ok ∧ t.word = l.word ∧ t.depth ≤ m + 1 ∧ t.size ≤ 1 + 3 * z := by
  have h3 : ts.length ≤ 3 := by
    have := congrArg List.length ha
    rw [List.length_map] at this
    rw [← this]
    cases l <;> decide
  match ts, h0, h3, ha, hk with
  | [a], _, _, ha, hk =>
    obtain ⟨a1, a2, a3⟩ := hk a (by simp)
    exact ⟨.un l a, rfl, rfl, ⟨ha, a1⟩, rfl, by simp only [T.depth]; omega, by simp only [T.size]; omega⟩
  | [a, b], _, _, ha, hk =>
    obtain ⟨a1, a2, a3⟩ := hk a (by simp)
    obtain ⟨b1, b2, b3⟩ := hk b (by simp)
    exact ⟨.bin l a b, rfl, rfl, ⟨ha, a1, b1⟩, rfl, by simp only [T.depth]; omega, by simp only [T.size]; omega⟩
  | [a, b, c], _, _, ha, hk =>
    obtain ⟨a1, a2, a3⟩ := hk a (by simp)
    obtain ⟨b1, b2, b3⟩ := hk b (by simp)
    obtain ⟨c1, c2, c3⟩ := hk c (by simp)
    exact ⟨.ter l a b c, rfl, rfl, ⟨ha, a1, b1, c1⟩, rfl, by simp only [T.depth]; omega, by simp only [T.size]; omega⟩
  | _ :: _ :: _ :: _ :: _, _, h, _, _ => simp only [List.length_cons] at h; omega
theorem TmAt.mk {H : Hp} {t : T} {l : Lab} {a : Addr} {us : List V} (h : t.hd = .nd l) (ha : H a = some (.tup (.str l.str :: us))) (hp : Paired (TmAt H) t.parts us) : TmAt H t (.ref a) :=
  TmAt.iff.mpr ⟨a, us, rfl, by rw [h]; exact ha, hp⟩
def ifBody : Stmt → List Stmt
  | .If _ b _ _ => b
  | _ => []
def stAt (s : Stmt) (i : Nat) : Stmt := (defBody s).getD i (.Pass ⟨0, 0, 0, 0⟩)
def sp_word (wd : Bool) (d : Nat) : Sp := fun vs H Q _ => ∃ (j cs : Addr) (b : Nat), vs = [.ref j, .int (d : Int)] ∧ JarAt H j cs b ∧ b + kd d ≤ 5000 ∧ ∀ H' t v, Kp j H H' → JarAt H' j cs (b + kd d) → TmAt H' t v → t.ok → t.word = wd → t.depth ≤ d + 1 → t.size ≤ zd d → Q v H'
abbrev nWrd : List Str := ["_law_jar_here", "_law_deep", "_law_label", "_law_parts_here", "_law_turn"]
theorem sc_word : FnScope nWrd ["_law_jar_here", "_law_deep"] (defScope s__law_word) := ⟨rfl, rfl, rfl, by decide +kernel, rfl, by decide +kernel, by decide +kernel⟩
theorem sc_truth : FnScope nWrd ["_law_jar_here", "_law_deep"] (defScope s__law_truth) := ⟨rfl, rfl, rfl, by decide +kernel, rfl, by decide +kernel, by decide +kernel⟩
theorem ok_word (X : Fx P w K mg base) (d : Nat) (rec : d = 0 ∨ ∃ m, d = m + 1 ∧ OkD P w K mg base "_law_word" ["_law_jar_here", "_law_deep"] (m + 3) (sp_word true m) ∧ OkD P w K mg base "_law_truth" ["_law_jar_here", "_law_deep"] (m + 3) (sp_word false m)) :
    OkD P w K mg base "_law_word" ["_law_jar_here", "_law_deep"] (d + 3) (sp_word true d) := by
  obtain ⟨fd, F⟩ := X.fn 21 (d := d__law_word) rfl
  obtain ⟨_, _, DL⟩ := (ok_lot X).mono (k := d + 2) (by omega)
  obtain ⟨_, _, DT⟩ := (ok_take X).mono (k := d + 2) (by omega)
  refine ⟨_, fd, X.glo _ (X.fact 21 (f := .glo "_law_word") rfl), F.kp, F.bindsN fun _ _ _ _ _ _ us hl => match us, hl with | [_, _], _ => rfl, okN F sc_word (fun vs H Q E h => ?_) (fun cdv A outer s H vs Q E hr h => ?_)⟩
  · obtain ⟨_, _, _, rfl, _⟩ := h
    rfl
  · obtain ⟨j, cs, b, rfl, hj, hb, hQ⟩ := h
    have hb2 := kd_pos d
    obtain ⟨t1, hleaf, leaf⟩ : ∃ t1, PSs (cxOf CX0 P w K mg base nWrd "_law_word" (defScope s__law_word) (He.fAd K d__law_word.at_) cdv A outer s H E).nox (ifBody (stAt s__law_word 0)) t1 ∧ ∀ (H2 : Hp) (b' : Nat) (nx : L2.St → Hp → Prop), b' ≤ b + 1 → Kp j H H2 → JarAt H2 j cs b' →
        t1 { nx := nx, rt := Q } [some (.ref j), some (.int (d : Int)), none, none, none] H2 := by
      refine ⟨_, pss_one (ps_ret (pe_d DT hr (by rfl) (pa_cons (pv 0) (pa_cons (pe_lst (pa_cons (pe_tup (pa_cons pe_str (pa_cons pe_str pa_nil))) (pa_cons (pe_tup (pa_cons pe_str (pa_cons pe_str pa_nil))) (pa_cons (pe_tup (pa_cons pe_str (pa_cons pe_str pa_nil)))
        (pa_cons (pe_tup (pa_cons pe_str (pa_cons pe_int pa_nil))) (pa_cons (pe_tup (pa_cons pe_str (pa_cons (pe_un un_neg pe_int) pa_nil))) (pa_cons (pe_tup (pa_cons pe_str pa_nil)) pa_nil))))))) pa_nil)))), ?_⟩
      intro H2 b' nx hb' k2 hj2
      refine ⟨_, rfl, (by show 2 ≤ sizeLine; decide), fun p1 h1 => ⟨(by show 2 ≤ sizeLine; decide), fun p2 h2 => ⟨(by show 2 ≤ sizeLine; decide), fun p3 h3 => ⟨(by show 2 ≤ sizeLine; decide), fun p4 h4 => ⟨_, rfl, (by show 2 ≤ sizeLine; decide), fun p5 h5 => ⟨(by show 1 ≤ sizeLine; decide), fun p6 h6 => ⟨(by show 6 ≤ sizeLine; decide), fun l hl => ?_⟩⟩⟩⟩⟩⟩⟩
      have s7 := Same.upd hl (o := .lst [.ref p1, .ref p2, .ref p3, .ref p4, .ref p5, .ref p6])
      have s6 := Same.trans (Same.upd h6 (o := .tup [.str "call go 0"])) s7
      have s5 := Same.trans (Same.upd h5 (o := .tup [.str "number", .int (-7)])) s6
      have s4 := Same.trans (Same.upd h4 (o := .tup [.str "number", .int 0])) s5
      have s3 := Same.trans (Same.upd h3 (o := .tup [.str "name", .str "c1"])) s4
      have s2 := Same.trans (Same.upd h2 (o := .tup [.str "name", .str "b"])) s3
      have s1 := Same.trans (Same.upd h1 (o := .tup [.str "name", .str "a"])) s2
      have e1 := s2 p1 _ upd_same
      have e2 := s3 p2 _ upd_same
      have e3 := s4 p3 _ upd_same
      have e4 := s5 p4 _ upd_same
      have e5 := s6 p5 _ upd_same
      have e6 := s7 p6 _ upd_same
      have lj : l ≠ j := ((hj2.same (Same.trans (Same.upd h1) (Same.trans (Same.upd h2) (Same.trans (Same.upd h3) (Same.trans (Same.upd h4) (Same.trans (Same.upd h5) (Same.upd h6))))))).ne hl).1
      refine ⟨j, cs, l, _, b', rfl, hj2.same s1, by omega, upd_same, lj, (by show 0 < 6; decide), (by show 6 < 1000000; decide), fun H3 r u k3 hj3 hu => ?_⟩
      have t3 := (hj2.same s1).tups k3
      have fin : ∀ (i : Lf) (p : Addr), i.word = true → upd (upd (upd (upd (upd (upd (upd H2 p1 (.tup [.str "name", .str "a"])) p2 (.tup [.str "name", .str "b"])) p3 (.tup [.str "name", .str "c1"])) p4 (.tup [.str "number", .int 0])) p5 (.tup [.str "number", .int (-7)])) p6 (.tup [.str "call go 0"])) l (.lst [.ref p1, .ref p2, .ref p3, .ref p4, .ref p5, .ref p6]) p = some (.tup (.str i.str :: i.rest.map kV)) → Q (.ref p) H3 := fun i p hw e => by
        refine hQ H3 (.lf i) (.ref p) ((k2.trans (Kp.same s1)).trans k3) (hj3.mono (by omega)) ⟨p, rfl, t3 _ _ e⟩ trivial hw ?_ ?_
        · show 1 ≤ d + 1; omega
        · have := zd_pos d; show 1 ≤ zd d; omega
      have hm := List.mem_of_getElem? hu
      simp only [List.mem_cons, List.not_mem_nil, or_false] at hm
      rcases hm with rfl | rfl | rfl | rfl | rfl | rfl
      · exact fin .na p1 rfl e1
      · exact fin .nb p2 rfl e2
      · exact fin .nc p3 rfl e3
      · exact fin .n0 p4 rfl e4
      · exact fin .n7 p5 rfl e5
      · exact fin .go p6 rfl e6
    obtain ⟨t2, hrest, run⟩ : ∃ t2, PSs (cxOf CX0 P w K mg base nWrd "_law_word" (defScope s__law_word) (He.fAd K d__law_word.at_) cdv A outer s H E).nox ((defBody s__law_word).drop 1) t2 ∧ ∀ (m : Nat) (H2 : Hp), d = m + 1 → Kp j H H2 → JarAt H2 j cs (b + 1) →
        t2 { nx := fun _ H' => Q .non H', rt := Q } [some (.ref j), some (.int (d : Int)), none, none, none] H2 := by
      rcases rec with e | ⟨m, rfl, ⟨_, _, DW⟩, ⟨_, _, DU⟩⟩
      · exact ⟨_, pss_never, fun m H2 h => absurd (e.symm.trans h) (by omega)⟩
      · have hr' : Room (m + 3) (A.deeper (envOfC "_law_word" (defScope s__law_word) s.heap.objs.size (He.fAd K d__law_word.at_) cdv)) := hr
        have hu := hu_of hr
        refine ⟨_, pss_cons (ps_set (i := 2) sc_word.nd rfl (Or.inl rfl) (pe_d DT hr (by rfl) (pa_cons (pv 0) (pa_cons (pe_lst (pa_cons pe_str (pa_cons pe_str (pa_cons pe_str (pa_cons pe_str (pa_cons pe_str (pa_cons pe_str (pa_cons pe_str (pa_cons pe_str pa_nil))))))))) pa_nil))))
          (pss_cons (ps_if (pt_cmpR op_in_seq (pv 2) (pe_tup (pa_cons pe_str (pa_cons pe_str (pa_cons pe_str pa_nil)))) rfl)
            (pss_one (ps_ret (pe_tup (pa_cons (pv 2) (pa_cons (pe_d DW hr' (by rfl) (pa_cons (pv 0) (pa_cons (pe_op op_sub (pv 1) pe_int) pa_nil))) pa_nil))))) pss_nil)
          (pss_cons (ps_if (pt_cmpR op_eq (pv 2) pe_str (nomark _))
            (pss_one (ps_ret (pe_tup (pa_cons (pv 2) (pa_cons (pe_d DU hr' (by rfl) (pa_cons (pv 0) (pa_cons (pe_op op_sub (pv 1) pe_int) pa_nil))) (pa_cons (pe_d DW hr' (by rfl) (pa_cons (pv 0) (pa_cons (pe_op op_sub (pv 1) pe_int) pa_nil))) (pa_cons (pe_d DW hr' (by rfl) (pa_cons (pv 0) (pa_cons (pe_op op_sub (pv 1) pe_int) pa_nil))) pa_nil))))))) pss_nil)
          (pss_cons (ps_setLc (i := 3) (own := [("_law_turn", 4)]) (g := gName 4) (tt := tYes) rfl sc_word.nd rfl rfl (by rfl) (pi_range1 (by rfl) X.b_range (pa_cons (pe_op op_add pe_int (pe_callTy call_int1 (by rfl) X.b_int (by decide +kernel) (pa_cons (pe_cmpR op_eq (pv 2) pe_str (nomark _)) pa_nil))) pa_nil))
            (blkOk_by (own := [("_law_turn", 4)]) (N := nWrd) (sc := defScope s__law_word) (by decide +kernel)) (fun _ _ _ _ _ => pg_name (i := 4) sc_word.nd rfl (Or.inl rfl)) (fun _ _ _ _ _ => pts_nil)
            (fun _ _ _ _ _ => pe_d DW hr' (by rfl) (pa_cons (pv 0) (pa_cons (pe_op op_sub (pv 1) pe_int) pa_nil))))
          (pss_one (ps_ret (pe_op op_catT (pe_tup (pa_cons (pv 2) pa_nil)) (pe_callTy call_tuple_of (by rfl) X.b_tuple (by decide +kernel) (pa_cons (pv 3) pa_nil)))))))), ?_⟩
        intro m' H2 hm k2 hj2
        obtain rfl : m = m' := by omega
        have ekd : kd (m + 1) = 2 + 3 * kd m := rfl
        have ezd : zd (m + 1) = 1 + 3 * zd m := rfl
        have ed : (((m + 1 : Nat) : Int) - 1) = (m : Int) := by omega
        have eargs : [V.ref j, V.int (((m + 1 : Nat) : Int) - 1)] = [V.ref j, V.int (m : Int)] := by rw [ed]
        refine ⟨_, rfl, (by show 8 ≤ sizeLine; decide), fun l hl => ?_⟩
        have lj : l ≠ j := (hj2.ne hl).1
        refine ⟨j, cs, l, _, b + 1, rfl, hj2.same (Same.upd hl), by omega, upd_same, lj, (by show 0 < 8; decide), (by show 8 < 1000000; decide), fun H3 r u k3 hj3 hu => ?_⟩
        have k3' : Kp j H H3 := (k2.trans (Kp.same (Same.upd hl))).trans k3
        have hlab : ∃ lab : Lab, u = .str lab.str ∧ (lab = .neg ∨ lab = .add ∨ lab = .shl ∨ lab = .cond ∨ lab = .mem ∨ lab = .loop) := by
          have hm := List.mem_of_getElem? hu
          simp only [List.mem_cons, List.not_mem_nil, or_false] at hm
          rcases hm with rfl | rfl | rfl | rfl | rfl | rfl | rfl | rfl
          · exact ⟨.neg, rfl, by simp⟩
          · exact ⟨.neg, rfl, by simp⟩
          · exact ⟨.add, rfl, by simp⟩
          · exact ⟨.add, rfl, by simp⟩
          · exact ⟨.shl, rfl, by simp⟩
          · exact ⟨.cond, rfl, by simp⟩
          · exact ⟨.mem, rfl, by simp⟩
          · exact ⟨.loop, rfl, by simp⟩
        obtain ⟨lab, rfl, hlab⟩ := hlab
        have hwd : lab.word = true := by rcases hlab with rfl | rfl | rfl | rfl | rfl | rfl <;> rfl
        have fin : ∀ (H' : Hp) (ts : List T) (us : List V) (q : Addr), Kp j H H' → JarAt H' j cs (b + 2 + 3 * kd m) → H' q = some (.tup (.str lab.str :: us)) → Paired (TmAt H') ts us → lab.args = ts.map T.word → (∀ t ∈ ts, t.ok ∧ t.depth ≤ m + 1 ∧ t.size ≤ zd m) → Q (.ref q) H' := fun H' ts us q k hj' e pr ea hk => by
          have h0 : ts ≠ [] := fun z => by
            rw [z] at ea
            cases lab <;> cases ea
          obtain ⟨t, t1, t2, t3, t4, t5, t6⟩ := mk_term lab ts (m + 1) (zd m) h0 ea hk
          exact hQ H' t (.ref q) k (by rw [ekd]; exact hj'.mono (by omega)) (TmAt.mk t1 e (by rw [t2]; exact pr)) t3 (t4.trans hwd) t5 (by rw [ezd]; exact t6)
        refine ⟨_, rfl, (by show 3 ≤ sizeLine; decide), fun p hp => ⟨p, _, rfl, .inr (SqT.of upd_same), rfl, rfl, _, rfl, ?_⟩⟩
        have q4 : Same H3 (upd H3 p (.tup [.str "neg", .str "shl 3", .str "at"])) := Same.upd hp
        have k4 : Kp j H (upd H3 p (.tup [.str "neg", .str "shl 3", .str "at"])) := k3'.trans (Kp.same q4)
        have hj4 : JarAt (upd H3 p (.tup [.str "neg", .str "shl 3", .str "at"])) j cs (b + 1 + 1) := hj3.same q4
        generalize upd H3 p (.tup [.str "neg", .str "shl 3", .str "at"]) = H4 at k4 hj4 ⊢
        by_cases hun : lab = .neg ∨ lab = .shl ∨ lab = .mem
        · rw [show inV (.str lab.str) [.str "neg", .str "shl 3", .str "at"] = true by rcases hun with rfl | rfl | rfl <;> decide +kernel]
          refine iteT ⟨_, rfl, _, rfl, _, rfl, _, _, rfl, rfl, j, cs, b + 1 + 1, eargs, hj4, by omega, fun H5 t v k5 hj5 tm ok wd dp sz => ⟨(by show 2 ≤ sizeLine; decide), fun q hq => ?_⟩⟩
          refine fin _ [t] [v] q ((k4.trans k5).trans (Kp.same (Same.upd hq))) ((hj5.same (Same.upd hq)).mono (by omega)) upd_same (.cons (tm.keep (.of (Same.upd hq))) .nil) ?_ ?_
          · rw [List.map_cons, List.map_nil, wd]; rcases hun with rfl | rfl | rfl <;> rfl
          · intro x hx
            rw [List.mem_singleton.mp hx]
            exact ⟨ok, dp, sz⟩
        · rw [show inV (.str lab.str) [.str "neg", .str "shl 3", .str "at"] = false by
            rcases hlab with rfl | rfl | rfl | rfl | rfl | rfl <;> first | decide +kernel | exact absurd (by simp) hun]
          refine iteF ⟨_, rfl, rfl, _, rfl, ?_⟩
          by_cases hco : lab = .cond
          · subst hco
            refine iteT ⟨_, rfl, _, rfl, _, rfl, _, _, rfl, rfl, j, cs, b + 1 + 1, eargs, hj4, by omega, fun H5 t v k5 hj5 tm ok wd dp sz => ?_⟩
            refine ⟨_, rfl, _, rfl, _, _, rfl, rfl, j, cs, b + 1 + 1 + kd m, eargs, hj5, by omega, fun H6 t' v' k6 hj6 tm' ok' wd' dp' sz' => ?_⟩
            refine ⟨_, rfl, _, rfl, _, _, rfl, rfl, j, cs, b + 1 + 1 + kd m + kd m, eargs, hj6, by omega, fun H7 t'' v'' k7 hj7 tm'' ok'' wd'' dp'' sz'' => ⟨(by show 4 ≤ sizeLine; decide), fun q hq => ?_⟩⟩
            have sq : Same H7 (upd H7 q (.tup [.str Lab.cond.str, v, v', v''])) := Same.upd hq
            refine fin _ [t, t', t''] [v, v', v''] q ((((k4.trans k5).trans k6).trans k7).trans (Kp.same sq)) ((hj7.same sq).mono (by omega)) upd_same
              (.cons (((tm.keep (hj5.tups k6)).keep (hj6.tups k7)).keep (.of sq)) (.cons ((tm'.keep (hj6.tups k7)).keep (.of sq)) (.cons (tm''.keep (.of sq)) .nil))) ?_ ?_
            · simp only [List.map_cons, List.map_nil, wd, wd', wd'']; rfl
            · intro x hx
              simp only [List.mem_cons, List.not_mem_nil, or_false] at hx
              rcases hx with rfl | rfl | rfl
              · exact ⟨ok, dp, sz⟩
              · exact ⟨ok', dp', sz'⟩
              · exact ⟨ok'', dp'', sz''⟩
          · rw [show decide (V.str lab.str = V.str "if") = false by
              rcases hlab with rfl | rfl | rfl | rfl | rfl | rfl <;> first | decide +kernel | exact absurd rfl hco]
            obtain ⟨n, hn, ln, lm⟩ : ∃ n : Nat, (2 : Int) + (if decide (V.str lab.str = V.str "loop up 1") = true then 1 else 0) = (n : Int) ∧ lab.args = List.replicate n true ∧ n ≤ 3 := by
              rcases hlab with rfl | rfl | rfl | rfl | rfl | rfl
              · exact absurd (.inl rfl) hun
              · exact ⟨2, by decide +kernel, rfl, by decide⟩
              · exact absurd (.inr (.inl rfl)) hun
              · exact absurd rfl hco
              · exact absurd (.inr (.inr rfl)) hun
              · exact ⟨3, by decide +kernel, rfl, by decide⟩
            refine iteF ⟨_, rfl, rfl, .inr ⟨_, rfl, _, _, rfl, rfl, _, rfl, ?_⟩⟩
            rw [hn]
            refine ⟨by omega, by omega, fun D hD => lc_range (lo := 0) (n := n) (fun i H' => ∃ ts us, ts.length = i ∧ Kp j H H' ∧ JarAt H' j cs (b + 2 + i * kd m) ∧ H' D = some (.lst us) ∧ Paired (TmAt H') ts us ∧ ts.map T.word = List.replicate i true ∧ ∀ t ∈ ts, t.ok ∧ t.depth ≤ m + 1 ∧ t.size ≤ zd m)
              ⟨[], [], rfl, k4.trans (Kp.same (Same.upd hD)), (hj4.same (Same.upd hD)).mono (by omega), upd_same, .nil, rfl, fun t ht => by cases ht⟩ ?_ ?_⟩
            · rintro i H5 hi ⟨ts, us, hl, k5, hj5, hD5, pr, wds, hk⟩
              have Dj : D ≠ j := (hj4.ne hD).1
              have Dcs : D ≠ cs := (hj4.ne hD).2
              have hik : (i + 1) * kd m ≤ 3 * kd m := Nat.mul_le_mul_right _ (by omega)
              rw [Nat.add_mul, Nat.one_mul] at hik
              refine ⟨rfl, _, rfl, _, rfl, _, _, rfl, rfl, j, cs, b + 2 + i * kd m, eargs, hj5, by omega, fun H6 t v k6 hj6 tm ok wd dp sz => ?_⟩
              have hD6 := k6 _ _ Dj hD5
              have lu := Paired.len pr
              have tu : Tups H6 (upd H6 D (.lst (us ++ [v]))) := Tups.upd fun zs e => by rw [hD6] at e; cases e
              refine ⟨us, hD6, size6 (by omega), ts ++ [t], us ++ [v], by rw [List.length_append, hl]; rfl, fun a u h1 e => ?_, ?_, upd_same, ?_, ?_, ?_⟩
              · by_cases z : a = D
                · subst z
                  have := k4 _ _ h1 e
                  rw [hD] at this
                  cases this
                · rw [upd_ne z]; exact k6 _ _ h1 (k5 _ _ h1 e)
              · rw [Nat.add_mul, Nat.one_mul, ← Nat.add_assoc]
                exact hj6.keep fun a u z e => by rw [upd_ne (z.elim (fun y => by rw [y]; exact Dj.symm) (fun y => by rw [y]; exact Dcs.symm))]; exact e
              · exact Paired.snoc (tm.keep tu) (Paired.imp (fun _ _ z => (z.keep (hj5.tups k6)).keep tu) pr)
              · rw [List.map_append, wds, List.map_cons, List.map_nil, wd, List.replicate_succ']
              · intro x hx
                rcases List.mem_append.mp hx with hx | hx
                · exact hk x hx
                · rw [List.mem_singleton.mp hx]; exact ⟨ok, dp, sz⟩
            · rintro H5 ⟨ts, us, hl, k5, hj5, hD5, pr, wds, hk⟩
              have hnk : n * kd m ≤ 3 * kd m := Nat.mul_le_mul_right _ lm
              refine ⟨_, rfl, (by show 1 ≤ sizeLine; decide), fun q hq => ⟨_, rfl, D, us, rfl, .inl ⟨SqL.of (Same.upd hq _ _ hD5), fun r hr2 => ?_⟩⟩⟩
              have sq : Same H5 (upd (upd H5 q (.tup [.str lab.str])) r (.tup us)) := Same.trans (Same.upd hq) (Same.upd hr2)
              have lu := Paired.len pr
              have une : us ≠ [] := fun z => by
                rw [z] at lu
                rw [List.length_nil] at lu
                rw [hl] at lu
                subst lu
                cases lab <;> cases ln
              refine ⟨q, r, [.str lab.str], us, rfl, rfl, SqT.of (Same.upd hr2 _ _ upd_same), SqT.of upd_same, (fun z => by cases z), ?_, fun z => absurd z une, fun _ z hz => ?_⟩
              · show 1 + us.length ≤ sizeLine
                exact Nat.le_of_lt (size6 (by omega))
              · have sz : Same H5 (upd (upd (upd H5 q (.tup [.str lab.str])) r (.tup us)) z (.tup ([.str lab.str] ++ us))) := Same.trans sq (Same.upd hz)
                exact fin _ ts us z (k5.trans (Kp.same sz)) ((hj5.same sz).mono (by omega)) upd_same (Paired.imp (fun _ _ y => y.keep (.of sz)) pr) (by rw [wds, ln]) hk
    refine ⟨_, pss_cons (ps_if (PW.pt (pw_or (pt_cmpR op_eq (pv 1) pe_int (nomark _)) (pw_or1 (pt_cmpR op_eq (pe_d DL hr (by rfl) (pa_cons (pv 0) (pa_cons pe_int pa_nil))) pe_int (nomark _))))) hleaf pss_nil) hrest, ?_⟩
    refine ⟨_, rfl, rfl, _, rfl, ?_⟩
    by_cases d0 : d = 0
    · rw [decide_eq_true (show V.int (d : Int) = V.int 0 by rw [d0]; rfl)]
      exact iteT (iteT (leaf H b _ (by omega) (fun _ _ _ e => e) hj))
    · rw [decide_eq_false (show ¬ V.int (d : Int) = V.int 0 from fun z => d0 (by have := V.int.inj z; omega))]
      refine iteF ⟨_, rfl, j, cs, 4, b, rfl, hj, by omega, by decide, by decide, fun H' r k hj' hr' => ⟨rfl, _, rfl, ?_⟩⟩
      refine ite2 (fun _ => leaf H' (b + 1) _ (by omega) k hj') (fun _ => ?_)
      obtain ⟨m, rfl⟩ : ∃ m, d = m + 1 := ⟨d - 1, by omega⟩
      exact run m H' rfl k hj'
theorem ok_truth (X : Fx P w K mg base) (d : Nat) (rec : d = 0 ∨ ∃ m, d = m + 1 ∧ OkD P w K mg base "_law_word" ["_law_jar_here", "_law_deep"] (m + 3) (sp_word true m) ∧ OkD P w K mg base "_law_truth" ["_law_jar_here", "_law_deep"] (m + 3) (sp_word false m)) :
    OkD P w K mg base "_law_truth" ["_law_jar_here", "_law_deep"] (d + 3) (sp_word false d) := by
  obtain ⟨fd, F⟩ := X.fn 22 (d := d__law_truth) rfl
  obtain ⟨_, _, DL⟩ := (ok_lot X).mono (k := d + 2) (by omega)
  obtain ⟨_, _, DT⟩ := (ok_take X).mono (k := d + 2) (by omega)
  refine ⟨_, fd, X.glo _ (X.fact 22 (f := .glo "_law_truth") rfl), F.kp, F.bindsN fun _ _ _ _ _ _ us hl => match us, hl with | [_, _], _ => rfl, okN F sc_truth (fun vs H Q E h => ?_) (fun cdv A outer s H vs Q E hr h => ?_)⟩
  · obtain ⟨_, _, _, rfl, _⟩ := h
    rfl
  · obtain ⟨j, cs, b, rfl, hj, hb, hQ⟩ := h
    have hb2 := kd_pos d
    obtain ⟨t1, hleaf, leaf⟩ : ∃ t1, PSs (cxOf CX0 P w K mg base nWrd "_law_truth" (defScope s__law_truth) (He.fAd K d__law_truth.at_) cdv A outer s H E).nox (ifBody (stAt s__law_truth 0)) t1 ∧ ∀ (H2 : Hp) (b' : Nat) (nx : L2.St → Hp → Prop), b' ≤ b + 1 → Kp j H H2 → JarAt H2 j cs b' →
        t1 { nx := nx, rt := Q } [some (.ref j), some (.int (d : Int)), none, none, none] H2 := by
      refine ⟨_, pss_one (ps_ret (pe_d DT hr (by rfl) (pa_cons (pv 0) (pa_cons (pe_lst (pa_cons (pe_tup (pa_cons pe_str (pa_cons pe_str pa_nil))) (pa_cons (pe_tup (pa_cons pe_str (pa_cons pe_str pa_nil))) (pa_cons (pe_tup (pa_cons pe_str pa_nil)) pa_nil)))) pa_nil)))), ?_⟩
      intro H2 b' nx hb' k2 hj2
      refine ⟨_, rfl, (by show 2 ≤ sizeLine; decide), fun p1 h1 => ⟨(by show 2 ≤ sizeLine; decide), fun p2 h2 => ⟨(by show 1 ≤ sizeLine; decide), fun p3 h3 => ⟨(by show 3 ≤ sizeLine; decide), fun l hl => ?_⟩⟩⟩⟩
      have s4 := Same.upd hl (o := .lst [.ref p1, .ref p2, .ref p3])
      have s3 := Same.trans (Same.upd h3 (o := .tup [.str "true"])) s4
      have s2 := Same.trans (Same.upd h2 (o := .tup [.str "flag", .str "a"])) s3
      have s1 := Same.trans (Same.upd h1 (o := .tup [.str "flag", .str "p"])) s2
      have e1 := s2 p1 _ upd_same
      have e2 := s3 p2 _ upd_same
      have e3 := s4 p3 _ upd_same
      have lj : l ≠ j := ((hj2.same (Same.trans (Same.upd h1) (Same.trans (Same.upd h2) (Same.upd h3)))).ne hl).1
      refine ⟨j, cs, l, _, b', rfl, hj2.same s1, by omega, upd_same, lj, (by show 0 < 3; decide), (by show 3 < 1000000; decide), fun H3 r u k3 hj3 hu => ?_⟩
      have t3 := (hj2.same s1).tups k3
      have fin : ∀ (i : Lf) (p : Addr), i.word = false → upd (upd (upd (upd H2 p1 (.tup [.str "flag", .str "p"])) p2 (.tup [.str "flag", .str "a"])) p3 (.tup [.str "true"])) l (.lst [.ref p1, .ref p2, .ref p3]) p = some (.tup (.str i.str :: i.rest.map kV)) → Q (.ref p) H3 := fun i p hw e => by
        refine hQ H3 (.lf i) (.ref p) ((k2.trans (Kp.same s1)).trans k3) (hj3.mono (by omega)) ⟨p, rfl, t3 _ _ e⟩ trivial hw ?_ ?_
        · show 1 ≤ d + 1; omega
        · have := zd_pos d; show 1 ≤ zd d; omega
      have hm := List.mem_of_getElem? hu
      simp only [List.mem_cons, List.not_mem_nil, or_false] at hm
      rcases hm with rfl | rfl | rfl
      · exact fin .fp p1 rfl e1
      · exact fin .fa p2 rfl e2
      · exact fin .tr p3 rfl e3
    obtain ⟨t2, hrest, run⟩ : ∃ t2, PSs (cxOf CX0 P w K mg base nWrd "_law_truth" (defScope s__law_truth) (He.fAd K d__law_truth.at_) cdv A outer s H E).nox ((defBody s__law_truth).drop 1) t2 ∧ ∀ (m : Nat) (H2 : Hp), d = m + 1 → Kp j H H2 → JarAt H2 j cs (b + 1) →
        t2 { nx := fun _ H' => Q .non H', rt := Q } [some (.ref j), some (.int (d : Int)), none, none, none] H2 := by
      rcases rec with e | ⟨m, rfl, ⟨_, _, DW⟩, ⟨_, _, DU⟩⟩
      · exact ⟨_, pss_never, fun m H2 h => absurd (e.symm.trans h) (by omega)⟩
      · have hr' : Room (m + 3) (A.deeper (envOfC "_law_truth" (defScope s__law_truth) s.heap.objs.size (He.fAd K d__law_truth.at_) cdv)) := hr
        have hu := hu_of hr
        refine ⟨_, pss_cons (ps_set (i := 2) sc_truth.nd rfl (Or.inl rfl) (pe_d DT hr (by rfl) (pa_cons (pv 0) (pa_cons (pe_lst (pa_cons pe_str (pa_cons pe_str (pa_cons pe_str (pa_cons pe_str pa_nil))))) pa_nil))))
          (pss_cons (ps_if (pt_cmpR op_eq (pv 2) pe_str (nomark _))
            (pss_one (ps_ret (pe_tup (pa_cons (pv 2) (pa_cons (pe_d DW hr' (by rfl) (pa_cons (pv 0) (pa_cons (pe_op op_sub (pv 1) pe_int) pa_nil))) (pa_cons (pe_d DW hr' (by rfl) (pa_cons (pv 0) (pa_cons (pe_op op_sub (pv 1) pe_int) pa_nil))) pa_nil)))))) pss_nil)
          (pss_cons (ps_setLc (i := 3) (own := [("_law_turn", 4)]) (g := gName 4) (tt := tYes) rfl sc_truth.nd rfl rfl (by rfl) (pi_range1 (by rfl) X.b_range (pa_cons (pe_op op_add pe_int (pe_callTy call_int1 (by rfl) X.b_int (by decide +kernel) (pa_cons (pe_cmpR op_eq (pv 2) pe_str (nomark _)) pa_nil))) pa_nil))
            (blkOk_by (own := [("_law_turn", 4)]) (N := nWrd) (sc := defScope s__law_truth) (by decide +kernel)) (fun _ _ _ _ _ => pg_name (i := 4) sc_truth.nd rfl (Or.inl rfl)) (fun _ _ _ _ _ => pts_nil)
            (fun _ _ _ _ _ => pe_d DU hr' (by rfl) (pa_cons (pv 0) (pa_cons (pe_op op_sub (pv 1) pe_int) pa_nil))))
          (pss_one (ps_ret (pe_op op_catT (pe_tup (pa_cons (pv 2) pa_nil)) (pe_callTy call_tuple_of (by rfl) X.b_tuple (by decide +kernel) (pa_cons (pv 3) pa_nil))))))), ?_⟩
        intro m' H2 hm k2 hj2
        obtain rfl : m = m' := by omega
        have ekd : kd (m + 1) = 2 + 3 * kd m := rfl
        have ezd : zd (m + 1) = 1 + 3 * zd m := rfl
        have ed : (((m + 1 : Nat) : Int) - 1) = (m : Int) := by omega
        have eargs : [V.ref j, V.int (((m + 1 : Nat) : Int) - 1)] = [V.ref j, V.int (m : Int)] := by rw [ed]
        refine ⟨_, rfl, (by show 4 ≤ sizeLine; decide), fun l hl => ?_⟩
        have lj : l ≠ j := (hj2.ne hl).1
        refine ⟨j, cs, l, _, b + 1, rfl, hj2.same (Same.upd hl), by omega, upd_same, lj, (by show 0 < 4; decide), (by show 4 < 1000000; decide), fun H4 r u k3 hj3 hu => ?_⟩
        have k4 : Kp j H H4 := (k2.trans (Kp.same (Same.upd hl))).trans k3
        have hj4 : JarAt H4 j cs (b + 1 + 1) := hj3
        have hlab : ∃ lab : Lab, u = .str lab.str ∧ (lab = .equ ∨ lab = .no ∨ lab = .both) := by
          have hm := List.mem_of_getElem? hu
          simp only [List.mem_cons, List.not_mem_nil, or_false] at hm
          rcases hm with rfl | rfl | rfl | rfl
          · exact ⟨.equ, rfl, by simp⟩
          · exact ⟨.equ, rfl, by simp⟩
          · exact ⟨.no, rfl, by simp⟩
          · exact ⟨.both, rfl, by simp⟩
        obtain ⟨lab, rfl, hlab⟩ := hlab
        have hwd : lab.word = false := by rcases hlab with rfl | rfl | rfl <;> rfl
        have fin : ∀ (H' : Hp) (ts : List T) (us : List V) (q : Addr), Kp j H H' → JarAt H' j cs (b + 2 + 3 * kd m) → H' q = some (.tup (.str lab.str :: us)) → Paired (TmAt H') ts us → lab.args = ts.map T.word → (∀ t ∈ ts, t.ok ∧ t.depth ≤ m + 1 ∧ t.size ≤ zd m) → Q (.ref q) H' := fun H' ts us q k hj' e pr ea hk => by
          have h0 : ts ≠ [] := fun z => by
            rw [z] at ea
            cases lab <;> cases ea
          obtain ⟨t, t1, t2, t3, t4, t5, t6⟩ := mk_term lab ts (m + 1) (zd m) h0 ea hk
          exact hQ H' t (.ref q) k (by rw [ekd]; exact hj'.mono (by omega)) (TmAt.mk t1 e (by rw [t2]; exact pr)) t3 (t4.trans hwd) t5 (by rw [ezd]; exact t6)
        refine ⟨_, rfl, rfl, _, rfl, ?_⟩
        by_cases hco : lab = .equ
        · subst hco
          refine iteT ⟨_, rfl, _, rfl, _, rfl, _, _, rfl, rfl, j, cs, b + 1 + 1, eargs, hj4, by omega, fun H5 t v k5 hj5 tm ok wd dp sz => ?_⟩
          refine ⟨_, rfl, _, rfl, _, _, rfl, rfl, j, cs, b + 1 + 1 + kd m, eargs, hj5, by omega, fun H6 t' v' k6 hj6 tm' ok' wd' dp' sz' => ⟨(by show 3 ≤ sizeLine; decide), fun q hq => ?_⟩⟩
          have sq : Same H6 (upd H6 q (.tup [.str Lab.equ.str, v, v'])) := Same.upd hq
          refine fin _ [t, t'] [v, v'] q (((k4.trans k5).trans k6).trans (Kp.same sq)) ((hj6.same sq).mono (by omega)) upd_same
            (.cons ((tm.keep (hj5.tups k6)).keep (.of sq)) (.cons (tm'.keep (.of sq)) .nil)) ?_ ?_
          · simp only [List.map_cons, List.map_nil, wd, wd']; rfl
          · intro x hx
            simp only [List.mem_cons, List.not_mem_nil, or_false] at hx
            rcases hx with rfl | rfl
            · exact ⟨ok, dp, sz⟩
            · exact ⟨ok', dp', sz'⟩
        · rw [show decide (V.str lab.str = V.str "eq") = false by
            rcases hlab with rfl | rfl | rfl <;> first | decide +kernel | exact absurd rfl hco]
          obtain ⟨n, hn, ln, lm⟩ : ∃ n : Nat, (1 : Int) + (if decide (V.str lab.str = V.str "both") = true then 1 else 0) = (n : Int) ∧ lab.args = List.replicate n false ∧ n ≤ 3 := by
            rcases hlab with rfl | rfl | rfl
            · exact absurd rfl hco
            · exact ⟨1, by decide +kernel, rfl, by decide⟩
            · exact ⟨2, by decide +kernel, rfl, by decide⟩
          refine iteF ⟨_, rfl, rfl, .inr ⟨_, rfl, _, _, rfl, rfl, _, rfl, ?_⟩⟩
          rw [hn]
          refine ⟨by omega, by omega, fun D hD => lc_range (lo := 0) (n := n) (fun i H' => ∃ ts us, ts.length = i ∧ Kp j H H' ∧ JarAt H' j cs (b + 2 + i * kd m) ∧ H' D = some (.lst us) ∧ Paired (TmAt H') ts us ∧ ts.map T.word = List.replicate i false ∧ ∀ t ∈ ts, t.ok ∧ t.depth ≤ m + 1 ∧ t.size ≤ zd m)
            ⟨[], [], rfl, k4.trans (Kp.same (Same.upd hD)), (hj4.same (Same.upd hD)).mono (by omega), upd_same, .nil, rfl, fun t ht => by cases ht⟩ ?_ ?_⟩
          · rintro i H5 hi ⟨ts, us, hl, k5, hj5, hD5, pr, wds, hk⟩
            have Dj : D ≠ j := (hj4.ne hD).1
            have Dcs : D ≠ cs := (hj4.ne hD).2
            have hik : (i + 1) * kd m ≤ 3 * kd m := Nat.mul_le_mul_right _ (by omega)
            rw [Nat.add_mul, Nat.one_mul] at hik
            refine ⟨rfl, _, rfl, _, rfl, _, _, rfl, rfl, j, cs, b + 2 + i * kd m, eargs, hj5, by omega, fun H6 t v k6 hj6 tm ok wd dp sz => ?_⟩
            have hD6 := k6 _ _ Dj hD5
            have lu := Paired.len pr
            have tu : Tups H6 (upd H6 D (.lst (us ++ [v]))) := Tups.upd fun zs e => by rw [hD6] at e; cases e
            refine ⟨us, hD6, size6 (by omega), ts ++ [t], us ++ [v], by rw [List.length_append, hl]; rfl, fun a u h1 e => ?_, ?_, upd_same, ?_, ?_, ?_⟩
            · by_cases z : a = D
              · subst z
                have := k4 _ _ h1 e
                rw [hD] at this
                cases this
              · rw [upd_ne z]; exact k6 _ _ h1 (k5 _ _ h1 e)
            · rw [Nat.add_mul, Nat.one_mul, ← Nat.add_assoc]
              exact hj6.keep fun a u z e => by rw [upd_ne (z.elim (fun y => by rw [y]; exact Dj.symm) (fun y => by rw [y]; exact Dcs.symm))]; exact e
            · exact Paired.snoc (tm.keep tu) (Paired.imp (fun _ _ z => (z.keep (hj5.tups k6)).keep tu) pr)
            · rw [List.map_append, wds, List.map_cons, List.map_nil, wd, List.replicate_succ']
            · intro x hx
              rcases List.mem_append.mp hx with hx | hx
              · exact hk x hx
              · rw [List.mem_singleton.mp hx]; exact ⟨ok, dp, sz⟩
          · rintro H5 ⟨ts, us, hl, k5, hj5, hD5, pr, wds, hk⟩
            have hnk : n * kd m ≤ 3 * kd m := Nat.mul_le_mul_right _ lm
            refine ⟨_, rfl, (by show 1 ≤ sizeLine; decide), fun q hq => ⟨_, rfl, D, us, rfl, .inl ⟨SqL.of (Same.upd hq _ _ hD5), fun r hr2 => ?_⟩⟩⟩
            have sq : Same H5 (upd (upd H5 q (.tup [.str lab.str])) r (.tup us)) := Same.trans (Same.upd hq) (Same.upd hr2)
            have lu := Paired.len pr
            have une : us ≠ [] := fun z => by
              rw [z] at lu
              rw [List.length_nil] at lu
              rw [hl] at lu
              subst lu
              cases lab <;> cases ln
            refine ⟨q, r, [.str lab.str], us, rfl, rfl, SqT.of (Same.upd hr2 _ _ upd_same), SqT.of upd_same, (fun z => by cases z), ?_, fun z => absurd z une, fun _ z hz => ?_⟩
            · show 1 + us.length ≤ sizeLine
              exact Nat.le_of_lt (size6 (by omega))
            · have sz : Same H5 (upd (upd (upd H5 q (.tup [.str lab.str])) r (.tup us)) z (.tup ([.str lab.str] ++ us))) := Same.trans sq (Same.upd hz)
              exact fin _ ts us z (k5.trans (Kp.same sz)) ((hj5.same sz).mono (by omega)) upd_same (Paired.imp (fun _ _ y => y.keep (.of sz)) pr) (by rw [wds, ln]) hk
    refine ⟨_, pss_cons (ps_if (PW.pt (pw_or (pt_cmpR op_eq (pv 1) pe_int (nomark _)) (pw_or1 (pt_cmpR op_eq (pe_d DL hr (by rfl) (pa_cons (pv 0) (pa_cons pe_int pa_nil))) pe_int (nomark _))))) hleaf pss_nil) hrest, ?_⟩
    refine ⟨_, rfl, rfl, _, rfl, ?_⟩
    by_cases d0 : d = 0
    · rw [decide_eq_true (show V.int (d : Int) = V.int 0 by rw [d0]; rfl)]
      exact iteT (iteT (leaf H b _ (by omega) (fun _ _ _ e => e) hj))
    · rw [decide_eq_false (show ¬ V.int (d : Int) = V.int 0 from fun z => d0 (by have := V.int.inj z; omega))]
      refine iteF ⟨_, rfl, j, cs, 4, b, rfl, hj, by omega, by decide, by decide, fun H' r k hj' hr' => ⟨rfl, _, rfl, ?_⟩⟩
      refine ite2 (fun _ => leaf H' (b + 1) _ (by omega) k hj') (fun _ => ?_)
      obtain ⟨m, rfl⟩ : ∃ m, d = m + 1 := ⟨d - 1, by omega⟩
      exact run m H' rfl k hj'
theorem ok_wt (X : Fx P w K mg base) : ∀ d : Nat, OkD P w K mg base "_law_word" ["_law_jar_here", "_law_deep"] (d + 3) (sp_word true d) ∧ OkD P w K mg base "_law_truth" ["_law_jar_here", "_law_deep"] (d + 3) (sp_word false d)
  | 0 => ⟨ok_word X 0 (.inl rfl), ok_truth X 0 (.inl rfl)⟩
  | d + 1 => ⟨ok_word X (d + 1) (.inr ⟨d, rfl, ok_wt X d⟩), ok_truth X (d + 1) (.inr ⟨d, rfl, ok_wt X d⟩)⟩
/-! _law_term -/
def sp_term (D : Nat) : Sp := fun vs H Q _ => ∃ (j cs : Addr) (b k d : Nat), vs = [.ref j, .int (d : Int), .int (k : Int)] ∧ d ≤ D ∧ JarAt H j cs b ∧ b + kd d ≤ 5000 ∧ ∀ H' t v, Kp j H H' → JarAt H' j cs (b + kd d) → TmAt H' t v → t.ok → t.word = (!decide (k = 0)) → t.depth ≤ d + 1 → t.size ≤ zd d → Q v H'
theorem sc_term : FnScope ["_law_jar_here", "_law_deep", "_law_kind"] ["_law_jar_here", "_law_deep", "_law_kind"] (defScope s__law_term) := ⟨rfl, rfl, rfl, by decide +kernel, rfl, by decide +kernel, by decide +kernel⟩
theorem ok_term (X : Fx P w K mg base) (D : Nat) : OkD P w K mg base "_law_term" ["_law_jar_here", "_law_deep", "_law_kind"] (D + 4) (sp_term D) := by
  obtain ⟨fd, F⟩ := X.fn 23 (d := d__law_term) rfl
  refine ⟨_, fd, X.glo _ (X.fact 23 (f := .glo "_law_term") rfl), F.kp, F.bindsN fun _ _ _ _ _ _ us hl => match us, hl with | [_, _, _], _ => rfl, okN F sc_term (fun vs H Q E h => ?_) (fun cdv A outer s H vs Q E hr h => ?_)⟩
  · obtain ⟨_, _, _, _, _, rfl, _⟩ := h
    rfl
  · obtain ⟨j, cs, b, k, d, rfl, hdD, hj, hb, hQ⟩ := h
    obtain ⟨_, _, DW⟩ := (ok_wt X d).1.mono (k := D + 3) (by omega)
    obtain ⟨_, _, DU⟩ := (ok_wt X d).2.mono (k := D + 3) (by omega)
    refine ⟨_, pss_one (ps_ret (pe_ifExp (pt_cmpR op_eq (pv 2) pe_int (nomark _)) (pe_d DU hr (by rfl) (pa_cons (pv 0) (pa_cons (pv 1) pa_nil))) (pe_d DW hr (by rfl) (pa_cons (pv 0) (pa_cons (pv 1) pa_nil))))), ?_⟩
    refine ⟨_, rfl, rfl, _, rfl, ?_⟩
    by_cases k0 : k = 0
    · rw [decide_eq_true (show V.int (k : Int) = V.int 0 by rw [k0]; rfl)]
      exact iteT ⟨_, rfl, _, rfl, j, cs, b, rfl, hj, hb, fun H' t v k1 hj1 tm ok wd dp sz => hQ H' t v k1 hj1 tm ok (by rw [wd, k0]; rfl) dp sz⟩
    · rw [decide_eq_false (show ¬ V.int (k : Int) = V.int 0 from fun z => k0 (by have := V.int.inj z; omega))]
      exact iteF ⟨_, rfl, _, rfl, j, cs, b, rfl, hj, hb, fun H' t v k1 hj1 tm ok wd dp sz => hQ H' t v k1 hj1 tm ok (by rw [wd, decide_eq_false k0]; rfl) dp sz⟩
end K45
/-! part K45P1 -/
set_option autoImplicit true
set_option Elab.async false
set_option linter.all false
set_option maxRecDepth 100000
set_option maxHeartbeats 4000000
/-! The law's own classes, in plain terms. -/
namespace K45
structure BG (S : List T) (R : T → T → Prop) (ws : List (N × Nat)) (made : Nat) (cl : Nat → T) : Prop where
  nd : (ws.map (·.1)).Nodup
  pla : ∀ n i, (n, i) ∈ ws → i < made ∧ (∀ j ∈ n.ids, j < made) ∧ n.ids.length ≤ 3
  cov : ∀ n i, look ws n = some i → ∃ t ∈ S, K45.nd (look ws) t = some n
  snd : Sound R cl (look ws)
  cnt : ws.length ≤ made
theorem BG.start (S : List T) (R : T → T → Prop) (cl : Nat → T) : BG S R [] 0 cl :=
  ⟨by simp, fun n i h => (by cases h), fun n i h => (by cases h), fun n i h => (by cases h), Nat.le_refl _⟩
theorem BG.lay {S : List T} {R : T → T → Prop} {ws : List (N × Nat)} {made : Nat} {cl : Nat → T} (h : BG S R ws made cl) {n : N} {t : T} (hn : K45.nd (look ws) t = some n) (hl : look ws n = none) (ht : t ∈ S) :
    BG S R (ws ++ [(n, made)]) (made + 1) (ov cl made t) ∧ Le id (look ws) (look (ws ++ [(n, made)])) ∧ find (look (ws ++ [(n, made)])) t = some made := by
  have idl : ∀ j ∈ n.ids, j < made := fun j hj => by
    obtain ⟨x, _, e⟩ := map_some_mem' (nd_iff.mp hn).2 j hj
    obtain ⟨m, _, e2⟩ := find_some e
    exact (h.pla m j (look_mem e2)).1
  have nn : ∀ {m i}, (m, i) ∈ ws → m ≠ n := fun hm e => by
    have := look_of h.nd hm
    rw [e, hl] at this
    cases this
  have le : Le id (look ws) (look (ws ++ [(n, made)])) := ⟨fun m i e => by
    rw [N.map_id, look_app hl, if_neg (nn (look_mem e))]
    exact e⟩
  have hnd : K45.nd (look (ws ++ [(n, made)])) t = some n := by
    have := le.nd hn
    rwa [N.map_id] at this
  have mem : ∀ {m i}, (m, i) ∈ ws ++ [(n, made)] ↔ (m, i) ∈ ws ∨ (m = n ∧ i = made) := by
    intro m i
    rw [List.mem_append, List.mem_singleton, Prod.mk.injEq]
  refine ⟨⟨?_, ?_, ?_, ?_, ?_⟩, le, find_of hnd (by rw [look_app hl, if_pos rfl])⟩
  · rw [List.map_append]
    refine List.nodup_append.mpr ⟨h.nd, by simp, fun a ha b hb => ?_⟩
    rw [List.map_cons, List.map_nil, List.mem_singleton] at hb
    obtain ⟨x, hx, rfl⟩ := List.mem_map.mp ha
    rw [hb]
    exact nn hx
  · intro m i hm
    rcases mem.mp hm with hm | ⟨rfl, rfl⟩
    · obtain ⟨a, b, c⟩ := h.pla m i hm
      exact ⟨Nat.lt_succ_of_lt a, fun j hj => Nat.lt_succ_of_lt (b j hj), c⟩
    · exact ⟨Nat.lt_succ_self _, fun j hj => Nat.lt_succ_of_lt (idl j hj), nd_len hn⟩
  · intro m i hm
    rw [look_app hl] at hm
    by_cases e : m = n
    · exact ⟨t, ht, by rw [e]; exact hnd⟩
    · rw [if_neg e] at hm
      obtain ⟨u, hu, eu⟩ := h.cov m i hm
      have := le.nd eu
      rw [N.map_id] at this
      exact ⟨u, hu, this⟩
  · intro m i hm
    have lt : ∀ {c}, c < made → c ≠ made := fun hc e => by omega
    have old : ∀ (m : N), (∀ j ∈ m.ids, j < made) → app (ov cl made t) m = app cl m := fun m hm => app_congr fun j hj => ov_ne (lt (hm j hj))
    rw [look_app hl] at hm
    by_cases e : m = n
    · rw [if_pos e] at hm
      cases hm
      subst e
      rw [ov_same, old m idl]
      exact .symm (app_nd hn fun x hx j hj => h.snd.find x j hj)
    · rw [if_neg e] at hm
      obtain ⟨a, b, _⟩ := h.pla m i (look_mem hm)
      rw [ov_ne (lt a), old m b]
      exact h.snd m i hm
  · rw [List.length_append]
    have := h.cnt
    simp
    omega
/-! a join -/
def lrow (low high : Nat) (p : N × Nat) : N × Nat := (p.1.map (sg low high), sg low high p.2)
structure LI (ws : List (N × Nat)) (low high : Nat) (P0 : List (Nat × Nat)) (k : Nat) (rows : List (N × Nat)) (left : List (Nat × Nat)) : Prop where
  nd : (rows.map (·.1)).Nodup
  im : ∀ p ∈ ws.take k, ∃ j', ((lrow low high p).1, j') ∈ rows ∧ (j' = (lrow low high p).2 ∨ (j', (lrow low high p).2) ∈ left)
  of : ∀ q ∈ rows, ∃ p ∈ ws, q = lrow low high p
  pre : ∀ q ∈ P0, q ∈ left
  new : ∀ q ∈ left, q ∈ P0 ∨ ∃ p1 ∈ ws, ∃ p2 ∈ ws, (lrow low high p1).1 = (lrow low high p2).1 ∧ q = ((lrow low high p1).2, (lrow low high p2).2)
  len : rows.length ≤ k
  lln : left.length ≤ P0.length + k
section
variable {ws rows : List (N × Nat)} {low high k : Nat} {P0 left : List (Nat × Nat)}
theorem LI.start : LI ws low high P0 0 [] P0 := ⟨by simp, fun p hp => (by simp at hp), fun q hq => (by cases hq), fun _ h => h, fun _ h => .inl h, Nat.le_refl _, Nat.le_refl _⟩
theorem LI.add (h : LI ws low high P0 k rows left) {p : N × Nat} (hp : ws[k]? = some p) (hl : look rows (lrow low high p).1 = none) : LI ws low high P0 (k + 1) (rows ++ [lrow low high p]) left where
  nd := by
    rw [List.map_append]
    refine List.nodup_append.mpr ⟨h.nd, by simp, fun a ha b hb e => ?_⟩
    rw [List.map_cons, List.map_nil, List.mem_singleton] at hb
    exact look_none.mp hl (by rw [← hb, ← e]; exact ha)
  im := fun q hq => by
    rw [take_snoc hp] at hq
    rcases List.mem_append.mp hq with hq | hq
    · obtain ⟨j', a, b⟩ := h.im q hq
      exact ⟨j', List.mem_append_left _ a, b⟩
    · rw [List.mem_singleton.mp hq]
      exact ⟨_, List.mem_append_right _ List.mem_cons_self, .inl rfl⟩
  of := fun q hq => by
    rcases List.mem_append.mp hq with hq | hq
    · exact h.of q hq
    · exact ⟨p, List.mem_of_getElem? hp, List.mem_singleton.mp hq⟩
  pre := h.pre
  new := h.new
  len := by rw [List.length_append]; have := h.len; simp; omega
  lln := by have := h.lln; omega
theorem LI.got (h : LI ws low high P0 k rows left) {p : N × Nat} (hp : ws[k]? = some p) (hl : look rows (lrow low high p).1 = some (lrow low high p).2) : LI ws low high P0 (k + 1) rows left where
  nd := h.nd
  im := fun q hq => by
    rw [take_snoc hp] at hq
    rcases List.mem_append.mp hq with hq | hq
    · exact h.im q hq
    · rw [List.mem_singleton.mp hq]
      exact ⟨_, look_mem hl, .inl rfl⟩
  of := h.of
  pre := h.pre
  new := h.new
  len := Nat.le_succ_of_le h.len
  lln := by have := h.lln; omega
theorem LI.clash (h : LI ws low high P0 k rows left) {p : N × Nat} {c : Nat} (hp : ws[k]? = some p) (hl : look rows (lrow low high p).1 = some c) : LI ws low high P0 (k + 1) rows (left ++ [(c, (lrow low high p).2)]) where
  nd := h.nd
  im := fun q hq => by
    rw [take_snoc hp] at hq
    rcases List.mem_append.mp hq with hq | hq
    · obtain ⟨j', a, b⟩ := h.im q hq
      exact ⟨j', a, b.imp (fun z => z) (List.mem_append_left _)⟩
    · rw [List.mem_singleton.mp hq]
      exact ⟨c, look_mem hl, .inr (List.mem_append_right _ List.mem_cons_self)⟩
  of := h.of
  pre := fun q hq => List.mem_append_left _ (h.pre q hq)
  new := fun q hq => by
    rcases List.mem_append.mp hq with hq | hq
    · exact h.new q hq
    · obtain ⟨p1, h1, e⟩ := h.of _ (look_mem hl)
      obtain ⟨e1, e2⟩ := Prod.mk.inj e
      exact .inr ⟨p1, h1, p, List.mem_of_getElem? hp, e1.symm, by rw [List.mem_singleton.mp hq, e2]; rfl⟩
  len := Nat.le_succ_of_le h.len
  lln := by rw [List.length_append]; have := h.lln; simp; omega
theorem LI.run {R : T → T → Prop} {cl : Nat → T} {W0 : Tab} {ρ : Nat → Nat} {left0 : List (Nat × Nat)} {x y a b : Nat} (n0 : (ws.map (·.1)).Nodup) (h : LI ws low high (left0.map (pm (sg low high))) ws.length rows left) (hlh : low ≠ high)
    (r : Run R cl W0 (look ws) ρ (left0 ++ [(x, y)]) a b) (hx : (x, y) = (low, high) ∨ (x, y) = (high, low)) : Run R cl W0 (look rows) (sg low high ∘ ρ) left a b := by
  have tk : ∀ {p}, p ∈ ws → p ∈ ws.take ws.length := fun hp => by rw [List.take_length]; exact hp
  refine Run.step r ⟨(x, y), by simp, hx⟩ (fun n j e => ?_) (fun n' j' e => ?_) (fun p hp => ?_) fun q hq => ?_
  · obtain ⟨j', a1, a2⟩ := h.im (n, j) (tk (look_mem e))
    refine ⟨j', look_of h.nd a1, fun f hf => ?_⟩
    rcases a2 with a2 | a2
    · rw [a2]; rfl
    · exact hf _ a2
  · obtain ⟨⟨n, j⟩, hp, e2⟩ := h.of _ (look_mem e)
    obtain ⟨e3, e4⟩ := Prod.mk.inj e2
    exact ⟨n, j, look_of n0 hp, e3, e4⟩
  · rcases List.mem_append.mp hp with hp | hp
    · exact .inl (h.pre _ (List.mem_map.mpr ⟨p, hp, rfl⟩))
    · right
      rw [List.mem_singleton.mp hp]
      rcases hx with e | e
      · rw [e, sg_high, sg_ne hlh]
      · rw [e, sg_high, sg_ne hlh]
  · rcases h.new q hq with hq | ⟨p1, h1, p2, h2, e1, e2⟩
    · obtain ⟨p, hp, rfl⟩ := List.mem_map.mp hq
      exact .inl ⟨p, List.mem_append_left _ hp, rfl⟩
    · exact .inr ⟨p1.1, p1.2, p2.1, p2.2, look_of n0 h1, look_of n0 h2, e1, e2⟩
end
structure LW (R : T → T → Prop) (made : Nat) (ws0 : List (N × Nat)) (cl : Nat → T) (a b : Nat) (ws : List (N × Nat)) (ρ : Nat → Nat) (left : List (Nat × Nat)) (L : List Nat) : Prop where
  nd : (ws.map (·.1)).Nodup
  run : Run R cl (look ws0) (look ws) ρ left a b
  pla : ∀ n i, (n, i) ∈ ws → i ∈ L ∧ (∀ j ∈ n.ids, j ∈ L) ∧ n.ids.length ≤ 3
  lf : ∀ p ∈ left, p.1 ∈ L ∧ p.2 ∈ L
  lnd : L.Nodup
  lb : ∀ c ∈ L, c < made
  wsl : ws.length ≤ ws0.length
  ms : left.length + L.length * (ws0.length + 1) ≤ made * (ws0.length + 1) + 1
section
variable {S : List T} {R : T → T → Prop} {made : Nat} {ws0 ws rows : List (N × Nat)} {cl : Nat → T} {a b : Nat} {ρ : Nat → Nat} {left left0 : List (Nat × Nat)} {L : List Nat}
theorem LW.start (h : BG S R ws0 made cl) (ha : a < made) (hb : b < made) (hab : Eqv R (cl a) (cl b)) : LW R made ws0 cl a b ws0 id [(a, b)] (List.range made) where
  nd := h.nd
  run := Run.start h.snd hab
  pla := fun n i hn => by
    obtain ⟨x, y, z⟩ := h.pla n i hn
    exact ⟨List.mem_range.mpr x, fun j hj => List.mem_range.mpr (y j hj), z⟩
  lf := fun p hp => by rw [List.mem_singleton.mp hp]; exact ⟨List.mem_range.mpr ha, List.mem_range.mpr hb⟩
  lnd := List.nodup_range
  lb := fun c hc => List.mem_range.mp hc
  wsl := Nat.le_refl _
  ms := by rw [List.length_range]; simp; omega
theorem LW.skip {x y : Nat} (h : LW R made ws0 cl a b ws ρ (left0 ++ [(x, y)]) L) (e : x = y) : LW R made ws0 cl a b ws ρ left0 L :=
  { h with
    run := h.run.skip (fun p hp => (List.mem_append.mp hp).imp (fun z => z) fun z => by rw [List.mem_singleton.mp z]; exact e) fun p hp => List.mem_append_left _ hp
    lf := fun p hp => h.lf p (List.mem_append_left _ hp)
    ms := by have := h.ms; rw [List.length_append] at this; simp at this; omega }
theorem LW.step {x y low high : Nat} (h : LW R made ws0 cl a b ws ρ (left0 ++ [(x, y)]) L) (hlh : low ≠ high) (hx : (x, y) = (low, high) ∨ (x, y) = (high, low)) (li : LI ws low high (left0.map (pm (sg low high))) ws.length rows left) :
    LW R made ws0 cl a b rows (sg low high ∘ ρ) left (out high L) ∧ (out high L).length * (ws0.length + 1) + left.length < L.length * (ws0.length + 1) + (left0 ++ [(x, y)]).length := by
  have xy := h.lf (x, y) (by simp)
  have hl : low ∈ L := by
    rcases hx with e | e
    · rw [← (Prod.mk.inj e).1]; exact xy.1
    · rw [← (Prod.mk.inj e).2]; exact xy.2
  have hh : high ∈ L := by
    rcases hx with e | e
    · rw [← (Prod.mk.inj e).2]; exact xy.2
    · rw [← (Prod.mk.inj e).1]; exact xy.1
  have sgl : ∀ c ∈ L, sg low high c ∈ out high L := fun c hc => by
    by_cases e : c = high
    · rw [e, sg_high]; exact mem_out.mpr ⟨hl, hlh⟩
    · rw [sg_ne e]; exact mem_out.mpr ⟨hc, e⟩
  have ol := out_len h.lnd hh
  have e1 : L.length * (ws0.length + 1) = (out high L).length * (ws0.length + 1) + (ws0.length + 1) := by
    rw [← ol, Nat.add_mul, Nat.one_mul]
  have lln := li.lln
  rw [List.length_map] at lln
  have wsl := h.wsl
  have ms := h.ms
  rw [List.length_append, List.length_singleton] at ms ⊢
  refine ⟨⟨li.nd, li.run h.nd hlh h.run hx, fun n i hn => ?_, fun p hp => ?_, h.lnd.filter _, fun c hc => h.lb c (mem_out.mp hc).1, Nat.le_trans li.len wsl, by omega⟩, by omega⟩
  · obtain ⟨⟨m, j⟩, hp, e⟩ := li.of _ hn
    obtain ⟨rfl, rfl⟩ := Prod.mk.inj e
    obtain ⟨p1, p2, p3⟩ := h.pla m j hp
    refine ⟨sgl _ p1, fun i hi => ?_, by rw [N.map_ids, List.length_map]; exact p3⟩
    rw [N.map_ids] at hi
    obtain ⟨z, hz, rfl⟩ := List.mem_map.mp hi
    exact sgl z (p2 z hz)
  · rcases li.new p hp with hp | ⟨p1, h1, p2, h2, _, rfl⟩
    · obtain ⟨q, hq, rfl⟩ := List.mem_map.mp hp
      have := h.lf q (List.mem_append_left _ hq)
      exact ⟨sgl _ this.1, sgl _ this.2⟩
    · exact ⟨sgl _ (h.pla p1.1 p1.2 h1).1, sgl _ (h.pla p2.1 p2.2 h2).1⟩
theorem LW.done (h0 : BG S R ws0 made cl) (h : LW R made ws0 cl a b ws ρ [] L) : BG S R ws made cl ∧ Le ρ (look ws0) (look ws) ∧ ρ a = ρ b := by
  have le := h.run.le
  refine ⟨⟨h.nd, fun n i hn => ?_, fun n i hn => ?_, h.run.sndW, Nat.le_trans h.wsl h0.cnt⟩, le, h.run.eq⟩
  · obtain ⟨x, y, z⟩ := h.pla n i hn
    exact ⟨h.lb _ x, fun j hj => h.lb _ (y j hj), z⟩
  · obtain ⟨m, j, h1, h2⟩ := h.run.of n i hn
    obtain ⟨t, ht, e⟩ := h0.cov m j h1
    exact ⟨t, ht, by rw [h2]; exact le.nd e⟩
end
end K45
/-! part K45Q1 -/
set_option autoImplicit true
set_option Elab.async false
set_option linter.all false
set_option maxRecDepth 100000
set_option maxHeartbeats 4000000
/-! The law's own classes in the heap; walk: _law_put. -/
namespace K45
open PySem PySem.Spec PyProof.Rows L2
variable {P : Program} {w : World} {K : PySem.W.Frag} {mg : Str → Option Value} {base : Heap}
/-- a row of the law's own classes -/
def RowAt (H : Hp) (p : N × Nat) (v : V) : Prop := ∃ r a, v = .ref r ∧ H r = some (.lst [.ref a, .int (p.2 : Int)]) ∧ H a = some (.tup (p.1.key.map kV))
structure BxAt (H : Hp) (bx rw : Addr) (ws : List (N × Nat)) (made : Nat) : Prop where
  bx : H bx = some (.lst [.int (made : Int), .ref rw])
  rs : ∃ rs, H rw = some (.lst rs) ∧ Paired (RowAt H) ws rs
/-- what is neither the box nor its rows stays -/
def KB (bx rw : Addr) (H H' : Hp) : Prop := ∀ b u, b ≠ bx → b ≠ rw → H b = some u → H' b = some u
section
variable {bx rw : Addr} {H H' H1 : Hp} {ws : List (N × Nat)} {made : Nat} {p : N × Nat} {v : V}
theorem KB.refl : KB bx rw H H := fun _ _ _ _ e => e
theorem KB.same (h : Same H H') : KB bx rw H H' := fun b u _ _ e => h b u e
theorem KB.trans (a : KB bx rw H H1) (b : KB bx rw H1 H') : KB bx rw H H' := fun c u h1 h2 e => b c u h1 h2 (a c u h1 h2 e)
theorem RowAt.keep (h : RowAt H p v) (k : ∀ a u, H a = some u → (∃ xs, u = .tup xs) ∨ (∃ b i, u = .lst [.ref b, .int i]) → H' a = some u) : RowAt H' p v := by
  obtain ⟨r, a, e, h1, h2⟩ := h
  exact ⟨r, a, e, k _ _ h1 (.inr ⟨_, _, rfl⟩), k _ _ h2 (.inl ⟨_, rfl⟩)⟩
theorem RowAt.same (h : RowAt H p v) (s : Same H H') : RowAt H' p v := h.keep fun a u e _ => s a u e
theorem BxAt.same (h : BxAt H bx rw ws made) (s : Same H H') : BxAt H' bx rw ws made := by
  obtain ⟨rs, h1, h2⟩ := h.rs
  exact ⟨s _ _ h.bx, rs, s _ _ h1, Paired.imp (fun _ _ z => z.same s) h2⟩
/-- rows are no row -/
theorem rows_no {rs : List V} (h : Paired (RowAt H) ws rs) (x : V) (i : Int) : rs ≠ [x, .int i] := fun e => by
  subst e
  cases h with
  | cons _ t => cases t with
    | cons r _ =>
      obtain ⟨_, _, z, _⟩ := r
      cases z
theorem BxAt.ne (h : BxAt H bx rw ws made) : bx ≠ rw := fun e => by
  obtain ⟨rs, h1, h2⟩ := h.rs
  rw [← e, h.bx] at h1
  obtain rfl := HO.lst.inj (Option.some.inj h1)
  cases h2 with
  | cons r _ =>
    obtain ⟨_, _, z, _⟩ := r
    cases z
theorem BxAt.tups (h : BxAt H bx rw ws made) (k : KB bx rw H H') : Tups H H' := fun b xs e => k b _ (fun z => by
  rw [z, h.bx] at e; cases e) (fun z => by
  obtain ⟨rs, h1, _⟩ := h.rs
  rw [z, h1] at e; cases e) e
theorem BxAt.grow (h : BxAt H' bx rw ws made) (k : KB bx rw H H') : ∀ b, H' b = none → H b = none := fun b e => by
  obtain ⟨rs, h1, _⟩ := h.rs
  have n1 : b ≠ bx := fun z => by rw [z, h.bx] at e; cases e
  have n2 : b ≠ rw := fun z => by rw [z, h1] at e; cases e
  cases q : H b with
  | none => rfl
  | some u => rw [k b u n1 n2 q] at e; cases e
/-- a new row -/
theorem BxAt.add (h : BxAt H bx rw ws made) {rs : List V} (h1 : H rw = some (.lst rs)) (h2 : Paired (RowAt H) ws rs) (hv : RowAt H p v) : BxAt (upd H rw (.lst (rs ++ [v]))) bx rw (ws ++ [p]) made where
  bx := by rw [upd_ne h.ne]; exact h.bx
  rs := by
    have k : ∀ {q : N × Nat} {u : V}, RowAt H q u → RowAt (upd H rw (.lst (rs ++ [v]))) q u := fun z => z.keep fun a u e s => by
      rw [upd_ne (fun y => ?_)]
      · exact e
      · subst y
        rw [h1] at e
        obtain rfl := Option.some.inj e
        rcases s with ⟨xs, s⟩ | ⟨b, i, s⟩
        · cases s
        · exact rows_no h2 _ _ (HO.lst.inj s)
    exact ⟨_, upd_same, Paired.snoc (k hv) (Paired.imp (fun _ _ z => k z) h2)⟩
/-- the count, the place of the rows -/
theorem BxAt.set (h : BxAt H bx rw ws made) {m : Nat} {rw' : Addr} {ws' : List (N × Nat)} {rs : List V} (hn : rw' ≠ bx) (h1 : H rw' = some (.lst rs)) (h2 : Paired (RowAt H) ws' rs) : BxAt (upd H bx (.lst [.int (m : Int), .ref rw'])) bx rw' ws' m where
  bx := upd_same
  rs := ⟨rs, by rw [upd_ne hn]; exact h1, Paired.imp (fun _ _ z => z.keep fun a u e s => by
    rw [upd_ne (fun y => ?_)]
    · exact e
    · subst y
      rw [h.bx] at e
      obtain rfl := Option.some.inj e
      rcases s with ⟨xs, s⟩ | ⟨b, i, s⟩
      · cases s
      · cases s) h2⟩
end
theorem BxAt.other {bx rw : Addr} {H : Hp} {ws : List (N × Nat)} {made : Nat} (h : BxAt H bx rw ws made) {x : Addr} {o : HO} (n1 : x ≠ bx) (n2 : x ≠ rw) (n3 : ∀ b i, H x ≠ some (.lst [.ref b, .int i])) (n4 : ∀ xs, H x ≠ some (.tup xs)) : BxAt (upd H x o) bx rw ws made where
  bx := by rw [upd_ne n1.symm]; exact h.bx
  rs := by
    obtain ⟨rs, h1, h2⟩ := h.rs
    exact ⟨rs, by rw [upd_ne n2.symm]; exact h1, Paired.imp (fun _ _ z => z.keep fun a u e s => by
      rw [upd_ne (fun y => ?_)]
      · exact e
      · subst y
        rcases s with ⟨xs, rfl⟩ | ⟨b, i, rfl⟩
        · exact n4 _ e
        · exact n3 _ _ e) h2⟩
def sp_lput (n : Nat) : Sp := fun vs H Q _ => ∃ (S : List T) (R : T → T → Prop) (bx rw : Addr) (ws : List (N × Nat)) (made : Nat) (cl : Nat → T) (t : T) (v : V), vs = [.ref bx, v] ∧ BxAt H bx rw ws made ∧ BG S R ws made cl ∧ TmAt H t v ∧ t.depth ≤ n ∧ t.depth ≤ 50 ∧ (∀ u ∈ t.under, u ∈ S) ∧ made + t.size ≤ 2000 ∧
  ∀ H' ws' made' cl' (i : Nat), KB bx rw H H' → BxAt H' bx rw ws' made' → BG S R ws' made' cl' → Le id (look ws) (look ws') → find (look ws') t = some i → made' ≤ made + t.size → Q (.int (i : Int)) H'
abbrev nPut : List Str := ["_law_box", "_law_term_here", "_law_node", "_law_row", "_law_part"]
theorem sc_lput : FnScope nPut ["_law_box", "_law_term_here"] (defScope s__law_put) := ⟨rfl, rfl, rfl, by decide +kernel, rfl, by decide +kernel, by decide +kernel⟩
theorem ok_lput (X : Fx P w K mg base) : ∀ n : Nat, OkD P w K mg base "_law_put" ["_law_box", "_law_term_here"] (n + 2) (sp_lput n) := by
  have step : ∀ (n : Nat) (rec : n = 0 ∨ ∃ m, n = m + 1 ∧ OkD P w K mg base "_law_put" ["_law_box", "_law_term_here"] (n + 1) (sp_lput m)), OkD P w K mg base "_law_put" ["_law_box", "_law_term_here"] (n + 2) (sp_lput n) := by
    intro n rec
    obtain ⟨fd, F⟩ := X.fn 25 (d := d__law_put) rfl
    obtain ⟨_, _, D1⟩ := (ok_lparts X).mono (k := n + 1) (by omega)
    refine ⟨_, fd, X.glo _ (X.fact 25 (f := .glo "_law_put") rfl), F.kp, F.bindsN fun _ _ _ _ _ _ us hl => match us, hl with | [_, _], _ => rfl, okN F sc_lput (fun vs H Q E h => ?_) (fun cdv A outer s H vs Q E hr h => ?_)⟩
    · obtain ⟨_, _, _, _, _, _, _, _, _, rfl, _⟩ := h
      rfl
    · obtain ⟨S, R, bx, rw, ws, made, cl, t, v, rfl, hbx, hg, ht, hd, hd5, hS, hm, hQ⟩ := h
      obtain ⟨m, rfl, f', fd', D⟩ : ∃ m, n = m + 1 ∧ OkD P w K mg base "_law_put" ["_law_box", "_law_term_here"] (n + 1) (sp_lput m) := by
        rcases rec with e | e
        · have := t.depth_pos
          omega
        · exact e
      obtain ⟨a, us, rfl, ha, hp⟩ := TmAt.iff.mp ht
      obtain ⟨t2, hrest, fin⟩ : ∃ t2, PSs (cxOf CX0 P w K mg base nPut "_law_put" (defScope s__law_put) (He.fAd K d__law_put.at_) cdv A outer s H E).nox ((defBody s__law_put).drop 2) t2 ∧
          ∀ (H1 : Hp) (ws1 : List (N × Nat)) (made1 : Nat) (cl1 : Nat → T) (b : Addr) (nn : N) (v4 : Option V), KB bx rw H H1 → BxAt H1 bx rw ws1 made1 → BG S R ws1 made1 cl1 → Le id (look ws) (look ws1) → nd (look ws1) t = some nn → H1 b = some (.tup (nn.key.map kV)) → made1 + 1 ≤ made + t.size →
            t2 { nx := fun _ H' => Q .non H', rt := Q } [some (.ref bx), some (.ref a), some (.ref b), none, v4] H1 := by
        refine ⟨_, pss_cons (ps_for PassesOwn.never rfl (pi_list (pe_ix ix_list (pv 0) pe_int (fun _ _ => rfl))) (pg_name (i := 3) sc_lput.nd rfl (Or.inl rfl))
            (pss_one (ps_if (pt_cmpR (op_eqD hr.units) (pe_ix ix_list (pv 3) pe_int (fun _ _ => rfl)) (pv 2) (nomark _)) (pss_one (ps_ret (pe_ix ix_list (pv 3) pe_int (fun _ _ => rfl)))) pss_nil)))
          (pss_cons (ps_expr (pe_bm PySem.F.plainAttrs_list PySem.F.slot_list_append PySem.F.type_list_append mt_append (pe_ix ix_list (pv 0) pe_int (fun _ _ => rfl)) (pa_cons (pe_lst (pa_cons (pv 2) (pa_cons (pe_ix ix_list (pv 0) pe_int (fun _ _ => rfl)) pa_nil))) pa_nil)))
          (pss_cons (ps_asg (pe_op op_add (pe_ix ix_list (pv 0) pe_int (fun _ _ => rfl)) pe_int) (pg_sub (pv 0) pe_int set_list))
          (pss_one (ps_ret (pe_op op_sub (pe_ix ix_list (pv 0) pe_int (fun _ _ => rfl)) pe_int))))), ?_⟩
        intro H1 ws1 made1 cl1 b nn v4 k1 b1 g1 le1 hnd hb hmade
        obtain ⟨rs, hrs, prs⟩ := b1.rs
        refine ⟨_, rfl, bx, _, 1, _, rfl, rfl, SqL.of b1.bx, atI_nat (j := 1) rfl, rw, rfl, ⟨_, SqL.of hrs⟩, for_list (K := K) (a := rw) (xs := rs) (fun i σ H' => H' = H1 ∧ ∃ v3, σ = [some (.ref bx), some (.ref a), some (.ref b), v3, v4] ∧ ∀ p ∈ ws1.take i, p.1 ≠ nn)
          ⟨rfl, none, rfl, fun p hp => by simp at hp⟩ (fun i σ H' _ ⟨h, _⟩ => by rw [h]; exact SqL.of hrs) ?_ ?_⟩
        · rintro i x σ H' hx ⟨rfl, v3, rfl, hno⟩
          obtain ⟨p, hp1, r, c, rfl, hr1, hc1⟩ := Paired.get prs hx
          refine ⟨_, rfl, r, _, 0, _, rfl, rfl, SqL.of hr1, atI_nat (j := 0) rfl, _, rfl, encN p.1, encN nn, dpN hc1, dpN hb, encN_shaped _, encN_shaped _, _, rfl, ?_⟩
          rw [encN_eqv]
          by_cases e : p.1 = nn
          · rw [decide_eq_true e]
            have hl : look ws1 nn = some p.2 := look_of g1.nd (by rw [← e]; exact List.mem_of_getElem? hp1)
            exact iteT ⟨_, rfl, r, _, 1, _, rfl, rfl, SqL.of hr1, atI_nat (j := 1) rfl, hQ H' ws1 made1 cl1 p.2 k1 b1 g1 le1 (find_of hnd hl) (by omega)⟩
          · rw [decide_eq_false e]
            refine iteF ⟨rfl, _, rfl, fun q hq => ?_⟩
            rw [take_snoc hp1] at hq
            rcases List.mem_append.mp hq with hq | hq
            · exact hno q hq
            · rw [List.mem_singleton.mp hq]; exact e
        · rintro σ H' ⟨rfl, v3, rfl, hno⟩
          rw [← Paired.len prs, List.take_length] at hno
          have hl : look ws1 nn = none := look_none.mpr fun z => by
            obtain ⟨p, hp1, e⟩ := List.mem_map.mp z
            exact hno p hp1 e
          have lrs : rs.length ≤ 2000 := by
            have := g1.cnt
            rw [← Paired.len prs]
            omega
          refine ⟨_, rfl, bx, _, 1, _, rfl, rfl, SqL.of b1.bx, atI_nat (j := 1) rfl, .inl ⟨rfl, _, SqL.of hrs⟩, _, rfl, _, rfl, bx, _, 0, _, rfl, rfl, SqL.of b1.bx, atI_nat (j := 0) rfl, (by show 2 ≤ sizeLine; decide), fun r hr1 => ?_⟩
          have s2 : Same H' (upd H' r (.lst [.ref b, .int (made1 : Int)])) := Same.upd hr1
          have hrs2 := s2 _ _ hrs
          refine ⟨rw, rs, _, rfl, rfl, hrs2, Nat.lt_of_le_of_lt lrs (by decide), ?_⟩
          have b3 := (b1.same s2).add (p := (nn, made1)) (v := .ref r) hrs2 (Paired.imp (fun _ _ z => z.same s2) prs) ⟨r, b, rfl, upd_same, s2 _ _ hb⟩
          have k3 : KB bx rw H (upd (upd H' r (.lst [.ref b, .int (made1 : Int)])) rw (.lst (rs ++ [.ref r]))) := (k1.trans (KB.same s2)).trans fun c u h1 h2 e => by rw [upd_ne h2]; exact e
          generalize upd (upd H' r (.lst [.ref b, .int (made1 : Int)])) rw (.lst (rs ++ [.ref r])) = H3 at b3 k3 ⊢
          refine ⟨_, rfl, bx, _, 0, _, rfl, rfl, SqL.of b3.bx, atI_nat (j := 0) rfl, _, _, rfl, rfl, _, rfl, bx, _, 0, 0, rfl, rfl, b3.bx, rfl, ?_⟩
          obtain ⟨rs4, hrs4, prs4⟩ := b3.rs
          have b4 := b3.set (m := made1 + 1) b3.ne.symm hrs4 prs4
          have k4 : KB bx rw H (upd H3 bx (.lst [.int ((made1 + 1 : Nat) : Int), .ref rw])) := k3.trans fun c u h1 h2 e => by rw [upd_ne h1]; exact e
          change tSeq _ _ _ [some (.ref bx), some (.ref a), some (.ref b), v3, v4] (upd H3 bx (.lst [.int ((made1 + 1 : Nat) : Int), .ref rw]))
          generalize upd H3 bx (.lst [.int ((made1 + 1 : Nat) : Int), .ref rw]) = H4 at b4 k4 ⊢
          refine ⟨_, rfl, bx, _, 0, _, rfl, rfl, SqL.of b4.bx, atI_nat (j := 0) rfl, _, _, rfl, rfl, ?_⟩
          show Q (.int (((made1 + 1 : Nat) : Int) - 1)) H4
          rw [show (((made1 + 1 : Nat) : Int) - 1) = (made1 : Int) by omega]
          obtain ⟨g5, le5, f5⟩ := g1.lay hnd hl (hS t t.self_under)
          exact hQ H4 _ _ _ made1 k4 b4 g5 (le1.trans le5) f5 hmade
      refine ⟨_, pss_cons (ps_set (i := 2) sc_lput.nd rfl (Or.inl rfl) (pv 1))
        (pss_cons (ps_if (pt_cmpR (op_neD hr.units) (pe_d D1 hr (by rfl) (pa_cons (pv 1) pa_nil)) (pe_tup pa_nil) (nomark _))
          (pss_one (ps_set (i := 2) sc_lput.nd rfl (Or.inl rfl) (pe_op op_catT (pe_tup (pa_cons (pe_ix ix_tup (pv 1) pe_int (fun _ _ => rfl)) pa_nil)) (pe_callTy call_tuple_of (by rfl) X.b_tuple (by decide +kernel)
            (pa_cons (pe_lc (own := [("_law_part", 4)]) (g := gName 4) (tt := tYes) rfl sc_lput.nd (pi_tup (pe_slice sl_tup (pv 1) (po_some pe_int) po_none))
              (blkOk_by (own := [("_law_part", 4)]) (N := nPut) (sc := defScope s__law_put) (by decide +kernel)) (fun _ _ _ _ _ => pg_name (i := 4) sc_lput.nd rfl (Or.inl rfl)) (fun _ _ _ _ _ => pts_nil)
              (fun _ _ _ _ _ => pe_d D hr (by rfl) (pa_cons (pv 0) (pa_cons (pv 4) pa_nil)))) pa_nil))))) pss_nil) hrest), ?_⟩
      have leafc : ∀ i, t.hd = .lf i → us = [] := fun i e => by
        have e0 : t = .lf i := by
          cases t <;> simp only [T.hd, Hd.lf.injEq, reduceCtorEq] at e
          rw [e]
        subst e0
        cases hp
        rfl
      refine ⟨_, rfl, _, rfl, a, t.hd, us, rfl, ha, leafc, fun H2 p s2 hp2 => ⟨(by show 0 ≤ sizeLine; decide), fun q hq => ?_⟩⟩
      have s3 := Same.trans s2 (Same.upd hq (o := .tup []))
      refine ⟨.tuple (t.parts.map enc), .tuple [], .tup (SqT.of (Same.upd hq _ _ hp2)) (dp_all (Paired.imp (fun _ _ z => TmAt.keep (.of s3) z) hp)), .tup (SqT.of upd_same) .nil, parts_shaped (fun x hx => by have := T.depth_part hx; omega), by decide +kernel, _, rfl, ?_⟩
      rw [eqv_empty]
      generalize upd H2 q (.tup []) = H3 at s3 ⊢
      have b3 := hbx.same s3
      have ha3 := s3 _ _ ha
      by_cases hl : ∃ i, t = .lf i
      · obtain ⟨j, rfl⟩ := hl
        cases hp
        refine iteF (fin H3 ws made cl a (.lf j) _ (KB.same s3) b3 hg (Le.refl _) rfl ?_ (Nat.le_refl _))
        rw [N.key_map]
        exact ha3
      · have hne : ∃ l, t.hd = .nd l ∧ t.parts ≠ [] := by
          cases t with
          | lf i => exact absurd ⟨i, rfl⟩ hl
          | un l x => exact ⟨l, rfl, by simp [T.parts]⟩
          | bin l x y => exact ⟨l, rfl, by simp [T.parts]⟩
          | ter l x y z => exact ⟨l, rfl, by simp [T.parts]⟩
        obtain ⟨l, e1, e2⟩ := hne
        have e3 : (!(t.parts.map enc).isEmpty) = true := by
          cases e : t.parts with
          | nil => exact absurd e e2
          | cons => rfl
        rw [e3]
        have ha4 : H3 a = some (.tup (.str l.str :: us)) := by rw [ha3, e1]; rfl
        refine iteT ⟨_, rfl, a, _, 0, _, rfl, rfl, SqT.of ha4, atI_nat (j := 0) rfl, (by show 1 ≤ sizeLine; decide), fun p1 hp1 => ?_⟩
        have s4 : Same H3 (upd H3 p1 (.tup [.str l.str])) := Same.upd hp1
        refine ⟨_, rfl, 1, rfl, a, _, rfl, SqT.of (s4 _ _ ha4), cut1_ne _ _, fun r hr1 => ?_⟩
        rw [cut1]
        have s5 : Same H3 (upd (upd H3 p1 (.tup [.str l.str])) r (.tup us)) := Same.trans s4 (Same.upd hr1)
        have hr5 : upd (upd H3 p1 (.tup [.str l.str])) r (.tup us) r = some (.tup us) := upd_same
        have hp5 : upd (upd H3 p1 (.tup [.str l.str])) r (.tup us) p1 = some (.tup [.str l.str]) := Same.upd hr1 _ _ upd_same
        generalize upd (upd H3 p1 (.tup [.str l.str])) r (.tup us) = H5 at s5 hr5 hp5 ⊢
        have b5 := b3.same s5
        have s05 := Same.trans s3 s5
        have lu := Paired.len hp
        have l3 : us.length ≤ 3 := by rw [← lu]; exact parts3 t
        refine ⟨r, rfl, ⟨_, SqT.of hr5⟩, fun D' hD => lc_tup (K := K) (a := r) (xs := us)
          (fun i H6 => ∃ ws6 made6 cl6 ids, KB bx rw H H6 ∧ BxAt H6 bx rw ws6 made6 ∧ BG S R ws6 made6 cl6 ∧ Le id (look ws) (look ws6) ∧ (t.parts.take i).map (find (look ws6)) = ids.map some ∧ H6 D' = some (.lst (ids.map fun j : Nat => V.int (j : Int))) ∧ made6 + (1 + ((t.parts.drop i).map T.size).sum) ≤ made + t.size ∧ H6 r = some (.tup us) ∧ H6 p1 = some (.tup [.str l.str]))
          ⟨ws, made, cl, [], KB.same (Same.trans s05 (Same.upd hD)), b5.same (Same.upd hD), hg, Le.refl _, rfl, upd_same, ?_, Same.upd hD _ _ hr5, Same.upd hD _ _ hp5⟩ (fun i H6 _ ⟨_, _, _, _, _, _, _, _, _, _, _, h, _⟩ => SqT.of h) ?_ ?_⟩
        · rw [List.drop_zero, ← T.size_parts]
          exact Nat.le_refl _
        · rintro i x H6 hx ⟨ws6, made6, cl6, ids, k6, b6, g6, le6, f6, hD6, m6, hr6, hp6⟩
          obtain ⟨t', ht', tx⟩ := Paired.get hp hx
          have mp : t' ∈ t.parts := List.mem_of_getElem? ht'
          have hi := (List.getElem?_eq_some_iff.mp ht').1
          have dr : t.parts.drop i = t' :: t.parts.drop (i + 1) := by
            rw [← List.getElem_cons_drop hi]
            rw [List.getElem?_eq_getElem hi] at ht'
            rw [Option.some.inj ht']
          rw [dr, List.map_cons, List.sum_cons] at m6
          have ll := congrArg List.length f6
          rw [List.length_map, List.length_map, List.length_take] at ll
          have D1 : D' ≠ bx := (ne_of_none b5.bx hD).symm
          have D2 : D' ≠ rw := by
            obtain ⟨rs, h1, _⟩ := b5.rs
            exact (ne_of_none h1 hD).symm
          refine ⟨rfl, _, rfl, _, rfl, S, R, bx, rw, ws6, made6, cl6, t', x, rfl, b6, g6, tx.keep (hbx.tups k6), ?_, ?_, fun u hu => hS u (T.under_part mp u hu), by omega, fun H7 ws7 made7 cl7 j k7 b7 g7 le7 f7 m7 => ?_⟩
          · have := T.depth_part mp; omega
          · have := T.depth_part mp; omega
          · have hD7 := k7 _ _ D1 D2 hD6
            have tu : Tups H7 (upd H7 D' (.lst ((ids.map fun j : Nat => V.int (j : Int)) ++ [.int (j : Int)]))) := Tups.upd fun zs e => by rw [hD7] at e; cases e
            have t67 := b6.tups k7
            refine ⟨_, hD7, ?_, ws7, made7, cl7, ids ++ [j], fun c u h1 h2 e => ?_, b7.other D1 D2 (fun b i e => ?_) (fun xs e => by rw [hD7] at e; cases e), g7, le6.trans le7, ?_, ?_, by omega, tu _ _ (t67 _ _ hr6), tu _ _ (t67 _ _ hp6)⟩
            · rw [List.length_map]; exact size6 (by have := parts3 t; omega)
            · by_cases z : c = D'
              · subst z
                have := s05 _ _ e
                rw [hD] at this
                cases this
              · rw [upd_ne z]; exact k7 _ _ h1 h2 (k6 _ _ h1 h2 e)
            · rw [hD7] at e
              have e := HO.lst.inj (Option.some.inj e)
              cases ids with
              | nil => cases e
              | cons x ids => cases e
            · have := Le.parts (fun p _ i e => le7.find p i e) f6
              rw [List.map_id] at this
              rw [take_snoc ht', List.map_append, this, List.map_append]
              rw [List.map_cons, List.map_nil, f7]
              rfl
            · rw [upd_same, List.map_append]; rfl
        · rintro H6 ⟨ws6, made6, cl6, ids, k6, b6, g6, le6, f6, hD6, m6, hr6, hp6⟩
          rw [← lu, List.take_length] at f6
          rw [← lu, List.drop_length, List.map_nil, List.sum_nil] at m6
          have ll := congrArg List.length f6
          rw [List.length_map, List.length_map] at ll
          refine ⟨D', _, rfl, .inl ⟨SqL.of hD6, fun y hy => ?_⟩⟩
          have s7 : Same H6 (upd H6 y (.tup (ids.map fun j : Nat => V.int (j : Int)))) := Same.upd hy
          refine ⟨p1, y, [.str l.str], _, rfl, rfl, SqT.of (s7 _ _ hp6), SqT.of upd_same, (fun z => by cases z), ?_, fun z => ?_, fun _ z hz => ?_⟩
          · rw [List.length_map]
            exact Nat.le_of_lt (size6 (by show 1 + ids.length ≤ 6; omega))
          · have := congrArg List.length z
            rw [List.length_map, List.length_nil, ← ll] at this
            exact absurd (List.eq_nil_of_length_eq_zero this) e2
          · have s8 : Same H6 (upd (upd H6 y (.tup (ids.map fun j : Nat => V.int (j : Int)))) z (.tup ([.str l.str] ++ ids.map fun j : Nat => V.int (j : Int)))) := Same.trans s7 (Same.upd hz)
            exact fin _ ws6 made6 cl6 z (.nd l ids) _ (k6.trans (KB.same s8)) (b6.same s8) g6 le6 (nd_iff.mpr ⟨e1.symm, f6⟩) (by rw [N.key_map]; exact upd_same) m6
  intro n
  induction n with
  | zero => exact step 0 (.inl rfl)
  | succ m ih => exact step (m + 1) (.inr ⟨m, rfl, ih⟩)
end K45
/-! part K45Q2 -/
set_option autoImplicit true
set_option Elab.async false
set_option linter.all false
set_option maxRecDepth 100000
set_option maxHeartbeats 4000000
/-! Walks: _law_told. -/
namespace K45
open PySem PySem.Spec PyProof.Rows L2
variable {P : Program} {w : World} {K : PySem.W.Frag} {mg : Str → Option Value} {base : Heap}
theorem dp_ids {K : PySem.W.Frag} {H : Hp} : ∀ ids : List Nat, DpAll K H (ids.map fun i : Nat => V.int (i : Int)) (ids.map fun i => kD (idK i))
  | [] => .nil
  | i :: ids => .cons (.int _) (dp_ids ids)
theorem ids_shaped (ids : List Nat) : SeqAt.shaped (.tuple (ids.map fun i => kD (idK i))) = true := by
  have h := ids_ok ids
  unfold SeqAt.shaped
  simp only [PyData.canLay0, PyData.depth, h.1, Bool.true_and]
  exact decide_eq_true (by have := h.2; omega)
def sp_ltold : Sp := fun vs H Q _ => ∃ (a : Addr) (n : N) (low high : Nat), vs = [.int (low : Int), .int (high : Int), .ref a] ∧ H a = some (.tup (n.key.map kV)) ∧ n.ids.length ≤ 3 ∧
  ∀ H' p, Same H H' → H' p = some (.tup ((n.map (sg low high)).key.map kV)) → Q (.ref p) H'
abbrev nTld : List Str := ["_law_low", "_law_high", "_law_node", "_law_part"]
theorem sc_ltold : FnScope nTld ["_law_low", "_law_high", "_law_node"] (defScope s__law_told) := ⟨rfl, rfl, rfl, by decide +kernel, rfl, by decide +kernel, by decide +kernel⟩
theorem ok_ltold (X : Fx P w K mg base) : OkD P w K mg base "_law_told" ["_law_low", "_law_high", "_law_node"] 2 sp_ltold := by
  obtain ⟨fd, F⟩ := X.fn 26 (d := d__law_told) rfl
  obtain ⟨_, _, D1⟩ := ok_lparts X
  refine ⟨_, fd, X.glo _ (X.fact 26 (f := .glo "_law_told") rfl), F.kp, F.bindsN fun _ _ _ _ _ _ us hl => match us, hl with | [_, _, _], _ => rfl, okN F sc_ltold (fun vs H Q E h => ?_) (fun cdv A outer s H vs Q E hr h => ?_)⟩
  · obtain ⟨_, _, _, _, rfl, _⟩ := h
    rfl
  · obtain ⟨a, n, low, high, rfl, ha, hl, hQ⟩ := h
    have ha' := ha
    rw [N.key_map] at ha'
    refine ⟨_, pss_one (ps_ret (pe_ifExp (pt_cmpR (op_neD hr.units) (pe_d D1 hr (by rfl) (pa_cons (pv 2) pa_nil)) (pe_tup pa_nil) (nomark _))
      (pe_op op_catT (pe_tup (pa_cons (pe_ix ix_tup (pv 2) pe_int (fun _ _ => rfl)) pa_nil)) (pe_callTy call_tuple_of (by rfl) X.b_tuple (by decide +kernel)
        (pa_cons (pe_lc (own := [("_law_part", 3)]) (g := gName 3) (tt := tYes) rfl sc_ltold.nd (pi_tup (pe_d D1 hr (by rfl) (pa_cons (pv 2) pa_nil)))
          (blkOk_by (own := [("_law_part", 3)]) (N := nTld) (sc := defScope s__law_told) (by decide +kernel)) (fun _ _ _ _ _ => pg_name (i := 3) sc_ltold.nd rfl (Or.inl rfl)) (fun _ _ _ _ _ => pts_nil)
          (fun _ _ _ _ _ => pe_ifExp (pt_cmpR op_eq (pv 3) (pv 1) (nomark _)) (pv 0) (pv 3))) pa_nil))) (pv 2))), ?_⟩
    refine ⟨_, rfl, a, n.hd, _, rfl, ha', (fun i e => by rw [N.leaf_ids e]; rfl), fun H2 p s2 hp2 => ⟨(by show 0 ≤ sizeLine; decide), fun q hq => ?_⟩⟩
    have s3 := Same.trans s2 (Same.upd hq (o := .tup []))
    refine ⟨.tuple (n.ids.map fun i => kD (idK i)), .tuple [], .tup (SqT.of (Same.upd hq _ _ hp2)) (dp_ids _), .tup (SqT.of upd_same) .nil, ids_shaped _, by decide +kernel, _, rfl, ?_⟩
    rw [eqv_empty]
    generalize upd H2 q (.tup []) = H3 at s3 ⊢
    have ha3 := s3 _ _ ha
    have ha4 := s3 _ _ ha'
    by_cases e0 : n.ids = []
    · rw [e0]
      refine iteF ⟨_, rfl, hQ H3 a s3 ?_⟩
      rw [ha3]
      have : n.map (sg low high) = n := by
        cases n with
        | lf i => rfl
        | nd l ids =>
          obtain rfl : ids = [] := e0
          rfl
      rw [this]
    · have e3 : (!(n.ids.map fun i => kD (idK i)).isEmpty) = true := by
        cases e : n.ids with
        | nil => exact absurd e e0
        | cons => rfl
      rw [e3]
      obtain ⟨l, hn⟩ : ∃ l, n = .nd l n.ids := by
        cases n with
        | lf i => exact absurd rfl e0
        | nd l ids => exact ⟨l, rfl⟩
      have hh : n.hd = .nd l := by rw [hn]; rfl
      refine iteT ⟨_, rfl, a, _, 0, _, rfl, rfl, SqT.of ha4, atI_nat (j := 0) rfl, (by show 1 ≤ sizeLine; decide), fun p1 hp1 => ?_⟩
      have s4 : Same H3 (upd H3 p1 (.tup [.str n.hd.str])) := Same.upd hp1
      have hp4 : upd H3 p1 (.tup [.str n.hd.str]) p1 = some (.tup [.str n.hd.str]) := upd_same
      generalize upd H3 p1 (.tup [.str n.hd.str]) = H4 at s4 hp4 ⊢
      have s04 := Same.trans s3 s4
      refine ⟨_, rfl, a, n.hd, _, rfl, s04 _ _ ha', (fun i e => by rw [N.leaf_ids e]; rfl), fun H5 r s5 hr5 => ⟨r, rfl, ⟨_, SqT.of hr5⟩, fun D' hD => lc_tup (K := K) (a := r) (xs := n.ids.map fun i : Nat => V.int (i : Int))
          (fun i H6 => Same H5 H6 ∧ H6 D' = some (.lst ((n.ids.take i).map fun j : Nat => V.int ((sg low high j : Nat) : Int))))
          ⟨Same.upd hD, upd_same⟩ (fun i H6 _ ⟨h, _⟩ => SqT.of (h _ _ hr5)) ?_ ?_⟩⟩
      · rintro i x H6 hx ⟨s6, hD6⟩
        rw [List.getElem?_map] at hx
        obtain ⟨y, hy, rfl⟩ := Option.map_eq_some_iff.mp hx
        have hi := (List.getElem?_eq_some_iff.mp hy).1
        have key : ∀ z : Nat, z = sg low high y → ∃ acc, H6 D' = some (.lst acc) ∧ acc.length < sizeLine ∧ (Same H5 (upd H6 D' (.lst (acc ++ [.int (z : Int)]))) ∧ upd H6 D' (.lst (acc ++ [.int (z : Int)])) D' = some (.lst ((n.ids.take (i + 1)).map fun j : Nat => V.int ((sg low high j : Nat) : Int)))) := fun z hz => by
          refine ⟨_, hD6, ?_, fun b u e => ?_, ?_⟩
          · rw [List.length_map, List.length_take]; exact size6 (by omega)
          · rw [upd_ne (ne_of_none e hD)]; exact s6 _ _ e
          · rw [upd_same, take_snoc hy, List.map_append, hz]; rfl
        refine ⟨rfl, _, rfl, _, rfl, rfl, _, rfl, ?_⟩
        by_cases e : y = high
        · rw [decide_eq_true (show V.int (y : Int) = V.int (high : Int) by rw [e])]
          exact iteT ⟨_, rfl, key low (by rw [e, sg_high])⟩
        · rw [decide_eq_false (show ¬ V.int (y : Int) = V.int (high : Int) from fun z => e (by have := V.int.inj z; omega))]
          exact iteF ⟨_, rfl, key y (by rw [sg_ne e])⟩
      · rintro H6 ⟨s6, hD6⟩
        rw [List.length_map, List.take_length] at hD6
        refine ⟨D', _, rfl, .inl ⟨SqL.of hD6, fun y hy => ?_⟩⟩
        have s06 : Same H H6 := Same.trans s04 (Same.trans s5 s6)
        have s7 : Same H6 (upd H6 y (.tup (n.ids.map fun j : Nat => V.int ((sg low high j : Nat) : Int)))) := Same.upd hy
        refine ⟨p1, y, [.str n.hd.str], _, rfl, rfl, SqT.of (s7 _ _ (s6 _ _ (s5 _ _ hp4))), SqT.of upd_same, (fun z => by cases z), ?_, fun z => ?_, fun _ z hz => ?_⟩
        · rw [List.length_map]
          exact Nat.le_of_lt (size6 (by show 1 + n.ids.length ≤ 6; omega))
        · have := congrArg List.length z
          rw [List.length_map, List.length_nil] at this
          exact absurd (List.eq_nil_of_length_eq_zero this) e0
        · refine hQ _ z (Same.trans s06 (Same.trans s7 (Same.upd hz))) ?_
          rw [N.key_map, N.map_hd, N.map_ids, List.map_map, hh]
          exact upd_same
end K45
/-! part K45Q3 -/
set_option autoImplicit true
set_option Elab.async false
set_option linter.all false
set_option maxRecDepth 100000
set_option maxHeartbeats 4000000
/-! Walks: _law_join. -/
namespace K45
open PySem PySem.Spec PyProof.Rows L2
variable {P : Program} {w : World} {K : PySem.W.Frag} {mg : Str → Option Value} {base : Heap}
theorem pe_imp {X : Cx} {e : Expr} {t t' : TE} (h : PE X e t) (l : ∀ σ H Q, t' σ H Q → t σ H Q) : PE X e t' := ⟨fun pins s σ H Q I q => h.run pins s σ H Q I (l σ H Q q)⟩
/-- low if x == high else x -/
def tSg (i j k : Nat) : TE := fun σ H Q => ∃ low high x : Nat, σ[i]? = some (some (.int (x : Int))) ∧ σ[j]? = some (some (.int (high : Int))) ∧ σ[k]? = some (some (.int (low : Int))) ∧ Q (.int ((sg low high x : Nat) : Int)) H
theorem sg_imp {i j k : Nat} (σ : L2.St) (H : Hp) (Q : VK) (h : tSg i j k σ H Q) : tIf (tTest (tOp rEq (tVar i) (tVar j))) (tVar k) (tVar i) σ H Q := by
  obtain ⟨low, high, x, hi, hj, hk, q⟩ := h
  refine ⟨_, hi, _, hj, rfl, _, rfl, ?_⟩
  by_cases e : x = high
  · rw [decide_eq_true (show V.int (x : Int) = V.int (high : Int) by rw [e])]
    rw [e, sg_high] at q
    exact iteT ⟨_, hk, q⟩
  · rw [decide_eq_false (show ¬ V.int (x : Int) = V.int (high : Int) from fun z => e (by have := V.int.inj z; omega))]
    rw [sg_ne e] at q
    exact iteF ⟨_, hi, q⟩
/-- low if row[1] == high else row[1] -/
def tSgR (i j k : Nat) : TE := fun σ H Q => ∃ (r : Addr) (c : V) (low high x : Nat), σ[i]? = some (some (.ref r)) ∧ H r = some (.lst [c, .int (x : Int)]) ∧ σ[j]? = some (some (.int (high : Int))) ∧ σ[k]? = some (some (.int (low : Int))) ∧ Q (.int ((sg low high x : Nat) : Int)) H
theorem sgR_imp {i j k : Nat} (σ : L2.St) (H : Hp) (Q : VK) (h : tSgR i j k σ H Q) : tIf (tTest (tOp rEq (tOp (rIxL K) (tVar i) (tC (.int 1))) (tVar j))) (tVar k) (tOp (rIxL K) (tVar i) (tC (.int 1))) σ H Q := by
  obtain ⟨r, c, low, high, x, hi, hr, hj, hk, q⟩ := h
  refine ⟨_, hi, r, _, 1, _, rfl, rfl, SqL.of hr, atI_nat (j := 1) rfl, _, hj, rfl, _, rfl, ?_⟩
  by_cases e : x = high
  · rw [decide_eq_true (show V.int (x : Int) = V.int (high : Int) by rw [e])]
    rw [e, sg_high] at q
    exact iteT ⟨_, hk, q⟩
  · rw [decide_eq_false (show ¬ V.int (x : Int) = V.int (high : Int) from fun z => e (by have := V.int.inj z; omega))]
    rw [sg_ne e] at q
    exact iteF ⟨_, hi, r, _, 1, _, rfl, rfl, SqL.of hr, atI_nat (j := 1) rfl, q⟩
theorem pairs_no {H : Hp} {ls : List (Nat × Nat)} {ps : List V} (h : Paired (PairAt H) ls ps) (x : V) (i : Int) : ps ≠ [x, .int i] := fun e => by
  subst e
  cases h with
  | cons _ t => cases t with
    | cons r _ =>
      obtain ⟨_, z, _⟩ := r
      cases z
/-- what stands at x is neither a row nor a tuple -/
structure NR (H : Hp) (x : Addr) : Prop where
  r : ∀ b i, H x ≠ some (.lst [.ref b, .int i])
  t : ∀ xs, H x ≠ some (.tup xs)
theorem NR.dT {H : Hp} {x : Addr} {kvs : List (List L2.Key × V)} (e : H x = some (.dT kvs)) : NR H x := ⟨fun _ _ h => (by rw [e] at h; cases h), fun _ h => (by rw [e] at h; cases h)⟩
theorem NR.rows {H : Hp} {x : Addr} {ws : List (N × Nat)} {rs : List V} (e : H x = some (.lst rs)) (p : Paired (RowAt H) ws rs) : NR H x :=
  ⟨fun b i h => (by rw [e] at h; exact rows_no p _ _ (HO.lst.inj (Option.some.inj h))), fun _ h => (by rw [e] at h; cases h)⟩
theorem NR.pairs {H : Hp} {x : Addr} {ls : List (Nat × Nat)} {ps : List V} (e : H x = some (.lst ps)) (p : Paired (PairAt H) ls ps) : NR H x :=
  ⟨fun b i h => (by rw [e] at h; exact pairs_no p _ _ (HO.lst.inj (Option.some.inj h))), fun _ h => (by rw [e] at h; cases h)⟩
theorem NR.tups {H : Hp} {x : Addr} {o : HO} (n : NR H x) : Tups H (upd H x o) := Tups.upd n.t
theorem RowAt.upd {H : Hp} {x : Addr} {o : HO} {p : N × Nat} {v : V} (h : RowAt H p v) (n : NR H x) : RowAt (L2.upd H x o) p v := h.keep fun a u e s => by
  rw [upd_ne (fun y => ?_)]
  · exact e
  · subst y
    rcases s with ⟨xs, rfl⟩ | ⟨b, i, rfl⟩
    · exact n.t _ e
    · exact n.r _ _ e
theorem Kp.scr {o x : Addr} {H H' : Hp} {u : HO} (k : Kp o H H') (hx : H x = none) : Kp o H (L2.upd H' x u) := fun b v h e => by rw [upd_ne (ne_of_none e hx)]; exact k b v h e
def sp_ljoin : Sp := fun vs H Q _ => ∃ (S : List T) (R : T → T → Prop) (bx rw : Addr) (ws : List (N × Nat)) (made : Nat) (cl : Nat → T) (a b : Nat), vs = [.ref bx, .int (a : Int), .int (b : Int)] ∧ BxAt H bx rw ws made ∧ BG S R ws made cl ∧ made ≤ 2000 ∧ a < made ∧ b < made ∧ Eqv R (cl a) (cl b) ∧
  ∀ H' rw' ws' ρ, Kp bx H H' → (rw' = rw ∨ H rw' = none) → BxAt H' bx rw' ws' made → BG S R ws' made cl → Le ρ (look ws) (look ws') → ρ a = ρ b → Q .non H'
abbrev nJn : List Str := ["_law_box", "_law_one", "_law_other", "_law_left", "_law_first", "_law_second", "_law_low", "_law_high", "_law_known", "_law_rows", "_law_row", "_law_node", "_law_place", "_law_mine", "_law_its"]
theorem sc_ljoin : FnScope nJn ["_law_box", "_law_one", "_law_other"] (defScope s__law_join) := ⟨rfl, rfl, rfl, by decide +kernel, rfl, by decide +kernel, by decide +kernel⟩
theorem ok_ljoin (X : Fx P w K mg base) : OkD P w K mg base "_law_join" ["_law_box", "_law_one", "_law_other"] 3 (sp_ljoin) := by
  obtain ⟨fd, F⟩ := X.fn 27 (d := d__law_join) rfl
  obtain ⟨_, _, D1⟩ := ok_ltold X
  refine ⟨_, fd, X.glo _ (X.fact 27 (f := .glo "_law_join") rfl), F.kp, F.bindsN fun _ _ _ _ _ _ us hl => match us, hl with | [_, _, _], _ => rfl, okN F sc_ljoin (fun vs H Q E h => ?_) (fun cdv A outer s H vs Q E hr h => ?_)⟩
  · obtain ⟨_, _, _, _, _, _, _, _, _, rfl, _⟩ := h
    rfl
  · obtain ⟨S, R, bx, rw, ws, made, cl, a, b, rfl, hbx, hg, hm, ha, hb, hab, hQ⟩ := h
    have hu := hu_of hr
    have sz : ∀ {n : Nat}, n ≤ 16000000 → n < sizeLine := fun h => Nat.lt_of_le_of_lt h (by decide)
    have cnt0 : ws.length ≤ 2000 := by have := hg.cnt; omega
    have big0 : made * (ws.length + 1) ≤ 2000 * 2001 := Nat.mul_le_mul hm (by omega)
    refine ⟨_, pss_cons (ps_set (i := 3) sc_ljoin.nd rfl (Or.inl rfl) (pe_lst (pa_cons (pe_tup (pa_cons (pv 1) (pa_cons (pv 2) pa_nil))) pa_nil)))
      (pss_one (ps_while PassesOwn.never (pt_cmpR (op_neD hr.units) (pv 3) (pe_lst pa_nil) (nomark _))
        (pss_cons (ps_asg (pe_bm0 PySem.F.plainAttrs_list PySem.F.slot_list_pop PySem.F.type_list_pop mt_pop (pv 3)) (pg_tup rfl (pgs_cons (pg_name (i := 4) sc_ljoin.nd rfl (Or.inl rfl)) (pgs_cons (pg_name (i := 5) sc_ljoin.nd rfl (Or.inl rfl)) pgs_nil))))
        (pss_cons (ps_asg (pe_tup (pa_cons (pe_callB (call_min2 rfl) (by rfl) X.b_min (by decide +kernel) (pa_cons (pv 4) (pa_cons (pv 5) pa_nil))) (pa_cons (pe_callB (call_max2 rfl) (by rfl) X.b_max (by decide +kernel) (pa_cons (pv 4) (pa_cons (pv 5) pa_nil))) pa_nil)))
          (pg_tup rfl (pgs_cons (pg_name (i := 6) sc_ljoin.nd rfl (Or.inr rfl)) (pgs_cons (pg_name (i := 7) sc_ljoin.nd rfl (Or.inr rfl)) pgs_nil))))
        (pss_cons (ps_if (pt_cmpR op_eq (pv 6) (pv 7) (nomark _)) (pss_one ps_continue) pss_nil)
        (pss_cons (ps_setLc (i := 3) (own := [("_law_mine", 13), ("_law_its", 14)]) (g := gTup K 2 (gCons (gName 13) (gCons (gName 14) gNil))) (tt := tYes) rfl sc_ljoin.nd rfl rfl (by rfl) (pi_list (pv 3))
          (blkOk_by (own := [("_law_mine", 13), ("_law_its", 14)]) (N := nJn) (sc := defScope s__law_join) (by decide +kernel))
          (fun _ _ _ _ _ => pg_tup rfl (pgs_cons (pg_name (i := 13) sc_ljoin.nd rfl (Or.inl rfl)) (pgs_cons (pg_name (i := 14) sc_ljoin.nd rfl (Or.inl rfl)) pgs_nil))) (fun _ _ _ _ _ => pts_nil)
          (fun _ _ _ _ _ => pe_tup (pa_cons (pe_imp (pe_ifExp (pt_cmpR op_eq (pv 13) (pv 7) (nomark _)) (pv 6) (pv 13)) (sg_imp (i := 13) (j := 7) (k := 6))) (pa_cons (pe_imp (pe_ifExp (pt_cmpR op_eq (pv 14) (pv 7) (nomark _)) (pv 6) (pv 14)) (sg_imp (i := 14) (j := 7) (k := 6))) pa_nil))))
        (pss_cons (ps_par (i := 8) (j := 9) rfl sc_ljoin.nd rfl rfl (by decide) rfl rfl (pa_cons pe_dnewT (pa_cons (pe_lst pa_nil) pa_nil)) (by rfl))
        (pss_cons (ps_for PassesOwn.never rfl (pi_list (pe_ix ix_list (pv 0) pe_int (fun _ _ => rfl))) (pg_name (i := 10) sc_ljoin.nd rfl (Or.inl rfl))
          (pss_cons (ps_par (i := 11) (j := 12) rfl sc_ljoin.nd rfl rfl (by decide) rfl rfl (pa_cons (pe_d D1 hr (by rfl) (pa_cons (pv 6) (pa_cons (pv 7) (pa_cons (pe_ix ix_list (pv 10) pe_int (fun _ _ => rfl)) pa_nil))))
            (pa_cons (pe_imp (pe_ifExp (pt_cmpR op_eq (pe_ix ix_list (pv 10) pe_int (fun _ _ => rfl)) (pv 7) (nomark _)) (pv 6) (pe_ix ix_list (pv 10) pe_int (fun _ _ => rfl))) (sgR_imp (i := 10) (j := 7) (k := 6))) pa_nil)) (by rfl))
          (pss_one (ps_if (pt_cmp (pc_dnotin hu (pv 11) (pv 8)))
            (pss_cons (ps_dput hu (pv 8) (pv 11) (pv 12) (by rfl))
              (pss_one (ps_expr (pe_bm PySem.F.plainAttrs_list PySem.F.slot_list_append PySem.F.type_list_append mt_append (pv 9) (pa_cons (pe_lst (pa_cons (pv 11) (pa_cons (pv 12) pa_nil))) pa_nil)))))
            (pss_one (ps_if (pt_cmpR op_ne (pe_dget hu (pv 8) (pv 11) (fun _ _ => rfl)) (pv 12) (nomark _))
              (pss_one (ps_expr (pe_bm PySem.F.plainAttrs_list PySem.F.slot_list_append PySem.F.type_list_append mt_append (pv 3) (pa_cons (pe_tup (pa_cons (pe_dget hu (pv 8) (pv 11) (fun _ _ => rfl)) (pa_cons (pv 12) pa_nil))) pa_nil)))) pss_nil))))))
        (pss_one (ps_asg (pv 9) (pg_sub (pv 0) pe_int set_list))))))))))), ?_⟩
    refine ⟨_, rfl, _, rfl, (by show 2 ≤ sizeLine; decide), fun tp htp => ⟨(by show 1 ≤ sizeLine; decide), fun lp hlp => ?_⟩⟩
    have q0 : Same H (upd (upd H tp (.tup [.int a, .int b])) lp (.lst [.ref tp])) := Same.trans (Same.upd htp) (Same.upd hlp)
    have hlp0 : upd (upd H tp (.tup [.int a, .int b])) lp (.lst [.ref tp]) lp = some (.lst [.ref tp]) := upd_same
    have htp0 : upd (upd H tp (.tup [.int a, .int b])) lp (.lst [.ref tp]) tp = some (.tup [.int a, .int b]) := Same.upd hlp _ _ upd_same
    change tWhile _ _ _ [some (.ref bx), some (.int a), some (.int b), some (.ref lp), none, none, none, none, none, none, none, none, none, none, none] (upd (upd H tp (.tup [.int a, .int b])) lp (.lst [.ref tp]))
    have hlpn : H lp = none := upd_none hlp
    have lrw0 : lp ≠ rw := by
      obtain ⟨rs, h1, _⟩ := hbx.rs
      exact (ne_of_none h1 hlpn).symm
    generalize upd (upd H tp (.tup [.int a, .int b])) lp (.lst [.ref tp]) = H0 at q0 hlp0 htp0 ⊢
    refine ⟨fun m σ H' => ∃ ws1 rw1 ρ left L lp ps v4 v5 v6 v7 v8 v9 v10 v11 v12, m = L.length * (ws.length + 1) + left.length ∧ σ = [some (.ref bx), some (.int a), some (.int b), some (.ref lp), v4, v5, v6, v7, v8, v9, v10, v11, v12, none, none] ∧
        Kp bx H H' ∧ (rw1 = rw ∨ H rw1 = none) ∧ BxAt H' bx rw1 ws1 made ∧ LW R made ws cl a b ws1 ρ left L ∧ H lp = none ∧ H' lp = some (.lst ps) ∧ Paired (PairAt H') left ps ∧ lp ≠ rw1,
      ⟨_, ws, rw, id, [(a, b)], List.range made, lp, _, _, _, _, _, _, _, _, _, _, rfl, rfl, Kp.same q0, .inl rfl, hbx.same q0, LW.start hg ha hb hab, hlpn, hlp0, .cons ⟨tp, rfl, htp0⟩ .nil, lrw0⟩, ?_⟩
    rintro m σ H1 ⟨ws1, rw1, ρ, left, L, lp, ps, v4, v5, v6, v7, v8, v9, v10, v11, v12, rfl, rfl, k1, hrw, b1, lw, hln, hl1, pr1, lrw⟩
    refine ⟨_, rfl, (by show 0 ≤ sizeLine; decide), fun q hq => ⟨.list (left.map encP), .list [], .lst (SqL.of (Same.upd hq _ _ hl1)) (dpPairs (Paired.imp (fun _ _ z => z.keep (.of (Same.upd hq))) pr1)), .lst (SqL.of upd_same) .nil, encP_shaped left, by decide +kernel, _, rfl, ?_⟩⟩
    rw [eqvL_empty]
    have q2 : Same H1 (upd H1 q (.lst [])) := Same.upd hq
    have k2 := k1.trans (Kp.same q2)
    have b2 := b1.same q2
    have hl2 := q2 _ _ hl1
    have pr2 := Paired.imp (fun _ _ z => PairAt.keep (.of q2) z) pr1
    generalize upd H1 q (.lst []) = H2 at k2 b2 hl2 pr2 ⊢
    clear q2 pr1 hl1 b1 k1
    rcases List.eq_nil_or_concat left with rfl | ⟨left, ⟨x, y⟩, rfl⟩
    · obtain ⟨g2, le2, e2⟩ := lw.done hg
      exact iteF (hQ H2 rw1 ws1 ρ k2 hrw b2 g2 le2 e2)
    · rw [List.concat_eq_append] at lw pr2 ⊢
      rw [show (!((left ++ [(x, y)]).map encP).isEmpty) = true by simp]
      obtain ⟨ps, tb, rfl, pr3, hx⟩ := Paired.snoc_inv pr2
      obtain ⟨tb, rfl, htb⟩ := hx
      refine iteT ⟨fun σ' H' => ∃ ws5 rw5 ρ left5 L5 lp ps v4 v5 v6 v7 v8 v9 v10 v11 v12, L5.length * (ws.length + 1) + left5.length < L.length * (ws.length + 1) + (left ++ [(x, y)]).length ∧ σ' = [some (.ref bx), some (.int a), some (.int b), some (.ref lp), v4, v5, v6, v7, v8, v9, v10, v11, v12, none, none] ∧
          Kp bx H H' ∧ (rw5 = rw ∨ H rw5 = none) ∧ BxAt H' bx rw5 ws5 made ∧ LW R made ws cl a b ws5 ρ left5 L5 ∧ H lp = none ∧ H' lp = some (.lst ps) ∧ Paired (PairAt H') left5 ps ∧ lp ≠ rw5,
        fun σ' H' ⟨ws5, rw5, ρ, left5, L5, lp, ps, v4, v5, v6, v7, v8, v9, v10, v11, v12, lt, r⟩ => ⟨_, lt, ws5, rw5, ρ, left5, L5, lp, ps, v4, v5, v6, v7, v8, v9, v10, v11, v12, rfl, r⟩, ?_⟩
      refine ⟨_, rfl, .inl ⟨rfl, _, SqL.of hl2⟩, lp, _, .ref tb, rfl, rfl, hl2, by simp, ?_⟩
      rw [List.dropLast_concat]
      have tp3 : Tups H2 (upd H2 lp (.lst ps)) := Tups.upd fun xs e => by rw [hl2] at e; cases e
      have ht3 := tp3 _ _ htb
      have lb : lp ≠ bx := (ne_of_none hbx.bx hln).symm
      have k3 : Kp bx H (upd H2 lp (.lst ps)) := k2.scr hln
      have b3 : BxAt (upd H2 lp (.lst ps)) bx rw1 ws1 made := b2.other lb lrw (NR.pairs hl2 pr2).r (NR.pairs hl2 pr2).t
      have hl3 : upd H2 lp (.lst ps) lp = some (.lst ps) := upd_same
      have pr3 := Paired.imp (fun _ _ z => PairAt.keep tp3 z) pr3
      generalize upd H2 lp (.lst ps) = H3 at k3 b3 hl3 pr3 ht3 ⊢
      clear tp3 pr2 hl2 htb k2 b2
      refine ⟨tb, _, rfl, SqT.of ht3, rfl, _, _, rfl, _, _, rfl, rfl, ?_⟩
      change tSeq _ _ _ [some (.ref bx), some (.int a), some (.int b), some (.ref lp), some (.int x), some (.int y), v6, v7, v8, v9, v10, v11, v12, none, none] H3
      refine ⟨_, rfl, _, rfl, _, _, rfl, _, rfl, _, rfl, _, _, rfl, (by show 2 ≤ sizeLine; decide), fun mp hmp => ?_⟩
      obtain ⟨low, high, hx, el, eh⟩ : ∃ low high : Nat, ((x, y) = (low, high) ∨ (x, y) = (high, low)) ∧ (if ((y : Nat) : Int) < ((x : Nat) : Int) then ((y : Nat) : Int) else ((x : Nat) : Int)) = (low : Int) ∧
          (if ((y : Nat) : Int) > ((x : Nat) : Int) then ((y : Nat) : Int) else ((x : Nat) : Int)) = (high : Int) := by
        by_cases q : x < y
        · exact ⟨x, y, .inl rfl, if_neg (by omega), if_pos (by omega)⟩
        · by_cases q2 : x = y
          · exact ⟨y, x, .inr rfl, by rw [if_neg (by omega), q2], if_neg (by omega)⟩
          · exact ⟨y, x, .inr rfl, if_pos (by omega), if_neg (by omega)⟩
      rw [el, eh]
      have q4 : Same H3 (upd H3 mp (.tup [.int low, .int high])) := Same.upd hmp
      have hm4 : upd H3 mp (.tup [.int low, .int high]) mp = some (.tup [.int low, .int high]) := upd_same
      have k4 := k3.trans (Kp.same q4)
      have b4 := b3.same q4
      have hl4 := q4 _ _ hl3
      have pr4 := Paired.imp (fun _ _ z => PairAt.keep (.of q4) z) pr3
      generalize upd H3 mp (.tup [.int low, .int high]) = H4 at k4 b4 hl4 pr4 hm4 ⊢
      clear q4 k3 b3 hl3 pr3 ht3
      refine ⟨mp, _, rfl, SqT.of hm4, rfl, _, _, rfl, _, _, rfl, rfl, ?_⟩
      change tSeq _ _ _ [some (.ref bx), some (.int a), some (.int b), some (.ref lp), some (.int x), some (.int y), some (.int low), some (.int high), v8, v9, v10, v11, v12, none, none] H4
      refine ⟨_, rfl, _, rfl, rfl, _, rfl, ?_⟩
      by_cases elh : low = high
      · rw [decide_eq_true (show V.int (low : Int) = V.int (high : Int) by rw [elh])]
        refine iteT ⟨ws1, rw1, ρ, left, L, lp, ps, _, _, _, _, _, _, _, _, _, ?_, rfl, k4, hrw, b4, lw.skip ?_, hln, hl4, pr4, lrw⟩
        · rw [List.length_append]; simp
        · rcases hx with e | e
          · obtain ⟨e1, e2⟩ := Prod.mk.inj e; omega
          · obtain ⟨e1, e2⟩ := Prod.mk.inj e; omega
      · rw [decide_eq_false (fun z => elh (by have := V.int.inj z; omega))]
        have lps := Paired.len pr4
        have ms := lw.ms
        rw [List.length_append, List.length_singleton] at ms
        have wsl := lw.wsl
        refine iteF ⟨_, rfl, lp, rfl, ⟨_, SqL.of hl4⟩, fun D hD => lc_list (K := K) (a := lp) (xs := ps) (fun i H' => Same H4 H' ∧ ∃ qs, H' D = some (.lst qs) ∧ Paired (PairAt H') ((left.take i).map (pm (sg low high))) qs)
          ⟨Same.upd hD, [], upd_same, .nil⟩ (fun i H' _ ⟨h, _⟩ => SqL.of (h _ _ hl4)) ?_ ?_⟩
        · rintro i z H5 hz ⟨s5, qs, hD5, pr5⟩
          obtain ⟨p, hp, pb, rfl, hpb⟩ := Paired.get pr4 hz
          have hi := (List.getElem?_eq_some_iff.mp hp).1
          refine ⟨pb, _, rfl, SqT.of (s5 _ _ hpb), rfl, _, _, rfl, _, _, rfl, rfl, rfl, low, high, p.1, rfl, rfl, rfl, low, high, p.2, rfl, rfl, rfl, (by show 2 ≤ sizeLine; decide), fun nb hnb => ⟨qs, Same.upd hnb _ _ hD5, ?_, fun c u e => ?_, _, upd_same, ?_⟩⟩
          · rw [← Paired.len pr5, List.length_map, List.length_take]
            exact sz (by omega)
          · rw [upd_ne (ne_of_none e hD)]; exact Same.upd hnb _ _ (s5 _ _ e)
          · have s6 : Same H5 (upd H5 nb (.tup [.int (sg low high p.1 : Nat), .int (sg low high p.2 : Nat)])) := Same.upd hnb
            have t7 : Tups (upd H5 nb (.tup [.int (sg low high p.1 : Nat), .int (sg low high p.2 : Nat)])) (upd (upd H5 nb (.tup [.int (sg low high p.1 : Nat), .int (sg low high p.2 : Nat)])) D (.lst (qs ++ [.ref nb]))) := Tups.upd fun xs e => by rw [s6 _ _ hD5] at e; cases e
            rw [take_snoc hp, List.map_append]
            exact Paired.snoc ⟨nb, rfl, t7 _ _ upd_same⟩ (Paired.imp (fun _ _ z => PairAt.keep ((Tups.of s6).trans t7) z) pr5)
        · rintro H5 ⟨s5, qs, hD5, pr5⟩
          rw [← lps, List.take_length] at pr5
          have k5 := k4.trans (Kp.same s5)
          have b5 := b4.same s5
          have hDn : H D = none := by
            cases e : H D with
            | none => rfl
            | some u =>
              by_cases z : D = bx
              · rw [z, b4.bx] at hD; cases hD
              · rw [k4 _ _ z e] at hD; cases hD
          have Db : D ≠ bx := (ne_of_none hbx.bx hDn).symm
          have Drw : D ≠ rw1 := by
            obtain ⟨_, h1, _⟩ := b4.rs
            exact (ne_of_none h1 hD).symm
          change tSeq _ _ _ [some (.ref bx), some (.int a), some (.int b), some (.ref D), some (.int x), some (.int y), some (.int low), some (.int high), v8, v9, v10, v11, v12, none, none] H5
          refine fun kp hkp => ⟨(by show 0 ≤ sizeLine; decide), fun rp hrp => ⟨_, _, rfl, ?_⟩⟩
          have q6 : Same H5 (upd (upd H5 kp (.dT [])) rp (.lst [])) := Same.trans (Same.upd hkp) (Same.upd hrp)
          have hk6 : upd (upd H5 kp (.dT [])) rp (.lst []) kp = some (.dT []) := Same.upd hrp _ _ upd_same
          have hr6 : upd (upd H5 kp (.dT [])) rp (.lst []) rp = some (.lst []) := upd_same
          have hrp5 : H5 rp = none := upd_none hrp
          have b6 := b5.same q6
          have k6 := k5.trans (Kp.same q6)
          have hD6 := q6 _ _ hD5
          have pr6 := Paired.imp (fun _ _ z => PairAt.keep (.of q6) z) pr5
          have none5 : ∀ {c : Addr}, H5 c = none → H c = none := fun {c} hc => by
            cases e : H c with
            | none => rfl
            | some u =>
              by_cases z : c = bx
              · rw [z, b5.bx] at hc; cases hc
              · rw [k5 _ _ z e] at hc; cases hc
          have hkpn := none5 hkp
          have hrpn := none5 hrp5
          have rpb : rp ≠ bx := (ne_of_none hbx.bx hrpn).symm
          have rprw : rp ≠ rw1 := by
            obtain ⟨_, h1, _⟩ := b5.rs
            exact (ne_of_none h1 hrp5).symm
          have rpD : rp ≠ D := (ne_of_none hD5 hrp5).symm
          change tSeq _ _ _ [some (.ref bx), some (.int a), some (.int b), some (.ref D), some (.int x), some (.int y), some (.int low), some (.int high), some (.ref kp), some (.ref rp), v10, v11, v12, none, none] (upd (upd H5 kp (.dT [])) rp (.lst []))
          generalize upd (upd H5 kp (.dT [])) rp (.lst []) = H6 at hk6 hr6 b6 k6 hD6 pr6 ⊢
          clear q6 hkp hrp none5
          obtain ⟨rs, hrs6, prs6⟩ := b6.rs
          have lrs := Paired.len prs6
          refine ⟨_, rfl, bx, _, 1, _, rfl, rfl, SqL.of b6.bx, atI_nat (j := 1) rfl, rw1, rfl, ⟨_, SqL.of hrs6⟩, for_list (K := K) (a := rw1) (xs := rs)
            (fun i σ H' => ∃ rows left2 rr qs v10 v11 v12, σ = [some (.ref bx), some (.int a), some (.int b), some (.ref D), some (.int x), some (.int y), some (.int low), some (.int high), some (.ref kp), some (.ref rp), v10, v11, v12, none, none] ∧
              Kp bx H H' ∧ H' bx = some (.lst [.int made, .ref rw1]) ∧ H' rw1 = some (.lst rs) ∧ Paired (RowAt H') ws1 rs ∧ LI ws1 low high (left.map (pm (sg low high))) i rows left2 ∧ H' kp = some (.dT (rows.map wE)) ∧ H' rp = some (.lst rr) ∧ Paired (RowAt H') rows rr ∧ H' D = some (.lst qs) ∧ Paired (PairAt H') left2 qs)
            ⟨[], _, [], qs, v10, v11, v12, rfl, k6, b6.bx, hrs6, prs6, LI.start, hk6, hr6, .nil, hD6, pr6⟩ (fun i σ H' _ ⟨_, _, _, _, _, _, _, _, _, _, h, _⟩ => SqL.of h) ?_ ?_⟩
          · rintro i z σ H7 hz ⟨rows, left2, rr, qs, v10, v11, v12, rfl, k7, hb7, hrs7, prs7, li, hk7, hr7, prr7, hD7, prq7⟩
            obtain ⟨p, hp, r, c, rfl, hrow, hc⟩ := Paired.get prs7 hz
            have hi := (List.getElem?_eq_some_iff.mp hp).1
            have pla := lw.pla p.1 p.2 (List.mem_of_getElem? hp)
            refine ⟨_, rfl, _, rfl, _, rfl, r, _, 0, _, rfl, rfl, SqL.of hrow, atI_nat (j := 0) rfl, c, p.1, low, high, rfl, hc, pla.2.2, fun H8 nb s8 hnb => ⟨r, .ref c, low, high, p.2, rfl, s8 _ _ hrow, rfl, rfl, _, _, rfl, ?_⟩⟩
            change Ends.nx _ [some (.ref bx), some (.int a), some (.int b), some (.ref D), some (.int x), some (.int y), some (.int low), some (.int high), some (.ref kp), some (.ref rp), some (.ref r), some (.ref nb), some (.int (sg low high p.2 : Nat)), none, none] H8
            have k8 := k7.trans (Kp.same s8)
            have hb8 := s8 _ _ hb7
            have hrs8 := s8 _ _ hrs7
            have prs8 := Paired.imp (fun _ _ z => RowAt.same z s8) prs7
            have hk8 := s8 _ _ hk7
            have hr8 := s8 _ _ hr7
            have prr8 := Paired.imp (fun _ _ z => RowAt.same z s8) prr7
            have hD8 := s8 _ _ hD7
            have prq8 := Paired.imp (fun _ _ z => PairAt.keep (.of s8) z) prq7
            clear k7 hb7 hrs7 prs7 hk7 hr7 prr7 hD7 prq7 hrow hc
            have lln := li.lln
            rw [List.length_map] at lln
            have lrr := li.len
            refine ⟨_, rfl, _, rfl, kp, _, rfl, DGet.t hk8 hnb, _, rfl, ?_⟩
            rw [val_w]
            have get : ∀ {H' : Hp} {c : Nat}, H' kp = some (.dT (rows.map wE)) → H' nb = some (.tup ((p.1.map (sg low high)).key.map kV)) → look rows (p.1.map (sg low high)) = some c → DGet H' kp (.ref nb) (some (.int (c : Int))) := fun h1 h2 h3 => by
              have := DGet.t h1 h2
              rw [val_w, h3] at this
              exact this
            cases hl : look rows (p.1.map (sg low high)) with
            | none =>
              refine iteT ⟨_, rfl, _, rfl, _, rfl, kp, _, rfl, DPut.t hk8 hnb (by rw [List.length_map]; exact sz (by omega)), ?_⟩
              rw [put_w _ hl]
              have n9 : NR H8 kp := NR.dT hk8
              have k9 : Kp bx H (upd H8 kp (.dT ((rows ++ [(p.1.map (sg low high), sg low high p.2)]).map wE))) := k8.scr hkpn
              have ne9 : ∀ {q : Addr} {xs : List V}, H8 q = some (.lst xs) → upd H8 kp (.dT ((rows ++ [(p.1.map (sg low high), sg low high p.2)]).map wE)) q = some (.lst xs) := fun {q xs} e => by
                rw [upd_ne (fun z => by rw [z, hk8] at e; cases e)]; exact e
              have hb9 := ne9 hb8
              have hrs9 := ne9 hrs8
              have hr9 := ne9 hr8
              have hD9 := ne9 hD8
              have hnb9 := n9.tups (o := .dT ((rows ++ [(p.1.map (sg low high), sg low high p.2)]).map wE)) _ _ hnb
              have prs9 := Paired.imp (fun _ _ z => RowAt.upd (o := .dT ((rows ++ [(p.1.map (sg low high), sg low high p.2)]).map wE)) z n9) prs8
              have prr9 := Paired.imp (fun _ _ z => RowAt.upd (o := .dT ((rows ++ [(p.1.map (sg low high), sg low high p.2)]).map wE)) z n9) prr8
              have prq9 := Paired.imp (fun _ _ z => PairAt.keep (n9.tups (o := .dT ((rows ++ [(p.1.map (sg low high), sg low high p.2)]).map wE))) z) prq8
              have hk9 : upd H8 kp (.dT ((rows ++ [(p.1.map (sg low high), sg low high p.2)]).map wE)) kp = some (.dT ((rows ++ [(p.1.map (sg low high), sg low high p.2)]).map wE)) := upd_same
              generalize upd H8 kp (.dT ((rows ++ [(p.1.map (sg low high), sg low high p.2)]).map wE)) = H9 at k9 hb9 hrs9 hr9 hD9 hnb9 prs9 prr9 prq9 hk9 ⊢
              refine ⟨_, rfl, .inl ⟨rfl, _, SqL.of hr9⟩, _, rfl, _, rfl, (by show 2 ≤ sizeLine; decide), fun nr hnr => ?_⟩
              have s10 : Same H9 (upd H9 nr (.lst [.ref nb, .int (sg low high p.2 : Nat)])) := Same.upd hnr
              have row10 : RowAt (upd H9 nr (.lst [.ref nb, .int (sg low high p.2 : Nat)])) (p.1.map (sg low high), sg low high p.2) (.ref nr) := ⟨nr, nb, rfl, upd_same, s10 _ _ hnb9⟩
              have prr10 := Paired.imp (fun _ _ z => RowAt.same z s10) prr9
              have hr10 := s10 _ _ hr9
              refine ⟨rp, rr, _, rfl, rfl, hr10, ?_, ?_⟩
              · rw [← Paired.len prr10]; exact sz (by omega)
              · have n11 := NR.rows hr10 prr10
                have ne11 : ∀ {q : Addr} {u : HO}, q ≠ rp → H9 q = some u → upd (upd H9 nr (.lst [.ref nb, .int (sg low high p.2 : Nat)])) rp (.lst (rr ++ [.ref nr])) q = some u := fun {q u} h e => by rw [upd_ne h]; exact s10 _ _ e
                exact ⟨rows ++ [lrow low high p], left2, rr ++ [.ref nr], qs, _, _, _, rfl, (k9.trans (Kp.same s10)).scr hrpn, ne11 rpb.symm hb9, ne11 rprw.symm hrs9, Paired.imp (fun _ _ z => RowAt.upd (RowAt.same z s10) n11) prs9, li.add hp hl,
                  ne11 (fun z => by rw [z, hr9] at hk9; cases hk9) hk9, upd_same, Paired.snoc (row10.upd n11) (Paired.imp (fun _ _ z => RowAt.upd z n11) prr10), ne11 rpD.symm hD9, Paired.imp (fun _ _ z => PairAt.keep ((Tups.of s10).trans n11.tups) z) prq9⟩
            | some c =>
              refine iteF ⟨_, rfl, _, rfl, kp, .int (c : Int), rfl, get hk8 hnb hl, _, rfl, rfl, _, rfl, ?_⟩
              by_cases e : c = sg low high p.2
              · rw [show (!decide (V.int (c : Int) = V.int ((sg low high p.2 : Nat) : Int))) = false by rw [e]; simp]
                exact iteF ⟨rows, left2, rr, qs, _, _, _, rfl, k8, hb8, hrs8, prs8, li.got hp (hl.trans (by rw [e]; rfl)), hk8, hr8, prr8, hD8, prq8⟩
              · rw [show (!decide (V.int (c : Int) = V.int ((sg low high p.2 : Nat) : Int))) = true by
                  rw [decide_eq_false (fun z => e (by have := V.int.inj z; omega))]; rfl]
                refine iteT ⟨_, rfl, .inl ⟨rfl, _, SqL.of hD8⟩, _, rfl, _, rfl, kp, .int (c : Int), rfl, get hk8 hnb hl, _, rfl, (by show 2 ≤ sizeLine; decide), fun np hnp => ?_⟩
                have s10 : Same H8 (upd H8 np (.tup [.int (c : Nat), .int (sg low high p.2 : Nat)])) := Same.upd hnp
                have prq10 := Paired.imp (fun _ _ z => PairAt.keep (.of s10) z) prq8
                have hD10 := s10 _ _ hD8
                refine ⟨D, qs, _, rfl, rfl, hD10, ?_, ?_⟩
                · rw [← Paired.len prq10]; exact sz (by omega)
                · have n11 := NR.pairs hD10 prq10
                  have ne11 : ∀ {q : Addr} {u : HO}, q ≠ D → H8 q = some u → upd (upd H8 np (.tup [.int (c : Nat), .int (sg low high p.2 : Nat)])) D (.lst (qs ++ [.ref np])) q = some u := fun {q u} h e => by rw [upd_ne h]; exact s10 _ _ e
                  exact ⟨rows, left2 ++ [(c, (lrow low high p).2)], rr, qs ++ [.ref np], _, _, _, rfl, (k8.trans (Kp.same s10)).scr hDn, ne11 Db.symm hb8, ne11 Drw.symm hrs8, Paired.imp (fun _ _ z => RowAt.upd (RowAt.same z s10) n11) prs8, li.clash hp hl,
                    ne11 (fun z => by rw [z, hD8] at hk8; cases hk8) hk8, ne11 rpD hr8, Paired.imp (fun _ _ z => RowAt.upd (RowAt.same z s10) n11) prr8, upd_same, Paired.snoc ⟨np, rfl, n11.tups _ _ upd_same⟩ (Paired.imp (fun _ _ z => PairAt.keep n11.tups z) prq10)⟩
          · rintro σ H7 ⟨rows, left2, rr, qs, v10, v11, v12, rfl, k7, hb7, hrs7, prs7, li, hk7, hr7, prr7, hD7, prq7⟩
            rw [← lrs] at li
            obtain ⟨lw2, lt⟩ := lw.step elh hx li
            have b7 : BxAt H7 bx rw1 ws1 made := ⟨hb7, rs, hrs7, prs7⟩
            refine ⟨_, rfl, _, rfl, bx, _, 1, 1, rfl, rfl, hb7, rfl, ?_⟩
            have n8 : Tups H7 (upd H7 bx (.lst [.int made, .ref rp])) := Tups.upd fun xs e => by rw [hb7] at e; cases e
            exact ⟨rows, rp, sg low high ∘ ρ, left2, out high L, D, qs, _, _, _, _, _, _, _, _, _, lt, rfl, k7.trans Kp.upd, .inr hrpn, b7.set rpb hr7 prr7, lw2, hDn, by rw [upd_ne Db]; exact hD7, Paired.imp (fun _ _ z => PairAt.keep n8 z) prq7, rpD.symm⟩
end K45
/-! part K45Q4 -/
set_option autoImplicit true
set_option Elab.async false
set_option linter.all false
set_option maxRecDepth 100000
set_option maxHeartbeats 4000000
/-! Walks: _law_find. -/
namespace K45
open PySem PySem.Spec PyProof.Rows L2
variable {P : Program} {w : World} {K : PySem.W.Frag} {mg : Str → Option Value} {base : Heap}
theorem filter_one {ws : List (N × Nat)} {n : N} {i : Nat} (nd : (ws.map (·.1)).Nodup) (h : (n, i) ∈ ws) : ws.filter (fun p => decide (p.1 = n)) = [(n, i)] := by
  induction ws with
  | nil => cases h
  | cons p ws ih =>
    obtain ⟨h1, h2⟩ := List.nodup_cons.mp nd
    rcases List.mem_cons.mp h with rfl | h
    · rw [List.filter_cons_of_pos (by simp)]
      rw [List.filter_eq_nil_iff.mpr fun q hq => by
        simp only [decide_eq_true_eq]
        exact fun e => h1 (by rw [← e]; exact List.mem_map.mpr ⟨q, hq, rfl⟩)]
    · rw [List.filter_cons_of_neg (by simp only [decide_eq_true_eq]; exact fun e => h1 (List.mem_map.mpr ⟨_, h, e.symm⟩))]
      exact ih h2 h
theorem dpL_ints (zs : List Nat) : SeqAt.shaped (.list (zs.map fun i => kD (idK i))) = true := by
  have h := ids_ok zs
  unfold SeqAt.shaped
  simp only [PyData.canLay0, PyData.depth, h.1, Bool.true_and]
  exact decide_eq_true (by have := h.2; omega)
def sp_lfind (n : Nat) : Sp := fun vs H Q _ => ∃ (bx rw : Addr) (ws : List (N × Nat)) (made : Nat) (t : T) (v : V) (i : Nat), vs = [.ref bx, v] ∧ BxAt H bx rw ws made ∧ (ws.map (·.1)).Nodup ∧ ws.length ≤ 2000 ∧ TmAt H t v ∧ t.depth ≤ n ∧ t.depth ≤ 50 ∧ find (look ws) t = some i ∧
  ∀ H', Same H H' → Q (.int (i : Int)) H'
abbrev nFnd : List Str := ["_law_box", "_law_term_here", "_law_parts_here", "_law_node", "_law_found", "_law_part", "_law_row"]
theorem sc_lfind : FnScope nFnd ["_law_box", "_law_term_here"] (defScope s__law_find) := ⟨rfl, rfl, rfl, by decide +kernel, rfl, by decide +kernel, by decide +kernel⟩
theorem ok_lfind (X : Fx P w K mg base) : ∀ n : Nat, OkD P w K mg base "_law_find" ["_law_box", "_law_term_here"] (n + 2) (sp_lfind n) := by
  have step : ∀ (n : Nat) (rec : n = 0 ∨ ∃ m, n = m + 1 ∧ OkD P w K mg base "_law_find" ["_law_box", "_law_term_here"] (n + 1) (sp_lfind m)), OkD P w K mg base "_law_find" ["_law_box", "_law_term_here"] (n + 2) (sp_lfind n) := by
    intro n rec
    obtain ⟨fd, F⟩ := X.fn 28 (d := d__law_find) rfl
    obtain ⟨_, _, D1⟩ := (ok_lparts X).mono (k := n + 1) (by omega)
    refine ⟨_, fd, X.glo _ (X.fact 28 (f := .glo "_law_find") rfl), F.kp, F.bindsN fun _ _ _ _ _ _ us hl => match us, hl with | [_, _], _ => rfl, okN F sc_lfind (fun vs H Q E h => ?_) (fun cdv A outer s H vs Q E hr h => ?_)⟩
    · obtain ⟨_, _, _, _, _, _, _, rfl, _⟩ := h
      rfl
    · obtain ⟨bx, rw, ws, made, t, v, i, rfl, hbx, hnd, hlen, ht, hd, hd5, hf, hQ⟩ := h
      obtain ⟨m, rfl, f', fd', D⟩ : ∃ m, n = m + 1 ∧ OkD P w K mg base "_law_find" ["_law_box", "_law_term_here"] (n + 1) (sp_lfind m) := by
        rcases rec with e | e
        · have := t.depth_pos
          omega
        · exact e
      obtain ⟨a, us, rfl, ha, hp⟩ := TmAt.iff.mp ht
      obtain ⟨nn, hnn, hw⟩ := find_some hf
      obtain ⟨n1, n2⟩ := nd_iff.mp hnn
      have leafc : ∀ i, t.hd = .lf i → us = [] := fun i e => by
        have e0 : t = .lf i := by
          cases t <;> simp only [T.hd, Hd.lf.injEq, reduceCtorEq] at e
          rw [e]
        subst e0
        cases hp
        rfl
      obtain ⟨t2, hrest, fin⟩ : ∃ t2, PSs (cxOf CX0 P w K mg base nFnd "_law_find" (defScope s__law_find) (He.fAd K d__law_find.at_) cdv A outer s H E).nox ((defBody s__law_find).drop 3) t2 ∧
          ∀ (H1 : Hp) (b : Addr) (v2 : Option V), Same H H1 → H1 b = some (.tup (nn.key.map kV)) → t2 { nx := fun _ H' => Q .non H', rt := Q } [some (.ref bx), some (.ref a), v2, some (.ref b), none, none, none] H1 := by
        refine ⟨_, pss_cons (ps_setLc (i := 4) (own := [("_law_row", 6)]) (g := gName 6) (tt := tTest (tOp (rEqD K) (tOp (rIxL K) (tVar 6) (tC (.int 0))) (tVar 3))) (te := tOp (rIxL K) (tVar 6) (tC (.int 1))) rfl sc_lfind.nd rfl rfl (by rfl) (pi_list (pe_ix ix_list (pv 0) pe_int (fun _ _ => rfl)))
            (blkOk_by (own := [("_law_row", 6)]) (N := nFnd) (sc := defScope s__law_find) (by decide +kernel)) (fun _ _ _ _ _ => pg_name (i := 6) sc_lfind.nd rfl (Or.inl rfl)) (fun _ _ _ _ _ => pts_one (pt_cmpR (op_eqD hr.units) (pe_ix ix_list (pv 6) pe_int (fun _ _ => rfl)) (pv 3) (nomark _)))
            (fun _ _ _ _ _ => pe_ix ix_list (pv 6) pe_int (fun _ _ => rfl)))
          (pss_one (ps_ret (pe_ifExp (pt_cmpR (op_neD hr.units) (pv 4) (pe_lst pa_nil) (nomark _)) (pe_ix ix_list (pv 4) pe_int (fun _ _ => rfl)) pe_non))), ?_⟩
        intro H1 b v2 s1 hb
        have b1 := hbx.same s1
        obtain ⟨rs, hrs, prs⟩ := b1.rs
        refine ⟨_, rfl, bx, _, 1, _, rfl, rfl, SqL.of b1.bx, atI_nat (j := 1) rfl, rw, rfl, ⟨_, SqL.of hrs⟩, fun D' hD => lc_list (K := K) (a := rw) (xs := rs) (fun j H2 => Same H1 H2 ∧ H2 D' = some (.lst (((ws.take j).filter fun p => decide (p.1 = nn)).map fun p => V.int (p.2 : Int))))
          ⟨Same.upd hD, upd_same⟩ (fun j H2 _ ⟨h, _⟩ => SqL.of (h _ _ hrs)) ?_ ?_⟩
        · rintro j x H2 hx ⟨s2, hD2⟩
          obtain ⟨p, hp1, r, c, rfl, hr1, hc1⟩ := Paired.get prs hx
          refine ⟨rfl, _, rfl, r, _, 0, _, rfl, rfl, SqL.of (s2 _ _ hr1), atI_nat (j := 0) rfl, _, rfl, encN p.1, encN nn, dpN (s2 _ _ hc1), dpN (s2 _ _ hb), encN_shaped _, encN_shaped _, _, rfl, ?_⟩
          rw [encN_eqv]
          by_cases e : p.1 = nn
          · rw [decide_eq_true e]
            refine iteT ⟨_, rfl, r, _, 1, _, rfl, rfl, SqL.of (s2 _ _ hr1), atI_nat (j := 1) rfl, _, hD2, ?_, fun b u e => ?_, ?_⟩
            · rw [List.length_map]
              have h1 := List.length_filter_le (fun p : N × Nat => decide (p.1 = nn)) (ws.take j)
              have h2 := List.length_take_le j ws
              exact Nat.lt_of_le_of_lt (show _ ≤ 2000 by rw [List.length_take] at h1; omega) (by decide)
            · rw [upd_ne (ne_of_none e hD)]; exact s2 _ _ e
            · rw [upd_same, take_snoc hp1, List.filter_append, List.map_append, List.filter_cons_of_pos (by simp [e])]
              rfl
          · rw [decide_eq_false e]
            refine iteF ⟨s2, ?_⟩
            rw [hD2, take_snoc hp1, List.filter_append, List.filter_cons_of_neg (by simp [e]), List.filter_nil, List.append_nil]
        · rintro H2 ⟨s2, hD2⟩
          rw [← Paired.len prs, List.take_length, filter_one hnd (look_mem hw)] at hD2
          refine ⟨_, rfl, (by show 0 ≤ sizeLine; decide), fun q hq => ?_⟩
          have s3 : Same H2 (upd H2 q (.lst [])) := Same.upd hq
          have hD3 := s3 _ _ hD2
          refine ⟨.list [.int (i : Int)], .list [], .lst (SqL.of hD3) (.cons (.int _) .nil), .lst (SqL.of upd_same) .nil, ?_, by decide +kernel, _, rfl, ?_⟩
          · exact dpL_ints [i]
          · rw [eqv_nilL]
            exact iteT ⟨_, rfl, D', _, 0, _, rfl, rfl, SqL.of hD3, atI_nat (j := 0) rfl, hQ _ (Same.trans s1 (Same.trans s2 s3))⟩
      refine ⟨_, pss_cons (ps_setLc (i := 2) (own := [("_law_part", 5)]) (g := gName 5) (tt := tYes) rfl sc_lfind.nd rfl rfl (by rfl) (pi_tup (pe_d D1 hr (by rfl) (pa_cons (pv 1) pa_nil)))
            (blkOk_by (own := [("_law_part", 5)]) (N := nFnd) (sc := defScope s__law_find) (by decide +kernel)) (fun _ _ _ _ _ => pg_name (i := 5) sc_lfind.nd rfl (Or.inl rfl)) (fun _ _ _ _ _ => pts_nil)
            (fun _ _ _ _ _ => pe_d D hr (by rfl) (pa_cons (pv 0) (pa_cons (pv 5) pa_nil))))
        (pss_cons (ps_if (pt_cmpR op_in_seq pe_non (pv 2) rfl) (pss_one (ps_ret pe_non)) pss_nil)
        (pss_cons (ps_set (i := 3) sc_lfind.nd rfl (Or.inr rfl) (pe_ifExp (pt_cmpR (op_neD hr.units) (pv 2) (pe_lst pa_nil) (nomark _))
          (pe_op op_catT (pe_tup (pa_cons (pe_ix ix_tup (pv 1) pe_int (fun _ _ => rfl)) pa_nil)) (pe_callTy call_tuple_of (by rfl) X.b_tuple (by decide +kernel) (pa_cons (pv 2) pa_nil))) (pv 1))) hrest)), ?_⟩
      refine ⟨_, rfl, a, t.hd, us, rfl, ha, leafc, fun H1 p s1 hp1 => ⟨p, rfl, ⟨_, SqT.of hp1⟩, fun D' hD => lc_tup (K := K) (a := p) (xs := us) (fun j H2 => Same H1 H2 ∧ H2 D' = some (.lst ((nn.ids.take j).map fun j : Nat => V.int (j : Int))))
        ⟨Same.upd hD, upd_same⟩ (fun j H2 _ ⟨h, _⟩ => SqT.of (h _ _ hp1)) ?_ ?_⟩⟩
      · rintro j x H2 hx ⟨s2, hD2⟩
        obtain ⟨t', ht', tx⟩ := Paired.get hp hx
        have mp : t' ∈ t.parts := List.mem_of_getElem? ht'
        have s02 := Same.trans s1 s2
        obtain ⟨y, hy, fy⟩ : ∃ y, nn.ids[j]? = some y ∧ find (look ws) t' = some y := by
          have := congrArg (fun l => l[j]?) n2
          simp only [List.getElem?_map, ht', Option.map_some] at this
          cases e : nn.ids[j]? with
          | none => rw [e] at this; cases this
          | some y =>
            rw [e] at this
            exact ⟨y, rfl, Option.some.inj this⟩
        refine ⟨rfl, _, rfl, _, rfl, bx, rw, ws, made, t', x, y, rfl, hbx.same s02, hnd, hlen, tx.keep (.of s02), ?_, ?_, fy, fun H3 s3 => ⟨_, s3 _ _ hD2, ?_, fun b u e => ?_, ?_⟩⟩
        · have := T.depth_part mp; omega
        · have := T.depth_part mp; omega
        · rw [List.length_map, List.length_take]; exact size6 (by have := nd_len hnn; omega)
        · rw [upd_ne (ne_of_none e hD)]; exact s3 _ _ (s2 _ _ e)
        · rw [upd_same, take_snoc hy, List.map_append]; rfl
      · rintro H2 ⟨s2, hD2⟩
        have lu : us.length = nn.ids.length := by
          have := congrArg List.length n2
          rw [List.length_map, List.length_map, Paired.len hp] at this
          exact this
        rw [lu, List.take_length] at hD2
        have s02 := Same.trans s1 s2
        change tSeq _ _ _ [some (.ref bx), some (.ref a), some (.ref D'), none, none, none, none] H2
        refine ⟨_, rfl, D', _, rfl, .inl (SqL.of hD2), rfl, flat_ids nn.ids, _, rfl, ?_⟩
        show if (if false = true then !inV .non (nn.ids.map fun j : Nat => V.int (j : Int)) else inV .non (nn.ids.map fun j : Nat => V.int (j : Int))) = true then _ else _
        rw [if_neg Bool.false_ne_true, no_none]
        refine iteF ⟨_, rfl, (by show 0 ≤ sizeLine; decide), fun q hq => ?_⟩
        have s3 : Same H2 (upd H2 q (.lst [])) := Same.upd hq
        have hD3 := s3 _ _ hD2
        refine ⟨.list (nn.ids.map fun i => kD (idK i)), .list [], .lst (SqL.of hD3) (dp_ids _), .lst (SqL.of upd_same) .nil, dpL_ints _, by decide +kernel, _, rfl, ?_⟩
        rw [eqv_nilL]
        generalize upd H2 q (.lst []) = H3 at s3 hD3 ⊢
        have s03 := Same.trans s02 s3
        have ha3 := s03 _ _ ha
        by_cases e0 : nn.ids = []
        · rw [e0]
          refine iteF ⟨_, rfl, fin H3 a _ s03 ?_⟩
          rw [N.key_map, ha3, n1, e0]
          have : us = [] := List.eq_nil_of_length_eq_zero (by rw [lu, e0]; rfl)
          rw [this]
          rfl
        · have e3 : (!(nn.ids.map fun i => kD (idK i)).isEmpty) = true := by
            cases e : nn.ids with
            | nil => exact absurd e e0
            | cons => rfl
          rw [e3]
          have hrest0 : t.hd.rest = [] := by
            cases t with
            | lf i =>
              have := congrArg List.length n2
              rw [List.length_map, List.length_map] at this
              exact absurd (List.eq_nil_of_length_eq_zero this.symm) e0
            | un l x => rfl
            | bin l x y => rfl
            | ter l x y z => rfl
          refine iteT ⟨_, rfl, a, _, 0, _, rfl, rfl, SqT.of ha3, atI_nat (j := 0) rfl, (by show 1 ≤ sizeLine; decide), fun p1 hp1 => ⟨_, rfl, D', _, rfl, .inl ⟨SqL.of (Same.upd hp1 _ _ hD3), fun y hy => ?_⟩⟩⟩
          have s4 : Same H3 (upd H3 p1 (.tup [.str t.hd.str])) := Same.upd hp1
          have s5 : Same (upd H3 p1 (.tup [.str t.hd.str])) (upd (upd H3 p1 (.tup [.str t.hd.str])) y (.tup (nn.ids.map fun j : Nat => V.int (j : Int)))) := Same.upd hy
          refine ⟨p1, y, [.str t.hd.str], _, rfl, rfl, SqT.of (s5 _ _ upd_same), SqT.of upd_same, (fun z => by cases z), ?_, fun z => ?_, fun _ z hz => ?_⟩
          · rw [List.length_map]
            exact Nat.le_of_lt (size6 (by have := nd_len hnn; show 1 + nn.ids.length ≤ 6; omega))
          · have := congrArg List.length z
            rw [List.length_map, List.length_nil] at this
            exact absurd (List.eq_nil_of_length_eq_zero this) e0
          · refine fin _ z _ (Same.trans s03 (Same.trans s4 (Same.trans s5 (Same.upd hz)))) ?_
            rw [N.key_map, n1, hrest0]
            exact upd_same
  intro n
  induction n with
  | zero => exact step 0 (.inl rfl)
  | succ m ih => exact step (m + 1) (.inr ⟨m, rfl, ih⟩)
end K45
/-! part K45Q5 -/
set_option autoImplicit true
set_option Elab.async false
set_option linter.all false
set_option maxRecDepth 100000
set_option maxHeartbeats 4000000
/-! Walks: _law_as_told. -/
namespace K45
open PySem PySem.Spec PyProof.Rows L2
variable {P : Program} {w : World} {K : PySem.W.Frag} {mg : Str → Option Value} {base : Heap}
/-! the classes of the rows, each once -/
def addC (l : List Nat) (c : Nat) : List Nat := if c ∈ l then l else l ++ [c]
def addAll (l cs : List Nat) : List Nat := cs.foldl addC l
theorem addC_nodup {l : List Nat} {c : Nat} (h : l.Nodup) : (addC l c).Nodup := by
  unfold addC
  split
  · exact h
  · rename_i q
    exact List.nodup_append.mpr ⟨h, by simp, fun a ha b hb => by rw [List.mem_singleton.mp hb]; exact fun e => q (by rw [← e]; exact ha)⟩
theorem mem_addC {l : List Nat} {c d : Nat} : d ∈ addC l c ↔ d ∈ l ∨ d = c := by
  unfold addC
  split
  · exact ⟨.inl, fun z => z.elim (fun z => z) fun e => by rw [e]; assumption⟩
  · simp
theorem addAll_nodup : ∀ (cs l : List Nat), l.Nodup → (addAll l cs).Nodup
  | [], l, h => h
  | c :: cs, l, h => addAll_nodup cs _ (addC_nodup h)
theorem mem_addAll : ∀ (cs l : List Nat) (d : Nat), d ∈ addAll l cs ↔ d ∈ l ∨ d ∈ cs
  | [], l, d => by simp [addAll]
  | c :: cs, l, d => by
    show d ∈ addAll (addC l c) cs ↔ _
    rw [mem_addAll cs, mem_addC, List.mem_cons, or_assoc]
theorem addAll_len : ∀ (cs l : List Nat), (addAll l cs).length ≤ l.length + cs.length
  | [], l => Nat.le_refl _
  | c :: cs, l => by
    have h := addAll_len cs (addC l c)
    have h2 : (addC l c).length ≤ l.length + 1 := by
      unfold addC
      split
      · omega
      · rw [List.length_append]; simp
    show (addAll (addC l c) cs).length ≤ _
    rw [List.length_cons]
    omega
theorem put_true (l : List Nat) (c : Nat) : putK (l.map fun d => (idK d, V.bl true)) (idK c) (.bl true) = (addC l c).map fun d => (idK d, V.bl true) := by
  unfold addC
  by_cases h : c ∈ l
  · rw [if_pos h]
    unfold putK
    rw [if_pos (by rw [valV_any, val_i (f := fun _ => V.bl true), if_pos h]; rfl), List.map_map]
    refine List.map_congr_left fun d _ => ?_
    show (if idK d = idK c then (idK d, V.bl true) else (idK d, V.bl true)) = _
    split <;> rfl
  · rw [if_neg h, put_i (f := fun _ => V.bl true) _ h]
    refine List.map_congr_left fun d _ => ?_
    split <;> rfl
theorem merge_true : ∀ (cs l : List Nat), mergeK (l.map fun d => (idK d, V.bl true)) (cs.map fun d => (idK d, V.bl true)) = (addAll l cs).map fun d => (idK d, V.bl true)
  | [], l => rfl
  | c :: cs, l => by
    show mergeK (putK (l.map fun d => (idK d, V.bl true)) (idK c) (.bl true)) (cs.map fun d => (idK d, V.bl true)) = (addAll (addC l c) cs).map _
    rw [put_true, merge_true cs]
def rTupOf (K : PySem.W.Frag) : List V → Hp → VK → Prop := fun xs H Q => ∃ p ys, xs = [.ref p] ∧ ((SqL K H p ys ∧ ∀ l, H l = none → Q (.ref l) (upd H l (.tup ys))) ∨ (SqT K H p ys ∧ Q (.ref p) H))
def lcSc : Expr → Scope
  | .ListComp _ _ sc _ => sc
  | _ => defScope (.Pass ⟨0, 0, 0, 0⟩)
def relB (sc : Scope) (x : Str) : Scope := { sc with names := sc.names.map fun (n, k) => if n == x then (n, .cell) else (n, k) }
def tupAt : Expr → Nat → Expr
  | .Tuple es _ _, i => es.getD i (.Name "" ⟨0, 0, 0, 0⟩)
  | e, _ => e
def retOf : Stmt → Expr
  | .Return (some e) _ => e
  | _ => .Name "" ⟨0, 0, 0, 0⟩
def sp_last : Sp := fun vs H Q _ => ∃ (bx rw : Addr) (ws : List (N × Nat)) (made : Nat), vs = [.ref bx] ∧ BxAt H bx rw ws made ∧ ws.length ≤ 2000 ∧
  ∀ H' p q us x2 x3, Same H H' → H' p = some (.tup [.ref q, x2, x3]) → H' q = some (.lst us) → us.length = (addAll [] (ws.map (·.2))).length → Q (.ref p) H'
abbrev nAs : List Str := ["_law_box", "_law_places", "_law_row", "_law_place"]
theorem sc_last : FnScope nAs ["_law_box"] (defScope s__law_as_told) := ⟨rfl, rfl, rfl, by decide +kernel, rfl, by decide +kernel, by decide +kernel⟩
theorem ok_last (X : Fx P w K mg base) : OkD P w K mg base "_law_as_told" ["_law_box"] 1 sp_last := by
  obtain ⟨fd, F⟩ := X.fn 29 (d := d__law_as_told) rfl
  refine ⟨_, fd, X.glo _ (X.fact 29 (f := .glo "_law_as_told") rfl), F.kp, F.bindsN fun _ _ _ _ _ _ us hl => match us, hl with | [_], _ => rfl, okN F sc_last (fun vs H Q E h => ?_) (fun cdv A outer s H vs Q E hr h => ?_)⟩
  · obtain ⟨_, _, _, _, rfl, _⟩ := h
    rfl
  · obtain ⟨bx, rw, ws, made, rfl, hbx, hlen, hQ⟩ := h
    refine ⟨_, pss_cons (ps_set (i := 1) sc_last.nd rfl (Or.inl rfl) (pe_callB (cr_sortedDI rfl) (by rfl) X.b_sorted (by decide +kernel) (pa_cons (pe_callTy (call_dictP rfl) (by rfl) X.b_dict (by decide +kernel)
          (pa_cons (pe_lc (own := [("_law_row", 2)]) (g := gName 2) (tt := tYes) (te := tTup (tCons (tOp (rIxL K) (tVar 2) (tC (.int 1))) (tCons (tC (.bl true)) tNil))) rfl sc_last.nd (pi_list (pe_ix ix_list (pv 0) pe_int (fun _ _ => rfl)))
            (blkOk_by (own := [("_law_row", 2)]) (N := nAs) (sc := defScope s__law_as_told) (by decide +kernel)) (fun _ _ _ _ _ => pg_name (i := 2) sc_last.nd rfl (Or.inl rfl)) (fun _ _ _ _ _ => pts_nil)
            (fun _ _ _ _ _ => pe_tup (pa_cons (pe_ix ix_list (pv 2) pe_int (fun _ _ => rfl)) (pa_cons pe_bl pa_nil)))) pa_nil)) pa_nil)))
      (pss_one (ps_ret (pe_tup (pa_cons (pv 1) (pa_cons (pe_callB call_len_seq (by rfl) X.b_len (by decide +kernel) (pa_cons (pe_ix ix_list (pv 0) pe_int (fun _ _ => rfl)) pa_nil))
        (pa_cons (pe_lc (own := [("_law_place", 3)]) (g := gName 3) (tt := tYes) (te := tCB (rTupOf K) (tCons (tCB (rSortedNL K) (tCons (tLc (iList K (tOp (rIxL K) (tVar 0) (tC (.int 1)))) (gName 2) (tTest (tOp rEq (tOp (rIxL K) (tVar 2) (tC (.int 1))) (tVar 3))) (tOp (rIxL K) (tVar 2) (tC (.int 0))) [2]) tNil)) tNil))
          rfl sc_last.nd (pi_list (pv 1)) (blkOk_by (own := [("_law_place", 3)]) (N := nAs) (sc := defScope s__law_as_told) (by decide +kernel)) (fun _ _ _ _ _ => pg_name (i := 3) sc_last.nd rfl (Or.inr rfl)) (fun _ _ _ _ _ => pts_nil)
          (fun _ _ _ _ _ => pe_callTy call_tuple_of (by rfl) X.b_tuple (by decide +kernel) (pa_cons (pe_callB cr_sortedNL (by rfl) X.b_sorted (by decide +kernel)
            (pa_cons (pe_lc (own := [("_law_row", 2)]) rfl sc_last.nd (pi_list (pe_ix ix_list (pv 0) pe_int (fun _ _ => rfl)))
              (by
                refine blkOk_by (own := [("_law_row", 2)]) ?_
                show blkC nAs (relB (lcSc (tupAt (retOf (stAt s__law_as_told 1)) 2)) "_law_box") _ _ = true
                decide +kernel) (fun _ _ _ _ _ => pg_name (i := 2) sc_last.nd rfl (Or.inl rfl))
              (fun _ _ _ _ _ => pts_one (pt_cmpR op_eq (pe_ix ix_list (pv 2) pe_int (fun _ _ => rfl)) (pv 3) (nomark _))) (fun _ _ _ _ _ => pe_ix ix_list (pv 2) pe_int (fun _ _ => rfl))) pa_nil)) pa_nil))) pa_nil)))))), ?_⟩
    obtain ⟨rs, hrs, prs⟩ := hbx.rs
    refine ⟨_, rfl, bx, _, 1, _, rfl, rfl, SqL.of hbx.bx, atI_nat (j := 1) rfl, rw, rfl, ⟨_, SqL.of hrs⟩, fun D hD => lc_list (K := K) (a := rw) (xs := rs)
      (fun i H' => Same H H' ∧ ∃ ps : List Addr, H' D = some (.lst (ps.map V.ref)) ∧ Paired (fun p (c : Nat) => H' p = some (.tup [.int (c : Int), .bl true])) ps ((ws.take i).map (·.2)))
      ⟨Same.upd hD, [], upd_same, .nil⟩ (fun i H' _ ⟨h, _⟩ => SqL.of (h _ _ hrs)) ?_ ?_⟩
    · rintro i x H1 hx ⟨s1, ps, hD1, pr1⟩
      obtain ⟨p, hp, r, c, rfl, hr1, hc1⟩ := Paired.get prs hx
      have hi := (List.getElem?_eq_some_iff.mp hp).1
      have lp := Paired.len pr1
      rw [List.length_map, List.length_take] at lp
      refine ⟨rfl, _, rfl, r, _, 1, _, rfl, rfl, SqL.of (s1 _ _ hr1), atI_nat (j := 1) rfl, (by show 2 ≤ sizeLine; decide), fun q hq => ⟨_, Same.upd hq _ _ hD1, ?_, fun b u e => ?_, ps ++ [q], ?_, ?_⟩⟩
      · rw [List.length_map]
        exact Nat.lt_of_le_of_lt (show ps.length ≤ 2000 by omega) (by decide)
      · rw [upd_ne (ne_of_none e hD)]; exact Same.upd hq _ _ (s1 _ _ e)
      · rw [upd_same, List.map_append]; rfl
      · have t1 : Tups H1 (upd (upd H1 q (.tup [.int (p.2 : Int), .bl true])) D (.lst (ps.map V.ref ++ [.ref q]))) := (Tups.of (Same.upd hq)).trans (Tups.upd fun xs e => by rw [Same.upd hq _ _ hD1] at e; cases e)
        have t2 : Tups (upd H1 q (.tup [.int (p.2 : Int), .bl true])) (upd (upd H1 q (.tup [.int (p.2 : Int), .bl true])) D (.lst (ps.map V.ref ++ [.ref q]))) := Tups.upd fun xs e => by rw [Same.upd hq _ _ hD1] at e; cases e
        rw [take_snoc hp, List.map_append, List.map_cons, List.map_nil]
        generalize p.2 = p0 at t1 t2 ⊢
        exact Paired.snoc (R := fun p (c : Nat) => upd (upd H1 q (.tup [.int (p0 : Int), .bl true])) D (.lst (ps.map V.ref ++ [.ref q])) p = some (.tup [.int (c : Int), .bl true])) (t2 _ _ upd_same) (Paired.imp (fun _ _ z => t1 _ _ z) pr1)
    · rintro H1 ⟨s1, ps, hD1, pr1⟩
      rw [← Paired.len prs, List.take_length] at pr1
      have mt : ∀ {cs : List Nat} {ps : List Addr}, Paired (fun p (c : Nat) => H1 p = some (.tup [.int (c : Int), .bl true])) ps cs → Paired (fun p kv => SqT K H1 p [kV kv.1, kv.2]) ps (cs.map fun d => (idK d, V.bl true)) := fun {cs ps} h => by
        induction h with
        | nil => exact .nil
        | cons r _ ih => exact .cons (SqT.of r) ih
      refine ⟨D, ps, _, rfl, SqL.of hD1, mt pr1, fun dp hdp => ?_⟩
      have mt0 : mergeK (([] : List Nat).map fun d => (idK d, V.bl true)) ((ws.map (·.2)).map fun d => (idK d, V.bl true)) = (addAll [] (ws.map (·.2))).map (fun d => (idK d, V.bl true)) := merge_true _ []
      rw [show mergeK [] ((ws.map (·.2)).map fun d => (idK d, V.bl true)) = (addAll [] (ws.map (·.2))).map (fun d => (idK d, V.bl true)) from mt0]
      refine ⟨dp, _, (addAll [] (ws.map (·.2))).map (fun c : Nat => (c : Int)), rfl, .inl upd_same, by rw [List.map_map, List.map_map]; rfl, fun ys lp perm srt hlp => ?_⟩
      have s2 : Same H1 (upd (upd H1 dp (.dK ((addAll [] (ws.map (·.2))).map fun d => (idK d, V.bl true)))) lp (.lst (ys.map V.int))) := Same.trans (Same.upd hdp) (Same.upd hlp)
      have hl2 : upd (upd H1 dp (.dK ((addAll [] (ws.map (·.2))).map fun d => (idK d, V.bl true)))) lp (.lst (ys.map V.int)) lp = some (.lst (ys.map V.int)) := upd_same
      change Ends.nx _ [some (.ref bx), some (.ref lp), none, none] (upd (upd H1 dp (.dK ((addAll [] (ws.map (·.2))).map fun d => (idK d, V.bl true)))) lp (.lst (ys.map V.int)))
      generalize upd (upd H1 dp (.dK ((addAll [] (ws.map (·.2))).map fun d => (idK d, V.bl true)))) lp (.lst (ys.map V.int)) = H2 at s2 hl2 ⊢
      have s02 := Same.trans s1 s2
      have lys : ys.length = (addAll [] (ws.map (·.2))).length := by rw [perm.length_eq, List.length_map]
      have lad := addAll_len (ws.map (·.2)) []
      rw [List.length_map, List.length_nil] at lad
      refine ⟨_, rfl, _, rfl, bx, _, 1, _, rfl, rfl, SqL.of (s02 _ _ hbx.bx), atI_nat (j := 1) rfl, rw, _, rfl, .inl (SqL.of (s02 _ _ hrs)), _, rfl, lp, rfl, ⟨_, SqL.of hl2⟩, fun D2 hD2 => lc_list (K := K) (a := lp) (xs := ys.map V.int)
        (fun i H' => Same H2 H' ∧ ∃ acc, H' D2 = some (.lst acc) ∧ acc.length = i) ⟨Same.upd hD2, [], upd_same, rfl⟩ (fun i H' _ ⟨h, _⟩ => SqL.of (h _ _ hl2)) ?_ ?_⟩
      · rintro i x H3 hx ⟨s3, acc, hD3, hacc⟩
        rw [List.getElem?_map] at hx
        obtain ⟨y, hy, rfl⟩ := Option.map_eq_some_iff.mp hx
        have hi := (List.getElem?_eq_some_iff.mp hy).1
        have s03 := Same.trans s02 s3
        refine ⟨rfl, _, rfl, bx, _, 1, _, rfl, rfl, SqL.of (s03 _ _ hbx.bx), atI_nat (j := 1) rfl, rw, rfl, ⟨_, SqL.of (s03 _ _ hrs)⟩, fun D3 hD4 => lc_list (K := K) (a := rw) (xs := rs)
          (fun j H' => Same H3 H' ∧ ∃ bs : List Addr, bs.length ≤ j ∧ H' D3 = some (.lst (bs.map V.ref)) ∧ ∀ b ∈ bs, ∃ n : N, H' b = some (.tup (n.key.map kV)))
          ⟨Same.upd hD4, [], Nat.le_refl _, upd_same, fun b hb => (by cases hb)⟩ (fun j H' _ ⟨h, _⟩ => SqL.of (h _ _ (s03 _ _ hrs))) ?_ ?_⟩
        · rintro j x H4 hx ⟨s4, bs, lbs, hD5, hbs⟩
          obtain ⟨p, hp, r, c, rfl, hr1, hc1⟩ := Paired.get prs hx
          have hj := (List.getElem?_eq_some_iff.mp hp).1
          have s04 := Same.trans s03 s4
          refine ⟨rfl, _, rfl, r, _, 1, _, rfl, rfl, SqL.of (s04 _ _ hr1), atI_nat (j := 1) rfl, _, rfl, rfl, _, rfl, ?_⟩
          refine ite2 (fun _ => ⟨_, rfl, r, _, 0, _, rfl, rfl, SqL.of (s04 _ _ hr1), atI_nat (j := 0) rfl, _, hD5, ?_, fun b u e => ?_, bs ++ [c], ?_, ?_, fun b hb => ?_⟩) (fun _ => ⟨s4, bs, Nat.le_succ_of_le lbs, hD5, hbs⟩)
          · rw [List.length_map]
            exact Nat.lt_of_le_of_lt (show bs.length ≤ 2000 by omega) (by decide)
          · rw [upd_ne (ne_of_none e hD4)]; exact s4 _ _ e
          · rw [List.length_append]; simp; omega
          · rw [upd_same, List.map_append]; rfl
          · have t5 : Tups H4 (upd H4 D3 (.lst (bs.map V.ref ++ [.ref c]))) := Tups.upd fun xs e => by rw [hD5] at e; cases e
            rcases List.mem_append.mp hb with hb | hb
            · obtain ⟨n, hn⟩ := hbs b hb
              exact ⟨n, t5 _ _ hn⟩
            · rw [List.mem_singleton.mp hb]
              exact ⟨p.1, t5 _ _ (s04 _ _ hc1)⟩
        · rintro H4 ⟨s4, bs, lbs, hD5, hbs⟩
          refine ⟨D3, bs, rfl, SqL.of hD5, hbs, fun cs p hl hp => ⟨p, _, rfl, .inl ⟨SqL.of upd_same, fun l hl' => ?_⟩⟩⟩
          have s5 : Same H4 (upd (upd H4 p (.lst (cs.map V.ref))) l (.tup (cs.map V.ref))) := Same.trans (Same.upd hp) (Same.upd hl')
          refine ⟨acc, s5 _ _ (s4 _ _ hD3), ?_, fun b u e => ?_, _, upd_same, ?_⟩
          · exact Nat.lt_of_le_of_lt (show acc.length ≤ 2000 by omega) (by decide)
          · rw [upd_ne (ne_of_none e hD2)]; exact s5 _ _ (s4 _ _ (s3 _ _ e))
          · rw [List.length_append, hacc]; rfl
      · rintro H3 ⟨s3, acc, hD3, hacc⟩
        refine ⟨(by show 3 ≤ sizeLine; decide), fun p hp => ?_⟩
        exact hQ _ p lp _ _ _ (Same.trans s02 (Same.trans s3 (Same.upd hp))) upd_same (Same.upd hp _ _ (s3 _ _ hl2)) (by rw [List.length_map, lys])
end K45
/-! part K45Q6 -/
set_option autoImplicit true
set_option Elab.async false
set_option linter.all false
set_option maxRecDepth 100000
set_option maxHeartbeats 4000000
/-! Walks: _law_made. -/
namespace K45
open PySem PySem.Spec PyProof.Rows L2
variable {P : Program} {w : World} {K : PySem.W.Frag} {mg : Str → Option Value} {base : Heap}
theorem Paired.perm {α β : Type} {R : α → β → Prop} {xs : List α} {ys ys' : List β} (p : Paired R xs ys) (h : ys'.Perm ys) : ∃ xs', xs'.Perm xs ∧ Paired R xs' ys' := by
  induction h generalizing xs with
  | nil => exact ⟨xs, .refl _, p⟩
  | cons x h ih =>
    cases p with
    | cons r t =>
      obtain ⟨xs', a, b⟩ := ih t
      exact ⟨_ :: xs', a.cons _, .cons r b⟩
  | swap x y l =>
    cases p with
    | cons r t =>
      cases t with
      | cons r' t => exact ⟨_, List.Perm.swap _ _ _, .cons r' (.cons r t)⟩
  | trans h1 h2 ih1 ih2 =>
    obtain ⟨xs1, a1, b1⟩ := ih2 p
    obtain ⟨xs2, a2, b2⟩ := ih1 b1
    exact ⟨xs2, a2.trans a1, b2⟩
theorem Paired.take {α β : Type} {R : α → β → Prop} : ∀ {xs : List α} {ys : List β} (n : Nat), Paired R xs ys → Paired R (xs.take n) (ys.take n)
  | _, _, 0, _ => .nil
  | _, _, n + 1, .nil => .nil
  | _, _, n + 1, .cons r t => .cons r (Paired.take n t)
/-- a pair of terms -/
def PrAt (H : Hp) (p : T × T) (v : V) : Prop := ∃ a x y, v = .ref a ∧ H a = some (.tup [x, y]) ∧ TmAt H p.1 x ∧ TmAt H p.2 y
theorem PrAt.keep {H H' : Hp} (h : Tups H H') {p : T × T} {v : V} (z : PrAt H p v) : PrAt H' p v := by
  obtain ⟨a, x, y, e, q, q1, q2⟩ := z
  exact ⟨a, x, y, e, h _ _ q, q1.keep h, q2.keep h⟩
inductive Dd where
  | join (p : T × T)
  | put (t : T)
def DdAt (H : Hp) : Dd → V → Prop
  | .join p, v => ∃ a u, v = .ref a ∧ H a = some (.tup [.str "join", u]) ∧ PrAt H p u
  | .put t, v => ∃ a u, v = .ref a ∧ H a = some (.tup [.str "put", u]) ∧ TmAt H t u
theorem DdAt.keep {H H' : Hp} (h : Tups H H') : ∀ {d : Dd} {v : V}, DdAt H d v → DdAt H' d v
  | .join p, v, ⟨a, u, e, q, q1⟩ => ⟨a, u, e, h _ _ q, q1.keep h⟩
  | .put t, v, ⟨a, u, e, q, q1⟩ => ⟨a, u, e, h _ _ q, q1.keep h⟩
def Dd.lim (S : List T) (R : T → T → Prop) : Dd → Prop
  | .join p => (p.1.ok ∧ p.1.depth ≤ 4 ∧ p.1.size ≤ 40 ∧ ∀ x ∈ p.1.under, x ∈ S) ∧ (p.2.ok ∧ p.2.depth ≤ 4 ∧ p.2.size ≤ 40 ∧ ∀ x ∈ p.2.under, x ∈ S) ∧ p.1.word = p.2.word ∧ R p.1 p.2
  | .put t => t.ok ∧ t.depth ≤ 4 ∧ t.size ≤ 40 ∧ ∀ x ∈ t.under, x ∈ S
def Dd.done (W : Tab) : Dd → Prop
  | .join p => ∃ i, find W p.1 = some i ∧ find W p.2 = some i
  | .put t => ∃ i, find W t = some i
theorem Dd.done_le {W W' : Tab} {ρ : Nat → Nat} (h : Le ρ W W') : ∀ {d : Dd}, d.done W → d.done W'
  | .join p, ⟨i, a, b⟩ => ⟨ρ i, h.find _ _ a, h.find _ _ b⟩
  | .put t, ⟨i, a⟩ => ⟨ρ i, h.find _ _ a⟩
theorem DdAt.dat {H : Hp} {S : List T} {R : T → T → Prop} : ∀ {d : Dd} {v : V}, DdAt H d v → d.lim S R → Dat K H v
  | .join p, v, ⟨a, u, e, q, b, x, y, e2, q2, q3, q4⟩, ⟨⟨_, d1, _⟩, ⟨_, d2, _⟩, _⟩ => by
    have h1 := enc_depth p.1
    have h2 := enc_depth p.2
    refine ⟨.tuple [.str "join", .tuple [enc p.1, enc p.2]], ?_, ?_, fun H' t => ?_⟩
    · simp [PyData.canLay0, PyData.canLayAll0, enc_ok, show PyData.strOk "join" = true by decide +kernel]
    · simp only [PyData.depth, PyData.depthAll]
      omega
    · subst e
      subst e2
      exact .tup (.of (t _ _ q)) (.cons (.str _) (.cons (.tup (.of (t _ _ q2)) (.cons (q3.keep t).dp (.cons (q4.keep t).dp .nil))) .nil))
  | .put t, v, ⟨a, u, e, q, q1⟩, ⟨_, d1, _⟩ => by
    have h1 := enc_depth t
    refine ⟨.tuple [.str "put", enc t], ?_, ?_, fun H' t' => ?_⟩
    · simp [PyData.canLay0, PyData.canLayAll0, enc_ok, show PyData.strOk "put" = true by decide +kernel]
    · simp only [PyData.depth, PyData.depthAll]
      omega
    · rw [e]
      exact .tup (.of (t' _ _ q)) (.cons (.str _) (.cons (q1.keep t').dp .nil))
theorem At.jar {o j cs : Addr} {g : G} {H H' : Hp} {b : Nat} (h : At K o g H) (hj : JarAt H j cs b) (k : Kp j H H') (n : ¬ foot o g j) : At K o g H' := h.of fun c u e f => k c u (fun z => by
  subst z
  rcases f with f | ⟨xs, rfl⟩
  · exact n f
  · obtain ⟨_, _, _, a, _⟩ := hj
    rw [a] at e
    cases e) e
theorem cutV_take (us : List V) (r : Nat) : cutV us none (some (r : Int)) = us.take (min r us.length) := by
  unfold cutV
  rw [HT.sIx_none, HT.sIx_nat]
  simp
def sp_made (K : PySem.W.Frag) : Sp := fun vs H Q _ => ∃ (S : List T) (R : T → T → Prop) (j cs pl tl : Addr) (pvs tvs : List V) (ps : List (T × T)) (ts : List T) (b : Nat), vs = [.ref j, .ref pl, .ref tl] ∧ JarAt H j cs b ∧ b + 100 ≤ 5000 ∧ H pl = some (.lst pvs) ∧ Paired (PrAt H) ps pvs ∧ H tl = some (.lst tvs) ∧ Paired (TmAt H) ts tvs ∧
  ps.length ≤ 9 ∧ ts.length ≤ 4 ∧ (∀ p ∈ ps, (Dd.join p).lim S R) ∧ (∀ t ∈ ts, (Dd.put t).lim S R) ∧
  ∀ H' o g, Kp j H H' → JarAt H' j cs (b + 100) → At K o g H' → Good S R g → (∀ b, foot o g b → H b = none) → g.made ≤ 2000 → (∀ p ∈ ps, (Dd.join p).done (look g.ws)) → (∀ t ∈ ts, (Dd.put t).done (look g.ws)) → Q (.ref o) H'
abbrev nMd : List Str := ["_law_jar_here", "_law_pairs", "_law_terms", "_law_classes", "_law_deeds", "_law_deed", "_law_thing", "_law_pair", "_law_term_here"]
theorem sc_made : FnScope nMd ["_law_jar_here", "_law_pairs", "_law_terms"] (defScope s__law_made) := ⟨rfl, rfl, rfl, by decide +kernel, rfl, by decide +kernel, by decide +kernel⟩
theorem ok_made (X : Fx P w K mg base) : OkD P w K mg base "_law_made" ["_law_jar_here", "_law_pairs", "_law_terms"] 11 (sp_made K) := by
  obtain ⟨fd, F⟩ := X.fn 31 (d := d__law_made) rfl
  obtain ⟨_, _, DL⟩ := (ok_lot X).mono (k := 10) (by omega)
  obtain ⟨_, _, DM⟩ := (ok_mixed X).mono (k := 10) (by omega)
  obtain ⟨fi, FI, BI⟩ := ok_init X
  refine ⟨_, fd, X.glo _ (X.fact 31 (f := .glo "_law_made") rfl), F.kp, F.bindsN fun _ _ _ _ _ _ us hl => match us, hl with | [_, _, _], _ => rfl, okN F sc_made (fun vs H Q E h => ?_) (fun cdv A outer s H vs Q E hr h => ?_)⟩
  · obtain ⟨_, _, _, _, _, _, _, _, _, _, _, rfl, _⟩ := h
    rfl
  · obtain ⟨S, R, j, cs, pl, tl, pvs, tvs, ps, ts, b, rfl, hj, hb, hpl, hps, htl, hts, lp, lt, limp, limt, hQ⟩ := h
    obtain ⟨_, _, DP⟩ := ok_put X S R 4
    obtain ⟨_, _, DJ⟩ := ok_join X S R 4
    refine ⟨_, pss_cons (ps_par (i := 3) (j := 4) rfl sc_made.nd rfl rfl (by decide) rfl rfl (pa_cons (pe_make0 X.maker FI (hr.mono (by decide)) (by rfl) X.g_Classes BI .nil pass0) (pa_cons (pe_op op_cat
          (pe_lc (own := [("_law_pair", 7)]) (g := gName 7) (tt := tYes) (te := tTup (tCons (tC (.str "join")) (tCons (tVar 7) tNil))) rfl sc_made.nd (pi_list (pv 1))
            (blkOk_by (own := [("_law_pair", 7)]) (N := nMd) (sc := defScope s__law_made) (by decide +kernel)) (fun _ _ _ _ _ => pg_name (i := 7) sc_made.nd rfl (Or.inl rfl)) (fun _ _ _ _ _ => pts_nil)
            (fun _ _ _ _ _ => pe_tup (pa_cons pe_str (pa_cons (pv 7) pa_nil))))
          (pe_lc (own := [("_law_term_here", 8)]) (g := gName 8) (tt := tYes) (te := tTup (tCons (tC (.str "put")) (tCons (tVar 8) tNil))) rfl sc_made.nd (pi_list (pv 2))
            (blkOk_by (own := [("_law_term_here", 8)]) (N := nMd) (sc := defScope s__law_made) (by decide +kernel)) (fun _ _ _ _ _ => pg_name (i := 8) sc_made.nd rfl (Or.inl rfl)) (fun _ _ _ _ _ => pts_nil)
            (fun _ _ _ _ _ => pe_tup (pa_cons pe_str (pa_cons (pv 8) pa_nil))))) pa_nil)) (by rfl))
      (pss_cons (ps_for PassesOwn.never rfl (pi_list (pe_d DM hr (by rfl) (pa_cons (pv 0) (pa_cons (pe_op op_cat (pv 4) (pe_slice sl_list (pv 4) po_none (po_some (pe_d DL hr (by rfl) (pa_cons (pv 0) (pa_cons (pe_op op_add (pe_callB call_len_seq (by rfl) X.b_len (by decide +kernel) (pa_cons (pv 1) pa_nil)) pe_int) pa_nil)))))) pa_nil))))
          (pg_tup rfl (pgs_cons (pg_name (i := 5) sc_made.nd rfl (Or.inl rfl)) (pgs_cons (pg_name (i := 6) sc_made.nd rfl (Or.inl rfl)) pgs_nil)))
        (pss_one (ps_if (pt_cmpR op_eq (pv 5) pe_str (nomark _)) (pss_one (ps_expr (pe_m DP X.cl hr (pv 3) (pa_cons (pv 6) pa_nil))))
          (pss_one (ps_if (pt_cmpR op_eq (pe_d DL hr (by rfl) (pa_cons (pv 0) (pa_cons pe_int pa_nil))) pe_int (nomark _))
            (pss_one (ps_expr (pe_m DJ X.cl hr (pv 3) (pa_cons (pe_ix ix_tup (pv 6) pe_int (fun _ _ => rfl)) (pa_cons (pe_ix ix_tup (pv 6) pe_int (fun _ _ => rfl)) (pa_cons pe_str pa_nil))))))
            (pss_one (ps_expr (pe_m DJ X.cl hr (pv 3) (pa_cons (pe_ix ix_tup (pv 6) pe_int (fun _ _ => rfl)) (pa_cons (pe_ix ix_tup (pv 6) pe_int (fun _ _ => rfl)) (pa_cons pe_str pa_nil)))))))))))
      (pss_one (ps_ret (pv 3)))), ?_⟩
    have sz : ∀ {n : Nat}, n ≤ 5000 → n < sizeLine := fun h => Nat.lt_of_le_of_lt h (by decide)
    refine fun o dx no ndx ne => ⟨o, dx, rfl, upd_same, fun H1 g a1 gd gm grc gws k1 ft1 gr1 => ⟨rfl, ?_⟩⟩
    have s1 : Same H H1 := fun c u e => k1 c u (ne_of_none e no) (by rw [upd_ne (ne_of_none e no), upd_ne (ne_of_none e ndx)]; exact e)
    have ft : ∀ c, foot o g c → H c = none := fun c f => (ft1 c f).elim (fun z => by rw [z]; exact no) fun z => upd_none (upd_none z)
    clear k1 ft1 gr1
    have hjo : H j ≠ none := by
      obtain ⟨_, _, _, e, _⟩ := hj
      rw [e]
      exact fun z => by cases z
    have hcso : H cs ≠ none := by
      obtain ⟨_, _, _, _, e, _⟩ := hj
      rw [e]
      exact fun z => by cases z
    have hj1 := hj.same s1
    have hpl1 := s1 _ _ hpl
    have htl1 := s1 _ _ htl
    have hps1 := Paired.imp (fun _ _ z => PrAt.keep (.of s1) z) hps
    have hts1 := Paired.imp (fun _ _ z => TmAt.keep (.of s1) z) hts
    have lpv := Paired.len hps
    have ltv := Paired.len hts
    refine ⟨_, rfl, pl, rfl, ⟨_, SqL.of hpl1⟩, fun D1 hD1 => lc_list (K := K) (a := pl) (xs := pvs) (fun i H' => Same H1 H' ∧ ∃ ds, H' D1 = some (.lst ds) ∧ Paired (DdAt H') ((ps.take i).map Dd.join) ds)
      ⟨Same.upd hD1, [], upd_same, .nil⟩ (fun i H' _ ⟨h, _⟩ => SqL.of (h _ _ hpl1)) ?_ ?_⟩
    · rintro i x H2 hx ⟨s2, ds, hD2, pr2⟩
      obtain ⟨p, hp, px⟩ := Paired.get hps1 hx
      have lds := Paired.len pr2
      rw [List.length_map, List.length_take] at lds
      refine ⟨rfl, _, rfl, (by show 2 ≤ sizeLine; decide), fun q hq => ⟨ds, Same.upd hq _ _ hD2, sz (by omega), fun c u e => ?_, ds ++ [.ref q], upd_same, ?_⟩⟩
      · rw [upd_ne (ne_of_none e hD1)]; exact Same.upd hq _ _ (s2 _ _ e)
      · have t2 : Tups (upd H2 q (.tup [.str "join", x])) (upd (upd H2 q (.tup [.str "join", x])) D1 (.lst (ds ++ [.ref q]))) := Tups.upd fun xs e => by rw [Same.upd hq _ _ hD2] at e; cases e
        have t1 := (Tups.of (Same.upd hq (o := .tup [.str "join", x]))).trans t2
        rw [take_snoc hp, List.map_append, List.map_cons, List.map_nil]
        exact Paired.snoc ⟨q, x, rfl, t2 _ _ upd_same, px.keep ((Tups.of s2).trans t1)⟩ (Paired.imp (fun _ _ z => z.keep t1) pr2)
    · rintro H2 ⟨s2, ds, hD2, pr2⟩
      rw [← lpv, List.take_length] at pr2
      have htl2 := s2 _ _ htl1
      have hts2 := Paired.imp (fun _ _ z => TmAt.keep (.of s2) z) hts1
      refine ⟨_, rfl, tl, rfl, ⟨_, SqL.of htl2⟩, fun D2 hD2' => lc_list (K := K) (a := tl) (xs := tvs) (fun i H' => Same H2 H' ∧ ∃ es, H' D2 = some (.lst es) ∧ Paired (DdAt H') ((ts.take i).map Dd.put) es)
        ⟨Same.upd hD2', [], upd_same, .nil⟩ (fun i H' _ ⟨h, _⟩ => SqL.of (h _ _ htl2)) ?_ ?_⟩
      · rintro i x H3 hx ⟨s3, es, hD3, pr3⟩
        obtain ⟨t, ht, tx⟩ := Paired.get hts2 hx
        have lds := Paired.len pr3
        rw [List.length_map, List.length_take] at lds
        refine ⟨rfl, _, rfl, (by show 2 ≤ sizeLine; decide), fun q hq => ⟨es, Same.upd hq _ _ hD3, sz (by omega), fun c u e => ?_, es ++ [.ref q], upd_same, ?_⟩⟩
        · rw [upd_ne (ne_of_none e hD2')]; exact Same.upd hq _ _ (s3 _ _ e)
        · have t2 : Tups (upd H3 q (.tup [.str "put", x])) (upd (upd H3 q (.tup [.str "put", x])) D2 (.lst (es ++ [.ref q]))) := Tups.upd fun xs e => by rw [Same.upd hq _ _ hD3] at e; cases e
          have t1 := (Tups.of (Same.upd hq (o := .tup [.str "put", x]))).trans t2
          rw [take_snoc ht, List.map_append, List.map_cons, List.map_nil]
          exact Paired.snoc ⟨q, x, rfl, t2 _ _ upd_same, tx.keep ((Tups.of s3).trans t1)⟩ (Paired.imp (fun _ _ z => z.keep t1) pr3)
      · rintro H3 ⟨s3, es, hD3, pr3⟩
        rw [← ltv, List.take_length] at pr3
        have hD13 := s3 _ _ hD2
        have lds := Paired.len pr2
        have les := Paired.len pr3
        rw [List.length_map] at lds les
        refine ⟨D1, D2, ds, es, rfl, rfl, hD13, hD3, Nat.le_of_lt (sz (by omega)), fun dl hdl => ⟨_, _, rfl, ?_⟩⟩
        have s4 : Same H3 (upd H3 dl (.lst (ds ++ es))) := Same.upd hdl
        have s14 := Same.trans s2 (Same.trans s3 s4)
        have s04 := Same.trans s1 s14
        have hdl4 : upd H3 dl (.lst (ds ++ es)) dl = some (.lst (ds ++ es)) := upd_same
        have pr4 : Paired (DdAt (upd H3 dl (.lst (ds ++ es)))) (ps.map Dd.join ++ ts.map Dd.put) (ds ++ es) := Paired.app (Paired.imp (fun _ _ z => z.keep (.of (Same.trans s3 s4))) pr2) (Paired.imp (fun _ _ z => z.keep (.of s4)) pr3)
        have limd : ∀ d ∈ ps.map Dd.join ++ ts.map Dd.put, d.lim S R := fun d hd => by
          rcases List.mem_append.mp hd with hd | hd
          · obtain ⟨p, hp, rfl⟩ := List.mem_map.mp hd; exact limp p hp
          · obtain ⟨t, ht, rfl⟩ := List.mem_map.mp hd; exact limt t ht
        change tSeq _ _ _ [some (.ref j), some (.ref pl), some (.ref tl), some (.ref o), some (.ref dl), none, none, none, none] (upd H3 dl (.lst (ds ++ es)))
        have a4 := a1.same s14
        have hj4 := hj1.same s14
        have hpl4 := s14 _ _ hpl1
        generalize upd H3 dl (.lst (ds ++ es)) = H4 at s04 hdl4 pr4 a4 hj4 hpl4 ⊢
        clear s4 s14 hdl
        refine ⟨_, rfl, _, rfl, _, rfl, _, rfl, _, rfl, pl, _, rfl, .inl (SqL.of hpl4), _, _, rfl, rfl, j, cs, ps.length + 1, b, ?_, hj4, by omega, by omega, by omega, fun H5 r k5 hj5 hr5 => ?_⟩
        · rw [lpv]; rfl
        have hdl5 : H5 dl = some (.lst (ds ++ es)) := k5 _ _ (fun z => by
          rw [z] at hdl4
          obtain ⟨_, _, _, e, _⟩ := hj4
          rw [hdl4] at e
          have e := HO.lst.inj (Option.some.inj e)
          rw [e] at pr4
          obtain ⟨d, _, h⟩ := Paired.get pr4 (i := 1) rfl
          cases d <;> (obtain ⟨_, _, z, _⟩ := h; cases z)) hdl4
        have pr5 := Paired.imp (fun _ _ z => DdAt.keep (hj4.tups k5) z) pr4
        refine ⟨(r : Int), rfl, dl, _, rfl, SqL.of hdl5, fun p hp => ?_⟩
        rw [cutV_take]
        have s6 : Same H5 (upd H5 p (.lst ((ds ++ es).take (min r (ds ++ es).length)))) := Same.upd hp
        have lcut : ((ds ++ es).take (min r (ds ++ es).length)).length ≤ 9 := by rw [List.length_take]; omega
        have lde : (ds ++ es).length ≤ 13 := by rw [List.length_append]; omega
        have prT := Paired.app pr5 (Paired.take (min r (ds ++ es).length) pr5)
        have dsub : ∀ d ∈ (ps.map Dd.join ++ ts.map Dd.put).take (min r (ds ++ es).length), d ∈ ps.map Dd.join ++ ts.map Dd.put := fun d hd => List.mem_of_mem_take hd
        generalize (ds ++ es).take (min r (ds ++ es).length) = cut at s6 lcut prT ⊢
        generalize (ps.map Dd.join ++ ts.map Dd.put).take (min r (ds ++ es).length) = dcut at prT dsub ⊢
        have hdl6 := s6 _ _ hdl5
        refine ⟨dl, p, _, _, rfl, rfl, hdl6, upd_same, Nat.le_of_lt (sz (by omega)), fun l hl => ?_⟩
        have s7 := Same.trans s6 (Same.upd hl (o := .lst ((ds ++ es) ++ cut)))
        have hl7 : upd (upd H5 p (.lst cut)) l (.lst ((ds ++ es) ++ cut)) l = some (.lst ((ds ++ es) ++ cut)) := upd_same
        have hj7 := hj5.same s7
        have pr7 := Paired.imp (fun _ _ z => DdAt.keep (.of s7) z) prT
        have a5 : At K o g H5 := a4.jar hj4 k5 fun f => hjo (ft j f)
        have a7 := a5.same s7
        have k7 : Kp j H (upd (upd H5 p (.lst cut)) l (.lst ((ds ++ es) ++ cut))) := ((Kp.same s04).trans k5).trans (Kp.same s7)
        generalize upd (upd H5 p (.lst cut)) l (.lst ((ds ++ es) ++ cut)) = H7 at hl7 hj7 pr7 a7 k7 ⊢
        clear s6 s7 hl hp hdl6
        have limd2 : ∀ d ∈ (ps.map Dd.join ++ ts.map Dd.put) ++ dcut, d.lim S R := fun d hd => (List.mem_append.mp hd).elim (limd d) fun z => limd d (dsub d z)
        have lus : ((ds ++ es) ++ cut).length ≤ 22 := by rw [List.length_append]; omega
        generalize (ds ++ es) ++ cut = us at hl7 pr7 lus ⊢
        refine ⟨j, cs, l, us, b + 1, rfl, hj7, by omega, hl7, fun u hu => ?_, fun H8 q us' k8 hj8 hqn hq8 perm => ?_⟩
        · obtain ⟨i, hi⟩ := List.getElem?_of_mem hu
          obtain ⟨d, hd, dx⟩ := Paired.get pr7 hi
          exact dx.dat (limd2 d (List.mem_of_getElem? hd))
        obtain ⟨dd, permd, prd7⟩ := Paired.perm pr7 perm
        have lus' : us'.length ≤ 22 := by rw [perm.length_eq]; exact lus
        have limdd : ∀ d ∈ dd, d.lim S R := fun d hd => limd2 d (permd.subset hd)
        have a8 : At K o g H8 := a7.jar hj7 k8 fun f => hjo (ft j f)
        have k08 := k7.trans k8
        have pr8 := Paired.imp (fun _ _ z => DdAt.keep (hj7.tups k8) z) prd7
        have ldd := Paired.len pr8
        refine ⟨q, rfl, ⟨_, SqL.of hq8⟩, for_list (K := K) (a := q) (xs := us') (fun i σ H' => ∃ g' v5 v6, σ = [some (.ref j), some (.ref pl), some (.ref tl), some (.ref o), some (.ref dl), v5, v6, none, none] ∧ Kp j H H' ∧ JarAt H' j cs (b + 1 + us.length + i) ∧ At K o g' H' ∧ Good S R g' ∧ (∀ c, foot o g' c → H c = none) ∧
            H' q = some (.lst us') ∧ Tups H8 H' ∧ g'.made ≤ 80 * i ∧ g'.rcs.length ≤ i ∧ ∀ d ∈ dd.take i, d.done (look g'.ws))
          ⟨g, none, none, rfl, k08, hj8, a8, gd S R, ft, hq8, Tups.refl _, by omega, by rw [grc]; exact Nat.le_refl _, fun d hd => by simp at hd⟩ (fun i σ H' _ ⟨_, _, _, _, _, _, _, _, _, h, _⟩ => SqL.of h) ?_ ?_⟩
        · rintro i x σ H9 hx ⟨g', v5, v6, rfl, k9, hj9, a9, gd9, ft9, hq9, t9, m9, rc9, dn9⟩
          obtain ⟨d, hd, dx⟩ := Paired.get pr8 hx
          have hi := (List.getElem?_eq_some_iff.mp hx).1
          have dx9 := dx.keep t9
          have lim := limdd d (List.mem_of_getElem? hd)
          have next : ∀ (H10 H11 : Hp) (g11 : G) (ρ : Nat → Nat) (v5 v6 : Option V), Kp j H H10 → JarAt H10 j cs (b + 1 + us.length + (i + 1)) → At K o g' H10 → H10 q = some (.lst us') → Tups H8 H10 → Sg K o g' H10 g11 H11 → Good S R g11 → Le ρ (look g'.ws) (look g11.ws) → d.done (look g11.ws) → g11.made ≤ g'.made + 80 → g11.rcs.length ≤ g'.rcs.length + 1 →
              ∃ g' v5' v6', [some (.ref j), some (.ref pl), some (.ref tl), some (.ref o), some (.ref dl), v5, v6, none, none] = [some (V.ref j), some (.ref pl), some (.ref tl), some (.ref o), some (.ref dl), v5', v6', none, none] ∧ Kp j H H11 ∧ JarAt H11 j cs (b + 1 + us.length + (i + 1)) ∧ At K o g' H11 ∧ Good S R g' ∧ (∀ c, foot o g' c → H c = none) ∧
                H11 q = some (.lst us') ∧ Tups H8 H11 ∧ g'.made ≤ 80 * (i + 1) ∧ g'.rcs.length ≤ i + 1 ∧ ∀ d ∈ dd.take (i + 1), d.done (look g'.ws) := fun H10 H11 g11 ρ v5 v6 k10 hj10 a10 hq10 t10 s11 gd11 le11 dn11 m11 rc11 => by
            have old : ∀ {c : Addr} {u : HO}, H c ≠ none → H10 c = some u → H11 c = some u := fun {c u} h e => s11.fr.keep c u (fun f => h (ft9 c f)) e
            refine ⟨g11, v5, v6, rfl, fun c u h e => old (fun z => by rw [e] at z; cases z) (k10 c u h e), hj10.keep fun c u z e => old (z.elim (fun y => by rw [y]; exact hjo) (fun y => by rw [y]; exact hcso)) e, s11.at_, gd11, fun c f => ?_, s11.fr.keep _ _ (a10.notlst hq10) hq10, t10.trans (s11.tups a10), by omega, by omega, fun e he => ?_⟩
            · rcases s11.fr.new c f with f | f
              · exact ft9 c f
              · cases e : H c with
                | none => rfl
                | some u =>
                  by_cases z : c = j
                  · obtain ⟨_, _, _, y, _⟩ := hj10
                    rw [← z, f] at y
                    cases y
                  · have := k10 c u z e
                    rw [f] at this
                    cases this
            · rw [take_snoc hd] at he
              rcases List.mem_append.mp he with he | he
              · exact Dd.done_le le11 (dn9 e he)
              · rw [List.mem_singleton.mp he]; exact dn11
          cases d with
          | join p =>
            obtain ⟨c, u, rfl, hc, pa, x1, x2, rfl, hpa, tx, ty⟩ := dx9
            obtain ⟨⟨ok1, dp1, sz1, un1⟩, ⟨ok2, dp2, sz2, un2⟩, wd, hR⟩ := lim
            refine ⟨c, _, rfl, SqT.of hc, rfl, _, _, rfl, _, _, rfl, rfl, ?_⟩
            change tIfS _ _ _ _ [some (.ref j), some (.ref pl), some (.ref tl), some (.ref o), some (.ref dl), some (.str "join"), some (.ref pa), none, none] H9
            refine ⟨_, rfl, rfl, _, rfl, ?_⟩
            rw [show decide (V.str "join" = V.str "put") = false by decide +kernel]
            refine iteF ⟨_, rfl, j, cs, 2, _, rfl, hj9, by omega, by decide, by decide, fun H10 r k10 hj10 hr10 => ⟨rfl, _, rfl, ?_⟩⟩
            have t10 := hj9.tups k10
            have a10 : At K o g' H10 := a9.jar hj9 k10 fun f => hjo (ft9 j f)
            have hq10 : H10 q = some (.lst us') := k10 _ _ (hj7.ne hqn).1 hq9
            have hpa10 := t10 _ _ hpa
            refine ite2 (fun _ => ?_) (fun _ => ?_)
            · refine ⟨_, rfl, o, g'.dx, g'.fs, rfl, a10.obj, rfl, _, rfl, pa, _, 0, _, rfl, rfl, SqT.of hpa10, atI_nat (j := 0) rfl, _, rfl, pa, _, 1, _, rfl, rfl, SqT.of hpa10, atI_nat (j := 1) rfl, o, g', p.1, p.2, x1, x2, _, rfl, a10, gd9, tx.keep t10, ty.keep t10, ok1, ok2, wd, dp1, dp2, by decide, un1, un2, by omega, by omega, .base hR, fun H11 g11 ρ v s11 gd11 le11 ex11 m11 rc11 => ?_⟩
              exact next H10 H11 g11 ρ _ _ (k9.trans k10) hj10 a10 hq10 (t9.trans t10) s11 gd11 le11 ex11 (by omega) rc11
            · refine ⟨_, rfl, o, g'.dx, g'.fs, rfl, a10.obj, rfl, _, rfl, pa, _, 1, _, rfl, rfl, SqT.of hpa10, atI_nat (j := 1) rfl, _, rfl, pa, _, 0, _, rfl, rfl, SqT.of hpa10, atI_nat (j := 0) rfl, o, g', p.2, p.1, x2, x1, _, rfl, a10, gd9, ty.keep t10, tx.keep t10, ok2, ok1, wd.symm, dp2, dp1, by decide, un2, un1, by omega, by omega, .symm (.base hR), fun H11 g11 ρ v s11 gd11 le11 ex11 m11 rc11 => ?_⟩
              obtain ⟨i', e1, e2⟩ := ex11
              exact next H10 H11 g11 ρ _ _ (k9.trans k10) hj10 a10 hq10 (t9.trans t10) s11 gd11 le11 ⟨i', e2, e1⟩ (by omega) rc11
          | put t =>
            obtain ⟨c, u, rfl, hc, tx⟩ := dx9
            obtain ⟨ok1, dp1, sz1, un1⟩ := lim
            refine ⟨c, _, rfl, SqT.of hc, rfl, _, _, rfl, _, _, rfl, rfl, ?_⟩
            change tIfS _ _ _ _ [some (.ref j), some (.ref pl), some (.ref tl), some (.ref o), some (.ref dl), some (.str "put"), some u, none, none] H9
            refine ⟨_, rfl, rfl, _, rfl, ?_⟩
            rw [show decide (V.str "put" = V.str "put") = true by decide +kernel]
            refine iteT ⟨_, rfl, o, g'.dx, g'.fs, rfl, a9.obj, rfl, _, rfl, o, g', t, u, rfl, a9, gd9, tx, ok1, dp1, by omega, un1, by omega, fun H11 g11 i' s11 gd11 le11 f11 m11 rc11 => ?_⟩
            exact next H9 H11 g11 id _ _ k9 (hj9.mono (by omega)) a9 hq9 t9 s11 gd11 le11 ⟨i', f11⟩ (by omega) (by rw [rc11]; omega)
        · rintro σ H9 ⟨g', v5, v6, rfl, k9, hj9, a9, gd9, ft9, hq9, t9, m9, rc9, dn9⟩
          rw [← ldd, List.take_length] at dn9
          exact ⟨_, rfl, hQ H9 o g' k9 (hj9.mono (by omega)) a9 gd9 ft9 (by omega) (fun p hp => dn9 _ (permd.symm.subset (List.mem_append_left _ (List.mem_append_left _ (List.mem_map.mpr ⟨p, hp, rfl⟩))))) fun t ht => dn9 _ (permd.symm.subset (List.mem_append_left _ (List.mem_append_right _ (List.mem_map.mpr ⟨t, ht, rfl⟩))))⟩
end K45
/-! part K45Q7 -/
set_option autoImplicit true
set_option Elab.async false
set_option linter.all false
set_option maxRecDepth 100000
set_option maxHeartbeats 4000000
/-! Walk: law, its last part: what is asked. -/
namespace K45
open PySem PySem.Spec PyProof.Rows L2
variable {P : Program} {w : World} {K : PySem.W.Frag} {mg : Str → Option Value} {base : Heap}
/-! ### the objects while they are asked -/
/-- an object of Classes, closed, whatever its memo tells -/
structure CO (K : PySem.W.Frag) (S : List T) (R : T → T → Prop) (o : Addr) (g : G) (f : V) (H : Hp) : Prop where
  at_ : At K o { g with fv := f } H
  good : Good S R g
  whole : Whole S R (look g.ws)
  made : g.made ≤ 2000
  memo : f = .non ∨ ∃ sz fnd, Memo g f H sz fnd
theorem foot_kind {o : Addr} {g : G} {H : Hp} (h : At K o g H) {b : Addr} (f : foot o g b) : b = o ∨ (∃ kvs, H b = some (.dT kvs)) ∨ ∃ kvs, H b = some (.dK kvs) := by
  rcases f with rfl | rfl | rfl | rfl | rfl | ⟨c, hc, rfl⟩ | ⟨c, hc, rfl⟩
  · exact .inl rfl
  · exact .inr (.inl ⟨_, h.wh⟩)
  · exact .inr (.inr ⟨_, h.rows⟩)
  · exact .inr (.inr ⟨_, h.uses⟩)
  · exact .inr (.inr ⟨_, h.kinds⟩)
  · exact .inr (.inl ⟨_, h.row c hc⟩)
  · exact .inr (.inl ⟨_, h.use c hc⟩)
theorem ExtB.tups {o : Addr} {H H' : Hp} (h : ExtB o H H') {C dx : Addr} {fs : List (Str × V)} (e : H o = some (.ins C dx fs)) : Tups H H' := fun b xs q => h b _ (fun z => by rw [z, e] at q; cases q) q (fun _ z => nomatch z)
theorem Memo.keep {g : G} {f : V} {H H' : Hp} {sz : Nat → Nat} {fnd : Nat → T} (h : Memo g f H sz fnd) (k : ∀ b u, H b = some u → (∃ xs, u = .tup xs) ∨ (∃ kvs, u = .dK kvs) → H' b = some u) : Memo g f H' sz fnd := by
  obtain ⟨fa, kvs, a, b, c, d⟩ := h
  refine ⟨fa, kvs, a, k _ _ b (.inr ⟨_, rfl⟩), fun i hi => ?_, d⟩
  obtain ⟨v, h1, h2⟩ := c i hi
  exact ⟨v, h1, h2.keep fun b xs e => k _ _ e (.inl ⟨_, rfl⟩)⟩
section
variable {S : List T} {R : T → T → Prop} {o o' : Addr} {g : G} {f f' : V} {H H' : Hp}
theorem CO.same (c : CO K S R o g f H) (s : Same H H') : CO K S R o g f H' :=
  { c with at_ := c.at_.same s, memo := c.memo.imp (fun z => z) fun ⟨sz, fnd, m⟩ => ⟨sz, fnd, m.keep fun b u e _ => s b u e⟩ }
theorem CO.other (c : CO K S R o g f H) (ne : o ≠ o') {C dx : Addr} {fs : List (Str × V)} (e' : H o' = some (.ins C dx fs)) (x : ExtB o' H H') : CO K S R o g f H' :=
  { c with
    at_ := c.at_.of fun b u e z => x b u (fun y => by
      subst y
      rcases z with z | ⟨xs, rfl⟩
      · rcases foot_kind c.at_ z with z | ⟨_, z⟩ | ⟨_, z⟩
        · exact ne z.symm
        · rw [e'] at z; cases z
        · rw [e'] at z; cases z
      · rw [e'] at e; cases e) e (fun ps y => by
      subst y
      rcases z with z | ⟨xs, z⟩
      · rcases foot_kind c.at_ z with z | ⟨_, z⟩ | ⟨_, z⟩
        · rw [z, c.at_.obj] at e; cases e
        · rw [e] at z; cases z
        · rw [e] at z; cases z
      · cases z)
    memo := c.memo.imp (fun z => z) fun ⟨sz, fnd, m⟩ => ⟨sz, fnd, m.keep fun b u e z => x b u (fun y => by
      subst y
      rw [e'] at e
      obtain rfl := Option.some.inj e
      rcases z with ⟨_, z⟩ | ⟨_, z⟩ <;> cases z) e fun ps y => by
      subst y
      rcases z with ⟨_, z⟩ | ⟨_, z⟩ <;> cases z⟩ }
theorem CO.set (c : CO K S R o g f H) (a : At K o { g with fv := f' } H') {sz : Nat → Nat} {fnd : Nat → T} (m : Memo g f' H' sz fnd) : CO K S R o g f' H' :=
  { c with at_ := a, memo := .inr ⟨sz, fnd, m⟩ }
end
structure CI (K : PySem.W.Frag) (S : List T) (R : T → T → Prop) (o1 o2 : Addr) (g1 g2 : G) (ev : Addr) (us : List T) (evs : List V) (f1 f2 : V) (H : Hp) : Prop where
  c1 : CO K S R o1 g1 f1 H
  c2 : CO K S R o2 g2 f2 H
  ne : o1 ≠ o2
  tabs : LamX.Tabs (fT K) H
  hev : H ev = some (.lst evs)
  tm : Paired (TmAt H) us evs
section
variable {S : List T} {R : T → T → Prop} {o1 o2 ev : Addr} {g1 g2 : G} {us : List T} {evs : List V} {f1 f2 f' : V} {H H' : Hp}
theorem CI.same (c : CI K S R o1 o2 g1 g2 ev us evs f1 f2 H) (s : Same H H') : CI K S R o1 o2 g1 g2 ev us evs f1 f2 H' :=
  ⟨c.c1.same s, c.c2.same s, c.ne, c.tabs.ext s, s _ _ c.hev, Paired.imp (fun _ _ z => z.keep (.of s)) c.tm⟩
theorem CI.one (c : CI K S R o1 o2 g1 g2 ev us evs f1 f2 H) (x : ExtB o1 H H') (a : At K o1 { g1 with fv := f' } H') {sz : Nat → Nat} {fnd : Nat → T} (m : Memo g1 f' H' sz fnd) (t : LamX.Tabs (fT K) H') : CI K S R o1 o2 g1 g2 ev us evs f' f2 H' :=
  ⟨c.c1.set a m, c.c2.other c.ne.symm c.c1.at_.obj x, c.ne, t, x _ _ (ne_of c.hev c.c1.at_.obj (fun z => nomatch z)) c.hev (fun _ z => nomatch z), Paired.imp (fun _ _ z => z.keep (x.tups c.c1.at_.obj)) c.tm⟩
theorem CI.two (c : CI K S R o1 o2 g1 g2 ev us evs f1 f2 H) (x : ExtB o2 H H') (a : At K o2 { g2 with fv := f' } H') {sz : Nat → Nat} {fnd : Nat → T} (m : Memo g2 f' H' sz fnd) (t : LamX.Tabs (fT K) H') : CI K S R o1 o2 g1 g2 ev us evs f1 f' H' :=
  ⟨c.c1.other c.ne c.c2.at_.obj x, c.c2.set a m, c.ne, t, x _ _ (ne_of c.hev c.c2.at_.obj (fun z => nomatch z)) c.hev (fun _ z => nomatch z), Paired.imp (fun _ _ z => z.keep (x.tups c.c2.at_.obj)) c.tm⟩
end
/-! ### plain -/
theorem finds {W : Tab} : ∀ us : List T, (∀ u ∈ us, ∃ i, find W u = some i) → ∃ ds : List Nat, us.map (find W) = ds.map some
  | [], _ => ⟨[], rfl⟩
  | u :: us, h => by
    obtain ⟨i, hi⟩ := h u List.mem_cons_self
    obtain ⟨ds, e⟩ := finds us fun x hx => h x (List.mem_cons_of_mem _ hx)
    exact ⟨i :: ds, by rw [List.map_cons, List.map_cons, hi, e]⟩
theorem finds_at {W : Tab} {us : List T} {ds : List Nat} (h : us.map (find W) = ds.map some) {k : Nat} {u : T} (hu : us[k]? = some u) : ∃ d, ds[k]? = some d ∧ find W u = some d := by
  have := congrArg (fun l => l[k]?) h
  simp only [List.getElem?_map, hu, Option.map_some] at this
  cases e : ds[k]? with
  | none => rw [e] at this; cases this
  | some d =>
    rw [e] at this
    exact ⟨d, rfl, Option.some.inj this⟩
theorem finds_of {W : Tab} {us : List T} {ds : List Nat} (h : us.map (find W) = ds.map some) {k d : Nat} (hd : ds[k]? = some d) : ∃ u, us[k]? = some u ∧ find W u = some d := by
  have := congrArg (fun l => l[k]?) h
  simp only [List.getElem?_map, hd, Option.map_some] at this
  cases e : us[k]? with
  | none => rw [e] at this; cases this
  | some u =>
    rw [e] at this
    exact ⟨u, rfl, Option.some.inj this⟩
/-- as many classes -/
theorem many_classes {S : List T} {R : T → T → Prop} {g : G} {ws : List (N × Nat)} {made : Nat} {cl : Nat → T} (h : Good S R g) (hw : Whole S R (look g.ws)) (hb : BG S R ws made cl) (hw' : Whole S R (look ws)) : g.liveR.length = (addAll [] (ws.map (·.2))).length := by
  refine Whole.classes hw hw' h.oo.lnd (addAll_nodup _ _ (by simp)) (fun c => ?_) (fun c => ?_)
  · constructor
    · intro hc
      obtain ⟨n, hn⟩ := h.ful c hc
      obtain ⟨t, ht, e⟩ := h.cov n c (h.oo.look.mpr hn)
      exact ⟨t, ht, find_of e (h.oo.look.mpr hn)⟩
    · rintro ⟨t, _, e⟩
      exact h.live e
  · rw [mem_addAll]
    constructor
    · rintro (hc | hc)
      · cases hc
      · obtain ⟨⟨n, i⟩, hp, rfl⟩ := List.mem_map.mp hc
        obtain ⟨t, ht, e⟩ := hb.cov n i (look_of hb.nd hp)
        exact ⟨t, ht, find_of e (look_of hb.nd hp)⟩
    · rintro ⟨t, _, e⟩
      obtain ⟨n, _, e2⟩ := find_some e
      exact .inr (List.mem_map.mpr ⟨_, look_mem e2, rfl⟩)
theorem many_members {S : List T} {R : T → T → Prop} {g g' : G} (h : Good S R g) (h' : Good S R g') (hw : Whole S R (look g.ws)) (hw' : Whole S R (look g'.ws)) (hS : ∀ t ∈ S, ∀ p ∈ t.parts, p ∈ S) {u : T} (hu : u ∈ S) {c c' : Nat} (hc : find (look g.ws) u = some c) (hc' : find (look g'.ws) u = some c') :
    (g.rl c).length = (g'.rl c').length :=
  Whole.members hw hw' hS hu hc hc' (h.oo.rnd c (h.live hc)) (h'.oo.rnd c' (h'.live hc')) (fun n => by rw [h.oo.row c (h.live hc), h.oo.look]) fun n => by rw [h'.oo.row c' (h'.live hc'), h'.oo.look]
theorem same_kind {S : List T} {R : T → T → Prop} {g g' : G} (h : Good S R g) (h' : Good S R g') (hR : ∀ a b, R a b → a.word = b.word) {u : T} {c c' : Nat} (hc : find (look g.ws) u = some c) (hc' : find (look g'.ws) u = some c') : (g.cl c).word = (g'.cl c').word := by
  rw [← (h.snd.find u c hc).word hR, ← (h'.snd.find u c' hc').word hR]
/-- x.setdefault(k, v) != v, where nothing else lies -/
theorem setd_ne {i j k : Nat} {σ : L2.St} {H : Hp} {Qk : Bool → Hp → Prop} {a : Addr} {kvs : List (L2.Key × V)} {p c : Nat} (hi : σ[i]? = some (some (.ref a))) (hj : σ[j]? = some (some (.int (p : Int)))) (hk : σ[k]? = some (some (.int (c : Int)))) (ha : H a = some (.dK kvs)) (hl : kvs.length < sizeLine)
    (hv : ∀ v, valV kvs (idK p) = some v → v = .int (c : Int))
    (q : ∀ H' kvs', H' a = some (.dK kvs') → (∀ b u, b ≠ a → H b = some u → H' b = some u) → kvs'.length ≤ kvs.length + 1 → (∀ (p' : Nat) v, valV kvs' (idK p') = some v → valV kvs (idK p') = some v ∨ (p' = p ∧ v = .int (c : Int))) → Qk false H') :
    tTest (tOp rNe (tDSetd (tVar i) (tVar j) (tVar k)) (tVar k)) σ H Qk := by
  refine ⟨_, hi, a, rfl, .inl ⟨_, .inl ha⟩, _, hj, _, hk, kvs, idK p, ha, rfl, hl, fun v e => ?_, fun e => ?_⟩
  · obtain rfl := hv v e
    refine ⟨_, hk, rfl, _, rfl, ?_⟩
    rw [show (!decide (V.int (c : Int) = V.int (c : Int))) = false by simp]
    exact q H kvs ha (fun _ _ _ e => e) (Nat.le_succ _) fun _ _ e => .inl e
  · refine ⟨_, hk, rfl, _, rfl, ?_⟩
    rw [show (!decide (V.int (c : Int) = V.int (c : Int))) = false by simp]
    refine q _ _ upd_same (fun b u h e => by rw [upd_ne h]; exact e) (length_putK _ _ _) fun p' v e => ?_
    rw [valV_put] at e
    split at e
    · rename_i z
      exact .inr ⟨idK_inj.mp z, (Option.some.inj e).symm⟩
    · exact .inl e
abbrev nLaw : List Str := ["_law_script", "_law_jar_here", "_law_turn", "_law_pairs", "_law_terms", "_law_kind", "_law_box", "_law_one", "_law_other", "_law_term_here", "_law_first", "_law_second", "_law_every", "_law_own", "_law_classes", "_law_places", "_law_seen", "_law_back", "_law_place", "_law_spot", "_law_mine", "_law_its"]
theorem sc_law : FnScope nLaw ["_law_script"] (defScope s_law) := ⟨rfl, rfl, rfl, by decide +kernel, rfl, by decide +kernel, by decide +kernel⟩
abbrev cxL (P : Program) (w : World) (K : PySem.W.Frag) (mg : Str → Option Value) (base : Heap) (cdv : Value) (A : Around) (outer : List Env) (s : Shared) (H : Hp) (E : XK) : Cx := (cxOf CX0 P w K mg base nLaw "law" (defScope s_law) (He.fAd K d_law.at_) cdv A outer s H E).nox
theorem law_C (X : Fx P w K mg base) (cdv : Value) (A : Around) (outer : List Env) (s : Shared) (H0 : Hp) (E : XK) (hr : Room 51 (A.deeper (envOfC "law" (defScope s_law) s.heap.objs.size (He.fAd K d_law.at_) cdv))) :
    ∃ t, PSs (cxL P w K mg base cdv A outer s H0 E) ((defBody s_law).drop 11) t ∧ ∀ (H : Hp) (Q : VK) (S : List T) (R : T → T → Prop) (o1 o2 ev bx rw ow : Addr) (g1 g2 : G) (us : List T) (evs : List V) (ws : List (N × Nat)) (made : Nat) (cl : Nat → T) (cs : List Nat) (v0 v1 v2 v3 v4 v5 v7 v8 v9 v14 v15 v16 v17 v18 v19 v20 v21 : Option V),
      CI K S R o1 o2 g1 g2 ev us evs .non .non H → BxAt H bx rw ws made → BG S R ws made cl → made ≤ 2000 → Whole S R (look ws) → H ow = some (.lst (cs.map fun c : Nat => V.int (c : Int))) → us.map (find (look ws)) = cs.map some → us.length ≤ 2000 →
      (∀ u ∈ us, u ∈ S) → (∀ t ∈ S, t.ok ∧ t.size ≤ 40) → (∀ t ∈ S, ∀ p ∈ t.parts, p ∈ S) → (∀ a b, R a b → a.word = b.word) → (∀ H', Q (.bl true) H') →
      t { nx := fun _ H' => Q .non H', rt := Q } [v0, v1, v2, v3, v4, v5, some (.ref bx), v7, v8, v9, some (.ref o1), some (.ref o2), some (.ref ev), some (.ref ow), v14, v15, v16, v17, v18, v19, v20, v21] H := by
  have hu := hu_of hr
  obtain ⟨_, _, DC⟩ := (ok_class_of X 40).mono (k := 51) (by omega)
  obtain ⟨_, _, DT⟩ := (ok_last X).mono (k := 51) (by omega)
  obtain ⟨_, _, DF⟩ := ok_first X 40 (by omega)
  obtain ⟨_, _, DK⟩ := (ok_kind1 X).mono (k := 51) (by omega)
  obtain ⟨_, _, DN⟩ := (ok_nodes X).mono (k := 51) (by omega)
  refine ⟨_, pss_cons (ps_for PassesOwn.never rfl (pi_tup (pe_tup (pa_cons (pv 10) (pa_cons (pv 11) pa_nil)))) (pg_name (i := 14) sc_law.nd rfl (Or.inr rfl))
        (pss_cons (ps_setLc (i := 15) (own := [("_law_term_here", 9)]) (g := gName 9) (tt := tYes) rfl sc_law.nd rfl rfl (by rfl) (pi_list (pv 12))
            (blkOk_by (own := [("_law_term_here", 9)]) (N := nLaw) (sc := defScope s_law) (by decide +kernel)) (fun _ _ _ _ _ => pg_name (i := 9) sc_law.nd rfl (Or.inl rfl)) (fun _ _ _ _ _ => pts_nil)
            (fun _ _ _ _ _ => pe_m DC X.cl hr (pv 14) (pa_cons (pv 9) pa_nil)))
        (pss_cons (ps_if (PW.pt (pw_or (pt_cmpR op_ne (pe_callB call_len_seq (by rfl) X.b_len (by decide +kernel) (pa_cons (pe_fld (pv 14) (by rfl)) pa_nil)) (pe_callB call_len_seq (by rfl) X.b_len (by decide +kernel) (pa_cons (pe_ix ix_tup (pe_d DT hr (by rfl) (pa_cons (pv 6) pa_nil)) pe_int (fun _ _ => rfl)) pa_nil)) (nomark _))
            (pw_or (pt_cmpR op_ne (pe_fld (pv 14) (by rfl)) (pe_callB call_len_seq (by rfl) X.b_len (by decide +kernel) (pa_cons (pe_ix ix_list (pv 6) pe_int (fun _ _ => rfl)) pa_nil)) (nomark _)) (pw_or1 (pt_cmpR op_in_seq pe_non (pv 15) rfl))))) pss_never pss_nil)
        (pss_cons (ps_par (i := 16) (j := 17) rfl sc_law.nd rfl rfl (by decide) rfl rfl (pa_cons pe_dnewK (pa_cons pe_dnewK pa_nil)) (by rfl))
        (pss_one (ps_for PassesOwn.never rfl (pi_zip (by rfl) X.b_zip (pa_cons (pv 15) (pa_cons (pv 13) pa_nil))) (pg_tup rfl (pgs_cons (pg_name (i := 18) sc_law.nd rfl (Or.inl rfl)) (pgs_cons (pg_name (i := 19) sc_law.nd rfl (Or.inl rfl)) pgs_nil)))
          (pss_one (ps_if (PW.pt (pw_or (pt_cmpR op_ne (pe_dsetd (pv 16) (pv 18) (pv 19) ⟨rfl, rfl, rfl, rfl⟩) (pv 19) (nomark _)) (pw_or1 (pt_cmpR op_ne (pe_dsetd (pv 17) (pv 19) (pv 18) ⟨rfl, rfl, rfl, rfl⟩) (pv 18) (nomark _))))) pss_never pss_nil))))))))
    (pss_cons (ps_for PassesOwn.never rfl (pi_list (pv 12)) (pg_name (i := 9) sc_law.nd rfl (Or.inl rfl))
        (pss_cons (ps_par (i := 20) (j := 21) rfl sc_law.nd rfl rfl (by decide) rfl rfl (pa_cons (pe_m DC X.cl hr (pv 10) (pa_cons (pv 9) pa_nil)) (pa_cons (pe_m DC X.cl hr (pv 11) (pa_cons (pv 9) pa_nil)) pa_nil)) (by rfl))
        (pss_cons (ps_if (PW.pt (pw_or (pt_cmpR (op_neD hr.units) (pe_m DF X.cl hr (pv 10) (pa_cons (pv 20) pa_nil)) (pe_m DF X.cl hr (pv 11) (pa_cons (pv 21) pa_nil)) (nomark _))
            (pw_or1 (pt_cmpR op_ne (pe_m DK X.cl hr (pv 10) (pa_cons (pv 20) pa_nil)) (pe_m DK X.cl hr (pv 11) (pa_cons (pv 21) pa_nil)) (nomark _))))) pss_never pss_nil)
        (pss_one (ps_if (pt_cmpR op_ne (pe_callB call_len_seq (by rfl) X.b_len (by decide +kernel) (pa_cons (pe_m DN X.cl hr (pv 10) (pa_cons (pv 20) pa_nil)) pa_nil)) (pe_callB call_len_seq (by rfl) X.b_len (by decide +kernel) (pa_cons (pe_m DN X.cl hr (pv 11) (pa_cons (pv 21) pa_nil)) pa_nil)) (nomark _)) pss_never pss_nil)))))
    (pss_one (ps_ret pe_bl))), ?_⟩
  intro H Q S R o1 o2 ev bx rw ow g1 g2 us evs ws made cl cs v0 v1 v2 v3 v4 v5 v7 v8 v9 v14 v15 v16 v17 v18 v19 v20 v21 ci hbx hbg hmade hwh how hcs hus huS hS hSp hR hQ
  have sz : ∀ {n : Nat}, n ≤ 5000 → n < sizeLine := fun h => Nat.lt_of_le_of_lt h (by decide)
  have find1 : ∀ u ∈ us, ∃ i, find (look g1.ws) u = some i := fun u hu => ci.c1.whole.put u (huS u hu)
  have find2 : ∀ u ∈ us, ∃ i, find (look g2.ws) u = some i := fun u hu => ci.c2.whole.put u (huS u hu)
  have levs := Paired.len ci.tm
  have lcs : us.length = cs.length := by
    have := congrArg List.length hcs
    rw [List.length_map, List.length_map] at this
    exact this
  obtain ⟨rs, hrs, prs⟩ := hbx.rs
  have dep : ∀ u ∈ us, u.depth ≤ 40 := fun u hu => Nat.le_trans u.depth_le_size (hS u (huS u hu)).2
  refine ⟨_, rfl, _, rfl, (by show 2 ≤ sizeLine; decide), fun tp htp => ?_⟩
  have s0 : Same H (upd H tp (.tup [.ref o1, .ref o2])) := Same.upd htp
  have htp0 : upd H tp (.tup [.ref o1, .ref o2]) tp = some (.tup [.ref o1, .ref o2]) := upd_same
  generalize upd H tp (.tup [.ref o1, .ref o2]) = H0' at s0 htp0 ⊢
  refine ⟨tp, rfl, ⟨_, SqT.of htp0⟩, for_tup (K := K) (a := tp) (xs := [.ref o1, .ref o2]) (fun i σ H' => ∃ v14 v15 v16 v17 v18 v19, σ = [v0, v1, v2, v3, v4, v5, some (.ref bx), v7, v8, v9, some (.ref o1), some (.ref o2), some (.ref ev), some (.ref ow), v14, v15, v16, v17, v18, v19, v20, v21] ∧ Same H H' ∧ H' tp = some (.tup [.ref o1, .ref o2]))
    ⟨v14, v15, v16, v17, v18, v19, rfl, s0, htp0⟩ (fun i σ H' _ ⟨_, _, _, _, _, _, _, _, h⟩ => SqT.of h) ?_ ?_⟩
  · rintro i x σ H1 hx ⟨v14, v15, v16, v17, v18, v19, rfl, s1, htp1⟩
    obtain ⟨o, g, rfl, co⟩ : ∃ o g, x = .ref o ∧ CO K S R o g .non H := by
      match i, hx with
      | 0, hx => exact ⟨o1, g1, (Option.some.inj hx).symm, ci.c1⟩
      | 1, hx => exact ⟨o2, g2, (Option.some.inj hx).symm, ci.c2⟩
      | i + 2, hx => cases hx
    have ci1 := ci.same s1
    have co1 := co.same s1
    have b1 := hbx.same s1
    obtain ⟨ds, hds⟩ := finds (W := look g.ws) us fun u hu => co.whole.put u (huS u hu)
    have lds : us.length = ds.length := by
      have := congrArg List.length hds
      rw [List.length_map, List.length_map] at this
      exact this
    refine ⟨_, rfl, ev, rfl, ⟨_, SqL.of ci1.hev⟩, fun D hD => lc_list (K := K) (a := ev) (xs := evs) (fun k H' => Same H1 H' ∧ H' D = some (.lst ((ds.take k).map fun d : Nat => V.int (d : Int))))
      ⟨Same.upd hD, upd_same⟩ (fun k H' _ ⟨h, _⟩ => SqL.of (h _ _ ci1.hev)) ?_ ?_⟩
    · rintro k v H2 hv ⟨s2, hD2⟩
      obtain ⟨u, hu, tu⟩ := Paired.get ci1.tm hv
      obtain ⟨d, hd, fd⟩ := finds_at hds hu
      have mu := List.mem_of_getElem? hu
      have hk := (List.getElem?_eq_some_iff.mp hd).1
      have co2 := co1.same s2
      refine ⟨rfl, _, rfl, o, _, _, rfl, co2.at_.obj, rfl, _, rfl, o, _, u, v, d, rfl, co2.at_, tu.keep (.of s2), (hS u (huS u mu)).1, dep u mu, Nat.le_trans (dep u mu) (by decide), fd, fun H3 s3 => ⟨_, s3 _ _ hD2, ?_, fun b u e => ?_, ?_⟩⟩
      · rw [List.length_map, List.length_take]; exact sz (by omega)
      · rw [upd_ne (ne_of_none e hD)]; exact s3 _ _ (s2 _ _ e)
      · rw [upd_same, take_snoc hd, List.map_append]; rfl
    · rintro H2 ⟨s2, hD2⟩
      rw [← levs, lds, List.take_length] at hD2
      have s02 := Same.trans s1 s2
      have co2 := co1.same s2
      have b2 := b1.same s2
      change tSeq _ _ _ [v0, v1, v2, v3, v4, v5, some (.ref bx), v7, v8, v9, some (.ref o1), some (.ref o2), some (.ref ev), some (.ref ow), some (.ref o), some (.ref D), v16, v17, v18, v19, v20, v21] H2
      have hws : ws.length ≤ 2000 := by have := hbg.cnt; omega
      refine ⟨_, rfl, o, _, _, _, _, rfl, co2.at_.obj, X.cl, X.nplaces, lk_places .., _, _, rfl, .inr (SqT.of co2.at_.hpl), _, rfl, bx, rw, ws, made, rfl, b2, hws, fun H3 p q us' x2 x3 s3 hp3 hq3 hl3 => ⟨p, _, 0, _, rfl, rfl, SqT.of hp3, atI_nat (j := 0) rfl, q, _, rfl, .inl (SqL.of hq3), rfl, _, rfl, ?_⟩⟩
      have e1 : g.pls.length = us'.length := by rw [hl3, co.good.plc]; exact many_classes co.good co.whole hbg hwh
      rw [show (!decide (V.int ((({ g with fv := .non } : G).pls.length : Nat) : Int) = V.int ((us'.length : Nat) : Int))) = false by
        show (!decide (V.int ((g.pls.length : Nat) : Int) = V.int ((us'.length : Nat) : Int))) = false
        rw [e1]; simp]
      have co3 := co2.same s3
      have b3 := b2.same s3
      obtain ⟨rs3, hrs3, prs3⟩ := b3.rs
      refine iteF ⟨_, rfl, o, _, _, _, _, rfl, co3.at_.obj, X.cl, X.nmany, lk_many .., _, rfl, bx, _, 1, _, rfl, rfl, SqL.of b3.bx, atI_nat (j := 1) rfl, rw, _, rfl, .inl (SqL.of hrs3), rfl, _, rfl, ?_⟩
      have e2 : g.many = rs3.length := by
        rw [co.good.many, ← Paired.len prs3]
        exact Whole.nodes co.whole hwh hSp co.good.oo.nd hbg.nd
      rw [show (!decide (V.int ((({ g with fv := .non } : G).many : Nat) : Int) = V.int ((rs3.length : Nat) : Int))) = false by
        show (!decide (V.int ((g.many : Nat) : Int) = V.int ((rs3.length : Nat) : Int))) = false
        rw [e2]; simp]
      have hD3 := s3 _ _ hD2
      refine iteF ⟨_, rfl, D, _, rfl, .inl (SqL.of hD3), rfl, flat_ids ds, _, rfl, ?_⟩
      show if (if false = true then !inV .non (ds.map fun j : Nat => V.int (j : Int)) else inV .non (ds.map fun j : Nat => V.int (j : Int))) = true then _ else _
      rw [if_neg Bool.false_ne_true, no_none]
      refine iteF ?_
      refine fun sp hsp bp hbp => ⟨_, _, rfl, ?_⟩
      have s4 : Same H3 (upd (upd H3 sp (.dK [])) bp (.dK [])) := Same.trans (Same.upd hsp) (Same.upd hbp)
      have hs4 : upd (upd H3 sp (.dK [])) bp (.dK []) sp = some (.dK []) := Same.upd hbp _ _ upd_same
      have hb4 : upd (upd H3 sp (.dK [])) bp (.dK []) bp = some (.dK []) := upd_same
      have hbp3 : H3 bp = none := upd_none hbp
      have sb : sp ≠ bp := fun z => by rw [← z, upd_same] at hbp; cases hbp
      change Ends.nx _ [v0, v1, v2, v3, v4, v5, some (.ref bx), v7, v8, v9, some (.ref o1), some (.ref o2), some (.ref ev), some (.ref ow), some (.ref o), some (.ref D), some (.ref sp), some (.ref bp), v18, v19, v20, v21] (upd (upd H3 sp (.dK [])) bp (.dK []))
      generalize upd (upd H3 sp (.dK [])) bp (.dK []) = H4 at s4 hs4 hb4 ⊢
      have s34 : Same H1 H4 := Same.trans s2 (Same.trans s3 s4)
      have hspn : H1 sp = none := Same.none (Same.trans s2 s3) hsp
      have hbpn : H1 bp = none := Same.none (Same.trans s2 s3) hbp3
      have hD4 := s4 _ _ hD3
      have spD : sp ≠ D := (ne_of_none hD3 hsp).symm
      have bpD : bp ≠ D := (ne_of_none hD3 hbp3).symm
      have how1 := s1 _ _ how
      have agree : ∀ k k' a b c d : Nat, ds[k]? = some a → ds[k']? = some b → cs[k]? = some c → cs[k']? = some d → (a = b ↔ c = d) := fun k k' a b c d ha hb hc hd => by
        obtain ⟨u, hu, fu⟩ := finds_of hds ha
        obtain ⟨u', hu', fu'⟩ := finds_of hds hb
        obtain ⟨y, hy, fy⟩ := finds_at hcs hu
        obtain ⟨y', hy', fy'⟩ := finds_at hcs hu'
        obtain rfl : y = c := Option.some.inj (hy.symm.trans hc)
        obtain rfl : y' = d := Option.some.inj (hy'.symm.trans hd)
        have := co.whole.same hwh (a := u) (b := u') (huS u (List.mem_of_getElem? hu))
        rw [fu, fu', fy, fy', Option.some.injEq, Option.some.injEq] at this
        exact this
      refine ⟨_, rfl, _, rfl, D, ow, _, _, rfl, SqL.of hD4, SqL.of (s34 _ _ how1), RZ.for_zipL (K := K) (a := D) (b := ow) (xs := ds.map fun d : Nat => V.int (d : Int)) (ys := cs.map fun c : Nat => V.int (c : Int)) (by rw [List.length_map, List.length_map]; omega) (fun k σ H' => ∃ v18 v19 sk bk, σ = [v0, v1, v2, v3, v4, v5, some (.ref bx), v7, v8, v9, some (.ref o1), some (.ref o2), some (.ref ev), some (.ref ow), some (.ref o), some (.ref D), some (.ref sp), some (.ref bp), v18, v19, v20, v21] ∧ Same H1 H' ∧
          H' D = some (.lst (ds.map fun d : Nat => V.int (d : Int))) ∧ H' sp = some (.dK sk) ∧ H' bp = some (.dK bk) ∧ sk.length ≤ k ∧ bk.length ≤ k ∧ (∀ (p : Nat) v, valV sk (idK p) = some v → ∃ (k' c : Nat), ds[k']? = some p ∧ cs[k']? = some c ∧ v = .int (c : Int)) ∧ (∀ (c : Nat) v, valV bk (idK c) = some v → ∃ (k' p : Nat), ds[k']? = some p ∧ cs[k']? = some c ∧ v = .int (p : Int)))
        ⟨v18, v19, [], [], rfl, s34, hD4, hs4, hb4, Nat.le_refl _, Nat.le_refl _, fun p v e => (by cases e), fun p v e => (by cases e)⟩ (fun k σ H' hp => by obtain ⟨_, _, _, _, _, h, h2, _⟩ := hp; exact ⟨SqL.of h2, SqL.of (h _ _ how1)⟩) ?_ ?_⟩
      · rintro k x y Z σ H5 hx hy ⟨v18, v19, sk, bk, rfl, s5, hD5, hs5, hb5, ls, lb, is, ib⟩ hZ
        rw [List.getElem?_map] at hx hy
        obtain ⟨p, hp, rfl⟩ := Option.map_eq_some_iff.mp hx
        obtain ⟨c, hc, rfl⟩ := Option.map_eq_some_iff.mp hy
        have hk := (List.getElem?_eq_some_iff.mp hp).1
        refine ⟨Z, _, rfl, SqT.of upd_same, rfl, _, _, rfl, _, _, rfl, rfl, ?_⟩
        have s6 : Same H5 (upd H5 Z (.tup [.int (p : Int), .int (c : Int)])) := Same.upd hZ
        have hs6 := s6 _ _ hs5
        have hb6 := s6 _ _ hb5
        have hD6 := s6 _ _ hD5
        have s16 := Same.trans s5 s6
        generalize upd H5 Z (.tup [.int (p : Int), .int (c : Int)]) = H6 at s6 hs6 hb6 hD6 s16 ⊢
        refine setd_ne (i := 16) (j := 18) (k := 19) (p := p) (c := c) rfl rfl rfl hs6 (sz (by omega)) (fun v e => ?_) fun H7 sk' hs7 k7 ls7 is7 => iteF (setd_ne (i := 17) (j := 19) (k := 18) (p := c) (c := p) rfl rfl rfl (k7 _ _ sb.symm hb6) (sz (by omega)) (fun v e => ?_) fun H8 bk' hb8 k8 lb8 ib8 => iteF ?_)
        · obtain ⟨k', c', h1, h2, rfl⟩ := is p v e
          rw [(agree k' k p p c' c h1 hp h2 hc).mp rfl]
        · obtain ⟨k', p', h1, h2, rfl⟩ := ib c v e
          rw [(agree k' k p' p c c h1 hp h2 hc).mpr rfl]
        · refine ⟨some (.int (p : Int)), some (.int (c : Int)), sk', bk', rfl, fun b u e => k8 _ _ (ne_of_none e hbpn) (k7 _ _ (ne_of_none e hspn) (s16 _ _ e)), k8 _ _ bpD.symm (k7 _ _ spD.symm hD6), k8 _ _ sb hs7, hb8, by omega, by omega, fun p' v e => ?_, fun c' v e => ?_⟩
          · rcases is7 p' v e with e | ⟨rfl, rfl⟩
            · exact is p' v e
            · exact ⟨k, c, hp, hc, rfl⟩
          · rcases ib8 c' v e with e | ⟨rfl, rfl⟩
            · exact ib c' v e
            · exact ⟨k, p, hp, hc, rfl⟩
      · rintro σ H5 ⟨v18, v19, sk, bk, rfl, s5, _⟩
        exact ⟨_, _, _, _, _, _, rfl, Same.trans s1 s5, s5 _ _ htp1⟩
  · rintro σ H1 ⟨v14, v15, v16, v17, v18, v19, rfl, s1, htp1⟩
    have ci1 := ci.same s1
    refine ⟨_, rfl, ev, rfl, ⟨_, SqL.of ci1.hev⟩, for_list (K := K) (a := ev) (xs := evs) (fun k σ H' => ∃ f1 f2 v9 v20 v21, σ = [v0, v1, v2, v3, v4, v5, some (.ref bx), v7, v8, v9, some (.ref o1), some (.ref o2), some (.ref ev), some (.ref ow), v14, v15, v16, v17, v18, v19, v20, v21] ∧ CI K S R o1 o2 g1 g2 ev us evs f1 f2 H')
      ⟨_, _, v9, v20, v21, rfl, ci1⟩ (fun k σ H' _ ⟨_, _, _, _, _, _, h⟩ => SqL.of h.hev) ?_ ?_⟩
    · rintro k x σ H2 hx ⟨f1, f2, v9, v20, v21, rfl, c2⟩
      obtain ⟨u, hu, tu⟩ := Paired.get c2.tm hx
      have mu := List.mem_of_getElem? hu
      obtain ⟨c, hc⟩ := find1 u mu
      obtain ⟨c', hc'⟩ := find2 u mu
      have okS := fun t ht => hS t ht
      have ok1 := (hS u (huS u mu)).1
      have l1 := c2.c1.good.live hc
      have l2 := c2.c2.good.live hc'
      have k1 : c ∈ g1.liveK := by rw [c2.c1.good.oo.lk]; exact l1
      have k2 : c' ∈ g2.liveK := by rw [c2.c2.good.oo.lk]; exact l2
      refine ⟨_, rfl, o1, _, _, rfl, c2.c1.at_.obj, rfl, _, rfl, o1, _, u, x, c, rfl, c2.c1.at_, tu, ok1, dep u mu, Nat.le_trans (dep u mu) (by decide), hc, fun H3 s3 => ?_⟩
      have c3 := c2.same s3
      refine ⟨_, rfl, o2, _, _, rfl, c3.c2.at_.obj, rfl, _, rfl, o2, _, u, x, c', rfl, c3.c2.at_, tu.keep (.of s3), ok1, dep u mu, Nat.le_trans (dep u mu) (by decide), hc', fun H4 s4 => ⟨_, _, rfl, ?_⟩⟩
      have c4 := c3.same s4
      change tSeq _ _ _ [v0, v1, v2, v3, v4, v5, some (.ref bx), v7, v8, some x, some (.ref o1), some (.ref o2), some (.ref ev), some (.ref ow), v14, v15, v16, v17, v18, v19, some (.int (c : Int)), some (.int (c' : Int))] H4
      refine ⟨_, rfl, o1, _, _, rfl, c4.c1.at_.obj, rfl, _, rfl, S, R, o1, g1, f1, c, rfl, c4.c1.at_, c4.c1.good, c4.c1.whole, l1, c4.c1.made, hS, hR, c4.tabs, c4.c1.memo, fun H5 f1' x5 sz1 fnd1 e5 a5 m5 t5 tm5 => ?_⟩
      have c5 := c4.one e5 a5 m5 t5
      refine ⟨_, rfl, o2, _, _, rfl, c5.c2.at_.obj, rfl, _, rfl, S, R, o2, g2, f2, c', rfl, c5.c2.at_, c5.c2.good, c5.c2.whole, l2, c5.c2.made, hS, hR, c5.tabs, c5.c2.memo, fun H6 f2' x6 sz2 fnd2 e6 a6 m6 t6 tm6 => ?_⟩
      have c6 := c5.two e6 a6 m6 t6
      have tm56 := tm5.keep (e6.tups c5.c2.at_.obj)
      obtain ⟨_, _, _, _, _, z1, z1'⟩ := id m5
      obtain ⟨_, _, _, _, _, z2, z2'⟩ := id m6
      have hok : ∀ t ∈ S, t.ok := fun t ht => (hS t ht).1
      have eq : fnd1 c = fnd2 c' := Whole.firsts c4.c1.whole c4.c2.whole hSp hok hR z1 z2 z1' z2' txt_inj _ u (huS u mu) c c' hc hc' rfl
      have dpt : (fnd1 c).depth ≤ 60 := by
        obtain ⟨n, _, hn⟩ := find_some hc
        have h1 := (Firsts.member c4.c1.whole hok hR z1 z1' _ c n hn rfl).2.2
        have h2 := z1.le u c hc
        have h3 := (hS u (huS u mu)).2
        have h4 := (fnd1 c).depth_le_size
        omega
      refine ⟨enc (fnd1 c), enc (fnd2 c'), tm56.dp, tm6.dp, enc_shaped dpt, enc_shaped (by rw [← eq]; exact dpt), _, rfl, ?_⟩
      rw [enc_eqv, decide_eq_true eq]
      refine iteF ⟨_, rfl, o1, _, _, rfl, c6.c1.at_.obj, rfl, _, rfl, o1, _, c, rfl, c6.c1.at_, l1, k1, fun H7 s7 => ?_⟩
      have c7 := c6.same s7
      refine ⟨_, rfl, o2, _, _, rfl, c7.c2.at_.obj, rfl, _, rfl, o2, _, c', rfl, c7.c2.at_, l2, k2, fun H8 s8 => ⟨rfl, _, rfl, ?_⟩⟩
      have c8 := c7.same s8
      rw [show (!decide (V.str (kS (({ g1 with fv := f1' } : G).cl c).word) = V.str (kS (({ g2 with fv := f2' } : G).cl c').word))) = false by
        show (!decide (V.str (kS (g1.cl c).word) = V.str (kS (g2.cl c').word))) = false
        rw [same_kind c8.c1.good c8.c2.good hR hc hc']; simp]
      refine iteF ⟨_, rfl, o1, _, _, rfl, c8.c1.at_.obj, rfl, _, rfl, o1, _, c, rfl, c8.c1.at_, l1, fun H9 p9 xs9 s9 hp9 hl9 => ⟨p9, _, rfl, .inr (SqT.of hp9), ?_⟩⟩
      have c9 := c8.same s9
      refine ⟨_, rfl, o2, _, _, rfl, c9.c2.at_.obj, rfl, _, rfl, o2, _, c', rfl, c9.c2.at_, l2, fun H10 p10 xs10 s10 hp10 hl10 => ⟨p10, _, rfl, .inr (SqT.of hp10), rfl, _, rfl, ?_⟩⟩
      have c10 := c9.same s10
      have el : xs9.length = xs10.length := by
        rw [hl9, hl10]
        exact many_members c8.c1.good c8.c2.good c8.c1.whole c8.c2.whole hSp (huS u mu) hc hc'
      rw [show (!decide (V.int ((xs9.length : Nat) : Int) = V.int ((xs10.length : Nat) : Int))) = false by rw [el]; simp]
      exact iteF ⟨_, _, _, _, _, rfl, c10⟩
    · rintro σ H2 ⟨f1, f2, v9, v20, v21, rfl, c2⟩
      exact hQ H2
end K45
/-! part K45Q8 -/
set_option autoImplicit true
set_option Elab.async false
set_option linter.all false
set_option maxRecDepth 100000
set_option maxHeartbeats 4000000
/-! Walk: law, its middle part: its own classes, two objects, the list of all terms. -/
namespace K45
open PySem PySem.Spec PyProof.Rows L2
variable {P : Program} {w : World} {K : PySem.W.Frag} {mg : Str → Option Value} {base : Heap}
/-! ### plain -/
def allT (ps : List (T × T)) (ts : List T) : List T := (ts.map T.under).flatten ++ (ps.map fun p => p.1.under ++ p.2.under).flatten
theorem mem_allT {ps : List (T × T)} {ts : List T} {u : T} : u ∈ allT ps ts ↔ (∃ t ∈ ts, u ∈ t.under) ∨ ∃ p ∈ ps, u ∈ p.1.under ∨ u ∈ p.2.under := by
  unfold allT
  rw [List.mem_append, List.mem_flatten, List.mem_flatten]
  constructor
  · rintro (⟨l, hl, hu⟩ | ⟨l, hl, hu⟩)
    · obtain ⟨t, ht, rfl⟩ := List.mem_map.mp hl
      exact .inl ⟨t, ht, hu⟩
    · obtain ⟨p, hp, rfl⟩ := List.mem_map.mp hl
      exact .inr ⟨p, hp, List.mem_append.mp hu⟩
  · rintro (⟨t, ht, hu⟩ | ⟨p, hp, hu⟩)
    · exact .inl ⟨_, List.mem_map.mpr ⟨t, ht, rfl⟩, hu⟩
    · exact .inr ⟨_, List.mem_map.mpr ⟨p, hp, rfl⟩, List.mem_append.mpr hu⟩
theorem allT_parts {ps : List (T × T)} {ts : List T} : ∀ t ∈ allT ps ts, ∀ p ∈ t.parts, p ∈ allT ps ts := fun t ht p hp => by
  rw [mem_allT] at ht ⊢
  rcases ht with ⟨x, hx, h⟩ | ⟨x, hx, h | h⟩
  · exact .inl ⟨x, hx, T.under_closed x t h p hp⟩
  · exact .inr ⟨x, hx, .inl (T.under_closed _ t h p hp)⟩
  · exact .inr ⟨x, hx, .inr (T.under_closed _ t h p hp)⟩
theorem find_under {W : Tab} : ∀ (t : T) (i : Nat), find W t = some i → ∀ q ∈ t.under, ∃ j, find W q = some j := by
  refine T.byParts (P := fun t => ∀ i, find W t = some i → ∀ q ∈ t.under, ∃ j, find W q = some j) ?_
  intro t ih i e q hq
  rw [T.under_eq] at hq
  rcases List.mem_cons.mp hq with rfl | hq
  · exact ⟨i, e⟩
  · obtain ⟨l, hl, hq⟩ := List.mem_flatten.mp hq
    obtain ⟨r, hr, rfl⟩ := List.mem_map.mp hl
    obtain ⟨j, ej⟩ := find_part e hr
    exact ih r hr j ej q hq
theorem under_len (t : T) : t.under.length = t.size := by
  induction t with
  | lf i => rfl
  | un l a ih => simp only [T.under, T.size, List.length_cons]; omega
  | bin l a b ih1 ih2 => simp only [T.under, T.size, List.length_cons, List.length_append]; omega
  | ter l a b c ih1 ih2 ih3 => simp only [T.under, T.size, List.length_cons, List.length_append]; omega
theorem flat_len {α : Type} {n : Nat} : ∀ (ls : List (List α)), (∀ l ∈ ls, l.length ≤ n) → ls.flatten.length ≤ ls.length * n
  | [], _ => by simp
  | l :: ls, h => by
    have h1 := h l List.mem_cons_self
    have h2 := flat_len ls fun x hx => h x (List.mem_cons_of_mem _ hx)
    rw [List.flatten_cons, List.length_append, List.length_cons, Nat.add_mul, Nat.one_mul]
    omega
abbrev joined (ps : List (T × T)) : T → T → Prop := fun a b => (a, b) ∈ ps
theorem whole_of {ps : List (T × T)} {ts : List T} {W : Tab} {cl : Nat → T} (cov : ∀ n i, W n = some i → ∃ t ∈ allT ps ts, nd W t = some n) (snd : Sound (joined ps) cl W) (hp : ∀ p ∈ ps, (Dd.join p).done W) (ht : ∀ t ∈ ts, (Dd.put t).done W) : Whole (allT ps ts) (joined ps) W where
  put := fun u hu => by
    rcases mem_allT.mp hu with ⟨t, h1, h2⟩ | ⟨p, h1, h2⟩
    · obtain ⟨i, e⟩ := ht t h1
      exact find_under t i e u h2
    · obtain ⟨i, e1, e2⟩ := hp p h1
      rcases h2 with h2 | h2
      · exact find_under _ i e1 u h2
      · exact find_under _ i e2 u h2
  cov := cov
  sound := fun a b i e1 e2 => snd.same e1 e2
  closed := fun a b h => hp (a, b) h
/-! ### the heap -/
theorem BxAt.jar {bx rw j cs : Addr} {H H' : Hp} {ws : List (N × Nat)} {made b : Nat} (h : BxAt H bx rw ws made) (hj : JarAt H j cs b) (k : Kp j H H') : BxAt H' bx rw ws made := by
  obtain ⟨rs, h1, h2⟩ := h.rs
  obtain ⟨_, _, _, e, _⟩ := hj
  refine ⟨k _ _ (fun z => by have := h.bx; rw [z, e] at this; cases this) h.bx, rs, k _ _ (fun z => ?_) h1, Paired.imp (fun _ _ z => z.keep fun a u q s => k _ _ (fun y => ?_) q) h2⟩
  · rw [z, e] at h1
    obtain rfl := HO.lst.inj (Option.some.inj h1)
    obtain ⟨_, _, r, _, y, _⟩ := Paired.get h2 (i := 1) rfl
    cases y
  · subst y
    rw [e] at q
    obtain rfl := Option.some.inj q
    rcases s with ⟨_, s⟩ | ⟨_, _, s⟩ <;> cases s
theorem tabs_kp {L : List (Addr × Str)} {j cs : Addr} {H H' : Hp} {b : Nat} (t : LamX.Tabs L H) (hj : JarAt H j cs b) (k : Kp j H H') : LamX.Tabs L H' := fun p hp => by
  obtain ⟨_, _, _, e, _⟩ := hj
  obtain ⟨ps, e1, e2, e3⟩ := t p hp
  refine ⟨ps, k _ _ (ne_of e1 e (fun z => nomatch z)) e1, e2, fun pos cv hcv => ?_⟩
  obtain ⟨c', a, b⟩ := e3 pos cv hcv
  exact ⟨c', a, k _ _ (ne_of b e (fun z => by unfold LamX.CodeO at z; cases z)) b⟩
theorem Good.co {S : List T} {R : T → T → Prop} {o : Addr} {g : G} {H : Hp} (h : Good S R g) (a : At K o g H) (w : Whole S R (look g.ws)) (m : g.made ≤ 2000) : CO K S R o g .non H :=
  ⟨by rw [show ({ g with fv := .non } : G) = g by rw [← h.fv]]; exact a, h, w, m, .inl rfl⟩
theorem law_B (X : Fx P w K mg base) (cdv : Value) (A : Around) (outer : List Env) (s : Shared) (H0 : Hp) (E : XK) (hr : Room 51 (A.deeper (envOfC "law" (defScope s_law) s.heap.objs.size (He.fAd K d_law.at_) cdv))) :
    ∃ t, PSs (cxL P w K mg base cdv A outer s H0 E) ((defBody s_law).drop 3) t ∧ ∀ (H : Hp) (Q : VK) (j cs pl tl : Addr) (pvs tvs : List V) (ps : List (T × T)) (ts : List T) (b : Nat) (v0 v2 v5 v6 v7 v8 v9 v10 v11 v12 v13 v14 v15 v16 v17 v18 v19 v20 v21 : Option V),
      JarAt H j cs b → b + 250 ≤ 5000 → H pl = some (.lst pvs) → Paired (PrAt H) ps pvs → H tl = some (.lst tvs) → Paired (TmAt H) ts tvs → ps.length ≤ 9 → ts.length ≤ 4 →
      (∀ p ∈ ps, (p.1.ok ∧ p.1.depth ≤ 4 ∧ p.1.size ≤ 40) ∧ (p.2.ok ∧ p.2.depth ≤ 4 ∧ p.2.size ≤ 40) ∧ p.1.word = p.2.word) → (∀ t ∈ ts, t.ok ∧ t.depth ≤ 4 ∧ t.size ≤ 40) → LamX.Tabs (fT K) H → (∀ H', Q (.bl true) H') →
      t { nx := fun _ H' => Q .non H', rt := Q } [v0, some (.ref j), v2, some (.ref pl), some (.ref tl), v5, v6, v7, v8, v9, v10, v11, v12, v13, v14, v15, v16, v17, v18, v19, v20, v21] H := by
  have hu := hu_of hr
  obtain ⟨tC, hC, runC⟩ := law_C X cdv A outer s H0 E hr
  obtain ⟨_, _, DP⟩ := (ok_lput X 4).mono (k := 51) (by omega)
  obtain ⟨_, _, DJ⟩ := (ok_ljoin X).mono (k := 51) (by omega)
  obtain ⟨_, _, DM⟩ := (ok_made X).mono (k := 51) (by omega)
  obtain ⟨_, _, DU⟩ := (ok_under X 4).mono (k := 51) (by omega)
  obtain ⟨_, _, DF⟩ := (ok_lfind X 40).mono (k := 51) (by omega)
  refine ⟨_, pss_cons (ps_set (i := 6) sc_law.nd rfl (Or.inr rfl) (pe_lst (pa_cons pe_int (pa_cons (pe_lst pa_nil) pa_nil))))
    (pss_cons (ps_for PassesOwn.never rfl (pi_list (pv 3)) (pg_tup rfl (pgs_cons (pg_name (i := 7) sc_law.nd rfl (Or.inl rfl)) (pgs_cons (pg_name (i := 8) sc_law.nd rfl (Or.inl rfl)) pgs_nil)))
      (pss_one (ps_expr (pe_d DJ hr (by rfl) (pa_cons (pv 6) (pa_cons (pe_d DP hr (by rfl) (pa_cons (pv 6) (pa_cons (pv 7) pa_nil))) (pa_cons (pe_d DP hr (by rfl) (pa_cons (pv 6) (pa_cons (pv 8) pa_nil))) pa_nil)))))))
    (pss_cons (ps_for PassesOwn.never rfl (pi_list (pv 4)) (pg_name (i := 9) sc_law.nd rfl (Or.inl rfl))
      (pss_one (ps_expr (pe_d DP hr (by rfl) (pa_cons (pv 6) (pa_cons (pv 9) pa_nil))))))
    (pss_cons (ps_par (i := 10) (j := 11) rfl sc_law.nd rfl rfl (by decide) rfl rfl (pa_cons (pe_d DM hr (by rfl) (pa_cons (pv 1) (pa_cons (pv 3) (pa_cons (pv 4) pa_nil)))) (pa_cons (pe_d DM hr (by rfl) (pa_cons (pv 1) (pa_cons (pv 3) (pa_cons (pv 4) pa_nil)))) pa_nil)) (by rfl))
    (pss_cons (ps_set (i := 12) sc_law.nd rfl (Or.inl rfl) (pe_lst pa_nil))
    (pss_cons (ps_for PassesOwn.never rfl (pi_list (pv 4)) (pg_name (i := 9) sc_law.nd rfl (Or.inl rfl))
      (pss_one (ps_expr (pe_bm PySem.F.plainAttrs_list PySem.F.slot_list_extend PySem.F.type_list_extend mt_extend (pv 12) (pa_cons (pe_d DU hr (by rfl) (pa_cons (pv 9) pa_nil)) pa_nil)))))
    (pss_cons (ps_for PassesOwn.never rfl (pi_list (pv 3)) (pg_tup rfl (pgs_cons (pg_name (i := 7) sc_law.nd rfl (Or.inl rfl)) (pgs_cons (pg_name (i := 8) sc_law.nd rfl (Or.inl rfl)) pgs_nil)))
      (pss_one (ps_expr (pe_bm PySem.F.plainAttrs_list PySem.F.slot_list_extend PySem.F.type_list_extend mt_extend (pv 12) (pa_cons (pe_op op_cat (pe_d DU hr (by rfl) (pa_cons (pv 7) pa_nil)) (pe_d DU hr (by rfl) (pa_cons (pv 8) pa_nil))) pa_nil)))))
    (pss_cons (ps_setLc (i := 13) (own := [("_law_term_here", 9)]) (g := gName 9) (tt := tYes) rfl sc_law.nd rfl rfl (by rfl) (pi_list (pv 12))
      (blkOk_by (own := [("_law_term_here", 9)]) (N := nLaw) (sc := defScope s_law) (by decide +kernel)) (fun _ _ _ _ _ => pg_name (i := 9) sc_law.nd rfl (Or.inl rfl)) (fun _ _ _ _ _ => pts_nil)
      (fun _ _ _ _ _ => pe_d DF hr (by rfl) (pa_cons (pv 6) (pa_cons (pv 9) pa_nil)))) hC))))))), ?_⟩
  intro H Q j cs pl tl pvs tvs ps ts b v0 v2 v5 v6 v7 v8 v9 v10 v11 v12 v13 v14 v15 v16 v17 v18 v19 v20 v21 hj hb hpl hps htl hts lp lt limp limt tabs hQ
  have lpv := Paired.len hps
  have ltv := Paired.len hts
  have sz : ∀ {n : Nat}, n ≤ 5000 → n < sizeLine := fun h => Nat.lt_of_le_of_lt h (by decide)
  have LP : ∀ p ∈ ps, (Dd.join p).lim (allT ps ts) (joined ps) := fun p hp => by
    obtain ⟨⟨a1, a2, a3⟩, ⟨b1, b2, b3⟩, c⟩ := limp p hp
    exact ⟨⟨a1, a2, a3, fun x hx => mem_allT.mpr (.inr ⟨p, hp, .inl hx⟩)⟩, ⟨b1, b2, b3, fun x hx => mem_allT.mpr (.inr ⟨p, hp, .inr hx⟩)⟩, c, hp⟩
  have LT : ∀ t ∈ ts, (Dd.put t).lim (allT ps ts) (joined ps) := fun t ht => by
    obtain ⟨a1, a2, a3⟩ := limt t ht
    exact ⟨a1, a2, a3, fun x hx => mem_allT.mpr (.inl ⟨t, ht, hx⟩)⟩
  have hS : ∀ t ∈ allT ps ts, t.ok ∧ t.size ≤ 40 := fun u hu => by
    rcases mem_allT.mp hu with ⟨t, h1, h2⟩ | ⟨p, h1, h2⟩
    · obtain ⟨a1, _, a3⟩ := limt t h1
      exact ⟨T.ok_under a1 u h2, Nat.le_trans (t.under_size u h2) a3⟩
    · obtain ⟨⟨a1, _, a3⟩, ⟨b1, _, b3⟩, _⟩ := limp p h1
      rcases h2 with h2 | h2
      · exact ⟨T.ok_under a1 u h2, Nat.le_trans (T.under_size _ u h2) a3⟩
      · exact ⟨T.ok_under b1 u h2, Nat.le_trans (T.under_size _ u h2) b3⟩
  have hR : ∀ a b, joined ps a b → a.word = b.word := fun a b h => (limp (a, b) h).2.2
  -- the box
  refine ⟨(by show 0 ≤ sizeLine; decide), fun rw0 hrw0 => ⟨(by show 2 ≤ sizeLine; decide), fun bx hbx0 => ?_⟩⟩
  have s1 : Same H (upd (upd H rw0 (.lst [])) bx (.lst [.int 0, .ref rw0])) := Same.trans (Same.upd hrw0) (Same.upd hbx0)
  have hbxn : H bx = none := upd_none hbx0
  have b1 : BxAt (upd (upd H rw0 (.lst [])) bx (.lst [.int 0, .ref rw0])) bx rw0 [] 0 := ⟨upd_same, [], Same.upd hbx0 _ _ upd_same, .nil⟩
  change tSeq _ _ _ [v0, some (.ref j), v2, some (.ref pl), some (.ref tl), v5, some (.ref bx), v7, v8, v9, v10, v11, v12, v13, v14, v15, v16, v17, v18, v19, v20, v21] (upd (upd H rw0 (.lst [])) bx (.lst [.int 0, .ref rw0]))
  generalize upd (upd H rw0 (.lst [])) bx (.lst [.int 0, .ref rw0]) = H1 at s1 b1 ⊢
  -- the joins
  refine ⟨_, rfl, pl, rfl, ⟨_, SqL.of (s1 _ _ hpl)⟩, for_list (K := K) (a := pl) (xs := pvs) (fun i σ H' => ∃ v7 v8 rw ws made cl, σ = [v0, some (.ref j), v2, some (.ref pl), some (.ref tl), v5, some (.ref bx), v7, v8, v9, v10, v11, v12, v13, v14, v15, v16, v17, v18, v19, v20, v21] ∧ Same H H' ∧ H rw = none ∧ BxAt H' bx rw ws made ∧ BG (allT ps ts) (joined ps) ws made cl ∧ made ≤ 80 * i ∧ ∀ p ∈ ps.take i, (Dd.join p).done (look ws))
    ⟨v7, v8, rw0, [], 0, fun _ => .lf .na, rfl, s1, hrw0, b1, BG.start _ _ _, Nat.zero_le _, fun p hp => by simp at hp⟩ (fun i σ H' _ ⟨_, _, _, _, _, _, _, h, _⟩ => SqL.of (h _ _ hpl)) ?_ ?_⟩
  · rintro i x σ H2 hx ⟨v7, v8, rw, ws, made, cl, rfl, s2, hrw, b2, g2, m2, d2⟩
    obtain ⟨p, hp, a, x1, x2, rfl, ha, tx, ty⟩ := Paired.get hps hx
    have hi := (List.getElem?_eq_some_iff.mp hp).1
    obtain ⟨⟨ok1, dp1, sz1, un1⟩, ⟨ok2, dp2, sz2, un2⟩, wd, hRp⟩ := LP p (List.mem_of_getElem? hp)
    refine ⟨a, _, rfl, SqT.of (s2 _ _ ha), rfl, _, _, rfl, _, _, rfl, rfl, ?_⟩
    refine ⟨_, rfl, _, rfl, _, rfl, allT ps ts, joined ps, bx, rw, ws, made, cl, p.1, x1, rfl, b2, g2, tx.keep (.of s2), dp1, by omega, un1, by omega, fun H3 ws3 made3 cl3 i3 k3 b3 g3 le3 f3 m3 => ?_⟩
    have t3 := b2.tups k3
    refine ⟨_, rfl, _, rfl, allT ps ts, joined ps, bx, rw, ws3, made3, cl3, p.2, x2, rfl, b3, g3, (ty.keep (.of s2)).keep t3, dp2, by omega, un2, by omega, fun H4 ws4 made4 cl4 i4 k4 b4 g4 le4 f4 m4 => ?_⟩
    have f34 := le4.find _ _ f3
    have in_lt : ∀ {t : T} {i : Nat}, find (look ws4) t = some i → i < made4 := fun e => by
      obtain ⟨n, _, e2⟩ := find_some e
      exact (g4.pla n _ (look_mem e2)).1
    refine ⟨allT ps ts, joined ps, bx, rw, ws4, made4, cl4, i3, i4, rfl, b4, g4, by omega, in_lt f34, in_lt f4, .trans (.symm (g4.snd.find _ _ f34)) (.trans (.base hRp) (g4.snd.find _ _ f4)), fun H5 rw5 ws5 ρ k5 hrw5 b5 g5 le5 e5 => ?_⟩
    have s4 : Same H H4 := fun c u e => k4 c u (ne_of_none e hbxn) (ne_of_none e hrw) (k3 c u (ne_of_none e hbxn) (ne_of_none e hrw) (s2 c u e))
    refine ⟨_, _, rw5, ws5, made4, cl4, rfl, fun c u e => k5 c u (ne_of_none e hbxn) (s4 c u e), hrw5.elim (fun z => by rw [z]; exact hrw) fun z => Same.none s4 z, b5, g5, by omega, fun q hq => ?_⟩
    rw [take_snoc hp] at hq
    rcases List.mem_append.mp hq with hq | hq
    · exact Dd.done_le le5 (Dd.done_le le4 (Dd.done_le le3 (d2 q hq)))
    · rw [List.mem_singleton.mp hq]
      exact ⟨ρ i3, le5.find _ _ f34, by rw [e5]; exact le5.find _ _ f4⟩
  rintro σ H2 ⟨v7, v8, rw, ws, made, cl, rfl, s2, hrw, b2, g2, m2, d2⟩
  rw [← lpv, List.take_length] at d2
  rw [← lpv] at m2
  have m2 : made ≤ 720 := by omega
  -- the terms
  refine ⟨_, rfl, tl, rfl, ⟨_, SqL.of (s2 _ _ htl)⟩, for_list (K := K) (a := tl) (xs := tvs) (fun i σ H' => ∃ v9 ws made cl, σ = [v0, some (.ref j), v2, some (.ref pl), some (.ref tl), v5, some (.ref bx), v7, v8, v9, v10, v11, v12, v13, v14, v15, v16, v17, v18, v19, v20, v21] ∧ Same H H' ∧ BxAt H' bx rw ws made ∧ BG (allT ps ts) (joined ps) ws made cl ∧ made ≤ 720 + 40 * i ∧ (∀ p ∈ ps, (Dd.join p).done (look ws)) ∧ ∀ t ∈ ts.take i, (Dd.put t).done (look ws))
    ⟨v9, ws, made, cl, rfl, s2, b2, g2, by omega, d2, fun t ht => by simp at ht⟩ (fun i σ H' _ ⟨_, _, _, _, _, h, _⟩ => SqL.of (h _ _ htl)) ?_ ?_⟩
  · rintro i x σ H3 hx ⟨v9, ws, made, cl, rfl, s3, b3, g3, m3, dp3, dt3⟩
    obtain ⟨t, ht, tx⟩ := Paired.get hts hx
    have hi := (List.getElem?_eq_some_iff.mp ht).1
    obtain ⟨ok1, dp1, sz1, un1⟩ := LT t (List.mem_of_getElem? ht)
    refine ⟨_, rfl, _, rfl, allT ps ts, joined ps, bx, rw, ws, made, cl, t, x, rfl, b3, g3, tx.keep (.of s3), dp1, by omega, un1, by omega, fun H4 ws4 made4 cl4 i4 k4 b4 g4 le4 f4 m4 => ?_⟩
    refine ⟨_, ws4, made4, cl4, rfl, fun c u e => k4 c u (ne_of_none e hbxn) (ne_of_none e hrw) (s3 c u e), b4, g4, by omega, fun p hp => Dd.done_le le4 (dp3 p hp), fun q hq => ?_⟩
    rw [take_snoc ht] at hq
    rcases List.mem_append.mp hq with hq | hq
    · exact Dd.done_le le4 (dt3 q hq)
    · rw [List.mem_singleton.mp hq]
      exact ⟨i4, f4⟩
  clear b2 g2 d2 m2
  rintro σ H3 ⟨v9, ws, made, cl, rfl, s3, b3, g3, m3, dp3, dt3⟩
  rw [← ltv, List.take_length] at dt3
  rw [← ltv] at m3
  have m3 : made ≤ 880 := by omega
  have w3 := whole_of g3.cov g3.snd dp3 dt3
  -- two objects
  have hj3 := hj.same s3
  refine ⟨_, rfl, _, rfl, _, rfl, allT ps ts, joined ps, j, cs, pl, tl, pvs, tvs, ps, ts, b, rfl, hj3, by omega, s3 _ _ hpl, Paired.imp (fun _ _ z => PrAt.keep (.of s3) z) hps, s3 _ _ htl, Paired.imp (fun _ _ z => TmAt.keep (.of s3) z) hts, lp, lt, LP, LT, fun H4 o1 g1 k4 hj4 a4 gd4 ft4 m4 dp4 dt4 => ?_⟩
  have plj : pl ≠ j := fun z => by
    obtain ⟨_, _, _, e, _⟩ := hj
    rw [← z, hpl] at e
    obtain rfl := HO.lst.inj (Option.some.inj e)
    obtain ⟨_, _, _, _, _, y, _⟩ := Paired.get hps (i := 1) rfl
    cases y
  have tlj : tl ≠ j := fun z => by
    obtain ⟨_, _, _, e, _⟩ := hj
    rw [← z, htl] at e
    obtain rfl := HO.lst.inj (Option.some.inj e)
    obtain ⟨_, _, y⟩ := Paired.get hts (i := 1) rfl
    obtain ⟨_, _, y, _⟩ := TmAt.ref y
    cases y
  have t34 := hj3.tups k4
  have t4 := (Tups.of s3).trans t34
  refine ⟨_, rfl, _, rfl, _, rfl, allT ps ts, joined ps, j, cs, pl, tl, pvs, tvs, ps, ts, b + 100, rfl, hj4, by omega, k4 _ _ plj (s3 _ _ hpl), Paired.imp (fun _ _ z => PrAt.keep t4 z) hps, k4 _ _ tlj (s3 _ _ htl), Paired.imp (fun _ _ z => TmAt.keep t4 z) hts, lp, lt, LP, LT, fun H5 o2 g2 k5 hj5 a5 gd5 ft5 m5 dp5 dt5 => ⟨_, _, rfl, ?_⟩⟩
  have t45 := hj4.tups k5
  have t5 := t4.trans t45
  have hjn : ∀ {H' : Hp} {b' : Nat}, JarAt H' j cs b' → H' j ≠ none := fun ⟨_, _, _, e, _⟩ z => by rw [e] at z; cases z
  have a45 : At K o1 g1 H5 := a4.jar hj4 k5 fun f => hjn hj3 (ft4 j f)
  have ne12 : o1 ≠ o2 := fun z => by
    have := ft5 o2 (.inl rfl)
    rw [← z, a4.obj] at this
    cases this
  have b5 := (b3.jar hj3 k4).jar hj4 k5
  have tabs5 := tabs_kp (tabs_kp (tabs.ext s3) hj3 k4) hj4 k5
  have c1 : CO K (allT ps ts) (joined ps) o1 g1 .non H5 := gd4.co a45 (whole_of gd4.cov gd4.snd dp4 dt4) m4
  have c2 : CO K (allT ps ts) (joined ps) o2 g2 .non H5 := gd5.co a5 (whole_of gd5.cov gd5.snd dp5 dt5) m5
  have hpl5 := k5 _ _ plj (k4 _ _ plj (s3 _ _ hpl))
  have htl5 := k5 _ _ tlj (k4 _ _ tlj (s3 _ _ htl))
  have hps5 := Paired.imp (fun _ _ z => PrAt.keep t5 z) hps
  have hts5 := Paired.imp (fun _ _ z => TmAt.keep t5 z) hts
  change tSeq _ _ _ [v0, some (.ref j), v2, some (.ref pl), some (.ref tl), v5, some (.ref bx), v7, v8, v9, some (.ref o1), some (.ref o2), v12, v13, v14, v15, v16, v17, v18, v19, v20, v21] H5
  clear a4 a45 a5 k4 k5 t34 t4 t45 t5 b3 hj3 hj4 hj5 s2 s3 hjn
  -- all terms
  have lenU : (allT ps ts).length ≤ 880 := by
    unfold allT
    rw [List.length_append]
    have h1 := flat_len (n := 40) (ts.map T.under) fun l hl => by
      obtain ⟨t, ht, rfl⟩ := List.mem_map.mp hl
      rw [under_len]
      exact (limt t ht).2.2
    have h2 := flat_len (n := 80) (ps.map fun p => p.1.under ++ p.2.under) fun l hl => by
      obtain ⟨p, hp, rfl⟩ := List.mem_map.mp hl
      rw [List.length_append, under_len, under_len]
      have := (limp p hp).1.2.2
      have := (limp p hp).2.1.2.2
      omega
    rw [List.length_map] at h1 h2
    omega
  refine ⟨(by show 0 ≤ sizeLine; decide), fun ev hev => ?_⟩
  have hev6 : upd H5 ev (.lst []) ev = some (.lst []) := upd_same
  have s6 : Same H5 (upd H5 ev (.lst [])) := Same.upd hev
  change tSeq _ _ _ [v0, some (.ref j), v2, some (.ref pl), some (.ref tl), v5, some (.ref bx), v7, v8, v9, some (.ref o1), some (.ref o2), some (.ref ev), v13, v14, v15, v16, v17, v18, v19, v20, v21] (upd H5 ev (.lst []))
  generalize upd H5 ev (.lst []) = H6 at hev6 s6 ⊢
  refine ⟨_, rfl, tl, rfl, ⟨_, SqL.of (s6 _ _ htl5)⟩, for_list (K := K) (a := tl) (xs := tvs) (fun i σ H' => ∃ v9 xs, σ = [v0, some (.ref j), v2, some (.ref pl), some (.ref tl), v5, some (.ref bx), v7, v8, v9, some (.ref o1), some (.ref o2), some (.ref ev), v13, v14, v15, v16, v17, v18, v19, v20, v21] ∧ Same H5 H' ∧ H' ev = some (.lst xs) ∧ Paired (TmAt H') ((ts.take i).map T.under).flatten xs)
    ⟨v9, [], rfl, s6, hev6, .nil⟩ (fun i σ H' _ ⟨_, _, _, h, _⟩ => SqL.of (h _ _ htl5)) ?_ ?_⟩
  · rintro i x σ H7 hx ⟨v9, xs, rfl, s7, hev7, pr7⟩
    obtain ⟨t, ht, tx⟩ := Paired.get hts5 hx
    have mt := List.mem_of_getElem? ht
    have len := Paired.len pr7
    have le2 : ((ts.take (i + 1)).map T.under).flatten.length ≤ (allT ps ts).length := by
      unfold allT
      have e : ts.map T.under = (ts.take (i + 1)).map T.under ++ (ts.drop (i + 1)).map T.under := by rw [← List.map_append, List.take_append_drop]
      rw [e, List.flatten_append, List.length_append, List.length_append]
      omega
    rw [take_snoc ht, List.map_append, List.flatten_append] at le2
    simp only [List.map_cons, List.map_nil, List.flatten_cons, List.flatten_nil, List.append_nil, List.length_append] at le2
    refine ⟨_, rfl, .inl ⟨rfl, _, SqL.of hev7⟩, _, rfl, t, x, rfl, tx.keep (.of s7), (limt t mt).2.1, by rw [under_len]; exact Nat.le_trans (limt t mt).2.2 (by decide), fun H8 q ys s8 hq8 hqn pr8 => ?_⟩
    have len8 := Paired.len pr8
    have hev8 := s8 _ _ hev7
    refine ⟨ev, q, xs, ys, rfl, rfl, hev8, hq8, Nat.le_of_lt (sz (by omega)), ?_⟩
    have tt : Tups H8 (upd H8 ev (.lst (xs ++ ys))) := Tups.upd fun zs e => by rw [hev8] at e; cases e
    refine ⟨_, xs ++ ys, rfl, fun c u e => ?_, upd_same, ?_⟩
    · rw [upd_ne (ne_of_none e hev)]; exact s8 _ _ (s7 _ _ e)
    · rw [take_snoc ht, List.map_append, List.flatten_append]
      simp only [List.map_cons, List.map_nil, List.flatten_cons, List.flatten_nil, List.append_nil]
      exact Paired.app (Paired.imp (fun _ _ z => TmAt.keep tt (TmAt.keep (.of s8) z)) pr7) (Paired.imp (fun _ _ z => TmAt.keep tt z) pr8)
  clear hev6 s6
  rintro σ H6 ⟨v9, xs0, rfl, s6, hev6, pr6⟩
  rw [← ltv, List.take_length] at pr6
  refine ⟨_, rfl, pl, rfl, ⟨_, SqL.of (s6 _ _ hpl5)⟩, for_list (K := K) (a := pl) (xs := pvs) (fun i σ H' => ∃ v7 v8 xs, σ = [v0, some (.ref j), v2, some (.ref pl), some (.ref tl), v5, some (.ref bx), v7, v8, v9, some (.ref o1), some (.ref o2), some (.ref ev), v13, v14, v15, v16, v17, v18, v19, v20, v21] ∧ Same H5 H' ∧ H' ev = some (.lst xs) ∧ Paired (TmAt H') ((ts.map T.under).flatten ++ ((ps.take i).map fun p => p.1.under ++ p.2.under).flatten) xs)
    ⟨v7, v8, xs0, rfl, s6, hev6, by simpa using pr6⟩ (fun i σ H' _ ⟨_, _, _, _, h, _⟩ => SqL.of (h _ _ hpl5)) ?_ ?_⟩
  · rintro i x σ H7 hx ⟨v7, v8, xs, rfl, s7, hev7, pr7⟩
    obtain ⟨p, hp, a, x1, x2, rfl, ha, tx, ty⟩ := Paired.get hps5 hx
    have mp := List.mem_of_getElem? hp
    have len := Paired.len pr7
    obtain ⟨⟨_, dp1, sz1⟩, ⟨_, dp2, sz2⟩, _⟩ := limp p mp
    have le2 : ((ts.map T.under).flatten ++ ((ps.take (i + 1)).map fun p => p.1.under ++ p.2.under).flatten).length ≤ (allT ps ts).length := by
      unfold allT
      have e : (ps.map fun p => p.1.under ++ p.2.under) = ((ps.take (i + 1)).map fun p => p.1.under ++ p.2.under) ++ ((ps.drop (i + 1)).map fun p => p.1.under ++ p.2.under) := by rw [← List.map_append, List.take_append_drop]
      rw [e, List.flatten_append, List.length_append, List.length_append, List.length_append]
      omega
    rw [take_snoc hp, List.map_append, List.flatten_append] at le2
    simp only [List.map_cons, List.map_nil, List.flatten_cons, List.flatten_nil, List.append_nil, List.length_append] at le2 len
    refine ⟨a, _, rfl, SqT.of (s7 _ _ ha), rfl, _, _, rfl, _, _, rfl, rfl, ?_⟩
    refine ⟨_, rfl, .inl ⟨rfl, _, SqL.of hev7⟩, _, rfl, p.1, x1, rfl, tx.keep (.of s7), dp1, by rw [under_len]; omega, fun H8 q ys s8 hq8 hqn pr8 => ?_⟩
    refine ⟨_, rfl, p.2, x2, rfl, (ty.keep (.of s7)).keep (.of s8), dp2, by rw [under_len]; omega, fun H9 q2 zs s9 hq9 hqn9 pr9 => ?_⟩
    have len8 := Paired.len pr8
    have len9 := Paired.len pr9
    refine ⟨q, q2, ys, zs, rfl, rfl, s9 _ _ hq8, hq9, Nat.le_of_lt (sz (by omega)), fun r hr2 => ?_⟩
    have s10 : Same H9 (upd H9 r (.lst (ys ++ zs))) := Same.upd hr2
    have hev10 := s10 _ _ (s9 _ _ (s8 _ _ hev7))
    refine ⟨ev, r, xs, ys ++ zs, rfl, rfl, hev10, upd_same, Nat.le_of_lt (sz (by rw [List.length_append]; omega)), ?_⟩
    have tt : Tups (upd H9 r (.lst (ys ++ zs))) (upd (upd H9 r (.lst (ys ++ zs))) ev (.lst (xs ++ (ys ++ zs)))) := Tups.upd fun zs e => by rw [hev10] at e; cases e
    have t10 := (Tups.of s10).trans tt
    have t9 := (Tups.of s9).trans t10
    refine ⟨_, _, xs ++ (ys ++ zs), rfl, fun c u e => ?_, upd_same, ?_⟩
    · rw [upd_ne (ne_of_none e hev)]; exact s10 _ _ (s9 _ _ (s8 _ _ (s7 _ _ e)))
    · rw [take_snoc hp, List.map_append, List.flatten_append]
      simp only [List.map_cons, List.map_nil, List.flatten_cons, List.flatten_nil, List.append_nil]
      have pq := Paired.app (Paired.imp (fun _ _ z => TmAt.keep ((Tups.of s8).trans t9) z) pr7) (Paired.app (Paired.imp (fun _ _ z => TmAt.keep t9 z) pr8) (Paired.imp (fun _ _ z => TmAt.keep t10 z) pr9))
      rw [List.append_assoc (List.map T.under ts).flatten] at pq
      exact pq
  clear hev6 s6 pr6
  rintro σ H6 ⟨v7, v8, evs, rfl, s6, hev6, pr6⟩
  rw [← lpv, List.take_length] at pr6
  have pr6 : Paired (TmAt H6) (allT ps ts) evs := pr6
  -- where they lie in the law's own classes
  obtain ⟨ds, hds⟩ := finds (W := look ws) (allT ps ts) fun u hu => w3.put u hu
  have lds : (allT ps ts).length = ds.length := by
    have := congrArg List.length hds
    rw [List.length_map, List.length_map] at this
    exact this
  have len6 := Paired.len pr6
  have b6 := b5.same s6
  refine ⟨_, rfl, ev, rfl, ⟨_, SqL.of hev6⟩, fun D hD => lc_list (K := K) (a := ev) (xs := evs) (fun k H' => Same H6 H' ∧ H' D = some (.lst ((ds.take k).map fun d : Nat => V.int (d : Int))))
    ⟨Same.upd hD, upd_same⟩ (fun k H' _ ⟨h, _⟩ => SqL.of (h _ _ hev6)) ?_ ?_⟩
  · rintro k v H7 hv ⟨s7, hD7⟩
    obtain ⟨u, hu, tu⟩ := Paired.get pr6 hv
    obtain ⟨d, hd, fd⟩ := finds_at hds hu
    have mu := List.mem_of_getElem? hu
    have hk := (List.getElem?_eq_some_iff.mp hd).1
    have dpu : u.depth ≤ 40 := Nat.le_trans u.depth_le_size (hS u mu).2
    refine ⟨rfl, _, rfl, _, rfl, bx, rw, ws, made, u, v, d, rfl, b6.same s7, g3.nd, by have := g3.cnt; omega, tu.keep (.of s7), dpu, by omega, fd, fun H8 s8 => ⟨_, s8 _ _ hD7, ?_, fun b u e => ?_, ?_⟩⟩
    · rw [List.length_map, List.length_take]; exact sz (by omega)
    · rw [upd_ne (ne_of_none e hD)]; exact s8 _ _ (s7 _ _ e)
    · rw [upd_same, take_snoc hd, List.map_append]; rfl
  · rintro H7 ⟨s7, hD7⟩
    rw [← len6, lds, List.take_length] at hD7
    have s57 := Same.trans s6 s7
    exact runC H7 Q (allT ps ts) (joined ps) o1 o2 ev bx rw D g1 g2 (allT ps ts) evs ws made cl ds _ _ _ _ _ _ _ _ _ _ _ _ _ _ _ _ _
      ⟨c1.same s57, c2.same s57, ne12, tabs5.ext s57, s7 _ _ hev6, Paired.imp (fun _ _ z => TmAt.keep (.of s7) z) pr6⟩ (b6.same s7) g3 (by omega) w3 hD7 hds (by omega) (fun _ h => h) hS allT_parts hR hQ
end K45
/-! part K45Q9 -/
set_option autoImplicit true
set_option Elab.async false
set_option linter.all false
set_option maxRecDepth 100000
set_option maxHeartbeats 4000000
/-! Walk: law. -/
namespace K45
open PySem PySem.Spec PyProof.Rows L2
variable {P : Program} {w : World} {K : PySem.W.Frag} {mg : Str → Option Value} {base : Heap}
def sp_law (K : PySem.W.Frag) : Sp := fun vs H Q _ => ∃ (a : Addr) (ns : List Int), vs = [.ref a] ∧ SqL K H a (ns.map V.int) ∧ ns.length ≤ 1000 ∧ LamX.Tabs (fT K) H ∧ ∀ H', Q (.bl true) H'
theorem ok_law (X : Fx P w K mg base) {fd : FuncData} (F : FunD K d_law.name d_law.qual d_law.params d_law.body d_law.scope (d_law.dvs K) (d_law.kws K) (He.fAd K d_law.at_) fd) : FnOk P w K mg base CX0 52 (He.ga K "law") fd ["_law_script"] (sp_law K) := by
  refine okN F sc_law (fun vs H Q E h => ?_) (fun cdv A outer s H vs Q E hr h => ?_)
  · obtain ⟨_, _, rfl, _⟩ := h
    rfl
  · obtain ⟨a, ns, rfl, ha, hn, tabs, hQ⟩ := h
    obtain ⟨tB, hB, runB⟩ := law_B X cdv A outer s H E hr
    obtain ⟨_, _, DJ⟩ := (ok_jar X).mono (k := 51) (by omega)
    obtain ⟨_, _, DL⟩ := (ok_lot X).mono (k := 51) (by omega)
    obtain ⟨_, _, DT⟩ := (ok_term X 3).mono (k := 51) (by omega)
    refine ⟨_, pss_cons (ps_set (i := 1) sc_law.nd rfl (Or.inr rfl) (pe_d DJ hr (by rfl) (pa_cons (pv 0) pa_nil)))
      (pss_cons (ps_par (i := 3) (j := 4) rfl sc_law.nd rfl rfl (by decide) rfl rfl (pa_cons (pe_lst pa_nil) (pa_cons
        (pe_lc (own := [("_law_turn", 2)]) (g := gName 2) (tt := tYes) rfl sc_law.nd (pi_range1 (by rfl) X.b_range (pa_cons (pe_op op_add pe_int (pe_d DL hr (by rfl) (pa_cons (pv 1) (pa_cons pe_int pa_nil)))) pa_nil))
          (blkOk_by (own := [("_law_turn", 2)]) (N := nLaw) (sc := defScope s_law) (by decide +kernel)) (fun _ _ _ _ _ => pg_name (i := 2) sc_law.nd rfl (Or.inl rfl)) (fun _ _ _ _ _ => pts_nil)
          (fun _ _ _ _ _ => pe_d DT hr (by rfl) (pa_cons (pv 1) (pa_cons pe_int (pa_cons (pe_d DL hr (by rfl) (pa_cons (pv 1) (pa_cons pe_int pa_nil))) pa_nil))))) pa_nil)) (by rfl))
      (pss_cons (ps_for PassesOwn.never rfl (pi_range1 (by rfl) X.b_range (pa_cons (pe_op op_add pe_int (pe_d DL hr (by rfl) (pa_cons (pv 1) (pa_cons pe_int pa_nil)))) pa_nil)) (pg_name (i := 2) sc_law.nd rfl (Or.inl rfl))
        (pss_cons (ps_set (i := 5) sc_law.nd rfl (Or.inl rfl) (pe_d DL hr (by rfl) (pa_cons (pv 1) (pa_cons pe_int pa_nil))))
        (pss_one (ps_expr (pe_bm PySem.F.plainAttrs_list PySem.F.slot_list_append PySem.F.type_list_append mt_append (pv 3) (pa_cons (pe_tup (pa_cons (pe_d DT hr (by rfl) (pa_cons (pv 1) (pa_cons pe_int (pa_cons (pv 5) pa_nil))))
          (pa_cons (pe_d DT hr (by rfl) (pa_cons (pv 1) (pa_cons (pe_op op_add pe_int (pe_d DL hr (by rfl) (pa_cons (pv 1) (pa_cons pe_int pa_nil)))) (pa_cons (pv 5) pa_nil)))) pa_nil))) pa_nil)))))) hB)), ?_⟩
    have sz : ∀ {n : Nat}, n ≤ 5000 → n < sizeLine := fun h => Nat.lt_of_le_of_lt h (by decide)
    refine ⟨_, rfl, a, ns, rfl, ha, hn, fun H1 j cs s1 hjn hcn hj1 => ?_⟩
    change tSeq _ _ _ [some (.ref a), some (.ref j), none, none, none, none, none, none, none, none, none, none, none, none, none, none, none, none, none, none, none, none] H1
    refine ⟨(by show 0 ≤ sizeLine; decide), fun pl hpl => ?_⟩
    have s2 : Same H1 (upd H1 pl (.lst [])) := Same.upd hpl
    have hpl2 : upd H1 pl (.lst []) pl = some (.lst []) := upd_same
    have hj2 := hj1.same s2
    have plj := (hj1.ne hpl).1
    have pln : H pl = none := Same.none s1 hpl
    have s02 := Same.trans s1 s2
    generalize upd H1 pl (.lst []) = H2 at s2 hpl2 hj2 s02 ⊢
    refine ⟨_, rfl, j, cs, 4, 0, rfl, hj2, by omega, by decide, by decide, fun H3 r k3 hj3 hr3 => ⟨_, _, rfl, rfl, _, rfl, ?_⟩⟩
    obtain ⟨n, hn', ln⟩ : ∃ n : Nat, (1 : Int) + (r : Int) = (n : Int) ∧ n ≤ 4 := ⟨1 + r, by omega, by omega⟩
    rw [hn']
    have s03 : Same H H3 := fun c u e => k3 c u (ne_of_none e hjn) (s02 c u e)
    have hpl3 := k3 _ _ plj hpl2
    refine ⟨by omega, by omega, fun tl htl => lc_range (lo := 0) (n := n) (fun i H' => ∃ ts us, ts.length = i ∧ Same H H' ∧ JarAt H' j cs (1 + i * 81) ∧ H' tl = some (.lst us) ∧ H' pl = some (.lst []) ∧ Paired (TmAt H') ts us ∧ ∀ t ∈ ts, t.ok ∧ t.depth ≤ 4 ∧ t.size ≤ 40)
      ⟨[], [], rfl, Same.trans s03 (Same.upd htl), hj3.same (Same.upd htl), upd_same, Same.upd htl _ _ hpl3, .nil, fun t ht => by cases ht⟩ ?_ ?_⟩
    · rintro i H4 hi ⟨ts, us, lts, s4, hj4, htl4, hpl4, pr4, lim⟩
      have tlj := (hj3.ne htl).1
      have tlcs := (hj3.ne htl).2
      have tln : H tl = none := Same.none s03 htl
      have lus := Paired.len pr4
      refine ⟨rfl, _, rfl, _, rfl, j, cs, 4, 1 + i * 81, rfl, hj4, by omega, by decide, by decide, fun H5 k k5 hj5 hk => ?_⟩
      refine ⟨j, cs, 1 + i * 81 + 1, k, 3, rfl, by decide, hj5, by show _ + 80 ≤ 5000; omega, fun H6 t v k6 hj6 tm ok wd dp sz' => ?_⟩
      have htl6 := k6 _ _ tlj (k5 _ _ tlj htl4)
      have hpl6 := k6 _ _ plj (k5 _ _ plj hpl4)
      have t46 := (hj4.tups k5).trans (hj5.tups k6)
      have tt : Tups H6 (upd H6 tl (.lst (us ++ [v]))) := Tups.upd fun zs e => by rw [htl6] at e; cases e
      have tp : tl ≠ pl := (ne_of_none hpl3 htl).symm
      refine ⟨us, htl6, sz (by omega), ts ++ [t], us ++ [v], by rw [List.length_append, lts]; rfl, fun c u e => ?_, ?_, upd_same, ?_, ?_, fun x hx => ?_⟩
      · rw [upd_ne (ne_of_none e tln)]; exact k6 _ _ (ne_of_none e hjn) (k5 _ _ (ne_of_none e hjn) (s4 _ _ e))
      · have e : 1 + (i + 1) * 81 = 1 + i * 81 + 1 + kd 3 := by show 1 + (i + 1) * 81 = 1 + i * 81 + 1 + 80; omega
        rw [e]
        exact hj6.keep fun c u z e => by rw [upd_ne (z.elim (fun y => by rw [y]; exact tlj.symm) (fun y => by rw [y]; exact tlcs.symm))]; exact e
      · rw [upd_ne tp.symm]; exact hpl6
      · exact Paired.snoc (tm.keep tt) (Paired.imp (fun _ _ z => (z.keep t46).keep tt) pr4)
      · rcases List.mem_append.mp hx with hx | hx
        · exact lim x hx
        · rw [List.mem_singleton.mp hx]; exact ⟨ok, dp, sz'⟩
    · rintro H4 ⟨ts, tvs, lts, s4, hj4, htl4, hpl4, pr4, lim⟩
      have tlj := (hj3.ne htl).1
      have tln : H tl = none := Same.none s03 htl
      have tp : tl ≠ pl := (ne_of_none hpl3 htl).symm
      refine ⟨_, _, rfl, ?_⟩
      change tSeq _ _ _ [some (.ref a), some (.ref j), none, some (.ref pl), some (.ref tl), none, none, none, none, none, none, none, none, none, none, none, none, none, none, none, none, none] H4
      have hj4 := hj4.mono (b' := 325) (by omega)
      refine ⟨_, rfl, j, cs, 7, 325, rfl, hj4, by omega, by decide, by decide, fun H5 r5 k5 hj5 hr5 => ⟨_, _, rfl, rfl, _, rfl, ?_⟩⟩
      obtain ⟨m, hm, lm⟩ : ∃ m : Nat, (3 : Int) + (r5 : Int) = (m : Int) ∧ m ≤ 9 := ⟨3 + r5, by omega, by omega⟩
      rw [hm]
      have htl5 := k5 _ _ tlj htl4
      have hpl5 := k5 _ _ plj hpl4
      have s5 : Same H H5 := fun c u e => k5 c u (ne_of_none e hjn) (s4 c u e)
      refine ⟨by omega, by omega, for_range (lo := 0) (n := m) (fun i σ H' => ∃ ps pvs v2 v5, σ = [some (.ref a), some (.ref j), v2, some (.ref pl), some (.ref tl), v5, none, none, none, none, none, none, none, none, none, none, none, none, none, none, none, none] ∧ ps.length = i ∧ Same H H' ∧ JarAt H' j cs (326 + i * 54) ∧ H' pl = some (.lst pvs) ∧ Paired (PrAt H') ps pvs ∧ H' tl = some (.lst tvs) ∧ Paired (TmAt H') ts tvs ∧
          ∀ p ∈ ps, (p.1.ok ∧ p.1.depth ≤ 4 ∧ p.1.size ≤ 40) ∧ (p.2.ok ∧ p.2.depth ≤ 4 ∧ p.2.size ≤ 40) ∧ p.1.word = p.2.word)
        ⟨[], [], none, none, rfl, rfl, s5, hj5, hpl5, .nil, htl5, Paired.imp (fun _ _ z => z.keep (hj4.tups k5)) pr4, fun p hp => by cases hp⟩ ?_ ?_⟩
      · rintro i σ H6 hi ⟨ps, pvs, v2, v5, rfl, lps, s6, hj6, hpl6, prp6, htl6, prt6, lim6⟩
        have lpv := Paired.len prp6
        refine ⟨_, rfl, j, cs, 4, 326 + i * 54, rfl, hj6, by omega, by decide, by decide, fun H7 k k7 hj7 hk => ?_⟩
        change Ends.nx _ [some (.ref a), some (.ref j), _, some (.ref pl), some (.ref tl), some (.int (k : Int)), none, none, none, none, none, none, none, none, none, none, none, none, none, none, none, none] H7
        have hpl7 := k7 _ _ plj hpl6
        have t67 := hj6.tups k7
        refine ⟨_, rfl, .inl ⟨rfl, _, SqL.of hpl7⟩, _, rfl, _, rfl, j, cs, 326 + i * 54 + 1, k, 2, rfl, by decide, hj7, by show _ + 26 ≤ 5000; omega, fun H8 t v k8 hj8 tm8 ok8 wd8 dp8 sz8 => ?_⟩
        refine ⟨_, rfl, _, rfl, j, cs, 2, 326 + i * 54 + 1 + kd 2, rfl, hj8, by show _ + 26 ≤ 5000; omega, by decide, by decide, fun H9 r9 k9 hj9 hr9 => ⟨_, _, rfl, rfl, _, rfl, ?_⟩⟩
        have ekd : kd (1 + r9) ≤ 26 := by
          match r9, hr9 with
          | 0, _ => decide
          | 1, _ => decide
        have ezd : zd (1 + r9) ≤ 13 := by
          match r9, hr9 with
          | 0, _ => decide
          | 1, _ => decide
        refine ⟨j, cs, 326 + i * 54 + 1 + kd 2 + 1, k, 1 + r9, rfl, by omega, hj9, by show _ + 26 + 1 + _ ≤ 5000; omega, fun H10 t' v' k10 hj10 tm10 ok10 wd10 dp10 sz10 => ⟨(by show 2 ≤ sizeLine; decide), fun q hq => ?_⟩⟩
        have sq : Same H10 (upd H10 q (.tup [v, v'])) := Same.upd hq
        have hpl10 := sq _ _ (k10 _ _ plj (k9 _ _ plj (k8 _ _ plj hpl7)))
        have htl10 := sq _ _ (k10 _ _ tlj (k9 _ _ tlj (k8 _ _ tlj (k7 _ _ tlj htl6))))
        have t810 := (hj8.tups k9).trans (hj9.tups k10)
        have t610 := (t67.trans (hj7.tups k8)).trans t810
        refine ⟨pl, pvs, _, rfl, rfl, hpl10, sz (by omega), ?_⟩
        have tt : Tups (upd H10 q (.tup [v, v'])) (upd (upd H10 q (.tup [v, v'])) pl (.lst (pvs ++ [.ref q]))) := Tups.upd fun zs e => by rw [hpl10] at e; cases e
        have t10 := (Tups.of sq).trans tt
        have plcs : pl ≠ cs := fun z => by
          obtain ⟨zs, _, _, _, e, _⟩ := hj10.same sq
          rw [← z, hpl10] at e
          exact absurd (hj1.ne hpl).2 (fun y => y z)
        have bnd : 326 + i * 54 + 1 + kd 2 + 1 + kd (1 + r9) ≤ 326 + (i + 1) * 54 := by
          show 326 + i * 54 + 1 + 26 + 1 + kd (1 + r9) ≤ _
          omega
        refine ⟨ps ++ [(t, t')], pvs ++ [.ref q], _, _, rfl, by rw [List.length_append, lps]; rfl, fun c u e => ?_, ?_, upd_same, ?_, ?_, Paired.imp (fun _ _ z => (z.keep t610).keep t10) prt6, fun p hp => ?_⟩
        · rw [upd_ne (ne_of_none e pln)]
          exact sq _ _ (k10 _ _ (ne_of_none e hjn) (k9 _ _ (ne_of_none e hjn) (k8 _ _ (ne_of_none e hjn) (k7 _ _ (ne_of_none e hjn) (s6 _ _ e)))))
        · exact ((hj10.same sq).mono bnd).keep fun c u z e => by rw [upd_ne (z.elim (fun y => by rw [y]; exact plj.symm) (fun y => by rw [y]; exact plcs.symm))]; exact e
        · exact Paired.snoc ⟨q, v, v', rfl, tt _ _ upd_same, (tm8.keep t810).keep t10, tm10.keep t10⟩ (Paired.imp (fun _ _ z => (z.keep t610).keep t10) prp6)
        · rw [upd_ne tp]; exact htl10
        · rcases List.mem_append.mp hp with hp | hp
          · exact lim6 p hp
          · rw [List.mem_singleton.mp hp]
            have z2 : zd 2 = 13 := rfl
            exact ⟨⟨ok8, by show t.depth ≤ 4; omega, by show t.size ≤ 40; omega⟩, ⟨ok10, by show t'.depth ≤ 4; omega, by show t'.size ≤ 40; omega⟩, wd8.trans wd10.symm⟩
      · rintro σ H6 ⟨ps, pvs, v2, v5, rfl, lps, s6, hj6, hpl6, prp6, htl6, prt6, lim6⟩
        exact runB H6 Q j cs pl tl pvs tvs ps ts 1000 _ _ _ _ _ _ _ _ _ _ _ _ _ _ _ _ _ _ _ (hj6.mono (by omega)) (by decide) hpl6 prp6 htl6 prt6 (by omega) (by omega) lim6 lim (LamX.Tabs.ext tabs s6) hQ
end K45
/-! part K45Z -/
set_option autoImplicit true
set_option Elab.async false
set_option linter.all false
set_option maxRecDepth 100000
set_option maxHeartbeats 0
/-! The end. -/
namespace K45
open PySem PySem.Spec PyProof.Rows L2
theorem facts {w : World} {h : Heap} {mg : Str → Option Value} {f : Addr} (n : Nat) (G : h.Ns mainGlobals mg) (hfa : mg ("law" : Str) = some (.ref f)) (Y : ∃ K : PySem.W.Frag, K.In h ∧ He.SaysX fa fn ts tf ex w h K) (hn : n ≤ 1000) :
    ∃ K : PySem.W.Frag, K.In h ∧ LamX.LawAtS PySem.Challenge.rw_leastequal_k45_whole_whatever_order_one w K CX0 52 n "_law_script" mg f h := by
  obtain ⟨K, KX, c⟩ := Y
  refine ⟨K, KX, ?_⟩
  have glo : ∀ x : Str, (He.Fa.glo x).ok K = true → mg x = some (.ref (He.ga K x)) := fun x hx => He.glo_ok KX G hx
  have e := hfa.symm.trans (glo "law" (c.t.d.fact 32 (f := .glo "law") rfl))
  cases e
  obtain ⟨fd, F⟩ := c.t.d.def_ 32 (d := d_law) rfl
  have bnd := FunD.bindsA (ps := ["_law_script"]) F fun _ _ _ _ _ _ us hl => match us, hl with | [_], _ => rfl
  refine ⟨fd, tf.map (He.cT K), sp_law K, fun p hp => ?_, fun p hp => ?_, fun p hp => ?_, fun s v => bnd s [v] rfl, fun H a ns hl _ ht hS => ⟨a, ns, rfl, hS, Nat.le_trans hl hn, fun p hp => ?_, fun _ => rfl⟩, fun base _ _ ht => ok_law (P := PySem.Challenge.rw_leastequal_k45_whole_whatever_order_one.prog) (w := w) (mg := mg) (base := base) {
      says := c.t
      more := c.more
      glo := glo
      free := fun x hx => He.free_ok KX G hx
      int := fun x i hx => He.int_ok KX G hx
      str := fun x z hx => He.str_ok KX G hx
      tab := fun p hp => ht _ (List.mem_map.mpr ⟨p, hp, rfl⟩) } F⟩
  · obtain ⟨q, hq, rfl⟩ := List.mem_map.mp hp
    exact c.empty q hq
  · obtain ⟨q, hq, rfl⟩ := List.mem_map.mp hp
    exact c.out q hq
  · obtain ⟨q, hq, rfl⟩ := List.mem_map.mp hp
    exact PySem.W.codeHd_of_K KX (c.hd q hq)
  · have hp : p ∈ [((He.cT K ("first_terms", none)).2, (envOfC "first_terms" (defScope s_first_terms) 0 0 .none).qual ++ "<lambda>")] := hp
    rw [List.mem_singleton.mp hp]
    exact LamX.TabS.nil (ht _ (List.mem_map.mpr ⟨("first_terms", none), List.mem_cons_self, rfl⟩))
end K45
open PySem PySem.W PySem.Calls PyProof.Rows
theorem PySem.Challenge.cw_leastequal_k45_whole_whatever_order_one_holds : PySem.Challenge.rw_leastequal_k45_whole_whatever_order_one.Holds := by
  w_on; o_law
  refine HandSHeadRun.head_any (r := OpenLaw.row PySem.Challenge.rw_leastequal_k45_whole_whatever_order_one) (q := view (OpenLaw.row PySem.Challenge.rw_leastequal_k45_whole_whatever_order_one).prog [55]) (H := K45.hk) (ob := K45.ob) (M := 6000) (loose := K45.names) (d := HandSHeadRun.topDef (OpenLaw.row PySem.Challenge.rw_leastequal_k45_whole_whatever_order_one).prog 55) (kwd := []) K45.ob_eq
    (by kernel_rfl) (fun s => by kernel_rfl) K45.run (by kernel_rfl) (by kernel_rfl) (by kernel_rfl) (by rfl) (by first | assumption | decide +kernel) (by decide +kernel) ⟨rfl, rfl, rfl, rfl, rfl, by decide +kernel⟩ ?hw ?hc
  case hw => w_witness2
  case hc =>
    refine LamX.walk_ofTsE (l := PySem.Challenge.rw_leastequal_k45_whole_whatever_order_one) (n := 63) (k := 52) (x := "_law_script") (CX := fun _ => L2.CX0) rfl (by decide) (by kernel_rfl) ⟨rfl, by decide, by decide⟩ ?F (fun _ _ _ _ _ z => z)
    intro w mg fa h Y G hmg0
    have hmg : mg ("law" : PySem.Str) = some (.ref fa) := by
      have e : (HandSHeadRun.topDef (OpenLaw.row PySem.Challenge.rw_leastequal_k45_whole_whatever_order_one).prog 55).name = ("law" : PySem.Str) := by kernel_rfl
      rw [← e]
      exact hmg0
    exact K45.facts 63 G hmg Y (by decide)
