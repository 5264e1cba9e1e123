import PyProof.Rows.All
import Wide.All
import OpenK.AllK
import Wide.FinOn
import KE.KStateDown
import Lean
import HandS.ForMost
import HandS.Exc
import HandS.ExcOwn
import HandS.WordsExc
import HandS.More
import HandS.Codes
import HandS.Flow
import HandS.TupAny
import HandS.StrMore
import HandS.Conv
import HandS.Wide
import HandS.Deep
import HandS.Walk
import HandS.Defaults
import HandS.MakeKwOnly
import HandS.Head0
import HandS.Head1
import HandS.Head2
import HandS.HeadEnd
import HandS.HeadHook1
import HandS.HeadHook2
import PySem.Challenge.RW_foldkeep_k00_names_of_all_hosts
import HandS.Evl
set_option Elab.async false
set_option linter.all false
set_option maxRecDepth 100000
set_option maxHeartbeats 4000000
namespace K0
open PySem PySem.Spec PyProof.Rows L2
def top (i : Nat) : Stmt := PySem.Challenge.pw_foldkeep_k00_names_of_all_hosts.main.body.getD i (.Pass ⟨0, 0, 0, 0⟩)
abbrev s_Rule_init : Stmt := inClass (top 1) 0
abbrev s_is_name : Stmt := top 2
abbrev s_counterpart : Stmt := top 3
abbrev s_same_name : Stmt := top 4
abbrev s_in_use : Stmt := top 5
abbrev s_fits : Stmt := top 6
abbrev s_path_text : Stmt := top 7
abbrev s_read_path : Stmt := top 8
abbrev s_ending : Stmt := top 10
abbrev s_stem : Stmt := top 11
abbrev s_with_word : Stmt := top 12
abbrev s_copy_name : Stmt := top 13
abbrev s_numbered_name : Stmt := top 14
abbrev s_law_stream : Stmt := top 16
abbrev s_law_fresh : Stmt := top 17
abbrev s_law_pick : Stmt := top 18
abbrev s_law_rule_told : Stmt := top 19
abbrev s_law_rule_of : Stmt := top 20
abbrev s_law_counts_as : Stmt := top 21
abbrev s_law_is_name : Stmt := top 22
abbrev s_law_fits : Stmt := top 23
abbrev s_law_cut_name : Stmt := top 24
abbrev s_law_worded : Stmt := top 25
abbrev s_law_copy_named : Stmt := top 26
abbrev s_law_any_text : Stmt := top 27
abbrev s_law_bent : Stmt := top 28
abbrev s_law_path_of : Stmt := top 29
abbrev s_law : Stmt := top 30
abbrev dd_Rule_init : He.DefD := ⟨("Rule", some "__init__"), "__init__", "Rule.__init__", defArgs s_Rule_init, defBody s_Rule_init, defScope s_Rule_init, [], [("longest", .int (80)), ("swaps", .bl true), ("reads", .bl true), ("cuts", .bl true), ("turns", .bl true)]⟩
abbrev dd_is_name : He.DefD := ⟨("is_name", none), "is_name", "is_name", defArgs s_is_name, defBody s_is_name, defScope s_is_name, [], []⟩
abbrev dd_counterpart : He.DefD := ⟨("counterpart", none), "counterpart", "counterpart", defArgs s_counterpart, defBody s_counterpart, defScope s_counterpart, [], []⟩
abbrev dd_same_name : He.DefD := ⟨("same_name", none), "same_name", "same_name", defArgs s_same_name, defBody s_same_name, defScope s_same_name, [], []⟩
abbrev dd_in_use : He.DefD := ⟨("in_use", none), "in_use", "in_use", defArgs s_in_use, defBody s_in_use, defScope s_in_use, [], []⟩
abbrev dd_fits : He.DefD := ⟨("fits", none), "fits", "fits", defArgs s_fits, defBody s_fits, defScope s_fits, [], []⟩
abbrev dd_path_text : He.DefD := ⟨("path_text", none), "path_text", "path_text", defArgs s_path_text, defBody s_path_text, defScope s_path_text, [], []⟩
abbrev dd_read_path : He.DefD := ⟨("read_path", none), "read_path", "read_path", defArgs s_read_path, defBody s_read_path, defScope s_read_path, [], []⟩
abbrev dd_ending : He.DefD := ⟨("ending", none), "ending", "ending", defArgs s_ending, defBody s_ending, defScope s_ending, [], []⟩
abbrev dd_stem : He.DefD := ⟨("stem", none), "stem", "stem", defArgs s_stem, defBody s_stem, defScope s_stem, [], []⟩
abbrev dd_with_word : He.DefD := ⟨("with_word", none), "with_word", "with_word", defArgs s_with_word, defBody s_with_word, defScope s_with_word, [], []⟩
abbrev dd_copy_name : He.DefD := ⟨("copy_name", none), "copy_name", "copy_name", defArgs s_copy_name, defBody s_copy_name, defScope s_copy_name, [], []⟩
abbrev dd_numbered_name : He.DefD := ⟨("numbered_name", none), "numbered_name", "numbered_name", defArgs s_numbered_name, defBody s_numbered_name, defScope s_numbered_name, [], []⟩
abbrev dd_law_stream : He.DefD := ⟨("_law_stream", none), "_law_stream", "_law_stream", defArgs s_law_stream, defBody s_law_stream, defScope s_law_stream, [], []⟩
abbrev dd_law_fresh : He.DefD := ⟨("_law_fresh", none), "_law_fresh", "_law_fresh", defArgs s_law_fresh, defBody s_law_fresh, defScope s_law_fresh, [], []⟩
abbrev dd_law_pick : He.DefD := ⟨("_law_pick", none), "_law_pick", "_law_pick", defArgs s_law_pick, defBody s_law_pick, defScope s_law_pick, [], []⟩
abbrev dd_law_rule_told : He.DefD := ⟨("_law_rule_told", none), "_law_rule_told", "_law_rule_told", defArgs s_law_rule_told, defBody s_law_rule_told, defScope s_law_rule_told, [], []⟩
abbrev dd_law_rule_of : He.DefD := ⟨("_law_rule_of", none), "_law_rule_of", "_law_rule_of", defArgs s_law_rule_of, defBody s_law_rule_of, defScope s_law_rule_of, [], []⟩
abbrev dd_law_counts_as : He.DefD := ⟨("_law_counts_as", none), "_law_counts_as", "_law_counts_as", defArgs s_law_counts_as, defBody s_law_counts_as, defScope s_law_counts_as, [], []⟩
abbrev dd_law_is_name : He.DefD := ⟨("_law_is_name", none), "_law_is_name", "_law_is_name", defArgs s_law_is_name, defBody s_law_is_name, defScope s_law_is_name, [], []⟩
abbrev dd_law_fits : He.DefD := ⟨("_law_fits", none), "_law_fits", "_law_fits", defArgs s_law_fits, defBody s_law_fits, defScope s_law_fits, [], []⟩
abbrev dd_law_cut_name : He.DefD := ⟨("_law_cut_name", none), "_law_cut_name", "_law_cut_name", defArgs s_law_cut_name, defBody s_law_cut_name, defScope s_law_cut_name, [], []⟩
abbrev dd_law_worded : He.DefD := ⟨("_law_worded", none), "_law_worded", "_law_worded", defArgs s_law_worded, defBody s_law_worded, defScope s_law_worded, [], []⟩
abbrev dd_law_copy_named : He.DefD := ⟨("_law_copy_named", none), "_law_copy_named", "_law_copy_named", defArgs s_law_copy_named, defBody s_law_copy_named, defScope s_law_copy_named, [], []⟩
abbrev dd_law_any_text : He.DefD := ⟨("_law_any_text", none), "_law_any_text", "_law_any_text", defArgs s_law_any_text, defBody s_law_any_text, defScope s_law_any_text, [], []⟩
abbrev dd_law_bent : He.DefD := ⟨("_law_bent", none), "_law_bent", "_law_bent", defArgs s_law_bent, defBody s_law_bent, defScope s_law_bent, [], []⟩
abbrev dd_law_path_of : He.DefD := ⟨("_law_path_of", none), "_law_path_of", "_law_path_of", defArgs s_law_path_of, defBody s_law_path_of, defScope s_law_path_of, [], []⟩
abbrev dd_law : He.DefD := ⟨("law", none), "law", "law", defArgs s_law, defBody s_law, defScope s_law, [], []⟩
def fa0 : List He.Fa := [.glo "is_name", .glo "counterpart", .glo "same_name", .glo "in_use", .glo "fits", .glo "path_text", .glo "read_path", .glo "ending", .glo "stem", .glo "with_word", .glo "copy_name", .glo "numbered_name", .glo "_law_stream", .glo "_law_fresh", .glo "_law_pick", .glo "_law_rule_told", .glo "_law_rule_of", .glo "_law_counts_as", .glo "_law_is_name", .glo "_law_fits", .glo "_law_cut_name", .glo "_law_worded", .glo "_law_copy_named", .glo "_law_any_text", .glo "_law_bent", .glo "_law_path_of", .glo "law", .glo "Rule", .cls "Rule", .mkr "Rule"]
def fa1 : List He.Fa := [.noat "Rule" "alike", .noat "Rule" "unfit", .noat "Rule" "longest", .noat "Rule" "swaps", .noat "Rule" "reads", .noat "Rule" "cuts", .noat "Rule" "turns", .free "range", .free "tuple", .free "max", .free "len", .free "int", .free "str", .free "ord"]
def fa : List He.Fa := fa0 ++ fa1
def fn0 : List He.DefD := [dd_Rule_init, dd_is_name, dd_counterpart, dd_same_name, dd_in_use, dd_fits, dd_path_text, dd_read_path, dd_ending, dd_stem, dd_with_word, dd_copy_name, dd_numbered_name, dd_law_stream, dd_law_fresh, dd_law_pick, dd_law_rule_told, dd_law_rule_of, dd_law_counts_as, dd_law_is_name, dd_law_fits, dd_law_cut_name, dd_law_worded, dd_law_copy_named, dd_law_any_text, dd_law_bent, dd_law_path_of, dd_law]
def fn : List He.DefD := fn0
/-- what the top has left: the facts by names, at some heap -/
structure Txt (K : PySem.W.Frag) (mg : Str → Option Value) : Prop where
  says : He.SaysD fa fn K
  ex : ∃ h : Heap, K.In h ∧ h.Ns mainGlobals mg
section
variable {K : PySem.W.Frag} {mg : Str → Option Value}
theorem Txt.fact (T : Txt K mg) (i : Nat) {f : He.Fa} (h : fa[i]? = some f) : f.ok K = true := T.says.fact i h
theorem Txt.glo (T : Txt K mg) {x : Str} (i : Nat) (h : fa[i]? = some (.glo x)) : mg x = some (.ref (He.ga K x)) := let ⟨_, X, G⟩ := T.ex; He.glo_ok X G (T.fact i h)
theorem Txt.free (T : Txt K mg) {x : Str} (i : Nat) (h : fa[i]? = some (.free x)) : mg x = none := let ⟨_, X, G⟩ := T.ex; He.free_ok X G (T.fact i h)
theorem Txt.int (T : Txt K mg) {x : Str} {n : Int} (i : Nat) (h : fa[i]? = some (.int x n)) : ∃ t, mg x = some (.int n t) := let ⟨_, X, G⟩ := T.ex; He.int_ok X G (T.fact i h)
theorem Txt.str (T : Txt K mg) {x z : Str} (i : Nat) (h : fa[i]? = some (.str x z)) : ∃ t, mg x = some (.str z t) := let ⟨_, X, G⟩ := T.ex; He.str_ok X G (T.fact i h)
theorem Txt.g_is_name (T : Txt K mg) : mg "is_name" = some (.ref (He.ga K "is_name")) := T.glo 0 rfl
theorem Txt.g_counterpart (T : Txt K mg) : mg "counterpart" = some (.ref (He.ga K "counterpart")) := T.glo 1 rfl
theorem Txt.g_same_name (T : Txt K mg) : mg "same_name" = some (.ref (He.ga K "same_name")) := T.glo 2 rfl
theorem Txt.g_in_use (T : Txt K mg) : mg "in_use" = some (.ref (He.ga K "in_use")) := T.glo 3 rfl
theorem Txt.g_fits (T : Txt K mg) : mg "fits" = some (.ref (He.ga K "fits")) := T.glo 4 rfl
theorem Txt.g_path_text (T : Txt K mg) : mg "path_text" = some (.ref (He.ga K "path_text")) := T.glo 5 rfl
theorem Txt.g_read_path (T : Txt K mg) : mg "read_path" = some (.ref (He.ga K "read_path")) := T.glo 6 rfl
theorem Txt.g_ending (T : Txt K mg) : mg "ending" = some (.ref (He.ga K "ending")) := T.glo 7 rfl
theorem Txt.g_stem (T : Txt K mg) : mg "stem" = some (.ref (He.ga K "stem")) := T.glo 8 rfl
theorem Txt.g_with_word (T : Txt K mg) : mg "with_word" = some (.ref (He.ga K "with_word")) := T.glo 9 rfl
theorem Txt.g_copy_name (T : Txt K mg) : mg "copy_name" = some (.ref (He.ga K "copy_name")) := T.glo 10 rfl
theorem Txt.g_numbered_name (T : Txt K mg) : mg "numbered_name" = some (.ref (He.ga K "numbered_name")) := T.glo 11 rfl
theorem Txt.g_law_stream (T : Txt K mg) : mg "_law_stream" = some (.ref (He.ga K "_law_stream")) := T.glo 12 rfl
theorem Txt.g_law_fresh (T : Txt K mg) : mg "_law_fresh" = some (.ref (He.ga K "_law_fresh")) := T.glo 13 rfl
theorem Txt.g_law_pick (T : Txt K mg) : mg "_law_pick" = some (.ref (He.ga K "_law_pick")) := T.glo 14 rfl
theorem Txt.g_law_rule_told (T : Txt K mg) : mg "_law_rule_told" = some (.ref (He.ga K "_law_rule_told")) := T.glo 15 rfl
theorem Txt.g_law_rule_of (T : Txt K mg) : mg "_law_rule_of" = some (.ref (He.ga K "_law_rule_of")) := T.glo 16 rfl
theorem Txt.g_law_counts_as (T : Txt K mg) : mg "_law_counts_as" = some (.ref (He.ga K "_law_counts_as")) := T.glo 17 rfl
theorem Txt.g_law_is_name (T : Txt K mg) : mg "_law_is_name" = some (.ref (He.ga K "_law_is_name")) := T.glo 18 rfl
theorem Txt.g_law_fits (T : Txt K mg) : mg "_law_fits" = some (.ref (He.ga K "_law_fits")) := T.glo 19 rfl
theorem Txt.g_law_cut_name (T : Txt K mg) : mg "_law_cut_name" = some (.ref (He.ga K "_law_cut_name")) := T.glo 20 rfl
theorem Txt.g_law_worded (T : Txt K mg) : mg "_law_worded" = some (.ref (He.ga K "_law_worded")) := T.glo 21 rfl
theorem Txt.g_law_copy_named (T : Txt K mg) : mg "_law_copy_named" = some (.ref (He.ga K "_law_copy_named")) := T.glo 22 rfl
theorem Txt.g_law_any_text (T : Txt K mg) : mg "_law_any_text" = some (.ref (He.ga K "_law_any_text")) := T.glo 23 rfl
theorem Txt.g_law_bent (T : Txt K mg) : mg "_law_bent" = some (.ref (He.ga K "_law_bent")) := T.glo 24 rfl
theorem Txt.g_law_path_of (T : Txt K mg) : mg "_law_path_of" = some (.ref (He.ga K "_law_path_of")) := T.glo 25 rfl
theorem Txt.g_law (T : Txt K mg) : mg "law" = some (.ref (He.ga K "law")) := T.glo 26 rfl
theorem Txt.g_Rule (T : Txt K mg) : mg "Rule" = some (.ref (He.ga K "Rule")) := T.glo 27 rfl
theorem Txt.cl_Rule (T : Txt K mg) : Cls K (He.ga K "Rule") := He.cls_ok (T.fact 28 rfl)
theorem Txt.mk_Rule (T : Txt K mg) : Mk K (He.ga K "Rule") (He.ma K (He.ga K "Rule") "__init__") := He.mkr_ok (T.fact 29 rfl)
theorem Txt.na_Rule_alike (T : Txt K mg) : NoAttr K (He.ga K "Rule") "alike" := He.noat_ok (T.fact 30 rfl)
theorem Txt.na_Rule_unfit (T : Txt K mg) : NoAttr K (He.ga K "Rule") "unfit" := He.noat_ok (T.fact 31 rfl)
theorem Txt.na_Rule_longest (T : Txt K mg) : NoAttr K (He.ga K "Rule") "longest" := He.noat_ok (T.fact 32 rfl)
theorem Txt.na_Rule_swaps (T : Txt K mg) : NoAttr K (He.ga K "Rule") "swaps" := He.noat_ok (T.fact 33 rfl)
theorem Txt.na_Rule_reads (T : Txt K mg) : NoAttr K (He.ga K "Rule") "reads" := He.noat_ok (T.fact 34 rfl)
theorem Txt.na_Rule_cuts (T : Txt K mg) : NoAttr K (He.ga K "Rule") "cuts" := He.noat_ok (T.fact 35 rfl)
theorem Txt.na_Rule_turns (T : Txt K mg) : NoAttr K (He.ga K "Rule") "turns" := He.noat_ok (T.fact 36 rfl)
theorem Txt.b_range (T : Txt K mg) : mg "range" = none := T.free 37 rfl
theorem Txt.b_tuple (T : Txt K mg) : mg "tuple" = none := T.free 38 rfl
theorem Txt.b_max (T : Txt K mg) : mg "max" = none := T.free 39 rfl
theorem Txt.b_len (T : Txt K mg) : mg "len" = none := T.free 40 rfl
theorem Txt.b_int (T : Txt K mg) : mg "int" = none := T.free 41 rfl
theorem Txt.b_str (T : Txt K mg) : mg "str" = none := T.free 42 rfl
theorem Txt.b_ord (T : Txt K mg) : mg "ord" = none := T.free 43 rfl
theorem Txt.f_Rule_init (T : Txt K mg) : ∃ fd, FunD K dd_Rule_init.name dd_Rule_init.qual (defArgs s_Rule_init) (defBody s_Rule_init) (defScope s_Rule_init) (dd_Rule_init.dvs K) (dd_Rule_init.kws K) (He.fAd K dd_Rule_init.at_) fd := T.says.def_ 0 rfl
theorem Txt.f_is_name (T : Txt K mg) : ∃ fd, FunD K dd_is_name.name dd_is_name.qual (defArgs s_is_name) (defBody s_is_name) (defScope s_is_name) (dd_is_name.dvs K) (dd_is_name.kws K) (He.fAd K dd_is_name.at_) fd := T.says.def_ 1 rfl
theorem Txt.f_counterpart (T : Txt K mg) : ∃ fd, FunD K dd_counterpart.name dd_counterpart.qual (defArgs s_counterpart) (defBody s_counterpart) (defScope s_counterpart) (dd_counterpart.dvs K) (dd_counterpart.kws K) (He.fAd K dd_counterpart.at_) fd := T.says.def_ 2 rfl
theorem Txt.f_same_name (T : Txt K mg) : ∃ fd, FunD K dd_same_name.name dd_same_name.qual (defArgs s_same_name) (defBody s_same_name) (defScope s_same_name) (dd_same_name.dvs K) (dd_same_name.kws K) (He.fAd K dd_same_name.at_) fd := T.says.def_ 3 rfl
theorem Txt.f_in_use (T : Txt K mg) : ∃ fd, FunD K dd_in_use.name dd_in_use.qual (defArgs s_in_use) (defBody s_in_use) (defScope s_in_use) (dd_in_use.dvs K) (dd_in_use.kws K) (He.fAd K dd_in_use.at_) fd := T.says.def_ 4 rfl
theorem Txt.f_fits (T : Txt K mg) : ∃ fd, FunD K dd_fits.name dd_fits.qual (defArgs s_fits) (defBody s_fits) (defScope s_fits) (dd_fits.dvs K) (dd_fits.kws K) (He.fAd K dd_fits.at_) fd := T.says.def_ 5 rfl
theorem Txt.f_path_text (T : Txt K mg) : ∃ fd, FunD K dd_path_text.name dd_path_text.qual (defArgs s_path_text) (defBody s_path_text) (defScope s_path_text) (dd_path_text.dvs K) (dd_path_text.kws K) (He.fAd K dd_path_text.at_) fd := T.says.def_ 6 rfl
theorem Txt.f_read_path (T : Txt K mg) : ∃ fd, FunD K dd_read_path.name dd_read_path.qual (defArgs s_read_path) (defBody s_read_path) (defScope s_read_path) (dd_read_path.dvs K) (dd_read_path.kws K) (He.fAd K dd_read_path.at_) fd := T.says.def_ 7 rfl
theorem Txt.f_ending (T : Txt K mg) : ∃ fd, FunD K dd_ending.name dd_ending.qual (defArgs s_ending) (defBody s_ending) (defScope s_ending) (dd_ending.dvs K) (dd_ending.kws K) (He.fAd K dd_ending.at_) fd := T.says.def_ 8 rfl
theorem Txt.f_stem (T : Txt K mg) : ∃ fd, FunD K dd_stem.name dd_stem.qual (defArgs s_stem) (defBody s_stem) (defScope s_stem) (dd_stem.dvs K) (dd_stem.kws K) (He.fAd K dd_stem.at_) fd := T.says.def_ 9 rfl
theorem Txt.f_with_word (T : Txt K mg) : ∃ fd, FunD K dd_with_word.name dd_with_word.qual (defArgs s_with_word) (defBody s_with_word) (defScope s_with_word) (dd_with_word.dvs K) (dd_with_word.kws K) (He.fAd K dd_with_word.at_) fd := T.says.def_ 10 rfl
theorem Txt.f_copy_name (T : Txt K mg) : ∃ fd, FunD K dd_copy_name.name dd_copy_name.qual (defArgs s_copy_name) (defBody s_copy_name) (defScope s_copy_name) (dd_copy_name.dvs K) (dd_copy_name.kws K) (He.fAd K dd_copy_name.at_) fd := T.says.def_ 11 rfl
theorem Txt.f_numbered_name (T : Txt K mg) : ∃ fd, FunD K dd_numbered_name.name dd_numbered_name.qual (defArgs s_numbered_name) (defBody s_numbered_name) (defScope s_numbered_name) (dd_numbered_name.dvs K) (dd_numbered_name.kws K) (He.fAd K dd_numbered_name.at_) fd := T.says.def_ 12 rfl
theorem Txt.f_law_stream (T : Txt K mg) : ∃ fd, FunD K dd_law_stream.name dd_law_stream.qual (defArgs s_law_stream) (defBody s_law_stream) (defScope s_law_stream) (dd_law_stream.dvs K) (dd_law_stream.kws K) (He.fAd K dd_law_stream.at_) fd := T.says.def_ 13 rfl
theorem Txt.f_law_fresh (T : Txt K mg) : ∃ fd, FunD K dd_law_fresh.name dd_law_fresh.qual (defArgs s_law_fresh) (defBody s_law_fresh) (defScope s_law_fresh) (dd_law_fresh.dvs K) (dd_law_fresh.kws K) (He.fAd K dd_law_fresh.at_) fd := T.says.def_ 14 rfl
theorem Txt.f_law_pick (T : Txt K mg) : ∃ fd, FunD K dd_law_pick.name dd_law_pick.qual (defArgs s_law_pick) (defBody s_law_pick) (defScope s_law_pick) (dd_law_pick.dvs K) (dd_law_pick.kws K) (He.fAd K dd_law_pick.at_) fd := T.says.def_ 15 rfl
theorem Txt.f_law_rule_told (T : Txt K mg) : ∃ fd, FunD K dd_law_rule_told.name dd_law_rule_told.qual (defArgs s_law_rule_told) (defBody s_law_rule_told) (defScope s_law_rule_told) (dd_law_rule_told.dvs K) (dd_law_rule_told.kws K) (He.fAd K dd_law_rule_told.at_) fd := T.says.def_ 16 rfl
theorem Txt.f_law_rule_of (T : Txt K mg) : ∃ fd, FunD K dd_law_rule_of.name dd_law_rule_of.qual (defArgs s_law_rule_of) (defBody s_law_rule_of) (defScope s_law_rule_of) (dd_law_rule_of.dvs K) (dd_law_rule_of.kws K) (He.fAd K dd_law_rule_of.at_) fd := T.says.def_ 17 rfl
theorem Txt.f_law_counts_as (T : Txt K mg) : ∃ fd, FunD K dd_law_counts_as.name dd_law_counts_as.qual (defArgs s_law_counts_as) (defBody s_law_counts_as) (defScope s_law_counts_as) (dd_law_counts_as.dvs K) (dd_law_counts_as.kws K) (He.fAd K dd_law_counts_as.at_) fd := T.says.def_ 18 rfl
theorem Txt.f_law_is_name (T : Txt K mg) : ∃ fd, FunD K dd_law_is_name.name dd_law_is_name.qual (defArgs s_law_is_name) (defBody s_law_is_name) (defScope s_law_is_name) (dd_law_is_name.dvs K) (dd_law_is_name.kws K) (He.fAd K dd_law_is_name.at_) fd := T.says.def_ 19 rfl
theorem Txt.f_law_fits (T : Txt K mg) : ∃ fd, FunD K dd_law_fits.name dd_law_fits.qual (defArgs s_law_fits) (defBody s_law_fits) (defScope s_law_fits) (dd_law_fits.dvs K) (dd_law_fits.kws K) (He.fAd K dd_law_fits.at_) fd := T.says.def_ 20 rfl
theorem Txt.f_law_cut_name (T : Txt K mg) : ∃ fd, FunD K dd_law_cut_name.name dd_law_cut_name.qual (defArgs s_law_cut_name) (defBody s_law_cut_name) (defScope s_law_cut_name) (dd_law_cut_name.dvs K) (dd_law_cut_name.kws K) (He.fAd K dd_law_cut_name.at_) fd := T.says.def_ 21 rfl
theorem Txt.f_law_worded (T : Txt K mg) : ∃ fd, FunD K dd_law_worded.name dd_law_worded.qual (defArgs s_law_worded) (defBody s_law_worded) (defScope s_law_worded) (dd_law_worded.dvs K) (dd_law_worded.kws K) (He.fAd K dd_law_worded.at_) fd := T.says.def_ 22 rfl
theorem Txt.f_law_copy_named (T : Txt K mg) : ∃ fd, FunD K dd_law_copy_named.name dd_law_copy_named.qual (defArgs s_law_copy_named) (defBody s_law_copy_named) (defScope s_law_copy_named) (dd_law_copy_named.dvs K) (dd_law_copy_named.kws K) (He.fAd K dd_law_copy_named.at_) fd := T.says.def_ 23 rfl
theorem Txt.f_law_any_text (T : Txt K mg) : ∃ fd, FunD K dd_law_any_text.name dd_law_any_text.qual (defArgs s_law_any_text) (defBody s_law_any_text) (defScope s_law_any_text) (dd_law_any_text.dvs K) (dd_law_any_text.kws K) (He.fAd K dd_law_any_text.at_) fd := T.says.def_ 24 rfl
theorem Txt.f_law_bent (T : Txt K mg) : ∃ fd, FunD K dd_law_bent.name dd_law_bent.qual (defArgs s_law_bent) (defBody s_law_bent) (defScope s_law_bent) (dd_law_bent.dvs K) (dd_law_bent.kws K) (He.fAd K dd_law_bent.at_) fd := T.says.def_ 25 rfl
theorem Txt.f_law_path_of (T : Txt K mg) : ∃ fd, FunD K dd_law_path_of.name dd_law_path_of.qual (defArgs s_law_path_of) (defBody s_law_path_of) (defScope s_law_path_of) (dd_law_path_of.dvs K) (dd_law_path_of.kws K) (He.fAd K dd_law_path_of.at_) fd := T.says.def_ 26 rfl
theorem Txt.f_law (T : Txt K mg) : ∃ fd, FunD K dd_law.name dd_law.qual (defArgs s_law) (defBody s_law) (defScope s_law) (dd_law.dvs K) (dd_law.kws K) (He.fAd K dd_law.at_) fd := T.says.def_ 27 rfl
end
theorem sc_Rule_init : FnScope ["self", "alike", "unfit", "longest", "swaps", "reads", "cuts", "turns"] ["self", "alike", "unfit", "longest", "swaps", "reads", "cuts", "turns"] (defScope s_Rule_init) := ⟨rfl, rfl, rfl, by decide +kernel, rfl, by decide +kernel, by decide +kernel⟩
theorem sc_is_name : FnScope ["text", "sign"] ["text"] (defScope s_is_name) := ⟨rfl, rfl, rfl, by decide +kernel, rfl, by decide +kernel, by decide +kernel⟩
theorem sc_counterpart : FnScope ["rule", "sign", "pair"] ["rule", "sign"] (defScope s_counterpart) := ⟨rfl, rfl, rfl, by decide +kernel, rfl, by decide +kernel, by decide +kernel⟩
theorem sc_same_name : FnScope ["rule", "first", "second", "k"] ["rule", "first", "second"] (defScope s_same_name) := ⟨rfl, rfl, rfl, by decide +kernel, rfl, by decide +kernel, by decide +kernel⟩
theorem sc_in_use : FnScope ["rule", "names", "name", "other"] ["rule", "names", "name"] (defScope s_in_use) := ⟨rfl, rfl, rfl, by decide +kernel, rfl, by decide +kernel, by decide +kernel⟩
theorem sc_fits : FnScope ["rule", "name"] ["rule", "name"] (defScope s_fits) := ⟨rfl, rfl, rfl, by decide +kernel, rfl, by decide +kernel, by decide +kernel⟩
theorem sc_path_text : FnScope ["path"] ["path"] (defScope s_path_text) := ⟨rfl, rfl, rfl, by decide +kernel, rfl, by decide +kernel, by decide +kernel⟩
theorem sc_read_path : FnScope ["text", "names", "name"] ["text"] (defScope s_read_path) := ⟨rfl, rfl, rfl, by decide +kernel, rfl, by decide +kernel, by decide +kernel⟩
theorem sc_ending : FnScope ["name", "at"] ["name"] (defScope s_ending) := ⟨rfl, rfl, rfl, by decide +kernel, rfl, by decide +kernel, by decide +kernel⟩
theorem sc_stem : FnScope ["name"] ["name"] (defScope s_stem) := ⟨rfl, rfl, rfl, by decide +kernel, rfl, by decide +kernel, by decide +kernel⟩
theorem sc_with_word : FnScope ["longest", "name", "word", "room"] ["longest", "name", "word"] (defScope s_with_word) := ⟨rfl, rfl, rfl, by decide +kernel, rfl, by decide +kernel, by decide +kernel⟩
theorem sc_copy_name : FnScope ["longest", "name", "number", "k", "word"] ["longest", "name", "number", "k"] (defScope s_copy_name) := ⟨rfl, rfl, rfl, by decide +kernel, rfl, by decide +kernel, by decide +kernel⟩
theorem sc_numbered_name : FnScope ["longest", "name", "k"] ["longest", "name", "k"] (defScope s_numbered_name) := ⟨rfl, rfl, rfl, by decide +kernel, rfl, by decide +kernel, by decide +kernel⟩
theorem sc_law_stream : FnScope ["script", "cell"] ["script"] (defScope s_law_stream) := ⟨rfl, rfl, rfl, by decide +kernel, rfl, by decide +kernel, by decide +kernel⟩
theorem sc_law_fresh : FnScope ["stream", "cells", "at", "cell", "prime", "first", "second", "third", "fourth"] ["stream"] (defScope s_law_fresh) := ⟨rfl, rfl, rfl, by decide +kernel, rfl, by decide +kernel, by decide +kernel⟩
theorem sc_law_pick : FnScope ["stream", "many", "digit"] ["stream", "many"] (defScope s_law_pick) := ⟨rfl, rfl, rfl, by decide +kernel, rfl, by decide +kernel, by decide +kernel⟩
theorem sc_law_rule_told : FnScope ["stream", "alike", "unfit", "longest", "flags", "k"] ["stream"] (defScope s_law_rule_told) := ⟨rfl, rfl, rfl, by decide +kernel, rfl, by decide +kernel, by decide +kernel⟩
theorem sc_law_rule_of : FnScope ["told", "alike", "unfit", "longest", "swaps", "reads", "cuts", "turns"] ["told"] (defScope s_law_rule_of) := ⟨rfl, rfl, rfl, by decide +kernel, rfl, by decide +kernel, by decide +kernel⟩
theorem sc_law_counts_as : FnScope ["rule", "name", "found", "sign", "pairs", "pair"] ["rule", "name"] (defScope s_law_counts_as) := ⟨rfl, rfl, rfl, by decide +kernel, rfl, by decide +kernel, by decide +kernel⟩
theorem sc_law_is_name : FnScope ["text", "sign"] ["text"] (defScope s_law_is_name) := ⟨rfl, rfl, rfl, by decide +kernel, rfl, by decide +kernel, by decide +kernel⟩
theorem sc_law_fits : FnScope ["rule", "name", "other"] ["rule", "name"] (defScope s_law_fits) := ⟨rfl, rfl, rfl, by decide +kernel, rfl, by decide +kernel, by decide +kernel⟩
theorem sc_law_cut_name : FnScope ["name", "at", "k"] ["name"] (defScope s_law_cut_name) := ⟨rfl, rfl, rfl, by decide +kernel, rfl, by decide +kernel, by decide +kernel⟩
theorem sc_law_worded : FnScope ["longest", "name", "word", "front", "back", "room"] ["longest", "name", "word"] (defScope s_law_worded) := ⟨rfl, rfl, rfl, by decide +kernel, rfl, by decide +kernel, by decide +kernel⟩
theorem sc_law_copy_named : FnScope ["longest", "name", "number", "k", "word"] ["longest", "name", "number", "k"] (defScope s_law_copy_named) := ⟨rfl, rfl, rfl, by decide +kernel, rfl, by decide +kernel, by decide +kernel⟩
theorem sc_law_any_text : FnScope ["stream", "signs", "kind", "size", "text", "k"] ["stream"] (defScope s_law_any_text) := ⟨rfl, rfl, rfl, by decide +kernel, rfl, by decide +kernel, by decide +kernel⟩
theorem sc_law_bent : FnScope ["stream", "name", "at"] ["stream", "name"] (defScope s_law_bent) := ⟨rfl, rfl, rfl, by decide +kernel, rfl, by decide +kernel, by decide +kernel⟩
theorem sc_law_path_of : FnScope ["text", "parts", "part"] ["text"] (defScope s_law_path_of) := ⟨rfl, rfl, rfl, by decide +kernel, rfl, by decide +kernel, by decide +kernel⟩
theorem sc_law : FnScope ["script", "stream", "k", "told", "rule", "one", "other", "front", "back", "number", "count", "due", "text", "path"] ["script"] (defScope s_law) := ⟨rfl, rfl, rfl, by decide +kernel, rfl, by decide +kernel, by decide +kernel⟩
end K0

set_option Elab.async false
set_option linter.all false
set_option maxRecDepth 100000
set_option maxHeartbeats 4000000
namespace Kv
open PySem PySem.Spec PyProof.Rows L2 Evl
/-! ### calls -/
/-- a def of the module as one may call it -/
structure Cal (P : Program) (w : World) (K : PySem.W.Frag) (mg : Str → Option Value) (base : Heap) (k : Nat) (x : Str) (sp : Sp) : Prop where
  ex : ∃ (f : Addr) (fd : FuncData) (ps : List Str), FnOk P w K mg base CX0 k f fd ps sp ∧ mg x = some (.ref f) ∧ PySem.W.keepIn K (.ref f) = true ∧ Binds K fd ps []
theorem pe_c {X : Cx} {k j : Nat} {x : Str} {sp : Sp} {p pos : Pos} {e : Expr} {es : List Expr} {t : TA} (c : Cal X.prog X.w X.K X.mg X.base k x sp) (hr : Room j X.A) (hk : k ≤ j) (hg : Gl X x) (ha : PA X (e :: es) t)
    (hdb : (x == ("__debug__" : Str)) = false := by decide) (he : starEach (e :: es) X.env = (false, eval e X.env) :: starEach es X.env := by rfl) (hpl : (backTo pos (starEach es X.env)).any (·.1) = false := by rfl) :
    PE X (.Call (.Name x p) (e :: es) [] pos) (tCall sp [] E0 t) := by
  obtain ⟨f, fd, ps, F, hm, kp, b⟩ := c.ex
  exact pe_call F (hr.mono hk) hg hm kp b .nil pass0 ha hdb he hpl
abbrev FnP (K : PySem.W.Frag) (x : Str) (st : Stmt) (f : Addr) (fd : FuncData) : Prop := FunD K x x (defArgs st) (defBody st) (defScope st) [] [] f fd
section
variable {P : Program} {w : World} {K : PySem.W.Frag} {mg : Str → Option Value} {base : Heap}
/-- a def of the module, by its body -/
theorem cal_of {x : Str} {st : Stmt} {f : Addr} {fd : FuncData} {N ps : List Str} {k : Nat} {sp : Sp} (F : FnP K x st f fd) (gm : mg x = some (.ref f)) (b : Binds K fd ps []) (S : FnScope N ps (defScope st))
    (len : ∀ vs H Q E, sp vs H Q E → vs.length = ps.length)
    (hbody : ∀ (cdv : Value) (A : Around) (outer : List Env) (s : Shared) (H : Hp) (vs : List V) (Q : VK) (E : XK), Room k (A.deeper (envOfC x (defScope st) s.heap.objs.size f cdv)) → sp vs H Q E →
      ∃ t, PSs (cxOf CX0 P w K mg base N x (defScope st) f cdv A outer s H E).nox (defBody st) t ∧ t { nx := fun _ H' => Q .non H', rt := Q } (start N vs) H) : Cal P w K mg base (k + 1) x sp :=
  ⟨f, fd, ps, F.ok S len fun cdv A outer s H vs Q E hr h => by
    obtain ⟨t, h1, h2⟩ := hbody cdv A outer s H vs Q E hr h
    exact ⟨t, h1.nox, h2⟩, gm, F.kp, b⟩
end
/-! ### what evaluates to what, further -/
abbrev tl (x : Str) : List Nat := x.cps.toList
theorem ext_tl {x y : Str} (h : tl x = tl y) : x = y := by
  cases x with | mk a => cases y with | mk b => exact congrArg Str.mk (by simpa using congrArg List.toArray h)
theorem len_tl (x : Str) : x.length = (tl x).length := by simp [Str.length]
def RetU (xs : List V) (H : Hp) (Q : VK) : Prop := ∀ p H2, H p = none → Ex H H2 → H2 p = some (.tup xs) → Q (.ref p) H2
section
variable {K : PySem.W.Frag} {σ : L2.St} {H H' : Hp} {ta tb te tc : TE} {t u : TT} {x y z v : V} {r r' : R2}
theorem RetU.go {xs : List V} {Q : VK} (k : RetU xs H Q) (e : Ex H H') {p : Addr} {H2 : Hp} (hp : H' p = none) (e2 : Ex H' H2) (h : H2 p = some (.tup xs)) : Q (.ref p) H2 := k p H2 (fresh_back e hp) (e.trans e2) h
theorem rv_addS {i j : Str} (h : i.length + j.length ≤ 100000) : RV (fun x y H Q => ∃ i j, x = .str i ∧ y = .str j ∧ i.length + j.length ≤ sizeLine ∧ Q (.str (i ++ j)) H) (.str i) (.str j) H (.str (i ++ j)) :=
  fun H1 _ _ q => ⟨i, j, rfl, rfl, sz_of h, q H1 (Ex.refl H1)⟩
theorem rv_mod {i j : Int} (h : 0 < j) : RV (rI (fun _ j => 0 < j) fun i j => .int (i % j)) (.int i) (.int j) H (.int (i % j)) := rv_I (g := fun i j => .int (i % j)) h
theorem ev_chain {i j k : Int} {p q : Int → Int → Bool} (ha : Ev ta σ H (.int i)) (hb : Ev tb σ H (.int j)) (hc : Ev tc σ H (.int k)) :
    Ev (tChain (rI0 fun i j => .bl (p i j)) (rI0 fun i j => .bl (q i j)) ta tb tc) σ H (.bl (p i j && q j k)) := fun H1 e Q qq =>
  ha H1 e _ fun H2 e2 => hb H2 (e.trans e2) _ fun H3 e3 => ⟨i, j, rfl, rfl, _, rfl, by
    cases hp : p i j with
    | true =>
      show tc σ H3 _
      refine hc H3 ((e.trans e2).trans e3) _ fun H4 e4 => ⟨j, k, rfl, rfl, ?_⟩
      have h5 := qq H4 ((e2.trans e3).trans e4)
      rw [hp] at h5
      exact h5
    | false =>
      show Q (.bl false) H3
      have h5 := qq H3 (e2.trans e3)
      rw [hp] at h5
      exact h5⟩
theorem rc_lenS {a : Str} (h : a.length ≤ 100000) : RC (fun xs H Q => ∃ z, xs = [V.str z] ∧ z.length ≤ sizeLine ∧ Q (V.int ↑z.length) H) [.str a] H (.int (a.length : Nat)) := fun H1 _ _ q => ⟨a, rfl, sz_of h, q H1 (Ex.refl H1)⟩
theorem rc_ord {c : Nat} : RC (fun xs H Q => ∃ x, xs = [V.str x] ∧ x.length = 1 ∧ Q (V.int ↑(x.cps.getD 0 0)) H) [.str ⟨#[c]⟩] H (.int (c : Nat)) := fun H1 _ _ q => ⟨⟨#[c]⟩, rfl, rfl, q H1 (Ex.refl H1)⟩
theorem rc_strI {i : Int} (h : i.natAbs.log2 < 1920) : RC (fun xs H Q => ∃ i : Int, xs = [.int i] ∧ i.natAbs.log2 < 1920 ∧ Q (.str (toString i)) H) [.int i] H (.str (toString i)) := fun H1 _ _ q => ⟨i, rfl, h, q H1 (Ex.refl H1)⟩
theorem rc_int1 {i : Int} : RC (fun xs H Q => (∃ i, xs = [.int i] ∧ Q (.int i) H) ∨ ∃ k, xs = [.bl k] ∧ Q (.int (if k then 1 else 0)) H) [.int i] H (.int i) := fun H1 _ _ q => .inl ⟨i, rfl, q H1 (Ex.refl H1)⟩
theorem rc_int1b {k : Bool} : RC (fun xs H Q => (∃ i, xs = [.int i] ∧ Q (.int i) H) ∨ ∃ k, xs = [.bl k] ∧ Q (.int (if k then 1 else 0)) H) [.bl k] H (.int (if k then 1 else 0)) := fun H1 _ _ q => .inr ⟨k, rfl, q H1 (Ex.refl H1)⟩
theorem rc_max {i j : Int} : RC (fun xs H Q => ∃ i j, xs = [.int i, .int j] ∧ Q (.int (if j > i then j else i)) H) [.int i, .int j] H (.int (if j > i then j else i)) := fun H1 _ _ q => ⟨i, j, rfl, q H1 (Ex.refl H1)⟩
theorem rc_lenT {p : Addr} {xs : List V} (h : SqT K H p xs) : RC (rLenS K) [.ref p] H (.int (xs.length : Nat)) := fun H1 e _ q => ⟨p, xs, rfl, .inr (ex_t e h), q H1 (Ex.refl H1)⟩
/-- a text cut -/
theorem ev_slS {tlo thi : TO} {a : Str} {lo hi : Option Int} (h : Ev te σ H (.str a)) (h1 : EvO tlo σ H lo) (h2 : EvO thi σ H hi) (hz : a.length ≤ 100000) : Ev (tSl rSlS te tlo thi) σ H (.str (cutS a lo hi)) := fun H1 e _ q =>
  h H1 e _ fun H2 e2 => h1 H2 (e.trans e2) _ fun H3 e3 => h2 H3 ((e.trans e2).trans e3) _ fun H4 e4 => ⟨a, rfl, sz_of hz, q H4 ((e2.trans e3).trans e4)⟩
/-- a text's method of one argument -/
theorem ev_m1 {r : V → List V → Hp → VK → Prop} {a : Str} (h : Ev ta σ H (.str a)) (hb : Ev tb σ H y) (hr : ∀ H1, Ex H H1 → ∀ Q : VK, Q z H1 → r (.str a) [y] H1 Q) : Ev (tM1 r ta tb) σ H z := fun H1 e _ q =>
  h H1 e _ fun H2 e2 => ⟨⟨a, rfl⟩, hb H2 (e.trans e2) _ fun H3 e3 => hr H3 ((e.trans e2).trans e3) _ (q H3 (e2.trans e3))⟩
theorem el_split {a b : Str} (h : Ev ta σ H (.str a)) (hb : Ev tb σ H (.str b)) (h0 : (b.length == 0) = false) (hz : a.length ≤ 100000) :
    EvL (tM1 (fun x xs H Q => ∃ a b, x = .str a ∧ xs = [.str b] ∧ (b.length == 0) = false ∧ a.length + 2 ≤ sizeLine ∧ rNewStrs (Txt.split a b) H Q) ta tb) σ H ((Txt.split a b).map V.str) := fun H1 e _ q =>
  h H1 e _ fun H2 e2 => ⟨⟨a, rfl⟩, hb H2 (e.trans e2) _ fun H3 e3 => ⟨a, b, rfl, rfl, h0, Nat.le_trans (Nat.add_le_add_right hz 2) (by decide), fun p hp => q p _ (fresh_back (e2.trans e3) hp) ((e2.trans e3).trans (Ex.new hp)) upd_same⟩⟩
/-- sep.join over a list or tuple -/
abbrev rJoin (K : PySem.W.Frag) : V → List V → Hp → VK → Prop := fun x xs H Q => ∃ a p, ∃ ys : List Str, x = .str a ∧ xs = [.ref p] ∧ (SqL K H p (ys.map V.str) ∨ SqT K H p (ys.map V.str)) ∧ (ys.map (·.length)).sum + ys.length * a.length ≤ 16777216 ∧ Q (.str (Txt.join a ys)) H
theorem ev_joinT {a : Str} {p : Addr} {ys : List Str} (h : Ev ta σ H (.str a)) (hb : Ev tb σ H (.ref p)) (hp : SqT K H p (ys.map V.str)) (hz : (ys.map (·.length)).sum + ys.length * a.length ≤ 16777216) : Ev (tM1 (rJoin K) ta tb) σ H (.str (Txt.join a ys)) :=
  ev_m1 h hb fun H1 e _ q => ⟨a, p, ys, rfl, rfl, .inr (ex_t e hp), hz, q⟩
theorem ev_joinL {a : Str} {ys : List Str} (h : Ev ta σ H (.str a)) (hb : EvL tb σ H (ys.map V.str)) (hz : (ys.map (·.length)).sum + ys.length * a.length ≤ 16777216) : Ev (tM1 (rJoin K) ta tb) σ H (.str (Txt.join a ys)) := fun H1 e _ q =>
  h H1 e _ fun H2 e2 => ⟨⟨a, rfl⟩, hb H2 (e.trans e2) _ fun p H3 _ e3 h3 => ⟨a, p, ys, rfl, rfl, .inl (sq_of h3), hz, q H3 (e2.trans e3)⟩⟩
/-- a call that makes a new tuple -/
def SpU (sp : Sp) (vs : List V) (H : Hp) (xs : List V) : Prop := ∀ H1, Ex H H1 → ∀ Q : VK, (∀ p H2, H1 p = none → Ex H1 H2 → H2 p = some (.tup xs) → Q (.ref p) H2) → ∀ E : XK, sp vs H1 Q E
theorem eu_call {sp : Sp} {dvs vs xs : List V} {E : XK} {ta : TA} (h : EvA ta σ H vs) (hs : SpU sp (vs ++ dvs) H xs) : EvU (tCall sp dvs E ta) σ H xs := fun H1 e Q q =>
  h H1 e _ fun H2 e2 => hs H2 (e.trans e2) Q (fun p H3 hp e3 h3 => q p H3 (fresh_back e2 hp) (e2.trans e3) h3) E
theorem EvU.mono {xs : List V} (e : Ex H H') (h : EvU te σ H xs) : EvU te σ H' xs := fun H1 a Q q => h H1 (e.trans a) Q q
/-- tuple(a list) -/
theorem eu_tupL {xs : List V} (h : EvL te σ H xs) : EvU (tCB (fun xs H Q => ∃ p ys, xs = [.ref p] ∧ ((SqL K H p ys ∧ ∀ l, H l = none → Q (.ref l) (upd H l (.tup ys))) ∨ (SqT K H p ys ∧ Q (.ref p) H))) (tCons te tNil)) σ H xs := fun H1 e _ q =>
  h H1 e _ fun p H2 _ e2 h2 => ⟨p, xs, rfl, .inl ⟨sq_of h2, fun l hl => q l _ (fresh_back e2 hl) (e2.trans (Ex.new hl)) upd_same⟩⟩
theorem eu_tupL' {p : Addr} {xs : List V} (h : Ev te σ H (.ref p)) (hp : SqL K H p xs) : EvU (tCB (fun xs H Q => ∃ p ys, xs = [.ref p] ∧ ((SqL K H p ys ∧ ∀ l, H l = none → Q (.ref l) (upd H l (.tup ys))) ∨ (SqT K H p ys ∧ Q (.ref p) H))) (tCons te tNil)) σ H xs := fun H1 e _ q =>
  h H1 e _ fun H2 e2 => ⟨p, xs, rfl, .inl ⟨ex_l (e.trans e2) hp, fun l hl => q l _ (fresh_back e2 hl) (e2.trans (Ex.new hl)) upd_same⟩⟩
/-- a for over the signs of a text -/
theorem s_forS {tx : TE} {a : Str} {j : Nat} {tu : TS} {D : Ends} (h : Ev tx σ H (.str a)) (Pv : Nat → L2.St → Hp → Prop) (h0 : ∀ H1, Ex H H1 → Pv 0 σ H1)
    (hs : ∀ i c σ' H', (tl a)[i]? = some c → Pv i σ' H' → tu { D with nx := Pv (i + 1), ct := Pv (i + 1), bk := D.nx } (σ'.set j (some (.str ⟨#[c]⟩))) H') (hd : ∀ σ' H', Pv (tl a).length σ' H' → D.nx σ' H') : tFor (iStr tx) (gName j) tu D σ H :=
  h H (Ex.refl H) _ fun H1 e => ⟨a, rfl, for_it walk_str Pv (h0 H1 e) (fun _ _ _ _ _ => trivial) (fun i x σ' H' H2 hi p y => by
    obtain ⟨e1, c, hc, e2⟩ := y
    subst e1 e2
    exact hs i c σ' H2 (by simpa using hc) p) fun σ' H' p => hd σ' H' (by simpa using p)⟩
theorem q_forS {tx : TE} {a : Str} {j : Nat} {tu tz : TS} {D : Ends} (h : Ev tx σ H (.str a)) (Pv : Nat → L2.St → Hp → Prop) (h0 : ∀ H1, Ex H H1 → Pv 0 σ H1)
    (hs : ∀ i c σ' H', (tl a)[i]? = some c → Pv i σ' H' → tu { D with nx := Pv (i + 1), ct := Pv (i + 1), bk := tz D } (σ'.set j (some (.str ⟨#[c]⟩))) H') (hd : ∀ σ' H', Pv (tl a).length σ' H' → tz D σ' H') : tSeq (tFor (iStr tx) (gName j) tu) tz D σ H :=
  s_forS (D := { D with nx := tz D }) h Pv h0 hs hd
theorem q_forTn {a : Addr} {xs : List V} {tlx : TE} {j : Nat} {tu tz : TS} {D : Ends} (h : Ev tlx σ H (.ref a)) (hx : SqT K H a xs) (Pv : Nat → L2.St → Hp → Prop) (h0 : ∀ H1, Ex H H1 → Pv 0 σ H1) (hl : ∀ i σ' H', i ≤ xs.length → Pv i σ' H' → SqT K H' a xs)
    (hs : ∀ i x σ' H', xs[i]? = some x → Pv i σ' H' → tu { D with nx := Pv (i + 1), ct := Pv (i + 1), bk := tz D } (σ'.set j (some x)) H') (hd : ∀ σ' H', Pv xs.length σ' H' → tz D σ' H') : tSeq (tFor (iTup K tlx) (gName j) tu) tz D σ H :=
  q_forT h hx Pv h0 hl hs hd
theorem q_ret (h : Ev te σ H v) {tz : TS} {D : Ends} (k : ∀ H1, Ex H H1 → D.rt v H1) : tSeq (tRet te) tz D σ H := s_ret (D := { D with nx := tz D }) h k
/-- a comprehension over a tuple, over the signs of a text -/
theorem el_lcT {a : Addr} {xs : List V} {tlx : TE} {j : Nat} {vs : List Nat} (f : Nat → Bool) (v : Nat → V) (h : Ev tlx σ H (.ref a)) (hx : SqT K H a xs) (hz : xs.length ≤ 40000) (hw : ∀ x, wipe ((wipe σ vs).set j (some x)) vs = wipe σ vs)
    (ht : ∀ (i : Nat) (x : V) H1, Ex H H1 → xs[i]? = some x → EvT t ((wipe σ vs).set j (some x)) H1 (f i)) (he : ∀ (i : Nat) (x : V) H1, Ex H H1 → xs[i]? = some x → f i = true → Ev te ((wipe σ vs).set j (some x)) H1 (v i)) :
    EvL (tLc (iTup K tlx) (gName j) t te vs) σ H (given xs.length f v) := fun H0 e Q q => h H0 e _ fun H1 e1 => ⟨a, rfl, ⟨xs, ex_t (e.trans e1) hx⟩, fun Dl hD =>
  lc_tup (xs := xs) (Cw H1 f v Dl) ⟨hD, Ex.new hD, upd_same⟩ (fun i H' _ p => ex_t ((e.trans e1).trans p.2.1) hx) (fun i x H' hi p => ⟨hw x, cw_turn p (by have := (List.getElem?_eq_some_iff.mp hi).1; omega) (ht i x H1 (e.trans e1) hi) (fun hf => he i x H1 (e.trans e1) hi hf)⟩)
    (fun H' p => q Dl H' (fresh_back e1 p.1) (e1.trans p.2.1) p.2.2)⟩
theorem el_lcS {a : Str} {tx : TE} {j : Nat} {vs : List Nat} (f : Nat → Bool) (v : Nat → V) (h : Ev tx σ H (.str a)) (hz : a.length ≤ 40000) (hw : ∀ x, wipe ((wipe σ vs).set j (some x)) vs = wipe σ vs)
    (ht : ∀ (i : Nat) (c : Nat) H1, Ex H H1 → (tl a)[i]? = some c → EvT t ((wipe σ vs).set j (some (.str ⟨#[c]⟩))) H1 (f i)) (he : ∀ (i : Nat) (c : Nat) H1, Ex H H1 → (tl a)[i]? = some c → f i = true → Ev te ((wipe σ vs).set j (some (.str ⟨#[c]⟩))) H1 (v i)) :
    EvL (tLc (iStr tx) (gName j) t te vs) σ H (given a.length f v) := fun H0 e Q q => h H0 e _ fun H1 e1 => ⟨a, rfl, fun Dl hD =>
  lc_it walk_str (Cw H1 f v Dl) ⟨hD, Ex.new hD, upd_same⟩ (fun _ _ _ _ => trivial) (fun i x H' H2 hi p y => by
    obtain ⟨ey, c, hc, e2⟩ := y
    subst ey e2
    have hc' : (tl a)[i]? = some c := by simpa using hc
    exact ⟨hw _, cw_turn p (by have : a.length = a.cps.size := rfl; omega) (ht i c H1 (e.trans e1) hc') (fun hf => he i c H1 (e.trans e1) hc' hf)⟩)
    (fun H' p => q Dl H' (fresh_back e1 p.1) (e1.trans p.2.1) p.2.2)⟩
theorem et_yes : EvT tYes σ H true := fun H1 _ _ q => q H1 (Ex.refl H1)
end
end Kv

set_option Elab.async false
set_option linter.all false
set_option maxRecDepth 100000
set_option maxHeartbeats 4000000
section
open PySem PySem.Spec PyProof.Rows L2 Evl Kv
local macro_rules | `(tactic| walk_at "sz") => `(tactic| first | assumption | omega)
local macro_rules | `(tactic| walk_at "rv") => `(tactic| first
  | with_reducible exact rv_I0
  | ((with_reducible apply rv_addS); walk_at "sz")
  | ((with_reducible apply rv_mod); walk_at "sz")
  | ((with_reducible apply rv_eq); rfl)
  | ((with_reducible apply rv_ne); rfl)
  | ((with_reducible apply rv_ixT); first | assumption | rfl)
  | ((with_reducible apply rv_ixL); first | assumption | rfl))
local macro_rules | `(tactic| walk_at "rc") => `(tactic| first
  | ((with_reducible apply rc_lenS); walk_at "sz")
  | with_reducible exact rc_ord
  | ((with_reducible apply rc_strI); walk_at "sz")
  | with_reducible exact rc_int1
  | with_reducible exact rc_int1b
  | with_reducible exact rc_max
  | ((with_reducible apply rc_lenT); assumption))
local macro_rules | `(tactic| walk_at "ea") => `(tactic| first
  | with_reducible exact ea_nil
  | ((with_reducible apply ea_cons); walk_at "ev"; walk_at "ea"))
local macro_rules | `(tactic| walk_at "ev") => `(tactic| first
  | ((with_reducible apply ev_var); rfl)
  | with_reducible exact ev_c
  | ((with_reducible apply ev_inU); walk_at "ev"; walk_at "eu"; rfl; rfl)
  | ((with_reducible apply ev_niU); walk_at "ev"; walk_at "eu"; rfl; rfl)
  | ((with_reducible apply ev_chain); walk_at "ev"; walk_at "ev"; walk_at "ev")
  | ((with_reducible apply ev_op); walk_at "ev"; walk_at "ev"; walk_at "rv")
  | ((with_reducible apply ev_cb); walk_at "ea"; walk_at "rc")
  | ((with_reducible apply ev_call); walk_at "ea"; walk_at "sp")
  | ((with_reducible apply ev_slS); walk_at "ev"; walk_at "eo"; walk_at "eo"; walk_at "sz")
  | ((with_reducible apply et_test); walk_at "ev")
  | ((with_reducible apply et_B); walk_at "ev")
  | ((with_reducible apply et_not); walk_at "ev")
  | ((with_reducible apply et_and); walk_at "ev"; (intro _; walk_at "ev"))
  | ((with_reducible apply et_or); walk_at "ev"; (intro _; walk_at "ev"))
  | ((with_reducible apply ev_andV); walk_at "ev"; (intro _; walk_at "ev"))
  | ((with_reducible apply ev_orV); walk_at "ev"; (intro _; walk_at "ev"))
  | ((with_reducible apply ev_notV); walk_at "ev"))
local macro_rules | `(tactic| walk_at "eo") => `(tactic| first
  | with_reducible exact eo_none
  | ((with_reducible apply eo_some); walk_at "ev"))
local macro_rules | `(tactic| walk_at "eu") => `(tactic| first
  | ((with_reducible apply eu_tup); walk_at "ea"; (simp only [List.length_cons, List.length_nil]; omega)))
namespace K0
open PySem PySem.Spec PyProof.Rows L2 Evl Kv
/-! ### names: the plain functions -/
def badC (c : Nat) : Bool := decide ((c : Int) < 32) || decide (V.str ⟨#[c]⟩ = V.str "/")
def isName (x : Str) : Bool := !(!(decide ((1 : Int) ≤ (x.length : Nat)) && decide (((x.length : Nat) : Int) ≤ 100)) || inV (.str x) [.str ".", .str ".."]) && (tl x).all fun c => !badC c
def spIsName : Sp := fun vs H Q _ => ∃ x : Str, vs = [.str x] ∧ x.length ≤ 20000 ∧ RetV (.bl (isName x)) H Q
section
variable {P : Program} {w : World} {K : PySem.W.Frag} {mg : Str → Option Value} {base : Heap}
theorem c_is_name (T : Txt K mg) : Cal P w K mg base 1 "is_name" spIsName := by
  obtain ⟨fd, F⟩ := T.f_is_name
  refine cal_of F T.g_is_name (F.bindsN fun _ _ _ _ _ _ us hl => match us, hl with | [_], _ => rfl) sc_is_name (fun vs H Q E h => ?_) (fun cdv A outer s H vs Q E hr h => ?_)
  · obtain ⟨x, rfl, _⟩ := h
    rfl
  · obtain ⟨x, rfl, hx, k⟩ := h
    refine ⟨_, pss_cons (ps_if (PW.pt (pw_or (pt_not (pt_chain op_le op_le pe_int (pe_callB call_len_str (by rfl) T.b_len (by decide +kernel) (pa_cons (pv 0) pa_nil)) pe_int))
        (pw_or1 (pt_cmpR op_in_seq (pv 0) (pe_tup (pa_cons pe_str (pa_cons pe_str pa_nil))) (by rfl)))))
        (pss_one (ps_ret pe_bl)) pss_nil)
      (pss_cons (ps_for PassesOwn.never rfl (pi_str (pv 0)) (pg_name (i := 1) sc_is_name.nd rfl (Or.inl rfl))
        (pss_one (ps_if (PW.pt (pw_or (pt_cmpR op_lt (pe_callB call_ord (by rfl) T.b_ord (by decide +kernel) (pa_cons (pv 1) pa_nil)) pe_int (nomark _))
          (pw_or1 (pt_cmpR op_eq (pv 1) pe_str (nomark _))))) (pss_one (ps_ret pe_bl)) pss_nil)))
      (pss_one (ps_ret pe_bl))), ?_⟩
    refine q_when (by walk_at "ev") (fun hb H1 e1 => s_ret ev_c fun H2 e2 => ?_) (fun hb H1 e1 => ?_)
    · have e : isName x = false := by
        unfold isName
        rw [show (!(decide ((1 : Int) ≤ (x.length : Nat)) && decide (((x.length : Nat) : Int) ≤ 100)) || inV (.str x) [.str ".", .str ".."]) = true from hb]
        rfl
      rw [← e]
      exact k H2 (e1.trans e2)
    · refine q_forS (ev_var rfl) (fun i σ H' => (∃ v, σ = [some (V.str x), v]) ∧ Ex H H' ∧ ((tl x).take i).all (fun c => !badC c) = true) (fun H2 e2 => ⟨⟨_, rfl⟩, e1.trans e2, rfl⟩) ?_ ?_
      · rintro i c σ' H' hi ⟨⟨v, rfl⟩, e2, ha⟩
        have ht : (tl x).take (i + 1) = (tl x).take i ++ [c] := by rw [List.take_succ, hi]; rfl
        refine s_when (b := badC c) (by unfold badC; walk_at "ev") (fun hc H3 e3 => s_ret ev_c fun H4 e4 => ?_) (fun hc H3 e3 => ⟨⟨_, rfl⟩, e2.trans e3, ?_⟩)
        · have e : isName x = false := by
            have hn : (tl x).all (fun c => !badC c) = false := by
              cases q : (tl x).all (fun c => !badC c) with
              | false => rfl
              | true =>
                have z := List.all_eq_true.mp q c (List.mem_of_getElem? hi)
                rw [hc] at z
                cases z
            unfold isName
            rw [hn, Bool.and_false]
          rw [← e]
          exact k H4 ((e2.trans e3).trans e4)
        · rw [ht, List.all_append, ha]
          simp [hc]
      · rintro σ' H' ⟨⟨v, rfl⟩, e2, ha⟩
        refine s_ret ev_c fun H3 e3 => ?_
        have e : isName x = true := by
          unfold isName
          rw [show (!(decide ((1 : Int) ≤ (x.length : Nat)) && decide (((x.length : Nat) : Int) ≤ 100)) || inV (.str x) [.str ".", .str ".."]) = false from hb]
          rw [List.take_length] at ha
          rw [ha]
          rfl
        rw [← e]
        exact k H3 (e2.trans e3)
end
end K0
end

set_option Elab.async false
set_option linter.all false
set_option maxRecDepth 100000
set_option maxHeartbeats 4000000
section
open PySem PySem.Spec PyProof.Rows L2 Evl Kv
local macro_rules | `(tactic| walk_at "sz") => `(tactic| first | assumption | omega)
local macro_rules | `(tactic| walk_at "rv") => `(tactic| first
  | with_reducible exact rv_I0
  | ((with_reducible apply rv_addS); walk_at "sz")
  | ((with_reducible apply rv_mod); walk_at "sz")
  | ((with_reducible apply rv_eq); rfl)
  | ((with_reducible apply rv_ne); rfl)
  | ((with_reducible apply rv_ixT); first | assumption | rfl)
  | ((with_reducible apply rv_ixL); first | assumption | rfl))
local macro_rules | `(tactic| walk_at "rc") => `(tactic| first
  | ((with_reducible apply rc_lenS); walk_at "sz")
  | with_reducible exact rc_ord
  | ((with_reducible apply rc_strI); walk_at "sz")
  | with_reducible exact rc_int1
  | with_reducible exact rc_int1b
  | with_reducible exact rc_max
  | ((with_reducible apply rc_lenT); assumption))
local macro_rules | `(tactic| walk_at "ea") => `(tactic| first
  | with_reducible exact ea_nil
  | ((with_reducible apply ea_cons); walk_at "ev"; walk_at "ea"))
local macro_rules | `(tactic| walk_at "ev") => `(tactic| first
  | ((with_reducible apply ev_var); rfl)
  | with_reducible exact ev_c
  | ((with_reducible apply ev_inU); walk_at "ev"; walk_at "eu"; rfl; rfl)
  | ((with_reducible apply ev_niU); walk_at "ev"; walk_at "eu"; rfl; rfl)
  | ((with_reducible apply ev_chain); walk_at "ev"; walk_at "ev"; walk_at "ev")
  | ((with_reducible apply ev_op); walk_at "ev"; walk_at "ev"; walk_at "rv")
  | ((with_reducible apply ev_cb); walk_at "ea"; walk_at "rc")
  | ((with_reducible apply ev_call); walk_at "ea"; walk_at "sp")
  | ((with_reducible apply ev_slS); walk_at "ev"; walk_at "eo"; walk_at "eo"; walk_at "sz")
  | ((with_reducible apply et_test); walk_at "ev")
  | ((with_reducible apply et_B); walk_at "ev")
  | ((with_reducible apply et_not); walk_at "ev")
  | ((with_reducible apply et_and); walk_at "ev"; (intro _; walk_at "ev"))
  | ((with_reducible apply et_or); walk_at "ev"; (intro _; walk_at "ev"))
  | ((with_reducible apply ev_andV); walk_at "ev"; (intro _; walk_at "ev"))
  | ((with_reducible apply ev_orV); walk_at "ev"; (intro _; walk_at "ev"))
  | ((with_reducible apply ev_notV); walk_at "ev"))
local macro_rules | `(tactic| walk_at "eo") => `(tactic| first
  | with_reducible exact eo_none
  | ((with_reducible apply eo_some); walk_at "ev"))
local macro_rules | `(tactic| walk_at "eu") => `(tactic| first
  | ((with_reducible apply eu_tup); walk_at "ea"; (simp only [List.length_cons, List.length_nil]; omega)))
namespace K0
open PySem PySem.Spec PyProof.Rows L2 Evl Kv
/-! ### a rule as an object; a field read -/
def ruleFs (pa pu : Addr) (L : Int) (s1 s2 s3 s4 : Bool) : List (Str × V) :=
  [("alike", .ref pa), ("unfit", .ref pu), ("longest", .int L), ("swaps", .bl s1), ("reads", .bl s2), ("cuts", .bl s3), ("turns", .bl s4)]
theorem rl_alike {pa pu : Addr} {L : Int} {s1 s2 s3 s4 : Bool} : (ruleFs pa pu L s1 s2 s3 s4).lookup ("alike" : Str) = some (.ref pa) := by rfl
theorem rl_unfit {pa pu : Addr} {L : Int} {s1 s2 s3 s4 : Bool} : (ruleFs pa pu L s1 s2 s3 s4).lookup ("unfit" : Str) = some (.ref pu) := by rfl
theorem rl_longest {pa pu : Addr} {L : Int} {s1 s2 s3 s4 : Bool} : (ruleFs pa pu L s1 s2 s3 s4).lookup ("longest" : Str) = some (.int L) := by rfl
abbrev pairV (p : Nat × Nat) : V := .str ⟨#[p.1, p.2]⟩
structure RuleAt (K : PySem.W.Frag) (H : Hp) (r : Addr) (A : List (Nat × Nat)) (U : List Str) (L : Int) (pa pu : Addr) : Prop where
  ob : ∃ dx s1 s2 s3 s4, H r = some (.ins (He.ga K "Rule") dx (ruleFs pa pu L s1 s2 s3 s4))
  al : SqT K H pa (A.map pairV)
  un : SqT K H pu (U.map V.str)
theorem RuleAt.mono {K : PySem.W.Frag} {H H' : Hp} {r : Addr} {A : List (Nat × Nat)} {U : List Str} {L : Int} {pa pu : Addr} (R : RuleAt K H r A U L pa pu) (e : Ex H H') : RuleAt K H' r A U L pa pu := by
  obtain ⟨⟨dx, s1, s2, s3, s4, h⟩, a, u⟩ := R
  exact ⟨⟨dx, s1, s2, s3, s4, e _ _ h⟩, ex_t e a, ex_t e u⟩
theorem ev_fld {K : PySem.W.Frag} {σ : L2.St} {H : Hp} {ta : TE} {a C dx : Addr} {fs : List (Str × V)} {f : Str} {v : V} (h : Ev ta σ H (.ref a)) (ho : H a = some (.ins C dx fs)) (c : Cls K C) (n : NoAttr K C f) (l : fs.lookup f = some v) : Ev (tFld K ta f) σ H v := fun H1 e Q q =>
  h H1 e _ fun H2 e2 => ⟨a, C, dx, fs, v, rfl, e2 _ _ (e _ _ ho), c, n, l, q H2 e2⟩
section
variable {K : PySem.W.Frag} {mg : Str → Option Value} {σ : L2.St} {H : Hp} {ta : TE} {r pa pu : Addr} {A : List (Nat × Nat)} {U : List Str} {L : Int}
theorem ev_alike (T : Txt K mg) (R : RuleAt K H r A U L pa pu) (h : Ev ta σ H (.ref r)) : Ev (tFld K ta "alike") σ H (.ref pa) := by
  obtain ⟨⟨dx, s1, s2, s3, s4, ho⟩, _, _⟩ := R
  exact ev_fld h ho T.cl_Rule T.na_Rule_alike rl_alike
theorem ev_unfit (T : Txt K mg) (R : RuleAt K H r A U L pa pu) (h : Ev ta σ H (.ref r)) : Ev (tFld K ta "unfit") σ H (.ref pu) := by
  obtain ⟨⟨dx, s1, s2, s3, s4, ho⟩, _, _⟩ := R
  exact ev_fld h ho T.cl_Rule T.na_Rule_unfit rl_unfit
theorem ev_longest (T : Txt K mg) (R : RuleAt K H r A U L pa pu) (h : Ev ta σ H (.ref r)) : Ev (tFld K ta "longest") σ H (.int L) := by
  obtain ⟨⟨dx, s1, s2, s3, s4, ho⟩, _, _⟩ := R
  exact ev_fld h ho T.cl_Rule T.na_Rule_longest rl_longest
end
theorem dec_str1 (a c : Nat) : decide (V.str ⟨#[a]⟩ = V.str ⟨#[c]⟩) = (a == c) := by
  by_cases h : a = c
  · subst h
    simp
  · have h2 : ¬ V.str ⟨#[a]⟩ = V.str ⟨#[c]⟩ := fun q => h (by injection q with q; injection q with q; simpa using q)
    rw [decide_eq_false h2]
    simp [h]
/-! ### the plain functions -/
def cpOf (A : List (Nat × Nat)) (c : Nat) : Nat := ((A.find? fun p => p.1 == c).map (·.2)).getD c
def sameN (A : List (Nat × Nat)) (x y : Str) : Bool := decide ((tl x).map (cpOf A) = (tl y).map (cpOf A))
def inUse (A : List (Nat × Nat)) (U : List Str) (x : Str) : Bool := U.any fun o => sameN A o x
def fitsB (A : List (Nat × Nat)) (U : List Str) (L : Int) (x : Str) : Bool := isName x && (decide ((x.length : Int) ≤ L) && !inUse A U x)
/-! ### promises -/
def spCp (K : PySem.W.Frag) : Sp := fun vs H Q _ => ∃ (r : Addr) (A : List (Nat × Nat)) (U : List Str) (L : Int) (pa pu : Addr) (c : Nat), vs = [.ref r, .str ⟨#[c]⟩] ∧ RuleAt K H r A U L pa pu ∧ A.length ≤ 1000 ∧ RetV (.str ⟨#[cpOf A c]⟩) H Q
def spSame (K : PySem.W.Frag) : Sp := fun vs H Q _ => ∃ (r : Addr) (A : List (Nat × Nat)) (U : List Str) (L : Int) (pa pu : Addr) (x y : Str), vs = [.ref r, .str x, .str y] ∧ RuleAt K H r A U L pa pu ∧ A.length ≤ 1000 ∧ x.length ≤ 20000 ∧ y.length ≤ 20000 ∧ RetV (.bl (sameN A x y)) H Q
def spInUse (K : PySem.W.Frag) : Sp := fun vs H Q _ => ∃ (r : Addr) (A : List (Nat × Nat)) (U : List Str) (L : Int) (pa pu : Addr) (q : Addr) (ns : List Str) (x : Str), vs = [.ref r, .ref q, .str x] ∧ RuleAt K H r A U L pa pu ∧ A.length ≤ 1000 ∧ SqT K H q (ns.map V.str) ∧ (∀ o ∈ ns, o.length ≤ 20000) ∧ x.length ≤ 20000 ∧ RetV (.bl (inUse A ns x)) H Q
def spFits (K : PySem.W.Frag) : Sp := fun vs H Q _ => ∃ (r : Addr) (A : List (Nat × Nat)) (U : List Str) (L : Int) (pa pu : Addr) (x : Str), vs = [.ref r, .str x] ∧ RuleAt K H r A U L pa pu ∧ A.length ≤ 1000 ∧ (∀ o ∈ U, o.length ≤ 20000) ∧ x.length ≤ 20000 ∧ RetV (.bl (fitsB A U L x)) H Q
section
variable {K : PySem.W.Frag} {H : Hp} {r pa pu q : Addr} {A : List (Nat × Nat)} {U ns : List Str} {L : Int} {x y : Str} {c : Nat}
theorem sv_isName (h : x.length ≤ 20000) : SpV spIsName ([.str x] ++ []) H (.bl (isName x)) := fun H1 e Q q E => ⟨x, rfl, h, q⟩
theorem sv_cp (R : RuleAt K H r A U L pa pu) (hA : A.length ≤ 1000) : SpV (spCp K) ([.ref r, .str ⟨#[c]⟩] ++ []) H (.str ⟨#[cpOf A c]⟩) := fun H1 e Q q E => ⟨r, A, U, L, pa, pu, c, rfl, R.mono e, hA, q⟩
theorem sv_same (R : RuleAt K H r A U L pa pu) (hA : A.length ≤ 1000) (hx : x.length ≤ 20000) (hy : y.length ≤ 20000) : SpV (spSame K) ([.ref r, .str x, .str y] ++ []) H (.bl (sameN A x y)) := fun H1 e Q q E => ⟨r, A, U, L, pa, pu, x, y, rfl, R.mono e, hA, hx, hy, q⟩
theorem sv_inUse (R : RuleAt K H r A U L pa pu) (hA : A.length ≤ 1000) (hq : SqT K H q (ns.map V.str)) (hn : ∀ o ∈ ns, o.length ≤ 20000) (hx : x.length ≤ 20000) : SpV (spInUse K) ([.ref r, .ref q, .str x] ++ []) H (.bl (inUse A ns x)) := fun H1 e Q k E => ⟨r, A, U, L, pa, pu, q, ns, x, rfl, R.mono e, hA, ex_t e hq, hn, hx, k⟩
theorem sv_fits (R : RuleAt K H r A U L pa pu) (hA : A.length ≤ 1000) (hn : ∀ o ∈ U, o.length ≤ 20000) (hx : x.length ≤ 20000) : SpV (spFits K) ([.ref r, .str x] ++ []) H (.bl (fitsB A U L x)) := fun H1 e Q k E => ⟨r, A, U, L, pa, pu, x, rfl, R.mono e, hA, hn, hx, k⟩
end
section
variable {P : Program} {w : World} {K : PySem.W.Frag} {mg : Str → Option Value} {base : Heap}
theorem c_cp (T : Txt K mg) : Cal P w K mg base 1 "counterpart" (spCp K) := by
  obtain ⟨fd, F⟩ := T.f_counterpart
  refine cal_of F T.g_counterpart (F.bindsN fun _ _ _ _ _ _ us hl => match us, hl with | [_, _], _ => rfl) sc_counterpart (fun vs H Q E h => ?_) (fun cdv A outer s H vs Q E hr h => ?_)
  · obtain ⟨r, A, U, L, pa, pu, c, rfl, _⟩ := h
    rfl
  · obtain ⟨r, A, U, L, pa, pu, c, rfl, R, hA, k⟩ := h
    refine ⟨_, pss_cons (ps_for PassesOwn.never rfl (pi_tup (pe_fld (pv 0) rfl)) (pg_name (i := 2) sc_counterpart.nd rfl (Or.inl rfl))
        (pss_one (ps_if (pt_cmpR op_eq (pe_ix ix_str (pv 2) pe_int (fun _ _ => rfl)) (pv 1) (nomark _)) (pss_one (ps_ret (pe_ix ix_str (pv 2) pe_int (fun _ _ => rfl)))) pss_nil)))
      (pss_one (ps_ret (pv 1))), ?_⟩
    refine q_forTn (ev_alike T R (ev_var rfl)) R.al (fun i σ H' => (∃ v, σ = [some (.ref r), some (.str ⟨#[c]⟩), v]) ∧ Ex H H' ∧ (A.take i).find? (fun p => p.1 == c) = none) (fun H2 e2 => ⟨⟨_, rfl⟩, e2, rfl⟩) (fun i σ H' _ p => ex_t p.2.1 R.al) ?_ ?_
    · rintro i x σ' H' hi ⟨⟨v, rfl⟩, e2, ha⟩
      obtain ⟨p, hp, rfl⟩ : ∃ p, A[i]? = some p ∧ pairV p = x := by
        rw [List.getElem?_map] at hi
        cases q : A[i]? with
        | none => rw [q] at hi; cases hi
        | some p => rw [q] at hi; exact ⟨p, rfl, Option.some.inj hi⟩
      have hs : A = A.take i ++ p :: A.drop (i + 1) := by
        obtain ⟨hlt, e⟩ := List.getElem?_eq_some_iff.mp hp
        rw [← e, ← List.drop_eq_getElem_cons hlt, List.take_append_drop]
      refine s_when (b := (p.1 == c)) (by
          rw [← dec_str1]
          exact et_test (ev_op (ev_op (ev_var rfl) ev_c (rv_ixS (by show 2 ≤ 100000; decide) rfl)) (ev_var rfl) (rv_eq rfl))) (fun hc H3 e3 => s_ret (v := .str ⟨#[p.2]⟩) (ev_op (ev_var rfl) ev_c (rv_ixS (by show 2 ≤ 100000; decide) rfl)) fun H4 e4 => ?_) (fun hc H3 e3 => ⟨⟨_, rfl⟩, e2.trans e3, ?_⟩)
      · have e : cpOf A c = p.2 := by
          unfold cpOf
          rw [hs, List.find?_append, ha]
          simp [List.find?_cons, hc]
        rw [← e]
        exact k H4 ((e2.trans e3).trans e4)
      · rw [List.take_succ, hp, List.find?_append, ha]
        simp [hc]
    · rintro σ' H' ⟨⟨v, rfl⟩, e2, ha⟩
      refine s_ret (ev_var rfl) fun H3 e3 => ?_
      rw [List.length_map, List.take_length] at ha
      have e : cpOf A c = c := by
        unfold cpOf
        rw [ha]
        rfl
      have k' := k H3 (e2.trans e3)
      rw [e] at k'
      exact k'
end
end K0
end

set_option Elab.async false
set_option linter.all false
set_option maxRecDepth 100000
set_option maxHeartbeats 4000000
section
open PySem PySem.Spec PyProof.Rows L2 Evl Kv
local macro_rules | `(tactic| walk_at "sz") => `(tactic| first | assumption | omega)
local macro_rules | `(tactic| walk_at "rv") => `(tactic| first
  | with_reducible exact rv_I0
  | ((with_reducible apply rv_addS); walk_at "sz")
  | ((with_reducible apply rv_mod); walk_at "sz")
  | ((with_reducible apply rv_eq); rfl)
  | ((with_reducible apply rv_ne); rfl)
  | ((with_reducible apply rv_ixS); walk_at "sz"; first | exact L2.atI_nat (by assumption) | rfl)
  | ((with_reducible apply rv_ixT); first | assumption | rfl)
  | ((with_reducible apply rv_ixL); first | assumption | rfl))
local macro_rules | `(tactic| walk_at "rc") => `(tactic| first
  | ((with_reducible apply rc_lenS); walk_at "sz")
  | with_reducible exact rc_ord
  | ((with_reducible apply rc_strI); walk_at "sz")
  | with_reducible exact rc_int1
  | with_reducible exact rc_int1b
  | with_reducible exact rc_max
  | ((with_reducible apply rc_lenT); assumption))
local macro_rules | `(tactic| walk_at "ea") => `(tactic| first
  | with_reducible exact ea_nil
  | ((with_reducible apply ea_cons); walk_at "ev"; walk_at "ea"))
local macro_rules | `(tactic| walk_at "ev") => `(tactic| first
  | ((with_reducible apply ev_var); rfl)
  | with_reducible exact ev_c
  | ((with_reducible apply ev_inU); walk_at "ev"; walk_at "eu"; rfl; rfl)
  | ((with_reducible apply ev_niU); walk_at "ev"; walk_at "eu"; rfl; rfl)
  | ((with_reducible apply ev_chain); walk_at "ev"; walk_at "ev"; walk_at "ev")
  | ((with_reducible apply ev_op); walk_at "ev"; walk_at "ev"; walk_at "rv")
  | ((with_reducible apply ev_cb); walk_at "ea"; walk_at "rc")
  | ((with_reducible apply ev_call); walk_at "ea"; walk_at "sp")
  | ((with_reducible apply ev_slS); walk_at "ev"; walk_at "eo"; walk_at "eo"; walk_at "sz")
  | ((with_reducible apply et_test); walk_at "ev")
  | ((with_reducible apply et_B); walk_at "ev")
  | ((with_reducible apply et_not); walk_at "ev")
  | ((with_reducible apply et_and); walk_at "ev"; (intro _; walk_at "ev"))
  | ((with_reducible apply et_or); walk_at "ev"; (intro _; walk_at "ev"))
  | ((with_reducible apply ev_andV); walk_at "ev"; (intro _; walk_at "ev"))
  | ((with_reducible apply ev_orV); walk_at "ev"; (intro _; walk_at "ev"))
  | ((with_reducible apply ev_notV); walk_at "ev"))
local macro_rules | `(tactic| walk_at "eo") => `(tactic| first
  | with_reducible exact eo_none
  | ((with_reducible apply eo_some); walk_at "ev"))
local macro_rules | `(tactic| walk_at "eu") => `(tactic| first
  | ((with_reducible apply eu_tup); walk_at "ea"; (simp only [List.length_cons, List.length_nil]; omega)))
namespace K0
open PySem PySem.Spec PyProof.Rows L2 Evl Kv
local macro_rules | `(tactic| walk_at "sp") => `(tactic| ((with_reducible apply sv_isName); walk_at "sz"))
local macro_rules | `(tactic| walk_at "sp") => `(tactic| ((with_reducible apply sv_cp); assumption; assumption))
local macro_rules | `(tactic| walk_at "sp") => `(tactic| ((with_reducible apply sv_same); assumption; assumption; walk_at "sz"; walk_at "sz"))
local macro_rules | `(tactic| walk_at "sp") => `(tactic| ((with_reducible apply sv_inUse); assumption; assumption; assumption; assumption; walk_at "sz"))
theorem get_of_lt {l : List Nat} {i : Nat} (h : i < l.length) : ∃ c, l[i]? = some c := ⟨l[i], by simp [h]⟩
section
variable {P : Program} {w : World} {K : PySem.W.Frag} {mg : Str → Option Value} {base : Heap}
theorem c_same (T : Txt K mg) : Cal P w K mg base 2 "same_name" (spSame K) := by
  obtain ⟨fd, F⟩ := T.f_same_name
  refine cal_of F T.g_same_name (F.bindsN fun _ _ _ _ _ _ us hl => match us, hl with | [_, _, _], _ => rfl) sc_same_name (fun vs H Q E h => ?_) (fun cdv A₀ outer s H vs Q E hr h => ?_)
  · obtain ⟨r, A, U, L, pa, pu, x, y, rfl, _⟩ := h
    rfl
  · obtain ⟨r, A, U, L, pa, pu, x, y, rfl, R, hA, hx, hy, k⟩ := h
    refine ⟨_, pss_cons (ps_if (pt_cmpR op_ne (pe_callB call_len_str (by rfl) T.b_len (by decide +kernel) (pa_cons (pv 1) pa_nil)) (pe_callB call_len_str (by rfl) T.b_len (by decide +kernel) (pa_cons (pv 2) pa_nil)) (nomark _)) (pss_one (ps_ret pe_bl)) pss_nil)
      (pss_cons (ps_for PassesOwn.never rfl (pi_range1 rfl T.b_range (pa_cons (pe_callB call_len_str (by rfl) T.b_len (by decide +kernel) (pa_cons (pv 1) pa_nil)) pa_nil)) (pg_name (i := 3) sc_same_name.nd rfl (Or.inl rfl))
        (pss_one (ps_if (pt_cmpR op_ne (pe_c (c_cp T) hr (Nat.le_refl _) rfl (pa_cons (pv 0) (pa_cons (pe_ix ix_str (pv 1) (pv 3) (fun _ _ => rfl)) pa_nil)))
          (pe_c (c_cp T) hr (Nat.le_refl _) rfl (pa_cons (pv 0) (pa_cons (pe_ix ix_str (pv 2) (pv 3) (fun _ _ => rfl)) pa_nil))) (nomark _)) (pss_one (ps_ret pe_bl)) pss_nil)))
      (pss_one (ps_ret pe_bl))), ?_⟩
    dsimp only [cxOf, Cx.nox, Cx.wish]
    have hlx := len_tl x
    have hly := len_tl y
    refine q_when (by walk_at "ev") (fun hb H1 e1 => s_ret ev_c fun H2 e2 => ?_) (fun hb H1 e1 => ?_)
    · have hne : x.length ≠ y.length := fun z => by rw [z] at hb; simp at hb
      have e : sameN A x y = false := decide_eq_false fun z => hne (by
        have := congrArg List.length z
        simp only [List.length_map] at this
        omega)
      rw [← e]
      exact k H2 (e1.trans e2)
    · have heq : x.length = y.length := by
        have z : (x.length : Int) = y.length := by simpa using hb
        omega
      refine q_forR1 (by walk_at "ea") ⟨by omega, by omega⟩ (fun i σ H' => (∃ v, σ = [some (.ref r), some (.str x), some (.str y), v]) ∧ Ex H H' ∧ ((tl x).take i).map (cpOf A) = ((tl y).take i).map (cpOf A)) (fun H2 e2 => ⟨⟨_, rfl⟩, e1.trans e2, rfl⟩) ?_ ?_
      · rintro i σ' H' hi ⟨⟨v, rfl⟩, e2, ha⟩
        obtain ⟨c1, h1⟩ := get_of_lt (l := tl x) (i := i) (by omega)
        obtain ⟨c2, h2⟩ := get_of_lt (l := tl y) (i := i) (by omega)
        have R' := R.mono e2
        refine s_when (b := !(cpOf A c1 == cpOf A c2)) (by rw [← dec_str1]; walk_at "ev") (fun hc H3 e3 => s_ret ev_c fun H4 e4 => ?_) (fun hc H3 e3 => ⟨⟨_, rfl⟩, e2.trans e3, ?_⟩)
        · have e : sameN A x y = false := decide_eq_false fun z => by
            have z2 := congrArg (fun l : List Nat => l[i]?) z
            simp only [List.getElem?_map, h1, h2, Option.map_some, Option.some.injEq] at z2
            rw [z2] at hc
            simp at hc
          rw [← e]
          exact k H4 ((e2.trans e3).trans e4)
        · have hc' : cpOf A c1 = cpOf A c2 := by simpa using hc
          rw [List.take_succ, List.take_succ, h1, h2, List.map_append, List.map_append, ha]
          simp [hc']
      · rintro σ' H' ⟨⟨v, rfl⟩, e2, ha⟩
        refine s_ret ev_c fun H3 e3 => ?_
        have e : sameN A x y = true := decide_eq_true (by
          rw [Int.toNat_natCast, List.take_of_length_le (by omega), List.take_of_length_le (by omega)] at ha
          exact ha)
        rw [← e]
        exact k H3 (e2.trans e3)
theorem c_inUse (T : Txt K mg) : Cal P w K mg base 3 "in_use" (spInUse K) := by
  obtain ⟨fd, F⟩ := T.f_in_use
  refine cal_of F T.g_in_use (F.bindsN fun _ _ _ _ _ _ us hl => match us, hl with | [_, _, _], _ => rfl) sc_in_use (fun vs H Q E h => ?_) (fun cdv A₀ outer s H vs Q E hr h => ?_)
  · obtain ⟨r, A, U, L, pa, pu, q, ns, x, rfl, _⟩ := h
    rfl
  · obtain ⟨r, A, U, L, pa, pu, q, ns, x, rfl, R, hA, hq, hn, hx, k⟩ := h
    refine ⟨_, pss_cons (ps_for PassesOwn.never rfl (pi_tup (pv 1)) (pg_name (i := 3) sc_in_use.nd rfl (Or.inl rfl))
        (pss_one (ps_if (pt_val (pe_c (c_same T) hr (Nat.le_refl _) rfl (pa_cons (pv 0) (pa_cons (pv 3) (pa_cons (pv 2) pa_nil))))) (pss_one (ps_ret pe_bl)) pss_nil)))
      (pss_one (ps_ret pe_bl)), ?_⟩
    dsimp only [cxOf, Cx.nox, Cx.wish]
    refine q_forTn (ev_var rfl) hq (fun i σ H' => (∃ v, σ = [some (.ref r), some (.ref q), some (.str x), v]) ∧ Ex H H' ∧ inUse A (ns.take i) x = false) (fun H2 e2 => ⟨⟨_, rfl⟩, e2, rfl⟩) (fun i σ H' _ p => ex_t p.2.1 hq) ?_ ?_
    · rintro i y σ' H' hi ⟨⟨v, rfl⟩, e2, ha⟩
      obtain ⟨o, ho, rfl⟩ : ∃ o, ns[i]? = some o ∧ V.str o = y := by
        rw [List.getElem?_map] at hi
        cases q : ns[i]? with
        | none => rw [q] at hi; cases hi
        | some p => rw [q] at hi; exact ⟨p, rfl, Option.some.inj hi⟩
      have R' := R.mono e2
      have hol := hn o (List.mem_of_getElem? ho)
      refine s_when (by walk_at "ev") (fun hc H3 e3 => s_ret ev_c fun H4 e4 => ?_) (fun hc H3 e3 => ⟨⟨_, rfl⟩, e2.trans e3, ?_⟩)
      · have e : inUse A ns x = true := List.any_eq_true.mpr ⟨o, List.mem_of_getElem? ho, hc⟩
        rw [← e]
        exact k H4 ((e2.trans e3).trans e4)
      · unfold inUse at ha ⊢
        rw [List.take_succ, ho, List.any_append, ha]
        simp [hc]
    · rintro σ' H' ⟨⟨v, rfl⟩, e2, ha⟩
      refine s_ret ev_c fun H3 e3 => ?_
      rw [List.length_map, List.take_length] at ha
      rw [← ha]
      exact k H3 (e2.trans e3)
theorem c_fits (T : Txt K mg) : Cal P w K mg base 4 "fits" (spFits K) := by
  obtain ⟨fd, F⟩ := T.f_fits
  refine cal_of F T.g_fits (F.bindsN fun _ _ _ _ _ _ us hl => match us, hl with | [_, _], _ => rfl) sc_fits (fun vs H Q E h => ?_) (fun cdv A₀ outer s H vs Q E hr h => ?_)
  · obtain ⟨r, A, U, L, pa, pu, x, rfl, _⟩ := h
    rfl
  · obtain ⟨r, A, U, L, pa, pu, x, rfl, R, hA, hn, hx, k⟩ := h
    refine ⟨_, pss_one (ps_ret (pe_and (pe_c (c_is_name T) hr (by decide) rfl (pa_cons (pv 1) pa_nil)) (pe_and (pe_cmpR op_le (pe_callB call_len_str (by rfl) T.b_len (by decide +kernel) (pa_cons (pv 1) pa_nil)) (pe_fld (pv 0) rfl) (nomark _))
      (pe_one (pe_not (pe_c (c_inUse T) hr (Nat.le_refl _) rfl (pa_cons (pv 0) (pa_cons (pe_fld (pv 0) rfl) (pa_cons (pv 1) pa_nil))))))))), ?_⟩
    dsimp only [cxOf, Cx.nox, Cx.wish]
    refine s_ret (v := .bl (fitsB A U L x)) ?_ fun H1 e1 => k H1 e1
    have hu := R.un
    have e1 := ev_longest (ta := tVar 0) (σ := [some (.ref r), some (.str x)]) T R (ev_var rfl)
    have e2 := ev_unfit (ta := tVar 0) (σ := [some (.ref r), some (.str x)]) T R (ev_var rfl)
    exact ev_andV (by walk_at "ev") fun _ => ev_andV (ev_op (by walk_at "ev") e1 rv_I0) fun _ => ev_notV (ev_call (ea_cons (ev_var rfl) (ea_cons e2 (ea_cons (ev_var rfl) ea_nil))) (by walk_at "sp"))
end
end K0
end

set_option Elab.async false
set_option linter.all false
set_option maxRecDepth 100000
set_option maxHeartbeats 4000000
section
open PySem PySem.Spec PyProof.Rows L2 Evl Kv
local macro_rules | `(tactic| walk_at "sz") => `(tactic| first | with_reducible assumption | omega)
local macro_rules | `(tactic| walk_at "rv") => `(tactic| first
  | with_reducible exact rv_I0
  | ((with_reducible apply rv_addS); walk_at "sz")
  | ((with_reducible apply rv_mod); walk_at "sz")
  | ((with_reducible apply rv_eq); rfl)
  | ((with_reducible apply rv_ne); rfl)
  | ((with_reducible apply rv_ixS); walk_at "sz"; first | exact L2.atI_nat (by assumption) | rfl)
  | ((with_reducible apply rv_ixT); assumption; rfl)
  | ((with_reducible apply rv_ixL); assumption; rfl))
local macro_rules | `(tactic| walk_at "rc") => `(tactic| first
  | ((with_reducible apply rc_lenS); walk_at "sz")
  | with_reducible exact rc_ord
  | ((with_reducible apply rc_strI); walk_at "sz")
  | with_reducible exact rc_int1
  | with_reducible exact rc_int1b
  | with_reducible exact rc_max
  | ((with_reducible apply rc_lenT); assumption))
local macro_rules | `(tactic| walk_at "ea") => `(tactic| first
  | with_reducible exact ea_nil
  | ((with_reducible apply ea_cons); walk_at "ev"; walk_at "ea"))
local macro_rules | `(tactic| walk_at "ev") => `(tactic| first
  | ((with_reducible apply ev_var); rfl)
  | with_reducible exact ev_c
  | ((with_reducible apply ev_inU); walk_at "ev"; walk_at "eu"; rfl; rfl)
  | ((with_reducible apply ev_niU); walk_at "ev"; walk_at "eu"; rfl; rfl)
  | ((with_reducible apply ev_chain); walk_at "ev"; walk_at "ev"; walk_at "ev")
  | ((with_reducible apply ev_op); walk_at "ev"; walk_at "ev"; walk_at "rv")
  | ((with_reducible apply ev_cb); walk_at "ea"; walk_at "rc")
  | ((with_reducible apply ev_call); walk_at "ea"; walk_at "sp")
  | ((with_reducible apply ev_slS); walk_at "ev"; walk_at "eo"; walk_at "eo"; walk_at "sz")
  | ((with_reducible apply et_test); walk_at "ev")
  | ((with_reducible apply et_B); walk_at "ev")
  | ((with_reducible apply et_not); walk_at "ev")
  | ((with_reducible apply et_and); walk_at "ev"; (intro _; walk_at "ev"))
  | ((with_reducible apply et_or); walk_at "ev"; (intro _; walk_at "ev"))
  | ((with_reducible apply ev_andV); walk_at "ev"; (intro _; walk_at "ev"))
  | ((with_reducible apply ev_orV); walk_at "ev"; (intro _; walk_at "ev"))
  | ((with_reducible apply ev_notV); walk_at "ev"))
local macro_rules | `(tactic| walk_at "eo") => `(tactic| first
  | with_reducible exact eo_none
  | ((with_reducible apply eo_some); walk_at "ev"))
local macro_rules | `(tactic| walk_at "eu") => `(tactic| first
  | ((with_reducible apply eu_tup); walk_at "ea"; (simp only [List.length_cons, List.length_nil]; omega)))
namespace K0
open PySem PySem.Spec PyProof.Rows L2 Evl Kv
/-! ### lengths -/
theorem cutS_len (z : Str) (lo hi : Option Int) : (cutS z lo hi).length ≤ z.length := by
  unfold cutS
  rw [len_tl, len_tl z]
  show (((tl z).drop _).take _).toArray.toList.length ≤ _
  rw [List.toList_toArray, List.length_take, List.length_drop]
  omega
theorem app_len (x y : Str) : (x ++ y).length = x.length + y.length := by
  show (x.cps ++ y.cps).size = _
  rw [Array.size_append] <;> rfl
theorem num_log {i : Int} (h0 : 0 ≤ i) (h : i < 10 ^ 12) : i.natAbs.log2 < 1920 := by
  have h2 : i.natAbs < 2 ^ 1920 := Nat.lt_of_lt_of_le (show i.natAbs < 10 ^ 12 by omega) (by decide)
  by_cases z : i.natAbs = 0
  · rw [z]; decide
  · exact (Nat.log2_lt z).mpr h2
theorem num_len {i : Int} (h0 : 0 ≤ i) (h : i < 10 ^ 12) : (Str.ofString (toString i)).length ≤ 12 := PyProof.Rows.toString_length_le h0 (by decide) h
theorem join_len (y : Str) : ∀ ps : List Str, ps ≠ [] → (ps.map (·.length)).sum + ps.length * y.length = (Str.join y ps).length + y.length
  | [], h => absurd rfl h
  | [p], _ => by
    show (([p.length] : List Nat).sum + 1 * y.length) = p.length + y.length
    simp
  | p :: q :: r, _ => by
    have ih := join_len y (q :: r) (by simp)
    show ((p.length :: (q :: r).map (·.length)).sum + ((q :: r).length + 1) * y.length) = (p ++ y ++ Str.join y (q :: r)).length + y.length
    rw [app_len, app_len, List.sum_cons, Nat.add_mul]
    omega
theorem mem_len (y : Str) : ∀ {ps : List Str} {p : Str}, p ∈ ps → p.length ≤ (ps.map (·.length)).sum
  | q :: r, p, h => by
    rw [List.map_cons, List.sum_cons]
    rcases List.mem_cons.mp h with e | e
    · subst e; omega
    · have := mem_len y e; omega
theorem split_ne (x y : Str) (h : x ≠ Str.empty) : Txt.split x y ≠ [] := fun e => h (by
  have := StrLaws.join_split x y
  rw [e] at this
  exact this.symm)
theorem split_sum (x : Str) (h : x ≠ Str.empty) : ((Txt.split x "/").map (·.length)).sum + (Txt.split x "/").length * 1 = x.length + 1 := by
  have := join_len "/" (Txt.split x "/") (split_ne x "/" h)
  rw [StrLaws.join_split] at this
  exact this
/-! ### the plain functions -/
def pathOf (x : Str) : Option (List Str) := if x = "" then some [] else if (Txt.split x "/").all isName then some (Txt.split x "/") else none
def endS (x : Str) : Str := if (decide (0 < Txt.rfind x ".") && decide ((x.length : Int) - Txt.rfind x "." ≤ 10)) = true then cutS x (some (Txt.rfind x ".")) none else ""
def stemS (x : Str) : Str := cutS x none (some ((x.length : Int) - (endS x).length))
def roomI (L : Int) (x w : Str) : Int := if L - w.length - (endS x).length > 0 then L - w.length - (endS x).length else 0
def withW (L : Int) (x w : Str) : Str := cutS (stemS x) none (some (roomI L x w)) ++ w ++ endS x
@[irreducible] def wordN (a b : Int) : Str := (" (" : Str) ++ Str.ofString (toString a) ++ "-" ++ Str.ofString (toString b) ++ ")"
def copyN (L : Int) (x : Str) (a b k : Int) : Str := withW L x (if k > 0 then wordN a b ++ " " ++ Str.ofString (toString k) else wordN a b)
def numbN (L : Int) (x : Str) (k : Int) : Str := if k = 0 then x else withW L x (" " ++ Str.ofString (toString k))
theorem endS_len (x : Str) : (endS x).length ≤ x.length := by
  unfold endS
  split
  · exact cutS_len _ _ _
  · exact Nat.zero_le _
theorem stemS_len (x : Str) : (stemS x).length ≤ x.length := cutS_len _ _ _
theorem wordN_len {a b : Int} (ha : 0 ≤ a ∧ a < 10 ^ 12) (hb : 0 ≤ b ∧ b < 10 ^ 12) : (wordN a b).length ≤ 28 := by
  unfold wordN
  have h1 := num_len ha.1 ha.2
  have h2 := num_len hb.1 hb.2
  rw [app_len, app_len, app_len, app_len]
  have e1 : (" (" : Str).length = 2 := by decide +kernel
  have e2 : ("-" : Str).length = 1 := by decide +kernel
  have e3 : (")" : Str).length = 1 := by decide +kernel
  omega
/-! ### promises -/
def spPathText (K : PySem.W.Frag) : Sp := fun vs H Q _ => ∃ (p : Addr) (ps : List Str), vs = [.ref p] ∧ SqT K H p (ps.map V.str) ∧ (ps.map (·.length)).sum + ps.length * 1 ≤ 16777216 ∧ RetV (.str (Txt.join "/" ps)) H Q
def RetP (o : Option (List Str)) (H : Hp) (Q : VK) : Prop := match o with
  | none => RetV .non H Q
  | some ps => RetU (ps.map V.str) H Q
def spReadPath : Sp := fun vs H Q _ => ∃ x : Str, vs = [.str x] ∧ x.length ≤ 5000 ∧ RetP (pathOf x) H Q
def spS1 (f : Str → Str) : Sp := fun vs H Q _ => ∃ x : Str, vs = [.str x] ∧ x.length ≤ 5000 ∧ RetV (.str (f x)) H Q
def spWith : Sp := fun vs H Q _ => ∃ (L : Int) (x w : Str), vs = [.int L, .str x, .str w] ∧ x.length ≤ 5000 ∧ w.length ≤ 5000 ∧ RetV (.str (withW L x w)) H Q
def spCopy (K : PySem.W.Frag) : Sp := fun vs H Q _ => ∃ (L : Int) (x : Str) (p : Addr) (a b k : Int), vs = [.int L, .str x, .ref p, .int k] ∧ SqT K H p [.int a, .int b] ∧ x.length ≤ 5000 ∧ (0 ≤ a ∧ a < 10 ^ 12) ∧ (0 ≤ b ∧ b < 10 ^ 12) ∧ (0 ≤ k ∧ k < 10 ^ 12) ∧ RetV (.str (copyN L x a b k)) H Q
def spNumb : Sp := fun vs H Q _ => ∃ (L : Int) (x : Str) (k : Int), vs = [.int L, .str x, .int k] ∧ x.length ≤ 5000 ∧ (0 ≤ k ∧ k < 10 ^ 12) ∧ RetV (.str (numbN L x k)) H Q
section
variable {K : PySem.W.Frag} {H : Hp} {p : Addr} {x w : Str} {L a b k : Int} {ps : List Str} {f : Str → Str}
theorem sv_s1 (h : x.length ≤ 5000) : SpV (spS1 f) ([.str x] ++ []) H (.str (f x)) := fun H1 e Q q E => ⟨x, rfl, h, q⟩
theorem sv_with (h : x.length ≤ 5000) (h2 : w.length ≤ 5000) : SpV spWith ([.int L, .str x, .str w] ++ []) H (.str (withW L x w)) := fun H1 e Q q E => ⟨L, x, w, rfl, h, h2, q⟩
theorem sv_copy (hp : SqT K H p [.int a, .int b]) (h : x.length ≤ 5000) (ha : 0 ≤ a ∧ a < 10 ^ 12) (hb : 0 ≤ b ∧ b < 10 ^ 12) (hk : 0 ≤ k ∧ k < 10 ^ 12) : SpV (spCopy K) ([.int L, .str x, .ref p, .int k] ++ []) H (.str (copyN L x a b k)) :=
  fun H1 e Q q E => ⟨L, x, p, a, b, k, rfl, ex_t e hp, h, ha, hb, hk, q⟩
theorem sv_numb (h : x.length ≤ 5000) (hk : 0 ≤ k ∧ k < 10 ^ 12) : SpV spNumb ([.int L, .str x, .int k] ++ []) H (.str (numbN L x k)) := fun H1 e Q q E => ⟨L, x, k, rfl, h, hk, q⟩
theorem sv_pathText (hp : SqT K H p (ps.map V.str)) (h : (ps.map (·.length)).sum + ps.length * 1 ≤ 16777216) : SpV (spPathText K) ([.ref p] ++ []) H (.str (Txt.join "/" ps)) := fun H1 e Q q E => ⟨p, ps, rfl, ex_t e hp, h, q⟩
end
local macro_rules | `(tactic| walk_at "sp") => `(tactic| ((with_reducible apply sv_isName); walk_at "sz"))
local macro_rules | `(tactic| walk_at "sp") => `(tactic| ((with_reducible apply sv_s1); walk_at "sz"))
local macro_rules | `(tactic| walk_at "sp") => `(tactic| ((with_reducible apply sv_with); walk_at "sz"; walk_at "sz"))
section
variable {P : Program} {w : World} {K : PySem.W.Frag} {mg : Str → Option Value} {base : Heap}
theorem c_pathText (T : Txt K mg) : Cal P w K mg base 1 "path_text" (spPathText K) := by
  obtain ⟨fd, F⟩ := T.f_path_text
  refine cal_of F T.g_path_text (F.bindsN fun _ _ _ _ _ _ us hl => match us, hl with | [_], _ => rfl) sc_path_text (fun vs H Q E h => ?_) (fun cdv A₀ outer s H vs Q E hr h => ?_)
  · obtain ⟨p, ps, rfl, _⟩ := h
    rfl
  · obtain ⟨p, ps, rfl, hp, hz, k⟩ := h
    refine ⟨_, pss_one (ps_ret (pe_join pe_str (pv 0))), ?_⟩
    exact s_ret (ev_joinT ev_c (ev_var rfl) hp hz) fun H1 e1 => k H1 e1
theorem c_readPath (T : Txt K mg) : Cal P w K mg base 2 "read_path" spReadPath := by
  obtain ⟨fd, F⟩ := T.f_read_path
  refine cal_of F T.g_read_path (F.bindsN fun _ _ _ _ _ _ us hl => match us, hl with | [_], _ => rfl) sc_read_path (fun vs H Q E h => ?_) (fun cdv A₀ outer s H vs Q E hr h => ?_)
  · obtain ⟨x, rfl, _⟩ := h
    rfl
  · obtain ⟨x, rfl, hx, k⟩ := h
    refine ⟨_, pss_cons (ps_if (pt_cmpR op_eq (pv 0) pe_str (nomark _)) (pss_one (ps_ret (pe_tup pa_nil))) pss_nil)
      (pss_cons (ps_set (i := 1) sc_read_path.nd rfl (Or.inl rfl) (pe_split (pv 0) pe_str))
      (pss_cons (ps_for PassesOwn.never rfl (pi_list (pv 1)) (pg_name (i := 2) sc_read_path.nd rfl (Or.inl rfl))
        (pss_one (ps_if (pt_not (pt_val (pe_c (c_is_name T) hr (by decide) rfl (pa_cons (pv 2) pa_nil)))) (pss_one (ps_ret pe_non)) pss_nil)))
      (pss_one (ps_ret (pe_callTy call_tuple_of (by rfl) T.b_tuple (by decide +kernel) (pa_cons (pv 1) pa_nil)))))), ?_⟩
    try dsimp only [cxOf, Cx.nox, Cx.wish]
    refine q_when (by walk_at "ev") (fun hb H1 e1 => s_retU (eu_tup ea_nil (by decide)) fun p H2 hp e2 h2 => ?_) (fun hb H1 e1 => ?_)
    · have e : x = "" := by
        have z := of_decide_eq_true hb
        injection z
      have ep : pathOf x = some [] := if_pos e
      rw [ep] at k
      exact RetU.go k e1 hp e2 h2
    · have hne : x ≠ "" := fun e => by
        rw [e] at hb
        simp at hb
      have hsum := split_sum x hne
      refine q_asgL (el_split (ev_var rfl) ev_c (by decide +kernel) (by omega)) fun p H2 hp e2 h2 => ?_
      refine q_forLn (ev_var rfl) (sq_of h2) (fun i σ H' => (∃ v, σ = [some (.str x), some (.ref p), v]) ∧ Ex H2 H' ∧ ((Txt.split x "/").take i).all isName = true) (fun H3 e3 => ⟨⟨_, rfl⟩, e3, rfl⟩) (fun i σ H' _ z => ex_l z.2.1 (sq_of h2)) ?_ ?_
      · rintro i y σ' H' hi ⟨⟨v, rfl⟩, e3, ha⟩
        obtain ⟨o, ho, rfl⟩ : ∃ o, (Txt.split x "/")[i]? = some o ∧ V.str o = y := by
          rw [List.getElem?_map] at hi
          cases q : (Txt.split x "/")[i]? with
          | none => rw [q] at hi; cases hi
          | some p => rw [q] at hi; exact ⟨p, rfl, Option.some.inj hi⟩
        have hol := mem_len "" (List.mem_of_getElem? ho)
        refine s_when (by walk_at "ev") (fun hc H4 e4 => s_ret ev_c fun H5 e5 => ?_) (fun hc H4 e4 => ⟨⟨_, rfl⟩, e3.trans e4, ?_⟩)
        · have e : pathOf x = none := by
            unfold pathOf
            rw [if_neg hne, if_neg fun z => ?_]
            have := List.all_eq_true.mp z o (List.mem_of_getElem? ho)
            rw [this] at hc
            cases hc
          rw [e] at k
          exact k H5 ((((e1.trans e2).trans e3).trans e4).trans e5)
        · rw [List.take_succ, ho, List.all_append, ha]
          have hc' : isName o = true := by simpa using hc
          simp [hc']
      · rintro σ' H' ⟨⟨v, rfl⟩, e3, ha⟩
        rw [List.length_map, List.take_length] at ha
        have e : pathOf x = some (Txt.split x "/") := by
          unfold pathOf
          rw [if_neg hne, if_pos ha]
        rw [e] at k
        exact s_retU (eu_tupL' (ev_var rfl) (ex_l e3 (sq_of h2))) fun q H4 hq e4 h4 => RetU.go k ((e1.trans e2).trans e3) hq e4 h4
theorem c_ending (T : Txt K mg) : Cal P w K mg base 1 "ending" (spS1 endS) := by
  obtain ⟨fd, F⟩ := T.f_ending
  refine cal_of F T.g_ending (F.bindsN fun _ _ _ _ _ _ us hl => match us, hl with | [_], _ => rfl) sc_ending (fun vs H Q E h => ?_) (fun cdv A₀ outer s H vs Q E hr h => ?_)
  · obtain ⟨x, rfl, _⟩ := h
    rfl
  · obtain ⟨x, rfl, hx, k⟩ := h
    refine ⟨_, pss_cons (ps_set (i := 1) sc_ending.nd rfl (Or.inl rfl) (pe_m1 PySem.F.slot_str_rfind PySem.F.type_str_rfind mt_rfind (pv 0) pe_str))
      (pss_cons (ps_if (PW.pt (pw_and (pt_cmpR op_gt (pv 1) pe_int (nomark _)) (pw_and1 (pt_cmpR op_le (pe_op op_sub (pe_callB call_len_str (by rfl) T.b_len (by decide +kernel) (pa_cons (pv 0) pa_nil)) (pv 1)) pe_int (nomark _)))))
        (pss_one (ps_ret (pe_slice sl_str (pv 0) (po_some (pv 1)) po_none))) pss_nil)
      (pss_one (ps_ret pe_str))), ?_⟩
    try dsimp only [cxOf, Cx.nox, Cx.wish]
    refine q_asg (v := .int (Txt.rfind x ".")) (ev_m1 (ev_var rfl) ev_c fun H1 e Q q => ⟨x, ".", rfl, rfl, q⟩) fun H1 e1 => ?_
    refine q_when (by walk_at "ev") (fun hb H2 e2 => s_ret (by walk_at "ev") fun H3 e3 => ?_) (fun hb H2 e2 => s_ret ev_c fun H3 e3 => ?_)
    · have e : endS x = cutS x (some (Txt.rfind x ".")) none := if_pos hb
      rw [← e]
      exact k H3 ((e1.trans e2).trans e3)
    · have e : endS x = "" := if_neg (by rw [hb]; decide)
      rw [← e]
      exact k H3 ((e1.trans e2).trans e3)
theorem c_stem (T : Txt K mg) : Cal P w K mg base 2 "stem" (spS1 stemS) := by
  obtain ⟨fd, F⟩ := T.f_stem
  refine cal_of F T.g_stem (F.bindsN fun _ _ _ _ _ _ us hl => match us, hl with | [_], _ => rfl) sc_stem (fun vs H Q E h => ?_) (fun cdv A₀ outer s H vs Q E hr h => ?_)
  · obtain ⟨x, rfl, _⟩ := h
    rfl
  · obtain ⟨x, rfl, hx, k⟩ := h
    refine ⟨_, pss_one (ps_ret (pe_slice sl_str (pv 0) po_none (po_some (pe_op op_sub (pe_callB call_len_str (by rfl) T.b_len (by decide +kernel) (pa_cons (pv 0) pa_nil))
      (pe_callB call_len_str (by rfl) T.b_len (by decide +kernel) (pa_cons (pe_c (c_ending T) hr (by decide) rfl (pa_cons (pv 0) pa_nil)) pa_nil)))))), ?_⟩
    have h1 := endS_len x
    refine s_ret (v := .str (stemS x)) ?_ fun H1 e1 => k H1 e1
    unfold stemS
    apply ev_slS
    · walk_at "ev"
    · walk_at "eo"
    · apply eo_some
      apply ev_op
      · walk_at "ev"
      · apply ev_cb
        · walk_at "ea"
        · walk_at "rc"
      · walk_at "rv"
    · walk_at "sz"
theorem c_with (T : Txt K mg) : Cal P w K mg base 3 "with_word" spWith := by
  obtain ⟨fd, F⟩ := T.f_with_word
  refine cal_of F T.g_with_word (F.bindsN fun _ _ _ _ _ _ us hl => match us, hl with | [_, _, _], _ => rfl) sc_with_word (fun vs H Q E h => ?_) (fun cdv A₀ outer s H vs Q E hr h => ?_)
  · obtain ⟨L, x, wd, rfl, _⟩ := h
    rfl
  · obtain ⟨L, x, wd, rfl, hx, hw, k⟩ := h
    refine ⟨_, pss_cons (ps_set (i := 3) sc_with_word.nd rfl (Or.inl rfl) (pe_callB (call_max2 rfl) (by rfl) T.b_max (by decide +kernel) (pa_cons pe_int (pa_cons (pe_op op_sub (pe_op op_sub (pv 0) (pe_callB call_len_str (by rfl) T.b_len (by decide +kernel) (pa_cons (pv 2) pa_nil)))
        (pe_callB call_len_str (by rfl) T.b_len (by decide +kernel) (pa_cons (pe_c (c_ending T) hr (by decide) rfl (pa_cons (pv 1) pa_nil)) pa_nil))) pa_nil))))
      (pss_one (ps_ret (pe_op op_add_str (pe_op op_add_str (pe_slice sl_str (pe_c (c_stem T) hr (by decide) rfl (pa_cons (pv 1) pa_nil)) po_none (po_some (pv 3))) (pv 2)) (pe_c (c_ending T) hr (by decide) rfl (pa_cons (pv 1) pa_nil))))), ?_⟩
    have h1 := endS_len x
    have h2 := stemS_len x
    have h3 := cutS_len (stemS x) none (some (roomI L x wd))
    have h4 := app_len (cutS (stemS x) none (some (roomI L x wd))) wd
    refine q_asg (v := .int (roomI L x wd)) (by unfold roomI; walk_at "ev") fun H1 e1 => ?_
    exact s_ret (v := .str (withW L x wd)) (by unfold withW; walk_at "ev") fun H2 e2 => k H2 (e1.trans e2)
end
end K0
end

set_option Elab.async false
set_option linter.all false
set_option maxRecDepth 100000
set_option maxHeartbeats 1000000
section
open PySem PySem.Spec PyProof.Rows L2 Evl Kv
local macro_rules | `(tactic| walk_at "sz") => `(tactic| first | with_reducible assumption | omega)
local macro_rules | `(tactic| walk_at "rv") => `(tactic| first
  | with_reducible exact rv_I0
  | ((with_reducible apply rv_addS); walk_at "sz")
  | ((with_reducible apply rv_mod); walk_at "sz")
  | ((with_reducible apply rv_eq); rfl)
  | ((with_reducible apply rv_ne); rfl)
  | ((with_reducible apply rv_ixS); walk_at "sz"; first | exact L2.atI_nat (by assumption) | rfl)
  | ((with_reducible apply rv_ixT); assumption; rfl)
  | ((with_reducible apply rv_ixL); assumption; rfl))
local macro_rules | `(tactic| walk_at "rc") => `(tactic| first
  | ((with_reducible apply rc_lenS); walk_at "sz")
  | with_reducible exact rc_ord
  | ((with_reducible apply rc_strI); walk_at "sz")
  | with_reducible exact rc_int1
  | with_reducible exact rc_int1b
  | with_reducible exact rc_max
  | ((with_reducible apply rc_lenT); assumption))
local macro_rules | `(tactic| walk_at "ea") => `(tactic| first
  | with_reducible exact ea_nil
  | ((with_reducible apply ea_cons); walk_at "ev"; walk_at "ea"))
local macro_rules | `(tactic| walk_at "ev") => `(tactic| first
  | ((with_reducible apply ev_var); rfl)
  | with_reducible exact ev_c
  | ((with_reducible apply ev_inU); walk_at "ev"; walk_at "eu"; rfl; rfl)
  | ((with_reducible apply ev_niU); walk_at "ev"; walk_at "eu"; rfl; rfl)
  | ((with_reducible apply ev_chain); walk_at "ev"; walk_at "ev"; walk_at "ev")
  | ((with_reducible apply ev_op); walk_at "ev"; walk_at "ev"; walk_at "rv")
  | ((with_reducible apply ev_cb); walk_at "ea"; walk_at "rc")
  | ((with_reducible apply ev_call); walk_at "ea"; walk_at "sp")
  | ((with_reducible apply ev_slS); walk_at "ev"; walk_at "eo"; walk_at "eo"; walk_at "sz")
  | ((with_reducible apply et_test); walk_at "ev")
  | ((with_reducible apply et_B); walk_at "ev")
  | ((with_reducible apply et_not); walk_at "ev")
  | ((with_reducible apply et_and); walk_at "ev"; (intro _; walk_at "ev"))
  | ((with_reducible apply et_or); walk_at "ev"; (intro _; walk_at "ev"))
  | ((with_reducible apply ev_andV); walk_at "ev"; (intro _; walk_at "ev"))
  | ((with_reducible apply ev_orV); walk_at "ev"; (intro _; walk_at "ev"))
  | ((with_reducible apply ev_notV); walk_at "ev"))
local macro_rules | `(tactic| walk_at "eo") => `(tactic| first
  | with_reducible exact eo_none
  | ((with_reducible apply eo_some); walk_at "ev"))
local macro_rules | `(tactic| walk_at "eu") => `(tactic| first
  | ((with_reducible apply eu_tup); walk_at "ea"; (simp only [List.length_cons, List.length_nil]; omega)))
namespace K0
open PySem PySem.Spec PyProof.Rows L2 Evl Kv
local macro_rules | `(tactic| walk_at "sp") => `(tactic| ((with_reducible apply sv_s1); walk_at "sz"))
local macro_rules | `(tactic| walk_at "sp") => `(tactic| ((with_reducible apply sv_with); walk_at "sz"; walk_at "sz"))
section
variable {P : Program} {w : World} {K : PySem.W.Frag} {mg : Str → Option Value} {base : Heap}
theorem lits : (" (" : Str).length = 2 ∧ ("-" : Str).length = 1 ∧ (")" : Str).length = 1 ∧ (" " : Str).length = 1 := by decide +kernel
theorem sum5 {x y z u v : Str} {n m : Nat} (h1 : y.length ≤ n) (h2 : u.length ≤ m) (hx : x.length = 2) (hz : z.length = 1) (hv : v.length = 1) (hn : n ≤ 12) (hm : m ≤ 12) :
    x.length + y.length ≤ 100000 ∧ (x ++ y).length + z.length ≤ 100000 ∧ (x ++ y ++ z).length + u.length ≤ 100000 ∧ (x ++ y ++ z ++ u).length + v.length ≤ 100000 := by
  simp only [app_len]
  omega
theorem sum3 {x z u : Str} {n m : Nat} (h1 : x.length ≤ n) (h2 : u.length ≤ m) (hz : z.length = 1) (hn : n ≤ 28) (hm : m ≤ 12) :
    x.length + z.length ≤ 100000 ∧ (x ++ z).length + u.length ≤ 100000 ∧ (x ++ z ++ u).length ≤ 5000 ∧ x.length ≤ 5000 ∧ z.length + u.length ≤ 100000 ∧ (z ++ u).length ≤ 5000 := by
  simp only [app_len]
  omega
theorem c_copy (T : Txt K mg) : Cal P w K mg base 4 "copy_name" (spCopy K) := by
  obtain ⟨fd, F⟩ := T.f_copy_name
  refine cal_of F T.g_copy_name (F.bindsN fun _ _ _ _ _ _ us hl => match us, hl with | [_, _, _, _], _ => rfl) sc_copy_name (fun vs H Q E h => ?_) (fun cdv A₀ outer s H vs Q E hr h => ?_)
  · obtain ⟨L, x, p, a, b, kk, rfl, _⟩ := h
    rfl
  · obtain ⟨L, x, p, a, b, kk, rfl, hp, hx, ha, hb, hk, k⟩ := h
    refine ⟨_, pss_cons (ps_set (i := 4) sc_copy_name.nd rfl (Or.inl rfl) (pe_op op_add_str (pe_op op_add_str (pe_op op_add_str (pe_op op_add_str pe_str (pe_callTy call_str_int (by rfl) T.b_str (by decide +kernel) (pa_cons (pe_ix ix_tup (pv 2) pe_int (fun _ _ => rfl)) pa_nil))) pe_str)
        (pe_callTy call_str_int (by rfl) T.b_str (by decide +kernel) (pa_cons (pe_ix ix_tup (pv 2) pe_int (fun _ _ => rfl)) pa_nil))) pe_str))
      (pss_cons (ps_if (pt_cmpR op_gt (pv 3) pe_int (nomark _)) (pss_one (ps_set (i := 4) sc_copy_name.nd rfl (Or.inl rfl) (pe_op op_add_str (pe_op op_add_str (pv 4) pe_str) (pe_callTy call_str_int (by rfl) T.b_str (by decide +kernel) (pa_cons (pv 3) pa_nil))))) pss_nil)
      (pss_one (ps_ret (pe_c (c_with T) hr (by decide) rfl (pa_cons (pv 0) (pa_cons (pv 1) (pa_cons (pv 4) pa_nil))))))), ?_⟩
    try dsimp only [cxOf, Cx.nox, Cx.wish]
    have na := num_log ha.1 ha.2
    have nb := num_log hb.1 hb.2
    have nk := num_log hk.1 hk.2
    obtain ⟨t1, t2, t3, t4⟩ := lits
    obtain ⟨g1, g2, g3, g4⟩ := sum5 (num_len ha.1 ha.2) (num_len hb.1 hb.2) t1 t2 t3 (Nat.le_refl _) (Nat.le_refl _)
    obtain ⟨g5, g6, g7, g8, _⟩ := sum3 (wordN_len ha hb) (num_len hk.1 hk.2) t4 (Nat.le_refl _) (Nat.le_refl _)
    clear t1 t2 t3 t4
    refine q_asg (v := .str (wordN a b)) (by unfold wordN; walk_at "ev") fun H1 e1 => ?_
    refine q_when (b := decide (0 < kk)) (by walk_at "ev") (fun hc H2 e2 => ?_) (fun hc H2 e2 => ?_)
    · refine s_asg (v := .str (wordN a b ++ " " ++ Str.ofString (toString kk))) (by walk_at "ev") fun H3 e3 => ?_
      dsimp only
      refine s_ret (by walk_at "ev") fun H4 e4 => ?_
      have e : copyN L x a b kk = withW L x (wordN a b ++ " " ++ Str.ofString (toString kk)) := by
        unfold copyN
        rw [if_pos (of_decide_eq_true hc)]
      rw [← e]
      exact k H4 (((e1.trans e2).trans e3).trans e4)
    · refine s_ret (by walk_at "ev") fun H4 e4 => ?_
      have e : copyN L x a b kk = withW L x (wordN a b) := by
        unfold copyN
        rw [if_neg (of_decide_eq_false hc)]
      rw [← e]
      exact k H4 ((e1.trans e2).trans e4)
theorem c_numb (T : Txt K mg) : Cal P w K mg base 4 "numbered_name" spNumb := by
  obtain ⟨fd, F⟩ := T.f_numbered_name
  refine cal_of F T.g_numbered_name (F.bindsN fun _ _ _ _ _ _ us hl => match us, hl with | [_, _, _], _ => rfl) sc_numbered_name (fun vs H Q E h => ?_) (fun cdv A₀ outer s H vs Q E hr h => ?_)
  · obtain ⟨L, x, kk, rfl, _⟩ := h
    rfl
  · obtain ⟨L, x, kk, rfl, hx, hk, k⟩ := h
    refine ⟨_, pss_cons (ps_if (pt_cmpR op_eq (pv 2) pe_int (nomark _)) (pss_one (ps_ret (pv 1))) pss_nil)
      (pss_one (ps_ret (pe_c (c_with T) hr (by decide) rfl (pa_cons (pv 0) (pa_cons (pv 1) (pa_cons (pe_op op_add_str pe_str (pe_callTy call_str_int (by rfl) T.b_str (by decide +kernel) (pa_cons (pv 2) pa_nil))) pa_nil)))))), ?_⟩
    try dsimp only [cxOf, Cx.nox, Cx.wish]
    have nk := num_log hk.1 hk.2
    obtain ⟨_, _, _, _, g5, g6⟩ := sum3 (x := "") (Nat.zero_le 28) (num_len hk.1 hk.2) lits.2.2.2 (Nat.le_refl _) (Nat.le_refl _)
    refine q_when (by walk_at "ev") (fun hc H2 e2 => s_ret (ev_var rfl) fun H3 e3 => ?_) (fun hc H2 e2 => s_ret (by walk_at "ev") fun H3 e3 => ?_)
    · have e : numbN L x kk = x := if_pos (by have := of_decide_eq_true hc; injection this)
      have k' := k H3 (e2.trans e3)
      rw [e] at k'
      exact k'
    · have e : numbN L x kk = withW L x (" " ++ Str.ofString (toString kk)) := if_neg fun z => of_decide_eq_false hc (by rw [z])
      rw [← e]
      exact k H3 (e2.trans e3)
end
end K0
end

set_option Elab.async false
set_option linter.all false
set_option maxRecDepth 100000
set_option maxHeartbeats 1000000
section
open PySem PySem.Spec PyProof.Rows L2 Evl Kv
local macro_rules | `(tactic| walk_at "sz") => `(tactic| first | with_reducible assumption | omega)
local macro_rules | `(tactic| walk_at "rv") => `(tactic| first
  | with_reducible exact rv_I0
  | ((with_reducible apply rv_addS); walk_at "sz")
  | ((with_reducible apply rv_mod); walk_at "sz")
  | ((with_reducible apply rv_eq); rfl)
  | ((with_reducible apply rv_ne); rfl)
  | ((with_reducible apply rv_ixS); walk_at "sz"; first | exact L2.atI_nat (by assumption) | rfl)
  | ((with_reducible apply rv_ixT); assumption; rfl)
  | ((with_reducible apply rv_ixL); assumption; rfl))
local macro_rules | `(tactic| walk_at "rc") => `(tactic| first
  | ((with_reducible apply rc_lenS); walk_at "sz")
  | with_reducible exact rc_ord
  | ((with_reducible apply rc_strI); walk_at "sz")
  | with_reducible exact rc_int1
  | with_reducible exact rc_int1b
  | with_reducible exact rc_max
  | ((with_reducible apply rc_lenT); assumption))
local macro_rules | `(tactic| walk_at "ea") => `(tactic| first
  | with_reducible exact ea_nil
  | ((with_reducible apply ea_cons); walk_at "ev"; walk_at "ea"))
local macro_rules | `(tactic| walk_at "ev") => `(tactic| first
  | ((with_reducible apply ev_var); rfl)
  | with_reducible exact ev_c
  | ((with_reducible apply ev_inU); walk_at "ev"; walk_at "eu"; rfl; rfl)
  | ((with_reducible apply ev_niU); walk_at "ev"; walk_at "eu"; rfl; rfl)
  | ((with_reducible apply ev_chain); walk_at "ev"; walk_at "ev"; walk_at "ev")
  | ((with_reducible apply ev_op); walk_at "ev"; walk_at "ev"; walk_at "rv")
  | ((with_reducible apply ev_cb); walk_at "ea"; walk_at "rc")
  | ((with_reducible apply ev_call); walk_at "ea"; walk_at "sp")
  | ((with_reducible apply ev_slS); walk_at "ev"; walk_at "eo"; walk_at "eo"; walk_at "sz")
  | ((with_reducible apply et_test); walk_at "ev")
  | ((with_reducible apply et_B); walk_at "ev")
  | ((with_reducible apply et_not); walk_at "ev")
  | ((with_reducible apply et_and); walk_at "ev"; (intro _; walk_at "ev"))
  | ((with_reducible apply et_or); walk_at "ev"; (intro _; walk_at "ev"))
  | ((with_reducible apply ev_andV); walk_at "ev"; (intro _; walk_at "ev"))
  | ((with_reducible apply ev_orV); walk_at "ev"; (intro _; walk_at "ev"))
  | ((with_reducible apply ev_notV); walk_at "ev"))
local macro_rules | `(tactic| walk_at "eo") => `(tactic| first
  | with_reducible exact eo_none
  | ((with_reducible apply eo_some); walk_at "ev"))
local macro_rules | `(tactic| walk_at "eu") => `(tactic| first
  | ((with_reducible apply eu_tup); walk_at "ea"; (simp only [List.length_cons, List.length_nil]; omega)))
namespace Kv
open PySem PySem.Spec PyProof.Rows L2 Evl
/-! ### data: what a value holds, carried over heaps -/
/-- all that was tracked but what stands at d is as it was -/
def Mv (d : Addr) (H H' : Hp) : Prop := ∀ b o, H b = some o → b ≠ d → H' b = some o
theorem Mv.refl (d : Addr) (H : Hp) : Mv d H H := fun _ _ h _ => h
theorem Mv.of {d : Addr} {H H' : Hp} (e : Ex H H') : Mv d H H' := fun b o h _ => e b o h
theorem Mv.trans {d : Addr} {H H1 H2 : Hp} (a : Mv d H H1) (b : Mv d H1 H2) : Mv d H H2 := fun c o h n => b c o (a c o h n) n
theorem Mv.ex {d : Addr} {H H1 H2 : Hp} (a : Mv d H H1) (b : Ex H1 H2) : Mv d H H2 := a.trans (.of b)
theorem Mv.upd {d : Addr} {H : Hp} {o : HO} : Mv d H (upd H d o) := fun b u h n => by rw [upd_ne n]; exact h
theorem Mv.ne {d b : Addr} {H : Hp} {kvs : List (Key × V)} {u : HO} (hd : H d = some (.dK kvs)) (h : H b = some u) (n : ∀ k, u ≠ .dK k) : b ≠ d := fun e => by
  subst e
  rw [hd] at h
  cases h
  exact n _ rfl
theorem Mv.rd {d b : Addr} {H H' : Hp} {kvs : List (Key × V)} {u : HO} (m : Mv d H H') (hd : H d = some (.dK kvs)) (n : ∀ k, u ≠ .dK k) (h : Rd H b u) : Rd H' b u := by
  rcases h with h | ⟨o, h⟩
  · exact .inl (m _ _ h (Mv.ne hd h n))
  · exact .inr ⟨o, m _ _ h (Mv.ne hd h (by intro k z; cases z))⟩
theorem Mv.sqt {K : PySem.W.Frag} {d a : Addr} {H H' : Hp} {kvs : List (Key × V)} {xs : List V} (m : Mv d H H') (hd : H d = some (.dK kvs)) (h : SqT K H a xs) : SqT K H' a xs := by
  rcases h with h | h
  · exact .inl (m.rd hd (by intro k z; cases z) h)
  · exact .inr h
theorem Mv.sql {K : PySem.W.Frag} {d a : Addr} {H H' : Hp} {kvs : List (Key × V)} {xs : List V} (m : Mv d H H') (hd : H d = some (.dK kvs)) (h : SqL K H a xs) : SqL K H' a xs := by
  rcases h with h | h
  · exact .inl (m.rd hd (by intro k z; cases z) h)
  · exact .inr h
mutual
theorem dp_map {K : PySem.W.Frag} {H H' : Hp} (tl : ∀ a xs, SqL K H a xs → SqL K H' a xs) (tt : ∀ a xs, SqT K H a xs → SqT K H' a xs) : ∀ {d : PyData} {v : V}, Dp K H v d → Dp K H' v d
  | .none, _, h => by cases h; exact .non
  | .bool b, _, h => by cases h; exact .bl b
  | .int i, _, h => by cases h; exact .int i
  | .str x, _, h => by cases h; exact .str x
  | .list ds, _, h => by
    cases h with
    | lst a b => exact .lst (tl _ _ a) (dpa_map tl tt b)
  | .tuple ds, _, h => by
    cases h with
    | tup a b => exact .tup (tt _ _ a) (dpa_map tl tt b)
  | .dict _, _, h => by cases h
theorem dpa_map {K : PySem.W.Frag} {H H' : Hp} (tl : ∀ a xs, SqL K H a xs → SqL K H' a xs) (tt : ∀ a xs, SqT K H a xs → SqT K H' a xs) : ∀ {ds : List PyData} {vs : List V}, DpAll K H vs ds → DpAll K H' vs ds
  | [], _, h => by cases h; exact .nil
  | d :: ds, _, h => by
    cases h with
    | cons a b => exact .cons (dp_map tl tt a) (dpa_map tl tt b)
end
section
variable {K : PySem.W.Frag} {σ : L2.St} {H H' : Hp} {te ta : TE} {v : V} {d : PyData} {ds : List PyData} {vs : List V}
theorem dp_ex (e : Ex H H') (h : Dp K H v d) : Dp K H' v d := dp_map (fun _ _ => ex_l e) (fun _ _ => ex_t e) h
theorem dpa_ex (e : Ex H H') (h : DpAll K H vs ds) : DpAll K H' vs ds := dpa_map (fun _ _ => ex_l e) (fun _ _ => ex_t e) h
theorem dp_mv {c : Addr} {kvs : List (Key × V)} (m : Mv c H H') (hc : H c = some (.dK kvs)) (h : Dp K H v d) : Dp K H' v d := dp_map (fun _ _ => m.sql hc) (fun _ _ => m.sqt hc) h
theorem dp_str {x : Str} (h : Dp K H v (.str x)) : v = .str x := by cases h; rfl
theorem dp_int {x : Int} (h : Dp K H v (.int x)) : v = .int x := by cases h; rfl
theorem dp_bl {x : Bool} (h : Dp K H v (.bool x)) : v = .bl x := by cases h; rfl
theorem dp_tup (h : Dp K H v (.tuple ds)) : ∃ a vs, v = .ref a ∧ SqT K H a vs ∧ DpAll K H vs ds := by
  cases h with
  | tup a b => exact ⟨_, _, rfl, a, b⟩
theorem dpa_strs : ∀ {xs : List Str} {vs : List V}, DpAll K H vs (xs.map PyData.str) → vs = xs.map V.str
  | [], _, h => by cases h; rfl
  | x :: xs, _, h => by
    cases h with
    | cons a b => rw [dp_str a, dpa_strs b]; rfl
theorem dpa_of_strs : ∀ (xs : List Str), DpAll K H (xs.map V.str) (xs.map PyData.str)
  | [] => .nil
  | x :: xs => .cons (.str x) (dpa_of_strs xs)
/-- the i-th datum -/
theorem dpa_get : ∀ {ds : List PyData} {vs : List V} {i : Nat} {d : PyData}, DpAll K H vs ds → ds[i]? = some d → ∃ v, vs[i]? = some v ∧ Dp K H v d
  | _, _, 0, _, .cons a _, e => by
    simp at e
    subst e
    exact ⟨_, rfl, a⟩
  | _, _, i + 1, _, .cons _ b, e => by
    obtain ⟨v, h1, h2⟩ := dpa_get (i := i) b (by simpa using e)
    exact ⟨v, by simpa using h1, h2⟩
theorem dpa_len : ∀ {ds : List PyData} {vs : List V}, DpAll K H vs ds → vs.length = ds.length
  | _, _, .nil => rfl
  | _, _, .cons _ b => congrArg Nat.succ (dpa_len b)
/-- an expression, arguments, evaluate to data -/
def EvD (K : PySem.W.Frag) (te : TE) (σ : L2.St) (H : Hp) (d : PyData) : Prop := ∀ H1, Ex H H1 → ∀ Q : VK, (∀ v H2, Ex H1 H2 → Dp K H2 v d → Q v H2) → te σ H1 Q
def EvDs (K : PySem.W.Frag) (ta : TA) (σ : L2.St) (H : Hp) (ds : List PyData) : Prop := ∀ H1, Ex H H1 → ∀ Q : List V → Hp → Prop, (∀ vs H2, Ex H1 H2 → DpAll K H2 vs ds → Q vs H2) → ta σ H1 Q
theorem ed_int {i : Int} : EvD K (tC (.int i)) σ H (.int i) := fun H1 _ _ q => q _ H1 (Ex.refl H1) (.int i)
theorem ed_str {x : Str} : EvD K (tC (.str x)) σ H (.str x) := fun H1 _ _ q => q _ H1 (Ex.refl H1) (.str x)
theorem ed_bl {x : Bool} : EvD K (tC (.bl x)) σ H (.bool x) := fun H1 _ _ q => q _ H1 (Ex.refl H1) (.bl x)
theorem ed_non : EvD K (tC .non) σ H .none := fun H1 _ _ q => q _ H1 (Ex.refl H1) .non
theorem ed_of (h : Ev te σ H v) (hd : Dp K H v d) : EvD K te σ H d := fun H1 e _ q => h H1 e _ fun H2 e2 => q _ H2 e2 (dp_ex (e.trans e2) hd)
theorem ed_nil : EvDs K tNil σ H [] := fun H1 _ _ q => q _ H1 (Ex.refl H1) .nil
theorem ed_cons {tr : TA} (h : EvD K te σ H d) (hr : EvDs K tr σ H ds) : EvDs K (tCons te tr) σ H (d :: ds) := fun H1 e _ q =>
  h H1 e _ fun v H2 e2 hv => hr H2 (e.trans e2) _ fun vs H3 e3 hvs => q _ H3 (e2.trans e3) (.cons (dp_ex e3 hv) hvs)
theorem ed_tup {ta : TA} (h : EvDs K ta σ H ds) (hl : ds.length ≤ 100000) : EvD K (tTup ta) σ H (.tuple ds) := fun H1 e _ q =>
  h H1 e _ fun vs H2 e2 hvs => ⟨sz_of (by rw [dpa_len hvs]; exact hl), fun p hp => q _ _ (e2.trans (Ex.new hp)) (.tup (st_of upd_same) (dpa_ex (Ex.new hp) hvs))⟩
theorem ed_lst {ta : TA} (h : EvDs K ta σ H ds) (hl : ds.length ≤ 100000) : EvD K (tLst ta) σ H (.list ds) := fun H1 e _ q =>
  h H1 e _ fun vs H2 e2 hvs => ⟨sz_of (by rw [dpa_len hvs]; exact hl), fun p hp => q _ _ (e2.trans (Ex.new hp)) (.lst (sq_of upd_same) (dpa_ex (Ex.new hp) hvs))⟩
end
/-! ### the law's stream: a dict with a list of cells -/
def strK (l : Addr) (a r m : Int) : List (Key × V) := [(Sum.inr "cells", .ref l), (Sum.inr "at", .int a), (Sum.inr "rest", .int r), (Sum.inr "mixed", .int m)]
structure StreamAt (H : Hp) (d l : Addr) : Prop where
  ex : ∃ (a r m : Int) (cs : List Int), H d = some (.dK (strK l a r m)) ∧ 0 ≤ a ∧ 0 ≤ r ∧ H l = some (.lst (cs.map V.int)) ∧ cs.length ≤ 63
theorem StreamAt.dk {H : Hp} {d l : Addr} (S : StreamAt H d l) : ∃ kvs, H d = some (.dK kvs) := let ⟨_, _, _, _, h, _⟩ := S.ex; ⟨_, h⟩
theorem StreamAt.ex' {H H' : Hp} {d l : Addr} (S : StreamAt H d l) (e : Ex H H') : StreamAt H' d l := by
  obtain ⟨a, r, m, cs, h, ha, hr, hl, hz⟩ := S.ex
  exact ⟨a, r, m, cs, e _ _ h, ha, hr, e _ _ hl, hz⟩
theorem StreamAt.free {H : Hp} {d l p : Addr} (S : StreamAt H d l) (h : H p = none) : p ≠ d ∧ p ≠ l := by
  obtain ⟨a, r, m, cs, h1, ha, hr, hl, hz⟩ := S.ex
  exact ⟨fun e => (by rw [e, h1] at h; cases h), fun e => (by rw [e, hl] at h; cases h)⟩
theorem StreamAt.put {H : Hp} {d l p : Addr} {o : HO} (S : StreamAt H d l) (h1 : p ≠ d) (h2 : p ≠ l) : StreamAt (upd H p o) d l := by
  obtain ⟨a, r, m, cs, h, ha, hr, hl, hz⟩ := S.ex
  exact ⟨a, r, m, cs, by rw [upd_ne h1.symm]; exact h, ha, hr, by rw [upd_ne h2.symm]; exact hl, hz⟩
theorem kne : ¬ (("cells" : Str) = "at") ∧ ¬ (("cells" : Str) = "rest") ∧ ¬ (("cells" : Str) = "mixed") ∧ ¬ (("at" : Str) = "rest") ∧ ¬ (("at" : Str) = "mixed") ∧ ¬ (("rest" : Str) = "mixed") := by decide +kernel
theorem knr {x y : Str} (h : ¬ x = y) : ¬ (Sum.inr x : Key) = Sum.inr y := fun e => h (Sum.inr.inj e)
section
variable {l : Addr} {a r m z : Int}
theorem sk_cells : valV (strK l a r m) (Sum.inr "cells" : Key) = some (.ref l) := valV_pos rfl
theorem sk_at : valV (strK l a r m) (Sum.inr "at" : Key) = some (.int a) := by
  obtain ⟨h1, h2, h3, h4, h5, h6⟩ := kne
  unfold strK
  rw [valV_neg (knr h1), valV_pos rfl]
theorem sk_rest : valV (strK l a r m) (Sum.inr "rest" : Key) = some (.int r) := by
  obtain ⟨h1, h2, h3, h4, h5, h6⟩ := kne
  unfold strK
  rw [valV_neg (knr h2), valV_neg (knr h4), valV_pos rfl]
theorem sk_mixed : valV (strK l a r m) (Sum.inr "mixed" : Key) = some (.int m) := by
  obtain ⟨h1, h2, h3, h4, h5, h6⟩ := kne
  unfold strK
  rw [valV_neg (knr h3), valV_neg (knr h5), valV_neg (knr h6), valV_pos rfl]
theorem sp_at : putK (strK l a r m) (Sum.inr "at" : Key) (.int z) = strK l z r m := by
  obtain ⟨h1, h2, h3, h4, h5, h6⟩ := kne
  have g1 := knr h1
  have g4 := knr (x := "rest") (y := "at") fun e => h4 e.symm
  have g5 := knr (x := "mixed") (y := "at") fun e => h5 e.symm
  unfold putK strK
  simp [g1, g4, g5]
theorem sp_rest : putK (strK l a r m) (Sum.inr "rest" : Key) (.int z) = strK l a z m := by
  obtain ⟨h1, h2, h3, h4, h5, h6⟩ := kne
  have g1 := knr h2
  have g4 := knr h4
  have g5 := knr (x := "mixed") (y := "rest") fun e => h6 e.symm
  unfold putK strK
  simp [g1, g4, g5]
theorem sp_mixed : putK (strK l a r m) (Sum.inr "mixed" : Key) (.int z) = strK l a r z := by
  obtain ⟨h1, h2, h3, h4, h5, h6⟩ := kne
  have g1 := knr h3
  have g4 := knr h5
  have g5 := knr h6
  unfold putK strK
  simp [g1, g4, g5]
end
section
variable {σ : L2.St} {H : Hp} {td ty tv : TE} {d : Addr} {kvs : List (Key × V)} {k : Key} {v : V} {D : Ends} {tz : TS}
theorem ev_dget (h : Ev td σ H (.ref d)) (hk : Ev ty σ H (kV k)) (hd : H d = some (.dK kvs)) (hv : valV kvs k = some v) : Ev (tDGet td ty) σ H v := fun H1 e Q q =>
  h H1 e _ fun H2 e2 => hk H2 (e.trans e2) _ fun H3 e3 => ⟨d, v, rfl, by
    have z := DGet.k (k := k) (((e.trans e2).trans e3) _ _ hd)
    rw [hv] at z
    exact z, q H3 (e2.trans e3)⟩
theorem s_dput (h : Ev tv σ H v) (hd : Ev td σ H (.ref d)) (hk : Ev ty σ H (kV k)) (ho : H d = some (.dK kvs)) (hl : kvs.length ≤ 1000) (q : ∀ H1, Ex H H1 → D.nx σ (upd H1 d (.dK (putK kvs k v)))) : sDPut td ty tv D σ H :=
  h H (Ex.refl H) _ fun H1 e1 => hd H1 e1 _ fun H2 e2 => hk H2 (e1.trans e2) _ fun H3 e3 => ⟨d, _, rfl, DPut.k (k := k) (((e1.trans e2).trans e3) _ _ ho) (small1000 hl), q H3 ((e1.trans e2).trans e3)⟩
theorem q_dput (h : Ev tv σ H v) (hd : Ev td σ H (.ref d)) (hk : Ev ty σ H (kV k)) (ho : H d = some (.dK kvs)) (hl : kvs.length ≤ 1000) (q : ∀ H1, Ex H H1 → tz D σ (upd H1 d (.dK (putK kvs k v)))) : tSeq (sDPut td ty tv) tz D σ H :=
  s_dput (D := { D with nx := tz D }) h hd hk ho hl q
end
end Kv
end

set_option Elab.async false
set_option linter.all false
set_option maxRecDepth 100000
set_option maxHeartbeats 1000000
section
open PySem PySem.Spec PyProof.Rows L2 Evl Kv
local macro_rules | `(tactic| walk_at "sz") => `(tactic| first | with_reducible assumption | omega)
local macro_rules | `(tactic| walk_at "rv") => `(tactic| first
  | with_reducible exact rv_I0
  | ((with_reducible apply rv_addS); walk_at "sz")
  | ((with_reducible apply rv_mod); walk_at "sz")
  | ((with_reducible apply rv_eq); rfl)
  | ((with_reducible apply rv_ne); rfl)
  | ((with_reducible apply rv_ixS); walk_at "sz"; first | exact L2.atI_nat (by assumption) | rfl)
  | ((with_reducible apply rv_ixT); assumption; rfl)
  | ((with_reducible apply rv_ixL); assumption; rfl))
local macro_rules | `(tactic| walk_at "rc") => `(tactic| first
  | ((with_reducible apply rc_lenS); walk_at "sz")
  | with_reducible exact rc_ord
  | ((with_reducible apply rc_strI); walk_at "sz")
  | with_reducible exact rc_int1
  | with_reducible exact rc_int1b
  | with_reducible exact rc_max
  | ((with_reducible apply rc_lenT); assumption))
local macro_rules | `(tactic| walk_at "ea") => `(tactic| first
  | with_reducible exact ea_nil
  | ((with_reducible apply ea_cons); walk_at "ev"; walk_at "ea"))
local macro_rules | `(tactic| walk_at "ev") => `(tactic| first
  | ((with_reducible apply ev_var); rfl)
  | with_reducible exact ev_c
  | ((with_reducible apply ev_inU); walk_at "ev"; walk_at "eu"; rfl; rfl)
  | ((with_reducible apply ev_niU); walk_at "ev"; walk_at "eu"; rfl; rfl)
  | ((with_reducible apply ev_chain); walk_at "ev"; walk_at "ev"; walk_at "ev")
  | ((with_reducible apply ev_op); walk_at "ev"; walk_at "ev"; walk_at "rv")
  | ((with_reducible apply ev_cb); walk_at "ea"; walk_at "rc")
  | ((with_reducible apply ev_call); walk_at "ea"; walk_at "sp")
  | ((with_reducible apply ev_slS); walk_at "ev"; walk_at "eo"; walk_at "eo"; walk_at "sz")
  | ((with_reducible apply et_test); walk_at "ev")
  | ((with_reducible apply et_B); walk_at "ev")
  | ((with_reducible apply et_not); walk_at "ev")
  | ((with_reducible apply et_and); walk_at "ev"; (intro _; walk_at "ev"))
  | ((with_reducible apply et_or); walk_at "ev"; (intro _; walk_at "ev"))
  | ((with_reducible apply ev_andV); walk_at "ev"; (intro _; walk_at "ev"))
  | ((with_reducible apply ev_orV); walk_at "ev"; (intro _; walk_at "ev"))
  | ((with_reducible apply ev_notV); walk_at "ev"))
local macro_rules | `(tactic| walk_at "eo") => `(tactic| first
  | with_reducible exact eo_none
  | ((with_reducible apply eo_some); walk_at "ev"))
local macro_rules | `(tactic| walk_at "eu") => `(tactic| first
  | ((with_reducible apply eu_tup); walk_at "ea"; (simp only [List.length_cons, List.length_nil]; omega)))
namespace K0
open PySem PySem.Spec PyProof.Rows L2 Evl Kv
local macro_rules | `(tactic| walk_at "rv") => `(tactic| ((with_reducible refine rv_I (C := CMul) ?_); first | exact .inr ⟨by decide, by decide⟩ | exact .inl ⟨by decide, by decide⟩ | exact .inl ⟨by omega, by omega⟩))
theorem given_take {α : Type} (A : List α) (p : α → Bool) (g : α → V) : ∀ n, n ≤ A.length → given n (fun i => (A[i]?.map p).getD false) (fun i => (A[i]?.map g).getD .non) = ((A.take n).filter p).map g
  | 0, _ => rfl
  | n + 1, h => by
    have ih := given_take A p g n (by omega)
    have hn : A[n]? = some A[n] := by simp [show n < A.length by omega]
    rw [List.take_succ, hn, List.filter_append, List.map_append, ← ih]
    cases hp : p A[n] with
    | true =>
      rw [given_yes (by rw [hn]; exact hp)]
      simp [hp, hn]
    | false =>
      rw [given_no (by rw [hn]; exact hp)]
      simp [hp]
theorem given_all {α : Type} (A : List α) (p : α → Bool) (g : α → V) : given A.length (fun i => (A[i]?.map p).getD false) (fun i => (A[i]?.map g).getD .non) = (A.filter p).map g := by
  have h := given_take A p g A.length (Nat.le_refl _)
  rw [List.take_length] at h
  exact h
theorem tC_go {v : V} {σ : L2.St} {H : Hp} {Q : VK} (h : Q v H) : tC v σ H Q := h
theorem getD_of {α β : Type} {A : List α} {i : Nat} {a : α} (h : A[i]? = some a) (g : α → β) (d : β) : (A[i]?.map g).getD d = g a := by rw [h]; rfl
def spStream (K : PySem.W.Frag) : Sp := fun vs H Q _ => ∃ (a : Addr) (ns : List Int), vs = [.ref a] ∧ SqL K H a (ns.map V.int) ∧ ns.length ≤ 63 ∧ ∀ d l H', Ex H H' → StreamAt H' d l → Q (.ref d) H'
def spFresh : Sp := fun vs H Q _ => ∃ d l : Addr, vs = [.ref d] ∧ StreamAt H d l ∧ ∀ H', StreamAt H' d l → Mv d H H' → Q .non H'
def spPick : Sp := fun vs H Q _ => ∃ (d l : Addr) (n : Int), vs = [.ref d, .int n] ∧ 0 < n ∧ n < 1000000 ∧ StreamAt H d l ∧ ∀ (g : Int) H', 0 ≤ g → g < n → StreamAt H' d l → Mv d H H' → Q (.int g) H'
abbrev prime : Int := 2305843009213693951
theorem modP (x : Int) : 0 ≤ x % prime ∧ x % prime < 2 ^ 62 := by unfold prime; omega
section
variable {P : Program} {w : World} {K : PySem.W.Frag} {mg : Str → Option Value} {base : Heap}
theorem c_stream (T : Txt K mg) : Cal P w K mg base 1 "_law_stream" (spStream K) := by
  obtain ⟨fd, F⟩ := T.f_law_stream
  refine cal_of F T.g_law_stream (F.bindsN fun _ _ _ _ _ _ us hl => match us, hl with | [_], _ => rfl) sc_law_stream (fun vs H Q E h => ?_) (fun cdv A₀ outer s H vs Q E hr h => ?_)
  · obtain ⟨a, ns, rfl, _⟩ := h
    rfl
  · obtain ⟨a, ns, rfl, ha, hn, k⟩ := h
    refine ⟨_, pss_one (ps_ret (pe_disp (pps_cons pe_str (pe_lc (own := [("cell", 1)]) (g := gName 1) rfl sc_law_stream.nd (pi_list (pe_slice sl_list (pv 0) po_none (po_some pe_int)))
        (blkOk_by (own := [("cell", 1)]) (N := ["script", "cell"]) (sc := defScope s_law_stream) (by decide +kernel)) (fun _ _ _ _ _ => pg_name (i := 1) sc_law_stream.nd rfl (Or.inl rfl)) (fun _ _ _ _ _ => pts_nil)
        (fun _ _ _ _ _ => pe_callTy call_int1 (by rfl) T.b_int (by decide +kernel) (pa_cons (pv 1) pa_nil)))
      (pps_cons pe_str pe_int (pps_cons pe_str pe_int (pps_cons pe_str pe_int pps_nil)))) (by rfl) (by rfl) (fun z => by cases z) (by decide))), ?_⟩
    try dsimp only [cxOf, Cx.nox, Cx.wish]
    intro d hd
    have hcut : cutV (ns.map V.int) none (some 63) = (ns.take 63).map V.int := by
      unfold cutV
      show ((ns.map V.int).drop 0).take (min 63 (ns.map V.int).length - 0) = _
      rw [List.drop_zero, Nat.sub_zero, List.map_take, List.length_map]
      by_cases h : ns.length ≤ 63
      · rw [Nat.min_eq_right h, List.take_of_length_le (by simp), List.take_of_length_le (by simpa using h)]
      · omega
    have e0 : Ex H (upd H d (.dK [])) := Ex.new hd
    have el : EvL (tSl (rSlL K) (tVar 0) tNoPart (tPart (tC (V.int 63)))) [some (V.ref a), none] H ((ns.take 63).map V.int) := by
      have h := el_sl (K := K) (σ := [some (V.ref a), none]) (te := tVar 0) (ev_var rfl) eo_none (eo_some (i := 63) ev_c) ha
      rw [hcut] at h
      exact h
    have hlc := el_lcNL (K := K) (σ := [some (V.ref a), none]) (j := 1) (vs := [1]) (t := tYes) (te := tCB (fun xs H Q => (∃ i, xs = [V.int i] ∧ Q (.int i) H) ∨ ∃ k, xs = [V.bl k] ∧ Q (.int (if k then 1 else 0)) H) (tCons (tVar 1) tNil)) (H := H)
      (fun i => ((ns.take 63)[i]?.map fun _ => true).getD false) (fun i => ((ns.take 63)[i]?.map V.int).getD .non) el (by rw [List.length_map, List.length_take]; omega) (fun _ => rfl)
      (fun i x H1 e1 hx => by
        rw [List.getElem?_map] at hx
        cases q : (ns.take 63)[i]? with
        | none => rw [q] at hx; cases hx
        | some p => exact et_yes)
      (fun i x H1 e1 hx hf => by
        rw [List.getElem?_map] at hx
        cases q : (ns.take 63)[i]? with
        | none => rw [q] at hx; cases hx
        | some p =>
          rw [q] at hx
          cases hx
          exact ev_cb (ea_cons (ev_var rfl) ea_nil) rc_int1)
    rw [List.length_map, given_all] at hlc
    have ef : (ns.take 63).filter (fun _ => true) = ns.take 63 := by simp
    rw [ef] at hlc
    dsimp only [tPairs]
    refine tC_go ?_
    refine hlc _ e0 _ fun p H2 hp e2 h2 => ?_
    refine ⟨e2 _ _ upd_same, strK p 0 0 40503, rfl, (by show 4 ≤ 15; decide), ?_⟩
    have em : mergeK [] (strK p 0 0 40503) = strK p 0 0 40503 := by
      obtain ⟨h1, h2, h3, h4, h5, h6⟩ := kne
      have g1 := knr h1
      have g2 := knr h2
      have g3 := knr h3
      have g4 := knr h4
      have g5 := knr h5
      have g6 := knr h6
      unfold mergeK strK
      simp [putK, g1, g2, g3, g4, g5, g6]
    rw [em]
    have npd : p ≠ d := fun z => by
      rw [z, upd_same] at hp
      cases hp
    refine k d p _ ((e0.trans e2).mut hd) ⟨0, 0, 40503, ns.take 63, upd_same, by decide, by decide, by rw [upd_ne npd]; exact h2, by rw [List.length_take]; omega⟩
theorem c_fresh (T : Txt K mg) : Cal P w K mg base 1 "_law_fresh" spFresh := by
  obtain ⟨fd, F⟩ := T.f_law_fresh
  refine cal_of F T.g_law_fresh (F.bindsN fun _ _ _ _ _ _ us hl => match us, hl with | [_], _ => rfl) sc_law_fresh (fun vs H Q E h => ?_) (fun cdv A₀ outer s H vs Q E hr h => ?_)
  · obtain ⟨d, l, rfl, _⟩ := h
    rfl
  · obtain ⟨d, l, rfl, S, k⟩ := h
    have hu := hu_of hr
    have nd := sc_law_fresh.nd
    refine ⟨_, pss_cons (ps_set (i := 1) nd rfl (Or.inl rfl) (pe_dget hu (pv 0) pe_str (fun _ _ => rfl)))
      (pss_cons (ps_set (i := 2) nd rfl (Or.inl rfl) (pe_dget hu (pv 0) pe_str (fun _ _ => rfl)))
      (pss_cons (ps_set (i := 3) nd rfl (Or.inl rfl) (pv 2))
      (pss_cons (ps_if (pt_cmpR op_lt (pv 2) (pe_callB call_len_seq (by rfl) T.b_len (by decide +kernel) (pa_cons (pv 1) pa_nil)) (nomark _)) (pss_one (ps_set (i := 3) nd rfl (Or.inl rfl) (pe_ix ix_list (pv 1) (pv 2) (fun _ _ => rfl)))) pss_nil)
      (pss_cons (ps_if (pt_cmpR op_lt (pv 3) pe_int (nomark _)) (pss_one (ps_set (i := 3) nd rfl (Or.inl rfl) (pe_op op_sub (pe_op op_sub pe_int (pe_op op_mul pe_int (pv 3))) pe_int))) pss_nil)
      (pss_cons (ps_dput hu (pv 0) pe_str (pe_op op_add (pv 2) pe_int) rfl)
      (pss_cons (ps_if (pt_cmpR op_ge (pv 3) pe_int (nomark _)) (pss_cons (ps_dput hu (pv 0) pe_str (pv 3) rfl) (pss_one ps_retN)) pss_nil)
      (pss_cons (ps_set (i := 4) nd rfl (Or.inl rfl) pe_int)
      (pss_cons (ps_set (i := 5) nd rfl (Or.inl rfl) (pe_op op_mod (pe_callTy call_int1 (by rfl) T.b_int (by decide +kernel) (pa_cons (pe_op op_add (pe_op op_add (pe_op op_add (pe_op op_mul (pv 3) pe_int) (pe_dget hu (pv 0) pe_str (fun _ _ => rfl))) (pe_op op_mul (pv 2) pe_int)) pe_int) pa_nil)) (pv 4)))
      (pss_cons (ps_set (i := 6) nd rfl (Or.inl rfl) (pe_op op_mod (pe_callTy call_int1 (by rfl) T.b_int (by decide +kernel) (pa_cons (pe_op op_add (pe_op op_add (pe_op op_mul (pv 5) (pv 5)) (pe_op op_mul pe_int (pv 5))) (pv 2)) pa_nil)) (pv 4)))
      (pss_cons (ps_set (i := 7) nd rfl (Or.inl rfl) (pe_op op_mod (pe_callTy call_int1 (by rfl) T.b_int (by decide +kernel) (pa_cons (pe_op op_add (pe_op op_add (pe_op op_mul (pv 6) pe_int) (pe_op op_mul (pv 5) pe_int)) pe_int) pa_nil)) (pv 4)))
      (pss_cons (ps_set (i := 8) nd rfl (Or.inl rfl) (pe_op op_mod (pe_callTy call_int1 (by rfl) T.b_int (by decide +kernel) (pa_cons (pe_op op_add (pe_op op_mul (pv 7) (pv 7)) (pv 6)) pa_nil)) (pv 4)))
      (pss_cons (ps_dput hu (pv 0) pe_str (pv 7) rfl)
      (pss_one (ps_dput hu (pv 0) pe_str (pe_op op_add (pe_op op_mul (pe_op op_add (pe_op op_mul (pv 8) (pv 4)) (pv 7)) (pv 4)) (pv 6)) rfl)))))))))))))), ?_⟩
    try dsimp only [cxOf, Cx.nox, Cx.wish]
    obtain ⟨a, r, m, cs, hd, ha, hr0, hl, hz⟩ := S.ex
    refine q_asg (v := .ref l) (ev_dget (ev_var rfl) ev_c hd sk_cells) fun H1 e1 => ?_
    refine q_asg (v := .int a) (ev_dget (ev_var rfl) ev_c (e1 _ _ hd) sk_at) fun H2 e2 => ?_
    refine q_asg (v := .int a) (ev_var rfl) fun H3 e3 => ?_
    have e13 := (e1.trans e2).trans e3
    have hl3 := e13 _ _ hl
    obtain ⟨c, hc1, hc2⟩ : ∃ c : Int, (a < cs.length → cs[a.toNat]? = some c) ∧ (¬ a < cs.length → c = a) := by
      by_cases h : a < cs.length
      · exact ⟨cs[a.toNat]'(by omega), fun _ => by simp [show a.toNat < cs.length by omega], fun z => absurd h z⟩
      · exact ⟨a, fun z => absurd z h, fun _ => rfl⟩
    refine q_ifAsg (v := .int c) (b := decide (a < (cs.length : Int))) (et_test (ev_op (ev_var rfl) (by
        have z := ev_len (K := K) (σ := [some (V.ref d), some (V.ref l), some (V.int a), some (V.int a), none, none, none, none, none]) (ta := tVar 1) (ev_var rfl) (sq_of hl3)
        rw [List.length_map] at z
        exact z) rv_I0)) (fun hb => ev_op (ev_var rfl) (ev_var rfl) (rv_ixL (sq_of hl3) ?_)) (fun hb => ?_) fun H4 e4 => ?_
    · have h := hc1 (of_decide_eq_true hb)
      have e : a = ((a.toNat : Nat) : Int) := by omega
      rw [e]
      exact L2.atI_nat (by rw [List.getElem?_map, h]; rfl)
    · rw [hc2 (of_decide_eq_false hb)]
      rfl
    obtain ⟨c', hc3⟩ : ∃ c' : Int, c' = if c < 0 then 0 - 2 * c - 1 else c := ⟨_, rfl⟩
    refine q_ifAsg (v := .int c') (b := decide (c < 0)) (by walk_at "ev") (fun hb => ?_) (fun hb => ?_) fun H5 e5 => ?_
    · rw [hc3, if_pos (of_decide_eq_true hb)]
      walk_at "ev"
    · rw [hc3, if_neg (of_decide_eq_false hb)]
      rfl
    have hc0 : 0 ≤ c' := by rw [hc3]; split <;> omega
    clear hc3
    have e15 := (e13.trans e4).trans e5
    refine q_dput (v := .int (a + 1)) (k := Sum.inr "at") (by walk_at "ev") (ev_var rfl) ev_c (e15 _ _ hd) (by show 4 ≤ 1000; decide) fun H6 e6 => ?_
    rw [sp_at]
    have e16 := e15.trans e6
    have ldn : l ≠ d := ne_of hl hd (by intro z; cases z)
    have hd6 : (upd H6 d (.dK (strK l (a + 1) r m))) d = some (.dK (strK l (a + 1) r m)) := upd_same
    have hl6 : (upd H6 d (.dK (strK l (a + 1) r m))) l = some (.lst (cs.map V.int)) := by rw [upd_ne ldn]; exact e16 _ _ hl
    have m6 : Mv d H (upd H6 d (.dK (strK l (a + 1) r m))) := (Mv.of e16).trans Mv.upd
    refine q_when (b := decide (1000000000000000000 ≤ c')) (by walk_at "ev") (fun hb H7 e7 => ?_) (fun hb H7 e7 => ?_)
    · refine q_dput (v := .int c') (k := Sum.inr "rest") (ev_var rfl) (ev_var rfl) ev_c (e7 _ _ hd6) (by show 4 ≤ 1000; decide) fun H8 e8 => ?_
      rw [sp_rest]
      refine k _ ⟨a + 1, c', m, cs, upd_same, by omega, hc0, by rw [upd_ne ldn]; exact (e7.trans e8) _ _ hl6, hz⟩ (((m6.ex e7).ex e8).trans Mv.upd)
    · have hd7 := e7 _ _ hd6
      have hl7 := e7 _ _ hl6
      have m7 := m6.ex e7
      refine q_asg (v := .int prime) ev_c fun H8 e8 => ?_
      obtain ⟨f1, ef1, f1a, f1b⟩ : ∃ f1 : Int, f1 = (c' * 6364136223846793005 + m + a * 104729 + 77) % prime ∧ 0 ≤ f1 ∧ f1 < 2 ^ 62 := ⟨_, rfl, modP _⟩
      have hm : Ev (tDGet (tVar 0) (tC (.str "mixed"))) [some (V.ref d), some (V.ref l), some (V.int a), some (V.int c'), some (V.int prime), none, none, none, none] H8 (.int m) := ev_dget (k := Sum.inr "mixed") (ev_var rfl) ev_c (e8 _ _ hd7) sk_mixed
      refine q_asg (v := .int f1) (by
        rw [ef1]
        refine ev_op (ev_cb (ea_cons (ev_op (ev_op (ev_op (by walk_at "ev") hm rv_I0) (by walk_at "ev") rv_I0) ev_c rv_I0) ea_nil) rc_int1) (ev_var rfl) (rv_mod (by decide))) fun H9 e9 => ?_
      obtain ⟨f2, ef2, f2a, f2b⟩ : ∃ f2 : Int, f2 = (f1 * f1 + 1013 * f1 + a) % prime ∧ 0 ≤ f2 ∧ f2 < 2 ^ 62 := ⟨_, rfl, modP _⟩
      refine q_asg (v := .int f2) (by
        rw [ef2]
        exact ev_op (ev_cb (by walk_at "ea") rc_int1) (ev_var rfl) (rv_mod (by decide))) fun H10 e10 => ?_
      obtain ⟨f3, ef3, f3a, f3b⟩ : ∃ f3 : Int, f3 = (f2 * 48271 + f1 * 31 + 9) % prime ∧ 0 ≤ f3 ∧ f3 < 2 ^ 62 := ⟨_, rfl, modP _⟩
      refine q_asg (v := .int f3) (by
        rw [ef3]
        exact ev_op (ev_cb (by walk_at "ea") rc_int1) (ev_var rfl) (rv_mod (by decide))) fun H11 e11 => ?_
      obtain ⟨f4, ef4, f4a, f4b⟩ : ∃ f4 : Int, f4 = (f3 * f3 + f2) % prime ∧ 0 ≤ f4 ∧ f4 < 2 ^ 62 := ⟨_, rfl, modP _⟩
      refine q_asg (v := .int f4) (by
        rw [ef4]
        exact ev_op (ev_cb (by walk_at "ea") rc_int1) (ev_var rfl) (rv_mod (by decide))) fun H12 e12 => ?_
      have e812 := (((e8.trans e9).trans e10).trans e11).trans e12
      refine q_dput (v := .int f3) (k := Sum.inr "mixed") (ev_var rfl) (ev_var rfl) ev_c (e812 _ _ hd7) (by show 4 ≤ 1000; decide) fun H13 e13 => ?_
      rw [sp_mixed]
      refine s_dput (v := .int ((f4 * prime + f3) * prime + f2)) (k := Sum.inr "rest") (by walk_at "ev") (ev_var rfl) ev_c upd_same (by show 4 ≤ 1000; decide) fun H14 e14 => ?_
      rw [sp_rest]
      have hl14 : H14 l = some (.lst (cs.map V.int)) := e14 _ _ (by rw [upd_ne ldn]; exact (e812.trans e13) _ _ hl7)
      have h5 : 0 ≤ (f4 * prime + f3) * prime + f2 := by
        have : 0 ≤ f4 * prime + f3 := by unfold prime; omega
        have h6 : 0 ≤ (f4 * prime + f3) * prime := Int.mul_nonneg this (by decide)
        omega
      exact k _ ⟨a + 1, _, f3, cs, upd_same, by omega, h5, by rw [upd_ne ldn]; exact hl14, hz⟩ (((((m7.ex e812).ex e13).trans Mv.upd).ex e14).trans Mv.upd)
end
end K0
end

set_option Elab.async false
set_option linter.all false
set_option maxRecDepth 100000
set_option maxHeartbeats 1000000
section
open PySem PySem.Spec PyProof.Rows L2 Evl Kv
local macro_rules | `(tactic| walk_at "sz") => `(tactic| first | with_reducible assumption | omega)
local macro_rules | `(tactic| walk_at "rv") => `(tactic| first
  | with_reducible exact rv_I0
  | ((with_reducible apply rv_addS); walk_at "sz")
  | ((with_reducible apply rv_mod); walk_at "sz")
  | ((with_reducible apply rv_eq); rfl)
  | ((with_reducible apply rv_ne); rfl)
  | ((with_reducible apply rv_ixS); walk_at "sz"; first | exact L2.atI_nat (by assumption) | rfl)
  | ((with_reducible apply rv_ixT); assumption; rfl)
  | ((with_reducible apply rv_ixL); assumption; rfl))
local macro_rules | `(tactic| walk_at "rc") => `(tactic| first
  | ((with_reducible apply rc_lenS); walk_at "sz")
  | with_reducible exact rc_ord
  | ((with_reducible apply rc_strI); walk_at "sz")
  | with_reducible exact rc_int1
  | with_reducible exact rc_int1b
  | with_reducible exact rc_max
  | ((with_reducible apply rc_lenT); assumption))
local macro_rules | `(tactic| walk_at "ea") => `(tactic| first
  | with_reducible exact ea_nil
  | ((with_reducible apply ea_cons); walk_at "ev"; walk_at "ea"))
local macro_rules | `(tactic| walk_at "ev") => `(tactic| first
  | ((with_reducible apply ev_var); rfl)
  | with_reducible exact ev_c
  | ((with_reducible apply ev_inU); walk_at "ev"; walk_at "eu"; rfl; rfl)
  | ((with_reducible apply ev_niU); walk_at "ev"; walk_at "eu"; rfl; rfl)
  | ((with_reducible apply ev_chain); walk_at "ev"; walk_at "ev"; walk_at "ev")
  | ((with_reducible apply ev_op); walk_at "ev"; walk_at "ev"; walk_at "rv")
  | ((with_reducible apply ev_cb); walk_at "ea"; walk_at "rc")
  | ((with_reducible apply ev_call); walk_at "ea"; walk_at "sp")
  | ((with_reducible apply ev_slS); walk_at "ev"; walk_at "eo"; walk_at "eo"; walk_at "sz")
  | ((with_reducible apply et_test); walk_at "ev")
  | ((with_reducible apply et_B); walk_at "ev")
  | ((with_reducible apply et_not); walk_at "ev")
  | ((with_reducible apply et_and); walk_at "ev"; (intro _; walk_at "ev"))
  | ((with_reducible apply et_or); walk_at "ev"; (intro _; walk_at "ev"))
  | ((with_reducible apply ev_andV); walk_at "ev"; (intro _; walk_at "ev"))
  | ((with_reducible apply ev_orV); walk_at "ev"; (intro _; walk_at "ev"))
  | ((with_reducible apply ev_notV); walk_at "ev"))
local macro_rules | `(tactic| walk_at "eo") => `(tactic| first
  | with_reducible exact eo_none
  | ((with_reducible apply eo_some); walk_at "ev"))
local macro_rules | `(tactic| walk_at "eu") => `(tactic| first
  | ((with_reducible apply eu_tup); walk_at "ea"; (simp only [List.length_cons, List.length_nil]; omega)))
namespace K0
open PySem PySem.Spec PyProof.Rows L2 Evl Kv
local macro_rules | `(tactic| walk_at "rv") => `(tactic| ((with_reducible refine rv_I (C := CMul) ?_); first | exact .inr ⟨by decide, by decide⟩ | exact .inl ⟨by decide, by decide⟩ | exact .inl ⟨by omega, by omega⟩))
section
variable {P : Program} {w : World} {K : PySem.W.Frag} {mg : Str → Option Value} {base : Heap}
theorem c_pick (T : Txt K mg) : Cal P w K mg base 2 "_law_pick" spPick := by
  obtain ⟨fd, F⟩ := T.f_law_pick
  refine cal_of F T.g_law_pick (F.bindsN fun _ _ _ _ _ _ us hl => match us, hl with | [_, _], _ => rfl) sc_law_pick (fun vs H Q E h => ?_) (fun cdv A₀ outer s H vs Q E hr h => ?_)
  · obtain ⟨d, l, n, rfl, _⟩ := h
    rfl
  · obtain ⟨d, l, n, rfl, hn0, hn1, S, k⟩ := h
    have hu := hu_of hr
    have nd := sc_law_pick.nd
    refine ⟨_, Evl.pss_cut (ps_if (pt_cmpR op_lt (pe_dget hu (pv 0) pe_str (fun _ _ => rfl)) (pv 1) (nomark _)) (pss_one (ps_expr (pe_c (c_fresh T) hr (by decide) rfl (pa_cons (pv 0) pa_nil)))) pss_nil)
      (pss_cons (ps_set (i := 2) nd rfl (Or.inl rfl) (pe_op op_mod (pe_callTy call_int1 (by rfl) T.b_int (by decide +kernel) (pa_cons (pe_dget hu (pv 0) pe_str (fun _ _ => rfl)) pa_nil)) (pv 1)))
      (pss_cons (ps_dput hu (pv 0) pe_str (pe_op op_fdiv (pe_dget hu (pv 0) pe_str (fun _ _ => rfl)) (pv 1)) rfl)
      (pss_one (ps_ret (pv 2))))), ?_⟩
    try dsimp only [cxOf, Cx.nox, Cx.wish]
    refine q_cut (M := fun σ' H' => σ' = [some (.ref d), some (.int n), none] ∧ StreamAt H' d l ∧ Mv d H H') ?_ ?_
    · obtain ⟨a, r, m, cs, hd, ha, hr0, hl, hz⟩ := id S
      refine s_when (b := decide (r < n)) (et_test (ev_op (ev_dget (k := Sum.inr "rest") (ev_var rfl) ev_c hd sk_rest) (ev_var rfl) rv_I0)) (fun hb H1 e1 => ?_) (fun hb H1 e1 => ⟨rfl, S.ex' e1, .of e1⟩)
      exact ⟨_, rfl, d, l, rfl, S.ex' e1, fun H' S2 m2 => ⟨rfl, S2, (Mv.of e1).trans m2⟩⟩
    · rintro σ' H' ⟨rfl, S1, m1⟩
      obtain ⟨a, r, m, cs, hd, ha, hr0, hl, hz⟩ := S1.ex
      refine q_asg (v := .int (r % n)) (ev_op (ev_cb (ea_cons (ev_dget (k := Sum.inr "rest") (ev_var rfl) ev_c hd sk_rest) ea_nil) rc_int1) (ev_var rfl) (rv_mod hn0)) fun H1 e1 => ?_
      refine q_dput (v := .int (r / n)) (k := Sum.inr "rest") (ev_op (ev_dget (k := Sum.inr "rest") (ev_var rfl) ev_c (e1 _ _ hd) sk_rest) (ev_var rfl) (rv_I (C := CDiv) (g := fun i j => .int (i / j)) ⟨hn0, by omega⟩)) (ev_var rfl) ev_c (e1 _ _ hd) (by show 4 ≤ 1000; decide) fun H2 e2 => ?_
      rw [sp_rest]
      refine s_ret (ev_var rfl) fun H3 e3 => ?_
      have ldn : l ≠ d := ne_of hl hd (by intro z; cases z)
      have h5 : (upd H2 d (.dK (strK l a (r / n) m))) l = some (.lst (cs.map V.int)) := by rw [upd_ne ldn]; exact (e1.trans e2) _ _ hl
      exact k (r % n) H3 (Int.emod_nonneg _ (by omega)) (Int.emod_lt_of_pos _ hn0) ⟨a, r / n, m, cs, e3 _ _ upd_same, ha, Int.ediv_nonneg hr0 (by omega), e3 _ _ h5, hz⟩ ((((m1.ex e1).ex e2).trans Mv.upd).ex e3)
theorem q_asgX {te : TE} {tz : TS} {D : Ends} {σ : L2.St} {H : Hp} {i : Nat} (h : te σ H fun v H1 => tz D (σ.set i (some v)) H1) : tSeq (tAsg te (gName i)) tz D σ H := h
theorem tOp_go {ta tb : TE} {r : R2} {σ : L2.St} {H : Hp} {Q : VK} (h : ta σ H fun x H1 => tb σ H1 fun y H2 => r x y H2 Q) : tOp r ta tb σ H Q := h
theorem EvU_go {te : TE} {σ : L2.St} {H : Hp} {Q : VK} {xs : List V} (h : EvU te σ H xs) (k : ∀ p H2, H p = none → Ex H H2 → H2 p = some (.tup xs) → Q (.ref p) H2) : te σ H Q := h H (Ex.refl H) Q k
theorem EvL_go {te : TE} {σ : L2.St} {H : Hp} {Q : VK} {xs : List V} (h : EvL te σ H xs) (k : ∀ p H2, H p = none → Ex H H2 → H2 p = some (.lst xs) → Q (.ref p) H2) : te σ H Q := h H (Ex.refl H) Q k
theorem Ev_go {te : TE} {σ : L2.St} {H : Hp} {Q : VK} {v : V} (h : Ev te σ H v) (k : ∀ H2, Ex H H2 → Q v H2) : te σ H Q := h H (Ex.refl H) Q k
theorem lc_keep {te : TE} {σ : L2.St} {H : Hp} {Q : VK} {R : Hp → Prop} (h : te σ H Q) : tYes σ H fun b H3 => if b = true then te σ H3 Q else R H3 := by
  show (if true = true then te σ H Q else R H)
  rw [if_pos rfl]
  exact h
/-! ### picks in expressions -/
theorem x_pick {σ : L2.St} {H : Hp} {ta tb : TE} {d l : Addr} {n : Int} {Q : VK} (ha : Ev ta σ H (.ref d)) (hb : Ev tb σ H (.int n)) (hn0 : 0 < n) (hn1 : n < 1000000) (S : StreamAt H d l)
    (k : ∀ (g : Int) H', 0 ≤ g → g < n → StreamAt H' d l → Mv d H H' → Q (.int g) H') : tCall spPick [] E0 (tCons ta (tCons tb tNil)) σ H Q :=
  ha H (Ex.refl H) _ fun H1 e1 => hb H1 e1 _ fun H2 e2 => ⟨d, l, n, rfl, hn0, hn1, S.ex' (e1.trans e2), fun g H' h0 h1 S' m => k g H' h0 h1 S' ((Mv.of (e1.trans e2)).trans m)⟩
theorem x_menu {σ : L2.St} {H : Hp} {ta td tb : TE} {d l : Addr} {n : Int} {ds : List PyData} {Q : VK} (hd : EvD K td σ H (.tuple ds)) (ha : Ev ta σ H (.ref d)) (hb : Ev tb σ H (.int n)) (hn : n = ds.length) (hn0 : 0 < n) (hn1 : n < 1000000) (S : StreamAt H d l)
    (k : ∀ v x H', x ∈ ds → Dp K H' v x → StreamAt H' d l → Mv d H H' → Q v H') : tOp (rIxT K) td (tCall spPick [] E0 (tCons ta (tCons tb tNil))) σ H Q :=
  hd H (Ex.refl H) _ fun v H1 e1 hv => by
    obtain ⟨p, vs, rfl, hp, hvs⟩ := dp_tup hv
    refine x_pick (ha.mono e1) (hb.mono e1) hn0 hn1 (S.ex' e1) fun g H' h0 h1 S' m => ?_
    obtain ⟨kvs, hk⟩ := (S.ex' e1).dk
    have e : g = ((g.toNat : Nat) : Int) := by omega
    have hlt : g.toNat < ds.length := by omega
    obtain ⟨v, hv1, hv2⟩ := dpa_get (dpa_map (fun _ _ => m.sql hk) (fun _ _ => m.sqt hk) hvs) (show ds[g.toNat]? = some ds[g.toNat] by simp [hlt])
    refine ⟨p, vs, g, v, rfl, rfl, m.sqt hk hp, ?_, k v _ H' (List.getElem_mem hlt) hv2 S' ((Mv.of e1).trans m)⟩
    rw [e]
    exact L2.atI_nat hv1
/-! ### a rule told -/
abbrev pairD (p : Nat × Nat) : PyData := .str ⟨#[p.1, p.2]⟩
def toldD (A : List (Nat × Nat)) (U : List Str) (L : Int) (s1 s2 s3 s4 : Bool) : PyData := .tuple [.tuple (A.map pairD), .tuple (U.map PyData.str), .int L, .bool s1, .bool s2, .bool s3, .bool s4]
def OkS (n : Nat) (x : Str) : Prop := x.length ≤ n ∧ PyData.strOk x = true
structure OkRule (A : List (Nat × Nat)) (U : List Str) : Prop where
  al : A.length ≤ 1000
  ul : U.length ≤ 1000
  us : ∀ o ∈ U, OkS 100 o
def spTold (K : PySem.W.Frag) : Sp := fun vs H Q _ => ∃ d l : Addr, vs = [.ref d] ∧ StreamAt H d l ∧ ∀ t H' A U L s1 s2 s3 s4, OkRule A U → Dp K H' (.ref t) (toldD A U L s1 s2 s3 s4) → StreamAt H' d l → Mv d H H' → Q (.ref t) H'
def alikeM : List (List (Nat × Nat)) := [[], [(65, 97), (66, 98)], [(97, 65), (66, 98), (120, 121), (97, 81)], [(65, 66), (66, 67)]]
def unfitM : List (List Str) := [[], ["aux"], ["a", "B.b", "nul"]]
theorem alike_ds : ([.tuple [], .tuple [.str "Aa", .str "Bb"], .tuple [.str "aA", .str "Bb", .str "xy", .str "aQ"], .tuple [.str "AB", .str "BC"]] : List PyData) = alikeM.map fun A => .tuple (A.map pairD) := by rfl
theorem unfit_ds : ([.tuple [], .tuple [.str "aux"], .tuple [.str "a", .str "B.b", .str "nul"]] : List PyData) = unfitM.map fun U => .tuple (U.map PyData.str) := by rfl
theorem alike_ok : ∀ A ∈ alikeM, A.length ≤ 1000 := by decide +kernel
theorem unfit_ok : ∀ U ∈ unfitM, U.length ≤ 1000 ∧ ∀ o ∈ U, o.length ≤ 100 ∧ PyData.strOk o = true := by decide +kernel
local macro_rules | `(tactic| walk_at "ed") => `(tactic| first
  | with_reducible exact ed_str
  | with_reducible exact ed_int
  | ((with_reducible apply ed_tup); walk_at "eds"; (simp only [List.length_cons, List.length_nil]; omega)))
local macro_rules | `(tactic| walk_at "eds") => `(tactic| first
  | with_reducible exact ed_nil
  | ((with_reducible apply ed_cons); walk_at "ed"; walk_at "eds"))
theorem c_told (T : Txt K mg) : Cal P w K mg base 3 "_law_rule_told" (spTold K) := by
  obtain ⟨fd, F⟩ := T.f_law_rule_told
  refine cal_of F T.g_law_rule_told (F.bindsN fun _ _ _ _ _ _ us hl => match us, hl with | [_], _ => rfl) sc_law_rule_told (fun vs H Q E h => ?_) (fun cdv A₀ outer s H vs Q E hr h => ?_)
  · obtain ⟨d, l, rfl, _⟩ := h
    rfl
  · obtain ⟨d, l, rfl, S, k⟩ := h
    have nd := sc_law_rule_told.nd
    refine ⟨_, pss_cons (ps_set (i := 1) nd rfl (Or.inl rfl) (pe_ix ix_tup (pe_tup (pa_cons (pe_tup pa_nil) (pa_cons (pe_tup (pa_cons pe_str (pa_cons pe_str pa_nil))) (pa_cons (pe_tup (pa_cons pe_str (pa_cons pe_str (pa_cons pe_str (pa_cons pe_str pa_nil))))) (pa_cons (pe_tup (pa_cons pe_str (pa_cons pe_str pa_nil))) pa_nil)))))
          (pe_c (c_pick T) hr (by decide) rfl (pa_cons (pv 0) (pa_cons pe_int pa_nil))) (fun _ _ => rfl)))
      (pss_cons (ps_set (i := 2) nd rfl (Or.inl rfl) (pe_ix ix_tup (pe_tup (pa_cons (pe_tup pa_nil) (pa_cons (pe_tup (pa_cons pe_str pa_nil)) (pa_cons (pe_tup (pa_cons pe_str (pa_cons pe_str (pa_cons pe_str pa_nil)))) pa_nil))))
          (pe_c (c_pick T) hr (by decide) rfl (pa_cons (pv 0) (pa_cons pe_int pa_nil))) (fun _ _ => rfl)))
      (pss_cons (ps_set (i := 3) nd rfl (Or.inl rfl) (pe_ix ix_tup (pe_tup (pa_cons pe_int (pa_cons pe_int (pa_cons pe_int (pa_cons pe_int pa_nil)))))
          (pe_c (c_pick T) hr (by decide) rfl (pa_cons (pv 0) (pa_cons pe_int pa_nil))) (fun _ _ => rfl)))
      (pss_cons (ps_setLc (i := 4) (own := [("k", 5)]) (g := gName 5) rfl nd rfl rfl (sw_true rfl rfl rfl (by decide +kernel)) (pi_range1 rfl T.b_range (pa_cons pe_int pa_nil))
          (blkOk_by (own := [("k", 5)]) (N := ["stream", "alike", "unfit", "longest", "flags", "k"]) (sc := defScope s_law_rule_told) (by decide +kernel)) (fun _ _ _ _ _ => pg_name (i := 5) nd rfl (Or.inl rfl)) (fun _ _ _ _ _ => pts_nil)
          (fun _ _ _ _ _ => pe_cmpR op_gt (pe_c (c_pick T) hr (by decide) rfl (pa_cons (pv 0) (pa_cons pe_int pa_nil))) pe_int (nomark _)))
      (pss_one (ps_ret (pe_op op_catA (pe_tup (pa_cons (pv 1) (pa_cons (pv 2) (pa_cons (pv 3) pa_nil)))) (pe_callTy call_tuple_of (by rfl) T.b_tuple (by decide +kernel) (pa_cons (pv 4) pa_nil)))))))), ?_⟩
    try dsimp only [cxOf, Cx.nox, Cx.wish]
    refine q_asgX (x_menu (by walk_at "ed") (ev_var rfl) ev_c rfl (by decide) (by decide) S fun va xa H1 hxa hva S1 m1 => ?_)
    rw [alike_ds] at hxa
    obtain ⟨A, hA, rfl⟩ := List.mem_map.mp hxa
    refine q_asgX (x_menu (by walk_at "ed") (ev_var rfl) ev_c rfl (by decide) (by decide) S1 fun vu xu H2 hxu hvu S2 m2 => ?_)
    rw [unfit_ds] at hxu
    obtain ⟨U, hU, rfl⟩ := List.mem_map.mp hxu
    refine q_asgX (x_menu (by walk_at "ed") (ev_var rfl) ev_c rfl (by decide) (by decide) S2 fun vl xl H3 hxl hvl S3 m3 => ?_)
    obtain ⟨L, rfl⟩ : ∃ L, xl = .int L := by
      simp only [List.mem_cons, List.not_mem_nil, or_false] at hxl
      rcases hxl with h | h | h | h <;> exact ⟨_, h⟩
    obtain rfl := dp_int hvl
    obtain ⟨k1, hk1⟩ := S1.dk
    obtain ⟨k2, hk2⟩ := S2.dk
    have hva3 := dp_mv m3 hk2 (dp_mv m2 hk1 hva)
    have hvu3 := dp_mv m3 hk2 hvu
    have m03 := (m1.trans m2).trans m3
    refine q_asgX ⟨4, rfl, by decide, by decide, fun Dl hD => ?_⟩
    obtain ⟨nd1, nd2⟩ := S3.free hD
    refine lc_range (lo := 0) (n := 4) (fun i H' => ∃ bs : List Bool, bs.length = i ∧ i ≤ 4 ∧ H' Dl = some (.lst (bs.map V.bl)) ∧ StreamAt H' d l ∧ Mv d H3 H') ⟨[], rfl, by decide, upd_same, S3.put nd1 nd2, .of (Ex.new hD)⟩ ?_ ?_
    · rintro i H4 hi ⟨bs, hb, hi4, hl4, S4, m4⟩
      refine ⟨rfl, lc_keep (tOp_go ?_)⟩
      refine x_pick (ev_var rfl) ev_c (by decide) (by decide) S4 fun g H5 g0 g1 S5 m5 => ⟨g, 0, rfl, rfl, bs.map V.bl, m5 _ _ hl4 nd1, by rw [List.length_map]; exact Nat.lt_of_le_of_lt (show bs.length ≤ 4 by omega) (by decide), bs ++ [decide (0 < g)], by rw [List.length_append, hb]; rfl, by omega, by rw [upd_same, List.map_append]; rfl, S5.put nd1 nd2, fun b o h n => ?_⟩
      rw [upd_ne (ne_of_none h hD)]
      exact m5 _ _ (m4 _ _ h n) n
    · rintro H4 ⟨bs, hb, _, hl4, S4, m4⟩
      obtain ⟨k3, hk3⟩ := S3.dk
      have hva4 := dp_mv m4 hk3 hva3
      have hvu4 := dp_mv m4 hk3 hvu3
      obtain ⟨b1, b2, b3, b4, rfl⟩ : ∃ b1 b2 b3 b4, bs = [b1, b2, b3, b4] := by
        match bs, hb with
        | [b1, b2, b3, b4], _ => exact ⟨b1, b2, b3, b4, rfl⟩
      refine tOp_go (EvU_go (eu_tup (ea_cons (ev_var rfl) (ea_cons (ev_var rfl) (ea_cons (ev_var rfl) ea_nil))) (by show 3 ≤ 100000; decide)) fun p H5 hp e5 h5 => ?_)
      refine EvU_go (eu_tupL' (ev_var rfl) (sq_of (e5 _ _ hl4))) fun q H6 hq e6 h6 => ?_
      refine ⟨p, q, _, _, rfl, rfl, st_of (e6 _ _ h5), st_of h6, by show 3 + 4 ≤ sizeLine; decide, (fun z => nomatch z), (fun _ z => nomatch z), fun _ _ t ht => ?_⟩
      have e47 := (e5.trans e6).trans (Ex.new (o := .tup ([va, vu, .int L] ++ [b1, b2, b3, b4].map V.bl)) ht)
      refine k t _ A U L b1 b2 b3 b4 ⟨alike_ok A hA, (unfit_ok U hU).1, fun o ho => (unfit_ok U hU).2 o ho⟩ (.tup (st_of upd_same) ?_) (S4.ex' e47) ((m03.trans m4).ex e47)
      exact .cons (dp_ex e47 hva4) (.cons (dp_ex e47 hvu4) (.cons (.int L) (.cons (.bl b1) (.cons (.bl b2) (.cons (.bl b3) (.cons (.bl b4) .nil))))))
end
end K0
end

set_option Elab.async false
set_option linter.all false
set_option maxRecDepth 100000
set_option maxHeartbeats 1000000
section
open PySem PySem.Spec PyProof.Rows L2 Evl Kv
local macro_rules | `(tactic| walk_at "sz") => `(tactic| first | with_reducible assumption | omega)
local macro_rules | `(tactic| walk_at "rv") => `(tactic| first
  | with_reducible exact rv_I0
  | ((with_reducible apply rv_addS); walk_at "sz")
  | ((with_reducible apply rv_mod); walk_at "sz")
  | ((with_reducible apply rv_eq); rfl)
  | ((with_reducible apply rv_ne); rfl)
  | ((with_reducible apply rv_ixS); walk_at "sz"; first | exact L2.atI_nat (by assumption) | rfl)
  | ((with_reducible apply rv_ixT); assumption; rfl)
  | ((with_reducible apply rv_ixL); assumption; rfl))
local macro_rules | `(tactic| walk_at "rc") => `(tactic| first
  | ((with_reducible apply rc_lenS); walk_at "sz")
  | with_reducible exact rc_ord
  | ((with_reducible apply rc_strI); walk_at "sz")
  | with_reducible exact rc_int1
  | with_reducible exact rc_int1b
  | with_reducible exact rc_max
  | ((with_reducible apply rc_lenT); assumption))
local macro_rules | `(tactic| walk_at "ea") => `(tactic| first
  | with_reducible exact ea_nil
  | ((with_reducible apply ea_cons); walk_at "ev"; walk_at "ea"))
local macro_rules | `(tactic| walk_at "ev") => `(tactic| first
  | ((with_reducible apply ev_var); rfl)
  | with_reducible exact ev_c
  | ((with_reducible apply ev_inU); walk_at "ev"; walk_at "eu"; rfl; rfl)
  | ((with_reducible apply ev_niU); walk_at "ev"; walk_at "eu"; rfl; rfl)
  | ((with_reducible apply ev_chain); walk_at "ev"; walk_at "ev"; walk_at "ev")
  | ((with_reducible apply ev_op); walk_at "ev"; walk_at "ev"; walk_at "rv")
  | ((with_reducible apply ev_cb); walk_at "ea"; walk_at "rc")
  | ((with_reducible apply ev_call); walk_at "ea"; walk_at "sp")
  | ((with_reducible apply ev_slS); walk_at "ev"; walk_at "eo"; walk_at "eo"; walk_at "sz")
  | ((with_reducible apply et_test); walk_at "ev")
  | ((with_reducible apply et_B); walk_at "ev")
  | ((with_reducible apply et_not); walk_at "ev")
  | ((with_reducible apply et_and); walk_at "ev"; (intro _; walk_at "ev"))
  | ((with_reducible apply et_or); walk_at "ev"; (intro _; walk_at "ev"))
  | ((with_reducible apply ev_andV); walk_at "ev"; (intro _; walk_at "ev"))
  | ((with_reducible apply ev_orV); walk_at "ev"; (intro _; walk_at "ev"))
  | ((with_reducible apply ev_notV); walk_at "ev"))
local macro_rules | `(tactic| walk_at "eo") => `(tactic| first
  | with_reducible exact eo_none
  | ((with_reducible apply eo_some); walk_at "ev"))
local macro_rules | `(tactic| walk_at "eu") => `(tactic| first
  | ((with_reducible apply eu_tup); walk_at "ea"; (simp only [List.length_cons, List.length_nil]; omega)))
namespace K0
open PySem PySem.Spec PyProof.Rows L2 Evl Kv
/-! ### a rule made -/
def spRInit (K : PySem.W.Frag) : Sp := fun vs H Q _ => ∃ (x dx : Addr) (va vu vl v1 v2 v3 v4 : V), vs = [.ref x, va, vu, vl, v1, v2, v3, v4] ∧ H x = some (.ins (He.ga K "Rule") dx []) ∧
  ∀ H', H' x = some (.ins (He.ga K "Rule") dx [("alike", va), ("unfit", vu), ("longest", vl), ("swaps", v1), ("reads", v2), ("cuts", v3), ("turns", v4)]) → (∀ b o, H b = some o → b ≠ x → H' b = some o) → Q .non H'
def spRuleOf (K : PySem.W.Frag) : Sp := fun vs H Q _ => ∃ (t : Addr) (A : List (Nat × Nat)) (U : List Str) (L : Int) (s1 s2 s3 s4 : Bool), vs = [.ref t] ∧ Dp K H (.ref t) (toldD A U L s1 s2 s3 s4) ∧
  ∀ r H' pa pu, Ex H H' → RuleAt K H' r A U L pa pu → Q (.ref r) H'
section
variable {P : Program} {w : World} {K : PySem.W.Frag} {mg : Str → Option Value} {base : Heap}
theorem ok_Rinit (T : Txt K mg) : ∃ fd, FunD K "__init__" "Rule.__init__" (defArgs s_Rule_init) (defBody s_Rule_init) (defScope s_Rule_init) [] (dd_Rule_init.kws K) (He.ma K (He.ga K "Rule") "__init__") fd ∧
    FnOk P w K mg base CX0 1 (He.ma K (He.ga K "Rule") "__init__") fd ["self", "alike", "unfit", "longest", "swaps", "reads", "cuts", "turns"] (spRInit K) := by
  obtain ⟨fd, F⟩ := T.f_Rule_init
  refine ⟨fd, F, FunD.ok F sc_Rule_init (fun vs H Q E h => ?_) (fun cdv A₀ outer s H vs Q E hr h => ?_)⟩
  · obtain ⟨x, dx, va, vu, vl, v1, v2, v3, v4, rfl, _⟩ := h
    rfl
  · obtain ⟨x, dx, va, vu, vl, v1, v2, v3, v4, rfl, hx, k⟩ := h
    refine ⟨_, PSs.nox (pss_cons (ps_fld (pv 0) (pv 1) rfl) (pss_cons (ps_fld (pv 0) (pv 2) rfl) (pss_cons (ps_fld (pv 0) (pv 3) rfl) (pss_cons (ps_fld (pv 0) (pv 4) rfl) (pss_cons (ps_fld (pv 0) (pv 5) rfl) (pss_cons (ps_fld (pv 0) (pv 6) rfl) (pss_one (ps_fld (pv 0) (pv 7) rfl)))))))), ?_⟩
    refine ⟨_, rfl, _, rfl, x, _, dx, [], rfl, hx, T.cl_Rule, T.na_Rule_alike, (by show 0 < 1000; decide), ?_⟩
    refine ⟨_, rfl, _, rfl, x, _, dx, _, rfl, upd_same, T.cl_Rule, T.na_Rule_unfit, (by show 1 < 1000; decide), ?_⟩
    refine ⟨_, rfl, _, rfl, x, _, dx, _, rfl, upd_same, T.cl_Rule, T.na_Rule_longest, (by show 2 < 1000; decide), ?_⟩
    refine ⟨_, rfl, _, rfl, x, _, dx, _, rfl, upd_same, T.cl_Rule, T.na_Rule_swaps, (by show 3 < 1000; decide), ?_⟩
    refine ⟨_, rfl, _, rfl, x, _, dx, _, rfl, upd_same, T.cl_Rule, T.na_Rule_reads, (by show 4 < 1000; decide), ?_⟩
    refine ⟨_, rfl, _, rfl, x, _, dx, _, rfl, upd_same, T.cl_Rule, T.na_Rule_cuts, (by show 5 < 1000; decide), ?_⟩
    refine ⟨_, rfl, _, rfl, x, _, dx, _, rfl, upd_same, T.cl_Rule, T.na_Rule_turns, (by show 6 < 1000; decide), ?_⟩
    refine k _ upd_same fun b o h n => ?_
    rw [upd_ne n, upd_ne n, upd_ne n, upd_ne n, upd_ne n, upd_ne n, upd_ne n]
    exact h
theorem c_ruleOf (T : Txt K mg) : Cal P w K mg base 3 "_law_rule_of" (spRuleOf K) := by
  obtain ⟨fd, F⟩ := T.f_law_rule_of
  refine cal_of F T.g_law_rule_of (F.bindsN fun _ _ _ _ _ _ us hl => match us, hl with | [_], _ => rfl) sc_law_rule_of (fun vs H Q E h => ?_) (fun cdv A₀ outer s H vs Q E hr h => ?_)
  · obtain ⟨t, A, U, L, s1, s2, s3, s4, rfl, _⟩ := h
    rfl
  · obtain ⟨t, A, U, L, s1, s2, s3, s4, rfl, ht, k⟩ := h
    have nd := sc_law_rule_of.nd
    obtain ⟨fdI, FI, GI⟩ := ok_Rinit (P := P) (w := w) (base := base) T
    obtain ⟨mv, KB⟩ := FI.kbinds0 (ps := ["self", "alike", "unfit", "longest", "swaps", "reads", "cuts", "turns"]) 1 ["alike", "unfit", "longest", "swaps", "reads", "cuts", "turns"] [] (fun vs mz zs => vs ++ zs) (by intro z; cases z) (fun q hq => nomatch hq)
      (fun r1 _ r2 => Vals.append r1 r2) (fun D doc pm an cdv ct us mv ws l1 l2 l3 => match us, mv, ws, l1, l2, l3 with | [_], [], [_, _, _, _, _, _, _], _, _, _ => rfl)
    refine ⟨_, pss_cons (ps_asg (pv 0) (pg_tup rfl (pgs_cons (pg_name (i := 1) nd rfl (Or.inl rfl)) (pgs_cons (pg_name (i := 2) nd rfl (Or.inl rfl)) (pgs_cons (pg_name (i := 3) nd rfl (Or.inl rfl)) (pgs_cons (pg_name (i := 4) nd rfl (Or.inl rfl))
        (pgs_cons (pg_name (i := 5) nd rfl (Or.inl rfl)) (pgs_cons (pg_name (i := 6) nd rfl (Or.inl rfl)) (pgs_cons (pg_name (i := 7) nd rfl (Or.inl rfl)) pgs_nil)))))))))
      (pss_one (ps_ret (pe_makeK0 T.mk_Rule GI hr rfl T.g_Rule KB pass0 (pk_cons (pv 1) (pk_cons (pv 2) (pk_cons (pv 3) (pk_cons (pv 4) (pk_cons (pv 5) (pk_cons (pv 6) (pk_cons (pv 7) pk_nil)))))))))), ?_⟩
    try dsimp only [cxOf, Cx.nox, Cx.wish]
    obtain ⟨t', vs, e, hT, hD⟩ := dp_tup ht
    cases e
    obtain ⟨va, r1, rfl, ha, hD⟩ : ∃ v r, vs = v :: r ∧ Dp K H v (.tuple (A.map pairD)) ∧ DpAll K H r [.tuple (U.map PyData.str), .int L, .bool s1, .bool s2, .bool s3, .bool s4] := by cases hD; exact ⟨_, _, rfl, by assumption, by assumption⟩
    obtain ⟨vu, r2, rfl, hu, hD⟩ : ∃ v r, r1 = v :: r ∧ Dp K H v (.tuple (U.map PyData.str)) ∧ DpAll K H r [.int L, .bool s1, .bool s2, .bool s3, .bool s4] := by cases hD; exact ⟨_, _, rfl, by assumption, by assumption⟩
    obtain rfl : r2 = [.int L, .bl s1, .bl s2, .bl s3, .bl s4] := by
      cases hD with | cons a b => cases b with | cons a2 b => cases b with | cons a3 b => cases b with | cons a4 b => cases b with | cons a5 b => cases b; rw [dp_int a, dp_bl a2, dp_bl a3, dp_bl a4, dp_bl a5]
    refine ⟨_, rfl, t, _, rfl, hT, rfl, ?_⟩
    refine ⟨_, _, rfl, _, _, rfl, _, _, rfl, _, _, rfl, _, _, rfl, _, _, rfl, _, _, rfl, rfl, ?_⟩
    refine ⟨_, rfl, _, rfl, _, rfl, _, rfl, _, rfl, _, rfl, _, rfl, rfl, rfl, fun x dx hx hdx ne => ?_⟩
    refine ⟨x, dx, va, vu, _, _, _, _, _, rfl, upd_same, fun H' h' m => ⟨rfl, ?_⟩⟩
    have e1 : Ex H H' := fun b o h => m b o (by rw [upd_ne (ne_of_none h hx), upd_ne (ne_of_none h hdx)]; exact h) (ne_of_none h hx)
    obtain ⟨pa, xa, rfl, hpa, hxa⟩ := dp_tup ha
    obtain ⟨pu, xu, rfl, hpu, hxu⟩ := dp_tup hu
    have exa : xa = A.map pairV := by
      have z := dpa_strs (xs := A.map fun p => (⟨#[p.1, p.2]⟩ : Str)) (by rw [List.map_map]; exact hxa)
      rw [z, List.map_map] <;> rfl
    have exu := dpa_strs hxu
    subst exa exu
    exact k x H' pa pu e1 ⟨⟨dx, s1, s2, s3, s4, h'⟩, ex_t e1 hpa, ex_t e1 hpu⟩
end
end K0
end

set_option Elab.async false
set_option linter.all false
set_option maxRecDepth 100000
set_option maxHeartbeats 1000000
section
open PySem PySem.Spec PyProof.Rows L2 Evl Kv
local macro_rules | `(tactic| walk_at "sz") => `(tactic| first | with_reducible assumption | omega)
local macro_rules | `(tactic| walk_at "rv") => `(tactic| first
  | with_reducible exact rv_I0
  | ((with_reducible apply rv_addS); walk_at "sz")
  | ((with_reducible apply rv_mod); walk_at "sz")
  | ((with_reducible apply rv_eq); rfl)
  | ((with_reducible apply rv_ne); rfl)
  | ((with_reducible apply rv_ixS); walk_at "sz"; first | exact L2.atI_nat (by assumption) | rfl)
  | ((with_reducible apply rv_ixT); assumption; rfl)
  | ((with_reducible apply rv_ixL); assumption; rfl))
local macro_rules | `(tactic| walk_at "rc") => `(tactic| first
  | ((with_reducible apply rc_lenS); walk_at "sz")
  | with_reducible exact rc_ord
  | ((with_reducible apply rc_strI); walk_at "sz")
  | with_reducible exact rc_int1
  | with_reducible exact rc_int1b
  | with_reducible exact rc_max
  | ((with_reducible apply rc_lenT); assumption))
local macro_rules | `(tactic| walk_at "ea") => `(tactic| first
  | with_reducible exact ea_nil
  | ((with_reducible apply ea_cons); walk_at "ev"; walk_at "ea"))
local macro_rules | `(tactic| walk_at "ev") => `(tactic| first
  | ((with_reducible apply ev_var); rfl)
  | with_reducible exact ev_c
  | ((with_reducible apply ev_inU); walk_at "ev"; walk_at "eu"; rfl; rfl)
  | ((with_reducible apply ev_niU); walk_at "ev"; walk_at "eu"; rfl; rfl)
  | ((with_reducible apply ev_chain); walk_at "ev"; walk_at "ev"; walk_at "ev")
  | ((with_reducible apply ev_op); walk_at "ev"; walk_at "ev"; walk_at "rv")
  | ((with_reducible apply ev_cb); walk_at "ea"; walk_at "rc")
  | ((with_reducible apply ev_call); walk_at "ea"; walk_at "sp")
  | ((with_reducible apply ev_slS); walk_at "ev"; walk_at "eo"; walk_at "eo"; walk_at "sz")
  | ((with_reducible apply et_test); walk_at "ev")
  | ((with_reducible apply et_B); walk_at "ev")
  | ((with_reducible apply et_not); walk_at "ev")
  | ((with_reducible apply et_and); walk_at "ev"; (intro _; walk_at "ev"))
  | ((with_reducible apply et_or); walk_at "ev"; (intro _; walk_at "ev"))
  | ((with_reducible apply ev_andV); walk_at "ev"; (intro _; walk_at "ev"))
  | ((with_reducible apply ev_orV); walk_at "ev"; (intro _; walk_at "ev"))
  | ((with_reducible apply ev_notV); walk_at "ev"))
local macro_rules | `(tactic| walk_at "eo") => `(tactic| first
  | with_reducible exact eo_none
  | ((with_reducible apply eo_some); walk_at "ev"))
local macro_rules | `(tactic| walk_at "eu") => `(tactic| first
  | ((with_reducible apply eu_tup); walk_at "ea"; (simp only [List.length_cons, List.length_nil]; omega)))
namespace K0
open PySem PySem.Spec PyProof.Rows L2 Evl Kv
/-! ### data of texts -/
theorem ed_strs {K : PySem.W.Frag} {H : Hp} {p : Addr} {xs : List Str} (h : H p = some (.lst (xs.map V.str))) : Dp K H (.ref p) (.list (xs.map PyData.str)) := .lst (sq_of h) (dpa_of_strs xs)
theorem shaped_strs {xs : List Str} (h : ∀ x ∈ xs, PyData.strOk x = true) : SeqAt.shaped (.list (xs.map PyData.str)) = true ∧ SeqAt.shaped (.tuple (xs.map PyData.str)) = true := by
  have h1 : ∀ xs : List Str, (∀ x ∈ xs, PyData.strOk x = true) → PyData.canLayAll0 (xs.map PyData.str) = true := by
    intro xs
    induction xs with
    | nil => intro _; rfl
    | cons x r ih => intro h; rw [List.map_cons, PyData.canLayAll0, ih fun y hy => h y (List.mem_cons_of_mem _ hy)]; simp [PyData.canLay0, h x (List.mem_cons_self ..)]
  have h2 : ∀ xs : List Str, PyData.depthAll (xs.map PyData.str) = 0 := by
    intro xs
    induction xs with
    | nil => rfl
    | cons x r ih => rw [List.map_cons, PyData.depthAll, ih]; simp [PyData.depth]
  unfold SeqAt.shaped
  simp [PyData.canLay0, PyData.depth, h1 xs h, h2 xs]
theorem eqv_nil (xs : List Str) : PyData.eqv (.list (xs.map PyData.str)) (.list []) = xs.isEmpty := by
  cases xs with
  | nil => simp [PyData.eqv, PyData.eqvAll]
  | cons x r => simp [PyData.eqv, PyData.eqvAll]
theorem rv_eqD {K : PySem.W.Frag} {x y : V} {H : Hp} {d e : PyData} (hx : Dp K H x d) (hy : Dp K H y e) (h1 : SeqAt.shaped d = true) (h2 : SeqAt.shaped e = true) : RV (rEqD K) x y H (.bl (PyData.eqv d e)) := fun H1 ex _ q => ⟨d, e, dp_ex ex hx, dp_ex ex hy, h1, h2, q H1 (Ex.refl H1)⟩
theorem rv_neD {K : PySem.W.Frag} {x y : V} {H : Hp} {d e : PyData} (hx : Dp K H x d) (hy : Dp K H y e) (h1 : SeqAt.shaped d = true) (h2 : SeqAt.shaped e = true) : RV (rNeD K) x y H (.bl (!PyData.eqv d e)) := fun H1 ex _ q => ⟨d, e, dp_ex ex hx, dp_ex ex hy, h1, h2, q H1 (Ex.refl H1)⟩
theorem el_cat {σ : L2.St} {H : Hp} {ta tb : TE} {a : Addr} {xs ys : List V} (ha : Ev ta σ H (.ref a)) (hA : H a = some (.lst xs)) (hb : EvL tb σ H ys) (hz : xs.length + ys.length ≤ 100000) : EvL (tOp rCat ta tb) σ H (xs ++ ys) := fun H1 e _ q =>
  ha H1 e _ fun H2 e2 => hb H2 (e.trans e2) _ fun p H3 hp e3 h3 => ⟨a, p, xs, ys, rfl, rfl, ((e.trans e2).trans e3) _ _ hA, h3, sz_of hz, fun r hr => q r _ (fresh_back (e2.trans e3) hr) ((e2.trans e3).trans (Ex.new hr)) upd_same⟩
theorem strOk_mem {x : Str} (h : PyData.strOk x = true) {c : Nat} (hc : c ∈ tl x) : PyData.strOk ⟨#[c]⟩ = true := by
  unfold PyData.strOk at h ⊢
  have h2 : x.cps.toList.all (fun c => decide (c < 0x110000)) = true := by rw [← h]; simp
  have := List.all_eq_true.mp h2 c hc
  simpa using this
/-! ### what a name counts as -/
def caOf (A : List (Nat × Nat)) (x : Str) : Str := ⟨((tl x).map (cpOf A)).toArray⟩
theorem caOf_tl (A : List (Nat × Nat)) (x : Str) : tl (caOf A x) = (tl x).map (cpOf A) := by unfold caOf; simp
theorem caOf_len (A : List (Nat × Nat)) (x : Str) : (caOf A x).length = x.length := by rw [len_tl, caOf_tl, len_tl x, List.length_map]
theorem sameN_ca (A : List (Nat × Nat)) (x y : Str) : sameN A x y = decide (caOf A x = caOf A y) := by
  unfold sameN
  by_cases h : (tl x).map (cpOf A) = (tl y).map (cpOf A)
  · rw [decide_eq_true h, decide_eq_true (show caOf A x = caOf A y by unfold caOf; rw [h])]
  · rw [decide_eq_false h, decide_eq_false fun z => h (by rw [← caOf_tl, ← caOf_tl, z])]
def spCounts (K : PySem.W.Frag) : Sp := fun vs H Q _ => ∃ (t : Addr) (A : List (Nat × Nat)) (U : List Str) (L : Int) (s1 s2 s3 s4 : Bool) (x : Str), vs = [.ref t, .str x] ∧ Dp K H (.ref t) (toldD A U L s1 s2 s3 s4) ∧ A.length ≤ 1000 ∧ x.length ≤ 20000 ∧ RetV (.str (caOf A x)) H Q
theorem sv_counts {K : PySem.W.Frag} {H : Hp} {t : Addr} {A : List (Nat × Nat)} {U : List Str} {L : Int} {s1 s2 s3 s4 : Bool} {x : Str} (h : Dp K H (.ref t) (toldD A U L s1 s2 s3 s4)) (hA : A.length ≤ 1000) (hx : x.length ≤ 20000) :
    SpV (spCounts K) ([.ref t, .str x] ++ []) H (.str (caOf A x)) := fun H1 e Q q E => ⟨t, A, U, L, s1, s2, s3, s4, x, rfl, dp_ex e h, hA, hx, q⟩
/-- the parts of a told rule -/
theorem told_parts {K : PySem.W.Frag} {H : Hp} {t : Addr} {A : List (Nat × Nat)} {U : List Str} {L : Int} {s1 s2 s3 s4 : Bool} (h : Dp K H (.ref t) (toldD A U L s1 s2 s3 s4)) :
    ∃ pa pu vs, SqT K H t vs ∧ atI vs 0 = some (.ref pa) ∧ atI vs 1 = some (.ref pu) ∧ atI vs 2 = some (.int L) ∧ SqT K H pa (A.map pairV) ∧ SqT K H pu (U.map V.str) := by
  obtain ⟨t', vs, e, hT, hD⟩ := dp_tup h
  cases e
  cases hD with | cons a b => cases b with | cons a2 b => cases b with | cons a3 b =>
  obtain ⟨pa, xa, rfl, hpa, hxa⟩ := dp_tup a
  obtain ⟨pu, xu, rfl, hpu, hxu⟩ := dp_tup a2
  obtain rfl := dp_int a3
  have exa : xa = A.map pairV := by
    have z := dpa_strs (xs := A.map fun p => (⟨#[p.1, p.2]⟩ : Str)) (by rw [List.map_map]; exact hxa)
    rw [z, List.map_map] <;> rfl
  have exu := dpa_strs hxu
  subst exa exu
  exact ⟨pa, pu, _, hT, L2.atI_nat (j := 0) rfl, L2.atI_nat (j := 1) rfl, L2.atI_nat (j := 2) rfl, hpa, hpu⟩
section
variable {P : Program} {w : World} {K : PySem.W.Frag} {mg : Str → Option Value} {base : Heap}
theorem c_counts (T : Txt K mg) : Cal P w K mg base 1 "_law_counts_as" (spCounts K) := by
  obtain ⟨fd, F⟩ := T.f_law_counts_as
  refine cal_of F T.g_law_counts_as (F.bindsN fun _ _ _ _ _ _ us hl => match us, hl with | [_, _], _ => rfl) sc_law_counts_as (fun vs H Q E h => ?_) (fun cdv A₀ outer s H vs Q E hr h => ?_)
  · obtain ⟨t, A, U, L, s1, s2, s3, s4, x, rfl, _⟩ := h
    rfl
  · obtain ⟨t, A, U, L, s1, s2, s3, s4, x, rfl, ht, hA, hx, k⟩ := h
    have nd := sc_law_counts_as.nd
    refine ⟨_, pss_cons (ps_set (i := 2) nd rfl (Or.inl rfl) pe_str)
      (pss_cons (ps_for PassesOwn.never rfl (pi_str (pv 1)) (pg_name (i := 3) nd rfl (Or.inr rfl))
        (pss_cons (ps_setLc (i := 4) (own := [("pair", 5)]) (g := gName 5) rfl nd rfl rfl (sw_true rfl rfl rfl (by decide +kernel)) (pi_tup (pe_ix ix_tup (pv 0) pe_int (fun _ _ => rfl)))
          (blkOk_by (own := [("pair", 5)]) (N := ["rule", "name", "found", "sign", "pairs", "pair"]) (sc := defScope s_law_counts_as) (by decide +kernel)) (fun _ _ _ _ _ => pg_name (i := 5) nd rfl (Or.inl rfl))
          (fun _ _ _ _ _ => pts_one (pt_cmpR op_eq (pe_ix ix_str (pv 5) pe_int (fun _ _ => rfl)) (pv 3) (nomark _))) (fun _ _ _ _ _ => pe_ix ix_str (pv 5) pe_int (fun _ _ => rfl)))
        (pss_one (ps_set (i := 2) nd rfl (Or.inl rfl) (pe_op op_add_str (pv 2) (pe_ix ix_list (pe_op op_cat (pv 4) (pe_lst (pa_cons (pv 3) pa_nil))) pe_int (fun _ _ => rfl)))))))
      (pss_one (ps_ret (pv 2)))), ?_⟩
    try dsimp only [cxOf, Cx.nox, Cx.wish]
    obtain ⟨pa, pu, vs, hT, h0, h1, h2, hpa, hpu⟩ := told_parts ht
    refine q_asg (v := .str "") ev_c fun H1 e1 => ?_
    refine q_forS (ev_var rfl) (fun i σ H' => (∃ v3 v4, σ = [some (.ref t), some (.str x), some (.str ⟨(((tl x).take i).map (cpOf A)).toArray⟩), v3, v4, none]) ∧ Ex H H' ∧ i ≤ (tl x).length) (fun H2 e2 => ⟨⟨_, _, rfl⟩, e1.trans e2, Nat.zero_le _⟩) ?_ ?_
    · rintro i c σ' H' hi ⟨⟨v3, v4, rfl⟩, e2, hle⟩
      have hlt : i < (tl x).length := (List.getElem?_eq_some_iff.mp hi).1
      have hlx := len_tl x
      have hlc := el_lcT (K := K) (σ := [some (V.ref t), some (V.str x), some (.str ⟨(((tl x).take i).map (cpOf A)).toArray⟩), some (.str ⟨#[c]⟩), v4, none]) (j := 5) (vs := [5]) (H := H') (tlx := tOp (rIxT K) (tVar 0) (tC (.int 0)))
        (t := tTest (tOp rEq (tOp rIxS (tVar 5) (tC (.int 0))) (tVar 3))) (te := tOp rIxS (tVar 5) (tC (.int 1)))
        (fun i => (A[i]?.map fun p => p.1 == c).getD false) (fun i => (A[i]?.map fun p => V.str ⟨#[p.2]⟩).getD .non) (ev_op (ev_var rfl) ev_c (rv_ixT (ex_t e2 hT) h0)) (ex_t e2 hpa) (by rw [List.length_map]; omega) (fun _ => rfl)
        (fun i y H1 _ hy => by
          rw [List.getElem?_map] at hy
          cases q : A[i]? with
          | none => rw [q] at hy; cases hy
          | some p =>
            rw [q] at hy
            cases hy
            show EvT _ _ _ (p.1 == c)
            rw [← dec_str1]
            exact et_test (ev_op (ev_op (ev_var rfl) ev_c (rv_ixS (by show 2 ≤ 100000; decide) rfl)) (ev_var rfl) (rv_eq rfl)))
        (fun i y H1 _ hy _ => by
          rw [List.getElem?_map] at hy
          cases q : A[i]? with
          | none => rw [q] at hy; cases hy
          | some p =>
            rw [q] at hy
            cases hy
            exact ev_op (ev_var rfl) ev_c (rv_ixS (by show 2 ≤ 100000; decide) rfl))
      rw [List.length_map, given_all] at hlc
      refine q_asgL hlc fun p H2 hp e3 h3 => ?_
      have hfl : (A.filter fun p => p.1 == c).length ≤ A.length := List.length_filter_le _ _
      have hcp : atI ((A.filter fun p => p.1 == c).map (fun p => V.str ⟨#[p.2]⟩) ++ [V.str ⟨#[c]⟩]) 0 = some (.str ⟨#[cpOf A c]⟩) := by
        refine L2.atI_nat (j := 0) ?_
        have e : cpOf A c = ((A.filter fun p => p.1 == c).head?.map (·.2)).getD c := by unfold cpOf; rw [List.head?_filter]
        rw [e]
        cases q : A.filter fun p => p.1 == c with
        | nil => rfl
        | cons a b => rfl
      refine s_asg (v := .str ⟨(((tl x).take (i + 1)).map (cpOf A)).toArray⟩) ?_ fun H3 e4 => ⟨⟨_, _, rfl⟩, (e2.trans e3).trans e4, by omega⟩
      have e : (⟨(((tl x).take (i + 1)).map (cpOf A)).toArray⟩ : Str) = ⟨(((tl x).take i).map (cpOf A)).toArray⟩ ++ ⟨#[cpOf A c]⟩ := by
        refine ext_tl ?_
        rw [List.take_succ, hi]
        show _ = ((((tl x).take i).map (cpOf A)).toArray ++ #[cpOf A c]).toList
        simp
      rw [e]
      refine ev_op (ev_var rfl) (ev_opL1 (el_cat (ev_var rfl) h3 (el_lst (ea_cons (ev_var rfl) ea_nil) (by show 1 ≤ 100000; decide)) (by rw [List.length_map]; show _ + 1 ≤ 100000; omega)) (fun _ _ => ev_c) fun q H4 hq _ => rv_ixL (sq_of hq) hcp) (rv_addS ?_)
      have : (⟨(((tl x).take i).map (cpOf A)).toArray⟩ : Str).length ≤ 20000 := by rw [len_tl]; simp; omega
      have h1 : (⟨#[cpOf A c]⟩ : Str).length = 1 := rfl
      omega
    · rintro σ' H' ⟨⟨v3, v4, rfl⟩, e2, hle⟩
      refine s_ret (ev_var rfl) fun H3 e3 => ?_
      rw [List.take_length]
      exact k H3 (e2.trans e3)
end
end K0
end

set_option Elab.async false
set_option linter.all false
set_option maxRecDepth 100000
set_option maxHeartbeats 1000000
section
open PySem PySem.Spec PyProof.Rows L2 Evl Kv
local macro_rules | `(tactic| walk_at "sz") => `(tactic| first | with_reducible assumption | omega)
local macro_rules | `(tactic| walk_at "rv") => `(tactic| first
  | with_reducible exact rv_I0
  | ((with_reducible apply rv_addS); walk_at "sz")
  | ((with_reducible apply rv_mod); walk_at "sz")
  | ((with_reducible apply rv_eq); rfl)
  | ((with_reducible apply rv_ne); rfl)
  | ((with_reducible apply rv_ixS); walk_at "sz"; first | exact L2.atI_nat (by assumption) | rfl)
  | ((with_reducible apply rv_ixT); assumption; rfl)
  | ((with_reducible apply rv_ixL); assumption; rfl))
local macro_rules | `(tactic| walk_at "rc") => `(tactic| first
  | ((with_reducible apply rc_lenS); walk_at "sz")
  | with_reducible exact rc_ord
  | ((with_reducible apply rc_strI); walk_at "sz")
  | with_reducible exact rc_int1
  | with_reducible exact rc_int1b
  | with_reducible exact rc_max
  | ((with_reducible apply rc_lenT); assumption))
local macro_rules | `(tactic| walk_at "ea") => `(tactic| first
  | with_reducible exact ea_nil
  | ((with_reducible apply ea_cons); walk_at "ev"; walk_at "ea"))
local macro_rules | `(tactic| walk_at "ev") => `(tactic| first
  | ((with_reducible apply ev_var); rfl)
  | with_reducible exact ev_c
  | ((with_reducible apply ev_inU); walk_at "ev"; walk_at "eu"; rfl; rfl)
  | ((with_reducible apply ev_niU); walk_at "ev"; walk_at "eu"; rfl; rfl)
  | ((with_reducible apply ev_chain); walk_at "ev"; walk_at "ev"; walk_at "ev")
  | ((with_reducible apply ev_op); walk_at "ev"; walk_at "ev"; walk_at "rv")
  | ((with_reducible apply ev_cb); walk_at "ea"; walk_at "rc")
  | ((with_reducible apply ev_call); walk_at "ea"; walk_at "sp")
  | ((with_reducible apply ev_slS); walk_at "ev"; walk_at "eo"; walk_at "eo"; walk_at "sz")
  | ((with_reducible apply et_test); walk_at "ev")
  | ((with_reducible apply et_B); walk_at "ev")
  | ((with_reducible apply et_not); walk_at "ev")
  | ((with_reducible apply et_and); walk_at "ev"; (intro _; walk_at "ev"))
  | ((with_reducible apply et_or); walk_at "ev"; (intro _; walk_at "ev"))
  | ((with_reducible apply ev_andV); walk_at "ev"; (intro _; walk_at "ev"))
  | ((with_reducible apply ev_orV); walk_at "ev"; (intro _; walk_at "ev"))
  | ((with_reducible apply ev_notV); walk_at "ev"))
local macro_rules | `(tactic| walk_at "eo") => `(tactic| first
  | with_reducible exact eo_none
  | ((with_reducible apply eo_some); walk_at "ev"))
local macro_rules | `(tactic| walk_at "eu") => `(tactic| first
  | ((with_reducible apply eu_tup); walk_at "ea"; (simp only [List.length_cons, List.length_nil]; omega)))
namespace K0
open PySem PySem.Spec PyProof.Rows L2 Evl Kv
/-! ### the law's own is_name, fits -/
def spIsNameL : Sp := fun vs H Q _ => ∃ x : Str, vs = [.str x] ∧ OkS 20000 x ∧ RetV (.bl (isName x)) H Q
def spFitsL (K : PySem.W.Frag) : Sp := fun vs H Q _ => ∃ (t : Addr) (A : List (Nat × Nat)) (U : List Str) (L : Int) (s1 s2 s3 s4 : Bool) (x : Str), vs = [.ref t, .str x] ∧ Dp K H (.ref t) (toldD A U L s1 s2 s3 s4) ∧ OkRule A U ∧ OkS 20000 x ∧ RetV (.bl (fitsB A U L x)) H Q
theorem sv_isNameL {H : Hp} {x : Str} (h : OkS 20000 x) : SpV spIsNameL ([.str x] ++ []) H (.bl (isName x)) := fun H1 e Q q E => ⟨x, rfl, h, q⟩
theorem sv_fitsL {K : PySem.W.Frag} {H : Hp} {t : Addr} {A : List (Nat × Nat)} {U : List Str} {L : Int} {s1 s2 s3 s4 : Bool} {x : Str} (h : Dp K H (.ref t) (toldD A U L s1 s2 s3 s4)) (hA : OkRule A U) (hx : OkS 20000 x) :
    SpV (spFitsL K) ([.ref t, .str x] ++ []) H (.bl (fitsB A U L x)) := fun H1 e Q q E => ⟨t, A, U, L, s1, s2, s3, s4, x, rfl, dp_ex e h, hA, hx, q⟩
theorem filter_all (l : List Nat) : (l.filter badC).isEmpty = l.all fun c => !badC c := by
  induction l with
  | nil => rfl
  | cons c r ih =>
    rw [List.filter_cons, List.all_cons, ← ih]
    cases h : badC c <;> simp
theorem isName_eq (x : Str) : ((decide ((1 : Int) ≤ (x.length : Nat)) && decide (((x.length : Nat) : Int) ≤ 100)) && (!inV (.str x) [.str ".", .str ".."] && (((tl x).filter badC).map fun c => (⟨#[c]⟩ : Str)).isEmpty)) = isName x := by
  unfold isName
  rw [List.isEmpty_map, filter_all]
  cases (decide ((1 : Int) ≤ (x.length : Nat)) && decide (((x.length : Nat) : Int) ≤ 100)) <;> cases inV (.str x) [.str ".", .str ".."] <;> rfl
theorem inV_strs (x : Str) : ∀ xs : List Str, inV (.str x) (xs.map V.str) = xs.any fun y => decide (y = x)
  | [] => rfl
  | y :: r => by
    have ih := inV_strs x r
    unfold inV at ih ⊢
    rw [List.map_cons, List.any_cons, List.any_cons, ih]
    have e : eqV (.str y) (.str x) = decide (y = x) := by
      show (y == x) = _
      by_cases h : y = x
      · subst h; simp
      · rw [decide_eq_false h]; simpa using h
    rw [e]
theorem flat_strs (xs : List Str) : (xs.map V.str).all flatV = true := by
  rw [List.all_map]
  exact List.all_eq_true.mpr fun _ _ => rfl
theorem inUse_ca (A : List (Nat × Nat)) (U : List Str) (x : Str) : inV (.str (caOf A x)) ((U.map (caOf A)).map V.str) = inUse A U x := by
  rw [inV_strs, List.any_map]
  unfold inUse
  congr 1
  funext o
  rw [sameN_ca]
  rfl
section
variable {P : Program} {w : World} {K : PySem.W.Frag} {mg : Str → Option Value} {base : Heap}
theorem c_isNameL (T : Txt K mg) : Cal P w K mg base 1 "_law_is_name" spIsNameL := by
  obtain ⟨fd, F⟩ := T.f_law_is_name
  refine cal_of F T.g_law_is_name (F.bindsN fun _ _ _ _ _ _ us hl => match us, hl with | [_], _ => rfl) sc_law_is_name (fun vs H Q E h => ?_) (fun cdv A₀ outer s H vs Q E hr h => ?_)
  · obtain ⟨x, rfl, _⟩ := h
    rfl
  · obtain ⟨x, rfl, ⟨hx, hok⟩, k⟩ := h
    have nd := sc_law_is_name.nd
    refine ⟨_, pss_one (ps_ret (pe_and (pe_chain op_le op_le pe_int (pe_callB call_len_str (by rfl) T.b_len (by decide +kernel) (pa_cons (pv 0) pa_nil)) pe_int)
      (pe_and (pe_cmpR op_notIn_seq (pv 0) (pe_tup (pa_cons pe_str (pa_cons pe_str pa_nil))) (by rfl))
      (pe_one (pe_cmpR (op_eqD hr.units) (pe_lc (own := [("sign", 1)]) (g := gName 1) rfl nd (pi_str (pv 0)) (blkOk_by (own := [("sign", 1)]) (N := ["text", "sign"]) (sc := defScope s_law_is_name) (by decide +kernel))
        (fun _ _ _ _ _ => pg_name (i := 1) nd rfl (Or.inl rfl)) (fun _ _ _ _ _ => pts_one (PW.pt (pw_or (pt_cmpR op_lt (pe_callB call_ord (by rfl) T.b_ord (by decide +kernel) (pa_cons (pv 1) pa_nil)) pe_int (nomark _))
          (pw_or1 (pt_cmpR op_eq (pv 1) pe_str (nomark _)))))) (fun _ _ _ _ _ => pv 1)) (pe_lst pa_nil) (nomark _)))))), ?_⟩
    try dsimp only [cxOf, Cx.nox, Cx.wish]
    have hlx := len_tl x
    have hlc := el_lcS (σ := [some (.str x), none]) (j := 1) (vs := [1]) (H := H) (tx := tVar 0)
      (t := tOr (tTest (tOp (rI0 fun i j => V.bl (decide (i < j))) (tCB (fun xs H Q => ∃ x, xs = [V.str x] ∧ x.length = 1 ∧ Q (V.int ↑(x.cps.getD 0 0)) H) (tCons (tVar 1) tNil)) (tC (V.int 32)))) (tTest (tOp rEq (tVar 1) (tC (V.str (Str.ofString "/"))))))
      (te := tVar 1) (fun i => ((tl x)[i]?.map badC).getD false) (fun i => ((tl x)[i]?.map fun c => V.str ⟨#[c]⟩).getD .non) (ev_var rfl) (by omega) (fun _ => rfl)
      (fun i c H1 _ hc => by
        rw [hc]
        show EvT _ _ _ (badC c)
        unfold badC
        walk_at "ev")
      (fun i c H1 _ hc _ => by
        rw [hc]
        exact ev_var rfl)
    rw [hlx, given_all] at hlc
    have em : ((tl x).filter badC).map (fun c => V.str ⟨#[c]⟩) = (((tl x).filter badC).map fun c => (⟨#[c]⟩ : Str)).map V.str := by rw [List.map_map]; rfl
    rw [em] at hlc
    refine s_ret (v := .bl (isName x)) ?_ fun H1 e1 => k H1 e1
    rw [← isName_eq]
    refine ev_andV (by walk_at "ev") fun _ => ev_andV (by walk_at "ev") fun _ => ev_opLL hlc (el_lst ea_nil (by decide)) fun p q H1 hp hq _ => ?_
    rw [← eqv_nil]
    exact rv_eqD (ed_strs hp) (.lst (sq_of hq) .nil) (shaped_strs fun y hy => by
      obtain ⟨c, hc, rfl⟩ := List.mem_map.mp hy
      exact strOk_mem hok (List.mem_filter.mp hc).1).1 (by decide)
theorem c_fitsL (T : Txt K mg) : Cal P w K mg base 2 "_law_fits" (spFitsL K) := by
  obtain ⟨fd, F⟩ := T.f_law_fits
  refine cal_of F T.g_law_fits (F.bindsN fun _ _ _ _ _ _ us hl => match us, hl with | [_, _], _ => rfl) sc_law_fits (fun vs H Q E h => ?_) (fun cdv A₀ outer s H vs Q E hr h => ?_)
  · obtain ⟨t, A, U, L, s1, s2, s3, s4, x, rfl, _⟩ := h
    rfl
  · obtain ⟨t, A, U, L, s1, s2, s3, s4, x, rfl, ht, ok, hx, k⟩ := h
    have nd := sc_law_fits.nd
    refine ⟨_, pss_cons (ps_if (PW.pt (pw_or (pt_not (pt_val (pe_c (c_isNameL T) hr (by decide) rfl (pa_cons (pv 1) pa_nil)))) (pw_or1 (pt_cmpR op_gt (pe_callB call_len_str (by rfl) T.b_len (by decide +kernel) (pa_cons (pv 1) pa_nil)) (pe_ix ix_tup (pv 0) pe_int (fun _ _ => rfl)) (nomark _)))))
        (pss_one (ps_ret pe_bl)) pss_nil)
      (pss_one (ps_ret (pe_cmpR op_notIn_seq (pe_c (c_counts T) hr (by decide) rfl (pa_cons (pv 0) (pa_cons (pv 1) pa_nil)))
        (pe_lc (own := [("other", 2)]) (g := gName 2) rfl nd (pi_tup (pe_ix ix_tup (pv 0) pe_int (fun _ _ => rfl))) (blkOk_by (own := [("other", 2)]) (N := ["rule", "name", "other"]) (sc := defScope s_law_fits) (by decide +kernel))
          (fun _ _ _ _ _ => pg_name (i := 2) nd rfl (Or.inl rfl)) (fun _ _ _ _ _ => pts_nil) (fun _ _ _ _ _ => pe_c (c_counts T) hr (by decide) rfl (pa_cons (pv 0) (pa_cons (pv 2) pa_nil)))) (by rfl)))), ?_⟩
    try dsimp only [cxOf, Cx.nox, Cx.wish]
    obtain ⟨pa, pu, vs, hT, h0, h1, h2, hpa, hpu⟩ := told_parts ht
    have hx1 := hx.1
    refine q_when (b := !isName x || decide (L < (x.length : Int))) (et_or (et_not (et_B (ev_call (ea_cons (ev_var rfl) ea_nil) (sv_isNameL hx)))) fun _ => et_test (ev_op (by walk_at "ev") (ev_op (ev_var rfl) ev_c (rv_ixT hT h2)) rv_I0)) (fun hb H1 e1 => s_ret ev_c fun H2 e2 => ?_) (fun hb H1 e1 => ?_)
    · have e : fitsB A U L x = false := by
        unfold fitsB
        cases hn : isName x with
        | false => rfl
        | true =>
          rw [hn] at hb
          have hb' : L < (x.length : Int) := by simpa using hb
          rw [decide_eq_false (show ¬ (x.length : Int) ≤ L by omega)]
          rfl
      rw [← e]
      exact k H2 (e1.trans e2)
    · have hb1 : isName x = true ∧ (x.length : Int) ≤ L := by
        cases hn : isName x with
        | false => rw [hn] at hb; cases hb
        | true =>
          rw [hn] at hb
          have hb' : ¬ L < (x.length : Int) := by simpa using hb
          exact ⟨rfl, by omega⟩
      have hlc := el_lcT (K := K) (σ := [some (.ref t), some (.str x), none]) (j := 2) (vs := [2]) (H := H) (tlx := tOp (rIxT K) (tVar 0) (tC (.int 1)))
        (t := tYes) (te := tCall (spCounts K) [] E0 (tCons (tVar 0) (tCons (tVar 2) tNil)))
        (fun i => (U[i]?.map fun _ => true).getD false) (fun i => (U[i]?.map fun o => V.str (caOf A o)).getD .non) (ev_op (ev_var rfl) ev_c (rv_ixT hT h1)) hpu (by rw [List.length_map]; have := ok.ul; omega) (fun _ => rfl)
        (fun i y H1 _ hy => by
          rw [List.getElem?_map] at hy
          cases q : U[i]? with
          | none => rw [q] at hy; cases hy
          | some p => exact et_yes)
        (fun i y H1 e1 hy _ => by
          rw [List.getElem?_map] at hy
          cases q : U[i]? with
          | none => rw [q] at hy; cases hy
          | some p =>
            rw [q] at hy
            cases hy
            exact ev_call (ea_cons (ev_var rfl) (ea_cons (ev_var rfl) ea_nil)) (sv_counts (dp_ex e1 ht) ok.al (by have := (ok.us p (List.mem_of_getElem? q)).1; omega)))
      rw [List.length_map, given_all] at hlc
      have em : (U.filter fun _ => true).map (fun o => V.str (caOf A o)) = (U.map (caOf A)).map V.str := by
        rw [List.map_map, List.filter_eq_self.mpr fun _ _ => rfl]
        rfl
      rw [em] at hlc
      refine s_ret (v := .bl (fitsB A U L x)) ?_ fun H2 e2 => k H2 (e1.trans e2)
      have e : fitsB A U L x = !inV (.str (caOf A x)) ((U.map (caOf A)).map V.str) := by
        rw [inUse_ca]
        unfold fitsB
        rw [hb1.1, decide_eq_true hb1.2]
        rfl
      rw [e]
      exact ev_opL (ev_call (ea_cons (ev_var rfl) (ea_cons (ev_var rfl) ea_nil)) (sv_counts (dp_ex e1 ht) ok.al (by omega))) (hlc.mono e1) fun p H3 hp _ => rv_niL (sq_of hp) rfl (flat_strs _)
end
end K0
end

set_option Elab.async false
set_option linter.all false
set_option maxRecDepth 100000
set_option maxHeartbeats 1000000
section
open PySem PySem.Spec PyProof.Rows L2 Evl Kv
local macro_rules | `(tactic| walk_at "sz") => `(tactic| first | with_reducible assumption | omega)
local macro_rules | `(tactic| walk_at "rv") => `(tactic| first
  | with_reducible exact rv_I0
  | ((with_reducible apply rv_addS); walk_at "sz")
  | ((with_reducible apply rv_mod); walk_at "sz")
  | ((with_reducible apply rv_eq); rfl)
  | ((with_reducible apply rv_ne); rfl)
  | ((with_reducible apply rv_ixS); walk_at "sz"; first | exact L2.atI_nat (by assumption) | rfl)
  | ((with_reducible apply rv_ixT); assumption; rfl)
  | ((with_reducible apply rv_ixL); assumption; rfl))
local macro_rules | `(tactic| walk_at "rc") => `(tactic| first
  | ((with_reducible apply rc_lenS); walk_at "sz")
  | with_reducible exact rc_ord
  | ((with_reducible apply rc_strI); walk_at "sz")
  | with_reducible exact rc_int1
  | with_reducible exact rc_int1b
  | with_reducible exact rc_max
  | ((with_reducible apply rc_lenT); assumption))
local macro_rules | `(tactic| walk_at "ea") => `(tactic| first
  | with_reducible exact ea_nil
  | ((with_reducible apply ea_cons); walk_at "ev"; walk_at "ea"))
local macro_rules | `(tactic| walk_at "ev") => `(tactic| first
  | ((with_reducible apply ev_var); rfl)
  | with_reducible exact ev_c
  | ((with_reducible apply ev_inU); walk_at "ev"; walk_at "eu"; rfl; rfl)
  | ((with_reducible apply ev_niU); walk_at "ev"; walk_at "eu"; rfl; rfl)
  | ((with_reducible apply ev_chain); walk_at "ev"; walk_at "ev"; walk_at "ev")
  | ((with_reducible apply ev_op); walk_at "ev"; walk_at "ev"; walk_at "rv")
  | ((with_reducible apply ev_cb); walk_at "ea"; walk_at "rc")
  | ((with_reducible apply ev_call); walk_at "ea"; walk_at "sp")
  | ((with_reducible apply ev_slS); walk_at "ev"; walk_at "eo"; walk_at "eo"; walk_at "sz")
  | ((with_reducible apply et_test); walk_at "ev")
  | ((with_reducible apply et_B); walk_at "ev")
  | ((with_reducible apply et_not); walk_at "ev")
  | ((with_reducible apply et_and); walk_at "ev"; (intro _; walk_at "ev"))
  | ((with_reducible apply et_or); walk_at "ev"; (intro _; walk_at "ev"))
  | ((with_reducible apply ev_andV); walk_at "ev"; (intro _; walk_at "ev"))
  | ((with_reducible apply ev_orV); walk_at "ev"; (intro _; walk_at "ev"))
  | ((with_reducible apply ev_notV); walk_at "ev"))
local macro_rules | `(tactic| walk_at "eo") => `(tactic| first
  | with_reducible exact eo_none
  | ((with_reducible apply eo_some); walk_at "ev"))
local macro_rules | `(tactic| walk_at "eu") => `(tactic| first
  | ((with_reducible apply eu_tup); walk_at "ea"; (simp only [List.length_cons, List.length_nil]; omega)))
namespace K0
open PySem PySem.Spec PyProof.Rows L2 Evl Kv
/-! ### the last dot -/
def ld (l : List Nat) : Nat → Int
  | 0 => -1
  | n + 1 => if l[n]? = some 46 then (n : Int) else ld l n
theorem dot_tl : tl ("." : Str) = [46] := by decide +kernel
theorem dot_str : ("." : Str) = ⟨#[46]⟩ := by decide +kernel
theorem at_dot (x : Str) (i : Nat) : StrLaws.At x "." x.length i ↔ (tl x)[i]? = some 46 := by
  have hd : TL.tl ("." : Str) = [46] := dot_tl
  rw [TL.at_iff (by rw [hd]; decide), hd]
  unfold TL.pre
  show (((tl x).drop i).take 1 == [46]) = true ↔ _
  rw [beq_iff_eq]
  cases h : (tl x)[i]? with
  | none =>
    have hl : (tl x).length ≤ i := List.getElem?_eq_none_iff.mp h
    rw [List.drop_eq_nil_of_le hl]
    simp
  | some c =>
    obtain ⟨hlt, e⟩ := List.getElem?_eq_some_iff.mp h
    rw [List.drop_eq_getElem_cons hlt, e]
    simp
theorem ld_spec (l : List Nat) : ∀ n, (ld l n = -1 ∧ ∀ i, i < n → ¬ l[i]? = some 46) ∨ ∃ k, k < n ∧ ld l n = (k : Int) ∧ l[k]? = some 46 ∧ ∀ i, k < i → i < n → ¬ l[i]? = some 46
  | 0 => .inl ⟨rfl, fun i h => absurd h (Nat.not_lt_zero i)⟩
  | n + 1 => by
    by_cases h : l[n]? = some 46
    · exact .inr ⟨n, Nat.lt_succ_self n, if_pos h, h, fun i h1 h2 => absurd h1 (by omega)⟩
    · have e : ld l (n + 1) = ld l n := if_neg h
      rcases ld_spec l n with ⟨h1, h2⟩ | ⟨k, h1, h2, h3, h4⟩
      · refine .inl ⟨e.trans h1, fun i hi => ?_⟩
        by_cases z : i = n
        · rw [z]; exact h
        · exact h2 i (by omega)
      · refine .inr ⟨k, by omega, e.trans h2, h3, fun i h5 h6 => ?_⟩
        by_cases z : i = n
        · rw [z]; exact h
        · exact h4 i h5 (by omega)
theorem rfind_ld (x : Str) : Txt.rfind x "." = ld (tl x) (tl x).length := by
  unfold Txt.rfind
  rcases StrLaws.last_spec x "." with ⟨e, hn⟩ | ⟨i, e, hi, hn⟩
  · rw [e]
    rcases ld_spec (tl x) (tl x).length with ⟨h1, _⟩ | ⟨k, h1, h2, h3, h4⟩
    · exact h1.symm
    · exact absurd ((at_dot x k).mpr h3) (hn k)
  · rw [e]
    have hi' := (at_dot x i).mp hi
    have hlt : i < (tl x).length := (List.getElem?_eq_some_iff.mp hi').1
    rcases ld_spec (tl x) (tl x).length with ⟨h1, h2⟩ | ⟨k, h1, h2, h3, h4⟩
    · exact absurd hi' (h2 i hlt)
    · show ((i : Nat) : Int) = _
      rw [h2]
      have a : ¬ i < k := fun z => hn k z ((at_dot x k).mpr h3)
      have b : ¬ k < i := fun z => h4 i z hlt hi'
      have : i = k := by omega
      rw [this]
theorem ld_lt (l : List Nat) (n : Nat) : ld l n < n ∧ -1 ≤ ld l n := by
  rcases ld_spec l n with ⟨h, _⟩ | ⟨k, h1, h2, _⟩ <;> omega
theorem cut_all (z : Str) {n : Int} (h : n = z.length) : cutS z none (some n) = z := by
  subst h
  refine ext_tl ?_
  unfold cutS
  show (((tl z).drop 0).take (HT.sIx z.length z.length (some ((z.length : Nat) : Int)) - 0)).toArray.toList = _
  rw [HT.sIx_nat, Nat.min_self, List.toList_toArray, List.drop_zero, Nat.sub_zero, List.take_of_length_le (by rw [len_tl]; exact Nat.le_refl _)]
theorem cut_tail_len (z : Str) (k : Nat) (h : k ≤ z.length) : (cutS z (some (k : Int)) none).length = z.length - k := by
  unfold cutS
  rw [len_tl]
  show (((tl z).drop (HT.sIx z.length 0 (some ((k : Nat) : Int)))).take (z.length - HT.sIx z.length 0 (some ((k : Nat) : Int)))).toArray.toList.length = _
  rw [HT.sIx_nat, Nat.min_eq_left h, List.toList_toArray, List.length_take, List.length_drop, ← len_tl]
  omega
/-- the law's cut gives stem and ending -/
theorem cut_yes (x : Str) (h : (decide (0 < Txt.rfind x ".") && decide ((x.length : Int) - Txt.rfind x "." ≤ 10)) = true) : stemS x = cutS x none (some (Txt.rfind x ".")) ∧ endS x = cutS x (some (Txt.rfind x ".")) none := by
  have e : endS x = cutS x (some (Txt.rfind x ".")) none := if_pos h
  refine ⟨?_, e⟩
  have hp : 0 < Txt.rfind x "." := by simp only [Bool.and_eq_true, decide_eq_true_eq] at h; exact h.1
  have hl := ld_lt (tl x) (tl x).length
  rw [← rfind_ld, ← len_tl] at hl
  obtain ⟨k, hk⟩ : ∃ k : Nat, Txt.rfind x "." = (k : Int) := ⟨(Txt.rfind x ".").toNat, by omega⟩
  unfold stemS
  rw [e, hk, cut_tail_len x k (by omega)]
  congr 2
  omega
theorem cut_no (x : Str) (h : (decide (0 < Txt.rfind x ".") && decide ((x.length : Int) - Txt.rfind x "." ≤ 10)) = false) : stemS x = x ∧ endS x = "" := by
  have e : endS x = "" := if_neg (by rw [h]; decide)
  refine ⟨?_, e⟩
  unfold stemS
  rw [e]
  exact cut_all x (by show (x.length : Int) - ((Str.ofString "").length : Nat) = _; rw [show (Str.ofString "").length = 0 by decide +kernel]; omega)
/-! ### promises -/
def spCut : Sp := fun vs H Q _ => ∃ x : Str, vs = [.str x] ∧ x.length ≤ 5000 ∧ RetU [.str (stemS x), .str (endS x)] H Q
theorem su_cut {H : Hp} {x : Str} (h : x.length ≤ 5000) : SpU spCut ([.str x] ++ []) H [.str (stemS x), .str (endS x)] := fun H1 e Q q E => ⟨x, rfl, h, q⟩
local macro_rules | `(tactic| walk_at "sp") => `(tactic| ((with_reducible apply sv_with); walk_at "sz"; walk_at "sz"))
section
variable {P : Program} {w : World} {K : PySem.W.Frag} {mg : Str → Option Value} {base : Heap}
theorem c_cut (T : Txt K mg) : Cal P w K mg base 1 "_law_cut_name" spCut := by
  obtain ⟨fd, F⟩ := T.f_law_cut_name
  refine cal_of F T.g_law_cut_name (F.bindsN fun _ _ _ _ _ _ us hl => match us, hl with | [_], _ => rfl) sc_law_cut_name (fun vs H Q E h => ?_) (fun cdv A₀ outer s H vs Q E hr h => ?_)
  · obtain ⟨x, rfl, _⟩ := h
    rfl
  · obtain ⟨x, rfl, hx, k⟩ := h
    have nd := sc_law_cut_name.nd
    refine ⟨_, pss_cons (ps_set (i := 1) nd rfl (Or.inl rfl) (pe_un un_neg pe_int))
      (pss_cons (ps_for PassesOwn.never rfl (pi_range1 rfl T.b_range (pa_cons (pe_callB call_len_str (by rfl) T.b_len (by decide +kernel) (pa_cons (pv 0) pa_nil)) pa_nil)) (pg_name (i := 2) nd rfl (Or.inl rfl))
        (pss_one (ps_if (pt_cmpR op_eq (pe_ix ix_str (pv 0) (pv 2) (fun _ _ => rfl)) pe_str (nomark _)) (pss_one (ps_set (i := 1) nd rfl (Or.inl rfl) (pv 2))) pss_nil)))
      (pss_cons (ps_if (PW.pt (pw_and (pt_cmpR op_gt (pv 1) pe_int (nomark _)) (pw_and1 (pt_cmpR op_le (pe_op op_sub (pe_callB call_len_str (by rfl) T.b_len (by decide +kernel) (pa_cons (pv 0) pa_nil)) (pv 1)) pe_int (nomark _)))))
        (pss_one (ps_ret (pe_tup (pa_cons (pe_slice sl_str (pv 0) po_none (po_some (pv 1))) (pa_cons (pe_slice sl_str (pv 0) (po_some (pv 1)) po_none) pa_nil))))) pss_nil)
      (pss_one (ps_ret (pe_tup (pa_cons (pv 0) (pa_cons pe_str pa_nil))))))), ?_⟩
    try dsimp only [cxOf, Cx.nox, Cx.wish]
    have hlx := len_tl x
    refine q_asg (v := .int (-1)) (ev_un ev_c ru_neg) fun H1 e1 => ?_
    refine q_forR1 (by walk_at "ea") ⟨by omega, by omega⟩ (fun i σ H' => (∃ v, σ = [some (.str x), some (.int (ld (tl x) i)), v]) ∧ Ex H H') (fun H2 e2 => ⟨⟨_, rfl⟩, e1.trans e2⟩) ?_ ?_
    · rintro i σ' H' hi ⟨⟨v, rfl⟩, e2⟩
      obtain ⟨c, hc⟩ := get_of_lt (l := tl x) (i := i) (by omega)
      refine s_when (b := decide (V.str ⟨#[c]⟩ = V.str ".")) (by walk_at "ev") (fun hb H3 e3 => s_asg (v := .int (i : Int)) (ev_var rfl) fun H4 e4 => ⟨⟨some (.int (i : Int)), ?_⟩, (e2.trans e3).trans e4⟩) (fun hb H3 e3 => ⟨⟨some (.int (i : Int)), ?_⟩, e2.trans e3⟩)
      · rw [dot_str, dec_str1] at hb
        have e : c = 46 := by simpa using hb
        have e2 : ld (tl x) (i + 1) = (i : Int) := if_pos (by rw [hc, e])
        rw [e2]
        rfl
      · rw [dot_str, dec_str1] at hb
        have e : ¬ c = 46 := by simpa using hb
        have e2 : ld (tl x) (i + 1) = ld (tl x) i := if_neg (by rw [hc]; intro z; exact e (Option.some.inj z))
        rw [e2]
        rfl
    · rintro σ' H' ⟨⟨v, rfl⟩, e2⟩
      have en : ((x.length : Nat) : Int).toNat = (tl x).length := by omega
      rw [en, ← rfind_ld]
      refine q_when (b := decide (0 < Txt.rfind x ".") && decide ((x.length : Int) - Txt.rfind x "." ≤ 10)) (by walk_at "ev") (fun hb H3 e3 => ?_) (fun hb H3 e3 => ?_)
      · obtain ⟨s1, s2⟩ := cut_yes x hb
        rw [s1, s2] at k
        exact s_retU (eu_tup (ea_cons (by walk_at "ev") (ea_cons (by walk_at "ev") ea_nil)) (by show 2 ≤ 100000; decide)) fun p H4 hp e4 h4 => RetU.go k (e2.trans e3) hp e4 h4
      · obtain ⟨s1, s2⟩ := cut_no x hb
        rw [s1, s2] at k
        exact s_retU (eu_tup (ea_cons (ev_var rfl) (ea_cons ev_c ea_nil)) (by show 2 ≤ 100000; decide)) fun p H4 hp e4 h4 => RetU.go k (e2.trans e3) hp e4 h4
theorem c_worded (T : Txt K mg) : Cal P w K mg base 2 "_law_worded" spWith := by
  obtain ⟨fd, F⟩ := T.f_law_worded
  refine cal_of F T.g_law_worded (F.bindsN fun _ _ _ _ _ _ us hl => match us, hl with | [_, _, _], _ => rfl) sc_law_worded (fun vs H Q E h => ?_) (fun cdv A₀ outer s H vs Q E hr h => ?_)
  · obtain ⟨L, x, wd, rfl, _⟩ := h
    rfl
  · obtain ⟨L, x, wd, rfl, hx, hw, k⟩ := h
    have nd := sc_law_worded.nd
    refine ⟨_, pss_cons (ps_asg (pe_c (c_cut T) hr (by decide) rfl (pa_cons (pv 1) pa_nil)) (pg_tup rfl (pgs_cons (pg_name (i := 3) nd rfl (Or.inl rfl)) (pgs_cons (pg_name (i := 4) nd rfl (Or.inl rfl)) pgs_nil))))
      (pss_cons (ps_set (i := 5) nd rfl (Or.inl rfl) (pe_op op_sub (pe_op op_sub (pv 0) (pe_callB call_len_str (by rfl) T.b_len (by decide +kernel) (pa_cons (pv 2) pa_nil))) (pe_callB call_len_str (by rfl) T.b_len (by decide +kernel) (pa_cons (pv 4) pa_nil))))
      (pss_one (ps_ret (pe_op op_add_str (pe_op op_add_str (pe_slice sl_str (pv 3) po_none (po_some (pe_callB (call_max2 rfl) (by rfl) T.b_max (by decide +kernel) (pa_cons pe_int (pa_cons (pv 5) pa_nil))))) (pv 2)) (pv 4))))), ?_⟩
    try dsimp only [cxOf, Cx.nox, Cx.wish]
    have h1 := endS_len x
    have h2 := stemS_len x
    have h3 := cutS_len (stemS x) none (some (roomI L x wd))
    have h4 := app_len (cutS (stemS x) none (some (roomI L x wd))) wd
    refine EvU_go (eu_call (ea_cons (ev_var rfl) ea_nil) (su_cut hx)) fun p H1 hp e1 h1p => ?_
    refine ⟨p, _, rfl, st_of h1p, rfl, _, _, rfl, _, _, rfl, rfl, ?_⟩
    dsimp only
    refine q_asg (v := .int (L - wd.length - (endS x).length)) (by walk_at "ev") fun H2 e2 => ?_
    exact s_ret (v := .str (withW L x wd)) (by unfold withW roomI; unfold roomI at h3 h4; walk_at "ev") fun H3 e3 => k H3 ((e1.trans e2).trans e3)
end
end K0
end

set_option Elab.async false
set_option linter.all false
set_option maxRecDepth 100000
set_option maxHeartbeats 1000000
section
open PySem PySem.Spec PyProof.Rows L2 Evl Kv
local macro_rules | `(tactic| walk_at "sz") => `(tactic| first | with_reducible assumption | omega)
local macro_rules | `(tactic| walk_at "rv") => `(tactic| first
  | with_reducible exact rv_I0
  | ((with_reducible apply rv_addS); walk_at "sz")
  | ((with_reducible apply rv_mod); walk_at "sz")
  | ((with_reducible apply rv_eq); rfl)
  | ((with_reducible apply rv_ne); rfl)
  | ((with_reducible apply rv_ixS); walk_at "sz"; first | exact L2.atI_nat (by assumption) | rfl)
  | ((with_reducible apply rv_ixT); assumption; rfl)
  | ((with_reducible apply rv_ixL); assumption; rfl))
local macro_rules | `(tactic| walk_at "rc") => `(tactic| first
  | ((with_reducible apply rc_lenS); walk_at "sz")
  | with_reducible exact rc_ord
  | ((with_reducible apply rc_strI); walk_at "sz")
  | with_reducible exact rc_int1
  | with_reducible exact rc_int1b
  | with_reducible exact rc_max
  | ((with_reducible apply rc_lenT); assumption))
local macro_rules | `(tactic| walk_at "ea") => `(tactic| first
  | with_reducible exact ea_nil
  | ((with_reducible apply ea_cons); walk_at "ev"; walk_at "ea"))
local macro_rules | `(tactic| walk_at "ev") => `(tactic| first
  | ((with_reducible apply ev_var); rfl)
  | with_reducible exact ev_c
  | ((with_reducible apply ev_inU); walk_at "ev"; walk_at "eu"; rfl; rfl)
  | ((with_reducible apply ev_niU); walk_at "ev"; walk_at "eu"; rfl; rfl)
  | ((with_reducible apply ev_chain); walk_at "ev"; walk_at "ev"; walk_at "ev")
  | ((with_reducible apply ev_op); walk_at "ev"; walk_at "ev"; walk_at "rv")
  | ((with_reducible apply ev_cb); walk_at "ea"; walk_at "rc")
  | ((with_reducible apply ev_call); walk_at "ea"; walk_at "sp")
  | ((with_reducible apply ev_slS); walk_at "ev"; walk_at "eo"; walk_at "eo"; walk_at "sz")
  | ((with_reducible apply et_test); walk_at "ev")
  | ((with_reducible apply et_B); walk_at "ev")
  | ((with_reducible apply et_not); walk_at "ev")
  | ((with_reducible apply et_and); walk_at "ev"; (intro _; walk_at "ev"))
  | ((with_reducible apply et_or); walk_at "ev"; (intro _; walk_at "ev"))
  | ((with_reducible apply ev_andV); walk_at "ev"; (intro _; walk_at "ev"))
  | ((with_reducible apply ev_orV); walk_at "ev"; (intro _; walk_at "ev"))
  | ((with_reducible apply ev_notV); walk_at "ev"))
local macro_rules | `(tactic| walk_at "eo") => `(tactic| first
  | with_reducible exact eo_none
  | ((with_reducible apply eo_some); walk_at "ev"))
local macro_rules | `(tactic| walk_at "eu") => `(tactic| first
  | ((with_reducible apply eu_tup); walk_at "ea"; (simp only [List.length_cons, List.length_nil]; omega)))
namespace Kv
open PySem PySem.Spec PyProof.Rows L2 Evl
theorem strOk_tl (x : Str) : PyData.strOk x = (tl x).all fun c => decide (c < 0x110000) := by
  unfold PyData.strOk
  cases x with | mk a => simp
theorem strOk_app (x y : Str) : PyData.strOk (x ++ y) = (PyData.strOk x && PyData.strOk y) := by
  rw [strOk_tl, strOk_tl, strOk_tl]
  show ((x.cps ++ y.cps).toList.all _) = _
  rw [Array.toList_append, List.all_append]
theorem strOk_of {x y : Str} (h : PyData.strOk x = true) (s : ∀ c ∈ tl y, c ∈ tl x) : PyData.strOk y = true := by
  rw [strOk_tl] at h ⊢
  exact List.all_eq_true.mpr fun c hc => List.all_eq_true.mp h c (s c hc)
theorem strOk_cut {z : Str} (h : PyData.strOk z = true) (lo hi : Option Int) : PyData.strOk (cutS z lo hi) = true := strOk_of h fun c hc => by
  unfold cutS at hc
  have h1 : c ∈ ((tl z).drop (HT.sIx z.length 0 lo)).take (HT.sIx z.length z.length hi - HT.sIx z.length 0 lo) := by simpa using hc
  exact List.mem_of_mem_drop (List.mem_of_mem_take h1)
theorem strOk_join (y : Str) (hy : PyData.strOk y = true) : ∀ ps : List Str, (∀ p ∈ ps, PyData.strOk p = true) → PyData.strOk (Str.join y ps) = true
  | [], _ => by show PyData.strOk Str.empty = true; decide +kernel
  | [p], h => h p (List.mem_cons_self ..)
  | p :: q :: r, h => by
    show PyData.strOk (p ++ y ++ Str.join y (q :: r)) = true
    rw [strOk_app, strOk_app, h p (List.mem_cons_self ..), hy, strOk_join y hy (q :: r) fun z hz => h z (List.mem_cons_of_mem _ hz)] <;> rfl
theorem strOk_parts (y : Str) : ∀ ps : List Str, PyData.strOk (Str.join y ps) = true → ∀ p ∈ ps, PyData.strOk p = true
  | [], _, p, hp => nomatch hp
  | [q], h, p, hp => by rw [List.mem_singleton.mp hp]; exact h
  | q :: z :: r, h, p, hp => by
    have h' : PyData.strOk (q ++ y ++ Str.join y (z :: r)) = true := h
    rw [strOk_app, strOk_app, Bool.and_eq_true, Bool.and_eq_true] at h'
    rcases List.mem_cons.mp hp with e | e
    · rw [e]; exact h'.1.1
    · exact strOk_parts y (z :: r) h'.2 p e
/-- text times int -/
theorem foldl_cps (a : Array Nat) : ∀ (k : Nat) (b : Array Nat), ((List.replicate k a).foldl (· ++ ·) b).size = b.size + k * a.size ∧ ∀ c ∈ ((List.replicate k a).foldl (· ++ ·) b).toList, c ∈ b.toList ∨ c ∈ a.toList
  | 0, b => ⟨by simp, fun c hc => .inl hc⟩
  | k + 1, b => by
    obtain ⟨h1, h2⟩ := foldl_cps a k (b ++ a)
    rw [List.replicate_succ, List.foldl_cons]
    refine ⟨by rw [h1, Array.size_append, Nat.add_mul]; omega, fun c hc => ?_⟩
    rcases h2 c hc with h | h
    · rw [Array.toList_append] at h
      rcases List.mem_append.mp h with h | h
      · exact .inl h
      · exact .inr h
    · exact .inr h
theorem op_mulS {X : Cx} : OpR X (binaryOp .Mult) (fun x y H Q => ∃ (z : Str) (n : Int), x = .str z ∧ y = .int n ∧ 0 ≤ n ∧ n ≤ 1000 ∧ z.length ≤ 1000 ∧ ∀ r : Str, r.length ≤ n.toNat * z.length → (PyData.strOk z = true → PyData.strOk r = true) → Q (.str r) H) := by
  intro pins s σ H x y v u Q I rx ry h
  obtain ⟨z, n, rfl, rfl, h0, h1, h2, q⟩ := h
  obtain ⟨t, rfl⟩ := rx
  obtain ⟨t', rfl⟩ := ry
  have hm : n.toNat * z.length ≤ 1000 * 1000 := Nat.mul_le_mul (by omega) h2
  have hbig : (1000 : Int) ≤ (2 ^ 63 - 1) / 1000 := by decide
  refine PySem.P.mul_str (by rw [decide_eq_false (by omega), decide_eq_false (by omega)]; rfl) (fun a b c => ?_) (fun a b => ?_) ?_
  · have h3 : (z.length : Int) * n ≤ 2 ^ 63 - 1 := by
      have h4 : (z.length : Int) * n ≤ 1000 * 1000 := Int.mul_le_mul (by omega) h1 h0 (by decide)
      omega
    have h5 : (z.length : Int) ≤ (2 ^ 63 - 1) / n := (Int.le_ediv_iff_mul_le (by omega)).mpr h3
    omega
  · unfold PySem.Builtin.Str.tooLong
    rw [Nat.mul_comm]
    first
      | exact decide_eq_false (by rw [sizeLine_eq]; omega)
      | (simp; rw [sizeLine_eq]; omega)
  · by_cases a : n < 1
    · rw [if_pos a]
      exact ⟨by decide, .str _, H, I.tok _, ⟨_, rfl⟩, q Str.empty (Nat.zero_le _) fun _ => by decide +kernel⟩
    · rw [if_neg a]
      by_cases b : (n == 1 || z.length == 0) = true
      · rw [if_pos b]
        refine ⟨.str z, H, I, ⟨_, rfl⟩, q z ?_ fun h => h⟩
        have : 1 * z.length ≤ n.toNat * z.length := Nat.mul_le_mul_right _ (by omega)
        omega
      · rw [if_neg b]
        obtain ⟨f1, f2⟩ := foldl_cps z.cps n.toNat #[]
        refine ⟨?_, .str _, H, I.tok _, ⟨_, rfl⟩, q _ ?_ fun h => strOk_of h fun c hc => ?_⟩
        · show ((List.replicate n.toNat z.cps).foldl (· ++ ·) #[]).size ≤ sizeLine
          rw [f1, sizeLine_eq]
          have : z.cps.size = z.length := rfl
          rw [this]
          show 0 + _ ≤ _
          omega
        · show ((List.replicate n.toNat z.cps).foldl (· ++ ·) #[]).size ≤ _
          rw [f1]
          show 0 + n.toNat * z.length ≤ _
          omega
        · rcases f2 c hc with h | h
          · cases h
          · exact h
end Kv
namespace K0
open PySem PySem.Spec PyProof.Rows L2 Evl Kv
local macro_rules | `(tactic| walk_at "sp") => `(tactic| ((with_reducible apply sv_with); walk_at "sz"; walk_at "sz"))
section
variable {P : Program} {w : World} {K : PySem.W.Frag} {mg : Str → Option Value} {base : Heap}
theorem c_copied (T : Txt K mg) : Cal P w K mg base 3 "_law_copy_named" (spCopy K) := by
  obtain ⟨fd, F⟩ := T.f_law_copy_named
  refine cal_of F T.g_law_copy_named (F.bindsN fun _ _ _ _ _ _ us hl => match us, hl with | [_, _, _, _], _ => rfl) sc_law_copy_named (fun vs H Q E h => ?_) (fun cdv A₀ outer s H vs Q E hr h => ?_)
  · obtain ⟨L, x, p, a, b, kk, rfl, _⟩ := h
    rfl
  · obtain ⟨L, x, p, a, b, kk, rfl, hp, hx, ha, hb, hk, k⟩ := h
    have nd := sc_law_copy_named.nd
    refine ⟨_, pss_cons (ps_set (i := 4) nd rfl (Or.inl rfl) (pe_op op_add_str (pe_op op_add_str (pe_op op_add_str (pe_op op_add_str pe_str (pe_callTy call_str_int (by rfl) T.b_str (by decide +kernel) (pa_cons (pe_ix ix_tup (pv 2) pe_int (fun _ _ => rfl)) pa_nil))) pe_str)
        (pe_callTy call_str_int (by rfl) T.b_str (by decide +kernel) (pa_cons (pe_ix ix_tup (pv 2) pe_int (fun _ _ => rfl)) pa_nil))) pe_str))
      (pss_cons (ps_if (pt_cmpR op_gt (pv 3) pe_int (nomark _)) (pss_one (ps_set (i := 4) nd rfl (Or.inl rfl) (pe_op op_add_str (pe_op op_add_str (pv 4) pe_str) (pe_callTy call_str_int (by rfl) T.b_str (by decide +kernel) (pa_cons (pv 3) pa_nil))))) pss_nil)
      (pss_one (ps_ret (pe_c (c_worded T) hr (by decide) rfl (pa_cons (pv 0) (pa_cons (pv 1) (pa_cons (pv 4) pa_nil))))))), ?_⟩
    try dsimp only [cxOf, Cx.nox, Cx.wish]
    have na := num_log ha.1 ha.2
    have nb := num_log hb.1 hb.2
    have nk := num_log hk.1 hk.2
    obtain ⟨t1, t2, t3, t4⟩ := lits
    obtain ⟨g1, g2, g3, g4⟩ := sum5 (num_len ha.1 ha.2) (num_len hb.1 hb.2) t1 t2 t3 (Nat.le_refl _) (Nat.le_refl _)
    obtain ⟨g5, g6, g7, g8, _⟩ := sum3 (wordN_len ha hb) (num_len hk.1 hk.2) t4 (Nat.le_refl _) (Nat.le_refl _)
    clear t1 t2 t3 t4
    refine q_asg (v := .str (wordN a b)) (by unfold wordN; walk_at "ev") fun H1 e1 => ?_
    refine q_when (b := decide (0 < kk)) (by walk_at "ev") (fun hc H2 e2 => ?_) (fun hc H2 e2 => ?_)
    · refine s_asg (v := .str (wordN a b ++ " " ++ Str.ofString (toString kk))) (by walk_at "ev") fun H3 e3 => ?_
      dsimp only
      refine s_ret (by walk_at "ev") fun H4 e4 => ?_
      have e : copyN L x a b kk = withW L x (wordN a b ++ " " ++ Str.ofString (toString kk)) := by
        unfold copyN
        rw [if_pos (of_decide_eq_true hc)]
      rw [← e]
      exact k H4 (((e1.trans e2).trans e3).trans e4)
    · refine s_ret (by walk_at "ev") fun H4 e4 => ?_
      have e : copyN L x a b kk = withW L x (wordN a b) := by
        unfold copyN
        rw [if_neg (of_decide_eq_false hc)]
      rw [← e]
      exact k H4 ((e1.trans e2).trans e4)
/-! ### the path, by the law -/
def spPathL : Sp := fun vs H Q _ => ∃ x : Str, vs = [.str x] ∧ OkS 5000 x ∧ RetP (pathOf x) H Q
theorem c_pathL (T : Txt K mg) : Cal P w K mg base 2 "_law_path_of" spPathL := by
  obtain ⟨fd, F⟩ := T.f_law_path_of
  refine cal_of F T.g_law_path_of (F.bindsN fun _ _ _ _ _ _ us hl => match us, hl with | [_], _ => rfl) sc_law_path_of (fun vs H Q E h => ?_) (fun cdv A₀ outer s H vs Q E hr h => ?_)
  · obtain ⟨x, rfl, _⟩ := h
    rfl
  · obtain ⟨x, rfl, ⟨hx, hok⟩, k⟩ := h
    have nd := sc_law_path_of.nd
    refine ⟨_, pss_cons (ps_if (pt_cmpR op_eq (pv 0) pe_str (nomark _)) (pss_one (ps_ret (pe_tup pa_nil))) pss_nil)
      (pss_cons (ps_set (i := 1) nd rfl (Or.inl rfl) (pe_split (pv 0) pe_str))
      (pss_cons (ps_if (pt_cmpR (op_neD hr.units) (pe_lc (own := [("part", 2)]) (g := gName 2) rfl nd (pi_list (pv 1)) (blkOk_by (own := [("part", 2)]) (N := ["text", "parts", "part"]) (sc := defScope s_law_path_of) (by decide +kernel))
          (fun _ _ _ _ _ => pg_name (i := 2) nd rfl (Or.inl rfl)) (fun _ _ _ _ _ => pts_one (pt_not (pt_val (pe_c (c_isNameL T) hr (by decide) rfl (pa_cons (pv 2) pa_nil))))) (fun _ _ _ _ _ => pv 2)) (pe_lst pa_nil) (nomark _)) (pss_one (ps_ret pe_non)) pss_nil)
      (pss_one (ps_ret (pe_callTy call_tuple_of (by rfl) T.b_tuple (by decide +kernel) (pa_cons (pv 1) pa_nil)))))), ?_⟩
    try dsimp only [cxOf, Cx.nox, Cx.wish]
    refine q_when (by walk_at "ev") (fun hb H1 e1 => s_retU (eu_tup ea_nil (by decide)) fun p H2 hp e2 h2 => ?_) (fun hb H1 e1 => ?_)
    · have e : x = "" := by
        have z := of_decide_eq_true hb
        injection z
      have ep : pathOf x = some [] := if_pos e
      rw [ep] at k
      exact RetU.go k e1 hp e2 h2
    · have hne : x ≠ "" := fun e => by
        rw [e] at hb
        simp at hb
      have hsum := split_sum x hne
      have hoks : ∀ p ∈ Txt.split x "/", PyData.strOk p = true := strOk_parts "/" _ (by rw [StrLaws.join_split]; exact hok)
      refine q_asgL (el_split (ev_var rfl) ev_c (by decide +kernel) (by omega)) fun p H2 hp e2 h2 => ?_
      have hlc := el_lcL (K := K) (σ := [some (.str x), some (.ref p), none]) (j := 2) (vs := [2]) (H := H2) (tl := tVar 1)
        (t := tNot (tB (tCall spIsNameL [] E0 (tCons (tVar 2) tNil)))) (te := tVar 2)
        (fun i => ((Txt.split x "/")[i]?.map fun o => !isName o).getD false) (fun i => ((Txt.split x "/")[i]?.map V.str).getD .non) (ev_var rfl) (sq_of h2) (by rw [List.length_map]; omega) (fun _ => rfl)
        (fun i y H1 _ hy => by
          rw [List.getElem?_map] at hy
          cases q : (Txt.split x "/")[i]? with
          | none => rw [q] at hy; cases hy
          | some o =>
            rw [q] at hy
            cases hy
            have hol := mem_len "" (List.mem_of_getElem? q)
            exact et_not (et_B (ev_call (ea_cons (ev_var rfl) ea_nil) (sv_isNameL ⟨by omega, hoks o (List.mem_of_getElem? q)⟩))))
        (fun i y H1 _ hy _ => by
          rw [List.getElem?_map] at hy
          cases q : (Txt.split x "/")[i]? with
          | none => rw [q] at hy; cases hy
          | some o =>
            rw [q] at hy
            cases hy
            exact ev_var rfl)
      rw [List.length_map, given_all] at hlc
      refine q_when (b := !((Txt.split x "/").filter fun o => !isName o).isEmpty) (et_test (ev_opLL hlc (el_lst ea_nil (by decide)) fun a b H3 ha hb2 _ => ?_)) (fun hc H3 e3 => s_ret ev_c fun H4 e4 => ?_) (fun hc H3 e3 => ?_)
      · rw [← eqv_nil]
        exact rv_neD (ed_strs ha) (.lst (sq_of hb2) .nil) (shaped_strs fun y hy => hoks y (List.mem_filter.mp hy).1).1 (by decide)
      · have e : pathOf x = none := by
          unfold pathOf
          rw [if_neg hne, if_neg fun z => ?_]
          have h4 : (Txt.split x "/").filter (fun o => !isName o) = [] := List.filter_eq_nil_iff.mpr fun o ho => by
            rw [List.all_eq_true.mp z o ho]
            decide
          rw [h4] at hc
          cases hc
        rw [e] at k
        exact k H4 (((e1.trans e2).trans e3).trans e4)
      · have e : pathOf x = some (Txt.split x "/") := by
          unfold pathOf
          rw [if_neg hne, if_pos]
          refine List.all_eq_true.mpr fun o ho => ?_
          have h4 : (Txt.split x "/").filter (fun o => !isName o) = [] := by simpa using hc
          have h5 := List.filter_eq_nil_iff.mp h4 o ho
          simpa using h5
        rw [e] at k
        exact s_retU (eu_tupL' (ev_var rfl) (ex_l e3 (sq_of h2))) fun q H4 hq e4 h4 => RetU.go k ((e1.trans e2).trans e3) hq e4 h4
end
end K0
end

set_option Elab.async false
set_option linter.all false
set_option maxRecDepth 100000
set_option maxHeartbeats 1000000
section
open PySem PySem.Spec PyProof.Rows L2 Evl Kv
local macro_rules | `(tactic| walk_at "sz") => `(tactic| first | with_reducible assumption | omega)
local macro_rules | `(tactic| walk_at "rv") => `(tactic| first
  | with_reducible exact rv_I0
  | ((with_reducible apply rv_addS); walk_at "sz")
  | ((with_reducible apply rv_mod); walk_at "sz")
  | ((with_reducible apply rv_eq); rfl)
  | ((with_reducible apply rv_ne); rfl)
  | ((with_reducible apply rv_ixS); walk_at "sz"; first | exact L2.atI_nat (by assumption) | rfl)
  | ((with_reducible apply rv_ixT); assumption; rfl)
  | ((with_reducible apply rv_ixL); assumption; rfl))
local macro_rules | `(tactic| walk_at "rc") => `(tactic| first
  | ((with_reducible apply rc_lenS); walk_at "sz")
  | with_reducible exact rc_ord
  | ((with_reducible apply rc_strI); walk_at "sz")
  | with_reducible exact rc_int1
  | with_reducible exact rc_int1b
  | with_reducible exact rc_max
  | ((with_reducible apply rc_lenT); assumption))
local macro_rules | `(tactic| walk_at "ea") => `(tactic| first
  | with_reducible exact ea_nil
  | ((with_reducible apply ea_cons); walk_at "ev"; walk_at "ea"))
local macro_rules | `(tactic| walk_at "ev") => `(tactic| first
  | ((with_reducible apply ev_var); rfl)
  | with_reducible exact ev_c
  | ((with_reducible apply ev_inU); walk_at "ev"; walk_at "eu"; rfl; rfl)
  | ((with_reducible apply ev_niU); walk_at "ev"; walk_at "eu"; rfl; rfl)
  | ((with_reducible apply ev_chain); walk_at "ev"; walk_at "ev"; walk_at "ev")
  | ((with_reducible apply ev_op); walk_at "ev"; walk_at "ev"; walk_at "rv")
  | ((with_reducible apply ev_cb); walk_at "ea"; walk_at "rc")
  | ((with_reducible apply ev_call); walk_at "ea"; walk_at "sp")
  | ((with_reducible apply ev_slS); walk_at "ev"; walk_at "eo"; walk_at "eo"; walk_at "sz")
  | ((with_reducible apply et_test); walk_at "ev")
  | ((with_reducible apply et_B); walk_at "ev")
  | ((with_reducible apply et_not); walk_at "ev")
  | ((with_reducible apply et_and); walk_at "ev"; (intro _; walk_at "ev"))
  | ((with_reducible apply et_or); walk_at "ev"; (intro _; walk_at "ev"))
  | ((with_reducible apply ev_andV); walk_at "ev"; (intro _; walk_at "ev"))
  | ((with_reducible apply ev_orV); walk_at "ev"; (intro _; walk_at "ev"))
  | ((with_reducible apply ev_notV); walk_at "ev"))
local macro_rules | `(tactic| walk_at "eo") => `(tactic| first
  | with_reducible exact eo_none
  | ((with_reducible apply eo_some); walk_at "ev"))
local macro_rules | `(tactic| walk_at "eu") => `(tactic| first
  | ((with_reducible apply eu_tup); walk_at "ea"; (simp only [List.length_cons, List.length_nil]; omega)))
namespace K0
open PySem PySem.Spec PyProof.Rows L2 Evl Kv
local macro_rules | `(tactic| walk_at "rv") => `(tactic| ((with_reducible refine rv_I (C := CMul) ?_); first | exact .inr ⟨by decide, by decide⟩ | exact .inl ⟨by decide, by decide⟩ | exact .inl ⟨by omega, by omega⟩))
local macro_rules | `(tactic| walk_at "ed") => `(tactic| first
  | with_reducible exact ed_str
  | with_reducible exact ed_int
  | ((with_reducible apply ed_tup); walk_at "eds"; (simp only [List.length_cons, List.length_nil]; omega)))
local macro_rules | `(tactic| walk_at "eds") => `(tactic| first
  | with_reducible exact ed_nil
  | ((with_reducible apply ed_cons); walk_at "ed"; walk_at "eds"))
/-! ### any text, a bent one -/
def spAny : Sp := fun vs H Q _ => ∃ d l : Addr, vs = [.ref d] ∧ StreamAt H d l ∧ ∀ x H', OkS 500 x → StreamAt H' d l → Mv d H H' → Q (.str x) H'
def spBent : Sp := fun vs H Q _ => ∃ (d l : Addr) (x : Str), vs = [.ref d, .str x] ∧ OkS 1000 x ∧ StreamAt H d l ∧ ∀ y H', OkS 2500 y → StreamAt H' d l → Mv d H H' → Q (.str y) H'
theorem tCall_go {sp : Sp} {dvs : List V} {E : XK} {ta : TA} {σ : L2.St} {H : Hp} {Q : VK} (h : ta σ H fun vs H1 => sp (vs ++ dvs) H1 Q E) : tCall sp dvs E ta σ H Q := h
theorem tTup_go {t : TA} {σ : L2.St} {H : Hp} {Q : VK} (h : t σ H fun xs H1 => xs.length ≤ sizeLine ∧ ∀ p, H1 p = none → Q (.ref p) (upd H1 p (.tup xs))) : tTup t σ H Q := h
theorem cons_go {ta : TE} {tr : TA} {σ : L2.St} {H : Hp} {Q : List V → Hp → Prop} (h : ta σ H fun x H1 => tr σ H1 fun xs H2 => Q (x :: xs) H2) : tCons ta tr σ H Q := h
theorem tCB_go {r : List V → Hp → VK → Prop} {t : TA} {σ : L2.St} {H : Hp} {Q : VK} (h : t σ H fun vs H1 => r vs H1 Q) : tCB r t σ H Q := h
theorem tTest_go {t : TE} {σ : L2.St} {H : Hp} {Q : Bool → Hp → Prop} (h : t σ H fun x H' => ∃ k, x = .bl k ∧ Q k H') : tTest t σ H Q := h
theorem tIf_go {c : TT} {t u : TS} {D : Ends} {σ : L2.St} {H : Hp} (h : c σ H fun b H1 => if b = true then t D σ H1 else u D σ H1) : tIfS c t u D σ H := h
theorem asg_go {te : TE} {D : Ends} {σ : L2.St} {H : Hp} {i : Nat} (h : te σ H fun v H1 => D.nx (σ.set i (some v)) H1) : tAsg te (gName i) D σ H := h
abbrev signs : Str := "aAbBxyQC. .1/\n("
theorem signs_ok : signs.length = 15 ∧ PyData.strOk signs = true := by decide +kernel
theorem sumLen (ys : List Str) (n : Nat) (h : ∀ y ∈ ys, y.length ≤ 1) (hn : ys.length ≤ n) : (ys.map (·.length)).sum ≤ n := by
  induction ys generalizing n with
  | nil => exact Nat.zero_le _
  | cons y r ih =>
    rw [List.map_cons, List.sum_cons]
    have h1 := h y (List.mem_cons_self ..)
    have h2 := ih (n - 1) (fun z hz => h z (List.mem_cons_of_mem _ hz)) (by simp at hn; omega)
    simp at hn
    omega
theorem join0 (ys : List Str) : (Str.join "" ys).length = (ys.map (·.length)).sum := by
  cases h : ys with
  | nil => rfl
  | cons y r =>
    have z := join_len "" (y :: r) (by simp)
    have e : ("" : Str).length = 0 := by decide +kernel
    rw [e] at z
    omega
section
variable {P : Program} {w : World} {K : PySem.W.Frag} {mg : Str → Option Value} {base : Heap}
theorem c_any (T : Txt K mg) : Cal P w K mg base 3 "_law_any_text" spAny := by
  obtain ⟨fd, F⟩ := T.f_law_any_text
  refine cal_of F T.g_law_any_text (F.bindsN fun _ _ _ _ _ _ us hl => match us, hl with | [_], _ => rfl) sc_law_any_text (fun vs H Q E h => ?_) (fun cdv A₀ outer s H vs Q E hr h => ?_)
  · obtain ⟨d, l, rfl, _⟩ := h
    rfl
  · obtain ⟨d, l, rfl, S, k⟩ := h
    have nd := sc_law_any_text.nd
    refine ⟨_, pss_cons (ps_set (i := 1) nd rfl (Or.inr rfl) pe_str)
      (pss_cons (ps_set (i := 2) nd rfl (Or.inl rfl) (pe_c (c_pick T) hr (by decide) rfl (pa_cons (pv 0) (pa_cons pe_int pa_nil))))
      (pss_cons (ps_set (i := 3) nd rfl (Or.inl rfl) (pe_ix ix_tup (pe_tup (pa_cons pe_int (pa_cons pe_int (pa_cons pe_int (pa_cons pe_int (pa_cons pe_int (pa_cons (pe_op op_add pe_int (pe_c (c_pick T) hr (by decide) rfl (pa_cons (pv 0) (pa_cons pe_int pa_nil)))) pa_nil))))))) (pv 2) (fun _ _ => rfl)))
      (pss_cons (ps_set (i := 4) nd rfl (Or.inl rfl) (pe_join pe_str (pe_lc (own := [("k", 5)]) (g := gName 5) rfl nd (pi_range1 rfl T.b_range (pa_cons (pv 3) pa_nil)) (blkOk_by (own := [("k", 5)]) (N := ["stream", "signs", "kind", "size", "text", "k"]) (sc := defScope s_law_any_text) (by decide +kernel))
          (fun _ _ _ _ _ => pg_name (i := 5) nd rfl (Or.inl rfl)) (fun _ _ _ _ _ => pts_nil)
          (fun _ _ _ _ _ => pe_ix ix_str (pv 1) (pe_c (c_pick T) hr (by decide) rfl (pa_cons (pv 0) (pa_cons (pe_op op_add pe_int (pe_op op_mul pe_int (pe_callTy call_int1 (by rfl) T.b_int (by decide +kernel)
            (pa_cons (pe_cmpR op_eq (pe_c (c_pick T) hr (by decide) rfl (pa_cons (pv 0) (pa_cons pe_int pa_nil))) pe_int (nomark _)) pa_nil)))) pa_nil))) (fun _ _ => rfl)))))
      (Evl.pss_cut (ps_if (pt_cmpR op_eq (pe_c (c_pick T) hr (by decide) rfl (pa_cons (pv 0) (pa_cons pe_int pa_nil))) pe_int (nomark _))
          (pss_one (ps_set (i := 4) nd rfl (Or.inl rfl) (pe_op op_add_str (pv 4) (pe_op op_mulS (pe_ix ix_tup (pe_tup (pa_cons pe_str (pa_cons pe_str pa_nil))) (pe_c (c_pick T) hr (by decide) rfl (pa_cons (pv 0) (pa_cons pe_int pa_nil))) (fun _ _ => rfl))
            (pe_ix ix_tup (pe_tup (pa_cons pe_int (pa_cons pe_int (pa_cons pe_int (pa_cons pe_int pa_nil))))) (pe_c (c_pick T) hr (by decide) rfl (pa_cons (pv 0) (pa_cons pe_int pa_nil))) (fun _ _ => rfl)))))) pss_nil)
      (Evl.pss_cut (ps_if (pt_cmpR op_eq (pe_c (c_pick T) hr (by decide) rfl (pa_cons (pv 0) (pa_cons pe_int pa_nil))) pe_int (nomark _))
          (pss_one (ps_set (i := 4) nd rfl (Or.inl rfl) (pe_op op_add_str (pe_op op_add_str (pv 4) pe_str) (pe_op op_mulS pe_str (pe_c (c_pick T) hr (by decide) rfl (pa_cons (pv 0) (pa_cons pe_int pa_nil))))))) pss_nil)
      (pss_one (ps_ret (pv 4)))))))), ?_⟩
    try dsimp only [cxOf, Cx.nox, Cx.wish]
    refine q_asg (v := .str "aAbBxyQC. .1/\n(") ev_c fun H1 e1 => ?_
    refine q_asgX (x_pick (ev_var rfl) ev_c (by decide) (by decide) (S.ex' e1) fun kd H2 k0 k1 S2 m2 => ?_)
    have m02 := (Mv.of e1).trans m2
    -- size: an int from 0 to 11
    refine q_asgX (tOp_go (tTup_go (cons_go (tC_go (cons_go (tC_go (cons_go (tC_go (cons_go (tC_go (cons_go (tC_go (cons_go (tOp_go (tC_go ?_)))))))))))))))
    refine x_pick (ev_var rfl) ev_c (by decide) (by decide) S2 fun g H3 g0 g1 S3 m3 => ⟨1, g, rfl, rfl, (by show 6 ≤ sizeLine; decide), fun p hp => ⟨_, rfl, ?_⟩⟩
    obtain ⟨n, hn, n0, n1⟩ : ∃ n : Int, atI [V.int 0, .int 1, .int 2, .int 5, .int 11, .int (1 + g)] kd = some (.int n) ∧ 0 ≤ n ∧ n ≤ 11 := by
      rcases (by omega : kd = ((0 : Nat) : Int) ∨ kd = ((1 : Nat) : Int) ∨ kd = ((2 : Nat) : Int) ∨ kd = ((3 : Nat) : Int) ∨ kd = ((4 : Nat) : Int) ∨ kd = ((5 : Nat) : Int)) with h | h | h | h | h | h <;> rw [h] <;>
        exact ⟨_, L2.atI_nat rfl, by omega, by omega⟩
    refine ⟨p, _, kd, _, rfl, rfl, st_of upd_same, hn, ?_⟩
    obtain ⟨pd, pl⟩ := S3.free hp
    have S4 := S3.put (o := .tup [V.int 0, .int 1, .int 2, .int 5, .int 11, .int (1 + g)]) pd pl
    have m04 := (m02.trans m3).ex (Ex.new (o := .tup [V.int 0, .int 1, .int 2, .int 5, .int 11, .int (1 + g)]) hp)
    generalize upd H3 p (.tup [V.int 0, .int 1, .int 2, .int 5, .int 11, .int (1 + g)]) = H4 at S4 m04 ⊢
    -- the text's signs
    refine q_asgX ⟨⟨"", rfl⟩, _, rfl, n, rfl, by omega, by omega, fun Dl hD => ?_⟩
    obtain ⟨nd1, nd2⟩ := S4.free hD
    refine lc_range (lo := 0) (n := n.toNat) (fun i H' => ∃ ys : List Str, ys.length = i ∧ i ≤ n.toNat ∧ (∀ y ∈ ys, y.length ≤ 1 ∧ PyData.strOk y = true) ∧ H' Dl = some (.lst (ys.map V.str)) ∧ StreamAt H' d l ∧ Mv d H4 H') ⟨[], rfl, Nat.zero_le _, (fun _ h => nomatch h), upd_same, S4.put nd1 nd2, .of (Ex.new hD)⟩ ?_ ?_
    · rintro i H5 hi ⟨ys, hy, hi2, hys, hl5, S5, m5⟩
      refine ⟨rfl, lc_keep (tOp_go ⟨_, rfl, tCall_go (cons_go ⟨_, rfl, cons_go (tOp_go (tC_go (tOp_go (tC_go (tCB_go (cons_go (tOp_go ?_)))))))⟩)⟩)⟩
      refine x_pick (ev_var rfl) ev_c (by decide) (by decide) S5 fun g H6 g0 g1 S6 m6 => ⟨rfl, .inr ⟨_, rfl, 2, _, rfl, rfl, .inl ⟨by decide, by decide⟩, 13, _, rfl, rfl, ?_⟩⟩
      obtain ⟨b, hb, b0, b1⟩ : ∃ b : Int, (if decide (V.int g = V.int 0) = true then (1 : Int) else 0) = b ∧ 0 ≤ b ∧ b ≤ 1 := ⟨_, rfl, by split <;> decide, by split <;> decide⟩
      rw [hb]
      refine ⟨d, l, 13 + 2 * b, rfl, by omega, by omega, S6, fun g2 H7 h0 h1 S7 m7 => ?_⟩
      obtain ⟨so1, so2⟩ := signs_ok
      obtain ⟨c, hc⟩ := get_of_lt (l := tl signs) (i := g2.toNat) (by rw [← len_tl, so1]; omega)
      have eg : g2 = ((g2.toNat : Nat) : Int) := by omega
      refine ⟨signs, g2, c, rfl, rfl, (by rw [so1]; decide), (by rw [eg]; exact L2.atI_nat hc), ys.map V.str, m7 _ _ (m6 _ _ hl5 nd1) nd1, ?_, ys ++ [⟨#[c]⟩], by rw [List.length_append, hy]; rfl, by omega, ?_, by rw [upd_same, List.map_append]; rfl, S7.put nd1 nd2, fun b o h n => ?_⟩
      · rw [List.length_map]
        exact Nat.lt_of_le_of_lt (show ys.length ≤ 11 by omega) (by decide)
      · intro y hy
        rcases List.mem_append.mp hy with h | h
        · exact hys y h
        · rw [List.mem_singleton.mp h]
          exact ⟨Nat.le_refl 1, strOk_mem so2 (List.mem_of_getElem? hc)⟩
      · rw [upd_ne (ne_of_none h hD)]
        exact m7 _ _ (m6 _ _ (m5 _ _ h n) n) n
    · rintro H5 ⟨ys, hy, _, hys, hl5, S5, m5⟩
      have hsum := sumLen ys 11 (fun y h => (hys y h).1) (by omega)
      have e0 : ("" : Str).length = 0 := by decide +kernel
      refine ⟨"", Dl, ys, rfl, rfl, .inl (sq_of hl5), by rw [e0]; omega, ?_⟩
      have hx : OkS 11 (Txt.join "" ys) := by
        rw [TL.join_eq]
        exact ⟨by rw [join0]; exact hsum, strOk_join "" (by decide +kernel) ys fun y h => (hys y h).2⟩
      generalize Txt.join "" ys = x at hx
      have m05 := m04.trans m5
      clear hl5 hys hsum hy m5
      refine q_cut (M := fun σ' H' => ∃ x, σ' = [some (.ref d), some (.str signs), some (.int kd), some (.int n), some (.str x), none] ∧ OkS 300 x ∧ StreamAt H' d l ∧ Mv d H H') ?_ ?_
      · refine tIf_go (tTest_go (tOp_go (x_pick (ev_var rfl) ev_c (by decide) (by decide) S5 fun g H6 g0 g1 S6 m6 => ⟨rfl, _, rfl, ?_⟩)))
        refine ite2 (fun _ => ?_) (fun _ => ⟨x, rfl, ⟨by have := hx.1; omega, hx.2⟩, S6, m05.trans m6⟩)
        refine asg_go (tOp_go ⟨_, rfl, tOp_go ?_⟩)
        refine x_menu (by walk_at "ed") (ev_var rfl) ev_c rfl (by decide) (by decide) S6 fun v1 x1 H7 hx1 hv1 S7 m7 => ?_
        refine x_menu (by walk_at "ed") (ev_var rfl) ev_c rfl (by decide) (by decide) S7 fun v2 x2 H8 hx2 hv2 S8 m8 => ?_
        obtain ⟨z, rfl, hz1, hz2⟩ : ∃ z, x1 = .str z ∧ z.length ≤ 2 ∧ PyData.strOk z = true := by
          simp only [List.mem_cons, List.not_mem_nil, or_false] at hx1
          rcases hx1 with h | h <;> exact ⟨_, h, by decide +kernel, by decide +kernel⟩
        obtain ⟨q, rfl, hq0, hq1⟩ : ∃ q, x2 = .int q ∧ 0 ≤ q ∧ q ≤ 99 := by
          simp only [List.mem_cons, List.not_mem_nil, or_false] at hx2
          rcases hx2 with h | h | h | h <;> exact ⟨_, h, by decide, by decide⟩
        obtain rfl := dp_str hv1
        obtain rfl := dp_int hv2
        refine ⟨z, q, rfl, rfl, hq0, by omega, by omega, fun r hr1 hr2 => ?_⟩
        have hr3 : q.toNat * z.length ≤ 99 * 2 := Nat.mul_le_mul (by omega) hz1
        have hxl := hx.1
        have hxr := app_len x r
        refine ⟨x, r, rfl, rfl, Nat.le_trans (show x.length + r.length ≤ 300 by omega) (by decide), x ++ r, rfl, ⟨by omega, by rw [strOk_app, hx.2, hr2 hz2]; rfl⟩, S8, ((m05.trans m6).trans m7).trans m8⟩
      · rintro σ' H6 ⟨x, rfl, hx, S6, m06⟩
        refine q_cut (M := fun σ' H' => ∃ x, σ' = [some (.ref d), some (.str signs), some (.int kd), some (.int n), some (.str x), none] ∧ OkS 500 x ∧ StreamAt H' d l ∧ Mv d H H') ?_ ?_
        · refine tIf_go (tTest_go (tOp_go (x_pick (ev_var rfl) ev_c (by decide) (by decide) S6 fun g H7 g0 g1 S7 m7 => ⟨rfl, _, rfl, ?_⟩)))
          refine ite2 (fun _ => ?_) (fun _ => ⟨x, rfl, ⟨by have := hx.1; omega, hx.2⟩, S7, m06.trans m7⟩)
          have hxl := hx.1
          have hdl : ("." : Str).length = 1 := by decide +kernel
          have hxd := app_len x "."
          refine asg_go (tOp_go (tOp_go ⟨_, rfl, x, ".", rfl, rfl, Nat.le_trans (show x.length + ("." : Str).length ≤ 400 by omega) (by decide), tOp_go (tC_go ?_)⟩))
          refine x_pick (ev_var rfl) ev_c (by decide) (by decide) S7 fun g H8 g0 g1 S8 m8 => ⟨"t", g, rfl, rfl, g0, by omega, by decide +kernel, fun r hr1 hr2 => ?_⟩
          have htl : ("t" : Str).length = 1 := by decide +kernel
          rw [htl] at hr1
          have hxr := app_len (x ++ ".") r
          refine ⟨x ++ ".", r, rfl, rfl, Nat.le_trans (show (x ++ ".").length + r.length ≤ 500 by omega) (by decide), x ++ "." ++ r, rfl, ⟨by omega, by rw [strOk_app, strOk_app, hx.2, hr2 (by decide +kernel)]; decide +kernel⟩, S8, (m06.trans m7).trans m8⟩
        · rintro σ' H7 ⟨x, rfl, hx, S7, m07⟩
          refine s_ret (ev_var rfl) fun H8 e8 => k x H8 hx (S7.ex' e8) (m07.ex e8)
theorem c_bent (T : Txt K mg) : Cal P w K mg base 3 "_law_bent" spBent := by
  obtain ⟨fd, F⟩ := T.f_law_bent
  refine cal_of F T.g_law_bent (F.bindsN fun _ _ _ _ _ _ us hl => match us, hl with | [_, _], _ => rfl) sc_law_bent (fun vs H Q E h => ?_) (fun cdv A₀ outer s H vs Q E hr h => ?_)
  · obtain ⟨d, l, x, rfl, _⟩ := h
    rfl
  · obtain ⟨d, l, x, rfl, hx, S, k⟩ := h
    have nd := sc_law_bent.nd
    refine ⟨_, pss_cons (ps_if (pt_cmpR op_eq (pv 1) pe_str (nomark _)) (pss_one (ps_ret pe_str)) pss_nil)
      (pss_cons (ps_set (i := 2) nd rfl (Or.inl rfl) (pe_c (c_pick T) hr (by decide) rfl (pa_cons (pv 0) (pa_cons (pe_callB call_len_str (by rfl) T.b_len (by decide +kernel) (pa_cons (pv 1) pa_nil)) pa_nil))))
      (pss_one (ps_ret (pe_op op_add_str (pe_op op_add_str (pe_slice sl_str (pv 1) po_none (po_some (pv 2))) (pe_ix ix_str pe_str (pe_c (c_pick T) hr (by decide) rfl (pa_cons (pv 0) (pa_cons pe_int pa_nil))) (fun _ _ => rfl))) (pe_slice sl_str (pv 1) (po_some (pe_op op_add (pv 2) pe_int)) po_none))))), ?_⟩
    try dsimp only [cxOf, Cx.nox, Cx.wish]
    have hx1 := hx.1
    refine q_when (by walk_at "ev") (fun hb H1 e1 => s_ret ev_c fun H2 e2 => k "a" H2 ⟨by decide +kernel, by decide +kernel⟩ (S.ex' (e1.trans e2)) (.of (e1.trans e2))) (fun hb H1 e1 => ?_)
    have hne : ¬ x.length = 0 := fun e => by
      have : x = "" := ext_tl (by
        have h1 : tl x = [] := List.eq_nil_of_length_eq_zero (by rw [← len_tl]; exact e)
        rw [h1]
        decide +kernel)
      rw [this] at hb
      simp at hb
    refine q_asgX (x_pick (ev_var rfl) (by walk_at "ev") (by omega) (by omega) (S.ex' e1) fun g H2 g0 g1 S2 m2 => ?_)
    have hc1 := cutS_len x none (some g)
    have hc2 := cutS_len x (some (g + 1)) none
    refine tOp_go (tOp_go (Ev_go (ev_slS (ev_var rfl) eo_none (eo_some (ev_var rfl)) (by omega)) fun H3 e3 => tOp_go (tC_go ?_)))
    refine x_pick (ev_var rfl) ev_c (by decide) (by decide) (S2.ex' e3) fun g2 H4 h0 h1 S4 m4 => ?_
    have hs : ("aAbBxyQC" : Str).length = 8 ∧ PyData.strOk ("aAbBxyQC" : Str) = true := by decide +kernel
    obtain ⟨c, hc⟩ := get_of_lt (l := tl ("aAbBxyQC" : Str)) (i := g2.toNat) (by rw [← len_tl, hs.1]; omega)
    have eg : g2 = ((g2.toNat : Nat) : Int) := by omega
    have l1 : (⟨#[c]⟩ : Str).length = 1 := rfl
    have l2 := app_len (cutS x none (some g)) ⟨#[c]⟩
    refine ⟨"aAbBxyQC", g2, c, rfl, rfl, (by rw [hs.1]; decide), (by rw [eg]; exact L2.atI_nat hc), cutS x none (some g), ⟨#[c]⟩, rfl, rfl, Nat.le_trans (show (cutS x none (some g)).length + (⟨#[c]⟩ : Str).length ≤ 2000 by omega) (by decide), ?_⟩
    refine Ev_go (ev_slS (ev_var rfl) (eo_some (by walk_at "ev")) eo_none (by omega)) fun H5 e5 => ⟨_, _, rfl, rfl, Nat.le_trans (show (cutS x none (some g) ++ ⟨#[c]⟩).length + (cutS x (some (g + 1)) none).length ≤ 3000 by omega) (by decide), ?_⟩
    refine k _ H5 ⟨?_, ?_⟩ (S4.ex' e5) ((((Mv.of e1).trans m2).ex e3).trans (m4.ex e5))
    · rw [app_len]
      omega
    · rw [strOk_app, strOk_app, strOk_cut hx.2, strOk_cut hx.2, strOk_mem hs.2 (List.mem_of_getElem? hc)]
      rfl
end
end K0
end

set_option Elab.async false
set_option linter.all false
set_option maxRecDepth 100000
set_option maxHeartbeats 1000000
section
open PySem PySem.Spec PyProof.Rows L2 Evl Kv
local macro_rules | `(tactic| walk_at "sz") => `(tactic| first | with_reducible assumption | omega)
local macro_rules | `(tactic| walk_at "rv") => `(tactic| first
  | with_reducible exact rv_I0
  | ((with_reducible apply rv_addS); walk_at "sz")
  | ((with_reducible apply rv_mod); walk_at "sz")
  | ((with_reducible apply rv_eq); rfl)
  | ((with_reducible apply rv_ne); rfl)
  | ((with_reducible apply rv_ixS); walk_at "sz"; first | exact L2.atI_nat (by assumption) | rfl)
  | ((with_reducible apply rv_ixT); assumption; rfl)
  | ((with_reducible apply rv_ixL); assumption; rfl))
local macro_rules | `(tactic| walk_at "rc") => `(tactic| first
  | ((with_reducible apply rc_lenS); walk_at "sz")
  | with_reducible exact rc_ord
  | ((with_reducible apply rc_strI); walk_at "sz")
  | with_reducible exact rc_int1
  | with_reducible exact rc_int1b
  | with_reducible exact rc_max
  | ((with_reducible apply rc_lenT); assumption))
local macro_rules | `(tactic| walk_at "ea") => `(tactic| first
  | with_reducible exact ea_nil
  | ((with_reducible apply ea_cons); walk_at "ev"; walk_at "ea"))
local macro_rules | `(tactic| walk_at "ev") => `(tactic| first
  | ((with_reducible apply ev_var); rfl)
  | with_reducible exact ev_c
  | ((with_reducible apply ev_inU); walk_at "ev"; walk_at "eu"; rfl; rfl)
  | ((with_reducible apply ev_niU); walk_at "ev"; walk_at "eu"; rfl; rfl)
  | ((with_reducible apply ev_chain); walk_at "ev"; walk_at "ev"; walk_at "ev")
  | ((with_reducible apply ev_op); walk_at "ev"; walk_at "ev"; walk_at "rv")
  | ((with_reducible apply ev_cb); walk_at "ea"; walk_at "rc")
  | ((with_reducible apply ev_call); walk_at "ea"; walk_at "sp")
  | ((with_reducible apply ev_slS); walk_at "ev"; walk_at "eo"; walk_at "eo"; walk_at "sz")
  | ((with_reducible apply et_test); walk_at "ev")
  | ((with_reducible apply et_B); walk_at "ev")
  | ((with_reducible apply et_not); walk_at "ev")
  | ((with_reducible apply et_and); walk_at "ev"; (intro _; walk_at "ev"))
  | ((with_reducible apply et_or); walk_at "ev"; (intro _; walk_at "ev"))
  | ((with_reducible apply ev_andV); walk_at "ev"; (intro _; walk_at "ev"))
  | ((with_reducible apply ev_orV); walk_at "ev"; (intro _; walk_at "ev"))
  | ((with_reducible apply ev_notV); walk_at "ev"))
local macro_rules | `(tactic| walk_at "eo") => `(tactic| first
  | with_reducible exact eo_none
  | ((with_reducible apply eo_some); walk_at "ev"))
local macro_rules | `(tactic| walk_at "eu") => `(tactic| first
  | ((with_reducible apply eu_tup); walk_at "ea"; (simp only [List.length_cons, List.length_nil]; omega)))
namespace K0
open PySem PySem.Spec PyProof.Rows L2 Evl Kv
local macro_rules | `(tactic| walk_at "ed") => `(tactic| first
  | with_reducible exact ed_str
  | with_reducible exact ed_int
  | ((with_reducible apply ed_tup); walk_at "eds"; (simp only [List.length_cons, List.length_nil]; omega)))
local macro_rules | `(tactic| walk_at "eds") => `(tactic| first
  | with_reducible exact ed_nil
  | ((with_reducible apply ed_cons); walk_at "ed"; walk_at "eds"))
theorem RuleAt.mv {K : PySem.W.Frag} {H H' : Hp} {r d : Addr} {A : List (Nat × Nat)} {U : List Str} {L : Int} {pa pu : Addr} {kvs : List (Key × V)} (R : RuleAt K H r A U L pa pu) (m : Mv d H H') (hd : H d = some (.dK kvs)) : RuleAt K H' r A U L pa pu := by
  obtain ⟨⟨dx, s1, s2, s3, s4, h⟩, a, u⟩ := R
  exact ⟨⟨dx, s1, s2, s3, s4, m _ _ h (Mv.ne hd h (by intro k z; cases z))⟩, m.sqt hd a, m.sqt hd u⟩
theorem cutV_take {xs : List V} {g : Int} (h : 0 ≤ g) : cutV xs none (some g) = xs.take g.toNat := by
  have e : g = ((g.toNat : Nat) : Int) := by omega
  unfold cutV
  rw [e]
  show (xs.drop 0).take (HT.sIx xs.length xs.length (some ((g.toNat : Nat) : Int)) - 0) = _
  rw [HT.sIx_nat, List.drop_zero, Nat.sub_zero, Int.toNat_natCast]
  by_cases z : g.toNat ≤ xs.length
  · rw [Nat.min_eq_left z]
  · rw [Nat.min_eq_right (by omega), List.take_of_length_le (Nat.le_refl _), List.take_of_length_le (by omega)]
theorem path_join {x : Str} {ps : List Str} (h : pathOf x = some ps) (hx : x.length ≤ 5000) (hok : PyData.strOk x = true) : Txt.join "/" ps = x ∧ (ps.map (·.length)).sum + ps.length * 1 ≤ 16777216 ∧ ∀ p ∈ ps, PyData.strOk p = true := by
  unfold pathOf at h
  by_cases e : x = ""
  · rw [if_pos e] at h
    cases h
    rw [e]
    exact ⟨rfl, by decide, fun _ h => nomatch h⟩
  · rw [if_neg e] at h
    by_cases z : (Txt.split x "/").all isName = true
    · rw [if_pos z] at h
      cases h
      refine ⟨by rw [TL.join_eq]; exact StrLaws.join_split x "/", by rw [split_sum x e]; omega, strOk_parts "/" _ (by rw [StrLaws.join_split]; exact hok)⟩
    · rw [if_neg z] at h
      cases h
theorem q_asgG {te : TE} {g : TG} {tz : TS} {D : Ends} {σ : L2.St} {H : Hp} (h : te σ H fun v H1 => g v σ H1 (tz D)) : tSeq (tAsg te g) tz D σ H := h
theorem tSl_go {r : V → Option Int → Option Int → Hp → VK → Prop} {te : TE} {tlo thi : TO} {σ : L2.St} {H : Hp} {Q : VK} (h : te σ H fun x H1 => tlo σ H1 fun l H2 => thi σ H2 fun u H3 => r x l u H3 Q) : tSl r te tlo thi σ H Q := h
theorem noPart_go {σ : L2.St} {H : Hp} {Q : Option Int → Hp → Prop} (h : Q none H) : tNoPart σ H Q := h
theorem part_go {te : TE} {σ : L2.St} {H : Hp} {Q : Option Int → Hp → Prop} (h : te σ H fun x H1 => ∃ i, x = .int i ∧ Q (some i) H1) : tPart te σ H Q := h
theorem ret_go {te : TE} {D : Ends} {σ : L2.St} {H : Hp} (h : te σ H D.rt) : tRet te D σ H := h
theorem andV_go {ta tb : TE} {σ : L2.St} {H : Hp} {Q : VK} (h : ta σ H fun x H1 => ∃ c, x = .bl c ∧ if c = true then tb σ H1 Q else Q (.bl false) H1) : tAndV ta tb σ H Q := h
theorem rv_notN {x : V} {H : Hp} : RV (fun x y H Q => y = .non ∧ Q (.bl (!decide (x = .non))) H) x .non H (.bl (!decide (x = .non))) := fun H1 _ _ q => ⟨rfl, q H1 (Ex.refl H1)⟩
theorem same_law (A : List (Nat × Nat)) (x y : Str) : sameN A x y = (decide (V.int (x.length : Nat) = V.int (y.length : Nat)) && decide (V.str (caOf A x) = V.str (caOf A y))) := by
  rw [sameN_ca]
  by_cases h : caOf A x = caOf A y
  · have hl : x.length = y.length := by rw [← caOf_len A x, ← caOf_len A y, h]
    rw [h, hl]
    simp
  · rw [decide_eq_false h, decide_eq_false (show ¬ V.str (caOf A x) = V.str (caOf A y) from fun z => h (by injection z))]
    simp
theorem endS_ok {x : Str} (h : PyData.strOk x = true) : PyData.strOk (endS x) = true := by
  unfold endS
  split
  · exact strOk_cut h _ _
  · decide +kernel
theorem eqv_same {d : PyData} (h : SeqAt.shaped d = true) : PyData.eqv d d = true := SeqAt.eqv_refl d (SeqAt.canLay_of_shaped h)
theorem nums_ok : ∀ x ∈ ([.tuple [.int 1, .int 0], .tuple [.int 12, .int 345], .tuple [.int 999999999999, .int 999999999999]] : List PyData), ∃ a b : Int, x = .tuple [.int a, .int b] ∧ (0 ≤ a ∧ a < 10 ^ 12) ∧ (0 ≤ b ∧ b < 10 ^ 12) := by
  intro x hx
  simp only [List.mem_cons, List.not_mem_nil, or_false] at hx
  rcases hx with h | h | h <;> exact ⟨_, _, h, by decide, by decide⟩
def spLaw (K : PySem.W.Frag) : Sp := fun vs H Q _ => ∃ (a : Addr) (ns : List Int), vs = [.ref a] ∧ SqL K H a (ns.map V.int) ∧ ns.length ≤ 63 ∧ ∀ H', Q (.bl true) H'
abbrev dotsL : List Str := ["..", "."]
abbrev numsD : List PyData := [.tuple [.int 1, .int 0], .tuple [.int 12, .int 345], .tuple [.int 999999999999, .int 999999999999]]
section
variable {P : Program} {w : World} {K : PySem.W.Frag} {mg : Str → Option Value} {base : Heap}
theorem ok_law (T : Txt K mg) {f : Addr} {fd : FuncData} (F : FnP K "law" s_law f fd) : FnOk P w K mg base CX0 5 f fd ["script"] (spLaw K) := by
  refine FunD.ok F sc_law (fun vs H Q E h => ?_) (fun cdv A₀ outer s H vs Q E hr h => ?_)
  · obtain ⟨a, ns, rfl, _⟩ := h
    rfl
  · obtain ⟨a, ns, rfl, hS, hn, k⟩ := h
    have nd := sc_law.nd
    refine ⟨_, PSs.nox (pss_cons (ps_set (i := 1) nd rfl (Or.inl rfl) (pe_c (c_stream T) hr (by decide) rfl (pa_cons (pv 0) pa_nil)))
      (pss_cons (ps_for PassesOwn.never rfl (pi_range1 rfl T.b_range (pa_cons pe_int pa_nil)) (pg_name (i := 2) nd rfl (Or.inl rfl))
        (pss_cons (ps_set (i := 3) nd rfl (Or.inl rfl) (pe_c (c_told T) hr (by decide) rfl (pa_cons (pv 1) pa_nil)))
        (pss_cons (ps_set (i := 4) nd rfl (Or.inl rfl) (pe_c (c_ruleOf T) hr (by decide) rfl (pa_cons (pv 3) pa_nil)))
        (pss_cons (ps_set (i := 5) nd rfl (Or.inl rfl) (pe_c (c_any T) hr (by decide) rfl (pa_cons (pv 1) pa_nil)))
        (pss_cons (ps_set (i := 6) nd rfl (Or.inl rfl) (pe_c (c_bent T) hr (by decide) rfl (pa_cons (pv 1) (pa_cons (pv 5) pa_nil))))
        (Evl.pss_cut (ps_if (pt_cmpR op_eq (pe_c (c_pick T) hr (by decide) rfl (pa_cons (pv 1) (pa_cons pe_int pa_nil))) pe_int (nomark _))
          (pss_one (ps_set (i := 5) nd rfl (Or.inl rfl) (pe_ix ix_tup (pe_op op_catA (pe_ix ix_tup (pv 3) pe_int (fun _ _ => rfl)) (pe_tup (pa_cons pe_str (pa_cons pe_str pa_nil))))
            (pe_c (c_pick T) hr (by decide) rfl (pa_cons (pv 1) (pa_cons (pe_op op_add (pe_callB call_len_seq (by rfl) T.b_len (by decide +kernel) (pa_cons (pe_ix ix_tup (pv 3) pe_int (fun _ _ => rfl)) pa_nil)) pe_int) pa_nil))) (fun _ _ => rfl)))) pss_nil)
        (pss_cons (ps_if (PW.pt (pw_or (pt_cmpR op_ne (pe_c (c_is_name T) hr (by decide) rfl (pa_cons (pv 5) pa_nil)) (pe_c (c_isNameL T) hr (by decide) rfl (pa_cons (pv 5) pa_nil)) (nomark _))
            (pw_or (pt_cmpR op_ne (pe_c (c_fits T) hr (by decide) rfl (pa_cons (pv 4) (pa_cons (pv 5) pa_nil))) (pe_c (c_fitsL T) hr (by decide) rfl (pa_cons (pv 3) (pa_cons (pv 5) pa_nil))) (nomark _))
            (pw_or1 (pt_cmpR op_ne (pe_c (c_fits T) hr (by decide) rfl (pa_cons (pv 4) (pa_cons (pv 6) pa_nil))) (pe_c (c_fitsL T) hr (by decide) rfl (pa_cons (pv 3) (pa_cons (pv 6) pa_nil))) (nomark _))))))
          (pss_one (ps_ret pe_bl)) pss_nil)
        (Evl.pss_cut (ps_if (PW.pt (pw_and (pt_val (pe_c (c_isNameL T) hr (by decide) rfl (pa_cons (pv 5) pa_nil))) (pw_and1 (pt_val (pe_c (c_isNameL T) hr (by decide) rfl (pa_cons (pv 6) pa_nil))))))
          (pss_cons (ps_if (pt_cmpR op_ne (pe_c (c_same T) hr (by decide) rfl (pa_cons (pv 4) (pa_cons (pv 5) (pa_cons (pv 6) pa_nil))))
              (pe_and (pe_cmpR op_eq (pe_callB call_len_str (by rfl) T.b_len (by decide +kernel) (pa_cons (pv 5) pa_nil)) (pe_callB call_len_str (by rfl) T.b_len (by decide +kernel) (pa_cons (pv 6) pa_nil)) (nomark _))
                (pe_one (pe_cmpR op_eq (pe_c (c_counts T) hr (by decide) rfl (pa_cons (pv 3) (pa_cons (pv 5) pa_nil))) (pe_c (c_counts T) hr (by decide) rfl (pa_cons (pv 3) (pa_cons (pv 6) pa_nil))) (nomark _)))) (nomark _)) (pss_one (ps_ret pe_bl)) pss_nil)
          (pss_cons (ps_asg (pe_c (c_cut T) hr (by decide) rfl (pa_cons (pv 5) pa_nil)) (pg_tup rfl (pgs_cons (pg_name (i := 7) nd rfl (Or.inl rfl)) (pgs_cons (pg_name (i := 8) nd rfl (Or.inl rfl)) pgs_nil))))
          (pss_cons (ps_if (pt_cmpR (op_neD hr.units) (pe_tup (pa_cons (pe_c (c_stem T) hr (by decide) rfl (pa_cons (pv 5) pa_nil)) (pa_cons (pe_c (c_ending T) hr (by decide) rfl (pa_cons (pv 5) pa_nil)) pa_nil))) (pe_tup (pa_cons (pv 7) (pa_cons (pv 8) pa_nil))) (nomark _)) (pss_one (ps_ret pe_bl)) pss_nil)
          (pss_cons (ps_set (i := 9) nd rfl (Or.inl rfl) (pe_ix ix_tup (pe_tup (pa_cons (pe_tup (pa_cons pe_int (pa_cons pe_int pa_nil))) (pa_cons (pe_tup (pa_cons pe_int (pa_cons pe_int pa_nil))) (pa_cons (pe_tup (pa_cons pe_int (pa_cons pe_int pa_nil))) pa_nil))))
            (pe_c (c_pick T) hr (by decide) rfl (pa_cons (pv 1) (pa_cons pe_int pa_nil))) (fun _ _ => rfl)))
          (pss_cons (ps_set (i := 10) nd rfl (Or.inl rfl) (pe_ix ix_tup (pe_tup (pa_cons pe_int (pa_cons pe_int (pa_cons pe_int (pa_cons pe_int pa_nil))))) (pe_c (c_pick T) hr (by decide) rfl (pa_cons (pv 1) (pa_cons pe_int pa_nil))) (fun _ _ => rfl)))
          (pss_cons (ps_if (pt_cmpR op_ne (pe_c (c_copy T) hr (by decide) rfl (pa_cons (pe_ix ix_tup (pv 3) pe_int (fun _ _ => rfl)) (pa_cons (pv 5) (pa_cons (pv 9) (pa_cons (pv 10) pa_nil)))))
              (pe_c (c_copied T) hr (by decide) rfl (pa_cons (pe_ix ix_tup (pv 3) pe_int (fun _ _ => rfl)) (pa_cons (pv 5) (pa_cons (pv 9) (pa_cons (pv 10) pa_nil))))) (nomark _)) (pss_one (ps_ret pe_bl)) pss_nil)
          (pss_cons (ps_set (i := 11) nd rfl (Or.inl rfl) (pv 5))
          (pss_cons (ps_if (pt_cmpR op_gt (pv 10) pe_int (nomark _)) (pss_one (ps_set (i := 11) nd rfl (Or.inl rfl) (pe_c (c_worded T) hr (by decide) rfl (pa_cons (pe_ix ix_tup (pv 3) pe_int (fun _ _ => rfl)) (pa_cons (pv 5)
              (pa_cons (pe_op op_add_str pe_str (pe_callTy call_str_int (by rfl) T.b_str (by decide +kernel) (pa_cons (pv 10) pa_nil))) pa_nil)))))) pss_nil)
          (pss_one (ps_if (pt_cmpR op_ne (pe_c (c_numb T) hr (by decide) rfl (pa_cons (pe_ix ix_tup (pv 3) pe_int (fun _ _ => rfl)) (pa_cons (pv 5) (pa_cons (pv 10) pa_nil)))) (pv 11) (nomark _)) (pss_one (ps_ret pe_bl)) pss_nil)))))))))) pss_nil)
        (pss_cons (ps_set (i := 12) nd rfl (Or.inl rfl) (pe_join pe_str (pe_slice sl_list (pe_lst (pa_cons (pv 5) (pa_cons (pv 6) (pa_cons pe_str pa_nil)))) po_none (po_some (pe_c (c_pick T) hr (by decide) rfl (pa_cons (pv 1) (pa_cons pe_int pa_nil)))))))
        (pss_cons (ps_set (i := 13) nd rfl (Or.inl rfl) (pe_c (c_pathL T) hr (by decide) rfl (pa_cons (pv 12) pa_nil)))
        (pss_one (ps_if (PW.pt (pw_or (pt_cmpR (OpR.or op_ne (op_neD hr.units)) (pe_c (c_readPath T) hr (by decide) rfl (pa_cons (pv 12) pa_nil)) (pv 13) (nomark _))
          (pw_or1 (PW.pt (pw_and (pt_cmpR op_notN (pv 13) pe_non (nomark _)) (pw_and1 (pt_cmpR op_ne (pe_c (c_pathText T) hr (by decide) rfl (pa_cons (pv 13) pa_nil)) (pv 12) (nomark _)))))))) (pss_one (ps_ret pe_bl)) pss_nil))))))))))))
      (pss_one (ps_ret (pe_and (pe_cmpR (op_eqD hr.units) (pe_c (c_readPath T) hr (by decide) rfl (pa_cons pe_str pa_nil)) (pe_tup pa_nil) (nomark _))
        (pe_one (pe_cmpR op_eq (pe_c (c_pathText T) hr (by decide) rfl (pa_cons (pe_tup pa_nil) pa_nil)) pe_str (nomark _)))))))), ?_⟩
    try dsimp only [cxOf, Cx.nox, Cx.wish]
    -- stream = _law_stream(script)
    refine q_asgX (tCall_go ⟨_, rfl, a, ns, rfl, hS, hn, fun d l H1 e1 S1 => ?_⟩)
    refine q_forR1 (ea_cons ev_c ea_nil) ⟨by decide, by decide⟩ (fun i σ' H' => (∃ w2 w3 w4 w5 w6 w7 w8 w9 w10 w11 w12 w13, σ' = [some (.ref a), some (.ref d), w2, w3, w4, w5, w6, w7, w8, w9, w10, w11, w12, w13]) ∧ StreamAt H' d l) (fun H2 e2 => ⟨⟨_, _, _, _, _, _, _, _, _, _, _, _, rfl⟩, S1.ex' e2⟩) ?_ ?_
    · rintro i σ' H2 hi ⟨⟨w2, w3, w4, w5, w6, w7, w8, w9, w10, w11, w12, w13, rfl⟩, S2⟩
      -- told, rule
      refine q_asgX (tCall_go ⟨_, rfl, d, l, rfl, S2, fun t H3 A U L s1 s2 s3 s4 okR ht3 S3 m3 => ?_⟩)
      refine q_asgX (tCall_go ⟨_, rfl, t, A, U, L, s1, s2, s3, s4, rfl, ht3, fun r H4 pa pu e4 R4 => ?_⟩)
      have S4 := S3.ex' e4
      have ht4 := dp_ex e4 ht3
      obtain ⟨k4, hk4⟩ := S4.dk
      -- one, other
      refine q_asgX (tCall_go ⟨_, rfl, d, l, rfl, S4, fun one0 H5 ho5 S5 m5 => ?_⟩)
      have ht5 := dp_mv m5 hk4 ht4
      have R5 := R4.mv m5 hk4
      obtain ⟨k5, hk5⟩ := S5.dk
      refine q_asgX (tCall_go ⟨_, rfl, _, rfl, d, l, one0, rfl, ⟨by have := ho5.1; omega, ho5.2⟩, S5, fun other H6 ho6 S6 m6 => ?_⟩)
      have ht6 := dp_mv m6 hk5 ht5
      have R6 := R5.mv m6 hk5
      -- one, perhaps another
      refine q_cut (M := fun σ' H' => ∃ one v2, σ' = [some (.ref a), some (.ref d), v2, some (.ref t), some (.ref r), some (.str one), some (.str other), w7, w8, w9, w10, w11, w12, w13] ∧ OkS 1000 one ∧ StreamAt H' d l ∧ Dp K H' (.ref t) (toldD A U L s1 s2 s3 s4) ∧ RuleAt K H' r A U L pa pu) ?_ ?_
      · obtain ⟨k6, hk6⟩ := S6.dk
        refine tIf_go (tTest_go (tOp_go (x_pick (ev_var rfl) ev_c (by decide) (by decide) S6 fun g H7 g0 g1 S7 m7 => ⟨rfl, _, rfl, ?_⟩)))
        have ht7 := dp_mv m7 hk6 ht6
        have R7 := R6.mv m7 hk6
        refine ite2 (fun _ => ?_) (fun _ => ⟨one0, _, rfl, ⟨by have := ho5.1; omega, ho5.2⟩, S7, ht7, R7⟩)
        obtain ⟨qa, qu, vs, hT, h0, h1, h2, hpa, hpu⟩ := told_parts ht7
        refine asg_go (tOp_go (tOp_go (Ev_go (ev_op (ev_var rfl) ev_c (rv_ixT hT h1)) fun H8 e8 => EvU_go (eu_tup (ea_cons ev_c (ea_cons ev_c ea_nil)) (by show 2 ≤ 100000; decide)) fun p H9 hp e9 h9 => ?_)))
        have hul := okR.ul
        -- the tuple of names, with two more
        have go : ∀ (q : Addr) H10, Ex H9 H10 → SqT K H10 q ((U ++ dotsL).map V.str) → tCall spPick [] E0 (tCons (tVar 1) (tCons (tOp (rI0 fun i j => .int (i + j)) (tCB (fun xs H Q => ∃ p xs_1, xs = [V.ref p] ∧ (SqL K H p xs_1 ∨ SqT K H p xs_1) ∧ Q (V.int ↑xs_1.length) H) (tCons (tOp (rIxT K) (tVar 3) (tC (.int 1))) tNil)) (tC (.int 2))) tNil))
            [some (.ref a), some (.ref d), some (.int (i : Int)), some (.ref t), some (.ref r), some (.str one0), some (.str other), w7, w8, w9, w10, w11, w12, w13] H10 fun y H11 => rIxT K (.ref q) y H11 fun v H12 => ∃ one v2, [some (.ref a), some (.ref d), some (.int (i : Int)), some (.ref t), some (.ref r), some v, some (.str other), w7, w8, w9, w10, w11, w12, w13] = [some (.ref a), some (.ref d), v2, some (.ref t), some (.ref r), some (.str one), some (.str other), w7, w8, w9, w10, w11, w12, w13] ∧ OkS 1000 one ∧ StreamAt H12 d l ∧ Dp K H12 (.ref t) (toldD A U L s1 s2 s3 s4) ∧ RuleAt K H12 r A U L pa pu := fun q H10 e10 hq => by
          have e7 := (e8.trans e9).trans e10
          have S10 := S7.ex' e7
          obtain ⟨k10, hk10⟩ := S10.dk
          have hlen : (U.map V.str).length = U.length := List.length_map ..
          have ev : Ev (tOp (rI0 fun i j => .int (i + j)) (tCB (fun xs H Q => ∃ p xs_1, xs = [V.ref p] ∧ (SqL K H p xs_1 ∨ SqT K H p xs_1) ∧ Q (V.int ↑xs_1.length) H) (tCons (tOp (rIxT K) (tVar 3) (tC (.int 1))) tNil)) (tC (.int 2))) [some (.ref a), some (.ref d), some (.int (i : Int)), some (.ref t), some (.ref r), some (.str one0), some (.str other), w7, w8, w9, w10, w11, w12, w13] H10 (.int ((U.length : Nat) + 2)) := by
            have z := rc_lenT (ex_t e7 hpu) (H := H10)
            rw [hlen] at z
            exact ev_op (ev_cb (ea_cons (ev_op (ev_var rfl) ev_c (rv_ixT (ex_t e7 hT) h1)) ea_nil) z) ev_c rv_I0
          refine x_pick (ev_var rfl) ev (by omega) (by omega) S10 fun g H11 g0 g1 S11 m11 => ?_
          have eg : g = ((g.toNat : Nat) : Int) := by omega
          obtain ⟨o, ho⟩ : ∃ o, (U ++ dotsL)[g.toNat]? = some o := ⟨(U ++ dotsL)[g.toNat]'(by rw [List.length_append]; show g.toNat < U.length + 2; omega), by simp⟩
          refine ⟨q, _, g, .str o, rfl, rfl, m11.sqt hk10 hq, (by rw [eg]; exact L2.atI_nat (by rw [List.getElem?_map, ho]; rfl)), o, _, rfl, ?_, S11, dp_mv m11 hk10 (dp_ex e7 ht7), (R7.mono e7).mv m11 hk10⟩
          rcases List.mem_append.mp (List.mem_of_getElem? ho) with z | z
          · exact ⟨by have := (okR.us o z).1; omega, (okR.us o z).2⟩
          · simp only [List.mem_cons, List.not_mem_nil, or_false] at z
            rcases z with z | z <;> rw [z] <;> exact ⟨by decide +kernel, by decide +kernel⟩
        refine ⟨qu, p, _, _, rfl, rfl, ex_t (e8.trans e9) hpu, st_of h9, ?_, fun hU => ?_, fun _ z => (nomatch z), fun _ _ q hq => ?_⟩
        · rw [List.length_map]
          exact Nat.le_trans (show U.length + 2 ≤ 2000 by omega) (by decide)
        · have hU' : U = [] := List.map_eq_nil_iff.mp hU
          refine go p H9 (Ex.refl _) ?_
          rw [hU']
          exact st_of h9
        · refine go q _ (Ex.new hq) ?_
          rw [List.map_append]
          exact st_of upd_same
      · rintro σ' H7 ⟨one, v2, rfl, ho, S7, ht, R⟩
        have ho1 := ho.1
        have ho6l := ho6.1
        have hol : ∀ o ∈ U, o.length ≤ 20000 := fun o h => by have := (okR.us o h).1; omega
        have hone : OkS 20000 one := ⟨by omega, ho.2⟩
        have hoth : OkS 20000 other := ⟨by omega, ho6.2⟩
        refine q_when (b := false) ?_ (fun h => nomatch h) fun _ H8 e8 => ?_
        · have w1 : EvT (tTest (tOp rNe (tCall spIsName [] E0 (tCons (tVar 5) tNil)) (tCall spIsNameL [] E0 (tCons (tVar 5) tNil)))) [some (.ref a), some (.ref d), v2, some (.ref t), some (.ref r), some (.str one), some (.str other), w7, w8, w9, w10, w11, w12, w13] H7 false := by
            refine et_is (et_test (ev_op (ev_call (ea_cons (ev_var rfl) ea_nil) (sv_isName hone.1)) (ev_call (ea_cons (ev_var rfl) ea_nil) (sv_isNameL hone)) (rv_ne rfl))) (by simp)
          have w2 : ∀ i x, ([some (.ref a), some (.ref d), v2, some (.ref t), some (.ref r), some (.str one), some (.str other), w7, w8, w9, w10, w11, w12, w13] : L2.St)[i]? = some (some (.str x)) → OkS 20000 x → EvT (tTest (tOp rNe (tCall (spFits K) [] E0 (tCons (tVar 4) (tCons (tVar i) tNil))) (tCall (spFitsL K) [] E0 (tCons (tVar 3) (tCons (tVar i) tNil))))) [some (.ref a), some (.ref d), v2, some (.ref t), some (.ref r), some (.str one), some (.str other), w7, w8, w9, w10, w11, w12, w13] H7 false := fun i x hx okx => by
            refine et_is (et_test (ev_op (ev_call (ea_cons (ev_var rfl) (ea_cons (ev_var hx) ea_nil)) (sv_fits R okR.al hol okx.1)) (ev_call (ea_cons (ev_var rfl) (ea_cons (ev_var hx) ea_nil)) (sv_fitsL ht okR okx)) (rv_ne rfl))) (by simp)
          exact et_is (et_or w1 fun _ => et_or (w2 5 one rfl hone) fun _ => w2 6 other rfl hoth) rfl
        have S8 := S7.ex' e8
        have ht8 := dp_ex e8 ht
        have R8 := R.mono e8
        clear S7 ht R
        -- names: copies, numbers
        refine q_cut (M := fun σ' H' => ∃ v2 v7 v8 v9 v10 v11, σ' = [some (.ref a), some (.ref d), v2, some (.ref t), some (.ref r), some (.str one), some (.str other), v7, v8, v9, v10, v11, w12, w13] ∧ StreamAt H' d l) ?_ ?_
        · refine s_when (et_and (et_B (ev_call (ea_cons (ev_var rfl) ea_nil) (sv_isNameL hone))) fun _ => et_B (ev_call (ea_cons (ev_var rfl) ea_nil) (sv_isNameL hoth))) (fun _ H9 e9 => ?_) (fun _ H9 e9 => ⟨_, _, _, _, _, _, rfl, S8.ex' e9⟩)
          have S9 := S8.ex' e9
          have ht9 := dp_ex e9 ht8
          have R9 := R8.mono e9
          obtain ⟨qa, qu, vs, hT, h0, h1, h2, hpa, hpu⟩ := told_parts ht9
          refine q_when (b := false) ?_ (fun h => nomatch h) fun _ H10 e10 => ?_
          · refine et_is (et_test (ev_op (ev_call (ea_cons (ev_var rfl) (ea_cons (ev_var rfl) (ea_cons (ev_var rfl) ea_nil))) (sv_same R9 okR.al hone.1 hoth.1)) (ev_andV (ev_op (ev_cb (ea_cons (ev_var rfl) ea_nil) (rc_lenS (by omega))) (ev_cb (ea_cons (ev_var rfl) ea_nil) (rc_lenS (by omega))) (rv_eq rfl)) fun _ =>
              ev_op (ev_call (ea_cons (ev_var rfl) (ea_cons (ev_var rfl) ea_nil)) (sv_counts ht9 okR.al hone.1)) (ev_call (ea_cons (ev_var rfl) (ea_cons (ev_var rfl) ea_nil)) (sv_counts ht9 okR.al hoth.1)) (rv_eq rfl)) (rv_ne rfl))) (by rw [same_law]; simp)
          refine q_asgG (EvU_go (eu_call (ea_cons (ev_var rfl) ea_nil) (su_cut (by omega))) fun p H11 hp e11 h11 => ⟨p, _, rfl, st_of h11, rfl, _, _, rfl, _, _, rfl, rfl, ?_⟩)
          have e911 := e10.trans e11
          have hsh := shaped_strs (xs := [stemS one, endS one]) fun y hy => by
            simp only [List.mem_cons, List.not_mem_nil, or_false] at hy
            rcases hy with z | z <;> rw [z]
            · exact strOk_cut ho.2 _ _
            · exact endS_ok ho.2
          dsimp only
          refine q_when (b := false) ?_ (fun h => nomatch h) fun _ H12 e12 => ?_
          · refine et_is (et_test (ev_opUU (eu_tup (ea_cons (ev_call (ea_cons (ev_var rfl) ea_nil) (sv_s1 (by omega))) (ea_cons (ev_call (ea_cons (ev_var rfl) ea_nil) (sv_s1 (by omega))) ea_nil)) (by show 2 ≤ 100000; decide)) (eu_tup (ea_cons (ev_var rfl) (ea_cons (ev_var rfl) ea_nil)) (by show 2 ≤ 100000; decide))
              fun p q H1 hp hq _ => rv_neD (.tup (st_of hp) (dpa_of_strs [stemS one, endS one])) (.tup (st_of hq) (dpa_of_strs [stemS one, endS one])) hsh.2 hsh.2)) (by rw [eqv_same hsh.2]; rfl)
          have e912 := e911.trans e12
          have S12 := S9.ex' e912
          have ht12 := dp_ex e912 ht9
          obtain ⟨k12, hk12⟩ := S12.dk
          refine q_asgX (x_menu (by walk_at "ed") (ev_var rfl) ev_c rfl (by decide) (by decide) S12 fun vn xn H13 hxn hvn S13 m13 => ?_)
          obtain ⟨na, nb, rfl, hna, hnb⟩ := nums_ok xn hxn
          obtain ⟨pn, vs2, rfl, hpn, hdn⟩ := dp_tup hvn
          obtain rfl : vs2 = [.int na, .int nb] := by
            cases hdn with | cons a b => cases b with | cons a2 b => cases b; rw [dp_int a, dp_int a2]
          have ht13 := dp_mv m13 hk12 ht12
          obtain ⟨k13, hk13⟩ := S13.dk
          refine q_asgX (x_menu (by walk_at "ed") (ev_var rfl) ev_c rfl (by decide) (by decide) S13 fun vc xc H14 hxc hvc S14 m14 => ?_)
          obtain ⟨c, rfl, hc⟩ : ∃ c : Int, xc = .int c ∧ (0 ≤ c ∧ c < 10 ^ 12) := by
            simp only [List.mem_cons, List.not_mem_nil, or_false] at hxc
            rcases hxc with h | h | h | h <;> exact ⟨_, h, by decide⟩
          obtain rfl := dp_int hvc
          have hpn14 := m14.sqt hk13 hpn
          have hT14 := m14.sqt hk13 (m13.sqt hk12 (ex_t e912 hT))
          refine q_when (b := false) ?_ (fun h => nomatch h) fun _ H15 e15 => ?_
          · refine et_is (et_test (ev_op (ev_call (ea_cons (ev_op (ev_var rfl) ev_c (rv_ixT hT14 h2)) (ea_cons (ev_var rfl) (ea_cons (ev_var rfl) (ea_cons (ev_var rfl) ea_nil)))) (sv_copy hpn14 (by omega) hna hnb hc))
              (ev_call (ea_cons (ev_op (ev_var rfl) ev_c (rv_ixT hT14 h2)) (ea_cons (ev_var rfl) (ea_cons (ev_var rfl) (ea_cons (ev_var rfl) ea_nil)))) (sv_copy hpn14 (by omega) hna hnb hc)) (rv_ne rfl))) (by simp)
          refine q_asg (v := .str one) (ev_var rfl) fun H16 e16 => ?_
          have hT16 := ex_t (e15.trans e16) hT14
          obtain ⟨_, _, _, _, g5, g6⟩ := sum3 (x := "") (Nat.zero_le 28) (num_len hc.1 hc.2) lits.2.2.2 (Nat.le_refl _) (Nat.le_refl _)
          refine q_ifAsg (v := .str (numbN L one c)) (b := decide (0 < c)) (et_test (ev_op (ev_var rfl) ev_c rv_I0)) (fun hb => ?_) (fun hb => ?_) fun H17 e17 => ?_
          · have e : numbN L one c = withW L one (" " ++ Str.ofString (toString c)) := if_neg (by have := of_decide_eq_true hb; omega)
            rw [e]
            exact ev_call (ea_cons (ev_op (ev_var rfl) ev_c (rv_ixT hT16 h2)) (ea_cons (ev_var rfl) (ea_cons (ev_op ev_c (ev_cb (ea_cons (ev_var rfl) ea_nil) (rc_strI (num_log hc.1 hc.2))) (rv_addS g5)) ea_nil))) (sv_with (by omega) g6)
          · have e : numbN L one c = one := if_pos (by have := of_decide_eq_false hb; omega)
            rw [e]
            rfl
          refine s_when (b := false) ?_ (fun h => nomatch h) fun _ H18 e18 => ⟨_, _, _, _, _, _, rfl, S14.ex' (((e15.trans e16).trans e17).trans e18)⟩
          refine et_is (et_test (ev_op (ev_call (ea_cons (ev_op (ev_var rfl) ev_c (rv_ixT (ex_t e17 hT16) h2)) (ea_cons (ev_var rfl) (ea_cons (ev_var rfl) ea_nil))) (sv_numb (by omega) hc)) (ev_var rfl) (rv_ne rfl))) (by simp)
        · rintro σ' H9 ⟨v2, v7, v8, v9, v10, v11, rfl, S9⟩
          -- the path
          refine q_asgX ⟨⟨"/", rfl⟩, tSl_go (EvL_go (el_lst (ea_cons (ev_var rfl) (ea_cons (ev_var rfl) (ea_cons ev_c ea_nil))) (by show 3 ≤ 100000; decide)) fun p H10 hp e10 h10 => noPart_go (part_go ?_))⟩
          have S10 := S9.ex' e10
          obtain ⟨k10, hk10⟩ := S10.dk
          have npd : p ≠ d := Mv.ne hk10 h10 (by intro k z; cases z)
          refine x_pick (ev_var rfl) ev_c (by decide) (by decide) S10 fun g H11 g0 g1 S11 m11 => ⟨g, rfl, p, _, rfl, sq_of (m11 _ _ h10 npd), fun q hq => ?_⟩
          obtain ⟨n1, n2⟩ := S11.free hq
          have S12 := S11.put (o := .lst (cutV [.str one, .str other, .str "b"] none (some g))) n1 n2
          have hq12 : (upd H11 q (.lst (cutV [.str one, .str other, .str "b"] none (some g)))) q = some (.lst ((([one, other, "b"] : List Str).take g.toNat).map V.str)) := by
            rw [upd_same, cutV_take g0, List.map_take] <;> rfl
          generalize upd H11 q (.lst (cutV [.str one, .str other, .str "b"] none (some g))) = H12 at S12 hq12 ⊢
          have hys : ∀ y ∈ ([one, other, "b"] : List Str).take g.toNat, y.length ≤ 2500 ∧ PyData.strOk y = true := fun y hy => by
            have := List.mem_of_mem_take hy
            simp only [List.mem_cons, List.not_mem_nil, or_false] at this
            rcases this with z | z | z <;> rw [z]
            · exact ⟨by omega, ho.2⟩
            · exact ⟨by omega, ho6.2⟩
            · exact ⟨by decide +kernel, by decide +kernel⟩
          have hsum : ((([one, other, "b"] : List Str).take g.toNat).map (·.length)).sum ≤ 3501 ∧ (([one, other, "b"] : List Str).take g.toNat).length ≤ 3 := by
            have lb : ("b" : Str).length = 1 := by decide +kernel
            rcases (by omega : g = 0 ∨ g = 1 ∨ g = 2 ∨ g = 3) with z | z | z | z <;> rw [z] <;> simp [List.take] <;> omega
          have hl1 : ("/" : Str).length = 1 := by decide +kernel
          refine ⟨"/", q, _, rfl, rfl, .inl (sq_of hq12), by rw [hl1]; omega, ?_⟩
          have okT : OkS 5000 (Txt.join "/" (([one, other, "b"] : List Str).take g.toNat)) := by
            rw [TL.join_eq]
            refine ⟨?_, strOk_join "/" (by decide +kernel) _ fun y hy => (hys y hy).2⟩
            by_cases z : ([one, other, "b"] : List Str).take g.toNat = []
            · rw [z]
              decide +kernel
            · have := join_len "/" _ z
              rw [hl1] at this
              omega
          generalize Txt.join "/" (([one, other, "b"] : List Str).take g.toNat) = text at okT ⊢
          clear hq12 hys hsum
          refine q_asgX (tCall_go ⟨_, rfl, text, rfl, okT, ?_⟩)
          cases hpo : pathOf text with
          | none =>
            intro H13 e13
            refine s_when (b := false) ?_ (fun h => nomatch h) fun _ H14 e14 => ⟨⟨_, _, _, _, _, _, _, _, _, _, _, _, rfl⟩, S12.ex' (e13.trans e14)⟩
            refine et_is (et_or (a := false) (b := false) (fun H1 e Q q => tTest_go (tOp_go (tCall_go ⟨_, rfl, text, rfl, okT.1, by
              rw [hpo]
              exact fun H2 e2 => ⟨_, rfl, .inl ⟨rfl, _, rfl, q H2 e2⟩⟩⟩))) fun _ => et_is (et_and (a := false) (b := false) (et_is (et_test (ev_op (ev_var rfl) ev_c rv_notN)) rfl) fun h => nomatch h) rfl) rfl
          | some ps =>
            obtain ⟨hj, hjs, hjo⟩ := path_join hpo okT.1 okT.2
            have hsh := (shaped_strs hjo).2
            intro q2 H13 hq2 e13 h13
            refine s_when (b := false) ?_ (fun h => nomatch h) fun _ H14 e14 => ⟨⟨_, _, _, _, _, _, _, _, _, _, _, _, rfl⟩, S12.ex' (e13.trans e14)⟩
            refine et_is (et_or (a := false) (b := false) (fun H1 e Q q => tTest_go (tOp_go (tCall_go ⟨_, rfl, text, rfl, okT.1, by
              rw [hpo]
              exact fun p2 H2 hp2 e2 h2 => ⟨_, rfl, .inr ⟨_, _, .tup (st_of h2) (dpa_of_strs ps), .tup (st_of ((e.trans e2) _ _ h13)) (dpa_of_strs ps), hsh, hsh, _, rfl, by rw [eqv_same hsh]; exact q H2 e2⟩⟩⟩))) fun _ =>
              et_is (et_and (a := true) (b := false) (et_is (et_test (ev_op (ev_var rfl) ev_c rv_notN)) rfl) fun _ => et_is (et_test (ev_op (ev_call (ea_cons (ev_var rfl) ea_nil) (sv_pathText (st_of h13) hjs)) (ev_var rfl) (rv_ne rfl))) (by rw [hj]; simp)) rfl) rfl
    · rintro σ' H2 ⟨⟨w2, w3, w4, w5, w6, w7, w8, w9, w10, w11, w12, w13, rfl⟩, S2⟩
      have hp0 : pathOf "" = some [] := if_pos rfl
      refine ret_go (andV_go (tOp_go (tCall_go (cons_go (tC_go ⟨"", rfl, by decide +kernel, ?_⟩)))))
      rw [hp0]
      intro p H3 hp e3 h3
      refine tTup_go ⟨by decide, fun p2 hp2 => ⟨.tuple [], .tuple [], .tup (st_of (Ex.new hp2 _ _ h3)) .nil, .tup (st_of upd_same) .nil, by decide, by decide, _, rfl, ?_⟩⟩
      rw [if_pos (by decide)]
      refine tOp_go (tCall_go (cons_go (tTup_go ⟨by decide, fun p3 hp3 => ⟨p3, [], rfl, st_of upd_same, by decide, fun H5 e5 => tC_go ⟨rfl, ?_⟩⟩⟩)))
      have e : decide (V.str (Txt.join "/" []) = V.str "") = true := by decide +kernel
      rw [e]
      exact k H5
end
end K0
end

set_option Elab.async false
set_option linter.all false
set_option maxRecDepth 100000
set_option maxHeartbeats 0
namespace K0
open PySem PySem.Spec PyProof.Rows L2
abbrev R : PySem.W.OpenRow := PySem.W.OpenLaw.row PySem.Challenge.rw_foldkeep_k00_names_of_all_hosts
abbrev hk : PySem.W.Hook := He.hookD 4 fa fn
def ob (s : PySem.W.SharedT) : He.AlD := He.obsDG 4 fa fn (HandSHeadRun.getT s)
theorem ob_eq (s : PySem.W.SharedT) : ob s = hk.obs s.abs := He.obsDG_eq (HandSHeadRun.getT_eq s)
def names : List PySem.Str := ["Rule", "is_name", "counterpart", "same_name", "in_use", "fits", "path_text", "read_path", "ending", "stem", "with_word", "copy_name", "numbered_name", "_law_stream", "_law_fresh", "_law_pick", "_law_rule_told", "_law_rule_of", "_law_counts_as", "_law_is_name", "_law_fits", "_law_cut_name", "_law_worded", "_law_copy_named", "_law_any_text", "_law_bent", "_law_path_of"]
theorem run (w : World) : HandSHeadRun.RunEq R (PySem.W.view R.prog [30]) hk ob 2000 names w := by
  intro os
  kernel_rfl
end K0

set_option Elab.async false
set_option linter.all false
set_option maxRecDepth 100000
set_option maxHeartbeats 0
namespace K0
open PySem PySem.Spec PyProof.Rows L2 Evl Kv
theorem facts {P : Program} {w : World} {K : PySem.W.Frag} {h : Heap} {mg : Str → Option Value} {f : Addr} (X : K.In h) (G : h.Ns mainGlobals mg) (hfa : mg ("law" : Str) = some (.ref f)) (c : He.SaysD fa fn K) :
    ∃ fd : FuncData, (∀ (s : Shared) (v : Value), BindsTo s fd ⟨[v], []⟩ [("script", v)]) ∧ ∀ base : Heap, K.In base → base.Ns mainGlobals mg → FnOk P w K mg base CX0 5 f fd ["script"] (spLaw K) := by
  have T : Txt K mg := ⟨c, h, X, G⟩
  obtain ⟨fd, F⟩ := T.f_law
  have e := hfa.symm.trans T.g_law
  cases e
  have b := FunD.bindsA (ps := ["script"]) F fun _ _ _ _ _ _ us hl => match us, hl with | [_], _ => rfl
  exact ⟨fd, fun s v => b s [v] rfl, fun base _ _ => ok_law T F⟩
end K0
open PySem PySem.W PySem.Calls PyProof.Rows
theorem PySem.Challenge.cw_foldkeep_k00_names_of_all_hosts_holds : PySem.Challenge.rw_foldkeep_k00_names_of_all_hosts.Holds := by
  w_on; o_law
  refine HandSHeadRun.head_any (r := OpenLaw.row PySem.Challenge.rw_foldkeep_k00_names_of_all_hosts) (q := view (OpenLaw.row PySem.Challenge.rw_foldkeep_k00_names_of_all_hosts).prog [30]) (H := K0.hk) (ob := K0.ob) (M := 2000) (loose := K0.names) (d := HandSHeadRun.topDef (OpenLaw.row PySem.Challenge.rw_foldkeep_k00_names_of_all_hosts).prog 30) (kwd := []) K0.ob_eq
    (by kernel_rfl) (fun s => by kernel_rfl) K0.run (by kernel_rfl) (by kernel_rfl) (by kernel_rfl) (by rfl) (by first | assumption | decide +kernel) (by decide +kernel) ⟨rfl, rfl, rfl, rfl, rfl, by decide +kernel⟩ ?hw ?hc
  case hw => w_witness2
  case hc =>
    refine L2.walk_ofE (l := PySem.Challenge.rw_foldkeep_k00_names_of_all_hosts) (n := 63) (k := 5) (x := "script") (CX := L2.CX0) rfl (by decide) (by kernel_rfl) ⟨rfl, by decide, by decide⟩ ?F (fun _ _ _ _ z => z)
    intro w mg fa h Y G hmg0
    obtain ⟨K, KX, c⟩ := Y
    have hmg : mg ("law" : PySem.Str) = some (.ref fa) := by
      have e : (HandSHeadRun.topDef (OpenLaw.row PySem.Challenge.rw_foldkeep_k00_names_of_all_hosts).prog 30).name = ("law" : PySem.Str) := by kernel_rfl
      rw [← e]
      exact hmg0
    obtain ⟨fd, hb, hF⟩ := K0.facts (P := (PySem.Challenge.rw_foldkeep_k00_names_of_all_hosts).prog) (w := w) KX G hmg c
    exact ⟨K, fd, K0.spLaw K, KX, hb, fun H a ns hl _ hS => ⟨a, ns, rfl, hS, hl, fun _ => rfl⟩, hF⟩

