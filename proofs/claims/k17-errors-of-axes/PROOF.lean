import PyProof.Rows.All
import Wide.All
import OpenK.AllK
import Wide.FinOn
import KE.KStateDown
import Lean
import HandS.Base
import HandS.Call
import HandS.List
import HandS.Comp
import HandS.Ends
import HandS.Words
import HandS.Wide
import HandS.IsInst
import HandS.Slots
import HandS.Strs
import HandS.Lambda
import HandS.Flow
import HandS.Iter
import HandS.Defaults
import HandS.Exc
import HandS.Deep
import HandS.TupAny
import HandS.Style
import HandS.SortInts
import HandS.RaiseMore
import HandS.Codes
import HandS.SetFor
import HandS.Conv
import PyProof.ReprReads
import HandS.Zip
import HandS.Dict
import HandS.TupSets
import HandS.More
import HandS.WordsExc
import HandS.Head0
import HandS.Head1
import HandS.Head2
import HandS.HeadEnd
import HandS.HeadHook1
import HandS.HeadHook2
import HandS.WideBits
import KE.BitLaws
import HandS.Star
import KE.KIndexOf
import KE.DataMinMax
import KE.DataCmp
import KE.SortData
import KE.GoesEnum
import HandS.TupMul
import HandS.Remove
import HandS.TryOnly
import HandS.SlotsOwn
import HandS.ExcOwn
import HandS.TryMany
import HandS.ExcField
import KE.KExcSuper
import HandS.ExcInit
import HandS.HeadWalk
import HandS.NestedK
import HandS.HeadHook4
import KE.KDflt
import HandS.DictComp
import KE.KDictSum
import KE.SortKeyHeap
import KE.KDictDisplayH
import KE.KSortKey
import KE.FramesApart
import KE.KEqDict
import HandS.TupLen
import HandS.DictSubView
import KE.GoesMore
import KE.GoesZip
import HandS.DictTup
import KE.KTupSum
import PySem.Challenge.RW_oneaxis_k17_errors_of_axes
set_option Elab.async false
set_option linter.all false
set_option maxRecDepth 100000
set_option maxHeartbeats 0
set_option exponentiation.threshold 5000
namespace Dv
open PySem PySem.Spec PyProof.Rows PySem.W
def xiB (f : Str) : FuncBody → Bool
  | .stmts [.Expr (.Call (.Attribute (.Call (.Name su _) [] [] _) ii p2) [.Name a1 _] [] p4) _, .Assign [.Attribute (.Name s1 _) f1 _] (.Name a2 _) _] => decide (su = "super") && (decide (ii = "__init__") && (decide (a1 = f) && (decide (s1 = "self") && (decide (f1 = f) && (decide (a2 = f) && (p2.endLine == p4.line))))))
  | _ => false
def xiP (f : Str) : Arguments → Bool
  | ⟨[], [⟨s, _, _⟩, ⟨a, _, _⟩], none, [], [], none, []⟩ => decide (s = "self") && decide (a = f)
  | _ => false
def xiS (f : Str) (sc : Scope) : Bool := decide (sc.kind = .function) && (!sc.isCoroutine && (!sc.isGenerator && ((sc.names.all fun x => !decide (x.2 = .cell)) && (decide (sc.names.lookup ("self" : Str) = some .local) && (decide (sc.names.lookup f = some .local) && (decide (sc.names.lookup ("super" : Str) = some .globalImplicit) && decide (sc.names.lookup ("__class__" : Str) = some .free)))))))
def xiF (K : Frag) (C : Addr) (f : Str) (file : Str) (fI : Addr) : Bool := match K.lookup fI with
  | some ⟨_, _, .func fd, _⟩ => xiP f fd.params && (xiB f fd.body && (xiS f fd.scope && (decide (fd.globals = mainGlobals) && (decide (fd.builtins = builtinsNs) && (decide (fd.defaults = .none) && (decide (fd.kwdefaults = .none) && (PySem.W.codeIn K fd.code fd.qualname && ((match fd.closure with
    | [(n, cc)] => decide (n = ("__class__" : Str)) && (match K.lookup cc with
      | some ⟨_, _, .cell (some (.ref D)), _⟩ => decide (D = C)
      | _ => false)
    | _ => false) && (match fd.code with
    | .ref cd => (match K.lookup cd with
      | some ⟨_, _, .fields vs, _⟩ => (match (vs[2]? : Option Value) with
        | some (Value.str fl _) => decide (fl = file)
        | _ => false)
      | _ => false)
    | _ => false)))))))))
  | _ => false
end Dv
namespace He
open PySem PySem.Spec PyProof.Rows L2
def asZ (g : Addr → Option Obj) (n : Nat) : List Addr := (cStatics :: asD g n).eraseDups
def obsZ (n : Nat) (fa : List Fa) (fn : List DefD) (tf : List Defn) (ex : PySem.W.Frag → Bool) (g : Addr → Option Obj) : AlX := (obsT fa fn [] (frT g (asZ g n)), ex (frT g (asZ g n)) && tabsB g tf (frT g (asZ g n)))
theorem saysZ_of {n : Nat} {fa : List Fa} {fn : List DefD} {tf : List Defn} {ex : PySem.W.Frag → Bool} {w : World} {h : Heap} (e : obsZ n fa fn tf ex h.get? = valX fn [] w) : SaysX fa fn [] tf ex w h (frT h.get? (asZ h.get? n)) := by
  obtain ⟨e1, e2⟩ := Prod.mk.inj e
  obtain ⟨h1, h2⟩ := ba e2
  have key : ∀ p ∈ tf, PySem.W.codeHdIn (frT h.get? (asZ h.get? n)) (cT (frT h.get? (asZ h.get? n)) p).1 (cT (frT h.get? (asZ h.get? n)) p).2 = true ∧ ∃ o, h.get? (cT (frT h.get? (asZ h.get? n)) p).2 = some o ∧ emptyTab o = true := by
    intro p hp
    obtain ⟨h3, h4⟩ := ba (List.all_eq_true.mp h2 p hp)
    refine ⟨h3, ?_⟩
    cases q : h.get? (cT (frT h.get? (asZ h.get? n)) p).2 with
    | some o => exact ⟨o, rfl, by rw [q] at h4; exact h4⟩
    | none => rw [q] at h4; cases h4
  refine ⟨e1, h1, fun p hp => (key p hp).1, fun p hp => ?_, fun p hp => ?_⟩
  · obtain ⟨_, o, q, z⟩ := key p hp
    exact frT_none q z
  · obtain ⟨_, o, q, z⟩ := key p hp
    rw [q, emptyTab_eq z]
def hookZ (n : Nat) (fa : List Fa) (fn : List DefD) (tf : List Defn) (ex : PySem.W.Frag → Bool) : PySem.W.Hook where
  α := AlX
  obs := fun s => obsZ n fa fn tf ex s.heap.get?
  val := fun w => valX fn [] w
  says := fun w h => ∃ K : PySem.W.Frag, K.In h ∧ SaysX fa fn [] tf ex w h K
  of := fun _ _ e => ⟨_, frT_in, saysZ_of e⟩
  keeps := fun _ _ _ ⟨K, hK, c⟩ k => ⟨K, hK.keeps k, ⟨c.t, c.more, c.hd, c.out, fun p hp => k _ _ (c.empty p hp)⟩⟩
theorem obsZ_eq {n : Nat} {fa : List Fa} {fn : List DefD} {tf : List Defn} {ex : PySem.W.Frag → Bool} {g : Addr → Option Obj} {s : Shared} (h : ∀ a, g a = s.heap.get? a) : obsZ n fa fn tf ex g = (hookZ n fa fn tf ex).obs s := by
  rw [show g = s.heap.get? from funext h]
  rfl
end He
namespace Dv
open PySem PySem.Spec PyProof.Rows L2
open PySem.W in
def xcB (K : PySem.W.Frag) (C : Addr) (f : Str) (B newId initId : String) (bmB : List Value) (fI : Addr) : Bool :=
  decide (findIn K (.ref C) "__init__" = some (some (.ref fI))) && (isFn K (.ref fI) && (excInitIn K C bmB newId && (keepIn K (.ref C) && (decide (findIn K (.ref C) "__setattr__" = some (some (.builtin "object.__setattr__"))) && (excOver K C bmB && (decide (takerIn K C f = some none) && (hasDictIn K C && (decide (subIn K (.ref C) (.type B) = some true) &&
    (decide (mroIn K C (.ref C) = some true) && (decide (ks_superIn K C C "__init__" = some (some (.builtin initId))) && (decide (subIn K (.ref C) (.type "BaseException") = some true) && (decide (typeIn K (.ref C) = some (.type "type")) && (decide (nsIn K cStatics "thirdparty.any" = some none) && decide (nsIn K mainGlobals "super" = some none))))))))))))))
def ownB (x f : Str) (B newId initId : String) (bmB : List Value) (file : Str) (K : PySem.W.Frag) : Bool :=
  xcB K (He.ga K x) f B newId initId bmB (He.ma K (He.ga K x) "__init__") && (xiF K (He.ga K x) f file (He.ma K (He.ga K x) "__init__") && (xfB K (He.ga K x) && decide (PySem.W.findIn K (.ref (He.ga K x)) f = some none)))
end Dv
namespace Dv
open PySem PySem.Spec PyProof.Rows L2 LamX
abbrev sevenTy : List String := ["NoneType", "bool", "int", "str", "list", "tuple", "dict"]
def refB : Option (Option Value) → Option Addr
  | some (some (.ref p)) => some p
  | _ => none
def clsB (K : PySem.W.Frag) (C : Addr) : Bool := PySem.W.plainGet K C Str.empty && PySem.W.isClsIn K C && PySem.W.plainOver K C && decide (PySem.W.findIn K (.ref C) "__setattr__" = some (some (.builtin "object.__setattr__"))) &&
  decide (PySem.W.findIn K (.ref C) "__class__" = some (some (.builtin "object.__class__"))) && decide (PySem.W.specialIn K (.builtin "object.__class__") "__get__" = some (some (.builtin "getset_descriptor.__get__"))) &&
  decide (PySem.W.takesIn K (.builtin "object.__class__") = some true) && decide (PySem.W.mroIn K C (.type "object") = some true) && decide (PySem.W.kitOne K (.ref C) (.ref C) = some true) && sevenTy.all fun t => decide (PySem.W.kitOne K (.type t) (.ref C) = some false)
def slotB (K : PySem.W.Frag) (C : Addr) (f : Str) (i : Nat) : Bool := match refB (PySem.W.findIn K (.ref C) f) with
  | some p => decide (PySem.W.specialIn K (.ref p) "__get__" = some (some (.builtin "member_descriptor.__get__"))) && decide (PySem.W.takesIn K (.ref p) = some true) && decide (PySem.W.typeIn K (.ref p) = some (.type "member_descriptor")) && decide (PySem.W.slotIn K p C = some i) && decide (i < 1000)
  | none => false
def mkB (K : PySem.W.Frag) (C : Addr) : Option Addr := match refB (PySem.W.findIn K (.ref C) "__init__") with
  | some f => if PySem.W.makesIn K C && PySem.W.isFn K (.ref f) && PySem.W.keepIn K (.ref C) then some f else none
  | none => none
end Dv
namespace K17
open PySem PySem.Spec PyProof.Rows L2 Dv
def top (i : Nat) : Stmt := PySem.Challenge.pw_oneaxis_k17_errors_of_axes.main.body.getD i (.Pass ⟨0, 0, 0, 0⟩)
abbrev st_is_whole : Stmt := top 10
abbrev st_is_within : Stmt := top 11
abbrev st_require_size : Stmt := top 15
abbrev st_is_option : Stmt := top 12
abbrev st_is_row_of : Stmt := top 14
abbrev st_are_ballots : Stmt := top 20
abbrev st__law_bag : Stmt := top 70
abbrev st__law_draw : Stmt := top 71
abbrev st__law_one_of : Stmt := top 72
abbrev st_require_book : Stmt := top 25
abbrev st_lasts : Stmt := top 54
abbrev st_can_stand : Stmt := top 35
abbrev st_is_begun : Stmt := top 36
abbrev st_axis_behind : Stmt := top 37
abbrev st_places_in : Stmt := top 22
abbrev st_is_last_somewhere : Stmt := top 34
abbrev st_lasts_of : Stmt := top 33
abbrev st_axis_in : Stmt := top 38
abbrev st_has_axis : Stmt := top 55
abbrev st_first_last : Stmt := top 39
abbrev st_three_in : Stmt := top 40
abbrev st_is_bent : Stmt := top 41
abbrev st_four_with : Stmt := top 42
abbrev st_four_in : Stmt := top 43
abbrev st_bar_in : Stmt := top 44
abbrev st_paper_in : Stmt := top 45
abbrev st_axis_paper : Stmt := top 56
abbrev st_are_indices : Stmt := top 47
abbrev st_are_options : Stmt := top 46
abbrev st_is_lot_of : Stmt := top 13
abbrev st_is_three_bar : Stmt := top 48
abbrev st_is_four_bar : Stmt := top 49
abbrev st_is_bar_in : Stmt := top 50
abbrev st_is_peaked_in : Stmt := top 27
abbrev st_are_peaked_in : Stmt := top 28
abbrev st_is_axis_paper : Stmt := top 57
abbrev st_is_bar : Stmt := top 58
abbrev st_first_three : Stmt := top 59
abbrev st_first_four : Stmt := top 60
abbrev st_lots_of : Stmt := top 64
abbrev st_kept_ballot : Stmt := top 23
abbrev st_kept_in : Stmt := top 24
abbrev st_is_less : Stmt := top 65
abbrev st_least_without : Stmt := top 63
abbrev st__law_firsts : Stmt := top 74
abbrev st_require_lot : Stmt := top 16
abbrev st_require_known_lot : Stmt := top 52
abbrev st_have_axis : Stmt := top 61
abbrev st_named_by : Stmt := top 51
abbrev st_bar_within : Stmt := top 62
abbrev st_require_row : Stmt := top 53
abbrev st_does_begin : Stmt := top 66
abbrev st_axis_from : Stmt := top 67
abbrev st__law_seconds : Stmt := top 75
abbrev st_require_option : Stmt := top 17
abbrev st_can_be_ends : Stmt := top 68
abbrev st__law_right : Stmt := top 76
abbrev st_law : Stmt := top 77
abbrev st__law_met : Stmt := top 73
abbrev st_Book__init : Stmt := match top 21 with
  | .ClassDef _ _ _ b _ _ _ _ _ _ _ => b.getD 1 (.Pass ⟨0, 0, 0, 0⟩)
  | s => s
abbrev PP : Program := PySem.W.OpenLaw.prog PySem.Challenge.rw_oneaxis_k17_errors_of_axes
def h_is_whole : He.DefD := ⟨("is_whole", none), "is_whole", "is_whole", defArgs st_is_whole, defBody st_is_whole, defScope st_is_whole, [], []⟩
def h_is_within : He.DefD := ⟨("is_within", none), "is_within", "is_within", defArgs st_is_within, defBody st_is_within, defScope st_is_within, [], []⟩
def h_require_size : He.DefD := ⟨("require_size", none), "require_size", "require_size", defArgs st_require_size, defBody st_require_size, defScope st_require_size, [], []⟩
def h_is_option : He.DefD := ⟨("is_option", none), "is_option", "is_option", defArgs st_is_option, defBody st_is_option, defScope st_is_option, [], []⟩
def h_is_row_of : He.DefD := ⟨("is_row_of", none), "is_row_of", "is_row_of", defArgs st_is_row_of, defBody st_is_row_of, defScope st_is_row_of, [], []⟩
def h_are_ballots : He.DefD := ⟨("are_ballots", none), "are_ballots", "are_ballots", defArgs st_are_ballots, defBody st_are_ballots, defScope st_are_ballots, [], []⟩
def h__law_bag : He.DefD := ⟨("_law_bag", none), "_law_bag", "_law_bag", defArgs st__law_bag, defBody st__law_bag, defScope st__law_bag, [], []⟩
def h__law_draw : He.DefD := ⟨("_law_draw", none), "_law_draw", "_law_draw", defArgs st__law_draw, defBody st__law_draw, defScope st__law_draw, [], []⟩
def h__law_one_of : He.DefD := ⟨("_law_one_of", none), "_law_one_of", "_law_one_of", defArgs st__law_one_of, defBody st__law_one_of, defScope st__law_one_of, [], []⟩
def h_require_book : He.DefD := ⟨("require_book", none), "require_book", "require_book", defArgs st_require_book, defBody st_require_book, defScope st_require_book, [], []⟩
def h_lasts : He.DefD := ⟨("lasts", none), "lasts", "lasts", defArgs st_lasts, defBody st_lasts, defScope st_lasts, [], []⟩
def h_can_stand : He.DefD := ⟨("can_stand", none), "can_stand", "can_stand", defArgs st_can_stand, defBody st_can_stand, defScope st_can_stand, [], []⟩
def h_is_begun : He.DefD := ⟨("is_begun", none), "is_begun", "is_begun", defArgs st_is_begun, defBody st_is_begun, defScope st_is_begun, [], []⟩
def h_axis_behind : He.DefD := ⟨("axis_behind", none), "axis_behind", "axis_behind", defArgs st_axis_behind, defBody st_axis_behind, defScope st_axis_behind, [], []⟩
def h_places_in : He.DefD := ⟨("places_in", none), "places_in", "places_in", defArgs st_places_in, defBody st_places_in, defScope st_places_in, [], []⟩
def h_is_last_somewhere : He.DefD := ⟨("is_last_somewhere", none), "is_last_somewhere", "is_last_somewhere", defArgs st_is_last_somewhere, defBody st_is_last_somewhere, defScope st_is_last_somewhere, [], []⟩
def h_lasts_of : He.DefD := ⟨("lasts_of", none), "lasts_of", "lasts_of", defArgs st_lasts_of, defBody st_lasts_of, defScope st_lasts_of, [], []⟩
def h_axis_in : He.DefD := ⟨("axis_in", none), "axis_in", "axis_in", defArgs st_axis_in, defBody st_axis_in, defScope st_axis_in, [], []⟩
def h_has_axis : He.DefD := ⟨("has_axis", none), "has_axis", "has_axis", defArgs st_has_axis, defBody st_has_axis, defScope st_has_axis, [], []⟩
def h_first_last : He.DefD := ⟨("first_last", none), "first_last", "first_last", defArgs st_first_last, defBody st_first_last, defScope st_first_last, [], []⟩
def h_three_in : He.DefD := ⟨("three_in", none), "three_in", "three_in", defArgs st_three_in, defBody st_three_in, defScope st_three_in, [], []⟩
def h_is_bent : He.DefD := ⟨("is_bent", none), "is_bent", "is_bent", defArgs st_is_bent, defBody st_is_bent, defScope st_is_bent, [], []⟩
def h_four_with : He.DefD := ⟨("four_with", none), "four_with", "four_with", defArgs st_four_with, defBody st_four_with, defScope st_four_with, [], []⟩
def h_four_in : He.DefD := ⟨("four_in", none), "four_in", "four_in", defArgs st_four_in, defBody st_four_in, defScope st_four_in, [], []⟩
def h_bar_in : He.DefD := ⟨("bar_in", none), "bar_in", "bar_in", defArgs st_bar_in, defBody st_bar_in, defScope st_bar_in, [], []⟩
def h_paper_in : He.DefD := ⟨("paper_in", none), "paper_in", "paper_in", defArgs st_paper_in, defBody st_paper_in, defScope st_paper_in, [], []⟩
def h_axis_paper : He.DefD := ⟨("axis_paper", none), "axis_paper", "axis_paper", defArgs st_axis_paper, defBody st_axis_paper, defScope st_axis_paper, [], []⟩
def h_are_indices : He.DefD := ⟨("are_indices", none), "are_indices", "are_indices", defArgs st_are_indices, defBody st_are_indices, defScope st_are_indices, [], []⟩
def h_are_options : He.DefD := ⟨("are_options", none), "are_options", "are_options", defArgs st_are_options, defBody st_are_options, defScope st_are_options, [], []⟩
def h_is_lot_of : He.DefD := ⟨("is_lot_of", none), "is_lot_of", "is_lot_of", defArgs st_is_lot_of, defBody st_is_lot_of, defScope st_is_lot_of, [], []⟩
def h_is_three_bar : He.DefD := ⟨("is_three_bar", none), "is_three_bar", "is_three_bar", defArgs st_is_three_bar, defBody st_is_three_bar, defScope st_is_three_bar, [], []⟩
def h_is_four_bar : He.DefD := ⟨("is_four_bar", none), "is_four_bar", "is_four_bar", defArgs st_is_four_bar, defBody st_is_four_bar, defScope st_is_four_bar, [], []⟩
def h_is_bar_in : He.DefD := ⟨("is_bar_in", none), "is_bar_in", "is_bar_in", defArgs st_is_bar_in, defBody st_is_bar_in, defScope st_is_bar_in, [], []⟩
def h_is_peaked_in : He.DefD := ⟨("is_peaked_in", none), "is_peaked_in", "is_peaked_in", defArgs st_is_peaked_in, defBody st_is_peaked_in, defScope st_is_peaked_in, [], []⟩
def h_are_peaked_in : He.DefD := ⟨("are_peaked_in", none), "are_peaked_in", "are_peaked_in", defArgs st_are_peaked_in, defBody st_are_peaked_in, defScope st_are_peaked_in, [], []⟩
def h_is_axis_paper : He.DefD := ⟨("is_axis_paper", none), "is_axis_paper", "is_axis_paper", defArgs st_is_axis_paper, defBody st_is_axis_paper, defScope st_is_axis_paper, [], []⟩
def h_is_bar : He.DefD := ⟨("is_bar", none), "is_bar", "is_bar", defArgs st_is_bar, defBody st_is_bar, defScope st_is_bar, [], []⟩
def h_first_three : He.DefD := ⟨("first_three", none), "first_three", "first_three", defArgs st_first_three, defBody st_first_three, defScope st_first_three, [], []⟩
def h_first_four : He.DefD := ⟨("first_four", none), "first_four", "first_four", defArgs st_first_four, defBody st_first_four, defScope st_first_four, [], []⟩
def h_lots_of : He.DefD := ⟨("lots_of", none), "lots_of", "lots_of", defArgs st_lots_of, defBody st_lots_of, defScope st_lots_of, [], []⟩
def h_kept_ballot : He.DefD := ⟨("kept_ballot", none), "kept_ballot", "kept_ballot", defArgs st_kept_ballot, defBody st_kept_ballot, defScope st_kept_ballot, [], []⟩
def h_kept_in : He.DefD := ⟨("kept_in", none), "kept_in", "kept_in", defArgs st_kept_in, defBody st_kept_in, defScope st_kept_in, [], []⟩
def h_is_less : He.DefD := ⟨("is_less", none), "is_less", "is_less", defArgs st_is_less, defBody st_is_less, defScope st_is_less, [], []⟩
def h_least_without : He.DefD := ⟨("least_without", none), "least_without", "least_without", defArgs st_least_without, defBody st_least_without, defScope st_least_without, [], []⟩
def h__law_firsts : He.DefD := ⟨("_law_firsts", none), "_law_firsts", "_law_firsts", defArgs st__law_firsts, defBody st__law_firsts, defScope st__law_firsts, [], []⟩
def h_require_lot : He.DefD := ⟨("require_lot", none), "require_lot", "require_lot", defArgs st_require_lot, defBody st_require_lot, defScope st_require_lot, [], []⟩
def h_require_known_lot : He.DefD := ⟨("require_known_lot", none), "require_known_lot", "require_known_lot", defArgs st_require_known_lot, defBody st_require_known_lot, defScope st_require_known_lot, [], []⟩
def h_have_axis : He.DefD := ⟨("have_axis", none), "have_axis", "have_axis", defArgs st_have_axis, defBody st_have_axis, defScope st_have_axis, [], []⟩
def h_named_by : He.DefD := ⟨("named_by", none), "named_by", "named_by", defArgs st_named_by, defBody st_named_by, defScope st_named_by, [], []⟩
def h_bar_within : He.DefD := ⟨("bar_within", none), "bar_within", "bar_within", defArgs st_bar_within, defBody st_bar_within, defScope st_bar_within, [], []⟩
def h_require_row : He.DefD := ⟨("require_row", none), "require_row", "require_row", defArgs st_require_row, defBody st_require_row, defScope st_require_row, [], []⟩
def h_does_begin : He.DefD := ⟨("does_begin", none), "does_begin", "does_begin", defArgs st_does_begin, defBody st_does_begin, defScope st_does_begin, [], []⟩
def h_axis_from : He.DefD := ⟨("axis_from", none), "axis_from", "axis_from", defArgs st_axis_from, defBody st_axis_from, defScope st_axis_from, [], []⟩
def h__law_seconds : He.DefD := ⟨("_law_seconds", none), "_law_seconds", "_law_seconds", defArgs st__law_seconds, defBody st__law_seconds, defScope st__law_seconds, [], []⟩
def h_require_option : He.DefD := ⟨("require_option", none), "require_option", "require_option", defArgs st_require_option, defBody st_require_option, defScope st_require_option, [], []⟩
def h_can_be_ends : He.DefD := ⟨("can_be_ends", none), "can_be_ends", "can_be_ends", defArgs st_can_be_ends, defBody st_can_be_ends, defScope st_can_be_ends, [], []⟩
def h__law_right : He.DefD := ⟨("_law_right", none), "_law_right", "_law_right", defArgs st__law_right, defBody st__law_right, defScope st__law_right, [], []⟩
def h_law : He.DefD := ⟨("law", none), "law", "law", defArgs st_law, defBody st_law, defScope st_law, [], []⟩
def h__law_met : He.DefD := ⟨("_law_met", none), "_law_met", "_law_met", defArgs st__law_met, defBody st__law_met, defScope st__law_met, [], []⟩
def h_Book__init : He.DefD := ⟨("Book", some "__init__"), "__init__", "Book.__init__", defArgs st_Book__init, defBody st_Book__init, defScope st_Book__init, [], []⟩
def fn : List He.DefD := [h_is_whole, h_is_within, h_require_size, h_is_option, h_is_row_of, h_are_ballots, h__law_bag, h__law_draw, h__law_one_of, h_require_book, h_lasts, h_can_stand, h_is_begun, h_axis_behind, h_places_in, h_is_last_somewhere, h_lasts_of, h_axis_in, h_has_axis, h_first_last, h_three_in, h_is_bent, h_four_with, h_four_in, h_bar_in, h_paper_in, h_axis_paper, h_are_indices, h_are_options, h_is_lot_of, h_is_three_bar, h_is_four_bar, h_is_bar_in, h_is_peaked_in, h_are_peaked_in, h_is_axis_paper, h_is_bar, h_first_three, h_first_four, h_lots_of, h_kept_ballot, h_kept_in, h_is_less, h_least_without, h__law_firsts, h_require_lot, h_require_known_lot, h_have_axis, h_named_by, h_bar_within, h_require_row, h_does_begin, h_axis_from, h__law_seconds, h_require_option, h_can_be_ends, h__law_right, h_law, h__law_met, h_Book__init]
def fa : List He.Fa := [.glo "is_whole", .glo "is_within", .glo "require_size", .glo "is_option", .glo "is_row_of", .glo "are_ballots", .glo "_law_bag", .glo "_law_draw", .glo "_law_one_of", .glo "require_book", .glo "lasts", .glo "can_stand", .glo "is_begun", .glo "axis_behind", .glo "places_in", .glo "is_last_somewhere", .glo "lasts_of", .glo "axis_in", .glo "has_axis", .glo "first_last", .glo "three_in", .glo "is_bent", .glo "four_with", .glo "four_in", .glo "bar_in", .glo "paper_in", .glo "axis_paper", .glo "are_indices", .glo "are_options", .glo "is_lot_of", .glo "is_three_bar", .glo "is_four_bar", .glo "is_bar_in", .glo "is_peaked_in", .glo "are_peaked_in", .glo "is_axis_paper", .glo "is_bar", .glo "first_three", .glo "first_four", .glo "lots_of", .glo "kept_ballot", .glo "kept_in", .glo "is_less", .glo "least_without", .glo "_law_firsts", .glo "require_lot", .glo "require_known_lot", .glo "have_axis", .glo "named_by", .glo "bar_within", .glo "require_row", .glo "does_begin", .glo "axis_from", .glo "_law_seconds", .glo "require_option", .glo "can_be_ends", .glo "_law_right", .glo "law", .glo "_law_met", .glo "InvalidBook", .glo "InvalidLot", .glo "InvalidAxis", .glo "InvalidNumber", .glo "InvalidOperation", .exc "InvalidBook", .exc "InvalidLot", .exc "InvalidAxis", .exc "InvalidOperation", .exm "InvalidBook" "InvalidBook" true, .exm "InvalidLot" "InvalidBook" false, .exm "InvalidAxis" "InvalidBook" false, .exm "InvalidNumber" "InvalidBook" false, .exm "InvalidOperation" "InvalidBook" false, .exm "InvalidBook" "InvalidLot" false, .exm "InvalidLot" "InvalidLot" true, .exm "InvalidAxis" "InvalidLot" false, .exm "InvalidNumber" "InvalidLot" false, .exm "InvalidOperation" "InvalidLot" false, .exm "InvalidBook" "InvalidAxis" false, .exm "InvalidLot" "InvalidAxis" false, .exm "InvalidAxis" "InvalidAxis" true, .exm "InvalidNumber" "InvalidAxis" false, .exm "InvalidOperation" "InvalidAxis" false, .exm "InvalidBook" "InvalidOperation" false, .exm "InvalidLot" "InvalidOperation" false, .exm "InvalidAxis" "InvalidOperation" false, .exm "InvalidNumber" "InvalidOperation" false, .exm "InvalidOperation" "InvalidOperation" true, .exm "InvalidBook" "InvalidNumber" false, .exm "InvalidLot" "InvalidNumber" false, .exm "InvalidAxis" "InvalidNumber" false, .exm "InvalidNumber" "InvalidNumber" true, .exm "InvalidOperation" "InvalidNumber" false, .free "abs", .free "all", .free "any", .free "bool", .free "enumerate", .free "int", .free "isinstance", .free "len", .free "max", .free "min", .free "range", .free "repr", .free "set", .free "sorted", .free "str", .free "tuple", .free "zip", .str "AXIS" "axis", .str "FOUR" "four", .int "GREAT" 1000000000000000000000000000000000000000000000000000000000000, .int "MAX_BALLOTS" 40, .int "MAX_OPTIONS" 9, .str "THREE" "three", .glo "Book"]
abbrev R : PySem.W.OpenRow := PySem.W.OpenLaw.row PySem.Challenge.rw_oneaxis_k17_errors_of_axes
def tf : List He.Defn := [("_law_firsts", none), ("_law_seconds", none), ("_law_right", none)]
def exB (K : PySem.W.Frag) : Bool := clsB K (He.ga K "Book") && (slotB K (He.ga K "Book") "own_ballots" 0 && (slotB K (He.ga K "Book") "own_size" 1 && (decide (mkB K (He.ga K "Book") = some (He.ma K (He.ga K "Book") "__init__")) && (ownB "InvalidNumber" "given" "IndexError" "IndexError.__new__" "IndexError.__init__" [.type "IndexError", .type "LookupError", .type "Exception", .type "BaseException", .type "object"] PP.main.file K && (decide (((tf.map (He.cT K)).map (·.2)).Nodup))))))
abbrev hk : PySem.W.Hook := He.hookZ 4 fa fn tf exB
def ob (s : PySem.W.SharedT) : He.AlX := He.obsZ 4 fa fn tf exB (HandSHeadRun.getT s)
theorem ob_eq (s : PySem.W.SharedT) : ob s = hk.obs s.abs := He.obsZ_eq (HandSHeadRun.getT_eq s)
abbrev loose : List Str := (["AxisError", "InvalidBook", "InvalidLot", "InvalidAxis", "InvalidOperation", "InvalidNumber", "MAX_OPTIONS", "GREAT", "is_whole", "is_within", "is_option", "is_lot_of", "is_row_of", "require_size", "require_lot", "require_option", "MAX_BALLOTS", "are_ballots", "Book", "places_in", "kept_ballot", "kept_in", "require_book", "is_peaked_in", "are_peaked_in", "AXIS", "THREE", "FOUR", "lasts_of", "is_last_somewhere"] : List Str) ++ (["can_stand", "is_begun", "axis_behind", "axis_in", "first_last", "three_in", "is_bent", "four_with", "four_in", "bar_in", "paper_in", "are_options", "are_indices", "is_three_bar", "is_four_bar", "is_bar_in", "named_by", "require_known_lot", "require_row", "lasts", "has_axis", "axis_paper", "is_axis_paper", "is_bar", "first_three", "first_four", "have_axis", "bar_within", "least_without", "lots_of"] : List Str) ++ (["is_less", "does_begin", "axis_from", "can_be_ends", "_law_bag", "_law_draw", "_law_one_of", "_law_met", "_law_firsts", "_law_seconds", "_law_right"] : List Str)
theorem run_j {α β γ δ : Type} {x : Option α} {f : α → β} {g : α → γ} {h : α → δ} {a : β} {b : γ} {c : δ} (h1 : x.map f = some a) (h2 : x.map g = some b) (h3 : x.map h = some c) : x.map (fun s => (f s, g s, h s)) = some (a, b, c) := by
  cases x <;>
  simp_all
theorem runA (w : World) : ∀ os : OsState, (HandSHeadRun.endF (HandSHeadRun.stepQ (HandSHeadRun.denQ HandSHeadRun.tabQ) R.prog w) 12000 R.prog w os).map (fun s => HandSHeadRun.looksF R.prog (PySem.W.boot_heap w.params) s.abs) = some (true) := by
  intro os
  kernel_rfl
theorem runB (w : World) : ∀ os : OsState, (HandSHeadRun.endF (HandSHeadRun.stepQ (HandSHeadRun.denQ HandSHeadRun.tabQ) R.prog w) 12000 R.prog w os).map (fun s => HandSHeadRun.seenQ (PySem.W.view R.prog [77]) loose (PySem.importedModules R.prog.main.body) (fun s => PySem.W.xlAt (PySem.W.view R.prog [77]) [] s && PySem.W.recOk R.toRowW.records s) s.abs) = some (PySem.W.openGood (PySem.W.view R.prog [77]) loose) := by
  intro os
  kernel_rfl
theorem runC (w : World) : ∀ os : OsState, (HandSHeadRun.endF (HandSHeadRun.stepQ (HandSHeadRun.denQ HandSHeadRun.tabQ) R.prog w) 12000 R.prog w os).map (fun s => ob s) = some (hk.val w) := by
  intro os
  kernel_rfl
theorem run (w : World) : HandSHeadRun.RunEq R (PySem.W.view R.prog [77]) hk ob 12000 loose w := by
  intro os
  exact run_j (runA w os) (runB w os) (runC w os)
end K17
namespace Dv
open PySem PySem.Spec PyProof.Rows L2
abbrev St := L2.St
class Tbl where
  T : List (Addr × Str)
instance (priority := low) tbl0 : Tbl := ⟨[]⟩
def isTb : HO → Bool
  | .tbl _ => true
  | _ => false
def nt (H : Hp) : Hp := fun a => match H a with
  | some (.tbl _) => some (.tbl #[])
  | x => x
theorem nt_of {H : Hp} {a : Addr} {o : HO} (h : H a = some o) (t : isTb o = false := by rfl) : nt H a = some o := by
  unfold nt
  rw [h]
  cases o <;> first | rfl | cases t
theorem of_nt {H : Hp} {a : Addr} {o : HO} (h : nt H a = some o) (t : isTb o = false := by rfl) : H a = some o := by
  unfold nt at h
  cases e : H a with
  | none => rw [e] at h; cases h
  | some u =>
    rw [e] at h
    cases u <;> first | exact h | (cases h; cases t)
theorem nt_none {H : Hp} {a : Addr} : nt H a = none ↔ H a = none := by
  unfold nt
  cases e : H a with
  | none => simp
  | some u => cases u <;> simp
theorem Same.nt {H H' : Hp} (e : Same H H') : Same (nt H) (nt H') := fun a o h => by
  unfold Dv.nt at h ⊢
  cases q : H a with
  | none => rw [q] at h; cases h
  | some u =>
    rw [q] at h
    rw [e a u q]
    exact h
theorem nt_upd {H : Hp} {p : Addr} {o : HO} (t : isTb o = false := by rfl) : nt (upd H p o) = upd (nt H) p o := by
  funext a
  by_cases z : a = p
  · subst z
    rw [upd_same]
    exact nt_of upd_same t
  · rw [upd_ne z]
    unfold nt
    rw [upd_ne z]
inductive D where
  | non
  | bl (b : Bool)
  | int (i : Int)
  | str (x : Str)
  | tup (xs : List D)
  | lst (xs : List D)
  | dct (ks vs : List D)
  | set (xs : List D)
  | obj (c : Str) (ns : List Str) (xs : List D)
  | ref (a : Addr)
structure Gp where
  K : PySem.W.Frag
  mg : Str → Option Value
  P : Program
  w : World
abbrev Gx (X : Cx) : Gp := ⟨X.K, X.mg, X.prog, X.w⟩
def keyD : Key → D
  | .inl i => .int i
  | .inr x => .str x
def TupV (K : PySem.W.Frag) (H : Hp) (a : Addr) (vs : List V) : Prop :=
  (∃ o, H a = some (.frz o (.tup vs)) ∧ o.dict = none) ∨
    ∃ (o : Obj) (its : Array Value) (n : Nat), K.lookup a = some o ∧ o.cls = .type "tuple" ∧ o.dict = none ∧ o.data = .seq its n ∧ its.size ≤ sizeLine ∧ Vals vs its.toList
theorem TupV.sq {K : PySem.W.Frag} {H : Hp} {a : Addr} {vs : List V} (h : TupV K H a vs) : SqT K H a vs := by
  rcases h with ⟨o, h, _⟩ | ⟨o, its, n, h1, h2, _, h3, h4, h5⟩
  · exact .inl (.inr ⟨o, h⟩)
  · exact .inr ⟨o, its, n, h1, h2, h3, h4, h5⟩
theorem TupV.mono {K : PySem.W.Frag} {H H' : Hp} {a : Addr} {vs : List V} (e : Same H H') (h : TupV K H a vs) : TupV K H' a vs := by
  rcases h with ⟨o, h, d⟩ | h
  · exact .inl ⟨o, e _ _ h, d⟩
  · exact .inr h
def DTo (P : Program) (w : World) (a : Addr) (xs : List (List Key × Addr × Value)) : HO := .ext fun h => (∃ o es ep, h.get? a = some o ∧ o.ExactDict ∧ o.data = .dict es ep ∧ es.toList = xs.map (entryOfKey (tupleKind (mixKind P w)))) ∧ (xs.map (·.1)).Nodup ∧ xs.length ≤ sizeLine ∧ (a == sysModules) = false
def keyT (k : List Key) : D := .tup (k.map keyD)
def KeysAt (K : PySem.W.Frag) (H : Hp) (xs : List (List Key × Addr × Value)) : Prop := ∀ x ∈ xs, TupV K H x.2.1 (x.1.map kV)
theorem KeysAt.mono {K : PySem.W.Frag} {H H' : Hp} {xs : List (List Key × Addr × Value)} (e : Same H H') (h : KeysAt K H xs) : KeysAt K H' xs := fun x hx => (h x hx).mono e
mutual
inductive RD (G : Gp) (H : Hp) : V → D → Prop
  | non : RD G H .non .non
  | bl (b : Bool) : RD G H (.bl b) (.bl b)
  | int (i : Int) : RD G H (.int i) (.int i)
  | str (x : Str) : RD G H (.str x) (.str x)
  | ref (a : Addr) : RD G H (.ref a) (.ref a)
  | lst {a : Addr} {vs : List V} {ds : List D} : SqL G.K H a vs → RDs G H vs ds → RD G H (.ref a) (.lst ds)
  | tup {a : Addr} {vs : List V} {ds : List D} : TupV G.K H a vs → RDs G H vs ds → RD G H (.ref a) (.tup ds)
  | dct {a : Addr} {o : Obj} {kvs : List (Key × V)} {ds : List D} : H a = some (.frz o (.dK kvs)) → RDs G H (kvs.map (·.2)) ds → RD G H (.ref a) (.dct (kvs.map fun p => keyD p.1) ds)
  | dctT {a : Addr} {o : Obj} {xs : List (List Key × Addr × Value)} {vs : List V} {ds : List D} : xs ≠ [] → H a = some (.frz o (DTo G.P G.w a xs)) → KeysAt G.K H xs → Vals vs (xs.map (·.2.2)) → RDs G H vs ds → RD G H (.ref a) (.dct (xs.map fun x => keyT x.1) ds)
  | set {a : Addr} {S : Int → Bool} {n : Nat} {ns : List Int} : H a = some (SetO G.w a S n) → ns.Pairwise (· < ·) → (∀ k, S k = true ↔ k ∈ ns) → ns.length = n → RD G H (.ref a) (.set (ns.map .int))
  | obj {a C dx : Addr} {fs : List (Str × V)} {c : Str} {ds : List D} : H a = some (.ins C dx fs) → G.mg c = some (.ref C) → RDs G H (fs.map (·.2)) ds → RD G H (.ref a) (.obj c (fs.map (·.1)) ds)
  | slt {a C dx : Addr} {vs : List V} {c : Str} {ds : List D} : H a = some (SlX.SlO a C dx (vs.map some)) → H dx = some (.xd []) → G.mg c = some (.ref C) → RDs G H vs ds → RD G H (.ref a) (.obj c [] ds)
inductive RDs (G : Gp) (H : Hp) : List V → List D → Prop
  | nil : RDs G H [] []
  | cons {v : V} {vs : List V} {d : D} {ds : List D} : RD G H v d → RDs G H vs ds → RDs G H (v :: vs) (d :: ds)
end
theorem Same.rd {H H' : Hp} {a : Addr} {u : HO} (e : Same H H') (h : Rd H a u) : Rd H' a u := by
  rcases h with h | ⟨o, h⟩
  · exact .inl (e a _ h)
  · exact .inr ⟨o, e a _ h⟩
theorem Same.tupq {K : PySem.W.Frag} {H H' : Hp} {a : Addr} {xs : List V} (e : Same H H') (h : SqT K H a xs) : SqT K H' a xs := by
  rcases h with h | h
  · exact .inl (Same.rd e h)
  · exact .inr h
mutual
theorem RD.mono {G : Gp} {H H' : Hp} (e : Same H H') : ∀ {v : V} {d : D}, RD G H v d → RD G H' v d
  | _, _, .non => .non
  | _, _, .bl b => .bl b
  | _, _, .int i => .int i
  | _, _, .str x => .str x
  | _, _, .ref a => .ref a
  | _, _, .lst h r => .lst (e.seq h) (RDs.mono e r)
  | _, _, .tup h r => .tup (h.mono e) (RDs.mono e r)
  | _, _, .dct h r => .dct (e _ _ h) (RDs.mono e r)
  | _, _, .dctT n h k v r => .dctT n (e _ _ h) (k.mono e) v (RDs.mono e r)
  | _, _, .set h a b c => .set (e _ _ h) a b c
  | _, _, .obj h m r => .obj (e _ _ h) m (RDs.mono e r)
  | _, _, .slt h x m r => .slt (e _ _ h) (e _ _ x) m (RDs.mono e r)
theorem RDs.mono {G : Gp} {H H' : Hp} (e : Same H H') : ∀ {vs : List V} {ds : List D}, RDs G H vs ds → RDs G H' vs ds
  | _, _, .nil => .nil
  | _, _, .cons a b => .cons (RD.mono e a) (RDs.mono e b)
end
theorem RDs.len {G : Gp} {H : Hp} : ∀ {vs : List V} {ds : List D}, RDs G H vs ds → vs.length = ds.length
  | _, _, .nil => rfl
  | _, _, .cons _ b => by rw [List.length_cons, List.length_cons, RDs.len b]
theorem RDs.get {G : Gp} {H : Hp} : ∀ {vs : List V} {ds : List D} {i : Nat} {d : D}, RDs G H vs ds → ds[i]? = some d → ∃ v, vs[i]? = some v ∧ RD G H v d
  | _, _, _, _, .nil, e => by simp at e
  | _, _, 0, _, .cons a _, e => by simp at e; subst e; exact ⟨_, rfl, a⟩
  | _, _, i + 1, d, .cons _ b, e => by
    obtain ⟨v, h1, h2⟩ := RDs.get (i := i) (d := d) b (by simpa using e)
    exact ⟨v, by simpa using h1, h2⟩
theorem RDs.app {G : Gp} {H : Hp} : ∀ {vs ws : List V} {ds es : List D}, RDs G H vs ds → RDs G H ws es → RDs G H (vs ++ ws) (ds ++ es)
  | _, _, _, _, .nil, b => b
  | _, _, _, _, .cons a r, b => .cons a (RDs.app r b)
theorem RDs.take {G : Gp} {H : Hp} : ∀ {vs : List V} {ds : List D} (n : Nat), RDs G H vs ds → RDs G H (vs.take n) (ds.take n)
  | _, _, 0, _ => .nil
  | _, _, _ + 1, .nil => .nil
  | _, _, n + 1, .cons a r => .cons a (RDs.take n r)
theorem RDs.drop {G : Gp} {H : Hp} : ∀ {vs : List V} {ds : List D} (n : Nat), RDs G H vs ds → RDs G H (vs.drop n) (ds.drop n)
  | _, _, 0, r => r
  | _, _, _ + 1, .nil => .nil
  | _, _, n + 1, .cons _ r => RDs.drop n r
theorem RDs.upd {G : Gp} {H : Hp} {v : V} {d : D} (q : RD G H v d) : ∀ {vs : List V} {ds : List D} (n : Nat), RDs G H vs ds → RDs G H (vs.set n v) (ds.set n d)
  | _, _, _, .nil => .nil
  | _, _, 0, .cons _ r => .cons q r
  | _, _, n + 1, .cons a r => .cons a (RDs.upd q n r)
theorem RDs.rev {G : Gp} {H : Hp} : ∀ {vs : List V} {ds : List D}, RDs G H vs ds → RDs G H vs.reverse ds.reverse
  | _, _, .nil => .nil
  | _, _, .cons a r => by rw [List.reverse_cons, List.reverse_cons]; exact (RDs.rev r).app (.cons a .nil)
theorem RDs.map_int {G : Gp} {H : Hp} : ∀ ns : List Int, RDs G H (ns.map V.int) (ns.map D.int)
  | [] => .nil
  | n :: r => .cons (.int n) (RDs.map_int r)
theorem RDs.ints {G : Gp} {H : Hp} : ∀ {ns : List Int} {vs : List V}, RDs G H vs (ns.map D.int) → vs = ns.map V.int
  | [], _, h => by cases h; rfl
  | n :: r, _, h => by
    cases h with
    | cons a b => cases a; rw [RDs.ints b]; rfl
theorem RDs.bls {G : Gp} {H : Hp} : ∀ {ns : List Bool} {vs : List V}, RDs G H vs (ns.map D.bl) → vs = ns.map V.bl
  | [], _, h => by cases h; rfl
  | n :: r, _, h => by
    cases h with
    | cons a b => cases a; rw [RDs.bls b]; rfl
def hid (Z : List Addr) (H : Hp) : Hp := fun a => if a ∈ Z then none else match H a with
  | some (.tbl _) => none
  | x => x
theorem hid_all {Z : List Addr} {H : Hp} {a : Addr} {o : HO} (h : hid Z H a = some o) : a ∉ Z ∧ H a = some o ∧ isTb o = false := by
  unfold hid at h
  by_cases z : a ∈ Z
  · rw [if_pos z] at h; cases h
  · rw [if_neg z] at h
    cases e : H a with
    | none => rw [e] at h; cases h
    | some u =>
      rw [e] at h
      cases u <;> first | (cases h; exact ⟨z, rfl, rfl⟩) | cases h
theorem hid_some {Z : List Addr} {H : Hp} {a : Addr} {o : HO} (h : hid Z H a = some o) : a ∉ Z ∧ H a = some o := ⟨(hid_all h).1, (hid_all h).2.1⟩
theorem hid_nt {Z : List Addr} {H : Hp} {a : Addr} {o : HO} (h : hid Z H a = some o) : isTb o = false := (hid_all h).2.2
theorem hid_of {Z : List Addr} {H : Hp} {a : Addr} {o : HO} (z : a ∉ Z) (h : H a = some o) (t : isTb o = false := by rfl) : hid Z H a = some o := by
  unfold hid; rw [if_neg z, h]
  cases o <;> first | rfl | cases t
theorem hid_full {Z : List Addr} {H : Hp} : Same (hid Z H) H := fun _ _ h => (hid_some h).2
theorem hid_less {Z Z' : List Addr} {H : Hp} (h : ∀ a ∈ Z', a ∈ Z) : Same (hid Z H) (hid Z' H) := fun a o e =>
  hid_of (fun q => (hid_some e).1 (h a q)) (hid_some e).2 (hid_nt e)
theorem Same.hid {Z : List Addr} {H H' : Hp} (e : Same H H') : Same (hid Z H) (hid Z H') := fun a o h => hid_of (hid_some h).1 (e a o (hid_some h).2) (hid_nt h)
theorem Same.of_new {H : Hp} {p : Addr} {o : HO} (h : H p = none) : Same H (upd H p o) := fun b x e => by rw [upd_ne (ne_of_none e h)]; exact e
def ZOk (Z : List Addr) (H : Hp) : Prop := ∀ a ∈ Z, H a ≠ none
theorem ZOk.out {Z : List Addr} {H : Hp} {p : Addr} (z : ZOk Z H) (h : H p = none) : p ∉ Z := fun q => z p q h
theorem ZOk.same {Z : List Addr} {H H' : Hp} (z : ZOk Z H) (e : Same H H') : ZOk Z H' := fun a ha h => by
  cases q : H a with
  | none => exact z a ha q
  | some o => rw [e a o q] at h; cases h
theorem hid_new {Z : List Addr} {H : Hp} {p : Addr} {o : HO} (z : ZOk Z H) (h : H p = none) (t : isTb o = false := by rfl) : hid Z (upd H p o) p = some o := hid_of (z.out h) upd_same t
inductive DcC (G : Gp) (H Hv : Hp) (a : Addr) : List D → List D → Prop
  | k {kvs : List (Key × V)} {ds : List D} : H a = some (.dK kvs) → RDs G Hv (kvs.map (·.2)) ds → DcC G H Hv a (kvs.map fun p => keyD p.1) ds
  | t {xs : List (List Key × Addr × Value)} {vs : List V} {ds : List D} : xs ≠ [] → H a = some (DTo G.P G.w a xs) → KeysAt G.K Hv xs → Vals vs (xs.map (·.2.2)) → RDs G Hv vs ds → DcC G H Hv a (xs.map fun x => keyT x.1) ds
def OwC (G : Gp) (H Hv : Hp) (a : Addr) : D → Prop
  | .lst ds => ∃ vs, H a = some (.lst vs) ∧ RDs G Hv vs ds
  | .dct ks ds => DcC G H Hv a ks ds
  | _ => False
theorem OwC.move {G : Gp} {H Hv H' Hv' : Hp} {a : Addr} {d : D} (h : OwC G H Hv a d) (k : ∀ o, H a = some o → isTb o = false → H' a = some o) (e : Same Hv Hv') : OwC G H' Hv' a d := by
  cases d with
  | lst ds => obtain ⟨vs, h1, h2⟩ := h; exact ⟨vs, k _ h1 rfl, h2.mono e⟩
  | dct ks ds =>
    cases h with
    | k h1 h2 => exact .k (k _ h1 rfl) (h2.mono e)
    | t n h1 h2 h3 h4 => exact .t n (k _ h1 rfl) (h2.mono e) h3 (h4.mono e)
  | _ => exact h.elim
theorem OwC.there {G : Gp} {H Hv : Hp} {a : Addr} {d : D} (h : OwC G H Hv a d) : ∃ o, H a = some o ∧ isTb o = false := by
  cases d with
  | lst ds => obtain ⟨vs, h1, h2⟩ := h; exact ⟨_, h1, rfl⟩
  | dct ks ds =>
    cases h with
    | k h1 h2 => exact ⟨_, h1, rfl⟩
    | t n h1 h2 h3 h4 => exact ⟨_, h1, rfl⟩
  | _ => exact h.elim
def isDct : D → Bool
  | .dct _ _ => true
  | _ => false
theorem OwC.rd {G : Gp} {H : Hp} {a : Addr} {d : D} (h : OwC G H H a d) (k : isDct d = false) : RD G H (.ref a) d := by
  cases d with
  | lst ds => obtain ⟨vs, h1, h2⟩ := h; exact .lst (SqL.of h1) h2
  | dct ks ds => cases k
  | _ => exact h.elim
inductive DcR (G : Gp) (H Hv : Hp) (a : Addr) : List D → List D → Prop
  | k {kvs : List (Key × V)} {ds : List D} : Rd H a (.dK kvs) → RDs G Hv (kvs.map (·.2)) ds → DcR G H Hv a (kvs.map fun p => keyD p.1) ds
  | t {xs : List (List Key × Addr × Value)} {vs : List V} {ds : List D} : xs ≠ [] → Rd H a (DTo G.P G.w a xs) → KeysAt G.K Hv xs → Vals vs (xs.map (·.2.2)) → RDs G Hv vs ds → DcR G H Hv a (xs.map fun x => keyT x.1) ds
theorem DcC.r {G : Gp} {H Hv : Hp} {a : Addr} {ks ds : List D} (h : DcC G H Hv a ks ds) : DcR G H Hv a ks ds := by
  cases h with
  | k h1 h2 => exact .k (.inl h1) h2
  | t n h1 h2 h3 h4 => exact .t n (.inl h1) h2 h3 h4
def RT (G : Gp) (Z : List Addr) (H : Hp) (v : V) (d : D) : Prop :=
  RD G (hid Z H) v d ∨ ∃ a, v = .ref a ∧ OwC G H (hid Z H) a d
theorem RT.of {G : Gp} {Z : List Addr} {H : Hp} {v : V} {d : D} (h : RD G (hid Z H) v d) : RT G Z H v d := .inl h
theorem RT.full {G : Gp} {Z : List Addr} {H : Hp} {v : V} {d : D} (h : RT G Z H v d) (k : isDct d = false) : RD G H v d := by
  rcases h with h | ⟨a, rfl, h⟩
  · exact h.mono hid_full
  · exact (h.move (H' := H) (Hv' := H) (fun _ e _ => e) hid_full).rd k
theorem RT.lst {G : Gp} {Z : List Addr} {H : Hp} {v : V} {ds : List D} (h : RT G Z H v (.lst ds)) : ∃ a vs, v = .ref a ∧ SqL G.K H a vs ∧ RDs G (hid Z H) vs ds := by
  rcases h with h | ⟨a, rfl, vs, h, r⟩
  · cases h with
    | lst q r => exact ⟨_, _, rfl, hid_full.seq q, r⟩
  · exact ⟨a, vs, rfl, SqL.of h, r⟩
theorem RT.tup {G : Gp} {Z : List Addr} {H : Hp} {v : V} {ds : List D} (h : RT G Z H v (.tup ds)) : ∃ a vs, v = .ref a ∧ TupV G.K H a vs ∧ RDs G (hid Z H) vs ds := by
  rcases h with h | ⟨a, rfl, h⟩
  · cases h with
    | tup q r => exact ⟨_, _, rfl, q.mono hid_full, r⟩
  · exact h.elim
theorem RT.int {G : Gp} {Z : List Addr} {H : Hp} {v : V} {i : Int} (h : RT G Z H v (.int i)) : v = .int i := by
  rcases h with h | ⟨a, rfl, h⟩
  · cases h; rfl
  · exact h.elim
theorem RT.bl {G : Gp} {Z : List Addr} {H : Hp} {v : V} {i : Bool} (h : RT G Z H v (.bl i)) : v = .bl i := by
  rcases h with h | ⟨a, rfl, h⟩
  · cases h; rfl
  · exact h.elim
theorem RT.str {G : Gp} {Z : List Addr} {H : Hp} {v : V} {i : Str} (h : RT G Z H v (.str i)) : v = .str i := by
  rcases h with h | ⟨a, rfl, h⟩
  · cases h; rfl
  · exact h.elim
theorem RT.non {G : Gp} {Z : List Addr} {H : Hp} {v : V} (h : RT G Z H v .non) : v = .non := by
  rcases h with h | ⟨a, rfl, h⟩
  · cases h; rfl
  · exact h.elim
inductive RTs (G : Gp) (Z : List Addr) (H : Hp) : List V → List D → Prop
  | nil : RTs G Z H [] []
  | cons {v : V} {vs : List V} {d : D} {ds : List D} : RT G Z H v d → RTs G Z H vs ds → RTs G Z H (v :: vs) (d :: ds)
theorem RTs.one {G : Gp} {Z : List Addr} {H : Hp} {vs : List V} {d : D} (h : RTs G Z H vs [d]) : ∃ v, vs = [v] ∧ RT G Z H v d := by
  cases h with
  | cons a b => cases b; exact ⟨_, rfl, a⟩
theorem RTs.two {G : Gp} {Z : List Addr} {H : Hp} {vs : List V} {d e : D} (h : RTs G Z H vs [d, e]) : ∃ v u, vs = [v, u] ∧ RT G Z H v d ∧ RT G Z H u e := by
  cases h with
  | cons a b =>
    cases b with
    | cons b c => cases c; exact ⟨_, _, rfl, a, b⟩
inductive SV where
  | im (d : D)
  | owd (d : D)
  | bo (xs : List D)
abbrev SV.ow (xs : List D) : SV := .owd (.lst xs)
abbrev Rho := List (Option SV)
abbrev Own := List (Nat × Addr)
structure Fm where
  H0 : Hp
  Z : List Addr
  B : Own
def Fm.hide (F : Fm) (p : Addr) : Fm := ⟨F.H0, p :: F.Z, F.B⟩
def zs (F : Fm) (A : Own) : List Addr := F.Z ++ A.map (·.2)
theorem mem_zs {F : Fm} {A : Own} {a : Addr} : a ∈ zs F A ↔ a ∈ F.Z ∨ ∃ i, (i, a) ∈ A := by
  unfold zs
  rw [List.mem_append, List.mem_map]
  constructor
  · rintro (h | ⟨⟨i, b⟩, h, rfl⟩)
    · exact .inl h
    · exact .inr ⟨i, h⟩
  · rintro (h | ⟨i, h⟩)
    · exact .inl h
    · exact .inr ⟨(i, a), h, rfl⟩
def OwAt (G : Gp) (F : Fm) (A : Own) (σ : St) (H : Hp) (i : Nat) (a : Addr) (d : D) : Prop :=
  σ[i]? = some (some (.ref a)) ∧ OwC G H (hid (zs F A) H) a d
structure Sts [Tbl] (G : Gp) (F : Fm) (A : Own) (σ : St) (ρ : Rho) (H : Hp) : Prop where
  len : σ.length = ρ.length
  im : ∀ (i : Nat) d, ρ[i]? = some (some (.im d)) → ∃ v, σ[i]? = some (some v) ∧ RD G (hid (zs F A) H) v d
  ow : ∀ (i : Nat) d, ρ[i]? = some (some (.owd d)) → ∃ a, (i, a) ∈ A ∧ a ∉ F.Z ∧ F.H0 a = none ∧ OwAt G F A σ H i a d
  bo : ∀ (i : Nat) xs, ρ[i]? = some (some (.bo xs)) → ∃ a, (i, a) ∈ A ∧ (i, a) ∈ F.B ∧ OwAt G F A σ H i a (.lst xs)
  own : ∀ (i : Nat) a, (i, a) ∈ A → ∃ d, ρ[i]? = some (some (.owd d)) ∨ ∃ xs, d = .lst xs ∧ ρ[i]? = some (some (.bo xs))
  uni : ∀ (i j : Nat) a b, (i, a) ∈ A → (j, b) ∈ A → (i = j ↔ a = b)
  bor : ∀ (i : Nat) a, (i, a) ∈ F.B → (i, a) ∈ A ∧ ∃ xs, ρ[i]? = some (some (.bo xs))
  keep : ∀ a o, nt F.H0 a = some o → (∀ i, (i, a) ∉ F.B) → nt H a = some o
  zok : ZOk F.Z H
  tabs : LamX.Tabs Tbl.T H
variable [Tbl]
section
variable {G : Gp} {F : Fm} {A : Own} {σ : St} {ρ ρ' : Rho} {H H' : Hp}
theorem Sts.zall (S : Sts G F A σ ρ H) : ZOk (zs F A) H := fun a h => by
  rcases mem_zs.mp h with h | ⟨i, h⟩
  · exact S.zok a h
  · obtain ⟨xs, h1 | ⟨ys, _, h1⟩⟩ := S.own i a h
    · obtain ⟨b, hb, _, _, _, hc⟩ := S.ow i xs h1
      obtain ⟨o, e, _⟩ := hc.there
      rw [(S.uni i i a b h hb).mp rfl, e]; exact fun z => nomatch z
    · obtain ⟨b, hb, _, _, vs, e, _⟩ := S.bo i ys h1
      rw [(S.uni i i a b h hb).mp rfl, e]; exact fun z => nomatch z
theorem OwAt.same {i : Nat} {a : Addr} {d : D} (h : OwAt G F A σ H i a d) (e : Same H H') : OwAt G F A σ H' i a d :=
  ⟨h.1, h.2.move (fun o z _ => e _ _ z) (Same.hid e)⟩
def SameN (H H' : Hp) : Prop := Same (nt H) (nt H')
theorem SameN.of {H H' : Hp} (e : Same H H') : SameN H H' := Same.nt e
theorem SameN.at {H H' : Hp} {a : Addr} {o : HO} (e : SameN H H') (h : H a = some o) (t : isTb o = false := by rfl) : H' a = some o := of_nt (e a o (nt_of h t)) t
theorem SameN.there {H H' : Hp} {a : Addr} (e : SameN H H') (h : H a ≠ none) : H' a ≠ none := fun z => by
  cases q : nt H a with
  | none => exact h (nt_none.mp q)
  | some u => rw [← nt_none, e a u q] at z; cases z
theorem SameN.hid {Z : List Addr} {H H' : Hp} (e : SameN H H') : Same (hid Z H) (hid Z H') := fun a o h => hid_of (hid_some h).1 (e.at (hid_some h).2 (hid_nt h)) (hid_nt h)
theorem OwAt.sameN {i : Nat} {a : Addr} {d : D} (h : OwAt G F A σ H i a d) (e : SameN H H') : OwAt G F A σ H' i a d :=
  ⟨h.1, h.2.move (fun o z t => e.at z t) (SameN.hid e)⟩
theorem Sts.sameN (S : Sts G F A σ ρ H) (e : SameN H H') (tt : LamX.Tabs Tbl.T H') : Sts G F A σ ρ H' where
  len := S.len
  im := fun i d h => let ⟨v, h1, h2⟩ := S.im i d h; ⟨v, h1, h2.mono (SameN.hid e)⟩
  ow := fun i xs h => let ⟨a, h1, h2, h3, h4⟩ := S.ow i xs h; ⟨a, h1, h2, h3, h4.sameN e⟩
  bo := fun i xs h => let ⟨a, h1, h2, h3⟩ := S.bo i xs h; ⟨a, h1, h2, h3.sameN e⟩
  own := S.own
  uni := S.uni
  bor := S.bor
  keep := fun a o h1 h2 => e _ _ (S.keep a o h1 h2)
  zok := fun a h => e.there (S.zok a h)
  tabs := tt
theorem Sts.same (S : Sts G F A σ ρ H) (e : Same H H') : Sts G F A σ ρ H' := S.sameN (.of e) (S.tabs.ext e)
end
def Stp (A : Own) (H H' : Hp) : Prop := ∀ a o, nt H a = some o → (∀ i, (i, a) ∉ A) → nt H' a = some o
theorem Stp.refl (A : Own) (H : Hp) : Stp A H H := fun _ _ h _ => h
theorem Stp.trans {A : Own} {H H1 H2 : Hp} (a : Stp A H H1) (b : Stp A H1 H2) : Stp A H H2 := fun x o h n => b x o (a x o h n) n
theorem Stp.ofN {A : Own} {H H' : Hp} (e : SameN H H') : Stp A H H' := fun x o h _ => e x o h
theorem Stp.of {A : Own} {H H' : Hp} (e : Same H H') : Stp A H H' := Stp.ofN (.of e)
theorem Stp.at {A : Own} {H H' : Hp} {a : Addr} {o : HO} (e : Stp A H H') (h : H a = some o) (n : ∀ i, (i, a) ∉ A) (t : isTb o = false := by rfl) : H' a = some o := of_nt (e a o (nt_of h t) n) t
theorem Stp.there {A : Own} {H H' : Hp} {a : Addr} (e : Stp A H H') (n : ∀ i, (i, a) ∉ A) (h : H a ≠ none) : H' a ≠ none := fun z => by
  cases q : nt H a with
  | none => exact h (nt_none.mp q)
  | some u => rw [← nt_none, e a u q n] at z; cases z
theorem Stp.sameN {H H' : Hp} (e : Stp [] H H') : SameN H H' := fun a o h => e a o h fun i z => nomatch z
theorem Stp.hid {A : Own} {H H' : Hp} {F : Fm} (e : Stp A H H') : Same (Dv.hid (zs F A) H) (Dv.hid (zs F A) H') := fun a o h => by
  obtain ⟨h1, h2, h3⟩ := hid_all h
  exact hid_of h1 (e.at h2 (fun i z => h1 (mem_zs.mpr (.inr ⟨i, z⟩))) h3) h3
inductive RV where
  | im (d : D)
  | al (i : Nat)
def RR (G : Gp) (F : Fm) (A : Own) (H : Hp) (v : V) : RV → Prop
  | .im d => RD G (hid (zs F A) H) v d
  | .al i => ∃ a, (i, a) ∈ A ∧ v = .ref a
theorem RR.same {G : Gp} {F : Fm} {A : Own} {H H' : Hp} {v : V} {r : RV} (h : RR G F A H v r) (e : Same (hid (zs F A) H) (hid (zs F A) H')) : RR G F A H' v r := by
  cases r with
  | im d => exact RD.mono e h
  | al i => exact h
inductive RRs (G : Gp) (F : Fm) (A : Own) (H : Hp) : List V → List RV → Prop
  | nil : RRs G F A H [] []
  | cons {v : V} {vs : List V} {r : RV} {rs : List RV} : RR G F A H v r → RRs G F A H vs rs → RRs G F A H (v :: vs) (r :: rs)
theorem RRs.same {G : Gp} {F : Fm} {A : Own} {H H' : Hp} (e : Same (hid (zs F A) H) (hid (zs F A) H')) : ∀ {vs : List V} {rs : List RV}, RRs G F A H vs rs → RRs G F A H' vs rs
  | _, _, .nil => .nil
  | _, _, .cons a b => .cons (a.same e) (RRs.same e b)
structure Exn where
  cls : Str
  arg : Option D
inductive Res (α : Type) where
  | no
  | ex (e : Exn) (ρ : Rho)
  | ok (a : α) (ρ : Rho)
abbrev M (α : Type) := Rho → Res α
def M.bind {α β : Type} (m : M α) (k : α → M β) : M β := fun ρ => match m ρ with
  | .no => .no
  | .ex e ρ' => .ex e ρ'
  | .ok a ρ' => k a ρ'
def M.ret {α : Type} (a : α) : M α := fun ρ => .ok a ρ
def M.opt {α : Type} (o : Option α) : M α := fun ρ => match o with
  | some a => .ok a ρ
  | none => .no
theorem bind_ok {α β : Type} {m : M α} {k : α → M β} {ρ ρ' : Rho} {b : β} (h : M.bind m k ρ = .ok b ρ') : ∃ a ρ1, m ρ = .ok a ρ1 ∧ k a ρ1 = .ok b ρ' := by
  unfold M.bind at h
  cases e : m ρ with
  | no => rw [e] at h; cases h
  | ex x r => rw [e] at h; cases h
  | ok a r => rw [e] at h; exact ⟨a, r, rfl, h⟩
theorem ret_ok {α : Type} {a b : α} {ρ ρ' : Rho} (h : M.ret a ρ = .ok b ρ') : a = b ∧ ρ = ρ' := by
  unfold M.ret at h; cases h; exact ⟨rfl, rfl⟩
theorem opt_ok {α : Type} {o : Option α} {b : α} {ρ ρ' : Rho} (h : M.opt o ρ = .ok b ρ') : o = some b ∧ ρ = ρ' := by
  unfold M.opt at h
  cases o with
  | none => cases h
  | some a => cases h; exact ⟨rfl, rfl⟩
def look (ρ : Rho) : RV → Option D
  | .im d => some d
  | .al i => match ρ[i]? with
    | some (some (.owd d)) => some d
    | some (some (.bo xs)) => some (.lst xs)
    | _ => none
def val (r : RV) : M D := fun ρ => match look ρ r with
  | some d => .ok d ρ
  | none => .no
theorem val_ok {r : RV} {ρ ρ' : Rho} {d : D} (h : val r ρ = .ok d ρ') : look ρ r = some d ∧ ρ = ρ' := by
  unfold val at h
  cases e : look ρ r with
  | none => rw [e] at h; cases h
  | some x => rw [e] at h; cases h; exact ⟨rfl, rfl⟩
def imm (r : RV) : M D := fun ρ => match r with
  | .im d => .ok d ρ
  | .al _ => .no
theorem imm_ok {r : RV} {ρ ρ' : Rho} {d : D} (h : imm r ρ = .ok d ρ') : r = .im d ∧ ρ = ρ' := by
  cases r with
  | im x => cases h; exact ⟨rfl, rfl⟩
  | al i => cases h
theorem look_rt {G : Gp} {F : Fm} {A : Own} {σ : St} {ρ : Rho} {H : Hp} {v : V} {r : RV} {d : D} (S : Sts G F A σ ρ H) (h : RR G F A H v r) (e : look ρ r = some d) : RT G (zs F A) H v d := by
  cases r with
  | im x => cases e; exact .inl h
  | al i =>
    obtain ⟨a, ha, rfl⟩ := h
    simp only [look] at e
    split at e
    · rename_i q
      cases e
      obtain ⟨b, hb, _, _, _, hc⟩ := S.ow i _ q
      rw [(S.uni i i a b ha hb).mp rfl]
      exact .inr ⟨b, rfl, hc⟩
    · rename_i q
      cases e
      obtain ⟨b, hb, _, _, vs, h2, h3⟩ := S.bo i _ q
      rw [(S.uni i i a b ha hb).mp rfl]
      exact .inr ⟨b, rfl, vs, h2, h3⟩
    · cases e
abbrev ES := M RV
def tD (G : Gp) (F : Fm) (f : ES) : TE := fun σ H Q => ∃ A ρ r ρ', Sts G F A σ ρ H ∧ f ρ = .ok r ρ' ∧
  ∀ v H', Sts G F A σ ρ' H' → Stp A H H' → RR G F A H' v r → Q v H'
def tT (G : Gp) (F : Fm) (f : M Bool) : TT := fun σ H Q => ∃ A ρ b ρ', Sts G F A σ ρ H ∧ f ρ = .ok b ρ' ∧
  ∀ H', Sts G F A σ ρ' H' → Stp A H H' → Q b H'
def tDs (G : Gp) (F : Fm) (f : M (List RV)) : TA := fun σ H Q => ∃ A ρ rs ρ', Sts G F A σ ρ H ∧ f ρ = .ok rs ρ' ∧
  ∀ vs H', Sts G F A σ ρ' H' → Stp A H H' → RRs G F A H' vs rs → Q vs H'
def tN (G : Gp) (F : Fm) (f : M (List D)) : TE := fun σ H Q => ∃ A ρ xs ρ', Sts G F A σ ρ H ∧ f ρ = .ok xs ρ' ∧
  ∀ p vs H', Sts G (F.hide p) A σ ρ' H' → F.H0 p = none → p ∉ zs F A → Stp A H H' → H p = none → H' p = some (.lst vs) → RDs G (hid (zs (F.hide p) A) H') vs xs → Q (.ref p) H'
structure DE (X : Cx) (e : Expr) (f : ES) : Prop where
  run : ∀ F, PE X e (tD (Gx X) F f)
structure DT (X : Cx) (e : Expr) (f : M Bool) : Prop where
  run : ∀ F, PT X e (tT (Gx X) F f)
structure DW (X : Cx) (e : Expr) (f : M Bool) : Prop where
  run : ∀ F, PW X e (tT (Gx X) F f)
structure DA (X : Cx) (es : List Expr) (f : M (List RV)) : Prop where
  run : ∀ F, PA X es (tDs (Gx X) F f)
structure DN (X : Cx) (e : Expr) (f : M (List D)) : Prop where
  run : ∀ F, PE X e (tN (Gx X) F f)
theorem pe_imp {X : Cx} {e : Expr} {t t' : TE} (h : PE X e t) (i : ∀ σ H Q, t' σ H Q → t σ H Q) : PE X e t' := ⟨fun pins s σ H Q I q => h.run pins s σ H Q I (i σ H Q q)⟩
theorem pt_imp {X : Cx} {e : Expr} {t t' : TT} (h : PT X e t) (i : ∀ σ H Q, t' σ H Q → t σ H Q) : PT X e t' := ⟨fun pins s σ H Q I q => h.run pins s σ H Q I (i σ H Q q)⟩
theorem pw_imp {X : Cx} {e : Expr} {t t' : TT} (h : PW X e t) (i : ∀ σ H Q, t' σ H Q → t σ H Q) : PW X e t' := ⟨fun wh pins s σ H Q I q => h.run wh pins s σ H Q I (i σ H Q q)⟩
theorem pa_imp {X : Cx} {e : List Expr} {t t' : TA} (h : PA X e t) (i : ∀ σ H Q, t' σ H Q → t σ H Q) : PA X e t' := ⟨fun pos pins s σ H Q I q => h.run pos pins s σ H Q I (i σ H Q q)⟩
theorem ps_imp {X : Cx} {e : Stmt} {t t' : TS} (h : PS X e t) (i : ∀ D σ H, t' D σ H → t D σ H) : PS X e t' := ⟨fun pins s σ H D I q => h.run pins s σ H D I (i D σ H q)⟩
theorem pss_imp {X : Cx} {e : List Stmt} {t t' : TS} (h : PSs X e t) (i : ∀ D σ H, t' D σ H → t D σ H) : PSs X e t' := ⟨fun pins s σ H D I q => h.run pins s σ H D I (i D σ H q)⟩
abbrev tObj (its : List Value) : Obj := { cls := .type "tuple", data := .seq its.toArray }
abbrev tHO (its : List Value) (xs : List V) : HO := .frz (tObj its) (.tup xs)
theorem lay_tup {X : Cx} {pins : List (Addr × Obj)} {σ : St} {H : Hp} {s : Shared} {xs : List V} {its : List Value} (I : Inv X pins σ H s) (r : Vals xs its) (z : xs.length ≤ sizeLine) (t : Nat) :
    Inv X pins σ (upd H s.heap.objs.size (tHO its xs)) { s with heap := s.heap.push (tObj its), toks := t } := by
  have g : (s.heap.push (tObj its)).get? s.heap.objs.size = some (tObj its) := Heap.get?_push_size _ rfl
  have ok : ObjOk X.prog X.w (upd H s.heap.objs.size (tHO its xs)) (s.heap.push (tObj its)) s.heap.objs.size (tHO its xs) := ⟨g, z, its, r, _, g, rfl, _, rfl⟩
  exact I.laid (t' := t) (fun _ _ q => Heap.get?_push_of_some _ q) (Nat.le_refl _) ok
def tTupF (t : TA) : TE := fun σ H Q => t σ H fun xs H1 => xs.length ≤ sizeLine ∧ ∀ p its, H1 p = none → Q (.ref p) (upd H1 p (tHO its xs))
theorem pe_tupF {X : Cx} {es : List Expr} {t : TA} {k : Nat} {pos : Pos} (h : PA X es t) : PE X (.Tuple es k pos) (tTupF t) := by
  constructor
  intro pins s σ H Q I hq
  refine wpAny_Tuple_spliced (thn (h.run pos pins s σ H _ I hq) ?_)
  rintro us s1 ⟨xs, H1, I1, r, z, q⟩
  have hn : H1 s1.heap.objs.size = none := I1.hok.fresh (Nat.le_refl _)
  exact ⟨r.length ▸ z, V.ref s1.heap.objs.size, _, lay_tup I1 r z s1.toks, rfl, q _ us hn⟩
section
variable {X : Cx} {a b : Expr} {fa fb : ES} {pos : Pos}
def eVar (i : Nat) : ES := fun ρ => match ρ[i]? with
  | some (some (.im d)) => .ok (.im d) ρ
  | some (some (.owd _)) => .ok (.al i) ρ
  | some (some (.bo _)) => .ok (.al i) ρ
  | _ => .no
def eC (d : D) : ES := M.ret (.im d)
theorem de_var {i : Nat} {e : Expr} (h : PE X e (tVar i)) : DE X e (eVar i) := ⟨fun F => pe_imp h fun σ H Q ⟨A, ρ, r, ρ', S, e, q⟩ => by
  unfold eVar at e
  split at e
  · rename_i d h1
    cases e
    obtain ⟨v, h2, h3⟩ := S.im i d h1
    exact ⟨v, h2, q v H S (Stp.refl _ _) h3⟩
  · rename_i xs h1
    cases e
    obtain ⟨a, h2, _, _, h3, _⟩ := S.ow i xs h1
    exact ⟨_, h3, q _ H S (Stp.refl _ _) ⟨a, h2, rfl⟩⟩
  · rename_i xs h1
    cases e
    obtain ⟨a, h2, _, h3, _⟩ := S.bo i xs h1
    exact ⟨_, h3, q _ H S (Stp.refl _ _) ⟨a, h2, rfl⟩⟩
  · cases e⟩
theorem de_c {v : V} {d : D} {e : Expr} (h : PE X e (tC v)) (r : ∀ H, RD (Gx X) H v d) : DE X e (eC d) := ⟨fun F => pe_imp h fun σ H Q ⟨A, ρ, rr, ρ', S, e, q⟩ => by
  obtain ⟨rfl, rfl⟩ := ret_ok e
  exact q v H S (Stp.refl _ _) (r _)⟩
theorem de_int {i : Int} {j} : DE X (.Constant (.int i) j pos) (eC (.int i)) := de_c pe_int fun _ => .int i
theorem de_bl {i : Bool} {j} : DE X (.Constant (.bool i) j pos) (eC (.bl i)) := de_c pe_bl fun _ => .bl i
theorem de_str {i : Str} {j} : DE X (.Constant (.str i) j pos) (eC (.str i)) := de_c pe_str fun _ => .str i
theorem de_non {j} : DE X (.Constant .none j pos) (eC .non) := de_c pe_non fun _ => .non
def OpD (X : Cx) (f : Value → Value → Sem Value) (g : D → D → Option D) : Prop := ∃ r, OpR X f r ∧ ∀ (Z : List Addr) (H : Hp) (x y : V) (dx dy d : D) (Q : VK), ZOk Z H → RT (Gx X) Z H x dx → RT (Gx X) Z H y dy → g dx dy = some d →
  (∀ v H', Same H H' → RD (Gx X) (hid Z H') v d → Q v H') → r x y H Q
def UnD (X : Cx) (f : Value → Sem Value) (g : D → Option D) : Prop := ∃ r, UnR X f r ∧ ∀ (Z : List Addr) (H : Hp) (x : V) (dx d : D) (Q : VK), ZOk Z H → RT (Gx X) Z H x dx → g dx = some d →
  (∀ v H', Same H H' → RD (Gx X) (hid Z H') v d → Q v H') → r x H Q
def CallD (X : Cx) (f : Value) (g : List D → Option D) : Prop := ∃ r, CallR X f r ∧ ∀ (Z : List Addr) (H : Hp) (xs : List V) (ds : List D) (d : D) (Q : VK), ZOk Z H → RTs (Gx X) Z H xs ds → g ds = some d →
  (∀ v H', Same H H' → RD (Gx X) (hid Z H') v d → Q v H') → r xs H Q
def eBin (g : D → D → Option D) (fa fb : ES) : ES := M.bind fa fun ra => M.bind fb fun rb => M.bind (val ra) fun x => M.bind (val rb) fun y => M.bind (M.opt (g x y)) fun d => M.ret (.im d)
def eUn (g : D → Option D) (fa : ES) : ES := M.bind fa fun ra => M.bind (val ra) fun x => M.bind (M.opt (g x)) fun d => M.ret (.im d)
theorem tOp_of {G : Gp} {F : Fm} {r : R2} {g : D → D → Option D} {σ : St} {H : Hp} {Q : VK} (ho : ∀ (Z : List Addr) (H : Hp) (x y : V) (dx dy d : D) (Q : VK), ZOk Z H → RT G Z H x dx → RT G Z H y dy → g dx dy = some d →
    (∀ v H', Same H H' → RD G (hid Z H') v d → Q v H') → r x y H Q) (h : tD G F (eBin g fa fb) σ H Q) : tOp r (tD G F fa) (tD G F fb) σ H Q := by
  obtain ⟨A, ρ, rr, ρ', S, e, q⟩ := h
  obtain ⟨ra, ρ1, e1, e⟩ := bind_ok e
  obtain ⟨rb, ρ2, e2, e⟩ := bind_ok e
  obtain ⟨x, ρ3, e3, e⟩ := bind_ok e
  obtain ⟨l3, rfl⟩ := val_ok e3
  obtain ⟨y, ρ4, e4, e⟩ := bind_ok e
  obtain ⟨l4, rfl⟩ := val_ok e4
  obtain ⟨d, ρ5, e5, e⟩ := bind_ok e
  obtain ⟨l5, rfl⟩ := opt_ok e5
  obtain ⟨rfl, rfl⟩ := ret_ok e
  refine ⟨A, ρ, ra, ρ1, S, e1, fun v1 H1 S1 m1 r1 => ⟨A, ρ1, rb, _, S1, e2, fun v2 H2 S2 m2 r2 => ?_⟩⟩
  refine ho (zs F A) H2 v1 v2 x y d Q S2.zall (look_rt S2 (r1.same m2.hid) l3) (look_rt S2 r2 l4) l5 fun v H' sm rd => ?_
  exact q v H' (S2.same sm) ((m1.trans m2).trans (Stp.of sm)) rd
theorem de_bin {op : Operator} {g : D → D → Option D} (ho : OpD X (binaryOp op) g) (ha : DE X a fa) (hb : DE X b fb) : DE X (.BinOp a op b pos) (eBin g fa fb) := ⟨fun F => by
  obtain ⟨r, h1, h2⟩ := ho
  exact pe_imp (pe_op h1 (ha.run F) (hb.run F)) fun σ H Q h => tOp_of h2 h⟩
theorem de_cmp {op : CmpOp} {g : D → D → Option D} (ho : OpD X (compareOp op) g) (ha : DE X a fa) (hb : DE X b fb) (hm : behindInMarks op b = false) : DE X (.Compare a [op] [b] pos) (eBin g fa fb) := ⟨fun F => by
  obtain ⟨r, h1, h2⟩ := ho
  exact pe_imp (pe_cmpR h1 (ha.run F) (hb.run F) hm) fun σ H Q h => tOp_of h2 h⟩
theorem de_un {op : UnaryOp} {g : D → Option D} (ho : UnD X (unaryOp op) g) (ha : DE X a fa) : DE X (.UnaryOp op a pos) (eUn g fa) := ⟨fun F => by
  obtain ⟨r, h1, h2⟩ := ho
  refine pe_imp (pe_un h1 (ha.run F)) fun σ H Q ⟨A, ρ, rr, ρ', S, e, q⟩ => ?_
  obtain ⟨ra, ρ1, e1, e⟩ := bind_ok e
  obtain ⟨x, ρ3, e3, e⟩ := bind_ok e
  obtain ⟨l3, rfl⟩ := val_ok e3
  obtain ⟨d, ρ5, e5, e⟩ := bind_ok e
  obtain ⟨l5, rfl⟩ := opt_ok e5
  obtain ⟨rfl, rfl⟩ := ret_ok e
  refine ⟨A, ρ, ra, _, S, e1, fun v1 H1 S1 m1 r1 => ?_⟩
  refine h2 (zs F A) H1 v1 x d Q S1.zall (look_rt S1 r1 l3) l5 fun v H' sm rd => ?_
  exact q v H' (S1.same sm) (m1.trans (Stp.of sm)) rd⟩
end
end Dv
namespace Dv
open PySem PySem.Spec PyProof.Rows L2
variable [Tbl]
section
variable {X : Cx} {a b c : Expr} {fa fb fc : ES} {ga gb : M Bool} {rest es : List Expr} {fs : M (List RV)} {pos : Pos}
def truth : D → Option Bool
  | .non => some false
  | .bl b => some b
  | .int i => some (i != 0)
  | .str x => if x.length ≤ 1000000 then some ((x.length : Int) != 0) else none
  | .lst xs => some (!xs.isEmpty)
  | .tup xs => some (!xs.isEmpty)
  | _ => none
theorem len_line {n : Nat} (h : n ≤ 1000000) : n ≤ sizeLine := Nat.le_trans h (by rw [sizeLine_eq]; decide)
theorem len_lt {n : Nat} (h : n < 1000000) : n < sizeLine := Nat.lt_of_lt_of_le h (by rw [sizeLine_eq]; decide)
theorem RDs.emp {G : Gp} {H : Hp} {vs : List V} {ds : List D} (h : RDs G H vs ds) : (!vs.isEmpty) = !ds.isEmpty := by cases h <;> rfl
theorem tru_of {G : Gp} {Z : List Addr} {H : Hp} {v : V} {d : D} {k : Bool} (h : RT G Z H v d) (e : truth d = some k) : TruV G.K v H k := by
  cases d with
  | non => rw [h.non]; cases e; rfl
  | bl b => rw [h.bl]; cases e; rfl
  | int i => rw [h.int]; cases e; rfl
  | str x =>
    rw [h.str]
    simp only [truth] at e
    by_cases z : x.length ≤ 1000000
    · rw [if_pos z] at e; cases e; exact ⟨len_line z, rfl⟩
    · rw [if_neg z] at e; cases e
  | lst xs =>
    obtain ⟨p, vs, rfl, q, r⟩ := h.lst
    cases e
    exact .inl ⟨vs, q, r.emp.symm⟩
  | tup xs =>
    obtain ⟨p, vs, rfl, q, r⟩ := h.tup
    cases e
    exact .inr (.inl ⟨vs, q.sq, r.emp.symm⟩)
  | _ => cases e
def bVal (fa : ES) : M Bool := M.bind fa fun ra => M.bind (val ra) fun x => M.opt (truth x)
theorem tru_rd {G : Gp} {F : Fm} {σ : St} {H : Hp} {Q : Bool → Hp → Prop} (h : tT G F (bVal fa) σ H Q) : tD G F fa σ H fun x H' => ∃ k, TruV G.K x H' k ∧ Q k H' := by
  obtain ⟨A, ρ, b, ρ', S, e, q⟩ := h
  obtain ⟨ra, ρ1, e1, e⟩ := bind_ok e
  obtain ⟨x, ρ2, e2, e⟩ := bind_ok e
  obtain ⟨l2, rfl⟩ := val_ok e2
  obtain ⟨l3, rfl⟩ := opt_ok e
  exact ⟨A, ρ, ra, _, S, e1, fun v H1 S1 m1 r1 => ⟨b, tru_of (look_rt S1 r1 l2) l3, q H1 S1 m1⟩⟩
theorem dt_val (ha : DE X a fa) (he : ∀ whole, isTrue a X.env whole = (do let v ← whole; standAt a.pos; holding [v] (truthy v)) := by intro _; rfl) : DT X a (bVal fa) := ⟨fun F => pt_imp (pt_truth (ha.run F) he) fun σ H Q h => tru_rd h⟩
def isBl : D → Option Bool
  | .bl b => some b
  | _ => none
def bCmp (g : D → D → Option D) (fa fb : ES) : M Bool := M.bind (eBin g fa fb) fun r => M.bind (val r) fun x => M.opt (isBl x)
theorem blv_of {G : Gp} {Z : List Addr} {H : Hp} {v : V} {d : D} {k : Bool} (h : RT G Z H v d) (e : isBl d = some k) : v = .bl k := by
  cases d <;> cases e
  exact h.bl
theorem tT_val {G : Gp} {F : Fm} {f : ES} {σ : St} {H : Hp} {Q : Bool → Hp → Prop} (h : tT G F (M.bind f fun r => M.bind (val r) fun x => M.opt (isBl x)) σ H Q) : tD G F f σ H fun x H' => ∃ k, x = .bl k ∧ Q k H' := by
  obtain ⟨A, ρ, b, ρ', S, e, q⟩ := h
  obtain ⟨ra, ρ1, e1, e⟩ := bind_ok e
  obtain ⟨x, ρ2, e2, e⟩ := bind_ok e
  obtain ⟨l2, rfl⟩ := val_ok e2
  obtain ⟨l3, rfl⟩ := opt_ok e
  exact ⟨A, ρ, ra, _, S, e1, fun v H1 S1 m1 r1 => ⟨b, blv_of (look_rt S1 r1 l2) l3, q H1 S1 m1⟩⟩
theorem dt_cmp {op : CmpOp} {g : D → D → Option D} (ho : OpD X (compareOp op) g) (ha : DE X a fa) (hb : DE X b fb) (hm : behindInMarks op b = false) : DT X (.Compare a [op] [b] pos) (bCmp g fa fb) := ⟨fun F => by
  obtain ⟨r, h1, h2⟩ := ho
  exact pt_imp (pt_cmpR h1 (ha.run F) (hb.run F) hm) fun σ H Q h => tOp_of (Q := fun x H' => ∃ k, x = .bl k ∧ Q k H') h2 (tT_val h)⟩
def eChain (g g' : D → D → Option D) (fa fb fc : ES) : ES := M.bind fa fun ra => M.bind fb fun rb => M.bind (val ra) fun x => M.bind (val rb) fun y => M.bind (M.opt (g x y)) fun d => M.bind (M.opt (isBl d)) fun k =>
  match k with
  | true => M.bind fc fun rc => M.bind (val rb) fun y' => M.bind (val rc) fun z => M.bind (M.opt (g' y' z)) fun d' => M.ret (.im d')
  | false => M.ret (.im (.bl false))
theorem tChain_of {G : Gp} {F : Fm} {r r' : R2} {g g' : D → D → Option D} {σ : St} {H : Hp} {Q : VK} (ho : ∀ (Z : List Addr) (H : Hp) (x y : V) (dx dy d : D) (Q : VK), ZOk Z H → RT G Z H x dx → RT G Z H y dy → g dx dy = some d →
    (∀ v H', Same H H' → RD G (hid Z H') v d → Q v H') → r x y H Q) (ho' : ∀ (Z : List Addr) (H : Hp) (x y : V) (dx dy d : D) (Q : VK), ZOk Z H → RT G Z H x dx → RT G Z H y dy → g' dx dy = some d →
    (∀ v H', Same H H' → RD G (hid Z H') v d → Q v H') → r' x y H Q) (h : tD G F (eChain g g' fa fb fc) σ H Q) : tChain r r' (tD G F fa) (tD G F fb) (tD G F fc) σ H Q := by
  obtain ⟨A, ρ, rr, ρ', S, e, q⟩ := h
  obtain ⟨ra, ρ1, e1, e⟩ := bind_ok e
  obtain ⟨rb, ρ2, e2, e⟩ := bind_ok e
  obtain ⟨x, ρ3, e3, e⟩ := bind_ok e
  obtain ⟨l3, rfl⟩ := val_ok e3
  obtain ⟨y, ρ4, e4, e⟩ := bind_ok e
  obtain ⟨l4, rfl⟩ := val_ok e4
  obtain ⟨d, ρ5, e5, e⟩ := bind_ok e
  obtain ⟨l5, rfl⟩ := opt_ok e5
  obtain ⟨k, ρ6, e6, e⟩ := bind_ok e
  obtain ⟨l6, rfl⟩ := opt_ok e6
  refine ⟨A, ρ, ra, ρ1, S, e1, fun v1 H1 S1 m1 r1 => ⟨A, ρ1, rb, _, S1, e2, fun v2 H2 S2 m2 r2 => ?_⟩⟩
  refine ho (zs F A) H2 v1 v2 x y d _ S2.zall (look_rt S2 (r1.same m2.hid) l3) (look_rt S2 r2 l4) l5 fun v H3 sm rd => ?_
  refine ⟨k, blv_of (.inl rd) l6, ?_⟩
  have S3 := S2.same sm
  have m3 := (m1.trans m2).trans (Stp.of sm)
  cases k with
  | false =>
    obtain ⟨rfl, rfl⟩ := ret_ok e
    rw [if_neg Bool.false_ne_true]
    exact q _ H3 S3 m3 (.bl false)
  | true =>
    obtain ⟨rc, ρ7, e7, e⟩ := bind_ok e
    obtain ⟨y', ρ8, e8, e⟩ := bind_ok e
    obtain ⟨l8, rfl⟩ := val_ok e8
    obtain ⟨z, ρ9, e9, e⟩ := bind_ok e
    obtain ⟨l9, rfl⟩ := val_ok e9
    obtain ⟨d', ρ10, e10, e⟩ := bind_ok e
    obtain ⟨l10, rfl⟩ := opt_ok e10
    obtain ⟨rfl, rfl⟩ := ret_ok e
    rw [if_pos rfl]
    refine ⟨A, _, rc, _, S3, e7, fun v4 H4 S4 m4 r4 => ?_⟩
    refine ho' (zs F A) H4 v2 v4 y' z d' Q S4.zall (look_rt S4 ((r2.same (Same.hid sm)).same m4.hid) l8) (look_rt S4 r4 l9) l10 fun v H5 sm5 rd5 => ?_
    exact q v H5 (S4.same sm5) ((m3.trans m4).trans (Stp.of sm5)) rd5
theorem de_chain {op op' : CmpOp} {g g' : D → D → Option D} (ho : OpD X (compareOp op) g) (ho' : OpD X (compareOp op') g') (ha : DE X a fa) (hb : DE X b fb) (hc : DE X c fc)
    (hm : lastMarks [op, op'] [b, c] = false := by with_unfolding_all rfl) : DE X (.Compare a [op, op'] [b, c] pos) (eChain g g' fa fb fc) := ⟨fun F => by
  obtain ⟨r, h1, h2⟩ := ho
  obtain ⟨r', h1', h2'⟩ := ho'
  exact pe_imp (pe_chain h1 h1' (ha.run F) (hb.run F) (hc.run F) hm) fun σ H Q h => tChain_of h2 h2' h⟩
def bBl (f : ES) : M Bool := M.bind f fun r => M.bind (val r) fun x => M.opt (isBl x)
def bAnd (ga gb : M Bool) : M Bool := M.bind ga fun k => match k with
  | true => gb
  | false => M.ret false
def bOr (ga gb : M Bool) : M Bool := M.bind ga fun k => match k with
  | true => M.ret true
  | false => gb
def bNot (ga : M Bool) : M Bool := M.bind ga fun k => M.ret (!k)
theorem dt_w (h : DW X a ga) : DT X a ga := ⟨fun F => (h.run F).pt⟩
theorem dw_and1 (ha : DT X a ga) : DW X (.BoolOp .And [a] pos) ga := ⟨fun F => pw_and1 (ha.run F)⟩
theorem dw_or1 (ha : DT X a ga) : DW X (.BoolOp .Or [a] pos) ga := ⟨fun F => pw_or1 (ha.run F)⟩
theorem dw_and (ha : DT X a ga) (hb : DW X (.BoolOp .And (b :: rest) pos) gb) : DW X (.BoolOp .And (a :: b :: rest) pos) (bAnd ga gb) := ⟨fun F => pw_imp (pw_and (ha.run F) (hb.run F)) fun σ H Q ⟨A, ρ, k, ρ', S, e, q⟩ => by
  obtain ⟨k1, ρ1, e1, e⟩ := bind_ok e
  refine ⟨A, ρ, k1, ρ1, S, e1, fun H1 S1 m1 => ?_⟩
  cases k1 with
  | true =>
    rw [if_pos rfl]
    exact ⟨A, ρ1, k, ρ', S1, e, fun H2 S2 m2 => q H2 S2 (m1.trans m2)⟩
  | false =>
    obtain ⟨rfl, rfl⟩ := ret_ok e
    rw [if_neg Bool.false_ne_true]
    exact q H1 S1 m1⟩
theorem dw_or (ha : DT X a ga) (hb : DW X (.BoolOp .Or (b :: rest) pos) gb) : DW X (.BoolOp .Or (a :: b :: rest) pos) (bOr ga gb) := ⟨fun F => pw_imp (pw_or (ha.run F) (hb.run F)) fun σ H Q ⟨A, ρ, k, ρ', S, e, q⟩ => by
  obtain ⟨k1, ρ1, e1, e⟩ := bind_ok e
  refine ⟨A, ρ, k1, ρ1, S, e1, fun H1 S1 m1 => ?_⟩
  cases k1 with
  | false =>
    rw [if_neg Bool.false_ne_true]
    exact ⟨A, ρ1, k, ρ', S1, e, fun H2 S2 m2 => q H2 S2 (m1.trans m2)⟩
  | true =>
    obtain ⟨rfl, rfl⟩ := ret_ok e
    rw [if_pos rfl]
    exact q H1 S1 m1⟩
theorem dt_not (ha : DT X a ga) : DT X (.UnaryOp .Not a pos) (bNot ga) := ⟨fun F => pt_imp (pt_not (ha.run F)) fun σ H Q ⟨A, ρ, k, ρ', S, e, q⟩ => by
  obtain ⟨k1, ρ1, e1, e⟩ := bind_ok e
  obtain ⟨rfl, rfl⟩ := ret_ok e
  exact ⟨A, ρ, k1, ρ1, S, e1, fun H1 S1 m1 => q H1 S1 m1⟩⟩
def eAnd (fa fb : ES) : ES := M.bind fa fun ra => M.bind (val ra) fun x => M.bind (M.opt (truth x)) fun k => match k with
  | true => fb
  | false => M.ret ra
def eOr (fa fb : ES) : ES := M.bind fa fun ra => M.bind (val ra) fun x => M.bind (M.opt (truth x)) fun k => match k with
  | true => M.ret ra
  | false => fb
def eNot (fa : ES) : ES := M.bind fa fun ra => M.bind (val ra) fun x => M.bind (M.opt (truth x)) fun k => M.ret (.im (.bl (!k)))
theorem de_one {op} (h : DE X a fa) : DE X (.BoolOp op [a] pos) fa := ⟨fun F => pe_one (h.run F)⟩
theorem de_and (ha : DE X a fa) (hb : DE X (.BoolOp .And (b :: rest) pos) fb) : DE X (.BoolOp .And (a :: b :: rest) pos) (eAnd fa fb) := ⟨fun F => pe_imp (pe_andT (ha.run F) (hb.run F)) fun σ H Q ⟨A, ρ, r, ρ', S, e, q⟩ => by
  obtain ⟨ra, ρ1, e1, e⟩ := bind_ok e
  obtain ⟨x, ρ2, e2, e⟩ := bind_ok e
  obtain ⟨l2, rfl⟩ := val_ok e2
  obtain ⟨k, ρ3, e3, e⟩ := bind_ok e
  obtain ⟨l3, rfl⟩ := opt_ok e3
  refine ⟨A, ρ, ra, _, S, e1, fun v H1 S1 m1 r1 => ⟨k, tru_of (look_rt S1 r1 l2) l3, ?_⟩⟩
  cases k with
  | true =>
    rw [if_pos rfl]
    exact ⟨A, _, r, ρ', S1, e, fun v2 H2 S2 m2 r2 => q v2 H2 S2 (m1.trans m2) r2⟩
  | false =>
    obtain ⟨rfl, rfl⟩ := ret_ok e
    rw [if_neg Bool.false_ne_true]
    exact q v H1 S1 m1 r1⟩
theorem de_not (ha : DE X a fa) : DE X (.UnaryOp .Not a pos) (eNot fa) := ⟨fun F => pe_imp (pe_notT (ha.run F)) fun σ H Q ⟨A, ρ, r, ρ', S, e, q⟩ => by
  obtain ⟨ra, ρ1, e1, e⟩ := bind_ok e
  obtain ⟨x, ρ2, e2, e⟩ := bind_ok e
  obtain ⟨l2, rfl⟩ := val_ok e2
  obtain ⟨k, ρ3, e3, e⟩ := bind_ok e
  obtain ⟨l3, rfl⟩ := opt_ok e3
  obtain ⟨rfl, rfl⟩ := ret_ok e
  exact ⟨A, ρ, ra, _, S, e1, fun v H1 S1 m1 r1 => ⟨k, tru_of (look_rt S1 r1 l2) l3, q _ H1 S1 m1 (.bl _)⟩⟩⟩
def eIf (gc : M Bool) (fa fb : ES) : ES := M.bind gc fun k => match k with
  | true => fa
  | false => fb
theorem de_if {gc : M Bool} (hc : DT X c gc) (ha : DE X a fa) (hb : DE X b fb) : DE X (.IfExp c a b pos) (eIf gc fa fb) := ⟨fun F => pe_imp (pe_ifExp (hc.run F) (ha.run F) (hb.run F)) fun σ H Q ⟨A, ρ, r, ρ', S, e, q⟩ => by
  obtain ⟨k, ρ1, e1, e⟩ := bind_ok e
  refine ⟨A, ρ, k, ρ1, S, e1, fun H1 S1 m1 => ?_⟩
  cases k with
  | true =>
    rw [if_pos rfl]
    exact ⟨A, ρ1, r, ρ', S1, e, fun v2 H2 S2 m2 r2 => q v2 H2 S2 (m1.trans m2) r2⟩
  | false =>
    rw [if_neg Bool.false_ne_true]
    exact ⟨A, ρ1, r, ρ', S1, e, fun v2 H2 S2 m2 r2 => q v2 H2 S2 (m1.trans m2) r2⟩⟩
def aNil : M (List RV) := M.ret []
def aCons (fa : ES) (fs : M (List RV)) : M (List RV) := M.bind fa fun r => M.bind fs fun rs => M.ret (r :: rs)
theorem da_nil : DA X [] aNil := ⟨fun F => pa_imp pa_nil fun σ H Q ⟨A, ρ, r, ρ', S, e, q⟩ => by
  obtain ⟨rfl, rfl⟩ := ret_ok e
  exact q [] H S (Stp.refl _ _) .nil⟩
theorem da_cons (ha : DE X a fa) (hr : DA X es fs) (hs : starEach (a :: es) X.env = (false, eval a X.env) :: starEach es X.env := by rfl) : DA X (a :: es) (aCons fa fs) := ⟨fun F => pa_imp (pa_cons (ha.run F) (hr.run F) hs) fun σ H Q ⟨A, ρ, r, ρ', S, e, q⟩ => by
  obtain ⟨r1, ρ1, e1, e⟩ := bind_ok e
  obtain ⟨rs, ρ2, e2, e⟩ := bind_ok e
  obtain ⟨rfl, rfl⟩ := ret_ok e
  exact ⟨A, ρ, r1, ρ1, S, e1, fun v H1 S1 m1 q1 => ⟨A, ρ1, rs, _, S1, e2, fun vs H2 S2 m2 q2 => q _ H2 S2 (m1.trans m2) (.cons (q1.same m2.hid) q2)⟩⟩⟩
def imms : List RV → Option (List D)
  | [] => some []
  | .im d :: rs => match imms rs with
    | some ds => some (d :: ds)
    | none => none
  | .al _ :: _ => none
theorem imms_rd {G : Gp} {F : Fm} {A : Own} {H : Hp} : ∀ {vs : List V} {rs : List RV} {ds : List D}, RRs G F A H vs rs → imms rs = some ds → RDs G (hid (zs F A) H) vs ds
  | _, _, _, .nil, e => by cases e; exact .nil
  | _, _, ds, .cons (r := .im d) (rs := rs) a b, e => by
    simp only [imms] at e
    split at e
    · rename_i xs q
      cases e
      exact .cons a (imms_rd b q)
    · cases e
  | _, _, _, .cons (r := .al i) a b, e => by cases e
def few (xs : List D) : Option (List D) := if xs.length ≤ 1000000 then some xs else none
theorem few_ok {xs ys : List D} (h : few xs = some ys) : xs = ys ∧ xs.length ≤ sizeLine := by
  unfold few at h
  by_cases z : xs.length ≤ 1000000
  · rw [if_pos z] at h; cases h; exact ⟨rfl, len_line z⟩
  · rw [if_neg z] at h; cases h
def eTup (fs : M (List RV)) : ES := M.bind fs fun rs => M.bind (M.opt (imms rs)) fun ds => M.bind (M.opt (few ds)) fun ds => M.ret (.im (.tup ds))
theorem de_tup {k} (h : DA X es fs) : DE X (.Tuple es k pos) (eTup fs) := ⟨fun F => pe_imp (pe_tupF (h.run F)) fun σ H Q ⟨A, ρ, r, ρ', S, e, q⟩ => by
  obtain ⟨rs, ρ1, e1, e⟩ := bind_ok e
  obtain ⟨ds, ρ2, e2, e⟩ := bind_ok e
  obtain ⟨l2, rfl⟩ := opt_ok e2
  obtain ⟨ds', ρ3, e3, e⟩ := bind_ok e
  obtain ⟨l3, rfl⟩ := opt_ok e3
  obtain ⟨rfl, l4⟩ := few_ok l3
  obtain ⟨rfl, rfl⟩ := ret_ok e
  refine ⟨A, ρ, rs, _, S, e1, fun vs H1 S1 m1 q1 => ?_⟩
  have rd := imms_rd q1 l2
  refine ⟨by rw [rd.len]; exact l4, fun p its hp => ?_⟩
  have sm := Same.of_new (o := tHO its vs) hp
  exact q _ _ (S1.same sm) (m1.trans (Stp.of sm)) (.tup (.inl ⟨_, hid_new S1.zall hp, rfl⟩) (rd.mono (Same.hid sm)))⟩
theorem Sts.hideN {G : Gp} {F : Fm} {A : Own} {σ : St} {ρ : Rho} {H H' : Hp} {p : Addr} (S : Sts G F A σ ρ H) (hp : H p = none) (sm : SameN H H') (tt : LamX.Tabs Tbl.T H') (h' : H' p ≠ none) : Sts G (F.hide p) A σ ρ H' := by
  have key : Same (hid (zs F A) H) (hid (zs (F.hide p) A) H') := fun a o e => by
    obtain ⟨e1, e2, e3⟩ := hid_all e
    refine hid_of (fun z => ?_) (sm.at e2 e3) e3
    rcases mem_zs.mp z with z | z
    · rcases List.mem_cons.mp z with rfl | z
      · rw [hp] at e2; cases e2
      · exact e1 (mem_zs.mpr (.inl z))
    · exact e1 (mem_zs.mpr (.inr z))
  have ow : ∀ {i a xs}, OwAt G F A σ H i a xs → OwAt G (F.hide p) A σ H' i a xs := fun h => ⟨h.1, h.2.move (fun _ z t => sm.at z t) key⟩
  refine ⟨S.len, fun i d h => ?_, fun i xs h => ?_, fun i xs h => ?_, S.own, S.uni, S.bor, fun a o h1 h2 => sm _ _ (S.keep a o h1 h2), fun a h => ?_, tt⟩
  · obtain ⟨v, h1, h2⟩ := S.im i d h
    exact ⟨v, h1, h2.mono key⟩
  · obtain ⟨a, h1, h2, h3, h4⟩ := S.ow i xs h
    refine ⟨a, h1, fun z => ?_, h3, ow h4⟩
    rcases List.mem_cons.mp z with rfl | z
    · obtain ⟨o, q, _⟩ := h4.2.there
      rw [hp] at q; cases q
    · exact h2 z
  · obtain ⟨a, h1, h2, h3⟩ := S.bo i xs h
    exact ⟨a, h1, h2, ow h3⟩
  · rcases List.mem_cons.mp h with rfl | h
    · exact h'
    · exact sm.there (S.zok a h)
theorem Sts.hide {G : Gp} {F : Fm} {A : Own} {σ : St} {ρ : Rho} {H H' : Hp} {p : Addr} (S : Sts G F A σ ρ H) (hp : H p = none) (sm : Same H H') (h' : H' p ≠ none) : Sts G (F.hide p) A σ ρ H' := S.hideN hp (.of sm) (S.tabs.ext sm) h'
theorem hide_same {F : Fm} {A : Own} {H H' : Hp} {p : Addr} (hp : H p = none) (sm : Same H H') : Same (hid (zs F A) H) (hid (zs (F.hide p) A) H') := fun a o e => by
  obtain ⟨e1, e2, e3⟩ := hid_all e
  refine hid_of (fun z => ?_) (sm _ _ e2) e3
  rcases mem_zs.mp z with z | z
  · rcases List.mem_cons.mp z with rfl | z
    · rw [hp] at e2; cases e2
    · exact e1 (mem_zs.mpr (.inl z))
  · exact e1 (mem_zs.mpr (.inr z))
theorem Sts.h0 {G : Gp} {F : Fm} {A : Own} {σ : St} {ρ : Rho} {H : Hp} {p : Addr} (S : Sts G F A σ ρ H) (hp : H p = none) : F.H0 p = none := by
  cases e : nt F.H0 p with
  | none => exact nt_none.mp e
  | some o =>
    by_cases z : ∃ i, (i, p) ∈ F.B
    · obtain ⟨i, z⟩ := z
      obtain ⟨z1, xs, z2⟩ := S.bor i p z
      obtain ⟨a, h1, h2, h3, vs, h4, _⟩ := S.bo i xs z2
      rw [(S.uni i i p a z1 h1).mp rfl, h4] at hp
      cases hp
    · rw [← nt_none, S.keep p o e fun i q => z ⟨i, q⟩] at hp; cases hp
theorem back_none {G : Gp} {F : Fm} {A : Own} {σ : St} {ρ ρ' : Rho} {H H1 : Hp} {p : Addr} (S : Sts G F A σ ρ H) (m : Stp A H H1) (S1 : Sts G F A σ ρ' H1) (hp : H1 p = none) : H p = none := by
  cases e : nt H p with
  | none => exact nt_none.mp e
  | some o =>
    by_cases z : ∃ i, (i, p) ∈ A
    · obtain ⟨i, z⟩ := z
      exact absurd hp (S1.zall p (mem_zs.mpr (.inr ⟨i, z⟩)))
    · rw [← nt_none, m p o e fun i q => z ⟨i, q⟩] at hp; cases hp
theorem fresh_list {G : Gp} {F : Fm} {A : Own} {σ : St} {ρ' : Rho} {H H1 : Hp} {Q : VK} {vs : List V} {ds : List D} {p : Addr} (S1 : Sts G F A σ ρ' H1) (m1 : Stp A H H1) (rd : RDs G (hid (zs F A) H1) vs ds) (hp : H1 p = none) (h00 : H p = none)
    (q : ∀ p vs H', Sts G (F.hide p) A σ ρ' H' → F.H0 p = none → p ∉ zs F A → Stp A H H' → H p = none → H' p = some (.lst vs) → RDs G (hid (zs (F.hide p) A) H') vs ds → Q (.ref p) H') : Q (.ref p) (upd H1 p (.lst vs)) := by
  have sm := Same.of_new (o := .lst vs) hp
  have ks := hide_same (F := F) (A := A) hp sm
  exact q p vs _ (S1.hide hp sm (by rw [upd_same]; exact fun z => nomatch z)) (S1.h0 hp) (S1.zall.out hp) (m1.trans (Stp.of sm)) h00 upd_same (rd.mono ks)
def nLst (fs : M (List RV)) : M (List D) := M.bind fs fun rs => M.bind (M.opt (imms rs)) fun ds => M.opt (few ds)
theorem dn_lst (h : DA X es fs) : DN X (.List es pos) (nLst fs) := ⟨fun F => pe_imp (pe_lst (h.run F)) fun σ H Q ⟨A, ρ, r, ρ', S, e, q⟩ => by
  obtain ⟨rs, ρ1, e1, e⟩ := bind_ok e
  obtain ⟨ds, ρ2, e2, e⟩ := bind_ok e
  obtain ⟨l2, rfl⟩ := opt_ok e2
  obtain ⟨l3, rfl⟩ := opt_ok e
  obtain ⟨rfl, l4⟩ := few_ok l3
  refine ⟨A, ρ, rs, _, S, e1, fun vs H1 S1 m1 q1 => ?_⟩
  have rd := imms_rd q1 l2
  exact ⟨by rw [rd.len]; exact l4, fun p hp => fresh_list S1 m1 rd hp (back_none S m1 S1 hp) q⟩⟩
theorem Sts.show {G : Gp} {F : Fm} {A : Own} {σ : St} {ρ : Rho} {H : Hp} {p : Addr} (S : Sts G (F.hide p) A σ ρ H) : Sts G F A σ ρ H := by
  have key : Same (hid (zs (F.hide p) A) H) (hid (zs F A) H) := hid_less fun a h => by
    rcases mem_zs.mp h with h | h
    · exact mem_zs.mpr (.inl (List.mem_cons_of_mem _ h))
    · exact mem_zs.mpr (.inr h)
  have ow : ∀ {i a xs}, OwAt G (F.hide p) A σ H i a xs → OwAt G F A σ H i a xs := fun h => ⟨h.1, h.2.move (fun _ z _ => z) key⟩
  refine ⟨S.len, fun i d h => ?_, fun i xs h => ?_, fun i xs h => ?_, S.own, S.uni, S.bor, S.keep, fun a h => S.zok a (List.mem_cons_of_mem _ h), S.tabs⟩
  · obtain ⟨v, h1, h2⟩ := S.im i d h
    exact ⟨v, h1, h2.mono key⟩
  · obtain ⟨a, h1, h2, h3, h4⟩ := S.ow i xs h
    exact ⟨a, h1, fun z => h2 (List.mem_cons_of_mem _ z), h3, ow h4⟩
  · obtain ⟨a, h1, h2, h3⟩ := S.bo i xs h
    exact ⟨a, h1, h2, ow h3⟩
theorem show_same {F : Fm} {A : Own} {H : Hp} {p : Addr} : Same (hid (zs (F.hide p) A) H) (hid (zs F A) H) := hid_less fun a h => by
  rcases mem_zs.mp h with h | h
  · exact mem_zs.mpr (.inl (List.mem_cons_of_mem _ h))
  · exact mem_zs.mpr (.inr h)
def eN (f : M (List D)) : ES := M.bind f fun xs => M.ret (.im (.lst xs))
theorem de_n {f : M (List D)} (h : DN X a f) : DE X a (eN f) := ⟨fun F => pe_imp (h.run F) fun σ H Q ⟨A, ρ, r, ρ', S, e, q⟩ => by
  obtain ⟨xs, ρ1, e1, e⟩ := bind_ok e
  obtain ⟨rfl, rfl⟩ := ret_ok e
  exact ⟨A, ρ, xs, _, S, e1, fun p vs H' S' h0 hz m _ hp rd => q _ H' S'.show m (.lst (SqL.of (hid_of hz hp)) (rd.mono show_same))⟩⟩
def looks (ρ : Rho) : List RV → Option (List D)
  | [] => some []
  | r :: rs => match look ρ r, looks ρ rs with
    | some d, some ds => some (d :: ds)
    | _, _ => none
def vals (rs : List RV) : M (List D) := fun ρ => match looks ρ rs with
  | some ds => .ok ds ρ
  | none => .no
theorem vals_ok {r : List RV} {ρ ρ' : Rho} {d : List D} (h : vals r ρ = .ok d ρ') : looks ρ r = some d ∧ ρ = ρ' := by
  unfold vals at h
  cases e : looks ρ r with
  | none => rw [e] at h; cases h
  | some x => rw [e] at h; cases h; exact ⟨rfl, rfl⟩
theorem looks_rt {G : Gp} {F : Fm} {A : Own} {σ : St} {ρ : Rho} {H : Hp} (S : Sts G F A σ ρ H) : ∀ {vs : List V} {rs : List RV} {ds : List D}, RRs G F A H vs rs → looks ρ rs = some ds → RTs G (zs F A) H vs ds
  | _, _, _, .nil, e => by cases e; exact .nil
  | _, _, ds, .cons a b, e => by
    simp only [looks] at e
    split at e
    · rename_i d xs q1 q2
      cases e
      exact .cons (look_rt S a q1) (looks_rt S b q2)
    · cases e
def eCall (g : List D → Option D) (fs : M (List RV)) : ES := M.bind fs fun rs => M.bind (vals rs) fun ds => M.bind (M.opt (g ds)) fun d => M.ret (.im d)
theorem tCB_of {G : Gp} {F : Fm} {r : List V → Hp → VK → Prop} {g : List D → Option D} {σ : St} {H : Hp} {Q : VK} (h2 : ∀ (Z : List Addr) (H : Hp) (xs : List V) (ds : List D) (d : D) (Q : VK), ZOk Z H → RTs G Z H xs ds → g ds = some d →
    (∀ v H', Same H H' → RD G (hid Z H') v d → Q v H') → r xs H Q) (h : tD G F (eCall g fs) σ H Q) : tCB r (tDs G F fs) σ H Q := by
  obtain ⟨A, ρ, rr, ρ', S, e, q⟩ := h
  obtain ⟨rs, ρ1, e1, e⟩ := bind_ok e
  obtain ⟨ds, ρ2, e2, e⟩ := bind_ok e
  obtain ⟨l2, rfl⟩ := vals_ok e2
  obtain ⟨d, ρ3, e3, e⟩ := bind_ok e
  obtain ⟨l3, rfl⟩ := opt_ok e3
  obtain ⟨rfl, rfl⟩ := ret_ok e
  refine ⟨A, ρ, rs, _, S, e1, fun vs H1 S1 m1 r1 => ?_⟩
  exact h2 (zs F A) H1 vs ds d Q S1.zall (looks_rt S1 r1 l2) l3 fun v H' sm rd => q v H' (S1.same sm) (m1.trans (Stp.of sm)) rd
variable {x : Str} {id T : String} {p : Pos} {g : List D → Option D}
theorem de_callB (hc : CallD X (.builtin id) g) (hg : Gl X x) (hm : X.mg x = none) (hv : bootBuiltins x = some (.builtin id)) (ha : DA X (a :: es) fs) (hn : x ≠ "__name__" := by decide) (hdb : (x == ("__debug__" : Str)) = false := by decide)
    (he : starEach (a :: es) X.env = (false, eval a X.env) :: starEach es X.env := by rfl) (hpl : (backTo pos (starEach es X.env)).any (·.1) = false := by rfl) : DE X (.Call (.Name x p) (a :: es) [] pos) (eCall g fs) := ⟨fun F => by
  obtain ⟨r, h1, h2⟩ := hc
  exact pe_imp (pe_callB h1 hg hm hv (ha.run F) hn hdb he hpl) fun σ H Q h => tCB_of h2 h⟩
theorem de_callTy (hc : CallD X (.type T) g) (hg : Gl X x) (hm : X.mg x = none) (hv : bootBuiltins x = some (.type T)) (ha : DA X (a :: es) fs) (hn : x ≠ "__name__" := by decide) (hdb : (x == ("__debug__" : Str)) = false := by decide)
    (he : starEach (a :: es) X.env = (false, eval a X.env) :: starEach es X.env := by rfl) (hpl : (backTo pos (starEach es X.env)).any (·.1) = false := by rfl) : DE X (.Call (.Name x p) (a :: es) [] pos) (eCall g fs) := ⟨fun F => by
  obtain ⟨r, h1, h2⟩ := hc
  exact pe_imp (pe_callTy h1 hg hm hv (ha.run F) hn hdb he hpl) fun σ H Q h => tCB_of h2 h⟩
def CallN (X : Cx) (f : Value) (g : List D → Option (List D)) : Prop := ∃ r, CallR X f r ∧ ∀ (Z : List Addr) (H : Hp) (xs : List V) (ds es : List D) (Q : VK), ZOk Z H → RTs (Gx X) Z H xs ds → g ds = some es →
  (∀ p vs, H p = none → RDs (Gx X) (hid Z H) vs es → Q (.ref p) (upd H p (.lst vs))) → r xs H Q
def nCall (g : List D → Option (List D)) (fs : M (List RV)) : M (List D) := M.bind fs fun rs => M.bind (vals rs) fun ds => M.opt (g ds)
theorem tCN_of {G : Gp} {F : Fm} {r : List V → Hp → VK → Prop} {g : List D → Option (List D)} {σ : St} {H : Hp} {Q : VK} (h2 : ∀ (Z : List Addr) (H : Hp) (xs : List V) (ds es : List D) (Q : VK), ZOk Z H → RTs G Z H xs ds → g ds = some es →
    (∀ p vs, H p = none → RDs G (hid Z H) vs es → Q (.ref p) (upd H p (.lst vs))) → r xs H Q) (h : tN G F (nCall g fs) σ H Q) : tCB r (tDs G F fs) σ H Q := by
  obtain ⟨A, ρ, rr, ρ', S, e, q⟩ := h
  obtain ⟨rs, ρ1, e1, e⟩ := bind_ok e
  obtain ⟨ds, ρ2, e2, e⟩ := bind_ok e
  obtain ⟨l2, rfl⟩ := vals_ok e2
  obtain ⟨l3, rfl⟩ := opt_ok e
  refine ⟨A, ρ, rs, _, S, e1, fun vs H1 S1 m1 r1 => ?_⟩
  exact h2 (zs F A) H1 vs ds rr Q S1.zall (looks_rt S1 r1 l2) l3 fun p vs hp rd => fresh_list S1 m1 rd hp (back_none S m1 S1 hp) q
variable {gn : List D → Option (List D)}
theorem dn_callB (hc : CallN X (.builtin id) gn) (hg : Gl X x) (hm : X.mg x = none) (hv : bootBuiltins x = some (.builtin id)) (ha : DA X (a :: es) fs) (hn : x ≠ "__name__" := by decide) (hdb : (x == ("__debug__" : Str)) = false := by decide)
    (he : starEach (a :: es) X.env = (false, eval a X.env) :: starEach es X.env := by rfl) (hpl : (backTo pos (starEach es X.env)).any (·.1) = false := by rfl) : DN X (.Call (.Name x p) (a :: es) [] pos) (nCall gn fs) := ⟨fun F => by
  obtain ⟨r, h1, h2⟩ := hc
  exact pe_imp (pe_callB h1 hg hm hv (ha.run F) hn hdb he hpl) fun σ H Q h => tCN_of h2 h⟩
end
end Dv
namespace Dv
open PySem PySem.Spec PyProof.Rows L2
variable [Tbl]
def drop1 (A : Own) (i : Nat) : Own := A.filter fun p => p.1 ≠ i
theorem mem_drop1 {A : Own} {i j : Nat} {a : Addr} : (j, a) ∈ drop1 A i ↔ (j, a) ∈ A ∧ j ≠ i := by
  unfold drop1
  rw [List.mem_filter]
  simp
theorem zs_drop1 {F : Fm} {A : Own} {i : Nat} : ∀ a ∈ zs F (drop1 A i), a ∈ zs F A := fun a h => by
  rcases mem_zs.mp h with h | ⟨j, h⟩
  · exact mem_zs.mpr (.inl h)
  · exact mem_zs.mpr (.inr ⟨j, (mem_drop1.mp h).1⟩)
def setIm (i : Nat) (d : D) : M Unit := fun ρ => match ρ[i]? with
  | some (some (.bo _)) => .no
  | some _ => .ok () (ρ.set i (some (.im d)))
  | none => .no
theorem setIm_ok {i : Nat} {d : D} {ρ ρ' : Rho} {u : Unit} (h : setIm i d ρ = .ok u ρ') : i < ρ.length ∧ (∀ xs, ρ[i]? ≠ some (some (.bo xs))) ∧ ρ' = ρ.set i (some (.im d)) := by
  unfold setIm at h
  split at h
  · cases h
  · rename_i x q1 q2
    cases h
    refine ⟨?_, fun xs z => ?_, rfl⟩
    · by_cases z : i < ρ.length
      · exact z
      · rw [List.getElem?_eq_none (by omega)] at q2; cases q2
    · exact q1 xs (Option.some.inj (q2.symm.trans z))
  · cases h
theorem Sts.set {G : Gp} {F : Fm} {A : Own} {σ : St} {ρ ρ' : Rho} {H : Hp} {i : Nat} {d : D} {v : V} {u : Unit} (S : Sts G F A σ ρ H) (h : setIm i d ρ = .ok u ρ') (r : RD G (hid (zs F A) H) v d) :
    Sts G F (drop1 A i) (σ.set i (some v)) ρ' H ∧ Same (hid (zs F A) H) (hid (zs F (drop1 A i)) H) := by
  obtain ⟨hi, hb, rfl⟩ := setIm_ok h
  have key : Same (hid (zs F A) H) (hid (zs F (drop1 A i)) H) := hid_less zs_drop1
  have hs : i < σ.length := by rw [S.len]; exact hi
  have ow : ∀ {j a xs}, j ≠ i → OwAt G F A σ H j a xs → OwAt G F (drop1 A i) (σ.set i (some v)) H j a xs := fun {j a xs} hj h => ⟨by rw [List.getElem?_set_ne (Ne.symm hj)]; exact h.1, h.2.move (fun _ z _ => z) key⟩
  refine ⟨⟨by rw [List.length_set, List.length_set]; exact S.len, fun j e hj => ?_, fun j xs hj => ?_, fun j xs hj => ?_, fun j a hj => ?_, fun j k a b h1 h2 => S.uni j k a b (mem_drop1.mp h1).1 (mem_drop1.mp h2).1, fun j a hj => ?_, S.keep, S.zok, S.tabs⟩, key⟩
  · by_cases z : j = i
    · subst z
      rw [List.getElem?_set_self hi] at hj
      cases hj
      exact ⟨v, by rw [List.getElem?_set_self hs], r.mono key⟩
    · rw [List.getElem?_set_ne (Ne.symm z)] at hj
      obtain ⟨w, h1, h2⟩ := S.im j e hj
      exact ⟨w, by rw [List.getElem?_set_ne (Ne.symm z)]; exact h1, h2.mono key⟩
  · by_cases z : j = i
    · subst z
      rw [List.getElem?_set_self hi] at hj
      cases hj
    · rw [List.getElem?_set_ne (Ne.symm z)] at hj
      obtain ⟨a, h1, h2, h3, h4⟩ := S.ow j xs hj
      exact ⟨a, mem_drop1.mpr ⟨h1, z⟩, h2, h3, ow z h4⟩
  · by_cases z : j = i
    · subst z
      rw [List.getElem?_set_self hi] at hj
      cases hj
    · rw [List.getElem?_set_ne (Ne.symm z)] at hj
      obtain ⟨a, h1, h2, h3⟩ := S.bo j xs hj
      exact ⟨a, mem_drop1.mpr ⟨h1, z⟩, h2, ow z h3⟩
  · obtain ⟨h1, z⟩ := mem_drop1.mp hj
    rw [List.getElem?_set_ne (Ne.symm z)]
    exact S.own j a h1
  · obtain ⟨h1, xs, h2⟩ := S.bor j a hj
    have z : j ≠ i := fun z => hb xs (z ▸ h2)
    exact ⟨mem_drop1.mpr ⟨h1, z⟩, xs, by rw [List.getElem?_set_ne (Ne.symm z)]; exact h2⟩
def setOw (i : Nat) (xs : List D) : M Unit := fun ρ => match ρ[i]? with
  | some (some (.bo _)) => .no
  | some _ => .ok () (ρ.set i (some (.ow xs)))
  | none => .no
theorem setOw_ok {i : Nat} {d : List D} {ρ ρ' : Rho} {u : Unit} (h : setOw i d ρ = .ok u ρ') : i < ρ.length ∧ (∀ xs, ρ[i]? ≠ some (some (.bo xs))) ∧ ρ' = ρ.set i (some (.ow d)) := by
  unfold setOw at h
  split at h
  · cases h
  · rename_i x q1 q2
    cases h
    refine ⟨?_, fun xs z => ?_, rfl⟩
    · by_cases z : i < ρ.length
      · exact z
      · rw [List.getElem?_eq_none (by omega)] at q2; cases q2
    · exact q1 xs (Option.some.inj (q2.symm.trans z))
  · cases h
theorem Sts.setD {G : Gp} {F : Fm} {A : Own} {σ : St} {ρ : Rho} {H : Hp} {i : Nat} {d : D} {p : Addr} (S : Sts G (F.hide p) A σ ρ H) (h0 : F.H0 p = none) (hz : p ∉ zs F A) (hc : OwC G H (hid (zs (F.hide p) A) H) p d) (hi : i < ρ.length) (hb : ∀ xs, ρ[i]? ≠ some (some (.bo xs))) :
    Sts G F ((i, p) :: drop1 A i) (σ.set i (some (.ref p))) (ρ.set i (some (.owd d))) H ∧ Same (hid (zs (F.hide p) A) H) (hid (zs F ((i, p) :: drop1 A i)) H) := by
  have key : Same (hid (zs (F.hide p) A) H) (hid (zs F ((i, p) :: drop1 A i)) H) := hid_less fun a h => by
    rcases mem_zs.mp h with h | ⟨j, h⟩
    · exact mem_zs.mpr (.inl (List.mem_cons_of_mem _ h))
    · rcases List.mem_cons.mp h with h | h
      · cases h; exact mem_zs.mpr (.inl List.mem_cons_self)
      · exact mem_zs.mpr (.inr ⟨j, (mem_drop1.mp h).1⟩)
  have hs : i < σ.length := by rw [S.len]; exact hi
  have np : ∀ j a, (j, a) ∈ A → a ≠ p := fun j a h z => hz (mem_zs.mpr (.inr ⟨j, z ▸ h⟩))
  have ow : ∀ {j a ys}, j ≠ i → OwAt G (F.hide p) A σ H j a ys → OwAt G F ((i, p) :: drop1 A i) (σ.set i (some (.ref p))) H j a ys := fun {j a ys} hj h => ⟨by rw [List.getElem?_set_ne (Ne.symm hj)]; exact h.1, h.2.move (fun _ z _ => z) key⟩
  refine ⟨⟨by rw [List.length_set, List.length_set]; exact S.len, fun j e hj => ?_, fun j ys hj => ?_, fun j ys hj => ?_, fun j a hj => ?_, fun j k a b h1 h2 => ?_, fun j a hj => ?_, S.keep, fun a h => S.zok a (List.mem_cons_of_mem _ h), S.tabs⟩, key⟩
  · by_cases z : j = i
    · subst z
      rw [List.getElem?_set_self hi] at hj
      cases hj
    · rw [List.getElem?_set_ne (Ne.symm z)] at hj
      obtain ⟨w, h1, h2⟩ := S.im j e hj
      exact ⟨w, by rw [List.getElem?_set_ne (Ne.symm z)]; exact h1, h2.mono key⟩
  · by_cases z : j = i
    · subst z
      rw [List.getElem?_set_self hi] at hj
      cases hj
      exact ⟨p, List.mem_cons_self, fun z => hz (mem_zs.mpr (.inl z)), h0, by rw [List.getElem?_set_self hs], hc.move (fun _ z _ => z) key⟩
    · rw [List.getElem?_set_ne (Ne.symm z)] at hj
      obtain ⟨a, h1, h2, h3, h4⟩ := S.ow j ys hj
      exact ⟨a, List.mem_cons_of_mem _ (mem_drop1.mpr ⟨h1, z⟩), fun y => h2 (List.mem_cons_of_mem _ y), h3, ow z h4⟩
  · by_cases z : j = i
    · subst z
      rw [List.getElem?_set_self hi] at hj
      cases hj
    · rw [List.getElem?_set_ne (Ne.symm z)] at hj
      obtain ⟨a, h1, h2, h3⟩ := S.bo j ys hj
      exact ⟨a, List.mem_cons_of_mem _ (mem_drop1.mpr ⟨h1, z⟩), h2, ow z h3⟩
  · rcases List.mem_cons.mp hj with hj | hj
    · cases hj
      exact ⟨d, .inl (List.getElem?_set_self hi)⟩
    · obtain ⟨h1, z⟩ := mem_drop1.mp hj
      rw [List.getElem?_set_ne (Ne.symm z)]
      exact S.own j a h1
  · rcases List.mem_cons.mp h1 with e1 | h1
    · cases e1
      rcases List.mem_cons.mp h2 with e2 | h2
      · cases e2; simp
      · obtain ⟨g1, g2⟩ := mem_drop1.mp h2
        exact ⟨fun z => absurd z.symm g2, fun z => absurd z.symm (np k b g1)⟩
    · obtain ⟨g1, g2⟩ := mem_drop1.mp h1
      rcases List.mem_cons.mp h2 with e2 | h2
      · cases e2
        exact ⟨fun z => absurd z g2, fun z => absurd z (np j a g1)⟩
      · exact S.uni j k a b g1 (mem_drop1.mp h2).1
  · obtain ⟨h1, ys, h2⟩ := S.bor j a hj
    have z : j ≠ i := fun z => hb ys (z ▸ h2)
    exact ⟨List.mem_cons_of_mem _ (mem_drop1.mpr ⟨h1, z⟩), ys, by rw [List.getElem?_set_ne (Ne.symm z)]; exact h2⟩
theorem Sts.setN {G : Gp} {F : Fm} {A : Own} {σ : St} {ρ ρ' : Rho} {H : Hp} {i : Nat} {xs : List D} {vs : List V} {p : Addr} {u : Unit} (S : Sts G (F.hide p) A σ ρ H) (h0 : F.H0 p = none) (hz : p ∉ zs F A) (hp : H p = some (.lst vs)) (r : RDs G (hid (zs (F.hide p) A) H) vs xs) (h : setOw i xs ρ = .ok u ρ') :
    Sts G F ((i, p) :: drop1 A i) (σ.set i (some (.ref p))) ρ' H ∧ Same (hid (zs (F.hide p) A) H) (hid (zs F ((i, p) :: drop1 A i)) H) := by
  obtain ⟨hi, hb, rfl⟩ := setOw_ok h
  exact S.setD (d := .lst xs) h0 hz ⟨vs, hp, r⟩ hi hb
inductive IV where
  | im (d : D)
  | tw (ds : List D)
def RI (G : Gp) (Z : List Addr) (H : Hp) (v : V) : IV → Prop
  | .im d => RD G (hid Z H) v d
  | .tw ds => ∃ a vs, v = .ref a ∧ SqT G.K H a vs ∧ RDs G (hid Z H) vs ds
def dropL (A : Own) (sl : List Nat) : Own := sl.foldl drop1 A
theorem mem_dropL : ∀ {sl : List Nat} {A : Own} {j : Nat} {a : Addr}, (j, a) ∈ dropL A sl ↔ (j, a) ∈ A ∧ j ∉ sl
  | [], A, j, a => by simp [dropL]
  | i :: sl, A, j, a => by
    show (j, a) ∈ dropL (drop1 A i) sl ↔ _
    rw [mem_dropL, mem_drop1]
    simp [and_assoc]
def tG (G : Gp) (F : Fm) (sl : List Nat) (g : IV → M Unit) : TG := fun v σ H Q => ∃ A ρ d ρ', Sts G F A σ ρ H ∧ RI G (zs F A) H v d ∧ g d ρ = .ok () ρ' ∧
  ∀ σ', Sts G F (dropL A sl) σ' ρ' H → Same (hid (zs F A) H) (hid (zs F (dropL A sl)) H) → σ'.length = σ.length → (∀ j, j ∉ sl → σ'[j]? = σ[j]?) → Q σ' H
structure DG (X : Cx) (tg : Expr) (sl : List Nat) (g : IV → M Unit) : Prop where
  run : ∀ F, PG X tg (tG (Gx X) F sl g)
theorem pg_imp {X : Cx} {e : Expr} {t t' : TG} (h : PG X e t) (i : ∀ v σ H Q, t' v σ H Q → t v σ H Q) : PG X e t' := ⟨fun pins s σ H v u Q I r q => h.run pins s σ H v u Q I r (i v σ H Q q)⟩
def gSet (i : Nat) : IV → M Unit
  | .im d => setIm i d
  | .tw _ => fun _ => .no
theorem dg_name {X : Cx} {i : Nat} {e : Expr} (h : PG X e (gName i)) : DG X e [i] (gSet i) := ⟨fun F => pg_imp h fun v σ H Q ⟨A, ρ, d, ρ', S, r, e, q⟩ => by
  cases d with
  | tw ds => cases e
  | im d =>
    obtain ⟨S', m⟩ := S.set (v := v) e r
    exact q _ S' m (by rw [List.length_set]) fun j hj => by rw [List.getElem?_set_ne]; intro z; exact hj (by rw [z]; exact List.mem_cons_self)⟩
def tGs (G : Gp) (F : Fm) (sl : List Nat) (g : List D → M Unit) : TGs := fun vs σ H Q => ∃ A ρ ds ρ', Sts G F A σ ρ H ∧ RDs G (hid (zs F A) H) vs ds ∧ g ds ρ = .ok () ρ' ∧
  ∀ σ', Sts G F (dropL A sl) σ' ρ' H → Same (hid (zs F A) H) (hid (zs F (dropL A sl)) H) → σ'.length = σ.length → (∀ j, j ∉ sl → σ'[j]? = σ[j]?) → Q σ' H
structure DGs (X : Cx) (ts : List Expr) (sl : List Nat) (g : List D → M Unit) : Prop where
  run : ∀ F, PGs X ts (tGs (Gx X) F sl g)
theorem pgs_imp {X : Cx} {e : List Expr} {t t' : TGs} (h : PGs X e t) (i : ∀ v σ H Q, t' v σ H Q → t v σ H Q) : PGs X e t' := ⟨fun pins s σ H v u Q I r q => h.run pins s σ H v u Q I r (i v σ H Q q)⟩
def gsNil : List D → M Unit
  | [] => M.ret ()
  | _ => fun _ => .no
def gsCons (g : IV → M Unit) (gs : List D → M Unit) : List D → M Unit
  | d :: ds => M.bind (g (.im d)) fun _ => gs ds
  | [] => fun _ => .no
theorem dgs_nil {X : Cx} : DGs X [] [] gsNil := ⟨fun F => pgs_imp pgs_nil fun vs σ H Q ⟨A, ρ, ds, ρ', S, r, e, q⟩ => by
  cases r with
  | nil =>
    obtain ⟨_, rfl⟩ := ret_ok e
    exact ⟨rfl, q σ S (Same.refl _) rfl fun _ _ => rfl⟩
  | cons _ _ => cases e⟩
theorem dgs_cons {X : Cx} {e : Expr} {es : List Expr} {sl sl' : List Nat} {g : IV → M Unit} {gs : List D → M Unit} (h1 : DG X e sl g) (h2 : DGs X es sl' gs)
    (hs : (assignEach (e :: es) X.env).map (·.2) = assign e X.env :: (assignEach es X.env).map (·.2) := by rfl) : DGs X (e :: es) (sl ++ sl') (gsCons g gs) := ⟨fun F => pgs_imp (pgs_cons (h1.run F) (h2.run F) hs) fun vs σ H Q ⟨A, ρ, ds, ρ', S, r, e, q⟩ => by
  cases r with
  | nil => cases e
  | cons r1 r2 =>
    obtain ⟨_, ρ1, e1, e⟩ := bind_ok e
    refine ⟨_, _, rfl, A, ρ, .im _, ρ1, S, r1, e1, fun σ1 S1 m1 l1 k1 => ?_⟩
    refine ⟨_, ρ1, _, ρ', S1, RDs.mono m1 r2, e, fun σ2 S2 m2 l2 k2 => ?_⟩
    have ed : dropL (dropL A sl) sl' = dropL A (sl ++ sl') := by unfold dropL; rw [List.foldl_append]
    rw [ed] at S2 m2
    refine q σ2 S2 (m1.trans m2) (l2.trans l1) fun j hj => ?_
    rw [k2 j fun z => hj (List.mem_append_right _ z), k1 j fun z => hj (List.mem_append_left _ z)]⟩
def gTupD (n : Nat) (gs : List D → M Unit) : IV → M Unit
  | .im (.tup ds) => if ds.length = n then gs ds else fun _ => .no
  | .tw ds => if ds.length = n then gs ds else fun _ => .no
  | _ => fun _ => .no
theorem dg_tup {X : Cx} {es : List Expr} {k n : Nat} {sl : List Nat} {gs : List D → M Unit} {pos : Pos} (hc : X.calm = true) (h : DGs X es sl gs)
    (hn : (assignEach es X.env).length = n := by rfl) (hst : (assignEach es X.env).findIdx? (·.1) = none := by rfl) : DG X (.Tuple es k pos) sl (gTupD n gs) := ⟨fun F => pg_imp (pg_tup hc (h.run F) hn hst) fun v σ H Q ⟨A, ρ, d, ρ', S, r, e, q⟩ => by
  have fin : ∀ {a vs ds}, v = .ref a → SqT X.K H a vs → RDs (Gx X) (hid (zs F A) H) vs ds → (if ds.length = n then gs ds else fun _ => .no) ρ = .ok () ρ' → gTup X.K n (tGs (Gx X) F sl gs) v σ H Q := fun {a vs ds} e1 e2 r e => by
    by_cases z : ds.length = n
    · rw [if_pos z] at e
      exact ⟨a, vs, e1, e2, by rw [r.len]; exact z, A, ρ, ds, ρ', S, r, e, q⟩
    · rw [if_neg z] at e; cases e
  cases d with
  | tw ds =>
    obtain ⟨a, vs, e1, e2, r⟩ := r
    exact fin e1 e2 r e
  | im d =>
    cases d with
    | tup ds =>
      cases r with
      | tup h1 h2 => exact fin rfl (Same.tupq hid_full h1.sq) h2 e
    | _ => cases e⟩
def Walk (G : Gp) (Hv : Hp) (J : It) (ds : List IV) : Prop := ∀ (i : Nat) (H : Hp) (Z : List Addr), ZOk Z H → Same Hv (hid Z H) →
  (∀ d, ds[i]? = some d → J.go i H ∧ ∀ x H', J.yld i H x H' → Same H H' ∧ RI G Z H' x d) ∧ (ds.length ≤ i → J.stop i H)
def tI (G : Gp) (F : Fm) (f : M (List IV)) : TI := fun σ H R => ∃ A ρ ds ρ', Sts G F A σ ρ H ∧ f ρ = .ok ds ρ' ∧
  ∀ J H', Sts G F A σ ρ' H' → Stp A H H' → Walk G (hid (zs F A) H') J ds → R J H'
structure DI (X : Cx) (tg iter : Expr) (f : M (List IV)) : Prop where
  run : ∀ F, PI X tg iter (tI (Gx X) F f)
theorem pi_imp {X : Cx} {e i : Expr} {t t' : TI} (h : PI X e i t) (j : ∀ σ H Q, t' σ H Q → t σ H Q) : PI X e i t' := ⟨fun pins s σ H R I q => h.run pins s σ H R I (j σ H R q)⟩
theorem walk_list {G : Gp} {Hv : Hp} {a : Addr} {vs : List V} {ds : List D} (h : SqL G.K Hv a vs) (r : RDs G Hv vs ds) : Walk G Hv (Itl G.K a) (ds.map .im) := fun i H Z z sm => by
  have hs : SqL G.K H a vs := hid_full.seq (sm.seq h)
  refine ⟨fun d hd => ?_, fun hl => ⟨vs, hs, by rw [List.length_map] at hl; rw [r.len]; exact hl⟩⟩
  rw [List.getElem?_map] at hd
  obtain ⟨d', e1, e2⟩ := Option.map_eq_some_iff.mp hd
  subst e2
  obtain ⟨v, h1, h2⟩ := r.get e1
  refine ⟨⟨vs, v, hs, h1⟩, fun x H' ⟨e, y⟩ => ?_⟩
  subst e
  have : x = v := Option.some.inj ((y vs hs).symm.trans h1)
  subst this
  exact ⟨Same.refl _, h2.mono sm⟩
theorem walk_tup {G : Gp} {Hv : Hp} {a : Addr} {vs : List V} {ds : List D} (h : SqT G.K Hv a vs) (r : RDs G Hv vs ds) : Walk G Hv (Itt G.K a) (ds.map .im) := fun i H Z z sm => by
  have hs : SqT G.K H a vs := Same.tupq hid_full (Same.tupq sm h)
  refine ⟨fun d hd => ?_, fun hl => ⟨vs, hs, by rw [List.length_map] at hl; rw [r.len]; exact hl⟩⟩
  rw [List.getElem?_map] at hd
  obtain ⟨d', e1, e2⟩ := Option.map_eq_some_iff.mp hd
  subst e2
  obtain ⟨v, h1, h2⟩ := r.get e1
  refine ⟨⟨vs, v, hs, h1⟩, fun x H' ⟨e, y⟩ => ?_⟩
  subst e
  have : x = v := Option.some.inj ((y vs hs).symm.trans h1)
  subst this
  exact ⟨Same.refl _, h2.mono sm⟩
theorem walk_range {G : Gp} {Hv : Hp} (lo : Int) (n : Nat) : Walk G Hv (Itr lo n) ((List.range n).map fun (i : Nat) => .im (.int (lo + i))) := fun i H Z z sm => by
  refine ⟨fun d hd => ?_, fun hl => by rw [List.length_map, List.length_range] at hl; exact hl⟩
  rw [List.getElem?_map] at hd
  obtain ⟨j, e1, e2⟩ := Option.map_eq_some_iff.mp hd
  have hj := List.getElem?_eq_some_iff.mp e1
  obtain ⟨hj1, hj2⟩ := hj
  rw [List.length_range] at hj1
  rw [List.getElem_range] at hj2
  subst hj2 e2
  refine ⟨hj1, fun x H' ⟨e, y⟩ => ?_⟩
  subst e y
  exact ⟨Same.refl _, .int _⟩
section
variable {X : Cx} {tg a b : Expr} {fa fb : ES} {es : List Expr} {fs : M (List RV)} {p pos : Pos}
theorem RDs.ofKeys {G : Gp} {H : Hp} : ∀ l : List Key, RDs G H (l.map kV) (l.map keyD)
  | [] => .nil
  | .inl i :: r => .cons (.int i) (RDs.ofKeys r)
  | .inr x :: r => .cons (.str x) (RDs.ofKeys r)
theorem rd_key {G : Gp} {H : Hp} (k : Key) : RD G H (kV k) (keyD k) := by
  cases k
  · exact .int _
  · exact .str _
theorem frzX {X : Cx} {pins : List (Addr × Obj)} {σ : St} {H : Hp} {s : Shared} {d : Addr} {o : Obj} {xs : List (List Key × Addr × Value)} (I : Inv X pins σ H s) (h : H d = some (.frz o (DTo X.prog X.w d xs))) :
    (d == sysModules) = false ∧ s.heap.get? d = some o ∧ o.ExactDict ∧ ∃ (es : Array DictEntry) (ep : Nat), o.data = .dict es ep ∧ es.size = xs.length ∧ ∀ (i : Nat) e, xs[i]? = some e → ∃ en, es[i]? = some en ∧ en.key = .ref e.2.1 := by
  obtain ⟨hd, ⟨⟨o', es, ep, ho, hx, hdt, he⟩, _, _, hs⟩, _, _⟩ := I.hok d _ h
  rw [hd] at ho
  cases ho
  refine ⟨hs, hd, hx, es, ep, hdt, size_of_entries he, fun i e hi => ?_⟩
  have q := entry_at he i
  rw [hi] at q
  exact ⟨_, q, rfl⟩
def Itx (P : Program) (w : World) (d : Addr) (o : Obj) (xs : List (List Key × Addr × Value)) : It :=
  ⟨fun i H => H d = some (.frz o (DTo P w d xs)) ∧ i < xs.length, fun i H x H' => H' = H ∧ ∃ e, xs[i]? = some e ∧ x = .ref e.2.1, fun i H => H d = some (.frz o (DTo P w d xs)) ∧ xs.length ≤ i⟩
theorem turn_keysX {P : Program} {w : World} {K : PySem.W.Frag} {tg : Expr} {d : Addr} {o : Obj} {es : Array DictEntry} {ep : Nat} {xs : List (List Key × Addr × Value)} (it : Addr) (hod : o.data = .dict es ep) : Turn P w K tg (Itx P w d o xs) [it] it (fun i h => h.IsKeyIter it d i xs.length ep) where
  mem := by simp
  obj := fun i h st b hb => by
    have e : b = it := by simpa using hb
    subst e
    obtain ⟨oi, e, c, dd⟩ := st
    exact ⟨oi, e, fun v z => by rw [dd] at z; cases z⟩
  keep := fun i h h' st k => st.at fun oi e => k it (by simp) oi e
  item := by
    intro X hP hw hK hc i pins s σ H E I hf st hg
    subst hP hw hK
    obtain ⟨hd, hi⟩ := hg
    obtain ⟨f0, f1, f2, f3, f4, f5⟩ := hf it (by simp)
    obtain ⟨hs, hgd, hx, es', ep', hdt, hsz, ent⟩ := frzX I hd
    obtain ⟨rfl, rfl⟩ := dict_ep hod hdt
    obtain ⟨e0, he0⟩ : ∃ p, xs[i]? = some p := ⟨xs[i], List.getElem?_eq_getElem hi⟩
    obtain ⟨en, hen, hkey⟩ := ent i e0 he0
    refine next_key_item st hgd hdt hsz hen fun h' st' sb => ?_
    have I1 : Inv X pins σ H { s with heap := h' } := I.turned (t' := s.toks) (fun b ob hb e => (sb.2 b hb).trans e) f0 f1 f3 f4 f5
    obtain ⟨oi, e, c, dd⟩ := id st'
    exact ⟨en.key, rfl, go_of (s := { s with heap := h' }) e c dd (by decide) ⟨.ref e0.2.1, H, I1, hkey, ⟨rfl, e0, he0, rfl⟩, st', fun b hb => (hf b hb).1⟩⟩
  done := by
    intro X hP hw hK hc i pins s σ H E I hf st hg
    subst hP hw hK
    obtain ⟨hd, hi⟩ := hg
    obtain ⟨f0, f1, f2, f3, f4, f5⟩ := hf it (by simp)
    obtain ⟨hs, hgd, hx, es', ep', hdt, hsz, ent⟩ := frzX I hd
    obtain ⟨rfl, rfl⟩ := dict_ep hod hdt
    exact next_key_end (I.ok.hd hc) st hgd hdt hsz hi fun h' eb => ⟨rfl, I.turned (t' := s.toks) (fun b ob hb e => eb b ob hb e) f0 f1 f3 f4 f5⟩
  self := fun A i s Q E st h => by
    refine wpAny_pyIter_slot st.typeIs F.slot_dict_keyiterator_iter (wpAny_call_entry F.slot_dict_keyiterator_iter st.typeIs F.entry_dict_keyiterator_iter ?_ (F.args_dict_keyiterator_iter_1 _))
    show wpAny _ _ (ret (.ref it)) _ _ s
    exact wpAny_pure ⟨_, rfl, "dict_keyiterator", _, st.typeIs, F.slot_dict_keyiterator_next.lookup, h⟩
def iKeysX (P : Program) (w : World) (td : TE) : TI := fun σ H R => td σ H fun x H1 => ∃ d o, x = .ref d ∧ ((∃ kvs, H1 d = some (.frz o (.dK kvs)) ∧ R (Itk d o kvs) H1) ∨ ∃ xs, H1 d = some (.frz o (DTo P w d xs)) ∧ R (Itx P w d o xs) H1)
theorem pi_keysX {X : Cx} {tg e : Expr} {td : TE} (he : PE X e td) : PI X tg e (iKeysX X.prog X.w td) := by
  refine ⟨fun pins s σ H R I h => ?_⟩
  refine thn (he.run pins s σ H _ I h) fun u s1 ⟨x, H1, I1, rx, d, o, ex, q⟩ => ?_
  subst ex
  obtain rfl : u = Value.ref d := rx
  rcases q with ⟨kvs, hd, q⟩ | ⟨kvs, hd, q⟩
  · obtain ⟨hs, hgd, hx, es, ep, vs, hdt, hsz, kv, hm⟩ := I1.frzK hd
    refine iter_keys hs hgd hx hdt (pi_one (tk := s1.toks) I1 _ (turn_keys _ hdt) ⟨_, Heap.get?_push_size _ rfl, rfl, ?_⟩ q)
    rw [hsz] <;> rfl
  · obtain ⟨hs, hgd, hx, es, ep, hdt, hsz, ent⟩ := frzX I1 hd
    refine iter_keys hs hgd hx hdt (pi_one (tk := s1.toks) I1 _ (turn_keysX _ hdt) ⟨_, Heap.get?_push_size _ rfl, rfl, ?_⟩ q)
    rw [hsz] <;> rfl
theorem walk_keysK {G : Gp} {Hv : Hp} {a : Addr} {o : Obj} {kvs : List (Key × V)} (h : Hv a = some (.frz o (.dK kvs))) : Walk G Hv (Itk a o kvs) ((kvs.map fun p => keyD p.1).map .im) := fun i H Z z sm => by
  have hs : H a = some (.frz o (.dK kvs)) := hid_full _ _ (sm _ _ h)
  refine ⟨fun d hd => ?_, fun hl => ⟨hs, by rw [List.length_map, List.length_map] at hl; exact hl⟩⟩
  rw [List.getElem?_map, List.getElem?_map] at hd
  obtain ⟨d1, e1, e2⟩ := Option.map_eq_some_iff.mp hd
  obtain ⟨p, e3, e4⟩ := Option.map_eq_some_iff.mp e1
  subst e2 e4
  refine ⟨⟨hs, (List.getElem?_eq_some_iff.mp e3).1⟩, fun x H' ⟨eH, k, v, e5, ex⟩ => ?_⟩
  subst eH
  rw [e3] at e5
  cases e5
  subst ex
  exact ⟨Same.refl _, rd_key _⟩
theorem walk_keysX {G : Gp} {Hv : Hp} {a : Addr} {o : Obj} {xs : List (List Key × Addr × Value)} (h : Hv a = some (.frz o (DTo G.P G.w a xs))) (ka : KeysAt G.K Hv xs) : Walk G Hv (Itx G.P G.w a o xs) ((xs.map fun x => keyT x.1).map .im) := fun i H Z z sm => by
  have hs : H a = some (.frz o (DTo G.P G.w a xs)) := hid_full _ _ (sm _ _ h)
  refine ⟨fun d hd => ?_, fun hl => ⟨hs, by rw [List.length_map, List.length_map] at hl; exact hl⟩⟩
  rw [List.getElem?_map, List.getElem?_map] at hd
  obtain ⟨d1, e1, e2⟩ := Option.map_eq_some_iff.mp hd
  obtain ⟨p, e3, e4⟩ := Option.map_eq_some_iff.mp e1
  subst e2 e4
  refine ⟨⟨hs, (List.getElem?_eq_some_iff.mp e3).1⟩, fun x H' ⟨eH, e0, e5, ex⟩ => ?_⟩
  subst eH
  rw [e3] at e5
  cases e5
  subst ex
  exact ⟨Same.refl _, .tup ((ka p (List.mem_of_getElem? e3)).mono sm) (RDs.ofKeys _)⟩
def iSeq (fa : ES) : M (List IV) := M.bind fa fun r => M.bind (imm r) fun d => match d with
  | .lst xs => M.ret (xs.map .im)
  | .tup xs => M.ret (xs.map .im)
  | .dct ks _ => M.ret (ks.map .im)
  | _ => fun _ => .no
theorem pi_or {X : Cx} {tg it : Expr} {t u : TI} (h : PI X tg it t) (k : PI X tg it u) : PI X tg it (fun σ H R => t σ H R ∨ u σ H R) := ⟨fun pins s σ H R I q => by
  rcases q with q | q
  · exact h.run pins s σ H R I q
  · exact k.run pins s σ H R I q⟩
theorem di_seq (ha : DE X a fa) : DI X tg a (iSeq fa) := ⟨fun F => pi_imp (pi_or (pi_or (pi_list (ha.run F)) (pi_tup (ha.run F))) (pi_keysX (ha.run F))) fun σ H R ⟨A, ρ, ds, ρ', S, e, q⟩ => by
  obtain ⟨r, ρ1, e1, e⟩ := bind_ok e
  obtain ⟨d, ρ2, e2, e⟩ := bind_ok e
  obtain ⟨rfl, rfl⟩ := imm_ok e2
  cases d with
  | lst xs =>
    obtain ⟨rfl, rfl⟩ := ret_ok e
    refine .inl (.inl ⟨A, ρ, _, _, S, e1, fun v H1 S1 m1 r1 => ?_⟩)
    cases r1 with
    | lst h1 h2 => exact ⟨_, rfl, ⟨_, hid_full.seq h1⟩, q _ _ S1 m1 (walk_list h1 h2)⟩
  | tup xs =>
    obtain ⟨rfl, rfl⟩ := ret_ok e
    refine .inl (.inr ⟨A, ρ, _, _, S, e1, fun v H1 S1 m1 r1 => ?_⟩)
    cases r1 with
    | tup h1 h2 => exact ⟨_, rfl, ⟨_, Same.tupq hid_full h1.sq⟩, q _ _ S1 m1 (walk_tup h1.sq h2)⟩
  | dct ks vs =>
    obtain ⟨rfl, rfl⟩ := ret_ok e
    refine .inr ⟨A, ρ, _, _, S, e1, fun v H1 S1 m1 r1 => ?_⟩
    cases r1 with
    | dct h1 h2 => exact ⟨_, _, rfl, .inl ⟨_, hid_full _ _ h1, q _ _ S1 m1 (walk_keysK h1)⟩⟩
    | dctT n h1 h2 h3 h4 => exact ⟨_, _, rfl, .inr ⟨_, hid_full _ _ h1, q _ _ S1 m1 (walk_keysX (o := _) h1 h2)⟩⟩
  | _ => cases e⟩
def isInt : D → Option Int
  | .int i => some i
  | _ => none
def rangeOk (i : Int) : Bool := decide (-(2 ^ 62) ≤ i) && decide (i < 2 ^ 62)
theorem rangeOk_of {i : Int} (h : rangeOk i = true) : -(2 ^ 62) ≤ i ∧ i < 2 ^ 62 := by
  unfold rangeOk at h
  rw [Bool.and_eq_true] at h
  exact ⟨of_decide_eq_true h.1, of_decide_eq_true h.2⟩
def rng1 : List D → Option (List IV)
  | [.int j] => if rangeOk j = true then some ((List.range j.toNat).map fun (i : Nat) => .im (.int (i : Int))) else none
  | _ => none
def iCall (g : List D → Option (List IV)) (fs : M (List RV)) : M (List IV) := M.bind fs fun rs => M.bind (vals rs) fun ds => M.opt (g ds)
theorem di_range1 (hg : Gl X "range") (hm : X.mg "range" = none) (ha : DA X [a] fs) (hs : starEach [a] X.env = [(false, eval a X.env)] := by rfl) : DI X tg (.Call (.Name "range" p) [a] [] pos) (iCall rng1 fs) := ⟨fun F => pi_imp (pi_range1 hg hm (ha.run F) hs) fun σ H R ⟨A, ρ, ds, ρ', S, e, q⟩ => by
  obtain ⟨rs, ρ1, e1, e⟩ := bind_ok e
  obtain ⟨xs, ρ2, e2, e⟩ := bind_ok e
  obtain ⟨l2, rfl⟩ := vals_ok e2
  obtain ⟨l3, rfl⟩ := opt_ok e
  refine ⟨A, ρ, rs, _, S, e1, fun vs H1 S1 m1 r1 => ?_⟩
  have rt := looks_rt S1 r1 l2
  unfold rng1 at l3
  split at l3
  · rename_i j
    by_cases z : rangeOk j = true
    · rw [if_pos z] at l3
      cases l3
      obtain ⟨v, rfl, r⟩ := rt.one
      obtain ⟨z1, z2⟩ := rangeOk_of z
      refine ⟨j, by rw [r.int], z1, z2, q _ _ S1 m1 ?_⟩
      have w := walk_range (G := Gx X) (Hv := hid (zs F A) H1) 0 j.toNat
      simpa using w
    · rw [if_neg z] at l3; cases l3
  · cases l3⟩
def rng2 : List D → Option (List IV)
  | [.int i, .int j] => if (rangeOk i && rangeOk j) = true then some ((List.range (j - i).toNat).map fun (k : Nat) => .im (.int (i + (k : Int)))) else none
  | _ => none
theorem di_range2 (hg : Gl X "range") (hm : X.mg "range" = none) (ha : DA X [a, b] fs) (hs : starEach [a, b] X.env = [(false, eval a X.env), (false, eval b X.env)] := by rfl) (hs2 : starEach [b] X.env = [(false, eval b X.env)] := by rfl) :
    DI X tg (.Call (.Name "range" p) [a, b] [] pos) (iCall rng2 fs) := ⟨fun F => pi_imp (pi_range2 hg hm (ha.run F) hs hs2) fun σ H R ⟨A, ρ, ds, ρ', S, e, q⟩ => by
  obtain ⟨rs, ρ1, e1, e⟩ := bind_ok e
  obtain ⟨xs, ρ2, e2, e⟩ := bind_ok e
  obtain ⟨l2, rfl⟩ := vals_ok e2
  obtain ⟨l3, rfl⟩ := opt_ok e
  refine ⟨A, ρ, rs, _, S, e1, fun vs H1 S1 m1 r1 => ?_⟩
  have rt := looks_rt S1 r1 l2
  unfold rng2 at l3
  split at l3
  · rename_i i j
    by_cases z : (rangeOk i && rangeOk j) = true
    · rw [if_pos z] at l3
      cases l3
      obtain ⟨v, u, rfl, r, r'⟩ := rt.two
      rw [Bool.and_eq_true] at z
      obtain ⟨z1, z2⟩ := rangeOk_of z.1
      obtain ⟨z3, z4⟩ := rangeOk_of z.2
      exact ⟨i, j, by rw [r.int, r'.int], ⟨z1, z2, z3, z4⟩, q _ _ S1 m1 (walk_range _ _)⟩
    · rw [if_neg z] at l3; cases l3
  · cases l3⟩
end
end Dv
namespace Dv
open PySem PySem.Spec PyProof.Rows L2
variable [Tbl]
def okw (vs : List Nat) (ρ : Rho) : Bool := vs.all fun i => match ρ[i]? with
  | some (some (.owd _)) => false
  | some (some (.bo _)) => false
  | _ => true
def wipeR (ρ : Rho) : List Nat → Rho
  | [] => ρ
  | v :: vs => (wipeR ρ vs).set v none
def putB (ρ0 : Rho) : List Nat → Rho → Rho
  | [], ρ => ρ
  | v :: vs, ρ => (putB ρ0 vs ρ).set v (ρ0[v]?.getD none)
theorem wipeR_len (ρ : Rho) : ∀ vs, (wipeR ρ vs).length = ρ.length
  | [] => rfl
  | v :: vs => by unfold wipeR; rw [List.length_set, wipeR_len ρ vs]
theorem wipeR_some {ρ : Rho} {i : Nat} {x : SV} : ∀ {vs : List Nat}, (wipeR ρ vs)[i]? = some (some x) → ρ[i]? = some (some x) ∧ i ∉ vs
  | [], h => ⟨h, by simp⟩
  | v :: vs, h => by
    unfold wipeR at h
    by_cases hi : v = i
    · subst hi
      by_cases hv : v < (wipeR ρ vs).length
      · rw [List.getElem?_set_self hv] at h; cases h
      · rw [List.getElem?_eq_none (by rw [List.length_set]; omega)] at h; cases h
    · rw [List.getElem?_set_ne hi] at h
      obtain ⟨h1, h2⟩ := wipeR_some h
      exact ⟨h1, by simp only [List.mem_cons, not_or]; exact ⟨fun e => hi e.symm, h2⟩⟩
theorem wipeR_out {ρ : Rho} {i : Nat} : ∀ {vs : List Nat}, i ∉ vs → (wipeR ρ vs)[i]? = ρ[i]?
  | [], _ => rfl
  | v :: vs, h => by
    unfold wipeR
    rw [List.getElem?_set_ne fun e => h (by rw [e]; exact List.mem_cons_self), wipeR_out fun e => h (List.mem_cons_of_mem _ e)]
theorem putB_len (ρ0 : Rho) : ∀ vs ρ, (putB ρ0 vs ρ).length = ρ.length
  | [], _ => rfl
  | v :: vs, ρ => by unfold putB; rw [List.length_set, putB_len ρ0 vs ρ]
theorem putB_out {ρ0 : Rho} {i : Nat} : ∀ {vs : List Nat} {ρ : Rho}, i ∉ vs → (putB ρ0 vs ρ)[i]? = ρ[i]?
  | [], _, _ => rfl
  | v :: vs, ρ, h => by
    unfold putB
    rw [List.getElem?_set_ne fun e => h (by rw [e]; exact List.mem_cons_self), putB_out fun e => h (List.mem_cons_of_mem _ e)]
theorem putB_in {ρ0 : Rho} {i : Nat} : ∀ {vs : List Nat} {ρ : Rho}, i ∈ vs → i < ρ.length → (putB ρ0 vs ρ)[i]? = some (ρ0[i]?.getD none)
  | v :: vs, ρ, h, hl => by
    unfold putB
    by_cases z : v = i
    · subst z
      rw [List.getElem?_set_self (by rw [putB_len]; exact hl)]
    · rw [List.getElem?_set_ne z]
      exact putB_in ((List.mem_cons.mp h).resolve_left fun e => z e.symm) hl
theorem wipe_at {σ : St} {i : Nat} : ∀ {vs : List Nat}, i ∉ vs → (wipe σ vs)[i]? = σ[i]?
  | [], _ => rfl
  | v :: vs, h => by
    unfold wipe
    rw [List.getElem?_set_ne fun e => h (by rw [e]; exact List.mem_cons_self), wipe_at fun e => h (List.mem_cons_of_mem _ e)]
theorem wipe_in {σ : St} {i : Nat} : ∀ {vs : List Nat}, i ∈ vs → i < σ.length → (wipe σ vs)[i]? = some none
  | v :: vs, h, hl => by
    unfold wipe
    by_cases z : v = i
    · subst z
      rw [List.getElem?_set_self (by rw [wipe_length]; exact hl)]
    · rw [List.getElem?_set_ne z]
      exact wipe_in ((List.mem_cons.mp h).resolve_left fun e => z e.symm) hl
theorem wipe_eq {σ τ : St} {vs : List Nat} (hl : τ.length = σ.length) (h : ∀ j, j ∉ vs → τ[j]? = σ[j]?) : wipe τ vs = wipe σ vs := by
  apply List.ext_getElem?
  intro j
  by_cases z : j ∈ vs
  · by_cases hj : j < σ.length
    · rw [wipe_in z hj, wipe_in z (by omega)]
    · rw [List.getElem?_eq_none (by rw [wipe_length]; omega), List.getElem?_eq_none (by rw [wipe_length]; omega)]
  · rw [wipe_at z, wipe_at z, h j z]
section
variable {G : Gp} {F : Fm} {A : Own} {σ : St} {ρ ρ' ρ0 : Rho} {H H' : Hp} {vs : List Nat} {p : Addr}
theorem Sts.wipe (S : Sts G F A σ ρ H) (ha : ∀ i a, (i, a) ∈ A → i ∉ vs) : Sts G F A (L2.wipe σ vs) (wipeR ρ vs) H := by
  have ow : ∀ {j a ys}, j ∉ vs → OwAt G F A σ H j a ys → OwAt G F A (L2.wipe σ vs) H j a ys := fun {j a ys} hj ⟨h1, h2⟩ => ⟨by rw [wipe_at hj]; exact h1, h2⟩
  refine ⟨by rw [wipe_length, wipeR_len]; exact S.len, fun i d h => ?_, fun i xs h => ?_, fun i xs h => ?_, fun i a h => ?_, S.uni, fun i a h => ?_, S.keep, S.zok, S.tabs⟩
  · obtain ⟨h, z⟩ := wipeR_some h
    obtain ⟨v, h1, h2⟩ := S.im i d h
    exact ⟨v, by rw [wipe_at z]; exact h1, h2⟩
  · obtain ⟨h, z⟩ := wipeR_some h
    obtain ⟨a, h1, h2, h3, h4⟩ := S.ow i xs h
    exact ⟨a, h1, h2, h3, ow z h4⟩
  · obtain ⟨h, z⟩ := wipeR_some h
    obtain ⟨a, h1, h2, h4⟩ := S.bo i xs h
    exact ⟨a, h1, h2, ow z h4⟩
  · rw [wipeR_out (ha i a h)]
    exact S.own i a h
  · obtain ⟨h1, xs, h2⟩ := S.bor i a h
    exact ⟨h1, xs, by rw [wipeR_out (ha i a h1)]; exact h2⟩
theorem Sts.back {H0 : Hp} (S : Sts G F A (L2.wipe σ vs) ρ H) (S0 : Sts G F A σ ρ0 H0) (m : Same (hid (zs F A) H0) (hid (zs F A) H)) (ha : ∀ i a, (i, a) ∈ A → i ∉ vs) (hw : okw vs ρ0 = true) : Sts G F A σ (putB ρ0 vs ρ) H := by
  have hl : σ.length = ρ.length := by rw [← S.len, wipe_length]
  have ow : ∀ {j a ys}, j ∉ vs → OwAt G F A (L2.wipe σ vs) H j a ys → OwAt G F A σ H j a ys := fun {j a ys} hj ⟨h1, h2⟩ => ⟨by rw [wipe_at hj] at h1; exact h1, h2⟩
  have none_of : ∀ i, i ∈ vs → (∀ xs, ρ0[i]? ≠ some (some (.owd xs))) ∧ (∀ xs, ρ0[i]? ≠ some (some (.bo xs))) := fun i hi => by
    have q := List.all_eq_true.mp hw i hi
    constructor
    · intro xs e; rw [e] at q; cases q
    · intro xs e; rw [e] at q; cases q
  have at_in : ∀ {i x}, i ∈ vs → (putB ρ0 vs ρ)[i]? = some (some x) → ρ0[i]? = some (some x) := fun {i x} hi h => by
    have hlt : i < ρ.length := by
      by_cases z : i < ρ.length
      · exact z
      · rw [List.getElem?_eq_none (by rw [putB_len]; omega)] at h; cases h
    rw [putB_in hi hlt] at h
    have h := Option.some.inj h
    cases e : ρ0[i]? with
    | none => rw [e] at h; cases h
    | some y => rw [e] at h; rw [← h]; rfl
  refine ⟨by rw [putB_len]; exact hl, fun i d h => ?_, fun i xs h => ?_, fun i xs h => ?_, fun i a h => ?_, S.uni, fun i a h => ?_, S.keep, S.zok, S.tabs⟩
  · by_cases z : i ∈ vs
    · obtain ⟨v, h1, h2⟩ := S0.im i d (at_in z h)
      exact ⟨v, h1, h2.mono m⟩
    · rw [putB_out z] at h
      obtain ⟨v, h1, h2⟩ := S.im i d h
      rw [wipe_at z] at h1
      exact ⟨v, h1, h2⟩
  · by_cases z : i ∈ vs
    · exact absurd (at_in z h) ((none_of i z).1 xs)
    · rw [putB_out z] at h
      obtain ⟨a, h1, h2, h3, h4⟩ := S.ow i xs h
      exact ⟨a, h1, h2, h3, ow z h4⟩
  · by_cases z : i ∈ vs
    · exact absurd (at_in z h) ((none_of i z).2 xs)
    · rw [putB_out z] at h
      obtain ⟨a, h1, h2, h4⟩ := S.bo i xs h
      exact ⟨a, h1, h2, ow z h4⟩
  · rw [putB_out (ha i a h)]
    exact S.own i a h
  · obtain ⟨h1, xs, h2⟩ := S.bor i a h
    exact ⟨h1, xs, by rw [putB_out (ha i a h1)]; exact h2⟩
theorem hid_upd {Z : List Addr} {o : HO} (hp : p ∈ Z) : hid Z (upd H p o) = hid Z H := by
  funext a
  unfold hid
  by_cases z : a ∈ Z
  · rw [if_pos z, if_pos z]
  · rw [if_neg z, if_neg z, upd_ne fun e => z (by rw [e]; exact hp)]
theorem zs_hide {a : Addr} : a ∈ zs (F.hide p) A ↔ a = p ∨ a ∈ zs F A := by
  rw [mem_zs, mem_zs]
  show (a ∈ p :: F.Z ∨ _) ↔ _
  rw [List.mem_cons, or_assoc]
theorem tabs_upd {T : List (Addr × Str)} {H : Hp} {p : Addr} {xs : List V} {o : HO} (t : LamX.Tabs T H) (h : H p = some (.lst xs)) : LamX.Tabs T (upd H p o) := fun q hq => by
  obtain ⟨ps, h1, h2, h3⟩ := t q hq
  refine ⟨ps, by rw [upd_ne (fun z => by rw [z, h] at h1; cases h1)]; exact h1, h2, fun pos cv hc => ?_⟩
  obtain ⟨c, e1, e2⟩ := h3 pos cv hc
  refine ⟨c, e1, ?_⟩
  have ne : c ≠ p := fun z => by
    rw [z, h] at e2
    have e3 : HO.lst xs = HO.ext _ := Option.some.inj e2
    cases e3
  rw [upd_ne ne]
  exact e2
theorem tabs_keep {T : List (Addr × Str)} {H H' : Hp} (t : LamX.Tabs T H) (k : ∀ b ps, H b = some (.tbl ps) → H' b = some (.tbl ps)) (k' : ∀ b φ, H b = some (.ext φ) → H' b = some (.ext φ)) : LamX.Tabs T H' := fun q hq => by
  obtain ⟨ps, h1, h2, h3⟩ := t q hq
  refine ⟨ps, k _ _ h1, h2, fun pos cv hc => ?_⟩
  obtain ⟨c, e1, e2⟩ := h3 pos cv hc
  exact ⟨c, e1, k' c _ e2⟩
theorem nt_eq {H H' : Hp} {a : Addr} (h : H a = H' a) : nt H a = nt H' a := by
  unfold nt
  rw [h]
theorem Sts.hupd {o : HO} {xs : List V} (S : Sts G (F.hide p) A σ ρ H) (h0 : F.H0 p = none) (hz : p ∉ zs F A) (hl : H p = some (.lst xs)) (ob : isTb o = false := by rfl) : Sts G (F.hide p) A σ ρ (upd H p o) := by
  have hm : p ∈ zs (F.hide p) A := zs_hide.mpr (.inl rfl)
  have np : ∀ j a, (j, a) ∈ A → a ≠ p := fun j a h z => hz (mem_zs.mpr (.inr ⟨j, z ▸ h⟩))
  have ow : ∀ {j a ys}, (j, a) ∈ A → OwAt G (F.hide p) A σ H j a ys → OwAt G (F.hide p) A σ (upd H p o) j a ys := fun {j a ys} hj h => ⟨h.1, h.2.move (fun _ z _ => by rw [upd_ne (np j a hj)]; exact z) (by rw [hid_upd hm]; exact Same.refl _)⟩
  refine ⟨S.len, fun i d h => ?_, fun i xs h => ?_, fun i xs h => ?_, S.own, S.uni, S.bor, fun a u h1 h2 => ?_, fun a h => ?_, tabs_upd S.tabs hl⟩
  · obtain ⟨v, h1, h2⟩ := S.im i d h
    exact ⟨v, h1, by rw [hid_upd hm]; exact h2⟩
  · obtain ⟨a, h1, h2, h3, h4⟩ := S.ow i xs h
    exact ⟨a, h1, h2, h3, ow h1 h4⟩
  · obtain ⟨a, h1, h2, h4⟩ := S.bo i xs h
    exact ⟨a, h1, h2, ow h1 h4⟩
  · have ne : a ≠ p := fun e => by
      rw [e] at h1
      exact absurd ((show nt F.H0 p = some u from h1).symm.trans (nt_none.mpr h0)) (fun z => nomatch z)
    rw [nt_upd ob, upd_ne ne]
    exact S.keep a u h1 h2
  · by_cases z : a = p
    · rw [z, upd_same]; exact fun q => nomatch q
    · rw [upd_ne z]; exact S.zok a h
end
theorem dropL_same {A : Own} {sl vs : List Nat} (hsl : ∀ j ∈ sl, j ∈ vs) (ha : ∀ i a, (i, a) ∈ A → i ∉ vs) : dropL A sl = A := by
  induction sl with
  | nil => rfl
  | cons j sl ih =>
    show dropL (drop1 A j) sl = A
    have e : drop1 A j = A := by
      unfold drop1
      rw [List.filter_eq_self]
      rintro ⟨i, a⟩ h
      have : i ≠ j := fun z => ha i a h (z ▸ hsl j List.mem_cons_self)
      simpa using this
    rw [e]
    exact ih fun k hk => hsl k (List.mem_cons_of_mem _ hk)
structure DTs (X : Cx) (ifs : List Expr) (f : M Bool) : Prop where
  run : ∀ F, PTs X ifs (tT (Gx X) F f)
theorem pts_imp {X : Cx} {e : List Expr} {t t' : TT} (h : PTs X e t) (i : ∀ σ H Q, t' σ H Q → t σ H Q) : PTs X e t' := ⟨fun pins s σ H Q I q => h.run pins s σ H Q I (i σ H Q q)⟩
def bYes : M Bool := M.ret true
theorem dts_nil {X : Cx} : DTs X [] bYes := ⟨fun F => pts_imp pts_nil fun σ H Q ⟨A, ρ, b, ρ', S, e, q⟩ => by
  obtain ⟨rfl, rfl⟩ := ret_ok e
  exact q H S (Stp.refl _ _)⟩
theorem dts_one {X : Cx} {c : Expr} {g : M Bool} (h : DT X c g) : DTs X [c] g := ⟨fun F => pts_one (h.run F)⟩
def wipeM (vs : List Nat) : M Unit := fun ρ => .ok () (wipeR ρ vs)
def room (acc : List D) : Option Unit := if acc.length < 1000000 then some () else none
theorem room_ok {acc : List D} {u : Unit} (h : room acc = some u) : acc.length < sizeLine := by
  unfold room at h
  by_cases z : acc.length < 1000000
  · exact len_lt z
  · rw [if_neg z] at h; cases h
def lcLoop (vs : List Nat) (g : IV → M Unit) (gt : M Bool) (fe : ES) : List IV → List D → M (List D)
  | [], acc => M.ret acc
  | d :: ds, acc => M.bind (g d) fun _ => M.bind gt fun b => match b with
    | true => M.bind fe fun r => M.bind (imm r) fun x => M.bind (M.opt (room acc)) fun _ => M.bind (wipeM vs) fun _ => lcLoop vs g gt fe ds (acc ++ [x])
    | false => M.bind (wipeM vs) fun _ => lcLoop vs g gt fe ds acc
def nLc (vs : List Nat) (fi : M (List IV)) (g : IV → M Unit) (gt : M Bool) (fe : ES) : M (List D) := M.bind fi fun ds => fun ρ => match okw vs ρ with
  | true => match lcLoop vs g gt fe ds [] (wipeR ρ vs) with
    | .ok acc ρ' => .ok acc (putB ρ vs ρ')
    | .ex e ρ' => .ex e (putB ρ vs ρ')
    | .no => .no
  | false => .no
theorem stp_hide {F : Fm} {A : Own} {H H' : Hp} {p : Addr} (hp : H p = none) (m : Stp A H H') : Same (hid (zs F A) H) (hid (zs (F.hide p) A) H') := fun a o e => by
  obtain ⟨e1, e2, e3⟩ := hid_all e
  refine hid_of (fun z => ?_) (m.at e2 (fun i z => e1 (mem_zs.mpr (.inr ⟨i, z⟩))) e3) e3
  rcases zs_hide.mp z with rfl | z
  · rw [hp] at e2; cases e2
  · exact e1 z
theorem stp_upd {A : Own} {H H' : Hp} {p : Addr} {o : HO} (hp : H p = none) (m : Stp A H H') (ob : isTb o = false := by rfl) : Stp A H (upd H' p o) := fun a u e n => by
  rw [nt_upd ob, upd_ne (ne_of_none e (nt_none.mpr hp))]
  exact m a u e n
theorem lc_rd {G : Gp} {F : Fm} {vs sl : List Nat} {fi : M (List IV)} {g : IV → M Unit} {gt : M Bool} {fe : ES} {σ : St} {H : Hp} {Q : VK} (hsl : ∀ j ∈ sl, j ∈ vs) (h : tN G F (nLc vs fi g gt fe) σ H Q) :
    tLc (tI G F fi) (fun v σ H Q => ∃ F, tG G F sl g v σ H Q) (fun σ H Q => ∃ F, tT G F gt σ H Q) (fun σ H Q => ∃ F, tD G F fe σ H Q) vs σ H Q := by
  obtain ⟨A, ρ, res, ρ', S, e, q⟩ := h
  obtain ⟨ds, ρ1, e1, e⟩ := bind_ok e
  refine ⟨A, ρ, ds, ρ1, S, e1, fun J H1 S1 m1 wk D hD => ?_⟩
  cases ew : okw vs ρ1 with
  | false => rw [ew] at e; cases e
  | true =>
    rw [ew] at e
    dsimp only at e
    cases el : lcLoop vs g gt fe ds [] (wipeR ρ1 vs) with
    | no => rw [el] at e; cases e
    | ex x r => rw [el] at e; cases e
    | ok acc0 ρe =>
      rw [el] at e
      cases e
      have ha : ∀ i a, (i, a) ∈ A → i ∉ vs := fun i a hi hv => by
        have z := List.all_eq_true.mp ew i hv
        obtain ⟨xs, o | ⟨_, _, o⟩⟩ := S1.own i a hi
        · rw [o] at z; cases z
        · rw [o] at z; cases z
      have h0 := S1.h0 hD
      have hz := S1.zall.out hD
      have sm0 := Same.of_new (o := .lst []) hD
      have Sw : Sts G (F.hide D) A (L2.wipe σ vs) (wipeR ρ1 vs) (upd H1 D (.lst [])) := (S1.wipe ha).hide hD sm0 (by rw [upd_same]; exact fun z => nomatch z)
      refine ⟨fun i m H => ∃ ρi acc accV, m = ds.length - i ∧ i ≤ ds.length ∧ Sts G (F.hide D) A (L2.wipe σ vs) ρi H ∧ Stp A H1 H ∧ H D = some (.lst accV) ∧ RDs G (hid (zs (F.hide D) A) H) accV acc ∧ lcLoop vs g gt fe (ds.drop i) acc ρi = .ok res ρe,
        ⟨ds.length, wipeR ρ1 vs, [], [], by simp, Nat.zero_le _, Sw, Stp.of sm0, upd_same, .nil, by simpa using el⟩, ?_⟩
      rintro i m Hi ⟨ρi, acc, accV, rfl, hi, Si, mi, hDi, rdi, ei⟩
      have W := wk i Hi (zs (F.hide D) A) Si.zall (stp_hide hD mi)
      by_cases hlt : i < ds.length
      · obtain ⟨go, yl⟩ := W.1 ds[i] (List.getElem?_eq_getElem hlt)
        have hm : D ∈ zs (F.hide D) A := zs_hide.mpr (.inl rfl)
        rw [List.drop_eq_getElem_cons hlt] at ei
        refine .inr ⟨go, fun H' => ∃ ρi acc accV, i + 1 ≤ ds.length ∧ Sts G (F.hide D) A (L2.wipe σ vs) ρi H' ∧ Stp A H1 H' ∧ H' D = some (.lst accV) ∧ RDs G (hid (zs (F.hide D) A) H') accV acc ∧ lcLoop vs g gt fe (ds.drop (i + 1)) acc ρi = .ok res ρe, fun H' ⟨ρn, an, av, a1, a2, a3, a4, a5, a6⟩ => ⟨ds.length - (i + 1), by omega, ρn, an, av, rfl, a1, a2, a3, a4, a5, a6⟩, fun x H' hy => ?_⟩
        obtain ⟨smy, rix⟩ := yl x H' hy
        have Sy := Si.same smy
        have my := mi.trans (Stp.of smy)
        obtain ⟨_, ρ2, g1, ei⟩ := bind_ok ei
        refine ⟨F.hide D, A, ρi, ds[i], ρ2, Sy, rix, g1, fun σ2 S2 m2 l2 k2 => ?_⟩
        rw [dropL_same hsl ha] at S2 m2
        have hw : L2.wipe σ2 vs = L2.wipe σ vs := by
          rw [wipe_eq (τ := σ2) (σ := L2.wipe σ vs) l2 fun j hj => k2 j fun z => hj (hsl j z)]
          exact wipe_eq (wipe_length σ vs) fun j hj => wipe_at hj
        refine ⟨hw, F.hide D, A, ρ2, ?_⟩
        obtain ⟨b, ρ3, g3, ei⟩ := bind_ok ei
        refine ⟨b, ρ3, S2, g3, fun H3 S3 m3 => ?_⟩
        have nD : ∀ i, (i, D) ∉ A := fun i z => hz (mem_zs.mpr (.inr ⟨i, z⟩))
        have hDy : H' D = some (.lst accV) := smy D _ hDi
        have rdy := rdi.mono (Same.hid (Z := zs (F.hide D) A) smy)
        have h3 : H3 D = some (.lst accV) := m3.at hDy nD
        have my3 := my.trans m3
        cases b with
        | false =>
          obtain ⟨_, ρ4, g4, ei⟩ := bind_ok ei
          cases g4
          show ∃ _, _
          exact ⟨_, acc, accV, hlt, hw ▸ S3.wipe ha, my3, h3, rdy.mono (Stp.hid m3), ei⟩
        | true =>
          obtain ⟨r, ρ4, g4, ei⟩ := bind_ok ei
          obtain ⟨y, ρ5, g5, ei⟩ := bind_ok ei
          obtain ⟨rfl, rfl⟩ := imm_ok g5
          obtain ⟨_, ρ6, g6, ei⟩ := bind_ok ei
          obtain ⟨l6, rfl⟩ := opt_ok g6
          obtain ⟨_, ρ7, g7, ei⟩ := bind_ok ei
          cases g7
          show ∃ _, _
          refine ⟨F.hide D, A, ρ3, _, _, S3, g4, fun v H4 S4 m4 r4 => ?_⟩
          have h4 : H4 D = some (.lst accV) := m4.at h3 nD
          have my4 := my3.trans m4
          have rd4 := (rdy.mono (Stp.hid m3)).mono (Stp.hid (F := F.hide D) m4)
          refine ⟨accV, h4, by rw [rd4.len]; exact room_ok l6, _, acc ++ [y], accV ++ [v], hlt, hw ▸ (S4.wipe ha).hupd h0 hz h4, stp_upd hD my4, upd_same, ?_, ei⟩
          · rw [hid_upd hm]; exact rd4.app (.cons r4 .nil)
      · have ed : i = ds.length := by omega
        subst ed
        rw [List.drop_length] at ei
        obtain ⟨rfl, rfl⟩ := ret_ok ei
        have mb : Same (hid (zs (F.hide D) A) (upd H1 D (.lst []))) (hid (zs (F.hide D) A) Hi) := fun a o e => by
          obtain ⟨e1, e2, e3⟩ := hid_all e
          have ne : a ≠ D := fun z => e1 (zs_hide.mpr (.inl z))
          rw [upd_ne ne] at e2
          exact hid_of e1 (mi.at e2 (fun i z => e1 (mem_zs.mpr (.inr ⟨i, z⟩))) e3) e3
        exact .inl ⟨W.2 (Nat.le_refl _), q D accV Hi (Si.back (S1.hide hD sm0 (by rw [upd_same]; exact fun z => nomatch z)) mb ha ew) h0 hz (m1.trans mi) (back_none S m1 S1 hD) hDi rdi⟩
section
variable {X : Cx} {elt tg iter : Expr} {ifs : List Expr} {scope : Scope} {own : List (Str × Nat)} {pos : Pos} {fi : M (List IV)} {g : IV → M Unit} {gt : M Bool} {fe : ES} {sl : List Nat}
theorem DE.any {e : Expr} {f : ES} (h : DE X e f) : PE X e (fun σ H Q => ∃ F, tD (Gx X) F f σ H Q) := ⟨fun pins s σ H Q I ⟨F, q⟩ => (h.run F).run pins s σ H Q I q⟩
theorem DTs.any {e : List Expr} {f : M Bool} (h : DTs X e f) : PTs X e (fun σ H Q => ∃ F, tT (Gx X) F f σ H Q) := ⟨fun pins s σ H Q I ⟨F, q⟩ => (h.run F).run pins s σ H Q I q⟩
theorem DG.any {e : Expr} {f : IV → M Unit} (h : DG X e sl f) : PG X e (fun v σ H Q => ∃ F, tG (Gx X) F sl f v σ H Q) := ⟨fun pins s σ H v u Q I r ⟨F, q⟩ => (h.run F).run pins s σ H v u Q I r q⟩
theorem dn_lc (hc : X.calm = true) (hN : X.N.Nodup) (hi : DI X tg iter fi) (ok : BlkOk X.N X.env.scope scope own) (hsl : ∀ j ∈ sl, j ∈ own.map (·.2))
    (hg : ∀ (s : Shared) (H : Hp) (C : Addr) (cl : List (Str × Addr)) (fp : List Addr), DG (X.blk s H scope (compEnvC scope cl C X.env) fp) tg sl g) (ht : ∀ (s : Shared) (H : Hp) (C : Addr) (cl : List (Str × Addr)) (fp : List Addr), DTs (X.blk s H scope (compEnvC scope cl C X.env) fp) ifs gt)
    (he : ∀ (s : Shared) (H : Hp) (C : Addr) (cl : List (Str × Addr)) (fp : List Addr), DE (X.blk s H scope (compEnvC scope cl C X.env) fp) elt fe) (hs : ∀ x, foldedSetIterable iter X.env x = pure x := by intro _; rfl) :
    DN X (.ListComp elt [⟨tg, iter, ifs, 0⟩] scope pos) (nLc (own.map (·.2)) fi g gt fe) := ⟨fun F => pe_imp (pe_lc hc hN (hi.run F) ok (fun s H C cl fp => (hg s H C cl fp).any) (fun s H C cl fp => (ht s H C cl fp).any) (fun s H C cl fp => (he s H C cl fp).any) hs) fun σ H Q h => lc_rd hsl h⟩
end
end Dv
namespace Dv
open PySem PySem.Spec PyProof.Rows L2
variable [Tbl]
inductive Fl where
  | nx
  | rt (d : D)
  | rn (xs : List D)
  | bk
  | ct
def Sto (A A' : Own) (H H' : Hp) : Prop := ∀ a o, nt H a = some o → (∀ i, (i, a) ∉ A) → nt H' a = some o ∧ ∀ i, (i, a) ∉ A'
theorem Sto.refl (A : Own) (H : Hp) : Sto A A H H := fun _ _ h n => ⟨h, n⟩
theorem Sto.trans {A A1 A2 : Own} {H H1 H2 : Hp} (a : Sto A A1 H H1) (b : Sto A1 A2 H1 H2) : Sto A A2 H H2 := fun x o h n =>
  let ⟨h1, n1⟩ := a x o h n
  b x o h1 n1
theorem Sto.of {A : Own} {H H' : Hp} (m : Stp A H H') : Sto A A H H' := fun a o h n => ⟨m a o h n, n⟩
theorem Sto.less {A A' : Own} {H : Hp} (h : ∀ i a, (i, a) ∈ A' → (i, a) ∈ A) : Sto A A' H H := fun a o e n => ⟨e, fun i z => n i (h i a z)⟩
theorem Sto.hid {A A' : Own} {H H' : Hp} {F : Fm} (e : Sto A A' H H') : Same (Dv.hid (zs F A) H) (Dv.hid (zs F A') H') := fun a o h => by
  obtain ⟨h1, h2, h5⟩ := hid_all h
  obtain ⟨h3, h4⟩ := e a o (nt_of h2 h5) fun i z => h1 (mem_zs.mpr (.inr ⟨i, z⟩))
  refine hid_of (fun z => ?_) (of_nt h3 h5) h5
  rcases mem_zs.mp z with z | ⟨i, z⟩
  · exact h1 (mem_zs.mpr (.inl z))
  · exact h4 i z
def Kp (G : Gp) (F : Fm) (A : Own) (H : Hp) (ρ' : Rho) (N : St → Hp → Prop) : Prop := ∀ A' σ' H', Sts G F A' σ' ρ' H' → Sto A A' H H' → N σ' H'
theorem Kp.sto {G : Gp} {F : Fm} {A A1 : Own} {H H1 : Hp} {ρ' : Rho} {N : St → Hp → Prop} (k : Kp G F A H ρ' N) (m : Sto A A1 H H1) : Kp G F A1 H1 ρ' N := fun A' σ' H' S m' => k A' σ' H' S (m.trans m')
def OutS (G : Gp) (F : Fm) (A : Own) (H : Hp) (D : Ends) : Res Fl → Prop
  | .ok .nx ρ' => Kp G F A H ρ' D.nx
  | .ok .bk ρ' => Kp G F A H ρ' D.bk
  | .ok .ct ρ' => Kp G F A H ρ' D.ct
  | .ok (.rt d) ρ' => ∀ v A' σ' H', Sts G F A' σ' ρ' H' → RD G (hid F.Z H') v d → D.rt v H'
  | .ok (.rn xs) ρ' => ∀ p vs A' σ' H', Sts G F A' σ' ρ' H' → F.H0 p = none → H' p = some (.lst vs) → RDs G (hid (p :: F.Z) H') vs xs → D.rt (.ref p) H'
  | _ => False
theorem OutS.sto {G : Gp} {F : Fm} {A A1 : Own} {H H1 : Hp} {D : Ends} (m : Sto A A1 H H1) : ∀ {r : Res Fl}, OutS G F A H D r → OutS G F A1 H1 D r
  | .ok .nx ρ', k => Kp.sto k m
  | .ok .bk ρ', k => Kp.sto k m
  | .ok .ct ρ', k => Kp.sto k m
  | .ok (.rt d) ρ', k => k
  | .ok (.rn xs) ρ', k => k
  | .no, k => k
  | .ex _ _, k => k
abbrev SS := M Fl
def tS (G : Gp) (F : Fm) (f : SS) : TS := fun D σ H => ∃ A ρ, Sts G F A σ ρ H ∧ OutS G F A H D (f ρ)
structure DS (X : Cx) (st : Stmt) (f : SS) : Prop where
  run : ∀ F, PS X st (tS (Gx X) F f)
structure DSs (X : Cx) (st : List Stmt) (f : SS) : Prop where
  run : ∀ F, PSs X st (tS (Gx X) F f)
theorem out_bind {G : Gp} {F : Fm} {A : Own} {H : Hp} {D : Ends} {α : Type} {m : M α} {k : α → SS} {ρ : Rho} (h : OutS G F A H D (M.bind m k ρ)) : ∃ a ρ1, m ρ = .ok a ρ1 ∧ OutS G F A H D (k a ρ1) := by
  unfold M.bind at h
  cases e : m ρ with
  | no => rw [e] at h; exact h.elim
  | ex x r => rw [e] at h; exact h.elim
  | ok a r => rw [e] at h; exact ⟨a, r, rfl, h⟩
theorem out_opt {G : Gp} {F : Fm} {A : Own} {H : Hp} {D : Ends} {α : Type} {o : Option α} {k : α → SS} {ρ : Rho} (h : OutS G F A H D (M.bind (M.opt o) k ρ)) : ∃ a, o = some a ∧ OutS G F A H D (k a ρ) := by
  obtain ⟨a, ρ1, e, h⟩ := out_bind h
  obtain ⟨e1, rfl⟩ := opt_ok e
  exact ⟨a, e1, h⟩
section
variable {X : Cx} {a b e : Expr} {st : Stmt} {sts body els : List Stmt} {fa fb : ES} {f g h : SS} {pos : Pos} {i : Nat}
def sSeq (f g : SS) : SS := M.bind f fun fl => match fl with
  | .nx => g
  | o => M.ret o
def sNil : SS := M.ret .nx
theorem dss_nil : DSs X [] sNil := ⟨fun F => pss_imp pss_nil fun D σ H ⟨A, ρ, S, o⟩ => o A σ H S (Sto.refl _ _)⟩
theorem dss_one (h : DS X st f) : DSs X [st] f := ⟨fun F => pss_one (h.run F)⟩
theorem dss_cons (h : DS X st f) (k : DSs X sts g) : DSs X (st :: sts) (sSeq f g) := ⟨fun F => pss_imp (pss_cons (h.run F) (k.run F)) fun D σ H ⟨A, ρ, S, o⟩ => by
  obtain ⟨fl, ρ1, e1, o⟩ := out_bind o
  refine ⟨A, ρ, S, ?_⟩
  rw [e1]
  cases fl with
  | nx => exact fun A' σ' H' S' m => ⟨A', ρ1, S', OutS.sto m o⟩
  | _ => exact o⟩
def sNever : SS := fun _ => .no
theorem ds_never : DS X st sNever := ⟨fun F => ps_imp ps_never fun D σ H ⟨A, ρ, S, o⟩ => o⟩
def sExpr (fa : ES) : SS := M.bind fa fun _ => M.ret .nx
theorem ds_expr (ha : DE X e fa) (hs : swapsWith e none pos.line X.env = pure false := by rfl) : DS X (.Expr e pos) (sExpr fa) := ⟨fun F => ps_imp (ps_expr (ha.run F) hs) fun D σ H ⟨A, ρ, S, o⟩ => by
  obtain ⟨r, ρ1, e1, o⟩ := out_bind o
  exact ⟨A, ρ, r, ρ1, S, e1, fun v H1 S1 m1 r1 => o A σ H1 S1 (Sto.of m1)⟩⟩
def sRet (fa : ES) : SS := M.bind fa fun r => fun ρ => match r with
  | .im d => .ok (.rt d) ρ
  | .al i => match ρ[i]? with
    | some (some (.owd (.lst xs))) => .ok (.rn xs) ρ
    | _ => .no
theorem zs_Z {F : Fm} {A : Own} {H : Hp} : Same (hid (zs F A) H) (hid F.Z H) := hid_less fun a h => mem_zs.mpr (.inl h)
theorem ds_ret (ha : DE X e fa) : DS X (.Return (some e) pos) (sRet fa) := ⟨fun F => ps_imp (ps_ret (ha.run F)) fun D σ H ⟨A, ρ, S, o⟩ => by
  obtain ⟨r, ρ1, e1, o⟩ := out_bind o
  refine ⟨A, ρ, r, ρ1, S, e1, fun v H1 S1 m1 r1 => ?_⟩
  cases r with
  | im d => exact o v A σ H1 S1 (r1.mono zs_Z)
  | al i =>
    obtain ⟨a, ha, rfl⟩ := r1
    cases q : ρ1[i]? with
    | none => simp only [q] at o; exact o.elim
    | some x =>
      cases x with
      | none => simp only [q] at o; exact o.elim
      | some x =>
        cases x with
        | owd d =>
          cases d <;> try (simp only [q] at o; exact o.elim)
          rename_i xs
          simp only [q] at o
          obtain ⟨b, hb, n1, n2, _, vs, h2, h3⟩ := S1.ow i _ q
          obtain rfl := (S1.uni i i a b ha hb).mp rfl
          refine o a vs A σ H1 S1 n2 h2 (h3.mono (hid_less fun c hc => ?_))
          rcases List.mem_cons.mp hc with rfl | hc
          · exact mem_zs.mpr (.inr ⟨i, hb⟩)
          · exact mem_zs.mpr (.inl hc)
        | im d => simp only [q] at o; exact o.elim
        | bo d => simp only [q] at o; exact o.elim⟩
def sRetL (f : M (List D)) : SS := M.bind f fun xs => M.ret (.rn xs)
theorem hide_Z {F : Fm} {A : Own} {H : Hp} {p : Addr} : Same (hid (zs (F.hide p) A) H) (hid (p :: F.Z) H) := hid_less fun a h => mem_zs.mpr (.inl h)
theorem ds_retL {f : M (List D)} (ha : DN X e f) : DS X (.Return (some e) pos) (sRetL f) := ⟨fun F => ps_imp (ps_ret (ha.run F)) fun D σ H ⟨A, ρ, S, o⟩ => by
  obtain ⟨xs, ρ1, e1, o⟩ := out_bind o
  exact ⟨A, ρ, xs, ρ1, S, e1, fun p vs H1 S1 h0 hz m1 hn hp rd => o p vs A σ H1 S1.show h0 hp (rd.mono hide_Z)⟩⟩
def sRetN : SS := M.ret (.rt .non)
def sIf (g : M Bool) (f h : SS) : SS := M.bind g fun b => match b with
  | true => f
  | false => h
theorem ds_if {g : M Bool} {c : Expr} (hc : DT X c g) (ha : DSs X body f) (hb : DSs X els h) : DS X (.If c body els pos) (sIf g f h) := ⟨fun F => ps_imp (ps_if (hc.run F) (ha.run F) (hb.run F)) fun D σ H ⟨A, ρ, S, o⟩ => by
  obtain ⟨k, ρ1, e1, o⟩ := out_bind o
  refine ⟨A, ρ, k, ρ1, S, e1, fun H1 S1 m1 => ?_⟩
  cases k with
  | true =>
    rw [if_pos rfl]
    exact ⟨A, ρ1, S1, OutS.sto (Sto.of m1) o⟩
  | false =>
    rw [if_neg Bool.false_ne_true]
    exact ⟨A, ρ1, S1, OutS.sto (Sto.of m1) o⟩⟩
def sSet (i : Nat) (fa : ES) : SS := M.bind fa fun r => M.bind (imm r) fun d => M.bind (setIm i d) fun _ => M.ret .nx
theorem sto_drop {A : Own} {i : Nat} {H H' : Hp} (m : Stp A H H') : Sto A (drop1 A i) H H' := (Sto.of m).trans (Sto.less fun j a h => (mem_drop1.mp h).1)
theorem set_rd {G : Gp} {F : Fm} {D : Ends} {σ : St} {H : Hp} (h : tS G F (sSet i fa) D σ H) : tAsg (tD G F fa) (gName i) D σ H := by
  obtain ⟨A, ρ, S, o⟩ := h
  obtain ⟨r, ρ1, e1, o⟩ := out_bind o
  obtain ⟨d, ρ2, e2, o⟩ := out_bind o
  obtain ⟨rfl, rfl⟩ := imm_ok e2
  obtain ⟨u, ρ3, e3, o⟩ := out_bind o
  refine ⟨A, ρ, _, _, S, e1, fun v H1 S1 m1 r1 => ?_⟩
  obtain ⟨S2, m2⟩ := S1.set (v := v) e3 r1
  exact o _ _ _ S2 (sto_drop m1)
theorem ds_set {x : Str} {pos' : Pos} (hN : X.N.Nodup) (hi : X.N[i]? = some x) (hx : Loc X.env.scope x) (he : DE X e fa) (hs : swapsWith e (some (.Name x pos')) pos.line X.env = pure false := by rfl) (hf : X.fn x = true ∨ X.env.scope.names.lookup x = some .local := by first | exact .inl rfl | exact .inr rfl | assumption) :
    DS X (.Assign [.Name x pos'] e pos) (sSet i fa) := ⟨fun F => ps_imp (ps_set hN hi hx (he.run F) hs hf) fun D σ H h => set_rd h⟩
def sOwn (i : Nat) (f : M (List D)) : SS := M.bind f fun xs => M.bind (setOw i xs) fun _ => M.ret .nx
theorem own_rd {G : Gp} {F : Fm} {D : Ends} {σ : St} {H : Hp} {f : M (List Dv.D)} (h : tS G F (sOwn i f) D σ H) : tAsg (tN G F f) (gName i) D σ H := by
  obtain ⟨A, ρ, S, o⟩ := h
  obtain ⟨xs, ρ1, e1, o⟩ := out_bind o
  obtain ⟨u, ρ3, e3, o⟩ := out_bind o
  refine ⟨A, ρ, xs, _, S, e1, fun p vs H1 S1 h0 hz m1 hn hp rd => ?_⟩
  obtain ⟨S2, m2⟩ := S1.setN h0 hz hp rd e3
  refine o _ _ _ S2 fun a u h n => ⟨m1 a u h n, fun j z => ?_⟩
  rcases List.mem_cons.mp z with z | z
  · cases z
    rw [nt_none.mpr hn] at h; cases h
  · exact n j (mem_drop1.mp z).1
theorem ds_own {x : Str} {pos' : Pos} {f : M (List D)} (hN : X.N.Nodup) (hi : X.N[i]? = some x) (hx : Loc X.env.scope x) (he : DN X e f) (hs : swapsWith e (some (.Name x pos')) pos.line X.env = pure false := by rfl) (hf : X.fn x = true ∨ X.env.scope.names.lookup x = some .local := by first | exact .inl rfl | exact .inr rfl | assumption) :
    DS X (.Assign [.Name x pos'] e pos) (sOwn i f) := ⟨fun F => ps_imp (ps_set hN hi hx (he.run F) hs hf) fun D σ H h => own_rd h⟩
def sSetL (i : Nat) (f : M (List D)) : SS := M.bind f fun xs => M.bind (setIm i (.lst xs)) fun _ => M.ret .nx
theorem setL_rd {G : Gp} {F : Fm} {D : Ends} {σ : St} {H : Hp} {f : M (List Dv.D)} (h : tS G F (sSetL i f) D σ H) : tAsg (tN G F f) (gName i) D σ H := by
  obtain ⟨A, ρ, S, o⟩ := h
  obtain ⟨xs, ρ1, e1, o⟩ := out_bind o
  obtain ⟨u, ρ3, e3, o⟩ := out_bind o
  refine ⟨A, ρ, xs, _, S, e1, fun p vs H1 S1 h0 hz m1 hn hp rd => ?_⟩
  obtain ⟨S2, m2⟩ := S1.show.set (v := .ref p) e3 (.lst (SqL.of (hid_of hz hp)) (rd.mono show_same))
  exact o _ _ _ S2 (sto_drop m1)
section
variable {elt tg iter : Expr} {ifs : List Expr} {scope : Scope} {own : List (Str × Nat)} {spos py : Pos} {fi : M (List IV)} {gg : IV → M Unit} {gt : M Bool} {fe : ES} {sl : List Nat} {y : Str}
theorem ps_lcN (hc : X.calm = true) (hN : X.N.Nodup) (hy : X.N[i]? = some y) (hyl : X.env.scope.names.lookup y = some .local)
    (hsw : swapsWith (.ListComp elt [⟨tg, iter, ifs, 0⟩] scope pos) (some (.Name y py)) spos.line X.env = pure true) (hi : DI X tg iter fi) (ok : BlkOk X.N X.env.scope scope own) (hsl : ∀ j ∈ sl, j ∈ own.map (·.2))
    (hg : ∀ (s : Shared) (H : Hp) (C : Addr) (cl : List (Str × Addr)) (fp : List Addr), DG (X.blk s H scope (compEnvC scope cl C X.env) fp) tg sl gg) (ht : ∀ (s : Shared) (H : Hp) (C : Addr) (cl : List (Str × Addr)) (fp : List Addr), DTs (X.blk s H scope (compEnvC scope cl C X.env) fp) ifs gt)
    (he : ∀ (s : Shared) (H : Hp) (C : Addr) (cl : List (Str × Addr)) (fp : List Addr), DE (X.blk s H scope (compEnvC scope cl C X.env) fp) elt fe) (hs : ∀ x, foldedSetIterable iter X.env x = pure x := by intro _; rfl) :
    ∀ F, PS X (.Assign [.Name y py] (.ListComp elt [⟨tg, iter, ifs, 0⟩] scope pos) spos) (tAsg (tN (Gx X) F (nLc (own.map (·.2)) fi gg gt fe)) (gName i)) := fun F =>
  ps_imp (ps_setLc hc hN hy hyl hsw (hi.run F) ok (fun s H C cl fp => (hg s H C cl fp).any) (fun s H C cl fp => (ht s H C cl fp).any) (fun s H C cl fp => (he s H C cl fp).any) hs) fun D σ H h => lc_rd hsl h
theorem ds_lcSet {st : Stmt} {f : M (List D)} (h : ∀ F, PS X st (tAsg (tN (Gx X) F f) (gName i))) : DS X st (sSetL i f) := ⟨fun F => ps_imp (h F) fun D σ H h => setL_rd h⟩
end
def sAsg (fa : ES) (g : IV → M Unit) : SS := M.bind fa fun r => M.bind (imm r) fun d => M.bind (g (.im d)) fun _ => M.ret .nx
theorem ds_asg {tg : Expr} {sl : List Nat} {gg : IV → M Unit} (he : DE X e fa) (hg : DG X tg sl gg) (hs : swapsWithSole [tg] e pos.line X.env = pure false := by rfl) (hw : swappedStores [tg] e X.env = pure none := by rfl)
    (h1 : (assignEach [tg] X.env).map (·.2) = [assign tg X.env] := by rfl) : DS X (.Assign [tg] e pos) (sAsg fa gg) := ⟨fun F => ps_imp (ps_asg (he.run F) (hg.run F) hs hw h1) fun D σ H ⟨A, ρ, S, o⟩ => by
  obtain ⟨r, ρ1, e1, o⟩ := out_bind o
  obtain ⟨d, ρ2, e2, o⟩ := out_bind o
  obtain ⟨rfl, rfl⟩ := imm_ok e2
  obtain ⟨u, ρ3, e3, o⟩ := out_bind o
  refine ⟨A, ρ, _, _, S, e1, fun v H1 S1 m1 r1 => ⟨A, _, .im d, ρ3, S1, r1, e3, fun σ' S2 m2 _ _ => ?_⟩⟩
  exact o _ _ _ S2 ((Sto.of m1).trans (Sto.less fun j a h => (mem_dropL.mp h).1))⟩
def sPar (i j : Nat) (fs : M (List RV)) : SS := M.bind fs fun rs => match rs with
  | [ra, rb] => M.bind (imm ra) fun x => M.bind (imm rb) fun y => M.bind (setIm i x) fun _ => M.bind (setIm j y) fun _ => M.ret .nx
  | _ => fun _ => .no
def sWhile (g : M Bool) (f : SS) : Nat → SS
  | 0 => fun _ => .no
  | n + 1 => M.bind g fun b => match b with
    | false => M.ret .nx
    | true => M.bind f fun fl => match fl with
      | .nx => sWhile g f n
      | .ct => sWhile g f n
      | .bk => M.ret .nx
      | o => M.ret o
theorem ds_while {c : Expr} {g : M Bool} (n : Nat) (hp : PassesOwn (model X.prog X.w) X.A X.env X.xe) (hc : DT X c g) (hb : DSs X body f) : DS X (.While c body [] pos) (sWhile g f n) := ⟨fun F => ps_imp (ps_while hp (hc.run F) (hb.run F)) fun D σ H ⟨A, ρ, S, o⟩ => by
  refine ⟨fun m σ H => ∃ A ρ, Sts (Gx X) F A σ ρ H ∧ OutS (Gx X) F A H D (sWhile g f m ρ), ⟨n, A, ρ, S, o⟩, ?_⟩
  rintro m σ1 H1 ⟨A1, ρ1, S1, o1⟩
  cases m with
  | zero => exact o1.elim
  | succ m =>
    obtain ⟨k, ρ2, e2, o1⟩ := out_bind o1
    refine ⟨A1, ρ1, k, ρ2, S1, e2, fun H2 S2 m2 => ?_⟩
    have o2 := OutS.sto (Sto.of m2) o1
    cases k with
    | false => exact iteF (o2 A1 σ1 H2 S2 (Sto.refl _ _))
    | true =>
      obtain ⟨fl, ρ3, e3, o3⟩ := out_bind o2
      refine iteT ⟨fun σ' H' => ∃ A ρ, Sts (Gx X) F A σ' ρ H' ∧ OutS (Gx X) F A H' D (sWhile g f m ρ), fun σ' H' ⟨A', ρ', S', o'⟩ => ⟨m, Nat.lt_succ_self m, A', ρ', S', o'⟩, A1, ρ2, S2, ?_⟩
      rw [e3]
      cases fl with
      | nx => exact fun A' σ' H' S' m' => ⟨A', ρ3, S', OutS.sto m' o3⟩
      | ct => exact fun A' σ' H' S' m' => ⟨A', ρ3, S', OutS.sto m' o3⟩
      | bk => exact o3
      | rt d => exact o3
      | rn xs => exact o3⟩
def forL (gg : IV → M Unit) (f : SS) : List IV → SS
  | [] => M.ret .nx
  | d :: ds => M.bind (gg d) fun _ => M.bind f fun fl => match fl with
    | .nx => forL gg f ds
    | .ct => forL gg f ds
    | .bk => M.ret .nx
    | o => M.ret o
def sFor (fi : M (List IV)) (gg : IV → M Unit) (f : SS) : SS := M.bind fi fun ds => forL gg f ds
theorem ds_for {tg iter : Expr} {fi : M (List IV)} {gg : IV → M Unit} {sl : List Nat} (hp : PassesOwn (model X.prog X.w) X.A X.env X.xe) (hc : X.calm = true) (hi : DI X tg iter fi) (hg : DG X tg sl gg) (hb : DSs X body f)
    (hs : ∀ x, foldedSetIterable iter X.env x = pure x := by intro _; rfl) : DS X (.For tg iter body [] pos) (sFor fi gg f) := ⟨fun F => ps_imp (ps_for hp hc (hi.run F) (hg.run F) (hb.run F) hs) fun D σ H ⟨A, ρ, S, o⟩ => by
  obtain ⟨ds, ρ1, e1, o⟩ := out_bind o
  refine ⟨A, ρ, ds, ρ1, S, e1, fun J H1 S1 m1 wk => ?_⟩
  have o1 := OutS.sto (Sto.of m1) o
  refine ⟨fun i m σ H => ∃ A' ρ', i ≤ ds.length ∧ m = ds.length - i ∧ Sts (Gx X) F A' σ ρ' H ∧ Sto A A' H1 H ∧ OutS (Gx X) F A' H D (forL gg f (ds.drop i) ρ'), ⟨ds.length, A, ρ1, Nat.zero_le _, by simp, S1, Sto.refl _ _, by simpa using o1⟩, ?_⟩
  rintro i m σ2 H2 ⟨A2, ρ2, hi, rfl, S2, m2, o2⟩
  have W := wk i H2 (zs F A2) S2.zall m2.hid
  by_cases hlt : i < ds.length
  · obtain ⟨go, yl⟩ := W.1 ds[i] (List.getElem?_eq_getElem hlt)
    rw [List.drop_eq_getElem_cons hlt] at o2
    refine .inr ⟨go, fun σ' H' => ∃ A' ρ', Sts (Gx X) F A' σ' ρ' H' ∧ Sto A A' H1 H' ∧ OutS (Gx X) F A' H' D (forL gg f (ds.drop (i + 1)) ρ'), fun σ' H' ⟨A', ρ', a1, a2, a3⟩ => ⟨ds.length - (i + 1), by omega, A', ρ', hlt, rfl, a1, a2, a3⟩, fun x H' hy => ?_⟩
    obtain ⟨smy, rix⟩ := yl x H' hy
    obtain ⟨_, ρ3, e3, o3⟩ := out_bind o2
    refine ⟨A2, ρ2, ds[i], ρ3, S2.same smy, rix, e3, fun σ3 S3 m3 _ _ => ?_⟩
    have ms : Sto A2 (dropL A2 sl) H2 H' := (Sto.of (Stp.of smy)).trans (Sto.less fun j a h => (mem_dropL.mp h).1)
    have o4 := OutS.sto ms o3
    obtain ⟨fl, ρ4, e4, o5⟩ := out_bind o4
    refine ⟨_, ρ3, S3, ?_⟩
    rw [e4]
    cases fl with
    | nx => exact fun A' σ' H' S' m' => ⟨A', ρ4, S', (m2.trans ms).trans m', OutS.sto m' o5⟩
    | ct => exact fun A' σ' H' S' m' => ⟨A', ρ4, S', (m2.trans ms).trans m', OutS.sto m' o5⟩
    | bk => exact o5
    | rt d => exact o5
    | rn xs => exact o5
  · have ed : i = ds.length := by omega
    subst ed
    rw [List.drop_length] at o2
    exact .inl ⟨W.2 (Nat.le_refl _), o2 A2 σ2 H2 S2 (Sto.refl _ _)⟩⟩
end
end Dv
namespace Dv
open PySem PySem.Spec PyProof.Rows L2
variable [Tbl]
inductive FR where
  | im (d : D)
  | nw (xs : List D)
abbrev Outs := List (Option (List D))
def bosAt (l : Outs) (i : Nat) : Option (List D) := match l[i]? with
  | some o => o
  | none => none
def bos : Rho → Outs
  | [] => []
  | some (.bo xs) :: r => some xs :: bos r
  | _ :: r => match bos r with
    | [] => []
    | t => none :: t
theorem bos_skip (t : Outs) (i : Nat) : bosAt (match t with
    | [] => []
    | t => none :: t) (i + 1) = bosAt t i := by
  cases t with
  | nil => simp [bosAt]
  | cons a t => simp [bosAt]
theorem bos_at : ∀ (ρ : Rho) (i : Nat) (xs : List D), ρ[i]? = some (some (.bo xs)) → bosAt (bos ρ) i = some xs
  | [], i, xs, h => by simp at h
  | x :: r, 0, xs, h => by
    simp at h
    subst h
    rfl
  | x :: r, i + 1, xs, h => by
    have ih := bos_at r i xs (by simpa using h)
    cases x with
    | none => exact (bos_skip (bos r) i).trans ih
    | some s =>
      cases s with
      | bo ys => show bosAt (some ys :: bos r) (i + 1) = _; simpa [bosAt] using ih
      | im d => exact (bos_skip (bos r) i).trans ih
      | owd d => exact (bos_skip (bos r) i).trans ih
inductive ArgsOk (G : Gp) (Z : List Addr) (H : Hp) : Nat → List V → List SV → Own → Prop
  | nil (k : Nat) : ArgsOk G Z H k [] [] []
  | im {k : Nat} {v : V} {d : D} {vs : List V} {svs : List SV} {B : Own} : RD G (hid Z H) v d → ArgsOk G Z H (k + 1) vs svs B → ArgsOk G Z H k (v :: vs) (.im d :: svs) B
  | bo {k : Nat} {a : Addr} {xs : List D} {ws vs : List V} {svs : List SV} {B : Own} : a ∈ Z → H a = some (.lst ws) → RDs G (hid Z H) ws xs → ArgsOk G Z H (k + 1) vs svs B → ArgsOk G Z H k (.ref a :: vs) (.bo xs :: svs) ((k, a) :: B)
def OutsOk (G : Gp) (Z : List Addr) (H' : Hp) (B : Own) (outs : Outs) : Prop := ∀ (i : Nat) a, (i, a) ∈ B → ∃ xs ws, bosAt outs i = some xs ∧ H' a = some (.lst ws) ∧ RDs G (hid Z H') ws xs
def RetOk (G : Gp) (Z : List Addr) (H H' : Hp) (v : V) : FR → Prop
  | .im d => RD G (hid Z H') v d
  | .nw xs => ∃ p vs, v = .ref p ∧ H p = none ∧ H' p = some (.lst vs) ∧ RDs G (hid (p :: Z) H') vs xs
abbrev FD := List SV → Option (FR × Outs)
def spD (G : Gp) (g : FD) : Sp := fun vs H Q _ => ∃ Z svs B fr outs, (ZOk Z H ∧ LamX.Tabs Tbl.T H) ∧ ArgsOk G Z H 0 vs svs B ∧ (B.map (·.2)).Nodup ∧ g svs = some (fr, outs) ∧
  ∀ v H', Stp B H H' ∧ LamX.Tabs Tbl.T H' → OutsOk G Z H' B outs → RetOk G Z H H' v fr → Q v H'
section
variable {G : Gp} {Z : List Addr} {H : Hp} {k : Nat} {vs : List V} {svs : List SV} {B : Own}
theorem ArgsOk.len (h : ArgsOk G Z H k vs svs B) : vs.length = svs.length := by
  induction h with
  | nil => rfl
  | im _ _ ih => rw [List.length_cons, List.length_cons, ih]
  | bo _ _ _ _ ih => rw [List.length_cons, List.length_cons, ih]
theorem ArgsOk.imAt (h : ArgsOk G Z H k vs svs B) : ∀ (i : Nat) d, svs[i]? = some (.im d) → ∃ v, vs[i]? = some v ∧ RD G (hid Z H) v d := by
  induction h with
  | nil => intro i d e; simp at e
  | im r _ ih =>
    intro i d e
    cases i with
    | zero => simp at e; subst e; exact ⟨_, rfl, r⟩
    | succ i => simpa using ih i d (by simpa using e)
  | bo _ _ _ _ ih =>
    intro i d e
    cases i with
    | zero => simp at e
    | succ i => simpa using ih i d (by simpa using e)
theorem ArgsOk.boAt (h : ArgsOk G Z H k vs svs B) : ∀ (i : Nat) xs, svs[i]? = some (.bo xs) → ∃ a ws, (k + i, a) ∈ B ∧ vs[i]? = some (.ref a) ∧ H a = some (.lst ws) ∧ RDs G (hid Z H) ws xs := by
  induction h with
  | nil => intro i d e; simp at e
  | im r _ ih =>
    intro i d e
    cases i with
    | zero => simp at e
    | succ i =>
      obtain ⟨a, ws, h1, h2⟩ := ih i d (by simpa using e)
      exact ⟨a, ws, by rw [Nat.add_comm i 1, ← Nat.add_assoc]; exact h1, by simpa using h2⟩
  | @bo k a xs ws _ _ _ ha h1 h2 _ ih =>
    intro i d e
    cases i with
    | zero => simp at e; subst e; exact ⟨a, ws, List.mem_cons_self, rfl, h1, h2⟩
    | succ i =>
      obtain ⟨a, ws, h1, h2⟩ := ih i d (by simpa using e)
      exact ⟨a, ws, by rw [Nat.add_comm i 1, ← Nat.add_assoc]; exact List.mem_cons_of_mem _ h1, by simpa using h2⟩
theorem ArgsOk.noOw (h : ArgsOk G Z H k vs svs B) : ∀ (i : Nat) xs, svs[i]? ≠ some (.owd xs) := by
  induction h with
  | nil => intro i xs e; simp at e
  | im r _ ih =>
    intro i xs e
    cases i with
    | zero => simp at e
    | succ i => exact ih i xs (by simpa using e)
  | bo _ _ _ _ ih =>
    intro i xs e
    cases i with
    | zero => simp at e
    | succ i => exact ih i xs (by simpa using e)
theorem ArgsOk.inB (h : ArgsOk G Z H k vs svs B) : ∀ (j : Nat) a, (j, a) ∈ B → a ∈ Z ∧ ∃ i xs, j = k + i ∧ svs[i]? = some (.bo xs) ∧ vs[i]? = some (.ref a) := by
  induction h with
  | nil => intro j a e; cases e
  | im r _ ih =>
    intro j a e
    obtain ⟨h1, i, xs, h2, h3, h4⟩ := ih j a e
    exact ⟨h1, i + 1, xs, by omega, by simpa using h3, by simpa using h4⟩
  | @bo k b xs ws _ _ _ hb h1 h2 _ ih =>
    intro j a e
    rcases List.mem_cons.mp e with e | e
    · cases e
      exact ⟨hb, 0, xs, rfl, rfl, rfl⟩
    · obtain ⟨h1, i, xs, h2, h3, h4⟩ := ih j a e
      exact ⟨h1, i + 1, xs, by omega, by simpa using h3, by simpa using h4⟩
end
def entry (n : Nat) (svs : List SV) : Rho := svs.map some ++ List.replicate (n - svs.length) none
theorem entry_some {n i : Nat} {svs : List SV} {x : SV} (h : (entry n svs)[i]? = some (some x)) : svs[i]? = some x := by
  unfold entry at h
  by_cases hi : i < svs.length
  · rw [List.getElem?_append_left (by simpa using hi), List.getElem?_map] at h
    obtain ⟨y, e1, e2⟩ := Option.map_eq_some_iff.mp h
    rw [e1]; exact e2
  · rw [List.getElem?_append_right (by simpa using hi), List.getElem?_replicate] at h
    split at h <;> cases h
theorem entry_of {n i : Nat} {svs : List SV} {x : SV} (h : svs[i]? = some x) : (entry n svs)[i]? = some (some x) := by
  unfold entry
  have hi : i < svs.length := (List.getElem?_eq_some_iff.mp h).1
  rw [List.getElem?_append_left (by simpa using hi), List.getElem?_map, h]
  rfl
theorem start_of {N : List Str} {vs : List V} {i : Nat} {v : V} (h : vs[i]? = some v) : (start N vs)[i]? = some (some v) := by
  unfold L2.start
  have hi : i < vs.length := (List.getElem?_eq_some_iff.mp h).1
  rw [List.getElem?_append_left (by simpa using hi), List.getElem?_map, h]
  rfl
theorem nd_fst {B : Own} (h : (B.map (·.2)).Nodup) : ∀ (i j : Nat) a, (i, a) ∈ B → (j, a) ∈ B → i = j := by
  induction B with
  | nil => intro i j a e; cases e
  | cons p B ih =>
    intro i j a e1 e2
    rw [List.map_cons, List.nodup_cons] at h
    rcases List.mem_cons.mp e1 with e1 | e1
    · rcases List.mem_cons.mp e2 with e2 | e2
      · rw [← e1] at e2; exact (congrArg Prod.fst e2).symm
      · exact absurd (List.mem_map.mpr ⟨(j, a), e2, by rw [← e1]⟩) h.1
    · rcases List.mem_cons.mp e2 with e2 | e2
      · exact absurd (List.mem_map.mpr ⟨(i, a), e1, by rw [← e2]⟩) h.1
      · exact ih h.2 i j a e1 e2
theorem Sts.entry {G : Gp} {Z : List Addr} {H : Hp} {vs : List V} {svs : List SV} {B : Own} {N : List Str} (h : ArgsOk G Z H 0 vs svs B) (z : ZOk Z H ∧ LamX.Tabs Tbl.T H) (nd : (B.map (·.2)).Nodup) (hn : svs.length ≤ N.length) :
    Sts G ⟨H, Z, B⟩ B (start N vs) (entry N.length svs) H := by
  have key : Same (hid Z H) (hid (zs ⟨H, Z, B⟩ B) H) := hid_less fun a ha => by
    rcases mem_zs.mp ha with ha | ⟨i, ha⟩
    · exact ha
    · exact (h.inB i a ha).1
  refine ⟨?_, fun i d e => ?_, fun i xs e => ?_, fun i xs e => ?_, fun i a e => ?_, fun i j a b e1 e2 => ⟨fun q => ?_, fun q => ?_⟩, fun i a e => ?_, fun a o e _ => e, z.1, z.2⟩
  · unfold L2.start Dv.entry
    rw [List.length_append, List.length_append, List.length_map, List.length_map, List.length_replicate, List.length_replicate, h.len]
  · obtain ⟨v, h1, h2⟩ := h.imAt i d (entry_some e)
    exact ⟨v, start_of h1, h2.mono key⟩
  · exact absurd (entry_some e) (h.noOw i xs)
  · obtain ⟨a, ws, h1, h2, h3, h4⟩ := h.boAt i xs (entry_some e)
    rw [Nat.zero_add] at h1
    exact ⟨a, h1, h1, start_of h2, ws, h3, h4.mono key⟩
  · obtain ⟨_, j, xs, e1, e2, _⟩ := h.inB i a e
    rw [Nat.zero_add] at e1
    subst e1
    exact ⟨.lst xs, .inr ⟨xs, rfl, entry_of e2⟩⟩
  · subst q
    obtain ⟨_, k1, _, q1, _, q3⟩ := h.inB i a e1
    obtain ⟨_, k2, _, q4, _, q5⟩ := h.inB i b e2
    have : k1 = k2 := by omega
    subst this
    rw [q3] at q5
    cases q5
    rfl
  · subst q
    exact nd_fst nd i j a e1 e2
  · obtain ⟨_, j, xs, e1, e2, _⟩ := h.inB i a e
    rw [Nat.zero_add] at e1
    subst e1
    exact ⟨e, xs, entry_of e2⟩
def runF (n : Nat) (f : SS) : FD := fun svs => match f (entry n svs) with
  | .ok .nx ρ => some (.im .non, bos ρ)
  | .ok (.rt d) ρ => some (.im d, bos ρ)
  | .ok (.rn xs) ρ => some (.nw xs, bos ρ)
  | _ => none
structure FnG (P : Program) (w : World) (K : PySem.W.Frag) (mg : Str → Option Value) (base : Heap) (CX : CXT) (k : Nat) (f : Addr) (fd : FuncData) (ps : List Str) (sp : Sp) : Prop where
  len : ∀ vs H Q E, sp vs H Q E → vs.length = ps.length
  go : ∀ (A : Around) (outer : List Env) (s : Shared) (H : Hp) (args : Args) (us : List Value) (vs : List V) (Q : VK) (E : XK), Room k A → A.guards = some [] → Env0 P w K mg base A outer s H →
    BindsTo s fd args (ps.zip us) → Vals vs us → sp vs H Q E → codeAny (model P w) A (.call (.ref f) args) (CR CX outer P w H s Q E) s
theorem FnG.up {P : Program} {w : World} {K : PySem.W.Frag} {mg : Str → Option Value} {base : Heap} {CX : CXT} {j k : Nat} {f : Addr} {fd : FuncData} {ps : List Str} {sp : Sp} (h : FnG P w K mg base CX j f fd ps sp) (q : j ≤ k) : FnG P w K mg base CX k f fd ps sp :=
  ⟨h.len, fun A o s H args us vs Q E r => h.go A o s H args us vs Q E (r.mono q)⟩
section
variable {X : Cx} {CX : CXT} {k : Nat} {f : Addr} {fd : FuncData} {ps : List Str} {sp : Sp} {E : XK} {x : Str} {p pos : Pos} {e : Expr} {es : List Expr} {t : TA} {dvs : List V} {dus : List Value}
theorem callG {pins : List (Addr × Obj)} {σ : St} {H : Hp} {s : Shared} {Q : VK} {us : List Value} {vs : List V} (h : FnG X.prog X.w X.K X.mg X.base CX k f fd ps sp) (hr : Room k X.A) (gd : X.A.guards = some []) (hb : Binds X.K fd ps dus) (hd : Vals dvs dus) (hx : Passes CX X E)
    (I : Inv X pins σ H s) (r : Vals vs us) (q : sp (vs ++ dvs) H Q E) : wpAny (model X.prog X.w) X.A (call (.ref f) us) (EP X pins σ Q) X.xe s := by
  have rr : Vals (vs ++ dvs) (us ++ dus) := r.append hd
  have len : (us ++ dus).length = ps.length := rr.length ▸ h.len _ _ _ _ q
  apply wpAny_call
  apply codeAny_mono (h.go X.A X.stack s H ⟨us, []⟩ (us ++ dus) (vs ++ dvs) Q E hr gd I.env0 (hb s us I.kIn len) rr q)
  intro res s' hq
  cases res with
  | error e => exact hx pins σ H s e s' I hq
  | ok fl =>
    cases fl with
    | ret u => exact I.after hq
    | _ => exact False.elim hq
theorem pe_callG (h : FnG X.prog X.w X.K X.mg X.base CX k f fd ps sp) (hr : Room k X.A) (gd : X.A.guards = some []) (hg : Gl X x) (hm : X.mg x = some (.ref f)) (hk : PySem.W.keepIn X.K (.ref f) = true) (hb : Binds X.K fd ps dus) (hd : Vals dvs dus) (hx : Passes CX X E)
    (ha : PA X (e :: es) t) (hdb : (x == ("__debug__" : Str)) = false := by decide) (he : starEach (e :: es) X.env = (false, eval e X.env) :: starEach es X.env := by rfl) (hpl : (backTo pos (starEach es X.env)).any (·.1) = false := by rfl) :
    PE X (.Call (.Name x p) (e :: es) [] pos) (tCall sp dvs E t) := by
  constructor
  intro pins s σ H Q I hw
  apply wpAny_Call_Name_kw
  apply ld_glob I hg hm (hd := hdb)
  apply PySem.W.callWith_K (h₀ := X.base) I.ok.mod.kin hk (he := he) (hplain := hpl)
  apply thn (ha.run pos pins s σ H _ I hw)
  rintro us s1 ⟨vs, H1, I1, r, q⟩
  exact ⟨I1.kIn, callG h hr gd hb hd hx I1 r q⟩
end
def toSV (ρ : Rho) : RV → Option SV
  | .im d => some (.im d)
  | .al i => match ρ[i]? with
    | some (some (.owd (.lst xs))) => some (.bo xs)
    | some (some (.bo xs)) => some (.bo xs)
    | _ => none
def toSVs (ρ : Rho) : List RV → Option (List SV)
  | [] => some []
  | r :: rs => match toSV ρ r, toSVs ρ rs with
    | some x, some xs => some (x :: xs)
    | _, _ => none
def noAl (i : Nat) : List RV → Bool
  | [] => true
  | .al j :: rs => (i != j) && noAl i rs
  | .im _ :: rs => noAl i rs
def apart : List RV → Bool
  | [] => true
  | .al i :: rs => noAl i rs && apart rs
  | .im _ :: rs => apart rs
def putBack (outs : Outs) : Nat → List RV → Rho → Option Rho
  | _, [], ρ => some ρ
  | k, .im _ :: rs, ρ => putBack outs (k + 1) rs ρ
  | k, .al i :: rs, ρ => match bosAt outs k, ρ[i]? with
    | some xs, some (some (.owd (.lst _))) => putBack outs (k + 1) rs (ρ.set i (some (.ow xs)))
    | some xs, some (some (.bo _)) => putBack outs (k + 1) rs (ρ.set i (some (.bo xs)))
    | _, _ => none
def uCall (g : FD) (rs : List RV) : M FR := fun ρ => match apart rs with
  | true => match toSVs ρ rs with
    | some svs => match g svs with
      | some (fr, outs) => match putBack outs 0 rs ρ with
        | some ρ' => .ok fr ρ'
        | none => .no
      | none => .no
    | none => .no
  | false => .no
def LentOk (A : Own) : Nat → List RV → Own → Prop
  | _, [], B => B = []
  | k, .im _ :: rs, B => LentOk A (k + 1) rs B
  | k, .al i :: rs, B => ∃ a B', B = (k, a) :: B' ∧ (i, a) ∈ A ∧ LentOk A (k + 1) rs B'
theorem noAl_ne {i j : Nat} : ∀ {rs : List RV}, noAl i rs = true → .al j ∈ rs → i ≠ j
  | .al k :: rs, h, m => by
    rw [noAl, Bool.and_eq_true] at h
    rcases List.mem_cons.mp m with m | m
    · cases m; simpa using h.1
    · exact noAl_ne h.2 m
  | .im _ :: rs, h, m => by
    rcases List.mem_cons.mp m with m | m
    · cases m
    · exact noAl_ne (rs := rs) h m
theorem LentOk.mem {A : Own} : ∀ {rs : List RV} {k : Nat} {B : Own} {j : Nat} {a : Addr}, LentOk A k rs B → (j, a) ∈ B → ∃ i, (i, a) ∈ A ∧ .al i ∈ rs
  | [], k, B, j, a, h, m => by cases (show B = [] from h); cases m
  | .im _ :: rs, k, B, j, a, h, m => by
    obtain ⟨i, h1, h2⟩ := LentOk.mem (rs := rs) (show LentOk A (k + 1) rs B from h) m
    exact ⟨i, h1, List.mem_cons_of_mem _ h2⟩
  | .al i :: rs, k, B, j, a, h, m => by
    obtain ⟨b, B', rfl, hb, h⟩ := h
    rcases List.mem_cons.mp m with m | m
    · cases m; exact ⟨i, hb, List.mem_cons_self⟩
    · obtain ⟨i', h1, h2⟩ := LentOk.mem (rs := rs) h m
      exact ⟨i', h1, List.mem_cons_of_mem _ h2⟩
theorem LentOk.nd {G : Gp} {F : Fm} {A : Own} {σ : St} {ρ : Rho} {H : Hp} (S : Sts G F A σ ρ H) : ∀ {rs : List RV} {k : Nat} {B : Own}, LentOk A k rs B → apart rs = true → (B.map (·.2)).Nodup
  | [], k, B, h, _ => by cases (show B = [] from h); exact List.nodup_nil
  | .im _ :: rs, k, B, h, ap => LentOk.nd S (rs := rs) (show LentOk A (k + 1) rs B from h) ap
  | .al i :: rs, k, B, h, ap => by
    obtain ⟨b, B', rfl, hb, h⟩ := h
    rw [apart, Bool.and_eq_true] at ap
    rw [List.map_cons, List.nodup_cons]
    refine ⟨fun m => ?_, LentOk.nd S h ap.2⟩
    obtain ⟨⟨j, c⟩, m1, m2⟩ := List.mem_map.mp m
    obtain ⟨i', h1, h2⟩ := h.mem m1
    dsimp only at m2
    subst m2
    exact noAl_ne ap.1 h2 ((S.uni i i' _ _ hb h1).mpr rfl)
theorem lend {G : Gp} {F : Fm} {A : Own} {σ : St} {ρ : Rho} {H : Hp} (S : Sts G F A σ ρ H) : ∀ {vs : List V} {rs : List RV} (k : Nat) {svs : List SV}, RRs G F A H vs rs → toSVs ρ rs = some svs → ∃ B, ArgsOk G (zs F A) H k vs svs B ∧ LentOk A k rs B
  | _, _, k, svs, .nil, e => by cases e; exact ⟨[], .nil k, rfl⟩
  | _, _, k, svs, .cons (r := r) (rs := rs) q h, e => by
    simp only [toSVs] at e
    split at e
    · rename_i x xs e1 e2
      cases e
      obtain ⟨B, h1, h2⟩ := lend S (k + 1) h e2
      cases r with
      | im d => cases e1; exact ⟨B, .im q h1, h2⟩
      | al i =>
        obtain ⟨a, ha, rfl⟩ := q
        have az : a ∈ zs F A := mem_zs.mpr (.inr ⟨i, ha⟩)
        simp only [toSV] at e1
        split at e1
        · rename_i ys e3
          cases e1
          obtain ⟨b, hb, _, _, _, ws, h3, h4⟩ := S.ow i _ e3
          obtain rfl := (S.uni i i a b ha hb).mp rfl
          exact ⟨_, .bo az h3 h4 h1, a, B, rfl, ha, h2⟩
        · rename_i ys e3
          cases e1
          obtain ⟨b, hb, _, _, ws, h3, h4⟩ := S.bo i _ e3
          obtain rfl := (S.uni i i a b ha hb).mp rfl
          exact ⟨_, .bo az h3 h4 h1, a, B, rfl, ha, h2⟩
        · cases e1
    · cases e
structure Sts' (G : Gp) (F : Fm) (A : Own) (σ : St) (ρ : Rho) (H : Hp) (L : List RV) : Prop where
  len : σ.length = ρ.length
  im : ∀ (i : Nat) d, ρ[i]? = some (some (.im d)) → ∃ v, σ[i]? = some (some v) ∧ RD G (hid (zs F A) H) v d
  ow : ∀ (i : Nat) xs, ρ[i]? = some (some (.owd xs)) → ∃ a, (i, a) ∈ A ∧ a ∉ F.Z ∧ F.H0 a = none ∧ σ[i]? = some (some (.ref a)) ∧ (.al i ∉ L → OwAt G F A σ H i a xs)
  bo : ∀ (i : Nat) xs, ρ[i]? = some (some (.bo xs)) → ∃ a, (i, a) ∈ A ∧ (i, a) ∈ F.B ∧ σ[i]? = some (some (.ref a)) ∧ (.al i ∉ L → OwAt G F A σ H i a (.lst xs))
  own : ∀ (i : Nat) a, (i, a) ∈ A → ∃ d, ρ[i]? = some (some (.owd d)) ∨ ∃ xs, d = .lst xs ∧ ρ[i]? = some (some (.bo xs))
  uni : ∀ (i j : Nat) a b, (i, a) ∈ A → (j, b) ∈ A → (i = j ↔ a = b)
  bor : ∀ (i : Nat) a, (i, a) ∈ F.B → (i, a) ∈ A ∧ ∃ xs, ρ[i]? = some (some (.bo xs))
  keep : ∀ a o, nt F.H0 a = some o → (∀ i, (i, a) ∉ F.B) → nt H a = some o
  zok : ZOk F.Z H
  tabs : LamX.Tabs Tbl.T H
theorem Sts'.done {G : Gp} {F : Fm} {A : Own} {σ : St} {ρ : Rho} {H : Hp} (S : Sts' G F A σ ρ H []) : Sts G F A σ ρ H :=
  ⟨S.len, S.im, fun i xs e => let ⟨a, h1, h2, h3, h4, h5⟩ := S.ow i xs e; ⟨a, h1, h2, h3, h5 (fun z => nomatch z)⟩, fun i xs e => let ⟨a, h1, h2, h4, h5⟩ := S.bo i xs e; ⟨a, h1, h2, h5 (fun z => nomatch z)⟩, S.own, S.uni, S.bor, S.keep, S.zok, S.tabs⟩
theorem Sts'.skip {G : Gp} {F : Fm} {A : Own} {σ : St} {ρ : Rho} {H : Hp} {d : D} {L : List RV} (S : Sts' G F A σ ρ H (.im d :: L)) : Sts' G F A σ ρ H L := by
  have e : ∀ {i : Nat}, RV.al i ∉ L → RV.al i ∉ RV.im d :: L := fun h z => by
    rcases List.mem_cons.mp z with z | z
    · cases z
    · exact h z
  exact ⟨S.len, S.im, fun i xs q => let ⟨a, h1, h2, h3, h4, h5⟩ := S.ow i xs q; ⟨a, h1, h2, h3, h4, fun z => h5 (e z)⟩, fun i xs q => let ⟨a, h1, h2, h4, h5⟩ := S.bo i xs q; ⟨a, h1, h2, h4, fun z => h5 (e z)⟩, S.own, S.uni, S.bor, S.keep, S.zok, S.tabs⟩
theorem Sts'.one {G : Gp} {F : Fm} {A : Own} {σ : St} {ρ : Rho} {H : Hp} {i : Nat} {a : Addr} {xs : List D} {ws : List V} {x : SV} {L : List RV} (S : Sts' G F A σ ρ H (.al i :: L)) (ha : (i, a) ∈ A) (h1 : H a = some (.lst ws)) (h2 : RDs G (hid (zs F A) H) ws xs)
    (hx : ((∃ ys, ρ[i]? = some (some (.ow ys))) ∧ x = .ow xs) ∨ ((∃ ys, ρ[i]? = some (some (.bo ys))) ∧ x = .bo xs)) : Sts' G F A σ (ρ.set i (some x)) H L := by
  have hi : i < ρ.length := by
    rcases hx with ⟨⟨ys, h⟩, _⟩ | ⟨⟨ys, h⟩, _⟩ <;> exact (List.getElem?_eq_some_iff.mp h).1
  have e0 : ∀ {j : Nat}, i ≠ j → RV.al j ∉ L → RV.al j ∉ RV.al i :: L := fun n h z => by
    rcases List.mem_cons.mp z with z | z
    · cases z; exact n rfl
    · exact h z
  refine ⟨by rw [List.length_set]; exact S.len, fun j d e => ?_, fun j ys e => ?_, fun j ys e => ?_, fun j b e => ?_, S.uni, fun j b e => ?_, S.keep, S.zok, S.tabs⟩
  · by_cases z : i = j
    · subst z
      rw [List.getElem?_set_self hi] at e
      rcases hx with ⟨_, rfl⟩ | ⟨_, rfl⟩ <;> cases e
    · rw [List.getElem?_set_ne z] at e
      exact S.im j d e
  · by_cases z : i = j
    · subst z
      rw [List.getElem?_set_self hi] at e
      rcases hx with ⟨⟨zs', h⟩, rfl⟩ | ⟨_, rfl⟩
      · cases e
        obtain ⟨b, g1, g2, g3, g4, _⟩ := S.ow i _ h
        obtain rfl := (S.uni i i a b ha g1).mp rfl
        exact ⟨a, ha, g2, g3, g4, fun _ => ⟨g4, ws, h1, h2⟩⟩
      · cases e
    · rw [List.getElem?_set_ne z] at e
      obtain ⟨b, g1, g2, g3, g4, g5⟩ := S.ow j ys e
      exact ⟨b, g1, g2, g3, g4, fun q => g5 (e0 z q)⟩
  · by_cases z : i = j
    · subst z
      rw [List.getElem?_set_self hi] at e
      rcases hx with ⟨_, rfl⟩ | ⟨⟨zs', h⟩, rfl⟩
      · cases e
      · cases e
        obtain ⟨b, g1, g2, g3, _⟩ := S.bo i _ h
        obtain rfl := (S.uni i i a b ha g1).mp rfl
        exact ⟨a, ha, g2, g3, fun _ => ⟨g3, ws, h1, h2⟩⟩
    · rw [List.getElem?_set_ne z] at e
      obtain ⟨b, g1, g2, g4, g5⟩ := S.bo j ys e
      exact ⟨b, g1, g2, g4, fun q => g5 (e0 z q)⟩
  · by_cases z : i = j
    · subst z
      rw [List.getElem?_set_self hi]
      rcases hx with ⟨_, rfl⟩ | ⟨_, rfl⟩
      · exact ⟨.lst xs, .inl rfl⟩
      · exact ⟨.lst xs, .inr ⟨xs, rfl, rfl⟩⟩
    · rw [List.getElem?_set_ne z]
      exact S.own j b e
  · obtain ⟨g1, ys, g2⟩ := S.bor j b e
    refine ⟨g1, ?_⟩
    by_cases z : i = j
    · subst z
      rw [List.getElem?_set_self hi]
      rcases hx with ⟨⟨zs', h⟩, rfl⟩ | ⟨_, rfl⟩
      · rw [h] at g2; cases g2
      · exact ⟨xs, rfl⟩
    · rw [List.getElem?_set_ne z]
      exact ⟨ys, g2⟩
theorem take_back {G : Gp} {F : Fm} {A : Own} {σ : St} {H : Hp} {outs : Outs} : ∀ {rs : List RV} {k : Nat} {B : Own} {ρ ρ' : Rho}, Sts' G F A σ ρ H rs → LentOk A k rs B → (∀ (j : Nat) a, (j, a) ∈ B → ∃ xs ws, bosAt outs j = some xs ∧ H a = some (.lst ws) ∧ RDs G (hid (zs F A) H) ws xs) →
    putBack outs k rs ρ = some ρ' → Sts G F A σ ρ' H
  | [], k, B, ρ, ρ', S, _, _, e => by cases e; exact S.done
  | .im _ :: rs, k, B, ρ, ρ', S, h, ho, e => take_back (rs := rs) (k := k + 1) S.skip h ho e
  | .al i :: rs, k, B, ρ, ρ', S, h, ho, e => by
    obtain ⟨a, B', rfl, ha, h⟩ := h
    obtain ⟨xs, ws, q1, q2, q3⟩ := ho k a List.mem_cons_self
    simp only [putBack, q1] at e
    split at e
    · rename_i xs' ys e1 e2
      cases e1
      exact take_back (S.one ha q2 q3 (.inl ⟨⟨ys, e2⟩, rfl⟩)) h (fun j b m => ho j b (List.mem_cons_of_mem _ m)) e
    · rename_i xs' ys e1 e2
      cases e1
      exact take_back (S.one ha q2 q3 (.inr ⟨⟨ys, e2⟩, rfl⟩)) h (fun j b m => ho j b (List.mem_cons_of_mem _ m)) e
    · cases e
theorem call_core {G : Gp} {F : Fm} {A : Own} {σ : St} {ρ ρ' : Rho} {H : Hp} {vs : List V} {rs : List RV} {svs : List SV} {outs : Outs} (S : Sts G F A σ ρ H) (r : RRs G F A H vs rs) (ap : apart rs = true) (e1 : toSVs ρ rs = some svs) (e3 : putBack outs 0 rs ρ = some ρ') :
    ∃ B, ArgsOk G (zs F A) H 0 vs svs B ∧ (B.map (·.2)).Nodup ∧ ∀ H', Stp B H H' ∧ LamX.Tabs Tbl.T H' → OutsOk G (zs F A) H' B outs → Sts G F A σ ρ' H' ∧ Stp A H H' := by
  obtain ⟨B, h1, h2⟩ := lend S 0 r e1
  have inA : ∀ j a, (j, a) ∈ B → ∃ i, (i, a) ∈ A ∧ .al i ∈ rs := fun j a m => h2.mem m
  refine ⟨B, h1, h2.nd S ap, fun H' ⟨m, tt⟩ o => ?_⟩
  have mA : Stp A H H' := fun a u hu n => m a u hu fun j z => let ⟨i, hi, _⟩ := inA j a z; n i hi
  have hs := mA.hid (F := F)
  refine ⟨?_, mA⟩
  refine take_back (rs := rs) (k := 0) (B := B) (outs := outs) (ρ := ρ) ⟨S.len, fun i d h => ?_, fun i xs h => ?_, fun i xs h => ?_, S.own, S.uni, S.bor, fun a u h n => ?_, fun a ha => ?_, tt⟩ h2 o e3
  · obtain ⟨w, h3, h4⟩ := S.im i d h
    exact ⟨w, h3, h4.mono hs⟩
  · obtain ⟨a, h3, h4, h5, h6, hc⟩ := S.ow i xs h
    refine ⟨a, h3, h4, h5, h6, fun nl => ⟨h6, hc.move (fun u y t => m.at y (fun j z => ?_) t) hs⟩⟩
    obtain ⟨i', h9, h10⟩ := inA j a z
    obtain rfl := (S.uni i i' a a h3 h9).mpr rfl
    exact nl h10
  · obtain ⟨a, h3, h5, h6, ws, h7, h8⟩ := S.bo i xs h
    refine ⟨a, h3, h5, h6, fun nl => ⟨h6, ws, m.at h7 fun j z => ?_, h8.mono hs⟩⟩
    obtain ⟨i', h9, h10⟩ := inA j a z
    obtain rfl := (S.uni i i' a a h3 h9).mpr rfl
    exact nl h10
  · refine m a u (S.keep a u h n) fun j z => ?_
    obtain ⟨i, h3, _⟩ := inA j a z
    obtain ⟨xs, h4 | ⟨_, _, h4⟩⟩ := S.own i a h3
    · obtain ⟨b, g1, _, g2, _⟩ := S.ow i xs h4
      obtain rfl := (S.uni i i a b h3 g1).mp rfl
      rw [nt_none.mpr g2] at h; cases h
    · obtain ⟨b, g1, g2, _⟩ := S.bo i _ h4
      obtain rfl := (S.uni i i a b h3 g1).mp rfl
      exact n i g2
  · intro z
    cases hu : H a with
    | none => exact S.zok a ha hu
    | some u =>
      by_cases hb : ∃ j, (j, a) ∈ B
      · obtain ⟨j, hb⟩ := hb
        obtain ⟨xs, ws, _, h3, _⟩ := o j a hb
        rw [h3] at z; cases z
      · exact m.there (fun j y => hb ⟨j, y⟩) (by rw [hu]; exact fun z => nomatch z) z
theorem user_rd {G : Gp} {F : Fm} {A : Own} {σ : St} {ρ ρ' : Rho} {H : Hp} {vs : List V} {rs : List RV} {g : FD} {fr : FR} {Q : VK} {E : XK} (S : Sts G F A σ ρ H) (r : RRs G F A H vs rs) (e : uCall g rs ρ = .ok fr ρ')
    (q : ∀ v H', Sts G F A σ ρ' H' → Stp A H H' → RetOk G (zs F A) H H' v fr → Q v H') : spD G g vs H Q E := by
  unfold uCall at e
  split at e
  · rename_i ap
    split at e
    · rename_i svs e1
      split at e
      · rename_i fr' outs e2
        split at e
        · rename_i ρ2 e3
          cases e
          obtain ⟨B, h1, nd, core⟩ := call_core S r ap e1 e3
          exact ⟨zs F A, svs, B, fr, outs, ⟨S.zall, S.tabs⟩, h1, nd, e2, fun v H' m o ret => q v H' (core H' m o).1 (core H' m o).2 ret⟩
        · cases e
      · cases e
    · cases e
  · cases e
def eUser (g : FD) (fs : M (List RV)) : ES := M.bind fs fun rs => M.bind (uCall g rs) fun fr => match fr with
  | .im d => M.ret (.im d)
  | .nw xs => M.ret (.im (.lst xs))
theorem user_tD {G : Gp} {F : Fm} {σ : St} {H : Hp} {g : FD} {fs : M (List RV)} {Q : VK} {E : XK} (h : tD G F (eUser g fs) σ H Q) : tCall (spD G g) [] E (tDs G F fs) σ H Q := by
  obtain ⟨A, ρ, r, ρ', S, e, q⟩ := h
  obtain ⟨rs, ρ1, e1, e⟩ := bind_ok e
  obtain ⟨fr, ρ2, e2, e⟩ := bind_ok e
  refine ⟨A, ρ, rs, ρ1, S, e1, fun vs H1 S1 m1 r1 => ?_⟩
  show spD G g (vs ++ []) H1 Q E
  rw [List.append_nil]
  refine user_rd S1 r1 e2 fun v H' S' m' ret => ?_
  cases fr with
  | im d =>
    obtain ⟨rfl, rfl⟩ := ret_ok e
    exact q v H' S' (m1.trans m') ret
  | nw xs =>
    obtain ⟨rfl, rfl⟩ := ret_ok e
    obtain ⟨p, ws, rfl, hp, h1, h2⟩ := ret
    refine q _ H' S' (m1.trans m') (.lst (SqL.of (hid_of (S1.zall.out hp) h1)) (h2.mono (hid_less fun a ha => List.mem_cons_of_mem _ ha)))
theorem zs_hide_eq {F : Fm} {A : Own} {H : Hp} {p : Addr} : Same (hid (p :: zs F A) H) (hid (zs (F.hide p) A) H) := hid_less fun a h => by
  rcases zs_hide.mp h with rfl | h
  · exact List.mem_cons_self
  · exact List.mem_cons_of_mem _ h
def allIm : List RV → Bool
  | [] => true
  | .im _ :: rs => allIm rs
  | .al _ :: _ => false
theorem allIm_B {A : Own} : ∀ {rs : List RV} {k : Nat} {B : Own}, allIm rs = true → LentOk A k rs B → B = []
  | [], _, _, _, h => h
  | .im _ :: rs, k, _, e, h => allIm_B (rs := rs) (k := k + 1) e h
  | .al _ :: _, _, _, e, _ => by cases e
theorem putBack_im {outs : Outs} {ρ : Rho} : ∀ {rs : List RV} {k : Nat}, allIm rs = true → putBack outs k rs ρ = some ρ
  | [], _, _ => rfl
  | .im _ :: rs, k, e => putBack_im (rs := rs) (k := k + 1) e
  | .al _ :: _, _, e => by cases e
def nUser (g : FD) (fs : M (List RV)) : M (List D) := M.bind fs fun rs => match allIm rs with
  | true => M.bind (uCall g rs) fun fr => match fr with
    | .nw xs => M.ret xs
    | .im _ => fun _ => .no
  | false => fun _ => .no
theorem user_rdN {G : Gp} {F : Fm} {A : Own} {σ : St} {ρ ρ' : Rho} {H : Hp} {vs : List V} {rs : List RV} {g : FD} {fr : FR} {Q : VK} {E : XK} (S : Sts G F A σ ρ H) (r : RRs G F A H vs rs) (ai : allIm rs = true) (e : uCall g rs ρ = .ok fr ρ')
    (q : ∀ v H', ρ' = ρ → SameN H H' → LamX.Tabs Tbl.T H' → RetOk G (zs F A) H H' v fr → Q v H') : spD G g vs H Q E := by
  unfold uCall at e
  split at e
  · split at e
    · rename_i svs e1
      split at e
      · rename_i fr' outs e2
        rw [putBack_im ai] at e
        cases e
        obtain ⟨B, h1, h2⟩ := lend S 0 r e1
        obtain rfl := allIm_B ai h2
        exact ⟨zs F A, svs, [], fr, outs, ⟨S.zall, S.tabs⟩, h1, List.nodup_nil, e2, fun v H' ⟨m, tt⟩ o ret => q v H' rfl m.sameN tt ret⟩
      · cases e
    · cases e
  · cases e
theorem user_tN {G : Gp} {F : Fm} {σ : St} {H : Hp} {g : FD} {fs : M (List RV)} {Q : VK} {E : XK} (h : tN G F (nUser g fs) σ H Q) : tCall (spD G g) [] E (tDs G F fs) σ H Q := by
  obtain ⟨A, ρ, r, ρ', S, e, q⟩ := h
  obtain ⟨rs, ρ1, e1, e⟩ := bind_ok e
  cases ai : allIm rs with
  | false => rw [ai] at e; cases e
  | true =>
    rw [ai] at e
    obtain ⟨fr, ρ2, e2, e⟩ := bind_ok e
    refine ⟨A, ρ, rs, ρ1, S, e1, fun vs H1 S1 m1 r1 => ?_⟩
    show spD G g (vs ++ []) H1 Q E
    rw [List.append_nil]
    refine user_rdN S1 r1 ai e2 fun v H' e3 sm tt ret => ?_
    cases fr with
    | im d => cases e
    | nw xs =>
      obtain ⟨rfl, rfl⟩ := ret_ok e
      obtain ⟨p, ws, rfl, hp, h1, h2⟩ := ret
      rw [e3] at q
      exact q p ws H' (S1.hideN hp sm tt (by rw [h1]; exact fun z => nomatch z)) (S1.h0 hp) (S1.zall.out hp) (m1.trans (Stp.ofN sm)) (back_none S m1 S1 hp) h1 (h2.mono zs_hide_eq)
theorem user_call {X : Cx} {k : Nat} {f : Addr} {fd : FuncData} {ps : List Str} {g : FD} {x : Str} {p pos : Pos} {e : Expr} {es : List Expr} {fs : M (List RV)} (h : FnG X.prog X.w X.K X.mg X.base CX0 k f fd ps (spD (Gx X) g)) (hr : Room k X.A) (gd : X.A.guards = some []) (hg : Gl X x) (hm : X.mg x = some (.ref f))
    (hk : PySem.W.keepIn X.K (.ref f) = true) (hb : Binds X.K fd ps []) (ha : DA X (e :: es) fs) (hdb : (x == ("__debug__" : Str)) = false := by decide) (he : starEach (e :: es) X.env = (false, eval e X.env) :: starEach es X.env := by rfl)
    (hpl : (backTo pos (starEach es X.env)).any (·.1) = false := by rfl) : DE X (.Call (.Name x p) (e :: es) [] pos) (eUser g fs) := ⟨fun F => pe_imp (pe_callG h hr gd hg hm hk hb .nil pass0 (ha.run F) hdb he hpl) fun σ H Q q => user_tD (E := E0) q⟩
theorem user_callN {X : Cx} {k : Nat} {f : Addr} {fd : FuncData} {ps : List Str} {g : FD} {x : Str} {p pos : Pos} {e : Expr} {es : List Expr} {fs : M (List RV)} (h : FnG X.prog X.w X.K X.mg X.base CX0 k f fd ps (spD (Gx X) g)) (hr : Room k X.A) (gd : X.A.guards = some []) (hg : Gl X x) (hm : X.mg x = some (.ref f))
    (hk : PySem.W.keepIn X.K (.ref f) = true) (hb : Binds X.K fd ps []) (ha : DA X (e :: es) fs) (hdb : (x == ("__debug__" : Str)) = false := by decide) (he : starEach (e :: es) X.env = (false, eval e X.env) :: starEach es X.env := by rfl)
    (hpl : (backTo pos (starEach es X.env)).any (·.1) = false := by rfl) : DN X (.Call (.Name x p) (e :: es) [] pos) (nUser g fs) := ⟨fun F => pe_imp (pe_callG h hr gd hg hm hk hb .nil pass0 (ha.run F) hdb he hpl) fun σ H Q q => user_tN (E := E0) q⟩
def defF (n m : Nat) (f : SS) : FD := fun svs => match decide (svs.length = n) with
  | true => runF m f svs
  | false => none
theorem body_ok {X : Cx} {body : List Stmt} {f : SS} {N : List Str} {H : Hp} {vs : List V} {Q : VK} {E : XK} {n : Nat} (hn : n ≤ N.length) (h : DSs X body f) (q : spD (Gx X) (defF n N.length f) vs H Q E) :
    ∃ t, PSs X body t ∧ t { nx := fun _ H' => Q .non H', rt := Q } (start N vs) H := by
  obtain ⟨Z, svs, B, fr, outs, z, ao, nd, e, k⟩ := q
  unfold defF at e
  split at e
  · rename_i hl
    have hl := of_decide_eq_true hl
    refine ⟨_, h.run ⟨H, Z, B⟩, B, entry N.length svs, Sts.entry ao z nd (by omega), ?_⟩
    have fin : ∀ {A' σ' ρ' H'}, Sts (Gx X) ⟨H, Z, B⟩ A' σ' ρ' H' → (Stp B H H' ∧ LamX.Tabs Tbl.T H') ∧ OutsOk (Gx X) Z H' B (bos ρ') := fun {A' σ' ρ' H'} S => by
      refine ⟨⟨fun a o h n => S.keep a o h n, S.tabs⟩, fun i a hb => ?_⟩
      obtain ⟨h1, xs, h2⟩ := S.bor i a hb
      obtain ⟨b, h3, h4, _, ws, h5, h6⟩ := S.bo i xs h2
      obtain rfl := (S.uni i i a b h1 h3).mp rfl
      exact ⟨xs, ws, bos_at ρ' i xs h2, h5, h6.mono zs_Z⟩
    unfold runF at e
    split at e
    · rename_i ρ' e1
      cases e
      rw [e1]
      exact fun A' σ' H' S m => k .non H' (fin S).1 (fin S).2 .non
    · rename_i d ρ' e1
      cases e
      rw [e1]
      exact fun v A' σ' H' S r => k v H' (fin S).1 (fin S).2 r
    · rename_i xs ρ' e1
      cases e
      rw [e1]
      exact fun p ws A' σ' H' S h0 hp r => k (.ref p) H' (fin S).1 (fin S).2 ⟨p, ws, rfl, h0, hp, r⟩
    · cases e
  · cases e
theorem spD_len {G : Gp} {n m : Nat} {f : SS} {vs : List V} {H : Hp} {Q : VK} {E : XK} (q : spD G (defF n m f) vs H Q E) : vs.length = n := by
  obtain ⟨Z, svs, B, fr, outs, z, ao, nd, e, k⟩ := q
  unfold defF at e
  split at e
  · rename_i hl
    rw [ao.len]; exact of_decide_eq_true hl
  · cases e
abbrev cxG (P : Program) (w : World) (K : PySem.W.Frag) (mg : Str → Option Value) (base : Heap) (N : List Str) (qual : Str) (sc : Scope) (f : Addr) (cdv : Value) (A : Around) (outer : List Env) (s : Shared) (H : Hp) (E : XK) : Cx := (cxOf CX0 P w K mg base N qual sc f cdv A outer s H E).nox
theorem fnG_ok {P : Program} {w : World} {K : PySem.W.Frag} {mg : Str → Option Value} {base : Heap} {x qual : Str} {pa : Arguments} {body : List Stmt} {sc : Scope} {f : Addr} {fd : FuncData} {N ps : List Str} {k : Nat} {g : SS} (D : FunD K x qual pa body sc [] [] f fd) (S : FnScope N ps sc)
    (h : ∀ (cdv : Value) (A : Around) (outer : List Env) (s : Shared) (H : Hp) (E : XK), Room k (A.deeper (envOfC qual sc s.heap.objs.size f cdv)) → A.guards = some [] → DSs (cxG P w K mg base N qual sc f cdv A outer s H E) body g) :
    FnG P w K mg base CX0 (k + 1) f fd ps (spD ⟨K, mg, P, w⟩ (defF ps.length N.length g)) := by
  obtain ⟨oc, od, dV, kV, doc, pm, an, cdv, ct, osl, rfl, lk, hcd, _, _⟩ := D.ex
  refine ⟨fun vs H Q E q => spD_len q, ?_⟩
  intro A outer s H args us vs Q E room gd e0 hb r q
  have hpl : ps.length ≤ N.length := by
    have z := congrArg List.length S.pre
    rw [List.length_take] at z
    omega
  have vl : vs.length = ps.length := spD_len q
  have kin : K.In s.heap := e0.mod.kin.keeps fun b o z => (e0.bs b o z).1
  have nl : s.heap.NoLimit := e0.mod.nolimit.keeps fun b o z => (e0.bs b o z).1
  have kinds : ∀ y ∈ ps.zip us, sc.names.lookup y.1 = some .local ∨ (sc.names.lookup y.1 = some .cell ∧ ((cellsFrom (s.heap.objs.size + 1) sc.names []).lookup y.1).isSome = true) := by
    rintro ⟨n, v⟩ hy
    have hp := S.par n (List.of_mem_zip hy).1
    rcases hp with hp | hp
    · exact .inl hp
    · exact .inr ⟨hp, PySem.W.cellsFrom_some _ _ _ (.inl hp)⟩
  apply codeAny_call_function room.depth (kin _ _ lk) rfl S.co S.gen rfl (PySem.W.codeRec_of kin hcd)
  apply hb
  apply wpAny_newFunctionEnv_cells S.kind kinds
  intro env he s1 ic
  subst he
  refine ⟨nl.keeps ic.toInCall.keep, codeAny_func ?_⟩
  obtain ⟨t, ht, hq⟩ := body_ok (E := E) hpl (h cdv A outer s H E (room.deeper _) gd) q
  have I := inv_start (CX := CX0) (P := P) (w := w) (K := K) (mg := mg) (base := base) (f := f) (cd := cdv) (A := A) (E := E) S room.hd e0 vl r ic
  have J := ht.nox.run [] s1 (start N vs) H _ I hq
  refine wpAny_mono J (fun fl s' hs => ?_) fun e s' hs => hs
  have done : ∀ {σ' : L2.St} {H' : Hp} {v : V} {u : Value}, Inv (cxOf CX0 P w K mg base N qual sc f cdv A outer s H E) [] σ' H' s' → RelV v u → Q v H' → CE outer P w H s Q u s' := fun {σ' H' v u} I' rv qv => ⟨v, H', I'.os, I'.bare, I'.base, I'.hok, rv, qv⟩
  cases fl with
  | next => obtain ⟨σ', H', I', qv⟩ := hs; exact done (v := .non) (u := .none) I' rfl qv
  | ret u => obtain ⟨v, σ', H', I', rv, qv⟩ := hs; exact done I' rv qv
  | brk => obtain ⟨_, _, _, z⟩ := hs; exact z.elim
  | cont => obtain ⟨_, _, _, z⟩ := hs; exact z.elim
end Dv
namespace Dv
open PySem PySem.Spec PyProof.Rows L2
variable [Tbl]
section
variable {X : Cx}
theorem ret_int {G : Gp} {Z : List Addr} {H : Hp} {i : Int} {Q : VK} (q : ∀ v H', Same H H' → RD G (hid Z H') v (.int i) → Q v H') : Q (.int i) H := q _ H (Same.refl _) (.int i)
theorem ret_bl {G : Gp} {Z : List Addr} {H : Hp} {i : Bool} {Q : VK} (q : ∀ v H', Same H H' → RD G (hid Z H') v (.bl i) → Q v H') : Q (.bl i) H := q _ H (Same.refl _) (.bl i)
theorem ret_str {G : Gp} {Z : List Addr} {H : Hp} {i : Str} {Q : VK} (q : ∀ v H', Same H H' → RD G (hid Z H') v (.str i) → Q v H') : Q (.str i) H := q _ H (Same.refl _) (.str i)
def gI (c : Int → Int → Bool) (f : Int → Int → D) : D → D → Option D
  | .int i, .int j => if c i j = true then some (f i j) else none
  | _, _ => none
theorem opD_I {f : Value → Value → Sem Value} {C : Int → Int → Prop} {c : Int → Int → Bool} {h : Int → Int → Int} (ho : OpR X f (rI C fun i j => .int (h i j))) (hc : ∀ i j, c i j = true → C i j) : OpD X f (gI c fun i j => .int (h i j)) :=
  ⟨_, ho, fun Z H x y dx dy d Q z rx ry e q => by
    unfold gI at e
    split at e
    · rename_i i j
      by_cases k : c i j = true
      · rw [if_pos k] at e
        cases e
        exact ⟨i, j, rx.int, ry.int, hc i j k, ret_int q⟩
      · rw [if_neg k] at e; cases e
    · cases e⟩
def gI0 (f : Int → Int → D) : D → D → Option D
  | .int i, .int j => some (f i j)
  | _, _ => none
theorem opD_I0 {f : Value → Value → Sem Value} {h : Int → Int → Int} (ho : OpR X f (rI0 fun i j => .int (h i j))) : OpD X f (gI0 fun i j => .int (h i j)) :=
  ⟨_, ho, fun Z H x y dx dy d Q z rx ry e q => by
    unfold gI0 at e
    split at e
    · rename_i i j
      cases e
      exact ⟨i, j, rx.int, ry.int, ret_int q⟩
    · cases e⟩
theorem opD_B0 {f : Value → Value → Sem Value} {h : Int → Int → Bool} (ho : OpR X f (rI0 fun i j => .bl (h i j))) : OpD X f (gI0 fun i j => .bl (h i j)) :=
  ⟨_, ho, fun Z H x y dx dy d Q z rx ry e q => by
    unfold gI0 at e
    split at e
    · rename_i i j
      cases e
      exact ⟨i, j, rx.int, ry.int, ret_bl q⟩
    · cases e⟩
def gSub := gI0 fun i j => .int (i - j)
theorem od_sub : OpD X (binaryOp .Sub) gSub := opD_I0 op_sub
def cMul (i j : Int) : Bool := decide (i.natAbs < 2 ^ 64) || decide (j.natAbs < 2 ^ 64) || (decide (i.natAbs < 2 ^ 4000) && decide (j.natAbs < 2 ^ 4000))
theorem cMul_ok {i j : Int} (h : cMul i j = true) : CMulW i j ∨ CMul i j := by
  unfold cMul at h
  rw [Bool.or_eq_true, Bool.or_eq_true, Bool.and_eq_true] at h
  rcases h with (h | h) | ⟨h1, h2⟩
  · have h := of_decide_eq_true h
    exact .inr (.inl ⟨by omega, by omega⟩)
  · have h := of_decide_eq_true h
    exact .inr (.inr ⟨by omega, by omega⟩)
  · exact .inl (wide_mul (of_decide_eq_true h1) (of_decide_eq_true h2) (by decide) (by decide) (by decide))
def gMul := gI cMul fun i j => .int (i * j)
theorem od_mul : OpD X (binaryOp .Mult) gMul := ⟨_, op_mulW.or op_mul, fun Z H x y dx dy d Q z rx ry e q => by
  unfold gMul gI at e
  split at e
  · rename_i i j
    by_cases k : cMul i j = true
    · rw [if_pos k] at e
      cases e
      rcases cMul_ok k with k | k
      · exact .inl ⟨i, j, rx.int, ry.int, k, ret_int q⟩
      · exact .inr ⟨i, j, rx.int, ry.int, k, ret_int q⟩
    · rw [if_neg k] at e; cases e
  · cases e⟩
def cDiv (i j : Int) : Bool := decide (0 < j) && decide (j.natAbs < 2 ^ 4000)
def gDiv := gI cDiv fun i j => .int (i / j)
theorem od_div : OpD X (binaryOp .FloorDiv) gDiv := opD_I op_fdivW fun i j h => by
  unfold cDiv at h
  rw [Bool.and_eq_true] at h
  exact wide_div (of_decide_eq_true h.1) (of_decide_eq_true h.2) (by decide) (by decide)
def gMod := gI (fun _ j => decide (0 < j)) fun i j => .int (i % j)
theorem od_mod : OpD X (binaryOp .Mod) gMod := opD_I op_mod fun i j h => of_decide_eq_true h
def cPow (i j : Int) : Bool := decide (0 ≤ j) && decide (j ≤ 1000000) && decide (i.natAbs < 2 ^ 64)
theorem cPow_ok (i j : Int) (h : cPow i j = true) : CPow i j := by
  unfold cPow at h
  rw [Bool.and_eq_true, Bool.and_eq_true] at h
  exact ⟨of_decide_eq_true h.1.1, of_decide_eq_true h.1.2, of_decide_eq_true h.2⟩
def cPowW (i j : Int) : Bool := cPow i j || (decide (0 ≤ j) && decide (j ≤ 1000) && decide (i.natAbs < 2 ^ 4000))
theorem bitsW {a n : Int} (ha : a.natAbs < 2 ^ 4000) (h0 : 0 ≤ n) (hn : n ≤ 1000) : (Builtin.Int.intBits a : Int) * n ≤ 2 ^ 27 := by
  have hb : Builtin.Int.intBits a ≤ 4000 := intBits_le ha
  have h1 : (Builtin.Int.intBits a : Int) * n ≤ 4000 * n := Int.mul_le_mul_of_nonneg_right (by omega) h0
  omega
theorem op_powW : OpR X (binaryOp .Pow) (rI (fun i j => cPowW i j = true) fun i j => .int (i ^ j.toNat)) := opI fun i j _ _ _ _ _ hc q => by
  unfold cPowW at hc
  rw [Bool.or_eq_true] at hc
  rcases hc with hc | hc
  · obtain ⟨h1, h2, h3⟩ := cPow_ok i j hc
    exact pow_int_small h1 h2 h3 q
  · rw [Bool.and_eq_true, Bool.and_eq_true] at hc
    exact pow_int (of_decide_eq_true hc.1.1) (bitsW (of_decide_eq_true hc.2) (of_decide_eq_true hc.1.1) (of_decide_eq_true hc.1.2)) q
def gPow := gI cPowW fun i j => .int (i ^ j.toNat)
theorem od_pow : OpD X (binaryOp .Pow) gPow := opD_I op_powW fun _ _ h => h
def gLt := gI0 fun i j => .bl (decide (i < j))
theorem od_lt : OpD X (compareOp .Lt) gLt := opD_B0 op_lt
def gLe := gI0 fun i j => .bl (decide (i ≤ j))
theorem od_le : OpD X (compareOp .LtE) gLe := opD_B0 op_le
def gGt := gI0 fun i j => .bl (decide (j < i))
theorem od_gt : OpD X (compareOp .Gt) gGt := opD_B0 op_gt
def gGe := gI0 fun i j => .bl (decide (j ≤ i))
def gNeg : D → Option D
  | .int i => some (.int (-i))
  | _ => none
theorem ud_neg : UnD X (unaryOp .USub) gNeg := ⟨_, un_neg, fun Z H x dx d Q z rx e q => by
  cases dx <;> cases e
  exact ⟨_, rx.int, ret_int q⟩⟩
def gAbs : List D → Option D
  | [.int i] => some (.int (if i < 0 then -i else i))
  | _ => none
theorem cd_abs : CallD X (.builtin "abs") gAbs := ⟨_, call_abs, fun Z H xs ds d Q z r e q => by
  unfold gAbs at e
  split at e
  · cases e
    obtain ⟨v, rfl, r1⟩ := r.one
    rw [r1.int]
    exact ⟨_, rfl, ret_int q⟩
  · cases e⟩
def gMax2 : List D → Option D
  | [.int i, .int j] => some (.int (if j > i then j else i))
  | _ => none
theorem cd_max2 (hc : X.calm = true) : CallD X (.builtin "max") gMax2 := ⟨_, call_max2 hc, fun Z H xs ds d Q z r e q => by
  unfold gMax2 at e
  split at e
  · cases e
    obtain ⟨v, u, rfl, r1, r2⟩ := r.two
    rw [r1.int, r2.int]
    exact ⟨_, _, rfl, ret_int q⟩
  · cases e⟩
def gMin2 : List D → Option D
  | [.int i, .int j] => some (.int (if j < i then j else i))
  | _ => none
theorem cd_min2 (hc : X.calm = true) : CallD X (.builtin "min") gMin2 := ⟨_, call_min2 hc, fun Z H xs ds d Q z r e q => by
  unfold gMin2 at e
  split at e
  · cases e
    obtain ⟨v, u, rfl, r1, r2⟩ := r.two
    rw [r1.int, r2.int]
    exact ⟨_, _, rfl, ret_int q⟩
  · cases e⟩
def gInt : List D → Option D
  | [.int i] => some (.int i)
  | [.bl k] => some (.int (if k then 1 else 0))
  | _ => none
theorem cd_int : CallD X (.type "int") gInt := ⟨_, call_int1, fun Z H xs ds d Q z r e q => by
  unfold gInt at e
  split at e
  · cases e
    obtain ⟨v, rfl, r1⟩ := r.one
    exact .inl ⟨_, by rw [r1.int], ret_int q⟩
  · cases e
    obtain ⟨v, rfl, r1⟩ := r.one
    exact .inr ⟨_, by rw [r1.bl], ret_int q⟩
  · cases e⟩
def gLen : List D → Option D
  | [.lst xs] => some (.int xs.length)
  | [.tup xs] => some (.int xs.length)
  | [.str x] => if x.length ≤ 1000000 then some (.int x.length) else none
  | _ => none
theorem cd_len : CallD X (.builtin "len") gLen := ⟨_, call_len, fun Z H xs ds d Q z r e q => by
  unfold gLen at e
  split at e
  · cases e
    obtain ⟨v, rfl, r1⟩ := r.one
    obtain ⟨a, vs, rfl, h1, h2⟩ := r1.lst
    exact ⟨_, vs.length, rfl, .inl ⟨vs, h1, rfl⟩, by rw [h2.len]; exact ret_int q⟩
  · cases e
    obtain ⟨v, rfl, r1⟩ := r.one
    obtain ⟨a, vs, rfl, h1, h2⟩ := r1.tup
    exact ⟨_, vs.length, rfl, .inr ⟨vs, h1.sq, rfl⟩, by rw [h2.len]; exact ret_int q⟩
  · rename_i x
    by_cases hx : x.length ≤ 1000000
    · rw [if_pos hx] at e
      cases e
      obtain ⟨v, rfl, r1⟩ := r.one
      rw [r1.str]
      exact ⟨_, x.length, rfl, ⟨len_line hx, rfl⟩, ret_int q⟩
    · rw [if_neg hx] at e; cases e
  · cases e⟩
end
section
variable {X : Cx}
def keyK : D → Option Key
  | .int i => some (.inl i)
  | .str x => some (.inr x)
  | _ => none
def keysK : List D → Option (List Key)
  | [] => some []
  | d :: r => match keyK d, keysK r with
    | some k, some l => some (k :: l)
    | _, _ => none
theorem keyK_eq {d : D} {k : Key} (h : keyK d = some k) : d = keyD k := by
  cases d <;> cases h <;> rfl
theorem keysK_eq : ∀ {ds : List D} {l : List Key}, keysK ds = some l → ds = l.map keyD
  | [], l, h => by cases h; rfl
  | d :: r, l, h => by
    unfold keysK at h
    split at h
    · rename_i k l' e1 e2
      cases h
      rw [keyK_eq e1, keysK_eq e2]; rfl
    · cases h
theorem RD.key {G : Gp} {H : Hp} {v : V} {k : Key} (h : RD G H v (keyD k)) : v = kV k := by
  cases k <;> (cases h; rfl)
theorem RDs.keys {G : Gp} {H : Hp} : ∀ {l : List Key} {vs : List V}, RDs G H vs (l.map keyD) → vs = l.map kV
  | [], _, h => by cases h; rfl
  | k :: r, _, h => by
    cases h with
    | cons a b => rw [a.key, RDs.keys b]; rfl
def eq1 : D → D → Bool
  | .int a, .int b => decide (a = b)
  | .str a, .str b => decide (a = b)
  | _, _ => false
def eqL : List D → List D → Bool
  | [], [] => true
  | a :: r, b :: s => eq1 a b && eqL r s
  | _, _ => false
def eqKey : D → D → Bool
  | .tup a, .tup b => eqL a b
  | a, b => eq1 a b
theorem eq1_key (a b : Key) : eq1 (keyD a) (keyD b) = decide (a = b) := by
  cases a <;> cases b <;> simp [keyD, eq1]
theorem eqL_keys : ∀ a b : List Key, eqL (a.map keyD) (b.map keyD) = decide (a = b)
  | [], [] => rfl
  | [], b :: s => by simp [eqL]
  | a :: r, [] => by simp [eqL]
  | a :: r, b :: s => by
    show (eq1 (keyD a) (keyD b) && eqL (r.map keyD) (s.map keyD)) = _
    rw [eq1_key, eqL_keys r s]
    by_cases h1 : a = b <;> by_cases h2 : r = s <;> simp [h1, h2]
theorem eqKey_k (a b : Key) : eqKey (keyD a) (keyD b) = decide (a = b) := by
  rw [← eq1_key]; cases a <;> cases b <;> rfl
theorem eqKey_t (a b : List Key) : eqKey (keyT a) (keyT b) = decide (a = b) := eqL_keys a b
def tupDict : List D → Bool
  | .tup _ :: _ => true
  | _ => false
def ass (k : D) : List D → List D → Option D
  | x :: ks, v :: vs => if eqKey x k = true then some v else ass k ks vs
  | _, _ => none
def rep1 (k d : D) : List D → List D → List D
  | x :: ks, v :: vs => (if eqKey x k = true then d else v) :: rep1 k d ks vs
  | _, _ => []
def keyFor (ks : List D) (k : D) : Bool := match k with
  | .tup xs => (keysK xs).isSome && (ks.isEmpty || tupDict ks)
  | k => (keyK k).isSome && !tupDict ks
def gGet (ks vs : List D) (k : D) : Option (Option D) := if keyFor ks k = true then some (ass k ks vs) else none
def gPut (ks vs : List D) (k d : D) : Option (List D × List D) := if keyFor ks k = true ∧ ks.length < 1000000 then (if ks.any (fun x => eqKey x k) = true then some (ks, rep1 k d ks vs) else some (ks ++ [k], vs ++ [d])) else none
inductive RO (G : Gp) (H : Hp) : Option V → Option D → Prop
  | none : RO G H none none
  | some {v : V} {d : D} : RD G H v d → RO G H (some v) (some d)
theorem ass_k {G : Gp} {Hv : Hp} (q : Key) : ∀ {kvs : List (Key × V)} {ds : List D}, RDs G Hv (kvs.map (·.2)) ds → RO G Hv (valV kvs q) (ass (keyD q) (kvs.map fun p => keyD p.1) ds)
  | [], ds, h => by cases h; exact .none
  | p :: r, _, h => by
    cases h with
    | cons a b =>
      show RO G Hv _ (if eqKey (keyD p.1) (keyD q) = true then _ else _)
      rw [eqKey_k]
      by_cases e : p.1 = q
      · rw [decide_eq_true e, if_pos rfl, valV_pos e]; exact .some a
      · rw [decide_eq_false e, if_neg Bool.false_ne_true, valV_neg e]; exact ass_k q b
theorem ass_t {G : Gp} {Hv : Hp} (l : List Key) : ∀ {xs : List (List Key × Addr × Value)} {vs : List V} {ds : List D}, Vals vs (xs.map (·.2.2)) → RDs G Hv vs ds → ∃ o, RelO o ((atKey xs l).map (·.2)) ∧ RO G Hv o (ass (keyT l) (xs.map fun x => keyT x.1) ds)
  | [], _, _, r, h => by cases r; cases h; exact ⟨none, trivial, .none⟩
  | x :: xs, _, _, r, h => by
    cases r with
    | cons r1 r2 =>
      cases h with
      | @cons v vs d ds a b =>
        show ∃ o, RelO o _ ∧ RO G Hv o (if eqKey (keyT x.1) (keyT l) = true then _ else _)
        rw [eqKey_t]
        by_cases e : x.1 = l
        · rw [decide_eq_true e, if_pos rfl]
          have b : atKey (x :: xs) l = some x.2 := by simp [atKey, List.find?_cons, e]
          rw [b]
          exact ⟨some _, r1, .some a⟩
        · rw [decide_eq_false e, if_neg Bool.false_ne_true]
          have b : atKey (x :: xs) l = atKey xs l := by simp [atKey, List.find?_cons, e]
          rw [b]
          exact ass_t l r2 ‹_›
inductive DGx (K : PySem.W.Frag) (P : Program) (w : World) (H : Hp) (a : Addr) (y : V) : Option V → Prop
  | k {kvs : List (Key × V)} {k : Key} : Rd H a (.dK kvs) → y = kV k → DGx K P w H a y (valV kvs k)
  | e {l : List Key} {b : Addr} : Rd H a (.dK []) → y = .ref b → TupV K H b (l.map kV) → DGx K P w H a y none
  | t {xs : List (List Key × Addr × Value)} {l : List Key} {b : Addr} {o : Option V} : Rd H a (DTo P w a xs) → KeysAt K H xs → y = .ref b → TupV K H b (l.map kV) → RelO o ((atKey xs l).map (·.2)) → DGx K P w H a y o
theorem RT.dct {G : Gp} {Z : List Addr} {H : Hp} {v : V} {ks ds : List D} (h : RT G Z H v (.dct ks ds)) : ∃ a, v = .ref a ∧ DcR G H (hid Z H) a ks ds := by
  rcases h with h | ⟨a, rfl, h⟩
  · cases h with
    | dct h1 h2 => exact ⟨_, rfl, .k (.inr ⟨_, hid_full _ _ h1⟩) h2⟩
    | dctT n h1 h2 h3 h4 => exact ⟨_, rfl, .t n (.inr ⟨_, hid_full _ _ h1⟩) h2 h3 h4⟩
  · exact ⟨a, rfl, DcC.r h⟩
theorem tup_keyT {G : Gp} {Z : List Addr} {H : Hp} {y : V} {xs : List D} {l : List Key} (h : RT G Z H y (.tup xs)) (e : keysK xs = some l) : ∃ b, y = .ref b ∧ TupV G.K H b (l.map kV) := by
  obtain ⟨b, vs, rfl, h1, h2⟩ := h.tup
  rw [keysK_eq e] at h2
  rw [h2.keys] at h1
  exact ⟨b, rfl, h1⟩
theorem tupDict_k (kvs : List (Key × V)) : tupDict (kvs.map fun p => keyD p.1) = false := by
  cases kvs with
  | nil => rfl
  | cons p r => obtain ⟨k, v⟩ := p; cases k <;> rfl
theorem tupDict_t {xs : List (List Key × Addr × Value)} (n : xs ≠ []) : tupDict (xs.map fun x => keyT x.1) = true := by
  cases xs with
  | nil => exact absurd rfl n
  | cons p r => rfl
theorem dgx_of {G : Gp} {Z : List Addr} {H : Hp} {a : Addr} {y : V} {ks ds : List D} {dk : D} {o : Option D} (c : DcR G H (hid Z H) a ks ds) (ry : RT G Z H y dk) (e : gGet ks ds dk = some o) : ∃ r, DGx G.K G.P G.w H a y r ∧ RO G (hid Z H) r o := by
  unfold gGet at e
  split at e
  · rename_i hk
    cases e
    by_cases ht : ∃ xs, dk = .tup xs
    · obtain ⟨xs, rfl⟩ := ht
      unfold keyFor at hk
      simp only [Bool.and_eq_true] at hk
      obtain ⟨h1, h2⟩ := hk
      obtain ⟨l, el⟩ := Option.isSome_iff_exists.mp h1
      obtain ⟨b, rfl, hb⟩ := tup_keyT ry el
      have ek : D.tup xs = keyT l := by rw [keysK_eq el]; rfl
      rw [ek]
      cases c with
      | @k kvs ds c1 c2 =>
        rw [tupDict_k] at h2
        cases kvs with
        | nil => cases c2; exact ⟨none, .e c1 rfl hb, .none⟩
        | cons p r => simp at h2
      | @t xs vs ds n c1 c2 c3 c4 =>
        obtain ⟨r, r1, r2⟩ := ass_t l c3 c4
        exact ⟨r, .t c1 (c2.mono hid_full) rfl hb r1, r2⟩
    · have hk2 : ((keyK dk).isSome && !tupDict ks) = true := by
        cases dk <;> first | exact absurd ⟨_, rfl⟩ ht | exact hk
      rw [Bool.and_eq_true] at hk2
      obtain ⟨h1, h2⟩ := hk2
      obtain ⟨q, eq⟩ := Option.isSome_iff_exists.mp h1
      obtain rfl := keyK_eq eq
      have ey : y = kV q := by
        cases q
        · exact ry.int
        · exact ry.str
      cases c with
      | @k kvs ds c1 c2 => exact ⟨_, .k c1 ey, ass_k q c2⟩
      | @t xs vs ds n c1 c2 c3 c4 => rw [tupDict_t n] at h2; cases h2
  · cases e
theorem TupV.key {P : Program} {w : World} {K : PySem.W.Frag} {H : Hp} {h : Heap} {b : Addr} {l : List Key} (t : TupV K H b (l.map kV)) (ok : HOk P w H h) (kin : K.In h) : (tupleKind (mixKind P w)).is h l b := by
  rcases t with ⟨o, e, _⟩ | ⟨o, its, n, h1, h2, h3, h4, h5, h6⟩
  · obtain ⟨_, _, its, r, o2, g1, g2, n, g3⟩ := ok b _ e
    exact ⟨o2, its.toArray, n, g1, g2, g3, by simpa using items_are r⟩
  · exact ⟨o, its, n, kin _ _ h1, h2, h4, by simpa using items_are h6⟩
end
section
variable {X : Cx} {pins : List (Addr × Obj)} {σ : St} {H : Hp} {s : Shared} {a : Addr} {y v : V} {u r : Value} {o : Option V} {A : Around} {E : Value → Shared → Prop}
theorem dto_of {xs : List (List Key × Addr × Value)} (I : Inv X pins σ H s) (e : Rd H a (DTo X.prog X.w a xs)) (k : KeysAt X.K H xs) : s.heap.DictOfH (tupleKind (mixKind X.prog X.w)) a xs ∧ xs.length ≤ sizeLine ∧ (a == sysModules) = false := by
  obtain ⟨⟨⟨o, es, ep, h1, h2, h3, h4⟩, nd, z, y⟩, _, _⟩ := rd_of I.hok e
  exact ⟨⟨o, es, ep, h1, h2, h3, h4, fun x hx => (k x hx).key I.hok I.kIn, nd⟩, z, y⟩
theorem dk0_of (I : Inv X pins σ H s) (e : Rd H a (.dK [])) : s.heap.DictOfH (tupleKind (mixKind X.prog X.w)) a [] ∧ (a == sysModules) = false := by
  obtain ⟨z, hd, vs, rel, ob, es, ep, h1, h2, h3, h4, h5, h6⟩ := dk_rd I.hok e
  cases rel
  have e0 : es.toList = [] := by
    generalize es.toList = l at h5
    cases h5
    rfl
  exact ⟨⟨ob, es, ep, h1, h2, h3, e0, fun _ hx => by simp at hx, List.nodup_nil⟩, hd⟩
theorem dx_get {Q : Value → Shared → Prop} (hu : A.units + 1 < cLine) (I : Inv X pins σ H s) (g : DGx X.K X.prog X.w H a y (some v)) (ry : RelV y u) (h : ∀ w' s', Inv X pins σ H s' → RelV v w' → Q w' s') :
    wpAny (model X.prog X.w) A (getItem (.ref a) u) Q E s := by
  generalize hg : some v = g0 at g
  cases g with
  | k e ey => exact d_getItem hu I (by rw [hg, ey]; exact .inl ⟨_, _, e, rfl, rfl⟩) ry h
  | e e1 e2 e3 => cases hg
  | @t xs l b o e1 ks e2 e3 e4 =>
    subst hg e2
    cases (show u = Value.ref b from ry)
    obtain ⟨dd, z, hd⟩ := dto_of I e1 ks
    obtain ⟨w', hw, rw'⟩ := RelO.some_of (v := v) (o := (atKey xs l).map (·.2)) e4
    obtain ⟨p, hp, hp2⟩ := Option.map_eq_some_iff.mp hw
    refine wpAny_getItem_heap (tupleKind_room_in1 hu) (e3.key I.hok I.kIn) dd hp ?_
    rw [hp2]
    exact h w' _ (I.tok _) rw'
theorem dx_in {Q : Value → Shared → Prop} (hu : A.units + 1 < cLine) (I : Inv X pins σ H s) (g : DGx X.K X.prog X.w H a y o) (ry : RelV y u) (h : ∀ s', Inv X pins σ H s' → Q (.bool o.isSome) s') :
    wpAny (model X.prog X.w) A (compareOp .In u (.ref a)) Q E s := by
  cases g with
  | k e ey => exact d_in hu I (by rw [ey]; exact .inl ⟨_, _, e, rfl, rfl⟩) ry h
  | @e l b e1 e2 e3 =>
    subst e2
    cases (show u = Value.ref b from ry)
    obtain ⟨dd, hd⟩ := dk0_of I e1
    exact wpAny_in_heap (tupleKind_room_in1 hu) (e3.key I.hok I.kIn) hd dd (h _ (I.tok _))
  | @t xs l b o e1 ks e2 e3 e4 =>
    subst e2
    cases (show u = Value.ref b from ry)
    obtain ⟨dd, z, hd⟩ := dto_of I e1 ks
    refine wpAny_in_heap (tupleKind_room_in1 hu) (e3.key I.hok I.kIn) hd dd ?_
    have q := e4.isSome_eq
    rw [Option.isSome_map] at q
    rw [← q]
    exact h _ (I.tok _)
theorem dx_notIn {Q : Value → Shared → Prop} (hu : A.units + 1 < cLine) (I : Inv X pins σ H s) (g : DGx X.K X.prog X.w H a y o) (ry : RelV y u) (h : ∀ s', Inv X pins σ H s' → Q (.bool (!o.isSome)) s') :
    wpAny (model X.prog X.w) A (compareOp .NotIn u (.ref a)) Q E s := by
  cases g with
  | k e ey => exact d_notIn hu I (by rw [ey]; exact .inl ⟨_, _, e, rfl, rfl⟩) ry h
  | @e l b e1 e2 e3 =>
    subst e2
    cases (show u = Value.ref b from ry)
    obtain ⟨dd, hd⟩ := dk0_of I e1
    exact wpAny_notIn_heap (tupleKind_room_in1 hu) (e3.key I.hok I.kIn) hd dd (h _ (I.tok _))
  | @t xs l b o e1 ks e2 e3 e4 =>
    subst e2
    cases (show u = Value.ref b from ry)
    obtain ⟨dd, z, hd⟩ := dto_of I e1 ks
    refine wpAny_notIn_heap (tupleKind_room_in1 hu) (e3.key I.hok I.kIn) hd dd ?_
    have q := e4.isSome_eq
    rw [Option.isSome_map] at q
    rw [← q]
    exact h _ (I.tok _)
theorem dgx_type (I : Inv X pins σ H s) (g : DGx X.K X.prog X.w H a y o) : s.TypeIs (.ref a) "dict" := by
  cases g with
  | k e ey => obtain ⟨_, _, vs, _, dd⟩ := dk_rd I.hok e; exact dd.typeIs
  | e e1 e2 e3 => exact (dk0_of I e1).1.typeIs
  | t e1 ks e2 e3 e4 => exact (dto_of I e1 ks).1.typeIs
end
section
variable {X : Cx}
def rDIx (K : PySem.W.Frag) (P : Program) (w : World) : R2 := fun x y H Q => ∃ a v, x = .ref a ∧ DGx K P w H a y (some v) ∧ Q v H
theorem ix_dct (hu : X.A.units + 1 < cLine) : IxR X (rDIx X.K X.prog X.w) := by
  intro value slice pins s σ H x y v u Q I rx ry h hs
  obtain ⟨a, w, rfl, g, q⟩ := h
  cases rx
  exact tail_any (dgx_type I g) PySem.F.slot_dict_getitem.lookup (dx_get hu I g ry fun w' s' I' rw' => ⟨w, H, I', rw', q⟩) hs
def rDIn (K : PySem.W.Frag) (P : Program) (w : World) : R2 := fun y x H Q => ∃ a o, x = .ref a ∧ DGx K P w H a y o ∧ Q (.bl o.isSome) H
def rDNotIn (K : PySem.W.Frag) (P : Program) (w : World) : R2 := fun y x H Q => ∃ a o, x = .ref a ∧ DGx K P w H a y o ∧ Q (.bl (!o.isSome)) H
theorem op_dIn (hu : X.A.units + 1 < cLine) : OpR X (compareOp .In) (rDIn X.K X.prog X.w) := by
  intro pins s σ H x y v u Q I rx ry h
  obtain ⟨a, o, rfl, g, q⟩ := h
  cases ry
  exact dx_in hu I g rx fun s' I' => ⟨.bl o.isSome, H, I', rfl, q⟩
theorem op_dNotIn (hu : X.A.units + 1 < cLine) : OpR X (compareOp .NotIn) (rDNotIn X.K X.prog X.w) := by
  intro pins s σ H x y v u Q I rx ry h
  obtain ⟨a, o, rfl, g, q⟩ := h
  cases ry
  exact dx_notIn hu I g rx fun s' I' => ⟨.bl (!o.isSome), H, I', rfl, q⟩
def rDSet (K : PySem.W.Frag) (P : Program) (w : World) : V → V → V → Hp → (Hp → Prop) → Prop := fun o y v H Q => ∃ a, o = .ref a ∧
  ((∃ kvs k, H a = some (.dK kvs) ∧ y = kV k ∧ kvs.length < sizeLine ∧ Q (upd H a (.dK (putK kvs k v)))) ∨
   ∃ xs l b, ((xs = [] ∧ H a = some (.dK [])) ∨ (H a = some (DTo P w a xs) ∧ KeysAt K H xs)) ∧ y = .ref b ∧ TupV K H b (l.map kV) ∧ xs.length < sizeLine ∧ ∀ u, RelV v u → Q (upd H a (DTo P w a (storedH xs l b u))))
theorem storedH_len (xs : List (List Key × Addr × Value)) (l : List Key) (b : Addr) (u : Value) : (storedH xs l b u).length ≤ xs.length + 1 := by
  unfold storedH
  split
  · rw [List.length_map]; omega
  · rw [List.length_append]; exact Nat.le_refl _
theorem set_dct (hu : X.A.units + 1 < cLine) : PSet X (rDSet X.K X.prog X.w) := by
  intro pins s σ H o i v ov iv u Q I ro ri rv h
  obtain ⟨a, rfl, h⟩ := h
  cases ro
  rcases h with ⟨kvs, k, e, ey, l, q⟩ | ⟨xs, l, b, e, ey, hb, hl, q⟩
  · exact d_setItem hu I (DPut.k e l) (by rw [← ey]; exact ri) rv fun s' I' => ⟨_, I', q⟩
  · subst ey
    cases (show iv = Value.ref b from ri)
    have base : s.heap.DictOfH (tupleKind (mixKind X.prog X.w)) a xs ∧ (a == sysModules) = false ∧ Mut (H a) := by
      rcases e with ⟨rfl, e⟩ | ⟨e, ks⟩
      · exact ⟨(dk0_of I (.inl e)).1, (dk0_of I (.inl e)).2, by rw [e]; trivial⟩
      · exact ⟨(dto_of I (.inl e) ks).1, (dto_of I (.inl e) ks).2.2, by rw [e]; trivial⟩
    obtain ⟨dd, hd, mu⟩ := base
    refine wpAny_setItem_heap (hsz := Nat.le_of_lt hl) (tupleKind_room_in1 hu) (hb.key I.hok I.kIn) dd fun h' dd' hs => ⟨_, ?_, q u rv⟩
    obtain ⟨q0, es, ep, hq, h2, h3, h4, h6, h5⟩ := dd'
    refine d_write I mu hs ⟨q0, hq⟩ ⟨⟨⟨q0, es, ep, hq, h2, h3, h4⟩, h5, Nat.le_trans (storedH_len xs l b u) hl, hd⟩, ⟨q0, hq⟩, fun h1 h2' ⟨⟨o, es', ep', g1, g2⟩, g3⟩ st => ⟨⟨o, es', ep', st _ g1, g2⟩, g3⟩⟩
end
end Dv
namespace Dv
open PySem PySem.Spec PyProof.Rows L2
variable [Tbl]
mutual
def eqb : D → D → Bool
  | .non, .non => true
  | .bl a, .bl b => a == b
  | .bl a, .int j => (if a then 1 else 0) == j
  | .int i, .bl b => i == (if b then 1 else 0)
  | .int i, .int j => i == j
  | .str x, .str y => x == y
  | .lst xs, .lst ys => eqbs xs ys
  | .tup xs, .tup ys => eqbs xs ys
  | _, _ => false
def eqbs : List D → List D → Bool
  | [], [] => true
  | x :: xs, y :: ys => eqb x y && eqbs xs ys
  | _, _ => false
end
mutual
def pl : Nat → D → Bool
  | _, .non => true
  | _, .bl _ => true
  | _, .int _ => true
  | _, .str x => PyData.strOk x
  | n + 1, .lst xs => pls n xs
  | n + 1, .tup xs => pls n xs
  | _, _ => false
def pls : Nat → List D → Bool
  | _, [] => true
  | n, x :: xs => pl n x && pls n xs
end
mutual
def pd : D → PyData
  | .non => .none
  | .bl b => .bool b
  | .int i => .int i
  | .str x => .str x
  | .lst xs => .list (pds xs)
  | .tup xs => .tuple (pds xs)
  | _ => .none
def pds : List D → List PyData
  | [] => []
  | x :: xs => pd x :: pds xs
end
theorem pl_nd : ∀ {n : Nat} {d : D}, pl n d = true → isDct d = false
  | n, .dct _ _, h => by rw [pl.eq_def] at h; cases h
  | _, .non, _ => rfl
  | _, .bl _, _ => rfl
  | _, .int _, _ => rfl
  | _, .str _, _ => rfl
  | _, .tup _, _ => rfl
  | _, .lst _, _ => rfl
  | _, .set _, _ => rfl
  | _, .obj _ _ _, _ => rfl
  | _, .ref _, _ => rfl
mutual
theorem pl_dp {G : Gp} {H : Hp} : ∀ (n : Nat) (d : D) (v : V), pl n d = true → RD G H v d → Dp G.K H v (pd d)
  | n, .non, v, e, r => by cases r; exact .non
  | n, .bl b, v, e, r => by cases r; exact .bl b
  | n, .int i, v, e, r => by cases r; exact .int i
  | n, .str x, v, e, r => by cases r; exact .str x
  | 0, .lst xs, v, e, r => by rw [pl.eq_def] at e; cases e
  | n + 1, .lst xs, v, e, r => by
    rw [pl.eq_def] at e
    cases r with
    | lst h1 h2 => exact .lst h1 (pls_dp n xs _ e h2)
  | 0, .tup xs, v, e, r => by rw [pl.eq_def] at e; cases e
  | n + 1, .tup xs, v, e, r => by
    rw [pl.eq_def] at e
    cases r with
    | tup h1 h2 => exact .tup h1.sq (pls_dp n xs _ e h2)
  | n, .dct _ _, v, e, r => by rw [pl.eq_def] at e; cases e
  | n, .set _, v, e, r => by rw [pl.eq_def] at e; cases e
  | n, .obj _ _ _, v, e, r => by rw [pl.eq_def] at e; cases e
  | n, .ref _, v, e, r => by rw [pl.eq_def] at e; cases e
theorem pls_dp {G : Gp} {H : Hp} : ∀ (n : Nat) (ds : List D) (vs : List V), pls n ds = true → RDs G H vs ds → DpAll G.K H vs (pds ds)
  | n, [], vs, e, r => by cases r; exact .nil
  | n, x :: xs, vs, e, r => by
    rw [pls.eq_def] at e
    obtain ⟨e1, e2⟩ := Bool.and_eq_true_iff.mp e
    cases r with
    | cons a b => exact .cons (pl_dp n x _ e1 a) (pls_dp n xs _ e2 b)
end
mutual
theorem pl_lay : ∀ (n : Nat) (d : D), pl n d = true → (pd d).canLay0 = true ∧ (pd d).depth ≤ n
  | n, .non, e => ⟨rfl, Nat.zero_le _⟩
  | n, .bl b, e => ⟨rfl, Nat.zero_le _⟩
  | n, .int i, e => ⟨rfl, Nat.zero_le _⟩
  | n, .str x, e => ⟨by rw [pl.eq_def] at e; exact e, Nat.zero_le _⟩
  | 0, .lst xs, e => by rw [pl.eq_def] at e; cases e
  | n + 1, .lst xs, e => by
    rw [pl.eq_def] at e
    obtain ⟨h1, h2⟩ := pls_lay n xs e
    exact ⟨h1, Nat.succ_le_succ h2⟩
  | 0, .tup xs, e => by rw [pl.eq_def] at e; cases e
  | n + 1, .tup xs, e => by
    rw [pl.eq_def] at e
    obtain ⟨h1, h2⟩ := pls_lay n xs e
    exact ⟨h1, Nat.succ_le_succ h2⟩
  | n, .dct _ _, e => by rw [pl.eq_def] at e; cases e
  | n, .set _, e => by rw [pl.eq_def] at e; cases e
  | n, .obj _ _ _, e => by rw [pl.eq_def] at e; cases e
  | n, .ref _, e => by rw [pl.eq_def] at e; cases e
theorem pls_lay : ∀ (n : Nat) (ds : List D), pls n ds = true → PyData.canLayAll0 (pds ds) = true ∧ PyData.depthAll (pds ds) ≤ n
  | n, [], e => ⟨rfl, Nat.zero_le _⟩
  | n, x :: xs, e => by
    rw [pls.eq_def] at e
    obtain ⟨e1, e2⟩ := Bool.and_eq_true_iff.mp e
    obtain ⟨h1, h2⟩ := pl_lay n x e1
    obtain ⟨h3, h4⟩ := pls_lay n xs e2
    exact ⟨Bool.and_eq_true_iff.mpr ⟨h1, h3⟩, Nat.max_le.mpr ⟨h2, h4⟩⟩
end
theorem pl_shaped {n : Nat} {d : D} (h : pl n d = true) (hn : n ≤ 60) : SeqAt.shaped (pd d) = true := by
  obtain ⟨h1, h2⟩ := pl_lay n d h
  exact Bool.and_eq_true_iff.mpr ⟨h1, decide_eq_true (by omega)⟩
mutual
theorem eqv_pd : ∀ (n m : Nat) (d e : D), pl n d = true → pl m e = true → PyData.eqv (pd d) (pd e) = eqb d e
  | n, m, .non, e, h, k => by cases e <;> first | rfl | (rw [pl.eq_def] at k; cases k) | (simp [pd, PyData.eqv, eqb])
  | n, m, .bl b, e, h, k => by cases e <;> first | rfl | (rw [pl.eq_def] at k; cases k) | (simp [pd, PyData.eqv, eqb])
  | n, m, .int i, e, h, k => by cases e <;> first | rfl | (rw [pl.eq_def] at k; cases k) | (simp [pd, PyData.eqv, eqb])
  | n, m, .str x, e, h, k => by cases e <;> first | rfl | (rw [pl.eq_def] at k; cases k) | (simp [pd, PyData.eqv, eqb])
  | 0, m, .lst xs, e, h, k => by rw [pl.eq_def] at h; cases h
  | n + 1, m, .lst xs, e, h, k => by
    cases e with
    | lst ys =>
      cases m with
      | zero => rw [pl.eq_def] at k; cases k
      | succ m =>
        rw [pl.eq_def] at h k
        simp only [pd, PyData.eqv, eqb]
        exact eqvs_pd n m xs ys h k
    | _ => first | rfl | (rw [pl.eq_def] at k; cases k) | (simp [pd, PyData.eqv, eqb])
  | 0, m, .tup xs, e, h, k => by rw [pl.eq_def] at h; cases h
  | n + 1, m, .tup xs, e, h, k => by
    cases e with
    | tup ys =>
      cases m with
      | zero => rw [pl.eq_def] at k; cases k
      | succ m =>
        rw [pl.eq_def] at h k
        simp only [pd, PyData.eqv, eqb]
        exact eqvs_pd n m xs ys h k
    | _ => first | rfl | (rw [pl.eq_def] at k; cases k) | (simp [pd, PyData.eqv, eqb])
  | n, m, .dct _ _, e, h, k => by rw [pl.eq_def] at h; cases h
  | n, m, .set _, e, h, k => by rw [pl.eq_def] at h; cases h
  | n, m, .obj _ _ _, e, h, k => by rw [pl.eq_def] at h; cases h
  | n, m, .ref _, e, h, k => by rw [pl.eq_def] at h; cases h
theorem eqvs_pd : ∀ (n m : Nat) (ds es : List D), pls n ds = true → pls m es = true → PyData.eqvAll (pds ds) (pds es) = eqbs ds es
  | n, m, [], [], h, k => rfl
  | n, m, [], e :: es, h, k => by simp [pds, PyData.eqvAll, eqbs]
  | n, m, d :: ds, [], h, k => by simp [pds, PyData.eqvAll, eqbs]
  | n, m, d :: ds, e :: es, h, k => by
    rw [pls.eq_def] at h k
    obtain ⟨h1, h2⟩ := Bool.and_eq_true_iff.mp h
    obtain ⟨k1, k2⟩ := Bool.and_eq_true_iff.mp k
    simp only [pds, PyData.eqvAll, eqbs]
    rw [eqv_pd n m d e h1 k1, eqvs_pd n m ds es h2 k2]
end
section
variable {X : Cx}
def twoS : D → D → Option Bool
  | .str a, .str b => some (a == b)
  | _, _ => none
theorem twoS_ok {x y : D} {k : Bool} (h : twoS x y = some k) : ∃ a b, x = .str a ∧ y = .str b ∧ k = (a == b) := by
  unfold twoS at h
  split at h
  · cases h; exact ⟨_, _, rfl, rfl, rfl⟩
  · cases h
theorem scal_str (a b : Str) : scal (.str a) (.str b) = true := rfl
theorem dec_strV {a b : Str} : decide (V.str a = V.str b) = (a == b) := by
  rw [Bool.eq_iff_iff]
  simp
def gEqP (x y : D) : Option D := match pl 50 x && pl 50 y with
  | true => some (.bl (eqb x y))
  | false => none
def gNeP (x y : D) : Option D := match pl 50 x && pl 50 y with
  | true => some (.bl (!eqb x y))
  | false => none
def gEq (x y : D) : Option D := match twoS x y with
  | some b => some (.bl b)
  | none => gEqP x y
def gNe (x y : D) : Option D := match twoS x y with
  | some b => some (.bl (!b))
  | none => gNeP x y
theorem od_eq (hu : X.A.units + 64 < cLine) : OpD X (compareOp .Eq) gEq := ⟨_, op_eq.or (op_eqD hu), fun Z H x y dx dy d Q z rx ry e q => by
  unfold gEq at e
  split at e
  · rename_i h
    cases e
    obtain ⟨a, b, rfl, rfl, rfl⟩ := twoS_ok h
    rw [rx.str, ry.str]
    exact .inl ⟨scal_str a b, by rw [dec_strV]; exact ret_bl q⟩
  · unfold gEqP at e
    split at e
    · rename_i h
      cases e
      obtain ⟨h1, h2⟩ := Bool.and_eq_true_iff.mp h
      exact .inr ⟨_, _, pl_dp 50 dx x h1 (rx.full (pl_nd h1)), pl_dp 50 dy y h2 (ry.full (pl_nd h2)), pl_shaped h1 (by decide), pl_shaped h2 (by decide), by rw [eqv_pd 50 50 dx dy h1 h2]; exact ret_bl q⟩
    · cases e⟩
theorem od_ne (hu : X.A.units + 64 < cLine) : OpD X (compareOp .NotEq) gNe := ⟨_, op_ne.or (op_neD hu), fun Z H x y dx dy d Q z rx ry e q => by
  unfold gNe at e
  split at e
  · rename_i h
    cases e
    obtain ⟨a, b, rfl, rfl, rfl⟩ := twoS_ok h
    rw [rx.str, ry.str]
    exact .inl ⟨scal_str a b, by rw [dec_strV]; exact ret_bl q⟩
  · unfold gNeP at e
    split at e
    · rename_i h
      cases e
      obtain ⟨h1, h2⟩ := Bool.and_eq_true_iff.mp h
      exact .inr ⟨_, _, pl_dp 50 dx x h1 (rx.full (pl_nd h1)), pl_dp 50 dy y h2 (ry.full (pl_nd h2)), pl_shaped h1 (by decide), pl_shaped h2 (by decide), by rw [eqv_pd 50 50 dx dy h1 h2]; exact ret_bl q⟩
    · cases e⟩
def rInT (K : PySem.W.Frag) (neg : Bool) : R2 := fun x y H Q => ∃ d ds, Dp K H x d ∧ Dp K H y (.tuple ds) ∧ SeqAt.shaped d = true ∧ SeqAt.shaped (.tuple ds) = true ∧ Q (.bl (if neg then !ds.any (fun z => PyData.eqv z d) else ds.any fun z => PyData.eqv z d)) H
theorem op_inT (hu : X.A.units + 65 < cLine) : OpR X (compareOp .In) (rInT X.K false) := by
  rintro pins s σ H x y v u Q I rx ry ⟨d, ds, hd, he, sd, se, q⟩
  obtain ⟨as, r1⟩ := Dp.reads I d x v hd rx
  obtain ⟨bs, r2⟩ := Dp.reads I (.tuple ds) y u he ry
  apply SeqAt.in_tuple_reads r2 r1 (SeqAt.canLay_of_shaped se) (SeqAt.canLay_of_shaped sd) (room_in_shaped sd hu)
  exact ⟨.bl _, H, I, rfl, q⟩
theorem op_notInT (hu : X.A.units + 65 < cLine) : OpR X (compareOp .NotIn) (rInT X.K true) := by
  rintro pins s σ H x y v u Q I rx ry ⟨d, ds, hd, he, sd, se, q⟩
  obtain ⟨as, r1⟩ := Dp.reads I d x v hd rx
  obtain ⟨bs, r2⟩ := Dp.reads I (.tuple ds) y u he ry
  apply SeqAt.notIn_tuple_reads r2 r1 (SeqAt.canLay_of_shaped se) (SeqAt.canLay_of_shaped sd) (room_in_shaped sd hu)
  exact ⟨.bl _, H, I, rfl, q⟩
theorem any_pds {d : D} {n m : Nat} (h : pl n d = true) : ∀ {ds : List D}, pls m ds = true → ((pds ds).any fun z => PyData.eqv z (pd d)) = ds.any fun z => eqb z d
  | [], _ => rfl
  | x :: xs, k => by
    rw [pls.eq_def] at k
    obtain ⟨k1, k2⟩ := Bool.and_eq_true_iff.mp k
    simp only [pds, List.any_cons]
    rw [eqv_pd m n x d k1 h, any_pds h k2]
def gIn0 (x y : D) : Option D := match pl 50 x && pl 50 y with
  | true => match y with
    | .lst xs => some (.bl (xs.any fun z => eqb z x))
    | .tup xs => some (.bl (xs.any fun z => eqb z x))
    | _ => none
  | false => none
def gIn (x y : D) : Option D := match y with
  | .dct ks vs => (match gGet ks vs x with
    | some o => some (.bl (o.isSome))
    | none => none)
  | y => gIn0 x y
def gNotIn0 (x y : D) : Option D := match pl 50 x && pl 50 y with
  | true => match y with
    | .lst xs => some (.bl (!xs.any fun z => eqb z x))
    | .tup xs => some (.bl (!xs.any fun z => eqb z x))
    | _ => none
  | false => none
def gNotIn (x y : D) : Option D := match y with
  | .dct ks vs => (match gGet ks vs x with
    | some o => some (.bl (!o.isSome))
    | none => none)
  | y => gNotIn0 x y
theorem pl_lst {n : Nat} {xs : List D} (h : pl (n + 1) (.lst xs) = true) : pls n xs = true := by rw [pl.eq_def] at h; exact h
theorem pl_tup {n : Nat} {xs : List D} (h : pl (n + 1) (.tup xs) = true) : pls n xs = true := by rw [pl.eq_def] at h; exact h
theorem od_in0 (hu : X.A.units + 65 < cLine) : OpD X (compareOp .In) gIn0 := ⟨_, (op_inD hu).or (op_inT hu), fun Z H x y dx dy d Q z rx ry e q => by
  unfold gIn0 at e
  split at e
  · rename_i h
    obtain ⟨h1, h2⟩ := Bool.and_eq_true_iff.mp h
    split at e
    · rename_i xs
      cases e
      exact .inl ⟨_, pds xs, pl_dp 50 dx x h1 (rx.full (pl_nd h1)), pl_dp 50 _ y h2 (ry.full (pl_nd h2)), pl_shaped h1 (by decide), pl_shaped (d := .lst xs) h2 (by decide), by rw [any_pds h1 (pl_lst h2)]; exact ret_bl q⟩
    · rename_i xs
      cases e
      exact .inr ⟨_, pds xs, pl_dp 50 dx x h1 (rx.full (pl_nd h1)), pl_dp 50 _ y h2 (ry.full (pl_nd h2)), pl_shaped h1 (by decide), pl_shaped (d := .tup xs) h2 (by decide), by rw [if_neg Bool.false_ne_true, any_pds h1 (pl_tup h2)]; exact ret_bl q⟩
    · cases e
  · cases e⟩
theorem od_notIn0 (hu : X.A.units + 65 < cLine) : OpD X (compareOp .NotIn) gNotIn0 := ⟨_, (op_notInD hu).or (op_notInT hu), fun Z H x y dx dy d Q z rx ry e q => by
  unfold gNotIn0 at e
  split at e
  · rename_i h
    obtain ⟨h1, h2⟩ := Bool.and_eq_true_iff.mp h
    split at e
    · rename_i xs
      cases e
      exact .inl ⟨_, pds xs, pl_dp 50 dx x h1 (rx.full (pl_nd h1)), pl_dp 50 _ y h2 (ry.full (pl_nd h2)), pl_shaped h1 (by decide), pl_shaped (d := .lst xs) h2 (by decide), by rw [any_pds h1 (pl_lst h2)]; exact ret_bl q⟩
    · rename_i xs
      cases e
      exact .inr ⟨_, pds xs, pl_dp 50 dx x h1 (rx.full (pl_nd h1)), pl_dp 50 _ y h2 (ry.full (pl_nd h2)), pl_shaped h1 (by decide), pl_shaped (d := .tup xs) h2 (by decide), by rw [if_pos rfl, any_pds h1 (pl_tup h2)]; exact ret_bl q⟩
    · cases e
  · cases e⟩
theorem od_in (hu : X.A.units + 65 < cLine) : OpD X (compareOp .In) gIn := by
  obtain ⟨r, h1, h2⟩ := od_in0 (X := X) hu
  refine ⟨_, (op_dIn (X := X) (by omega)).or h1, fun Z H x y dx dy d Q z rx ry e q => ?_⟩
  unfold gIn at e
  split at e
  · obtain ⟨a, rfl, c⟩ := ry.dct
    split at e
    · rename_i o eo
      cases e
      obtain ⟨r0, g1, g2⟩ := dgx_of c rx eo
      have e2 : r0.isSome = o.isSome := by cases g2 <;> rfl
      refine .inl ⟨a, r0, rfl, g1, ?_⟩
      rw [e2]
      exact ret_bl q
    · cases e
  · exact .inr (h2 Z H x y dx _ d Q z rx ry e q)
theorem od_notIn (hu : X.A.units + 65 < cLine) : OpD X (compareOp .NotIn) gNotIn := by
  obtain ⟨r, h1, h2⟩ := od_notIn0 (X := X) hu
  refine ⟨_, (op_dNotIn (X := X) (by omega)).or h1, fun Z H x y dx dy d Q z rx ry e q => ?_⟩
  unfold gNotIn at e
  split at e
  · obtain ⟨a, rfl, c⟩ := ry.dct
    split at e
    · rename_i o eo
      cases e
      obtain ⟨r0, g1, g2⟩ := dgx_of c rx eo
      have e2 : r0.isSome = o.isSome := by cases g2 <;> rfl
      refine .inl ⟨a, r0, rfl, g1, ?_⟩
      rw [e2]
      exact ret_bl q
    · cases e
  · exact .inr (h2 Z H x y dx _ d Q z rx ry e q)
def isNon : D → Bool
  | .non => true
  | _ => false
def gIsN (x y : D) : Option D := match y with
  | .non => some (.bl (isNon x))
  | _ => none
theorem rd_non {G : Gp} {Z : List Addr} {H : Hp} {v : V} {d : D} (h : RT G Z H v d) : decide (v = .non) = isNon d := by
  rcases h with h | ⟨a, rfl, hc⟩
  · cases h <;> rfl
  · cases d <;> first | rfl | exact hc.elim
theorem od_isN : OpD X (compareOp .Is) gIsN := ⟨_, op_isN, fun Z H x y dx dy d Q z rx ry e q => by
  unfold gIsN at e
  split at e
  · cases e
    refine ⟨ry.non, ?_⟩
    rw [rd_non rx]
    exact ret_bl q
  · cases e⟩
def gNotN (x y : D) : Option D := match y with
  | .non => some (.bl (!isNon x))
  | _ => none
theorem od_notN : OpD X (compareOp .IsNot) gNotN := ⟨_, op_notN, fun Z H x y dx dy d Q z rx ry e q => by
  unfold gNotN at e
  split at e
  · cases e
    refine ⟨ry.non, ?_⟩
    rw [rd_non rx]
    exact ret_bl q
  · cases e⟩
def gIx (x y : D) : Option D := match x, y with
  | .lst xs, .int i => atI xs i
  | .tup xs, .int i => atI xs i
  | .str z, .int i => if z.length ≤ 1000000 then (match atI z.cps.toList i with
    | some c => some (.str ⟨#[c]⟩)
    | none => none) else none
  | .dct ks vs, k => (match gGet ks vs k with
    | some (some d) => some d
    | _ => none)
  | _, _ => none
theorem atI_rd {G : Gp} {H : Hp} {vs : List V} {ds : List D} {i : Int} {d : D} (r : RDs G H vs ds) (e : atI ds i = some d) : ∃ v, atI vs i = some v ∧ RD G H v d := by
  unfold atI at e ⊢
  rw [r.len]
  cases q : ixN ds.length i with
  | none => rw [q] at e; cases e
  | some j =>
    rw [q] at e
    obtain ⟨v, h1, h2⟩ := r.get (i := j) (d := d) e
    exact ⟨v, h1, h2⟩
theorem ix_rd {G : Gp} {Z : List Addr} {H : Hp} {x y : V} {dx dy d : D} {Q : VK} (z : ZOk Z H) (rx : RT G Z H x dx) (ry : RT G Z H y dy) (e : gIx dx dy = some d) (q : ∀ v H', Same H H' → RD G (hid Z H') v d → Q v H') : rIx G.K x y H Q ∨ rDIx G.K G.P G.w x y H Q := by
  unfold gIx at e
  split at e
  · obtain ⟨a, vs, rfl, h1, h2⟩ := rx.lst
    obtain ⟨v, h3, h4⟩ := atI_rd h2 e
    exact .inl (.inl ⟨a, vs, _, v, rfl, ry.int, h1, h3, q v H (Same.refl _) h4⟩)
  · obtain ⟨a, vs, rfl, h1, h2⟩ := rx.tup
    obtain ⟨v, h3, h4⟩ := atI_rd h2 e
    exact .inl (.inr (.inl ⟨a, vs, _, v, rfl, ry.int, h1.sq, h3, q v H (Same.refl _) h4⟩))
  · rename_i w i
    by_cases hw : w.length ≤ 1000000
    · rw [if_pos hw] at e
      split at e
      · rename_i c hc
        cases e
        exact .inl (.inr (.inr ⟨w, i, c, rx.str, ry.int, len_line hw, hc, ret_str q⟩))
      · cases e
    · rw [if_neg hw] at e; cases e
  · obtain ⟨a, rfl, c⟩ := rx.dct
    split at e
    · rename_i d0 eo
      cases e
      obtain ⟨r0, g1, g2⟩ := dgx_of c ry eo
      cases g2 with
      | some r => exact .inr ⟨a, _, rfl, g1, q _ H (Same.refl _) r⟩
    · cases e
  · cases e
theorem ix_seqd (hu : X.A.units + 65 < cLine) : IxR X (fun x y H Q => rIx X.K x y H Q ∨ rDIx X.K X.prog X.w x y H Q) := ix_seq.or (ix_dct (by omega))
theorem de_ix (hu : X.A.units + 65 < cLine) {a b : Expr} {fa fb : ES} {pos : Pos} (ha : DE X a fa) (hb : DE X b fb) (hs : PlainIx b) : DE X (.Subscript a b pos) (eBin gIx fa fb) := ⟨fun F => pe_imp (pe_ix (ix_seqd hu) (ha.run F) (hb.run F) hs) fun σ H Q h => tOp_of (fun Z H x y dx dy d Q z rx ry e q => ix_rd z rx ry e q) h⟩
structure DO (X : Cx) (e : Option Expr) (f : M (Option Int)) : Prop where
  run : ∀ F, PO X e (fun σ H Q => ∃ A ρ o ρ', Sts (Gx X) F A σ ρ H ∧ f ρ = .ok o ρ' ∧ ∀ H', Sts (Gx X) F A σ ρ' H' → Stp A H H' → Q o H')
theorem po_imp {X : Cx} {e : Option Expr} {t t' : TO} (h : PO X e t) (i : ∀ σ H Q, t' σ H Q → t σ H Q) : PO X e t' := ⟨fun pins s σ H Q I q => h.run pins s σ H Q I (i σ H Q q)⟩
def oNone : M (Option Int) := M.ret none
def oSome (fa : ES) : M (Option Int) := M.bind fa fun r => M.bind (val r) fun d => M.bind (M.opt (isInt d)) fun i => M.ret (some i)
theorem do_none : DO X none oNone := ⟨fun F => po_imp po_none fun σ H Q ⟨A, ρ, o, ρ', S, e, q⟩ => by
  obtain ⟨rfl, rfl⟩ := ret_ok e
  exact q H S (Stp.refl _ _)⟩
theorem do_some {e : Expr} {fa : ES} (ha : DE X e fa) : DO X (some e) (oSome fa) := ⟨fun F => po_imp (po_some (ha.run F)) fun σ H Q ⟨A, ρ, o, ρ', S, e, q⟩ => by
  obtain ⟨r, ρ1, e1, e⟩ := bind_ok e
  obtain ⟨d, ρ2, e2, e⟩ := bind_ok e
  obtain ⟨l2, rfl⟩ := val_ok e2
  obtain ⟨i, ρ3, e3, e⟩ := bind_ok e
  obtain ⟨l3, rfl⟩ := opt_ok e3
  obtain ⟨rfl, rfl⟩ := ret_ok e
  refine ⟨A, ρ, r, _, S, e1, fun v H1 S1 m1 r1 => ⟨i, ?_, q H1 S1 m1⟩⟩
  have rt := look_rt S1 r1 l2
  unfold isInt at l3
  split at l3
  · cases l3; exact rt.int
  · cases l3⟩
def cutD (xs : List D) (lo hi : Option Int) : List D := (xs.drop (HT.sIx xs.length 0 lo)).take (HT.sIx xs.length xs.length hi - HT.sIx xs.length 0 lo)
theorem cut_rd {G : Gp} {H : Hp} {vs : List V} {ds : List D} {lo hi : Option Int} (r : RDs G H vs ds) : RDs G H (cutV vs lo hi) (cutD ds lo hi) := by
  unfold cutV cutD
  rw [r.len]
  exact (r.drop _).take _
def rSlF (K : PySem.W.Frag) : V → Option Int → Option Int → Hp → VK → Prop := fun x lo hi H Q => ∃ a xs, x = .ref a ∧ SqT K H a xs ∧ (HT.sIx xs.length 0 lo = 0 ∧ HT.sIx xs.length xs.length hi = xs.length → Q (.ref a) H) ∧
  (¬ (HT.sIx xs.length 0 lo = 0 ∧ HT.sIx xs.length xs.length hi = xs.length) → ∀ p its, H p = none → Q (.ref p) (upd H p (tHO its (cutV xs lo hi))))
theorem sl_tupF : SlR X (rSlF X.K) := by
  rintro pins s σ H x v vl vu lo hi sl Q I rx hs pl pu ⟨a, xs, rfl, hx, q1, q2⟩
  cases rx
  obtain ⟨its, r, ht, hz⟩ := I.tuple hx
  have hl : its.toArray.size = xs.length := by rw [List.size_toArray]; exact r.length.symm
  refine ⟨"tuple", _, PyProof.Rows.slot_tuple_getitem.lookup, ht.typeIs, ?_⟩
  by_cases hw : HT.sIx xs.length 0 lo = 0 ∧ HT.sIx xs.length xs.length hi = xs.length
  · exact L2.getItem_tuple_whole ht hs pl pu (hl ▸ hw) ⟨.ref a, H, I, rfl, q1 hw⟩
  · apply HT.getItem_tuple_cut ht hs pl pu (hl ▸ hw) (hsz := hl ▸ hz)
    have rc : Vals (cutV xs lo hi) ((its.toArray.toList.drop (HT.sIx its.toArray.size 0 lo)).take (HT.sIx its.toArray.size its.toArray.size hi - HT.sIx its.toArray.size 0 lo)) := by
      rw [hl]
      exact (r.drop _).take _
    exact ⟨V.ref s.heap.objs.size, _, lay_tup I rc (Nat.le_trans (cutV_length xs lo hi) hz) s.toks, rfl, q2 hw _ _ (I.hok.fresh (Nat.le_refl _))⟩
def gSl (x : D) (lo hi : Option Int) : Option D := match x with
  | .lst xs => some (.lst (cutD xs lo hi))
  | .tup xs => some (.tup (cutD xs lo hi))
  | _ => none
def eSl (fa : ES) (fl fh : M (Option Int)) : ES := M.bind fa fun r => M.bind fl fun lo => M.bind fh fun hi => M.bind (val r) fun d => M.bind (M.opt (gSl d lo hi)) fun x => M.ret (.im x)
theorem cut_whole {α : Type} (xs : List α) {lo hi : Option Int} (h : HT.sIx xs.length 0 lo = 0 ∧ HT.sIx xs.length xs.length hi = xs.length) : (xs.drop (HT.sIx xs.length 0 lo)).take (HT.sIx xs.length xs.length hi - HT.sIx xs.length 0 lo) = xs := by
  rw [h.1, h.2, List.drop_zero, Nat.sub_zero, List.take_length]
theorem de_sl {e : Expr} {fa : ES} {lo hi : Option Expr} {fl fh : M (Option Int)} {p2 pos : Pos} (ha : DE X e fa) (hl : DO X lo fl) (hh : DO X hi fh) : DE X (.Subscript e (.Slice lo hi none p2) pos) (eSl fa fl fh) := ⟨fun F => pe_imp (pe_slice (sl_list.or sl_tupF) (ha.run F) (hl.run F) (hh.run F)) fun σ H Q ⟨A, ρ, rr, ρ', S, e, q⟩ => by
  obtain ⟨r, ρ1, e1, e⟩ := bind_ok e
  obtain ⟨lo, ρ2, e2, e⟩ := bind_ok e
  obtain ⟨hi, ρ3, e3, e⟩ := bind_ok e
  obtain ⟨d, ρ4, e4, e⟩ := bind_ok e
  obtain ⟨l4, rfl⟩ := val_ok e4
  obtain ⟨x, ρ5, e5, e⟩ := bind_ok e
  obtain ⟨l5, rfl⟩ := opt_ok e5
  obtain ⟨rfl, rfl⟩ := ret_ok e
  refine ⟨A, ρ, r, ρ1, S, e1, fun v H1 S1 m1 r1 => ⟨A, ρ1, lo, ρ2, S1, e2, fun H2 S2 m2 => ⟨A, ρ2, hi, _, S2, e3, fun H3 S3 m3 => ?_⟩⟩⟩
  have rt := look_rt S3 ((r1.same m2.hid).same m3.hid) l4
  have m := (m1.trans m2).trans m3
  unfold gSl at l5
  split at l5
  · cases l5
    obtain ⟨a, vs, rfl, h1, h2⟩ := rt.lst
    refine .inl ⟨a, vs, rfl, h1, fun p hp => ?_⟩
    have sm := Same.of_new (o := .lst (cutV vs lo hi)) hp
    exact q _ _ (S3.same sm) (m.trans (Stp.of sm)) (.lst (SqL.of (hid_new S3.zall hp)) ((cut_rd h2).mono (Same.hid sm)))
  · rename_i xs
    cases l5
    obtain ⟨a, vs, rfl, h1, h2⟩ := rt.tup
    refine .inr ⟨a, vs, rfl, h1.sq, fun hw => ?_, fun hw p its hp => ?_⟩
    · have ew : cutD xs lo hi = xs := cut_whole xs (by rw [← h2.len]; exact hw)
      rw [ew] at q
      rcases rt with rt | ⟨_, _, ee⟩
      · exact q _ H3 S3 m rt
      · cases ee
    · have sm := Same.of_new (o := tHO its (cutV vs lo hi)) hp
      exact q _ _ (S3.same sm) (m.trans (Stp.of sm)) (.tup (.inl ⟨_, hid_new S3.zall hp, rfl⟩) ((cut_rd h2).mono (Same.hid sm)))
  · cases l5⟩
end
end Dv
namespace Dv
open PySem PySem.Spec PyProof.Rows L2
variable [Tbl]
section
variable {X : Cx}
def rTupF (K : PySem.W.Frag) : List V → Hp → VK → Prop := fun xs H Q => ∃ p ys, xs = [.ref p] ∧ ((SqL K H p ys ∧ ∀ l its, H l = none → Q (.ref l) (upd H l (tHO its ys))) ∨ (SqT K H p ys ∧ Q (.ref p) H))
theorem call_tupF : CallR X (.type "tuple") (rTupF X.K) := by
  rintro pins s σ H xs us Q I r ⟨p, ys, rfl, h⟩
  obtain ⟨u, rfl, rx⟩ := vals1 r
  cases rx
  rcases h with ⟨hq, q⟩ | ⟨hq, q⟩
  · obtain ⟨its, rv, pl, hz⟩ := I.list hq
    have hl := rv.length
    apply call_tuple_list pl.isList (hsz := by simp only [List.size_toArray]; omega)
    intro h' kp
    have I1 : Inv X pins σ H { s with heap := h' } := I.kept (t' := s.toks) kp
    exact ⟨V.ref h'.objs.size, _, lay_tup I1 rv hz s.toks, rfl, q _ its (I1.hok.fresh (Nat.le_refl _))⟩
  · obtain ⟨its, rv, pl, hz⟩ := I.tuple hq
    exact call_tuple_same pl ⟨.ref p, H, I, rfl, q⟩
def gTuple : List D → Option D
  | [.lst xs] => some (.tup xs)
  | [.tup xs] => some (.tup xs)
  | _ => none
theorem cd_tuple : CallD X (.type "tuple") gTuple := ⟨_, call_tupF, fun Z H xs ds d Q z r e q => by
  unfold gTuple at e
  split at e
  · cases e
    obtain ⟨v, rfl, r1⟩ := r.one
    obtain ⟨a, vs, rfl, h1, h2⟩ := r1.lst
    refine ⟨a, vs, rfl, .inl ⟨h1, fun p its hp => ?_⟩⟩
    have sm := Same.of_new (o := tHO its vs) hp
    exact q _ _ sm (.tup (.inl ⟨_, hid_new z hp, rfl⟩) (h2.mono (Same.hid sm)))
  · cases e
    obtain ⟨v, rfl, r1⟩ := r.one
    rcases r1 with r1 | ⟨_, _, ee⟩
    · cases r1 with
      | tup h1 h2 => exact ⟨_, _, rfl, .inr ⟨Same.tupq hid_full h1.sq, q _ _ (Same.refl _) (.tup h1 h2)⟩⟩
    · cases ee
  · cases e⟩
def asInts : List D → Option (List Int)
  | [] => some []
  | .int i :: r => match asInts r with
    | some ns => some (i :: ns)
    | none => none
  | _ :: _ => none
theorem asInts_eq : ∀ {xs : List D} {ns : List Int}, asInts xs = some ns → xs = ns.map D.int
  | [], ns, e => by cases e; rfl
  | .int i :: r, ns, e => by
    simp only [asInts] at e
    split at e
    · rename_i ms q
      cases e
      rw [asInts_eq q]; rfl
    · cases e
  | .non :: _, _, e => by cases e
  | .bl _ :: _, _, e => by cases e
  | .str _ :: _, _, e => by cases e
  | .tup _ :: _, _, e => by cases e
  | .lst _ :: _, _, e => by cases e
  | .dct _ _ :: _, _, e => by cases e
  | .set _ :: _, _, e => by cases e
  | .obj _ _ _ :: _, _, e => by cases e
  | .ref _ :: _, _, e => by cases e
def bls : List D → Option (List Bool)
  | [] => some []
  | .bl i :: r => match bls r with
    | some ns => some (i :: ns)
    | none => none
  | _ :: _ => none
theorem bls_eq : ∀ {xs : List D} {ns : List Bool}, bls xs = some ns → xs = ns.map D.bl
  | [], ns, e => by cases e; rfl
  | .bl i :: r, ns, e => by
    simp only [bls] at e
    split at e
    · rename_i ms q
      cases e
      rw [bls_eq q]; rfl
    · cases e
  | .non :: _, _, e => by cases e
  | .int _ :: _, _, e => by cases e
  | .str _ :: _, _, e => by cases e
  | .tup _ :: _, _, e => by cases e
  | .lst _ :: _, _, e => by cases e
  | .dct _ _ :: _, _, e => by cases e
  | .set _ :: _, _, e => by cases e
  | .obj _ _ _ :: _, _, e => by cases e
  | .ref _ :: _, _, e => by cases e
def gAll : List D → Option D
  | [.lst xs] => match bls xs with
    | some ns => some (.bl (ns.all id))
    | none => none
  | _ => none
theorem cd_all (hc : X.calm = true) : CallD X (.builtin "all") gAll := ⟨_, cr_all hc, fun Z H xs ds d Q z r e q => by
  unfold gAll at e
  split at e
  · split at e
    · rename_i ns q1
      cases e
      obtain rfl := bls_eq q1
      obtain ⟨v, rfl, r1⟩ := r.one
      obtain ⟨a, vs, rfl, h1, h2⟩ := r1.lst
      obtain rfl := h2.bls
      exact ⟨a, ns, rfl, h1, ret_bl q⟩
    · cases e
  · cases e⟩
def gAny : List D → Option D
  | [.lst xs] => match bls xs with
    | some ns => some (.bl (ns.any id))
    | none => none
  | _ => none
theorem cd_any (hc : X.calm = true) : CallD X (.builtin "any") gAny := ⟨_, cr_any hc, fun Z H xs ds d Q z r e q => by
  unfold gAny at e
  split at e
  · split at e
    · rename_i ns q1
      cases e
      obtain rfl := bls_eq q1
      obtain ⟨v, rfl, r1⟩ := r.one
      obtain ⟨a, vs, rfl, h1, h2⟩ := r1.lst
      obtain rfl := h2.bls
      exact ⟨a, ns, rfl, h1, ret_bl q⟩
    · cases e
  · cases e⟩
def insI (i : Int) : List Int → List Int
  | [] => [i]
  | j :: r => if i ≤ j then i :: j :: r else j :: insI i r
def sortI : List Int → List Int
  | [] => []
  | i :: r => insI i (sortI r)
theorem insI_perm (i : Int) : ∀ l, (insI i l).Perm (i :: l)
  | [] => .refl _
  | j :: r => by
    unfold insI
    split
    · exact .refl _
    · exact ((insI_perm i r).cons j).trans (.swap _ _ _)
theorem sortI_perm : ∀ l, (sortI l).Perm l
  | [] => .refl _
  | i :: r => (insI_perm i _).trans ((sortI_perm r).cons i)
theorem insI_sorted (i : Int) : ∀ l, l.Pairwise (· ≤ ·) → (insI i l).Pairwise (· ≤ ·)
  | [], _ => List.pairwise_singleton _ _
  | j :: r, h => by
    obtain ⟨h1, h2⟩ := List.pairwise_cons.mp h
    unfold insI
    split
    · rename_i hij
      refine List.pairwise_cons.mpr ⟨fun x hx => ?_, h⟩
      rcases List.mem_cons.mp hx with rfl | hx
      · exact hij
      · exact Int.le_trans hij (h1 x hx)
    · rename_i hij
      refine List.pairwise_cons.mpr ⟨fun x hx => ?_, insI_sorted i r h2⟩
      rcases List.mem_cons.mp ((insI_perm i r).mem_iff.mp hx) with rfl | hx
      · omega
      · exact h1 x hx
theorem sortI_sorted : ∀ l, (sortI l).Pairwise (· ≤ ·)
  | [] => .nil
  | i :: r => insI_sorted i _ (sortI_sorted r)
theorem sorted_uniq : ∀ {l m : List Int}, l.Perm m → l.Pairwise (· ≤ ·) → m.Pairwise (· ≤ ·) → l = m
  | [], m, p, _, _ => by rw [List.nil_perm.mp p]
  | i :: r, [], p, _, _ => by cases List.perm_nil.mp p
  | i :: r, j :: t, p, hl, hm => by
    obtain ⟨l1, l2⟩ := List.pairwise_cons.mp hl
    obtain ⟨m1, m2⟩ := List.pairwise_cons.mp hm
    have e : i = j := by
      have a1 : i ∈ j :: t := p.mem_iff.mp List.mem_cons_self
      have a2 : j ∈ i :: r := p.mem_iff.mpr List.mem_cons_self
      rcases List.mem_cons.mp a1 with a1 | a1
      · exact a1
      · rcases List.mem_cons.mp a2 with a2 | a2
        · exact a2.symm
        · exact Int.le_antisymm (l1 j a2) (m1 i a1)
    subst e
    rw [sorted_uniq (List.perm_cons _ |>.mp p) l2 m2]
def rCatL (K : PySem.W.Frag) : R2 := fun x y H Q => ∃ l b xs zs, x = .ref l ∧ y = .ref b ∧ SqL K H l xs ∧ SqL K H b zs ∧ xs.length + zs.length ≤ sizeLine ∧ ∀ p, H p = none → Q (.ref p) (upd H p (.lst (xs ++ zs)))
theorem op_catL : OpR X (binaryOp .Add) (rCatL X.K) := by
  rintro pins s σ H x y v u Q I rx ry ⟨l, b, xs, zs, rfl, rfl, hl, hb, hz, q⟩
  cases rx
  cases ry
  obtain ⟨its, r, ⟨⟨c1, d1, t1, s1⟩, n, ho, hc, _, hd⟩, _⟩ := I.list hl
  obtain ⟨its2, r2, ⟨⟨c2, d2, t2, s2⟩, n2, ho2, hc2, _, hd2⟩, _⟩ := I.list hb
  simp only at hc hd hc2 hd2
  subst hc hd hc2 hd2
  have len : (its ++ its2).length = xs.length + zs.length := by rw [List.length_append, r.length, r2.length]
  have ea : its.toArray ++ its2.toArray = (its ++ its2).toArray := by simp
  have big : its.toArray.size + its2.toArray.size ≤ sizeLine := by
    rw [List.size_toArray, List.size_toArray, ← List.length_append, len]
    exact hz
  refine concat_meets (s := s) (a := .ref l) (b := .ref b) ⟨_, ho, rfl⟩ ⟨_, ho2, rfl⟩ noFill_list_add seq_list_add PySem.F.slot_list_add PySem.F.entry_list_add (PySem.F.args_list_add_2 _ _) (list_addW l b _ _ n n2 d1 d2 s1 s2 big) ⟨ho, ho2, ?_⟩
  rw [ea]
  have hn := I.hok.fresh (Nat.le_refl s.heap.objs.size)
  refine ⟨V.ref s.heap.objs.size, _, I.laid (t' := s.toks) (o := .lst (xs ++ zs)) (fun _ _ k => Heap.get?_push_of_some _ k) (Nat.le_refl _) ⟨?_, its ++ its2, 0, r.append r2, Heap.get?_push_size _ rfl⟩, rfl, q _ hn⟩
  rw [List.length_append]; exact hz
def rCatF (K : PySem.W.Frag) : R2 := fun x y H Q => ∃ a b xs ys, x = .ref a ∧ y = .ref b ∧ SqT K H a xs ∧ SqT K H b ys ∧ xs.length + ys.length ≤ sizeLine ∧
  (xs = [] → Q (.ref b) H) ∧ (xs ≠ [] → ys = [] → Q (.ref a) H) ∧ (xs ≠ [] → ys ≠ [] → ∀ p its, H p = none → Q (.ref p) (upd H p (tHO its (xs ++ ys))))
theorem op_catF : OpR X (binaryOp .Add) (rCatF X.K) := by
  rintro pins s σ H x y v u Q I rx ry ⟨a, b, xs, ys, rfl, rfl, ha, hb, hz, q0, q1, q2⟩
  cases rx
  cases ry
  obtain ⟨its, r, p1, _⟩ := I.tuple ha
  obtain ⟨its2, r2, p2, _⟩ := I.tuple hb
  by_cases hx : xs = []
  · subst hx
    cases r
    exact cat_tup0 p1 p2 ⟨V.ref b, H, I, rfl, q0 rfl⟩
  · have nx : its ≠ [] := fun k => hx (r.nil_iff.mp k)
    have len : (its ++ its2).length = xs.length + ys.length := by rw [List.length_append, r.length, r2.length]
    apply HT.cat_tup p1 p2 nx (hsz := by rw [← List.length_append, len]; exact hz)
    · intro k
      exact ⟨V.ref a, H, I, rfl, q1 hx (r2.nil_iff.mp k)⟩
    · intro k
      exact ⟨V.ref s.heap.objs.size, _, lay_tup I (r.append r2) (by rw [List.length_append]; exact hz) s.toks, rfl, q2 hx (fun w => k (r2.nil_iff.mpr w)) _ _ (I.hok.fresh (Nat.le_refl _))⟩
def gAdd : D → D → Option D
  | .int i, .int j => some (.int (i + j))
  | .str x, .str y => if x.length + y.length ≤ 1000000 then some (.str (x ++ y)) else none
  | .lst xs, .lst ys => if xs.length + ys.length ≤ 1000000 then some (.lst (xs ++ ys)) else none
  | .tup xs, .tup ys => if xs.length + ys.length ≤ 1000000 then some (.tup (xs ++ ys)) else none
  | _, _ => none
theorem od_add : OpD X (binaryOp .Add) gAdd := ⟨_, (op_add.or op_add_str).or (op_catL.or op_catF), fun Z H x y dx dy d Q z rx ry e q => by
  unfold gAdd at e
  split at e
  · cases e
    exact .inl (.inl ⟨_, _, rx.int, ry.int, ret_int q⟩)
  · split at e
    · rename_i hz
      cases e
      exact .inl (.inr ⟨_, _, rx.str, ry.str, len_line hz, ret_str q⟩)
    · cases e
  · split at e
    · rename_i hz
      cases e
      obtain ⟨a, vs, rfl, h1, h2⟩ := rx.lst
      obtain ⟨b, ws, rfl, h3, h4⟩ := ry.lst
      refine .inr (.inl ⟨a, b, vs, ws, rfl, rfl, h1, h3, by rw [h2.len, h4.len]; exact len_line hz, fun p hp => ?_⟩)
      have sm := Same.of_new (o := .lst (vs ++ ws)) hp
      exact q _ _ sm (.lst (SqL.of (hid_new z hp)) ((h2.app h4).mono (Same.hid sm)))
    · cases e
  · rename_i xs ys
    split at e
    · rename_i hz
      cases e
      obtain ⟨a, vs, rfl, h1, h2⟩ := rx.tup
      obtain ⟨b, ws, rfl, h3, h4⟩ := ry.tup
      refine .inr (.inr ⟨a, b, vs, ws, rfl, rfl, h1.sq, h3.sq, by rw [h2.len, h4.len]; exact len_line hz, fun e1 => ?_, fun e1 e2 => ?_, fun e1 e2 p its hp => ?_⟩)
      · subst e1
        cases h2
        rcases ry with ry | ⟨_, _, ee⟩
        · exact q _ H (Same.refl _) ry
        · cases ee
      · subst e2
        cases h4
        rw [List.append_nil] at q
        rcases rx with rx | ⟨_, _, ee⟩
        · exact q _ H (Same.refl _) rx
        · cases ee
      · have sm := Same.of_new (o := tHO its (vs ++ ws)) hp
        exact q _ _ sm (.tup (.inl ⟨_, hid_new z hp, rfl⟩) ((h2.app h4).mono (Same.hid sm)))
    · cases e
  · cases e⟩
def tyN : D → Option String
  | .non => some "NoneType"
  | .bl _ => some "bool"
  | .int _ => some "int"
  | .str _ => some "str"
  | .lst _ => some "list"
  | .tup _ => some "tuple"
  | .dct (.tup _ :: _) _ => none
  | .dct _ _ => some "dict"
  | _ => none
theorem rt_ty {G : Gp} {Z : List Addr} {H : Hp} {v : V} {d : D} (h : RT G Z H v d) : ∀ t, tyN d = some t → TyX G.K H v (.type t) := by
  intro t e
  have eD : ∀ {ks vs : List D} {s : String}, tyN (.dct ks vs) = some s → s = "dict" := fun {ks vs s} e => by
    cases ks with
    | nil => cases e; rfl
    | cons k r => cases k <;> cases e <;> rfl
  have eT : ∀ {xs : List (List Key × Addr × Value)} {vs : List D} {s : String}, xs ≠ [] → tyN (.dct (xs.map fun x => keyT x.1) vs) = some s → False := fun {xs vs s} n e => by
    cases xs with
    | nil => exact n rfl
    | cons x r => cases e
  rcases h with h | ⟨a, rfl, h1⟩
  · cases h with
    | non => cases e; exact .base .non
    | bl b => cases e; exact .base (.bl b)
    | int b => cases e; exact .base (.int b)
    | str b => cases e; exact .base (.str b)
    | ref a => cases e
    | lst h1 h2 =>
      cases e
      rcases hid_full.seq h1 with (h1 | ⟨o, h1⟩) | ⟨o, its, n, k1, k2, _⟩
      · exact .base (.lst h1)
      · exact .base (.frz h1)
      · exact .kList k1 k2
    | tup h1 h2 =>
      cases e
      rcases h1 with ⟨o, h1, _⟩ | ⟨o, its, n, k1, k2, _⟩
      · exact .fTuple (hid_full _ _ h1)
      · exact .kTuple k1 k2
    | dct h1 _ => rw [eD e]; exact .fDict (hid_full _ _ h1)
    | dctT n h1 _ => exact (eT n e).elim
    | set _ _ _ _ => cases e
    | obj _ _ _ => cases e
    | slt _ _ _ _ => cases e
  · cases d with
    | lst ds => obtain ⟨vs, h1, _⟩ := h1; cases e; exact .base (.lst h1)
    | dct ks ds =>
      cases h1 with
      | k h1 _ => rw [eD e]; exact .base (.dK h1)
      | t n _ _ _ _ => exact (eT n e).elim
    | _ => exact h1.elim
def isiB (t n : String) : Bool := t == n || (t == "bool" && n == "int")
def tyKnown (n : String) : Bool := n == "int" || n == "bool" || n == "tuple" || n == "list" || n == "str" || n == "dict"
theorem kit_known {n : String} (hn : tyKnown n = true) : ∀ t ∈ ["NoneType", "bool", "int", "str", "list", "tuple", "dict"], kitB t n = some (isiB t n) := by
  unfold tyKnown at hn
  simp only [Bool.or_eq_true, beq_iff_eq] at hn
  rcases hn with ((((rfl | rfl) | rfl) | rfl) | rfl) | rfl <;> decide +kernel
def gIsi (n : String) (d : D) : Option D := match tyN d with
  | some t => some (.bl (isiB t n))
  | none => none
theorem tyN_mem {d : D} {t : String} (h : tyN d = some t) : t ∈ ["NoneType", "bool", "int", "str", "list", "tuple", "dict"] := by
  cases d with
  | dct ks vs => 
    cases ks with
    | nil => cases h; decide
    | cons k r => cases k <;> cases h <;> decide
  | _ => cases h <;> decide
theorem de_isi {a : Expr} {fa : ES} {x : Str} {n : String} {p p2 pos : Pos} (hn : tyKnown n = true) (hg : Gl X "isinstance") (hm : X.mg "isinstance" = none) (ha : DE X a fa) (hg2 : Gl X x) (hm2 : X.mg x = none) (hv : bootBuiltins x = some (.type n))
    (hv0 : bootBuiltins "isinstance" = some (.builtin "isinstance")) (hx : x ≠ "__name__" := by decide) (hxd : (x == ("__debug__" : Str)) = false := by decide)
    (h1 : starEach [a, .Name x p2] X.env = (false, eval a X.env) :: starEach [.Name x p2] X.env := by rfl) : DE X (.Call (.Name "isinstance" p) [a, .Name x p2] [] pos) (eUn (gIsi n) fa) := ⟨fun F => by
  refine pe_imp (pe_callB call_isi hg hm hv0 (pa_cons (ha.run F) (pa_cons (pe_bltn (v := .ty n) hg2 hm2 hv rfl hx hxd) pa_nil) h1) (by decide) (by decide) h1) fun σ H Q ⟨A, ρ, rr, ρ', S, e, q⟩ => ?_
  obtain ⟨ra, ρ1, e1, e⟩ := bind_ok e
  obtain ⟨d, ρ3, e3, e⟩ := bind_ok e
  obtain ⟨l3, rfl⟩ := val_ok e3
  obtain ⟨c, ρ5, e5, e⟩ := bind_ok e
  obtain ⟨l5, rfl⟩ := opt_ok e5
  obtain ⟨rfl, rfl⟩ := ret_ok e
  refine ⟨A, ρ, ra, _, S, e1, fun v H1 S1 m1 r1 => ?_⟩
  have rt := look_rt S1 r1 l3
  unfold gIsi at l5
  split at l5
  · rename_i t ht
    cases l5
    refine ⟨v, .ty n, .type t, .type n, isiB t n, rfl, .ty n, rt_ty rt t ?_, kit_ty (kit_known hn t (tyN_mem ht)), q _ H1 S1 m1 (.bl _)⟩
    unfold tyN at ht
    exact ht
  · cases l5⟩
end
mutual
def cost : D → Nat
  | .non => 4
  | .bl _ => 5
  | .int i => if i.natAbs < 10 ^ 18 then 20 else if i.natAbs < 2 ^ 1900 then 1922 else 100000000
  | .str x => if PyData.strOk x = true then 10 * x.length + 2 else 100000000
  | .lst xs => costs xs + 3
  | .tup xs => costs xs + 3
  | _ => 100000000
def costs : List D → Nat
  | [] => 0
  | x :: xs => cost x + 2 + costs xs
end
theorem strOk_of {x : Str} (h : PyData.strOk x = true) : ∀ c ∈ x.cps.toList, c < 16 ^ 8 := fun c hc => by
  have z := Array.all_eq_true_iff_forall_mem.mp h c (by simpa using hc)
  have z := of_decide_eq_true z
  exact Nat.lt_of_lt_of_le z (by decide)
theorem ofString_len (x : String) : (Str.ofString x).length = x.length :=
  PySem.ofString_length x
mutual
theorem cost_ok : ∀ (d : D), cost d ≤ 16000000 → (pd d).showable = true ∧ (pd d).shown.length ≤ cost d
  | .non, _ => ⟨rfl, by decide⟩
  | .bl b, _ => ⟨rfl, by cases b <;> decide⟩
  | .int i, h => by
    simp only [cost] at h ⊢
    by_cases z : i.natAbs < 10 ^ 18
    · rw [if_pos z]
      refine ⟨?_, ?_⟩
      · show decide (i.natAbs.log2 < 1920) = true
        have z2 : i.natAbs < 2 ^ 60 := Nat.lt_of_lt_of_le z (by decide)
        exact decide_eq_true (Nat.lt_trans (PySem.Flt.log2_lt_of (by decide) z2) (by decide))
      · show (Str.ofString (toString i)).length ≤ 20
        rw [ofString_len]
        exact Nat.le_trans (int_text_length_le10 (k := 18) (by decide) z) (by decide)
    · rw [if_neg z] at h ⊢
      by_cases z : i.natAbs < 2 ^ 1900
      · rw [if_pos z]
        have zl := PySem.Flt.log2_lt_of (by decide) z
        refine ⟨?_, ?_⟩
        · show decide (i.natAbs.log2 < 1920) = true
          exact decide_eq_true (Nat.lt_trans zl (by decide))
        · show (Str.ofString (toString i)).length ≤ 1922
          rw [ofString_len]
          exact Nat.le_trans (int_text_length_le (k := 1900) (by decide) zl) (by decide)
      · rw [if_neg z] at h
        exact absurd h (by decide)
  | .str x, h => by
    simp only [cost] at h ⊢
    by_cases z : PyData.strOk x = true
    · rw [if_pos z]
      exact ⟨rfl, StrLaws.reprText_len x (strOk_of z)⟩
    · rw [if_neg z] at h
      exact absurd h (by decide)
  | .lst xs, h => by
    simp only [cost] at h ⊢
    obtain ⟨h1, h2⟩ := costs_ok xs (by omega)
    refine ⟨h1, Nat.le_trans (listText_len_le _) ?_⟩
    omega
  | .tup xs, h => by
    simp only [cost] at h ⊢
    obtain ⟨h1, h2⟩ := costs_ok xs (by omega)
    refine ⟨h1, Nat.le_trans (tupleText_len_le _) ?_⟩
    omega
  | .dct _ _, h => absurd h (by simp [cost])
  | .set _, h => absurd h (by simp [cost])
  | .obj _ _ _, h => absurd h (by simp [cost])
  | .ref _, h => absurd h (by simp [cost])
theorem costs_ok : ∀ (ds : List D), costs ds ≤ 16000000 → PyData.showableAll (pds ds) = true ∧ ((PyData.shownAll (pds ds)).map (·.length)).sum + 2 * (PyData.shownAll (pds ds)).length ≤ costs ds
  | [], _ => ⟨rfl, Nat.le_refl _⟩
  | x :: xs, h => by
    simp only [costs] at h ⊢
    obtain ⟨h1, h2⟩ := cost_ok x (by omega)
    obtain ⟨h3, h4⟩ := costs_ok xs (by omega)
    refine ⟨Bool.and_eq_true_iff.mpr ⟨h1, h3⟩, ?_⟩
    simp only [pds, PyData.shownAll, List.map_cons, List.sum_cons, List.length_cons]
    omega
end
mutual
theorem pd_nodict : ∀ (d : D), (pd d).hasDict = false
  | .non => rfl
  | .bl _ => rfl
  | .int _ => rfl
  | .str _ => rfl
  | .lst xs => pds_nodict xs
  | .tup xs => pds_nodict xs
  | .dct _ _ => rfl
  | .set _ => rfl
  | .obj _ _ _ => rfl
  | .ref _ => rfl
theorem pds_nodict : ∀ (ds : List D), PyData.hasDictAll (pds ds) = false
  | [] => rfl
  | x :: xs => by
    simp only [pds, PyData.hasDictAll]
    rw [pd_nodict x, pds_nodict xs]; rfl
end
section
variable {X : Cx}
def shownD (d : D) : Str := (pd d).shown
def gRepr : List D → Option D
  | [d] => if (pl 50 d && decide (cost d ≤ 16000000)) = true then some (.str (shownD d)) else none
  | _ => none
def rReprD (K : PySem.W.Frag) : List V → Hp → VK → Prop := fun xs H Q => ∃ v d, xs = [v] ∧ pl 50 d = true ∧ cost d ≤ 16000000 ∧ Dp K H v (pd d) ∧ (match d with
  | .non => v = .non
  | .bl b => v = .bl b
  | .int i => v = .int i
  | .str x => v = .str x
  | _ => ∃ a, v = .ref a) ∧ Q (.str (shownD d)) H
theorem call_reprD (gd : X.A.guards = some []) (hu : X.A.units + 64 < cLine) : CallR X (.builtin "repr") (rReprD X.K) := by
  rintro pins s σ H xs us Q I r ⟨v, d, rfl, hp, hc, dp, hv, q⟩
  obtain ⟨u, rfl, ru⟩ := vals1 r
  obtain ⟨c1, c2⟩ := cost_ok d hc
  have len : (pd d).shown.length ≤ sizeLine := Nat.le_trans c2 (Nat.le_trans hc (by rw [sizeLine_eq]; decide))
  have dep : (pd d).depth ≤ 50 := (pl_lay 50 d hp).2
  have fin : ∀ (h' : Heap) (t : Tok) (tk : Nat), (∀ b o, s.heap.get? b = some o → h'.get? b = some o) → EP X pins σ Q (.str (pd d).shown t) { s with heap := h', toks := tk } := fun h' t tk k => ⟨.str (shownD d), H, I.kept k, ⟨t, rfl⟩, q⟩
  have big : (∃ a, v = .ref a) → wpAny (model X.prog X.w) X.A (call (.builtin "repr") [u]) (EP X pins σ Q) X.xe s := by
    rintro ⟨a, rfl⟩
    obtain ⟨as, rd⟩ := Dp.reads I _ _ u dp ru
    cases ru
    exact repr_of_reads' rd c1 (fun z => by rw [pd_nodict d] at z; cases z) gd (by omega) (fun _ _ z => z) (fun h' t tk k => fin h' t tk k) len
  cases d with
  | non =>
    subst hv; cases ru
    exact P.repr_of_none (fin s.heap _ _ fun _ _ z => z)
  | bl b =>
    subst hv; cases ru
    exact P.repr_of_bool (fin s.heap _ _ fun _ _ z => z)
  | int i =>
    subst hv
    obtain ⟨t, rfl⟩ := ru
    exact P.repr_of_int (of_decide_eq_true c1) (fin s.heap _ _ fun _ _ z => z)
  | str x =>
    subst hv
    obtain ⟨t, rfl⟩ := ru
    exact P.repr_of_str (fin s.heap _ _ fun _ _ z => z) len
  | _ => exact big hv
theorem cd_repr (gd : X.A.guards = some []) (hu : X.A.units + 64 < cLine) : CallD X (.builtin "repr") gRepr := ⟨_, call_reprD gd hu, fun Z H xs ds d Q z r e q => by
  unfold gRepr at e
  split at e
  · rename_i x
    split at e
    · rename_i h
      cases e
      obtain ⟨h1, h2⟩ := Bool.and_eq_true_iff.mp h
      obtain ⟨v, rfl, r1⟩ := r.one
      refine ⟨v, x, rfl, h1, of_decide_eq_true h2, pl_dp 50 x v h1 (r1.full (pl_nd h1)), ?_, ret_str q⟩
      have f := r1.full (pl_nd h1)
      cases f <;> first | rfl | exact ⟨_, rfl⟩
    · cases e
  · cases e⟩
end
end Dv
namespace Dv
open PySem PySem.Spec PyProof.Rows L2
variable [Tbl]
def lAt (ρ : Rho) (i : Nat) : Option (List D) := match ρ[i]? with
  | some (some (.owd (.lst xs))) => some xs
  | some (some (.bo xs)) => some xs
  | _ => none
def lPut (ρ : Rho) (i : Nat) (ys : List D) : Rho := match ρ[i]? with
  | some (some (.owd (.lst _))) => ρ.set i (some (.ow ys))
  | some (some (.bo _)) => ρ.set i (some (.bo ys))
  | _ => ρ
theorem lAt_own {G : Gp} {F : Fm} {A : Own} {σ : St} {ρ : Rho} {H : Hp} {i : Nat} {xs : List D} (S : Sts G F A σ ρ H) (h : lAt ρ i = some xs) : ∃ a vs, (i, a) ∈ A ∧ σ[i]? = some (some (.ref a)) ∧ H a = some (.lst vs) ∧ RDs G (hid (zs F A) H) vs xs := by
  unfold lAt at h
  split at h
  · rename_i ys q
    cases h
    obtain ⟨a, h1, _, _, h2, vs, h3, h4⟩ := S.ow i _ q
    exact ⟨a, vs, h1, h2, h3, h4⟩
  · rename_i ys q
    cases h
    obtain ⟨a, h1, _, h2, vs, h3, h4⟩ := S.bo i _ q
    exact ⟨a, vs, h1, h2, h3, h4⟩
  · cases h
theorem Sts.chg {G : Gp} {F : Fm} {A : Own} {σ : St} {ρ : Rho} {H : Hp} {i : Nat} {a : Addr} {xs ys : List D} {vs : List V} (S : Sts G F A σ ρ H) (h : lAt ρ i = some xs) (ha : (i, a) ∈ A) (r : RDs G (hid (zs F A) H) vs ys) :
    Sts G F A σ (lPut ρ i ys) (upd H a (.lst vs)) ∧ Stp A H (upd H a (.lst vs)) := by
  have hz : a ∈ zs F A := mem_zs.mpr (.inr ⟨i, ha⟩)
  have eh : hid (zs F A) (upd H a (.lst vs)) = hid (zs F A) H := hid_upd hz
  have st : Stp A H (upd H a (.lst vs)) := fun b o e n => by
    rw [nt_upd, upd_ne (fun z : b = a => n i (by rw [z]; exact ha))]; exact e
  obtain ⟨a', vs0, ha', hσ, h0, _⟩ := lAt_own S h
  obtain rfl := (S.uni i i a a' ha ha').mp rfl
  have other : ∀ {j b zs'}, (j, b) ∈ A → j ≠ i → OwAt G F A σ H j b zs' → OwAt G F A σ (upd H a (.lst vs)) j b zs' := fun {j b zs'} hb hj h => by
    have nb : b ≠ a := fun z => hj ((S.uni j i b a hb ha).mpr z)
    exact ⟨h.1, h.2.move (fun _ z _ => by rw [upd_ne nb]; exact z) (by rw [eh]; exact Same.refl _)⟩
  have here : OwAt G F A σ (upd H a (.lst vs)) i a (.lst ys) := ⟨hσ, vs, upd_same, by rw [eh]; exact r⟩
  have keep : ∀ b o, nt F.H0 b = some o → (∀ j, (j, b) ∉ F.B) → nt (upd H a (.lst vs)) b = some o := fun b o e n => by
    rw [nt_upd]
    by_cases z : b = a
    · subst z
      unfold lAt at h
      split at h
      · rename_i q
        obtain ⟨c, h1, _, h3, _⟩ := S.ow i _ q
        obtain rfl := (S.uni i i b c ha h1).mp rfl
        rw [nt_none.mpr h3] at e; cases e
      · rename_i q
        obtain ⟨c, h1, h2, _⟩ := S.bo i _ q
        obtain rfl := (S.uni i i b c ha h1).mp rfl
        exact absurd h2 (n i)
      · cases h
    · rw [upd_ne z]; exact S.keep b o e n
  have zok : ZOk F.Z (upd H a (.lst vs)) := fun b hb q => by
    by_cases z : b = a
    · subst z; rw [upd_same] at q; cases q
    · rw [upd_ne z] at q; exact S.zok b hb q
  refine ⟨?_, st⟩
  unfold lAt at h
  split at h
  · rename_i zs0 q
    have e : lPut ρ i ys = ρ.set i (some (.ow ys)) := by unfold lPut; rw [q]
    rw [e]
    have hi : i < ρ.length := (List.getElem?_eq_some_iff.mp q).1
    refine ⟨by rw [List.length_set]; exact S.len, fun j d hj => ?_, fun j xs' hj => ?_, fun j xs' hj => ?_, fun j b hb => ?_, S.uni, fun j b hb => ?_, keep, zok, tabs_upd S.tabs h0⟩
    · by_cases z : j = i
      · subst z; rw [List.getElem?_set_self hi] at hj; cases hj
      · rw [List.getElem?_set_ne (Ne.symm z)] at hj
        obtain ⟨v, h1, h2⟩ := S.im j d hj
        exact ⟨v, h1, by rw [eh]; exact h2⟩
    · by_cases z : j = i
      · subst z
        rw [List.getElem?_set_self hi] at hj
        cases hj
        obtain ⟨c, h1, h2, h3, _⟩ := S.ow j _ q
        obtain rfl := (S.uni j j a c ha h1).mp rfl
        exact ⟨a, ha, h2, h3, here⟩
      · rw [List.getElem?_set_ne (Ne.symm z)] at hj
        obtain ⟨c, h1, h2, h3, h4⟩ := S.ow j _ hj
        exact ⟨c, h1, h2, h3, other h1 z h4⟩
    · by_cases z : j = i
      · subst z; rw [List.getElem?_set_self hi] at hj; cases hj
      · rw [List.getElem?_set_ne (Ne.symm z)] at hj
        obtain ⟨c, h1, h2, h4⟩ := S.bo j _ hj
        exact ⟨c, h1, h2, other h1 z h4⟩
    · by_cases z : j = i
      · subst z; exact ⟨.lst ys, .inl (List.getElem?_set_self hi)⟩
      · rw [List.getElem?_set_ne (Ne.symm z)]; exact S.own j b hb
    · obtain ⟨h1, xs', h2⟩ := S.bor j b hb
      have z : j ≠ i := fun z => by subst z; rw [q] at h2; cases h2
      exact ⟨h1, xs', by rw [List.getElem?_set_ne (Ne.symm z)]; exact h2⟩
  · rename_i zs0 q
    have e : lPut ρ i ys = ρ.set i (some (.bo ys)) := by unfold lPut; rw [q]
    rw [e]
    have hi : i < ρ.length := (List.getElem?_eq_some_iff.mp q).1
    refine ⟨by rw [List.length_set]; exact S.len, fun j d hj => ?_, fun j xs' hj => ?_, fun j xs' hj => ?_, fun j b hb => ?_, S.uni, fun j b hb => ?_, keep, zok, tabs_upd S.tabs h0⟩
    · by_cases z : j = i
      · subst z; rw [List.getElem?_set_self hi] at hj; cases hj
      · rw [List.getElem?_set_ne (Ne.symm z)] at hj
        obtain ⟨v, h1, h2⟩ := S.im j d hj
        exact ⟨v, h1, by rw [eh]; exact h2⟩
    · by_cases z : j = i
      · subst z; rw [List.getElem?_set_self hi] at hj; cases hj
      · rw [List.getElem?_set_ne (Ne.symm z)] at hj
        obtain ⟨c, h1, h2, h3, h4⟩ := S.ow j _ hj
        exact ⟨c, h1, h2, h3, other h1 z h4⟩
    · by_cases z : j = i
      · subst z
        rw [List.getElem?_set_self hi] at hj
        cases hj
        obtain ⟨c, h1, h2, _⟩ := S.bo j _ q
        obtain rfl := (S.uni j j a c ha h1).mp rfl
        exact ⟨a, ha, h2, here⟩
      · rw [List.getElem?_set_ne (Ne.symm z)] at hj
        obtain ⟨c, h1, h2, h4⟩ := S.bo j _ hj
        exact ⟨c, h1, h2, other h1 z h4⟩
    · by_cases z : j = i
      · subst z; exact ⟨.lst ys, .inr ⟨ys, rfl, List.getElem?_set_self hi⟩⟩
      · rw [List.getElem?_set_ne (Ne.symm z)]; exact S.own j b hb
    · obtain ⟨h1, xs', h2⟩ := S.bor j b hb
      by_cases z : j = i
      · subst z; exact ⟨h1, ys, List.getElem?_set_self hi⟩
      · exact ⟨h1, xs', by rw [List.getElem?_set_ne (Ne.symm z)]; exact h2⟩
  · cases h
abbrev Ch := List D → List D → Option (D × List D)
def MtD (X : Cx) (id : String) (ch : Ch) : Prop := ∃ r, MtR X id r ∧ ∀ (Z : List Addr) (H : Hp) (a : Addr) (vs ws : List V) (xs ds ys : List D) (d : D) (Q : VK), a ∈ Z → H a = some (.lst vs) → RDs (Gx X) (hid Z H) vs xs → RDs (Gx X) (hid Z H) ws ds → ch xs ds = some (d, ys) →
  (∀ v vs', RD (Gx X) (hid Z H) v d → RDs (Gx X) (hid Z H) vs' ys → Q v (upd H a (.lst vs'))) → r (.ref a) ws H Q
def eMt (i : Nat) (ch : Ch) (fs : M (List RV)) : ES := fun ρ0 => match lAt ρ0 i with
  | none => .no
  | some _ => (M.bind fs fun rs => fun ρ => match imms rs, lAt ρ i with
    | some ds, some xs => match ch xs ds with
      | some (d, ys) => .ok (.im d) (lPut ρ i ys)
      | none => .no
    | _, _ => .no) ρ0
section
variable {X : Cx} {e : Expr} {es : List Expr} {fs : M (List RV)} {name : Str} {apos cpos : Pos} {id : String} {ch : Ch} {i : Nat} {o : Expr} {pos : Pos} {fa fb : ES} {a b : Expr}
theorem de_mt (pa : PlainAttrs "list") (slot : Slot "list" name id) (hty : typeOf (.builtin id) = pure (.type "method_descriptor")) (hm : MtD X id ch) (ho : PE X o (tVar i)) (ha : DA X (e :: es) fs)
    (hbase : attributeBase o name X.env (eval o X.env) = eval o X.env := by rfl)
    (hfew : ((backTo cpos (starEach (e :: es) X.env)).all (fun x => !x.1) && (backToKw cpos (keywordEach [] X.env)).all (fun x => x.1.isSome)
      && decide ((e :: es).length + ([] : List Keyword).length + (if ([] : List Keyword).isEmpty then 0 else 1) < 30)) = true := by rfl)
    (hline : (apos.endLine == cpos.line) = true := by rfl) (hs : starEach (e :: es) X.env = (false, eval e X.env) :: starEach es X.env := by rfl) (hplain : (backTo cpos (starEach es X.env)).any (·.1) = false := by rfl) :
    DE X (.Call (.Attribute o name apos) (e :: es) [] cpos) (eMt i ch fs) := ⟨fun F => by
  obtain ⟨r, h1, h2⟩ := hm
  refine pe_imp (pe_bm pa slot hty h1 ho (ha.run F) hbase hfew hline hs hplain) fun σ H Q ⟨A, ρ, rr, ρ', S, e, q⟩ => ?_
  unfold eMt at e
  split at e
  · cases e
  · rename_i xs0 hl0
    obtain ⟨p, vs0, hp, hσ, hH, _⟩ := lAt_own S hl0
    refine ⟨.ref p, hσ, ⟨.inl ⟨rfl, vs0, SqL.of hH⟩, ?_⟩⟩
    obtain ⟨rs, ρ1, e1, e⟩ := bind_ok e
    refine ⟨A, ρ, rs, ρ1, S, e1, fun ws H1 S1 m1 r1 => ?_⟩
    split at e
    · rename_i ds xs e2 e3
      split at e
      · rename_i d ys e4
        cases e
        obtain ⟨p', vs, hp', hσ', hH', hr⟩ := lAt_own S1 e3
        obtain rfl := (S1.uni i i p p' hp hp').mp rfl
        refine h2 (zs F A) H1 p vs ws xs ds ys d Q (mem_zs.mpr (.inr ⟨i, hp⟩)) hH' hr (imms_rd r1 e2) e4 fun v vs' rv rvs => ?_
        obtain ⟨S2, m2⟩ := S1.chg e3 hp rvs
        refine q v _ S2 (m1.trans m2) ?_
        show RD _ _ _ _
        rw [hid_upd (mem_zs.mpr (.inr ⟨i, hp⟩))]
        exact rv
      · cases e
    · cases e⟩
theorem de_mt0 (pa : PlainAttrs "list") (slot : Slot "list" name id) (hty : typeOf (.builtin id) = pure (.type "method_descriptor")) (hm : MtD X id ch) (ho : PE X o (tVar i))
    (hbase : attributeBase o name X.env (eval o X.env) = eval o X.env := by rfl) (hline : (apos.endLine == cpos.line) = true := by rfl) :
    DE X (.Call (.Attribute o name apos) [] [] cpos) (eMt i ch aNil) := ⟨fun F => by
  obtain ⟨r, h1, h2⟩ := hm
  refine pe_imp (pe_bm0 pa slot hty h1 ho hbase hline) fun σ H Q ⟨A, ρ, rr, ρ', S, e, q⟩ => ?_
  unfold eMt at e
  split at e
  · cases e
  · rename_i xs0 hl0
    obtain ⟨p, vs0, hp, hσ, hH, _⟩ := lAt_own S hl0
    refine ⟨.ref p, hσ, ⟨.inl ⟨rfl, vs0, SqL.of hH⟩, ?_⟩⟩
    obtain ⟨rs, ρ1, e1, e⟩ := bind_ok e
    obtain ⟨rfl, rfl⟩ := ret_ok e1
    dsimp only [imms] at e
    split at e
    · rename_i ds xs e2 e3
      cases e2
      split at e
      · rename_i d ys e4
        cases e
        obtain ⟨p', vs, hp', hσ', hH', hr⟩ := lAt_own S e3
        obtain rfl := (S.uni i i p p' hp hp').mp rfl
        refine h2 (zs F A) H p vs [] xs [] ys d Q (mem_zs.mpr (.inr ⟨i, hp⟩)) hH' hr .nil e4 fun v vs' rv rvs => ?_
        obtain ⟨S2, m2⟩ := S.chg e3 hp rvs
        refine q v _ S2 m2 ?_
        show RD _ _ _ _
        rw [hid_upd (mem_zs.mpr (.inr ⟨i, hp⟩))]
        exact rv
      · cases e
    · cases e⟩
def cAppend : Ch
  | xs, [d] => if xs.length < 1000000 then some (.non, xs ++ [d]) else none
  | _, _ => none
theorem md_append : MtD X "list.append" cAppend := ⟨_, mt_append, fun Z H a vs ws xs ds ys d Q hz ha r rs e q => by
  unfold cAppend at e
  split at e
  · rename_i d0
    by_cases z : xs.length < 1000000
    · rw [if_pos z] at e
      cases e
      cases rs with
      | cons r1 r2 =>
        cases r2
        exact ⟨a, vs, _, rfl, rfl, ha, by rw [r.len]; exact len_lt z, q _ _ .non (r.app (.cons r1 .nil))⟩
    · rw [if_neg z] at e; cases e
  · cases e⟩
def cPop : Ch
  | xs, [] => match xs[xs.length - 1]? with
    | some d => some (d, xs.dropLast)
    | none => none
  | _, _ => none
theorem RDs.dl {G : Gp} {H : Hp} {vs : List V} {ds : List D} (r : RDs G H vs ds) : RDs G H vs.dropLast ds.dropLast := by
  rw [List.dropLast_eq_take, List.dropLast_eq_take, r.len]; exact r.take _
theorem md_pop : MtD X "list.pop" cPop := ⟨_, mt_pop, fun Z H a vs ws xs ds ys d Q hz ha r rs e q => by
  unfold cPop at e
  split at e
  · split at e
    · rename_i d0 e0
      cases e
      cases rs
      rw [← r.len] at e0
      obtain ⟨v, h1, h2⟩ := r.get e0
      exact ⟨a, vs, v, rfl, rfl, ha, h1, q v _ h2 r.dl⟩
    · cases e
  · cases e⟩
def sSetIx (i : Nat) (fa fx : ES) : SS := M.bind fa fun r => M.bind (imm r) fun d => M.bind (eVar i) fun _ => M.bind fx fun rx => M.bind (val rx) fun dx => M.bind (M.opt (isInt dx)) fun k => fun ρ => match lAt ρ i with
  | some xs => match ixN xs.length k with
    | some j => .ok .nx (lPut ρ i (xs.set j d))
    | none => .no
  | none => .no
theorem isInt_ok {d : D} {k : Int} (h : isInt d = some k) : d = .int k := by
  cases d <;> cases h; rfl
theorem eVar_al {i : Nat} {ρ ρ' : Rho} {r : RV} (h : eVar i ρ = .ok r ρ') : ρ = ρ' ∧ ((∃ d, ρ[i]? = some (some (.im d)) ∧ r = .im d) ∨ (∃ xs, lAt ρ i = some xs ∧ r = .al i) ∨ ∃ d, ρ[i]? = some (some (.owd d)) ∧ r = .al i) := by
  unfold eVar at h
  split at h
  · rename_i d q; cases h; exact ⟨rfl, .inl ⟨d, q, rfl⟩⟩
  · rename_i d q; cases h; exact ⟨rfl, .inr (.inr ⟨d, q, rfl⟩)⟩
  · rename_i xs q; cases h; exact ⟨rfl, .inr (.inl ⟨xs, by unfold lAt; rw [q], rfl⟩)⟩
  · cases h
theorem ds_setIx {ix : Expr} {fx : ES} {tpos : Pos} (he : DE X e fa) (ho : PE X o (tVar i)) (hx : DE X ix fx)
    (ha : ∀ v, assign (.Subscript o ix tpos) X.env v = (do
      let ov ← holding [v] (eval o X.env)
      let iv ← holding [v, ov] (eval ix X.env)
      standAt tpos
      holding [v, ov, iv] (setItem ov iv v)
      release [v, ov, iv] []) := by intro _; rfl)
    (hs : swapsWithSole [.Subscript o ix tpos] e pos.line X.env = pure false := by rfl) (hw : swappedStores [.Subscript o ix tpos] e X.env = pure none := by rfl)
    (h1 : (assignEach [.Subscript o ix tpos] X.env).map (·.2) = [assign (.Subscript o ix tpos) X.env] := by rfl) :
    DS X (.Assign [.Subscript o ix tpos] e pos) (sSetIx i fa fx) := ⟨fun F => ps_imp (ps_asg (he.run F) (pg_sub ho (hx.run F) set_list ha) hs hw h1) fun D σ H ⟨A, ρ, S, out⟩ => by
  obtain ⟨r, ρ1, e1, out⟩ := out_bind out
  obtain ⟨d, ρ2, e2, out⟩ := out_bind out
  obtain ⟨rfl, rfl⟩ := imm_ok e2
  refine ⟨A, ρ, _, _, S, e1, fun v H1 S1 m1 r1 => ?_⟩
  obtain ⟨r0, ρ3, e3, out⟩ := out_bind out
  obtain ⟨rfl, k3⟩ := eVar_al e3
  have goL : ∃ v0, σ[i]? = some (some v0) ∧ (∀ xs, lAt ρ1 i = some xs → ∃ p, v0 = .ref p ∧ (i, p) ∈ A) := by
    rcases k3 with ⟨d0, q, _⟩ | ⟨xs, q, _⟩ | ⟨d0, q, _⟩
    · obtain ⟨v0, h1, h2⟩ := S1.im i d0 q
      exact ⟨v0, h1, fun xs hx => by unfold lAt at hx; rw [q] at hx; cases hx⟩
    · obtain ⟨p, vs, h1, h2, h3, h4⟩ := lAt_own S1 q
      exact ⟨_, h2, fun _ _ => ⟨p, rfl, h1⟩⟩
    · obtain ⟨p, h1, _, _, h2, _⟩ := S1.ow i d0 q
      exact ⟨_, h2, fun _ _ => ⟨p, rfl, h1⟩⟩
  obtain ⟨v0, hv0, _⟩ := goL
  refine ⟨v0, hv0, ?_⟩
  obtain ⟨rx, ρ4, e4, out⟩ := out_bind out
  refine ⟨A, ρ1, rx, ρ4, S1, e4, fun vx H2 S2 m2 r2 => ?_⟩
  obtain ⟨dx, ρ5, e5, out⟩ := out_bind out
  obtain ⟨l5, rfl⟩ := val_ok e5
  obtain ⟨k, l6, o7⟩ := out_opt out
  obtain rfl := isInt_ok l6
  cases q : lAt ρ4 i with
  | none => rw [q] at o7; exact o7.elim
  | some xs =>
    rw [q] at o7
    dsimp only at o7
    cases q2 : ixN xs.length k with
    | none => rw [q2] at o7; exact o7.elim
    | some j =>
      rw [q2] at o7
      obtain ⟨p, vs, hp, hσ, hH, hr⟩ := lAt_own S2 q
      have ev : v0 = .ref p := by
        rw [hv0] at hσ
        exact Option.some.inj (Option.some.inj hσ)
      subst ev
      have rx' := (look_rt S2 r2 l5).int
      subst rx'
      refine ⟨p, vs, k, j, rfl, rfl, hH, by rw [hr.len]; exact q2, ?_⟩
      obtain ⟨S3, m3⟩ := S2.chg (ys := xs.set j d) q hp (hr.upd (RD.mono m2.hid r1) j)
      exact o7 _ _ _ S3 ((Sto.of ((m1.trans m2).trans m3)))⟩
theorem walk_zip {G : Gp} {Hv : Hp} {a b : Addr} {vs ws : List V} {ds es : List D} (h : SqL G.K Hv a vs) (h' : SqL G.K Hv b ws) (r : RDs G Hv vs ds) (r' : RDs G Hv ws es) : Walk G Hv (Itz G.K a b) ((ds.zip es).map fun p => .tw [p.1, p.2]) := fun i H Z z sm => by
  have hs : SqL G.K H a vs := hid_full.seq (sm.seq h)
  have hs' : SqL G.K H b ws := hid_full.seq (sm.seq h')
  refine ⟨fun d hd => ?_, fun hl => ⟨vs, ws, hs, hs', ?_⟩⟩
  · rw [List.getElem?_map] at hd
    obtain ⟨⟨x, y⟩, e1, e2⟩ := Option.map_eq_some_iff.mp hd
    subst e2
    obtain ⟨e3, e4⟩ := List.getElem?_zip_eq_some.mp e1
    obtain ⟨v, h1, h2⟩ := r.get e3
    obtain ⟨w, h3, h4⟩ := r'.get e4
    refine ⟨⟨vs, ws, v, w, hs, hs', h1, h3⟩, fun x' H' ⟨T, v', w', e5, e6, e7, y1, y2⟩ => ?_⟩
    subst e5 e7
    obtain rfl : v' = v := Option.some.inj ((y1 vs hs).symm.trans h1)
    obtain rfl : w' = w := Option.some.inj ((y2 ws hs').symm.trans h3)
    have sm2 := Same.of_new (o := .tup [v', w']) e6
    exact ⟨sm2, T, [v', w'], rfl, .inl (.inl upd_same), .cons ((h2.mono sm).mono (Same.hid sm2)) (.cons ((h4.mono sm).mono (Same.hid sm2)) .nil)⟩
  · rw [List.length_map, List.length_zip] at hl
    rw [r.len, r'.len]; omega
theorem walk_zipT {G : Gp} {Hv : Hp} {a b : Addr} {vs ws : List V} {ds es : List D} (h : SqT G.K Hv a vs) (h' : SqT G.K Hv b ws) (r : RDs G Hv vs ds) (r' : RDs G Hv ws es) : Walk G Hv (RZ.ItzT G.K a b) ((ds.zip es).map fun p => .tw [p.1, p.2]) := fun i H Z z sm => by
  have hs : SqT G.K H a vs := Same.tupq hid_full (Same.tupq sm h)
  have hs' : SqT G.K H b ws := Same.tupq hid_full (Same.tupq sm h')
  refine ⟨fun d hd => ?_, fun hl => ⟨vs, ws, hs, hs', ?_⟩⟩
  · rw [List.getElem?_map] at hd
    obtain ⟨⟨x, y⟩, e1, e2⟩ := Option.map_eq_some_iff.mp hd
    subst e2
    obtain ⟨e3, e4⟩ := List.getElem?_zip_eq_some.mp e1
    obtain ⟨v, h1, h2⟩ := r.get e3
    obtain ⟨w, h3, h4⟩ := r'.get e4
    refine ⟨⟨vs, ws, v, w, hs, hs', h1, h3⟩, fun x' H' ⟨T, v', w', e5, e6, e7, y1, y2⟩ => ?_⟩
    subst e5 e7
    obtain rfl : v' = v := Option.some.inj ((y1 vs hs).symm.trans h1)
    obtain rfl : w' = w := Option.some.inj ((y2 ws hs').symm.trans h3)
    have sm2 := Same.of_new (o := .tup [v', w']) e6
    exact ⟨sm2, T, [v', w'], rfl, .inl (.inl upd_same), .cons ((h2.mono sm).mono (Same.hid sm2)) (.cons ((h4.mono sm).mono (Same.hid sm2)) .nil)⟩
  · rw [List.length_map, List.length_zip] at hl
    rw [r.len, r'.len]; omega
def gZip : List D → Option (List IV)
  | [.lst xs, .lst ys] => some ((xs.zip ys).map fun p => .tw [p.1, p.2])
  | [.tup xs, .tup ys] => some ((xs.zip ys).map fun p => .tw [p.1, p.2])
  | _ => none
def iCallI (g : List D → Option (List IV)) (fs : M (List RV)) : M (List IV) := M.bind fs fun rs => M.bind (M.opt (imms rs)) fun ds => M.opt (g ds)
theorem RDs.one {G : Gp} {H : Hp} {vs : List V} {d : D} (h : RDs G H vs [d]) : ∃ v, vs = [v] ∧ RD G H v d := by
  cases h with
  | cons a b => cases b; exact ⟨_, rfl, a⟩
theorem RDs.two {G : Gp} {H : Hp} {vs : List V} {d e : D} (h : RDs G H vs [d, e]) : ∃ v u, vs = [v, u] ∧ RD G H v d ∧ RD G H u e := by
  cases h with
  | cons a b =>
    obtain ⟨u, rfl, c⟩ := b.one
    exact ⟨_, u, rfl, a, c⟩
theorem di_zip {elts : List Expr} {kk : Nat} {tpos p : Pos} (hg : Gl X "zip") (hm : X.mg "zip" = none) (ha : DA X [a, b] fs)
    (hs : starEach [a, b] X.env = (false, eval a X.env) :: starEach [b] X.env := by rfl) (hpl : (backTo pos (starEach [b] X.env)).any (·.1) = false := by rfl) :
    DI X (.Tuple elts kk tpos) (.Call (.Name "zip" p) [a, b] [] pos) (iCallI gZip fs) := ⟨fun F => pi_imp (RZ.pi_zipA hg hm (ha.run F) hs hpl) fun σ H R ⟨A, ρ, ds, ρ', S, e, q⟩ => by
  obtain ⟨rs, ρ1, e1, e⟩ := bind_ok e
  obtain ⟨xs, ρ2, e2, e⟩ := bind_ok e
  obtain ⟨l2, rfl⟩ := opt_ok e2
  obtain ⟨l3, rfl⟩ := opt_ok e
  refine ⟨A, ρ, rs, _, S, e1, fun vs H1 S1 m1 r1 => ?_⟩
  have rd := imms_rd r1 l2
  unfold gZip at l3
  split at l3
  · cases l3
    obtain ⟨v, u, rfl, c1, c2⟩ := rd.two
    cases c1 with
    | lst g1 g2 =>
      cases c2 with
      | lst g3 g4 => exact ⟨_, _, _, _, rfl, .inl ⟨hid_full.seq g1, hid_full.seq g3, q _ _ S1 m1 (walk_zip g1 g3 g2 g4)⟩⟩
  · cases l3
    obtain ⟨v, u, rfl, c1, c2⟩ := rd.two
    cases c1 with
    | tup g1 g2 =>
      cases c2 with
      | tup g3 g4 => exact ⟨_, _, _, _, rfl, .inr ⟨Same.tupq hid_full g1.sq, Same.tupq hid_full g3.sq, q _ _ S1 m1 (walk_zipT g1.sq g3.sq g2 g4)⟩⟩
  · cases l3⟩
theorem walk_enum {G : Gp} {Hv : Hp} {a : Addr} {vs : List V} {ds : List D} (h : SqL G.K Hv a vs) (r : RDs G Hv vs ds) : Walk G Hv (Ite G.K a) (ds.zipIdx.map fun p => .tw [.int (p.2 : Nat), p.1]) := fun i H Z z sm => by
  have hs : SqL G.K H a vs := hid_full.seq (sm.seq h)
  refine ⟨fun d hd => ?_, fun hl => ⟨vs, hs, by rw [List.length_map, List.length_zipIdx] at hl; rw [r.len]; exact hl⟩⟩
  rw [List.getElem?_map] at hd
  obtain ⟨⟨x, y⟩, e1, e2⟩ := Option.map_eq_some_iff.mp hd
  subst e2
  rw [List.getElem?_zipIdx] at e1
  obtain ⟨x', e3, e4⟩ := Option.map_eq_some_iff.mp e1
  rw [Nat.zero_add] at e4
  cases e4
  obtain ⟨v, h1, h2⟩ := r.get e3
  refine ⟨⟨vs, v, hs, h1⟩, fun x' H' ⟨T, v', e5, e6, e7, y1⟩ => ?_⟩
  subst e5 e7
  obtain rfl : v' = v := Option.some.inj ((y1 vs hs).symm.trans h1)
  have sm2 := Same.of_new (o := .tup [.int (i : Nat), v']) e6
  exact ⟨sm2, T, _, rfl, .inl (.inl upd_same), .cons (.int _) (.cons ((h2.mono sm).mono (Same.hid sm2)) .nil)⟩
def eDict0 : ES := M.ret (.im (.dct [] []))
theorem pe_dnewF {pos : Pos} : PE X (.Dict [] [] pos) (fun σ H Q => ∀ p o, H p = none → Q (.ref p) (upd H p (.frz o (.dK [])))) := ⟨fun pins s σ H Q I h =>
  wpAny_Dict_empty ⟨.ref s.heap.objs.size, _, I.laid (a := s.heap.objs.size) (o := .frz { cls := .type "dict", data := .dict #[] } (.dK [])) (t' := s.toks) (fun _ _ q => Heap.get?_push_of_some _ q) (Nat.le_refl _) ⟨Heap.get?_push_size _ rfl, dk_empty s.heap I.big⟩, rfl, h _ _ (I.hok.fresh (Nat.le_refl _))⟩⟩
theorem de_dict0 : DE X (.Dict [] [] pos) eDict0 := ⟨fun F => pe_imp pe_dnewF fun σ H Q ⟨A, ρ, rr, ρ', S, e, q⟩ => by
  obtain ⟨rfl, rfl⟩ := ret_ok e
  intro p o hp
  have sm := Same.of_new (o := .frz o (.dK [])) hp
  exact q _ _ (S.same sm) (Stp.of sm) (.dct (kvs := []) (hid_new S.zall hp) .nil)⟩
end
section
theorem any_k (q : Key) : ∀ kvs : List (Key × V), (kvs.map fun p => keyD p.1).any (fun x => eqKey x (keyD q)) = kvs.any fun kv => decide (kv.1 = q)
  | [] => rfl
  | p :: r => by
    show (eqKey (keyD p.1) (keyD q) || _) = _
    rw [eqKey_k, any_k q r]; rfl
theorem any_t (l : List Key) : ∀ xs : List (List Key × Addr × Value), (xs.map fun x => keyT x.1).any (fun x => eqKey x (keyT l)) = (atKey xs l).isSome
  | [] => rfl
  | x :: r => by
    show (eqKey (keyT x.1) (keyT l) || _) = _
    rw [eqKey_t, any_t l r]
    by_cases e : x.1 = l
    · simp [atKey, List.find?_cons, e]
    · simp [atKey, List.find?_cons, e]
theorem rep_k {G : Gp} {Hv : Hp} {v : V} {d : D} (rv : RD G Hv v d) (q : Key) : ∀ {kvs : List (Key × V)} {ds : List D}, RDs G Hv (kvs.map (·.2)) ds → RDs G Hv ((kvs.map fun kv => if kv.1 = q then (kv.1, v) else kv).map (·.2)) (rep1 (keyD q) d (kvs.map fun p => keyD p.1) ds)
  | [], _, h => by cases h; exact .nil
  | p :: r, _, h => by
    cases h with
    | cons a b =>
      show RDs G Hv ((if p.1 = q then (p.1, v) else p).2 :: _) ((if eqKey (keyD p.1) (keyD q) = true then d else _) :: _)
      rw [eqKey_k]
      by_cases e : p.1 = q
      · rw [if_pos e, decide_eq_true e, if_pos rfl]; exact .cons rv (rep_k rv q b)
      · rw [if_neg e, decide_eq_false e, if_neg Bool.false_ne_true]; exact .cons a (rep_k rv q b)
theorem put_k {G : Gp} {Hv : Hp} {v : V} {d : D} {q : Key} {kvs : List (Key × V)} {ds ks' ds' : List D} (h : RDs G Hv (kvs.map (·.2)) ds) (rv : RD G Hv v d) (e : gPut (kvs.map fun p => keyD p.1) ds (keyD q) d = some (ks', ds')) :
    ks' = (putK kvs q v).map (fun p => keyD p.1) ∧ RDs G Hv ((putK kvs q v).map (·.2)) ds' := by
  unfold gPut at e
  split at e
  · rw [any_k] at e
    unfold putK
    split at e
    · rename_i hc
      cases e
      rw [if_pos hc]
      refine ⟨?_, rep_k rv q h⟩
      rw [List.map_map]
      refine List.map_congr_left fun p _ => ?_
      show keyD p.1 = keyD (if p.1 = q then (p.1, v) else p).1
      split <;> rfl
    · rename_i hc
      cases e
      rw [if_neg hc, List.map_append, List.map_append]
      exact ⟨rfl, h.app (.cons rv .nil)⟩
  · cases e
theorem rep_t {G : Gp} {Hv : Hp} {v : V} {d : D} {u : Value} (rv : RD G Hv v d) (ru : RelV v u) (l : List Key) : ∀ {xs : List (List Key × Addr × Value)} {vs : List V} {ds : List D}, Vals vs (xs.map (·.2.2)) → RDs G Hv vs ds →
    ∃ vs', Vals vs' ((xs.map (putAt l u)).map (·.2.2)) ∧ RDs G Hv vs' (rep1 (keyT l) d (xs.map fun x => keyT x.1) ds)
  | [], _, _, r, h => by cases r; cases h; exact ⟨[], .nil, .nil⟩
  | x :: xs, _, _, r, h => by
    cases r with
    | cons r1 r2 =>
      cases h with
      | cons a b =>
        obtain ⟨vs', i1, i2⟩ := rep_t rv ru l r2 b
        show ∃ vs', Vals vs' ((putAt l u x).2.2 :: _) ∧ RDs G Hv vs' ((if eqKey (keyT x.1) (keyT l) = true then d else _) :: _)
        rw [eqKey_t]
        unfold putAt
        by_cases e : x.1 = l
        · rw [if_pos e, decide_eq_true e, if_pos rfl]; exact ⟨v :: vs', .cons ru i1, .cons rv i2⟩
        · rw [if_neg e, decide_eq_false e, if_neg Bool.false_ne_true]; exact ⟨_ :: vs', .cons r1 i1, .cons a i2⟩
theorem vals_app {a b : List V} {c d : List Value} (h : Vals a c) (g : Vals b d) : Vals (a ++ b) (c ++ d) := by
  induction h with
  | nil => exact g
  | cons x _ ih => exact .cons x ih
theorem put_t {G : Gp} {Hv : Hp} {v : V} {d : D} {u : Value} {l : List Key} {b : Addr} {xs : List (List Key × Addr × Value)} {vs : List V} {ds ks' ds' : List D} (r : Vals vs (xs.map (·.2.2))) (h : RDs G Hv vs ds) (rv : RD G Hv v d) (ru : RelV v u) (ka : KeysAt G.K Hv xs) (hb : TupV G.K Hv b (l.map kV))
    (e : gPut (xs.map fun x => keyT x.1) ds (keyT l) d = some (ks', ds')) : ks' = (storedH xs l b u).map (fun x => keyT x.1) ∧ KeysAt G.K Hv (storedH xs l b u) ∧ storedH xs l b u ≠ [] ∧ ∃ vs', Vals vs' ((storedH xs l b u).map (·.2.2)) ∧ RDs G Hv vs' ds' := by
  unfold gPut at e
  split at e
  · rw [any_t] at e
    unfold storedH
    split at e
    · rename_i hc
      cases e
      rw [if_pos hc]
      obtain ⟨vs', i1, i2⟩ := rep_t rv ru l r h
      refine ⟨?_, fun x hx => ?_, fun z => ?_, vs', i1, i2⟩
      · rw [List.map_map]
        refine List.map_congr_left fun p _ => ?_
        show keyT p.1 = keyT (putAt l u p).1
        unfold putAt
        split <;> rfl
      · obtain ⟨y, hy, rfl⟩ := List.mem_map.mp hx
        have := ka y hy
        unfold putAt
        split <;> exact this
      · have : xs = [] := List.map_eq_nil_iff.mp z
        subst this
        cases hc
    · rename_i hc
      cases e
      rw [if_neg hc, List.map_append, List.map_append]
      refine ⟨rfl, fun x hx => ?_, by simp, vs ++ [v], vals_app r (.cons ru .nil), h.app (.cons rv .nil)⟩
      rcases List.mem_append.mp hx with hx | hx
      · exact ka x hx
      · rw [List.mem_singleton.mp hx]; exact hb
  · cases e
theorem dto_code {P : Program} {w : World} {a : Addr} {xs : List (List Key × Addr × Value)} {q : Str} : DTo P w a xs ≠ LamX.CodeO a q := fun z => by
  have e := HO.ext.inj z
  let ob : Obj := { cls := .none, data := .fields #[.none, .str q 0] }
  let h0 : Heap := Heap.push ⟨Array.replicate a default, {}⟩ ob
  have g0 : h0.get? a = some ob := by
    have g : h0.get? (Array.replicate a (default : Obj)).size = some ob := Heap.get?_push_size _ rfl
    rw [Array.size_replicate] at g
    exact g
  have c : (fun h : Heap => ∃ (oc : Obj) (vs : Array Value) (t : Tok), h.get? a = some oc ∧ oc.data = .fields vs ∧ vs[1]? = some (.str q t)) h0 := ⟨ob, _, 0, g0, rfl, rfl⟩
  rw [← e] at c
  obtain ⟨⟨o, es, ep, h1, _, h3, _⟩, _⟩ := c
  rw [g0] at h1
  cases h1
  cases h3
variable {G : Gp} {F : Fm} {A : Own} {σ : St} {ρ : Rho} {H : Hp} {i : Nat} {a : Addr} {d d' : D} {o u : HO}
theorem tabs_updG {T : List (Addr × Str)} (t : LamX.Tabs T H) (h : H a = some u) (n1 : isTb u = false) (n2 : ∀ q, u ≠ LamX.CodeO a q) : LamX.Tabs T (upd H a o) := fun q hq => by
  obtain ⟨ps, h1, h2, h3⟩ := t q hq
  refine ⟨ps, by rw [upd_ne (fun z => by rw [z, h] at h1; cases h1; cases n1)]; exact h1, h2, fun pos cv hc => ?_⟩
  obtain ⟨c, e1, e2⟩ := h3 pos cv hc
  refine ⟨c, e1, ?_⟩
  have ne : c ≠ a := fun z => by
    rw [z, h] at e2
    exact n2 _ (Option.some.inj e2)
  rw [upd_ne ne]
  exact e2
theorem DcC.old {Hv : Hp} {ks ds : List D} (c : DcC G H Hv a ks ds) : ∃ u, H a = some u ∧ isTb u = false ∧ ∀ q, u ≠ LamX.CodeO a q := by
  cases c with
  | k h1 _ => exact ⟨_, h1, rfl, fun q z => by unfold LamX.CodeO at z; cases z⟩
  | t _ h1 _ _ _ => exact ⟨_, h1, rfl, fun q => dto_code⟩
theorem Sts.chgD {ks ds ks' ds' : List D} (S : Sts G F A σ ρ H) (q : ρ[i]? = some (some (.owd (.dct ks ds)))) (ha : (i, a) ∈ A) (tb : isTb o = false) (hc : DcC G (upd H a o) (hid (zs F A) H) a ks' ds') :
    Sts G F A σ (ρ.set i (some (.owd (.dct ks' ds')))) (upd H a o) ∧ Stp A H (upd H a o) := by
  have hz : a ∈ zs F A := mem_zs.mpr (.inr ⟨i, ha⟩)
  have eh : hid (zs F A) (upd H a o) = hid (zs F A) H := hid_upd hz
  have st : Stp A H (upd H a o) := fun b u e n => by
    rw [nt_upd tb, upd_ne (fun z : b = a => n i (by rw [z]; exact ha))]; exact e
  obtain ⟨a', ha', g1, g2, hσ, c0⟩ := S.ow i _ q
  obtain rfl := (S.uni i i a a' ha ha').mp rfl
  obtain ⟨u, hu, ut, un⟩ := DcC.old c0
  have hi : i < ρ.length := (List.getElem?_eq_some_iff.mp q).1
  have other : ∀ {j b zs'}, (j, b) ∈ A → j ≠ i → OwAt G F A σ H j b zs' → OwAt G F A σ (upd H a o) j b zs' := fun {j b zs'} hb hj h => by
    have nb : b ≠ a := fun z => hj ((S.uni j i b a hb ha).mpr z)
    exact ⟨h.1, h.2.move (fun _ z _ => by rw [upd_ne nb]; exact z) (by rw [eh]; exact Same.refl _)⟩
  refine ⟨⟨by rw [List.length_set]; exact S.len, fun j d hj => ?_, fun j xs' hj => ?_, fun j xs' hj => ?_, fun j b hb => ?_, S.uni, fun j b hb => ?_, fun b u e n => ?_, fun b hb q => ?_, tabs_updG S.tabs hu ut un⟩, st⟩
  · by_cases z : j = i
    · subst z; rw [List.getElem?_set_self hi] at hj; cases hj
    · rw [List.getElem?_set_ne (Ne.symm z)] at hj
      obtain ⟨v, h1, h2⟩ := S.im j d hj
      exact ⟨v, h1, by rw [eh]; exact h2⟩
  · by_cases z : j = i
    · subst z
      rw [List.getElem?_set_self hi] at hj
      cases hj
      exact ⟨a, ha, g1, g2, hσ, by rw [eh]; exact hc⟩
    · rw [List.getElem?_set_ne (Ne.symm z)] at hj
      obtain ⟨c, h1, h2, h3, h4⟩ := S.ow j _ hj
      exact ⟨c, h1, h2, h3, other h1 z h4⟩
  · by_cases z : j = i
    · subst z; rw [List.getElem?_set_self hi] at hj; cases hj
    · rw [List.getElem?_set_ne (Ne.symm z)] at hj
      obtain ⟨c, h1, h2, h4⟩ := S.bo j _ hj
      exact ⟨c, h1, h2, other h1 z h4⟩
  · by_cases z : j = i
    · subst z; exact ⟨_, .inl (List.getElem?_set_self hi)⟩
    · rw [List.getElem?_set_ne (Ne.symm z)]; exact S.own j b hb
  · obtain ⟨h1, xs', h2⟩ := S.bor j b hb
    have z : j ≠ i := fun z => by subst z; rw [q] at h2; cases h2
    exact ⟨h1, xs', by rw [List.getElem?_set_ne (Ne.symm z)]; exact h2⟩
  · rw [nt_upd tb]
    by_cases z : b = a
    · subst z; rw [nt_none.mpr g2] at e; cases e
    · rw [upd_ne z]; exact S.keep b u e n
  · by_cases z : b = a
    · subst z; rw [upd_same] at q; cases q
    · rw [upd_ne z] at q; exact S.zok b hb q
end
section
variable {X : Cx} {e o : Expr} {fa : ES} {pos tpos : Pos}
def sPutD (i : Nat) (fa fx : ES) : SS := M.bind fa fun r => M.bind (imm r) fun d => M.bind (eVar i) fun _ => M.bind fx fun rx => M.bind (val rx) fun dx => fun ρ => match ρ[i]? with
  | some (some (.owd (.dct ks vs))) => (match gPut ks vs dx d with
    | some (ks', vs') => .ok .nx (ρ.set i (some (.owd (.dct ks' vs'))))
    | none => .no)
  | _ => .no
theorem tup_keyH {G : Gp} {Z : List Addr} {H : Hp} {y : V} {xs : List D} {l : List Key} (h : RT G Z H y (.tup xs)) (e : keysK xs = some l) : ∃ b, y = .ref b ∧ TupV G.K (hid Z H) b (l.map kV) := by
  rcases h with h | ⟨_, _, ee⟩
  · rw [keysK_eq e] at h
    cases h with
    | tup h1 h2 => rw [h2.keys] at h1; exact ⟨_, rfl, h1⟩
  · exact ee.elim
theorem ds_putD (hu : X.A.units + 1 < cLine) {i : Nat} {ix : Expr} {fx : ES} (he : DE X e fa) (ho : PE X o (tVar i)) (hx : DE X ix fx)
    (ha : ∀ v, assign (.Subscript o ix tpos) X.env v = (do
      let ov ← holding [v] (eval o X.env)
      let iv ← holding [v, ov] (eval ix X.env)
      standAt tpos
      holding [v, ov, iv] (setItem ov iv v)
      release [v, ov, iv] []) := by intro _; rfl)
    (hs : swapsWithSole [.Subscript o ix tpos] e pos.line X.env = pure false := by rfl) (hw : swappedStores [.Subscript o ix tpos] e X.env = pure none := by rfl)
    (h1 : (assignEach [.Subscript o ix tpos] X.env).map (·.2) = [assign (.Subscript o ix tpos) X.env] := by rfl) :
    DS X (.Assign [.Subscript o ix tpos] e pos) (sPutD i fa fx) := ⟨fun F => ps_imp (ps_asg (he.run F) (pg_sub ho (hx.run F) (set_dct hu) ha) hs hw h1) fun D σ H ⟨A, ρ, S, out⟩ => by
  obtain ⟨r, ρ1, e1, out⟩ := out_bind out
  obtain ⟨d, ρ2, e2, out⟩ := out_bind out
  obtain ⟨rfl, rfl⟩ := imm_ok e2
  refine ⟨A, ρ, _, _, S, e1, fun v H1 S1 m1 r1 => ?_⟩
  obtain ⟨r0, ρ3, e3, out⟩ := out_bind out
  obtain ⟨rfl, k3⟩ := eVar_al e3
  have goL : ∃ v0, σ[i]? = some (some v0) := by
    rcases k3 with ⟨d0, q, _⟩ | ⟨xs, q, _⟩ | ⟨d0, q, _⟩
    · obtain ⟨v0, h1, h2⟩ := S1.im i d0 q
      exact ⟨v0, h1⟩
    · obtain ⟨p, vs, h1, h2, h3, h4⟩ := lAt_own S1 q
      exact ⟨_, h2⟩
    · obtain ⟨p, h1, _, _, h2, _⟩ := S1.ow i d0 q
      exact ⟨_, h2⟩
  obtain ⟨v0, hv0⟩ := goL
  refine ⟨v0, hv0, ?_⟩
  obtain ⟨rx, ρ4, e4, out⟩ := out_bind out
  refine ⟨A, ρ1, rx, ρ4, S1, e4, fun vx H2 S2 m2 r2 => ?_⟩
  obtain ⟨dx, ρ5, e5, o7⟩ := out_bind out
  obtain ⟨l5, rfl⟩ := val_ok e5
  cases q : ρ4[i]? with
  | none => rw [q] at o7; exact o7.elim
  | some s1 =>
    rw [q] at o7
    rcases s1 with _ | ⟨d1⟩ | ⟨d1⟩ | ⟨x1⟩ <;> try exact o7.elim
    cases d1 <;> try exact o7.elim
    rename_i ks vs
    dsimp only at o7
    cases q2 : gPut ks vs dx d with
    | none => rw [q2] at o7; exact o7.elim
    | some kv =>
      obtain ⟨ks', vs'⟩ := kv
      rw [q2] at o7
      obtain ⟨p, hp, n1, n2, hσ, hc⟩ := S2.ow i _ q
      have ev : v0 = .ref p := by
        rw [hv0] at hσ
        exact Option.some.inj (Option.some.inj hσ)
      subst ev
      refine ⟨p, rfl, ?_⟩
      have rt := look_rt S2 r2 l5
      have rv := RD.mono m2.hid r1
      have hk : keyFor ks dx = true ∧ ks.length < 1000000 := by
        unfold gPut at q2
        split at q2
        · assumption
        · cases q2
      have c : DcC (Gx X) H2 (hid (zs F A) H2) p ks vs := hc
      by_cases ht : ∃ xs, dx = .tup xs
      · obtain ⟨xs, rfl⟩ := ht
        have hk1 := hk.1
        unfold keyFor at hk1
        simp only [Bool.and_eq_true] at hk1
        obtain ⟨g1, g2⟩ := hk1
        obtain ⟨l, el⟩ := Option.isSome_iff_exists.mp g1
        obtain ⟨b, rfl, hb⟩ := tup_keyH rt el
        have ek : Dv.D.tup xs = keyT l := by rw [keysK_eq el]; rfl
        rw [ek] at q2
        cases c with
        | @k kvs ds c1 c2 =>
          rw [tupDict_k] at g2
          cases kvs with
          | cons p r => simp at g2
          | nil =>
            cases c2
            refine .inr ⟨[], l, b, .inl ⟨rfl, c1⟩, rfl, hb.mono hid_full, by show 0 < sizeLine; rw [sizeLine_eq]; decide, fun u ru => ?_⟩
            obtain ⟨k1, k2, k3, vs2, k4, k5⟩ := put_t (b := b) (xs := []) (vs := []) .nil .nil rv ru (fun _ h => nomatch h) hb q2
            subst k1
            obtain ⟨S3, m3⟩ := S2.chgD (o := DTo X.prog X.w p (storedH [] l b u)) q hp rfl (.t k3 upd_same k2 k4 k5)
            exact o7 _ _ _ S3 (Sto.of ((m1.trans m2).trans m3))
        | @t xs vs0 ds n c1 c2 c3 c4 =>
          refine .inr ⟨xs, l, b, .inr ⟨c1, c2.mono hid_full⟩, rfl, hb.mono hid_full, ?_, fun u ru => ?_⟩
          · have := hk.2; rw [List.length_map] at this; exact len_lt this
          · obtain ⟨k1, k2, k3, vs2, k4, k5⟩ := put_t (b := b) c3 c4 rv ru c2 hb q2
            subst k1
            obtain ⟨S3, m3⟩ := S2.chgD (o := DTo X.prog X.w p (storedH xs l b u)) q hp rfl (.t k3 upd_same k2 k4 k5)
            exact o7 _ _ _ S3 (Sto.of ((m1.trans m2).trans m3))
      · have hk2 : ((keyK dx).isSome && !tupDict ks) = true := by
          have h := hk.1
          cases dx <;> first | exact absurd ⟨_, rfl⟩ ht | exact h
        rw [Bool.and_eq_true] at hk2
        obtain ⟨g1, g2⟩ := hk2
        obtain ⟨q0, eq⟩ := Option.isSome_iff_exists.mp g1
        obtain rfl := keyK_eq eq
        have ey : vx = kV q0 := by
          cases q0
          · exact rt.int
          · exact rt.str
        cases c with
        | @k kvs ds c1 c2 =>
          obtain ⟨k1, k2⟩ := put_k c2 rv q2
          subst k1
          refine .inl ⟨kvs, q0, c1, ey, ?_, ?_⟩
          · have := hk.2; rw [List.length_map] at this; exact len_lt this
          · obtain ⟨S3, m3⟩ := S2.chgD (o := .dK (putK kvs q0 v)) q hp rfl (.k upd_same k2)
            exact o7 _ _ _ S3 (Sto.of ((m1.trans m2).trans m3))
        | @t xs vs0 ds n c1 c2 c3 c4 => rw [tupDict_t n] at g2; cases g2⟩
end
end Dv
namespace Dv
open PySem PySem.Spec PyProof.Rows L2
variable [Tbl]
section
variable {prog : Program} {w : World} {A : Around} {E : Value → Shared → Prop} {s : Shared}
theorem places_rev (n : Nat) : Builtin.Slice.slicePlaces ((n : Int) - 1) (-1) (-1) = n := by
  unfold Builtin.Slice.slicePlaces
  have h1 : ¬ ((-1 : Int) > 0) := by omega
  simp only [h1, if_false, Int.neg_neg, Int.ediv_one]
  split <;> omega
theorem fm_map {α β : Type} {f : α → Option β} {g : α → β} : ∀ (l : List α), (∀ m ∈ l, f m = some (g m)) → l.filterMap f = l.map g
  | [], _ => rfl
  | a :: l, h => by rw [List.filterMap_cons, h a List.mem_cons_self, List.map_cons, fm_map l fun m hm => h m (List.mem_cons_of_mem _ hm)]
theorem pick_rev (xs : Array Value) : ((List.range xs.size).filterMap fun (m : Nat) => xs[(((xs.size : Int) - 1) + (m : Int) * (-1)).toNat]?).toArray = xs.toList.reverse.toArray := by
  congr 1
  apply List.ext_getElem?
  intro i
  have key : (List.range xs.size).filterMap (fun (m : Nat) => xs[(((xs.size : Int) - 1) + (m : Int) * (-1)).toNat]?) = (List.range xs.size).map (fun m => xs.toList[xs.size - 1 - m]?.getD default) := by
    apply fm_map
    intro m hm
    rw [List.mem_range] at hm
    have e : (((xs.size : Int) - 1) + (m : Int) * (-1)).toNat = xs.size - 1 - m := by omega
    rw [e, ← Array.getElem?_toList, List.getElem?_eq_getElem (by rw [Array.length_toList]; omega)]
    rfl
  rw [key, List.getElem?_map]
  by_cases hi : i < xs.size
  · rw [List.getElem?_range hi, List.getElem?_reverse (by rw [Array.length_toList]; exact hi), Array.length_toList, Option.map_some, List.getElem?_eq_getElem (by rw [Array.length_toList]; omega)]
    rfl
  · rw [List.getElem?_eq_none (by rw [List.length_range]; omega), List.getElem?_eq_none (by rw [List.length_reverse, Array.length_toList]; omega)]
    rfl
theorem getItem_tuple_rev {t sl : Addr} {items : Array Value} {vs : Value} {Q : Value → Shared → Prop} (ht : IsTup s.heap t items) (hs : s.heap.IsSliceOf sl .none .none vs) (pv : IsPart vs (some (-1)))
    (h : Q (.ref s.heap.objs.size) { s with heap := s.heap.push { cls := .type "tuple", data := .seq items.toList.reverse.toArray } })
    (hsz : items.size ≤ sizeLine) : wpAny (model prog w) A (getItem (.ref t) (.ref sl)) Q E s := by
  have htake : sizeOk (.seq items.toList.reverse.toArray) := by
    show items.toList.reverse.toArray.size ≤ sizeLine
    rw [List.size_toArray, List.length_reverse, Array.length_toList]
    exact hsz
  obtain ⟨os, hos, hcs, hds⟩ := id hs
  have hTs : s.TypeIs (.ref sl) "slice" := ⟨os, hos, hcs⟩
  unfold getItem
  try with_reducible refine wpAny_holding ?_
  first | refine wpAny_bind (wpAny_pure ?_) | skip
  refine wpAny_bind (wpAny_sequenceKey ht.typeIs (by decide) ?_)
  refine wpAny_bind (wpAny_callSpecial?_slot (name := Str.ofString "__getitem__") ht.typeIs PyProof.Rows.slot_tuple_getitem
    (wpAny_call_entry PyProof.Rows.slot_tuple_getitem ht.typeIs entry_tuple_getitem ?_ (args_tuple_getitem _ _)))
  show wpAny _ _ (Builtin.Tuple.tupleItemsOf (.ref t) >>= _) _ _ s
  refine wpAny_bind (tupleItemsOf_ ht ?_)
  refine wpAny_bind (wpAny_typeOf hTs ?_)
  rw [if_pos (by decide)]
  have ap : ∀ {Q : Int × Int × Nat → Shared → Prop}, Q ((items.size : Int) - 1, -1, items.size) s → wpAny (model prog w) A.in1 (Builtin.Slice.sliceApplied (.ref sl) (pure (items.size : Int))) Q E s := fun {Q} q => by
    unfold Builtin.Slice.sliceApplied Builtin.Slice.sliceFields
    refine wpAny_bind (wpAny_bind (wpAny_field hos hds (x := .none) rfl (wpAny_bind (wpAny_field hos hds (x := .none) rfl (wpAny_bind (wpAny_field hos hds (x := vs) rfl (wpAny_pure ?_)))))))
    refine wpAny_bind (HT.slicePart_ pv ?_)
    show wpAny _ _ (if ((-1 : Int) == 0) = true then _ else _) _ _ s
    rw [if_neg (by decide)]
    refine wpAny_bind (HT.slicePart_ .none (wpAny_bind (HT.slicePart_ .none (wpAny_bind (wpAny_pure ?_)))))
    show wpAny _ _ (match Builtin.Slice.sliceAdjust none none (-1) (items.size : Int) with | (lo, hi) => pure (lo, (-1 : Int), Builtin.Slice.slicePlaces lo hi (-1))) _ _ s
    have e : Builtin.Slice.sliceAdjust none none (-1) (items.size : Int) = ((items.size : Int) - 1, -1) := rfl
    rw [e]
    show wpAny _ _ (pure ((items.size : Int) - 1, (-1 : Int), Builtin.Slice.slicePlaces ((items.size : Int) - 1) (-1) (-1))) _ _ s
    rw [places_rev]
    exact wpAny_pure q
  refine wpAny_bind (ap ?_)
  have hno : ¬ ((((items.size : Int) - 1) == 0 && (-1 : Int) == 1 && items.size == items.size) = true) := by
    intro q
    rw [Bool.and_eq_true, Bool.and_eq_true] at q
    exact absurd q.1.2 (by decide)
  show wpAny _ _ (if (((items.size : Int) - 1) == 0 && (-1 : Int) == 1 && items.size == items.size) = true then _ else _) _ _ s
  rw [if_neg hno, pick_rev]
  first
    | exact wpAny_bind (m := Builtin.Tuple.tupleExact _) (wpAny_newObj_type (wpAny_pure ⟨_, rfl, wpAny_pure h⟩) htake)
    | exact wpAny_bind (m := Builtin.Tuple.tupleExact _) (wpAny_newObj_type (wpAny_bind (wpAny_pure (wpAny_pure ⟨_, rfl, wpAny_pure h⟩))) htake)
    | exact wpAny_bind (wpAny_bind (m := Builtin.Tuple.tupleExact _) (wpAny_newObj_type (wpAny_pure (wpAny_pure ⟨_, rfl, wpAny_pure h⟩)) htake))
    | exact wpAny_bind (wpAny_bind (m := Builtin.Tuple.tupleExact _) (wpAny_newObj_type (wpAny_pure ⟨_, rfl, wpAny_pure h⟩) htake))
end
section
variable {X : Cx} {e a b : Expr} {fa fb : ES} {pos : Pos}
def tRevF (K : PySem.W.Frag) (te : TE) : TE := fun σ H Q => te σ H fun x H1 => ∃ a xs, x = .ref a ∧ SqT K H1 a xs ∧ ∀ p its, H1 p = none → Q (.ref p) (upd H1 p (tHO its xs.reverse))
theorem pe_revT {te : TE} {k : Nat} {p1 p2 p3 : Pos} (he : PE X e te) : PE X (.Subscript e (.Slice none none (some (.UnaryOp .USub (.Constant (.int 1) k p1) p2)) p3) pos) (tRevF X.K te) := by
  refine ⟨fun pins s σ H Q I h => ?_⟩
  refine Subscript_ (thn (he.run pins s σ H _ I h) fun v s1 ⟨x, H1, I1, r1, q1⟩ => ?_)
  obtain ⟨a, xs, ex, hx, q⟩ := q1
  subst ex
  cases r1
  have hst : PO X (some (.UnaryOp .USub (.Constant (.int 1) k p1) p2)) (tPart (tUn (rU fun i => .int (-i)) (tC (.int 1)))) := po_some (pe_un un_neg pe_int)
  refine wpAny_Slice (thn (po_none.run pins s1 σ H1 (fun o H2 => o = none ∧ H2 = H1) I1 ⟨rfl, rfl⟩) fun vl s2 ⟨l, H2, I2, pl, el, e2⟩ => ?_)
  subst el e2
  refine thn (po_none.run pins s2 σ H2 (fun o H3 => o = none ∧ H3 = H2) I2 ⟨rfl, rfl⟩) fun vu s3 ⟨u, H3, I3, pu, eu, e3⟩ => ?_
  subst eu e3
  refine thn (hst.run pins s3 σ H3 (fun o H4 => o = some (-1) ∧ H4 = H3) I3 ⟨1, rfl, -1, rfl, rfl, rfl⟩) fun vs s4 ⟨o, H4, I4, ps, eo, e4⟩ => ?_
  subst eo e4
  cases pl
  cases pu
  have I5 : Inv X pins σ H4 { s4 with heap := s4.heap.push { cls := .type "slice", data := .fields #[.none, .none, vs] } } := I4.kept (t' := s4.toks) fun b ob q => Heap.get?_push_of_some _ q
  obtain ⟨its, r, ht, hz⟩ := I5.tuple hx
  have hlen := r.length
  show wpAny (model X.prog X.w) X.A (subscriptTail e (.Slice none none (some (.UnaryOp .USub (.Constant (.int 1) k p1) p2)) p3) (.ref a) (.ref s4.heap.objs.size)) (EP X pins σ Q) X.xe { s4 with heap := s4.heap.push { cls := .type "slice", data := .fields #[.none, .none, vs] } }
  refine tail_any (ops := [.ref a, .ref s4.heap.objs.size]) ht.typeIs (PyProof.Rows.slot_tuple_getitem.lookup) ?_ (by with_unfolding_all rfl)
  refine getItem_tuple_rev ht (Heap.IsSliceOf.new _ .none .none vs) ps ?_ (by rw [List.size_toArray]; omega)
  have rr : Vals xs.reverse its.toArray.toList.reverse := r.reverse
  exact ⟨.ref _, _, lay_tup I5 rr (by rw [List.length_reverse]; exact hz) s4.toks, rfl, q _ _ (I5.hok.fresh (Nat.le_refl _))⟩
theorem pe_orE {t u : TE} (h : PE X e t) (k : PE X e u) : PE X e (fun σ H Q => t σ H Q ∨ u σ H Q) := ⟨fun pins s σ H Q I q => by
  rcases q with q | q
  · exact h.run pins s σ H Q I q
  · exact k.run pins s σ H Q I q⟩
def gRev : D → Option D
  | .lst xs => some (.lst xs.reverse)
  | .tup xs => some (.tup xs.reverse)
  | _ => none
theorem de_rev {k : Nat} {p1 p2 p3 : Pos} (ha : DE X e fa) : DE X (.Subscript e (.Slice none none (some (.UnaryOp .USub (.Constant (.int 1) k p1) p2)) p3) pos) (eUn gRev fa) := ⟨fun F => pe_imp (pe_orE (pe_revL (ha.run F)) (pe_revT (ha.run F))) fun σ H Q ⟨A, ρ, rr, ρ', S, e, q⟩ => by
  obtain ⟨r, ρ1, e1, e⟩ := bind_ok e
  obtain ⟨d, ρ4, e4, e⟩ := bind_ok e
  obtain ⟨l4, rfl⟩ := val_ok e4
  obtain ⟨x, ρ5, e5, e⟩ := bind_ok e
  obtain ⟨l5, rfl⟩ := opt_ok e5
  obtain ⟨rfl, rfl⟩ := ret_ok e
  unfold gRev at l5
  split at l5
  · cases l5
    refine .inl ⟨A, ρ, r, _, S, e1, fun v H3 S3 m r1 => ?_⟩
    obtain ⟨a, vs, rfl, h1, h2⟩ := (look_rt S3 r1 l4).lst
    refine ⟨a, vs, rfl, h1, fun p hp => ?_⟩
    have sm := Same.of_new (o := .lst vs.reverse) hp
    exact q _ _ (S3.same sm) (m.trans (Stp.of sm)) (.lst (SqL.of (hid_new S3.zall hp)) ((h2.rev).mono (Same.hid sm)))
  · cases l5
    refine .inr ⟨A, ρ, r, _, S, e1, fun v H3 S3 m r1 => ?_⟩
    obtain ⟨a, vs, rfl, h1, h2⟩ := (look_rt S3 r1 l4).tup
    refine ⟨a, vs, rfl, h1.sq, fun p its hp => ?_⟩
    have sm := Same.of_new (o := tHO its vs.reverse) hp
    exact q _ _ (S3.same sm) (m.trans (Stp.of sm)) (.tup (.inl ⟨_, hid_new S3.zall hp, rfl⟩) ((h2.rev).mono (Same.hid sm)))
  · cases l5⟩
def rgD (a b : Int) : List D := (List.range (b - a).toNat).map fun (i : Nat) => .int (a + (i : Int))
def rgOk (a b : Int) : Bool := rangeOk a && rangeOk b && decide ((b - a).toNat ≤ 1000000)
def rOne (fa : ES) : M (Int × Int) := M.bind fa fun r => M.bind (val r) fun d => M.bind (M.opt (isInt d)) fun i => M.ret (0, i)
def rTwo (fa fb : ES) : M (Int × Int) := M.bind fa fun ra => M.bind fb fun rb => M.bind (val ra) fun x => M.bind (val rb) fun y => M.bind (M.opt (isInt x)) fun i => M.bind (M.opt (isInt y)) fun j => M.ret (i, j)
def rgC (p : Int × Int) : Option (List D) := match rgOk p.1 p.2 with
  | true => some (rgD p.1 p.2)
  | false => none
def eTupRg (f : M (Int × Int)) : ES := M.bind f fun p => M.bind (M.opt (rgC p)) fun xs => M.ret (.im (.tup xs))
def nLstRg (f : M (Int × Int)) : M (List D) := M.bind f fun p => M.opt (rgC p)
def insU (i : Int) : List Int → List Int
  | [] => [i]
  | j :: r => if i < j then i :: j :: r else if i = j then j :: r else j :: insU i r
def sortU : List Int → List Int
  | [] => []
  | i :: r => insU i (sortU r)
theorem mem_insU {i k : Int} : ∀ {l : List Int}, k ∈ insU i l ↔ k = i ∨ k ∈ l
  | [] => by simp [insU]
  | j :: r => by
    unfold insU
    by_cases h1 : i < j
    · rw [if_pos h1]; simp
    · rw [if_neg h1]
      by_cases h2 : i = j
      · rw [if_pos h2]; subst h2; simp
      · rw [if_neg h2, List.mem_cons, mem_insU, List.mem_cons]
        constructor
        · rintro (h | h | h)
          · exact .inr (.inl h)
          · exact .inl h
          · exact .inr (.inr h)
        · rintro (h | h | h)
          · exact .inr (.inl h)
          · exact .inl h
          · exact .inr (.inr h)
theorem insU_sorted {i : Int} : ∀ {l : List Int}, l.Pairwise (· < ·) → (insU i l).Pairwise (· < ·)
  | [], _ => by simp [insU]
  | j :: r, h => by
    unfold insU
    obtain ⟨h1, h2⟩ := List.pairwise_cons.mp h
    by_cases z : i < j
    · rw [if_pos z]
      refine List.pairwise_cons.mpr ⟨fun k hk => ?_, h⟩
      rcases List.mem_cons.mp hk with rfl | hk
      · exact z
      · have := h1 k hk; omega
    · rw [if_neg z]
      by_cases z2 : i = j
      · rw [if_pos z2]; exact h
      · rw [if_neg z2]
        refine List.pairwise_cons.mpr ⟨fun k hk => ?_, insU_sorted h2⟩
        rcases mem_insU.mp hk with rfl | hk
        · omega
        · exact h1 k hk
theorem mem_sortU {k : Int} : ∀ {l : List Int}, k ∈ sortU l ↔ k ∈ l
  | [] => by simp [sortU]
  | i :: r => by rw [sortU, mem_insU, mem_sortU, List.mem_cons]
theorem sortU_sorted : ∀ (l : List Int), (sortU l).Pairwise (· < ·)
  | [] => .nil
  | i :: r => insU_sorted (sortU_sorted r)
theorem lt_nodup {l : List Int} (h : l.Pairwise (· < ·)) : l.Nodup := h.imp fun h => Int.ne_of_lt h
theorem card_eq {l m : List Int} (h1 : l.Nodup) (h2 : m.Nodup) (h : ∀ k, k ∈ l ↔ k ∈ m) : l.length = m.length := ((List.perm_ext_iff_of_nodup h1 h2).mpr h).length_eq
theorem lt_uniq {l m : List Int} (h1 : l.Pairwise (· < ·)) (h2 : m.Pairwise (· < ·)) (h : ∀ k, k ∈ l ↔ k ∈ m) : l = m :=
  sorted_uniq ((List.perm_ext_iff_of_nodup (lt_nodup h1) (lt_nodup h2)).mpr h) (h1.imp fun h => Int.le_of_lt h) (h2.imp fun h => Int.le_of_lt h)
def rSetT (w : World) (K : PySem.W.Frag) : List V → Hp → VK → Prop := fun xs H Q => ∃ p ns, xs = [.ref p] ∧ SqT K H p (ns.map V.int) ∧ ns.length ≤ 1000 ∧ ∀ q, H q = none → Q (.ref q) (upd H q (SetO w q (fun j => decide (j ∈ ns)) (sortU ns).length))
theorem call_setT (hc : X.calm = true) : CallR X (.type "set") (rSetT X.w X.K) := by
  intro pins s σ H xs us Q I r h
  obtain ⟨p, ns, rfl, hq, hl, q⟩ := h
  rw [Vals.ref1 r]
  obtain ⟨its, rv, pt, hz⟩ := I.tuple hq
  refine call_set_tupI ns (I.ok.hd hc) (show s.heap.IsTuple p its.toArray from pt) (ints_of_vals rv) (by unfold scanBound; omega) fun h' tk c R1 hcn k => ?_
  have ec : c = (sortU ns).length := by
    obtain ⟨o, es, ep, t, ho, hex, hdt, g, nd, hm2, hb, hf, hn, hr, hl2⟩ := R1
    have e1 : (es.toList.map keyOf).length = (sortU ns).length := card_eq nd (lt_nodup (sortU_sorted ns)) fun k => by
      rw [← hm2 k, mem_sortU]; simp
    rw [List.length_map, Array.length_toList] at e1
    rw [← hn]; exact e1
  subst ec
  have I2 : Inv X pins σ (upd H s.heap.objs.size (SetO X.w s.heap.objs.size (fun j => decide (j ∈ ns)) (sortU ns).length)) { s with heap := h', toks := tk } :=
    I.laid k (Nat.le_refl _) (setO_new R1)
  exact ⟨.ref s.heap.objs.size, _, I2, rfl, q _ (I.hok.fresh (Nat.le_refl _))⟩
theorem RT.set {G : Gp} {Z : List Addr} {H : Hp} {v : V} {xs : List D} (h : RT G Z H v (.set xs)) : ∃ (a : Addr) (S : Int → Bool) (n : Nat) (ns : List Int), v = .ref a ∧ xs = ns.map D.int ∧ hid Z H a = some (SetO G.w a S n) ∧ ns.Pairwise (· < ·) ∧ (∀ k, S k = true ↔ k ∈ ns) ∧ ns.length = n := by
  rcases h with h | ⟨a, rfl, h⟩
  · cases h with
    | set h1 h2 h3 h4 => exact ⟨_, _, _, _, rfl, rfl, h1, h2, h3, h4⟩
  · exact h.elim
end
end Dv
namespace Dv
open PySem PySem.Spec PyProof.Rows L2
variable [Tbl]
theorem ru {A : Around} {k : Nat} (hr : Room k A) : A.units + 64 < cLine := hr.units
theorem ru5 {A : Around} {k : Nat} (hr : Room k A) : A.units + 65 < cLine := by have := hr.un; omega
theorem de_gint {X : Cx} {x : Str} {pos : Pos} {i : Int} (hg : Gl X x) (hm : ∃ t, X.mg x = some (.int i t)) (hd : (x == ("__debug__" : Str)) = false := by decide) : DE X (.Name x pos) (eC (.int i)) := by
  obtain ⟨t, h⟩ := hm
  exact de_c (v := .int i) (pe_glob hg h ⟨t, rfl⟩ hd) fun _ => .int i
def blkB (N : List Str) (sc scope : Scope) (own : List (Str × Nat)) : Bool :=
  decide (scope.kind = .function) && (scope.names.all (fun y => decide (scope.names.lookup y.1 = some y.2)) && (own.all (fun p => decide (N[p.2]? = some p.1)) &&
    (scope.names.all (fun y => !decide (y.2 = .free) || (decide (sc.names.lookup y.1 = some .cell) || decide (sc.names.lookup y.1 = some .free))) &&
      scope.names.all (fun y => !(decide (y.2 = .local) || decide (y.2 = .cell)) || ((own.map (·.1)).contains y.1 || !N.contains y.1)))))
theorem blkO {N : List Str} {sc scope : Scope} {own : List (Str × Nat)} (h : blkB N sc scope own = true) : BlkOk N sc scope own := by
  unfold blkB at h
  rw [Bool.and_eq_true, Bool.and_eq_true, Bool.and_eq_true, Bool.and_eq_true] at h
  obtain ⟨h1, h2, h3, h4, h5⟩ := h
  rw [List.all_eq_true] at h2 h3 h4 h5
  refine ⟨of_decide_eq_true h1, fun y hy => of_decide_eq_true (h2 y hy), fun p hp => of_decide_eq_true (h3 p hp), fun y hy e => ?_, fun y hy e => ?_⟩
  · have z := h4 y hy
    rw [e] at z
    rw [Bool.or_eq_true, Bool.or_eq_true] at z
    rcases z with z | z | z
    · cases z
    · exact .inl (of_decide_eq_true z)
    · exact .inr (of_decide_eq_true z)
  · have z := h5 y hy
    rw [Bool.or_eq_true, Bool.or_eq_true] at z
    rcases z with z | z | z
    · exfalso
      rcases e with e | e
      · rw [e] at z; revert z; decide
      · rw [e] at z; revert z; decide
    · exact .inl (by simpa using z)
    · exact .inr (by simpa using z)
end Dv
namespace Dv
open PySem PySem.Spec PyProof.Rows L2
theorem putB_wipe {ρ : Rho} {vs : List Nat} : putB ρ vs (wipeR ρ vs) = ρ := by
  apply List.ext_getElem?
  intro i
  by_cases z : i ∈ vs
  · by_cases hi : i < ρ.length
    · rw [putB_in z (by rw [wipeR_len]; exact hi), List.getElem?_eq_getElem hi]
      rfl
    · rw [List.getElem?_eq_none (by rw [putB_len, wipeR_len]; omega), List.getElem?_eq_none (by omega)]
  · rw [putB_out z, wipeR_out z]
inductive F2 {α β : Type} (R : α → β → Prop) : List α → List β → Prop
  | nil : F2 R [] []
  | cons {a : α} {b : β} {l : List α} {m : List β} : R a b → F2 R l m → F2 R (a :: l) (b :: m)
abbrev iD (l : List Int) : List D := l.map D.int
theorem iD_cons {a : Int} {r : List Int} : iD (a :: r) = .int a :: iD r := rfl
theorem pls_ints (n : Nat) : ∀ l : List Int, pls n (iD l) = true
  | [] => by rw [pls.eq_def]; rfl
  | a :: r => by
    have ih := pls_ints n r
    rw [iD_cons, pls.eq_def]
    simp only [Bool.and_eq_true]
    exact ⟨by cases n <;> simp [pl], ih⟩
theorem pl_tupI (n : Nat) (l : List Int) : pl (n + 1) (.tup (iD l)) = true := by rw [pl.eq_def]; exact pls_ints n l
def BagOk (xs : List D) : Prop := ∃ g b : Int, xs = [.int g, .int b] ∧ 0 ≤ g ∧ g < 1000000000000000000000000000000000000000000000000000000000000000000000000000000000000000000000000000000000000000000000000 ∧ 0 ≤ b ∧ b < 2305843009213693951
def s_bag : SS := (sSeq (sSet 2 (eIf (bCmp gLt (eVar 1) (eCall gLen (aCons (eVar 0) aNil))) (eCall gInt (aCons (eBin gIx (eVar 0) (eVar 1)) aNil)) (eBin gAdd (eBin gMul (eC (.int 89)) (eVar 1)) (eC (.int 41)))))
    (sSeq (sSet 3 (eBin gMod (eCall gMax2 (aCons (eC (.int 0)) (aCons (eBin gSub (eCall gAbs (aCons (eVar 2) aNil)) (eBin gPow (eC (.int 10)) (eC (.int 18)))) aNil))) (eBin gMul (eBin gPow (eC (.int 10)) (eC (.int 60))) (eBin gPow (eC (.int 10)) (eC (.int 60))))))
    (sSeq (sSet 4 (eBin gAdd (eBin gAdd (eBin gAdd (eBin gMul (eBin gMod (eCall gInt (aCons (eCall gAbs (aCons (eVar 2) aNil)) aNil)) (eBin gAdd (eBin gPow (eC (.int 10)) (eC (.int 12))) (eC (.int 39)))) (eC (.int 10007))) (eBin gMul (eC (.int 509)) (eVar 1))) (eBin gMul (eC (.int 17)) (eCall gInt (aCons (eBin gLt (eVar 2) (eC (.int 0))) aNil)))) (eC (.int 1))))
    (sRetL (nLst (aCons (eVar 3) (aCons (eBin gMod (eCall gInt (aCons (eVar 4) aNil)) (eBin gSub (eBin gPow (eC (.int 2)) (eC (.int 61))) (eC (.int 1)))) aNil)))))))
def F_bag : FD := defF 2 5 s_bag
def s_draw : SS := (sSeq (sIf (bCmp gGt (eBin gIx (eVar 0) (eC (.int 0))) (eC (.int 0)))
    (sSeq (sSet 2 (eBin gMod (eCall gInt (aCons (eBin gIx (eVar 0) (eC (.int 0))) aNil)) (eVar 1)))
    (sSeq (sSetIx 0 (eBin gDiv (eBin gIx (eVar 0) (eC (.int 0))) (eVar 1)) (eC (.int 0)))
    (sRet (eVar 2))))
    sNil)
    (sSeq (sSetIx 0 (eBin gMod (eCall gInt (aCons (eBin gAdd (eBin gMul (eBin gIx (eVar 0) (eC (.int 1))) (eC (.int 6364136223))) (eC (.int 1442695041))) aNil)) (eBin gSub (eBin gPow (eC (.int 2)) (eC (.int 61))) (eC (.int 1)))) (eC (.int 1)))
    (sRet (eBin gMod (eCall gInt (aCons (eBin gDiv (eBin gIx (eVar 0) (eC (.int 1))) (eC (.int 65537))) aNil)) (eVar 1)))))
def F_draw : FD := defF 2 3 s_draw
theorem e_pow61 : gPow (.int 2) (.int 61) = some (.int 2305843009213693952) := by kernel_rfl
theorem e_sub61 : gSub (.int 2305843009213693952) (.int 1) = some (.int 2305843009213693951) := by kernel_rfl
theorem e_sub (i j : Int) : gSub (.int i) (.int j) = some (.int (i - j)) := rfl
theorem e_addI (i j : Int) : gAdd (.int i) (.int j) = some (.int (i + j)) := rfl
theorem e_gt (i j : Int) : gGt (.int i) (.int j) = some (.bl (decide (j < i))) := rfl
theorem e_lt (i j : Int) : gLt (.int i) (.int j) = some (.bl (decide (i < j))) := rfl
theorem e_le (i j : Int) : gLe (.int i) (.int j) = some (.bl (decide (i ≤ j))) := rfl
theorem e_ge (i j : Int) : gGe (.int i) (.int j) = some (.bl (decide (j ≤ i))) := rfl
theorem e_mod {i j : Int} (h : 0 < j) : gMod (.int i) (.int j) = some (.int (i % j)) := by simp [gMod, gI, h]
theorem e_div {i j : Int} (h : 0 < j) (h2 : j < 2 ^ 64) : gDiv (.int i) (.int j) = some (.int (i / j)) := by
  have hd : cDiv i j = true := by
    unfold cDiv
    rw [Bool.and_eq_true]
    refine ⟨decide_eq_true h, decide_eq_true ?_⟩
    have : j.natAbs < 2 ^ 64 := by omega
    exact Nat.lt_of_lt_of_le this (Nat.pow_le_pow_right (by decide) (by decide))
  unfold gDiv gI
  simp only [hd, if_true]
theorem e_mul {i j : Int} (h : i.natAbs < 2 ^ 64 ∨ j.natAbs < 2 ^ 64) : gMul (.int i) (.int j) = some (.int (i * j)) := by
  have hd : cMul i j = true := by
    unfold cMul
    rw [Bool.or_eq_true, Bool.or_eq_true]
    rcases h with h | h
    · exact .inl (.inl (decide_eq_true h))
    · exact .inl (.inr (decide_eq_true h))
  unfold gMul gI
  simp only [hd, if_true]
theorem e_ix0 (a : D) (r : List D) : gIx (.lst (a :: r)) (.int 0) = some a := by simp [gIx, atI, ixN]
theorem e_ix1 (a b : D) (r : List D) : gIx (.lst (a :: b :: r)) (.int 1) = some b := by
  have h : (1 : Int) < (r.length : Int) + 1 + 1 := by omega
  simp [gIx, atI, ixN, h]
theorem ixN0 (n : Nat) : ixN (n + 1) 0 = some 0 := by simp [ixN]
theorem ixN1 (n : Nat) : ixN (n + 2) 1 = some 1 := by
  have h : (1 : Int) < (n : Int) + 2 := by omega
  simp [ixN, h]
theorem c_61 : eBin gSub (eBin gPow (eC (.int 2)) (eC (.int 61))) (eC (.int 1)) = eC (.int 2305843009213693951) := by
  funext ρ
  simp only [eBin, M.bind, eC, M.ret, val, look, M.opt, e_pow61, e_sub61]
def s_drawG (Mm A C Q : Int) : SS := (sSeq (sIf (bCmp gGt (eBin gIx (eVar 0) (eC (.int 0))) (eC (.int 0)))
    (sSeq (sSet 2 (eBin gMod (eCall gInt (aCons (eBin gIx (eVar 0) (eC (.int 0))) aNil)) (eVar 1)))
    (sSeq (sSetIx 0 (eBin gDiv (eBin gIx (eVar 0) (eC (.int 0))) (eVar 1)) (eC (.int 0)))
    (sRet (eVar 2))))
    sNil)
    (sSeq (sSetIx 0 (eBin gMod (eCall gInt (aCons (eBin gAdd (eBin gMul (eBin gIx (eVar 0) (eC (.int 1))) (eC (.int A))) (eC (.int C))) aNil)) (eC (.int Mm))) (eC (.int 1)))
    (sRet (eBin gMod (eCall gInt (aCons (eBin gDiv (eBin gIx (eVar 0) (eC (.int 1))) (eC (.int Q))) aNil)) (eVar 1)))))
theorem draw_core {Mm A C Q g b many : Int} (hM : 0 < Mm) (hA : A.natAbs < 2 ^ 64) (hQ : 0 < Q) (hQ2 : Q < 2 ^ 64) (hm : 0 < many) (h2 : many < 2 ^ 64) :
    (0 < g → defF 2 3 (s_drawG Mm A C Q) [.bo [.int g, .int b], .im (.int many)] = some (.im (.int (g % many)), [some [.int (g / many), .int b]])) ∧
    (¬ 0 < g → defF 2 3 (s_drawG Mm A C Q) [.bo [.int g, .int b], .im (.int many)] = some (.im (.int ((b * A + C) % Mm / Q % many)), [some [.int g, .int ((b * A + C) % Mm)]])) := by
  have x1 : ∀ i, gMod (.int i) (.int many) = some (.int (i % many)) := fun i => e_mod hm
  have x2 : ∀ i, gMod (.int i) (.int Mm) = some (.int (i % Mm)) := fun i => e_mod hM
  have x3 : ∀ i, gDiv (.int i) (.int Q) = some (.int (i / Q)) := fun i => e_div hQ hQ2
  have x4 : ∀ i, gDiv (.int i) (.int many) = some (.int (i / many)) := fun i => e_div hm h2
  have x5 : ∀ i, gMul (.int i) (.int A) = some (.int (i * A)) := fun i => e_mul (.inr hA)
  have x0 : ∀ n, ixN (n + 2) 0 = some 0 := fun n => ixN0 (n + 1)
  constructor
  · intro hg
    conv => lhs; simp only [s_drawG, defF, runF, entry, sSeq, sIf, bCmp, eBin, M.bind, eVar, eC, M.ret, val, look, M.opt, e_ix0, e_ix1, e_gt, isBl, hg, x0, x1, x2, x3, x4, x5, e_addI, eCall, aCons, aNil, vals, looks, gInt, imm, setIm, sSet, sSetIx, isInt, lAt, lPut, ixN1, sRet, bos, sNil, List.length_cons, List.length_nil, List.map_cons, List.map_nil, List.cons_append, List.nil_append, List.getElem?_cons_zero, List.getElem?_cons_succ, List.replicate, List.set_cons_zero, List.set_cons_succ, decide_true, decide_false, Nat.sub_self, Nat.reduceAdd, Nat.reduceSub]
  · intro hg
    conv => lhs; simp only [s_drawG, defF, runF, entry, sSeq, sIf, bCmp, eBin, M.bind, eVar, eC, M.ret, val, look, M.opt, e_ix0, e_ix1, e_gt, isBl, hg, x0, x1, x2, x3, x4, x5, e_addI, eCall, aCons, aNil, vals, looks, gInt, imm, setIm, sSet, sSetIx, isInt, lAt, lPut, ixN1, sRet, bos, sNil, List.length_cons, List.length_nil, List.map_cons, List.map_nil, List.cons_append, List.nil_append, List.getElem?_cons_zero, List.getElem?_cons_succ, List.replicate, List.set_cons_zero, List.set_cons_succ, decide_true, decide_false, Nat.sub_self, Nat.reduceAdd, Nat.reduceSub]
theorem F_draw_eq : F_draw = defF 2 3 (s_drawG 2305843009213693951 6364136223 1442695041 65537) := by
  unfold F_draw s_draw s_drawG
  rw [c_61]
theorem draw_ok {xs : List D} {many : Int} (hb : BagOk xs) (h1 : 1 ≤ many) (h2 : many < 2 ^ 64) : ∃ r ys, F_draw [.bo xs, .im (.int many)] = some (.im (.int r), [some ys]) ∧ 0 ≤ r ∧ r < many ∧ BagOk ys := by
  obtain ⟨g, b, rfl, g0, g1, b0, b1⟩ := hb
  have hm : 0 < many := by omega
  rw [F_draw_eq]
  obtain ⟨c1, c2⟩ := draw_core (Mm := 2305843009213693951) (A := 6364136223) (C := 1442695041) (Q := 65537) (g := g) (b := b) (many := many) (by decide) (by decide) (by decide) (by decide) hm h2
  by_cases hg : 0 < g
  · exact ⟨_, _, c1 hg, Int.emod_nonneg _ (by omega), Int.emod_lt_of_pos _ hm, g / many, b, rfl, Int.ediv_nonneg g0 (by omega), Int.lt_of_le_of_lt (Int.ediv_le_self _ g0) g1, b0, b1⟩
  · exact ⟨_, _, c2 hg, Int.emod_nonneg _ (by omega), Int.emod_lt_of_pos _ hm, g, _, rfl, g0, g1, Int.emod_nonneg _ (by decide), Int.emod_lt_of_pos _ (by decide)⟩
theorem c_18 : eBin gPow (eC (.int 10)) (eC (.int 18)) = eC (.int 1000000000000000000) := by
  have p : gPow (.int 10) (.int 18) = some (.int 1000000000000000000) := by kernel_rfl
  funext ρ
  simp only [eBin, M.bind, eC, M.ret, val, look, M.opt, p]
theorem c_39 : eBin gAdd (eBin gPow (eC (.int 10)) (eC (.int 12))) (eC (.int 39)) = eC (.int 1000000000039) := by
  have p : gPow (.int 10) (.int 12) = some (.int 1000000000000) := by kernel_rfl
  have q : gAdd (.int 1000000000000) (.int 39) = some (.int 1000000000039) := by kernel_rfl
  funext ρ
  simp only [eBin, M.bind, eC, M.ret, val, look, M.opt, p, q]
theorem e_mulW {i j : Int} (h : i.natAbs < 2 ^ 250) (h2 : j.natAbs < 2 ^ 250) : gMul (.int i) (.int j) = some (.int (i * j)) := by
  have l : 2 ^ 250 ≤ 2 ^ 4000 := Nat.pow_le_pow_right (by decide) (by decide)
  have hd : cMul i j = true := by
    unfold cMul
    rw [Bool.or_eq_true, Bool.and_eq_true]
    exact .inr ⟨decide_eq_true (Nat.lt_of_lt_of_le h l), decide_eq_true (Nat.lt_of_lt_of_le h2 l)⟩
  unfold gMul gI
  simp only [hd, if_true]
theorem c_const {g : D → D → Option D} {x y z : D} (h : g x y = some z) : eBin g (eC x) (eC y) = eC z := by
  funext ρ
  simp only [eBin, M.bind, eC, M.ret, val, look, M.opt, h]
theorem c_60 : eBin gPow (eC (.int 10)) (eC (.int 60)) = eC (.int 1000000000000000000000000000000000000000000000000000000000000) := c_const (by kernel_rfl)
theorem c_120 : eBin gMul (eBin gPow (eC (.int 10)) (eC (.int 60))) (eBin gPow (eC (.int 10)) (eC (.int 60))) = eC (.int (1000000000000000000000000000000000000000000000000000000000000 * 1000000000000000000000000000000000000000000000000000000000000)) := by
  rw [c_60]
  exact c_const (e_mulW (by decide +kernel) (by decide +kernel))
def s_bagG (f : ES) (E18 G M39 Mm : Int) : SS := (sSeq (sSet 2 f)
    (sSeq (sSet 3 (eBin gMod (eCall gMax2 (aCons (eC (.int 0)) (aCons (eBin gSub (eCall gAbs (aCons (eVar 2) aNil)) (eC (.int E18))) aNil))) (eC (.int G))))
    (sSeq (sSet 4 (eBin gAdd (eBin gAdd (eBin gAdd (eBin gMul (eBin gMod (eCall gInt (aCons (eCall gAbs (aCons (eVar 2) aNil)) aNil)) (eC (.int M39))) (eC (.int 10007))) (eBin gMul (eC (.int 509)) (eVar 1))) (eBin gMul (eC (.int 17)) (eCall gInt (aCons (eBin gLt (eVar 2) (eC (.int 0))) aNil)))) (eC (.int 1))))
    (sRetL (nLst (aCons (eVar 3) (aCons (eBin gMod (eCall gInt (aCons (eVar 4) aNil)) (eC (.int Mm))) aNil)))))))
theorem F_bag_eq : F_bag = defF 2 5 (s_bagG (eIf (bCmp gLt (eVar 1) (eCall gLen (aCons (eVar 0) aNil))) (eCall gInt (aCons (eBin gIx (eVar 0) (eVar 1)) aNil)) (eBin gAdd (eBin gMul (eC (.int 89)) (eVar 1)) (eC (.int 41)))) 1000000000000000000 (1000000000000000000000000000000000000000000000000000000000000 * 1000000000000000000000000000000000000000000000000000000000000) 1000000000039 2305843009213693951) := by
  unfold F_bag s_bag s_bagG
  rw [c_18, c_39, c_120, c_61]
theorem bag_cell {ns : List Int} {a : Int} (h0 : 0 ≤ a) : ∃ c : Int, (eIf (bCmp gLt (eVar 1) (eCall gLen (aCons (eVar 0) aNil))) (eCall gInt (aCons (eBin gIx (eVar 0) (eVar 1)) aNil)) (eBin gAdd (eBin gMul (eC (.int 89)) (eVar 1)) (eC (.int 41)))) [some (.im (.lst (iD ns))), some (.im (.int a)), none, none, none] = .ok (.im (.int c)) [some (.im (.lst (iD ns))), some (.im (.int a)), none, none, none] := by
  by_cases h : a < ((iD ns).length : Int)
  · obtain ⟨k, rfl⟩ : ∃ k : Nat, a = k := ⟨a.toNat, by omega⟩
    have hk : k < ns.length := by have := h; simp at this; exact this
    refine ⟨ns[k], ?_⟩
    have e : gIx (.lst (iD ns)) (.int k) = some (.int ns[k]) := by simp [gIx, atI, ixN, hk]
    conv => lhs; simp only [eIf, bCmp, eBin, M.bind, eVar, M.ret, val, look, M.opt, eCall, aCons, aNil, vals, looks, gLen, e_lt, h, isBl, decide_true, e, gInt, List.getElem?_cons_zero, List.getElem?_cons_succ]
  · refine ⟨89 * a + 41, ?_⟩
    have e : gMul (.int 89) (.int a) = some (.int (89 * a)) := e_mul (.inl (by decide))
    conv => lhs; simp only [eIf, bCmp, eBin, M.bind, eVar, eC, M.ret, val, look, M.opt, eCall, aCons, aNil, vals, looks, gLen, e_lt, h, isBl, decide_false, e, e_addI, List.getElem?_cons_zero, List.getElem?_cons_succ]
theorem bag_core {E18 G M39 Mm a : Int} {ns : List Int} {f : ES} {c : Int} (hc : f [some (.im (.lst (iD ns))), some (.im (.int a)), none, none, none] = .ok (.im (.int c)) [some (.im (.lst (iD ns))), some (.im (.int a)), none, none, none]) (hG : 0 < G) (h39 : 0 < M39) (hM : 0 < Mm) : ∃ g b : Int, defF 2 5 (s_bagG f E18 G M39 Mm) [.im (.lst (iD ns)), .im (.int a)] = some (.nw [.int (g % G), .int (b % Mm)], []) := by
  have x1 : ∀ i, gMod (.int i) (.int G) = some (.int (i % G)) := fun i => e_mod hG
  have x2 : ∀ i, gMod (.int i) (.int M39) = some (.int (i % M39)) := fun i => e_mod h39
  have x3 : ∀ i, gMod (.int i) (.int Mm) = some (.int (i % Mm)) := fun i => e_mod hM
  have mu1 : ∀ i, gMul (.int i) (.int 10007) = some (.int (i * 10007)) := fun i => e_mul (.inr (by decide))
  have mu2 : ∀ i, gMul (.int 509) (.int i) = some (.int (509 * i)) := fun i => e_mul (.inl (by decide))
  have mu3 : ∀ i, gMul (.int 17) (.int i) = some (.int (17 * i)) := fun i => e_mul (.inl (by decide))
  have f2 : ∀ a b : D, few [a, b] = some [a, b] := fun a b => rfl
  have key := Eq.refl (defF 2 5 (s_bagG f E18 G M39 Mm) [.im (.lst (iD ns)), .im (.int a)])
  conv at key => rhs; simp only [s_bagG, defF, runF, entry, sSeq, sSet, M.bind, hc, imm, setIm, eBin, eVar, eC, M.ret, val, look, M.opt, eCall, aCons, aNil, vals, looks, gAbs, gMax2, gInt, e_lt, x1, x2, x3, mu1, mu2, mu3, e_sub, e_addI, sRetL, nLst, imms, f2, bos,
      List.length_cons, List.length_nil, List.map_cons, List.map_nil, List.cons_append, List.nil_append, List.getElem?_cons_zero, List.getElem?_cons_succ, List.replicate, List.set_cons_zero, List.set_cons_succ, decide_true, Nat.sub_self, Nat.reduceAdd, Nat.reduceSub]
  exact ⟨_, _, key⟩
theorem bag_ok {ns : List Int} {a : Int} (h0 : 0 ≤ a) : ∃ xs, F_bag [.im (.lst (iD ns)), .im (.int a)] = some (.nw xs, []) ∧ BagOk xs := by
  rw [F_bag_eq]
  obtain ⟨c, hc⟩ := bag_cell (ns := ns) h0
  obtain ⟨g, b, e⟩ := bag_core (E18 := 1000000000000000000) (G := 1000000000000000000000000000000000000000000000000000000000000 * 1000000000000000000000000000000000000000000000000000000000000) (M39 := 1000000000039) (Mm := 2305843009213693951) (ns := ns) (a := a) hc (by decide +kernel) (by decide) (by decide)
  have eg : (1000000000000000000000000000000000000000000000000000000000000 : Int) * 1000000000000000000000000000000000000000000000000000000000000 = 1000000000000000000000000000000000000000000000000000000000000000000000000000000000000000000000000000000000000000000000000 := by decide +kernel
  rw [eg] at e
  exact ⟨_, e, _, _, rfl, Int.emod_nonneg _ (by decide), Int.emod_lt_of_pos _ (by decide), Int.emod_nonneg _ (by decide), Int.emod_lt_of_pos _ (by decide)⟩
end Dv
namespace Dv
open PySem PySem.Spec PyProof.Rows L2
end Dv
namespace Dv
open PySem PySem.Spec PyProof.Rows L2
def Lot (n : Int) (l : List Int) : Prop := l.Pairwise (· < ·) ∧ ∀ x ∈ l, 0 ≤ x ∧ x < n
theorem Lot.filter {n : Int} {l : List Int} (h : Lot n l) (p : Int → Bool) : Lot n (l.filter p) := ⟨h.1.filter p, fun x hx => h.2 x (List.mem_filter.mp hx).1⟩
theorem Lot.uniq {n m : Int} {a b : List Int} (ha : Lot n a) (hb : Lot m b) (h : ∀ k, k ∈ a ↔ k ∈ b) : a = b := lt_uniq ha.1 hb.1 h
theorem ix_nat {xs : List D} {r : Int} (h0 : 0 ≤ r) (h1 : r < xs.length) : ∃ d, d ∈ xs ∧ gIx (.lst xs) (.int r) = some d := by
  obtain ⟨k, rfl⟩ : ∃ k : Nat, r = k := ⟨r.toNat, by omega⟩
  have hk : k < xs.length := by omega
  exact ⟨xs[k], List.getElem_mem hk, by simp [gIx, atI, ixN, hk]⟩
end Dv
namespace Dv
open PySem PySem.Spec PyProof.Rows L2
variable [Tbl]
section
variable {X : Cx} {e a b o : Expr} {es : List Expr} {fs : M (List RV)} {fa fb : ES} {pos p : Pos}
def items : D → Option (List D)
  | .lst xs => some xs
  | .tup xs => some xs
  | _ => none
def aStar (fa : ES) (fs : M (List RV)) : M (List RV) := M.bind fa fun r => M.bind (val r) fun d => M.bind (M.opt (items d)) fun xs => M.bind fs fun rs => M.ret (xs.map RV.im ++ rs)
theorem RRs.of_im {G : Gp} {F : Fm} {A : Own} {H : Hp} : ∀ {vs : List V} {xs : List D}, RDs G (hid (zs F A) H) vs xs → RRs G F A H vs (xs.map RV.im)
  | _, _, .nil => .nil
  | _, _, .cons a b => .cons a (RRs.of_im b)
theorem RRs.app {G : Gp} {F : Fm} {A : Own} {H : Hp} : ∀ {vs ws : List V} {rs ts : List RV}, RRs G F A H vs rs → RRs G F A H ws ts → RRs G F A H (vs ++ ws) (rs ++ ts)
  | _, _, _, _, .nil, b => b
  | _, _, _, _, .cons a r, b => .cons a (RRs.app r b)
theorem items_rt {G : Gp} {Z : List Addr} {H : Hp} {v : V} {d : D} {xs : List D} (h : RT G Z H v d) (e : items d = some xs) : ∃ p vs, v = .ref p ∧ (SqT G.K H p vs ∨ SqL G.K H p vs) ∧ RDs G (hid Z H) vs xs := by
  unfold items at e
  split at e
  · cases e; obtain ⟨p, vs, rfl, h1, h2⟩ := h.lst; exact ⟨p, vs, rfl, .inr h1, h2⟩
  · cases e; obtain ⟨p, vs, rfl, h1, h2⟩ := h.tup; exact ⟨p, vs, rfl, .inl h1.sq, h2⟩
  · cases e
theorem da_star (ha : DE X e fa) (hr : DA X es fs) (hs : starEach (.Starred e p :: es) X.env = (true, eval e X.env) :: starEach es X.env := by rfl) : DA X (.Starred e p :: es) (aStar fa fs) := ⟨fun F => pa_imp (StX.pa_star (ha.run F) (hr.run F) hs) fun σ H Q ⟨A, ρ, r, ρ', S, e, q⟩ => by
  obtain ⟨r1, ρ1, e1, e⟩ := bind_ok e
  obtain ⟨d, ρ2, e2, e⟩ := bind_ok e
  obtain ⟨l2, rfl⟩ := val_ok e2
  obtain ⟨xs, ρ3, e3, e⟩ := bind_ok e
  obtain ⟨l3, rfl⟩ := opt_ok e3
  obtain ⟨rs, ρ4, e4, e⟩ := bind_ok e
  obtain ⟨rfl, rfl⟩ := ret_ok e
  refine ⟨A, ρ, r1, _, S, e1, fun v H1 S1 m1 q1 => ?_⟩
  obtain ⟨pp, vs, rfl, hq, rd⟩ := items_rt (look_rt S1 q1 l2) l3
  exact ⟨pp, vs, rfl, hq, A, _, rs, _, S1, e4, fun ws H2 S2 m2 q2 => q _ H2 S2 (m1.trans m2) ((RRs.of_im (rd.mono m2.hid)).app q2)⟩⟩
def gNotB : D → D → Option D
  | .bl a, .bl b => some (.bl (!decide (a = b)))
  | _, _ => none
theorem od_notB : OpD X (compareOp .IsNot) gNotB := ⟨_, op_notBl, fun Z H x y dx dy d Q z rx ry e q => by
  unfold gNotB at e
  split at e
  · cases e; exact ⟨_, _, rx.bl, ry.bl, ret_bl q⟩
  · cases e⟩
def maxI : Int → List Int → Int
  | m, [] => m
  | m, a :: r => maxI (if a > m then a else m) r
theorem maxI_ok : ∀ (l : List Int) (m : Int), (maxI m l = m ∨ maxI m l ∈ l) ∧ m ≤ maxI m l ∧ ∀ y ∈ l, y ≤ maxI m l
  | [], m => ⟨.inl rfl, Int.le_refl _, fun _ h => nomatch h⟩
  | a :: r, m => by
    obtain ⟨h1, h2, h3⟩ := maxI_ok r (if a > m then a else m)
    have e : maxI m (a :: r) = maxI (if a > m then a else m) r := rfl
    rw [e]
    by_cases z : a > m
    · rw [if_pos z] at h1 h2 h3 ⊢
      refine ⟨.inr ?_, by omega, fun y hy => ?_⟩
      · rcases h1 with h1 | h1
        · rw [h1]; exact List.mem_cons_self
        · exact List.mem_cons_of_mem _ h1
      · rcases List.mem_cons.mp hy with rfl | hy
        · exact h2
        · exact h3 y hy
    · rw [if_neg z] at h1 h2 h3 ⊢
      refine ⟨?_, h2, fun y hy => ?_⟩
      · rcases h1 with h1 | h1
        · exact .inl h1
        · exact .inr (List.mem_cons_of_mem _ h1)
      · rcases List.mem_cons.mp hy with rfl | hy
        · omega
        · exact h3 y hy
def rExtQ (K : PySem.W.Frag) : V → List V → Hp → VK → Prop := fun x vs H Q => ∃ l b xs zs, x = .ref l ∧ vs = [.ref b] ∧ H l = some (.lst xs) ∧ SqL K H b zs ∧ xs.length + zs.length ≤ sizeLine ∧ Q .non (upd H l (.lst (xs ++ zs)))
theorem list_extendG (l b : Addr) (xa ya : Array Value) (n n2 : Nat) (d2 : Option Addr) (s2 : Array (Option Value)) (short : ¬(!xa.isEmpty && Builtin.List.listTooLong (xa.size + ya.size)) = true) (fit : xa.size + ya.size ≤ sizeLine) :
    Meets (Builtin.«list.extend» ⟨[.ref l, .ref b], []⟩) (fun _ R s => s.heap.get? l = some { cls := .type "list", data := .seq xa n } ∧ s.heap.get? b = some { cls := .type "list", dict := d2, data := .seq ya n2, slots := s2 } ∧
      R (.ok (.ret Value.none)) { s with heap := s.heap.update l (Obj.mapSeq fun x => x ++ ya) }) := .of_wp fun prog w A R s h => by
  obtain ⟨hp, g, d, tk, os⟩ := s
  obtain ⟨hl, hb, h⟩ := h
  have w1 := AutoSeq1.idx_int
  have w2 := AutoSeq1.sub_tuple_tuple
  have w3 := AutoSeq1.sub_list_list
  have w4 := AutoSeq1.sub_tuple_list
  have w5 := AutoSeq1.sub_list_tuple
  have xz : xa.size ≤ sizeLine := by omega
  have yz : (xa ++ ya).size ≤ sizeLine + 1 := by rw [Array.size_append]; omega
  wp_walk using (wpAny_updateSeq hl rfl (hz := xz) (_hz' := yz)), wpAny_loadPart' hl, wpAny_loadPart' hb
  exact ⟨_, rfl, h⟩
theorem mt_extQ : MtM X "list.extend" (rExtQ X.K) := by
  intro pins s σ H x vs v us Q I rx rv h
  obtain ⟨l, b, xs, zs, rfl, rfl, hH, hB, hz, q⟩ := h
  cases rx
  obtain ⟨u, rfl, ru⟩ := rv.one
  cases ru
  obtain ⟨z, its, n, r, hl, e⟩ := I.lstM hH
  obtain ⟨its2, r2, ⟨⟨c2, d2, t2, s2⟩, n2, e2, hc2, _, hd2⟩, hz2⟩ := I.list hB
  simp only at hc2 hd2
  subst hc2 hd2
  have hl2 := r2.length
  have hsz : its.toArray.size + its2.toArray.size ≤ sizeLine := by rw [List.size_toArray, List.size_toArray]; omega
  have hlong : ¬ (!its.toArray.isEmpty && Builtin.List.listTooLong (its.toArray.size + its2.toArray.size)) = true := by
    rw [notLongL hsz, Bool.and_false]
    exact Bool.false_ne_true
  refine call_meets F.slot_list_extend ⟨_, e, rfl⟩ F.entry_list_extend (F.args_list_extend_2 _ _)
    (list_extendG l b its.toArray its2.toArray n n2 d2 s2 hlong (by omega)) ⟨e, e2, ?_⟩
  refine ⟨.non, _, I.lset (its' := its ++ its2) (t' := s.toks) hH e (by simp) (r.append r2) ?_, rfl, q⟩
  rw [List.length_append]
  omega
def cExtend : Ch
  | xs, [.lst ys] => if xs.length + ys.length ≤ 1000000 then some (.non, xs ++ ys) else none
  | _, _ => none
theorem md_extend : MtD X "list.extend" cExtend := ⟨_, mt_extQ, fun Z H a vs ws xs ds ys d Q hz ha r rs e q => by
  unfold cExtend at e
  split at e
  · rename_i zs0
    by_cases hl : xs.length + zs0.length ≤ 1000000
    · rw [if_pos hl] at e
      cases e
      obtain ⟨v, rfl, rv⟩ := rs.one
      cases rv with
      | lst g1 g2 =>
        exact ⟨a, _, vs, _, rfl, rfl, ha, hid_full.seq g1, by rw [r.len, g2.len]; exact len_line hl, q _ _ .non (r.app g2)⟩
    · rw [if_neg hl] at e; cases e
  · cases e⟩
end
end Dv
namespace Dv
open PySem PySem.Spec PyProof.Rows L2
variable [Tbl]
theorem Sts.free {G : Gp} {F : Fm} {A : Own} {σ : St} {ρ : Rho} {H : Hp} {i : Nat} {d : D} (S : Sts G F A σ ρ H) (q : ρ[i]? = some (some (.owd d))) (kd : isDct d = false) :
    Sts G F (drop1 A i) σ (ρ.set i (some (.im d))) H ∧ Same (hid (zs F A) H) (hid (zs F (drop1 A i)) H) := by
  have hi : i < ρ.length := (List.getElem?_eq_some_iff.mp q).1
  have key : Same (hid (zs F A) H) (hid (zs F (drop1 A i)) H) := hid_less zs_drop1
  obtain ⟨a0, a1, a2, a3, a4, a5⟩ := S.ow i d q
  have out : a0 ∉ zs F (drop1 A i) := fun z => by
    rcases mem_zs.mp z with z | ⟨j, z⟩
    · exact a2 z
    · obtain ⟨z1, z2⟩ := mem_drop1.mp z
      exact z2 ((S.uni j i a0 a0 z1 a1).mpr rfl)
  have ow : ∀ {j a ys}, OwAt G F A σ H j a ys → OwAt G F (drop1 A i) σ H j a ys := fun {j a ys} h => ⟨h.1, h.2.move (fun _ z _ => z) key⟩
  refine ⟨⟨by rw [List.length_set]; exact S.len, fun j e hj => ?_, fun j ys hj => ?_, fun j ys hj => ?_, fun j a hj => ?_, fun j k a b h1 h2 => S.uni j k a b (mem_drop1.mp h1).1 (mem_drop1.mp h2).1, fun j a hj => ?_, S.keep, S.zok, S.tabs⟩, key⟩
  · by_cases z : j = i
    · subst z
      rw [List.getElem?_set_self hi] at hj
      cases hj
      exact ⟨_, a4, (a5.move (H' := hid (zs F (drop1 A _)) H) (fun o z t => hid_of out z t) key).rd kd⟩
    · rw [List.getElem?_set_ne (Ne.symm z)] at hj
      obtain ⟨w, h1, h2⟩ := S.im j e hj
      exact ⟨w, h1, h2.mono key⟩
  · by_cases z : j = i
    · subst z; rw [List.getElem?_set_self hi] at hj; cases hj
    · rw [List.getElem?_set_ne (Ne.symm z)] at hj
      obtain ⟨a, h1, h2, h3, h4⟩ := S.ow j ys hj
      exact ⟨a, mem_drop1.mpr ⟨h1, z⟩, h2, h3, ow h4⟩
  · by_cases z : j = i
    · subst z; rw [List.getElem?_set_self hi] at hj; cases hj
    · rw [List.getElem?_set_ne (Ne.symm z)] at hj
      obtain ⟨a, h1, h2, h3⟩ := S.bo j ys hj
      exact ⟨a, mem_drop1.mpr ⟨h1, z⟩, h2, ow h3⟩
  · obtain ⟨h1, z⟩ := mem_drop1.mp hj
    rw [List.getElem?_set_ne (Ne.symm z)]
    exact S.own j a h1
  · obtain ⟨h1, ys, h2⟩ := S.bor j a hj
    have z : j ≠ i := fun z => by subst z; rw [q] at h2; cases h2
    exact ⟨mem_drop1.mpr ⟨h1, z⟩, ys, by rw [List.getElem?_set_ne (Ne.symm z)]; exact h2⟩
def freeR (i : Nat) (ρ : Rho) : Rho := match ρ[i]? with
  | some (some (.owd d)) => ρ.set i (some (.im d))
  | _ => ρ
def sFree : List Nat → SS → SS
  | [], f => f
  | i :: l, f => fun ρ => sFree l f (freeR i ρ)
theorem Sts.freeD {G : Gp} {F : Fm} {A : Own} {σ : St} {ρ : Rho} {H : Hp} {i : Nat} {ks ds : List D} (S : Sts G F A σ ρ H) (q : ρ[i]? = some (some (.owd (.dct ks ds)))) :
    ∃ a u, H a = some u ∧ Mut (some u) ∧ ∀ o, Sts G F (drop1 A i) σ (ρ.set i (some (.im (.dct ks ds)))) (upd H a (.frz o u)) ∧ Sto A (drop1 A i) H (upd H a (.frz o u)) := by
  have hi : i < ρ.length := (List.getElem?_eq_some_iff.mp q).1
  obtain ⟨a0, a1, a2, a3, a4, c⟩ := S.ow i _ q
  have c : DcC G H (hid (zs F A) H) a0 ks ds := c
  obtain ⟨u, hu, ut, un⟩ := DcC.old c
  have mu : Mut (some u) := by
    cases c with
    | k h1 _ => rw [h1] at hu; cases hu; trivial
    | t _ h1 _ _ _ => rw [h1] at hu; cases hu; trivial
  refine ⟨a0, u, hu, mu, fun ob => ?_⟩
  have za : a0 ∈ zs F A := mem_zs.mpr (.inr ⟨i, a1⟩)
  have out : a0 ∉ zs F (drop1 A i) := fun z => by
    rcases mem_zs.mp z with z | ⟨j, z⟩
    · exact a2 z
    · obtain ⟨z1, z2⟩ := mem_drop1.mp z
      exact z2 ((S.uni j i a0 a0 z1 a1).mpr rfl)
  have key : Same (hid (zs F A) H) (hid (zs F (drop1 A i)) (upd H a0 (.frz ob u))) := fun b o e => by
    obtain ⟨e1, e2, e3⟩ := hid_all e
    have ne : b ≠ a0 := fun z => e1 (z ▸ za)
    exact hid_of (fun z => e1 (zs_drop1 b z)) (by rw [upd_ne ne]; exact e2) e3
  have at0 : hid (zs F (drop1 A i)) (upd H a0 (.frz ob u)) a0 = some (.frz ob u) := hid_of out upd_same
  have rd : RD G (hid (zs F (drop1 A i)) (upd H a0 (.frz ob u))) (.ref a0) (.dct ks ds) := by
    cases c with
    | k h1 h2 => rw [h1] at hu; cases hu; exact .dct at0 (h2.mono key)
    | t n h1 h2 h3 h4 => rw [h1] at hu; cases hu; exact .dctT n at0 (h2.mono key) h3 (h4.mono key)
  have ow : ∀ {j b ys}, (j, b) ∈ A → j ≠ i → OwAt G F A σ H j b ys → OwAt G F (drop1 A i) σ (upd H a0 (.frz ob u)) j b ys := fun {j b ys} hb hj h => by
    have nb : b ≠ a0 := fun z => hj ((S.uni j i b a0 hb a1).mpr z)
    exact ⟨h.1, h.2.move (fun _ z _ => by rw [upd_ne nb]; exact z) key⟩
  have st : Sto A (drop1 A i) H (upd H a0 (.frz ob u)) := fun b o e n => by
    have ne : b ≠ a0 := fun z => n i (z ▸ a1)
    refine ⟨?_, fun j z => n j (mem_drop1.mp z).1⟩
    rw [nt_upd rfl, upd_ne ne]; exact e
  refine ⟨⟨by rw [List.length_set]; exact S.len, fun j e hj => ?_, fun j ys hj => ?_, fun j ys hj => ?_, fun j a hj => ?_, fun j k a b h1 h2 => S.uni j k a b (mem_drop1.mp h1).1 (mem_drop1.mp h2).1, fun j a hj => ?_, fun b o e n => ?_, fun b hb q => ?_, tabs_updG S.tabs hu ut un⟩, st⟩
  · by_cases z : j = i
    · subst z
      rw [List.getElem?_set_self hi] at hj
      cases hj
      exact ⟨_, a4, rd⟩
    · rw [List.getElem?_set_ne (Ne.symm z)] at hj
      obtain ⟨w, h1, h2⟩ := S.im j e hj
      exact ⟨w, h1, h2.mono key⟩
  · by_cases z : j = i
    · subst z; rw [List.getElem?_set_self hi] at hj; cases hj
    · rw [List.getElem?_set_ne (Ne.symm z)] at hj
      obtain ⟨a, h1, h2, h3, h4⟩ := S.ow j ys hj
      exact ⟨a, mem_drop1.mpr ⟨h1, z⟩, h2, h3, ow h1 z h4⟩
  · by_cases z : j = i
    · subst z; rw [List.getElem?_set_self hi] at hj; cases hj
    · rw [List.getElem?_set_ne (Ne.symm z)] at hj
      obtain ⟨a, h1, h2, h3⟩ := S.bo j ys hj
      exact ⟨a, mem_drop1.mpr ⟨h1, z⟩, h2, ow h1 z h3⟩
  · obtain ⟨h1, z⟩ := mem_drop1.mp hj
    rw [List.getElem?_set_ne (Ne.symm z)]
    exact S.own j a h1
  · obtain ⟨h1, ys, h2⟩ := S.bor j a hj
    have z : j ≠ i := fun z => by subst z; rw [q] at h2; cases h2
    exact ⟨mem_drop1.mpr ⟨h1, z⟩, ys, by rw [List.getElem?_set_ne (Ne.symm z)]; exact h2⟩
  · rw [nt_upd rfl]
    by_cases z : b = a0
    · subst z; rw [nt_none.mpr a3] at e; cases e
    · rw [upd_ne z]; exact S.keep b o e n
  · by_cases z : b = a0
    · subst z; rw [upd_same] at q; cases q
    · rw [upd_ne z] at q; exact S.zok b hb q
inductive Lk (t : TS) (D : Ends) (σ : St) : Hp → Prop
  | here {H : Hp} : t D σ H → Lk t D σ H
  | lock {H : Hp} {a : Addr} {u : HO} : H a = some u → Mut (some u) → (∀ o, Lk t D σ (upd H a (.frz o u))) → Lk t D σ H
theorem ps_Lk {X : Cx} {st : Stmt} {t : TS} (h : PS X st t) : PS X st (fun D σ H => Lk t D σ H) := by
  refine ⟨fun pins s σ H D I q => ?_⟩
  induction q with
  | here q => exact h.run pins s σ _ D I q
  | lock e mu _ ih =>
    obtain ⟨od, I1⟩ := I.lock e mu
    exact ih od I1
theorem free_rd {G : Gp} {F : Fm} {D : Ends} {σ : St} {f : SS} : ∀ (l : List Nat) {H : Hp}, tS G F (sFree l f) D σ H → Lk (tS G F f) D σ H
  | [], _, h => .here h
  | i :: l, H, ⟨A, ρ, S, o⟩ => by
    have o : OutS G F A H D (sFree l f (freeR i ρ)) := o
    unfold freeR at o
    split at o
    · rename_i d q
      by_cases kd : isDct d = false
      · obtain ⟨S', m⟩ := S.free q kd
        exact free_rd l ⟨_, _, S', OutS.sto (Sto.less fun j a h => (mem_drop1.mp h).1) o⟩
      · cases d <;> first | exact absurd rfl kd | skip
        obtain ⟨a, u, hu, mu, k⟩ := S.freeD q
        exact .lock hu mu fun ob => free_rd l ⟨_, _, (k ob).1, OutS.sto (k ob).2 o⟩
    · exact free_rd l ⟨A, ρ, S, o⟩
theorem ds_free {X : Cx} {st : Stmt} {f : SS} {l : List Nat} (h : DS X st f) : DS X st (sFree l f) := ⟨fun F => ps_imp (ps_Lk (h.run F)) fun D σ H q => free_rd l q⟩
def tFc (G : Gp) (F : Fm) (f : M D) : TE := fun σ H Q => ∃ A ρ d ρ', Sts G F A σ ρ H ∧ f ρ = .ok d ρ' ∧
  ∀ p H', Sts G (F.hide p) A σ ρ' H' → F.H0 p = none → p ∉ zs F A → Stp A H H' → H p = none → (∃ ks vs, d = .dct ks vs ∧ DcC G H' (hid (zs (F.hide p) A) H') p ks vs) → Q (.ref p) H'
structure DC (X : Cx) (e : Expr) (f : M D) : Prop where
  run : ∀ F, PE X e (tFc (Gx X) F f)
def setOwD (i : Nat) (d : D) : M Unit := fun ρ => match ρ[i]? with
  | some (some (.bo _)) => .no
  | some _ => .ok () (ρ.set i (some (.owd d)))
  | none => .no
theorem setOwD_ok {i : Nat} {d : D} {ρ ρ' : Rho} {u : Unit} (h : setOwD i d ρ = .ok u ρ') : i < ρ.length ∧ (∀ xs, ρ[i]? ≠ some (some (.bo xs))) ∧ ρ' = ρ.set i (some (.owd d)) := by
  unfold setOwD at h
  split at h
  · cases h
  · rename_i x q1 q2
    cases h
    refine ⟨?_, fun xs z => ?_, rfl⟩
    · by_cases z : i < ρ.length
      · exact z
      · rw [List.getElem?_eq_none (by omega)] at q2; cases q2
    · exact q1 xs (Option.some.inj (q2.symm.trans z))
  · cases h
inductive PV where
  | v (r : RV)
  | f (xs : List D)
  | c (d : D)
def tP (G : Gp) (f : M PV) : TE := fun σ H Q => ∃ F A ρ pv ρ', Sts G F A σ ρ H ∧ f ρ = .ok pv ρ' ∧ (match pv with
  | .v r => ∀ v H', Sts G F A σ ρ' H' → Stp A H H' → RR G F A H' v r → Q v H'
  | .f xs => ∀ p vs H', Sts G (F.hide p) A σ ρ' H' → F.H0 p = none → p ∉ zs F A → Stp A H H' → H p = none → H' p = some (.lst vs) → RDs G (hid (zs (F.hide p) A) H') vs xs → Q (.ref p) H'
  | .c _ => False)
structure DP (X : Cx) (e : Expr) (f : M PV) : Prop where
  run : PE X e (tP (Gx X) f)
def pV (fa : ES) : M PV := M.bind fa fun r => M.ret (.v r)
theorem pe_any {X : Cx} {e : Expr} {t : Fm → TE} (h : ∀ F, PE X e (t F)) : PE X e (fun σ H Q => ∃ F, t F σ H Q) := ⟨fun pins s σ H Q I ⟨F, q⟩ => (h F).run pins s σ H Q I q⟩
theorem dp_v {X : Cx} {e : Expr} {fa : ES} (h : DE X e fa) : DP X e (pV fa) := ⟨pe_imp (pe_any h.run) fun σ H Q ⟨F, A, ρ, pv, ρ', S, e, q⟩ => by
  obtain ⟨r, ρ1, e1, e⟩ := bind_ok e
  obtain ⟨rfl, rfl⟩ := ret_ok e
  exact ⟨F, A, ρ, r, _, S, e1, q⟩⟩
def putP (i : Nat) : PV → M Unit
  | .v r => M.bind (imm r) fun d => setIm i d
  | .f xs => setOw i xs
  | .c _ => fun _ => .no
def sPar2 (i j : Nat) (fa fb : M PV) : SS := M.bind fa fun x => M.bind fb fun y => M.bind (putP i x) fun _ => M.bind (putP j y) fun _ => M.ret .nx
theorem hid_eq {Z Z' : List Addr} {H : Hp} (h : ∀ a, a ∈ Z ↔ a ∈ Z') : hid Z H = hid Z' H := by
  funext a
  unfold hid
  by_cases z : a ∈ Z
  · rw [if_pos z, if_pos ((h a).mp z)]
  · rw [if_neg z, if_neg fun y => z ((h a).mpr y)]
theorem Sts.swap {G : Gp} {F : Fm} {A : Own} {σ : St} {ρ : Rho} {H : Hp} {p q : Addr} (S : Sts G ((F.hide p).hide q) A σ ρ H) : Sts G ((F.hide q).hide p) A σ ρ H := by
  have hz : ∀ a, a ∈ ((F.hide p).hide q).Z ↔ a ∈ ((F.hide q).hide p).Z := fun a => by
    show a ∈ q :: p :: F.Z ↔ a ∈ p :: q :: F.Z
    simp only [List.mem_cons]
    constructor
    · rintro (h | h | h)
      · exact .inr (.inl h)
      · exact .inl h
      · exact .inr (.inr h)
    · rintro (h | h | h)
      · exact .inr (.inl h)
      · exact .inl h
      · exact .inr (.inr h)
  have hzs : ∀ a, a ∈ zs ((F.hide p).hide q) A ↔ a ∈ zs ((F.hide q).hide p) A := fun a => by
    rw [mem_zs, mem_zs, hz a]
  have e := hid_eq (H := H) hzs
  have ow : ∀ {j a ys}, OwAt G ((F.hide p).hide q) A σ H j a ys → OwAt G ((F.hide q).hide p) A σ H j a ys := fun {j a ys} h => ⟨h.1, h.2.move (fun _ z _ => z) (by rw [e]; exact Same.refl _)⟩
  refine ⟨S.len, fun j d h => ?_, fun j ys h => ?_, fun j ys h => ?_, S.own, S.uni, S.bor, S.keep, fun a ha => S.zok a ((hz a).mpr ha), S.tabs⟩
  · obtain ⟨v, h1, h2⟩ := S.im j d h
    exact ⟨v, h1, by rw [← e]; exact h2⟩
  · obtain ⟨a, h1, h2, h3, h4⟩ := S.ow j ys h
    exact ⟨a, h1, fun z => h2 ((hz a).mpr z), h3, ow h4⟩
  · obtain ⟨a, h1, h2, h3⟩ := S.bo j ys h
    exact ⟨a, h1, h2, ow h3⟩
theorem ds_par2 {X : Cx} {i j : Nat} {x y : Str} {a b : Expr} {fa fb : M PV} {px py pt pos : Pos} {kt k2 pt2} (hc : X.calm = true) (hN : X.N.Nodup) (hi : X.N[i]? = some x) (hj : X.N[j]? = some y) (hij : i ≠ j)
    (hx : X.env.scope.names.lookup x = some .local) (hy : X.env.scope.names.lookup y = some .local) (ha : DP X a fa) (hb : DP X b fb)
    (hw : swappedStores [.Tuple [.Name x px, .Name y py] kt pt] (.Tuple [a, b] k2 pt2) X.env = pure (some [x, y]))
    (h1 : starEach (a :: [b]) X.env = (false, eval a X.env) :: starEach [b] X.env := by rfl) (h2 : starEach (b :: []) X.env = (false, eval b X.env) :: starEach [] X.env := by rfl)
    (hs : swapsWithSole [.Tuple [.Name x px, .Name y py] kt pt] (.Tuple [a, b] k2 pt2) pos.line X.env = pure false := by rfl) :
    DS X (.Assign [.Tuple [.Name x px, .Name y py] kt pt] (.Tuple [a, b] k2 pt2) pos) (sPar2 i j fa fb) := ⟨fun F => ps_imp (ps_par hc hN hi hj hij hx hy (pa_cons ha.run (pa_cons hb.run pa_nil h2) h1) hw hs) fun D σ H ⟨A, ρ, S, o⟩ => by
  obtain ⟨pa, ρ1, e1, o⟩ := out_bind o
  obtain ⟨pb, ρ2, e2, o⟩ := out_bind o
  obtain ⟨_, ρ3, e3, o⟩ := out_bind o
  obtain ⟨_, ρ4, e4, oo⟩ := out_bind o
  cases pa with
  | c d => cases e3
  | v ra =>
    obtain ⟨d, ρ5, e5, e3⟩ := bind_ok e3
    obtain ⟨rfl, rfl⟩ := imm_ok e5
    refine ⟨F, A, ρ, _, ρ1, S, e1, fun v H1 S1 m1 r1 => ?_⟩
    cases pb with
    | c d => cases e4
    | v rb =>
      obtain ⟨d', ρ6, e6, e4⟩ := bind_ok e4
      obtain ⟨rfl, rfl⟩ := imm_ok e6
      refine ⟨F, A, ρ1, _, _, S1, e2, fun w H2 S2 m2 r2 => ?_⟩
      obtain ⟨S3, m3⟩ := S2.set e3 (RD.mono m2.hid r1)
      obtain ⟨S4, m4⟩ := S3.set e4 (RD.mono m3 r2)
      exact ⟨_, _, rfl, oo _ _ _ S4 (((Sto.of (m1.trans m2)).trans (Sto.less fun j a h => (mem_drop1.mp h).1)).trans (Sto.less fun j a h => (mem_drop1.mp h).1))⟩
    | f ys =>
      refine ⟨F, A, ρ1, _, _, S1, e2, fun p vs H2 S2 h0 hz m2 hn hp rd => ?_⟩
      have mm := m1.trans m2
      have hnH : H p = none := back_none S m1 S1 hn
      obtain ⟨S3, m3⟩ := S2.set e3 (RD.mono (stp_hide hn m2) r1)
      have hz3 : p ∉ zs F (drop1 A i) := fun z => hz (zs_drop1 p z)
      obtain ⟨S4, m4⟩ := S3.setN h0 hz3 hp (rd.mono m3) e4
      refine ⟨_, _, rfl, oo _ _ _ S4 fun c u h n => ⟨mm c u h n, fun k z => ?_⟩⟩
      rcases List.mem_cons.mp z with z | z
      · cases z; rw [nt_none.mpr hnH] at h; cases h
      · exact n k (mem_drop1.mp (mem_drop1.mp z).1).1
  | f xs =>
    refine ⟨F, A, ρ, _, ρ1, S, e1, fun p vs H1 S1 h0 hz m1 hn hp rd => ?_⟩
    have npA : ∀ k, (k, p) ∉ A := fun k z => hz (mem_zs.mpr (.inr ⟨k, z⟩))
    cases pb with
    | c d => cases e4
    | v rb =>
      obtain ⟨d', ρ6, e6, e4⟩ := bind_ok e4
      obtain ⟨rfl, rfl⟩ := imm_ok e6
      refine ⟨F.hide p, A, ρ1, _, _, S1, e2, fun w H2 S2 m2 r2 => ?_⟩
      have mm := m1.trans m2
      obtain ⟨S3, m3⟩ := S2.setN h0 hz (m2.at hp npA) (rd.mono m2.hid) e3
      obtain ⟨S4, m4⟩ := S3.set e4 (RD.mono m3 r2)
      refine ⟨_, _, rfl, oo _ _ _ S4 fun c u h n => ⟨mm c u h n, fun k z => ?_⟩⟩
      rcases List.mem_cons.mp (mem_drop1.mp z).1 with z | z
      · cases z; rw [nt_none.mpr hn] at h; cases h
      · exact n k (mem_drop1.mp z).1
    | f ys =>
      refine ⟨F.hide p, A, ρ1, _, _, S1, e2, fun p2 vs2 H2 S2 h02 hz2 m2 hn2 hp2 rd2 => ?_⟩
      have mm := m1.trans m2
      have hp' : H2 p = some (.lst vs) := m2.at hp npA
      have ne : p2 ≠ p := fun z => by rw [z] at hn2; rw [hp] at hn2; cases hn2
      have hnH : H p2 = none := by
        cases q : H p2 with
        | none => rfl
        | some u =>
          by_cases hA : ∃ k, (k, p2) ∈ A
          · obtain ⟨k, hA⟩ := hA
            exact absurd (mem_zs.mpr (.inr ⟨k, hA⟩)) hz2
          · exact absurd hn2 (m1.there (fun k z => hA ⟨k, z⟩) (by rw [q]; exact fun z => nomatch z))
      have hz2F : p2 ∉ zs F A := fun z => hz2 (zs_hide.mpr (.inr z))
      have rd' : RDs (Gx X) (hid (zs ((F.hide p2).hide p) A) H2) vs xs := by
        have k : Same (hid (zs (F.hide p) A) H1) (hid (zs ((F.hide p).hide p2) A) H2) := stp_hide hn2 m2
        refine (rd.mono k).mono (hid_less fun c hc => ?_)
        rcases zs_hide.mp hc with rfl | hc
        · exact zs_hide.mpr (.inr (zs_hide.mpr (.inl rfl)))
        · rcases zs_hide.mp hc with rfl | hc
          · exact zs_hide.mpr (.inl rfl)
          · exact zs_hide.mpr (.inr (zs_hide.mpr (.inr hc)))
      have hzq : p ∉ zs (F.hide p2) A := fun z => by
        rcases zs_hide.mp z with z | z
        · exact ne z.symm
        · exact hz z
      obtain ⟨S3, m3⟩ := S2.swap.setN h0 hzq hp' rd' e3
      have hzq2 : p2 ∉ zs F ((i, p) :: drop1 A i) := fun z => by
        rcases mem_zs.mp z with z | ⟨k, z⟩
        · exact hz2F (mem_zs.mpr (.inl z))
        · rcases List.mem_cons.mp z with z | z
          · cases z; exact ne rfl
          · exact hz2F (mem_zs.mpr (.inr ⟨k, (mem_drop1.mp z).1⟩))
      have rd2' : RDs (Gx X) (hid (zs ((F.hide p2).hide p) A) H2) vs2 ys := rd2.mono (hid_less fun c hc => by
        rcases zs_hide.mp hc with rfl | hc
        · exact zs_hide.mpr (.inr (zs_hide.mpr (.inl rfl)))
        · rcases zs_hide.mp hc with rfl | hc
          · exact zs_hide.mpr (.inl rfl)
          · exact zs_hide.mpr (.inr (zs_hide.mpr (.inr hc))))
      obtain ⟨S4, m4⟩ := S3.setN h02 hzq2 hp2 (rd2'.mono m3) e4
      refine ⟨_, _, rfl, oo _ _ _ S4 fun c u h n => ⟨mm c u h n, fun k z => ?_⟩⟩
      rcases List.mem_cons.mp z with z | z
      · cases z; rw [nt_none.mpr hnH] at h; cases h
      · rcases List.mem_cons.mp (mem_drop1.mp z).1 with z | z
        · cases z; rw [nt_none.mpr hn] at h; cases h
        · exact n k (mem_drop1.mp z).1⟩
end Dv
namespace Dv
open PySem PySem.Spec PyProof.Rows L2
variable [Tbl]
section
variable {X : Cx} {elt tg iter tg1 iter1 : Expr} {ifs ifs1 : List Expr} {scope : Scope} {own : List (Str × Nat)} {pos spos py : Pos} {fi fi1 : M (List IV)} {g g1 : IV → M Unit} {gt gt1 : M Bool} {fe : ES} {sl sl1 vs1 : List Nat} {y : Str} {i : Nat}
theorem DI.any {f : M (List IV)} (h : DI X tg iter f) : PI X tg iter (fun σ H R => ∃ F, tI (Gx X) F f σ H R) := ⟨fun pins s σ H R I ⟨F, q⟩ => (h.run F).run pins s σ H R I q⟩
end
end Dv
namespace Dv
open PySem PySem.Spec PyProof.Rows L2
variable [Tbl]
section
variable {X : Cx} {e a b o : Expr} {es : List Expr} {fs : M (List RV)} {fa fb : ES} {pos p apos cpos : Pos}
def place (d : D) : List D → Option Nat
  | [] => none
  | x :: xs => if eqb x d then some 0 else match place d xs with
    | some j => some (j + 1)
    | none => none
theorem place_ok {d : D} : ∀ {xs : List D} {j : Nat}, place d xs = some j → (∃ x, xs[j]? = some x ∧ eqb x d = true) ∧ ∀ m x, m < j → xs[m]? = some x → eqb x d = false
  | [], j, h => by cases h
  | x :: xs, j, h => by
    unfold place at h
    by_cases z : eqb x d = true
    · rw [if_pos z] at h
      cases h
      exact ⟨⟨x, rfl, z⟩, fun m _ hm => absurd hm (Nat.not_lt_zero m)⟩
    · rw [if_neg z] at h
      split at h
      · rename_i k hk
        cases h
        obtain ⟨⟨y, h1, h2⟩, h3⟩ := place_ok hk
        refine ⟨⟨y, by simpa using h1, h2⟩, fun m w hm hw => ?_⟩
        cases m with
        | zero => simp at hw; subst hw; simpa using z
        | succ m => exact h3 m w (by omega) (by simpa using hw)
      · cases h
def gIndex (x y : D) : Option D := match x with
  | .lst xs => match pl 50 (.lst xs) && pl 50 y, place y xs with
    | true, some j => some (.int (j : Nat))
    | _, _ => none
  | .tup xs => match asInts xs, y with
    | some ns, .int k => if k ∈ ns then some (.int (ns.idxOf k : Nat)) else none
    | _, _ => none
  | _ => none
theorem pds_at : ∀ (xs : List D) (j : Nat), (pds xs)[j]? = (xs[j]?).map pd
  | [], j => by simp [pds]
  | x :: xs, 0 => by simp [pds]
  | x :: xs, j + 1 => by simp [pds, pds_at xs j]
theorem pls_mem {n : Nat} : ∀ {xs : List D}, pls n xs = true → ∀ x ∈ xs, pl n x = true
  | [], _, x, hx => by cases hx
  | y :: ys, h, x, hx => by
    rw [pls.eq_def] at h
    obtain ⟨h1, h2⟩ := Bool.and_eq_true_iff.mp h
    rcases List.mem_cons.mp hx with rfl | hx
    · exact h1
    · exact pls_mem h2 x hx
def rIdxT (K : PySem.W.Frag) : V → List V → Hp → VK → Prop := fun x xs H Q => ∃ (p : Addr) (ns : List Int) (k : Int), x = .ref p ∧ xs = [.int k] ∧ SqT K H p (ns.map V.int) ∧ k ∈ ns ∧ Q (.int (ns.idxOf k : Nat)) H
theorem mt_idxT : MtR X "tuple.index" (rIdxT X.K) := by
  rintro pins s σ H x xs v us Q I rx rxs ⟨p, ns, k, rfl, rfl, hq, hk, q⟩
  cases rx
  cases rxs with
  | cons r rr =>
    cases rr
    obtain ⟨t, rfl⟩ := r
    obtain ⟨its, rv, pt, _⟩ := I.tuple hq
    exact PySem.SeqAt.tuple_index_ints (show s.heap.IsTuple p its.toArray from pt) (by simpa using ints_of_vals rv) hk ⟨.int _, H, I.tok _, ⟨_, rfl⟩, q⟩
def tBMT (K : PySem.W.Frag) (r : V → List V → Hp → VK → Prop) (to : TE) (t : TA) : TE := fun σ H Q => to σ H fun x H1 => (∃ a vs, x = .ref a ∧ TupV K H1 a vs) ∧ t σ H1 fun xs H2 => r x xs H2 Q
theorem tupV_is {pins : List (Addr × Obj)} {σ : L2.St} {H : Hp} {s : Shared} {p : Addr} {vs : List V} (I : Inv X pins σ H s) (h : TupV X.K H p vs) : s.TypeIs (.ref p) "tuple" ∧ ∀ a, Value.ref p = .ref a → ∃ ob, s.heap.get? a = some ob ∧ ob.dict = none := by
  obtain ⟨its, rv, pt, _⟩ := I.tuple h.sq
  refine ⟨pt.typeIs, fun a e => ?_⟩
  cases e
  rcases h with ⟨o, h, d⟩ | ⟨o, its, n, h1, h2, h3, _⟩
  · exact ⟨o, (I.hok p _ h).1, d⟩
  · exact ⟨o, I.kIn p o h1, h3⟩
theorem pe_bmT {to : TE} {t : TA} {name : Str} {id : String} {r : V → List V → Hp → VK → Prop} (slot : Slot "tuple" name id) (hty : typeOf (.builtin id) = pure (.type "method_descriptor")) (hm : MtR X id r) (ho : PE X o to) (ha : PA X (e :: es) t)
    (hbase : attributeBase o name X.env (eval o X.env) = eval o X.env := by rfl)
    (hfew : ((backTo cpos (starEach (e :: es) X.env)).all (fun x => !x.1) && (backToKw cpos (keywordEach [] X.env)).all (fun x => x.1.isSome)
      && decide ((e :: es).length + ([] : List Keyword).length + (if ([] : List Keyword).isEmpty then 0 else 1) < 30)) = true := by rfl)
    (hline : (apos.endLine == cpos.line) = true := by rfl) (hs : starEach (e :: es) X.env = (false, eval e X.env) :: starEach es X.env := by rfl) (hplain : (backTo cpos (starEach es X.env)).any (·.1) = false := by rfl) :
    PE X (.Call (.Attribute o name apos) (e :: es) [] cpos) (tBMT X.K r to t) := by
  constructor
  intro pins s σ H Q I h
  apply wpAny_Call_method_late hbase hfew hline rfl
  apply thn (ho.run pins s σ H _ I h)
  rintro v s1 ⟨x, H1, I1, r1, ⟨pa, vs, rfl, tv⟩, q1⟩
  obtain rfl : v = Value.ref pa := r1
  obtain ⟨h1, h2⟩ := tupV_is I1 tv
  refine ⟨"tuple", id, F.plainAttrs_tuple, slot, hty, h1, h2, ?_⟩
  have hA := ha.run cpos pins s1 σ H1 _ I1 q1
  rw [hs] at hA ⊢
  apply Calls.callWith_builtin (by show (false || (backTo cpos (starEach es X.env)).any (·.1)) = false; rw [hplain] <;> rfl)
  apply Calls.evalArgs_plain
  apply thn hA
  rintro us s2 ⟨ws, H2, I2, r2, q2⟩
  exact hm pins s2 σ H2 (.ref pa) ws (.ref pa) us Q I2 rfl r2 q2
def gIndex2 (x0 x y : D) : Option D := match x0, x with
  | .lst _, .lst _ => gIndex x y
  | .tup _, .tup _ => gIndex x y
  | _, _ => none
def eIdx (fa fb : ES) : ES := M.bind fa fun ra => M.bind (val ra) fun x0 => M.bind fb fun rb => M.bind (val ra) fun x => M.bind (val rb) fun y => M.bind (M.opt (gIndex2 x0 x y)) fun d => M.ret (.im d)
theorem de_index (hu : X.A.units + 65 < cLine) (ho : DE X o fa) (ha : DE X e fb)
    (hbase : attributeBase o "index" X.env (eval o X.env) = eval o X.env := by rfl)
    (hfew : ((backTo cpos (starEach [e] X.env)).all (fun x => !x.1) && (backToKw cpos (keywordEach [] X.env)).all (fun x => x.1.isSome)
      && decide ([e].length + ([] : List Keyword).length + (if ([] : List Keyword).isEmpty then 0 else 1) < 30)) = true := by rfl)
    (hline : (apos.endLine == cpos.line) = true := by rfl) (hs : starEach [e] X.env = (false, eval e X.env) :: starEach [] X.env := by rfl) :
    DE X (.Call (.Attribute o "index" apos) [e] [] cpos) (eIdx fa fb) := ⟨fun F =>
  pe_imp (pe_orE (pe_bm PySem.F.plainAttrs_list PySem.F.slot_list_index PySem.F.type_list_index (mt_indexD hu) (ho.run F) (pa_cons (ha.run F) pa_nil hs) hbase hfew hline hs rfl) (pe_bmT PySem.F.slot_tuple_index PySem.F.type_tuple_index mt_idxT (ho.run F) (pa_cons (ha.run F) pa_nil hs) hbase hfew hline hs rfl)) fun σ H Q ⟨A, ρ, rr, ρ', S, e, q⟩ => by
  obtain ⟨ra, ρ1, e1, e⟩ := bind_ok e
  obtain ⟨x0, ρ3, e3, e⟩ := bind_ok e
  obtain ⟨l0, rfl⟩ := val_ok e3
  obtain ⟨rb, ρ2, e2, e⟩ := bind_ok e
  obtain ⟨x, ρ3, e3, e⟩ := bind_ok e
  obtain ⟨l3, rfl⟩ := val_ok e3
  obtain ⟨y, ρ4, e4, e⟩ := bind_ok e
  obtain ⟨l4, rfl⟩ := val_ok e4
  obtain ⟨d, ρ5, e5, e⟩ := bind_ok e
  obtain ⟨l5, rfl⟩ := opt_ok e5
  obtain ⟨rfl, rfl⟩ := ret_ok e
  unfold gIndex2 at l5
  split at l5
  · rename_i ys xs
    unfold gIndex at l5
    dsimp only at l5
    split at l5
    · rename_i j hp hj
      cases l5
      obtain ⟨p1, p2⟩ := Bool.and_eq_true_iff.mp hp
      refine .inl ⟨A, ρ, ra, _, S, e1, fun v1 H1 S1 m1 r1 => ?_⟩
      obtain ⟨a0, vs0, rfl, h0, _⟩ := (look_rt S1 r1 l0).lst
      refine ⟨.inl ⟨rfl, vs0, h0⟩, A, _, rb, _, S1, e2, fun v2 H2 S2 m2 r2 => ?_⟩
      have rx := look_rt S2 (r1.same m2.hid) l3
      have ry := look_rt S2 r2 l4
      obtain ⟨⟨z, hz1, hz2⟩, hno⟩ := place_ok hj
      have px := pl_lst (n := 49) p1
      have zx := pls_mem px
      refine ⟨a0, v2, pd y, _, j, pd z, rfl, rfl, pl_dp 50 _ _ p1 (rx.full (pl_nd p1)), pl_dp 50 y v2 p2 (ry.full (pl_nd p2)), pl_shaped p1 (by decide), pl_shaped p2 (by decide), by rw [pds_at, hz1]; rfl, ?_, fun m z' hm hz' => ?_, q _ H2 S2 (m1.trans m2) (.int _)⟩
      · rw [eqv_pd 49 50 z y (zx z (List.mem_of_getElem? hz1)) p2]; exact hz2
      · rw [pds_at] at hz'
        obtain ⟨w, hw, rfl⟩ := Option.map_eq_some_iff.mp hz'
        rw [eqv_pd 49 50 w y (zx w (List.mem_of_getElem? hw)) p2]
        exact hno m w hm hw
    · cases l5
  · rename_i ys xs
    unfold gIndex at l5
    dsimp only at l5
    split at l5
    · rename_i ns k hi
      by_cases hk : k ∈ ns
      · rw [if_pos hk] at l5
        cases l5
        have ex := asInts_eq hi
        subst ex
        refine .inr ⟨A, ρ, ra, _, S, e1, fun v1 H1 S1 m1 r1 => ?_⟩
        obtain ⟨a0, vs0, rfl, h0, _⟩ := (look_rt S1 r1 l0).tup
        refine ⟨⟨a0, vs0, rfl, h0⟩, A, _, rb, _, S1, e2, fun v2 H2 S2 m2 r2 => ?_⟩
        obtain ⟨a1, vs1, ea, h1, h2⟩ := (look_rt S2 (r1.same m2.hid) l3).tup
        cases ea
        have ev := h2.ints
        subst ev
        have er := (look_rt S2 r2 l4).int
        subst er
        exact ⟨a0, ns, k, rfl, rfl, h1.sq, hk, q _ H2 S2 (m1.trans m2) (.int _)⟩
      · rw [if_neg hk] at l5; cases l5
    · cases l5
  · cases l5⟩
def nRep (f : M (List D)) (fb : ES) : M (List D) := M.bind f fun xs => M.bind fb fun rb => M.bind (val rb) fun d => M.bind (M.opt (isInt d)) fun k => M.opt (if (rangeOk k && decide (xs.length * k.toNat ≤ 1000000)) = true then some (List.replicate k.toNat xs).flatten else none)
theorem RDs.rep {G : Gp} {H : Hp} {vs : List V} {ds : List D} (r : RDs G H vs ds) : ∀ k : Nat, RDs G H (List.replicate k vs).flatten (List.replicate k ds).flatten
  | 0 => .nil
  | k + 1 => by
    rw [List.replicate_succ, List.replicate_succ, List.flatten_cons, List.flatten_cons]
    exact r.app (RDs.rep r k)
theorem dn_rep {f : M (List D)} (ha : DN X a f) (hb : DE X b fb) : DN X (.BinOp a .Mult b pos) (nRep f fb) := ⟨fun F => pe_imp (pe_op op_rep (ha.run F) (pe_any hb.run)) fun σ H Q ⟨A, ρ, rr, ρ', S, e, q⟩ => by
  obtain ⟨xs, ρ1, e1, e⟩ := bind_ok e
  obtain ⟨rb, ρ2, e2, e⟩ := bind_ok e
  obtain ⟨y, ρ4, e4, e⟩ := bind_ok e
  obtain ⟨l4, rfl⟩ := val_ok e4
  obtain ⟨k, ρ5, e5, e⟩ := bind_ok e
  obtain ⟨l5, rfl⟩ := opt_ok e5
  obtain ⟨l6, rfl⟩ := opt_ok e
  by_cases hk : (rangeOk k && decide (xs.length * k.toNat ≤ 1000000)) = true
  · rw [if_pos hk] at l6
    cases l6
    obtain ⟨k1, k2⟩ := Bool.and_eq_true_iff.mp hk
    obtain ⟨b1, b2⟩ := rangeOk_of k1
    have b3 := of_decide_eq_true k2
    have ei := isInt_ok l5
    subst ei
    refine ⟨A, ρ, xs, ρ1, S, e1, fun p vs H1 S1 h0 hz m1 hn hp rd => ⟨F.hide p, A, ρ1, rb, _, S1, e2, fun v2 H2 S2 m2 r2 => ?_⟩⟩
    have npA : ∀ k, (k, p) ∉ A := fun k z => hz (mem_zs.mpr (.inr ⟨k, z⟩))
    have rd2 := rd.mono (m2.hid (F := F.hide p))
    refine ⟨p, k, vs, rfl, (look_rt S2 r2 l4).int, m2.at hp npA, by omega, by omega, by rw [rd.len]; exact len_line b3, fun p2 hp2 => ?_⟩
    have rd3 : RDs (Gx X) (hid (zs F A) H2) vs xs := rd2.mono show_same
    exact fresh_list S2.show (m1.trans m2) (rd3.rep k.toNat) hp2 (back_none S (m1.trans m2) S2.show hp2) q
  · rw [if_neg hk] at l6; cases l6⟩
end
end Dv
namespace Dv
open PySem PySem.Spec PyProof.Rows L2
section
variable {X : Cx}
def rSortedTI (K : PySem.W.Frag) : List V → Hp → VK → Prop := fun vs H Q => ∃ (a : Addr) (ns : List Int), vs = [V.ref a] ∧ SqT K H a (ns.map V.int) ∧ ∀ (ms : List Int) (q : Addr), ms.Perm ns → ms.Pairwise (· ≤ ·) → H q = none → Q (.ref q) (upd H q (.lst (ms.map V.int)))
theorem cr_sortedTI : CallR X (.builtin "sorted") (rSortedTI X.K) := by
  rintro pins s σ H vs us Q I r ⟨a, ns, rfl, hs, q⟩
  obtain ⟨its, rv, pt, hz⟩ := I.tuple hs
  rw [Vals.ref1 r]
  have hi := rv.ints
  have hz2 : its.length ≤ sizeLine := by rw [← rv.length]; exact hz
  obtain ⟨o, ho, hc, n, hd⟩ := pt
  apply Calls.call_function_entry kind_sorted plain_sorted entry_sorted (args_sorted1 _)
  unfold Builtin.«sorted»
  apply wpAny_bind (m := checkCount "sorted" 1 1 _)
  apply wpAny_pure
  apply wpAny_bind
  apply wpAny_collect_seq a (.inr rfl) ho hc hd ?_ (by simpa using hz2)
  intro h' hk
  have I1 : Inv X pins σ H { s with heap := h' } := I.kept (t' := s.toks) hk
  have el : its.toArray.toList = its := by simp
  rw [el]
  apply wpAny_bind
  apply wpAny_newList ?_ hz2
  have hoL : (h'.push (seqObj "list" its.toArray 0)).get? h'.objs.size = some (seqObj "list" its.toArray 0) := Heap.get?_push_size _ rfl
  show wpAny _ _ _ _ _ { s with heap := h'.push (seqObj "list" its.toArray 0) }
  refine wpAny_bind (wpAny_holding (wpAny_call_entry slot_list_sort ⟨_, hoL, rfl⟩ entry_list_sort (SrtO.list_sort_ord SrtO.swo_int hoL hz2 (fun h2 => SrtO.ints_sortable hi h2) fun out h1 h2 => ⟨_, rfl, ?_⟩) (args_list_sort _)))
  apply wpAny_pure
  obtain ⟨k1, k2, k3⟩ := SrtO.ints_out hi h1 h2
  refine ⟨_, rfl, ?_⟩
  obtain ⟨ep, he'⟩ := sortedHeap_at (out := out.toArray) hoL
  have hlen : ((out.map SrtO.iv).map V.int).length ≤ sizeLine := by
    rw [List.length_map, k2.length_eq]
    rw [List.length_map] at hz
    exact hz
  have keep : ∀ b u, h'.get? b = some u → (sortedHeap (h'.push (seqObj "list" its.toArray 0)) h'.objs.size its out.toArray).get? b = some u := fun b u e => by
    have hb := Heap.lt_size e
    rw [sortedHeap_old (Nat.ne_of_lt hb) (by rw [Heap.size_push]; exact Nat.lt_succ_of_lt hb)]
    exact Heap.get?_push_of_some _ e
  exact ⟨.ref _, upd H h'.objs.size (.lst ((out.map SrtO.iv).map V.int)), I1.laid (t' := s.toks) keep (Nat.le_refl _) ⟨hlen, out, ep, vals_of_ints k1, he'⟩, rfl, q _ _ k2 k3 (I1.hok.fresh (Nat.le_refl _))⟩
def gSortedTI : List D → Option (List D)
  | [.tup xs] => match asInts xs with
    | some ns => some (iD (sortI ns))
    | none => none
  | [.lst xs] => match asInts xs with
    | some ns => some (iD (sortI ns))
    | none => none
  | _ => none
theorem cn_sortedTI : CallN X (.builtin "sorted") gSortedTI := ⟨fun vs H Q => rSortedI X.K vs H Q ∨ rSortedTI X.K vs H Q, fun pins s σ H vs us Q I r h => by
    rcases h with h | h
    · exact cr_sortedI pins s σ H vs us Q I r h
    · exact cr_sortedTI pins s σ H vs us Q I r h, fun Z H xs ds es Q z r e q => by
  unfold gSortedTI at e
  split at e
  · split at e
    · rename_i ns e1
      cases e
      have ex := asInts_eq e1
      subst ex
      obtain ⟨v, rfl, r1⟩ := r.one
      obtain ⟨a, vs, rfl, h1, h2⟩ := r1.tup
      have ev := h2.ints
      subst ev
      refine .inr ⟨a, ns, rfl, h1.sq, fun ms p k1 k2 hp => ?_⟩
      have em : ms = sortI ns := sorted_uniq (k1.trans (sortI_perm ns).symm) k2 (sortI_sorted ns)
      subst em
      exact q p _ hp (RDs.map_int _)
    · cases e
  · split at e
    · rename_i ns e1
      cases e
      have ex := asInts_eq e1
      subst ex
      obtain ⟨v, rfl, r1⟩ := r.one
      obtain ⟨a, vs, rfl, h1, h2⟩ := r1.lst
      have ev := h2.ints
      subst ev
      refine .inl ⟨a, ns, rfl, h1, fun ms p k1 k2 hp => ?_⟩
      have em : ms = sortI ns := sorted_uniq (k1.trans (sortI_perm ns).symm) k2 (sortI_sorted ns)
      subst em
      exact q p _ hp (RDs.map_int _)
    · cases e
  · cases e⟩
end
end Dv
namespace Dv
open PySem PySem.Spec PyProof.Rows L2
def s_one_of : SS := (sRet (eBin gIx (eVar 1) (eUser F_draw (aCons (eVar 0) (aCons (eCall gLen (aCons (eVar 1) aNil)) aNil)))))
def F_one_of : FD := defF 2 2 s_one_of
theorem one_of_ok {xs items : List D} (hb : BagOk xs) (h0 : items ≠ []) (hl : items.length < 1000000) : ∃ d ys, d ∈ items ∧ F_one_of [.bo xs, .im (.lst items)] = some (.im d, [some ys]) ∧ BagOk ys := by
  have hp : 0 < items.length := List.length_pos_iff.mpr h0
  obtain ⟨r, ys, e, r0, r1, hy⟩ := draw_ok (many := (items.length : Int)) hb (by omega) (by omega)
  obtain ⟨d, hd, g⟩ := ix_nat (xs := items) r0 (by omega)
  have l : gLen [.lst items] = some (.int (items.length : Int)) := rfl
  refine ⟨d, ys, hd, ?_, hy⟩
  conv => lhs; simp only [defF, runF, entry, bos, sSeq, sNil, sIf, sSet, sOwn, sSetL, sPar, sRet, sRetL, sRetN, sExpr, M.bind, M.ret, M.opt, val, look, imm, vals, looks, imms, eVar, eC, eBin, eUn, eCall, eN, eTup, nLst, nCall, aNil, aCons, eAnd, eOr, eNot, eIf, eChain, eSl, oSome, oNone, eTupRg, nLstRg, rOne, rTwo, eMt, eDict0, bVal, bCmp, bBl, bAnd, bOr, bNot, bYes, isBl, truth, Dv.isInt, setIm, setOw, lAt, lPut, eUser, nUser, uCall, apart, noAl, toSVs, toSV, putBack, bosAt, allIm, iSeq, iCall, iCallI, sFor, gSet, gTupD, gsCons, gsNil, gsCons, wipeR, okw, putB, e_lt, e_le, e_gt, e_ge, e_sub, e_addI, gNeg, gInt, List.length_cons, List.length_nil, List.map_cons, List.map_nil, List.cons_append, List.nil_append, List.getElem?_cons_zero, List.getElem?_cons_succ, List.getElem?_nil, List.replicate, List.set_cons_zero, List.set_cons_succ, List.all_cons, List.all_nil, decide_true, decide_false, Nat.sub_self, Nat.reduceAdd, Nat.reduceSub, Nat.reduceEqDiff, Nat.reduceBNe, Bool.not_true, Bool.not_false, Bool.and_true, Bool.true_and, Bool.and_self, Option.getD_some, Option.getD_none, if_true, if_false, ↓reduceIte, F_one_of, s_one_of, e, l, g]
end Dv
namespace Dv
open PySem PySem.Spec PyProof.Rows L2
end Dv
namespace Dv
open PySem PySem.Spec PyProof.Rows L2
def rgF (a b : Int) : List Int := (List.range (b - a).toNat).map fun (i : Nat) => a + (i : Int)
end Dv
namespace Dv
open PySem PySem.Spec PyProof.Rows L2
def plain : D → Bool
  | .set _ => false
  | .obj _ _ _ => false
  | .ref _ => false
  | .dct (_ :: _) _ => false
  | _ => true
abbrev GREAT : Int := 1000000000000000000000000000000000000000000000000000000000000
end Dv
namespace Dv
open PySem PySem.Spec PyProof.Rows L2
section
variable {P : Program} {w : World} {A : Around} {E : Value → Shared → Prop} {s : Shared}
abbrev begS (w : World) : Obj := ⟨.type "set", none, .set #[] 0 (.fresh 0 0 (!w.params.followText "set-order")), #[]⟩
abbrev begIt (a : Addr) : Obj := ⟨.type "list_iterator", none, .fields #[.ref a, .int 0 0], #[]⟩
theorem fill_list {l D : Addr} {vs : Array Value} (ms : List Int) {R : Result → Shared → Prop} {Hp : Heap} {st : Shared} (hno : A.handled = none) (eh : st.heap = Hp.push (begIt l)) (isl : Hp.IsList l vs) (hin : IntsAre vs.toList ms) (few : ms.length + 1 < scanBound) (hd : Hp.get? D = some (begS w)) (ne : D ≠ l)
    (fin : ∀ (h2 : Heap) (t2 : Tok) (c : Nat), SetR w h2 D (fun j => decide (j ∈ ms)) c → c ≤ ms.length → (∀ b o, b ≠ D → Hp.get? b = some o → h2.get? b = some o) → R (.ok (.ret .none)) { st with heap := h2, toks := t2 }) :
    codeAny (model P w) A (.builtin "set.update.loop" ⟨[.ref D, .ref Hp.objs.size], []⟩) R st := by
  have ll : l < Hp.objs.size := by obtain ⟨_, e, _⟩ := isl; exact Heap.lt_size e
  have ld : D < Hp.objs.size := Heap.lt_size hd
  have sz : vs.size = ms.length := by
    have q := hin.length
    rwa [Array.length_toList] at q
  have no3 : A.in1.handled = none := by simp [hno]
  have WW := (Walks.list (prog := P) (w := w) (A := A.in1) no3 Hp.objs.size l (Nat.ne_of_lt ll) vs).toS
  have isl1 : st.heap.IsList l vs := by rw [eh]; exact isl.push _
  have hd1 : st.heap.get? D = some (begS w) := by rw [eh]; exact Heap.get?_push_of_some _ hd
  have st0 : st.heap.IsListIter Hp.objs.size l 0 ∧ st.heap.IsList l vs := ⟨by rw [eh]; exact ⟨_, Heap.get?_push_size _ rfl, rfl, rfl⟩, isl1⟩
  have vals : ∀ (i : Nat) (v : Value), vs[i]? = some v → ∃ k t, ms[i]? = some k ∧ v = .int k t := by
    intro i v hv
    have li : i < ms.length := sz ▸ (Array.getElem?_eq_some_iff.mp hv).1
    obtain ⟨t, et⟩ := IntsAre.int_at hin i v (by rw [Array.getElem?_toList]; exact hv)
    exact ⟨ms[i], t, List.getElem?_eq_getElem li, by rw [et, List.getD_eq_getElem?_getD, List.getElem?_eq_getElem li]; rfl⟩
  have out : D ∉ [Hp.objs.size, l] := by
    intro z
    rcases List.mem_cons.mp z with z | z
    · exact absurd z (Nat.ne_of_lt ld)
    · rcases List.mem_cons.mp z with z | z
      · exact ne z
      · cases z
  refine set_update_ints WW D out ms sz few vals vs.size 0 st (by omega) (Nat.zero_le _) st0 ⟨0, Nat.le_refl 0, setR_new_at hd1⟩ ?_
  intro s2 c mv hc hS
  obtain ⟨h2, g2, d2, t2, o2⟩ := s2
  obtain rfl : g2 = st.gens := mv.gens
  obtain rfl : d2 = st.drawn := mv.drawn
  obtain rfl : o2 = st.os := mv.os
  refine fin h2 t2 c hS (sz ▸ hc) fun b o nb e => ?_
  have lb : b < Hp.objs.size := Heap.lt_size e
  refine mv.heap b o (fun z => ?_) (by rw [eh]; exact Heap.get?_push_of_some _ e)
  rcases List.mem_cons.mp z with z | z
  · exact nb z
  · rcases List.mem_cons.mp z with z | z
    · exact absurd z (Nat.ne_of_lt lb)
    · cases z
theorem call_setLI {l : Addr} {vs : Array Value} (ms : List Int) {Q : Value → Shared → Prop} (hno : A.handled = none) (isl : s.heap.IsList l vs) (hin : IntsAre vs.toList ms) (few : ms.length + 1 < scanBound)
    (fin : ∀ (h2 : Heap) (t2 : Tok) (c : Nat), SetR w h2 s.heap.objs.size (fun j => decide (j ∈ ms)) c → c ≤ ms.length → (∀ b o, s.heap.get? b = some o → h2.get? b = some o) → Q (.ref s.heap.objs.size) { s with heap := h2, toks := t2 }) : wpAny (model P w) A (call (.type "set") [.ref l]) Q E s := by
  have ⟨cc, tt, m1⟩ := F.called_set.mro
  have m2 := F.called_set.made; have m3 := F.called_set.sub; have m4 := F.called_set.notType; have m5 := F.called_set.canCreate; have m6 := F.typeCall_set_1 (.ref l)
  apply wpAny_call; apply codeAny_of_tree
  show wpAny _ _ (callAny (.type "set") _) _ _ _; refine wpAny_pure ⟨Code.quiet_builtin _ (by decide +kernel), codeAny_builtin F.entry_type_call ?_⟩
  rw [Around.under_plain (weight_type_call_type "set" [.ref l] []) rfl]; repeat (any_goals (first | assumption | wp_step))
  refine codeAny_mono (code_set_led1 (.ref l) (E := E) (Q₁ := fun u s1 => u = .ref s.heap.objs.size ∧ s1 = { s with heap := s.heap.push (begS w) }) ⟨rfl, rfl⟩) ?_
  rintro (e | fl) s1 hr
  · exact hr
  cases fl with
  | ret u =>
    obtain ⟨rfl, rfl⟩ := hr
    have g0 : (s.heap.push (begS w)).get? s.heap.objs.size = some (begS w) := Heap.get?_push_size _ rfl
    have ty0 : Shared.TypeIs { s with heap := s.heap.push (begS w) } (.ref s.heap.objs.size) "set" := ⟨_, g0, rfl⟩
    have i1 := F.called_set.init.lookup; have i2 := F.called_set.init.bind (.ref s.heap.objs.size); repeat (any_goals (first | assumption | wp_step))
    refine codeAny_mono (codeAny_call_builtin (R := wants (fun r s2 => r = .none ∧ ∃ h2 t2 c, s2 = { s with heap := h2, toks := t2 } ∧ SetR w h2 s.heap.objs.size (fun j => decide (j ∈ ms)) c ∧ c ≤ ms.length ∧ ∀ b o, s.heap.get? b = some o → h2.get? b = some o) E) F.called_set.init.plain F.entry_set_init (check_set_init_1 ty0 ?_)) ?_
    · have ll : l < s.heap.objs.size := by obtain ⟨_, e, _⟩ := isl; exact Heap.lt_size e
      have isl1 : (s.heap.push (begS w)).IsList l vs := isl.push _
      obtain ⟨ol, e1, e2, n3, e3⟩ := isl
      obtain ⟨oc, od, oa, os⟩ := ol
      dsimp only at e2 e3; subst e2; subst e3
      have gl := Heap.get?_push_of_some (begS w) e1
      have k1 := F.sub_list_set; have k2 := F.sub_list_frozenset; have k3 : (Value.type "list" == Value.type "dict") = false := by decide
      unfold Builtin.«set.__init__» noKeywords Builtin.Frozenset.updateFrom; generalize hPI : pyIter = PI
      wp_walk
      subst hPI; refine wpAny_pyIter_list isl1 ?_
      refine wpAny_bind (wpAny_runValue (fill_list (A := _) (Hp := s.heap.push (begS w)) ms (by simp [hno]) rfl isl1 hin few g0 (Nat.ne_of_gt ll) fun h2 t2 c hS hc hk => ?_))
      show wpAny _ _ _ _ _ _; refine wpAny_pure ?_
      show wpAny _ _ (ret Value.none) _ _ _
      exact wpAny_pure ⟨rfl, h2, t2, c, rfl, hS, hc, fun b o e => hk b o (Nat.ne_of_lt (Heap.lt_size e)) (Heap.get?_push_of_some _ e)⟩
    · rintro (e | fl) s2 hr2
      · exact hr2
      cases fl with
      | ret r =>
        obtain ⟨rfl, h2, t2, c, rfl, hS, hc, hk⟩ := hr2
        repeat (any_goals (first | assumption | wp_step))
        exact fin h2 t2 c hS hc hk
      | _ => exact hr2.elim
  | _ => exact hr.elim
end
end Dv
namespace Dv
open PySem PySem.Spec PyProof.Rows L2
variable [Tbl]
section
variable {X : Cx}
def rSetLI (w : World) (K : PySem.W.Frag) : List V → Hp → VK → Prop := fun xs H Q => ∃ p ns, xs = [.ref p] ∧ SqL K H p (ns.map V.int) ∧ ns.length ≤ 1000 ∧ ∀ q, H q = none → Q (.ref q) (upd H q (SetO w q (fun j => decide (j ∈ ns)) (sortU ns).length))
theorem call_setL (hc : X.calm = true) : CallR X (.type "set") (rSetLI X.w X.K) := by
  intro pins s σ H xs us Q I r h
  obtain ⟨p, ns, rfl, hq, hl, q⟩ := h
  rw [Vals.ref1 r]
  obtain ⟨its, rv, pt, hz⟩ := I.list hq
  refine call_setLI ns (I.ok.hd hc) pt.isList (ints_of_vals rv) (by unfold scanBound; omega) fun h' tk c R1 hcn k => ?_
  have ec : c = (sortU ns).length := by
    obtain ⟨o, es, ep, t, ho, hex, hdt, g, nd, hm2, hb, hf, hn, hr, hl2⟩ := R1
    have e1 : (es.toList.map keyOf).length = (sortU ns).length := card_eq nd (lt_nodup (sortU_sorted ns)) fun k => by
      rw [← hm2 k, mem_sortU]; simp
    rw [List.length_map, Array.length_toList] at e1
    rw [← hn]; exact e1
  subst ec
  exact ⟨.ref s.heap.objs.size, _, I.laid k (Nat.le_refl _) (setO_new R1), rfl, q _ (I.hok.fresh (Nat.le_refl _))⟩
theorem asInts_tup {G : Gp} {Z : List Addr} {H : Hp} {v : V} {xs : List D} {ns : List Int} (r : RT G Z H v (.tup xs)) (e : asInts xs = some ns) : ∃ a, v = .ref a ∧ SqT G.K H a (ns.map V.int) := by
  obtain ⟨a, vs, rfl, h1, h2⟩ := r.tup
  have ex := asInts_eq e
  subst ex
  have ev := h2.ints
  subst ev
  exact ⟨a, rfl, h1.sq⟩
theorem asInts_lst {G : Gp} {Z : List Addr} {H : Hp} {v : V} {xs : List D} {ns : List Int} (r : RT G Z H v (.lst xs)) (e : asInts xs = some ns) : ∃ a, v = .ref a ∧ SqL G.K H a (ns.map V.int) := by
  obtain ⟨a, vs, rfl, h1, h2⟩ := r.lst
  have ex := asInts_eq e
  subst ex
  have ev := h2.ints
  subst ev
  exact ⟨a, rfl, h1⟩
def gSetA : List D → Option D
  | [.tup xs] => match asInts xs with
    | some ns => if ns.length ≤ 1000 then some (.set ((sortU ns).map .int)) else none
    | none => none
  | [.lst xs] => match asInts xs with
    | some ns => if ns.length ≤ 1000 then some (.set ((sortU ns).map .int)) else none
    | none => none
  | _ => none
theorem cd_setA (hc : X.calm = true) : CallD X (.type "set") gSetA := ⟨fun vs H Q => rSetT X.w X.K vs H Q ∨ rSetLI X.w X.K vs H Q, fun pins s σ H vs us Q I r h => by
    rcases h with h | h
    · exact call_setT hc pins s σ H vs us Q I r h
    · exact call_setL hc pins s σ H vs us Q I r h, fun Z H xs ds d Q z r e q => by
  have fin : ∀ (ns : List Int) (p : Addr), some (D.set ((sortU ns).map .int)) = some d → H p = none → Q (.ref p) (upd H p (SetO X.w p (fun j => decide (j ∈ ns)) (sortU ns).length)) := fun ns p e hp => by
    cases e
    have sm := Same.of_new (o := SetO X.w p (fun j => decide (j ∈ ns)) (sortU ns).length) hp
    exact q _ _ sm (.set (hid_new z hp) (sortU_sorted ns) (fun k => by rw [mem_sortU]; simp) rfl)
  unfold gSetA at e
  split at e
  · split at e
    · rename_i xs0 ns e1
      by_cases hl : ns.length ≤ 1000
      · rw [if_pos hl] at e
        obtain ⟨v, rfl, r1⟩ := r.one
        obtain ⟨a, rfl, h1⟩ := asInts_tup r1 e1
        exact .inl ⟨a, ns, rfl, h1, hl, fun p hp => fin ns p e hp⟩
      · rw [if_neg hl] at e; cases e
    · cases e
  · split at e
    · rename_i xs0 ns e1
      by_cases hl : ns.length ≤ 1000
      · rw [if_pos hl] at e
        obtain ⟨v, rfl, r1⟩ := r.one
        obtain ⟨a, rfl, h1⟩ := asInts_lst r1 e1
        exact .inr ⟨a, ns, rfl, h1, hl, fun p hp => fin ns p e hp⟩
      · rw [if_neg hl] at e; cases e
    · cases e
  · cases e⟩
theorem fold_max : ∀ (r : List Int) (a : Int), r.foldl max a = maxI a r
  | [], a => rfl
  | b :: r, a => by
    rw [List.foldl_cons, fold_max r]
    show _ = maxI (if b > a then b else a) r
    congr 1
    by_cases z : b > a
    · rw [if_pos z]; omega
    · rw [if_neg z]; omega
theorem alike_ints (ns : List Int) : PySem.W.AlikeAll (ns.map PyData.int) := ⟨fun x hx y hy => by
  obtain ⟨i, _, rfl⟩ := List.mem_map.mp hx
  obtain ⟨j, _, rfl⟩ := List.mem_map.mp hy
  rfl, fun x hx => by
  obtain ⟨i, _, rfl⟩ := List.mem_map.mp hx
  exact fun z => nomatch z⟩
theorem depth0 : ∀ ns : List Int, PyData.depthAll (ns.map PyData.int) ≤ 1
  | [] => by decide
  | n :: r => by
    show max (PyData.depth (.int n)) (PyData.depthAll (r.map PyData.int)) ≤ 1
    have := depth0 r
    have e : PyData.depth (.int n) ≤ 1 := by simp [PyData.depth]
    omega
def rMaxT (K : PySem.W.Frag) : List V → Hp → VK → Prop := fun vs H Q => ∃ (p : Addr) (a : Int) (r : List Int), vs = [V.ref p] ∧ SqT K H p ((a :: r).map V.int) ∧ Q (.int (maxI a r)) H
theorem call_maxT (hc : X.calm = true) (hu : X.A.units + 64 < cLine) : CallR X (.builtin "max") (rMaxT X.K) := by
  intro pins s σ H xs us Q I r h
  obtain ⟨p, a, r', rfl, hq, q⟩ := h
  rw [Vals.ref1 r]
  obtain ⟨its, rv, pt, hz⟩ := I.tuple hq
  have hI := ints_of_vals rv
  refine PySem.W.max_tuple_data (I.ok.hd hc) (show s.heap.IsTuple p its.toArray from pt) (x := .int a) (xs := r'.map .int) (by rw [List.toList_toArray] <;> exact hI.reads s.heap) (alike_ints (a :: r')) (by have := depth0 (a :: r'); show X.A.units + 1 + PyData.depthAll ((a :: r').map PyData.int) < cLine; omega) fun i v h' tk bs hi rd hk => ?_
  rw [PySem.W.maxD_ints, fold_max] at rd
  cases rd
  exact ⟨.int _, H, I.kept hk, ⟨_, rfl⟩, q⟩
def seqI : List D → Option (List Int)
  | [.tup xs] => asInts xs
  | [.lst xs] => asInts xs
  | _ => none
def gMaxA (ds : List D) : Option D := match seqI ds with
  | some (a :: r) => some (.int (maxI a r))
  | _ => none
theorem seqI_rt {Z : List Addr} {H : Hp} {xs : List V} {ds : List D} {ns : List Int} (r : RTs (Gx X) Z H xs ds) (e : seqI ds = some ns) : ∃ p, xs = [.ref p] ∧ (SqT X.K H p (ns.map V.int) ∨ SqL X.K H p (ns.map V.int)) := by
  unfold seqI at e
  split at e
  · obtain ⟨v, rfl, r1⟩ := r.one
    obtain ⟨p, rfl, h⟩ := asInts_tup r1 e
    exact ⟨p, rfl, .inl h⟩
  · obtain ⟨v, rfl, r1⟩ := r.one
    obtain ⟨p, rfl, h⟩ := asInts_lst r1 e
    exact ⟨p, rfl, .inr h⟩
  · cases e
theorem cd_maxA (hc : X.calm = true) (hu : X.A.units + 64 < cLine) : CallD X (.builtin "max") gMaxA := ⟨fun vs H Q => rMaxT X.K vs H Q ∨ rMax X.K vs H Q, fun pins s σ H vs us Q I r h => by
    rcases h with h | h
    · exact call_maxT hc hu pins s σ H vs us Q I r h
    · exact cr_max hc pins s σ H vs us Q I r h, fun Z H xs ds d Q z r e q => by
  unfold gMaxA at e
  split at e
  · rename_i a l e1
    cases e
    obtain ⟨p, rfl, h | h⟩ := seqI_rt r e1
    · exact .inl ⟨p, a, l, rfl, h, ret_int q⟩
    · refine .inr ⟨p, _, rfl, h, by simp, fun m hm hy => ?_⟩
      obtain ⟨k1, k2, k3⟩ := maxI_ok l a
      have e1 : maxI a l ≤ m := hy _ (List.mem_cons.mpr k1)
      have e2 : m ≤ maxI a l := by
        rcases List.mem_cons.mp hm with rfl | hm
        · exact k2
        · exact k3 m hm
      rw [show m = maxI a l by omega]
      exact ret_int q
  · cases e⟩
end
end Dv
namespace Dv
open PySem PySem.Spec PyProof.Rows L2
variable [Tbl]
section
variable {X : Cx}
def ltI : List Int → List Int → Bool
  | [], [] => false
  | [], _ :: _ => true
  | _ :: _, [] => false
  | a :: r, b :: t => decide (a < b) || (decide (a = b) && ltI r t)
theorem ltI_iff : ∀ a b : List Int, ltI a b = true ↔ a < b
  | [], [] => by simp [ltI]
  | [], b :: t => by simp [ltI]
  | a :: r, [] => by simp [ltI]
  | a :: r, b :: t => by
    have ih := ltI_iff r t
    simp only [ltI, Bool.or_eq_true, Bool.and_eq_true, decide_eq_true_eq, ih, List.cons_lt_cons_iff]
theorem ltI_dec (a b : List Int) : decide (a < b) = ltI a b := by
  have := ltI_iff a b
  cases e : ltI a b with
  | true => exact decide_eq_true (this.mp e)
  | false => exact decide_eq_false fun z => by rw [this.mpr z] at e; cases e
theorem lt_row (a b : List Int) : PySem.W.dataLt (.tuple (a.map .int)) (.tuple (b.map .int)) = ltI a b := by
  rw [PySem.W.dataLt_tuple]
  exact (PySem.W.dataLt_ints a b).trans (ltI_dec a b)
theorem al_row (a b : List Int) : PySem.W.alike (.tuple (a.map .int)) (.tuple (b.map .int)) = true := by
  rw [PySem.W.alike]
  exact PySem.W.alike_ints a b
theorem dep_row (a : List Int) : (PyData.tuple (a.map .int)).depth ≤ 2 := by
  show PyData.depthAll (a.map .int) + 1 ≤ 2
  have := depth0 a
  omega
def rRow (K : PySem.W.Frag) (f : List Int → List Int → Bool) : R2 := fun x y H Q => ∃ a b : List Int, Dp K H x (.tuple (a.map .int)) ∧ Dp K H y (.tuple (b.map .int)) ∧ Q (.bl (f a b)) H
theorem op_row {op : CmpOp} {f : List Int → List Int → Bool} (hu : X.A.units + 64 < cLine) (hc : ∀ {s : Shared} {E : Value → Shared → Prop} {x y : Value} {a b : List Int} {as bs : List Addr} {Q : Value → Shared → Prop}, Reads s.heap x (.tuple (a.map .int)) as → Reads s.heap y (.tuple (b.map .int)) bs → Q (.bool (f a b)) s → wpAny (model X.prog X.w) X.A (compareOp op x y) Q E s) : OpR X (compareOp op) (rRow X.K f) := by
  intro pins s σ H x y v u Q I rx ry h
  obtain ⟨a, b, hd, he, q⟩ := h
  obtain ⟨as, r1⟩ := Dp.reads I _ x v hd rx
  obtain ⟨bs, r2⟩ := Dp.reads I _ y u he ry
  exact hc r1 r2 ⟨.bl _, H, I, rfl, q⟩
theorem op_ltR (hu : X.A.units + 64 < cLine) : OpR X (compareOp .Lt) (rRow X.K ltI) := op_row hu fun r1 r2 q => PySem.W.lt_data r1 r2 (al_row _ _) (fun z => nomatch z) (by have := dep_row ‹_›; omega) (by rw [lt_row]; exact q)
theorem op_gtR (hu : X.A.units + 64 < cLine) : OpR X (compareOp .Gt) (rRow X.K fun a b => ltI b a) := op_row hu fun r1 r2 q => PySem.W.gt_data r1 r2 (al_row _ _) (fun z => nomatch z) (by have := dep_row ‹_›; omega) (by rw [lt_row]; exact q)
theorem op_leR (hu : X.A.units + 64 < cLine) : OpR X (compareOp .LtE) (rRow X.K fun a b => !ltI b a) := op_row hu fun r1 r2 q => PySem.W.le_data r1 r2 (al_row _ _) (fun z => nomatch z) (by have := dep_row ‹_›; omega) (by rw [lt_row]; exact q)
def gRow (g : D → D → Option D) (f : List Int → List Int → Bool) (x y : D) : Option D := match x, y with
  | .tup xs, .tup ys => match asInts xs, asInts ys with
    | some a, some b => some (.bl (f a b))
    | _, _ => none
  | _, _ => g x y
def gLtA := gRow gLt ltI
def gGtA := gRow gGt fun a b => ltI b a
def gLeA := gRow gLe fun a b => !ltI b a
theorem pds_ints : ∀ ns : List Int, pds (ns.map D.int) = ns.map PyData.int
  | [] => by rw [List.map_nil, List.map_nil, pds]
  | n :: r => by rw [List.map_cons, List.map_cons, pds, pd, pds_ints r]
theorem row_dp {Z : List Addr} {H : Hp} {v : V} {xs : List D} {a : List Int} (r : RT (Gx X) Z H v (.tup xs)) (e : asInts xs = some a) : Dp X.K H v (.tuple (a.map .int)) := by
  have ex := asInts_eq e
  subst ex
  have h := pl_dp (G := Gx X) 50 (.tup (a.map D.int)) v (pl_tupI 49 a) (r.full rfl)
  rw [pd, pds_ints] at h
  exact h
theorem od_row {op : CmpOp} {g : D → D → Option D} {f : List Int → List Int → Bool} (h1 : OpD X (compareOp op) g) (h2 : OpR X (compareOp op) (rRow X.K f)) : OpD X (compareOp op) (gRow g f) := by
  obtain ⟨r, h3, h4⟩ := h1
  refine ⟨_, h2.or h3, fun Z H x y dx dy d Q z rx ry e q => ?_⟩
  unfold gRow at e
  split at e
  · split at e
    · rename_i a b e1 e2
      cases e
      exact .inl ⟨a, b, row_dp rx e1, row_dp ry e2, ret_bl q⟩
    · cases e
  · exact .inr (h4 Z H x y dx dy d Q z rx ry e q)
theorem od_ltA (hu : X.A.units + 64 < cLine) : OpD X (compareOp .Lt) gLtA := od_row od_lt (op_ltR hu)
theorem od_gtA (hu : X.A.units + 64 < cLine) : OpD X (compareOp .Gt) gGtA := od_row od_gt (op_gtR hu)
theorem od_leA (hu : X.A.units + 64 < cLine) : OpD X (compareOp .LtE) gLeA := od_row od_le (op_leR hu)
end
end Dv
namespace Dv
open PySem PySem.Spec PyProof.Rows L2
variable [Tbl]
theorem ltI_irr (a : List Int) : ltI a a = false := by
  induction a with
  | nil => rfl
  | cons x r ih => simp [ltI, ih]
theorem ltI_trans : ∀ a b c : List Int, ltI a b = true → ltI b c = true → ltI a c = true
  | [], b, c, h1, h2 => by
    cases c with
    | nil => cases b <;> simp [ltI] at h1 h2
    | cons _ _ => rfl
  | x :: r, [], c, h1, h2 => by simp [ltI] at h1
  | x :: r, y :: t, [], h1, h2 => by simp [ltI] at h2
  | x :: r, y :: t, z :: u, h1, h2 => by
    simp only [ltI, Bool.or_eq_true, Bool.and_eq_true, decide_eq_true_eq] at h1 h2 ⊢
    rcases h1 with h1 | ⟨rfl, h1⟩
    · rcases h2 with h2 | ⟨rfl, h2⟩
      · exact .inl (by omega)
      · exact .inl h1
    · rcases h2 with h2 | ⟨rfl, h2⟩
      · exact .inl h2
      · exact .inr ⟨rfl, ltI_trans r t u h1 h2⟩
theorem ltI_tri : ∀ a b : List Int, ltI a b = false → ltI b a = false → a = b
  | [], [], _, _ => rfl
  | [], _ :: _, h, _ => by simp [ltI] at h
  | _ :: _, [], _, h => by simp [ltI] at h
  | x :: r, y :: t, h1, h2 => by
    simp only [ltI, Bool.or_eq_false_iff, decide_eq_false_iff_not, Bool.and_eq_false_iff] at h1 h2
    have e : x = y := by omega
    subst e
    have h3 : ltI r t = false := by rcases h1.2 with h | h; exact absurd rfl h; exact h
    have h4 : ltI t r = false := by rcases h2.2 with h | h; exact absurd rfl h; exact h
    rw [ltI_tri r t h3 h4]
theorem ltI_asym {a b : List Int} (h : ltI a b = true) : ltI b a = false := by
  cases e : ltI b a with
  | false => rfl
  | true => have := ltI_trans a b a h e; rw [ltI_irr] at this; cases this
theorem leI_trans (a b c : List Int) (h1 : (!ltI b a) = true) (h2 : (!ltI c b) = true) : (!ltI c a) = true := by
  simp only [Bool.not_eq_true'] at h1 h2 ⊢
  cases e : ltI c a with
  | false => rfl
  | true =>
    cases e2 : ltI b c with
    | true => have := ltI_trans b c a e2 e; rw [h1] at this; cases this
    | false =>
      obtain rfl := ltI_tri b c e2 h2
      rw [e] at h1; cases h1
def insR (a : List Int) : List (List Int) → List (List Int)
  | [] => [a]
  | b :: t => if ltI b a then b :: insR a t else a :: b :: t
def sortR : List (List Int) → List (List Int)
  | [] => []
  | a :: r => insR a (sortR r)
theorem insR_perm (a : List Int) : ∀ l, (insR a l).Perm (a :: l)
  | [] => .refl _
  | b :: t => by
    unfold insR
    split
    · exact (List.Perm.cons b (insR_perm a t)).trans (.swap a b t)
    · exact .refl _
theorem sortR_perm : ∀ l, (sortR l).Perm l
  | [] => .nil
  | a :: r => (insR_perm a (sortR r)).trans (.cons a (sortR_perm r))
theorem insR_sorted {a : List Int} : ∀ {l}, l.Pairwise (fun x y => (!ltI y x) = true) → (insR a l).Pairwise (fun x y => (!ltI y x) = true)
  | [], _ => by simp [insR]
  | b :: t, h => by
    obtain ⟨h1, h2⟩ := List.pairwise_cons.mp h
    unfold insR
    split
    · rename_i z
      refine List.pairwise_cons.mpr ⟨fun c hc => ?_, insR_sorted h2⟩
      rcases List.mem_cons.mp ((insR_perm a t).mem_iff.mp hc) with rfl | hc
      · rw [ltI_asym z]; rfl
      · exact h1 c hc
    · rename_i z
      have z' : (!ltI b a) = true := by simpa using z
      refine List.pairwise_cons.mpr ⟨fun c hc => ?_, h⟩
      rcases List.mem_cons.mp hc with rfl | hc
      · exact z'
      · exact leI_trans a b c z' (h1 c hc)
theorem sortR_sorted : ∀ l, (sortR l).Pairwise (fun x y => (!ltI y x) = true)
  | [] => .nil
  | a :: r => insR_sorted (sortR_sorted r)
abbrev rowP (b : List Int) : PyData := .tuple (b.map .int)
theorem mergeR (l : List (List Int)) : l.mergeSort (PySem.W.dataLe false rowP) = sortR l := by
  have e : PySem.W.dataLe false rowP = fun a b => !ltI b a := by
    rw [PySem.W.dataLe_eq]
    funext a b
    show (!PySem.W.dataLt (rowP b) (rowP a)) = _
    rw [lt_row]
  rw [e]
  refine List.Perm.eq_of_pairwise (le := fun x y => (!ltI y x) = true) (fun a b _ _ h1 h2 => ?_) (List.pairwise_mergeSort (fun a b c h1 h2 => leI_trans a b c h1 h2) (fun a b => ?_) l) (sortR_sorted l) ((List.mergeSort_perm l _).trans (sortR_perm l).symm)
  · simp only [Bool.not_eq_true'] at h1 h2
    exact ltI_tri a b h2 h1
  · cases e : ltI a b with
    | true => rw [ltI_asym e]; rfl
    | false => simp
section
variable {X : Cx}
theorem each_of {Rl : V → List Int → Prop} : ∀ {vs : List V} {its : List Value} {rows : List (List Int)}, Vals vs its → F2 Rl vs rows → PySem.W.EachIs (fun v b => ∃ u, RelV u v ∧ Rl u b) its rows
  | _, _, _, .nil, .nil => .nil
  | _, _, _, .cons a r, .cons b t => .cons ⟨_, a, b⟩ (each_of r t)
theorem of_each {Rl : V → List Int → Prop} : ∀ {its : List Value} {rows : List (List Int)}, PySem.W.EachIs (fun v b => ∃ u, RelV u v ∧ Rl u b) its rows → ∃ vs, Vals vs its ∧ F2 Rl vs rows
  | _, _, .nil => ⟨[], .nil, .nil⟩
  | _, _, .cons ⟨u, h1, h2⟩ r => by
    obtain ⟨vs, h3, h4⟩ := of_each r
    exact ⟨u :: vs, .cons h1 h3, .cons h2 h4⟩
def rSortedR (K : PySem.W.Frag) : List V → Hp → VK → Prop := fun xs H Q => ∃ (a : Addr) (vs : List V) (rows : List (List Int)) (Rl : V → List Int → Prop), xs = [V.ref a] ∧ SqL K H a vs ∧ F2 Rl vs rows ∧ (∀ v b, Rl v b → Dp K H v (rowP b)) ∧ (∀ b ∈ rows, b ≠ []) ∧
  ∀ (ws : List V) (q : Addr), F2 Rl ws (sortR rows) → H q = none → Q (.ref q) (upd H q (.lst ws))
theorem F2.len {α β : Type} {R : α → β → Prop} : ∀ {l : List α} {m : List β}, F2 R l m → l.length = m.length
  | _, _, .nil => rfl
  | _, _, .cons _ r => by rw [List.length_cons, List.length_cons, F2.len r]
theorem cr_sortedR (hu : X.A.units + 64 < cLine) : CallR X (.builtin "sorted") (rSortedR X.K) := by
  intro pins s σ H xs us Q I r h
  obtain ⟨a, vs, rows, Rl, rfl, hs, hf, hd, hne, q⟩ := h
  obtain ⟨its, rv, hl, hz⟩ := I.list hs
  rw [Vals.ref1 r]
  have e1 := each_of rv hf
  have lv := rv.length
  have lf := hf.len
  have e2 : PySem.W.EachIs (fun v b => ∃ as, Reads s.heap v (rowP b) as) its rows := e1.mono fun v b ⟨u, h1, h2⟩ => Dp.reads I _ u v (hd u b h2) h1
  have hal : PySem.W.AllAlike (rows.map rowP) := PySem.W.AllAlike.of fun a b => al_row a b
  have hk : PySem.W.Sortable (rows.map rowP) := .inl fun d hd => by
    obtain ⟨b, hb, rfl⟩ := List.mem_map.mp hd
    cases b with
    | nil => exact absurd rfl (hne _ hb)
    | cons x t => exact ⟨_, _, rfl⟩
  refine PySem.W.sorted_data hl.isList e1 e2 hal hk (by rw [← lf]; exact hz) (fun b _ => by have := dep_row b; show X.A.units + 2 + (rowP b).depth < cLine; unfold rowP; omega) fun out hlen eo => ?_
  rw [mergeR] at eo
  obtain ⟨ws, hv, hw⟩ := of_each eo
  obtain ⟨ep, he'⟩ := PyProof.Rows.sortedAll_at s.heap its out.toArray
  have hlen : ws.length ≤ sizeLine := by rw [hw.len, (sortR_perm rows).length_eq, ← lf]; exact hz
  exact ⟨.ref _, upd H (s.heap.objs.size + 1) (.lst ws), I.laid (t' := s.toks) (fun _ _ => PyProof.Rows.sortedAll_old) (Nat.le_succ _) ⟨hlen, out, ep, hv, he'⟩, rfl, q ws _ hw (I.hok.fresh (Nat.le_succ _))⟩
def asRow : D → Option (List Int)
  | .tup xs => match asInts xs with
    | some (a :: r) => some (a :: r)
    | _ => none
  | _ => none
def asRows : List D → Option (List (List Int))
  | [] => some []
  | x :: xs => match asRow x, asRows xs with
    | some r, some rs => some (r :: rs)
    | _, _ => none
def rowD (b : List Int) : D := .tup (b.map .int)
theorem asRow_ok {x : D} {b : List Int} (h : asRow x = some b) : x = rowD b ∧ b ≠ [] := by
  unfold asRow at h
  split at h
  · split at h
    · rename_i e
      cases h
      rw [asInts_eq e]
      exact ⟨rfl, fun z => nomatch z⟩
    · cases h
  · cases h
theorem asRows_ok : ∀ {xs : List D} {rows : List (List Int)}, asRows xs = some rows → xs = rows.map rowD ∧ ∀ b ∈ rows, b ≠ []
  | [], rows, h => by cases h; exact ⟨rfl, fun _ z => nomatch z⟩
  | x :: xs, rows, h => by
    unfold asRows at h
    split at h
    · rename_i e1 e2
      cases h
      obtain ⟨h1, h2⟩ := asRow_ok e1
      obtain ⟨h3, h4⟩ := asRows_ok e2
      refine ⟨by rw [h1, h3, List.map_cons], fun b hb => ?_⟩
      rcases List.mem_cons.mp hb with rfl | hb
      · exact h2
      · exact h4 b hb
    · cases h
def gSortedA : List D → Option (List D)
  | [.lst xs] => match asInts xs with
    | some ns => some (iD (sortI ns))
    | none => match asRows xs with
      | some rows => some ((sortR rows).map rowD)
      | none => none
  | ds => gSortedTI ds
theorem f2_rows {G : Gp} {H : Hp} : ∀ {vs : List V} {rows : List (List Int)}, RDs G H vs (rows.map rowD) → F2 (fun v b => RD G H v (rowD b)) vs rows
  | _, [], h => by cases h; exact .nil
  | _, b :: rows, h => by
    cases h with
    | cons a r => exact .cons a (f2_rows r)
theorem rows_f2 {G : Gp} {H : Hp} : ∀ {vs : List V} {rows : List (List Int)}, F2 (fun v b => RD G H v (rowD b)) vs rows → RDs G H vs (rows.map rowD)
  | _, _, .nil => .nil
  | _, _, .cons a r => .cons a (rows_f2 r)
theorem cn_sortedA (hu : X.A.units + 64 < cLine) : CallN X (.builtin "sorted") gSortedA := by
  obtain ⟨r0, h1, h2⟩ := cn_sortedTI (X := X)
  refine ⟨fun vs H Q => rSortedR X.K vs H Q ∨ r0 vs H Q, fun pins s σ H vs us Q I r h => by
    rcases h with h | h
    · exact cr_sortedR hu pins s σ H vs us Q I r h
    · exact h1 pins s σ H vs us Q I r h, fun Z H xs ds es Q z r e q => ?_⟩
  unfold gSortedA at e
  split at e
  · rename_i ys
    split at e
    · rename_i ns e1
      refine .inr (h2 Z H xs _ es Q z r ?_ q)
      unfold gSortedTI
      simp only [e1]
      exact e
    · split at e
      · rename_i rows e1
        cases e
        obtain ⟨h3, h4⟩ := asRows_ok e1
        subst h3
        obtain ⟨v, rfl, r1⟩ := r.one
        obtain ⟨a, vs, rfl, h5, h6⟩ := r1.lst
        refine .inl ⟨a, vs, rows, fun v b => RD (Gx X) (hid Z H) v (rowD b), rfl, h5, f2_rows h6, fun v b h => ?_, h4, fun ws p hf hp => q p ws hp (rows_f2 hf)⟩
        have := pl_dp (G := Gx X) 50 (rowD b) v (pl_tupI 49 b) (h.mono hid_full)
        rw [rowD, pd, pds_ints] at this
        exact this
      · cases e
  · exact .inr (h2 Z H xs _ es Q z r e q)
end
end Dv
namespace Dv
open PySem PySem.Spec PyProof.Rows L2
variable [Tbl]
section
variable {X : Cx} {i j l : Nat} {x y z : Str} {a b c : Expr} {fa fb fc : ES} {px py pz pt pos : Pos} {kt k2 pt2}
end
end Dv
namespace Dv
open PySem PySem.Spec PyProof.Rows L2
variable [Tbl]
theorem meets_enumT (l : Addr) (items : Array Value) :
    Meets (Builtin.«enumerate.__new__» ⟨[.type "enumerate", .ref l], []⟩) (fun _ R s => s.heap.IsTuple l items ∧
      R (.ok (.ret (.ref (s.heap.push { cls := .type "tuple_iterator", data := .fields #[.ref l, .int 0 0] }).objs.size)))
        { s with heap := (s.heap.push { cls := .type "tuple_iterator", data := .fields #[.ref l, .int 0 0] }).push { cls := .type "enumerate", data := .fields #[.none, .bool false, .ref s.heap.objs.size, rawInt 0, .none, .none] } }) :=
  .of_wp fun prog w A R s h => by
    obtain ⟨hp, g, d, tk, os⟩ := s; obtain ⟨hL, h⟩ := h
    have hsub := sub_enumerate
    have q1 : ∀ {A' : Around} {E : Value → Shared → Prop} {Q : Value → Shared → Prop}, Q (.ref hp.objs.size) ⟨hp.push { cls := .type "tuple_iterator", data := .fields #[.ref l, .int 0 0] }, g, d, tk, os⟩ → wpAny (model prog w) A' (pyIter (.ref l)) Q E ⟨hp, g, d, tk, os⟩ :=
      fun q => wpAny_pyIter_tuple (s := ⟨hp, g, d, tk, os⟩) hL q
    wp_walk using q1
    refine wpAny_stack_any fun st => wpAny_pure ?_
    split
    · rename_i c _ _ _ _ _
      cases (c == Value.type "enumerate")
      · wp_walk using q1
        exact ⟨_, rfl, h⟩
      · wp_walk using q1
        exact ⟨_, rfl, h⟩
    · wp_walk using q1
      exact ⟨_, rfl, h⟩
section
variable {prog : Program} {w : World} {A : Around} {E : Value → Shared → Prop} {s : Shared}
theorem call_enumT {l : Addr} {items : Array Value} {Q : Value → Shared → Prop} (hL : s.heap.IsTuple l items)
    (h : ∀ h', IsEnum h' (s.heap.objs.size + 1) s.heap.objs.size 0 .none → h'.IsTupleIter s.heap.objs.size l 0 → h'.objs.size = s.heap.objs.size + 2 →
      (∀ b o, s.heap.get? b = some o → h'.get? b = some o) → Q (.ref (s.heap.objs.size + 1)) { s with heap := h' }) :
    wpAny (model prog w) A (call (.type "enumerate") [.ref l]) Q E s := by
  refine callType_new F.called_enumerate (by decide) (F.typeCall_enumerate_1 _) (F.newCall_enumerate_1 _) (fun obj => F.args_object_init_2 obj _) F.entry_enumerate_new
    (meets_enumT l items) ⟨hL, ?_⟩
  have hz : (s.heap.push { cls := .type "tuple_iterator", data := .fields #[.ref l, .int 0 0] }).objs.size = s.heap.objs.size + 1 := Heap.size_push ..
  show _ ∧ _
  rw [hz]
  have he : IsEnum ((s.heap.push { cls := .type "tuple_iterator", data := .fields #[.ref l, .int 0 0] }).push
      { cls := .type "enumerate", data := .fields #[.none, .bool false, .ref s.heap.objs.size, rawInt 0, .none, .none] }) (s.heap.objs.size + 1) s.heap.objs.size 0 .none := by
    have := Heap.get?_push_size (s.heap.push { cls := .type "tuple_iterator", data := .fields #[.ref l, .int 0 0] })
      (o := { cls := .type "enumerate", data := .fields #[.none, .bool false, .ref s.heap.objs.size, rawInt 0, .none, .none] }) rfl
    rw [hz] at this; exact this
  refine ⟨⟨_, he, rfl⟩, h _ he ⟨_, Heap.get?_push_of_some _ (Heap.get?_push_size _ rfl), rfl, rfl⟩ (by rw [Heap.size_push, hz]) fun b o x => Heap.get?_push_of_some _ (Heap.get?_push_of_some _ x)⟩
end
def IteT (K : PySem.W.Frag) (a : Addr) : It :=
  ⟨fun i H => ∃ (xs : List V) (x : V), SqT K H a xs ∧ xs[i]? = some x, fun i H v H' => ∃ T x, v = .ref T ∧ H T = none ∧ H' = upd H T (.tup [.int (i : Nat), x]) ∧ ∀ xs, SqT K H a xs → xs[i]? = some x, fun i H => ∃ xs : List V, SqT K H a xs ∧ xs.length ≤ i⟩
theorem turn_enumT {P : Program} {w : World} {K : PySem.W.Frag} {elts : List Expr} {kk : Nat} {tpos : Pos} (a e it : Addr) :
    Turn P w K (.Tuple elts kk tpos) (IteT K a) [e, it] e (fun i h => (∃ old, IsEnum h e it ((i : Nat) : Int) old) ∧ h.IsTupleIter it a i ∧ e ≠ it) where
  mem := by simp
  obj := fun i h st b hb => by
    obtain ⟨⟨old, he⟩, ⟨o, ho, hc, hd⟩, _⟩ := st
    have e' : b = e ∨ b = it := by simpa using hb
    rcases e' with z | z
    · rw [z]; exact ⟨_, he, fun v q => nomatch q⟩
    · rw [z]; exact ⟨o, ho, fun v q => by rw [hd] at q; cases q⟩
  keep := fun i h h' st k => let ⟨⟨old, he⟩, hi, hne⟩ := st; ⟨⟨old, k e (by simp) _ he⟩, hi.at fun o q => k it (by simp) o q, hne⟩
  item := by
    intro X hP hw hK hc i pins s σ H E I hf st hg
    subst hP hw hK
    obtain ⟨⟨old, he⟩, hit, hne⟩ := st
    obtain ⟨xs, x, hq, hx⟩ := hg
    obtain ⟨its, rv, p, hz⟩ := I.tuple hq
    have p' : s.heap.IsTuple a its.toArray := p
    obtain ⟨u, hu, ru⟩ := rv.get hx
    have hel : e < s.heap.objs.size := Heap.lt_size he
    have hil : it < s.heap.objs.size := by obtain ⟨_, q, _⟩ := hit; exact Heap.lt_size q
    have nae : a ≠ e := fun z => by
      subst z; obtain ⟨o, ho, hc1, _⟩ := p'; have he' := he
      unfold IsEnum at he'; rw [ho] at he'; cases he'; exact absurd hc1 (by intro q; injection q with q; exact absurd q (by decide))
    have nai : a ≠ it := fun z => by
      subst z; obtain ⟨o, ho, hc1, _⟩ := p'; obtain ⟨o2, ho2, hc2, _⟩ := hit
      rw [ho] at ho2; cases ho2; rw [hc1] at hc2; exact absurd hc2 (by intro q; injection q with q; exact absurd q (by decide))
    have D := Draws.tuple (prog := X.prog) (w := X.w) (A := X.A.in1) (I.ok.hd hc) it a nai its.toArray
    have hlt : i < its.toArray.size := by
      obtain ⟨h1, _⟩ := List.getElem?_eq_some_iff.mp hu
      simpa using h1
    refine wpAny_pyNext_enum_itemD D he ⟨hit, p'⟩ hlt hne (by simp [hne, Ne.symm nae]) fun x' h' tk hx' ho hit' hT hsz hk => ?_
    have ex : x' = u := by
      have : its.toArray[i]? = some u := by simpa using hu
      exact Option.some.inj (hx'.symm.trans this)
    subst ex
    refine ⟨_, rfl, wpAny_letOwnedTupleGo_enum (s := { s with heap := h', toks := tk + 1 }) ho fun h'' he' sb => ?_⟩
    have hT2 : h''.get? s.heap.objs.size = some { cls := .type "tuple", data := .seq #[.int i tk, x'] } := (sb.2 _ (Nat.ne_of_gt hel)).trans hT
    have new : ObjOk X.prog X.w (upd H s.heap.objs.size (.tup [.int (i : Nat), x])) h'' s.heap.objs.size (.tup [.int (i : Nat), x]) :=
      ⟨by show 2 ≤ sizeLine; decide, [.int i tk, x'], .cons ⟨_, rfl⟩ (.cons ru .nil), ⟨_, hT2, rfl, _, rfl⟩⟩
    have I1 : Inv X pins σ (upd H s.heap.objs.size (.tup [.int (i : Nat), x])) { s with heap := h'', toks := tk + 1 } :=
      I.turnedNew (ch := [e, it]) (fun b ob hb q => (sb.2 b (fun z => hb (by simp [z]))).trans (hk b ob (fun z => hb (by simp [z])) (fun z => hb (by simp [z])) q)) hf (Nat.le_refl _) new
    refine ⟨.ref s.heap.objs.size, _, I1, rfl, ⟨_, x, rfl, I.hok.fresh (Nat.le_refl _), rfl, fun ys hy => by rw [I.tuple_inj hy hq]; exact hx⟩, ⟨⟨x', ?_⟩, hit'.1.at fun o q => (sb.2 it (Ne.symm hne)).trans q, hne⟩, fun b hb => ?_⟩
    · have e1 : ((i + 1 : Nat) : Int) = (i : Int) + 1 := by omega
      rw [e1]; exact he'
    · have hb' : b < s.heap.objs.size := by
        have e' : b = e ∨ b = it := by simpa using hb
        rcases e' with z | z
        · rw [z]; exact hel
        · rw [z]; exact hil
      rw [upd_ne (Nat.ne_of_lt hb')]
      exact (hf b hb).1
  done := by
    intro X hP hw hK hc i pins s σ H E I hf st hg
    subst hP hw hK
    obtain ⟨⟨old, he⟩, hit, hne⟩ := st
    obtain ⟨xs, hq, hx⟩ := hg
    obtain ⟨its, rv, p, hz⟩ := I.tuple hq
    have p' : s.heap.IsTuple a its.toArray := p
    obtain ⟨f0, f1, f2, f3, f4, f5⟩ := hf it (by simp)
    have hl := rv.length
    have hT : s.TypeIs (.ref e) "enumerate" := ⟨_, he, rfl⟩
    unfold pyNext
    refine wpAny_bind (wpAny_attempt (wpAny_callSpecial?_slot (name := Str.ofString "__next__") hT F.slot_enumerate_next
      (wpAny_call_entry F.slot_enumerate_next hT F.entry_enumerate_next ?_ (F.args_enumerate_next_1 _))))
    show wpAny _ _ (field (.ref e) 2 >>= _) _ _ _
    refine wpAny_bind (wpAny_field he rfl (x := .ref it) rfl ?_)
    refine wpAny_bind (PySem.wpAny_nextOf_tuple_end (I.ok.hd hc) hit p' (by simp; omega) fun h' x he' hx' => ?_)
    obtain ⟨o, ho, hc'⟩ := hx'
    refine wpAny_bind (wpAny_isInstance (T := "StopIteration") (b := true) ⟨o, ho, hc'⟩ isSubtype_stop ?_)
    exact wpAny_pure ⟨rfl, I.turned (t' := s.toks) (fun b o hb q => he' b o hb q) f0 f1 f3 f4 f5⟩
  self := fun A i s Q E st h => let ⟨⟨_, he⟩, _⟩ := st; wpAny_pyIter_enum he h
def iEnumA (K : PySem.W.Frag) (ta : TA) : TI := fun σ H R => ta σ H fun vs H1 => ∃ a xs, vs = [.ref a] ∧ ((SqL K H1 a xs ∧ R (Ite K a) H1) ∨ (SqT K H1 a xs ∧ R (IteT K a) H1))
theorem pi_enumA {X : Cx} {e : Expr} {ta : TA} {p pos tpos : Pos} {elts : List Expr} {kk : Nat} (hg : Gl X "enumerate") (hm : X.mg "enumerate" = none) (ha : PA X [e] ta) (hs : starEach [e] X.env = [(false, eval e X.env)] := by rfl) :
    PI X (.Tuple elts kk tpos) (.Call (.Name "enumerate" p) [e] [] pos) (iEnumA X.K ta) := by
  refine ⟨fun pins s σ H R I h => ?_⟩
  refine Call_ (ld_blt I hg hm boot_enumerate (PyProof.Rows.callWith_type1 (thn (ha.run pos pins s σ H _ I h) fun us s1 ⟨vs, H1, I1, r1, q1⟩ => ?_) hs rfl))
  obtain ⟨a, xs, ex, hqq⟩ := q1
  subst ex
  cases r1 with
  | cons r rr =>
    cases rr
    cases r
    have fin : ∀ {Z : It} {St : Nat → Heap → Prop} {h' : Heap} , IsEnum h' (s1.heap.objs.size + 1) s1.heap.objs.size 0 .none → (∀ b o, s1.heap.get? b = some o → h'.get? b = some o) →
        Turn X.prog X.w X.K (.Tuple elts kk tpos) Z [s1.heap.objs.size + 1, s1.heap.objs.size] (s1.heap.objs.size + 1) St → St 0 h' → R Z H1 →
        wpAny (model X.prog X.w) X.A (pyIter (.ref (s1.heap.objs.size + 1))) (PIE X pins σ (.Tuple elts kk tpos) R) X.xe { s1 with heap := h' } := fun {Z St h'} he hk tu st q => by
      refine wpAny_pyIter_enum he ?_
      have I2 : Inv X pins σ H1 { s1 with heap := h' } := I1.kept (t' := s1.toks) hk
      refine ⟨s1.heap.objs.size + 1, [s1.heap.objs.size + 1, s1.heap.objs.size], _, _, H1, rfl, I2, tu, st, fun b hb => ?_, q⟩
      have e' : b = s1.heap.objs.size + 1 ∨ b = s1.heap.objs.size := by simpa using hb
      have hle : s1.heap.objs.size ≤ b := by
        rcases e' with z | z
        · rw [z]; exact Nat.le_add_right _ _
        · rw [z]; exact Nat.le_refl _
      exact I1.fpOk hle (I1.hok.fresh hle)
    rcases hqq with ⟨hq, q⟩ | ⟨hq, q⟩
    · obtain ⟨its, rv, p', hz⟩ := I1.list hq
      exact call_enumerate_list p'.isList fun h' he hit hsz hk => fin he hk (turn_enum a (s1.heap.objs.size + 1) s1.heap.objs.size) ⟨⟨.none, he⟩, hit, Nat.succ_ne_self _⟩ q
    · obtain ⟨its, rv, p', hz⟩ := I1.tuple hq
      exact call_enumT (show s1.heap.IsTuple a its.toArray from p') fun h' he hit hsz hk => fin he hk (turn_enumT a (s1.heap.objs.size + 1) s1.heap.objs.size) ⟨⟨.none, he⟩, hit, Nat.succ_ne_self _⟩ q
theorem walk_enumT {G : Gp} {Hv : Hp} {a : Addr} {vs : List V} {ds : List D} (h : SqT G.K Hv a vs) (r : RDs G Hv vs ds) : Walk G Hv (IteT G.K a) (ds.zipIdx.map fun p => .tw [.int (p.2 : Nat), p.1]) := fun i H Z z sm => by
  have hs : SqT G.K H a vs := Same.tupq hid_full (Same.tupq sm h)
  refine ⟨fun d hd => ?_, fun hl => ⟨vs, hs, by rw [List.length_map, List.length_zipIdx] at hl; rw [r.len]; exact hl⟩⟩
  rw [List.getElem?_map] at hd
  obtain ⟨⟨x, y⟩, e1, e2⟩ := Option.map_eq_some_iff.mp hd
  subst e2
  rw [List.getElem?_zipIdx] at e1
  obtain ⟨x', e3, e4⟩ := Option.map_eq_some_iff.mp e1
  rw [Nat.zero_add] at e4
  cases e4
  obtain ⟨v, h1, h2⟩ := r.get e3
  refine ⟨⟨vs, v, hs, h1⟩, fun x' H' ⟨T, v', e5, e6, e7, y1⟩ => ?_⟩
  subst e5 e7
  obtain rfl : v' = v := Option.some.inj ((y1 vs hs).symm.trans h1)
  have sm2 := Same.of_new (o := .tup [.int (i : Nat), v']) e6
  exact ⟨sm2, T, _, rfl, .inl (.inl upd_same), .cons (.int _) (.cons ((h2.mono sm).mono (Same.hid sm2)) .nil)⟩
def gEnumA : List D → Option (List IV)
  | [.lst xs] => some (xs.zipIdx.map fun p => .tw [.int (p.2 : Nat), p.1])
  | [.tup xs] => some (xs.zipIdx.map fun p => .tw [.int (p.2 : Nat), p.1])
  | _ => none
section
variable {X : Cx} {a : Expr} {fs : M (List RV)} {pos : Pos}
theorem di_enumA {elts : List Expr} {kk : Nat} {tpos p : Pos} (hg : Gl X "enumerate") (hm : X.mg "enumerate" = none) (ha : DA X [a] fs) (hs : starEach [a] X.env = [(false, eval a X.env)] := by rfl) :
    DI X (.Tuple elts kk tpos) (.Call (.Name "enumerate" p) [a] [] pos) (iCallI gEnumA fs) := ⟨fun F => pi_imp (pi_enumA hg hm (ha.run F) hs) fun σ H R ⟨A, ρ, ds, ρ', S, e, q⟩ => by
  obtain ⟨rs, ρ1, e1, e⟩ := bind_ok e
  obtain ⟨xs, ρ2, e2, e⟩ := bind_ok e
  obtain ⟨l2, rfl⟩ := opt_ok e2
  obtain ⟨l3, rfl⟩ := opt_ok e
  refine ⟨A, ρ, rs, _, S, e1, fun vs H1 S1 m1 r1 => ?_⟩
  have rd := imms_rd r1 l2
  unfold gEnumA at l3
  split at l3
  · cases l3
    obtain ⟨v, rfl, c1⟩ := rd.one
    cases c1 with
    | lst g1 g2 => exact ⟨_, _, rfl, .inl ⟨hid_full.seq g1, q _ _ S1 m1 (walk_enum g1 g2)⟩⟩
  · cases l3
    obtain ⟨v, rfl, c1⟩ := rd.one
    cases c1 with
    | tup g1 g2 => exact ⟨_, _, rfl, .inr ⟨Same.tupq hid_full g1.sq, q _ _ S1 m1 (walk_enumT g1.sq g2)⟩⟩
  · cases l3⟩
end
end Dv
namespace Dv
open PySem PySem.Spec PyProof.Rows L2
variable [Tbl]
section
variable {X : Cx}
end
theorem de_gstr {X : Cx} {x z : Str} {pos : Pos} (hg : Gl X x) (hm : ∃ t, X.mg x = some (.str z t)) (hd : (x == ("__debug__" : Str)) = false := by decide) : DE X (.Name x pos) (eC (.str z)) := by
  obtain ⟨t, h⟩ := hm
  exact de_c (v := .str z) (pe_glob hg h ⟨t, rfl⟩ hd) fun _ => .str z
end Dv
namespace Dv
open PySem PySem.Spec PyProof.Rows L2
variable [Tbl]
def evP : List (M PV) → M (List PV)
  | [] => M.ret []
  | f :: fs => M.bind f fun p => M.bind (evP fs) fun ps => M.ret (p :: ps)
def putPC (i : Nat) : PV → M Unit
  | .c d => setOwD i d
  | .v r => putP i (.v r)
  | .f xs => putP i (.f xs)
def putPs : List Nat → List PV → M Unit
  | i :: is, p :: ps => M.bind (putPC i p) fun _ => putPs is ps
  | [], [] => M.ret ()
  | _, _ => fun _ => .no
def sParN (is : List Nat) (fs : List (M PV)) : SS := M.bind (evP fs) fun ps => M.bind (putPs is ps) fun _ => M.ret .nx
def Fm.hides (F : Fm) : List Addr → Fm
  | [] => F
  | p :: ps => (F.hide p).hides ps
theorem hides_H0 : ∀ (ps : List Addr) (F : Fm), (F.hides ps).H0 = F.H0
  | [], F => rfl
  | p :: ps, F => hides_H0 ps (F.hide p)
theorem hides_B : ∀ (ps : List Addr) (F : Fm), (F.hides ps).B = F.B
  | [], F => rfl
  | p :: ps, F => hides_B ps (F.hide p)
theorem mem_hides : ∀ {ps : List Addr} {F : Fm} {a : Addr}, a ∈ (F.hides ps).Z ↔ a ∈ ps ∨ a ∈ F.Z
  | [], F, a => by simp [Fm.hides]
  | p :: ps, F, a => by
    rw [Fm.hides, mem_hides]
    show a ∈ ps ∨ a ∈ p :: F.Z ↔ _
    simp only [List.mem_cons]
    constructor
    · rintro (h | h | h)
      · exact .inl (.inr h)
      · exact .inl (.inl h)
      · exact .inr h
    · rintro ((h | h) | h)
      · exact .inr (.inl h)
      · exact .inl h
      · exact .inr (.inr h)
theorem mem_zs_hides {ps : List Addr} {F : Fm} {A : Own} {a : Addr} : a ∈ zs (F.hides ps) A ↔ a ∈ ps ∨ a ∈ zs F A := by
  rw [mem_zs, mem_zs, mem_hides]
  constructor
  · rintro ((h | h) | h)
    · exact .inl h
    · exact .inr (.inl h)
    · exact .inr (.inr h)
  · rintro (h | h | h)
    · exact .inl (.inl h)
    · exact .inl (.inr h)
    · exact .inr h
theorem Sts.perm {G : Gp} {F F' : Fm} {A : Own} {σ : St} {ρ : Rho} {H : Hp} (S : Sts G F A σ ρ H) (h0 : F.H0 = F'.H0) (hb : F.B = F'.B) (hz : ∀ a, a ∈ F.Z ↔ a ∈ F'.Z) : Sts G F' A σ ρ H := by
  have hzs : ∀ a, a ∈ zs F A ↔ a ∈ zs F' A := fun a => by rw [mem_zs, mem_zs, hz a]
  have e := hid_eq (H := H) hzs
  have ow : ∀ {j a ys}, OwAt G F A σ H j a ys → OwAt G F' A σ H j a ys := fun {j a ys} h => ⟨h.1, h.2.move (fun _ z _ => z) (by rw [e]; exact Same.refl _)⟩
  refine ⟨S.len, fun j d h => ?_, fun j ys h => ?_, fun j ys h => ?_, S.own, S.uni, fun j a h => ?_, fun a o h n => ?_, fun a ha => S.zok a ((hz a).mpr ha), S.tabs⟩
  · obtain ⟨v, h1, h2⟩ := S.im j d h
    exact ⟨v, h1, by rw [← e]; exact h2⟩
  · obtain ⟨a, h1, h2, h3, h4⟩ := S.ow j ys h
    exact ⟨a, h1, fun z => h2 ((hz a).mpr z), by rw [← h0]; exact h3, ow h4⟩
  · obtain ⟨a, h1, h2, h3⟩ := S.bo j ys h
    exact ⟨a, h1, by rw [← hb]; exact h2, ow h3⟩
  · rw [← hb] at h; exact S.bor j a h
  · rw [← h0] at h; rw [← hb] at n; exact S.keep a o h n
theorem stp_hides {F : Fm} {A : Own} {H H' : Hp} {ps : List Addr} (hp : ∀ p ∈ ps, H p = none) (m : Stp A H H') : Same (hid (zs F A) H) (hid (zs (F.hides ps) A) H') := fun a o e => by
  obtain ⟨e1, e2, e3⟩ := hid_all e
  refine hid_of (fun z => ?_) (m.at e2 (fun i z => e1 (mem_zs.mpr (.inr ⟨i, z⟩))) e3) e3
  rcases mem_zs_hides.mp z with z | z
  · rw [hp a z] at e2; cases e2
  · exact e1 z
inductive RPs (G : Gp) (Z : List Addr) (H : Hp) : List Addr → List V → List PV → Prop
  | nil : RPs G Z H [] [] []
  | v {ps : List Addr} {v : V} {vs : List V} {r : RV} {pv : List PV} : (∀ d, r = .im d → RD G (hid Z H) v d) → RPs G Z H ps vs pv → RPs G Z H ps (v :: vs) (.v r :: pv)
  | f {p : Addr} {ps : List Addr} {vs : List V} {ws : List V} {xs : List D} {pv : List PV} : H p = some (.lst ws) → RDs G (hid Z H) ws xs → RPs G Z H ps vs pv → RPs G Z H (p :: ps) (.ref p :: vs) (.f xs :: pv)
  | c {p : Addr} {ps : List Addr} {vs : List V} {ks ds : List D} {pv : List PV} : DcC G H (hid Z H) p ks ds → RPs G Z H ps vs pv → RPs G Z H (p :: ps) (.ref p :: vs) (.c (.dct ks ds) :: pv)
theorem RPs.mono {G : Gp} {Z Z' : List Addr} {H H' : Hp} (e : Same (hid Z H) (hid Z' H')) : ∀ {ps : List Addr} {vs : List V} {pv : List PV}, (∀ p ∈ ps, ∀ o, H p = some o → isTb o = false → H' p = some o) → RPs G Z H ps vs pv → RPs G Z' H' ps vs pv
  | _, _, _, _, .nil => .nil
  | _, _, _, k, .v a b => .v (fun d h => RD.mono e (a d h)) (RPs.mono e k b)
  | _, _, _, k, .f a b r => .f (k _ List.mem_cons_self _ a rfl) (RDs.mono e b) (RPs.mono e (fun p hp => k p (List.mem_cons_of_mem _ hp)) r)
  | _, _, _, k, .c a r => .c (OwC.move (d := .dct _ _) a (fun o z t => k _ List.mem_cons_self o z t) e) (RPs.mono e (fun p hp => k p (List.mem_cons_of_mem _ hp)) r)
def tPs (G : Gp) (f : M (List PV)) : TA := fun σ H Q => ∃ F A ρ pv ρ', Sts G F A σ ρ H ∧ f ρ = .ok pv ρ' ∧
  ∀ ps vs H', Sts G (F.hides ps) A σ ρ' H' → (∀ p ∈ ps, F.H0 p = none ∧ p ∉ zs F A ∧ H p = none) → ps.Nodup → Stp A H H' → RPs G (zs (F.hides ps) A) H' ps vs pv → Q vs H'
structure DPs (X : Cx) (es : List Expr) (fs : List (M PV)) : Prop where
  run : PA X es (tPs (Gx X) (evP fs))
theorem dps_nil {X : Cx} : DPs X [] [] := ⟨pa_imp pa_nil fun σ H Q ⟨F, A, ρ, pv, ρ', S, e, q⟩ => by
  obtain ⟨rfl, rfl⟩ := ret_ok e
  exact q [] [] H S (fun p h => nomatch h) .nil (Stp.refl _ _) .nil⟩
theorem dps_v {X : Cx} {a : Expr} {es : List Expr} {fa : ES} {fs : List (M PV)} (ha : DE X a fa) (hr : DPs X es fs) (hs : starEach (a :: es) X.env = (false, eval a X.env) :: starEach es X.env := by rfl) : DPs X (a :: es) (pV fa :: fs) := ⟨pa_imp (pa_cons (pe_any ha.run) hr.run hs) fun σ H Q ⟨F, A, ρ, pv, ρ', S, e, q⟩ => by
  obtain ⟨p1, ρ1, e1, e⟩ := bind_ok e
  obtain ⟨ps1, ρ2, e2, e⟩ := bind_ok e
  obtain ⟨rfl, rfl⟩ := ret_ok e
  obtain ⟨r, ρa, ea, ea'⟩ := bind_ok e1
  obtain ⟨rfl, rfl⟩ := ret_ok ea'
  refine ⟨F, A, ρ, r, _, S, ea, fun v H1 S1 m1 r1 => ?_⟩
  refine ⟨F, A, _, ps1, _, S1, e2, fun ps vs H2 S2 hp nd m2 rp => ?_⟩
  refine q ps (v :: vs) H2 S2 (fun p h => ?_) nd (m1.trans m2) (.v (fun d hd => ?_) rp)
  · obtain ⟨h1, h2, h3⟩ := hp p h
    exact ⟨h1, h2, back_none S m1 S1 h3⟩
  · subst hd
    exact RD.mono (stp_hides (fun p h => (hp p h).2.2) m2) r1⟩
def pC (f : M D) : M PV := M.bind f fun d => M.ret (.c d)
theorem dps_c {X : Cx} {a : Expr} {es : List Expr} {fa : M D} {fs : List (M PV)} (ha : DC X a fa) (hr : DPs X es fs) (hs : starEach (a :: es) X.env = (false, eval a X.env) :: starEach es X.env := by rfl) : DPs X (a :: es) (pC fa :: fs) := ⟨pa_imp (pa_cons (pe_any ha.run) hr.run hs) fun σ H Q ⟨F, A, ρ, pv, ρ', S, e, q⟩ => by
  obtain ⟨p1, ρ1, e1, e⟩ := bind_ok e
  obtain ⟨ps1, ρ2, e2, e⟩ := bind_ok e
  obtain ⟨rfl, rfl⟩ := ret_ok e
  obtain ⟨xs, ρa, ea, ea'⟩ := bind_ok e1
  obtain ⟨rfl, rfl⟩ := ret_ok ea'
  refine ⟨F, A, ρ, xs, _, S, ea, fun p H1 S1 h0 hz m1 hn ⟨ks, ds, ed, c⟩ => ?_⟩
  subst ed
  refine ⟨F.hide p, A, _, ps1, _, S1, e2, fun ps vs H2 S2 hp nd m2 rp => ?_⟩
  have npA : ∀ k, (k, p) ∉ A := fun k z => hz (mem_zs.mpr (.inr ⟨k, z⟩))
  obtain ⟨u1, hu1, _, _⟩ := DcC.old c
  have c2 : DcC (Gx X) H2 (hid (zs (F.hides (p :: ps)) A) H2) p ks ds := OwC.move (d := .dct ks ds) c (fun o z t => m2.at z npA t) (stp_hides (fun p h => (hp p h).2.2) m2)
  refine q (p :: ps) (.ref p :: vs) H2 S2 (fun y hy => ?_) (List.nodup_cons.mpr ⟨fun z => ?_, nd⟩) (m1.trans m2) (.c c2 rp)
  · rcases List.mem_cons.mp hy with rfl | hy
    · exact ⟨h0, hz, hn⟩
    · obtain ⟨h1, h2, h3⟩ := hp y hy
      have h2' : y ∉ zs F A := fun z => h2 (zs_hide.mpr (.inr z))
      refine ⟨h1, h2', ?_⟩
      cases e : H y with
      | none => rfl
      | some o => exact absurd h3 (m1.there (fun i z => h2' (mem_zs.mpr (.inr ⟨i, z⟩))) (by rw [e]; exact fun z => nomatch z))
  · rw [(hp p z).2.2] at hu1
    cases hu1⟩
def setAll : List Nat → List V → St → St
  | i :: is, v :: vs, σ => setAll is vs (σ.set i (some v))
  | _, _, σ => σ
theorem puts {G : Gp} {H : Hp} : ∀ {is : List Nat} {pv : List PV} {vs : List V} {ps : List Addr} {F : Fm} {A : Own} {σ : St} {ρ ρ' : Rho} {u : Unit}, Sts G (F.hides ps) A σ ρ H → (∀ p ∈ ps, F.H0 p = none ∧ p ∉ zs F A) → ps.Nodup → RPs G (zs (F.hides ps) A) H ps vs pv → putPs is pv ρ = .ok u ρ' →
    ∃ A', Sts G F A' (setAll is vs σ) ρ' H ∧ (∀ k a, (k, a) ∈ A' → (k, a) ∈ A ∨ a ∈ ps) ∧ is.length = vs.length
  | [], _, _, _, F, A, σ, ρ, ρ', u, S, hp, nd, rp, e => by
    cases rp with
    | nil =>
      obtain ⟨_, rfl⟩ := ret_ok e
      exact ⟨A, S, fun k a h => .inl h, rfl⟩
    | v a b => cases e
    | f a b c => cases e
    | c a c => cases e
  | i :: is, _, _, ps, F, A, σ, ρ, ρ', u, S, hp, nd, rp, e => by
    cases rp with
    | nil => cases e
    | @v _ v vs r pv a b =>
      obtain ⟨_, ρ1, e1, e9⟩ := bind_ok e
      obtain ⟨d, ρ2, e2, e1⟩ := bind_ok e1
      obtain ⟨rfl, rfl⟩ := imm_ok e2
      obtain ⟨S1, m1⟩ := S.set (v := v) e1 (a d rfl)
      have hp1 : ∀ p ∈ ps, F.H0 p = none ∧ p ∉ zs F (drop1 A i) := fun p h => ⟨(hp p h).1, fun z => (hp p h).2 (zs_drop1 p z)⟩
      have b' := RPs.mono m1 (fun p _ ws h _ => h) b
      obtain ⟨A', S2, h2, hl⟩ := puts S1 hp1 nd b' e9
      exact ⟨A', S2, fun k a h => by
        rcases h2 k a h with h | h
        · exact .inl (mem_drop1.mp h).1
        · exact .inr h, by rw [List.length_cons, List.length_cons, hl]⟩
    | @f p ps vs ws xs pv a b c =>
      obtain ⟨_, ρ1, e1, e9⟩ := bind_ok e
      obtain ⟨np, nd'⟩ := List.nodup_cons.mp nd
      have hz : ∀ a, a ∈ (F.hides (p :: ps)).Z ↔ a ∈ ((F.hides ps).hide p).Z := fun a => by
        rw [mem_hides]
        show _ ↔ a ∈ p :: (F.hides ps).Z
        rw [List.mem_cons, List.mem_cons, mem_hides, or_assoc]
      have hzs : ∀ a, a ∈ zs (F.hides (p :: ps)) A ↔ a ∈ zs ((F.hides ps).hide p) A := fun a => by rw [mem_zs, mem_zs, hz a]
      have S' : Sts G ((F.hides ps).hide p) A σ ρ H := S.perm (by rw [hides_H0]; show F.H0 = (F.hides ps).H0; rw [hides_H0]) (by rw [hides_B]; show F.B = (F.hides ps).B; rw [hides_B]) hz
      have eh := hid_eq (H := H) hzs
      obtain ⟨q1, q2⟩ := hp p List.mem_cons_self
      have hz2 : p ∉ zs (F.hides ps) A := fun z => by
        rcases mem_zs_hides.mp z with z | z
        · exact np z
        · exact q2 z
      obtain ⟨S1, m1⟩ := S'.setN (i := i) (by rw [hides_H0]; exact q1) hz2 a (by rw [← eh]; exact b) e1
      have hp1 : ∀ y ∈ ps, F.H0 y = none ∧ y ∉ zs F ((i, p) :: drop1 A i) := fun y h => ⟨(hp y (List.mem_cons_of_mem _ h)).1, fun z => by
        rcases mem_zs.mp z with z | ⟨k, z⟩
        · exact (hp y (List.mem_cons_of_mem _ h)).2 (mem_zs.mpr (.inl z))
        · rcases List.mem_cons.mp z with z | z
          · cases z; exact np h
          · exact (hp y (List.mem_cons_of_mem _ h)).2 (mem_zs.mpr (.inr ⟨k, (mem_drop1.mp z).1⟩))⟩
      have m1' : Same (hid (zs (F.hides (p :: ps)) A) H) (hid (zs (F.hides ps) ((i, p) :: drop1 A i)) H) := by rw [eh]; exact m1
      have c2 := RPs.mono m1' (fun p _ ws h _ => h) c
      obtain ⟨A', S2, h2, hl⟩ := puts S1 hp1 nd' c2 e9
      exact ⟨A', S2, fun k a h => by
        rcases h2 k a h with h | h
        · rcases List.mem_cons.mp h with h | h
          · cases h; exact .inr List.mem_cons_self
          · exact .inl (mem_drop1.mp h).1
        · exact .inr (List.mem_cons_of_mem _ h), by rw [List.length_cons, List.length_cons, hl]⟩
    | @c p ps vs ks ds pv a c =>
      obtain ⟨_, ρ1, e1, e9⟩ := bind_ok e
      obtain ⟨np, nd'⟩ := List.nodup_cons.mp nd
      have hz : ∀ a, a ∈ (F.hides (p :: ps)).Z ↔ a ∈ ((F.hides ps).hide p).Z := fun a => by
        rw [mem_hides]
        show _ ↔ a ∈ p :: (F.hides ps).Z
        rw [List.mem_cons, List.mem_cons, mem_hides, or_assoc]
      have hzs : ∀ a, a ∈ zs (F.hides (p :: ps)) A ↔ a ∈ zs ((F.hides ps).hide p) A := fun a => by rw [mem_zs, mem_zs, hz a]
      have S' : Sts G ((F.hides ps).hide p) A σ ρ H := S.perm (by rw [hides_H0]; show F.H0 = (F.hides ps).H0; rw [hides_H0]) (by rw [hides_B]; show F.B = (F.hides ps).B; rw [hides_B]) hz
      have eh := hid_eq (H := H) hzs
      obtain ⟨q1, q2⟩ := hp p List.mem_cons_self
      have hz2 : p ∉ zs (F.hides ps) A := fun z => by
        rcases mem_zs_hides.mp z with z | z
        · exact np z
        · exact q2 z
      obtain ⟨k1, k2, rfl⟩ := setOwD_ok e1
      obtain ⟨S1, m1⟩ := S'.setD (d := .dct ks ds) (by rw [hides_H0]; exact q1) hz2 (show DcC G H _ p ks ds by rw [← eh]; exact a) k1 k2
      have hp1 : ∀ y ∈ ps, F.H0 y = none ∧ y ∉ zs F ((i, p) :: drop1 A i) := fun y h => ⟨(hp y (List.mem_cons_of_mem _ h)).1, fun z => by
        rcases mem_zs.mp z with z | ⟨k, z⟩
        · exact (hp y (List.mem_cons_of_mem _ h)).2 (mem_zs.mpr (.inl z))
        · rcases List.mem_cons.mp z with z | z
          · cases z; exact np h
          · exact (hp y (List.mem_cons_of_mem _ h)).2 (mem_zs.mpr (.inr ⟨k, (mem_drop1.mp z).1⟩))⟩
      have m1' : Same (hid (zs (F.hides (p :: ps)) A) H) (hid (zs (F.hides ps) ((i, p) :: drop1 A i)) H) := by rw [eh]; exact m1
      have c2 := RPs.mono m1' (fun p _ ws h _ => h) c
      obtain ⟨A', S2, h2, hl⟩ := puts S1 hp1 nd' c2 e9
      exact ⟨A', S2, fun k a h => by
        rcases h2 k a h with h | h
        · rcases List.mem_cons.mp h with h | h
          · cases h; exact .inr List.mem_cons_self
          · exact .inl (mem_drop1.mp h).1
        · exact .inr (List.mem_cons_of_mem _ h), by rw [List.length_cons, List.length_cons, hl]⟩
theorem parN_end {G : Gp} {F : Fm} {A : Own} {σ : St} {ρ ρ' : Rho} {H H1 : Hp} {D : Ends} {is : List Nat} {pv : List PV} {vs : List V} {ps : List Addr} {u : Unit} (S : Sts G (F.hides ps) A σ ρ H1) (hp : ∀ p ∈ ps, F.H0 p = none ∧ p ∉ zs F A ∧ H p = none) (nd : ps.Nodup) (m : Stp A H H1) (rp : RPs G (zs (F.hides ps) A) H1 ps vs pv) (e : putPs is pv ρ = .ok u ρ') (oo : OutS G F A H D (.ok .nx ρ')) :
    is.length = vs.length ∧ D.nx (setAll is vs σ) H1 := by
  obtain ⟨A', S2, h2, hl⟩ := puts S (fun p h => ⟨(hp p h).1, (hp p h).2.1⟩) nd rp e
  refine ⟨hl, oo _ _ _ S2 fun c w h n => ⟨m c w h n, fun k z => ?_⟩⟩
  rcases h2 k c z with z | z
  · exact n k z
  · rw [nt_none.mpr (hp c z).2.2] at h; cases h
section
variable {X : Cx} {i j l : Nat} {x y z : Str} {a b c : Expr} {es : List Expr} {fs : List (M PV)} {px py pz pt pos : Pos} {kt k2 pt2}
inductive NmsG (X : Cx) : List Expr → List Nat → TGs → Prop
  | nil : NmsG X [] [] gNil
  | cons {x : Str} {p : Pos} {i : Nat} {es : List Expr} {is : List Nat} {t : TGs} : X.N[i]? = some x → Loc X.env.scope x → (X.fn x = true ∨ X.env.scope.names.lookup x = some .local) → (assignEach (.Name x p :: es) X.env).map (·.2) = assign (.Name x p) X.env :: (assignEach es X.env).map (·.2) → NmsG X es is t → NmsG X (.Name x p :: es) (i :: is) (gCons (gName i) t)
theorem nmsG_pgs (hN : X.N.Nodup) : ∀ {es : List Expr} {is : List Nat} {t : TGs}, NmsG X es is t → PGs X es t
  | _, _, _, .nil => pgs_nil
  | _, _, _, .cons h1 h2 h3 h4 r => pgs_cons (pg_name hN h1 h2 h3) (nmsG_pgs hN r) h4
theorem nmsG_rd {D : St → Hp → Prop} {H : Hp} : ∀ {es : List Expr} {is : List Nat} {t : TGs} {vs : List V} {σ : St}, NmsG X es is t → is.length = vs.length → D (setAll is vs σ) H → t vs σ H D
  | _, _, _, [], σ, .nil, hl, h => ⟨rfl, h⟩
  | _, _, _, v :: vs, σ, .cons _ _ _ _ r, hl, h => ⟨v, vs, rfl, nmsG_rd r (Nat.succ.inj hl) h⟩
  | _, _, _, v :: vs, σ, .nil, hl, h => by cases hl
  | _, _, _, [], σ, .cons _ _ _ _ r, hl, h => by cases hl
theorem ds_parT {ts : List Expr} {is : List Nat} {t : TGs} {n : Nat} (hc : X.calm = true) (hN : X.N.Nodup) (ht : NmsG X ts is t) (ha : DPs X es fs) (hln : is.length = n) (hns : n ≤ 1000000)
    (hw : swappedStores [.Tuple ts kt pt] (.Tuple es k2 pt2) X.env = pure none := by rfl)
    (hs : swapsWithSole [.Tuple ts kt pt] (.Tuple es k2 pt2) pos.line X.env = pure false := by rfl)
    (hn : (assignEach ts X.env).length = n := by rfl) (hst : (assignEach ts X.env).findIdx? (·.1) = none := by rfl)
    (h1 : (assignEach [.Tuple ts kt pt] X.env).map (·.2) = [assign (.Tuple ts kt pt) X.env] := by rfl) :
    DS X (.Assign [.Tuple ts kt pt] (.Tuple es k2 pt2) pos) (sParN is fs) := ⟨fun F => ps_imp (ps_asg (pe_tupF (k := k2) (pos := pt2) ha.run) (pg_tup (pos := pt) (k := kt) hc (nmsG_pgs hN ht) hn hst) hs hw h1) fun D σ H ⟨A, ρ, S, o⟩ => by
  obtain ⟨pv, ρ1, e1, o⟩ := out_bind o
  obtain ⟨_, ρ2, e2, oo⟩ := out_bind o
  refine ⟨F, A, ρ, pv, ρ1, S, e1, fun ps vs H1 S1 hp nd m rp => ?_⟩
  have hlen : is.length = vs.length := (parN_end S1 hp nd m rp e2 oo).1
  refine ⟨len_line (by omega), fun q its hq => ?_⟩
  have sm := Same.of_new (o := tHO its vs) hq
  have S2 := S1.same sm
  have rp2 := RPs.mono (Same.hid (Z := zs (F.hides ps) A) sm) (fun p _ ws h _ => sm _ _ h) rp
  obtain ⟨hl, h⟩ := parN_end S2 hp nd (m.trans (Stp.of sm)) rp2 e2 oo
  exact ⟨q, vs, rfl, .inl (.inr ⟨_, upd_same⟩), by omega, nmsG_rd ht hl h⟩⟩
end
end Dv
namespace Dv
open PySem PySem.Spec PyProof.Rows L2
variable [Tbl]
section
variable {X : Cx}
def gTupL (n : Nat) (gs : List D → M Unit) : IV → M Unit
  | .im (.lst ds) => if ds.length = n then gs ds else fun _ => .no
  | _ => fun _ => .no
theorem dg_lst {es : List Expr} {k n : Nat} {sl : List Nat} {gs : List D → M Unit} {pos : Pos} (hc : X.calm = true) (h : DGs X es sl gs)
    (hn : (assignEach es X.env).length = n := by rfl) (hst : (assignEach es X.env).findIdx? (·.1) = none := by rfl) : DG X (.Tuple es k pos) sl (gTupL n gs) := ⟨fun F => pg_imp (pg_lst hc (h.run F) hn hst) fun v σ H Q ⟨A, ρ, d, ρ', S, r, e, q⟩ => by
  cases d with
  | tw ds => cases e
  | im d =>
    cases d with
    | lst ds =>
      cases r with
      | lst h1 h2 =>
        have e' : (if ds.length = n then gs ds else fun _ => .no) ρ = .ok () ρ' := e
        by_cases z : ds.length = n
        · rw [if_pos z] at e'
          exact ⟨_, _, rfl, hid_full.seq h1, by rw [h2.len]; exact z, A, ρ, ds, ρ', S, h2, e', q⟩
        · rw [if_neg z] at e'; cases e'
    | _ => cases e⟩
end
end Dv
namespace Dv
open PySem PySem.Spec PyProof.Rows L2
variable [Tbl]
section
variable {X : Cx}
def rLenS (w : World) : List V → Hp → VK → Prop := fun xs H Q => ∃ a S n, xs = [.ref a] ∧ H a = some (SetO w a S n) ∧ Q (.int n) H
theorem call_lenS : CallR X (.builtin "len") (rLenS X.w) := by
  intro pins s σ H xs us Q I r h
  obtain ⟨a, S, n, rfl, e, q⟩ := h
  obtain ⟨u, rfl, rx⟩ := vals1 r
  cases rx
  have ok : ObjOk X.prog X.w H s.heap a (SetO X.w a S n) := I.hok a _ e
  obtain ⟨⟨o, es, ep, t, ho, hex, hd, _, _, _, hs, hf, hn, _⟩, _⟩ := ok
  have hb : es.size < 2 ^ 63 := Nat.lt_of_lt_of_le hs (by unfold scanBound; decide)
  exact call_len_set ho hex hd hf (by omega) ⟨.int n, H, I.tok _, ⟨_, by rw [hn]⟩, q⟩
def gLenS : List D → Option D
  | [.set xs] => some (.int xs.length)
  | _ => none
theorem cd_lenS : CallD X (.builtin "len") gLenS := ⟨_, call_lenS, fun Z H xs ds d Q z r e q => by
  unfold gLenS at e
  split at e
  · cases e
    obtain ⟨v, rfl, r1⟩ := r.one
    rcases r1 with r1 | ⟨_, _, ee⟩
    · cases r1 with
      | @set a S n ns h1 h2 h3 h4 =>
        refine ⟨a, S, n, rfl, (hid_some h1).2, ?_⟩
        rw [List.length_map, h4] at q
        exact ret_int q
    · cases ee
  · cases e⟩
end
end Dv
namespace Dv
open PySem PySem.Spec PyProof.Rows L2
variable [Tbl]
section
variable {X : Cx}
end
end Dv
namespace Dv
open PySem PySem.Spec PyProof.Rows L2
variable [Tbl]
def rIx (n d : Nat) : Option Int → Nat
  | none => d
  | some v => (if v < 0 then v + n + 1 else min (v + 1) n).toNat
section
variable {prog : Program} {w : World} {A : Around} {E : Value → Shared → Prop} {s : Shared}
end
section
variable {X : Cx} {e : Expr} {lo hi : Option Expr} {fa : ES} {fl fh : M (Option Int)} {pos : Pos}
end
end Dv
namespace Dv
open PySem PySem.Spec PyProof.Rows L2
variable [Tbl]
end Dv
namespace Dv
open PySem PySem.Spec PyProof.Rows L2
variable [Tbl]
theorem RTs.three {G : Gp} {Z : List Addr} {H : Hp} {vs : List V} {d e f : D} (h : RTs G Z H vs [d, e, f]) : ∃ v u w, vs = [v, u, w] ∧ RT G Z H v d ∧ RT G Z H u e ∧ RT G Z H w f := by
  cases h with
  | cons a h => cases h with
    | cons b h => cases h with
      | cons c h => cases h; exact ⟨_, _, _, rfl, a, b, c⟩
section
variable {X : Cx} {tg a b c : Expr} {fs : M (List RV)} {p pos : Pos}
end
end Dv
namespace Dv
open PySem PySem.Spec PyProof.Rows L2
variable [Tbl]
section
variable {X : Cx} {F : Fm} {A : Own} {σ : St} {ρ ρ' : Rho} {H : Hp} {v : V} {d : D} {i : Nat} {fx : ES}
end
end Dv
namespace Dv
open PySem PySem.Spec PyProof.Rows L2
variable [Tbl]
section
variable {X : Cx} {e : Expr} {fa : ES} {c f x : Str} {C p : Addr} {i : Nat} {pos pp p2 : Pos}
def gFld (c : Str) (i : Nat) : D → Option D
  | .obj c' [] ds => if c' = c then ds[i]? else none
  | _ => none
theorem obj_inv {G : Gp} {Z : List Addr} {H : Hp} {v : V} {c : Str} {ds : List D} {C : Addr} (hm : G.mg c = some (.ref C)) (r : RT G Z H v (.obj c [] ds)) : ∃ a dx vs, v = .ref a ∧ SlX.Slt H a C dx (vs.map some) ∧ RDs G (hid Z H) vs ds := by
  rcases r with r | ⟨_, _, ee⟩
  · generalize hD : D.obj c [] ds = d at r
    cases r with
    | @obj a C' dx fs c' ds' h m r =>
      obtain ⟨rfl, hf, rfl⟩ := (D.obj.injEq ..).mp hD
      have hfs : fs = [] := List.map_eq_nil_iff.mp hf.symm
      subst hfs
      cases r
      rw [hm] at m
      cases m
      exact ⟨a, dx, [], rfl, .inl ⟨(hid_some h).2, rfl⟩, .nil⟩
    | @slt a C' dx vs c' ds' h hx m r =>
      obtain ⟨rfl, _, rfl⟩ := (D.obj.injEq ..).mp hD
      rw [hm] at m
      cases m
      exact ⟨a, dx, vs, rfl, .inr ⟨(hid_some h).2, (hid_some hx).2⟩, r⟩
    | _ => cases hD
  · cases ee
theorem de_fld (ha : DE X e fa) (hm : X.mg c = some (.ref C)) (cl : SlX.SCls X.K C) (sl : SlX.Slot1 X.K C f p i) (hb : attributeBase e f X.env (eval e X.env) = eval e X.env := by rfl) : DE X (.Attribute e f pos) (eUn (gFld c i) fa) := ⟨fun F => pe_imp (SlX.pe_sl (ha.run F) hb) fun σ H Q ⟨A, ρ, rr, ρ', S, e, q⟩ => by
  obtain ⟨r, ρ1, e1, e⟩ := bind_ok e
  obtain ⟨d, ρ4, e4, e⟩ := bind_ok e
  obtain ⟨l4, rfl⟩ := val_ok e4
  obtain ⟨y, ρ5, e5, e⟩ := bind_ok e
  obtain ⟨l5, rfl⟩ := opt_ok e5
  obtain ⟨rfl, rfl⟩ := ret_ok e
  refine ⟨A, ρ, r, ρ1, S, e1, fun v H1 S1 m1 r1 => ?_⟩
  have rt := look_rt S1 r1 l4
  unfold gFld at l5
  split at l5
  · split at l5
    · rename_i hc
      subst hc
      obtain ⟨a, dx, vs, rfl, hs, hr⟩ := obj_inv hm rt
      obtain ⟨w, h1, h2⟩ := hr.get l5
      exact ⟨a, C, dx, p, vs.map some, i, w, rfl, hs, cl, sl, by rw [List.getElem?_map, h1]; rfl, q w H1 S1 m1 h2⟩
    · cases l5
  · cases l5⟩
end
end Dv
namespace Dv
open PySem PySem.Spec PyProof.Rows L2
variable [Tbl]
section
variable {X : Cx} {CX : CXT} {k : Nat} {f C : Addr} {fd : FuncData} {ps : List Str} {sp : Sp} {E : XK} {x : Str} {p pos : Pos} {e : Expr} {es : List Expr} {t : TA}
theorem run_makeG {pins : List (Addr × Obj)} {σ : St} {H : Hp} {s : Shared} {Q : VK} {us : List Value} {vs : List V} (M : Mk X.K C f) (F : FnG X.prog X.w X.K X.mg X.base CX k f fd ps sp) (hr : Room (k + 1) X.A) (gd : X.A.guards = some []) (hb : Binds X.K fd ps [])
    (hx : Passes CX X E) (I : Inv X pins σ H s) (r : Vals vs us)
    (h : ∀ x dx, H x = none → H dx = none → dx ≠ x → sp (.ref x :: vs) (upd (upd H dx (.own x)) x (.ins C dx [])) (fun v H2 => v = .non ∧ Q (.ref x) H2) E) :
    wpAny (model X.prog X.w) X.A (call (.ref C) us) (EP X pins σ Q) X.xe s := by
  have hq := h (s.heap.objs.size + 1) s.heap.objs.size (I.hok.fresh (Nat.le_succ _)) (I.hok.fresh (Nat.le_refl _)) (Nat.ne_of_lt (Nat.lt_succ_self _))
  have I2 := Inv.made (C := C) I
  have r2 : Vals (V.ref (s.heap.objs.size + 1) :: vs) (Value.ref (s.heap.objs.size + 1) :: us) := .cons rfl r
  have hl : (Value.ref (s.heap.objs.size + 1) :: us ++ []).length = ps.length := by
    have e := r2.length
    rw [F.len _ _ _ _ hq] at e
    rw [List.append_nil]
    exact e.symm
  have hbb := hb (s := _) (Value.ref (s.heap.objs.size + 1) :: us) I2.kIn hl
  rw [List.append_nil] at hbb
  refine wpAny_call (make_map (f := f) I.kIn M.makes M.init (beq_iff_eq.mp M.fn) (codeAny_mono (F.go _ X.stack _ _ ⟨Value.ref (s.heap.objs.size + 1) :: us, []⟩ (Value.ref (s.heap.objs.size + 1) :: us) _ _ E (hr.make C us []) gd
    (I2.env0.make C us []) hbb r2 hq) fun r s' hq' => ?_))
  cases r with
  | error e => exact hx pins σ _ _ e s' I2 hq'
  | ok fl =>
    cases fl with
    | ret u =>
      obtain ⟨v, H', I3, rv, ev, q3⟩ := I2.after hq'
      subst ev
      exact ⟨rv, ⟨V.ref (s.heap.objs.size + 1), H', I3, rfl, q3⟩⟩
    | next => exact False.elim hq'
    | brk => exact False.elim hq'
    | cont => exact False.elim hq'
def tMakeG (C : Addr) (sp : Sp) (E : XK) (t : TA) : TE := fun σ H Q => t σ H fun vs H1 => ∀ x dx, H1 x = none → H1 dx = none → dx ≠ x → sp (.ref x :: vs) (upd (upd H1 dx (.own x)) x (.ins C dx [])) (fun v H2 => v = .non ∧ Q (.ref x) H2) E
theorem pe_makeG (M : Mk X.K C f) (F : FnG X.prog X.w X.K X.mg X.base CX k f fd ps sp) (hr : Room (k + 1) X.A) (gd : X.A.guards = some []) (hg : Gl X x) (hm : X.mg x = some (.ref C)) (hb : Binds X.K fd ps []) (hx : Passes CX X E)
    (ha : PA X (e :: es) t) (hdb : (x == ("__debug__" : Str)) = false := by decide) (he : starEach (e :: es) X.env = (false, eval e X.env) :: starEach es X.env := by rfl) (hpl : (backTo pos (starEach es X.env)).any (·.1) = false := by rfl) :
    PE X (.Call (.Name x p) (e :: es) [] pos) (tMakeG C sp E t) := by
  refine ⟨fun pins s σ H Q I h => ?_⟩
  refine wpAny_Call_Name_kw (ld_glob I hg hm ?_ hdb)
  refine PySem.W.callWith_K (h₀ := X.base) I.ok.mod.kin M.kp (thn (ha.run pos pins s σ H _ I h) fun us s1 ⟨vs, H1, I1, r, q⟩ => ⟨I1.kIn, ?_⟩) he hpl
  exact run_makeG M F hr gd hb hx I1 r q
end
theorem fnG_of {P : Program} {w : World} {K : PySem.W.Frag} {mg : Str → Option Value} {base : Heap} {x qual : Str} {pa : Arguments} {body : List Stmt} {sc : Scope} {f : Addr} {fd : FuncData} {N ps : List Str} {k : Nat} {sp : Sp} (D : FunD K x qual pa body sc [] [] f fd) (S : FnScope N ps sc)
    (hlen : ∀ vs H Q E, sp vs H Q E → vs.length = ps.length)
    (h : ∀ (cdv : Value) (A : Around) (outer : List Env) (s : Shared) (H : Hp) (E : XK), Room k (A.deeper (envOfC qual sc s.heap.objs.size f cdv)) → A.guards = some [] → ∀ (vs : List V) (Q : VK), sp vs H Q E → ∃ t, PSs (cxG P w K mg base N qual sc f cdv A outer s H E) body t ∧ t { nx := fun _ H' => Q .non H', rt := Q } (start N vs) H) :
    FnG P w K mg base CX0 (k + 1) f fd ps sp := by
  obtain ⟨oc, od, dV, kV, doc, pm, an, cdv, ct, osl, rfl, lk, hcd, _, _⟩ := D.ex
  refine ⟨hlen, ?_⟩
  intro A outer s H args us vs Q E room gd e0 hb r q
  have hpl : ps.length ≤ N.length := by
    have z := congrArg List.length S.pre
    rw [List.length_take] at z
    omega
  have vl : vs.length = ps.length := hlen _ _ _ _ q
  have kin : K.In s.heap := e0.mod.kin.keeps fun b o z => (e0.bs b o z).1
  have nl : s.heap.NoLimit := e0.mod.nolimit.keeps fun b o z => (e0.bs b o z).1
  have kinds : ∀ y ∈ ps.zip us, sc.names.lookup y.1 = some .local ∨ (sc.names.lookup y.1 = some .cell ∧ ((cellsFrom (s.heap.objs.size + 1) sc.names []).lookup y.1).isSome = true) := by
    rintro ⟨n, v⟩ hy
    have hp := S.par n (List.of_mem_zip hy).1
    rcases hp with hp | hp
    · exact .inl hp
    · exact .inr ⟨hp, PySem.W.cellsFrom_some _ _ _ (.inl hp)⟩
  apply codeAny_call_function room.depth (kin _ _ lk) rfl S.co S.gen rfl (PySem.W.codeRec_of kin hcd)
  apply hb
  apply wpAny_newFunctionEnv_cells S.kind kinds
  intro env he s1 ic
  subst he
  refine ⟨nl.keeps ic.toInCall.keep, codeAny_func ?_⟩
  obtain ⟨t, ht, hq⟩ := h cdv A outer s H E (room.deeper _) gd vs Q q
  have I := inv_start (CX := CX0) (P := P) (w := w) (K := K) (mg := mg) (base := base) (f := f) (cd := cdv) (A := A) (E := E) S room.hd e0 vl r ic
  have J := ht.nox.run [] s1 (start N vs) H _ I hq
  refine wpAny_mono J (fun fl s' hs => ?_) fun e s' hs => hs
  have done : ∀ {σ' : L2.St} {H' : Hp} {v : V} {u : Value}, Inv (cxOf CX0 P w K mg base N qual sc f cdv A outer s H E) [] σ' H' s' → RelV v u → Q v H' → CE outer P w H s Q u s' := fun {σ' H' v u} I' rv qv => ⟨v, H', I'.os, I'.bare, I'.base, I'.hok, rv, qv⟩
  cases fl with
  | next => obtain ⟨σ', H', I', qv⟩ := hs; exact done (v := .non) (u := .none) I' rfl qv
  | ret u => obtain ⟨v, σ', H', I', rv, qv⟩ := hs; exact done I' rv qv
  | brk => obtain ⟨_, _, _, z⟩ := hs; exact z.elim
  | cont => obtain ⟨_, _, _, z⟩ := hs; exact z.elim
end Dv
namespace Dv
open PySem PySem.Spec PyProof.Rows L2
variable [Tbl]
theorem slts_twice {H : Hp} {a C dx : Addr} {v w : V} (h : dx ≠ a) : SlX.slH (SlX.slH H a C dx (SlX.putS 1 v [])) a C dx (SlX.putS 0 w (SlX.putS 1 v [])) = SlX.slH H a C dx [some w, some v] := by
  rw [SlX.slH_twice h]
  rfl
end Dv
namespace Dv
open PySem PySem.Spec PyProof.Rows L2
variable [Tbl]
theorem sts_three {G : Gp} {H : Hp} {Z : List Addr} {a : Addr} {v1 v2 : V} {d1 d2 : D} (z : ZOk Z H ∧ LamX.Tabs Tbl.T H) (r1 : RD G (hid Z H) v1 d1) (r2 : RD G (hid Z H) v2 d2) : Sts G ⟨H, Z, []⟩ [] [some (.ref a), some v1, some v2] [some (.im (.ref a)), some (.im d1), some (.im d2)] H where
  len := rfl
  im := fun i d h => by
    have ez : zs (⟨H, Z, []⟩ : Fm) [] = Z := by unfold zs; simp
    rw [ez]
    match i, h with
    | 0, h => cases h; exact ⟨_, rfl, .ref a⟩
    | 1, h => cases h; exact ⟨_, rfl, r1⟩
    | 2, h => cases h; exact ⟨_, rfl, r2⟩
    | i + 3, h => cases h
  ow := fun i xs h => by
    match i, h with
    | 0, h => cases h
    | 1, h => cases h
    | 2, h => cases h
    | i + 3, h => cases h
  bo := fun i xs h => by
    match i, h with
    | 0, h => cases h
    | 1, h => cases h
    | 2, h => cases h
    | i + 3, h => cases h
  own := fun i a h => nomatch h
  uni := fun i j a b h => nomatch h
  bor := fun i a h => nomatch h
  keep := fun a o h _ => h
  zok := z.1
  tabs := z.2
section
variable {X : Cx} {st1 st2 st3 st4 : Stmt} {f1 f2 : SS} {fn0 fn1 : Str} {C p0 p1 : Addr}
theorem init_body (h1 : DS X st1 f1) (h2 : DS X st2 f2) (h3 : PS X st3 (SlX.sSl X.K (tVar 0) (tVar 1) fn1)) (h4 : PS X st4 (SlX.sSl X.K (tVar 0) (tVar 2) fn0)) (cl : SlX.SCls X.K C) (s1 : SlX.Slot1 X.K C fn1 p1 1) (s0 : SlX.Slot1 X.K C fn0 p0 0)
    {H : Hp} {Z : List Addr} {a dx : Addr} {v1 v2 : V} {d1 d2 : D} {Q : VK} (z : ZOk Z H ∧ LamX.Tabs Tbl.T H) (ha : H a = some (.ins C dx [])) (ne : dx ≠ a) (r1 : RD (Gx X) (hid Z H) v1 d1) (r2 : RD (Gx X) (hid Z H) v2 d2)
    (e1 : f1 [some (.im (.ref a)), some (.im d1), some (.im d2)] = .ok .nx [some (.im (.ref a)), some (.im d1), some (.im d2)]) (e2 : f2 [some (.im (.ref a)), some (.im d1), some (.im d2)] = .ok .nx [some (.im (.ref a)), some (.im d1), some (.im d2)])
    (q : ∀ H' w1 w2, SameN H H' → LamX.Tabs Tbl.T H' → RD (Gx X) (hid Z H') w1 d1 → RD (Gx X) (hid Z H') w2 d2 → Q .non (SlX.slH H' a C dx [some w2, some w1])) :
    ∃ t, PSs X [st1, st2, st3, st4] t ∧ t { nx := fun _ H' => Q .non H', rt := Q } [some (.ref a), some v1, some v2] H := by
  refine ⟨_, pss_cons (h1.run ⟨H, Z, []⟩) (pss_cons (h2.run ⟨H, Z, []⟩) (pss_cons h3 (pss_one h4))), ?_⟩
  refine ⟨[], _, sts_three z r1 r2, ?_⟩
  rw [e1]
  intro A1 σ1 H1 S1 m1
  refine ⟨A1, _, S1, ?_⟩
  rw [e2]
  intro A2 σ2 H2 S2 m2
  have sm : SameN H H2 := fun b o hb => by
    obtain ⟨k1, k2⟩ := m1 b o hb fun i => List.not_mem_nil
    exact (m2 b o k1 k2).1
  obtain ⟨u0, g0, q0⟩ := S2.im 0 _ rfl
  obtain ⟨u1, g1, q1⟩ := S2.im 1 _ rfl
  obtain ⟨u2, g2, q2⟩ := S2.im 2 _ rfl
  obtain rfl : u0 = .ref a := by
    cases q0 with
    | ref _ => rfl
  refine ⟨u1, g1, .ref a, g0, a, C, dx, p1, [], 1, rfl, .inl ⟨sm.at ha, rfl⟩, cl, s1, ?_⟩
  refine ⟨u2, g2, .ref a, g0, a, C, dx, p0, _, 0, rfl, SlX.slH_slt ne, cl, s0, ?_⟩
  show Q .non _
  rw [slts_twice ne]
  exact q H2 u1 u2 sm S2.tabs (q1.mono zs_Z) (q2.mono zs_Z)
end
end Dv
namespace Dv
open PySem PySem.Spec PyProof.Rows L2
variable [Tbl]
def spMk (G : Gp) (C : Addr) (ok : D → D → Bool) : Sp := fun vs H Q _ => ∃ Z a dx v1 v2 d1 d2, vs = [.ref a, v1, v2] ∧ (ZOk Z H ∧ LamX.Tabs Tbl.T H) ∧ H a = some (.ins C dx []) ∧ dx ≠ a ∧ RD G (hid Z H) v1 d1 ∧ RD G (hid Z H) v2 d2 ∧ ok d1 d2 = true ∧
  ∀ H' w1 w2, SameN H H' → LamX.Tabs Tbl.T H' → RD G (hid Z H') w1 d1 → RD G (hid Z H') w2 d2 → Q .non (SlX.slH H' a C dx [some w2, some w1])
def gMk (c : Str) (ok : D → D → Bool) (d1 d2 : D) : Option D := if ok d1 d2 = true then some (.obj c [] [d2, d1]) else none
def eMk (c : Str) (ok : D → D → Bool) (fs : M (List RV)) : ES := M.bind fs fun rs => match rs with
  | [.im d1, .im d2] => M.bind (M.opt (gMk c ok d1 d2)) fun x => M.ret (.im x)
  | _ => fun _ => .no
section
variable {X : Cx} {k : Nat} {f C : Addr} {fd : FuncData} {ps : List Str} {c : Str} {ok : D → D → Bool} {p pos : Pos} {e : Expr} {es : List Expr} {fs : M (List RV)}
theorem de_make (M : Mk X.K C f) (Fi : FnG X.prog X.w X.K X.mg X.base CX0 k f fd ps (spMk (Gx X) C ok)) (hr : Room (k + 1) X.A) (gd : X.A.guards = some []) (hg : Gl X c) (hm : X.mg c = some (.ref C)) (hb : Binds X.K fd ps [])
    (ha : DA X (e :: es) fs) (hdb : (c == ("__debug__" : Str)) = false := by decide) (he : starEach (e :: es) X.env = (false, eval e X.env) :: starEach es X.env := by rfl) (hpl : (backTo pos (starEach es X.env)).any (·.1) = false := by rfl) :
    DE X (.Call (.Name c p) (e :: es) [] pos) (eMk c ok fs) := ⟨fun F => pe_imp (pe_makeG (E := E0) M Fi hr gd hg hm hb pass0 (ha.run F) hdb he hpl) fun σ H Q ⟨A, ρ, rr, ρ', S, e, q⟩ => by
  obtain ⟨rs, ρ1, e1, e⟩ := bind_ok e
  refine ⟨A, ρ, rs, ρ1, S, e1, fun vs H1 S1 m1 r1 => ?_⟩
  split at e
  · rename_i d1 d2
    obtain ⟨y, ρ2, e2, e⟩ := bind_ok e
    obtain ⟨l2, rfl⟩ := opt_ok e2
    obtain ⟨rfl, rfl⟩ := ret_ok e
    unfold gMk at l2
    split at l2
    · rename_i hok
      cases l2
      cases r1 with
      | @cons v1 _ _ _ a1 r1 =>
        cases r1 with
        | @cons v2 _ _ _ a2 r1 =>
          cases r1
          intro x dx hx hdx ne
          have a1 : RD (Gx X) (hid (zs F A) H1) v1 d1 := a1
          have a2 : RD (Gx X) (hid (zs F A) H1) v2 d2 := a2
          have up : ∀ b, b ≠ x → b ≠ dx → upd (upd H1 dx (.own x)) x (.ins C dx []) b = H1 b := fun b b1 b2 => by rw [upd_ne b1, upd_ne b2]
          have nx : ∀ {b : Addr} {o : HO}, H1 b = some o → b ≠ x ∧ b ≠ dx := fun {b o} h => ⟨fun z => (by rw [z, hx] at h; cases h), fun z => (by rw [z, hdx] at h; cases h)⟩
          have sm0 : Same (hid (zs F A) H1) (hid (x :: dx :: zs F A) (upd (upd H1 dx (.own x)) x (.ins C dx []))) := fun b o h => by
            obtain ⟨h1, h2, h3⟩ := hid_all h
            obtain ⟨b1, b2⟩ := nx h2
            refine hid_of (fun z => ?_) (by rw [up b b1 b2]; exact h2) h3
            rcases List.mem_cons.mp z with z | z
            · exact b1 z
            · rcases List.mem_cons.mp z with z | z
              · exact b2 z
              · exact h1 z
          refine ⟨x :: dx :: zs F A, x, dx, v1, v2, d1, d2, rfl, ⟨fun b hb => ?_, S1.tabs.ext fun b o h => by rw [up b (nx h).1 (nx h).2]; exact h⟩, upd_same, ne, a1.mono sm0, a2.mono sm0, hok, fun H' w1 w2 sm tt r1 r2 => ⟨rfl, ?_⟩⟩
          · rcases List.mem_cons.mp hb with rfl | hb
            · rw [upd_same]; exact fun z => nomatch z
            · rcases List.mem_cons.mp hb with rfl | hb
              · rw [upd_ne ne, upd_same]; exact fun z => nomatch z
              · intro z
                have h0 := S1.zall b hb
                cases q0 : H1 b with
                | none => exact h0 q0
                | some o =>
                  obtain ⟨b1, b2⟩ := nx q0
                  rw [up b b1 b2, q0] at z
                  cases z
          · have hx' : H' x = some (.ins C dx []) := sm.at upd_same
            have hd' : H' dx = some (.own x) := sm.at (by rw [upd_ne ne, upd_same])
            have smF : SameN H1 (SlX.slH H' x C dx [some w2, some w1]) := fun b o h => by
              have hb1 : b ≠ x := fun z => by rw [z, nt_none.mpr hx] at h; cases h
              have hb2 : b ≠ dx := fun z => by rw [z, nt_none.mpr hdx] at h; cases h
              rw [nt_eq (SlX.slH_ne hb1 hb2)]
              exact sm b o (by rw [nt_eq (up b hb1 hb2)]; exact h)
            have ttF : LamX.Tabs Tbl.T (SlX.slH H' x C dx [some w2, some w1]) := tabs_keep tt (fun b ps h => by
                rw [SlX.slH_ne (fun z => by rw [z, hx'] at h; cases h) (fun z => by rw [z, hd'] at h; cases h)]; exact h) (fun b φ h => by
                rw [SlX.slH_ne (fun z => by rw [z, hx'] at h; cases h) (fun z => by rw [z, hd'] at h; cases h)]; exact h)
            have hxz : x ∉ zs F A := fun z => S1.zall x z hx
            have hdz : dx ∉ zs F A := fun z => S1.zall dx z hdx
            have smW : Same (hid (x :: dx :: zs F A) H') (hid (zs F A) (SlX.slH H' x C dx [some w2, some w1])) := fun b o h => by
              obtain ⟨h1, h2, h3⟩ := hid_all h
              have b1 : b ≠ x := fun z => h1 (z ▸ List.mem_cons_self)
              have b2 : b ≠ dx := fun z => h1 (z ▸ List.mem_cons_of_mem _ List.mem_cons_self)
              exact hid_of (fun z => h1 (List.mem_cons_of_mem _ (List.mem_cons_of_mem _ z))) (by rw [SlX.slH_ne b1 b2]; exact h2) h3
            have hs := SlX.slH_slt (H := H') (C := C) (vs := [some w2, some w1]) ne
            rcases hs with ⟨_, z⟩ | ⟨g1, g2⟩
            · cases z
            · exact q _ _ (S1.sameN smF ttF) (m1.trans (Stp.ofN smF)) (.slt (vs := [w2, w1]) (hid_of hxz g1) (hid_of hdz g2) hm (.cons (r2.mono smW) (.cons (r1.mono smW) .nil)))
    · cases l2
  · cases e⟩
end
end Dv
namespace Dv
open PySem PySem.Spec PyProof.Rows L2
variable [Tbl]
theorem fnMk {P : Program} {w : World} {K : PySem.W.Frag} {mg : Str → Option Value} {base : Heap} {x qual : Str} {pa : Arguments} {st1 st2 st3 st4 : Stmt} {sc : Scope} {f : Addr} {fd : FuncData} {N ps : List Str} {k : Nat} {ok : D → D → Bool} {f1 f2 : SS} {fn0 fn1 : Str} {C p0 p1 : Addr}
    (D : FunD K x qual pa [st1, st2, st3, st4] sc [] [] f fd) (S : FnScope N ps sc) (lp : ps.length = 3) (ln : N.length = 3)
    (h : ∀ (cdv : Value) (A : Around) (outer : List Env) (s : Shared) (H : Hp) (E : XK), Room k (A.deeper (envOfC qual sc s.heap.objs.size f cdv)) → A.guards = some [] →
      DS (cxG P w K mg base N qual sc f cdv A outer s H E) st1 f1 ∧ DS (cxG P w K mg base N qual sc f cdv A outer s H E) st2 f2 ∧ PS (cxG P w K mg base N qual sc f cdv A outer s H E) st3 (SlX.sSl K (tVar 0) (tVar 1) fn1) ∧ PS (cxG P w K mg base N qual sc f cdv A outer s H E) st4 (SlX.sSl K (tVar 0) (tVar 2) fn0))
    (cl : SlX.SCls K C) (s1 : SlX.Slot1 K C fn1 p1 1) (s0 : SlX.Slot1 K C fn0 p0 0)
    (hok : ∀ (a : Addr) (d1 d2 : Dv.D), ok d1 d2 = true → f1 [some (.im (.ref a)), some (.im d1), some (.im d2)] = .ok .nx [some (.im (.ref a)), some (.im d1), some (.im d2)] ∧ f2 [some (.im (.ref a)), some (.im d1), some (.im d2)] = .ok .nx [some (.im (.ref a)), some (.im d1), some (.im d2)]) :
    FnG P w K mg base CX0 (k + 1) f fd ps (spMk ⟨K, mg, P, w⟩ C ok) :=
  fnG_of D S (fun vs H Q E q => by
    obtain ⟨_, _, _, _, _, _, _, rfl, _⟩ := q
    rw [lp]; rfl) fun cdv A outer s H E hr gd vs Q q => by
    obtain ⟨Z, a, dx, v1, v2, d1, d2, rfl, z, ha, ne, r1, r2, hk, qq⟩ := q
    obtain ⟨h1, h2, h3, h4⟩ := h cdv A outer s H E hr gd
    obtain ⟨e1, e2⟩ := hok a d1 d2 hk
    have hst : L2.start N [V.ref a, v1, v2] = [some (.ref a), some v1, some v2] := by
      unfold L2.start
      rw [ln]; rfl
    rw [hst]
    exact init_body (X := cxG P w K mg base N qual sc f cdv A outer s H E) h1 h2 h3 h4 cl s1 s0 z ha ne r1 r2 e1 e2 qq
end Dv
namespace Dv
open PySem PySem.Spec PyProof.Rows L2
section
variable {X : Cx} {i j : Nat} {x y f : Str} {pos p1 p2 p3 : Pos}
theorem ps_slot (hN : X.N[i]? = some x) (hv : Vis X.env.scope x) (hM : X.N[j]? = some y) (hw : Vis X.env.scope y) (hd : (x == ("__debug__" : Str)) = false := by decide) (hcd : (x == ("__classdict__" : Str)) = false := by decide) (he : (y == ("__debug__" : Str)) = false := by decide) (hce : (y == ("__classdict__" : Str)) = false := by decide) :
    PS X (.Assign [.Attribute (.Name x p1) f p2] (.Name y p3) pos) (SlX.sSl X.K (tVar i) (tVar j) f) :=
  SlX.ps_sl (pe_var hN hv hd hcd) (pe_var hM hw he hce)
end
end Dv
namespace Dv
open PySem PySem.Spec PyProof.Rows L2
variable [Tbl]
section
variable {X : Cx} {e : Expr} {fa : ES} {c f : Str} {C p g : Addr} {i n : Nat} {pos : Pos}
end
end Dv
namespace Dv
open PySem PySem.Spec PyProof.Rows L2
end Dv
namespace Dv
open PySem PySem.Spec PyProof.Rows L2
variable [Tbl]
section
variable {X : Cx} {CX : CXT} {n : Nat} {C g : Addr} {fd : FuncData} {ps : List Str} {sp : Sp} {E : XK}
end
end Dv
namespace Dv
open PySem PySem.Spec PyProof.Rows L2
variable [Tbl]
section
variable {X : Cx} {c : Str} {n : Nat} {C g : Addr} {fd : FuncData} {ps : List Str} {g2 : FD}
end
end Dv
namespace Dv
open PySem PySem.Spec PyProof.Rows L2
section
variable {X : Cx} {CX : CXT} {n : Nat} {C g : Addr} {sp : Sp} {E : XK}
end
end Dv
namespace Dv
open PySem PySem.Spec PyProof.Rows L2
end Dv
namespace Dv
open PySem PySem.Spec PyProof.Rows L2
variable [Tbl]
section
variable {X : Cx} {c : Str} {n i : Nat} {C g : Addr}
end
end Dv
namespace Dv
open PySem PySem.Spec PyProof.Rows L2
variable [Tbl]
structure Ex where
  cls : Str
  fs : List (Str × D)
def ExOk (G : Gp) (Z : List Addr) (H : Hp) (cls : Value) (d : Option Addr) (x : Ex) : Prop := ∃ C : Addr, G.mg x.cls = some (.ref C) ∧ cls = .ref C ∧ match x.fs with
  | [] => True
  | [(f, y)] => ∃ dd v, d = some dd ∧ H dd = some (.xd [(f, v)]) ∧ RD G (hid Z H) v y
  | _ => False
theorem ExOk.mono {G : Gp} {Z Z' : List Addr} {H : Hp} {cls : Value} {d : Option Addr} {x : Ex} (h : ExOk G Z H cls d x) (e : Same (hid Z H) (hid Z' H)) : ExOk G Z' H cls d x := by
  obtain ⟨C, h1, h2, h3⟩ := h
  refine ⟨C, h1, h2, ?_⟩
  split at h3
  · trivial
  · obtain ⟨dd, v, h4, h5, h6⟩ := h3
    exact ⟨dd, v, h4, h5, h6.mono e⟩
  · exact h3
def tX (G : Gp) (F : Fm) (W : WX) (x : M Ex) : TE := fun σ H _ => ∃ A ρ ex ρ', Sts G F A σ ρ H ∧ x ρ = .ok ex ρ' ∧ ∀ cls d H', Sts G F A σ ρ' H' → Stp A H H' → ExOk G (zs F A) H' cls d ex → W cls d σ H'
def tXs (G : Gp) (F : Fm) (W : WX) (x : M Ex) : TS := fun _ σ H => ∃ A ρ ex ρ', Sts G F A σ ρ H ∧ x ρ = .ok ex ρ' ∧ ∀ cls d A' σ' H', Sts G F A' σ' ρ' H' → Sto A A' H H' → ExOk G (zs F A') H' cls d ex → W cls d σ' H'
def tXm (G : Gp) (F : Fm) (x : M Ex) : St → Hp → XK → Prop := fun σ H Q => ∃ A ρ ex ρ', Sts G F A σ ρ H ∧ x ρ = .ok ex ρ' ∧ ∀ cls d H', Sts G F A σ ρ' H' → Stp A H H' → ExOk G (zs F A) H' cls d ex → Q cls d H'
structure EX (X : Cx) (W : WX) (e : Expr) (x : M Ex) : Prop where
  run : ∀ F, PE X e (tX (Gx X) F W x)
structure SX (X : Cx) (W : WX) (st : Stmt) (x : M Ex) : Prop where
  run : ∀ F, PS X st (tXs (Gx X) F W x)
structure SXs (X : Cx) (W : WX) (sts : List Stmt) (x : M Ex) : Prop where
  run : ∀ F, PSs X sts (tXs (Gx X) F W x)
structure MX (X : Cx) (e : Expr) (x : M Ex) : Prop where
  run : ∀ F, PMk X e (tXm (Gx X) F x)
theorem pss_or {X : Cx} {st : List Stmt} {t u : TS} (h : PSs X st t) (k : PSs X st u) : PSs X st (fun D σ H => t D σ H ∨ u D σ H) := ⟨fun pins s σ H D I q => by
  rcases q with q | q
  · exact h.run pins s σ H D I q
  · exact k.run pins s σ H D I q⟩
theorem pe_or {X : Cx} {e : Expr} {t u : TE} (h : PE X e t) (k : PE X e u) : PE X e (fun D σ H => t D σ H ∨ u D σ H) := ⟨fun pins s σ H D I q => by
  rcases q with q | q
  · exact h.run pins s σ H D I q
  · exact k.run pins s σ H D I q⟩
def xOr (a b : M Ex) : M Ex := fun ρ => match a ρ with
  | .ok e ρ' => .ok e ρ'
  | _ => b ρ
def xNever : M Ex := fun _ => .no
def xIf (g : M Bool) (a b : M Ex) : M Ex := M.bind g fun k => match k with
  | true => a
  | false => b
def xThen (f : SS) (x : M Ex) : M Ex := M.bind f fun fl => match fl with
  | .nx => x
  | _ => xNever
theorem xOr_cases {a b : M Ex} {ρ ρ' : Rho} {ex : Ex} (h : xOr a b ρ = .ok ex ρ') : a ρ = .ok ex ρ' ∨ b ρ = .ok ex ρ' := by
  unfold xOr at h
  split at h
  · rename_i e r q
    cases h
    exact .inl q
  · exact .inr h
section
variable {X : Cx} {W : WX} {e a b : Expr} {es : List Expr} {st : Stmt} {sts body els : List Stmt} {x y : M Ex} {f g h : SS} {fa fb : ES} {fs : M (List RV)} {pos : Pos} {i : Nat}
theorem sxs_never : SXs X W sts xNever := ⟨fun F => ⟨fun pins s σ H D I ⟨A, ρ, ex, ρ', S, e, q⟩ => nomatch e⟩⟩
theorem sxs_or (h : SXs X W sts x) (k : SXs X W sts y) : SXs X W sts (xOr x y) := ⟨fun F => pss_imp (pss_or (h.run F) (k.run F)) fun D σ H ⟨A, ρ, ex, ρ', S, e, q⟩ => by
  rcases xOr_cases e with e | e
  · exact .inl ⟨A, ρ, ex, ρ', S, e, q⟩
  · exact .inr ⟨A, ρ, ex, ρ', S, e, q⟩⟩
theorem pss_false : PSs X sts (fun _ _ _ => False) := ⟨fun pins s σ H D I h => h.elim⟩
theorem sxs_head (h : SX X W st x) : SXs X W (st :: sts) x := ⟨fun F => pss_imp (pss_cons (h.run F) (pss_false (sts := sts))) fun D σ H q => q⟩
theorem sxs_next (h : DS X st f) (k : SXs X W sts x) : SXs X W (st :: sts) (xThen f x) := ⟨fun F => pss_imp (pss_cons (h.run F) (k.run F)) fun D σ H ⟨A, ρ, ex, ρ', S, e, q⟩ => by
  obtain ⟨fl, ρ1, e1, e⟩ := bind_ok e
  refine ⟨A, ρ, S, ?_⟩
  rw [e1]
  cases fl with
  | nx => exact fun A' σ' H' S' m => ⟨A', ρ1, ex, ρ', S', e, fun cls d A2 σ2 H2 S2 m2 r => q cls d A2 σ2 H2 S2 (m.trans m2) r⟩
  | _ => cases e⟩
theorem sx_if {c : Expr} {t : M Bool} (hc : DT X c t) (ha : SXs X W body x) (hb : SXs X W els y) : SX X W (.If c body els pos) (xIf t x y) := ⟨fun F => ps_imp (ps_if (hc.run F) (ha.run F) (hb.run F)) fun D σ H ⟨A, ρ, ex, ρ', S, e, q⟩ => by
  obtain ⟨k, ρ1, e1, e⟩ := bind_ok e
  refine ⟨A, ρ, k, ρ1, S, e1, fun H1 S1 m1 => ?_⟩
  cases k with
  | true =>
    rw [if_pos rfl]
    exact ⟨A, ρ1, ex, ρ', S1, e, fun cls d A2 σ2 H2 S2 m2 r => q cls d A2 σ2 H2 S2 ((Sto.of m1).trans m2) r⟩
  | false =>
    rw [if_neg Bool.false_ne_true]
    exact ⟨A, ρ1, ex, ρ', S1, e, fun cls d A2 σ2 H2 S2 m2 r => q cls d A2 σ2 H2 S2 ((Sto.of m1).trans m2) r⟩⟩
theorem tX_tXs {G : Gp} {F : Fm} {D : Ends} {σ : St} {H : Hp} {Q : VK} (h : tXs G F W x D σ H) : tX G F W x σ H Q := by
  obtain ⟨A, ρ, ex, ρ', S, e, q⟩ := h
  exact ⟨A, ρ, ex, ρ', S, e, fun cls d H' S' m r => q cls d A σ H' S' (Sto.of m) r⟩
theorem sx_expr (h : EX X W e x) (hs : swapsWith e none pos.line X.env = pure false := by rfl) : SX X W (.Expr e pos) x := ⟨fun F => ps_imp (ps_expr (h.run F) hs) fun D σ H q => tX_tXs q⟩
theorem sx_ret (h : EX X W e x) : SX X W (.Return (some e) pos) x := ⟨fun F => ps_imp (ps_ret (h.run F)) fun D σ H q => tX_tXs q⟩
theorem sx_set {n : Str} {pos' : Pos} (hN : X.N.Nodup) (hi : X.N[i]? = some n) (hx : Loc X.env.scope n) (h : EX X W e x) (hs : swapsWith e (some (.Name n pos')) pos.line X.env = pure false := by rfl) (hf : X.fn n = true ∨ X.env.scope.names.lookup n = some .local := by first | exact .inl rfl | exact .inr rfl | assumption) :
    SX X W (.Assign [.Name n pos'] e pos) x := ⟨fun F => ps_imp (ps_set hN hi hx (h.run F) hs hf) fun D σ H q => tX_tXs q⟩
theorem sx_raise (hc : X.calm = true) (tk : Takes X W) (h : MX X e x) : SX X W (.Raise (some e) none pos) x := ⟨fun F => ps_imp (ps_raise hc tk (h.run F)) fun D σ H ⟨A, ρ, ex, ρ', S, e, q⟩ =>
  ⟨A, ρ, ex, ρ', S, e, fun cls d H' S' m r => q cls d A σ H' S' (Sto.of m) r⟩⟩
def xMsg (c : Str) : M Ex := M.ret ⟨c, []⟩
theorem mx_msg {c m : Str} {C : Addr} {j : Nat} {p p2 : Pos} {B newId initId : String} {bmB : List Value} (EF : ExcBaseFacts B newId initId bmB) (q : PySem.W.excIn X.K C bmB newId = true) (gC : X.mg c = some (.ref C)) (kC : PySem.W.keepIn X.K (.ref C) = true)
    (h1 : PySem.W.subIn X.K (.ref C) (.type "BaseException") = some true) (h2 : PySem.W.typeIn X.K (.ref C) = some (.type "type")) (hg : Gl X c) (hdb : (c == ("__debug__" : Str)) = false := by decide) : MX X (.Call (.Name c p) [.Constant (.str m) j p2] [] pos) (xMsg c) := ⟨fun F pins s σ H Q I ⟨A, ρ, ex, ρ', S, e, qq⟩ => by
  obtain ⟨rfl, rfl⟩ := ret_ok e
  exact pmk_own EF q gC kC (raises_own h1 h2) hg hdb pins s σ H Q I (qq _ _ H S (Stp.refl _ _) ⟨C, gC, rfl, trivial⟩)⟩
abbrev FX := List SV → Option (Ex × Outs)
def spX (G : Gp) (g : FX) : Sp := fun vs H _ E => ∃ Z svs B ex outs, (ZOk Z H ∧ LamX.Tabs Tbl.T H) ∧ ArgsOk G Z H 0 vs svs B ∧ (B.map (·.2)).Nodup ∧ g svs = some (ex, outs) ∧
  ∀ cls d H', Stp B H H' ∧ LamX.Tabs Tbl.T H' → OutsOk G Z H' B outs → ExOk G Z H' cls d ex → E cls d H'
def defX (n m : Nat) (x : M Ex) : FX := fun svs => match decide (svs.length = n) with
  | true => (match x (entry m svs) with
    | .ok ex ρ => some (ex, bos ρ)
    | _ => none)
  | false => none
abbrev cxX (P : Program) (w : World) (K : PySem.W.Frag) (mg : Str → Option Value) (base : Heap) (N : List Str) (qual : Str) (sc : Scope) (f : Addr) (cdv : Value) (A : Around) (outer : List Env) (s : Shared) (H : Hp) (E : XK) : Cx := cxOf (L2.CX P w) P w K mg base N qual sc f cdv A outer s H E
theorem spX_len {G : Gp} {n m : Nat} {vs : List V} {H : Hp} {Q : VK} {E : XK} (q : spX G (defX n m x) vs H Q E) : vs.length = n := by
  obtain ⟨Z, svs, B, fr, outs, z, ao, nd, e, k⟩ := q
  unfold defX at e
  split at e
  · rename_i hl
    rw [ao.len]; exact of_decide_eq_true hl
  · cases e
theorem bodyX_ok {N : List Str} {H : Hp} {vs : List V} {Q : VK} {E : XK} {n : Nat} (hn : n ≤ N.length) (h : SXs X (fun cls d _ H' => E cls d H') body x) (q : spX (Gx X) (defX n N.length x) vs H Q E) :
    ∃ t, PSs X body t ∧ t { nx := fun _ H' => Q .non H', rt := Q } (L2.start N vs) H := by
  obtain ⟨Z, svs, B, ex, outs, z, ao, nd, e, k⟩ := q
  unfold defX at e
  split at e
  · rename_i hl
    have hl := of_decide_eq_true hl
    split at e
    · rename_i ex' ρ' e1
      cases e
      refine ⟨_, h.run ⟨H, Z, B⟩, B, entry N.length svs, ex, ρ', Sts.entry ao z nd (by omega), e1, fun cls d A' σ' H' S m r => ?_⟩
      refine k cls d H' ⟨fun a o h n => S.keep a o h n, S.tabs⟩ (fun i a hb => ?_) (r.mono zs_Z)
      obtain ⟨h1, xs, h2⟩ := S.bor i a hb
      obtain ⟨b, h3, h4, _, ws, h5, h6⟩ := S.bo i xs h2
      obtain rfl := (S.uni i i a b h1 h3).mp rfl
      exact ⟨xs, ws, bos_at ρ' i xs h2, h5, h6.mono zs_Z⟩
    · cases e
  · cases e
end
end Dv
namespace Dv
open PySem PySem.Spec PyProof.Rows L2
variable [Tbl]
section
variable {X : Cx} {W : WX} {x : M Ex} {fa : ES} {k : Nat} {f : Addr} {fd : FuncData} {ps : List Str} {g : FX} {c : Str} {p pos : Pos} {e : Expr} {es : List Expr} {t : TA} {fs : M (List RV)}
theorem raised {pins : List (Addr × Obj)} {σ : L2.St} {H : Hp} {s : Shared} {Q : VK} {us : List Value} {vs : List V} {sp : Sp} (h : FnG X.prog X.w X.K X.mg X.base (L2.CX X.prog X.w) k f fd ps sp) (hr : Room k X.A) (gd : X.A.guards = some []) (hb : Binds X.K fd ps []) (tk : Takes X W)
    (I : Inv X pins σ H s) (r : Vals vs us) (q : sp vs H Q (fun cls d H' => W cls d σ H')) : wpAny (model X.prog X.w) X.A (call (.ref f) us) (EP X pins σ Q) X.xe s := by
  have len : us.length = ps.length := r.length ▸ h.len _ _ _ _ q
  have bb := hb s us I.kIn (by rw [List.append_nil]; exact len)
  rw [List.append_nil] at bb
  apply wpAny_call
  apply codeAny_mono (h.go X.A X.stack s H ⟨us, []⟩ us vs Q _ hr gd I.env0 bb r q)
  intro res s' hq
  cases res with
  | error ee => exact tk ee s' (XE.of_call I (fun _ _ _ z => z) hq)
  | ok fl =>
    cases fl with
    | ret u => exact I.after hq
    | _ => exact False.elim hq
def tRaised (sp : Sp) (W : WX) (t : TA) : TE := fun σ H Q => t σ H fun vs H1 => sp vs H1 Q (fun cls d H' => W cls d σ H')
theorem pe_raised {sp : Sp} (h : FnG X.prog X.w X.K X.mg X.base (L2.CX X.prog X.w) k f fd ps sp) (hr : Room k X.A) (gd : X.A.guards = some []) (tk : Takes X W) (hg : Gl X c) (hm : X.mg c = some (.ref f)) (hk : PySem.W.keepIn X.K (.ref f) = true) (hb : Binds X.K fd ps [])
    (ha : PA X (e :: es) t) (hdb : (c == ("__debug__" : Str)) = false := by decide) (he : starEach (e :: es) X.env = (false, eval e X.env) :: starEach es X.env := by rfl) (hpl : (backTo pos (starEach es X.env)).any (·.1) = false := by rfl) :
    PE X (.Call (.Name c p) (e :: es) [] pos) (tRaised sp W t) := by
  constructor
  intro pins s σ H Q I hw
  apply wpAny_Call_Name_kw
  apply ld_glob I hg hm (hd := hdb)
  apply PySem.W.callWith_K (h₀ := X.base) I.ok.mod.kin hk (he := he) (hplain := hpl)
  apply thn (ha.run pos pins s σ H _ I hw)
  rintro us s1 ⟨vs, H1, I1, r, q⟩
  exact ⟨I1.kIn, raised h hr gd hb tk I1 r q⟩
def xCall (g : FX) (rs : List RV) : M Ex := fun ρ => match apart rs with
  | true => match toSVs ρ rs with
    | some svs => match g svs with
      | some (ex, outs) => match putBack outs 0 rs ρ with
        | some ρ' => .ok ex ρ'
        | none => .no
      | none => .no
    | none => .no
  | false => .no
def xUser (g : FX) (fs : M (List RV)) : M Ex := M.bind fs fun rs => xCall g rs
theorem raised_rd {G : Gp} {F : Fm} {A : Own} {σ : L2.St} {ρ ρ' : Rho} {H : Hp} {vs : List V} {rs : List RV} {ex : Ex} {Q : VK} {E : XK} (S : Sts G F A σ ρ H) (r : RRs G F A H vs rs) (e : xCall g rs ρ = .ok ex ρ')
    (q : ∀ cls d H', Sts G F A σ ρ' H' → Stp A H H' → ExOk G (zs F A) H' cls d ex → E cls d H') : spX G g vs H Q E := by
  unfold xCall at e
  split at e
  · rename_i ap
    split at e
    · rename_i svs e1
      split at e
      · rename_i ex' outs e2
        split at e
        · rename_i ρ2 e3
          cases e
          obtain ⟨B, h1, nd, core⟩ := call_core S r ap e1 e3
          exact ⟨zs F A, svs, B, ex, outs, ⟨S.zall, S.tabs⟩, h1, nd, e2, fun cls d H' m o xo => q cls d H' (core H' m o).1 (core H' m o).2 xo⟩
        · cases e
      · cases e
    · cases e
  · cases e
theorem ex_user (h : FnG X.prog X.w X.K X.mg X.base (L2.CX X.prog X.w) k f fd ps (spX (Gx X) g)) (hr : Room k X.A) (gd : X.A.guards = some []) (tk : Takes X W) (hg : Gl X c) (hm : X.mg c = some (.ref f)) (hk : PySem.W.keepIn X.K (.ref f) = true) (hb : Binds X.K fd ps [])
    (ha : DA X (e :: es) fs) (hdb : (c == ("__debug__" : Str)) = false := by decide) (he : starEach (e :: es) X.env = (false, eval e X.env) :: starEach es X.env := by rfl) (hpl : (backTo pos (starEach es X.env)).any (·.1) = false := by rfl) :
    EX X W (.Call (.Name c p) (e :: es) [] pos) (xUser g fs) := ⟨fun F => pe_imp (pe_raised h hr gd tk hg hm hk hb (ha.run F) hdb he hpl) fun σ H Q ⟨A, ρ, ex, ρ', S, e, q⟩ => by
  obtain ⟨rs, ρ1, e1, e⟩ := bind_ok e
  exact ⟨A, ρ, rs, ρ1, S, e1, fun vs H1 S1 m1 r1 => raised_rd S1 r1 e fun cls d H' S' m r => q cls d H' S' (m1.trans m) r⟩⟩
end
theorem fnX_ok {P : Program} {w : World} {K : PySem.W.Frag} {mg : Str → Option Value} {base : Heap} {c qual : Str} {pa : Arguments} {body : List Stmt} {sc : Scope} {f : Addr} {fd : FuncData} {N ps : List Str} {k : Nat} {x : M Ex} (D : FunD K c qual pa body sc [] [] f fd) (S : FnScope N ps sc)
    (h : ∀ (cdv : Value) (A : Around) (outer : List Env) (s : Shared) (H : Hp) (E : XK), Room k (A.deeper (envOfC qual sc s.heap.objs.size f cdv)) → A.guards = some [] → Takes (cxX P w K mg base N qual sc f cdv A outer s H E) (fun cls d _ H' => E cls d H') →
      SXs (cxX P w K mg base N qual sc f cdv A outer s H E) (fun cls d _ H' => E cls d H') body x) :
    FnG P w K mg base (L2.CX P w) (k + 1) f fd ps (spX ⟨K, mg, P, w⟩ (defX ps.length N.length x)) := by
  obtain ⟨oc, od, dV, kV, doc, pm, an, cdv, ct, osl, rfl, lk, hcd, _, _⟩ := D.ex
  refine ⟨fun vs H Q E q => spX_len q, ?_⟩
  intro A outer s H args us vs Q E room gd e0 hb r q
  have hpl : ps.length ≤ N.length := by
    have z := congrArg List.length S.pre
    rw [List.length_take] at z
    omega
  refine LamX.run_ofS (N := N) (ps := ps) lk hcd S room e0 hb r (spX_len q) fun room' => ?_
  exact bodyX_ok hpl (h cdv A outer s H E room' gd (takes_of rfl rfl rfl rfl)) q
end Dv
namespace Dv
open PySem PySem.Spec PyProof.Rows L2
variable [Tbl]
def forX (gg : IV → M Unit) (f : SS) (x : M Ex) : List IV → M Ex
  | [] => xNever
  | d :: ds => M.bind (gg d) fun _ => xOr x (M.bind f fun fl => match fl with
    | .nx => forX gg f x ds
    | .ct => forX gg f x ds
    | _ => xNever)
def xFor (fi : M (List IV)) (gg : IV → M Unit) (f : SS) (x : M Ex) : M Ex := M.bind fi fun ds => forX gg f x ds
section
variable {X : Cx} {W : WX} {x : M Ex} {f : SS} {tg iter : Expr} {body : List Stmt} {pos : Pos}
theorem sx_for {fi : M (List IV)} {gg : IV → M Unit} {sl : List Nat} (hp : PassesOwn (model X.prog X.w) X.A X.env X.xe) (hc : X.calm = true) (hi : DI X tg iter fi) (hg : DG X tg sl gg) (hb : DSs X body f) (hx : SXs X W body x)
    (hs : ∀ y, foldedSetIterable iter X.env y = pure y := by intro _; rfl) : SX X W (.For tg iter body [] pos) (xFor fi gg f x) := ⟨fun F => ps_imp (ps_for hp hc (hi.run F) (hg.run F) (pss_or (hb.run F) (hx.run F)) hs) fun D σ H ⟨A, ρ, ex, ρ', S, e, q⟩ => by
  obtain ⟨ds, ρ1, e1, e⟩ := bind_ok e
  refine ⟨A, ρ, ds, ρ1, S, e1, fun J H1 S1 m1 wk => ?_⟩
  refine ⟨fun i m σ H => ∃ A' ρ2, i ≤ ds.length ∧ m = ds.length - i ∧ Sts (Gx X) F A' σ ρ2 H ∧ Sto A A' H1 H ∧ forX gg f x (ds.drop i) ρ2 = .ok ex ρ', ⟨ds.length, A, ρ1, Nat.zero_le _, by simp, S1, Sto.refl _ _, by simpa using e⟩, ?_⟩
  rintro i m σ2 H2 ⟨A2, ρ2, hi, rfl, S2, m2, o2⟩
  have Wk := wk i H2 (zs F A2) S2.zall m2.hid
  by_cases hlt : i < ds.length
  · obtain ⟨go, yl⟩ := Wk.1 ds[i] (List.getElem?_eq_getElem hlt)
    rw [List.drop_eq_getElem_cons hlt] at o2
    refine .inr ⟨go, fun σ' H' => ∃ A' ρ2, Sts (Gx X) F A' σ' ρ2 H' ∧ Sto A A' H1 H' ∧ forX gg f x (ds.drop (i + 1)) ρ2 = .ok ex ρ', fun σ' H' ⟨A', ρ', a1, a2, a3⟩ => ⟨ds.length - (i + 1), by omega, A', ρ', hlt, rfl, a1, a2, a3⟩, fun y H' hy => ?_⟩
    obtain ⟨smy, rix⟩ := yl y H' hy
    obtain ⟨_, ρ3, e3, o3⟩ := bind_ok o2
    refine ⟨A2, ρ2, ds[i], ρ3, S2.same smy, rix, e3, fun σ3 S3 m3 _ _ => ?_⟩
    have ms : Sto A2 (dropL A2 sl) H2 H' := (Sto.of (Stp.of smy)).trans (Sto.less fun j a h => (mem_dropL.mp h).1)
    rcases xOr_cases o3 with o3 | o3
    · exact .inr ⟨_, ρ3, ex, ρ', S3, o3, fun cls d A4 σ4 H4 S4 m4 r4 => q cls d A4 σ4 H4 S4 (((Sto.of m1).trans (m2.trans ms)).trans m4) r4⟩
    · obtain ⟨fl, ρ4, e4, o5⟩ := bind_ok o3
      refine .inl ⟨_, ρ3, S3, ?_⟩
      rw [e4]
      cases fl with
      | nx => exact fun A' σ' H' S' m' => ⟨A', ρ4, S', (m2.trans ms).trans m', o5⟩
      | ct => exact fun A' σ' H' S' m' => ⟨A', ρ4, S', (m2.trans ms).trans m', o5⟩
      | _ => cases o5
  · have ed : i = ds.length := by omega
    subst ed
    rw [List.drop_length] at o2
    cases o2⟩
end
end Dv
namespace Dv
open PySem PySem.Spec PyProof.Rows PySem.W
def xiBody (f : Str) (p0 p1 p2 p3 p4 p5 p6 p7 p8 p9 : Pos) : List Stmt := [.Expr (.Call (.Attribute (.Call (.Name "super" p0) [] [] p1) "__init__" p2) [.Name f p3] [] p4) p5, .Assign [.Attribute (.Name "self" p6) f p7] (.Name f p8) p9]
theorem xiB_ok {f : Str} {b : FuncBody} (h : xiB f b = true) : ∃ p0 p1 p2 p3 p4 p5 p6 p7 p8 p9, b = .stmts (xiBody f p0 p1 p2 p3 p4 p5 p6 p7 p8 p9) ∧ (p2.endLine == p4.line) = true := by
  unfold xiB at h
  split at h
  · simp only [Bool.and_eq_true, decide_eq_true_eq] at h
    obtain ⟨rfl, rfl, rfl, rfl, rfl, rfl, h⟩ := h
    exact ⟨_, _, _, _, _, _, _, _, _, _, rfl, h⟩
  · cases h
theorem xiP_ok {f : Str} {b : Arguments} (h : xiP f b = true) : ∃ an pos an' pos', b = ⟨[], [⟨"self", an, pos⟩, ⟨f, an', pos'⟩], none, [], [], none, []⟩ := by
  unfold xiP at h
  split at h
  · simp only [Bool.and_eq_true, decide_eq_true_eq] at h
    obtain ⟨rfl, rfl⟩ := h
    exact ⟨_, _, _, _, rfl⟩
  · cases h
structure XiS (f : Str) (sc : Scope) : Prop where
  kind : sc.kind = .function
  co : sc.isCoroutine = false
  gen : sc.isGenerator = false
  cell : ∀ x ∈ sc.names, x.2 ≠ .cell
  self : sc.names.lookup ("self" : Str) = some .local
  arg : sc.names.lookup f = some .local
  sup : sc.names.lookup ("super" : Str) = some .globalImplicit
  cls : sc.names.lookup ("__class__" : Str) = some .free
theorem xiS_ok {f : Str} {sc : Scope} (h : xiS f sc = true) : XiS f sc := by
  unfold xiS at h
  simp only [Bool.and_eq_true, decide_eq_true_eq, Bool.not_eq_true', List.all_eq_true, decide_eq_false_iff_not] at h
  obtain ⟨h1, h2, h3, h4, h5, h6, h7, h8⟩ := h
  exact ⟨h1, h2, h3, h4, h5, h6, h7, h8⟩
structure XiF (K : Frag) (C : Addr) (f file : Str) (fI : Addr) (fd : FuncData) (cc cd : Addr) : Prop where
  lk : ∃ oc od osl, K.lookup fI = some ⟨oc, od, .func fd, osl⟩
  par : xiP f fd.params = true
  body : xiB f fd.body = true
  sc : XiS f fd.scope
  gl : fd.globals = mainGlobals
  bl : fd.builtins = builtinsNs
  df : fd.defaults = .none
  kd : fd.kwdefaults = .none
  code : PySem.W.codeIn K fd.code fd.qualname = true
  clo : fd.closure = [(("__class__" : Str), cc)]
  cell : ∃ a b c, K.lookup cc = some ⟨a, b, .cell (some (.ref C)), c⟩
  cdE : fd.code = .ref cd
  fl : ∃ a b vs c t, K.lookup cd = some ⟨a, b, .fields vs, c⟩ ∧ vs[2]? = some (.str file t)
theorem xiF_ok {K : Frag} {C : Addr} {f file : Str} {fI : Addr} (h : xiF K C f file fI = true) : ∃ fd cc cd, XiF K C f file fI fd cc cd := by
  unfold xiF at h
  split at h
  · rename_i oc od fd osl lk
    simp only [Bool.and_eq_true, decide_eq_true_eq] at h
    obtain ⟨h1, h2, h3, h4, h5, h6, h7, h8, h9, h10⟩ := h
    split at h9
    · rename_i n cc hcl
      obtain ⟨rfl, h9⟩ := Bool.and_eq_true_iff.mp h9 |>.imp of_decide_eq_true id
      split at h9
      · rename_i a b D c hD
        obtain rfl := of_decide_eq_true h9
        split at h10
        · rename_i cd hcd
          split at h10
          · rename_i a' b' vs c' hvs
            split at h10
            · rename_i fl t h2'
              obtain rfl := of_decide_eq_true h10
              exact ⟨fd, cc, cd, ⟨oc, od, osl, lk⟩, h1, h2, xiS_ok h3, h4, h5, h6, h7, h8, hcl, ⟨a, b, c, hD⟩, hcd, ⟨a', b', vs, c', t, hvs, h2'⟩⟩
            · cases h10
          · cases h10
        · cases h10
      · cases h9
    · cases h9
  · cases h
end Dv
namespace Dv
open PySem PySem.Spec PyProof.Rows PySem.W Builtin Builtin.ObjectAttr
structure XcF (K : Frag) (C : Addr) (f : Str) (B newId initId : String) (bmB : List Value) (fI : Addr) : Prop where
  init : PySem.W.findIn K (.ref C) "__init__" = some (some (.ref fI))
  isF : PySem.W.isFn K (.ref fI) = true
  ei : PySem.W.excInitIn K C bmB newId = true
  kp : PySem.W.keepIn K (.ref C) = true
  sa : PySem.W.findIn K (.ref C) "__setattr__" = some (some (.builtin "object.__setattr__"))
  ov : PySem.W.excOver K C bmB = true
  tk : PySem.W.takerIn K C f = some none
  hd : PySem.W.hasDictIn K C = true
  su : PySem.W.subIn K (.ref C) (.type B) = some true
  mr : PySem.W.mroIn K C (.ref C) = some true
  sp : PySem.W.ks_superIn K C C "__init__" = some (some (.builtin initId))
  be : PySem.W.subIn K (.ref C) (.type "BaseException") = some true
  ty : PySem.W.typeIn K (.ref C) = some (.type "type")
  op : PySem.W.nsIn K cStatics "thirdparty.any" = some none
  sn : PySem.W.nsIn K mainGlobals "super" = some none
section
variable {P : Program} {w : World} {A : Around} {E : Value → Shared → Prop} {R : Result → Shared → Prop} {K : Frag} {C : Addr} {f file : Str} {B newId initId : String} {bmB : List Value}
theorem wrap_call {hp : Heap} {g : Array GenState} {dr : Drawn} {t : Nat} {os : OsState} {u e t0 : Addr} {v : Value} {Q : Value → Shared → Prop} (KX : K.In hp) (FB : ExcBaseFacts B newId initId bmB) (q : PySem.W.excInitIn K C bmB newId = true) (hu : hp.get? u = some (kxs_mw initId e)) (he : hp.get? e = some (excObj C t0 none .none))
    (h : ∀ h' t1, (∀ b o, b ≠ e → hp.get? b = some o → h'.get? b = some o) → h'.get? e = some (excObj C t1 none .none) → Q .none ⟨h', g, dr, t, os⟩) :
    wpAny (model P w) A (call (.ref u) [v]) Q E ⟨hp, g, dr, t, os⟩ := by
  obtain ⟨nm, N', qn, bs, bm, hdct, sn, sub, ab, col, dd, k0, k1, k2, k3, k5, hC, hT⟩ := excInit_of KX q
  apply wpAny_call
  apply codeAny_of_tree
  show wpAny (model P w) A.in1 (callAny (.ref u) ⟨[v], []⟩) _ _ _
  unfold callAny
  apply wpAny_bind
  apply wpAny_load hu
  apply KFB.if_so (by rfl)
  apply wpAny_bind
  apply check_bound_init FB.toExcCallFacts hC he rfl
  apply wpAny_pure
  refine ⟨plainId_quiet FB.init.plain _, codeAny_builtin FB.initEntry ?_⟩
  apply exc_init_tree (cls := .ref C) (t0 := t0) (dv := none) (c2 := .none) (c3 := .none) (b4 := .bool false) he (by show 1 ≤ sizeLine; rw [sizeLine_eq]; decide)
  intro h' k1 k2 _
  exact h h' _ k1 k2
theorem put_field {hp : Heap} {g : Array GenState} {dr : Drawn} {t : Nat} {os : OsState} {e t0 : Addr} {v : Value} {Q : Unit → Shared → Prop} {fI : Addr} (KX : K.In hp) (SF : StoreFacts B bmB "object.__setattr__" "object") (X : XcF K C f B newId initId bmB fI) (he : hp.get? e = some (excObj C t0 none .none))
    (h : ∀ h' tk dx, (∀ b o, b ≠ e → hp.get? b = some o → h'.get? b = some o) → hp.objs.size ≤ dx → dx ≠ e → h'.get? e = some (excObj C t0 (some dx) .none) → h'.Ns1 dx (fun y => if y = f then some v else none) → Q () ⟨h', g, dr, tk, os⟩) :
    wpAny (model P w) A (setAttr (.ref e) f v) Q E ⟨hp, g, dr, t, os⟩ := by
  have I : InstAt hp e (excObj C t0 none .none) C none := ⟨he, rfl, rfl, trivial⟩
  apply set_plain KX I X.sa
  apply osa_openX (od := none) SF KX I X.ov X.tk
  intro b
  obtain ⟨cd, hc, hh⟩ := any_some X.hd
  have lc : Looks (model P w) hp (classData C) cd := looks_clsIn KX hc
  have ne : e ≠ hp.objs.size := Nat.ne_of_lt (Heap.lt_size he)
  obtain ⟨a1, a2, a3, a4, a5, a6, a7, a8, a9, a10, a11⟩ := cd
  dsimp only at hh
  subst hh
  show wpAny _ _ (storeInOwnDict (.ref e) (.ref C) (.str f t) f v b) _ _ _
  unfold storeInOwnDict ownDictForStores
  repeat (first | (apply HandSPX.store_in_new) | (with_reducible apply wpAny_loadPart_at he) | (with_reducible apply lc.at) | wp_step)
  · exact ⟨_, #[], _, (Heap.get?_update_ne _ _ _ _ ne.symm).trans (Heap.get?_push_at rfl rfl), rfl, fun x hx => absurd hx (by simp), fun _ => rfl⟩
  · intro h' tk hn hs
    have up : (hp.push { cls := .type "dict", data := .dict #[] }).get? e = some (excObj C t0 none .none) := Heap.get?_push_of_some _ he
    apply h h' tk hp.objs.size
    · intro c o hb ho
      exact (hs.2 c (Nat.ne_of_lt (Heap.lt_size ho))).trans ((Heap.get?_update_ne _ _ _ _ hb).trans (Heap.get?_push_of_some _ ho))
    · exact Nat.le_refl _
    · exact ne.symm
    · exact (hs.2 e ne).trans (Heap.get?_update_self _ up rfl)
    · exact hn
end
end Dv
namespace Dv
open PySem PySem.Spec PyProof.Rows PySem.W
theorem eval_meth1 (o : Expr) (m : Str) (p2 p4 : Pos) (a : Expr) (env : Env) (hs : starEach [a] env = [(false, eval a env)]) (hl : (p2.endLine == p4.line) = true) : eval (.Call (.Attribute o m p2) [a] [] p4) env = (do
      let ov ← attributeBase o m env (eval o env)
      standAt p2.atName
      let (f, first) ← holding [ov] (getMethod ov m (L2.plainOf o env))
      callWith p4 f first (backTo p4 (starEach [a] env)) []) := by
  have e : eval (.Call (.Attribute o m p2) [a] [] p4) env = (do
      let ov ← attributeBase o m env (eval o env)
      standAt p2.atName
      methodCall o m p2 p4 env ov 1 (backTo p4 (starEach [a] env)) (backToKw p4 (keywordEach [] env))) := by rfl
  rw [e]
  simp only [L2.mcall_line (o := o) (m := m) (env := env) (n := 1) (args := backTo p4 (starEach [a] env)) (kws := backToKw p4 (keywordEach [] env)) (by rw [hs]; rfl) hl]
  rfl
section
variable {P : Program} {w : World} {A : Around} {R : Result → Shared → Prop} {K : Frag} {C : Addr} {f file : Str} {B newId initId : String} {bmB : List Value}
theorem own_init {s : Shared} {fI cc cda e t0 : Addr} {fd : FuncData} {v : Value} {mg mb : Str → Option Value} (X : XcF K C f B newId initId bmB fI) (D : XiF K C f file fI fd cc cda) (KF : KxsFacts B initId) (FB : ExcBaseFacts B newId initId bmB) (SF : StoreFacts B bmB "object.__setattr__" "object")
    (hbd : ∀ (nm qual : Str) (an1 an2 : Option Expr) (ps1 ps2 : Pos) (bd : List Stmt) (sc : Scope) (cl : List (Str × Addr)) (doc pm : Value) (an : Option Addr) (cd ct u v : Value), bindArgs (fnX nm qual ⟨[], [⟨"self", an1, ps1⟩, ⟨f, an2, ps2⟩], none, [], [], none, []⟩ bd sc cl .none .none doc pm an cd ct) ⟨[u, v], []⟩ = pure [(("self" : Str), u), (f, v)])
    (hfd : (f == ("__debug__" : Str)) = false) (hf : (f == ("self" : Str)) = false) (hfile : ((P.main.file : Str) == file) = true) (htop : (P.main.scope.names.lookup ("super" : Str)).isSome = false)
    (KX : K.In s.heap) (gn : s.heap.Ns mainGlobals mg) (bn : s.heap.Ns builtinsNs mb) (bs : mb "super" = bootBuiltins "super") (nl : s.heap.NoLimit) (room : A.depth < recursionLimit) (nK : K.lookup e = none) (he : s.heap.get? e = some (excObj C t0 none .none))
    (h : ∀ h' tk dx t1, (∀ b o, b ≠ e → s.heap.get? b = some o → h'.get? b = some o) → s.heap.objs.size ≤ dx → dx ≠ e → h'.get? e = some (excObj C t1 (some dx) .none) → h'.Ns1 dx (fun y => if y = f then some v else none) → R (.ok (.ret .none)) ⟨h', s.gens, s.drawn, tk, s.os⟩) :
    codeAny (model P w) A (.call (.ref fI) ⟨[.ref e, v], []⟩) R s := by
  obtain ⟨lk, par, body, sc, gl, bl, df, kd, code, clo, ⟨ca, cb, cdt, lcc⟩, cdE, ⟨fa', fb', vs, fc', ft, lcd, hvs⟩⟩ := D
  obtain ⟨oc, od, osl, lk⟩ := lk
  obtain ⟨nm, qual, params, bd, scope, glo, closure, dfl, kdf, doc, pm, an, cdv, ct, blt⟩ := fd
  dsimp only at par body sc gl bl df kd code clo cdE
  subst gl bl df kd clo cdE
  obtain ⟨p0, p1, p2, p3, p4, p5, p6, p7, p8, p9, rfl, hline⟩ := xiB_ok body
  obtain ⟨an1, ps1, an2, ps2, rfl⟩ := xiP_ok par
  obtain ⟨hk, hco, hgen, hcell, hself, harg, hsup, hcls⟩ := sc
  obtain ⟨sk, sn, sg, sco, sm⟩ := scope
  dsimp only at hk hco hgen hcell hself harg hsup hcls
  subst hk hco hgen
  have nef : f ≠ ("self" : Str) := fun z => by rw [z] at hf; simp at hf
  have hbind : BindsTo s (fnX nm qual ⟨[], [⟨"self", an1, ps1⟩, ⟨f, an2, ps2⟩], none, [], [], none, []⟩ (xiBody f p0 p1 p2 p3 p4 p5 p6 p7 p8 p9) ⟨.function, sn, false, false, sm⟩ [(("__class__" : Str), cc)] .none .none doc pm an (.ref cda) ct) ⟨[.ref e, v], []⟩ [("self", .ref e), (f, v)] := .of_eq (hbd _ _ _ _ _ _ _ _ _ _ _ _ _ _ _ _)
  refine ks_codeAny_call_defAt (fd := fnX nm qual ⟨[], [⟨"self", an1, ps1⟩, ⟨f, an2, ps2⟩], none, [], [], none, []⟩ (xiBody f p0 p1 p2 p3 p4 p5 p6 p7 p8 p9) ⟨.function, sn, false, false, sm⟩ [(("__class__" : Str), cc)] .none .none doc pm an (.ref cda) ct)
    (body := xiBody f p0 p1 p2 p3 p4 p5 p6 p7 p8 p9) (binds := [("self", .ref e), (f, v)]) room (KX _ _ lk) rfl nl (codeRec_of KX code) rfl hbind hcell (fun x hx => ?_) (fun h1 hns hk1 => ?_) rfl rfl rfl
  · rcases List.mem_cons.mp hx with rfl | hx
    · exact hself
    · rcases List.mem_cons.mp hx with rfl | hx
      · exact harg
      · cases hx
  · have K1 : K.In h1 := KX.keeps hk1
    have G1 := gn.keeps hk1
    have B1 := bn.keeps hk1
    have e1 := hk1 _ _ he
    have vself : (fun x => List.lookup x (List.reverse [(("self" : Str), Value.ref e), (f, v)])) ("self" : Str) = some (.ref e) := by
      have hf2 : (("self" : Str) == f) = false := by
        rw [Bool.eq_false_iff]
        intro z
        exact nef (eq_of_beq z).symm
      show (match (("self" : Str) == f) with | true => some v | false => List.lookup ("self" : Str) [(("self" : Str), Value.ref e)]) = _
      rw [hf2]
      simp [List.lookup]
    have varg : (fun x => List.lookup x (List.reverse [(("self" : Str), Value.ref e), (f, v)])) f = some v := by
      simp [List.lookup]
    apply ks_wpAt_execs_cons
    refine ks_wpAt_Expr_any ?_ rfl rfl
    refine ks_wpAt_MethodCall (he := eval_meth1 _ _ _ _ _ _ rfl hline) ?_
    · have nLe : s.heap.objs.size ≠ e := Nat.ne_of_gt (Heap.lt_size he)
      apply ks_wpAt_super_base (env := ksEnv qual ⟨.function, sn, false, false, sm⟩ s.heap.objs.size fI (.ref cda) cc) hsup hcls (by decide) rfl (K1 _ _ lk) rfl rfl rfl (K1 _ _ lcd) rfl hvs hfile htop
      apply ks_loadName_global (env := ksEnv qual ⟨.function, sn, false, false, sm⟩ s.heap.objs.size fI (.ref cda) cc) rfl hsup
      apply PySem.Calls.loadGlobal_builtin (env := ksEnv qual ⟨.function, sn, false, false, sm⟩ s.heap.objs.size fI (.ref cda) cc) G1 (mg_none_of KX gn X.sn) B1 (bs.trans Boot.«super»)
      refine ⟨rfl, ?_⟩
      apply wpAny_loadName_free (env := ksEnv qual ⟨.function, sn, false, false, sm⟩ s.heap.objs.size fI (.ref cda) cc) rfl hcls rfl ⟨_, K1 _ _ lcc, rfl⟩
      apply wpAny_loadName_local (env := ksEnv qual ⟨.function, sn, false, false, sm⟩ s.heap.objs.size fI (.ref cda) cc) rfl hself hns vself
      obtain ⟨cdC, hC⟩ : ∃ cdC, clsIn K C = some cdC := by
        obtain ⟨cdC, hC, _⟩ := any_some X.hd
        exact ⟨cdC, hC⟩
      obtain ⟨oC, hC1, hC2⟩ : ∃ oC, h1.get? C = some oC ∧ oC.data = .cls cdC := by
        unfold clsIn at hC
        split at hC
        · rename_i c0 d0 cd0 sl0 ho
          cases hC
          exact ⟨_, K1 _ _ ho, rfl⟩
        · cases hC
      apply ks_wpAny_isType_cls hC1 hC2
      refine ⟨rfl, ?_⟩
      apply ks_wpAny_call_super hC1 hC2 e1 rfl (fun c z => nomatch z) (looks_mroIn K1 X.mr)
      intro h2 hso hk2
      have K2 : K.In h2 := K1.keeps hk2
      have e2 := hk2 _ _ e1
      have nC : e ≠ C := fun z => by
        rw [z, hC1] at e1
        cases e1
        cases hC2
      have sp := X.sp
      unfold ks_superIn at sp
      rw [hC] at sp
      have hI : Looks (model P w) h2 (isInstance (.ref e) (.type B)) true := (show InstAt h2 e (excObj C t0 none .none) C none from ⟨e2, rfl, rfl, trivial⟩).type.andThen (looks_subIn K2 X.su)
      apply kxs_getMethod KF hso (looks_opaque K2 X.op) (l₀ := cdC.mro) (fun A Q E s k q => wpAny_bind ((looks_clsIn K2 hC) A _ E s k (wpAny_pure q))) rfl K2 sp hI nC (by decide)
      have e3 : (h2.push (kxs_mw initId e)).get? e = some (excObj C t0 none .none) := Heap.get?_push_of_some _ e2
      have hs3 : (starEach [Expr.Name f p3] (ksEnv qual ⟨.function, sn, false, false, sm⟩ s.heap.objs.size fI (.ref cda) cc)) = (false, eval (Expr.Name f p3) (ksEnv qual ⟨.function, sn, false, false, sm⟩ s.heap.objs.size fI (.ref cda) cc)) :: starEach [] (ksEnv qual ⟨.function, sn, false, false, sm⟩ s.heap.objs.size fI (.ref cda) cc) := rfl
      have k3 : ∀ b o, h1.get? b = some o → (h2.push (kxs_mw initId e)).get? b = some o := fun b o z => Heap.get?_push_of_some _ (hk2 b o z)
      have ns3 := hns.keeps k3
      have ld : ∀ {Q : Value → Shared → Prop} {E : Value → Shared → Prop} {A' : Around} {hp : Heap} {g : Array GenState} {dr : Drawn} {tk : Nat} {os : OsState} {pp : Pos}, hp.Ns s.heap.objs.size (fun x => List.lookup x (List.reverse [(("self" : Str), Value.ref e), (f, v)])) → Q v ⟨hp, g, dr, tk, os⟩ → wpAny (model P w) A' (eval (.Name f pp) (ksEnv qual ⟨.function, sn, false, false, sm⟩ s.heap.objs.size fI (.ref cda) cc)) Q E ⟨hp, g, dr, tk, os⟩ := fun hn q => wpAny_Name (wpAny_loadName_local rfl harg hn varg q) hfd
      have ls : ∀ {Q : Value → Shared → Prop} {E : Value → Shared → Prop} {A' : Around} {hp : Heap} {g : Array GenState} {dr : Drawn} {tk : Nat} {os : OsState} {pp : Pos}, hp.Ns s.heap.objs.size (fun x => List.lookup x (List.reverse [(("self" : Str), Value.ref e), (f, v)])) → Q (.ref e) ⟨hp, g, dr, tk, os⟩ → wpAny (model P w) A' (eval (.Name "self" pp) (ksEnv qual ⟨.function, sn, false, false, sm⟩ s.heap.objs.size fI (.ref cda) cc)) Q E ⟨hp, g, dr, tk, os⟩ := fun hn q => wpAny_Name (wpAny_loadName_local rfl hself hn vself q) (by decide)
      refine kxs_callWith (i := initId) (x := e) (by rfl) ?_
      refine PySem.Calls.evalArgs_plain (PySem.Calls.spliced_cons (ld ns3 (PySem.Calls.spliced_nil ⟨Heap.get?_push_size _ rfl, ?_⟩)))
      refine wrap_call (K2.keeps fun b o z => Heap.get?_push_of_some _ z) FB X.ei (Heap.get?_push_size _ rfl) e3 fun h4 t1 k4 e4 => ?_
      have K4 : K.In h4 := fun b o z => k4 b o (fun y => by rw [y, nK] at z; cases z) (K2.keeps (fun b o z => Heap.get?_push_of_some (h := h2) (kxs_mw initId e) z) b o z)
      have ns4 : h4.Ns s.heap.objs.size (fun x => List.lookup x (List.reverse [(("self" : Str), Value.ref e), (f, v)])) := by
        obtain ⟨oL, es, ep, hL, r⟩ := ns3
        exact ⟨oL, es, ep, k4 _ _ nLe hL, r⟩
      apply ks_wpAt_execs_cons
      refine ks_wpAt_Assign_Attr (wpAt_of_wpAny (ld ns4 (ls ns4 (put_field K4 SF X e4 fun h5 tk5 dx k5 g5 n5 e5 d5 => ?_)))) rfl
      refine wpAt_of_wpAny (wpAny_execs_nil ?_)
      have gL : s.heap.objs.size < h4.objs.size := by
        obtain ⟨oL, es, ep, hL, r⟩ := ns4
        exact Heap.lt_size hL
      exact h h5 tk5 dx t1 (fun b o nb z => k5 b o nb (k4 b o nb (k3 b o (hk1 b o z)))) (Nat.le_trans (Nat.le_of_lt gL) g5) n5 e5 d5
end
end Dv
namespace Dv
open PySem PySem.Spec PyProof.Rows L2
variable [Tbl]
def xNew (c f : Str) (fa : ES) : M Ex := M.bind fa fun r => M.bind (imm r) fun d => M.ret ⟨c, [(f, d)]⟩
structure NewE (P : Program) (K : PySem.W.Frag) (mg : Str → Option Value) (c f : Str) (C : Addr) : Prop where
  ex : ∃ (file : Str) (B newId initId : String) (bmB : List Value) (fI cc cda : Addr) (fd : FuncData), XcF K C f B newId initId bmB fI ∧ XiF K C f file fI fd cc cda ∧ PySem.W.KxsFacts B initId ∧ ExcBaseFacts B newId initId bmB ∧ StoreFacts B bmB "object.__setattr__" "object" ∧ ((P.main.file : Str) == file) = true
  bd : ∀ (nm qual : Str) (an1 an2 : Option Expr) (ps1 ps2 : Pos) (bd : List Stmt) (sc : Scope) (cl : List (Str × Addr)) (doc pm : Value) (an : Option Addr) (cd ct u v : Value), bindArgs (PySem.W.fnX nm qual ⟨[], [⟨"self", an1, ps1⟩, ⟨f, an2, ps2⟩], none, [], [], none, []⟩ bd sc cl .none .none doc pm an cd ct) ⟨[u, v], []⟩ = pure [(("self" : Str), u), (f, v)]
  dbg : (f == ("__debug__" : Str)) = false
  slf : (f == ("self" : Str)) = false
  top : (P.main.scope.names.lookup ("super" : Str)).isSome = false
  gC : mg c = some (.ref C)
theorem rel_one {f : Str} {y : V} {v : Value} (r : RelV y v) (g : Str) : RelO (List.lookup g [(f, y)]) (if g = f then some v else none) := by
  by_cases z : g = f
  · subst z
    rw [if_pos rfl]
    simp [List.lookup]
    exact r
  · rw [if_neg z]
    have : (g == f) = false := by rw [Bool.eq_false_iff]; intro q; exact z (eq_of_beq q)
    simp [List.lookup, this]
    trivial
section
variable {X : Cx} {k : Nat} {c f : Str} {C : Addr} {a : Expr} {fa : ES} {p pos : Pos}
theorem mx_new (T : NewE X.prog X.K X.mg c f C) (hr : Room (k + 1) X.A) (ha : DE X a fa) (hg : Gl X c) (hdb : (c == ("__debug__" : Str)) = false := by decide) (hst : starEach [a] X.env = [(false, eval a X.env)] := by rfl) (hpl : (backTo pos (starEach [] X.env)).any (·.1) = false := by rfl) : MX X (.Call (.Name c p) [a] [] pos) (xNew c f fa) := ⟨fun F pins s σ H Q I ⟨A, ρ, ex, ρ', S, e, qq⟩ => by
  obtain ⟨r, ρ1, e1, e⟩ := bind_ok e
  obtain ⟨d, ρ2, e2, e⟩ := bind_ok e
  obtain ⟨rfl, rfl⟩ := imm_ok e2
  obtain ⟨rfl, rfl⟩ := ret_ok e
  obtain ⟨⟨file, B, newId, initId, bmB, fI, cc, cda, fd, XC, XI, KF, FB, SF, hfile⟩, bd, dbg, slf, top, gC⟩ := T
  refine wpAny_Call_Name_kw (ld_glob I hg gC ?_ hdb)
  refine PySem.W.callWith_K (h₀ := X.base) I.ok.mod.kin XC.kp ?_ hst hpl
  refine thn ((pa_cons (ha.run F) pa_nil (by rw [hst]; rfl)).run pos pins s σ H (fun vs H1 => ∃ v, vs = [v] ∧ Sts (Gx X) F A σ ρ1 H1 ∧ Stp A H H1 ∧ RR (Gx X) F A H1 v (.im d)) I ⟨A, ρ, _, ρ1, S, e1, fun v H1 S1 m1 r1 => ⟨v, rfl, S1, m1, r1⟩⟩) fun us s1 ⟨vs, H1, I1, rv, v, ev, S1, m1, r1⟩ => ?_
  subst ev
  refine ⟨I1.kIn, ?_⟩
  cases rv with
  | @cons _ u _ us' ru rn =>
    cases rn
    obtain ⟨hp, g, dr, tk, os⟩ := s1
    obtain ⟨nm, N', qn, bs, bm, hdct, sn, sub, ab, col, dd, k0, k1, k2, k3, k5, hC, hT⟩ := PySem.W.excInit_of I1.kIn XC.ei
    have kk : ∀ b o, hp.get? b = some o → ((hp.push (PySem.W.kdv_tup [u])).push (PySem.HandSPX.excO C hp.objs.size)).get? b = some o := fun b o z => Heap.get?_push_of_some _ (Heap.get?_push_of_some _ z)
    have hget : ((hp.push (PySem.W.kdv_tup [u])).push (PySem.HandSPX.excO C hp.objs.size)).get? (hp.objs.size + 1) = some (PySem.HandSPX.excO C hp.objs.size) := by heap_get
    have nK : X.K.lookup (hp.objs.size + 1) = none := by
      cases z : X.K.lookup (hp.objs.size + 1) with
      | none => rfl
      | some o =>
        have y := Heap.lt_size (I1.kIn _ _ z)
        exact absurd y (Nat.not_lt.mpr (Nat.le_succ _))
    apply wpAny_call
    apply PySem.HandSPX.call_own FB hT hC (PySem.W.looks_findIn I1.kIn XC.init) (fun self => PySem.W.bind_fn I1.kIn self (beq_iff_eq.mp XC.isF)) (by show 1 ≤ sizeLine; rw [sizeLine_eq]; decide)
    obtain ⟨mb, hmb1, hmb2⟩ := I1.mod.blt
    refine own_init XC XI KF FB SF bd dbg slf hfile top (I1.kIn.keeps kk) ((I1.mod.glob.keeps I1.bk).keeps kk) ((hmb1.keeps I1.bk).keeps kk) (hmb2 _ (by decide)) (I1.nolimit.keeps kk) (hr.make C [u] []).depth nK hget fun h' tk' dx t1 k' hge hne he' hns => ?_
    have hsz : ((hp.push (PySem.W.kdv_tup [u])).push (PySem.HandSPX.excO C hp.objs.size)).objs.size = hp.objs.size + 2 := by rw [Heap.size_push, Heap.size_push]
    have hge2 : hp.objs.size ≤ dx := Nat.le_trans (show hp.objs.size ≤ ((hp.push (PySem.W.kdv_tup [u])).push (PySem.HandSPX.excO C hp.objs.size)).objs.size by rw [hsz]; exact Nat.le_add_right _ _) hge
    have hdx : H1 dx = none := I1.hok.fresh hge2
    have hea : H1 (hp.objs.size + 1) = none := I1.hok.fresh (Nat.le_succ _)
    obtain ⟨G, g1, g2⟩ := restrict h' fun b => decide (b ≠ hp.objs.size + 1)
    have gk : ∀ b, b ≠ hp.objs.size + 1 → G.get? b = h'.get? b := fun b hb => g1 b (decide_eq_true hb)
    have ge : G.get? (hp.objs.size + 1) = none := g2 _ (by simp)
    have nb : ∀ b o, hp.get? b = some o → b ≠ hp.objs.size + 1 := fun b o z => Nat.ne_of_lt (Nat.lt_succ_of_lt (Heap.lt_size z))
    have kG : ∀ b o, hp.get? b = some o → G.get? b = some o := fun b o z => (gk b (nb b o z)).trans (k' b o (nb b o z) (kk b o z))
    have okd : ObjOk X.prog X.w (upd H1 dx (.xd [(f, v)])) G dx (.xd [(f, v)]) := ⟨_, hns.at fun o y => (gk dx hne).trans y, rel_one ru⟩
    have J := I1.laid (t' := tk') (a := dx) (o := .xd [(f, v)]) (h' := G) kG hge2 okd
    have sm := Same.of_new (o := HO.xd [(f, v)]) hdx
    refine ⟨rfl, hp.objs.size + 1, _, _, _, _, .ref C, some dx, rfl, J, fun b o z => ?_, ge, he', ⟨rfl, rfl⟩, rfl, rfl, ?_, rfl, I1.bare, raises_own XC.be XC.ty, qq (.ref C) (some dx) _ (S1.same sm) (m1.trans (Stp.of sm)) ⟨C, gC, rfl, dx, v, rfl, upd_same, RD.mono (Same.hid sm) r1⟩⟩
    · by_cases hb : b = hp.objs.size + 1
      · rw [hb, ge] at z
        cases z
      · exact (gk b hb).symm.trans z
    · rw [upd_ne (fun z => hne z.symm)]
      exact hea⟩
end
end Dv
namespace Dv
open PySem PySem.Spec PyProof.Rows L2
abbrev Clause := Value × Option Nat × (Addr → Value → Option Addr → TS)
def named (i : Nat) (D : Ends) : Ends := { nx := fun σ' H' => D.nx (σ'.set i none) H', rt := D.rt, bk := fun σ' H' => D.bk (σ'.set i none) H', ct := fun σ' H' => D.ct (σ'.set i none) H' }
def runCl (D : Ends) (q : Clause) (a : Addr) (cls : Value) (d : Option Addr) (σ : L2.St) (H : Hp) : Prop := match q.2.1 with
  | none => q.2.2 a cls d D σ H
  | some i => q.2.2 a cls d (named i D) (σ.set i (some (.ref a))) H
def wCl (K : PySem.W.Frag) (Wout : WX) (D : Ends) : List Clause → WX
  | [] => Wout
  | q :: r => fun cls d σ H => ∃ b, PySem.W.exmOne K cls q.1 = some b ∧ (b = true → ∀ a, H a = none → runCl D q a cls d σ H) ∧ (b = false → wCl K Wout D r cls d σ H)
inductive Cls (X : Cx) : List ExceptHandler → List Clause → Prop
  | nil : Cls X [] []
  | plain {x : Str} {c : Value} {ts : Addr → Value → Option Addr → TS} {b₀ : Stmt} {su : List Stmt} {np p' : Pos} {hds : List ExceptHandler} {l : List Clause} : Names X x c →
      (∀ (a : Addr) (oe : Obj) (cls : Value) (d : Option Addr) (pn : List (Addr × Obj)), Zc cls d oe → (∃ vs, oe.data = .fields vs) → PSs (X.suite a ((a, oe) :: pn)) (b₀ :: su) (ts a cls d)) → Cls X hds l →
      Cls X (.ExceptHandler (some (.Name x np)) none (b₀ :: su) p' :: hds) ((c, none, ts) :: l)
  | named {x n : Str} {i : Nat} {c : Value} {ts : Addr → Value → Option Addr → TS} {b₀ : Stmt} {su : List Stmt} {np p' : Pos} {hds : List ExceptHandler} {l : List Clause} : Names X x c → X.N.Nodup → X.N[i]? = some n → X.env.kindOf n = some .local →
      (∀ (a : Addr) (oe : Obj) (cls : Value) (d : Option Addr) (pn : List (Addr × Obj)), Zc cls d oe → (∃ vs, oe.data = .fields vs) → PSs (X.suite a ((a, oe) :: pn)) (b₀ :: su) (ts a cls d)) → Cls X hds l →
      Cls X (.ExceptHandler (some (.Name x np)) (some n) (b₀ :: su) p' :: hds) ((c, some i, ts) :: l)
structure Aloft (X : Cx) (pins : List (Addr × Obj)) (a : Addr) (cls : Value) (d : Option Addr) (σ : L2.St) (H : Hp) (s : Shared) : Prop where
  ex : ∃ (B : Heap) (sI : Shared), HandSPX.FlyingZ B (X.env :: X.outer) a (Zc cls d) s.heap ∧ L2.Inv X pins σ H sI ∧ (∀ b o, sI.heap.get? b = some o → b ∉ frs X.stack → B.get? b = some o) ∧ sI.heap.UpToSlots s.heap ∧ s.os = sI.os ∧ AllBare s.gens
  na : H a = none
section
variable {X : Cx} {pins : List (Addr × Obj)} {a : Addr} {cls : Value} {d : Option Addr} {σ : L2.St} {H : Hp} {s : Shared}
theorem Aloft.inv (x : Aloft X pins a cls d σ H s) : L2.Inv X pins σ H s := by
  obtain ⟨⟨B, sI, fl, J, nb, up, os, ag⟩, na⟩ := x
  exact J.landed nb fl.1 up os ag
theorem Aloft.obj (hf : X.env.frame = some X.env.locals) (x : Aloft X pins a cls d σ H s) : ∃ oe vs, s.heap.get? a = some oe ∧ Zc cls d oe ∧ oe.data = .fields vs ∧ a ≠ X.env.locals ∧ a ∉ X.fs := by
  obtain ⟨⟨B, sI, fl, J, nb, up, os, ag⟩, na⟩ := x
  obtain ⟨oe, vs, he, hz, hd⟩ := fl.there
  have no : a ∉ frs (X.env :: X.outer) := fun hm => by
    obtain ⟨_, o', e', hnf⟩ := fl.2.2.1.mem hm
    rw [he] at e'
    cases e'
    exact hnf _ hd
  refine ⟨oe, vs, he, hz, hd, fun z => no ?_, fun z => no ?_⟩
  · exact List.mem_filterMap.mpr ⟨X.env, List.mem_cons_self, hf.trans (congrArg some z.symm)⟩
  · obtain ⟨e, h1, h2⟩ := List.mem_filterMap.mp z
    exact List.mem_filterMap.mpr ⟨e, List.mem_cons_of_mem _ h1, h2⟩
theorem Aloft.again {Q : Unit → Shared → Prop} {E : Value → Shared → Prop} {A : Around} (x : Aloft X pins a cls d σ H s) (q : ∀ s', Aloft X pins a cls d σ H s' → Q () s') : wpAny (model X.prog X.w) A (setFlight (.ref a) none) Q E s := by
  obtain ⟨⟨B, sI, fl, J, nb, up, os, ag⟩, na⟩ := x
  exact HandSPX.lands_againZ fl fun h' fl' up' => q _ ⟨⟨B, sI, fl', J, nb, up.trans up', os, ag⟩, na⟩
theorem aloft_land {Q : Unit → Shared → Prop} {E : Value → Shared → Prop} {W : WX} {pn : List (Addr × Obj)} {xe : Value → Shared → Prop} {u : Value} (ok : X.Ok) (hs : X.stack = X.env :: X.outer) (hf : X.env.frame = some X.env.locals) (x : XE (X.tr (X.pn ++ pins) xe) W u s)
    (q : ∀ a cls d σ H s', u = .ref a → Aloft X pins a cls d σ H s' → W cls d σ H → Q () s') :
    wpAny (model X.prog X.w) X.A (noteFrame u X.env) (fun _ s2 => wpAny (model X.prog X.w) X.A (setFlight u none) Q E s2) E s := by
  obtain ⟨a, B, sI, pins', σ', H', cls, d, rfl, J', nb, up, sky, na, os, ag, w⟩ := x
  have sk : Sky B (X.env :: X.outer) a (Zc cls d) X.env.locals s.heap := hs ▸ sky
  exact Sky.land Zc.steady (ok.frames.trans (by rw [hs])) hf sk fun h3 fl up3 => q a cls d σ' H' _ rfl ⟨⟨B, sI, fl, J'.ofTry ok, nb, up.trans up3, os, ag⟩, na⟩ w
theorem clauses {D : Ends} {Wout : WX} (ok : X.Ok) (hs : X.stack = X.env :: X.outer) (hf : X.env.frame = some X.env.locals) (tk : Takes X Wout) {hds : List ExceptHandler} {l : List Clause} (hc : Cls X hds l) :
    Aloft X pins a cls d σ H s → wCl X.K Wout D l cls d σ H → wpAny (model X.prog X.w) X.A (handleBy (.ref a) X.env hds) (SP X pins D) X.xe s := by
  induction hc with
  | nil =>
    intro x w
    apply wpAny_handleBy_nil
    obtain ⟨⟨B, sI, fl, J, nb, up, os, ag⟩, na⟩ := x
    obtain ⟨_, _, _, oe, vs, T, oT, ts', he, hz, hd, h1, _⟩ := id fl
    unfold PySem.passOn
    apply wpAny_bind
    apply wpAny_field he hd h1
    rw [if_neg (show ¬ ((Value.ref T == Value.none) = true) from by simp)]
    have fin : wpAny (model X.prog X.w) X.A (setFlight (.ref a) X.env.frame) (fun _ s4 => wpAny (model X.prog X.w) X.A (throw (.ref a) : Sem Flow) (SP X pins D) X.xe s4) X.xe s := by
      rw [hf]
      apply HandSPX.setFlight_upZ fl
      intro h4 hh4 up4
      apply wpAny_throw
      apply tk
      exact ⟨a, B, sI, pins, σ, H, cls, d, rfl, J, nb, up.trans up4, .inr (.inr (hs ▸ hh4)), na, os, ag, w⟩
    first
      | exact wpAny_bind (wpAny_pure (wpAny_bind fin))
      | exact wpAny_bind fin
  | @plain x c ts b0 su np p' hds2 l2 hn hsu _ ih =>
    intro al w
    obtain ⟨b, hb, hyes, hno⟩ := w
    obtain ⟨oe, vs, he, hz, hd, nL, nF⟩ := al.obj hf
    have I3 := al.inv
    have S3 := I3.suite he hd al.na nL nF
    refine wpAny_handleBy_cons (codeAny_handlers_test ?_) (fun q => nomatch q)
    have lt : PySem.W.Looks (model X.prog X.w) s.heap (typeOf (.ref a)) cls := fun A Q E s k q => wpAny_typeOf_ref (k _ _ he) (hz.1.symm ▸ q)
    have lm := PySem.W.exm_one (M := model X.prog X.w) I3.kIn lt hb
    have goal : wpAny (model X.prog X.w) (X.A.mark (some (.ref a))) (eval (.Name x np) X.env) (fun v s' => v = c ∧ s' = s) (fun _ _ => False) s := by
      obtain ⟨hg, hdb, hm | ⟨hm, hv, hnn⟩⟩ := hn
      · exact ld_glob (X := X.suite a ((a, oe) :: (X.pn ++ pins))) S3 hg hm ⟨rfl, rfl⟩ hdb
      · exact ld_blt (X := X.suite a ((a, oe) :: (X.pn ++ pins))) S3 hg hm hv ⟨rfl, rfl⟩ hnn hdb
    refine wpAny_mono goal (fun v s' hv => ?_) (fun _ _ z => z.elim)
    obtain ⟨rfl, rfl⟩ := hv
    refine lm.here ?_
    cases b with
    | true =>
      apply codeAny_handlers_suite
      apply al.again
      intro s4 al4
      obtain ⟨oe4, vs4, he4, hz4, hd4, nL4, nF4⟩ := al4.obj hf
      have S4 := al4.inv.suite he4 hd4 al4.na nL4 nF4
      refine wpAny_mono ((hsu a oe4 cls d (X.pn ++ pins) hz4 ⟨_, hd4⟩).run [] _ _ H _ S4 (hyes rfl a al.na)) (fun fl s6 q => ?_) (fun _ _ z => z.elim)
      cases fl with
      | ret u =>
        obtain ⟨v6, σ6, H6, S6, r6, q6⟩ := q
        exact ⟨v6, σ6, H6, S6.unsuite ok, r6, q6⟩
      | next =>
        obtain ⟨σ6, H6, S6, q6⟩ := q
        exact ⟨σ6, H6, S6.unsuite ok, q6⟩
      | brk =>
        obtain ⟨σ6, H6, S6, q6⟩ := q
        exact ⟨σ6, H6, S6.unsuite ok, q6⟩
      | cont =>
        obtain ⟨σ6, H6, S6, q6⟩ := q
        exact ⟨σ6, H6, S6.unsuite ok, q6⟩
    | false => exact ih al (hno rfl)
  | @named x n i c ts b0 su np p' hds2 l2 hn hN hi hln hsu _ ih =>
    intro al w
    obtain ⟨b, hb, hyes, hno⟩ := w
    obtain ⟨oe, vs, he, hz, hd, nL, nF⟩ := al.obj hf
    have I3 := al.inv
    have S3 := I3.suite he hd al.na nL nF
    refine wpAny_handleBy_cons (codeAny_handlers_test ?_) (fun q => nomatch q)
    have lt : PySem.W.Looks (model X.prog X.w) s.heap (typeOf (.ref a)) cls := fun A Q E s k q => wpAny_typeOf_ref (k _ _ he) (hz.1.symm ▸ q)
    have lm := PySem.W.exm_one (M := model X.prog X.w) I3.kIn lt hb
    have goal : wpAny (model X.prog X.w) (X.A.mark (some (.ref a))) (eval (.Name x np) X.env) (fun v s' => v = c ∧ s' = s) (fun _ _ => False) s := by
      obtain ⟨hg, hdb, hm | ⟨hm, hv, hnn⟩⟩ := hn
      · exact ld_glob (X := X.suite a ((a, oe) :: (X.pn ++ pins))) S3 hg hm ⟨rfl, rfl⟩ hdb
      · exact ld_blt (X := X.suite a ((a, oe) :: (X.pn ++ pins))) S3 hg hm hv ⟨rfl, rfl⟩ hnn hdb
    refine wpAny_mono goal (fun v s' hv => ?_) (fun _ _ z => z.elim)
    obtain ⟨rfl, rfl⟩ := hv
    refine lm.here ?_
    cases b with
    | true =>
      apply codeAny_handlers_suite_as
      apply al.again
      intro s4 al4
      obtain ⟨oe4, vs4, he4, hz4, hd4, nL4, nF4⟩ := al4.obj hf
      have S4 := al4.inv.suite he4 hd4 al4.na nL4 nF4
      refine store_ok (X := X.suite a ((a, oe4) :: (X.pn ++ pins))) (v := .ref a) S4 hN hi (.inl hln) rfl (fun s5 S5 => ?_) (.inr hln)
      refine wpAny_mono ((hsu a oe4 cls d (X.pn ++ pins) hz4 ⟨_, hd4⟩).run [] s5 _ H _ S5 (hyes rfl a al.na)) (fun fl s6 q => ?_) (fun _ _ z => z.elim)
      have off : ∀ {σ6 : L2.St} {H6 : Hp} {Q : Shared → Prop}, L2.Inv (X.suite a ((a, oe4) :: (X.pn ++ pins))) [] σ6 H6 s6 → (∀ s7, L2.Inv X pins (σ6.set i none) H6 s7 → Q s7) →
          wpAny (model X.prog X.w) X.A (do bindName X.env n .none; unbindBehindTheSuite X.env n p') (fun _ s7 => Q s7) X.xe s6 := fun S6 hq => gone_ok (S6.unsuite ok) hN hi hln hq
      cases fl with
      | ret u =>
        obtain ⟨v6, σ6, H6, S6, r6, q6⟩ := q
        exact off S6 fun s7 J7 => ⟨v6, _, H6, J7, r6, q6⟩
      | next =>
        obtain ⟨σ6, H6, S6, q6⟩ := q
        exact off S6 fun s7 J7 => ⟨_, H6, J7, q6⟩
      | brk =>
        obtain ⟨σ6, H6, S6, q6⟩ := q
        exact off S6 fun s7 J7 => ⟨_, H6, J7, q6⟩
      | cont =>
        obtain ⟨σ6, H6, S6, q6⟩ := q
        exact off S6 fun s7 J7 => ⟨_, H6, J7, q6⟩
    | false => exact ih al (hno rfl)
end
theorem ps_try_cl {X : Cx} {Wout : WX} {body : List Stmt} {h₀ : ExceptHandler} {hds : List ExceptHandler} {l : List Clause} {tb : WX → TS} {pos : Pos} (hs : X.stack = X.env :: X.outer) (hf : X.env.frame = some X.env.locals) (tk : Takes X Wout)
    (hb : ∀ (W : WX) (pn : List (Addr × Obj)) (xe : Value → Shared → Prop), Takes (X.tr pn xe) W → PSs (X.tr pn xe) body (tb W)) (hc : Cls X (h₀ :: hds) l) : PS X (.Try body (h₀ :: hds) [] [] pos) (fun D σ H => tb (wCl X.K Wout D l) D σ H) := by
  constructor
  intro pins s σ H D I h
  have ok := I.ok
  apply wpAny_Try_except
  have key := (hb (wCl X.K Wout D l) (X.pn ++ pins) (fun e s1 => wpAny (model X.prog X.w) X.A (noteFrame e X.env) (fun _ s2 => wpAny (model X.prog X.w) X.A (setFlight e none) (fun _ s3 => wpAny (model X.prog X.w) X.A (handleBy e X.env (h₀ :: hds)) (SP X pins D) X.xe s3) X.xe s2) X.xe s1)
    (fun u s' x => aloft_land (pn := X.pn ++ pins) ok hs hf x fun a cls d σ' H' s3 eu al w => by
      subst eu
      exact clauses ok hs hf tk hc al w)).run [] s σ H D (I.toTry _) h
  refine wpAny_mono key (fun fl s1 q => ?_) (fun _ _ z => z)
  cases fl with
  | ret u =>
    obtain ⟨v, σ', H', J, r, q⟩ := q
    exact ⟨v, σ', H', J.ofTry ok, r, q⟩
  | next =>
    obtain ⟨σ', H', J, q⟩ := q
    exact wpAny_execs_nil ⟨σ', H', J.ofTry ok, q⟩
  | brk =>
    obtain ⟨σ', H', J, q⟩ := q
    exact ⟨σ', H', J.ofTry ok, q⟩
  | cont =>
    obtain ⟨σ', H', J, q⟩ := q
    exact ⟨σ', H', J.ofTry ok, q⟩
end Dv
namespace Dv
open PySem PySem.Spec PyProof.Rows L2 LamX
theorem sameN_table {H : Hp} {P c : Addr} {ps qs : Array Value} {q : Str} (hP : H P = some (.tbl ps)) (hc : H c = none) : SameN H (upd (upd H P (.tbl qs)) c (CodeO c q)) := fun b o e => by
  have nb : b ≠ c := fun z => by
    rw [z, nt_none.mpr hc] at e
    cases e
  by_cases hb : b = P
  · subst hb
    have e1 : nt H b = some (.tbl #[]) := by
      unfold nt
      rw [hP]
    rw [e1] at e
    cases e
    unfold nt
    rw [upd_ne nb, upd_same]
  · rw [← nt_eq (show H b = upd (upd H P (.tbl qs)) c (CodeO c q) b by rw [upd_ne nb, upd_ne hb])]
    exact e
section
variable {X : Cx} {pins : List (Addr × Obj)} {σ : L2.St} {H : Hp} {s : Shared}
theorem nofr (I : L2.Inv X pins σ H s) {f : Addr} (hf : s.heap.objs.size ≤ f) : f ∉ frs X.stack := fun z => by
  rcases List.mem_cons.mp (I.stkSub _ z) with e | e
  · have h1 := I.lt
    rw [← e] at h1
    exact absurd (Nat.lt_of_lt_of_le h1 hf) (Nat.lt_irrefl _)
  · exact I.nofs hf e
theorem lam_new {T : List (Addr × Str)} {c P : Addr} {params : Arguments} {body : Expr} {scope : Scope} {pos : Pos} {E : Value → Shared → Prop} {Q : Value → Shared → Prop} (I : L2.Inv X pins σ H s) (TB : TabB X.base X.mg c P) (hcode : X.env.code = .ref c)
    (hm : (P, X.env.qual ++ "<lambda>") ∈ T) (hu : ∀ p ∈ T, p.1 = P → p.2 = X.env.qual ++ "<lambda>") (hT : Tabs T H) (hdef : defaultsOf params X.env = ([], [])) (hfree : ∀ y ∈ scope.names, y.2 = .free → ∃ c, X.env.cells.lookup y.1 = some c)
    (h : ∀ (f c' : Addr) (pm ctv : Value) (H1 : Hp) (s' : Shared), L2.Inv X pins σ H1 s' → SameN H H1 → Tabs T H1 →
      s'.heap.get? f = some (PySem.W.kla_obj "<lambda>" (X.env.qual ++ "<lambda>") params body scope (cloFrom X.env.cells scope.names []) pm c' ctv) → H1 f = none → f ∉ frs X.stack → H1 c' = some (CodeO c' (X.env.qual ++ "<lambda>")) → Q (.ref f) s') :
    wpAny (model X.prog X.w) X.A (eval (.Lambda params body scope pos) X.env) Q E s := by
  obtain ⟨ps, hP, ht, ha⟩ := hT _ hm
  apply PySem.W.kla_eval hdef
  have bP : s.heap.BuiltinsAt X.mg P := TB.bm.keeps I.bk
  have atP : s.heap.get? P = some { cls := .none, data := .fields ps } := I.hok P _ hP
  cases hc : codeAmong pos ps.toList with
  | some cv =>
    obtain ⟨c', e, hco⟩ := ha pos cv hc
    subst e
    apply PySem.W.kla_makeFunctionHit (mg := X.mg) (c := c) (P := P) (ps := ps) (closure_ok hfree) I.ok.glob (I.mod.glob.keeps I.bk) hcode (TB.code.keeps I.bk) atP ht hc bP
    intro ctv h' tk hx hsz
    exact h h'.objs.size c' ((X.mg "__name__").getD .none) ctv H _ (I.kept (t' := tk) fun b o e => Heap.get?_push_of_some _ (hx b o e)) (.of (Same.refl H)) hT (Heap.get?_push_size _ rfl) (I.hok.fresh hsz) (nofr I hsz) hco
  | none =>
    apply PySem.W.kla_makeFunction (mg := X.mg) (c := c) (P := P) (ps := ps) (closure_ok hfree) I.ok.glob (I.mod.glob.keeps I.bk) hcode (TB.code.keeps I.bk) atP ht hc TB.gP bP
    intro c' ctv h' tk hx hge hlt hrec htb
    obtain ⟨c2, oc, vs, t, e2, hoc, hd, hv⟩ := hrec
    cases e2
    have hsz : s.heap.objs.size ≤ h'.objs.size := Nat.le_trans hge (Nat.le_of_lt hlt)
    have nC : H c' = none := I.hok.fresh hge
    have nCP : P ≠ c' := ne_of_none hP nC
    have I1 := inv_table (t' := tk) (q := X.env.qual ++ "<lambda>") (more := #[rawInt pos.line, rawInt pos.col, .ref c']) (h' := h'.push (PySem.W.kla_obj "<lambda>" (X.env.qual ++ "<lambda>") params body scope (cloFrom X.env.cells scope.names []) ((X.mg "__name__").getD .none) c' ctv)) I hP
      (fun b o hb e => Heap.get?_push_of_some _ (hx b o hb e)) (Heap.get?_push_of_some _ htb) hge ⟨oc, vs, t, Heap.get?_push_of_some _ hoc, hd, hv⟩
    have stay : ∀ b o, H b = some o → b ≠ P → upd (upd H P (.tbl (ps ++ #[rawInt pos.line, rawInt pos.col, .ref c']))) c' (CodeO c' (X.env.qual ++ "<lambda>")) b = some o := fun b o e n => by
      rw [upd_ne (ne_of_none e nC), upd_ne n]
      exact e
    have codeP : ∀ b q, H b = some (CodeO b q) → b ≠ P := fun b q e z => by
      rw [z, hP] at e
      exact codeO_ne ps (Option.some.inj e).symm
    refine h h'.objs.size c' ((X.mg "__name__").getD .none) ctv _ _ I1 (sameN_table hP nC) (fun p hp => ?_) (Heap.get?_push_size _ rfl) ?_ (nofr I hsz) upd_same
    · by_cases hb : p.1 = P
      · have eL : (ps ++ #[rawInt pos.line, rawInt pos.col, .ref c']).toList = ps.toList ++ [rawInt pos.line, rawInt pos.col, .ref c'] := by simp
        rw [hu p hp hb, hb]
        refine ⟨ps ++ #[rawInt pos.line, rawInt pos.col, .ref c'], (upd_ne nCP).trans upd_same, eL ▸ PySem.TriplesOk_snoc _ _ _ _ ht, fun p' cv hcv => ?_⟩
        rcases among_app _ ht (eL ▸ hcv) with z | z
        · obtain ⟨c0, e1, e2⟩ := ha p' cv z
          exact ⟨c0, e1, stay _ _ e2 (codeP _ _ e2)⟩
        · exact ⟨c', z, upd_same⟩
      · obtain ⟨ps', a1, a2, a3⟩ := hT p hp
        refine ⟨ps', stay _ _ a1 hb, a2, fun p' cv hcv => ?_⟩
        obtain ⟨c0, e1, e2⟩ := a3 p' cv hcv
        exact ⟨c0, e1, stay _ _ e2 (codeP _ _ e2)⟩
    · rw [upd_ne (Nat.ne_of_lt hlt).symm, upd_ne (Nat.ne_of_lt (Nat.lt_of_lt_of_le (Heap.lt_size atP) hsz)).symm]
      exact I.hok.fresh hsz
theorem lam_act {CXg : CXT} {Eg : XK} {Ng : List Str} {qg : Str} {sg : Scope} {g f c' : Addr} {cdg pm ctv : Value} {params : Arguments} {body : Expr} {scope : Scope} {k i : Nat} {a : Str} {pn : List (Addr × Obj)} {xe : Value → Shared → Prop} {W : WX} {tb : XK → TE} {p1 p2 : Pos}
    (I : L2.Inv X pins σ H s) (L : LamS X.env.scope scope) (hf : s.heap.get? f = some (PySem.W.kla_obj "<lambda>" (X.env.qual ++ "<lambda>") params body scope (cloFrom X.env.cells scope.names []) pm c' ctv)) (hfn : H f = none) (hfr : f ∉ frs X.stack)
    (hbind : bindArgs (PySem.W.kla_fn "<lambda>" (X.env.qual ++ "<lambda>") params body scope (cloFrom X.env.cells scope.names []) pm (.ref c') ctv) ⟨[], []⟩ = pure [])
    (tk : Takes ((cxOf CXg X.prog X.w X.K X.mg X.base Ng qg sg g cdg X.A X.stack s H Eg).tr pn xe) W) (hr : Room (k + 1) (X.A.deeper (envOfC qg sg s.heap.objs.size g cdg))) (gd : X.A.guards = some [])
    (hbody : ∀ (E : XK) (A : Around) (outer : List Env) (s : Shared) (H : Hp), Room k (A.deeper (lamEnv X scope s.heap.objs.size f c')) → A.guards = some [] → PE (lamCx X A outer s H E scope f c') body (tb E))
    (hN : Ng[i]? = some a) (hv : Vis sg a) (hd : (a == ("__debug__" : Str)) = false := by decide) (hcd : (a == ("__classdict__" : Str)) = false := by decide) :
    PE ((cxOf CXg X.prog X.w X.K X.mg X.base Ng qg sg g cdg X.A X.stack s H Eg).tr pn xe) (.Call (.Name a p1) [] [] p2)
      (fun σZ HZ Q => σZ[i]? = some (some (.ref f)) ∧ HZ c' = some (CodeO c' (X.env.qual ++ "<lambda>")) ∧ tb (fun cls d H' => W cls d σZ H') σ HZ Q) := by
  constructor
  intro pinsZ sZ σZ HZ Q IZ h
  obtain ⟨hs, hc, ht⟩ := h
  apply wpAny_Call_Name_kw
  apply thn ((L2.pe_var (pos := p1) (i := i) hN hv hd hcd).run pinsZ sZ σZ HZ (fun v H1 => v = .ref f ∧ H1 = HZ) IZ ⟨.ref f, hs, rfl, rfl⟩)
  rintro u s1 ⟨v, H1, I1, r1, rfl, rfl⟩
  cases (show u = Value.ref f from r1)
  have un : Un (frs X.stack) [] H H1 s.heap s1.heap := I1.base
  have of1 := un.keep f _ hf hfn hfr (fun z => nomatch z)
  apply PySem.W.callWith_F0 ⟨_, _, _, _, of1⟩
  obtain ⟨⟨oc, vs, t, hoc, hdc, hvc⟩, _, _⟩ := I1.hok c' _ hc
  have rc : codeAny (model X.prog X.w) (X.A.deeper (envOfC qg sg s.heap.objs.size g cdg)) (.call (.ref f) ⟨[], []⟩) (CR (L2.CX X.prog X.w) (envOfC qg sg s.heap.objs.size g cdg :: X.stack) X.prog X.w H1 s1 Q (fun cls d H' => W cls d σZ H')) s1 := by
    apply PySem.W.kla_callFunE hr.depth of1 rfl L.co L.gen rfl ⟨c', oc, vs, t, rfl, hoc, hdc, hvc⟩
    rw [hbind]
    apply wpAny_pure
    refine wpAny_newFunctionEnv (fun y hy => (L.own y hy).2) (fun y hy => nomatch hy) (fun h1 hns hsb => ⟨I1.nolimit.fresh _ hsb, ?_⟩) L.kind
    show codeAny _ _ (.expr body (lamEnv X scope s1.heap.objs.size f c')) _ _
    have J : L2.Inv (lamCx X (X.A.deeper (envOfC qg sg s.heap.objs.size g cdg)) (envOfC qg sg s.heap.objs.size g cdg :: X.stack) s1 H1 (fun cls d H' => W cls d σZ H') scope f c') [] σ H1 { s1 with heap := h1, toks := s1.toks + ([] : List (Str × Value)).length } :=
      lam_start2 I L I1.env0 hr.hd un hns fun b o e => hsb.extBut b o (Nat.ne_of_lt (Heap.lt_size e)) (Heap.get?_push_of_some _ e)
    apply PySem.W.kla_codeExpr
    refine wpAny_mono ((hbody _ _ _ s1 H1 (hr.deeper _) gd).run [] _ _ H1 Q J ht) (fun v s' hq => ?_) (fun _ _ z => z)
    obtain ⟨w', H', J', rv, q⟩ := hq
    exact ⟨w', H', J'.os, J'.bare, J'.base, J'.hok, rv, q⟩
  apply wpAny_call
  apply codeAny_mono rc
  intro r s' hq
  cases r with
  | ok fl =>
    cases fl with
    | ret u => exact I1.after hq
    | _ => exact False.elim hq
  | error e => exact tk e s' (XE.of_call I1 (fun _ _ _ z => z) hq)
end
end Dv
namespace Dv
open PySem PySem.Spec PyProof.Rows L2 LamX
variable [Tbl]
def Hs (X : Cx) (hds : List ExceptHandler) (hk : Ex → Option D) : Prop := ∃ l, Cls X hds l ∧ ∀ (Wout : WX) (D : Ends) (ex : Ex) (d : Dv.D) (Z : List Addr) (H : Hp) (cls : Value) (dd : Option Addr) (σ : L2.St), σ.length = X.N.length → ZOk Z H → hk ex = some d → ExOk (Gx X) Z H cls dd ex →
  (∀ v H', Same H H' → RD (Gx X) (hid Z H') v d → D.rt v H') → wCl X.K Wout D l cls dd σ H
def tBoth (G : Gp) (fb : ES) (xb : M Ex) (E : XK) : TE := fun σ H Q => (∃ F, tD G F fb σ H Q) ∨ ∃ F, tX G F (fun cls d _ H' => E cls d H') xb σ H Q
def eMet (fb : ES) (xb : M Ex) (fine : RV → Option D) (hk : Ex → Option D) : ES := fun ρ => match xb ρ with
  | .ok ex ρ' => (match hk ex with
    | some d => .ok (.im d) ρ'
    | none => .no)
  | _ => (match fb ρ with
    | .ok r ρ' => (match fine r with
      | some d => .ok (.im d) ρ'
      | none => .no)
    | _ => .no)
def fineC (d : D) : RV → Option D := fun _ => some d
theorem eMet_cases {fb : ES} {xb : M Ex} {fine : RV → Option D} {hk : Ex → Option D} {ρ ρ' : Rho} {r : RV} (e : eMet fb xb fine hk ρ = .ok r ρ') : (∃ ex d, xb ρ = .ok ex ρ' ∧ hk ex = some d ∧ r = .im d) ∨ ∃ r0 d, fb ρ = .ok r0 ρ' ∧ fine r0 = some d ∧ r = .im d := by
  unfold eMet at e
  split at e
  · rename_i ex ρ1 h1
    split at e
    · rename_i d h2
      cases e
      exact .inl ⟨ex, d, h1, h2, rfl⟩
    · cases e
  · split at e
    · rename_i r0 ρ1 h1
      split at e
      · rename_i d h2
        cases e
        exact .inr ⟨r0, d, h1, h2, rfl⟩
      · cases e
    · cases e
section
variable {X : Cx} {k : Nat} {m a : Str} {g c P : Addr} {pg : Arguments} {bg : List Stmt} {sg : Scope} {fdg : FuncData} {Ng : List Str} {params : Arguments} {body : Expr} {scope : Scope} {lpos p pos : Pos} {fb : ES} {xb : M Ex} {hk : Ex → Option D}
structure LamOk (X : Cx) (c P : Addr) (params : Arguments) (body : Expr) (scope : Scope) : Prop where
  TB : TabB X.base X.mg c P
  hcode : X.env.code = .ref c
  hm : (P, X.env.qual ++ "<lambda>") ∈ Tbl.T
  hu : ∀ p ∈ Tbl.T, p.1 = P → p.2 = X.env.qual ++ "<lambda>"
  L : LamS X.env.scope scope
  hdef : defaultsOf params X.env = ([], [])
  hbind : ∀ (q : Str) (cl : List (Str × Addr)) (pm cv ctv : Value), bindArgs (PySem.W.kla_fn "<lambda>" q params body scope cl pm cv ctv) ⟨[], []⟩ = pure []
abbrev cxM (X : Cx) (Ng : List Str) (m : Str) (sg : Scope) (g : Addr) (cdv : Value) (s : Shared) (H : Hp) : Cx := cxOf C8.CX0 X.prog X.w X.K X.mg X.base Ng m sg g cdv X.A X.stack s H C8.E0
theorem pe_lamdef {TT : L2.St → Hp → VK → Prop} (Dg : FunD X.K m m pg bg sg [] [] g fdg) (Sg : FnScope Ng [a] sg) (hNg : Ng[0]? = some a) (hva : Vis sg a) (hb : L2.Binds X.K fdg [a] []) (hg : Gl X m) (hm : X.mg m = some (.ref g)) (lam : LamOk X c P params body scope) (hr : Room (k + 2) X.A) (gd : X.A.guards = some [])
    (hbody : ∀ (E : XK) (A : Around) (outer : List Env) (s : Shared) (H : Hp) (f c' : Addr), Room k (A.deeper (lamEnv X scope s.heap.objs.size f c')) → A.guards = some [] → PE (lamCx X A outer s H E scope f c') body (tBoth (Gx X) fb xb E))
    (hT : ∀ (f c' : Addr) (cdv : Value) (s : Shared) (σ : L2.St) (H : Hp) (Q : VK), H c' = some (CodeO c' (X.env.qual ++ "<lambda>")) → TT σ H Q →
      (∀ (W : WX) (pn : List (Addr × Obj)) (xe : Value → Shared → Prop) (p1 p2 : Pos), Takes ((cxM X Ng m sg g cdv s H).tr pn xe) W → PE ((cxM X Ng m sg g cdv s H).tr pn xe) (.Call (.Name a p1) [] [] p2)
        (fun σZ HZ Q => σZ[0]? = some (some (.ref f)) ∧ HZ c' = some (CodeO c' (X.env.qual ++ "<lambda>")) ∧ tBoth (Gx X) fb xb (fun cls d H' => W cls d σZ H') σ HZ Q)) →
      ∃ t, PSs (cxM X Ng m sg g cdv s H) bg t ∧ t { nx := fun _ H' => Q .non H', rt := Q } (L2.start Ng [.ref f]) H)
    (hdb : (m == ("__debug__" : Str)) = false := by decide) (hd : (a == ("__debug__" : Str)) = false := by decide) (hcd : (a == ("__classdict__" : Str)) = false := by decide) :
    PE X (.Call (.Name m p) [.Lambda params body scope lpos] [] pos) (fun σ H Q => Tabs Tbl.T H ∧ ∀ H1, SameN H H1 → Tabs Tbl.T H1 → TT σ H1 Q) := by
  obtain ⟨⟨oc, od, dV, kV, doc, pm, an, cdv, ct, osl, rfl, lk, hcg, _, _⟩, hkp⟩ := Dg
  constructor
  intro pins s σ H Q I h
  obtain ⟨hTb, h⟩ := h
  apply wpAny_Call_Name_kw
  apply ld_glob I hg hm (hd := hdb)
  apply PySem.W.callWith_K (h₀ := X.base) I.ok.mod.kin hkp (he := by rfl) (hplain := by rfl)
  show wpAny _ _ (spliced ((false, eval (.Lambda params body scope lpos) X.env) :: backTo pos (starEach [] X.env))) _ _ s
  apply Calls.spliced_cons
  apply lam_new I lam.TB lam.hcode lam.hm lam.hu hTb lam.hdef (lam.L.has I.ok)
  intro f c' pm' ctv H1 s' I1 sN T1 hf hfn hfr hco
  apply Calls.spliced_nil
  refine ⟨I1.kIn, ?_⟩
  have rc : codeAny (model X.prog X.w) X.A (.call (.ref g) ⟨[.ref f], []⟩) (CR C8.CX0 X.stack X.prog X.w H1 s' Q C8.E0) s' := by
    refine run_ofS (N := Ng) (ps := [a]) (us := [.ref f]) (vs := [.ref f]) lk hcg Sg hr I1.env0 (hb s' [.ref f] I1.kIn rfl) (.cons rfl .nil) rfl fun hr' => ?_
    exact hT f c' cdv s' σ H1 Q hco (h H1 sN T1) fun W pn xe p1 p2 tk => lam_act I1 lam.L hf hfn hfr (lam.hbind _ _ _ _ _) tk hr' gd (fun E A outer s H hr2 g2 => hbody E A outer s H f c' hr2 g2) hNg hva hd hcd
  apply wpAny_call
  apply codeAny_mono rc
  intro r s2 hq
  cases r with
  | error e => exact (show False from hq).elim
  | ok fl =>
    cases fl with
    | ret u => exact I1.after hq
    | _ => exact False.elim hq
theorem takesF {X : Cx} : Takes X (fun _ _ _ _ => False) := fun u s x => by
  obtain ⟨_, _, _, _, _, _, _, _, _, _, _, _, _, _, _, _, w⟩ := x
  exact w.elim
end
end Dv
namespace Dv
open PySem PySem.Spec PyProof.Rows L2 LamX
variable [Tbl]
theorem start_len {N : List Str} {vs : List V} (h : vs.length ≤ N.length) : (L2.start N vs).length = N.length := by
  unfold L2.start
  rw [List.length_append, List.length_map, List.length_replicate]
  omega
section
variable {X : Cx} {k : Nat} {m a : Str} {g c P : Addr} {pg : Arguments} {sg : Scope} {fdg : FuncData} {Ng : List Str} {params : Arguments} {body e0 : Expr} {scope : Scope} {lpos p pos p1 p2 p3 p4 p5 : Pos} {fb : ES} {xb : M Ex} {hk : Ex → Option D} {h₀ : ExceptHandler} {hds : List ExceptHandler} {v0 : V} {d0 : D}
end
end Dv
namespace Dv
open PySem PySem.Spec PyProof.Rows L2 LamX
variable [Tbl]
theorem ExOk.same {G : Gp} {Z : List Addr} {H H' : Hp} {cls : Value} {d : Option Addr} {x : Ex} (h : ExOk G Z H cls d x) (e : Same H H') : ExOk G Z H' cls d x := by
  obtain ⟨C, h1, h2, h3⟩ := h
  refine ⟨C, h1, h2, ?_⟩
  split at h3
  · trivial
  · obtain ⟨dd, v, h4, h5, h6⟩ := h3
    exact ⟨dd, v, h4, e _ _ h5, h6.mono (Same.hid e)⟩
  · exact h3
def tSx (G : Gp) (i : Option Nat) (sv : Ex → Option D) (a : Addr) (cls : Value) (d : Option Addr) : TE := fun σ H Q => ∃ ex dv Z, (∀ j, i = some j → σ[j]? = some (some (.ref a))) ∧ ZOk Z H ∧ sv ex = some dv ∧ ExOk G Z H cls d ex ∧ ∀ v H', Same H H' → RD G (hid Z H') v dv → Q v H'
structure SE (X : Cx) (i : Option Nat) (e : Expr) (sv : Ex → Option D) : Prop where
  run : ∀ (a : Addr) (oe : Obj) (cls : Value) (d : Option Addr) (pn : List (Addr × Obj)), Zc cls d oe → (∃ vs, oe.data = .fields vs) → PE (X.suite a ((a, oe) :: pn)) e (tSx (Gx X) i sv a cls d)
section
variable {X : Cx} {i : Option Nat} {e e1 e2 : Expr} {s1 s2 : Ex → Option D} {pos p1 : Pos}
def svC (d : D) : Ex → Option D := fun _ => some d
theorem se_str {s : Str} {j} : SE X i (.Constant (.str s) j pos) (svC (.str s)) := ⟨fun a oe cls d pn hz hf => pe_imp pe_str fun σ H Q ⟨ex, dv, Z, hs, z, e, xo, q⟩ => by
  cases e
  exact q _ H (Same.refl H) (.str s)⟩
def svF (c f : Str) : Ex → Option D := fun ex => if ex.cls = c then (match ex.fs with
  | [(g, y)] => if g = f then some y else none
  | _ => none) else none
theorem se_fld {j : Nat} {n c f : Str} {C : Addr} (T : XfC X.K C) (hno : PySem.W.findIn X.K (.ref C) f = some none) (hm : X.mg c = some (.ref C)) (hN : X.N[j]? = some n) (hv : Vis X.env.scope n) (hd : (n == ("__debug__" : Str)) = false := by decide) (hcd : (n == ("__classdict__" : Str)) = false := by decide)
    (hb : ∀ a oe pn, attributeBase (.Name n p1) f (X.suite a ((a, oe) :: pn)).env (eval (.Name n p1) (X.suite a ((a, oe) :: pn)).env) = eval (.Name n p1) (X.suite a ((a, oe) :: pn)).env := by intro _ _ _; rfl) : SE X (some j) (.Attribute (.Name n p1) f pos) (svF c f) := ⟨fun a oe cls d pn hz hf => pe_imp (pe_xf T hno hz hf (L2.pe_var (X := X.suite a ((a, oe) :: pn)) (i := j) hN hv hd hcd) (hb a oe pn)) fun σ H Q ⟨ex, dv, Z, hs, z, e, xo, q⟩ => by
  obtain ⟨cn, fs⟩ := ex
  unfold svF at e
  split at e
  · rename_i hc
    obtain ⟨C', h1, h2, h3⟩ := xo
    dsimp only at hc h1 h3 e
    subst hc
    have eC : C' = C := Value.ref.inj (Option.some.inj (h1.symm.trans hm))
    subst eC
    split at e
    · rename_i g y
      split at e
      · rename_i hg
        subst hg
        cases e
        obtain ⟨dd, v, h4, h5, h6⟩ := h3
        exact ⟨_, hs j rfl, rfl, h2, dd, _, v, h4, h5, by simp [List.lookup], q v H (Same.refl H) h6⟩
      · cases e
    · cases e
  · cases e⟩
def svOp (g : D → D → Option D) (s1 s2 : Ex → Option D) : Ex → Option D := fun ex => match s1 ex, s2 ex with
  | some x, some y => g x y
  | _, _ => none
theorem se_bin {op : Operator} {g : D → D → Option D} (ho : ∀ a oe pn, OpD (X.suite a ((a, oe) :: pn)) (binaryOp op) g) (h1 : SE X i e1 s1) (h2 : SE X i e2 s2) : SE X i (.BinOp e1 op e2 pos) (svOp g s1 s2) := ⟨fun a oe cls d pn hz hf => by
  obtain ⟨r, hr, hq⟩ := ho a oe pn
  refine pe_imp (pe_op hr (h1.run a oe cls d pn hz hf) (h2.run a oe cls d pn hz hf)) fun σ H Q ⟨ex, dv, Z, hs, z, e, xo, q⟩ => ?_
  unfold svOp at e
  split at e
  · rename_i x y e1 e2
    refine ⟨ex, x, Z, hs, z, e1, xo, fun v H1 sm1 r1 => ⟨ex, y, Z, hs, z.same sm1, e2, xo.same sm1, fun u H2 sm2 r2 => ?_⟩⟩
    exact hq Z H2 v u x y dv Q ((z.same sm1).same sm2) (.of (r1.mono (Same.hid sm2))) (.of r2) e fun w H3 sm3 r3 => q w H3 ((sm1.trans sm2).trans sm3) r3
  · cases e⟩
def svCall (g : List D → Option D) (s1 : Ex → Option D) : Ex → Option D := fun ex => match s1 ex with
  | some x => g [x]
  | none => none
theorem se_callB {x : Str} {id : String} {g : List D → Option D} {pn1 : Pos} (hc : ∀ a oe pn, CallD (X.suite a ((a, oe) :: pn)) (.builtin id) g) (hg : Gl X x) (hm : X.mg x = none) (hv : bootBuiltins x = some (.builtin id)) (h1 : SE X i e1 s1) (hn : x ≠ "__name__" := by decide) (hdb : (x == ("__debug__" : Str)) = false := by decide)
    (he : starEach [e1] X.env = [(false, eval e1 X.env)] := by rfl) : SE X i (.Call (.Name x pn1) [e1] [] pos) (svCall g s1) := ⟨fun a oe cls d pn hz hf => by
  obtain ⟨r, hr, hq⟩ := hc a oe pn
  refine pe_imp (pe_callB (X := X.suite a ((a, oe) :: pn)) hr hg hm hv (pa_cons (h1.run a oe cls d pn hz hf) pa_nil (by show starEach [e1] X.env = _; rw [he]; rfl)) hn hdb (by show starEach [e1] X.env = _; rw [he]; rfl) (by rfl)) fun σ H Q ⟨ex, dv, Z, hs, z, e, xo, q⟩ => ?_
  unfold svCall at e
  split at e
  · rename_i y e1
    exact ⟨ex, y, Z, hs, z, e1, xo, fun v H1 sm1 r1 => hq Z H1 [v] [y] dv Q (z.same sm1) (.cons (.of r1) .nil) e fun w H2 sm2 r2 => q w H2 (sm1.trans sm2) r2⟩
  · cases e⟩
def hkNil : Ex → Option D := fun _ => none
def hkCons (tb : Str → Option Bool) (sv hk : Ex → Option D) : Ex → Option D := fun ex => match tb ex.cls with
  | some true => sv ex
  | some false => hk ex
  | none => none
theorem hs_nil : Hs X [] hkNil := ⟨[], .nil, fun Wout D ex d Z H cls dd σ _ _ h => nomatch h⟩
variable {x n : Str} {C : Addr} {tb : Str → Option Bool} {sv hk : Ex → Option D} {np p' pr : Pos} {hds : List ExceptHandler}
theorem hs_plain (hg : Gl X x) (hm : X.mg x = some (.ref C)) (ht : ∀ (y : Str) (Cy : Addr) (b : Bool), tb y = some b → X.mg y = some (.ref Cy) → PySem.W.exmOne X.K (.ref Cy) (.ref C) = some b) (hs : SE X none e sv) (hr : Hs X hds hk) (hdb : (x == ("__debug__" : Str)) = false := by decide) :
    Hs X (.ExceptHandler (some (.Name x np)) none [.Return (some e) pr] p' :: hds) (hkCons tb sv hk) := by
  obtain ⟨l, hc, hv⟩ := hr
  refine ⟨(.ref C, none, fun a cls d => tRet (tSx (Gx X) none sv a cls d)) :: l, .plain ⟨hg, hdb, .inl hm⟩ (fun a oe cls d pn hz hf => pss_one (ps_ret (hs.run a oe cls d pn hz hf))) hc, fun Wout D ex d Z H cls dd σ hl z e xo q => ?_⟩
  obtain ⟨Cx, h1, h2, h3⟩ := id xo
  unfold hkCons at e
  cases hb : tb ex.cls with
  | none => rw [hb] at e; cases e
  | some b =>
    rw [hb] at e
    refine ⟨b, by rw [h2]; exact ht _ _ _ hb h1, fun hb a na => ?_, fun hb => ?_⟩
    · subst hb
      exact ⟨ex, d, Z, (fun j hj => nomatch hj), z, e, xo, q⟩
    · subst hb
      exact hv Wout D ex d Z H cls dd σ hl z e xo q
theorem hs_named {j : Nat} (hg : Gl X x) (hm : X.mg x = some (.ref C)) (hN : X.N.Nodup) (hj : X.N[j]? = some n) (hln : X.env.kindOf n = some .local) (ht : ∀ (y : Str) (Cy : Addr) (b : Bool), tb y = some b → X.mg y = some (.ref Cy) → PySem.W.exmOne X.K (.ref Cy) (.ref C) = some b) (hs : SE X (some j) e sv) (hr : Hs X hds hk) (hdb : (x == ("__debug__" : Str)) = false := by decide) :
    Hs X (.ExceptHandler (some (.Name x np)) (some n) [.Return (some e) pr] p' :: hds) (hkCons tb sv hk) := by
  obtain ⟨l, hc, hv⟩ := hr
  refine ⟨(.ref C, some j, fun a cls d => tRet (tSx (Gx X) (some j) sv a cls d)) :: l, .named ⟨hg, hdb, .inl hm⟩ hN hj hln (fun a oe cls d pn hz hf => pss_one (ps_ret (hs.run a oe cls d pn hz hf))) hc, fun Wout D ex d Z H cls dd σ hl z e xo q => ?_⟩
  obtain ⟨Cx, h1, h2, h3⟩ := id xo
  unfold hkCons at e
  cases hb : tb ex.cls with
  | none => rw [hb] at e; cases e
  | some b =>
    rw [hb] at e
    refine ⟨b, by rw [h2]; exact ht _ _ _ hb h1, fun hb a na => ?_, fun hb => ?_⟩
    · subst hb
      refine ⟨ex, d, Z, (fun j' hj' => ?_), z, e, xo, q⟩
      cases hj'
      rw [List.getElem?_set_self]
      rw [hl]
      exact (List.getElem?_eq_some_iff.mp hj).1
    · subst hb
      exact hv Wout D ex d Z H cls dd σ hl z e xo q
end
end Dv
namespace Dv
open PySem PySem.Spec PyProof.Rows L2 LamX
theorem law_runT {P : Program} {w : World} {K : PySem.W.Frag} {mg mb : Str → Option Value} {k : Nat} {fa a : Addr} {fd : FuncData} {x : Str} {g : FD} {s1 : Shared} {us : List Value} {ns : List Int} {T : List (Addr × Str)} {cs : List (Addr × Addr)}
    (kin : K.In s1.heap) (gn : s1.heap.Ns mainGlobals mg) (bn : s1.heap.Ns builtinsNs mb) (bb : ∀ y : Str, y ≠ "__name__" → mb y = bootBuiltins y) (nl : s1.heap.NoLimit) (g0 : s1.gens = #[])
    (tabE : ∀ p ∈ cs, s1.heap.get? p.2 = some { cls := .none, data := .fields #[] }) (tabK : ∀ p ∈ cs, K.lookup p.2 = none) (tabC : ∀ p ∈ cs, PySem.W.codeHdIn K p.1 p.2 = true) (hT : ∀ q ∈ T, ∃ p ∈ cs, q.1 = p.2)
    (bmain : ∃ (bm : Addr) (ob : Obj), mg "__builtins__" = some (.ref bm) ∧ bm ≠ builtinsNs ∧ s1.heap.get? bm = some ob ∧ ob.cls = .type "module" ∧ ob.dict = some builtinsNs ∧ ob.data = .plain)
    (ha : s1.heap.get? a = some { cls := .type "list", data := .seq us.toArray }) (ui : IntsAre us ns) (hl : ns.length ≤ sizeLine) (room : Room k callerA)
    (F : ∀ base : Heap, K.In base → base.Ns mainGlobals mg → (∀ p ∈ cs, TabB base mg p.1 p.2) → FnG P w K mg base CX0 k fa fd [x] (@spD ⟨T⟩ ⟨K, mg, P, w⟩ g)) (hb : ∀ (s : Shared) (u : Value), BindsTo s fd ⟨[u], []⟩ [(x, u)])
    (fact : g [.im (.lst (ns.map D.int))] = some (.im (.bl true), [])) :
    codeAny (model P w) callerA (.call (.ref fa) ⟨[.ref a], []⟩) (fun r s' => r = .ok (.ret (.bool true)) ∧ OldK s1.heap s'.heap ∧ s'.os = s1.os ∧ AllBare s'.gens) s1 := by
  have rv := vals_ints ui
  have lv := ui.length
  have hdE : ∀ p ∈ cs, PySem.W.CodeHd s1.heap p.1 p.2 := fun p hp => PySem.W.codeHd_of_K kin (tabC p hp)
  have inT : ∀ b, b ∈ cs.map (·.2) → s1.heap.get? b = some { cls := .none, data := .fields #[] } := fun b h => by
    obtain ⟨p, hp, rfl⟩ := List.mem_map.mp h
    exact tabE p hp
  have kT : ∀ b, b ∈ cs.map (·.2) → K.lookup b = none := fun b h => by
    obtain ⟨p, hp, rfl⟩ := List.mem_map.mp h
    exact tabK p hp
  have aT : a ∉ cs.map (·.2) := fun z => by
    have q := inT a z
    rw [ha] at q
    cases q
  have main : ∀ H : Hp, (∀ b, H b = none ∨ (b ∈ cs.map (·.2) ∧ H b = some (.tbl #[])) ∨ (b = a ∧ K.lookup a = none ∧ ∃ o xs, H b = some (.frz o (.lst xs)))) → (∀ b, b ∈ cs.map (·.2) → H b = some (.tbl #[])) → SqL K H a (ns.map V.int) → HOk P w H s1.heap →
      codeAny (model P w) callerA (.call (.ref fa) ⟨[.ref a], []⟩) (fun r s' => r = .ok (.ret (.bool true)) ∧ OldK s1.heap s'.heap ∧ s'.os = s1.os ∧ AllBare s'.gens) s1 := by
    intro H hH hHT hS hok
    have at_a : ∀ b, H b ≠ none → b ∈ cs.map (·.2) ∨ (b = a ∧ K.lookup a = none) := fun b z => by
      rcases hH b with q | ⟨q, _⟩ | ⟨q1, q2, _⟩
      · exact absurd q z
      · exact .inl q
      · exact .inr ⟨q1, q2⟩
    have plainO : ∀ {b : Addr} {o : Obj}, s1.heap.get? b = some o → o.data ≠ .fields #[] → (∀ vs n, o.data ≠ .seq vs n) → H b = none := by
      intro b o e d1 d2
      cases q : H b with
      | none => rfl
      | some u =>
        rcases at_a b (by rw [q]; exact fun z => nomatch z) with z | ⟨rfl, _⟩
        · rw [inT b z] at e
          cases e
          exact absurd rfl d1
        · rw [ha] at e
          cases e
          exact absurd rfl (d2 _ _)
    have nodict : ∀ {b : Addr} {o : Obj} {es : Array DictEntry} {ep : Nat}, s1.heap.get? b = some o → o.data = .dict es ep → H b = none := fun e d => plainO e (by rw [d]; exact fun z => nomatch z) (by rw [d]; exact fun _ _ z => nomatch z)
    have ns_hid : ∀ {b : Addr} {m : Str → Option Value}, s1.heap.Ns b m → (hidT s1.heap H).Ns b m := by
      rintro b m ⟨o, es, ep, e, d, r⟩
      exact ⟨o, es, ep, hidT_get e (nodict e d), d, r⟩
    have kinH : K.In (hidT s1.heap H) := by
      intro b o e
      refine hidT_get (kin b o e) ?_
      cases q : H b with
      | none => rfl
      | some u =>
        rcases at_a b (by rw [q]; exact fun z => nomatch z) with z | ⟨rfl, z⟩
        · rw [kT b z] at e
          cases e
        · rw [z] at e
          cases e
    have lim : (hidT s1.heap H).NoLimit := by
      obtain ⟨mc, q1, q2⟩ := nl
      exact ⟨mc, ns_hid q1, q2⟩
    have md : Mod K mg (hidT s1.heap H) := ⟨kinH, ns_hid gn, ⟨mb, ns_hid bn, bb⟩, lim⟩
    have e0 : Env0 P w K mg (hidT s1.heap H) callerA [] s1 H := by
      refine ⟨rfl, md, fun b o e => of_hidT e, Nat.le_of_eq (hidT_size _ _), trivial, ?_, hok, .of_eq g0⟩
      intro b z
      cases z
    have notDict : ∀ {b : Addr} {es : Array DictEntry} {ep : Nat} {o : Obj}, b ∈ cs.map (·.2) → s1.heap.get? b = some o → o.data ≠ .dict es ep := fun h e d => by
      rw [inT _ h] at e
      cases e
      cases d
    have TB : ∀ p ∈ cs, TabB (hidT s1.heap H) mg p.1 p.2 := fun p hp => by
      have mp : p.2 ∈ cs.map (·.2) := List.mem_map.mpr ⟨p, hp, rfl⟩
      have gm : mainGlobals ≠ p.2 := fun z => by
        obtain ⟨o, es, ep, e, hd, _⟩ := gn
        exact notDict mp (z ▸ e) hd
      obtain ⟨bm, ob, b1, b2, b3, b4, b5, b6⟩ := bmain
      have gb : bm ≠ mainGlobals := fun z => by
        obtain ⟨o, es, ep, e, hd, _⟩ := gn
        rw [z, e] at b3
        cases b3
        rw [hd] at b6
        cases b6
      have pb : bm ≠ p.2 := fun z => by
        rw [z, inT _ mp] at b3
        cases b3
        cases b6
      exact ⟨PySem.W.codeHd_of_K kinH (tabC p hp), ⟨bm, ob, b1, b2, gb, pb, hidT_get b3 (plainO b3 (by rw [b6]; exact fun z => nomatch z) (by rw [b6]; exact fun _ _ z => nomatch z)), b4, b5, b6⟩, gm⟩
    have tabs : @LamX.Tabs T H := fun q hq => by
      obtain ⟨p, hp, e⟩ := hT q hq
      rw [e]
      exact TabS.nil (hHT _ (List.mem_map.mpr ⟨p, hp, rfl⟩))
    have sp : @spD ⟨T⟩ ⟨K, mg, P, w⟩ g [.ref a] H (fun v _ => v = .bl true) fun _ _ _ => False := by
      refine ⟨[], _, [], .im (.bl true), [], ⟨fun b z => (nomatch z), tabs⟩, .im (k := 0) ?_ (.nil _), List.nodup_nil, fact, fun v H' _ _ r => ?_⟩
      · refine .lst ?_ (RDs.map_int ns)
        rcases hS with hS | hS
        · refine .inl ?_
          rcases hS with hS | ⟨o, hS⟩
          · exact .inl (hid_of List.not_mem_nil hS)
          · exact .inr ⟨o, hid_of List.not_mem_nil hS⟩
        · exact .inr hS
      · cases r
        rfl
    refine codeAny_mono ((F _ kinH (ns_hid gn) TB).go callerA [] s1 H ⟨[.ref a], []⟩ [.ref a] [.ref a] _ _ room rfl e0 (hb s1 (.ref a)) (.cons rfl .nil) sp) ?_
    intro r s' h
    cases r with
    | error e => exact False.elim h
    | ok fl =>
      cases fl with
      | ret u =>
        obtain ⟨v, H', os, bare, un, hok', rv', hv⟩ := h
        subst hv
        obtain rfl : u = Value.bool true := rv'
        have same : ∀ b o, b ∉ cs.map (·.2) → s1.heap.get? b = some o → s'.heap.get? b = some o := by
          intro b o nb e
          rcases hH b with q | ⟨q, _⟩ | ⟨_, _, ob, xs, q⟩
          · exact un.keep b o e q (fun z => nomatch z) (fun z => nomatch z)
          · exact absurd q nb
          · obtain ⟨e1, _⟩ := hok b _ q
            obtain ⟨e2, _⟩ := hok' b _ (un.frzs b ob _ q)
            rw [e] at e1
            cases e1
            exact e2
        have more : ∀ p ∈ cs, ∃ vs : Array Value, s'.heap.get? p.2 = some { cls := .none, data := .fields vs } := fun p hp => by
          obtain ⟨vs, z⟩ := un.tbls p.2 #[] (hHT _ (List.mem_map.mpr ⟨p, hp, rfl⟩))
          exact ⟨_, hok' p.2 _ z⟩
        refine ⟨rfl, ⟨fun b o e => ?_, fun b o e => ?_⟩, os, bare⟩
        · by_cases h : b ∈ cs.map (·.2)
          · obtain ⟨p, hp, rfl⟩ := List.mem_map.mp h
            obtain ⟨vs, hm⟩ := more p hp
            rw [tabE p hp] at e
            cases e
            exact .inr (.inl ⟨((hdE p hp).tab (tabE p hp)).isCodeTable, rfl, #[], vs, rfl, by rw [Array.empty_append]; exact hm⟩)
          · exact .inl (same b o h e)
        · by_cases h : b ∈ cs.map (·.2)
          · obtain ⟨p, hp, rfl⟩ := List.mem_map.mp h
            obtain ⟨vs, hm⟩ := more p hp
            exact ⟨_, hm⟩
          · exact ⟨o, same b o h e⟩
      | _ => exact False.elim h
  cases hk : K.lookup a with
  | some o =>
    have e := kin a o hk
    rw [ha] at e
    cases e
    refine main (fun b => if b ∈ cs.map (·.2) then some (.tbl #[]) else none) (fun b => ?_) (fun b h => if_pos h) (.inr ⟨_, us.toArray, _, hk, rfl, rfl, rfl, ?_, ?_⟩) fun b u z => ?_
    · by_cases h : b ∈ cs.map (·.2)
      · exact .inr (.inl ⟨h, if_pos h⟩)
      · exact .inl (if_neg h)
    · rw [List.size_toArray, lv]; exact hl
    · simpa using rv
    · by_cases h : b ∈ cs.map (·.2)
      · have z' := (if_pos h).symm.trans z
        cases z'
        exact inT b h
      · have z' := (if_neg h).symm.trans z
        cases z'
  | none =>
    refine main (fun b => if b ∈ cs.map (·.2) then some (.tbl #[]) else if b = a then some (.frz { cls := .type "list", data := .seq us.toArray } (.lst (ns.map V.int))) else none) (fun b => ?_) (fun b h => if_pos h) (.inl (.inr ⟨{ cls := .type "list", data := .seq us.toArray }, (if_neg aT).trans (if_pos rfl)⟩)) fun b u z => ?_
    · by_cases h : b ∈ cs.map (·.2)
      · exact .inr (.inl ⟨h, if_pos h⟩)
      · by_cases hb : b = a
        · exact .inr (.inr ⟨hb, hk, _, _, (if_neg h).trans (if_pos hb)⟩)
        · exact .inl ((if_neg h).trans (if_neg hb))
    · by_cases h : b ∈ cs.map (·.2)
      · have z' := (if_pos h).symm.trans z
        cases z'
        exact inT b h
      · have z1 := (if_neg h).symm.trans z
        by_cases hb : b = a
        · have z' := (if_pos hb).symm.trans z1
          cases z'
          subst hb
          exact ⟨ha, by rw [List.length_map]; exact hl, us, _, rv, ha⟩
        · have z' := (if_neg hb).symm.trans z1
          cases z'
theorem walkGT {l : PySem.W.OpenLaw} {n k : Nat} {q : Program} {loose : List Str} {XP : (Str → Option Value) → Heap → Prop} {YP : World → Heap → Prop} {d : DefRec} {x : Str} (hn : l.most = some n) (hn2 : n ≤ sizeLine) (hdf : d.params.defaults = []) (room : Room k callerA)
    (F : ∀ (w : World) (mg : Str → Option Value) (fa : Addr) (h : Heap), YP w h → h.Ns mainGlobals mg → mg d.name = some (.ref fa) →
      ∃ (K : PySem.W.Frag) (fd : FuncData) (g : FD) (T : List (Addr × Str)) (cs : List (Addr × Addr)), K.In h ∧ (∀ p ∈ cs, h.get? p.2 = some { cls := .none, data := .fields #[] }) ∧ (∀ p ∈ cs, K.lookup p.2 = none) ∧ (∀ p ∈ cs, PySem.W.codeHdIn K p.1 p.2 = true) ∧ (∀ q ∈ T, ∃ p ∈ cs, q.1 = p.2) ∧
        (∀ (s : Shared) (u : Value), BindsTo s fd ⟨[u], []⟩ [(x, u)]) ∧ (∀ ns : List Int, ns.length ≤ n → g [.im (.lst (ns.map D.int))] = some (.im (.bl true), [])) ∧
        ∀ base : Heap, K.In base → base.Ns mainGlobals mg → (∀ p ∈ cs, TabB base mg p.1 p.2) → FnG l.prog w K mg base CX0 k fa fd [x] (@spD ⟨T⟩ ⟨K, mg, l.prog, w⟩ g)) : PySem.W.WalkO q loose XP YP l.row.toRowW d [] (fun f vs => PySem.call f vs) := by
  apply Att.attach_call hn hdf
  intro w s0 s1 mg mb fa o pm cd doc a us ns G Y ho hd hcd hmg hobj hints hlen hg
  obtain ⟨K, fd, g, T, cs, kin, h1, h2, h3, h4, hb, fact, hF⟩ := F w mg fa _ Y G.T.g hmg
  exact law_runT kin G.T.g G.T.b G.T.builtins G.T.nolimit hg h1 h2 h3 h4 G.T.bmain hobj hints (Nat.le_trans hlen hn2) room hF hb (fact ns hlen)
end Dv
namespace He
open PySem PySem.Spec PyProof.Rows L2
end He
namespace Dv
open PySem PySem.Spec PyProof.Rows L2
open PySem.W in
theorem xcB_ok {K : PySem.W.Frag} {C : Addr} {f : Str} {B newId initId : String} {bmB : List Value} {fI : Addr} (h : xcB K C f B newId initId bmB fI = true) : XcF K C f B newId initId bmB fI := by
  unfold xcB at h
  simp only [Bool.and_eq_true, decide_eq_true_eq] at h
  obtain ⟨h1, h2, h3, h4, h5, h6, h7, h8, h9, h10, h11, h12, h13, h14, h15⟩ := h
  exact ⟨h1, h2, h3, h4, h5, h6, h7, h8, h9, h10, h11, h12, h13, h14, h15⟩
theorem newE_of {P : Program} {K : PySem.W.Frag} {mg : Str → Option Value} {x f file : Str} {B newId initId : String} {bmB : List Value} (h : ownB x f B newId initId bmB file K = true) (gC : mg x = some (.ref (He.ga K x))) (KF : PySem.W.KxsFacts B initId) (FB : ExcBaseFacts B newId initId bmB) (SF : StoreFacts B bmB "object.__setattr__" "object") (hfile : ((P.main.file : Str) == file) = true) (top : (P.main.scope.names.lookup ("super" : Str)).isSome = false)
    (bd : ∀ (nm qual : Str) (an1 an2 : Option Expr) (ps1 ps2 : Pos) (bd : List Stmt) (sc : Scope) (cl : List (Str × Addr)) (doc pm : Value) (an : Option Addr) (cd ct u v : Value), bindArgs (PySem.W.fnX nm qual ⟨[], [⟨"self", an1, ps1⟩, ⟨f, an2, ps2⟩], none, [], [], none, []⟩ bd sc cl .none .none doc pm an cd ct) ⟨[u, v], []⟩ = pure [(("self" : Str), u), (f, v)])
    (dbg : (f == ("__debug__" : Str)) = false := by decide) (slf : (f == ("self" : Str)) = false := by decide) : NewE P K mg x f (He.ga K x) ∧ XfC K (He.ga K x) ∧ PySem.W.findIn K (.ref (He.ga K x)) f = some none := by
  unfold ownB at h
  simp only [Bool.and_eq_true, decide_eq_true_eq] at h
  obtain ⟨h1, h2, h3, h4⟩ := h
  obtain ⟨fd, cc, cd, D⟩ := xiF_ok h2
  exact ⟨⟨⟨file, B, newId, initId, bmB, _, cc, cd, fd, xcB_ok h1, D, KF, FB, SF, hfile⟩, bd, dbg, slf, top, gC⟩, xfB_ok h3, h4⟩
end Dv
namespace Dv
open PySem PySem.Spec PyProof.Rows L2 LamX
variable [Tbl]
theorem fnG_okC {P : Program} {w : World} {K : PySem.W.Frag} {mg : Str → Option Value} {base : Heap} {x qual : Str} {pa : Arguments} {body : List Stmt} {sc : Scope} {f : Addr} {fd : FuncData} {N ps : List Str} {k : Nat} {g : SS} (D : FunD K x qual pa body sc [] [] f fd) (S : FnScope N ps sc)
    (h : ∀ (cdv : Value) (A : Around) (outer : List Env) (s : Shared) (H : Hp) (E : XK), fd.code = cdv → Room k (A.deeper (envOfC qual sc s.heap.objs.size f cdv)) → A.guards = some [] → DSs (cxG P w K mg base N qual sc f cdv A outer s H E) body g) :
    FnG P w K mg base CX0 (k + 1) f fd ps (spD ⟨K, mg, P, w⟩ (defF ps.length N.length g)) := by
  obtain ⟨oc, od, dV, kV, doc, pm, an, cdv, ct, osl, rfl, lk, hcd, _, _⟩ := D.ex
  refine ⟨fun vs H Q E q => spD_len q, ?_⟩
  intro A outer s H args us vs Q E room gd e0 hb r q
  have hpl : ps.length ≤ N.length := by
    have z := congrArg List.length S.pre
    rw [List.length_take] at z
    omega
  refine LamX.run_ofS (N := N) (ps := ps) lk hcd S room e0 hb r (spD_len q) fun room' => ?_
  obtain ⟨t, ht, hq⟩ := body_ok (E := E) hpl (h cdv A outer s H E rfl room' gd) q
  exact ⟨t, ht.nox, hq⟩
theorem passX {P : Program} {w : World} {K : PySem.W.Frag} {mg : Str → Option Value} {base : Heap} {N : List Str} {qual : Str} {sc : Scope} {f : Addr} {cdv : Value} {A : Around} {outer : List Env} {s : Shared} {H : Hp} {E : XK} :
    PassesOwn (model (cxX P w K mg base N qual sc f cdv A outer s H E).prog (cxX P w K mg base N qual sc f cdv A outer s H E).w) (cxX P w K mg base N qual sc f cdv A outer s H E).A (cxX P w K mg base N qual sc f cdv A outer s H E).env (cxX P w K mg base N qual sc f cdv A outer s H E).xe := passes_of rfl
section
variable {X : Cx} {CX : CXT} {W : WX} {k : Nat} {f : Addr} {fd : FuncData} {ps : List Str} {sp : Sp} {x : M Ex} {c : Str} {p pos : Pos} {e : Expr} {es : List Expr}
end
inductive AllE (K : PySem.W.Frag) (mg : Str → Option Value) (C : Addr) : List (Str × Bool) → Prop
  | nil : AllE K mg C []
  | cons {y : Str} {b : Bool} {Cy : Addr} {l : List (Str × Bool)} : mg y = some (.ref Cy) → PySem.W.exmOne K (.ref Cy) (.ref C) = some b → AllE K mg C l → AllE K mg C ((y, b) :: l)
theorem allE {K : PySem.W.Frag} {mg : Str → Option Value} {C : Addr} {l : List (Str × Bool)} (h : AllE K mg C l) : ∀ (y : Str) (Cy : Addr) (b : Bool), l.lookup y = some b → mg y = some (.ref Cy) → PySem.W.exmOne K (.ref Cy) (.ref C) = some b := by
  induction h with
  | nil =>
    intro y Cy b e
    cases e
  | @cons y0 b0 C0 l0 h1 h2 _ ih =>
    intro y Cy b e hm
    rw [List.lookup_cons] at e
    split at e
    · rename_i z
      have hy := eq_of_beq z
      subst hy
      cases e
      rw [h1] at hm
      cases hm
      exact h2
    · exact ih y Cy b e hm
theorem tab_uniq {T : List (Addr × Str)} (h : (T.map (·.1)).Nodup) {P : Addr} {q : Str} (hm : (P, q) ∈ T) : ∀ p ∈ T, p.1 = P → p.2 = q := by
  induction T with
  | nil => cases hm
  | cons t T ih =>
    rw [List.map_cons, List.nodup_cons] at h
    intro p hp e
    rcases List.mem_cons.mp hm with h1 | h1
    · rcases List.mem_cons.mp hp with h2 | h2
      · rw [h2, ← h1]
      · exact absurd (List.mem_map.mpr ⟨p, h2, by rw [e, ← h1]⟩) h.1
    · rcases List.mem_cons.mp hp with h2 | h2
      · exact absurd (List.mem_map.mpr ⟨(P, q), h1, by rw [← e, h2]⟩) h.1
      · exact ih h.2 h1 p h2 e
theorem code_of {K : PySem.W.Frag} {p : Str × Option Str} {x qual : Str} {pa : Arguments} {body : List Stmt} {sc : Scope} {fd : FuncData} (D : FunD K x qual pa body sc [] [] (He.fAd K p) fd) : fd.code = .ref (He.codeOf K p) := by
  obtain ⟨oc, od, dV, kV, doc, pm, an, cdv, ct, osl, rfl, lk, hcd, _, _⟩ := D.ex
  obtain ⟨c, e⟩ := He.codeIn_ref hcd
  rw [He.codeOf_eq lk (c := c) e]
  exact e
end Dv
namespace Dv
open PySem PySem.Spec PyProof.Rows L2 LamX
variable [Tbl]
def gIsK (c : Str) : D → Option D
  | .obj c' [] _ => if c' = c then some (.bl true) else none
  | d => match tyN d with
    | some _ => some (.bl false)
    | none => none
section
variable {X : Cx} {e : Expr} {fa : ES} {c : Str} {C : Addr} {p p2 pos : Pos}
theorem de_isK {a : Expr} (hg : Gl X "isinstance") (hm : X.mg "isinstance" = none) (ha : DE X a fa) (hg2 : Gl X c) (hm2 : X.mg c = some (.ref C)) (cl : SlX.SCls X.K C) (si : SlX.SIsi X.K C) (hk : PySem.W.kitOne X.K (.ref C) (.ref C) = some true)
    (hk0 : ∀ t ∈ sevenTy, PySem.W.kitOne X.K (.type t) (.ref C) = some false)
    (hv0 : bootBuiltins "isinstance" = some (.builtin "isinstance")) (hxd : (c == ("__debug__" : Str)) = false := by decide)
    (h1 : starEach [a, .Name c p2] X.env = (false, eval a X.env) :: starEach [.Name c p2] X.env := by rfl) : DE X (.Call (.Name "isinstance" p) [a, .Name c p2] [] pos) (eUn (gIsK c) fa) := ⟨fun F => by
  refine pe_imp (pe_callB (call_isi.or (SlX.call_isiSl (.ref C))) hg hm hv0 (pa_cons (ha.run F) (pa_cons (pe_glob (v := .ref C) hg2 hm2 rfl hxd) pa_nil) h1) (by decide) (by decide) h1) fun σ H Q ⟨A, ρ, rr, ρ', S, e, q⟩ => ?_
  obtain ⟨ra, ρ1, e1, e⟩ := bind_ok e
  obtain ⟨d, ρ3, e3, e⟩ := bind_ok e
  obtain ⟨l3, rfl⟩ := val_ok e3
  obtain ⟨y, ρ5, e5, e⟩ := bind_ok e
  obtain ⟨l5, rfl⟩ := opt_ok e5
  obtain ⟨rfl, rfl⟩ := ret_ok e
  refine ⟨A, ρ, ra, _, S, e1, fun v H1 S1 m1 r1 => ?_⟩
  have rt := look_rt S1 r1 l3
  unfold gIsK at l5
  split at l5
  · split at l5
    · rename_i hc
      subst hc
      cases l5
      obtain ⟨b, dx, vs, rfl, hs, hr⟩ := obj_inv hm2 rt
      exact .inr ⟨b, C, dx, vs.map some, .ref C, true, rfl, rfl, fun w h => h, hs, cl, si, hk, q _ H1 S1 m1 (.bl _)⟩
    · cases l5
  · split at l5
    · rename_i t ht
      cases l5
      exact .inl ⟨v, .ref C, .type t, .ref C, false, rfl, .own C, rt_ty rt t ht, hk0 t (tyN_mem ht), q _ H1 S1 m1 (.bl _)⟩
    · cases l5⟩
end
theorem refB_ok {o : Option (Option Value)} {p : Addr} (h : refB o = some p) : o = some (some (.ref p)) := by
  unfold refB at h
  split at h
  · cases h; rfl
  · cases h
theorem clsB_ok {K : PySem.W.Frag} {C : Addr} (h : clsB K C = true) : SlX.SCls K C ∧ SlX.SIsi K C ∧ PySem.W.kitOne K (.ref C) (.ref C) = some true ∧ ∀ t ∈ sevenTy, PySem.W.kitOne K (.type t) (.ref C) = some false := by
  unfold clsB at h
  simp only [Bool.and_eq_true, decide_eq_true_eq, List.all_eq_true] at h
  obtain ⟨⟨⟨⟨⟨⟨⟨⟨⟨h1, h2⟩, h3⟩, h4⟩, h5⟩, h6⟩, h7⟩, h8⟩, h9⟩, h10⟩ := h
  exact ⟨⟨h1, h2, h3, h4⟩, ⟨h5, h6, h7, h8⟩, h9, h10⟩
theorem slotB_ok {K : PySem.W.Frag} {C : Addr} {f : Str} {i : Nat} (h : slotB K C f i = true) : ∃ p, SlX.Slot1 K C f p i := by
  unfold slotB at h
  split at h
  · rename_i p hp
    simp only [Bool.and_eq_true, decide_eq_true_eq] at h
    obtain ⟨⟨⟨⟨h1, h2⟩, h3⟩, h4⟩, h5⟩ := h
    exact ⟨p, refB_ok hp, h1, h2, h3, h4, h5⟩
  · cases h
theorem mkB_ok {K : PySem.W.Frag} {C f : Addr} (h : mkB K C = some f) : Mk K C f := by
  unfold mkB at h
  split at h
  · rename_i g hg
    split at h
    · rename_i hc
      cases h
      simp only [Bool.and_eq_true] at hc
      exact ⟨hc.1.1, refB_ok hg, hc.1.2, hc.2⟩
    · cases h
  · cases h
end Dv
namespace Dv
open PySem PySem.Spec PyProof.Rows L2 LamX
variable [Tbl]
end Dv
namespace Dv
open PySem PySem.Spec PyProof.Rows L2 LamX
variable [Tbl]
def yesB : Option (FR × Outs) → Bool
  | some (.im (.bl true), _) => true
  | _ => false
def okMk (G1 G2 : FD) (d1 d2 : D) : Bool := (G1 [.im d1]).isSome && yesB (G2 [.im d1, .im d2])
theorem uCall_1 {G : FD} {d : D} {ρ : Rho} {fr : FR} {outs : Outs} (e : G [.im d] = some (fr, outs)) : uCall G [.im d] ρ = .ok fr ρ := by
  unfold uCall
  simp only [apart, toSVs, toSV, e, putBack]
theorem uCall_2 {G : FD} {d d2 : D} {ρ : Rho} {fr : FR} {outs : Outs} (e : G [.im d, .im d2] = some (fr, outs)) : uCall G [.im d, .im d2] ρ = .ok fr ρ := by
  unfold uCall
  simp only [apart, toSVs, toSV, e, putBack]
def valF : FR → RV
  | .im d => .im d
  | .nw xs => .im (.lst xs)
theorem eUser_at {G : FD} {fs : M (List RV)} {rs : List RV} {ρ : Rho} {fr : FR} (e : fs ρ = .ok rs ρ) (u : uCall G rs ρ = .ok fr ρ) : eUser G fs ρ = .ok (valF fr) ρ := by
  cases fr <;> simp only [eUser, M.bind, e, u, M.ret, valF]
theorem okMk_1 {G1 G2 : FD} {a : Addr} {d1 d2 : D} (h : okMk G1 G2 d1 d2 = true) : sExpr (eUser G1 (aCons (eVar 1) aNil)) [some (.im (.ref a)), some (.im d1), some (.im d2)] = .ok .nx [some (.im (.ref a)), some (.im d1), some (.im d2)] := by
  unfold okMk at h
  simp only [Bool.and_eq_true] at h
  obtain ⟨⟨fr, outs⟩, e⟩ := Option.isSome_iff_exists.mp h.1
  have v := eUser_at (fs := aCons (eVar 1) aNil) (ρ := [some (.im (.ref a)), some (.im d1), some (.im d2)]) rfl (uCall_1 e)
  simp only [sExpr, M.bind, v]
  rfl
theorem okMk_2 {G1 G2 : FD} {a : Addr} {d1 d2 : D} (h : okMk G1 G2 d1 d2 = true) : sIf (bNot (bVal (eUser G2 (aCons (eVar 1) (aCons (eVar 2) aNil))))) sNever sNil [some (.im (.ref a)), some (.im d1), some (.im d2)] = .ok .nx [some (.im (.ref a)), some (.im d1), some (.im d2)] := by
  unfold okMk at h
  simp only [Bool.and_eq_true] at h
  have h2 := h.2
  unfold yesB at h2
  split at h2
  · rename_i outs e
    have v := eUser_at (fs := aCons (eVar 1) (aCons (eVar 2) aNil)) (ρ := [some (.im (.ref a)), some (.im d1), some (.im d2)]) rfl (uCall_2 e)
    simp only [sIf, bNot, bVal, M.bind, v, valF]
    rfl
  · cases h2
end Dv
namespace Dv
open PySem PySem.Spec PyProof.Rows L2 LamX
variable [Tbl]
theorem mkB_at {K : PySem.W.Frag} {C f : Addr} (h : decide (mkB K C = some f) = true) : Mk K C f := mkB_ok (of_decide_eq_true h)
end Dv
namespace Dv
open PySem PySem.Spec PyProof.Rows L2 LamX
section
variable {X : Cx} {pins : List (Addr × Obj)} {σ : L2.St} {H : Hp} {s : Shared}
end
end Dv
namespace Dv
open PySem PySem.Spec PyProof.Rows L2 LamX
structure LamD (N : List Str) (x0 : Str) (sc scope : Scope) : Prop where
  kind : scope.kind = .function
  co : scope.isCoroutine = false
  gen : scope.isGenerator = false
  cel : ∀ y ∈ scope.names, y.2 ≠ .cell
  own : ∀ y ∈ scope.names, y.2 = .local → y.1 = x0
  at_ : scope.names.lookup x0 = some .local
  out : x0 ∉ N
  free : ∀ y ∈ scope.names, y.2 = .free → sc.names.lookup y.1 = some .cell ∨ sc.names.lookup y.1 = some .free
theorem LamD.has {X : Cx} {N : List Str} {x0 : Str} {scope : Scope} (L : LamD N x0 X.env.scope scope) (ok : X.Ok) : ∀ y ∈ scope.names, y.2 = .free → ∃ c, X.env.cells.lookup y.1 = some c := fun y hy e => by
  rcases L.free y hy e with k | k
  · exact ok.has _ (.inl k)
  · exact ok.has _ (.inr k)
section
variable {X : Cx} {pins : List (Addr × Obj)} {σ : L2.St} {H HZ : Hp} {s s1 : Shared}
end
end Dv
namespace Dv
open PySem PySem.Spec PyProof.Rows L2 LamX
variable [Tbl]
section
variable {X : Cx} {k kk : Nat} {x0 : Str} {n : Int} {cp : Pos} {m a : Str} {g c P : Addr} {pg : Arguments} {bg : List Stmt} {sg : Scope} {fdg : FuncData} {Ng : List Str} {params : Arguments} {body : Expr} {scope : Scope} {lpos p pos : Pos} {fb : ES} {xb : M Ex} {hk : Ex → Option D}
end
section
variable {X : Cx} {k kk : Nat} {x0 : Str} {n : Int} {cp : Pos} {m a : Str} {g c P : Addr} {pg : Arguments} {sg : Scope} {fdg : FuncData} {Ng : List Str} {params : Arguments} {body e0 : Expr} {scope : Scope} {lpos p pos p1 p2 p3 p4 p5 : Pos} {fb : ES} {xb : M Ex} {hk : Ex → Option D} {h₀ : ExceptHandler} {hds : List ExceptHandler} {v0 : V} {d0 : D}
end
end Dv
namespace Dv
open PySem PySem.Spec PyProof.Rows L2 LamX
variable [Tbl]
section
variable {X : Cx} {i : Option Nat} {e e1 e2 : Expr} {s1 s2 : Ex → Option D} {pos p1 : Pos}
end
end Dv
namespace Dv
open PySem PySem.Spec PyProof.Rows L2 LamX
variable [Tbl]
def tCE (G : Gp) (d : D) : TE := fun σ H Q => ∃ Z, ZOk Z H ∧ ∀ v H', Same H H' → RD G (hid Z H') v d → Q v H'
structure CE (X : Cx) (e : Expr) (d : D) : Prop where
  run : PE X e (tCE (Gx X) d)
section
variable {X : Cx} {e1 e2 : Expr} {d1 d2 : D} {pos : Pos}
theorem ce_str {s : Str} {j} : CE X (.Constant (.str s) j pos) (.str s) := ⟨pe_imp pe_str fun σ H Q ⟨Z, z, q⟩ => q _ H (Same.refl H) (.str s)⟩
end
section
variable {X : Cx} {k kk : Nat} {x0 : Str} {n : Int} {cp : Pos} {m a : Str} {g c P : Addr} {pg : Arguments} {sg : Scope} {fdg : FuncData} {Ng : List Str} {params : Arguments} {body e0 : Expr} {scope : Scope} {lpos p pos p1 p2 p3 p4 p5 : Pos} {fb : ES} {xb : M Ex} {hk : Ex → Option D} {h₀ : ExceptHandler} {hds : List ExceptHandler} {v0 : V} {d0 : D}
theorem de_metT (Dg : FunD X.K m m pg [.Try [.Expr (.Call (.Name a p1) [] [] p2) p3] (h₀ :: hds) [] [] p4, .Return (some e0) p5] sg [] [] g fdg) (Sg : FnScope Ng [a] sg) (hNg : Ng[0]? = some a) (hva : Vis sg a) (hb : L2.Binds X.K fdg [a] []) (hg : Gl X m) (hm : X.mg m = some (.ref g)) (lam : LamOk X c P params body scope) (hr : Room (k + 2) X.A) (gd : X.A.guards = some [])
    (hfb : ∀ (E : XK) (A : Around) (outer : List Env) (s : Shared) (H : Hp) (f c' : Addr), Room k (A.deeper (lamEnv X scope s.heap.objs.size f c')) → A.guards = some [] → DE (lamCx X A outer s H E scope f c') body fb)
    (hxb : ∀ (E : XK) (A : Around) (outer : List Env) (s : Shared) (H : Hp) (f c' : Addr), Room k (A.deeper (lamEnv X scope s.heap.objs.size f c')) → A.guards = some [] → Takes (lamCx X A outer s H E scope f c') (fun cls d _ H' => E cls d H') → EX (lamCx X A outer s H E scope f c') (fun cls d _ H' => E cls d H') body xb)
    (hH : ∀ (cdv : Value) (s : Shared) (H : Hp), Hs (cxM X Ng m sg g cdv s H) (h₀ :: hds) hk) (h0 : ∀ (cdv : Value) (s : Shared) (H : Hp), CE (cxM X Ng m sg g cdv s H) e0 d0)
    (hdb : (m == ("__debug__" : Str)) = false := by decide) (hd : (a == ("__debug__" : Str)) = false := by decide) (hcd : (a == ("__classdict__" : Str)) = false := by decide) :
    DE X (.Call (.Name m p) [.Lambda params body scope lpos] [] pos) (eMet fb xb (fineC d0) hk) := ⟨fun F => pe_imp (pe_lamdef (fb := fb) (xb := xb) (TT := tD (Gx X) F (eMet fb xb (fineC d0) hk)) Dg Sg hNg hva hb hg hm lam hr gd
    (fun E A outer s H f c' hr2 g2 => pe_or (hfb E A outer s H f c' hr2 g2).any ⟨fun pins s' σ H' Q I ⟨F', q⟩ => ((hxb E A outer s H f c' hr2 g2 (takes_of rfl rfl rfl rfl)).run F').run pins s' σ H' Q I q⟩)
    (fun f c' cdv s σ H Q hco ⟨A, ρ, r, ρ', S, e, q⟩ act => by
      obtain ⟨l, hc, hv⟩ := hH cdv s H
      refine ⟨_, pss_cons (ps_try_cl (X := cxM X Ng m sg g cdv s H) rfl rfl takesF (fun W pn xe tk => pss_one (ps_expr (act W pn xe p1 p2 tk) rfl)) hc) (pss_one (ps_ret (h0 cdv s H).run)), ?_⟩
      have hl : 1 ≤ Ng.length := by
        cases Ng with
        | nil => cases hNg
        | cons _ _ => exact Nat.succ_le_succ (Nat.zero_le _)
      refine ⟨start_of rfl, hco, ?_⟩
      rcases eMet_cases e with ⟨ex, d, hx, h1, rfl⟩ | ⟨rr, d, hf, h1, rfl⟩
      · exact .inr ⟨F, A, ρ, ex, ρ', S, hx, fun cls dd H' S' mm xo => hv _ _ ex d (zs F A) H' cls dd _ (start_len hl) S'.zall h1 xo fun v H2 sm rd => q v H2 (S'.same sm) (mm.trans (Stp.of sm)) rd⟩
      · cases h1
        exact .inl ⟨F, A, ρ, rr, ρ', S, hf, fun v H' S' mm _ => ⟨zs F A, S'.zall, fun v H2 sm rd => q v H2 (S'.same sm) (mm.trans (Stp.of sm)) rd⟩⟩)
    hdb hd hcd) fun σ H Q ⟨A, ρ, r, ρ', S, e, q⟩ => ⟨S.tabs, fun H1 sN T1 => ⟨A, ρ, r, ρ', S.sameN sN T1, e, fun v H' S' mm rr => q v H' S' ((Stp.ofN sN).trans mm) rr⟩⟩⟩
end
end Dv
namespace Dv
open PySem PySem.Spec PyProof.Rows L2
theorem dx_put {X : Cx} {pins : List (Addr × Obj)} {σ : St} {H : Hp} {s : Shared} {E : Value → Shared → Prop} {a : Addr} {y v : V} {iv u : Value} {Q : Hp → Prop} (hu : X.A.units + 1 < cLine) (I : L2.Inv X pins σ H s) (h : rDSet X.K X.prog X.w (.ref a) y v H Q) (ri : RelV y iv) (rv : RelV v u) :
    wpAny (model X.prog X.w) X.A (dictSet a iv u) (fun _ s' => ∃ H', L2.Inv X pins σ H' s' ∧ Q H') E s := by
  obtain ⟨a', ea, h⟩ := h
  cases ea
  rcases h with ⟨kvs, k, e, ey, l, q⟩ | ⟨xs, l, b, e, ey, hb, hl, q⟩
  · exact d_dictSet I e l (ey ▸ ri) rv fun s' I' => ⟨_, I', q⟩
  · subst ey
    cases (show iv = Value.ref b from ri)
    have ⟨dd, hd, mu⟩ : s.heap.DictOfH (tupleKind (mixKind X.prog X.w)) a xs ∧ (a == sysModules) = false ∧ Mut (H a) := by
      rcases e with ⟨rfl, e⟩ | ⟨e, ks⟩
      · exact ⟨(dk0_of I (.inl e)).1, (dk0_of I (.inl e)).2, by rw [e]; trivial⟩
      · exact ⟨(dto_of I (.inl e) ks).1, (dto_of I (.inl e) ks).2.2, by rw [e]; trivial⟩
    refine wpAny_dictSet_heap (hsz := Nat.le_of_lt hl) (show X.A.units < cLine from Nat.lt_of_succ_lt hu) (hb.key I.hok I.kIn) dd fun h' dd' hs => ⟨_, ?_, q u rv⟩
    obtain ⟨q0, es, ep, hq, h2, h3, h4, h6, h5⟩ := dd'
    exact d_write I mu hs ⟨q0, hq⟩ ⟨⟨⟨q0, es, ep, hq, h2, h3, h4⟩, h5, Nat.le_trans (storedH_len xs l b u) hl, hd⟩, ⟨q0, hq⟩, fun h1 h2' ⟨⟨o, es', ep', g1, g2⟩, g3⟩ st => ⟨⟨o, es', ep', st _ g1, g2⟩, g3⟩⟩
section
variable {X : Cx}
def tDcX (wi : TI) (g : TG) (tt : TT) (tk tv : TE) (vs : List Nat) : TE := fun σ H Q => wi σ H fun J H1 => ∀ D, H1 D = none → ∃ W : Nat → Nat → Hp → Prop, (∃ m, W 0 m (upd H1 D (.dK []))) ∧ ∀ i m H, W i m H →
  (J.stop i H ∧ Q (.ref D) H) ∨ (J.go i H ∧ ∃ Nx : Hp → Prop, (∀ H', Nx H' → ∃ m', m' < m ∧ W (i + 1) m' H') ∧ ∀ x H', J.yld i H x H' → g x (wipe σ vs) H' fun σ2 H2 => wipe σ2 vs = wipe σ vs ∧ tt σ2 H2 fun b H3 =>
    if b = true then tk σ2 H3 fun y H4 => tv σ2 H4 fun z H5 => rDSet X.K X.prog X.w (.ref D) y z H5 Nx else Nx H3)
theorem dcX_core (hu : X.A.units + 1 < cLine) {pins : List (Addr × Obj)} {s : Shared} {σ : L2.St} {H : Hp} {Q : VK} {pos' : Pos} {use : Option (Value → Sem Unit)} {Qf : Value → Shared → Prop} {kx vx tg iter : Expr} {ifs : List Expr} {scope : Scope} {own : List (Str × Nat)} {pos : Pos} {wi : TI} {g : TG} {tt : TT} {tk tv : TE} (hc : X.calm = true) (hN : X.N.Nodup) (I : L2.Inv X pins σ H s) (hi : PI X tg iter wi) (ok : BlkOk X.N X.env.scope scope own)
    (hg : ∀ (s : Shared) (H : Hp) (C : Addr) (cl : List (Str × Addr)) (fp : List Addr), PG (X.blk s H scope (compEnvC scope cl C X.env) fp) tg g) (ht : ∀ (s : Shared) (H : Hp) (C : Addr) (cl : List (Str × Addr)) (fp : List Addr), PTs (X.blk s H scope (compEnvC scope cl C X.env) fp) ifs tt)
    (hk : ∀ (s : Shared) (H : Hp) (C : Addr) (cl : List (Str × Addr)) (fp : List Addr), PE (X.blk s H scope (compEnvC scope cl C X.env) fp) kx tk)
    (he : ∀ (s : Shared) (H : Hp) (C : Addr) (cl : List (Str × Addr)) (fp : List Addr), PE (X.blk s H scope (compEnvC scope cl C X.env) fp) vx tv) (hs : ∀ x, foldedSetIterable iter X.env x = pure x )
    (h : tDcX (X := X) wi g tt tk tv (own.map (·.2)) σ H Q)
    (out : ∀ D C s' m H', L2.Inv X pins σ H' s' → Q (.ref D) H' → s'.heap.Ns C m → FpOk X pins H' C → compPost (model X.prog X.w) X.A X.xe use Qf (.ref D) C (.ok .next) s') :
    wpAny (model X.prog X.w) X.A (comprehension (.DictComp kx vx [⟨tg, iter, ifs, 0⟩] scope pos) scope X.env pos' newDict false (eval iter X.env) use) Qf X.xe s := by
  have capt : ∀ y ∈ scope.names, y.2 = .free → ∃ c, X.env.cells.lookup y.1 = some c := fun y hy e => (ok.free y hy e).elim (fun k => I.ok.has _ (.inl k)) fun k => I.ok.has _ (.inr k)
  refine wpAny_comprehension_free (use := use) rfl hs (closure_ok capt) ok.kind (fun y hy e => by rw [ok.uniq y hy, e]) ?_
  apply thn (hi.run pins s σ H _ I h)
  intro xv s1 hx
  apply thn hx
  rintro _ s2 ⟨it, fp, tn, J, H2, rfl, I2, T, t2, f2, q⟩
  refine wpAny_newObj_type (newEnv_comp ?_)
  generalize hD : s2.heap.objs.size = D
  have nD : H2 D = none := I2.hok.fresh (Nat.le_of_eq hD)
  obtain ⟨W, ⟨m0, w0⟩, turn⟩ := q D nD
  generalize e3 : ({ s2 with heap := s2.heap.push { cls := .type "dict", data := .dict #[] } } : Shared) = s3
  have q3 : s3.heap = s2.heap.push { cls := .type "dict", data := .dict #[] } := by rw [← e3]
  have I3 : L2.Inv X pins σ (upd H2 D (.dK [])) s3 := by
    rw [← e3]
    exact I2.laid (t' := s2.toks) (fun b o e => Heap.get?_push_of_some _ e) (Nat.le_of_eq hD) (hD ▸ dk_empty s2.heap I2.big)
  have f3 : ∀ b ∈ fp, FpOk X pins (upd H2 D (.dK [])) b ∧ b < s3.heap.objs.size := fun b hb => by
    obtain ⟨o, e, _⟩ := T.obj _ _ t2 b hb
    have lt := Heap.lt_size e
    exact ⟨⟨(upd_ne (hD ▸ Nat.ne_of_lt lt)).trans (f2 b hb).1, (f2 b hb).2⟩, by rw [q3, Heap.size_push]; exact Nat.lt_succ_of_lt lt⟩
  have t3 : tn 0 s3.heap := T.keep _ _ _ t2 fun b _ o e => q3 ▸ Heap.get?_push_of_some _ e
  have I4 := block_start I3 ok hN f3
  have pg := hg s3 (upd H2 D (.dK [])) s3.heap.objs.size (cellsFrom (s3.heap.objs.size + 1) scope.names (cloFrom X.env.cells scope.names [])) fp
  have pt := ht s3 (upd H2 D (.dK [])) s3.heap.objs.size (cellsFrom (s3.heap.objs.size + 1) scope.names (cloFrom X.env.cells scope.names [])) fp
  have pk := hk s3 (upd H2 D (.dK [])) s3.heap.objs.size (cellsFrom (s3.heap.objs.size + 1) scope.names (cloFrom X.env.cells scope.names [])) fp
  have pv := he s3 (upd H2 D (.dK [])) s3.heap.objs.size (cellsFrom (s3.heap.objs.size + 1) scope.names (cloFrom X.env.cells scope.names [])) fp
  show codeAny _ _ (.compStart (.DictComp kx vx [⟨tg, iter, ifs, 0⟩] scope pos) 0 (.ref it) (.ref D) (compEnvC scope (cellsFrom (s3.heap.objs.size + 1) scope.names (cloFrom X.env.cells scope.names [])) s3.heap.objs.size X.env)) (compPost (model X.prog X.w) X.A X.xe use Qf (.ref D) s3.heap.objs.size) { s3 with heap := pushCells (s3.heap.push { cls := .type "dict", data := .dict #[] }) scope.names }
  have nf : ∀ b ∈ fp, (upd H2 D (.dK [])) b = none := fun b hb => (f3 b hb).1.1
  generalize ec : compEnvC scope (cellsFrom (s3.heap.objs.size + 1) scope.names (cloFrom X.env.cells scope.names [])) s3.heap.objs.size X.env = ce at I4 pg pt pk pv ⊢
  have cl : ce.locals = s3.heap.objs.size := by subst ec; rfl
  generalize eH : upd H2 D (.dK []) = H3 at I3 I4 pg pt pk pv w0 nf f3
  generalize e4 : ({ s3 with heap := pushCells (s3.heap.push { cls := .type "dict", data := .dict #[] }) scope.names } : Shared) = s4 at I4 ⊢
  have t4 : tn 0 s4.heap := T.keep _ _ _ t3 fun b _ o e => e4 ▸ pushCells_keeps _ _ _ _ (Heap.get?_push_of_some _ e)
  have feet : ∀ {σ' : St} {H' : Hp} {s' : Shared}, L2.Inv (X.blk s3 H3 scope ce fp) [] σ' H' s' → (∀ b ∈ fp, H' b = none) → ∀ b ∈ fp, FpOk (X.blk s3 H3 scope ce fp) [] H' b := fun {_ _ _} I' hn b hb =>
    ⟨hn b hb, (I'.ok.exf b hb).1, I'.ok.exfs b hb, .inl hb, fun x c e => (I'.ok.exf b hb).2 x c e, fun p hp => nomatch hp⟩
  refine codeAny_compStart_dict ?loop (T.self X.A 0 _ _ _ t4 ?loop)
  refine compLoop_anyD (fun n s' => ∃ i H', L2.Inv (X.blk s3 H3 scope ce fp) [] (wipe σ (own.map (·.2))) H' s' ∧ tn i s'.heap ∧ (∀ b ∈ fp, H' b = none) ∧ W i n H') ?_ m0 ⟨0, H3, I4, t4, nf, w0⟩
  rintro n s5 ⟨i, H5, I5, t5, n5, w5⟩
  rcases turn i n H5 w5 with ⟨stop, qq⟩ | ⟨go, Nx, hNx, step⟩
  · apply thnF (T.done (X.blk s3 H3 scope ce fp) rfl rfl rfl hc i [] s5 _ H5 (fun _ _ => False) I5 (feet I5 n5) t5 stop)
    rintro _ s6 ⟨rfl, I6⟩
    have I7 : L2.Inv X pins σ H5 s6 := I3.call' (ch := fp) I6.os I6.base I6.hok I6.bare fun b hb => ⟨(f3 b hb).1.2.2.2.1, (f3 b hb).1.2.1, (f3 b hb).1.2.2.2.2.1, (f3 b hb).1.2.2.2.2.2⟩
    have nC : H5 s3.heap.objs.size = none := cl ▸ (show H5 ce.locals = none from I6.free)
    obtain ⟨m, hn, _⟩ := I6.loc
    have hn : s6.heap.Ns s3.heap.objs.size m := cl ▸ (show s6.heap.Ns ce.locals m from hn)
    exact out D s3.heap.objs.size s6 m H5 I7 qq hn (I3.fpOk (Nat.le_refl _) nC)
  · apply thnF (T.item (X.blk s3 H3 scope ce fp) rfl rfl rfl hc i [] s5 _ H5 (fun _ _ => False) I5 (feet I5 n5) t5 go)
    rintro _ s6 ⟨u, rfl, h6⟩
    apply thnF h6
    rintro _ s7 ⟨x, H7, I7, r7, y7, t7, n7⟩
    apply thnF (pg.run _ s7 _ H7 x u _ (I7.pinned (feet I7 n7) (T.obj _ _ t7)) r7 (step x H7 y7))
    rintro _ s8 ⟨σ8, H8, I8, hw8, q8⟩
    apply thnF (pt.run _ s8 σ8 H8 _ I8 q8)
    rintro b s9 ⟨H9, I9, q9⟩
    have fin : ∀ {s' : Shared} {H' : Hp}, L2.Inv (X.blk s3 H3 scope ce fp) ([] ++ pinsAt fp s7.heap) σ8 H' s' → Nx H' → ∃ m, m < n ∧ ∃ i H', L2.Inv (X.blk s3 H3 scope ce fp) [] (wipe σ (own.map (·.2))) H' s' ∧ tn i s'.heap ∧ (∀ b ∈ fp, H' b = none) ∧ W i m H' := fun {s' H'} I' nx => by
      obtain ⟨m', hm, w'⟩ := hNx H' nx
      have pin : ∀ b ∈ fp, ∀ o, s7.heap.get? b = some o → s'.heap.get? b = some o ∧ H' b = none := fun b hb o e =>
        have z := I'.pin (b, o) (List.mem_append_right _ (List.mem_append_right _ (mem_pinsAt hb e)))
        ⟨z.1, z.2.1⟩
      refine ⟨m', hm, i + 1, H', (I'.unpinned (pins := [])).weak (by rw [← hw8, wipe_length]) (fun j v e => (wipe_some (hw8 ▸ e)).1), T.keep _ _ _ t7 fun b hb o e => (pin b hb o e).1, fun b hb => ?_, w'⟩
      obtain ⟨o, e, _⟩ := T.obj _ _ t7 b hb
      exact (pin b hb o e).2
    cases b with
    | false => exact fin I9 q9
    | true =>
      simp only [if_true] at q9 ⊢
      apply thnF (pk.run _ s9 σ8 H9 _ I9 q9)
      rintro z s10 ⟨yk, H10, I10, r10, q10⟩
      apply thnF (pv.run _ s10 σ8 H10 _ I10 q10)
      rintro z2 s11 ⟨yv, H11, I11, r11, st⟩
      exact wpAny_mono (dx_put (X := X.blk s3 H3 scope ce fp) hu I11 st r10 r11) (fun _ s' ⟨H', I', nx⟩ => fin I' nx) fun _ _ z => z
theorem pe_dcX (hu : X.A.units + 1 < cLine) {kx vx tg iter : Expr} {ifs : List Expr} {scope : Scope} {own : List (Str × Nat)} {pos : Pos} {wi : TI} {g : TG} {tt : TT} {tk tv : TE} (hc : X.calm = true) (hN : X.N.Nodup) (hi : PI X tg iter wi) (ok : BlkOk X.N X.env.scope scope own)
    (hg : ∀ (s : Shared) (H : Hp) (C : Addr) (cl : List (Str × Addr)) (fp : List Addr), PG (X.blk s H scope (compEnvC scope cl C X.env) fp) tg g) (ht : ∀ (s : Shared) (H : Hp) (C : Addr) (cl : List (Str × Addr)) (fp : List Addr), PTs (X.blk s H scope (compEnvC scope cl C X.env) fp) ifs tt)
    (hk : ∀ (s : Shared) (H : Hp) (C : Addr) (cl : List (Str × Addr)) (fp : List Addr), PE (X.blk s H scope (compEnvC scope cl C X.env) fp) kx tk)
    (he : ∀ (s : Shared) (H : Hp) (C : Addr) (cl : List (Str × Addr)) (fp : List Addr), PE (X.blk s H scope (compEnvC scope cl C X.env) fp) vx tv) (hs : ∀ x, foldedSetIterable iter X.env x = pure x := by intro _; rfl) :
    PE X (.DictComp kx vx [⟨tg, iter, ifs, 0⟩] scope pos) (tDcX (X := X) wi g tt tk tv (own.map (·.2))) := by
  constructor
  intro pins s σ H Q I h
  rw [arm_eval_DictComp]
  exact dcX_core hu hc hN I hi ok hg ht hk he hs h fun D C s' m H' I' q hn f => ⟨m, hn, fun h'' sb => ⟨.ref D, H', I'.turned (t' := s'.toks) (fun b o hb e => (sb.2 b hb).trans e) f.1 f.2.1 f.2.2.2.1 f.2.2.2.2.1 f.2.2.2.2.2, rfl, q⟩⟩
end
end Dv
namespace Dv
open PySem PySem.Spec PyProof.Rows L2
variable [Tbl]
theorem put_go {G : Gp} {Z : List Addr} {H : Hp} {p : Addr} {ks vs ks' vs' : List D} {dx d : D} {y v : V} {Q : Hp → Prop} (c : DcC G H (hid Z H) p ks vs) (ry : RT G Z H y dx) (rv : RD G (hid Z H) v d) (e : gPut ks vs dx d = some (ks', vs'))
    (q : ∀ o, isTb o = false → DcC G (upd H p o) (hid Z H) p ks' vs' → Q (upd H p o)) : rDSet G.K G.P G.w (.ref p) y v H Q := by
  have hk : keyFor ks dx = true ∧ ks.length < 1000000 := by
    unfold gPut at e
    split at e
    · assumption
    · cases e
  refine ⟨p, rfl, ?_⟩
  by_cases ht : ∃ xs, dx = .tup xs
  · obtain ⟨xs, rfl⟩ := ht
    have hk1 := hk.1
    unfold keyFor at hk1
    simp only [Bool.and_eq_true] at hk1
    obtain ⟨g1, g2⟩ := hk1
    obtain ⟨l, el⟩ := Option.isSome_iff_exists.mp g1
    obtain ⟨b, rfl, hb⟩ := tup_keyH ry el
    have ek : D.tup xs = keyT l := by rw [keysK_eq el]; rfl
    rw [ek] at e
    cases c with
    | @k kvs ds c1 c2 =>
      rw [tupDict_k] at g2
      cases kvs with
      | cons p r => simp at g2
      | nil =>
        cases c2
        refine .inr ⟨[], l, b, .inl ⟨rfl, c1⟩, rfl, hb.mono hid_full, by show 0 < sizeLine; rw [sizeLine_eq]; decide, fun u ru => ?_⟩
        obtain ⟨k1, k2, k3, vs2, k4, k5⟩ := put_t (b := b) (xs := []) (vs := []) .nil .nil rv ru (fun _ h => nomatch h) hb e
        subst k1
        exact q _ rfl (.t k3 upd_same k2 k4 k5)
    | @t xs vs0 ds n c1 c2 c3 c4 =>
      refine .inr ⟨xs, l, b, .inr ⟨c1, c2.mono hid_full⟩, rfl, hb.mono hid_full, len_lt (by have := hk.2; rwa [List.length_map] at this), fun u ru => ?_⟩
      obtain ⟨k1, k2, k3, vs2, k4, k5⟩ := put_t (b := b) c3 c4 rv ru c2 hb e
      subst k1
      exact q _ rfl (.t k3 upd_same k2 k4 k5)
  · have hk2 : ((keyK dx).isSome && !tupDict ks) = true := by
      have h := hk.1
      cases dx <;> first | exact absurd ⟨_, rfl⟩ ht | exact h
    rw [Bool.and_eq_true] at hk2
    obtain ⟨g1, g2⟩ := hk2
    obtain ⟨q0, eq⟩ := Option.isSome_iff_exists.mp g1
    obtain rfl := keyK_eq eq
    have ey : y = kV q0 := by
      cases q0
      · exact ry.int
      · exact ry.str
    cases c with
    | @k kvs ds c1 c2 =>
      obtain ⟨k1, k2⟩ := put_k c2 rv e
      subst k1
      exact .inl ⟨kvs, q0, c1, ey, len_lt (by have := hk.2; rwa [List.length_map] at this), q _ rfl (.k upd_same k2)⟩
    | @t xs vs0 ds n c1 c2 c3 c4 => rw [tupDict_t n] at g2; cases g2
theorem DcC.move {G : Gp} {H Hv H' Hv' : Hp} {a : Addr} {ks ds : List D} (h : DcC G H Hv a ks ds) (k : ∀ o, H a = some o → isTb o = false → H' a = some o) (e : Same Hv Hv') : DcC G H' Hv' a ks ds :=
  OwC.move (d := .dct ks ds) h k e
theorem Sts.hupdD {G : Gp} {F : Fm} {A : Own} {σ : L2.St} {ρ : Rho} {H : Hp} {p : Addr} {o u : HO} (S : Sts G (F.hide p) A σ ρ H) (h0 : F.H0 p = none) (hz : p ∉ zs F A) (hl : H p = some u) (ut : isTb u = false) (un : ∀ q, u ≠ LamX.CodeO p q) (ob : isTb o = false) : Sts G (F.hide p) A σ ρ (upd H p o) := by
  have hm : p ∈ zs (F.hide p) A := zs_hide.mpr (.inl rfl)
  have np : ∀ j a, (j, a) ∈ A → a ≠ p := fun j a h z => hz (mem_zs.mpr (.inr ⟨j, z ▸ h⟩))
  have ow : ∀ {j a ys}, (j, a) ∈ A → OwAt G (F.hide p) A σ H j a ys → OwAt G (F.hide p) A σ (upd H p o) j a ys := fun {j a ys} hj h => ⟨h.1, h.2.move (fun _ z _ => by rw [upd_ne (np j a hj)]; exact z) (by rw [hid_upd hm]; exact Same.refl _)⟩
  refine ⟨S.len, fun i d h => ?_, fun i xs h => ?_, fun i xs h => ?_, S.own, S.uni, S.bor, fun a w h1 h2 => ?_, fun a h => ?_, tabs_updG S.tabs hl ut un⟩
  · obtain ⟨v, h1, h2⟩ := S.im i d h
    exact ⟨v, h1, by rw [hid_upd hm]; exact h2⟩
  · obtain ⟨a, h1, h2, h3, h4⟩ := S.ow i xs h
    exact ⟨a, h1, h2, h3, ow h1 h4⟩
  · obtain ⟨a, h1, h2, h4⟩ := S.bo i xs h
    exact ⟨a, h1, h2, ow h1 h4⟩
  · have ne : a ≠ p := fun e => by
      rw [e] at h1
      exact absurd ((show nt F.H0 p = some w from h1).symm.trans (nt_none.mpr h0)) (fun z => nomatch z)
    rw [nt_upd ob, upd_ne ne]
    exact S.keep a w h1 h2
  · by_cases z : a = p
    · rw [z, upd_same]; exact fun q => nomatch q
    · rw [upd_ne z]; exact S.zok a h
def cD0 : M D := M.ret (.dct [] [])
section
variable {X : Cx} {pos : Pos} {e : Expr} {f : M D}
theorem fresh_dict {G : Gp} {F : Fm} {A : Own} {σ : L2.St} {ρ' : Rho} {H : Hp} {Q : VK} {p : Addr} (S : Sts G F A σ ρ' H) (hp : H p = none)
    (q : ∀ p H', Sts G (F.hide p) A σ ρ' H' → F.H0 p = none → p ∉ zs F A → Stp A H H' → H p = none → (∃ ks vs, D.dct [] [] = .dct ks vs ∧ DcC G H' (hid (zs (F.hide p) A) H') p ks vs) → Q (.ref p) H') : Q (.ref p) (upd H p (.dK [])) := by
  have sm := Same.of_new (o := .dK []) hp
  exact q p _ (S.hide hp sm (by rw [upd_same]; exact fun z => nomatch z)) (S.h0 hp) (S.zall.out hp) (Stp.of sm) hp ⟨[], [], rfl, .k (kvs := []) upd_same .nil⟩
theorem dc_0 : DC X (.Dict [] [] pos) cD0 := ⟨fun F => pe_imp pe_dnewK fun σ H Q ⟨A, ρ, d, ρ', S, e, q⟩ => by
  obtain ⟨rfl, rfl⟩ := ret_ok e
  exact fun p hp => fresh_dict S hp q⟩
theorem pe_lockR {t : TE} (h : PE X e t) : PE X e (fun σ H Q => t σ H fun v H1 => ∃ p u, v = .ref p ∧ H1 p = some u ∧ Mut (some u) ∧ ∀ o, Q v (upd H1 p (.frz o u))) := ⟨fun pins s σ H Q I q => by
  apply thn (h.run pins s σ H _ I q)
  rintro w s1 ⟨v, H1, I1, rv, p, u, ev, hp, mu, k⟩
  obtain ⟨od, I2⟩ := I1.lock hp mu
  exact ⟨v, _, I2, rv, k od⟩⟩
def eCn (f : M D) : ES := M.bind f fun d => M.ret (.im d)
theorem de_cn (h : DC X e f) : DE X e (eCn f) := ⟨fun F => pe_imp (pe_lockR (h.run F)) fun σ H Q ⟨A, ρ, rr, ρ', S, e, q⟩ => by
  obtain ⟨d, ρ1, e1, e⟩ := bind_ok e
  obtain ⟨rfl, rfl⟩ := ret_ok e
  refine ⟨A, ρ, d, _, S, e1, fun p H' S' h0 hz m hn ⟨ks, vs, ed, c⟩ => ?_⟩
  subst ed
  obtain ⟨u, hu, ut, un⟩ := DcC.old c
  have mu : Mut (some u) := by
    cases c with
    | k h1 _ => rw [h1] at hu; cases hu; trivial
    | t _ h1 _ _ _ => rw [h1] at hu; cases hu; trivial
  refine ⟨p, u, rfl, hu, mu, fun o => ?_⟩
  have S2 := (S'.hupdD (o := .frz o u) h0 hz hu ut un rfl).show
  have za : p ∈ zs (F.hide p) A := zs_hide.mpr (.inl rfl)
  have key : Same (hid (zs (F.hide p) A) H') (hid (zs F A) (upd H' p (.frz o u))) := fun b w e => by
    obtain ⟨g1, g2, g3⟩ := hid_all e
    have ne : b ≠ p := fun z => g1 (z ▸ za)
    exact hid_of (fun z => g1 (zs_hide.mpr (.inr z))) (by rw [upd_ne ne]; exact g2) g3
  have at0 : hid (zs F A) (upd H' p (.frz o u)) p = some (.frz o u) := hid_of hz upd_same
  have rd : RD (Gx X) (hid (zs F A) (upd H' p (.frz o u))) (.ref p) (.dct ks vs) := by
    cases c with
    | k h1 h2 => rw [h1] at hu; cases hu; exact .dct at0 (h2.mono key)
    | t n h1 h2 h3 h4 => rw [h1] at hu; cases hu; exact .dctT n at0 (h2.mono key) h3 (h4.mono key)
  exact q _ _ S2 (stp_upd hn m rfl) rd⟩
def dcLoop (vs : List Nat) (g : IV → M Unit) (gt : M Bool) (fk fe : ES) : List IV → List D × List D → M (List D × List D)
  | [], acc => M.ret acc
  | d :: ds, acc => M.bind (g d) fun _ => M.bind gt fun b => match b with
    | true => M.bind fk fun rk => M.bind (imm rk) fun k => M.bind fe fun r => M.bind (imm r) fun x => M.bind (M.opt (gPut acc.1 acc.2 k x)) fun acc' => M.bind (wipeM vs) fun _ => dcLoop vs g gt fk fe ds acc'
    | false => M.bind (wipeM vs) fun _ => dcLoop vs g gt fk fe ds acc
def nDc (vs : List Nat) (fi : M (List IV)) (g : IV → M Unit) (gt : M Bool) (fk fe : ES) : M D := M.bind fi fun ds => fun ρ => match okw vs ρ with
  | true => match dcLoop vs g gt fk fe ds ([], []) (wipeR ρ vs) with
    | .ok acc ρ' => .ok (.dct acc.1 acc.2) (putB ρ vs ρ')
    | .ex e ρ' => .ex e (putB ρ vs ρ')
    | .no => .no
  | false => .no
theorem dc_rd {vs sl : List Nat} {F : Fm} {fi : M (List IV)} {g : IV → M Unit} {gt : M Bool} {fk fe : ES} {σ : L2.St} {H : Hp} {Q : VK} (hsl : ∀ j ∈ sl, j ∈ vs) (h : tFc (Gx X) F (nDc vs fi g gt fk fe) σ H Q) :
    tDcX (X := X) (tI (Gx X) F fi) (fun v σ H Q => ∃ F, tG (Gx X) F sl g v σ H Q) (fun σ H Q => ∃ F, tT (Gx X) F gt σ H Q) (fun σ H Q => ∃ F, tD (Gx X) F fk σ H Q) (fun σ H Q => ∃ F, tD (Gx X) F fe σ H Q) vs σ H Q := by
  obtain ⟨A, ρ, res, ρ', S, e, q⟩ := h
  obtain ⟨ds, ρ1, e1, e⟩ := bind_ok e
  refine ⟨A, ρ, ds, ρ1, S, e1, fun J H1 S1 m1 wk D hD => ?_⟩
  cases ew : okw vs ρ1 with
  | false => rw [ew] at e; cases e
  | true =>
    rw [ew] at e
    dsimp only at e
    cases el : dcLoop vs g gt fk fe ds ([], []) (wipeR ρ1 vs) with
    | no => rw [el] at e; cases e
    | ex x r => rw [el] at e; cases e
    | ok acc0 ρe =>
      rw [el] at e
      cases e
      have ha : ∀ i a, (i, a) ∈ A → i ∉ vs := fun i a hi hv => by
        have z := List.all_eq_true.mp ew i hv
        obtain ⟨xs, o | ⟨_, _, o⟩⟩ := S1.own i a hi
        · rw [o] at z; cases z
        · rw [o] at z; cases z
      have h0 := S1.h0 hD
      have hz := S1.zall.out hD
      have sm0 := Same.of_new (o := .dK []) hD
      have hm : D ∈ zs (F.hide D) A := zs_hide.mpr (.inl rfl)
      have nD : ∀ i, (i, D) ∉ A := fun i z => hz (mem_zs.mpr (.inr ⟨i, z⟩))
      have Sw : Sts (Gx X) (F.hide D) A (L2.wipe σ vs) (wipeR ρ1 vs) (upd H1 D (.dK [])) := (S1.wipe ha).hide hD sm0 (by rw [upd_same]; exact fun z => nomatch z)
      refine ⟨fun i m H => ∃ ρi acc, m = ds.length - i ∧ i ≤ ds.length ∧ Sts (Gx X) (F.hide D) A (L2.wipe σ vs) ρi H ∧ Stp A H1 H ∧ DcC (Gx X) H (hid (zs (F.hide D) A) H) D acc.1 acc.2 ∧ dcLoop vs g gt fk fe (ds.drop i) acc ρi = .ok acc0 ρe,
        ⟨ds.length, wipeR ρ1 vs, ([], []), by simp, Nat.zero_le _, Sw, Stp.of sm0, .k (kvs := []) upd_same .nil, by simpa using el⟩, ?_⟩
      rintro i m Hi ⟨ρi, acc, rfl, hi, Si, mi, ci, ei⟩
      have W := wk i Hi (zs (F.hide D) A) Si.zall (stp_hide hD mi)
      by_cases hlt : i < ds.length
      · obtain ⟨go, yl⟩ := W.1 ds[i] (List.getElem?_eq_getElem hlt)
        rw [List.drop_eq_getElem_cons hlt] at ei
        refine .inr ⟨go, fun H' => ∃ ρi acc, i + 1 ≤ ds.length ∧ Sts (Gx X) (F.hide D) A (L2.wipe σ vs) ρi H' ∧ Stp A H1 H' ∧ DcC (Gx X) H' (hid (zs (F.hide D) A) H') D acc.1 acc.2 ∧ dcLoop vs g gt fk fe (ds.drop (i + 1)) acc ρi = .ok acc0 ρe, fun H' ⟨ρn, an, a1, a2, a3, a4, a5⟩ => ⟨ds.length - (i + 1), by omega, ρn, an, rfl, a1, a2, a3, a4, a5⟩, fun x H' hy => ?_⟩
        obtain ⟨smy, rix⟩ := yl x H' hy
        have Sy := Si.same smy
        have my := mi.trans (Stp.of smy)
        have cy := ci.move (fun o z _ => smy _ _ z) (Same.hid (Z := zs (F.hide D) A) smy)
        obtain ⟨_, ρ2, g1, ei⟩ := bind_ok ei
        refine ⟨F.hide D, A, ρi, ds[i], ρ2, Sy, rix, g1, fun σ2 S2 m2 l2 k2 => ?_⟩
        rw [dropL_same hsl ha] at S2 m2
        have hw : L2.wipe σ2 vs = L2.wipe σ vs := by
          rw [wipe_eq (τ := σ2) (σ := L2.wipe σ vs) l2 fun j hj => k2 j fun z => hj (hsl j z)]
          exact wipe_eq (wipe_length σ vs) fun j hj => wipe_at hj
        refine ⟨hw, F.hide D, A, ρ2, ?_⟩
        obtain ⟨b, ρ3, g3, ei⟩ := bind_ok ei
        refine ⟨b, ρ3, S2, g3, fun H3 S3 m3 => ?_⟩
        have c3 := cy.move (fun o z t => m3.at z nD t) (Stp.hid (F := F.hide D) m3)
        have my3 := my.trans m3
        cases b with
        | false =>
          obtain ⟨_, ρ4, g4, ei⟩ := bind_ok ei
          cases g4
          show ∃ _, _
          exact ⟨_, acc, hlt, hw ▸ S3.wipe ha, my3, c3, ei⟩
        | true =>
          obtain ⟨rk, ρ4, g4, ei⟩ := bind_ok ei
          obtain ⟨k, ρ5, g5, ei⟩ := bind_ok ei
          obtain ⟨rfl, rfl⟩ := imm_ok g5
          obtain ⟨r, ρ6, g6, ei⟩ := bind_ok ei
          obtain ⟨y, ρ7, g7, ei⟩ := bind_ok ei
          obtain ⟨rfl, rfl⟩ := imm_ok g7
          obtain ⟨acc', ρ8, g8, ei⟩ := bind_ok ei
          obtain ⟨l8, rfl⟩ := opt_ok g8
          obtain ⟨_, ρ9, g9, ei⟩ := bind_ok ei
          cases g9
          show ∃ _, _
          refine ⟨F.hide D, A, ρ3, _, _, S3, g4, fun vk H4 S4 m4 r4 => ?_⟩
          have c4 := c3.move (fun o z t => m4.at z nD t) (Stp.hid (F := F.hide D) m4)
          refine ⟨F.hide D, A, _, _, _, S4, g6, fun v H5 S5 m5 r5 => ?_⟩
          have c5 := c4.move (fun o z t => m5.at z nD t) (Stp.hid (F := F.hide D) m5)
          obtain ⟨u, hu, ut, un⟩ := DcC.old c5
          refine put_go c5 (.inl (RD.mono (Stp.hid (F := F.hide D) m5) r4)) r5 l8 fun o ob co => ?_
          exact ⟨_, acc', hlt, hw ▸ (S5.wipe ha).hupdD h0 hz hu ut un ob, stp_upd hD ((my3.trans m4).trans m5) ob, by rw [hid_upd hm]; exact co, ei⟩
      · have ed : i = ds.length := by omega
        subst ed
        rw [List.drop_length] at ei
        obtain ⟨rfl, rfl⟩ := ret_ok ei
        have mb : Same (hid (zs (F.hide D) A) (upd H1 D (.dK []))) (hid (zs (F.hide D) A) Hi) := fun a o e => by
          obtain ⟨g1, g2, g3⟩ := hid_all e
          have ne : a ≠ D := fun z => g1 (zs_hide.mpr (.inl z))
          rw [upd_ne ne] at g2
          exact hid_of g1 (mi.at g2 (fun i z => g1 (mem_zs.mpr (.inr ⟨i, z⟩))) g3) g3
        exact .inl ⟨W.2 (Nat.le_refl _), q D Hi (Si.back (S1.hide hD sm0 (by rw [upd_same]; exact fun z => nomatch z)) mb ha ew) h0 hz (m1.trans mi) (back_none S m1 S1 hD) ⟨_, _, rfl, ci⟩⟩
variable {kx vx tg iter : Expr} {ifs : List Expr} {scope : Scope} {own : List (Str × Nat)} {spos py : Pos} {fi : M (List IV)} {gg : IV → M Unit} {gt : M Bool} {fk fe : ES} {sl : List Nat} {i : Nat} {y : Str}
theorem dc_comp (hu : X.A.units + 65 < cLine) (hc : X.calm = true) (hN : X.N.Nodup) (hi : DI X tg iter fi) (ok : BlkOk X.N X.env.scope scope own) (hsl : ∀ j ∈ sl, j ∈ own.map (·.2))
    (hg : ∀ (s : Shared) (H : Hp) (C : Addr) (cl : List (Str × Addr)) (fp : List Addr), DG (X.blk s H scope (compEnvC scope cl C X.env) fp) tg sl gg) (ht : ∀ (s : Shared) (H : Hp) (C : Addr) (cl : List (Str × Addr)) (fp : List Addr), DTs (X.blk s H scope (compEnvC scope cl C X.env) fp) ifs gt)
    (hk : ∀ (s : Shared) (H : Hp) (C : Addr) (cl : List (Str × Addr)) (fp : List Addr), DE (X.blk s H scope (compEnvC scope cl C X.env) fp) kx fk) (he : ∀ (s : Shared) (H : Hp) (C : Addr) (cl : List (Str × Addr)) (fp : List Addr), DE (X.blk s H scope (compEnvC scope cl C X.env) fp) vx fe)
    (hs : ∀ x, foldedSetIterable iter X.env x = pure x := by intro _; rfl) : DC X (.DictComp kx vx [⟨tg, iter, ifs, 0⟩] scope pos) (nDc (own.map (·.2)) fi gg gt fk fe) := ⟨fun F =>
  pe_imp (pe_dcX (by omega) hc hN (hi.run F) ok (fun s H C cl fp => (hg s H C cl fp).any) (fun s H C cl fp => (ht s H C cl fp).any) (fun s H C cl fp => (hk s H C cl fp).any) (fun s H C cl fp => (he s H C cl fp).any) hs) fun σ H Q h => dc_rd hsl h⟩
end
end Dv
namespace Dv
open PySem PySem.Spec PyProof.Rows L2
inductive KeysV (P : Program) (w : World) (H : Hp) (a : Addr) : List V → Prop
  | k {kvs : List (Key × V)} : Rd H a (.dK kvs) → KeysV P w H a (kvs.map fun p => kV p.1)
  | t {xs : List (List Key × Addr × Value)} : Rd H a (DTo P w a xs) → KeysV P w H a (xs.map fun x => .ref x.2.1)
theorem DcR.keysV {G : Gp} {H Hv : Hp} {a : Addr} {ks ds : List D} (c : DcR G H Hv a ks ds) : ∃ vs, KeysV G.P G.w H a vs ∧ RDs G Hv vs ks := by
  cases c with
  | @k kvs ds h1 _ =>
    refine ⟨_, .k h1, ?_⟩
    induction kvs with
    | nil => exact .nil
    | cons p r ih => exact .cons (rd_key p.1) (by
        have : ∀ l : List (Key × V), RDs G Hv (l.map fun p => kV p.1) (l.map fun p => keyD p.1) := fun l => by
          induction l with
          | nil => exact .nil
          | cons q t ih2 => exact .cons (rd_key q.1) ih2
        exact this r)
  | @t xs vs ds n h1 h2 _ _ =>
    refine ⟨_, .t h1, ?_⟩
    have : ∀ l : List (List Key × Addr × Value), (∀ x ∈ l, TupV G.K Hv x.2.1 (x.1.map kV)) → RDs G Hv (l.map fun x => .ref x.2.1) (l.map fun x => keyT x.1) := fun l => by
      induction l with
      | nil => exact fun _ => .nil
      | cons q t ih2 => exact fun h => .cons (.tup (h q List.mem_cons_self) (RDs.ofKeys _)) (ih2 fun x hx => h x (List.mem_cons_of_mem _ hx))
    exact this xs h2
section
variable {X : Cx} {pins : List (Addr × Obj)} {σ : L2.St} {H : Hp} {s : Shared} {a : Addr}
theorem pairs_keys {P : Program} {w : World} : ∀ {es : List DictEntry} {vs : List (Key × Value)} {kvs : List (Key × V)}, Pairs (mixKind P w) es vs → KV kvs vs → Vals (kvs.map fun p => kV p.1) (es.map (·.key))
  | _, _, _, .nil, .nil => .nil
  | _, _, _, .cons h1 _ r, .cons (a := p) k r2 => .cons (by show RelV (kV p.1) _; rw [k.1]; exact relV_key h1) (pairs_keys r r2)
theorem raw_dct {vs : List V} (I : L2.Inv X pins σ H s) (c : KeysV X.prog X.w H a vs) : ∃ o es ep, s.heap.get? a = some o ∧ o.ExactDict ∧ o.data = .dict es ep ∧ (a == sysModules) = false ∧ es.size ≤ sizeLine ∧ Vals vs (es.toList.map (·.key)) := by
  cases c with
  | k h =>
    obtain ⟨z, hd, vs, rel, ob, es, ep, h1, h2, h3, _, h5, _⟩ := dk_rd I.hok h
    refine ⟨ob, es, ep, h1, h2, h3, hd, ?_, pairs_keys h5 rel⟩
    have := h5.length
    rw [Array.length_toList] at this
    rw [this, ← rel.length]; exact z
  | @t xs h =>
    obtain ⟨⟨⟨ob, es, ep, h1, h2, h3, h4⟩, _, z, y⟩, _, _⟩ := rd_of I.hok h
    refine ⟨ob, es, ep, h1, h2, h3, y, by rw [size_of_entries h4]; exact z, ?_⟩
    rw [h4, List.map_map]
    have : ∀ l : List (List Key × Addr × Value), Vals (l.map fun x => V.ref x.2.1) (l.map ((·.key) ∘ entryOfKey (tupleKind (mixKind X.prog X.w)))) := fun l => by
      induction l with
      | nil => exact .nil
      | cons q t ih => exact .cons rfl ih
    exact this xs
theorem items_keys {es : Array DictEntry} {acc : Array Value} (it : ItemsOf (fun i v => ∃ en : DictEntry, es[i]? = some en ∧ v = en.key) acc es.size) : acc.toList = es.toList.map (·.key) := by
  apply List.ext_getElem?
  intro j
  have hl : acc.toList.length = es.toList.length := by rw [Array.length_toList, Array.length_toList]; exact it.1
  rw [List.getElem?_map]
  cases hj : acc.toList[j]? with
  | none =>
    have h1 := List.getElem?_eq_none_iff.mp hj
    rw [List.getElem?_eq_none (by omega)]; rfl
  | some v =>
    obtain ⟨en, hen, hv⟩ := it.2 j v (by rw [← Array.getElem?_toList]; exact hj)
    rw [Array.getElem?_toList, hen, hv]; rfl
end
section
variable {X : Cx}
theorem reads_ints {h : Heap} : ∀ {b : List Int} {us : List Value} {as : List Addr}, ReadsAll h us (b.map .int) as → as = []
  | [], _, _, r => by cases r; rfl
  | i :: b, _, _, r => by
    cases r with
    | cons r1 r2 => cases r1; rw [reads_ints r2]; rfl
theorem reads_row {h : Heap} {b : List Int} {v : Value} {as : List Addr} (r : Reads h v (rowP b) as) : as = [] := by
  cases r with
  | tuple _ _ _ r => exact reads_ints r
theorem cr_sortedDT (hc : X.calm = true) (hu : X.A.units + 65 < cLine) : CallR X (.builtin "sorted") (fun xs H Q => ∃ (a : Addr) (vs : List V) (rows : List (List Int)) (Rl : V → List Int → Prop), xs = [V.ref a] ∧ KeysV X.prog X.w H a vs ∧ F2 Rl vs rows ∧ (∀ v b, Rl v b → Dp X.K H v (rowP b)) ∧ (∀ b ∈ rows, b ≠ []) ∧
    ∀ (ws : List V) (q : Addr), F2 Rl ws (sortR rows) → H q = none → Q (.ref q) (upd H q (.lst ws))) := by
  intro pins s σ H xs us Q I r h
  obtain ⟨a, vs, rows, Rl, rfl, c, hf, hd, hne, q⟩ := h
  obtain ⟨u, rfl, rx⟩ := r.one
  cases rx
  obtain ⟨o, es, ep, h1, h2, h3, h4, h5, h6⟩ := raw_dct I c
  have lf := hf.len
  have lv : vs.length = es.size := by rw [h6.length, List.length_map, Array.length_toList]
  refine Calls.call_function_entry PyProof.Rows.kind_sorted PyProof.Rows.plain_sorted PyProof.Rows.entry_sorted (PyProof.Rows.args_sorted1 _) ?_
  unfold Builtin.«sorted»
  refine wpAny_bind (m := checkCount "sorted" 1 1 _) (wpAny_pure ?_)
  refine wpAny_bind (PySem.W.kdu_collect (A := X.A.in1) (kdl_raw h4 h2 h3) (I.ok.hd hc) h1 h5 fun h' tk acc kp it => ?_)
  have ea : acc.toList = es.toList.map (·.key) := items_keys it
  have rv : Vals vs acc.toList := by rw [ea]; exact h6
  have I1 : L2.Inv X pins σ H { s with heap := h', toks := tk } := I.kept kp
  refine wpAny_bind (wpAny_newList ?_ (by rw [ea, List.length_map, Array.length_toList]; exact h5))
  have hoL : (h'.push (seqObj "list" acc.toList.toArray 0)).get? h'.objs.size = some (seqObj "list" acc.toList.toArray 0) := Heap.get?_push_size _ rfl
  show wpAny _ _ _ _ _ { s with heap := h'.push (seqObj "list" acc.toList.toArray 0), toks := tk }
  have I2 : L2.Inv X pins σ H { s with heap := h'.push (seqObj "list" acc.toList.toArray 0), toks := tk } := I1.kept (t' := tk) fun b o e => Heap.get?_push_of_some _ e
  have e1 := each_of rv hf
  have hal : PySem.W.AllAlike (rows.map rowP) := PySem.W.AllAlike.of fun a b => al_row a b
  have hk : PySem.W.Sortable (rows.map rowP) := .inl fun d hd => by
    obtain ⟨b, hb, rfl⟩ := List.mem_map.mp hd
    cases b with
    | nil => exact absurd rfl (hne _ hb)
    | cons x t => exact ⟨_, _, rfl⟩
  have er : PySem.W.EachIs (fun v b => ∃ as, Reads (h'.push (seqObj "list" acc.toList.toArray 0)) v (rowP b) as ∧ h'.objs.size ∉ as) acc.toList rows := e1.mono fun v b ⟨u, g1, g2⟩ => by
    obtain ⟨as, ra⟩ := Dp.reads I2 _ u v (hd u b g2) g1
    have e0 := reads_row ra
    subst e0
    exact ⟨[], ra, fun z => nomatch z⟩
  refine wpAny_bind (wpAny_holding (PySem.W.list_sort_data (s := { s with heap := h'.push (seqObj "list" acc.toList.toArray 0), toks := tk }) (a := h'.objs.size) hoL e1 er hal hk (by rw [← lf, lv]; exact h5) (fun b _ => by have := dep_row b; show X.A.units + 1 + 1 + (rowP b).depth < cLine; unfold rowP; omega) fun out hlen eo => ?_))
  rw [mergeR] at eo
  obtain ⟨ws, hv, hw⟩ := of_each eo
  obtain ⟨e', he'⟩ := PyProof.Rows.sortedHeap_at (vs := acc.toList) (out := out.toArray) hoL
  have hlen : ws.length ≤ sizeLine := by rw [hw.len, (sortR_perm rows).length_eq, ← lf, lv]; exact h5
  refine wpAny_pure ⟨_, rfl, .ref h'.objs.size, upd H h'.objs.size (.lst ws), I1.laid (t' := tk) (fun b u e => ?_) (Nat.le_refl _) ⟨hlen, out, e', hv, he'⟩, rfl, q ws _ hw (I1.hok.fresh (Nat.le_refl _))⟩
  have hb : b < h'.objs.size := Heap.lt_size e
  rw [PyProof.Rows.sortedHeap_old (Nat.ne_of_lt hb) (by rw [size_push']; exact Nat.lt_succ_of_lt hb)]
  exact Heap.get?_push_of_some _ e
end
section
variable [Tbl] {X : Cx}
def gSortD : List D → Option (List D)
  | [.dct ks _] => match asInts ks with
    | some ns => if ns.length < 64 then some (iD (sortI ns)) else none
    | none => match asRows ks with
      | some rows => some ((sortR rows).map rowD)
      | none => none
  | _ => none
theorem ints_keys : ∀ {kvs : List (Key × V)} {ns : List Int}, asInts (kvs.map fun p => keyD p.1) = some ns → kvs.map (·.1) = ns.map Sum.inl
  | [], ns, h => by cases h; rfl
  | (.inl i, v) :: r, ns, h => by
    unfold asInts at h
    simp only [List.map_cons, keyD] at h
    split at h
    · rename_i ms e
      cases h
      rw [List.map_cons, List.map_cons, ints_keys e]
    · cases h
  | (.inr x, v) :: r, ns, h => by cases h
theorem cn_sortD (hc : X.calm = true) (hu : X.A.units + 65 < cLine) : CallN X (.builtin "sorted") gSortD := by
  refine ⟨_, (call_sortedDI hc).or (cr_sortedDT hc hu), fun Z H xs ds es Q z r e q => ?_⟩
  unfold gSortD at e
  split at e
  · rename_i ks vs0
    obtain ⟨v, rfl, r1⟩ := r.one
    obtain ⟨a, rfl, c⟩ := r1.dct
    split at e
    · rename_i ns e1
      split at e
      · rename_i hl
        cases e
        cases c with
        | @k kvs ds h1 _ =>
          refine .inl ⟨a, kvs, ns, rfl, h1, ints_keys e1, hl, fun ms p k1 k2 hp => ?_⟩
          have em : ms = sortI ns := sorted_uniq (k1.trans (sortI_perm ns).symm) k2 (sortI_sorted ns)
          subst em
          exact q p _ hp (RDs.map_int _)
        | @t xs vs ds n _ _ _ _ =>
          cases xs with
          | nil => exact absurd rfl n
          | cons x t => cases e1
      · cases e
    · split at e
      · rename_i rows e1
        cases e
        obtain ⟨h3, h4⟩ := asRows_ok e1
        subst h3
        obtain ⟨vs, k1, k2⟩ := c.keysV
        refine .inr ⟨a, vs, rows, fun v b => RD (Gx X) (hid Z H) v (rowD b), rfl, k1, f2_rows k2, fun v b h => ?_, h4, fun ws p hf hp => q p ws hp (rows_f2 hf)⟩
        have := pl_dp (G := Gx X) 50 (rowD b) v (pl_tupI 49 b) (h.mono hid_full)
        rw [rowD, pd, pds_ints] at this
        exact this
      · cases e
  · cases e
end
end Dv
namespace Dv
open PySem PySem.Spec PyProof.Rows L2
variable [Tbl]
section
variable {X : Cx} {a b c : Expr} {pos : Pos}
def nIf (gc : M Bool) (fa fb : M (List D)) : M (List D) := M.bind gc fun k => match k with
  | true => fa
  | false => fb
theorem tN_pre {G : Gp} {F : Fm} {A : Own} {σ : L2.St} {ρ1 ρ' : Rho} {H H1 : Hp} {f : M (List D)} {xs : List D} {Q : VK} {ρ : Rho} (S : Sts G F A σ ρ H) (S1 : Sts G F A σ ρ1 H1) (m1 : Stp A H H1) (e : f ρ1 = .ok xs ρ')
    (q : ∀ p vs H', Sts G (F.hide p) A σ ρ' H' → F.H0 p = none → p ∉ zs F A → Stp A H H' → H p = none → H' p = some (.lst vs) → RDs G (hid (zs (F.hide p) A) H') vs xs → Q (.ref p) H') : tN G F f σ H1 Q :=
  ⟨A, ρ1, xs, ρ', S1, e, fun p vs H' S' h0 hz m hn hp rd => q p vs H' S' h0 hz (m1.trans m) (back_none S m1 S1 hn) hp rd⟩
theorem dn_if {gc : M Bool} {fa fb : M (List D)} (hc : DT X c gc) (ha : DN X a fa) (hb : DN X b fb) : DN X (.IfExp c a b pos) (nIf gc fa fb) := ⟨fun F => pe_imp (pe_ifExp (hc.run F) (ha.run F) (hb.run F)) fun σ H Q ⟨A, ρ, xs, ρ', S, e, q⟩ => by
  obtain ⟨k, ρ1, e1, e⟩ := bind_ok e
  refine ⟨A, ρ, k, ρ1, S, e1, fun H1 S1 m1 => ?_⟩
  cases k with
  | true => rw [if_pos rfl]; exact tN_pre S S1 m1 e q
  | false => rw [if_neg Bool.false_ne_true]; exact tN_pre S S1 m1 e q⟩
end
section
variable {X : Cx} {k v : Expr} {fk fv : ES} {pos : Pos}
end
theorem ru1 {A : Around} {k : Nat} (hr : Room k A) : A.units + 1 < cLine := by have := ru5 hr; omega
end Dv
namespace Dv
open PySem PySem.Spec PyProof.Rows L2
section
variable {X : Cx} {o e : Expr} {es : List Expr} {apos cpos : Pos}
end
abbrev ChD := List D → List D → List D → Option (D × List D × List D)
section
variable [Tbl]
variable {X : Cx} {e o : Expr} {es : List Expr} {fs : M (List RV)} {name : Str} {apos cpos : Pos} {id : String} {ch : ChD} {i : Nat}
end
end Dv
namespace Dv
open PySem PySem.Spec PyProof.Rows L2
variable [Tbl]
section
variable {X : Cx}
end
end Dv
namespace Dv
open PySem PySem.Spec PyProof.Rows L2
variable [Tbl]
end Dv
namespace Dv
open PySem PySem.Spec PyProof.Rows L2
variable [Tbl]
section
variable {G : Gp} {F : Fm} {A : Own} {σ : St} {ρ : Rho} {H : Hp} {i : Nat} {a : Addr} {xs : List D}
end
section
variable {X : Cx} {i k : Nat} {y : Str} {py spos : Pos} {elt tg iter : Expr} {ifs : List Expr} {scope : Scope} {own : List (Str × Nat)} {pos : Pos} {gg : IV → M Unit} {gt : M Bool} {fe : ES} {sl : List Nat}
end
end Dv
namespace Dv
open PySem PySem.Spec PyProof.Rows L2 LamX
variable [Tbl]
section
variable {X : Cx} {W : WX} {a b : Expr} {fb : ES} {x : M Ex} {pos : Pos}
theorem ex_cmp {op : CmpOp} {g : D → D → Option D} (ho : OpD X (compareOp op) g) (ha : EX X W a x) (hb : DE X b fb) (hm : behindInMarks op b = false) : EX X W (.Compare a [op] [b] pos) x := ⟨fun F => by
  obtain ⟨r, h1, h2⟩ := ho
  exact pe_imp (pe_cmpR h1 (ha.run F) (hb.run F) hm) fun σ H Q h => h⟩
end
section
variable {X : Cx} {k kk : Nat} {x0 : Str} {n : Int} {cp : Pos} {jt kt} {tx : Str} {p6 p7 : Pos} {m a : Str} {g c P : Addr} {pg : Arguments} {sg : Scope} {fdg : FuncData} {Ng : List Str} {params : Arguments} {body e0 : Expr} {scope : Scope} {lpos p pos p1 p2 p3 p4 p5 : Pos} {fb : ES} {xb : M Ex} {hk : Ex → Option D} {h₀ : ExceptHandler} {hds : List ExceptHandler} {v0 : V} {d0 : D}
end
end Dv
namespace Dv
open PySem PySem.Spec PyProof.Rows L2
theorem each_ofD {G : Gp} {H : Hp} : ∀ {vs : List V} {its : List Value} {ds : List D}, Vals vs its → RDs G H vs ds → PySem.W.EachIs (fun u d => ∃ v, RelV v u ∧ RD G H v d) its ds
  | _, _, _, .nil, .nil => .nil
  | _, _, _, .cons a r, .cons b t => .cons ⟨_, a, b⟩ (each_ofD r t)
theorem of_eachD {G : Gp} {H : Hp} : ∀ {its : List Value} {ds : List D}, PySem.W.EachIs (fun u d => ∃ v, RelV v u ∧ RD G H v d) its ds → ∃ vs, Vals vs its ∧ RDs G H vs ds
  | _, _, .nil => ⟨[], .nil, .nil⟩
  | _, _, .cons ⟨v, h1, h2⟩ r => by
    obtain ⟨vs, h3, h4⟩ := of_eachD r
    exact ⟨v :: vs, .cons h1 h3, .cons h2 h4⟩
section
variable {X : Cx} {e : Expr} {es : List Expr} {x y : Str} {id kid : String} {p p2 kp pos : Pos} {t : TA} {r : List V → Hp → VK → Prop}
end
section
variable [Tbl] {X : Cx} {e : Expr} {p p2 kp pos : Pos} {fs : M (List RV)}
end
end Dv
namespace Dv
open PySem PySem.Spec PyProof.Rows L2
section
variable {X : Cx} {k v : Expr} {pos : Pos} {tk tv : TE}
end
section
variable [Tbl] {X : Cx} {k v : Expr} {fk fv : ES} {pos : Pos}
end
end Dv
namespace Dv
open PySem PySem.Spec PyProof.Rows L2
variable [Tbl]
structure FnS (P : Program) (w : World) (K : PySem.W.Frag) (mg : Str → Option Value) (base : Heap) (CX : CXT) (k : Nat) (f : Addr) (m : Nat) (sp : Sp) : Prop where
  go : ∀ (A : Around) (outer : List Env) (s : Shared) (H : Hp) (us rest : List Value) (vs ws : List V) (Q : VK) (E : XK), Room k A → A.guards = some [] → Env0 P w K mg base A outer s H →
    us.length = m → Vals vs us → Vals ws rest → rest.length ≤ sizeLine → (∀ p o, H p = none → o.dict = none → sp (vs ++ [.ref p]) (upd H p (.frz o (.tup ws))) Q E) → codeAny (model P w) A (.call (.ref f) ⟨us ++ rest, []⟩) (CR CX outer P w H s Q E) s
theorem FnS.up {P : Program} {w : World} {K : PySem.W.Frag} {mg : Str → Option Value} {base : Heap} {CX : CXT} {j k m : Nat} {f : Addr} {sp : Sp} (h : FnS P w K mg base CX j f m sp) (q : j ≤ k) : FnS P w K mg base CX k f m sp :=
  ⟨fun A o s H us rest vs ws Q E r => h.go A o s H us rest vs ws Q E (r.mono q)⟩
theorem RRs.len {G : Gp} {F : Fm} {A : Own} {H : Hp} : ∀ {vs : List V} {rs : List RV}, RRs G F A H vs rs → vs.length = rs.length
  | _, _, .nil => rfl
  | _, _, .cons _ b => by rw [List.length_cons, List.length_cons, RRs.len b]
theorem RRs.take {G : Gp} {F : Fm} {A : Own} {H : Hp} : ∀ {vs : List V} {rs : List RV} (n : Nat), RRs G F A H vs rs → RRs G F A H (vs.take n) (rs.take n)
  | _, _, 0, _ => .nil
  | _, _, _ + 1, .nil => .nil
  | _, _, n + 1, .cons a r => .cons a (RRs.take n r)
theorem RRs.drop {G : Gp} {F : Fm} {A : Own} {H : Hp} : ∀ {vs : List V} {rs : List RV} (n : Nat), RRs G F A H vs rs → RRs G F A H (vs.drop n) (rs.drop n)
  | _, _, 0, r => r
  | _, _, _ + 1, .nil => .nil
  | _, _, n + 1, .cons a r => RRs.drop n r
section
variable {X : Cx} {CX : CXT} {W : WX} {k m : Nat} {f : Addr} {sp : Sp} {E : XK} {x : Str} {p pos : Pos} {e : Expr} {es : List Expr} {t : TA} {g : FD} {gx : FX} {fs : M (List RV)}
end
end Dv
namespace Dv
open PySem PySem.Spec PyProof.Rows L2 LamX
structure LamK (N : List Str) (j : Nat) (x0 : Str) (sc scope : Scope) : Prop where
  kind : scope.kind = .function
  co : scope.isCoroutine = false
  gen : scope.isGenerator = false
  cel : ∀ y ∈ scope.names, y.2 ≠ .cell
  own : ∀ y ∈ scope.names, y.2 = .local → y.1 = x0
  at_ : scope.names.lookup x0 = some .local
  nm : N[j]? = some x0
  nd : N.Nodup
  free : ∀ y ∈ scope.names, y.2 = .free → sc.names.lookup y.1 = some .cell ∨ sc.names.lookup y.1 = some .free
theorem LamK.has {X : Cx} {N : List Str} {j : Nat} {x0 : Str} {scope : Scope} (L : LamK N j x0 X.env.scope scope) (ok : X.Ok) : ∀ y ∈ scope.names, y.2 = .free → ∃ c, X.env.cells.lookup y.1 = some c := fun y hy e => by
  rcases L.free y hy e with k | k
  · exact ok.has _ (.inl k)
  · exact ok.has _ (.inr k)
section
variable {X : Cx} {pins : List (Addr × Obj)} {σ : L2.St} {H : Hp} {s : Shared}
end
end Dv
namespace Dv
open PySem PySem.Spec PyProof.Rows L2 LamX PySem.W
structure Loose (X : Cx) (pins : List (Addr × Obj)) (b : Addr) : Prop where
  ab : X.s_0.heap.objs.size ≤ b
  ne : b ≠ X.env.locals
  ce : ∀ x c, X.env.cells.lookup x = some c → c ≠ b
  pn : ∀ p ∈ X.pn ++ pins, p.1 ≠ b
  fr : b ∉ frs X.stack
section
variable {X : Cx} {pins : List (Addr × Obj)} {σ : L2.St} {H : Hp} {s : Shared} {a kS : Addr} {e1 : Nat} {A : Around} {f : Value} {its : List Value} {P : PySem.Fin → Shared → Prop} {E : Value → Shared → Prop}
theorem Loose.of (I : L2.Inv X pins σ H s) {b : Addr} (h : s.heap.objs.size ≤ b) : Loose X pins b := by
  have lt : ∀ {c : Addr}, c < s.heap.objs.size → c ≠ b := fun {c} l z => by
    rw [z] at l
    exact absurd (Nat.lt_of_lt_of_le l h) (Nat.lt_irrefl _)
  refine ⟨Nat.le_trans I.sz h, (lt I.lt).symm, fun x c e => ?_, fun p hp => ?_, nofr I h⟩
  · obtain ⟨v, o, ho, _⟩ := I.cell x c e
    exact lt (Heap.lt_size ho)
  · exact lt (Heap.lt_size (I.pin p hp).1)
end
end Dv
namespace Dv
open PySem PySem.Spec PyProof.Rows L2 PySem.W
section
variable {β : Type}
def cutA (le : β → β → Bool) (a : β) : List β → List β
  | [] => []
  | b :: t => match le a b with
    | true => []
    | false => b :: cutA le a t
def cutB (le : β → β → Bool) (a : β) : List β → List β
  | [] => []
  | b :: t => match le a b with
    | true => b :: t
    | false => cutB le a t
def mergeK (le : β → β → Bool) : List β → List β → List β
  | [], r => r
  | a :: l, r => cutA le a r ++ a :: mergeK le l (cutB le a r)
def isK (le : β → β → Bool) : List β → List β
  | [] => []
  | a :: r => mergeK le [a] (isK le r)
def msK (le : β → β → Bool) : Nat → List β → List β
  | 0, l => isK le l
  | n + 1, l => match l with
    | [] => []
    | [a] => [a]
    | a :: b :: r => mergeK le (msK le n ((a :: b :: r).take ((r.length + 2) / 2))) (msK le n ((a :: b :: r).drop ((r.length + 2) / 2)))
variable {le : β → β → Bool}
theorem cut_app (a : β) : ∀ r : List β, cutA le a r ++ cutB le a r = r
  | [] => rfl
  | b :: t => by
    unfold cutA cutB
    cases e : le a b with
    | true => rfl
    | false => simp [cut_app a t]
theorem cutA_no (a : β) : ∀ {r : List β} {b : β}, b ∈ cutA le a r → le a b = false
  | [], _, h => by cases h
  | c :: t, b, h => by
    unfold cutA at h
    cases e : le a c with
    | true => rw [e] at h; cases h
    | false =>
      rw [e] at h
      rcases List.mem_cons.mp h with h | h
      · rw [h]; exact e
      · exact cutA_no a h
theorem cutB_head (a : β) : ∀ {r : List β}, cutB le a r = [] ∨ ∃ b t, cutB le a r = b :: t ∧ le a b = true
  | [] => .inl rfl
  | c :: t => by
    unfold cutB
    cases e : le a c with
    | true => exact .inr ⟨c, t, rfl, e⟩
    | false => exact cutB_head a
theorem mergeK_mem {x : β} : ∀ {l r : List β}, x ∈ mergeK le l r ↔ x ∈ l ∨ x ∈ r
  | [], r => by simp [mergeK]
  | a :: l, r => by
    have h := cut_app (le := le) a r
    have e : x ∈ r ↔ x ∈ cutA le a r ∨ x ∈ cutB le a r := by
      rw [← List.mem_append, h]
    rw [mergeK, List.mem_append, List.mem_cons, mergeK_mem, List.mem_cons, e]
    constructor
    · rintro (h | h | h | h)
      · exact .inr (.inl h)
      · exact .inl (.inl h)
      · exact .inl (.inr h)
      · exact .inr (.inr h)
    · rintro ((h | h) | h | h)
      · exact .inr (.inl h)
      · exact .inr (.inr (.inl h))
      · exact .inl h
      · exact .inr (.inr (.inr h))
theorem mergeK_sorted (T : TotalLe le) : ∀ {l r : List β}, l.Pairwise (fun x y => le x y = true) → r.Pairwise (fun x y => le x y = true) → (mergeK le l r).Pairwise (fun x y => le x y = true)
  | [], r, _, h => h
  | a :: l, r, h1, h2 => by
    obtain ⟨h3, h4⟩ := List.pairwise_cons.mp h1
    have hr := cut_app (le := le) a r
    rw [← hr] at h2
    obtain ⟨p1, p2, p3⟩ := List.pairwise_append.mp h2
    have ab : ∀ y ∈ cutB le a r, le a y = true := fun y hy => by
      rcases cutB_head (le := le) a (r := r) with e | ⟨b, t, e, k⟩
      · rw [e] at hy; cases hy
      · rw [e] at hy p2
        rcases List.mem_cons.mp hy with z | z
        · rw [z]; exact k
        · exact T.trans _ _ _ k ((List.pairwise_cons.mp p2).1 y z)
    rw [mergeK]
    refine List.pairwise_append.mpr ⟨p1, List.pairwise_cons.mpr ⟨fun y hy => ?_, mergeK_sorted T h4 p2⟩, fun x hx y hy => ?_⟩
    · rcases mergeK_mem.mp hy with z | z
      · exact h3 y z
      · exact ab y z
    · have xa : le x a = true := by
        rcases T.total a x with z | z
        · rw [cutA_no a hx] at z; cases z
        · exact z
      rcases List.mem_cons.mp hy with z | z
      · rw [z]; exact xa
      · rcases mergeK_mem.mp z with z | z
        · exact T.trans _ _ _ xa (h3 y z)
        · exact p3 x hx y z
theorem mergeK_filter (T : TotalLe le) (c : β) : ∀ {l r : List β}, l.Pairwise (fun x y => le x y = true) → (mergeK le l r).filter (sameRank le c) = l.filter (sameRank le c) ++ r.filter (sameRank le c)
  | [], r, _ => rfl
  | a :: l, r, h1 => by
    obtain ⟨h3, h4⟩ := List.pairwise_cons.mp h1
    have hr := cut_app (le := le) a r
    have er : r.filter (sameRank le c) = (cutA le a r).filter (sameRank le c) ++ (cutB le a r).filter (sameRank le c) := by rw [← List.filter_append, hr]
    rw [mergeK, List.filter_append, List.filter_cons, mergeK_filter T c h4, er]
    by_cases k : (cutA le a r).filter (sameRank le c) = []
    · rw [k, List.filter_cons]
      by_cases z : sameRank le c a = true <;> simp [z]
    · have none' : (a :: l).filter (sameRank le c) = [] := by
        obtain ⟨b, hb⟩ := List.exists_mem_of_ne_nil _ k
        obtain ⟨b1, b2⟩ := List.mem_filter.mp hb
        unfold sameRank at b2
        rw [Bool.and_eq_true] at b2
        rw [List.filter_eq_nil_iff]
        intro x hx z
        unfold sameRank at z
        rw [Bool.and_eq_true] at z
        have ax : le a x = true := by
          rcases List.mem_cons.mp hx with q | q
          · rw [q]; exact T.refl a
          · exact h3 x q
        have := T.trans _ _ _ ax (T.trans _ _ _ z.2 b2.1)
        rw [cutA_no a b1] at this
        cases this
      rw [List.filter_cons] at none'
      have n1 : ¬ sameRank le c a = true := fun z => by rw [if_pos z] at none'; cases none'
      rw [if_neg n1] at none'
      rw [if_neg n1, List.filter_cons, if_neg n1, none']
      simp
theorem isK_ok (T : TotalLe le) : ∀ l : List β, (isK le l).Pairwise (fun x y => le x y = true) ∧ ∀ c, (isK le l).filter (sameRank le c) = l.filter (sameRank le c)
  | [] => ⟨.nil, fun _ => rfl⟩
  | a :: r => by
    obtain ⟨h1, h2⟩ := isK_ok T r
    refine ⟨mergeK_sorted T (List.pairwise_singleton _ _) h1, fun c => ?_⟩
    rw [isK, mergeK_filter T c (List.pairwise_singleton _ _), h2, ← List.filter_append]
    rfl
theorem msK_ok (T : TotalLe le) : ∀ (n : Nat) (l : List β), (msK le n l).Pairwise (fun x y => le x y = true) ∧ ∀ c, (msK le n l).filter (sameRank le c) = l.filter (sameRank le c)
  | 0, l => isK_ok T l
  | n + 1, [] => ⟨.nil, fun _ => rfl⟩
  | n + 1, [a] => ⟨List.pairwise_singleton _ _, fun _ => rfl⟩
  | n + 1, a :: b :: r => by
    obtain ⟨h1, h2⟩ := msK_ok T n ((a :: b :: r).take ((r.length + 2) / 2))
    obtain ⟨h3, h4⟩ := msK_ok T n ((a :: b :: r).drop ((r.length + 2) / 2))
    refine ⟨mergeK_sorted T h1 h3, fun c => ?_⟩
    rw [msK, mergeK_filter T c h1, h2, h4, ← List.filter_append, List.take_append_drop]
theorem msK_eq (T : TotalLe le) (n : Nat) (l : List β) : msK le n l = l.mergeSort le := sort_unique T (msK_ok T n l).1 (msK_ok T n l).2
end
end Dv
namespace Dv
open PySem PySem.Spec PyProof.Rows L2 PySem.W
end Dv
namespace Dv
open PySem PySem.Spec PyProof.Rows L2 PySem.W
variable [Tbl]
section
variable {X : Cx}
theorem val_at : ∀ {vs : List V} {us : List Value} {i : Nat} {u : Value}, Vals vs us → us[i]? = some u → ∃ v, vs[i]? = some v ∧ RelV v u
  | _, _, _, _, .nil, e => by simp at e
  | _, _, 0, _, .cons a _, e => by simp at e; subst e; exact ⟨_, rfl, a⟩
  | _, _, i + 1, _, .cons _ b, e => by
    obtain ⟨d, h1, h2⟩ := val_at (i := i) b (by simpa using e)
    exact ⟨d, by simpa using h1, h2⟩
end
end Dv
namespace Dv
open PySem PySem.Spec PyProof.Rows L2 LamX PySem.W
section
variable {X : Cx} {pins : List (Addr × Obj)} {σ : L2.St} {H : Hp} {s : Shared}
end
theorem SameN.seq {K : PySem.W.Frag} {H H' : Hp} {a : Addr} {xs : List V} (e : SameN H H') (h : SqL K H a xs) : SqL K H' a xs := by
  rcases h with (h | ⟨o, h⟩) | h
  · exact .inl (.inl (e.at h))
  · exact .inl (.inr ⟨o, e.at h⟩)
  · exact .inr h
theorem SameN.tupq {K : PySem.W.Frag} {H H' : Hp} {a : Addr} {xs : List V} (e : SameN H H') (h : SqT K H a xs) : SqT K H' a xs := by
  rcases h with (h | ⟨o, h⟩) | h
  · exact .inl (.inl (e.at h))
  · exact .inl (.inr ⟨o, e.at h⟩)
  · exact .inr h
variable [Tbl]
def tC (G : Gp) (F : Fm) (f : M (List D)) (σ : L2.St) (H : Hp) (Q : List V → Hp → Prop) : Prop := ∃ A ρ ds ρ', Sts G F A σ ρ H ∧ f ρ = .ok ds ρ' ∧ ∀ vs H', Sts G F A σ ρ' H' → Stp A H H' → RDs G (hid (zs F A) H') vs ds → Q vs H'
section
variable {X : Cx} {e a : Expr} {fa : ES} {p pos : Pos}
end
section
variable {X : Cx} {e : Expr} {fi : M (List D)} {fe : ES} {c P : Addr} {j k : Nat} {x0 : Str} {params : Arguments} {body : Expr} {scope : Scope} {lpos p kp pos : Pos}
end
end Dv
namespace Dv
open PySem PySem.Spec PyProof.Rows L2
variable [Tbl]
section
variable {X : Cx} {W : WX} {a b c : Expr} {x y : M Ex} {n : Str} {T : String} {p pos : Pos} {t : M Bool}
end
end Dv
namespace Dv
open PySem PySem.Spec PyProof.Rows L2
variable [Tbl]
section
variable {X : Cx} {W : WX} {x : M Ex} {f : SS} {c : Expr} {g : M Bool} {body : List Stmt} {pos : Pos}
end
section
variable {X : Cx}
end
section
variable {X : Cx} {o e f : Expr} {fo fe ff : ES} {apos cpos : Pos}
end
end Dv
namespace Dv
open PySem PySem.Spec PyProof.Rows L2
section
variable {prog : Program} {w : World} {A : Around} {E R1 : Value → Shared → Prop} {s : Shared} {b : Addr}
end
variable [Tbl]
section
variable {X : Cx}
end
end Dv
namespace Dv
open PySem PySem.Spec PyProof.Rows L2
section
variable {prog : Program} {w : World} {A : Around} {E : Value → Shared → Prop} {s : Shared}
end
variable [Tbl]
end Dv
namespace Dv
open PySem PySem.Spec PyProof.Rows L2
section
variable {X : Cx}
end
variable [Tbl]
theorem DN.any {X : Cx} {e : Expr} {f : M (List D)} (h : DN X e f) : PE X e (fun σ H Q => ∃ F, tN (Gx X) F f σ H Q) := ⟨fun pins s σ H Q I ⟨F, q⟩ => (h.run F).run pins s σ H Q I q⟩
inductive RowsAt (G : Gp) (Z : List Addr) (H : Hp) : List Addr → List (List D) → Prop
  | nil : RowsAt G Z H [] []
  | cons {b : Addr} {bs : List Addr} {ws : List V} {r : List D} {rs : List (List D)} : H b = some (.lst ws) → RDs G (hid Z H) ws r → RowsAt G Z H bs rs → RowsAt G Z H (b :: bs) (r :: rs)
theorem RowsAt.len {G : Gp} {Z : List Addr} {H : Hp} : ∀ {bs : List Addr} {rs : List (List D)}, RowsAt G Z H bs rs → bs.length = rs.length
  | _, _, .nil => rfl
  | _, _, .cons _ _ r => by rw [List.length_cons, List.length_cons, r.len]
theorem RowsAt.get {G : Gp} {Z : List Addr} {H : Hp} : ∀ {bs : List Addr} {rs : List (List D)} {j : Nat} {r : List D}, RowsAt G Z H bs rs → rs[j]? = some r → ∃ b ws, bs[j]? = some b ∧ H b = some (.lst ws) ∧ RDs G (hid Z H) ws r
  | _, _, 0, _, .cons a b _, e => by
    rw [List.getElem?_cons_zero] at e
    cases e
    exact ⟨_, _, by rw [List.getElem?_cons_zero], a, b⟩
  | _, _, j + 1, _, .cons _ _ c, e => by
    rw [List.getElem?_cons_succ] at e
    obtain ⟨b, ws, h1, h2, h3⟩ := c.get e
    exact ⟨b, ws, by rw [List.getElem?_cons_succ]; exact h1, h2, h3⟩
  | _, _, _, _, .nil, e => by cases e
theorem RowsAt.mono {G : Gp} {Z Z' : List Addr} {H H' : Hp} (e : Same (hid Z H) (hid Z' H')) : ∀ {bs : List Addr} {rs : List (List D)}, (∀ b ∈ bs, ∀ ws, H b = some (.lst ws) → H' b = some (.lst ws)) → RowsAt G Z H bs rs → RowsAt G Z' H' bs rs
  | _, _, _, .nil => .nil
  | _, _, k, .cons a b c => .cons (k _ List.mem_cons_self _ a) (b.mono e) (RowsAt.mono e (fun x hx => k x (List.mem_cons_of_mem _ hx)) c)
theorem RowsAt.app {G : Gp} {Z : List Addr} {H : Hp} {b : Addr} {ws : List V} {r : List D} (h1 : H b = some (.lst ws)) (h2 : RDs G (hid Z H) ws r) : ∀ {bs : List Addr} {rs : List (List D)}, RowsAt G Z H bs rs → RowsAt G Z H (bs ++ [b]) (rs ++ [r])
  | _, _, .nil => .cons h1 h2 .nil
  | _, _, .cons a b c => .cons a b (RowsAt.app h1 h2 c)
theorem RowsAt.put {G : Gp} {Z : List Addr} {H : Hp} {p : Addr} {ws : List V} {r : List D} (hz : p ∈ Z) (h2 : RDs G (hid Z H) ws r) : ∀ {bs : List Addr} {rs : List (List D)} {j : Nat}, bs.Nodup → bs[j]? = some p → RowsAt G Z H bs rs → RowsAt G Z (upd H p (.lst ws)) bs (rs.set j r)
  | _, _, _, _, _, .nil => .nil
  | b :: bs, _, 0, nd, e, .cons (rs := rs) a c d => by
    rw [List.getElem?_cons_zero] at e
    cases e
    have hh : hid Z (upd H p (.lst ws)) = hid Z H := hid_upd hz
    refine .cons upd_same (by rw [hh]; exact h2) (d.mono (by rw [hh]; exact Same.refl _) fun x hx ws' hw => ?_)
    rw [upd_ne (fun z => (List.nodup_cons.mp nd).1 (by rw [← z]; exact hx))]
    exact hw
  | b :: bs, _, j + 1, nd, e, .cons (rs := rs) a c d => by
    rw [List.getElem?_cons_succ] at e
    have hh : hid Z (upd H p (.lst ws)) = hid Z H := hid_upd hz
    have ne : b ≠ p := fun z => (List.nodup_cons.mp nd).1 (z ▸ List.mem_of_getElem? e)
    exact .cons (by rw [upd_ne ne]; exact a) (by rw [hh]; exact c) (RowsAt.put hz h2 (List.nodup_cons.mp nd).2 e d)
theorem RowsAt.rds {G : Gp} {Z Z' : List Addr} {H : Hp} (e : Same (hid Z H) (hid Z' H)) : ∀ {bs : List Addr} {rs : List (List D)}, (∀ b ∈ bs, b ∉ Z') → RowsAt G Z H bs rs → RDs G (hid Z' H) (bs.map .ref) (rs.map .lst)
  | _, _, _, .nil => .nil
  | _, _, k, .cons a b c => .cons (.lst (SqL.of (hid_of (k _ List.mem_cons_self) a)) (b.mono e)) (RowsAt.rds e (fun x hx => k x (List.mem_cons_of_mem _ hx)) c)
section
variable {G : Gp} {F : Fm} {A : Own} {σ : St} {ρ ρ' ρ0 : Rho} {H H' : Hp} {vs : List Nat} {p : Addr}
end
structure Tst (G : Gp) (F : Fm) (A : Own) (t : Nat) (a : Addr) (bs : List Addr) (σ : St) (ρ : Rho) (H : Hp) (rows : List (List D)) : Prop where
  S : Sts G (F.hides (a :: bs)) A σ ρ H
  at_ : σ[t]? = some (some (.ref a))
  hd : H a = some (.lst (bs.map .ref))
  rw : RowsAt G (zs (F.hides (a :: bs)) A) H bs rows
  nd : (a :: bs).Nodup
  out : ∀ x ∈ a :: bs, F.H0 x = none ∧ x ∉ zs F A
theorem Tst.nA {G : Gp} {F : Fm} {A : Own} {t : Nat} {a : Addr} {bs : List Addr} {σ : St} {ρ : Rho} {H : Hp} {rows : List (List D)} (T : Tst G F A t a bs σ ρ H rows) : ∀ x ∈ a :: bs, ∀ i, (i, x) ∉ A := fun x hx i z => (T.out x hx).2 (mem_zs.mpr (.inr ⟨i, z⟩))
theorem Tst.step {G : Gp} {F : Fm} {A : Own} {t : Nat} {a : Addr} {bs : List Addr} {σ : St} {ρ ρ' : Rho} {H H' : Hp} {rows : List (List D)} (T : Tst G F A t a bs σ ρ H rows) (S' : Sts G (F.hides (a :: bs)) A σ ρ' H') (m : Stp A H H') : Tst G F A t a bs σ ρ' H' rows :=
  ⟨S', T.at_, m.at T.hd (T.nA a List.mem_cons_self), T.rw.mono m.hid fun b hb ws h => m.at h (T.nA b (List.mem_cons_of_mem _ hb)), T.nd, T.out⟩
theorem Tst.slots {G : Gp} {F : Fm} {A A' : Own} {t : Nat} {a : Addr} {bs : List Addr} {σ σ' : St} {ρ ρ' : Rho} {H : Hp} {rows : List (List D)} (T : Tst G F A t a bs σ ρ H rows) (S' : Sts G (F.hides (a :: bs)) A' σ' ρ' H) (ht : σ'[t]? = σ[t]?) (hA : ∀ i x, (i, x) ∈ A' → (i, x) ∈ A) : Tst G F A' t a bs σ' ρ' H rows := by
  have hs : Same (hid (zs (F.hides (a :: bs)) A) H) (hid (zs (F.hides (a :: bs)) A') H) := hid_less fun x h => by
    rcases mem_zs.mp h with h | ⟨i, h⟩
    · exact mem_zs.mpr (.inl h)
    · exact mem_zs.mpr (.inr ⟨i, hA i x h⟩)
  refine ⟨S', by rw [ht]; exact T.at_, T.hd, T.rw.mono hs fun b hb ws h => h, T.nd, fun x hx => ⟨(T.out x hx).1, fun z => (T.out x hx).2 ?_⟩⟩
  rcases mem_zs.mp z with z | ⟨i, z⟩
  · exact mem_zs.mpr (.inl z)
  · exact mem_zs.mpr (.inr ⟨i, hA i x z⟩)
def StoB (bs : List Addr) (A A' : Own) (H H' : Hp) : Prop := ∀ x o, nt H x = some o → (∀ i, (i, x) ∉ A) → x ∉ bs → nt H' x = some o ∧ ∀ i, (i, x) ∉ A'
theorem StoB.refl (bs : List Addr) (A : Own) (H : Hp) : StoB bs A A H H := fun _ _ h n _ => ⟨h, n⟩
theorem StoB.trans {bs : List Addr} {A A1 A2 : Own} {H H1 H2 : Hp} (a : StoB bs A A1 H H1) (b : StoB bs A1 A2 H1 H2) : StoB bs A A2 H H2 := fun x o h n z =>
  let ⟨h1, n1⟩ := a x o h n z
  b x o h1 n1 z
theorem StoB.of {bs : List Addr} {A A' : Own} {H H' : Hp} (m : Sto A A' H H') : StoB bs A A' H H' := fun x o h n _ => m x o h n
theorem StoB.hid {bs : List Addr} {A A' : Own} {H H' : Hp} {F : Fm} (hb : ∀ b ∈ bs, b ∈ F.Z) (e : StoB bs A A' H H') : Same (Dv.hid (zs F A) H) (Dv.hid (zs F A') H') := fun a o h => by
  obtain ⟨h1, h2, h5⟩ := hid_all h
  obtain ⟨h3, h4⟩ := e a o (nt_of h2 h5) (fun i z => h1 (mem_zs.mpr (.inr ⟨i, z⟩))) fun z => h1 (mem_zs.mpr (.inl (hb a z)))
  refine hid_of (fun z => ?_) (of_nt h3 h5) h5
  rcases mem_zs.mp z with z | ⟨i, z⟩
  · exact h1 (mem_zs.mpr (.inl z))
  · exact h4 i z
abbrev TM := List (List D) → M (List (List D))
section
variable {X : Cx} {t : Nat} {st : Stmt} {sts body : List Stmt} {f g : TM} {pos : Pos}
end
section
variable {X : Cx} {t : Nat} {elt tg iter nm : Expr} {scope : Scope} {own : List (Str × Nat)} {pos spos py rpos : Pos} {fi : M (List IV)} {gg : IV → M Unit} {fe : M (List D)} {fc : M (List (List D))} {f : TM} {sl : List Nat} {y : Str} {st lp : Stmt} {lps : List Stmt}
end
end Dv
namespace Dv
open PySem PySem.Spec PyProof.Rows L2 LamX
section
variable {X : Cx} {pins : List (Addr × Obj)} {σ : L2.St} {H HZ : Hp} {s s1 : Shared}
end
variable [Tbl]
section
variable {X : Cx} {k kk j : Nat} {x0 : Str} {n : Int} {cp : Pos} {m a : Str} {g c P : Addr} {pg : Arguments} {bg : List Stmt} {sg : Scope} {fdg : FuncData} {Ng : List Str} {params : Arguments} {body : Expr} {scope : Scope} {lpos p pos : Pos} {fb : ES} {xb : M Ex} {hk : Ex → Option D}
end
section
variable {X : Cx} {k kk j : Nat} {x0 : Str} {n : Int} {cp : Pos} {m a : Str} {g c P : Addr} {pg : Arguments} {sg : Scope} {fdg : FuncData} {Ng : List Str} {params : Arguments} {body e0 : Expr} {scope : Scope} {lpos p pos p1 p2 p3 p4 p5 : Pos} {fb : ES} {xb : M Ex} {hk : Ex → Option D} {h₀ : ExceptHandler} {hds : List ExceptHandler} {v0 : V} {d0 : D}
end
end Dv
namespace Dv
open PySem PySem.Spec PyProof.Rows L2
variable [Tbl]
section
variable {X : Cx} {W : WX} {k : Nat} {f C : Addr} {fd : FuncData} {ps : List Str} {sp : Sp} {x c : Str} {p pos : Pos} {e : Expr} {es : List Expr} {t : TA} {fs : M (List RV)} {g : FX}
end
end Dv
namespace Dv
open PySem PySem.Spec PyProof.Rows L2
variable [Tbl]
section
variable {X : Cx} {t i l : Nat} {st : Stmt} {sts : List Stmt} {f : TM} {fa : ES} {pos : Pos} {e : Expr}
theorem DSs.any {g : SS} (h : DSs X sts g) : PSs X sts (fun D σ H => ∃ F, tS (Gx X) F g D σ H) := ⟨fun pins s σ H D I ⟨F, q⟩ => (h.run F).run pins s σ H D I q⟩
end
end Dv
namespace Dv
open PySem PySem.Spec PyProof.Rows L2
variable [Tbl]
end Dv
namespace Dv
open PySem PySem.Spec PyProof.Rows L2 L2.DX
mutual
theorem reads_in {h : Heap} : ∀ {v : Value} {d : PyData} {as : List Addr}, Reads h v d as → ∀ a ∈ as, a < h.objs.size
  | _, _, _, .none, a, ha => nomatch ha
  | _, _, _, .bool _, a, ha => nomatch ha
  | _, _, _, .int _ _, a, ha => nomatch ha
  | _, _, _, .str _ _, a, ha => nomatch ha
  | _, _, _, .list h1 _ _ r, a, ha => by
    rcases List.mem_cons.mp ha with rfl | ha
    · exact Heap.lt_size h1
    · exact readsAll_in r a ha
  | _, _, _, .tuple _ _ _ r, a, ha => readsAll_in r a ha
  | _, _, _, .dict h1 _ _ r1 r2, a, ha => by
    rcases List.mem_cons.mp ha with rfl | ha
    · exact Heap.lt_size h1
    · rcases List.mem_append.mp ha with ha | ha
      · exact readsAll_in r1 a ha
      · exact readsAll_in r2 a ha
theorem readsAll_in {h : Heap} : ∀ {vs : List Value} {ds : List PyData} {as : List Addr}, ReadsAll h vs ds as → ∀ a ∈ as, a < h.objs.size
  | _, _, _, .nil, a, ha => nomatch ha
  | _, _, _, .cons r1 r2, a, ha => by
    rcases List.mem_append.mp ha with ha | ha
    · exact reads_in r1 a ha
    · exact readsAll_in r2 a ha
end
section
variable {X : Cx} {pins : List (Addr × Obj)} {σ : L2.St} {H0 : Hp} {s : Shared} {h' : Heap} {tk : Nat}
theorem takeF (I0 : L2.Inv X pins σ H0 s) : ∀ (L : List (Addr × List V × List Value)) (H1 : Hp), L2.Inv X pins σ H1 { s with heap := h', toks := tk } → (L.map (·.1)).Nodup →
    (∀ z ∈ L, s.heap.objs.size ≤ z.1 ∧ H1 z.1 = none ∧ h'.get? z.1 = some (tObj z.2.2) ∧ Vals z.2.1 z.2.2 ∧ z.2.1.length ≤ sizeLine) →
    ∃ H2, L2.Inv X pins σ H2 { s with heap := h', toks := tk } ∧ (∀ b, b ∉ L.map (·.1) → H2 b = H1 b) ∧ ∀ z ∈ L, H2 z.1 = some (tHO z.2.2 z.2.1)
  | [], H1, I1, _, _ => ⟨H1, I1, fun _ _ => rfl, fun _ h => nomatch h⟩
  | z :: L, H1, I1, hn, h => by
    obtain ⟨hb, hnone, g, r, hz⟩ := h z List.mem_cons_self
    have I2 : L2.Inv X pins σ (upd H1 z.1 (tHO z.2.2 z.2.1)) { s with heap := h', toks := tk } := I1.take (h' := h') (t' := tk) (fun b ob _ e => e) (I0.fpOk hb hnone) ⟨g, hz, z.2.2, r, _, g, rfl, _, rfl⟩
    rw [List.map_cons, List.nodup_cons] at hn
    obtain ⟨H2, I3, o, q⟩ := takeF I0 L (upd H1 z.1 (tHO z.2.2 z.2.1)) I2 hn.2 fun c hc => by
      obtain ⟨c1, c2, c3⟩ := h c (List.mem_cons_of_mem _ hc)
      exact ⟨c1, by rw [upd_ne (fun e => hn.1 (by rw [← e]; exact List.mem_map.mpr ⟨c, hc, rfl⟩))]; exact c2, c3⟩
    refine ⟨H2, I3, fun b hb => ?_, fun c hc => ?_⟩
    · rw [List.map_cons, List.mem_cons, not_or] at hb
      rw [o b hb.2, upd_ne hb.1]
    · rcases List.mem_cons.mp hc with rfl | hc
      · rw [o _ hn.1, upd_same]
      · exact q c hc
def ItD (P : Program) (w : World) (d : Addr) (o : Obj) (xs : List (List Key × Addr × Value)) (H : Hp) : Prop := H d = some (.frz o (DTo P w d xs)) ∨ (xs = [] ∧ H d = some (.frz o (.dK [])))
theorem itd_raw {d : Addr} {o : Obj} {xs : List (List Key × Addr × Value)} {H : Hp} (I : L2.Inv X pins σ H s) (h : ItD X.prog X.w d o xs H) : ∃ es ep, s.heap.get? d = some o ∧ o.ExactDict ∧ o.data = .dict es ep ∧ es.toList = xs.map (entryOfKey (tupleKind (mixKind X.prog X.w))) ∧ xs.length ≤ sizeLine ∧ (d == sysModules) = false := by
  rcases h with h | ⟨rfl, h⟩
  · obtain ⟨hgd, ⟨⟨o', es, ep, ho, hx, hdt, hes⟩, nd, hlen, hs⟩, _, _⟩ := I.hok d _ h
    rw [hgd] at ho
    cases ho
    exact ⟨es, ep, hgd, hx, hdt, hes, hlen, hs⟩
  · obtain ⟨z, hd, vs, rel, ob, es, ep, h1, h2, h3, _, h5, _⟩ := dk_rd I.hok (.inr ⟨o, h⟩)
    obtain ⟨hgd, _⟩ := I.hok d _ h
    rw [hgd] at h1
    cases h1
    cases rel
    have e5 : es.toList = [] := by
      have l := h5.length
      rw [List.length_nil] at l
      exact List.length_eq_zero_iff.mp l
    exact ⟨es, ep, hgd, h2, h3, by rw [e5]; rfl, Nat.zero_le _, hd⟩
def tItemsX (P : Program) (w : World) (td : TE) : TE := fun σ H Q => td σ H fun x H1 => ∃ d o xs, x = .ref d ∧ ItD P w d o xs H1 ∧ ∀ p, H1 p = none → Q (.ref p) (upd H1 p (itemsO p d))
theorem pe_itemsX {e : Expr} {td : TE} {apos cpos : Pos} (he : PE X e td) (hbase : attributeBase e "items" X.env (eval e X.env) = eval e X.env := by rfl) (hline : (apos.endLine == cpos.line) = true := by rfl) : PE X (.Call (.Attribute e "items" apos) [] [] cpos) (tItemsX X.prog X.w td) := by
  refine ⟨fun pins s σ H Q I h => ?_⟩
  refine wpAny_Call_method (T := "dict") (id := "dict.items") hbase rfl hline F.plainAttrs_dict F.slot_dict_items F.type_dict_items (thn (he.run pins s σ H _ I h) fun u s1 ⟨x, H1, I1, rx, d, o, xs, ex, hd, q⟩ => ?_)
  subst ex
  cases (show u = Value.ref d from rx)
  obtain ⟨es, ep, hgd, hx, hdt, hes, hlen, hs⟩ := itd_raw I1 hd
  refine ⟨⟨o, hgd, hx.1⟩, fun b z => ?_, ?_⟩
  · cases z
    exact ⟨o, hgd, hx.2.1⟩
  refine Calls.callWith_builtin rfl (PySem.evalArgs_none ?_)
  refine DT.callItems (es := es) (ep := ep) hs ⟨o, hgd, hx, hdt⟩ ?_
  exact ⟨.ref s1.heap.objs.size, upd H1 s1.heap.objs.size (itemsO s1.heap.objs.size d), I1.laid (t' := s1.toks) (fun b u e => Heap.get?_push_of_some _ e) (Nat.le_refl _) (itemsO_ok (Heap.get?_push_size _ rfl)), rfl, q _ (I1.hok.fresh (Nat.le_refl _))⟩
end
def sortable (ds : List D) : Bool := ds.all (pl 50) && (ds.all fun a => ds.all fun b => PySem.W.alike (pd a) (pd b)) && (ds.all fun a => match pd a with | .tuple (_ :: _) => true | _ => false) && ds.all (fun a => decide ((pd a).depth ≤ 20)) && decide (ds.length ≤ 1000000)
def leD (a b : D) : Bool := PySem.W.dataLe false pd a b
def sortDat (ds : List D) : Option (List D) := if sortable ds = true then some (msK leD 12 ds) else none
theorem leD_total : PySem.W.TotalLe leD := by
  show PySem.W.TotalLe (PySem.W.dataLe false pd)
  unfold PySem.W.dataLe
  exact PySem.W.sortLe_total _ _ _
theorem sortDat_ok {ds es : List D} (h : sortDat ds = some es) : es = ds.mergeSort (PySem.W.dataLe false pd) ∧ (∀ d ∈ ds, pl 50 d = true ∧ (pd d).depth ≤ 20) ∧ PySem.W.AllAlike (ds.map pd) ∧ PySem.W.Sortable (ds.map pd) ∧ ds.length ≤ sizeLine := by
  unfold sortDat at h
  split at h
  · rename_i hs
    cases h
    unfold sortable at hs
    simp only [Bool.and_eq_true, List.all_eq_true, decide_eq_true_eq] at hs
    obtain ⟨⟨⟨⟨h1, h2⟩, h3⟩, h4⟩, h5⟩ := hs
    refine ⟨msK_eq leD_total 12 ds, fun d hd => ⟨h1 d hd, h4 d hd⟩, fun a ha b hb => ?_, .inl fun a ha => ?_, len_line h5⟩
    · obtain ⟨x, hx, rfl⟩ := List.mem_map.mp ha
      obtain ⟨y, hy, rfl⟩ := List.mem_map.mp hb
      exact h2 x hx y hy
    · obtain ⟨x, hx, rfl⟩ := List.mem_map.mp ha
      have := h3 x hx
      split at this
      · rename_i q; exact ⟨_, _, q⟩
      · cases this
  · cases h
def pairsD (ks ds : List D) : List D := (ks.zip ds).map fun q => .tup [q.1, q.2]
variable [Tbl]
theorem pairs_rd {G : Gp} {Ha Hb : Hp} (sm : Same Ha Hb) : ∀ (as : List Addr) (xs : List (List Key × Addr × Value)) (ws : List V) (ks ds : List D), as.length = xs.length → RDs G Ha (xs.map fun x => .ref x.2.1) ks → Vals ws (xs.map (·.2.2)) → RDs G Ha ws ds →
    (∀ z ∈ (as.zip (xs.zip ws)).map (fun z => (z.1, [V.ref z.2.1.2.1, z.2.2], [Value.ref z.2.1.2.1, z.2.1.2.2])), Hb z.1 = some (tHO z.2.2 z.2.1)) → RDs G Hb (as.map .ref) (pairsD ks ds)
  | [], [], _, _, _, _, .nil, .nil, .nil, _ => .nil
  | a :: as, x :: xs, _, _, _, hl, .cons (d := k) (ds := ks) rk rks, .cons (a := w) rv rvs, .cons (d := d) (ds := ds) rd rds, h => by
    have hm := h (a, [V.ref x.2.1, w], [Value.ref x.2.1, x.2.2]) (by
      rw [List.zip_cons_cons, List.zip_cons_cons, List.map_cons]
      exact List.mem_cons_self)
    refine .cons (.tup (.inl ⟨tObj [Value.ref x.2.1, x.2.2], hm, rfl⟩) (.cons (rk.mono sm) (.cons (rd.mono sm) .nil))) ?_
    exact pairs_rd sm as xs _ ks ds (Nat.succ.inj hl) rks rvs rds fun z hz => h z (by
      rw [List.zip_cons_cons, List.zip_cons_cons, List.map_cons]
      exact List.mem_cons_of_mem _ hz)
section
variable {X : Cx}
def rSortIt (X : Cx) : List V → Hp → VK → Prop := fun vs H Q => ∃ (p a : Addr) (o : Obj) (xs : List (List Key × Addr × Value)) (ws : List V) (Z : List Addr) (ks ds es : List D), vs = [.ref p] ∧ H p = some (itemsO p a) ∧ ItD X.prog X.w a o xs H ∧ Vals ws (xs.map (·.2.2)) ∧ ZOk Z H ∧
  RDs (Gx X) (hid Z H) (xs.map fun x => .ref x.2.1) ks ∧ RDs (Gx X) (hid Z H) ws ds ∧ sortDat (pairsD ks ds) = some es ∧ ∀ (H2 : Hp) (us : List V) (l : Addr), Same H H2 → RDs (Gx X) (hid Z H2) us es → H2 l = none → Q (.ref l) (upd H2 l (.lst us))
theorem cr_sortIt (hc : X.calm = true) (hu : X.A.units + 65 < cLine) : CallR X (.builtin "sorted") (rSortIt X) := by
  intro pins s σ H vs0 us0 Q I r h
  obtain ⟨p, a, o, xs, ws, Z, ks, ds, es, rfl, hp, ha, hw, hz, rk, rd, hs, q⟩ := h
  obtain ⟨ez, hpl, hal, hk, hL⟩ := sortDat_ok hs
  obtain ⟨u, rfl, rx⟩ := r.one
  cases rx
  have view : s.heap.IsItemsView p a := (show ObjOk X.prog X.w H s.heap p (itemsO p a) from I.hok p _ hp).1
  obtain ⟨es0, ep, hgd, hx, hdt, hes, hlen, hsm⟩ := itd_raw I ha
  have hh : X.A.handled = none := I.ok.hd hc
  have hsz : es0.size = xs.length := size_of_entries hes
  refine DT.sortedI (es := es0) (ep := ep) hh view ⟨o, hgd, hx, hdt⟩ (by rw [hsz]; exact hlen) fun h' tk as hkp hlt hl hG => ?_
  have lax : as.length = xs.length := by rw [hl, hsz]
  have lwx : ws.length = xs.length := by rw [hw.length, List.length_map]
  have pr : ∀ z ∈ (as.zip (xs.zip ws)).map (fun z => (z.1, [V.ref z.2.1.2.1, z.2.2], [Value.ref z.2.1.2.1, z.2.1.2.2])), s.heap.objs.size ≤ z.1 ∧ H z.1 = none ∧ h'.get? z.1 = some (tObj z.2.2) ∧ Vals z.2.1 z.2.2 ∧ z.2.1.length ≤ sizeLine := by
    intro z hz'
    obtain ⟨y, hy, rfl⟩ := List.mem_map.mp hz'
    obtain ⟨j, hj⟩ := List.mem_iff_getElem?.mp hy
    obtain ⟨j1, j2⟩ := List.getElem?_zip_eq_some.mp hj
    obtain ⟨j3, j4⟩ := List.getElem?_zip_eq_some.mp j2
    obtain ⟨en, g1, g2⟩ := hG.pairs j _ j1
    have g3 := entry_at hes j
    rw [j3, g1] at g3
    obtain rfl : en = _ := Option.some.inj g3
    have hb : s.heap.objs.size < y.1 := hG.above _ (List.mem_of_getElem? j1)
    obtain ⟨v, hv1, rv⟩ := val_at hw (show (xs.map (·.2.2))[j]? = some y.2.1.2.2 by rw [List.getElem?_map, j3]; rfl)
    obtain rfl : v = y.2.2 := Option.some.inj (hv1.symm.trans j4)
    exact ⟨Nat.le_of_lt hb, I.hok.fresh (Nat.le_of_lt hb), g2, .cons rfl (.cons rv .nil), by show 2 ≤ sizeLine; decide⟩
  have ndL : ((as.zip (xs.zip ws)).map (fun z => (z.1, [V.ref z.2.1.2.1, z.2.2], [Value.ref z.2.1.2.1, z.2.1.2.2]))).map (·.1) = as := by
    rw [List.map_map]
    show (as.zip (xs.zip ws)).map Prod.fst = as
    exact List.map_fst_zip (by rw [List.length_zip, lwx, Nat.min_self, lax]; exact Nat.le_refl _)
  have I1 : L2.Inv X pins σ H { s with heap := h', toks := tk } := I.kept hkp
  obtain ⟨H2, I2, out, laid⟩ := takeF I _ H I1 (by rw [ndL]; exact List.Pairwise.imp (fun h => Nat.ne_of_lt h) hG.rise) pr
  rw [ndL] at out
  have asn : ∀ b ∈ as, H b = none := fun b hb => I.hok.fresh (Nat.le_of_lt (hG.above b hb))
  have sm : Same H H2 := fun b o' e => by
    rw [out b fun z => by rw [asn b z] at e; cases e]
    exact e
  have smZ : Same (hid Z H) (hid Z H2) := Same.hid sm
  have rows : RDs (Gx X) (hid Z H2) (as.map .ref) (pairsD ks ds) := pairs_rd smZ as xs ws ks ds lax rk hw rd fun z hz' => by
    obtain ⟨y, hy, rfl⟩ := List.mem_map.mp hz'
    have hin : y.1 ∈ as := by
      obtain ⟨j, hj⟩ := List.mem_iff_getElem?.mp hy
      exact List.mem_of_getElem? (List.getElem?_zip_eq_some.mp hj).1
    exact hid_of (fun zz => hz y.1 zz (asn _ hin)) (laid _ hz')
  have hoL : (h'.push (seqObj "list" (as.map Value.ref).toArray 0)).get? h'.objs.size = some (seqObj "list" (as.map Value.ref).toArray 0) := Heap.get?_push_size _ rfl
  show wpAny _ _ _ _ _ { s with heap := h'.push (seqObj "list" (as.map Value.ref).toArray 0), toks := tk }
  have rv : Vals (as.map V.ref) (as.map Value.ref) := vals_maps (fun z : Addr => V.ref z) (fun z => Value.ref z) as fun _ _ => rfl
  have e1 := each_ofD rv rows
  have er : PySem.W.EachIs (fun v b => ∃ as', Reads (h'.push (seqObj "list" (as.map Value.ref).toArray 0)) v (pd b) as' ∧ h'.objs.size ∉ as') (as.map Value.ref) (pairsD ks ds) := by
    have gen : ∀ {vs : List Value} {bs : List D}, (∀ b ∈ bs, pl 50 b = true) → PySem.W.EachIs (fun u d => ∃ v, RelV v u ∧ RD (Gx X) (hid Z H2) v d) vs bs → PySem.W.EachIs (fun v b => ∃ as', Reads (h'.push (seqObj "list" (as.map Value.ref).toArray 0)) v (pd b) as' ∧ h'.objs.size ∉ as') vs bs := by
      intro vs bs hb ee
      induction ee with
      | nil => exact .nil
      | cons r0 _ ih =>
        obtain ⟨v, g1, g2⟩ := r0
        obtain ⟨as', ra⟩ := Dp.reads I2 _ v _ (pl_dp 50 _ v (hb _ List.mem_cons_self) (g2.mono hid_full)) g1
        exact .cons ⟨as', Reads.keeps (fun b o e => Heap.get?_push_of_some _ e) ra, fun z => Nat.lt_irrefl _ (reads_in ra _ z)⟩ (ih fun b hb' => hb b (List.mem_cons_of_mem _ hb'))
    exact gen (fun b hb => (hpl b hb).1) e1
  refine PySem.W.list_sort_data (s := { s with heap := h'.push (seqObj "list" (as.map Value.ref).toArray 0), toks := tk }) (a := h'.objs.size) hoL e1 er hal hk hL (fun b hb => by have := (hpl b hb).2; show X.A.units + 1 + 1 + (pd b).depth < cLine; omega) fun outv hlen2 eo => ?_
  rw [← ez] at eo
  obtain ⟨us, hv, hw2⟩ := of_eachD eo
  obtain ⟨e', he'⟩ := PyProof.Rows.sortedHeap_at (vs := as.map Value.ref) (out := outv.toArray) hoL
  have hle : us.length ≤ sizeLine := by
    rw [hv.length, hlen2]
    exact hL
  refine ⟨.ref h'.objs.size, upd H2 h'.objs.size (.lst us), I2.laid (t' := tk) (fun b u e => ?_) (Nat.le_refl _) ⟨hle, outv, e', hv, he'⟩, rfl, q H2 us _ sm hw2 (I2.hok.fresh (Nat.le_refl _))⟩
  have hb : b < h'.objs.size := Heap.lt_size e
  rw [PyProof.Rows.sortedHeap_old (Nat.ne_of_lt hb) (by rw [size_push']; exact Nat.lt_succ_of_lt hb)]
  exact Heap.get?_push_of_some _ e
def sortItD : D → Option (List D)
  | .dct (.tup k :: ks) ds => sortDat (pairsD (.tup k :: ks) ds)
  | .dct [] [] => sortDat []
  | _ => none
def nSortIt (fa : ES) : M (List D) := M.bind fa fun r => M.bind (imm r) fun d => M.opt (sortItD d)
theorem dn_sortIt {e : Expr} {fa : ES} {x : Str} {p pos apos cpos : Pos} (hc : X.calm = true) (hu : X.A.units + 65 < cLine) (hg : Gl X x) (hm : X.mg x = none) (hv : bootBuiltins x = some (.builtin "sorted")) (he : DE X e fa)
    (hn : x ≠ "__name__" := by decide) (hdb : (x == ("__debug__" : Str)) = false := by decide)
    (hbase : attributeBase e "items" X.env (eval e X.env) = eval e X.env := by rfl) (hline : (apos.endLine == cpos.line) = true := by rfl)
    (hs : starEach [.Call (.Attribute e "items" apos) [] [] cpos] X.env = (false, eval (.Call (.Attribute e "items" apos) [] [] cpos) X.env) :: starEach [] X.env := by rfl) (hpl : (backTo pos (starEach [] X.env)).any (·.1) = false := by rfl) :
    DN X (.Call (.Name x p) [.Call (.Attribute e "items" apos) [] [] cpos] [] pos) (nSortIt fa) := ⟨fun F => pe_imp (pe_callB (cr_sortIt hc hu) hg hm hv (pa_cons (pe_itemsX (he.run F) hbase hline) pa_nil hs) hn hdb hs hpl) fun σ H Q ⟨A, ρ, res, ρ', S, e, q⟩ => by
  obtain ⟨r, ρ1, e1, e⟩ := bind_ok e
  obtain ⟨d, ρ2, e2, e⟩ := bind_ok e
  obtain ⟨rfl, rfl⟩ := imm_ok e2
  obtain ⟨l3, rfl⟩ := opt_ok e
  refine ⟨A, ρ, _, _, S, e1, fun v H1 S1 m1 r1 => ?_⟩
  have r1 : RD (Gx X) (hid (zs F A) H1) v d := r1
  cases r1 with
  | @dct a o kvs ds h1 h2 =>
    cases kvs with
    | nil =>
      cases h2
      refine ⟨a, o, [], rfl, .inr ⟨rfl, (hid_some h1).2⟩, fun p0 hp0 => ?_⟩
      have smP : Same H1 (upd H1 p0 (itemsO p0 a)) := Same.of_new hp0
      refine ⟨p0, a, o, [], [], zs F A, [], [], _, rfl, upd_same, .inr ⟨rfl, smP _ _ (hid_some h1).2⟩, .nil, S1.zall.same smP, .nil, .nil, l3, fun H2 us l sm2 rd2 hl2 => ?_⟩
      have S2 := (S1.same smP).same sm2
      have m2 := (m1.trans (Stp.of smP)).trans (Stp.of sm2)
      exact fresh_list S2 m2 rd2 hl2 (back_none S m2 S2 hl2) q
    | cons y t =>
      obtain ⟨k0, v0⟩ := y
      cases k0 <;> cases l3
  | @dctT a o xs ws ds hne h1 hkeys hw rdv =>
    have l4 : sortDat (pairsD (xs.map fun x => keyT x.1) ds) = some res := by
      cases xs with
      | nil => exact absurd rfl hne
      | cons y t => exact l3
    refine ⟨a, o, xs, rfl, .inl (hid_some h1).2, fun p0 hp0 => ?_⟩
    have smP : Same H1 (upd H1 p0 (itemsO p0 a)) := Same.of_new hp0
    have rkk : ∀ l : List (List Key × Addr × Value), (∀ x ∈ l, TupV X.K (hid (zs F A) H1) x.2.1 (x.1.map kV)) → RDs (Gx X) (hid (zs F A) H1) (l.map fun x => .ref x.2.1) (l.map fun x => keyT x.1) := fun l => by
      induction l with
      | nil => exact fun _ => .nil
      | cons q t ih2 => exact fun h => .cons (.tup (h q List.mem_cons_self) (RDs.ofKeys _)) (ih2 fun x hx => h x (List.mem_cons_of_mem _ hx))
    refine ⟨p0, a, o, xs, ws, zs F A, _, _, _, rfl, upd_same, .inl (smP _ _ (hid_some h1).2), hw, S1.zall.same smP, (rkk xs hkeys).mono (Same.hid smP), rdv.mono (Same.hid smP), l4, fun H2 us l sm2 rd2 hl2 => ?_⟩
    have S2 := (S1.same smP).same sm2
    have m2 := (m1.trans (Stp.of smP)).trans (Stp.of sm2)
    exact fresh_list S2 m2 rd2 hl2 (back_none S m2 S2 hl2) q
  | _ => cases l3⟩
end
end Dv
namespace Dv
open PySem PySem.Spec PyProof.Rows L2
section
variable {X : Cx}
variable [Tbl]
end
end Dv
namespace K17
open PySem PySem.Spec PyProof.Rows L2 Dv
abbrev FnP (K : PySem.W.Frag) (x : Str) (st : Stmt) (f : Addr) (fd : FuncData) : Prop := FunD K x x (defArgs st) (defBody st) (defScope st) [] [] f fd
def tb_InvalidBook : List (Str × Bool) := [("InvalidBook", true), ("InvalidLot", false), ("InvalidAxis", false), ("InvalidNumber", false), ("InvalidOperation", false)]
def tb_InvalidLot : List (Str × Bool) := [("InvalidBook", false), ("InvalidLot", true), ("InvalidAxis", false), ("InvalidNumber", false), ("InvalidOperation", false)]
def tb_InvalidAxis : List (Str × Bool) := [("InvalidBook", false), ("InvalidLot", false), ("InvalidAxis", true), ("InvalidNumber", false), ("InvalidOperation", false)]
def tb_InvalidOperation : List (Str × Bool) := [("InvalidBook", false), ("InvalidLot", false), ("InvalidAxis", false), ("InvalidNumber", false), ("InvalidOperation", true)]
def tb_InvalidNumber : List (Str × Bool) := [("InvalidBook", false), ("InvalidLot", false), ("InvalidAxis", false), ("InvalidNumber", true), ("InvalidOperation", false)]
def hk__law_met : Ex → Option D := (hkCons (fun y => List.lookup y tb_InvalidBook) (svC (.str "book"))
    (hkCons (fun y => List.lookup y tb_InvalidLot) (svC (.str "lot"))
    (hkCons (fun y => List.lookup y tb_InvalidAxis) (svC (.str "axis"))
    (hkCons (fun y => List.lookup y tb_InvalidOperation) (svC (.str "operation"))
    (hkCons (fun y => List.lookup y tb_InvalidNumber) (svOp gAdd (svC (.str "number ")) (svCall gRepr (svF "InvalidNumber" "given")))
    hkNil)))))
def s_is_whole : SS := (sRet (eAnd (eUn (gIsi "int") (eVar 0)) (eAnd (eNot (eUn (gIsi "bool") (eVar 0))) (eChain gLtA gLtA (eUn gNeg (eC (.int (1000000000000000000000000000000000000000000000000000000000000)))) (eVar 0) (eC (.int (1000000000000000000000000000000000000000000000000000000000000)))))))
def F_is_whole : FD := defF 1 1 s_is_whole
def s_is_within : SS := (sRet (eAnd (eUser F_is_whole (aCons (eVar 0) aNil)) (eChain gLeA gLeA (eVar 1) (eVar 0) (eVar 2))))
def F_is_within : FD := defF 3 3 s_is_within
def s_require_size : SS := (sIf (bNot (bVal (eUser F_is_within (aCons (eVar 0) (aCons (eC (.int 1)) (aCons (eC (.int (9))) aNil))))))
    sNever
    sNil)
def F_require_size : FD := defF 1 1 s_require_size
def s_is_option : SS := (sRet (eUser F_is_within (aCons (eVar 1) (aCons (eC (.int 0)) (aCons (eBin gSub (eVar 0) (eC (.int 1))) aNil)))))
def F_is_option : FD := defF 2 2 s_is_option
def c_is_row_of_1 : M (List D) := nLc [2] (iSeq (eVar 1)) (gSet 2) bYes (eUser F_is_option (aCons (eVar 0) (aCons (eVar 2) aNil)))
def s_is_row_of : SS := (sSeq (sIf (bOr (bNot (bVal (eUn (gIsi "tuple") (eVar 1)))) (bOr (bCmp gNe (eCall gLen (aCons (eVar 1) aNil)) (eVar 0)) (bNot (bVal (eCall gAll (aCons (eN c_is_row_of_1) aNil))))))
    (sRet (eC (.bl false)))
    sNil)
    (sRet (eBin gEq (eCall gLenS (aCons (eCall gSetA (aCons (eVar 1) aNil)) aNil)) (eVar 0))))
def F_is_row_of : FD := defF 2 3 s_is_row_of
def c_are_ballots_1 : M (List D) := nLc [2] (iSeq (eVar 1)) (gSet 2) bYes (eUser F_is_row_of (aCons (eVar 0) (aCons (eVar 2) aNil)))
def s_are_ballots : SS := (sRet (eAnd (eUn (gIsi "tuple") (eVar 1)) (eAnd (eBin gLeA (eCall gLen (aCons (eVar 1) aNil)) (eC (.int (40)))) (eCall gAll (aCons (eN c_are_ballots_1) aNil)))))
def F_are_ballots : FD := defF 2 3 s_are_ballots
def s__law_bag : SS := (sSeq (sSet 2 (eIf (bCmp gLtA (eVar 1) (eCall gLen (aCons (eVar 0) aNil))) (eCall gInt (aCons (eBin gIx (eVar 0) (eVar 1)) aNil)) (eBin gAdd (eBin gMul (eC (.int 89)) (eVar 1)) (eC (.int 41)))))
    (sSeq (sSet 3 (eBin gMod (eCall gMax2 (aCons (eC (.int 0)) (aCons (eBin gSub (eCall gAbs (aCons (eVar 2) aNil)) (eBin gPow (eC (.int 10)) (eC (.int 18)))) aNil))) (eBin gMul (eBin gPow (eC (.int 10)) (eC (.int 60))) (eBin gPow (eC (.int 10)) (eC (.int 60))))))
    (sSeq (sSet 4 (eBin gAdd (eBin gAdd (eBin gAdd (eBin gMul (eBin gMod (eCall gInt (aCons (eCall gAbs (aCons (eVar 2) aNil)) aNil)) (eBin gAdd (eBin gPow (eC (.int 10)) (eC (.int 12))) (eC (.int 39)))) (eC (.int 10007))) (eBin gMul (eC (.int 509)) (eVar 1))) (eBin gMul (eC (.int 17)) (eCall gInt (aCons (eBin gLtA (eVar 2) (eC (.int 0))) aNil)))) (eC (.int 1))))
    (sRetL (nLst (aCons (eVar 3) (aCons (eBin gMod (eCall gInt (aCons (eVar 4) aNil)) (eBin gSub (eBin gPow (eC (.int 2)) (eC (.int 61))) (eC (.int 1)))) aNil)))))))
def F__law_bag : FD := defF 2 5 s__law_bag
def s__law_draw : SS := (sSeq (sIf (bCmp gGtA (eBin gIx (eVar 0) (eC (.int 0))) (eC (.int 0)))
    (sSeq (sSet 2 (eBin gMod (eCall gInt (aCons (eBin gIx (eVar 0) (eC (.int 0))) aNil)) (eVar 1)))
    (sSeq (sSetIx 0 (eBin gDiv (eBin gIx (eVar 0) (eC (.int 0))) (eVar 1)) (eC (.int 0)))
    (sRet (eVar 2))))
    sNil)
    (sSeq (sSetIx 0 (eBin gMod (eCall gInt (aCons (eBin gAdd (eBin gMul (eBin gIx (eVar 0) (eC (.int 1))) (eC (.int 6364136223))) (eC (.int 1442695041))) aNil)) (eBin gSub (eBin gPow (eC (.int 2)) (eC (.int 61))) (eC (.int 1)))) (eC (.int 1)))
    (sRet (eBin gMod (eCall gInt (aCons (eBin gDiv (eBin gIx (eVar 0) (eC (.int 1))) (eC (.int 65537))) aNil)) (eVar 1)))))
def F__law_draw : FD := defF 2 3 s__law_draw
def s__law_one_of : SS := (sRet (eBin gIx (eVar 1) (eUser F__law_draw (aCons (eVar 0) (aCons (eCall gLen (aCons (eVar 1) aNil)) aNil)))))
def F__law_one_of : FD := defF 2 2 s__law_one_of
def s_require_book : SS := (sIf (bNot (bVal (eUn (gIsK "Book") (eVar 0))))
    sNever
    sNil)
def F_require_book : FD := defF 1 1 s_require_book
def xs_require_book : M Ex := (xIf (bNot (bVal (eUn (gIsK "Book") (eVar 0))))
    (xMsg "InvalidBook")
    xNever)
def X_require_book : FX := defX 1 1 xs_require_book
def c_lasts_1 : M D := nDc [1] (iSeq (eUn (gFld "Book" 0) (eVar 0))) (gSet 1) bYes (eBin gIx (eVar 1) (eUn gNeg (eC (.int 1)))) (eC (.bl true))
def s_lasts : SS := (sSeq (sExpr (eUser F_require_book (aCons (eVar 0) aNil)))
    (sRet (eCall gTuple (aCons (eN (nCall gSortD (aCons (eCn c_lasts_1) aNil))) aNil))))
def F_lasts : FD := defF 1 2 s_lasts
def xs_lasts : M Ex := (xUser X_require_book (aCons (eVar 0) aNil))
def X_lasts : FX := defX 1 2 xs_lasts
def l_can_stand_1 : SS := sFor (iSeq (eSl (eVar 1) (oSome (eBin gAdd (eVar 3) (eC (.int 1)))) oNone)) (gSet 5)
    (sIf (bCmp gIn (eVar 5) (eBin gIx (eVar 0) (eCall gTuple (aCons (eN (nCall gSortedA (aCons (eN (nLst (aCons (eVar 4) (aCons (eVar 5) (aCons (eVar 2) aNil))))) aNil))) aNil))))
    (sRet (eC (.bl false)))
    sNil)
def l_can_stand_2 : SS := sFor (iCallI gEnumA (aCons (eVar 1) aNil)) (gTupD 2 (gsCons (gSet 3) (gsCons (gSet 4) gsNil)))
    l_can_stand_1
def s_can_stand : SS := (sSeq l_can_stand_2
    (sRet (eC (.bl true))))
def F_can_stand : FD := defF 3 6 s_can_stand
def xs_can_stand : M Ex := xNever
def X_can_stand : FX := defX 3 6 xs_can_stand
def c_is_begun_1 : M (List D) := nLc [2, 3] (iCallI gEnumA (aCons (eVar 1) aNil)) (gTupD 2 (gsCons (gSet 2) (gsCons (gSet 3) gsNil))) bYes (eUser F_can_stand (aCons (eVar 0) (aCons (eSl (eVar 1) oNone (oSome (eVar 2))) (aCons (eVar 3) aNil))))
def s_is_begun : SS := (sRet (eCall gAll (aCons (eN c_is_begun_1) aNil)))
def F_is_begun : FD := defF 2 4 s_is_begun
def xs_is_begun : M Ex := xNever
def X_is_begun : FX := defX 2 4 xs_is_begun
def c_axis_behind_1 : M (List D) := nLc [7] (iSeq (eUn gRev (eVar 6))) (gSet 7) (bVal (eUser F_can_stand (aCons (eVar 1) (aCons (eVar 5) (aCons (eVar 7) aNil))))) (eTup (aStar (eVar 5) (aCons (eVar 7) aNil)))
def c_axis_behind_2 : M (List D) := nLc [7] (iSeq (eVar 6)) (gSet 7) (bCmp gEq (eBin gEq (eVar 7) (eVar 3)) (eBin gEq (eCall gLen (aCons (eVar 5) aNil)) (eBin gSub (eVar 0) (eC (.int 1))))) (eVar 7)
def c_axis_behind_3 : M (List D) := nLc [7] (iCall rng1 (aCons (eVar 0) aNil)) (gSet 7) (bCmp gNotIn (eVar 7) (eVar 5)) (eVar 7)
def l_axis_behind_4 : SS := sWhile (bCmp gNe (eVar 4) (eN (nLst aNil)))
    (sSeq (sSet 5 (eMt 4 cPop aNil))
    (sSeq (sIf (bCmp gEq (eCall gLen (aCons (eVar 5) aNil)) (eVar 0))
    (sRet (eVar 5))
    sNil)
    (sSeq (sSetL 6 c_axis_behind_3)
    (sSeq (sIf (bCmp gNotN (eVar 3) (eC .non))
    (sSetL 6 c_axis_behind_2)
    sNil)
    (sExpr (eMt 4 cExtend (aCons (eN c_axis_behind_1) aNil))))))) 2000
def s_axis_behind : SS := (sSeq (sOwn 4 (nIf (bVal (eUser F_is_begun (aCons (eVar 1) (aCons (eVar 2) aNil)))) (nLst (aCons (eVar 2) aNil)) (nLst aNil)))
    (sSeq l_axis_behind_4
    (sRet (eC .non))))
def F_axis_behind : FD := defF 4 8 s_axis_behind
def xs_axis_behind : M Ex := xNever
def X_axis_behind : FX := defX 4 8 xs_axis_behind
def l_places_in_1 : SS := sFor (iCallI gEnumA (aCons (eVar 0) aNil)) (gTupD 2 (gsCons (gSet 2) (gsCons (gSet 3) gsNil)))
    (sSetIx 1 (eVar 2) (eVar 3))
def s_places_in : SS := (sSeq (sOwn 1 (nRep (nLst (aCons (eC (.int 0)) aNil)) (eCall gLen (aCons (eVar 0) aNil))))
    (sSeq l_places_in_1
    (sRet (eVar 1))))
def F_places_in : FD := defF 1 4 s_places_in
def c_is_last_somewhere_1 : M (List D) := nLc [4] (iSeq (eVar 1)) (gSet 4) bYes (eBin gIx (eVar 3) (eVar 4))
def c_is_last_somewhere_2 : M (List D) := nLc [3] (iSeq (eVar 0)) (gSet 3) bYes (eBin gEq (eCall gMaxA (aCons (eN c_is_last_somewhere_1) aNil)) (eBin gIx (eVar 3) (eVar 2)))
def s_is_last_somewhere : SS := (sRet (eCall gAny (aCons (eN c_is_last_somewhere_2) aNil)))
def F_is_last_somewhere : FD := defF 3 5 s_is_last_somewhere
def c_lasts_of_1 : M (List D) := nLc [8] (iSeq (eVar 6)) (gSet 8) (bVal (eUser F_is_last_somewhere (aCons (eVar 1) (aCons (eVar 6) (aCons (eVar 8) aNil))))) (eVar 8)
def l_lasts_of_2 : SS := sFor (iCall rng2 (aCons (eBin gAdd (eVar 4) (eC (.int 1))) (aCons (eUn (gFld "Book" 1) (eVar 0)) aNil))) (gSet 5)
    (sSeq (sSet 6 (eTup (aCons (eVar 3) (aCons (eVar 4) (aCons (eVar 5) aNil)))))
    (sPutD 2 (eN c_lasts_of_1) (eVar 6)))
def l_lasts_of_3 : SS := sFor (iCall rng2 (aCons (eBin gAdd (eVar 3) (eC (.int 1))) (aCons (eUn (gFld "Book" 1) (eVar 0)) aNil))) (gSet 4)
    l_lasts_of_2
def l_lasts_of_4 : SS := sFor (iCall rng1 (aCons (eUn (gFld "Book" 1) (eVar 0)) aNil)) (gSet 3)
    l_lasts_of_3
def c_lasts_of_5 : M (List D) := nLc [7] (iSeq (eUn (gFld "Book" 0) (eVar 0))) (gSet 7) bYes (eUser F_places_in (aCons (eVar 7) aNil))
def s_lasts_of : SS := (sSeq (sParN [1, 2] [pV (eN c_lasts_of_5), pC cD0])
    (sSeq l_lasts_of_4
    (sFree [2] (sRet (eVar 2)))))
def F_lasts_of : FD := defF 1 9 s_lasts_of
def s_axis_in : SS := (sRet (eUser F_axis_behind (aCons (eUn (gFld "Book" 1) (eVar 0)) (aCons (eUser F_lasts_of (aCons (eVar 0) aNil)) (aCons (eTup aNil) (aCons (eC .non) aNil))))))
def F_axis_in : FD := defF 1 1 s_axis_in
def xs_axis_in : M Ex := (xUser X_axis_behind (aCons (eUn (gFld "Book" 1) (eVar 0)) (aCons (eUser F_lasts_of (aCons (eVar 0) aNil)) (aCons (eTup aNil) (aCons (eC .non) aNil)))))
def X_axis_in : FX := defX 1 1 xs_axis_in
def s_has_axis : SS := (sSeq (sExpr (eUser F_require_book (aCons (eVar 0) aNil)))
    (sRet (eBin gNotN (eUser F_axis_in (aCons (eVar 0) aNil)) (eC .non))))
def F_has_axis : FD := defF 1 1 s_has_axis
def xs_has_axis : M Ex := (xOr (xUser X_require_book (aCons (eVar 0) aNil)) (xThen (sExpr (eUser F_require_book (aCons (eVar 0) aNil)))
    (xUser X_axis_in (aCons (eVar 0) aNil))))
def X_has_axis : FX := defX 1 1 xs_has_axis
def c_first_last_1 : M (List D) := nLc [5] (iSeq (eVar 1)) (gSet 5) bYes (eBin gIx (eVar 4) (eVar 5))
def c_first_last_2 : M (List D) := nLc [3, 4] (iCallI gEnumA (aCons (eVar 0) aNil)) (gTupD 2 (gsCons (gSet 3) (gsCons (gSet 4) gsNil))) (bCmp gEq (eCall gMaxA (aCons (eN c_first_last_1) aNil)) (eBin gIx (eVar 4) (eVar 2))) (eVar 3)
def s_first_last : SS := (sRet (eBin gIx (eN c_first_last_2) (eC (.int 0))))
def F_first_last : FD := defF 3 6 s_first_last
def l_three_in_1 : SS := sFor (iSeq (eVar 2)) (gSet 5)
    (sExpr (eMt 4 cAppend (aCons (eUser F_first_last (aCons (eVar 1) (aCons (eVar 2) (aCons (eVar 5) aNil)))) aNil)))
def l_three_in_2 : SS := sFor (iSeq (eN (nSortIt (eUser F_lasts_of (aCons (eVar 0) aNil))))) (gTupD 2 (gsCons (gSet 2) (gsCons (gSet 3) gsNil)))
    (sIf (bCmp gEq (eCall gLen (aCons (eVar 3) aNil)) (eC (.int 3)))
    (sSeq (sOwn 4 (nLst aNil))
    (sSeq l_three_in_1
    (sRet (eTup (aCons (eC (.str "three")) (aCons (eVar 2) (aCons (eCall gTuple (aCons (eVar 4) aNil)) aNil)))))))
    sNil)
def c_three_in_3 : M (List D) := nLc [6] (iSeq (eUn (gFld "Book" 0) (eVar 0))) (gSet 6) bYes (eUser F_places_in (aCons (eVar 6) aNil))
def s_three_in : SS := (sSeq (sSetL 1 c_three_in_3)
    (sSeq l_three_in_2
    (sRet (eC .non))))
def F_three_in : FD := defF 1 7 s_three_in
def s_is_bent : SS := (sSeq (sAsg (eVar 1) (gTupD 4 (gsCons (gSet 2) (gsCons (gSet 3) (gsCons (gSet 4) (gsCons (gSet 5) gsNil))))))
    (sRet (eAnd (eChain gLtA gLtA (eBin gIx (eVar 0) (eVar 2)) (eBin gIx (eVar 0) (eVar 3)) (eBin gIx (eVar 0) (eVar 4))) (eBin gLtA (eBin gIx (eVar 0) (eVar 5)) (eBin gIx (eVar 0) (eVar 3))))))
def F_is_bent : FD := defF 2 6 s_is_bent
def c_four_with_1 : M (List D) := nLc [8, 9] (iCallI gEnumA (aCons (eVar 0) aNil)) (gTupD 2 (gsCons (gSet 8) (gsCons (gSet 9) gsNil))) (bVal (eUser F_is_bent (aCons (eVar 9) (aCons (eTup (aCons (eVar 4) (aCons (eVar 3) (aCons (eVar 2) (aCons (eVar 5) aNil))))) aNil)))) (eVar 8)
def c_four_with_2 : M (List D) := nLc [8, 9] (iCallI gEnumA (aCons (eVar 0) aNil)) (gTupD 2 (gsCons (gSet 8) (gsCons (gSet 9) gsNil))) (bVal (eUser F_is_bent (aCons (eVar 9) (aCons (eVar 1) aNil)))) (eVar 8)
def s_four_with : SS := (sSeq (sAsg (eVar 1) (gTupD 4 (gsCons (gSet 2) (gsCons (gSet 3) (gsCons (gSet 4) (gsCons (gSet 5) gsNil))))))
    (sSeq (sSetL 6 c_four_with_2)
    (sSeq (sSetL 7 c_four_with_1)
    (sRet (eIf (bAnd (bCmp gNe (eVar 6) (eN (nLst aNil))) (bCmp gNe (eVar 7) (eN (nLst aNil)))) (eTup (aCons (eBin gIx (eVar 6) (eC (.int 0))) (aCons (eBin gIx (eVar 7) (eC (.int 0))) aNil))) (eC .non))))))
def F_four_with : FD := defF 2 10 s_four_with
def c_four_in_1 : M (List D) := nLc [9] (iCall rng1 (aCons (eVar 2) aNil)) (gSet 9) (bCmp gNe (eVar 9) (eVar 3)) (eVar 9)
def c_four_in_2 : M (List D) := nLc [9] (iCall rng1 (aCons (eVar 2) aNil)) (gSet 9) (bCmp gNotIn (eVar 9) (eTup (aCons (eVar 3) (aCons (eVar 4) aNil)))) (eVar 9)
def c_four_in_3 : M (List D) := nLc [9] (iCall rng1 (aCons (eVar 2) aNil)) (gSet 9) (bCmp gNotIn (eVar 9) (eTup (aCons (eVar 3) (aCons (eVar 4) (aCons (eVar 5) aNil))))) (eVar 9)
def l_four_in_4 : SS := sFor (iSeq (eN c_four_in_3)) (gSet 6)
    (sSeq (sSet 7 (eUser F_four_with (aCons (eVar 1) (aCons (eTup (aCons (eVar 3) (aCons (eVar 4) (aCons (eVar 5) (aCons (eVar 6) aNil))))) aNil))))
    (sIf (bCmp gNotN (eVar 7) (eC .non))
    (sRet (eTup (aCons (eC (.str "four")) (aCons (eTup (aCons (eVar 3) (aCons (eVar 4) (aCons (eVar 5) (aCons (eVar 6) aNil))))) (aCons (eVar 7) aNil)))))
    sNil))
def l_four_in_5 : SS := sFor (iSeq (eN c_four_in_2)) (gSet 5)
    l_four_in_4
def l_four_in_6 : SS := sFor (iSeq (eN c_four_in_1)) (gSet 4)
    l_four_in_5
def l_four_in_7 : SS := sFor (iCall rng1 (aCons (eVar 2) aNil)) (gSet 3)
    l_four_in_6
def c_four_in_8 : M (List D) := nLc [8] (iSeq (eUn (gFld "Book" 0) (eVar 0))) (gSet 8) bYes (eUser F_places_in (aCons (eVar 8) aNil))
def s_four_in : SS := (sSeq (sPar2 1 2 (pV (eN c_four_in_8)) (pV (eUn (gFld "Book" 1) (eVar 0))))
    (sSeq l_four_in_7
    (sRet (eC .non))))
def F_four_in : FD := defF 1 10 s_four_in
def s_bar_in : SS := (sSeq (sSet 1 (eUser F_three_in (aCons (eVar 0) aNil)))
    (sRet (eIf (bCmp gNotN (eVar 1) (eC .non)) (eVar 1) (eUser F_four_in (aCons (eVar 0) aNil)))))
def F_bar_in : FD := defF 1 2 s_bar_in
def s_paper_in : SS := (sSeq (sSet 1 (eUser F_axis_in (aCons (eVar 0) aNil)))
    (sRet (eIf (bCmp gNotN (eVar 1) (eC .non)) (eTup (aCons (eC (.str "axis")) (aCons (eVar 1) aNil))) (eUser F_bar_in (aCons (eVar 0) aNil)))))
def F_paper_in : FD := defF 1 2 s_paper_in
def xs_paper_in : M Ex := (xUser X_axis_in (aCons (eVar 0) aNil))
def X_paper_in : FX := defX 1 2 xs_paper_in
def s_axis_paper : SS := (sSeq (sExpr (eUser F_require_book (aCons (eVar 0) aNil)))
    (sRet (eUser F_paper_in (aCons (eVar 0) aNil))))
def F_axis_paper : FD := defF 1 1 s_axis_paper
def xs_axis_paper : M Ex := (xOr (xUser X_require_book (aCons (eVar 0) aNil)) (xThen (sExpr (eUser F_require_book (aCons (eVar 0) aNil)))
    (xUser X_paper_in (aCons (eVar 0) aNil))))
def X_axis_paper : FX := defX 1 1 xs_axis_paper
def c_are_indices_1 : M (List D) := nLc [3] (iSeq (eVar 1)) (gSet 3) bYes (eUser F_is_within (aCons (eVar 3) (aCons (eC (.int 0)) (aCons (eBin gSub (eCall gLen (aCons (eUn (gFld "Book" 0) (eVar 0)) aNil)) (eC (.int 1))) aNil))))
def s_are_indices : SS := (sSeq (sIf (bOr (bNot (bVal (eUn (gIsi "tuple") (eVar 1)))) (bCmp gNe (eCall gLen (aCons (eVar 1) aNil)) (eVar 2)))
    (sRet (eC (.bl false)))
    sNil)
    (sRet (eCall gAll (aCons (eN c_are_indices_1) aNil))))
def F_are_indices : FD := defF 3 4 s_are_indices
def c_are_options_1 : M (List D) := nLc [3] (iSeq (eVar 1)) (gSet 3) bYes (eUser F_is_option (aCons (eVar 0) (aCons (eVar 3) aNil)))
def s_are_options : SS := (sSeq (sIf (bOr (bNot (bVal (eUn (gIsi "tuple") (eVar 1)))) (bOr (bCmp gNe (eCall gLen (aCons (eVar 1) aNil)) (eVar 2)) (bNot (bVal (eCall gAll (aCons (eN c_are_options_1) aNil))))))
    (sRet (eC (.bl false)))
    sNil)
    (sRet (eBin gEq (eCall gLenS (aCons (eCall gSetA (aCons (eVar 1) aNil)) aNil)) (eVar 2))))
def F_are_options : FD := defF 3 4 s_are_options
def c_is_lot_of_1 : M (List D) := nLc [2, 3] (iCallI gZip (aCons (eVar 1) (aCons (eSl (eVar 1) (oSome (eC (.int 1))) oNone) aNil))) (gTupD 2 (gsCons (gSet 2) (gsCons (gSet 3) gsNil))) bYes (eBin gLtA (eVar 2) (eVar 3))
def c_is_lot_of_2 : M (List D) := nLc [2] (iSeq (eVar 1)) (gSet 2) bYes (eUser F_is_option (aCons (eVar 0) (aCons (eVar 2) aNil)))
def s_is_lot_of : SS := (sSeq (sIf (bOr (bNot (bVal (eUn (gIsi "tuple") (eVar 1)))) (bNot (bVal (eCall gAll (aCons (eN c_is_lot_of_2) aNil)))))
    (sRet (eC (.bl false)))
    sNil)
    (sRet (eCall gAll (aCons (eN c_is_lot_of_1) aNil))))
def F_is_lot_of : FD := defF 2 4 s_is_lot_of
def c_is_three_bar_1 : M (List D) := nLc [6] (iSeq (eVar 1)) (gSet 6) bYes (eBin gIx (eVar 5) (eVar 6))
def l_is_three_bar_2 : SS := sFor (iCallI gZip (aCons (eVar 1) (aCons (eVar 2) aNil))) (gTupD 2 (gsCons (gSet 3) (gsCons (gSet 4) gsNil)))
    (sSeq (sSet 5 (eUser F_places_in (aCons (eBin gIx (eUn (gFld "Book" 0) (eVar 0)) (eVar 4)) aNil)))
    (sIf (bCmp gNe (eCall gMaxA (aCons (eN c_is_three_bar_1) aNil)) (eBin gIx (eVar 5) (eVar 3)))
    (sRet (eC (.bl false)))
    sNil))
def s_is_three_bar : SS := (sSeq (sIf (bOr (bNot (bVal (eUser F_are_options (aCons (eUn (gFld "Book" 1) (eVar 0)) (aCons (eVar 1) (aCons (eC (.int 3)) aNil)))))) (bNot (bVal (eUser F_is_lot_of (aCons (eUn (gFld "Book" 1) (eVar 0)) (aCons (eVar 1) aNil))))))
    (sRet (eC (.bl false)))
    sNil)
    (sSeq (sIf (bNot (bVal (eUser F_are_indices (aCons (eVar 0) (aCons (eVar 2) (aCons (eC (.int 3)) aNil))))))
    (sRet (eC (.bl false)))
    sNil)
    (sSeq l_is_three_bar_2
    (sRet (eC (.bl true))))))
def F_is_three_bar : FD := defF 3 7 s_is_three_bar
def c_is_four_bar_1 : M (List D) := nLc [9] (iSeq (eVar 2)) (gSet 9) bYes (eUser F_places_in (aCons (eBin gIx (eUn (gFld "Book" 0) (eVar 0)) (eVar 9)) aNil))
def s_is_four_bar : SS := (sSeq (sIf (bOr (bNot (bVal (eUser F_are_options (aCons (eUn (gFld "Book" 1) (eVar 0)) (aCons (eVar 1) (aCons (eC (.int 4)) aNil)))))) (bNot (bVal (eUser F_are_indices (aCons (eVar 0) (aCons (eVar 2) (aCons (eC (.int 2)) aNil)))))))
    (sRet (eC (.bl false)))
    sNil)
    (sSeq (sAsg (eVar 1) (gTupD 4 (gsCons (gSet 3) (gsCons (gSet 4) (gsCons (gSet 5) (gsCons (gSet 6) gsNil))))))
    (sSeq (sAsg (eN c_is_four_bar_1) (gTupL 2 (gsCons (gSet 7) (gsCons (gSet 8) gsNil))))
    (sRet (eAnd (eUser F_is_bent (aCons (eVar 7) (aCons (eVar 1) aNil))) (eUser F_is_bent (aCons (eVar 8) (aCons (eTup (aCons (eVar 5) (aCons (eVar 4) (aCons (eVar 3) (aCons (eVar 6) aNil))))) aNil))))))))
def F_is_four_bar : FD := defF 3 10 s_is_four_bar
def s_is_bar_in : SS := (sSeq (sIf (bOr (bNot (bVal (eUn (gIsi "tuple") (eVar 1)))) (bOr (bCmp gNe (eCall gLen (aCons (eVar 1) aNil)) (eC (.int 3))) (bNot (bVal (eUn (gIsi "str") (eBin gIx (eVar 1) (eC (.int 0))))))))
    (sRet (eC (.bl false)))
    sNil)
    (sSeq (sIf (bCmp gEq (eBin gIx (eVar 1) (eC (.int 0))) (eC (.str "three")))
    (sRet (eUser F_is_three_bar (aCons (eVar 0) (aCons (eBin gIx (eVar 1) (eC (.int 1))) (aCons (eBin gIx (eVar 1) (eC (.int 2))) aNil)))))
    sNil)
    (sRet (eAnd (eBin gEq (eBin gIx (eVar 1) (eC (.int 0))) (eC (.str "four"))) (eUser F_is_four_bar (aCons (eVar 0) (aCons (eBin gIx (eVar 1) (eC (.int 1))) (aCons (eBin gIx (eVar 1) (eC (.int 2))) aNil))))))))
def F_is_bar_in : FD := defF 2 2 s_is_bar_in
def l_is_peaked_in_1 : SS := sFor (iCall rng2 (aCons (eC (.int 1)) (aCons (eBin gSub (eCall gLen (aCons (eVar 3) aNil)) (eC (.int 1))) aNil))) (gSet 4)
    (sIf (bAnd (bCmp gGtA (eBin gIx (eVar 3) (eVar 4)) (eBin gIx (eVar 3) (eBin gSub (eVar 4) (eC (.int 1))))) (bCmp gGtA (eBin gIx (eVar 3) (eVar 4)) (eBin gIx (eVar 3) (eBin gAdd (eVar 4) (eC (.int 1))))))
    (sRet (eC (.bl false)))
    sNil)
def c_is_peaked_in_2 : M (List D) := nLc [5] (iSeq (eVar 0)) (gSet 5) bYes (eBin gIx (eVar 2) (eVar 5))
def s_is_peaked_in : SS := (sSeq (sSet 2 (eUser F_places_in (aCons (eVar 1) aNil)))
    (sSeq (sSetL 3 c_is_peaked_in_2)
    (sSeq l_is_peaked_in_1
    (sRet (eC (.bl true))))))
def F_is_peaked_in : FD := defF 2 6 s_is_peaked_in
def c_are_peaked_in_1 : M (List D) := nLc [2] (iSeq (eUn (gFld "Book" 0) (eVar 0))) (gSet 2) bYes (eUser F_is_peaked_in (aCons (eVar 1) (aCons (eVar 2) aNil)))
def s_are_peaked_in : SS := (sRet (eCall gAll (aCons (eN c_are_peaked_in_1) aNil)))
def F_are_peaked_in : FD := defF 2 3 s_are_peaked_in
def s_is_axis_paper : SS := (sSeq (sExpr (eUser F_require_book (aCons (eVar 0) aNil)))
    (sSeq (sIf (bOr (bNot (bVal (eUn (gIsi "tuple") (eVar 1)))) (bCmp gNe (eCall gLen (aCons (eVar 1) aNil)) (eC (.int 2))))
    (sRet (eUser F_is_bar_in (aCons (eVar 0) (aCons (eVar 1) aNil))))
    sNil)
    (sRet (eAnd (eBin gEq (eBin gIx (eVar 1) (eC (.int 0))) (eC (.str "axis"))) (eAnd (eUser F_is_row_of (aCons (eUn (gFld "Book" 1) (eVar 0)) (aCons (eBin gIx (eVar 1) (eC (.int 1))) aNil))) (eUser F_are_peaked_in (aCons (eVar 0) (aCons (eBin gIx (eVar 1) (eC (.int 1))) aNil))))))))
def F_is_axis_paper : FD := defF 2 2 s_is_axis_paper
def xs_is_axis_paper : M Ex := (xUser X_require_book (aCons (eVar 0) aNil))
def X_is_axis_paper : FX := defX 2 2 xs_is_axis_paper
def s_is_bar : SS := (sSeq (sExpr (eUser F_require_book (aCons (eVar 0) aNil)))
    (sRet (eUser F_is_bar_in (aCons (eVar 0) (aCons (eVar 1) aNil)))))
def F_is_bar : FD := defF 2 2 s_is_bar
def xs_is_bar : M Ex := (xUser X_require_book (aCons (eVar 0) aNil))
def X_is_bar : FX := defX 2 2 xs_is_bar
def s_first_three : SS := (sSeq (sExpr (eUser F_require_book (aCons (eVar 0) aNil)))
    (sRet (eUser F_three_in (aCons (eVar 0) aNil))))
def F_first_three : FD := defF 1 1 s_first_three
def xs_first_three : M Ex := (xUser X_require_book (aCons (eVar 0) aNil))
def X_first_three : FX := defX 1 1 xs_first_three
def s_first_four : SS := (sSeq (sExpr (eUser F_require_book (aCons (eVar 0) aNil)))
    (sRet (eUser F_four_in (aCons (eVar 0) aNil))))
def F_first_four : FD := defF 1 1 s_first_four
def xs_first_four : M Ex := (xUser X_require_book (aCons (eVar 0) aNil))
def X_first_four : FX := defX 1 1 xs_first_four
def c_lots_of_1 : M (List D) := nLc [3] (iSeq (eVar 1)) (gSet 3) bYes (eTup (aStar (eVar 3) (aCons (eVar 2) aNil)))
def l_lots_of_2 : SS := sFor (iCall rng1 (aCons (eVar 0) aNil)) (gSet 2)
    (sSet 1 (eN (nLst (aStar (eVar 1) (aStar (eN c_lots_of_1) aNil)))))
def s_lots_of : SS := (sSeq (sSet 1 (eN (nLst (aCons (eTup aNil) aNil))))
    (sSeq l_lots_of_2
    (sRet (eVar 1))))
def F_lots_of : FD := defF 1 4 s_lots_of
def c_kept_ballot_1 : M (List D) := nLc [2] (iSeq (eVar 0)) (gSet 2) (bCmp gIn (eVar 2) (eVar 1)) (eIdx (eVar 1) (eVar 2))
def s_kept_ballot : SS := (sRet (eCall gTuple (aCons (eN c_kept_ballot_1) aNil)))
def F_kept_ballot : FD := defF 2 3 s_kept_ballot
def c_kept_in_1 : M (List D) := nLc [2] (iSeq (eUn (gFld "Book" 0) (eVar 0))) (gSet 2) bYes (eUser F_kept_ballot (aCons (eVar 2) (aCons (eVar 1) aNil)))
def s_kept_in : SS := (sRet (eMk "Book" (okMk F_require_size F_are_ballots) (aCons (eCall gLen (aCons (eVar 1) aNil)) (aCons (eCall gTuple (aCons (eN c_kept_in_1) aNil)) aNil))))
def F_kept_in : FD := defF 2 3 s_kept_in
def c_is_less_1 : M (List D) := nLc [2] (iSeq (eVar 0)) (gSet 2) bYes (eBin gIn (eVar 2) (eVar 1))
def s_is_less : SS := (sRet (eAnd (eBin gLtA (eCall gLen (aCons (eVar 0) aNil)) (eCall gLen (aCons (eVar 1) aNil))) (eCall gAll (aCons (eN c_is_less_1) aNil))))
def F_is_less : FD := defF 2 3 s_is_less
def c_least_without_1 : M (List D) := nLc [3] (iSeq (eVar 1)) (gSet 3) bYes (eUser F_is_less (aCons (eVar 3) (aCons (eVar 2) aNil)))
def c_least_without_2 : M (List D) := nLc [2] (iSeq (eVar 1)) (gSet 2) (bNot (bVal (eCall gAny (aCons (eN c_least_without_1) aNil)))) (eVar 2)
def c_least_without_3 : M (List D) := nLc [2] (iSeq (eUser F_lots_of (aCons (eUn (gFld "Book" 1) (eVar 0)) aNil))) (gSet 2) (bAnd (bCmp gIn (eCall gLen (aCons (eVar 2) aNil)) (eTup (aCons (eC (.int 3)) (aCons (eC (.int 4)) aNil)))) (bCmp gNotN (eUser F_bar_in (aCons (eUser F_kept_in (aCons (eVar 0) (aCons (eVar 2) aNil))) aNil)) (eC .non))) (eVar 2)
def s_least_without : SS := (sSeq (sExpr (eUser F_require_book (aCons (eVar 0) aNil)))
    (sSeq (sSet 1 (eN c_least_without_3))
    (sRet (eCall gTuple (aCons (eN (nCall gSortedA (aCons (eN c_least_without_2) aNil))) aNil)))))
def F_least_without : FD := defF 1 4 s_least_without
def xs_least_without : M Ex := (xUser X_require_book (aCons (eVar 0) aNil))
def X_least_without : FX := defX 1 4 xs_least_without
def m__law_firsts_1 : ES := eMet (eUser F_least_without (aCons (eVar 0) aNil)) (xUser X_least_without (aCons (eVar 0) aNil)) (fineC (.str "fine")) hk__law_met
def m__law_firsts_2 : ES := eMet (eUser F_first_four (aCons (eVar 0) aNil)) (xUser X_first_four (aCons (eVar 0) aNil)) (fineC (.str "fine")) hk__law_met
def m__law_firsts_3 : ES := eMet (eUser F_first_three (aCons (eVar 0) aNil)) (xUser X_first_three (aCons (eVar 0) aNil)) (fineC (.str "fine")) hk__law_met
def m__law_firsts_4 : ES := eMet (eUser F_is_bar (aCons (eVar 0) (aCons (eC .non) aNil))) (xUser X_is_bar (aCons (eVar 0) (aCons (eC .non) aNil))) (fineC (.str "fine")) hk__law_met
def m__law_firsts_5 : ES := eMet (eUser F_is_axis_paper (aCons (eVar 0) (aCons (eC .non) aNil))) (xUser X_is_axis_paper (aCons (eVar 0) (aCons (eC .non) aNil))) (fineC (.str "fine")) hk__law_met
def m__law_firsts_6 : ES := eMet (eUser F_axis_paper (aCons (eVar 0) aNil)) (xUser X_axis_paper (aCons (eVar 0) aNil)) (fineC (.str "fine")) hk__law_met
def m__law_firsts_7 : ES := eMet (eUser F_has_axis (aCons (eVar 0) aNil)) (xUser X_has_axis (aCons (eVar 0) aNil)) (fineC (.str "fine")) hk__law_met
def m__law_firsts_8 : ES := eMet (eUser F_lasts (aCons (eVar 0) aNil)) (xUser X_lasts (aCons (eVar 0) aNil)) (fineC (.str "fine")) hk__law_met
def s__law_firsts : SS := (sSeq (sOwn 1 (nLst (aCons m__law_firsts_8 aNil)))
    (sSeq (sExpr (eMt 1 cAppend (aCons m__law_firsts_7 aNil)))
    (sSeq (sExpr (eMt 1 cAppend (aCons m__law_firsts_6 aNil)))
    (sSeq (sExpr (eMt 1 cAppend (aCons m__law_firsts_5 aNil)))
    (sSeq (sExpr (eMt 1 cAppend (aCons m__law_firsts_4 aNil)))
    (sSeq (sExpr (eMt 1 cAppend (aCons m__law_firsts_3 aNil)))
    (sSeq (sExpr (eMt 1 cAppend (aCons m__law_firsts_2 aNil)))
    (sSeq (sExpr (eMt 1 cAppend (aCons m__law_firsts_1 aNil)))
    (sRet (eVar 1))))))))))
def F__law_firsts : FD := defF 1 2 s__law_firsts
def s_require_lot : SS := (sIf (bOr (bNot (bVal (eUser F_is_lot_of (aCons (eVar 0) (aCons (eVar 1) aNil))))) (bCmp gEq (eVar 1) (eTup aNil)))
    sNever
    sNil)
def F_require_lot : FD := defF 2 2 s_require_lot
def xs_require_lot : M Ex := (xIf (bOr (bNot (bVal (eUser F_is_lot_of (aCons (eVar 0) (aCons (eVar 1) aNil))))) (bCmp gEq (eVar 1) (eTup aNil)))
    (xMsg "InvalidLot")
    xNever)
def X_require_lot : FX := defX 2 2 xs_require_lot
def s_require_known_lot : SS := (sSeq (sExpr (eUser F_require_book (aCons (eVar 0) aNil)))
    (sExpr (eUser F_require_lot (aCons (eUn (gFld "Book" 1) (eVar 0)) (aCons (eVar 1) aNil)))))
def F_require_known_lot : FD := defF 2 2 s_require_known_lot
def xs_require_known_lot : M Ex := (xOr (xUser X_require_book (aCons (eVar 0) aNil)) (xThen (sExpr (eUser F_require_book (aCons (eVar 0) aNil)))
    (xUser X_require_lot (aCons (eUn (gFld "Book" 1) (eVar 0)) (aCons (eVar 1) aNil)))))
def X_require_known_lot : FX := defX 2 2 xs_require_known_lot
def s_have_axis : SS := (sSeq (sExpr (eUser F_require_known_lot (aCons (eVar 0) (aCons (eVar 1) aNil))))
    (sRet (eBin gNotN (eUser F_axis_in (aCons (eUser F_kept_in (aCons (eVar 0) (aCons (eVar 1) aNil))) aNil)) (eC .non))))
def F_have_axis : FD := defF 2 2 s_have_axis
def xs_have_axis : M Ex := (xOr (xUser X_require_known_lot (aCons (eVar 0) (aCons (eVar 1) aNil))) (xThen (sExpr (eUser F_require_known_lot (aCons (eVar 0) (aCons (eVar 1) aNil))))
    (xUser X_axis_in (aCons (eUser F_kept_in (aCons (eVar 0) (aCons (eVar 1) aNil))) aNil))))
def X_have_axis : FX := defX 2 2 xs_have_axis
def c_named_by_1 : M (List D) := nLc [5] (iSeq (eVar 3)) (gSet 5) bYes (eBin gIx (eVar 0) (eVar 5))
def s_named_by : SS := (sSeq (sIf (bCmp gIsN (eVar 1) (eC .non))
    (sRet (eC .non))
    sNil)
    (sSeq (sAsg (eVar 1) (gTupD 3 (gsCons (gSet 2) (gsCons (gSet 3) (gsCons (gSet 4) gsNil)))))
    (sRet (eTup (aCons (eVar 2) (aCons (eCall gTuple (aCons (eN c_named_by_1) aNil)) (aCons (eVar 4) aNil)))))))
def F_named_by : FD := defF 2 6 s_named_by
def s_bar_within : SS := (sSeq (sExpr (eUser F_require_known_lot (aCons (eVar 0) (aCons (eVar 1) aNil))))
    (sRet (eUser F_named_by (aCons (eVar 1) (aCons (eUser F_bar_in (aCons (eUser F_kept_in (aCons (eVar 0) (aCons (eVar 1) aNil))) aNil)) aNil)))))
def F_bar_within : FD := defF 2 2 s_bar_within
def xs_bar_within : M Ex := (xUser X_require_known_lot (aCons (eVar 0) (aCons (eVar 1) aNil)))
def X_bar_within : FX := defX 2 2 xs_bar_within
def s_require_row : SS := (sSeq (sExpr (eUser F_require_book (aCons (eVar 0) aNil)))
    (sIf (bOr (bNot (bVal (eUn (gIsi "tuple") (eVar 1)))) (bNot (bVal (eUser F_are_options (aCons (eUn (gFld "Book" 1) (eVar 0)) (aCons (eVar 1) (aCons (eCall gLen (aCons (eVar 1) aNil)) aNil)))))))
    sNever
    sNil))
def F_require_row : FD := defF 2 2 s_require_row
def xs_require_row : M Ex := (xOr (xUser X_require_book (aCons (eVar 0) aNil)) (xThen (sExpr (eUser F_require_book (aCons (eVar 0) aNil)))
    (xIf (bOr (bNot (bVal (eUn (gIsi "tuple") (eVar 1)))) (bNot (bVal (eUser F_are_options (aCons (eUn (gFld "Book" 1) (eVar 0)) (aCons (eVar 1) (aCons (eCall gLen (aCons (eVar 1) aNil)) aNil)))))))
    (xMsg "InvalidAxis")
    xNever)))
def X_require_row : FX := defX 2 2 xs_require_row
def s_does_begin : SS := (sSeq (sExpr (eUser F_require_row (aCons (eVar 0) (aCons (eVar 1) aNil))))
    (sRet (eBin gNotN (eUser F_axis_behind (aCons (eUn (gFld "Book" 1) (eVar 0)) (aCons (eUser F_lasts_of (aCons (eVar 0) aNil)) (aCons (eVar 1) (aCons (eC .non) aNil))))) (eC .non))))
def F_does_begin : FD := defF 2 2 s_does_begin
def xs_does_begin : M Ex := (xOr (xUser X_require_row (aCons (eVar 0) (aCons (eVar 1) aNil))) (xThen (sExpr (eUser F_require_row (aCons (eVar 0) (aCons (eVar 1) aNil))))
    (xUser X_axis_behind (aCons (eUn (gFld "Book" 1) (eVar 0)) (aCons (eUser F_lasts_of (aCons (eVar 0) aNil)) (aCons (eVar 1) (aCons (eC .non) aNil)))))))
def X_does_begin : FX := defX 2 2 xs_does_begin
def s_axis_from : SS := (sSeq (sExpr (eUser F_require_row (aCons (eVar 0) (aCons (eVar 1) aNil))))
    (sRet (eUser F_axis_behind (aCons (eUn (gFld "Book" 1) (eVar 0)) (aCons (eUser F_lasts_of (aCons (eVar 0) aNil)) (aCons (eVar 1) (aCons (eC .non) aNil)))))))
def F_axis_from : FD := defF 2 2 s_axis_from
def xs_axis_from : M Ex := (xOr (xUser X_require_row (aCons (eVar 0) (aCons (eVar 1) aNil))) (xThen (sExpr (eUser F_require_row (aCons (eVar 0) (aCons (eVar 1) aNil))))
    (xUser X_axis_behind (aCons (eUn (gFld "Book" 1) (eVar 0)) (aCons (eUser F_lasts_of (aCons (eVar 0) aNil)) (aCons (eVar 1) (aCons (eC .non) aNil)))))))
def X_axis_from : FX := defX 2 2 xs_axis_from
def m__law_seconds_1 : ES := eMet (eUser F_axis_from (aCons (eVar 0) (aCons (eVar 2) aNil))) (xUser X_axis_from (aCons (eVar 0) (aCons (eVar 2) aNil))) (fineC (.str "fine")) hk__law_met
def m__law_seconds_2 : ES := eMet (eUser F_does_begin (aCons (eVar 0) (aCons (eVar 2) aNil))) (xUser X_does_begin (aCons (eVar 0) (aCons (eVar 2) aNil))) (fineC (.str "fine")) hk__law_met
def m__law_seconds_3 : ES := eMet (eUser F_bar_within (aCons (eVar 0) (aCons (eVar 1) aNil))) (xUser X_bar_within (aCons (eVar 0) (aCons (eVar 1) aNil))) (fineC (.str "fine")) hk__law_met
def m__law_seconds_4 : ES := eMet (eUser F_have_axis (aCons (eVar 0) (aCons (eVar 1) aNil))) (xUser X_have_axis (aCons (eVar 0) (aCons (eVar 1) aNil))) (fineC (.str "fine")) hk__law_met
def s__law_seconds : SS := (sSeq (sOwn 3 (nLst (aCons m__law_seconds_4 aNil)))
    (sSeq (sExpr (eMt 3 cAppend (aCons m__law_seconds_3 aNil)))
    (sSeq (sExpr (eMt 3 cAppend (aCons m__law_seconds_2 aNil)))
    (sSeq (sExpr (eMt 3 cAppend (aCons m__law_seconds_1 aNil)))
    (sRet (eVar 3))))))
def F__law_seconds : FD := defF 3 4 s__law_seconds
def s_require_option : SS := (sIf (bNot (bVal (eUser F_is_option (aCons (eVar 0) (aCons (eVar 1) aNil)))))
    sNever
    sNil)
def F_require_option : FD := defF 2 2 s_require_option
def xs_require_option : M Ex := (xIf (bNot (bVal (eUser F_is_option (aCons (eVar 0) (aCons (eVar 1) aNil)))))
    (xNew "InvalidNumber" "given" (eVar 1))
    xNever)
def X_require_option : FX := defX 2 2 xs_require_option
def l_can_be_ends_1 : SS := sFor (iSeq (eTup (aCons (eVar 1) (aCons (eVar 2) aNil)))) (gSet 3)
    (sExpr (eUser F_require_option (aCons (eUn (gFld "Book" 1) (eVar 0)) (aCons (eVar 3) aNil))))
def s_can_be_ends : SS := (sSeq (sExpr (eUser F_require_book (aCons (eVar 0) aNil)))
    (sSeq l_can_be_ends_1
    (sSeq (sIf (bCmp gEq (eVar 1) (eVar 2))
    sNever
    sNil)
    (sRet (eBin gNotN (eUser F_axis_behind (aCons (eUn (gFld "Book" 1) (eVar 0)) (aCons (eUser F_lasts_of (aCons (eVar 0) aNil)) (aCons (eTup (aCons (eVar 1) aNil)) (aCons (eVar 2) aNil))))) (eC .non))))))
def F_can_be_ends : FD := defF 3 4 s_can_be_ends
def xs_can_be_ends : M Ex := (xOr (xUser X_require_book (aCons (eVar 0) aNil)) (xThen (sExpr (eUser F_require_book (aCons (eVar 0) aNil)))
    (xOr (xFor (iSeq (eTup (aCons (eVar 1) (aCons (eVar 2) aNil)))) (gSet 3)
    (sExpr (eUser F_require_option (aCons (eUn (gFld "Book" 1) (eVar 0)) (aCons (eVar 3) aNil))))
    (xUser X_require_option (aCons (eUn (gFld "Book" 1) (eVar 0)) (aCons (eVar 3) aNil)))) (xThen l_can_be_ends_1
    (xOr (xIf (bCmp gEq (eVar 1) (eVar 2))
    (xMsg "InvalidOperation")
    xNever) (xThen (sIf (bCmp gEq (eVar 1) (eVar 2))
    sNever
    sNil)
    (xUser X_axis_behind (aCons (eUn (gFld "Book" 1) (eVar 0)) (aCons (eUser F_lasts_of (aCons (eVar 0) aNil)) (aCons (eTup (aCons (eVar 1) aNil)) (aCons (eVar 2) aNil)))))))))))
def X_can_be_ends : FX := defX 3 4 xs_can_be_ends
def m__law_right_1 : ES := eMet (eUser F_can_be_ends (aCons (eVar 1) (aCons (eC (.int 2)) (aCons (eC (.int 0)) aNil)))) (xUser X_can_be_ends (aCons (eVar 1) (aCons (eC (.int 2)) (aCons (eC (.int 0)) aNil)))) (fineC (.str "fine")) hk__law_met
def m__law_right_2 : ES := eMet (eUser F_can_be_ends (aCons (eVar 1) (aCons (eC (.int 2)) (aCons (eC (.int 2)) aNil)))) (xUser X_can_be_ends (aCons (eVar 1) (aCons (eC (.int 2)) (aCons (eC (.int 2)) aNil)))) (fineC (.str "fine")) hk__law_met
def m__law_right_3 : ES := eMet (eUser F_can_be_ends (aCons (eVar 1) (aCons (eC (.int 0)) (aCons (eVar 6) aNil)))) (xUser X_can_be_ends (aCons (eVar 1) (aCons (eC (.int 0)) (aCons (eVar 6) aNil)))) (fineC (.str "fine")) hk__law_met
def m__law_right_4 : ES := eMet (eUser F_can_be_ends (aCons (eVar 1) (aCons (eVar 5) (aCons (eVar 6) aNil)))) (xUser X_can_be_ends (aCons (eVar 1) (aCons (eVar 5) (aCons (eVar 6) aNil)))) (fineC (.str "fine")) hk__law_met
def m__law_right_5 : ES := eMet (eUser F_can_be_ends (aCons (eVar 2) (aCons (eVar 5) (aCons (eVar 6) aNil)))) (xUser X_can_be_ends (aCons (eVar 2) (aCons (eVar 5) (aCons (eVar 6) aNil)))) (fineC (.str "fine")) hk__law_met
def s__law_right : SS := (sSeq (sSet 1 (eMk "Book" (okMk F_require_size F_are_ballots) (aCons (eC (.int 4)) (aCons (eTup (aCons (eTup (aCons (eC (.int 0)) (aCons (eC (.int 1)) (aCons (eC (.int 2)) (aCons (eC (.int 3)) aNil))))) (aCons (eTup (aCons (eC (.int 1)) (aCons (eC (.int 0)) (aCons (eC (.int 3)) (aCons (eC (.int 2)) aNil))))) aNil))) aNil))))
    (sSeq (sSet 2 (eUser F__law_one_of (aCons (eVar 0) (aCons (eN (nLst (aCons (eC .non) (aCons (eC (.int 0)) (aCons (eC (.str "book")) (aCons (eTup (aCons (eC (.int 4)) (aCons (eTup aNil) aNil))) (aCons (eN (nLst aNil)) (aCons eDict0 aNil)))))))) aNil))))
    (sSeq (sSet 3 (eUser F__law_one_of (aCons (eVar 0) (aCons (eN (nLst (aCons (eC .non) (aCons (eTup aNil) (aCons (eN (nLst (aCons (eC (.int 0)) aNil))) (aCons (eTup (aCons (eC (.int 4)) aNil)) (aCons (eTup (aCons (eC (.int 1)) (aCons (eC (.int 0)) aNil))) (aCons (eTup (aCons (eC (.int 0)) (aCons (eC (.int 0)) aNil))) (aCons (eTup (aCons (eC (.bl true)) aNil)) (aCons (eTup (aCons (eC (.str "0")) aNil)) (aCons (eTup (aCons (eUn gNeg (eC (.int 1))) aNil)) (aCons (eC (.int 0)) aNil)))))))))))) aNil))))
    (sSeq (sSet 4 (eUser F__law_one_of (aCons (eVar 0) (aCons (eN (nLst (aCons (eC .non) (aCons (eN (nLst (aCons (eC (.int 0)) aNil))) (aCons (eTup (aCons (eC (.int 4)) aNil)) (aCons (eTup (aCons (eC (.int 0)) (aCons (eC (.int 0)) aNil))) (aCons (eTup (aCons (eC (.bl true)) aNil)) (aCons (eTup (aCons (eC (.str "0")) aNil)) (aCons (eTup (aCons (eUn gNeg (eC (.int 1))) aNil)) (aCons (eC (.int 0)) (aCons (eTup (aCons (eC (.int 0)) (aCons (eC (.int 1)) (aCons (eC (.int 2)) (aCons (eC (.int 3)) (aCons (eC (.int 0)) aNil)))))) (aCons (eTup (aCons (eTup (aCons (eC (.int 0)) aNil)) aNil)) aNil)))))))))))) aNil))))
    (sSeq (sAsg (eTup (aCons (eUser F__law_one_of (aCons (eVar 0) (aCons (eN (nLst (aCons (eC (.int 4)) (aCons (eUn gNeg (eC (.int 1))) (aCons (eC .non) (aCons (eC (.bl true)) (aCons (eC (.str "0")) (aCons (eBin gPow (eC (.int 10)) (eC (.int 60))) aNil)))))))) aNil))) (aCons (eUser F__law_one_of (aCons (eVar 0) (aCons (eN (nLst (aCons (eC (.int 5)) (aCons (eUn gNeg (eC (.int 2))) (aCons (eC (.bl false)) (aCons (eTup (aCons (eC (.int 0)) aNil)) (aCons (eC (.str "1")) aNil))))))) aNil))) aNil))) (gTupD 2 (gsCons (gSet 5) (gsCons (gSet 6) gsNil))))
    (sSeq (sIf (bOr (bCmp gNe (eUser F__law_firsts (aCons (eVar 2) aNil)) (eN (nRep (nLst (aCons (eC (.str "book")) aNil)) (eC (.int 8))))) (bOr (bCmp gNe (eUser F__law_seconds (aCons (eVar 2) (aCons (eVar 3) (aCons (eVar 4) aNil)))) (eN (nRep (nLst (aCons (eC (.str "book")) aNil)) (eC (.int 4))))) (bCmp gNe (eUser F__law_seconds (aCons (eVar 1) (aCons (eVar 3) (aCons (eVar 4) aNil)))) (eBin gAdd (eN (nRep (nLst (aCons (eC (.str "lot")) aNil)) (eC (.int 2)))) (eN (nRep (nLst (aCons (eC (.str "axis")) aNil)) (eC (.int 2))))))))
    (sRet (eC (.bl false)))
    sNil)
    (sSeq (sIf (bOr (bCmp gNe (eUser F__law_firsts (aCons (eVar 1) aNil)) (eN (nRep (nLst (aCons (eC (.str "fine")) aNil)) (eC (.int 8))))) (bOr (bCmp gNe (eUser F__law_seconds (aCons (eVar 1) (aCons (eTup (aCons (eC (.int 0)) (aCons (eC (.int 3)) aNil))) (aCons (eTup aNil) aNil)))) (eN (nRep (nLst (aCons (eC (.str "fine")) aNil)) (eC (.int 4))))) (bCmp gNe (eUser F__law_seconds (aCons (eVar 1) (aCons (eTup (aCons (eC (.int 2)) aNil)) (aCons (eTup (aCons (eC (.int 3)) (aCons (eC (.int 1)) (aCons (eC (.int 0)) (aCons (eC (.int 2)) aNil))))) aNil)))) (eN (nRep (nLst (aCons (eC (.str "fine")) aNil)) (eC (.int 4)))))))
    (sRet (eC (.bl false)))
    sNil)
    (sSeq (sOwn 7 (nLst (aCons m__law_right_5 aNil)))
    (sSeq (sExpr (eMt 7 cAppend (aCons m__law_right_4 aNil)))
    (sSeq (sExpr (eMt 7 cAppend (aCons m__law_right_3 aNil)))
    (sSeq (sExpr (eMt 7 cAppend (aCons m__law_right_2 aNil)))
    (sSeq (sExpr (eMt 7 cAppend (aCons m__law_right_1 aNil)))
    (sRet (eBin gEq (eVar 7) (eN (nLst (aCons (eC (.str "book")) (aCons (eBin gAdd (eC (.str "number ")) (eCall gRepr (aCons (eVar 5) aNil))) (aCons (eBin gAdd (eC (.str "number ")) (eCall gRepr (aCons (eVar 6) aNil))) (aCons (eC (.str "operation")) (aCons (eC (.str "fine")) aNil)))))))))))))))))))))
def F__law_right : FD := defF 1 8 s__law_right
def c_law_1 : M (List D) := nLc [6] (iSeq (eVar 4)) (gSet 6) (bOr (bCmp gNotB (eUser F_is_axis_paper (aCons (eVar 3) (aCons (eVar 6) aNil))) (eC (.bl false))) (bCmp gNotB (eUser F_is_bar (aCons (eVar 3) (aCons (eVar 6) aNil))) (eC (.bl false)))) (eVar 6)
def c_law_2 : M (List D) := nLc [5] (iCall rng1 (aCons (eC (.int 4)) aNil)) (gSet 5) (bNot (bVal (eUser F__law_right (aCons (eVar 2) aNil)))) (eC (.int 1))
def l_law_3 : SS := sFor (iCall rng1 (aCons (eCall gMax2 (aCons (eC (.int 1)) (aCons (eCall gMin2 (aCons (eC (.int 4)) (aCons (eCall gLen (aCons (eVar 0) aNil)) aNil))) aNil))) aNil)) (gSet 1)
    (sSeq (sOwn 2 (nUser F__law_bag (aCons (eVar 0) (aCons (eVar 1) aNil))))
    (sIf (bCmp gNe (eN c_law_2) (eN (nLst aNil)))
    (sRet (eC (.bl false)))
    sNil))
def s_law : SS := (sSeq l_law_3
    (sSeq (sSet 3 (eMk "Book" (okMk F_require_size F_are_ballots) (aCons (eC (.int 3)) (aCons (eTup (aCons (eTup (aCons (eC (.int 0)) (aCons (eC (.int 1)) (aCons (eC (.int 2)) aNil)))) (aCons (eTup (aCons (eC (.int 1)) (aCons (eC (.int 2)) (aCons (eC (.int 0)) aNil)))) aNil))) aNil))))
    (sSeq (sSet 4 (eN (nLst (aCons (eC .non) (aCons (eC (.int 0)) (aCons (eTup aNil) (aCons (eN (nLst aNil)) (aCons eDict0 (aCons (eC (.str "axis")) (aCons (eTup (aCons (eC (.str "axis")) aNil)) (aCons (eTup (aCons (eC (.str "axis")) (aCons (eTup aNil) aNil))) (aCons (eTup (aCons (eC (.str "axis")) (aCons (eC .non) aNil))) (aCons (eTup (aCons (eC (.str "axis")) (aCons (eTup (aCons (eC (.int 0)) (aCons (eC (.int 1)) aNil))) aNil))) (aCons (eTup (aCons (eC (.str "axis")) (aCons (eTup (aCons (eC (.int 0)) (aCons (eC (.int 1)) (aCons (eC (.int 1)) aNil)))) aNil))) (aCons (eTup (aCons (eC (.str "axis")) (aCons (eTup (aCons (eC (.int 0)) (aCons (eC (.int 1)) (aCons (eC (.int 3)) aNil)))) aNil))) (aCons (eTup (aCons (eC (.str "axis")) (aCons (eTup (aCons (eC (.int 0)) (aCons (eC (.int 1)) (aCons (eC (.int 2)) aNil)))) (aCons (eC (.int 0)) aNil)))) aNil))))))))))))))))
    (sSeq (sSet 4 (eBin gAdd (eVar 4) (eN (nLst (aCons (eTup (aCons (eC (.str "three")) (aCons (eTup (aCons (eC (.int 0)) (aCons (eC (.int 1)) (aCons (eC (.int 2)) aNil)))) aNil))) (aCons (eTup (aCons (eC (.str "three")) (aCons (eTup (aCons (eC (.int 0)) (aCons (eC (.int 1)) (aCons (eC (.int 2)) aNil)))) (aCons (eTup aNil) aNil)))) (aCons (eTup (aCons (eC (.str "three")) (aCons (eC .non) (aCons (eC .non) aNil)))) (aCons (eTup (aCons (eC (.str "four")) (aCons (eTup (aCons (eC (.int 0)) (aCons (eC (.int 1)) (aCons (eC (.int 2)) aNil)))) (aCons (eTup (aCons (eC (.int 0)) (aCons (eC (.int 1)) aNil))) aNil)))) (aCons (eTup (aCons (eC .non) (aCons (eTup (aCons (eC (.int 0)) (aCons (eC (.int 1)) (aCons (eC (.int 2)) aNil)))) aNil))) (aCons (eTup (aCons (eC (.str "three")) (aCons (eTup (aCons (eC (.int 0)) (aCons (eC (.int 1)) (aCons (eC (.int 2)) aNil)))) (aCons (eTup (aCons (eC (.int 1)) (aCons (eC (.int 0)) (aCons (eC (.int 5)) aNil)))) aNil)))) aNil))))))))))
    (sRet (eBin gEq (eN c_law_1) (eN (nLst aNil))))))))
def F_law : FD := defF 1 7 s_law
structure W (K : PySem.W.Frag) (mg : Str → Option Value) where
  f_is_whole : Addr
  d_is_whole : FuncData
  F_is_whole : FnP K "is_whole" st_is_whole f_is_whole d_is_whole
  g_is_whole : mg "is_whole" = some (.ref f_is_whole)
  f_is_within : Addr
  d_is_within : FuncData
  F_is_within : FnP K "is_within" st_is_within f_is_within d_is_within
  g_is_within : mg "is_within" = some (.ref f_is_within)
  f_require_size : Addr
  d_require_size : FuncData
  F_require_size : FnP K "require_size" st_require_size f_require_size d_require_size
  g_require_size : mg "require_size" = some (.ref f_require_size)
  f_is_option : Addr
  d_is_option : FuncData
  F_is_option : FnP K "is_option" st_is_option f_is_option d_is_option
  g_is_option : mg "is_option" = some (.ref f_is_option)
  f_is_row_of : Addr
  d_is_row_of : FuncData
  F_is_row_of : FnP K "is_row_of" st_is_row_of f_is_row_of d_is_row_of
  g_is_row_of : mg "is_row_of" = some (.ref f_is_row_of)
  f_are_ballots : Addr
  d_are_ballots : FuncData
  F_are_ballots : FnP K "are_ballots" st_are_ballots f_are_ballots d_are_ballots
  g_are_ballots : mg "are_ballots" = some (.ref f_are_ballots)
  f__law_bag : Addr
  d__law_bag : FuncData
  F__law_bag : FnP K "_law_bag" st__law_bag f__law_bag d__law_bag
  g__law_bag : mg "_law_bag" = some (.ref f__law_bag)
  f__law_draw : Addr
  d__law_draw : FuncData
  F__law_draw : FnP K "_law_draw" st__law_draw f__law_draw d__law_draw
  g__law_draw : mg "_law_draw" = some (.ref f__law_draw)
  f__law_one_of : Addr
  d__law_one_of : FuncData
  F__law_one_of : FnP K "_law_one_of" st__law_one_of f__law_one_of d__law_one_of
  g__law_one_of : mg "_law_one_of" = some (.ref f__law_one_of)
  f_require_book : Addr
  d_require_book : FuncData
  F_require_book : FnP K "require_book" st_require_book f_require_book d_require_book
  g_require_book : mg "require_book" = some (.ref f_require_book)
  f_lasts : Addr
  d_lasts : FuncData
  F_lasts : FnP K "lasts" st_lasts f_lasts d_lasts
  g_lasts : mg "lasts" = some (.ref f_lasts)
  f_can_stand : Addr
  d_can_stand : FuncData
  F_can_stand : FnP K "can_stand" st_can_stand f_can_stand d_can_stand
  g_can_stand : mg "can_stand" = some (.ref f_can_stand)
  f_is_begun : Addr
  d_is_begun : FuncData
  F_is_begun : FnP K "is_begun" st_is_begun f_is_begun d_is_begun
  g_is_begun : mg "is_begun" = some (.ref f_is_begun)
  f_axis_behind : Addr
  d_axis_behind : FuncData
  F_axis_behind : FnP K "axis_behind" st_axis_behind f_axis_behind d_axis_behind
  g_axis_behind : mg "axis_behind" = some (.ref f_axis_behind)
  f_places_in : Addr
  d_places_in : FuncData
  F_places_in : FnP K "places_in" st_places_in f_places_in d_places_in
  g_places_in : mg "places_in" = some (.ref f_places_in)
  f_is_last_somewhere : Addr
  d_is_last_somewhere : FuncData
  F_is_last_somewhere : FnP K "is_last_somewhere" st_is_last_somewhere f_is_last_somewhere d_is_last_somewhere
  g_is_last_somewhere : mg "is_last_somewhere" = some (.ref f_is_last_somewhere)
  f_lasts_of : Addr
  d_lasts_of : FuncData
  F_lasts_of : FnP K "lasts_of" st_lasts_of f_lasts_of d_lasts_of
  g_lasts_of : mg "lasts_of" = some (.ref f_lasts_of)
  f_axis_in : Addr
  d_axis_in : FuncData
  F_axis_in : FnP K "axis_in" st_axis_in f_axis_in d_axis_in
  g_axis_in : mg "axis_in" = some (.ref f_axis_in)
  f_has_axis : Addr
  d_has_axis : FuncData
  F_has_axis : FnP K "has_axis" st_has_axis f_has_axis d_has_axis
  g_has_axis : mg "has_axis" = some (.ref f_has_axis)
  f_first_last : Addr
  d_first_last : FuncData
  F_first_last : FnP K "first_last" st_first_last f_first_last d_first_last
  g_first_last : mg "first_last" = some (.ref f_first_last)
  f_three_in : Addr
  d_three_in : FuncData
  F_three_in : FnP K "three_in" st_three_in f_three_in d_three_in
  g_three_in : mg "three_in" = some (.ref f_three_in)
  f_is_bent : Addr
  d_is_bent : FuncData
  F_is_bent : FnP K "is_bent" st_is_bent f_is_bent d_is_bent
  g_is_bent : mg "is_bent" = some (.ref f_is_bent)
  f_four_with : Addr
  d_four_with : FuncData
  F_four_with : FnP K "four_with" st_four_with f_four_with d_four_with
  g_four_with : mg "four_with" = some (.ref f_four_with)
  f_four_in : Addr
  d_four_in : FuncData
  F_four_in : FnP K "four_in" st_four_in f_four_in d_four_in
  g_four_in : mg "four_in" = some (.ref f_four_in)
  f_bar_in : Addr
  d_bar_in : FuncData
  F_bar_in : FnP K "bar_in" st_bar_in f_bar_in d_bar_in
  g_bar_in : mg "bar_in" = some (.ref f_bar_in)
  f_paper_in : Addr
  d_paper_in : FuncData
  F_paper_in : FnP K "paper_in" st_paper_in f_paper_in d_paper_in
  g_paper_in : mg "paper_in" = some (.ref f_paper_in)
  f_axis_paper : Addr
  d_axis_paper : FuncData
  F_axis_paper : FnP K "axis_paper" st_axis_paper f_axis_paper d_axis_paper
  g_axis_paper : mg "axis_paper" = some (.ref f_axis_paper)
  f_are_indices : Addr
  d_are_indices : FuncData
  F_are_indices : FnP K "are_indices" st_are_indices f_are_indices d_are_indices
  g_are_indices : mg "are_indices" = some (.ref f_are_indices)
  f_are_options : Addr
  d_are_options : FuncData
  F_are_options : FnP K "are_options" st_are_options f_are_options d_are_options
  g_are_options : mg "are_options" = some (.ref f_are_options)
  f_is_lot_of : Addr
  d_is_lot_of : FuncData
  F_is_lot_of : FnP K "is_lot_of" st_is_lot_of f_is_lot_of d_is_lot_of
  g_is_lot_of : mg "is_lot_of" = some (.ref f_is_lot_of)
  f_is_three_bar : Addr
  d_is_three_bar : FuncData
  F_is_three_bar : FnP K "is_three_bar" st_is_three_bar f_is_three_bar d_is_three_bar
  g_is_three_bar : mg "is_three_bar" = some (.ref f_is_three_bar)
  f_is_four_bar : Addr
  d_is_four_bar : FuncData
  F_is_four_bar : FnP K "is_four_bar" st_is_four_bar f_is_four_bar d_is_four_bar
  g_is_four_bar : mg "is_four_bar" = some (.ref f_is_four_bar)
  f_is_bar_in : Addr
  d_is_bar_in : FuncData
  F_is_bar_in : FnP K "is_bar_in" st_is_bar_in f_is_bar_in d_is_bar_in
  g_is_bar_in : mg "is_bar_in" = some (.ref f_is_bar_in)
  f_is_peaked_in : Addr
  d_is_peaked_in : FuncData
  F_is_peaked_in : FnP K "is_peaked_in" st_is_peaked_in f_is_peaked_in d_is_peaked_in
  g_is_peaked_in : mg "is_peaked_in" = some (.ref f_is_peaked_in)
  f_are_peaked_in : Addr
  d_are_peaked_in : FuncData
  F_are_peaked_in : FnP K "are_peaked_in" st_are_peaked_in f_are_peaked_in d_are_peaked_in
  g_are_peaked_in : mg "are_peaked_in" = some (.ref f_are_peaked_in)
  f_is_axis_paper : Addr
  d_is_axis_paper : FuncData
  F_is_axis_paper : FnP K "is_axis_paper" st_is_axis_paper f_is_axis_paper d_is_axis_paper
  g_is_axis_paper : mg "is_axis_paper" = some (.ref f_is_axis_paper)
  f_is_bar : Addr
  d_is_bar : FuncData
  F_is_bar : FnP K "is_bar" st_is_bar f_is_bar d_is_bar
  g_is_bar : mg "is_bar" = some (.ref f_is_bar)
  f_first_three : Addr
  d_first_three : FuncData
  F_first_three : FnP K "first_three" st_first_three f_first_three d_first_three
  g_first_three : mg "first_three" = some (.ref f_first_three)
  f_first_four : Addr
  d_first_four : FuncData
  F_first_four : FnP K "first_four" st_first_four f_first_four d_first_four
  g_first_four : mg "first_four" = some (.ref f_first_four)
  f_lots_of : Addr
  d_lots_of : FuncData
  F_lots_of : FnP K "lots_of" st_lots_of f_lots_of d_lots_of
  g_lots_of : mg "lots_of" = some (.ref f_lots_of)
  f_kept_ballot : Addr
  d_kept_ballot : FuncData
  F_kept_ballot : FnP K "kept_ballot" st_kept_ballot f_kept_ballot d_kept_ballot
  g_kept_ballot : mg "kept_ballot" = some (.ref f_kept_ballot)
  f_kept_in : Addr
  d_kept_in : FuncData
  F_kept_in : FnP K "kept_in" st_kept_in f_kept_in d_kept_in
  g_kept_in : mg "kept_in" = some (.ref f_kept_in)
  f_is_less : Addr
  d_is_less : FuncData
  F_is_less : FnP K "is_less" st_is_less f_is_less d_is_less
  g_is_less : mg "is_less" = some (.ref f_is_less)
  f_least_without : Addr
  d_least_without : FuncData
  F_least_without : FnP K "least_without" st_least_without f_least_without d_least_without
  g_least_without : mg "least_without" = some (.ref f_least_without)
  f__law_firsts : Addr
  d__law_firsts : FuncData
  F__law_firsts : FnP K "_law_firsts" st__law_firsts f__law_firsts d__law_firsts
  g__law_firsts : mg "_law_firsts" = some (.ref f__law_firsts)
  f_require_lot : Addr
  d_require_lot : FuncData
  F_require_lot : FnP K "require_lot" st_require_lot f_require_lot d_require_lot
  g_require_lot : mg "require_lot" = some (.ref f_require_lot)
  f_require_known_lot : Addr
  d_require_known_lot : FuncData
  F_require_known_lot : FnP K "require_known_lot" st_require_known_lot f_require_known_lot d_require_known_lot
  g_require_known_lot : mg "require_known_lot" = some (.ref f_require_known_lot)
  f_have_axis : Addr
  d_have_axis : FuncData
  F_have_axis : FnP K "have_axis" st_have_axis f_have_axis d_have_axis
  g_have_axis : mg "have_axis" = some (.ref f_have_axis)
  f_named_by : Addr
  d_named_by : FuncData
  F_named_by : FnP K "named_by" st_named_by f_named_by d_named_by
  g_named_by : mg "named_by" = some (.ref f_named_by)
  f_bar_within : Addr
  d_bar_within : FuncData
  F_bar_within : FnP K "bar_within" st_bar_within f_bar_within d_bar_within
  g_bar_within : mg "bar_within" = some (.ref f_bar_within)
  f_require_row : Addr
  d_require_row : FuncData
  F_require_row : FnP K "require_row" st_require_row f_require_row d_require_row
  g_require_row : mg "require_row" = some (.ref f_require_row)
  f_does_begin : Addr
  d_does_begin : FuncData
  F_does_begin : FnP K "does_begin" st_does_begin f_does_begin d_does_begin
  g_does_begin : mg "does_begin" = some (.ref f_does_begin)
  f_axis_from : Addr
  d_axis_from : FuncData
  F_axis_from : FnP K "axis_from" st_axis_from f_axis_from d_axis_from
  g_axis_from : mg "axis_from" = some (.ref f_axis_from)
  f__law_seconds : Addr
  d__law_seconds : FuncData
  F__law_seconds : FnP K "_law_seconds" st__law_seconds f__law_seconds d__law_seconds
  g__law_seconds : mg "_law_seconds" = some (.ref f__law_seconds)
  f_require_option : Addr
  d_require_option : FuncData
  F_require_option : FnP K "require_option" st_require_option f_require_option d_require_option
  g_require_option : mg "require_option" = some (.ref f_require_option)
  f_can_be_ends : Addr
  d_can_be_ends : FuncData
  F_can_be_ends : FnP K "can_be_ends" st_can_be_ends f_can_be_ends d_can_be_ends
  g_can_be_ends : mg "can_be_ends" = some (.ref f_can_be_ends)
  f__law_right : Addr
  d__law_right : FuncData
  F__law_right : FnP K "_law_right" st__law_right f__law_right d__law_right
  g__law_right : mg "_law_right" = some (.ref f__law_right)
  f_law : Addr
  d_law : FuncData
  F_law : FnP K "law" st_law f_law d_law
  g_law : mg "law" = some (.ref f_law)
  f__law_met : Addr
  d__law_met : FuncData
  F__law_met : FnP K "_law_met" st__law_met f__law_met d__law_met
  g__law_met : mg "_law_met" = some (.ref f__law_met)
  n_abs : mg "abs" = none
  n_all : mg "all" = none
  n_any : mg "any" = none
  n_bool : mg "bool" = none
  n_enumerate : mg "enumerate" = none
  n_int : mg "int" = none
  n_isinstance : mg "isinstance" = none
  n_len : mg "len" = none
  n_max : mg "max" = none
  n_min : mg "min" = none
  n_range : mg "range" = none
  n_repr : mg "repr" = none
  n_set : mg "set" = none
  n_sorted : mg "sorted" = none
  n_str : mg "str" = none
  n_tuple : mg "tuple" = none
  n_zip : mg "zip" = none
  c_AXIS : ∃ t, mg "AXIS" = some (.str "axis" t)
  c_FOUR : ∃ t, mg "FOUR" = some (.str "four" t)
  c_GREAT : ∃ t, mg "GREAT" = some (.int 1000000000000000000000000000000000000000000000000000000000000 t)
  c_MAX_BALLOTS : ∃ t, mg "MAX_BALLOTS" = some (.int 40 t)
  c_MAX_OPTIONS : ∃ t, mg "MAX_OPTIONS" = some (.int 9 t)
  c_THREE : ∃ t, mg "THREE" = some (.str "three" t)
  C_InvalidBook : Addr
  k_InvalidBook : mg "InvalidBook" = some (.ref C_InvalidBook)
  msg_InvalidBook : PySem.W.excIn K C_InvalidBook He.veBase "ValueError.__new__" = true ∧ PySem.W.keepIn K (.ref C_InvalidBook) = true ∧ PySem.W.subIn K (.ref C_InvalidBook) (.type "BaseException") = some true ∧ PySem.W.typeIn K (.ref C_InvalidBook) = some (.type "type")
  C_InvalidLot : Addr
  k_InvalidLot : mg "InvalidLot" = some (.ref C_InvalidLot)
  msg_InvalidLot : PySem.W.excIn K C_InvalidLot He.veBase "ValueError.__new__" = true ∧ PySem.W.keepIn K (.ref C_InvalidLot) = true ∧ PySem.W.subIn K (.ref C_InvalidLot) (.type "BaseException") = some true ∧ PySem.W.typeIn K (.ref C_InvalidLot) = some (.type "type")
  C_InvalidAxis : Addr
  k_InvalidAxis : mg "InvalidAxis" = some (.ref C_InvalidAxis)
  msg_InvalidAxis : PySem.W.excIn K C_InvalidAxis He.veBase "ValueError.__new__" = true ∧ PySem.W.keepIn K (.ref C_InvalidAxis) = true ∧ PySem.W.subIn K (.ref C_InvalidAxis) (.type "BaseException") = some true ∧ PySem.W.typeIn K (.ref C_InvalidAxis) = some (.type "type")
  C_InvalidNumber : Addr
  k_InvalidNumber : mg "InvalidNumber" = some (.ref C_InvalidNumber)
  new_InvalidNumber : NewE PP K mg "InvalidNumber" "given" C_InvalidNumber
  xf_InvalidNumber : XfC K C_InvalidNumber
  no_InvalidNumber : PySem.W.findIn K (.ref C_InvalidNumber) "given" = some none
  C_InvalidOperation : Addr
  k_InvalidOperation : mg "InvalidOperation" = some (.ref C_InvalidOperation)
  msg_InvalidOperation : PySem.W.excIn K C_InvalidOperation He.veBase "ValueError.__new__" = true ∧ PySem.W.keepIn K (.ref C_InvalidOperation) = true ∧ PySem.W.subIn K (.ref C_InvalidOperation) (.type "BaseException") = some true ∧ PySem.W.typeIn K (.ref C_InvalidOperation) = some (.type "type")
  xm_InvalidBook_InvalidBook : PySem.W.exmOne K (.ref C_InvalidBook) (.ref C_InvalidBook) = some true
  xm_InvalidLot_InvalidBook : PySem.W.exmOne K (.ref C_InvalidLot) (.ref C_InvalidBook) = some false
  xm_InvalidAxis_InvalidBook : PySem.W.exmOne K (.ref C_InvalidAxis) (.ref C_InvalidBook) = some false
  xm_InvalidNumber_InvalidBook : PySem.W.exmOne K (.ref C_InvalidNumber) (.ref C_InvalidBook) = some false
  xm_InvalidOperation_InvalidBook : PySem.W.exmOne K (.ref C_InvalidOperation) (.ref C_InvalidBook) = some false
  xm_InvalidBook_InvalidLot : PySem.W.exmOne K (.ref C_InvalidBook) (.ref C_InvalidLot) = some false
  xm_InvalidLot_InvalidLot : PySem.W.exmOne K (.ref C_InvalidLot) (.ref C_InvalidLot) = some true
  xm_InvalidAxis_InvalidLot : PySem.W.exmOne K (.ref C_InvalidAxis) (.ref C_InvalidLot) = some false
  xm_InvalidNumber_InvalidLot : PySem.W.exmOne K (.ref C_InvalidNumber) (.ref C_InvalidLot) = some false
  xm_InvalidOperation_InvalidLot : PySem.W.exmOne K (.ref C_InvalidOperation) (.ref C_InvalidLot) = some false
  xm_InvalidBook_InvalidAxis : PySem.W.exmOne K (.ref C_InvalidBook) (.ref C_InvalidAxis) = some false
  xm_InvalidLot_InvalidAxis : PySem.W.exmOne K (.ref C_InvalidLot) (.ref C_InvalidAxis) = some false
  xm_InvalidAxis_InvalidAxis : PySem.W.exmOne K (.ref C_InvalidAxis) (.ref C_InvalidAxis) = some true
  xm_InvalidNumber_InvalidAxis : PySem.W.exmOne K (.ref C_InvalidNumber) (.ref C_InvalidAxis) = some false
  xm_InvalidOperation_InvalidAxis : PySem.W.exmOne K (.ref C_InvalidOperation) (.ref C_InvalidAxis) = some false
  xm_InvalidBook_InvalidOperation : PySem.W.exmOne K (.ref C_InvalidBook) (.ref C_InvalidOperation) = some false
  xm_InvalidLot_InvalidOperation : PySem.W.exmOne K (.ref C_InvalidLot) (.ref C_InvalidOperation) = some false
  xm_InvalidAxis_InvalidOperation : PySem.W.exmOne K (.ref C_InvalidAxis) (.ref C_InvalidOperation) = some false
  xm_InvalidNumber_InvalidOperation : PySem.W.exmOne K (.ref C_InvalidNumber) (.ref C_InvalidOperation) = some false
  xm_InvalidOperation_InvalidOperation : PySem.W.exmOne K (.ref C_InvalidOperation) (.ref C_InvalidOperation) = some true
  xm_InvalidBook_InvalidNumber : PySem.W.exmOne K (.ref C_InvalidBook) (.ref C_InvalidNumber) = some false
  xm_InvalidLot_InvalidNumber : PySem.W.exmOne K (.ref C_InvalidLot) (.ref C_InvalidNumber) = some false
  xm_InvalidAxis_InvalidNumber : PySem.W.exmOne K (.ref C_InvalidAxis) (.ref C_InvalidNumber) = some false
  xm_InvalidNumber_InvalidNumber : PySem.W.exmOne K (.ref C_InvalidNumber) (.ref C_InvalidNumber) = some true
  xm_InvalidOperation_InvalidNumber : PySem.W.exmOne K (.ref C_InvalidOperation) (.ref C_InvalidNumber) = some false
  c__law_firsts : Addr
  P__law_firsts : Addr
  e__law_firsts : d__law_firsts.code = .ref c__law_firsts
  c__law_seconds : Addr
  P__law_seconds : Addr
  e__law_seconds : d__law_seconds.code = .ref c__law_seconds
  c__law_right : Addr
  P__law_right : Addr
  e__law_right : d__law_right.code = .ref c__law_right
  C_Book : Addr
  k_Book : mg "Book" = some (.ref C_Book)
  q_Book : clsB K C_Book = true
  u0_Book : slotB K C_Book "own_ballots" 0 = true
  u1_Book : slotB K C_Book "own_size" 1 = true
  f_Book__init : Addr
  d_Book__init : FuncData
  F_Book__init : FunD K "__init__" "Book.__init__" (defArgs st_Book__init) (defBody st_Book__init) (defScope st_Book__init) [] [] f_Book__init d_Book__init
  mk_Book : Mk K C_Book f_Book__init
structure TB [Tbl] {K : PySem.W.Frag} {mg : Str → Option Value} (Z : W K mg) (base : Heap) : Prop where
  tb__law_firsts : LamX.TabB base mg Z.c__law_firsts Z.P__law_firsts
  in__law_firsts : (Z.P__law_firsts, (("_law_firsts" : Str) ++ ".<locals>.") ++ "<lambda>") ∈ Tbl.T
  un__law_firsts : ∀ p ∈ Tbl.T, p.1 = Z.P__law_firsts → p.2 = (("_law_firsts" : Str) ++ ".<locals>.") ++ "<lambda>"
  tb__law_seconds : LamX.TabB base mg Z.c__law_seconds Z.P__law_seconds
  in__law_seconds : (Z.P__law_seconds, (("_law_seconds" : Str) ++ ".<locals>.") ++ "<lambda>") ∈ Tbl.T
  un__law_seconds : ∀ p ∈ Tbl.T, p.1 = Z.P__law_seconds → p.2 = (("_law_seconds" : Str) ++ ".<locals>.") ++ "<lambda>"
  tb__law_right : LamX.TabB base mg Z.c__law_right Z.P__law_right
  in__law_right : (Z.P__law_right, (("_law_right" : Str) ++ ".<locals>.") ++ "<lambda>") ∈ Tbl.T
  un__law_right : ∀ p ∈ Tbl.T, p.1 = Z.P__law_right → p.2 = (("_law_right" : Str) ++ ".<locals>.") ++ "<lambda>"
section
open LamX
variable [Tbl] {w : World} {K : PySem.W.Frag} {mg : Str → Option Value} {base : Heap}
theorem al_InvalidBook (Z : W K mg) : AllE K mg Z.C_InvalidBook tb_InvalidBook := .cons Z.k_InvalidBook Z.xm_InvalidBook_InvalidBook (.cons Z.k_InvalidLot Z.xm_InvalidLot_InvalidBook (.cons Z.k_InvalidAxis Z.xm_InvalidAxis_InvalidBook (.cons Z.k_InvalidNumber Z.xm_InvalidNumber_InvalidBook (.cons Z.k_InvalidOperation Z.xm_InvalidOperation_InvalidBook (.nil)))))
theorem al_InvalidLot (Z : W K mg) : AllE K mg Z.C_InvalidLot tb_InvalidLot := .cons Z.k_InvalidBook Z.xm_InvalidBook_InvalidLot (.cons Z.k_InvalidLot Z.xm_InvalidLot_InvalidLot (.cons Z.k_InvalidAxis Z.xm_InvalidAxis_InvalidLot (.cons Z.k_InvalidNumber Z.xm_InvalidNumber_InvalidLot (.cons Z.k_InvalidOperation Z.xm_InvalidOperation_InvalidLot (.nil)))))
theorem al_InvalidAxis (Z : W K mg) : AllE K mg Z.C_InvalidAxis tb_InvalidAxis := .cons Z.k_InvalidBook Z.xm_InvalidBook_InvalidAxis (.cons Z.k_InvalidLot Z.xm_InvalidLot_InvalidAxis (.cons Z.k_InvalidAxis Z.xm_InvalidAxis_InvalidAxis (.cons Z.k_InvalidNumber Z.xm_InvalidNumber_InvalidAxis (.cons Z.k_InvalidOperation Z.xm_InvalidOperation_InvalidAxis (.nil)))))
theorem al_InvalidOperation (Z : W K mg) : AllE K mg Z.C_InvalidOperation tb_InvalidOperation := .cons Z.k_InvalidBook Z.xm_InvalidBook_InvalidOperation (.cons Z.k_InvalidLot Z.xm_InvalidLot_InvalidOperation (.cons Z.k_InvalidAxis Z.xm_InvalidAxis_InvalidOperation (.cons Z.k_InvalidNumber Z.xm_InvalidNumber_InvalidOperation (.cons Z.k_InvalidOperation Z.xm_InvalidOperation_InvalidOperation (.nil)))))
theorem al_InvalidNumber (Z : W K mg) : AllE K mg Z.C_InvalidNumber tb_InvalidNumber := .cons Z.k_InvalidBook Z.xm_InvalidBook_InvalidNumber (.cons Z.k_InvalidLot Z.xm_InvalidLot_InvalidNumber (.cons Z.k_InvalidAxis Z.xm_InvalidAxis_InvalidNumber (.cons Z.k_InvalidNumber Z.xm_InvalidNumber_InvalidNumber (.cons Z.k_InvalidOperation Z.xm_InvalidOperation_InvalidNumber (.nil)))))
theorem sc__law_met : FnScope ["call", "error"] ["call"] (defScope st__law_met) := ⟨rfl, rfl, rfl, by decide +kernel, rfl, by decide +kernel, by decide +kernel⟩
theorem b__law_met (Z : W K mg) : Binds K Z.d__law_met ["call"] [] := Z.F__law_met.bindsN fun _ _ _ _ _ _ us hl => match us, hl with | [_], _ => rfl
def hd__law_met : List ExceptHandler := match defBody st__law_met with
  | .Try _ hs _ _ _ :: _ => hs
  | _ => []
theorem hs__law_met (Z : W K mg) {A : Around} {stk : List Env} {j : Nat} (hr : Room (j + 1) A) (gd : A.guards = some []) (cdv : Value) (s : Shared) (H : Hp) : Hs (cxOf C8.CX0 PP w K mg base ["call", "error"] "_law_met" (defScope st__law_met) Z.f__law_met cdv A stk s H C8.E0) hd__law_met hk__law_met :=
    (hs_plain rfl Z.k_InvalidBook (allE (al_InvalidBook Z)) se_str
    (hs_plain rfl Z.k_InvalidLot (allE (al_InvalidLot Z)) se_str
    (hs_plain rfl Z.k_InvalidAxis (allE (al_InvalidAxis Z)) se_str
    (hs_plain rfl Z.k_InvalidOperation (allE (al_InvalidOperation Z)) se_str
    (hs_named (j := 1) rfl Z.k_InvalidNumber sc__law_met.nd rfl rfl (allE (al_InvalidNumber Z)) (se_bin (fun _ _ _ => od_add) se_str (se_callB (fun _ _ _ => cd_repr gd (show (A.deeper (envOfC "_law_met" (defScope st__law_met) s.heap.objs.size Z.f__law_met cdv)).units + 64 < cLine from ru (hr.deeper _))) rfl Z.n_repr (by decide +kernel) (se_fld Z.xf_InvalidNumber Z.no_InvalidNumber Z.k_InvalidNumber rfl (by first | exact Or.inl rfl | exact Or.inr (Or.inl rfl)))))
    hs_nil)))))
theorem sc_is_whole : FnScope ["value"] ["value"] (defScope st_is_whole) := ⟨rfl, rfl, rfl, by decide +kernel, rfl, by decide +kernel, by decide +kernel⟩
theorem b_is_whole (Z : W K mg) : Binds K Z.d_is_whole ["value"] [] := Z.F_is_whole.bindsN fun _ _ _ _ _ _ us hl => match us, hl with | [_], _ => rfl
theorem ok_is_whole (Z : W K mg) (TT : TB Z base) : FnG PP w K mg base CX0 1 Z.f_is_whole Z.d_is_whole ["value"] (spD ⟨K, mg, PP, w⟩ F_is_whole) :=
  fnG_ok Z.F_is_whole sc_is_whole fun cdv A outer s H E hr gd =>
    (dss_one (ds_ret (de_and (de_isi (by decide) rfl Z.n_isinstance (de_var (pv 0)) rfl Z.n_int (by decide +kernel) (by decide +kernel)) (de_and (de_not (de_isi (by decide) rfl Z.n_isinstance (de_var (pv 0)) rfl Z.n_bool (by decide +kernel) (by decide +kernel))) (de_one (de_chain (od_ltA (ru hr)) (od_ltA (ru hr)) (de_un ud_neg (de_gint rfl Z.c_GREAT)) (de_var (pv 0)) (de_gint rfl Z.c_GREAT)))))))
theorem sc_is_within : FnScope ["value", "low", "high"] ["value", "low", "high"] (defScope st_is_within) := ⟨rfl, rfl, rfl, by decide +kernel, rfl, by decide +kernel, by decide +kernel⟩
theorem b_is_within (Z : W K mg) : Binds K Z.d_is_within ["value", "low", "high"] [] := Z.F_is_within.bindsN fun _ _ _ _ _ _ us hl => match us, hl with | [_, _, _], _ => rfl
theorem ok_is_within (Z : W K mg) (TT : TB Z base) : FnG PP w K mg base CX0 2 Z.f_is_within Z.d_is_within ["value", "low", "high"] (spD ⟨K, mg, PP, w⟩ F_is_within) :=
  fnG_ok Z.F_is_within sc_is_within fun cdv A outer s H E hr gd =>
    (dss_one (ds_ret (de_and (user_call ((ok_is_whole Z TT).up (by decide)) hr gd rfl Z.g_is_whole Z.F_is_whole.kp (b_is_whole Z) (da_cons (de_var (pv 0)) da_nil)) (de_one (de_chain (od_leA (ru hr)) (od_leA (ru hr)) (de_var (pv 1)) (de_var (pv 0)) (de_var (pv 2)))))))
theorem sc_require_size : FnScope ["size"] ["size"] (defScope st_require_size) := ⟨rfl, rfl, rfl, by decide +kernel, rfl, by decide +kernel, by decide +kernel⟩
theorem b_require_size (Z : W K mg) : Binds K Z.d_require_size ["size"] [] := Z.F_require_size.bindsN fun _ _ _ _ _ _ us hl => match us, hl with | [_], _ => rfl
theorem ok_require_size (Z : W K mg) (TT : TB Z base) : FnG PP w K mg base CX0 3 Z.f_require_size Z.d_require_size ["size"] (spD ⟨K, mg, PP, w⟩ F_require_size) :=
  fnG_ok Z.F_require_size sc_require_size fun cdv A outer s H E hr gd =>
    (dss_one (ds_if (dt_not (dt_val (user_call ((ok_is_within Z TT).up (by decide)) hr gd rfl Z.g_is_within Z.F_is_within.kp (b_is_within Z) (da_cons (de_var (pv 0)) (da_cons de_int (da_cons (de_gint rfl Z.c_MAX_OPTIONS) da_nil))))))
    (dss_one ds_never)
    dss_nil))
theorem sc_is_option : FnScope ["size", "value"] ["size", "value"] (defScope st_is_option) := ⟨rfl, rfl, rfl, by decide +kernel, rfl, by decide +kernel, by decide +kernel⟩
theorem b_is_option (Z : W K mg) : Binds K Z.d_is_option ["size", "value"] [] := Z.F_is_option.bindsN fun _ _ _ _ _ _ us hl => match us, hl with | [_, _], _ => rfl
theorem ok_is_option (Z : W K mg) (TT : TB Z base) : FnG PP w K mg base CX0 3 Z.f_is_option Z.d_is_option ["size", "value"] (spD ⟨K, mg, PP, w⟩ F_is_option) :=
  fnG_ok Z.F_is_option sc_is_option fun cdv A outer s H E hr gd =>
    (dss_one (ds_ret (user_call ((ok_is_within Z TT).up (by decide)) hr gd rfl Z.g_is_within Z.F_is_within.kp (b_is_within Z) (da_cons (de_var (pv 1)) (da_cons de_int (da_cons (de_bin od_sub (de_var (pv 0)) de_int) da_nil))))))
theorem sc_is_row_of : FnScope ["size", "value", "one"] ["size", "value"] (defScope st_is_row_of) := ⟨rfl, rfl, rfl, by decide +kernel, rfl, by decide +kernel, by decide +kernel⟩
theorem b_is_row_of (Z : W K mg) : Binds K Z.d_is_row_of ["size", "value"] [] := Z.F_is_row_of.bindsN fun _ _ _ _ _ _ us hl => match us, hl with | [_, _], _ => rfl
theorem ok_is_row_of (Z : W K mg) (TT : TB Z base) : FnG PP w K mg base CX0 4 Z.f_is_row_of Z.d_is_row_of ["size", "value"] (spD ⟨K, mg, PP, w⟩ F_is_row_of) :=
  fnG_ok Z.F_is_row_of sc_is_row_of fun cdv A outer s H E hr gd =>
    (dss_cons (ds_if (dt_w (dw_or (dt_not (dt_val (de_isi (by decide) rfl Z.n_isinstance (de_var (pv 1)) rfl Z.n_tuple (by decide +kernel) (by decide +kernel)))) (dw_or (dt_cmp (od_ne (ru hr)) (de_callB cd_len rfl Z.n_len (by decide +kernel) (da_cons (de_var (pv 1)) da_nil)) (de_var (pv 0)) (nomark _)) (dw_or1 (dt_not (dt_val (de_callB (cd_all rfl) rfl Z.n_all (by decide +kernel) (da_cons (de_n (dn_lc rfl sc_is_row_of.nd (di_seq (de_var (pv 1))) (own := [("one", 2)]) (blkO rfl) (by decide) (fun s H C cl fp => (dg_name (pg_name (i := 2) sc_is_row_of.nd rfl (by first | exact Or.inl rfl | exact Or.inr rfl)))) (fun s H C cl fp => dts_nil) (fun s H C cl fp => (user_call ((ok_is_option Z TT).up (by decide)) hr gd rfl Z.g_is_option Z.F_is_option.kp (b_is_option Z) (da_cons (de_var (pv 0)) (da_cons (de_var (pv 2)) da_nil)))))) da_nil))))))))
    (dss_one (ds_ret de_bl))
    dss_nil)
    (dss_one (ds_ret (de_cmp (od_eq (ru hr)) (de_callB cd_lenS rfl Z.n_len (by decide +kernel) (da_cons (de_callTy (cd_setA rfl) rfl Z.n_set (by decide +kernel) (da_cons (de_var (pv 1)) da_nil)) da_nil)) (de_var (pv 0)) (nomark _)))))
theorem sc_are_ballots : FnScope ["size", "value", "one"] ["size", "value"] (defScope st_are_ballots) := ⟨rfl, rfl, rfl, by decide +kernel, rfl, by decide +kernel, by decide +kernel⟩
theorem b_are_ballots (Z : W K mg) : Binds K Z.d_are_ballots ["size", "value"] [] := Z.F_are_ballots.bindsN fun _ _ _ _ _ _ us hl => match us, hl with | [_, _], _ => rfl
theorem ok_are_ballots (Z : W K mg) (TT : TB Z base) : FnG PP w K mg base CX0 5 Z.f_are_ballots Z.d_are_ballots ["size", "value"] (spD ⟨K, mg, PP, w⟩ F_are_ballots) :=
  fnG_ok Z.F_are_ballots sc_are_ballots fun cdv A outer s H E hr gd =>
    (dss_one (ds_ret (de_and (de_isi (by decide) rfl Z.n_isinstance (de_var (pv 1)) rfl Z.n_tuple (by decide +kernel) (by decide +kernel)) (de_and (de_cmp (od_leA (ru hr)) (de_callB cd_len rfl Z.n_len (by decide +kernel) (da_cons (de_var (pv 1)) da_nil)) (de_gint rfl Z.c_MAX_BALLOTS) (nomark _)) (de_one (de_callB (cd_all rfl) rfl Z.n_all (by decide +kernel) (da_cons (de_n (dn_lc rfl sc_are_ballots.nd (di_seq (de_var (pv 1))) (own := [("one", 2)]) (blkO rfl) (by decide) (fun s H C cl fp => (dg_name (pg_name (i := 2) sc_are_ballots.nd rfl (by first | exact Or.inl rfl | exact Or.inr rfl)))) (fun s H C cl fp => dts_nil) (fun s H C cl fp => (user_call ((ok_is_row_of Z TT).up (by decide)) hr gd rfl Z.g_is_row_of Z.F_is_row_of.kp (b_is_row_of Z) (da_cons (de_var (pv 0)) (da_cons (de_var (pv 2)) da_nil)))))) da_nil)))))))
theorem sc_Book__init : FnScope ["self", "size", "ballots"] ["self", "size", "ballots"] (defScope st_Book__init) := ⟨rfl, rfl, rfl, by decide +kernel, rfl, by decide +kernel, by decide +kernel⟩
theorem b_Book__init (Z : W K mg) : Binds K Z.d_Book__init ["self", "size", "ballots"] [] := Z.F_Book__init.bindsN fun _ _ _ _ _ _ us hl => match us, hl with | [_, _, _], _ => rfl
theorem ok_Book__init (Z : W K mg) (TT : TB Z base) : FnG PP w K mg base CX0 6 Z.f_Book__init Z.d_Book__init ["self", "size", "ballots"] (spMk ⟨K, mg, PP, w⟩ Z.C_Book (okMk F_require_size F_are_ballots)) := by
  obtain ⟨p0, s0⟩ := slotB_ok Z.u0_Book
  obtain ⟨p1, s1⟩ := slotB_ok Z.u1_Book
  exact fnMk (k := 5) Z.F_Book__init sc_Book__init rfl rfl (fun cdv A outer s H E hr gd => ⟨(ds_expr (user_call ((ok_require_size Z TT).up (by decide)) hr gd rfl Z.g_require_size Z.F_require_size.kp (b_require_size Z) (da_cons (de_var (pv 1)) da_nil))), (ds_if (dt_not (dt_val (user_call ((ok_are_ballots Z TT).up (by decide)) hr gd rfl Z.g_are_ballots Z.F_are_ballots.kp (b_are_ballots Z) (da_cons (de_var (pv 1)) (da_cons (de_var (pv 2)) da_nil)))))
    (dss_one ds_never)
    dss_nil), (ps_slot (i := 0) (j := 1) rfl (by first | exact Or.inl rfl | exact Or.inr (Or.inl rfl)) rfl (by first | exact Or.inl rfl | exact Or.inr (Or.inl rfl))), (ps_slot (i := 0) (j := 2) rfl (by first | exact Or.inl rfl | exact Or.inr (Or.inl rfl)) rfl (by first | exact Or.inl rfl | exact Or.inr (Or.inl rfl)))⟩) (clsB_ok Z.q_Book).1 s1 s0 (fun a d1 d2 h => ⟨okMk_1 h, okMk_2 h⟩)
theorem sc__law_bag : FnScope ["script", "at", "cell", "great", "blend"] ["script", "at"] (defScope st__law_bag) := ⟨rfl, rfl, rfl, by decide +kernel, rfl, by decide +kernel, by decide +kernel⟩
theorem b__law_bag (Z : W K mg) : Binds K Z.d__law_bag ["script", "at"] [] := Z.F__law_bag.bindsN fun _ _ _ _ _ _ us hl => match us, hl with | [_, _], _ => rfl
theorem ok__law_bag (Z : W K mg) (TT : TB Z base) : FnG PP w K mg base CX0 1 Z.f__law_bag Z.d__law_bag ["script", "at"] (spD ⟨K, mg, PP, w⟩ F__law_bag) :=
  fnG_ok Z.F__law_bag sc__law_bag fun cdv A outer s H E hr gd =>
    (dss_cons (ds_set (i := 2) sc__law_bag.nd rfl (by first | exact Or.inl rfl | exact Or.inr rfl) (de_if (dt_cmp (od_ltA (ru hr)) (de_var (pv 1)) (de_callB cd_len rfl Z.n_len (by decide +kernel) (da_cons (de_var (pv 0)) da_nil)) (nomark _)) (de_callTy cd_int rfl Z.n_int (by decide +kernel) (da_cons (de_ix (ru5 hr) (de_var (pv 0)) (de_var (pv 1)) (fun _ _ => rfl)) da_nil)) (de_bin od_add (de_bin od_mul de_int (de_var (pv 1))) de_int)))
    (dss_cons (ds_set (i := 3) sc__law_bag.nd rfl (by first | exact Or.inl rfl | exact Or.inr rfl) (de_bin od_mod (de_callB (cd_max2 rfl) rfl Z.n_max (by decide +kernel) (da_cons de_int (da_cons (de_bin od_sub (de_callB cd_abs rfl Z.n_abs (by decide +kernel) (da_cons (de_var (pv 2)) da_nil)) (de_bin od_pow de_int de_int)) da_nil))) (de_bin od_mul (de_bin od_pow de_int de_int) (de_bin od_pow de_int de_int))))
    (dss_cons (ds_set (i := 4) sc__law_bag.nd rfl (by first | exact Or.inl rfl | exact Or.inr rfl) (de_bin od_add (de_bin od_add (de_bin od_add (de_bin od_mul (de_bin od_mod (de_callTy cd_int rfl Z.n_int (by decide +kernel) (da_cons (de_callB cd_abs rfl Z.n_abs (by decide +kernel) (da_cons (de_var (pv 2)) da_nil)) da_nil)) (de_bin od_add (de_bin od_pow de_int de_int) de_int)) de_int) (de_bin od_mul de_int (de_var (pv 1)))) (de_bin od_mul de_int (de_callTy cd_int rfl Z.n_int (by decide +kernel) (da_cons (de_cmp (od_ltA (ru hr)) (de_var (pv 2)) de_int (nomark _)) da_nil)))) de_int))
    (dss_one (ds_retL (dn_lst (da_cons (de_var (pv 3)) (da_cons (de_bin od_mod (de_callTy cd_int rfl Z.n_int (by decide +kernel) (da_cons (de_var (pv 4)) da_nil)) (de_bin od_sub (de_bin od_pow de_int de_int) de_int)) da_nil))))))))
theorem sc__law_draw : FnScope ["bag", "many", "found"] ["bag", "many"] (defScope st__law_draw) := ⟨rfl, rfl, rfl, by decide +kernel, rfl, by decide +kernel, by decide +kernel⟩
theorem b__law_draw (Z : W K mg) : Binds K Z.d__law_draw ["bag", "many"] [] := Z.F__law_draw.bindsN fun _ _ _ _ _ _ us hl => match us, hl with | [_, _], _ => rfl
theorem ok__law_draw (Z : W K mg) (TT : TB Z base) : FnG PP w K mg base CX0 1 Z.f__law_draw Z.d__law_draw ["bag", "many"] (spD ⟨K, mg, PP, w⟩ F__law_draw) :=
  fnG_ok Z.F__law_draw sc__law_draw fun cdv A outer s H E hr gd =>
    (dss_cons (ds_if (dt_cmp (od_gtA (ru hr)) (de_ix (ru5 hr) (de_var (pv 0)) de_int (fun _ _ => rfl)) de_int (nomark _))
    (dss_cons (ds_set (i := 2) sc__law_draw.nd rfl (by first | exact Or.inl rfl | exact Or.inr rfl) (de_bin od_mod (de_callTy cd_int rfl Z.n_int (by decide +kernel) (da_cons (de_ix (ru5 hr) (de_var (pv 0)) de_int (fun _ _ => rfl)) da_nil)) (de_var (pv 1))))
    (dss_cons (ds_setIx (de_bin od_div (de_ix (ru5 hr) (de_var (pv 0)) de_int (fun _ _ => rfl)) (de_var (pv 1))) (pv 0) de_int)
    (dss_one (ds_ret (de_var (pv 2))))))
    dss_nil)
    (dss_cons (ds_setIx (de_bin od_mod (de_callTy cd_int rfl Z.n_int (by decide +kernel) (da_cons (de_bin od_add (de_bin od_mul (de_ix (ru5 hr) (de_var (pv 0)) de_int (fun _ _ => rfl)) de_int) de_int) da_nil)) (de_bin od_sub (de_bin od_pow de_int de_int) de_int)) (pv 0) de_int)
    (dss_one (ds_ret (de_bin od_mod (de_callTy cd_int rfl Z.n_int (by decide +kernel) (da_cons (de_bin od_div (de_ix (ru5 hr) (de_var (pv 0)) de_int (fun _ _ => rfl)) de_int) da_nil)) (de_var (pv 1)))))))
theorem sc__law_one_of : FnScope ["bag", "items"] ["bag", "items"] (defScope st__law_one_of) := ⟨rfl, rfl, rfl, by decide +kernel, rfl, by decide +kernel, by decide +kernel⟩
theorem b__law_one_of (Z : W K mg) : Binds K Z.d__law_one_of ["bag", "items"] [] := Z.F__law_one_of.bindsN fun _ _ _ _ _ _ us hl => match us, hl with | [_, _], _ => rfl
theorem ok__law_one_of (Z : W K mg) (TT : TB Z base) : FnG PP w K mg base CX0 2 Z.f__law_one_of Z.d__law_one_of ["bag", "items"] (spD ⟨K, mg, PP, w⟩ F__law_one_of) :=
  fnG_ok Z.F__law_one_of sc__law_one_of fun cdv A outer s H E hr gd =>
    (dss_one (ds_ret (de_ix (ru5 hr) (de_var (pv 1)) (user_call ((ok__law_draw Z TT).up (by decide)) hr gd rfl Z.g__law_draw Z.F__law_draw.kp (b__law_draw Z) (da_cons (de_var (pv 0)) (da_cons (de_callB cd_len rfl Z.n_len (by decide +kernel) (da_cons (de_var (pv 1)) da_nil)) da_nil))) (fun _ _ => rfl))))
theorem sc_require_book : FnScope ["book"] ["book"] (defScope st_require_book) := ⟨rfl, rfl, rfl, by decide +kernel, rfl, by decide +kernel, by decide +kernel⟩
theorem b_require_book (Z : W K mg) : Binds K Z.d_require_book ["book"] [] := Z.F_require_book.bindsN fun _ _ _ _ _ _ us hl => match us, hl with | [_], _ => rfl
theorem ok_require_book (Z : W K mg) (TT : TB Z base) : FnG PP w K mg base CX0 2 Z.f_require_book Z.d_require_book ["book"] (spD ⟨K, mg, PP, w⟩ F_require_book) :=
  fnG_ok Z.F_require_book sc_require_book fun cdv A outer s H E hr gd =>
    (dss_one (ds_if (dt_not (dt_val (de_isK rfl Z.n_isinstance (de_var (pv 0)) rfl Z.k_Book (clsB_ok Z.q_Book).1 (clsB_ok Z.q_Book).2.1 (clsB_ok Z.q_Book).2.2.1 (clsB_ok Z.q_Book).2.2.2 (by decide +kernel))))
    (dss_one ds_never)
    dss_nil))
theorem okx_require_book (Z : W K mg) (TT : TB Z base) : FnG PP w K mg base (L2.CX PP w) 2 Z.f_require_book Z.d_require_book ["book"] (spX ⟨K, mg, PP, w⟩ X_require_book) :=
  fnX_ok Z.F_require_book sc_require_book fun cdv A outer s H E hr gd tk =>
    (sxs_head (sx_if (dt_not (dt_val (de_isK rfl Z.n_isinstance (de_var (pv 0)) rfl Z.k_Book (clsB_ok Z.q_Book).1 (clsB_ok Z.q_Book).2.1 (clsB_ok Z.q_Book).2.2.1 (clsB_ok Z.q_Book).2.2.2 (by decide +kernel))))
    (sxs_head (sx_raise rfl tk (mx_msg PySem.F.excBase_ValueError Z.msg_InvalidBook.1 Z.k_InvalidBook Z.msg_InvalidBook.2.1 Z.msg_InvalidBook.2.2.1 Z.msg_InvalidBook.2.2.2 rfl)))
    sxs_never))
theorem sc_lasts : FnScope ["book", "ballot"] ["book"] (defScope st_lasts) := ⟨rfl, rfl, rfl, by decide +kernel, rfl, by decide +kernel, by decide +kernel⟩
theorem b_lasts (Z : W K mg) : Binds K Z.d_lasts ["book"] [] := Z.F_lasts.bindsN fun _ _ _ _ _ _ us hl => match us, hl with | [_], _ => rfl
theorem ok_lasts (Z : W K mg) (TT : TB Z base) : FnG PP w K mg base CX0 3 Z.f_lasts Z.d_lasts ["book"] (spD ⟨K, mg, PP, w⟩ F_lasts) :=
  fnG_ok Z.F_lasts sc_lasts fun cdv A outer s H E hr gd =>
    (dss_cons (ds_expr (user_call ((ok_require_book Z TT).up (by decide)) hr gd rfl Z.g_require_book Z.F_require_book.kp (b_require_book Z) (da_cons (de_var (pv 0)) da_nil)))
    (dss_one (ds_ret (de_callTy cd_tuple rfl Z.n_tuple (by decide +kernel) (da_cons (de_n (dn_callB (cn_sortD rfl (ru5 hr)) rfl Z.n_sorted (by decide +kernel) (da_cons (de_cn (dc_comp (ru5 hr) rfl sc_lasts.nd (di_seq (de_fld (de_var (pv 0)) Z.k_Book (clsB_ok Z.q_Book).1 (slotB_ok Z.u0_Book).choose_spec)) (own := [("ballot", 1)]) (blkO rfl) (by decide) (fun s H C cl fp => (dg_name (pg_name (i := 1) sc_lasts.nd rfl (by first | exact Or.inl rfl | exact Or.inr rfl)))) (fun s H C cl fp => dts_nil) (fun s H C cl fp => (de_ix (ru5 hr) (de_var (pv 1)) (de_un ud_neg de_int) (fun _ _ => rfl))) (fun s H C cl fp => de_bl))) da_nil))) da_nil)))))
theorem okx_lasts (Z : W K mg) (TT : TB Z base) : FnG PP w K mg base (L2.CX PP w) 3 Z.f_lasts Z.d_lasts ["book"] (spX ⟨K, mg, PP, w⟩ X_lasts) :=
  fnX_ok Z.F_lasts sc_lasts fun cdv A outer s H E hr gd tk =>
    (sxs_head (sx_expr (ex_user ((okx_require_book Z TT).up (by decide)) hr gd tk rfl Z.g_require_book Z.F_require_book.kp (b_require_book Z) (da_cons (de_var (pv 0)) da_nil))))
theorem sc_can_stand : FnScope ["lasts", "row", "option", "at", "one", "other"] ["lasts", "row", "option"] (defScope st_can_stand) := ⟨rfl, rfl, rfl, by decide +kernel, rfl, by decide +kernel, by decide +kernel⟩
theorem b_can_stand (Z : W K mg) : Binds K Z.d_can_stand ["lasts", "row", "option"] [] := Z.F_can_stand.bindsN fun _ _ _ _ _ _ us hl => match us, hl with | [_, _, _], _ => rfl
theorem ok_can_stand (Z : W K mg) (TT : TB Z base) : FnG PP w K mg base CX0 1 Z.f_can_stand Z.d_can_stand ["lasts", "row", "option"] (spD ⟨K, mg, PP, w⟩ F_can_stand) :=
  fnG_ok Z.F_can_stand sc_can_stand fun cdv A outer s H E hr gd =>
    (dss_cons (ds_for PassesOwn.never rfl (di_enumA rfl Z.n_enumerate (da_cons (de_var (pv 1)) da_nil)) (dg_tup rfl (dgs_cons (dg_name (pg_name (i := 3) sc_can_stand.nd rfl (by first | exact Or.inl rfl | exact Or.inr rfl))) (dgs_cons (dg_name (pg_name (i := 4) sc_can_stand.nd rfl (by first | exact Or.inl rfl | exact Or.inr rfl))) dgs_nil)))
    (dss_one (ds_for PassesOwn.never rfl (di_seq (de_sl (de_var (pv 1)) (do_some (de_bin od_add (de_var (pv 3)) de_int)) do_none)) (dg_name (pg_name (i := 5) sc_can_stand.nd rfl (by first | exact Or.inl rfl | exact Or.inr rfl)))
    (dss_one (ds_if (dt_cmp (od_in (ru5 hr)) (de_var (pv 5)) (de_ix (ru5 hr) (de_var (pv 0)) (de_callTy cd_tuple rfl Z.n_tuple (by decide +kernel) (da_cons (de_n (dn_callB (cn_sortedA (ru hr)) rfl Z.n_sorted (by decide +kernel) (da_cons (de_n (dn_lst (da_cons (de_var (pv 4)) (da_cons (de_var (pv 5)) (da_cons (de_var (pv 2)) da_nil))))) da_nil))) da_nil)) (fun _ _ => rfl)) (by with_unfolding_all rfl))
    (dss_one (ds_ret de_bl))
    dss_nil)))))
    (dss_one (ds_ret de_bl)))
theorem okx_can_stand (Z : W K mg) (TT : TB Z base) : FnG PP w K mg base (L2.CX PP w) 1 Z.f_can_stand Z.d_can_stand ["lasts", "row", "option"] (spX ⟨K, mg, PP, w⟩ X_can_stand) :=
  fnX_ok Z.F_can_stand sc_can_stand fun cdv A outer s H E hr gd tk =>
    sxs_never
theorem sc_is_begun : FnScope ["lasts", "row", "at", "option"] ["lasts", "row"] (defScope st_is_begun) := ⟨rfl, rfl, rfl, by decide +kernel, rfl, by decide +kernel, by decide +kernel⟩
theorem b_is_begun (Z : W K mg) : Binds K Z.d_is_begun ["lasts", "row"] [] := Z.F_is_begun.bindsN fun _ _ _ _ _ _ us hl => match us, hl with | [_, _], _ => rfl
theorem ok_is_begun (Z : W K mg) (TT : TB Z base) : FnG PP w K mg base CX0 2 Z.f_is_begun Z.d_is_begun ["lasts", "row"] (spD ⟨K, mg, PP, w⟩ F_is_begun) :=
  fnG_ok Z.F_is_begun sc_is_begun fun cdv A outer s H E hr gd =>
    (dss_one (ds_ret (de_callB (cd_all rfl) rfl Z.n_all (by decide +kernel) (da_cons (de_n (dn_lc rfl sc_is_begun.nd (di_enumA rfl Z.n_enumerate (da_cons (de_var (pv 1)) da_nil)) (own := [("at", 2), ("option", 3)]) (blkO rfl) (by decide) (fun s H C cl fp => (dg_tup rfl (dgs_cons (dg_name (pg_name (i := 2) sc_is_begun.nd rfl (by first | exact Or.inl rfl | exact Or.inr rfl))) (dgs_cons (dg_name (pg_name (i := 3) sc_is_begun.nd rfl (by first | exact Or.inl rfl | exact Or.inr rfl))) dgs_nil)))) (fun s H C cl fp => dts_nil) (fun s H C cl fp => (user_call ((ok_can_stand Z TT).up (by decide)) hr gd rfl Z.g_can_stand Z.F_can_stand.kp (b_can_stand Z) (da_cons (de_var (pv 0)) (da_cons (de_sl (de_var (pv 1)) do_none (do_some (de_var (pv 2)))) (da_cons (de_var (pv 3)) da_nil))))))) da_nil))))
theorem okx_is_begun (Z : W K mg) (TT : TB Z base) : FnG PP w K mg base (L2.CX PP w) 2 Z.f_is_begun Z.d_is_begun ["lasts", "row"] (spX ⟨K, mg, PP, w⟩ X_is_begun) :=
  fnX_ok Z.F_is_begun sc_is_begun fun cdv A outer s H E hr gd tk =>
    sxs_never
theorem sc_axis_behind : FnScope ["size", "lasts", "row", "last", "waits", "here", "some", "option"] ["size", "lasts", "row", "last"] (defScope st_axis_behind) := ⟨rfl, rfl, rfl, by decide +kernel, rfl, by decide +kernel, by decide +kernel⟩
theorem b_axis_behind (Z : W K mg) : Binds K Z.d_axis_behind ["size", "lasts", "row", "last"] [] := Z.F_axis_behind.bindsN fun _ _ _ _ _ _ us hl => match us, hl with | [_, _, _, _], _ => rfl
theorem ok_axis_behind (Z : W K mg) (TT : TB Z base) : FnG PP w K mg base CX0 3 Z.f_axis_behind Z.d_axis_behind ["size", "lasts", "row", "last"] (spD ⟨K, mg, PP, w⟩ F_axis_behind) :=
  fnG_ok Z.F_axis_behind sc_axis_behind fun cdv A outer s H E hr gd =>
    (dss_cons (ds_own (i := 4) sc_axis_behind.nd rfl (by first | exact Or.inl rfl | exact Or.inr rfl) (dn_if (dt_val (user_call ((ok_is_begun Z TT).up (by decide)) hr gd rfl Z.g_is_begun Z.F_is_begun.kp (b_is_begun Z) (da_cons (de_var (pv 1)) (da_cons (de_var (pv 2)) da_nil)))) (dn_lst (da_cons (de_var (pv 2)) da_nil)) (dn_lst da_nil)))
    (dss_cons (ds_while 2000 PassesOwn.never (dt_cmp (od_ne (ru hr)) (de_var (pv 4)) (de_n (dn_lst da_nil)) (nomark _))
    (dss_cons (ds_set (i := 5) sc_axis_behind.nd rfl (by first | exact Or.inl rfl | exact Or.inr rfl) (de_mt0 F.plainAttrs_list F.slot_list_pop F.type_list_pop md_pop (pv 4)))
    (dss_cons (ds_if (dt_cmp (od_eq (ru hr)) (de_callB cd_len rfl Z.n_len (by decide +kernel) (da_cons (de_var (pv 5)) da_nil)) (de_var (pv 0)) (nomark _))
    (dss_one (ds_ret (de_var (pv 5))))
    dss_nil)
    (dss_cons (ds_lcSet (ps_lcN (i := 6) rfl sc_axis_behind.nd rfl rfl rfl (di_range1 rfl Z.n_range (da_cons (de_var (pv 0)) da_nil)) (own := [("option", 7)]) (blkO rfl) (by decide) (fun s H C cl fp => (dg_name (pg_name (i := 7) sc_axis_behind.nd rfl (by first | exact Or.inl rfl | exact Or.inr rfl)))) (fun s H C cl fp => (dts_one (dt_cmp (od_notIn (ru5 hr)) (de_var (pv 7)) (de_var (pv 5)) (by with_unfolding_all rfl)))) (fun s H C cl fp => (de_var (pv 7)))))
    (dss_cons (ds_if (dt_cmp od_notN (de_var (pv 3)) de_non (nomark _))
    (dss_one (ds_lcSet (ps_lcN (i := 6) rfl sc_axis_behind.nd rfl rfl rfl (di_seq (de_var (pv 6))) (own := [("option", 7)]) (blkO rfl) (by decide) (fun s H C cl fp => (dg_name (pg_name (i := 7) sc_axis_behind.nd rfl (by first | exact Or.inl rfl | exact Or.inr rfl)))) (fun s H C cl fp => (dts_one (dt_cmp (od_eq (ru hr)) (de_cmp (od_eq (ru hr)) (de_var (pv 7)) (de_var (pv 3)) (nomark _)) (de_cmp (od_eq (ru hr)) (de_callB cd_len rfl Z.n_len (by decide +kernel) (da_cons (de_var (pv 5)) da_nil)) (de_bin od_sub (de_var (pv 0)) de_int) (nomark _)) (nomark _)))) (fun s H C cl fp => (de_var (pv 7))))))
    dss_nil)
    (dss_one (ds_expr (de_mt F.plainAttrs_list F.slot_list_extend F.type_list_extend md_extend (pv 4) (da_cons (de_n (dn_lc rfl sc_axis_behind.nd (di_seq (de_rev (de_var (pv 6)))) (own := [("option", 7)]) (blkO rfl) (by decide) (fun s H C cl fp => (dg_name (pg_name (i := 7) sc_axis_behind.nd rfl (by first | exact Or.inl rfl | exact Or.inr rfl)))) (fun s H C cl fp => (dts_one (dt_val (user_call ((ok_can_stand Z TT).up (by decide)) hr gd rfl Z.g_can_stand Z.F_can_stand.kp (b_can_stand Z) (da_cons (de_var (pv 1)) (da_cons (de_var (pv 5)) (da_cons (de_var (pv 7)) da_nil))))))) (fun s H C cl fp => (de_tup (da_star (de_var (pv 5)) (da_cons (de_var (pv 7)) da_nil)))))) da_nil)))))))))
    (dss_one (ds_ret de_non))))
theorem okx_axis_behind (Z : W K mg) (TT : TB Z base) : FnG PP w K mg base (L2.CX PP w) 3 Z.f_axis_behind Z.d_axis_behind ["size", "lasts", "row", "last"] (spX ⟨K, mg, PP, w⟩ X_axis_behind) :=
  fnX_ok Z.F_axis_behind sc_axis_behind fun cdv A outer s H E hr gd tk =>
    sxs_never
theorem sc_places_in : FnScope ["ballot", "found", "place", "option"] ["ballot"] (defScope st_places_in) := ⟨rfl, rfl, rfl, by decide +kernel, rfl, by decide +kernel, by decide +kernel⟩
theorem b_places_in (Z : W K mg) : Binds K Z.d_places_in ["ballot"] [] := Z.F_places_in.bindsN fun _ _ _ _ _ _ us hl => match us, hl with | [_], _ => rfl
theorem ok_places_in (Z : W K mg) (TT : TB Z base) : FnG PP w K mg base CX0 1 Z.f_places_in Z.d_places_in ["ballot"] (spD ⟨K, mg, PP, w⟩ F_places_in) :=
  fnG_ok Z.F_places_in sc_places_in fun cdv A outer s H E hr gd =>
    (dss_cons (ds_own (i := 1) sc_places_in.nd rfl (by first | exact Or.inl rfl | exact Or.inr rfl) (dn_rep (dn_lst (da_cons de_int da_nil)) (de_callB cd_len rfl Z.n_len (by decide +kernel) (da_cons (de_var (pv 0)) da_nil))))
    (dss_cons (ds_for PassesOwn.never rfl (di_enumA rfl Z.n_enumerate (da_cons (de_var (pv 0)) da_nil)) (dg_tup rfl (dgs_cons (dg_name (pg_name (i := 2) sc_places_in.nd rfl (by first | exact Or.inl rfl | exact Or.inr rfl))) (dgs_cons (dg_name (pg_name (i := 3) sc_places_in.nd rfl (by first | exact Or.inl rfl | exact Or.inr rfl))) dgs_nil)))
    (dss_one (ds_setIx (de_var (pv 2)) (pv 1) (de_var (pv 3)))))
    (dss_one (ds_ret (de_var (pv 1))))))
theorem sc_is_last_somewhere : FnScope ["places", "three", "option", "row", "one"] ["places", "three", "option"] (defScope st_is_last_somewhere) := ⟨rfl, rfl, rfl, by decide +kernel, rfl, by decide +kernel, by decide +kernel⟩
theorem b_is_last_somewhere (Z : W K mg) : Binds K Z.d_is_last_somewhere ["places", "three", "option"] [] := Z.F_is_last_somewhere.bindsN fun _ _ _ _ _ _ us hl => match us, hl with | [_, _, _], _ => rfl
theorem ok_is_last_somewhere (Z : W K mg) (TT : TB Z base) : FnG PP w K mg base CX0 1 Z.f_is_last_somewhere Z.d_is_last_somewhere ["places", "three", "option"] (spD ⟨K, mg, PP, w⟩ F_is_last_somewhere) :=
  fnG_ok Z.F_is_last_somewhere sc_is_last_somewhere fun cdv A outer s H E hr gd =>
    (dss_one (ds_ret (de_callB (cd_any rfl) rfl Z.n_any (by decide +kernel) (da_cons (de_n (dn_lc rfl sc_is_last_somewhere.nd (di_seq (de_var (pv 0))) (own := [("row", 3)]) (blkO rfl) (by decide) (fun s H C cl fp => (dg_name (pg_name (i := 3) sc_is_last_somewhere.nd rfl (by first | exact Or.inl rfl | exact Or.inr rfl)))) (fun s H C cl fp => dts_nil) (fun s H C cl fp => (de_cmp (od_eq (ru hr)) (de_callB (cd_maxA rfl (ru hr)) rfl Z.n_max (by decide +kernel) (da_cons (de_n (dn_lc rfl sc_is_last_somewhere.nd (di_seq (de_var (pv 1))) (own := [("one", 4)]) (blkO rfl) (by decide) (fun s H C cl fp => (dg_name (pg_name (i := 4) sc_is_last_somewhere.nd rfl (by first | exact Or.inl rfl | exact Or.inr rfl)))) (fun s H C cl fp => dts_nil) (fun s H C cl fp => (de_ix (ru5 hr) (de_var (pv 3)) (de_var (pv 4)) (fun _ _ => rfl))))) da_nil)) (de_ix (ru5 hr) (de_var (pv 3)) (de_var (pv 2)) (fun _ _ => rfl)) (nomark _))))) da_nil))))
theorem sc_lasts_of : FnScope ["book", "places", "found", "one", "other", "third", "three", "ballot", "option"] ["book"] (defScope st_lasts_of) := ⟨rfl, rfl, rfl, by decide +kernel, rfl, by decide +kernel, by decide +kernel⟩
theorem b_lasts_of (Z : W K mg) : Binds K Z.d_lasts_of ["book"] [] := Z.F_lasts_of.bindsN fun _ _ _ _ _ _ us hl => match us, hl with | [_], _ => rfl
theorem ok_lasts_of (Z : W K mg) (TT : TB Z base) : FnG PP w K mg base CX0 3 Z.f_lasts_of Z.d_lasts_of ["book"] (spD ⟨K, mg, PP, w⟩ F_lasts_of) :=
  fnG_ok Z.F_lasts_of sc_lasts_of fun cdv A outer s H E hr gd =>
    (dss_cons (ds_parT (n := 2) rfl sc_lasts_of.nd (.cons (i := 1) rfl (by first | exact Or.inl rfl | exact Or.inr rfl) (by first | exact Or.inl rfl | exact Or.inr rfl) rfl (.cons (i := 2) rfl (by first | exact Or.inl rfl | exact Or.inr rfl) (by first | exact Or.inl rfl | exact Or.inr rfl) rfl .nil)) (dps_v (de_n (dn_lc rfl sc_lasts_of.nd (di_seq (de_fld (de_var (pv 0)) Z.k_Book (clsB_ok Z.q_Book).1 (slotB_ok Z.u0_Book).choose_spec)) (own := [("ballot", 7)]) (blkO rfl) (by decide) (fun s H C cl fp => (dg_name (pg_name (i := 7) sc_lasts_of.nd rfl (by first | exact Or.inl rfl | exact Or.inr rfl)))) (fun s H C cl fp => dts_nil) (fun s H C cl fp => (user_call ((ok_places_in Z TT).up (by decide)) hr gd rfl Z.g_places_in Z.F_places_in.kp (b_places_in Z) (da_cons (de_var (pv 7)) da_nil))))) (dps_c dc_0 dps_nil)) rfl (by decide))
    (dss_cons (ds_for PassesOwn.never rfl (di_range1 rfl Z.n_range (da_cons (de_fld (de_var (pv 0)) Z.k_Book (clsB_ok Z.q_Book).1 (slotB_ok Z.u1_Book).choose_spec) da_nil)) (dg_name (pg_name (i := 3) sc_lasts_of.nd rfl (by first | exact Or.inl rfl | exact Or.inr rfl)))
    (dss_one (ds_for PassesOwn.never rfl (di_range2 rfl Z.n_range (da_cons (de_bin od_add (de_var (pv 3)) de_int) (da_cons (de_fld (de_var (pv 0)) Z.k_Book (clsB_ok Z.q_Book).1 (slotB_ok Z.u1_Book).choose_spec) da_nil))) (dg_name (pg_name (i := 4) sc_lasts_of.nd rfl (by first | exact Or.inl rfl | exact Or.inr rfl)))
    (dss_one (ds_for PassesOwn.never rfl (di_range2 rfl Z.n_range (da_cons (de_bin od_add (de_var (pv 4)) de_int) (da_cons (de_fld (de_var (pv 0)) Z.k_Book (clsB_ok Z.q_Book).1 (slotB_ok Z.u1_Book).choose_spec) da_nil))) (dg_name (pg_name (i := 5) sc_lasts_of.nd rfl (by first | exact Or.inl rfl | exact Or.inr rfl)))
    (dss_cons (ds_set (i := 6) sc_lasts_of.nd rfl (by first | exact Or.inl rfl | exact Or.inr rfl) (de_tup (da_cons (de_var (pv 3)) (da_cons (de_var (pv 4)) (da_cons (de_var (pv 5)) da_nil)))))
    (dss_one (ds_putD (ru1 hr) (de_n (dn_lc rfl sc_lasts_of.nd (di_seq (de_var (pv 6))) (own := [("option", 8)]) (blkO rfl) (by decide) (fun s H C cl fp => (dg_name (pg_name (i := 8) sc_lasts_of.nd rfl (by first | exact Or.inl rfl | exact Or.inr rfl)))) (fun s H C cl fp => (dts_one (dt_val (user_call ((ok_is_last_somewhere Z TT).up (by decide)) hr gd rfl Z.g_is_last_somewhere Z.F_is_last_somewhere.kp (b_is_last_somewhere Z) (da_cons (de_var (pv 1)) (da_cons (de_var (pv 6)) (da_cons (de_var (pv 8)) da_nil))))))) (fun s H C cl fp => (de_var (pv 8))))) (pv 2) (de_var (pv 6))))))))))
    (dss_one (ds_free (ds_ret (de_var (pv 2)))))))
theorem sc_axis_in : FnScope ["book"] ["book"] (defScope st_axis_in) := ⟨rfl, rfl, rfl, by decide +kernel, rfl, by decide +kernel, by decide +kernel⟩
theorem b_axis_in (Z : W K mg) : Binds K Z.d_axis_in ["book"] [] := Z.F_axis_in.bindsN fun _ _ _ _ _ _ us hl => match us, hl with | [_], _ => rfl
theorem ok_axis_in (Z : W K mg) (TT : TB Z base) : FnG PP w K mg base CX0 4 Z.f_axis_in Z.d_axis_in ["book"] (spD ⟨K, mg, PP, w⟩ F_axis_in) :=
  fnG_ok Z.F_axis_in sc_axis_in fun cdv A outer s H E hr gd =>
    (dss_one (ds_ret (user_call ((ok_axis_behind Z TT).up (by decide)) hr gd rfl Z.g_axis_behind Z.F_axis_behind.kp (b_axis_behind Z) (da_cons (de_fld (de_var (pv 0)) Z.k_Book (clsB_ok Z.q_Book).1 (slotB_ok Z.u1_Book).choose_spec) (da_cons (user_call ((ok_lasts_of Z TT).up (by decide)) hr gd rfl Z.g_lasts_of Z.F_lasts_of.kp (b_lasts_of Z) (da_cons (de_var (pv 0)) da_nil)) (da_cons (de_tup da_nil) (da_cons de_non da_nil)))))))
theorem okx_axis_in (Z : W K mg) (TT : TB Z base) : FnG PP w K mg base (L2.CX PP w) 4 Z.f_axis_in Z.d_axis_in ["book"] (spX ⟨K, mg, PP, w⟩ X_axis_in) :=
  fnX_ok Z.F_axis_in sc_axis_in fun cdv A outer s H E hr gd tk =>
    (sxs_head (sx_ret (ex_user ((okx_axis_behind Z TT).up (by decide)) hr gd tk rfl Z.g_axis_behind Z.F_axis_behind.kp (b_axis_behind Z) (da_cons (de_fld (de_var (pv 0)) Z.k_Book (clsB_ok Z.q_Book).1 (slotB_ok Z.u1_Book).choose_spec) (da_cons (user_call ((ok_lasts_of Z TT).up (by decide)) hr gd rfl Z.g_lasts_of Z.F_lasts_of.kp (b_lasts_of Z) (da_cons (de_var (pv 0)) da_nil)) (da_cons (de_tup da_nil) (da_cons de_non da_nil)))))))
theorem sc_has_axis : FnScope ["book"] ["book"] (defScope st_has_axis) := ⟨rfl, rfl, rfl, by decide +kernel, rfl, by decide +kernel, by decide +kernel⟩
theorem b_has_axis (Z : W K mg) : Binds K Z.d_has_axis ["book"] [] := Z.F_has_axis.bindsN fun _ _ _ _ _ _ us hl => match us, hl with | [_], _ => rfl
theorem ok_has_axis (Z : W K mg) (TT : TB Z base) : FnG PP w K mg base CX0 5 Z.f_has_axis Z.d_has_axis ["book"] (spD ⟨K, mg, PP, w⟩ F_has_axis) :=
  fnG_ok Z.F_has_axis sc_has_axis fun cdv A outer s H E hr gd =>
    (dss_cons (ds_expr (user_call ((ok_require_book Z TT).up (by decide)) hr gd rfl Z.g_require_book Z.F_require_book.kp (b_require_book Z) (da_cons (de_var (pv 0)) da_nil)))
    (dss_one (ds_ret (de_cmp od_notN (user_call ((ok_axis_in Z TT).up (by decide)) hr gd rfl Z.g_axis_in Z.F_axis_in.kp (b_axis_in Z) (da_cons (de_var (pv 0)) da_nil)) de_non (nomark _)))))
theorem okx_has_axis (Z : W K mg) (TT : TB Z base) : FnG PP w K mg base (L2.CX PP w) 5 Z.f_has_axis Z.d_has_axis ["book"] (spX ⟨K, mg, PP, w⟩ X_has_axis) :=
  fnX_ok Z.F_has_axis sc_has_axis fun cdv A outer s H E hr gd tk =>
    (sxs_or (sxs_head (sx_expr (ex_user ((okx_require_book Z TT).up (by decide)) hr gd tk rfl Z.g_require_book Z.F_require_book.kp (b_require_book Z) (da_cons (de_var (pv 0)) da_nil))))
    (sxs_next (ds_expr (user_call ((ok_require_book Z TT).up (by decide)) hr gd rfl Z.g_require_book Z.F_require_book.kp (b_require_book Z) (da_cons (de_var (pv 0)) da_nil)))
    (sxs_head (sx_ret (ex_cmp od_notN (ex_user ((okx_axis_in Z TT).up (by decide)) hr gd tk rfl Z.g_axis_in Z.F_axis_in.kp (b_axis_in Z) (da_cons (de_var (pv 0)) da_nil)) de_non (nomark _))))))
theorem sc_first_last : FnScope ["places", "three", "option", "at", "row", "one"] ["places", "three", "option"] (defScope st_first_last) := ⟨rfl, rfl, rfl, by decide +kernel, rfl, by decide +kernel, by decide +kernel⟩
theorem b_first_last (Z : W K mg) : Binds K Z.d_first_last ["places", "three", "option"] [] := Z.F_first_last.bindsN fun _ _ _ _ _ _ us hl => match us, hl with | [_, _, _], _ => rfl
theorem ok_first_last (Z : W K mg) (TT : TB Z base) : FnG PP w K mg base CX0 1 Z.f_first_last Z.d_first_last ["places", "three", "option"] (spD ⟨K, mg, PP, w⟩ F_first_last) :=
  fnG_ok Z.F_first_last sc_first_last fun cdv A outer s H E hr gd =>
    (dss_one (ds_ret (de_ix (ru5 hr) (de_n (dn_lc rfl sc_first_last.nd (di_enumA rfl Z.n_enumerate (da_cons (de_var (pv 0)) da_nil)) (own := [("at", 3), ("row", 4)]) (blkO rfl) (by decide) (fun s H C cl fp => (dg_tup rfl (dgs_cons (dg_name (pg_name (i := 3) sc_first_last.nd rfl (by first | exact Or.inl rfl | exact Or.inr rfl))) (dgs_cons (dg_name (pg_name (i := 4) sc_first_last.nd rfl (by first | exact Or.inl rfl | exact Or.inr rfl))) dgs_nil)))) (fun s H C cl fp => (dts_one (dt_cmp (od_eq (ru hr)) (de_callB (cd_maxA rfl (ru hr)) rfl Z.n_max (by decide +kernel) (da_cons (de_n (dn_lc rfl sc_first_last.nd (di_seq (de_var (pv 1))) (own := [("one", 5)]) (blkO rfl) (by decide) (fun s H C cl fp => (dg_name (pg_name (i := 5) sc_first_last.nd rfl (by first | exact Or.inl rfl | exact Or.inr rfl)))) (fun s H C cl fp => dts_nil) (fun s H C cl fp => (de_ix (ru5 hr) (de_var (pv 4)) (de_var (pv 5)) (fun _ _ => rfl))))) da_nil)) (de_ix (ru5 hr) (de_var (pv 4)) (de_var (pv 2)) (fun _ _ => rfl)) (nomark _)))) (fun s H C cl fp => (de_var (pv 3))))) de_int (fun _ _ => rfl))))
theorem sc_three_in : FnScope ["book", "places", "three", "some", "ballots", "option", "ballot"] ["book"] (defScope st_three_in) := ⟨rfl, rfl, rfl, by decide +kernel, rfl, by decide +kernel, by decide +kernel⟩
theorem b_three_in (Z : W K mg) : Binds K Z.d_three_in ["book"] [] := Z.F_three_in.bindsN fun _ _ _ _ _ _ us hl => match us, hl with | [_], _ => rfl
theorem ok_three_in (Z : W K mg) (TT : TB Z base) : FnG PP w K mg base CX0 4 Z.f_three_in Z.d_three_in ["book"] (spD ⟨K, mg, PP, w⟩ F_three_in) :=
  fnG_ok Z.F_three_in sc_three_in fun cdv A outer s H E hr gd =>
    (dss_cons (ds_lcSet (ps_lcN (i := 1) rfl sc_three_in.nd rfl rfl rfl (di_seq (de_fld (de_var (pv 0)) Z.k_Book (clsB_ok Z.q_Book).1 (slotB_ok Z.u0_Book).choose_spec)) (own := [("ballot", 6)]) (blkO rfl) (by decide) (fun s H C cl fp => (dg_name (pg_name (i := 6) sc_three_in.nd rfl (by first | exact Or.inl rfl | exact Or.inr rfl)))) (fun s H C cl fp => dts_nil) (fun s H C cl fp => (user_call ((ok_places_in Z TT).up (by decide)) hr gd rfl Z.g_places_in Z.F_places_in.kp (b_places_in Z) (da_cons (de_var (pv 6)) da_nil)))))
    (dss_cons (ds_for PassesOwn.never rfl (di_seq (de_n (dn_sortIt rfl (ru5 hr) rfl Z.n_sorted (by decide +kernel) (user_call ((ok_lasts_of Z TT).up (by decide)) hr gd rfl Z.g_lasts_of Z.F_lasts_of.kp (b_lasts_of Z) (da_cons (de_var (pv 0)) da_nil))))) (dg_tup rfl (dgs_cons (dg_name (pg_name (i := 2) sc_three_in.nd rfl (by first | exact Or.inl rfl | exact Or.inr rfl))) (dgs_cons (dg_name (pg_name (i := 3) sc_three_in.nd rfl (by first | exact Or.inl rfl | exact Or.inr rfl))) dgs_nil)))
    (dss_one (ds_if (dt_cmp (od_eq (ru hr)) (de_callB cd_len rfl Z.n_len (by decide +kernel) (da_cons (de_var (pv 3)) da_nil)) de_int (nomark _))
    (dss_cons (ds_own (i := 4) sc_three_in.nd rfl (by first | exact Or.inl rfl | exact Or.inr rfl) (dn_lst da_nil))
    (dss_cons (ds_for PassesOwn.never rfl (di_seq (de_var (pv 2))) (dg_name (pg_name (i := 5) sc_three_in.nd rfl (by first | exact Or.inl rfl | exact Or.inr rfl)))
    (dss_one (ds_expr (de_mt F.plainAttrs_list F.slot_list_append F.type_list_append md_append (pv 4) (da_cons (user_call ((ok_first_last Z TT).up (by decide)) hr gd rfl Z.g_first_last Z.F_first_last.kp (b_first_last Z) (da_cons (de_var (pv 1)) (da_cons (de_var (pv 2)) (da_cons (de_var (pv 5)) da_nil)))) da_nil)))))
    (dss_one (ds_ret (de_tup (da_cons (de_gstr rfl Z.c_THREE) (da_cons (de_var (pv 2)) (da_cons (de_callTy cd_tuple rfl Z.n_tuple (by decide +kernel) (da_cons (de_var (pv 4)) da_nil)) da_nil))))))))
    dss_nil)))
    (dss_one (ds_ret de_non))))
theorem sc_is_bent : FnScope ["place", "four", "a", "b", "c", "d"] ["place", "four"] (defScope st_is_bent) := ⟨rfl, rfl, rfl, by decide +kernel, rfl, by decide +kernel, by decide +kernel⟩
theorem b_is_bent (Z : W K mg) : Binds K Z.d_is_bent ["place", "four"] [] := Z.F_is_bent.bindsN fun _ _ _ _ _ _ us hl => match us, hl with | [_, _], _ => rfl
theorem ok_is_bent (Z : W K mg) (TT : TB Z base) : FnG PP w K mg base CX0 1 Z.f_is_bent Z.d_is_bent ["place", "four"] (spD ⟨K, mg, PP, w⟩ F_is_bent) :=
  fnG_ok Z.F_is_bent sc_is_bent fun cdv A outer s H E hr gd =>
    (dss_cons (ds_asg (de_var (pv 1)) (dg_tup rfl (dgs_cons (dg_name (pg_name (i := 2) sc_is_bent.nd rfl (by first | exact Or.inl rfl | exact Or.inr rfl))) (dgs_cons (dg_name (pg_name (i := 3) sc_is_bent.nd rfl (by first | exact Or.inl rfl | exact Or.inr rfl))) (dgs_cons (dg_name (pg_name (i := 4) sc_is_bent.nd rfl (by first | exact Or.inl rfl | exact Or.inr rfl))) (dgs_cons (dg_name (pg_name (i := 5) sc_is_bent.nd rfl (by first | exact Or.inl rfl | exact Or.inr rfl))) dgs_nil))))))
    (dss_one (ds_ret (de_and (de_chain (od_ltA (ru hr)) (od_ltA (ru hr)) (de_ix (ru5 hr) (de_var (pv 0)) (de_var (pv 2)) (fun _ _ => rfl)) (de_ix (ru5 hr) (de_var (pv 0)) (de_var (pv 3)) (fun _ _ => rfl)) (de_ix (ru5 hr) (de_var (pv 0)) (de_var (pv 4)) (fun _ _ => rfl))) (de_one (de_cmp (od_ltA (ru hr)) (de_ix (ru5 hr) (de_var (pv 0)) (de_var (pv 5)) (fun _ _ => rfl)) (de_ix (ru5 hr) (de_var (pv 0)) (de_var (pv 3)) (fun _ _ => rfl)) (nomark _)))))))
theorem sc_four_with : FnScope ["places", "four", "a", "b", "c", "d", "one", "other", "at", "row"] ["places", "four"] (defScope st_four_with) := ⟨rfl, rfl, rfl, by decide +kernel, rfl, by decide +kernel, by decide +kernel⟩
theorem b_four_with (Z : W K mg) : Binds K Z.d_four_with ["places", "four"] [] := Z.F_four_with.bindsN fun _ _ _ _ _ _ us hl => match us, hl with | [_, _], _ => rfl
theorem ok_four_with (Z : W K mg) (TT : TB Z base) : FnG PP w K mg base CX0 2 Z.f_four_with Z.d_four_with ["places", "four"] (spD ⟨K, mg, PP, w⟩ F_four_with) :=
  fnG_ok Z.F_four_with sc_four_with fun cdv A outer s H E hr gd =>
    (dss_cons (ds_asg (de_var (pv 1)) (dg_tup rfl (dgs_cons (dg_name (pg_name (i := 2) sc_four_with.nd rfl (by first | exact Or.inl rfl | exact Or.inr rfl))) (dgs_cons (dg_name (pg_name (i := 3) sc_four_with.nd rfl (by first | exact Or.inl rfl | exact Or.inr rfl))) (dgs_cons (dg_name (pg_name (i := 4) sc_four_with.nd rfl (by first | exact Or.inl rfl | exact Or.inr rfl))) (dgs_cons (dg_name (pg_name (i := 5) sc_four_with.nd rfl (by first | exact Or.inl rfl | exact Or.inr rfl))) dgs_nil))))))
    (dss_cons (ds_lcSet (ps_lcN (i := 6) rfl sc_four_with.nd rfl rfl rfl (di_enumA rfl Z.n_enumerate (da_cons (de_var (pv 0)) da_nil)) (own := [("at", 8), ("row", 9)]) (blkO rfl) (by decide) (fun s H C cl fp => (dg_tup rfl (dgs_cons (dg_name (pg_name (i := 8) sc_four_with.nd rfl (by first | exact Or.inl rfl | exact Or.inr rfl))) (dgs_cons (dg_name (pg_name (i := 9) sc_four_with.nd rfl (by first | exact Or.inl rfl | exact Or.inr rfl))) dgs_nil)))) (fun s H C cl fp => (dts_one (dt_val (user_call ((ok_is_bent Z TT).up (by decide)) hr gd rfl Z.g_is_bent Z.F_is_bent.kp (b_is_bent Z) (da_cons (de_var (pv 9)) (da_cons (de_var (pv 1)) da_nil)))))) (fun s H C cl fp => (de_var (pv 8)))))
    (dss_cons (ds_lcSet (ps_lcN (i := 7) rfl sc_four_with.nd rfl rfl rfl (di_enumA rfl Z.n_enumerate (da_cons (de_var (pv 0)) da_nil)) (own := [("at", 8), ("row", 9)]) (blkO rfl) (by decide) (fun s H C cl fp => (dg_tup rfl (dgs_cons (dg_name (pg_name (i := 8) sc_four_with.nd rfl (by first | exact Or.inl rfl | exact Or.inr rfl))) (dgs_cons (dg_name (pg_name (i := 9) sc_four_with.nd rfl (by first | exact Or.inl rfl | exact Or.inr rfl))) dgs_nil)))) (fun s H C cl fp => (dts_one (dt_val (user_call ((ok_is_bent Z TT).up (by decide)) hr gd rfl Z.g_is_bent Z.F_is_bent.kp (b_is_bent Z) (da_cons (de_var (pv 9)) (da_cons (de_tup (da_cons (de_var (pv 4)) (da_cons (de_var (pv 3)) (da_cons (de_var (pv 2)) (da_cons (de_var (pv 5)) da_nil))))) da_nil)))))) (fun s H C cl fp => (de_var (pv 8)))))
    (dss_one (ds_ret (de_if (dt_w (dw_and (dt_cmp (od_ne (ru hr)) (de_var (pv 6)) (de_n (dn_lst da_nil)) (nomark _)) (dw_and1 (dt_cmp (od_ne (ru hr)) (de_var (pv 7)) (de_n (dn_lst da_nil)) (nomark _))))) (de_tup (da_cons (de_ix (ru5 hr) (de_var (pv 6)) de_int (fun _ _ => rfl)) (da_cons (de_ix (ru5 hr) (de_var (pv 7)) de_int (fun _ _ => rfl)) da_nil))) de_non))))))
theorem sc_four_in : FnScope ["book", "places", "size", "a", "b", "c", "d", "pair", "ballot", "one"] ["book"] (defScope st_four_in) := ⟨rfl, rfl, rfl, by decide +kernel, rfl, by decide +kernel, by decide +kernel⟩
theorem b_four_in (Z : W K mg) : Binds K Z.d_four_in ["book"] [] := Z.F_four_in.bindsN fun _ _ _ _ _ _ us hl => match us, hl with | [_], _ => rfl
theorem ok_four_in (Z : W K mg) (TT : TB Z base) : FnG PP w K mg base CX0 3 Z.f_four_in Z.d_four_in ["book"] (spD ⟨K, mg, PP, w⟩ F_four_in) :=
  fnG_ok Z.F_four_in sc_four_in fun cdv A outer s H E hr gd =>
    (dss_cons (ds_par2 rfl sc_four_in.nd (i := 1) (j := 2) rfl rfl (by decide) rfl rfl (dp_v (de_n (dn_lc rfl sc_four_in.nd (di_seq (de_fld (de_var (pv 0)) Z.k_Book (clsB_ok Z.q_Book).1 (slotB_ok Z.u0_Book).choose_spec)) (own := [("ballot", 8)]) (blkO rfl) (by decide) (fun s H C cl fp => (dg_name (pg_name (i := 8) sc_four_in.nd rfl (by first | exact Or.inl rfl | exact Or.inr rfl)))) (fun s H C cl fp => dts_nil) (fun s H C cl fp => (user_call ((ok_places_in Z TT).up (by decide)) hr gd rfl Z.g_places_in Z.F_places_in.kp (b_places_in Z) (da_cons (de_var (pv 8)) da_nil)))))) (dp_v (de_fld (de_var (pv 0)) Z.k_Book (clsB_ok Z.q_Book).1 (slotB_ok Z.u1_Book).choose_spec)) rfl)
    (dss_cons (ds_for PassesOwn.never rfl (di_range1 rfl Z.n_range (da_cons (de_var (pv 2)) da_nil)) (dg_name (pg_name (i := 3) sc_four_in.nd rfl (by first | exact Or.inl rfl | exact Or.inr rfl)))
    (dss_one (ds_for PassesOwn.never rfl (di_seq (de_n (dn_lc rfl sc_four_in.nd (di_range1 rfl Z.n_range (da_cons (de_var (pv 2)) da_nil)) (own := [("one", 9)]) (blkO rfl) (by decide) (fun s H C cl fp => (dg_name (pg_name (i := 9) sc_four_in.nd rfl (by first | exact Or.inl rfl | exact Or.inr rfl)))) (fun s H C cl fp => (dts_one (dt_cmp (od_ne (ru hr)) (de_var (pv 9)) (de_var (pv 3)) (nomark _)))) (fun s H C cl fp => (de_var (pv 9)))))) (dg_name (pg_name (i := 4) sc_four_in.nd rfl (by first | exact Or.inl rfl | exact Or.inr rfl)))
    (dss_one (ds_for PassesOwn.never rfl (di_seq (de_n (dn_lc rfl sc_four_in.nd (di_range1 rfl Z.n_range (da_cons (de_var (pv 2)) da_nil)) (own := [("one", 9)]) (blkO rfl) (by decide) (fun s H C cl fp => (dg_name (pg_name (i := 9) sc_four_in.nd rfl (by first | exact Or.inl rfl | exact Or.inr rfl)))) (fun s H C cl fp => (dts_one (dt_cmp (od_notIn (ru5 hr)) (de_var (pv 9)) (de_tup (da_cons (de_var (pv 3)) (da_cons (de_var (pv 4)) da_nil))) (by with_unfolding_all rfl)))) (fun s H C cl fp => (de_var (pv 9)))))) (dg_name (pg_name (i := 5) sc_four_in.nd rfl (by first | exact Or.inl rfl | exact Or.inr rfl)))
    (dss_one (ds_for PassesOwn.never rfl (di_seq (de_n (dn_lc rfl sc_four_in.nd (di_range1 rfl Z.n_range (da_cons (de_var (pv 2)) da_nil)) (own := [("one", 9)]) (blkO rfl) (by decide) (fun s H C cl fp => (dg_name (pg_name (i := 9) sc_four_in.nd rfl (by first | exact Or.inl rfl | exact Or.inr rfl)))) (fun s H C cl fp => (dts_one (dt_cmp (od_notIn (ru5 hr)) (de_var (pv 9)) (de_tup (da_cons (de_var (pv 3)) (da_cons (de_var (pv 4)) (da_cons (de_var (pv 5)) da_nil)))) (by with_unfolding_all rfl)))) (fun s H C cl fp => (de_var (pv 9)))))) (dg_name (pg_name (i := 6) sc_four_in.nd rfl (by first | exact Or.inl rfl | exact Or.inr rfl)))
    (dss_cons (ds_set (i := 7) sc_four_in.nd rfl (by first | exact Or.inl rfl | exact Or.inr rfl) (user_call ((ok_four_with Z TT).up (by decide)) hr gd rfl Z.g_four_with Z.F_four_with.kp (b_four_with Z) (da_cons (de_var (pv 1)) (da_cons (de_tup (da_cons (de_var (pv 3)) (da_cons (de_var (pv 4)) (da_cons (de_var (pv 5)) (da_cons (de_var (pv 6)) da_nil))))) da_nil))))
    (dss_one (ds_if (dt_cmp od_notN (de_var (pv 7)) de_non (nomark _))
    (dss_one (ds_ret (de_tup (da_cons (de_gstr rfl Z.c_FOUR) (da_cons (de_tup (da_cons (de_var (pv 3)) (da_cons (de_var (pv 4)) (da_cons (de_var (pv 5)) (da_cons (de_var (pv 6)) da_nil))))) (da_cons (de_var (pv 7)) da_nil))))))
    dss_nil))))))))))
    (dss_one (ds_ret de_non))))
theorem sc_bar_in : FnScope ["book", "three"] ["book"] (defScope st_bar_in) := ⟨rfl, rfl, rfl, by decide +kernel, rfl, by decide +kernel, by decide +kernel⟩
theorem b_bar_in (Z : W K mg) : Binds K Z.d_bar_in ["book"] [] := Z.F_bar_in.bindsN fun _ _ _ _ _ _ us hl => match us, hl with | [_], _ => rfl
theorem ok_bar_in (Z : W K mg) (TT : TB Z base) : FnG PP w K mg base CX0 5 Z.f_bar_in Z.d_bar_in ["book"] (spD ⟨K, mg, PP, w⟩ F_bar_in) :=
  fnG_ok Z.F_bar_in sc_bar_in fun cdv A outer s H E hr gd =>
    (dss_cons (ds_set (i := 1) sc_bar_in.nd rfl (by first | exact Or.inl rfl | exact Or.inr rfl) (user_call ((ok_three_in Z TT).up (by decide)) hr gd rfl Z.g_three_in Z.F_three_in.kp (b_three_in Z) (da_cons (de_var (pv 0)) da_nil)))
    (dss_one (ds_ret (de_if (dt_cmp od_notN (de_var (pv 1)) de_non (nomark _)) (de_var (pv 1)) (user_call ((ok_four_in Z TT).up (by decide)) hr gd rfl Z.g_four_in Z.F_four_in.kp (b_four_in Z) (da_cons (de_var (pv 0)) da_nil))))))
theorem sc_paper_in : FnScope ["book", "axis"] ["book"] (defScope st_paper_in) := ⟨rfl, rfl, rfl, by decide +kernel, rfl, by decide +kernel, by decide +kernel⟩
theorem b_paper_in (Z : W K mg) : Binds K Z.d_paper_in ["book"] [] := Z.F_paper_in.bindsN fun _ _ _ _ _ _ us hl => match us, hl with | [_], _ => rfl
theorem ok_paper_in (Z : W K mg) (TT : TB Z base) : FnG PP w K mg base CX0 6 Z.f_paper_in Z.d_paper_in ["book"] (spD ⟨K, mg, PP, w⟩ F_paper_in) :=
  fnG_ok Z.F_paper_in sc_paper_in fun cdv A outer s H E hr gd =>
    (dss_cons (ds_set (i := 1) sc_paper_in.nd rfl (by first | exact Or.inl rfl | exact Or.inr rfl) (user_call ((ok_axis_in Z TT).up (by decide)) hr gd rfl Z.g_axis_in Z.F_axis_in.kp (b_axis_in Z) (da_cons (de_var (pv 0)) da_nil)))
    (dss_one (ds_ret (de_if (dt_cmp od_notN (de_var (pv 1)) de_non (nomark _)) (de_tup (da_cons (de_gstr rfl Z.c_AXIS) (da_cons (de_var (pv 1)) da_nil))) (user_call ((ok_bar_in Z TT).up (by decide)) hr gd rfl Z.g_bar_in Z.F_bar_in.kp (b_bar_in Z) (da_cons (de_var (pv 0)) da_nil))))))
theorem okx_paper_in (Z : W K mg) (TT : TB Z base) : FnG PP w K mg base (L2.CX PP w) 6 Z.f_paper_in Z.d_paper_in ["book"] (spX ⟨K, mg, PP, w⟩ X_paper_in) :=
  fnX_ok Z.F_paper_in sc_paper_in fun cdv A outer s H E hr gd tk =>
    (sxs_head (sx_set (i := 1) sc_paper_in.nd rfl (by first | exact Or.inl rfl | exact Or.inr rfl) (ex_user ((okx_axis_in Z TT).up (by decide)) hr gd tk rfl Z.g_axis_in Z.F_axis_in.kp (b_axis_in Z) (da_cons (de_var (pv 0)) da_nil))))
theorem sc_axis_paper : FnScope ["book"] ["book"] (defScope st_axis_paper) := ⟨rfl, rfl, rfl, by decide +kernel, rfl, by decide +kernel, by decide +kernel⟩
theorem b_axis_paper (Z : W K mg) : Binds K Z.d_axis_paper ["book"] [] := Z.F_axis_paper.bindsN fun _ _ _ _ _ _ us hl => match us, hl with | [_], _ => rfl
theorem ok_axis_paper (Z : W K mg) (TT : TB Z base) : FnG PP w K mg base CX0 7 Z.f_axis_paper Z.d_axis_paper ["book"] (spD ⟨K, mg, PP, w⟩ F_axis_paper) :=
  fnG_ok Z.F_axis_paper sc_axis_paper fun cdv A outer s H E hr gd =>
    (dss_cons (ds_expr (user_call ((ok_require_book Z TT).up (by decide)) hr gd rfl Z.g_require_book Z.F_require_book.kp (b_require_book Z) (da_cons (de_var (pv 0)) da_nil)))
    (dss_one (ds_ret (user_call ((ok_paper_in Z TT).up (by decide)) hr gd rfl Z.g_paper_in Z.F_paper_in.kp (b_paper_in Z) (da_cons (de_var (pv 0)) da_nil)))))
theorem okx_axis_paper (Z : W K mg) (TT : TB Z base) : FnG PP w K mg base (L2.CX PP w) 7 Z.f_axis_paper Z.d_axis_paper ["book"] (spX ⟨K, mg, PP, w⟩ X_axis_paper) :=
  fnX_ok Z.F_axis_paper sc_axis_paper fun cdv A outer s H E hr gd tk =>
    (sxs_or (sxs_head (sx_expr (ex_user ((okx_require_book Z TT).up (by decide)) hr gd tk rfl Z.g_require_book Z.F_require_book.kp (b_require_book Z) (da_cons (de_var (pv 0)) da_nil))))
    (sxs_next (ds_expr (user_call ((ok_require_book Z TT).up (by decide)) hr gd rfl Z.g_require_book Z.F_require_book.kp (b_require_book Z) (da_cons (de_var (pv 0)) da_nil)))
    (sxs_head (sx_ret (ex_user ((okx_paper_in Z TT).up (by decide)) hr gd tk rfl Z.g_paper_in Z.F_paper_in.kp (b_paper_in Z) (da_cons (de_var (pv 0)) da_nil))))))
theorem sc_are_indices : FnScope ["book", "value", "many", "index"] ["book", "value", "many"] (defScope st_are_indices) := ⟨rfl, rfl, rfl, by decide +kernel, rfl, by decide +kernel, by decide +kernel⟩
theorem b_are_indices (Z : W K mg) : Binds K Z.d_are_indices ["book", "value", "many"] [] := Z.F_are_indices.bindsN fun _ _ _ _ _ _ us hl => match us, hl with | [_, _, _], _ => rfl
theorem ok_are_indices (Z : W K mg) (TT : TB Z base) : FnG PP w K mg base CX0 3 Z.f_are_indices Z.d_are_indices ["book", "value", "many"] (spD ⟨K, mg, PP, w⟩ F_are_indices) :=
  fnG_ok Z.F_are_indices sc_are_indices fun cdv A outer s H E hr gd =>
    (dss_cons (ds_if (dt_w (dw_or (dt_not (dt_val (de_isi (by decide) rfl Z.n_isinstance (de_var (pv 1)) rfl Z.n_tuple (by decide +kernel) (by decide +kernel)))) (dw_or1 (dt_cmp (od_ne (ru hr)) (de_callB cd_len rfl Z.n_len (by decide +kernel) (da_cons (de_var (pv 1)) da_nil)) (de_var (pv 2)) (nomark _)))))
    (dss_one (ds_ret de_bl))
    dss_nil)
    (dss_one (ds_ret (de_callB (cd_all rfl) rfl Z.n_all (by decide +kernel) (da_cons (de_n (dn_lc rfl sc_are_indices.nd (di_seq (de_var (pv 1))) (own := [("index", 3)]) (blkO rfl) (by decide) (fun s H C cl fp => (dg_name (pg_name (i := 3) sc_are_indices.nd rfl (by first | exact Or.inl rfl | exact Or.inr rfl)))) (fun s H C cl fp => dts_nil) (fun s H C cl fp => (user_call ((ok_is_within Z TT).up (by decide)) hr gd rfl Z.g_is_within Z.F_is_within.kp (b_is_within Z) (da_cons (de_var (pv 3)) (da_cons de_int (da_cons (de_bin od_sub (de_callB cd_len rfl Z.n_len (by decide +kernel) (da_cons (de_fld (de_var (pv 0)) Z.k_Book (clsB_ok Z.q_Book).1 (slotB_ok Z.u0_Book).choose_spec) da_nil)) de_int) da_nil))))))) da_nil)))))
theorem sc_are_options : FnScope ["size", "value", "many", "one"] ["size", "value", "many"] (defScope st_are_options) := ⟨rfl, rfl, rfl, by decide +kernel, rfl, by decide +kernel, by decide +kernel⟩
theorem b_are_options (Z : W K mg) : Binds K Z.d_are_options ["size", "value", "many"] [] := Z.F_are_options.bindsN fun _ _ _ _ _ _ us hl => match us, hl with | [_, _, _], _ => rfl
theorem ok_are_options (Z : W K mg) (TT : TB Z base) : FnG PP w K mg base CX0 4 Z.f_are_options Z.d_are_options ["size", "value", "many"] (spD ⟨K, mg, PP, w⟩ F_are_options) :=
  fnG_ok Z.F_are_options sc_are_options fun cdv A outer s H E hr gd =>
    (dss_cons (ds_if (dt_w (dw_or (dt_not (dt_val (de_isi (by decide) rfl Z.n_isinstance (de_var (pv 1)) rfl Z.n_tuple (by decide +kernel) (by decide +kernel)))) (dw_or (dt_cmp (od_ne (ru hr)) (de_callB cd_len rfl Z.n_len (by decide +kernel) (da_cons (de_var (pv 1)) da_nil)) (de_var (pv 2)) (nomark _)) (dw_or1 (dt_not (dt_val (de_callB (cd_all rfl) rfl Z.n_all (by decide +kernel) (da_cons (de_n (dn_lc rfl sc_are_options.nd (di_seq (de_var (pv 1))) (own := [("one", 3)]) (blkO rfl) (by decide) (fun s H C cl fp => (dg_name (pg_name (i := 3) sc_are_options.nd rfl (by first | exact Or.inl rfl | exact Or.inr rfl)))) (fun s H C cl fp => dts_nil) (fun s H C cl fp => (user_call ((ok_is_option Z TT).up (by decide)) hr gd rfl Z.g_is_option Z.F_is_option.kp (b_is_option Z) (da_cons (de_var (pv 0)) (da_cons (de_var (pv 3)) da_nil)))))) da_nil))))))))
    (dss_one (ds_ret de_bl))
    dss_nil)
    (dss_one (ds_ret (de_cmp (od_eq (ru hr)) (de_callB cd_lenS rfl Z.n_len (by decide +kernel) (da_cons (de_callTy (cd_setA rfl) rfl Z.n_set (by decide +kernel) (da_cons (de_var (pv 1)) da_nil)) da_nil)) (de_var (pv 2)) (nomark _)))))
theorem sc_is_lot_of : FnScope ["size", "value", "one", "other"] ["size", "value"] (defScope st_is_lot_of) := ⟨rfl, rfl, rfl, by decide +kernel, rfl, by decide +kernel, by decide +kernel⟩
theorem b_is_lot_of (Z : W K mg) : Binds K Z.d_is_lot_of ["size", "value"] [] := Z.F_is_lot_of.bindsN fun _ _ _ _ _ _ us hl => match us, hl with | [_, _], _ => rfl
theorem ok_is_lot_of (Z : W K mg) (TT : TB Z base) : FnG PP w K mg base CX0 4 Z.f_is_lot_of Z.d_is_lot_of ["size", "value"] (spD ⟨K, mg, PP, w⟩ F_is_lot_of) :=
  fnG_ok Z.F_is_lot_of sc_is_lot_of fun cdv A outer s H E hr gd =>
    (dss_cons (ds_if (dt_w (dw_or (dt_not (dt_val (de_isi (by decide) rfl Z.n_isinstance (de_var (pv 1)) rfl Z.n_tuple (by decide +kernel) (by decide +kernel)))) (dw_or1 (dt_not (dt_val (de_callB (cd_all rfl) rfl Z.n_all (by decide +kernel) (da_cons (de_n (dn_lc rfl sc_is_lot_of.nd (di_seq (de_var (pv 1))) (own := [("one", 2)]) (blkO rfl) (by decide) (fun s H C cl fp => (dg_name (pg_name (i := 2) sc_is_lot_of.nd rfl (by first | exact Or.inl rfl | exact Or.inr rfl)))) (fun s H C cl fp => dts_nil) (fun s H C cl fp => (user_call ((ok_is_option Z TT).up (by decide)) hr gd rfl Z.g_is_option Z.F_is_option.kp (b_is_option Z) (da_cons (de_var (pv 0)) (da_cons (de_var (pv 2)) da_nil)))))) da_nil)))))))
    (dss_one (ds_ret de_bl))
    dss_nil)
    (dss_one (ds_ret (de_callB (cd_all rfl) rfl Z.n_all (by decide +kernel) (da_cons (de_n (dn_lc rfl sc_is_lot_of.nd (di_zip rfl Z.n_zip (da_cons (de_var (pv 1)) (da_cons (de_sl (de_var (pv 1)) (do_some de_int) do_none) da_nil))) (own := [("one", 2), ("other", 3)]) (blkO rfl) (by decide) (fun s H C cl fp => (dg_tup rfl (dgs_cons (dg_name (pg_name (i := 2) sc_is_lot_of.nd rfl (by first | exact Or.inl rfl | exact Or.inr rfl))) (dgs_cons (dg_name (pg_name (i := 3) sc_is_lot_of.nd rfl (by first | exact Or.inl rfl | exact Or.inr rfl))) dgs_nil)))) (fun s H C cl fp => dts_nil) (fun s H C cl fp => (de_cmp (od_ltA (ru hr)) (de_var (pv 2)) (de_var (pv 3)) (nomark _))))) da_nil)))))
theorem sc_is_three_bar : FnScope ["book", "three", "ballots", "option", "index", "place", "one"] ["book", "three", "ballots"] (defScope st_is_three_bar) := ⟨rfl, rfl, rfl, by decide +kernel, rfl, by decide +kernel, by decide +kernel⟩
theorem b_is_three_bar (Z : W K mg) : Binds K Z.d_is_three_bar ["book", "three", "ballots"] [] := Z.F_is_three_bar.bindsN fun _ _ _ _ _ _ us hl => match us, hl with | [_, _, _], _ => rfl
theorem ok_is_three_bar (Z : W K mg) (TT : TB Z base) : FnG PP w K mg base CX0 5 Z.f_is_three_bar Z.d_is_three_bar ["book", "three", "ballots"] (spD ⟨K, mg, PP, w⟩ F_is_three_bar) :=
  fnG_ok Z.F_is_three_bar sc_is_three_bar fun cdv A outer s H E hr gd =>
    (dss_cons (ds_if (dt_w (dw_or (dt_not (dt_val (user_call ((ok_are_options Z TT).up (by decide)) hr gd rfl Z.g_are_options Z.F_are_options.kp (b_are_options Z) (da_cons (de_fld (de_var (pv 0)) Z.k_Book (clsB_ok Z.q_Book).1 (slotB_ok Z.u1_Book).choose_spec) (da_cons (de_var (pv 1)) (da_cons de_int da_nil)))))) (dw_or1 (dt_not (dt_val (user_call ((ok_is_lot_of Z TT).up (by decide)) hr gd rfl Z.g_is_lot_of Z.F_is_lot_of.kp (b_is_lot_of Z) (da_cons (de_fld (de_var (pv 0)) Z.k_Book (clsB_ok Z.q_Book).1 (slotB_ok Z.u1_Book).choose_spec) (da_cons (de_var (pv 1)) da_nil))))))))
    (dss_one (ds_ret de_bl))
    dss_nil)
    (dss_cons (ds_if (dt_not (dt_val (user_call ((ok_are_indices Z TT).up (by decide)) hr gd rfl Z.g_are_indices Z.F_are_indices.kp (b_are_indices Z) (da_cons (de_var (pv 0)) (da_cons (de_var (pv 2)) (da_cons de_int da_nil))))))
    (dss_one (ds_ret de_bl))
    dss_nil)
    (dss_cons (ds_for PassesOwn.never rfl (di_zip rfl Z.n_zip (da_cons (de_var (pv 1)) (da_cons (de_var (pv 2)) da_nil))) (dg_tup rfl (dgs_cons (dg_name (pg_name (i := 3) sc_is_three_bar.nd rfl (by first | exact Or.inl rfl | exact Or.inr rfl))) (dgs_cons (dg_name (pg_name (i := 4) sc_is_three_bar.nd rfl (by first | exact Or.inl rfl | exact Or.inr rfl))) dgs_nil)))
    (dss_cons (ds_set (i := 5) sc_is_three_bar.nd rfl (by first | exact Or.inl rfl | exact Or.inr rfl) (user_call ((ok_places_in Z TT).up (by decide)) hr gd rfl Z.g_places_in Z.F_places_in.kp (b_places_in Z) (da_cons (de_ix (ru5 hr) (de_fld (de_var (pv 0)) Z.k_Book (clsB_ok Z.q_Book).1 (slotB_ok Z.u0_Book).choose_spec) (de_var (pv 4)) (fun _ _ => rfl)) da_nil)))
    (dss_one (ds_if (dt_cmp (od_ne (ru hr)) (de_callB (cd_maxA rfl (ru hr)) rfl Z.n_max (by decide +kernel) (da_cons (de_n (dn_lc rfl sc_is_three_bar.nd (di_seq (de_var (pv 1))) (own := [("one", 6)]) (blkO rfl) (by decide) (fun s H C cl fp => (dg_name (pg_name (i := 6) sc_is_three_bar.nd rfl (by first | exact Or.inl rfl | exact Or.inr rfl)))) (fun s H C cl fp => dts_nil) (fun s H C cl fp => (de_ix (ru5 hr) (de_var (pv 5)) (de_var (pv 6)) (fun _ _ => rfl))))) da_nil)) (de_ix (ru5 hr) (de_var (pv 5)) (de_var (pv 3)) (fun _ _ => rfl)) (nomark _))
    (dss_one (ds_ret de_bl))
    dss_nil))))
    (dss_one (ds_ret de_bl)))))
theorem sc_is_four_bar : FnScope ["book", "four", "ballots", "a", "b", "c", "d", "first", "second", "index"] ["book", "four", "ballots"] (defScope st_is_four_bar) := ⟨rfl, rfl, rfl, by decide +kernel, rfl, by decide +kernel, by decide +kernel⟩
theorem b_is_four_bar (Z : W K mg) : Binds K Z.d_is_four_bar ["book", "four", "ballots"] [] := Z.F_is_four_bar.bindsN fun _ _ _ _ _ _ us hl => match us, hl with | [_, _, _], _ => rfl
theorem ok_is_four_bar (Z : W K mg) (TT : TB Z base) : FnG PP w K mg base CX0 5 Z.f_is_four_bar Z.d_is_four_bar ["book", "four", "ballots"] (spD ⟨K, mg, PP, w⟩ F_is_four_bar) :=
  fnG_ok Z.F_is_four_bar sc_is_four_bar fun cdv A outer s H E hr gd =>
    (dss_cons (ds_if (dt_w (dw_or (dt_not (dt_val (user_call ((ok_are_options Z TT).up (by decide)) hr gd rfl Z.g_are_options Z.F_are_options.kp (b_are_options Z) (da_cons (de_fld (de_var (pv 0)) Z.k_Book (clsB_ok Z.q_Book).1 (slotB_ok Z.u1_Book).choose_spec) (da_cons (de_var (pv 1)) (da_cons de_int da_nil)))))) (dw_or1 (dt_not (dt_val (user_call ((ok_are_indices Z TT).up (by decide)) hr gd rfl Z.g_are_indices Z.F_are_indices.kp (b_are_indices Z) (da_cons (de_var (pv 0)) (da_cons (de_var (pv 2)) (da_cons de_int da_nil)))))))))
    (dss_one (ds_ret de_bl))
    dss_nil)
    (dss_cons (ds_asg (de_var (pv 1)) (dg_tup rfl (dgs_cons (dg_name (pg_name (i := 3) sc_is_four_bar.nd rfl (by first | exact Or.inl rfl | exact Or.inr rfl))) (dgs_cons (dg_name (pg_name (i := 4) sc_is_four_bar.nd rfl (by first | exact Or.inl rfl | exact Or.inr rfl))) (dgs_cons (dg_name (pg_name (i := 5) sc_is_four_bar.nd rfl (by first | exact Or.inl rfl | exact Or.inr rfl))) (dgs_cons (dg_name (pg_name (i := 6) sc_is_four_bar.nd rfl (by first | exact Or.inl rfl | exact Or.inr rfl))) dgs_nil))))))
    (dss_cons (ds_asg (de_n (dn_lc rfl sc_is_four_bar.nd (di_seq (de_var (pv 2))) (own := [("index", 9)]) (blkO rfl) (by decide) (fun s H C cl fp => (dg_name (pg_name (i := 9) sc_is_four_bar.nd rfl (by first | exact Or.inl rfl | exact Or.inr rfl)))) (fun s H C cl fp => dts_nil) (fun s H C cl fp => (user_call ((ok_places_in Z TT).up (by decide)) hr gd rfl Z.g_places_in Z.F_places_in.kp (b_places_in Z) (da_cons (de_ix (ru5 hr) (de_fld (de_var (pv 0)) Z.k_Book (clsB_ok Z.q_Book).1 (slotB_ok Z.u0_Book).choose_spec) (de_var (pv 9)) (fun _ _ => rfl)) da_nil))))) (dg_lst rfl (dgs_cons (dg_name (pg_name (i := 7) sc_is_four_bar.nd rfl (by first | exact Or.inl rfl | exact Or.inr rfl))) (dgs_cons (dg_name (pg_name (i := 8) sc_is_four_bar.nd rfl (by first | exact Or.inl rfl | exact Or.inr rfl))) dgs_nil))))
    (dss_one (ds_ret (de_and (user_call ((ok_is_bent Z TT).up (by decide)) hr gd rfl Z.g_is_bent Z.F_is_bent.kp (b_is_bent Z) (da_cons (de_var (pv 7)) (da_cons (de_var (pv 1)) da_nil))) (de_one (user_call ((ok_is_bent Z TT).up (by decide)) hr gd rfl Z.g_is_bent Z.F_is_bent.kp (b_is_bent Z) (da_cons (de_var (pv 8)) (da_cons (de_tup (da_cons (de_var (pv 5)) (da_cons (de_var (pv 4)) (da_cons (de_var (pv 3)) (da_cons (de_var (pv 6)) da_nil))))) da_nil))))))))))
theorem sc_is_bar_in : FnScope ["book", "value"] ["book", "value"] (defScope st_is_bar_in) := ⟨rfl, rfl, rfl, by decide +kernel, rfl, by decide +kernel, by decide +kernel⟩
theorem b_is_bar_in (Z : W K mg) : Binds K Z.d_is_bar_in ["book", "value"] [] := Z.F_is_bar_in.bindsN fun _ _ _ _ _ _ us hl => match us, hl with | [_, _], _ => rfl
theorem ok_is_bar_in (Z : W K mg) (TT : TB Z base) : FnG PP w K mg base CX0 6 Z.f_is_bar_in Z.d_is_bar_in ["book", "value"] (spD ⟨K, mg, PP, w⟩ F_is_bar_in) :=
  fnG_ok Z.F_is_bar_in sc_is_bar_in fun cdv A outer s H E hr gd =>
    (dss_cons (ds_if (dt_w (dw_or (dt_not (dt_val (de_isi (by decide) rfl Z.n_isinstance (de_var (pv 1)) rfl Z.n_tuple (by decide +kernel) (by decide +kernel)))) (dw_or (dt_cmp (od_ne (ru hr)) (de_callB cd_len rfl Z.n_len (by decide +kernel) (da_cons (de_var (pv 1)) da_nil)) de_int (nomark _)) (dw_or1 (dt_not (dt_val (de_isi (by decide) rfl Z.n_isinstance (de_ix (ru5 hr) (de_var (pv 1)) de_int (fun _ _ => rfl)) rfl Z.n_str (by decide +kernel) (by decide +kernel))))))))
    (dss_one (ds_ret de_bl))
    dss_nil)
    (dss_cons (ds_if (dt_cmp (od_eq (ru hr)) (de_ix (ru5 hr) (de_var (pv 1)) de_int (fun _ _ => rfl)) (de_gstr rfl Z.c_THREE) (nomark _))
    (dss_one (ds_ret (user_call ((ok_is_three_bar Z TT).up (by decide)) hr gd rfl Z.g_is_three_bar Z.F_is_three_bar.kp (b_is_three_bar Z) (da_cons (de_var (pv 0)) (da_cons (de_ix (ru5 hr) (de_var (pv 1)) de_int (fun _ _ => rfl)) (da_cons (de_ix (ru5 hr) (de_var (pv 1)) de_int (fun _ _ => rfl)) da_nil))))))
    dss_nil)
    (dss_one (ds_ret (de_and (de_cmp (od_eq (ru hr)) (de_ix (ru5 hr) (de_var (pv 1)) de_int (fun _ _ => rfl)) (de_gstr rfl Z.c_FOUR) (nomark _)) (de_one (user_call ((ok_is_four_bar Z TT).up (by decide)) hr gd rfl Z.g_is_four_bar Z.F_is_four_bar.kp (b_is_four_bar Z) (da_cons (de_var (pv 0)) (da_cons (de_ix (ru5 hr) (de_var (pv 1)) de_int (fun _ _ => rfl)) (da_cons (de_ix (ru5 hr) (de_var (pv 1)) de_int (fun _ _ => rfl)) da_nil))))))))))
theorem sc_is_peaked_in : FnScope ["axis", "ballot", "places", "ranks", "at", "option"] ["axis", "ballot"] (defScope st_is_peaked_in) := ⟨rfl, rfl, rfl, by decide +kernel, rfl, by decide +kernel, by decide +kernel⟩
theorem b_is_peaked_in (Z : W K mg) : Binds K Z.d_is_peaked_in ["axis", "ballot"] [] := Z.F_is_peaked_in.bindsN fun _ _ _ _ _ _ us hl => match us, hl with | [_, _], _ => rfl
theorem ok_is_peaked_in (Z : W K mg) (TT : TB Z base) : FnG PP w K mg base CX0 2 Z.f_is_peaked_in Z.d_is_peaked_in ["axis", "ballot"] (spD ⟨K, mg, PP, w⟩ F_is_peaked_in) :=
  fnG_ok Z.F_is_peaked_in sc_is_peaked_in fun cdv A outer s H E hr gd =>
    (dss_cons (ds_set (i := 2) sc_is_peaked_in.nd rfl (by first | exact Or.inl rfl | exact Or.inr rfl) (user_call ((ok_places_in Z TT).up (by decide)) hr gd rfl Z.g_places_in Z.F_places_in.kp (b_places_in Z) (da_cons (de_var (pv 1)) da_nil)))
    (dss_cons (ds_lcSet (ps_lcN (i := 3) rfl sc_is_peaked_in.nd rfl rfl rfl (di_seq (de_var (pv 0))) (own := [("option", 5)]) (blkO rfl) (by decide) (fun s H C cl fp => (dg_name (pg_name (i := 5) sc_is_peaked_in.nd rfl (by first | exact Or.inl rfl | exact Or.inr rfl)))) (fun s H C cl fp => dts_nil) (fun s H C cl fp => (de_ix (ru5 hr) (de_var (pv 2)) (de_var (pv 5)) (fun _ _ => rfl)))))
    (dss_cons (ds_for PassesOwn.never rfl (di_range2 rfl Z.n_range (da_cons de_int (da_cons (de_bin od_sub (de_callB cd_len rfl Z.n_len (by decide +kernel) (da_cons (de_var (pv 3)) da_nil)) de_int) da_nil))) (dg_name (pg_name (i := 4) sc_is_peaked_in.nd rfl (by first | exact Or.inl rfl | exact Or.inr rfl)))
    (dss_one (ds_if (dt_w (dw_and (dt_cmp (od_gtA (ru hr)) (de_ix (ru5 hr) (de_var (pv 3)) (de_var (pv 4)) (fun _ _ => rfl)) (de_ix (ru5 hr) (de_var (pv 3)) (de_bin od_sub (de_var (pv 4)) de_int) (fun _ _ => rfl)) (nomark _)) (dw_and1 (dt_cmp (od_gtA (ru hr)) (de_ix (ru5 hr) (de_var (pv 3)) (de_var (pv 4)) (fun _ _ => rfl)) (de_ix (ru5 hr) (de_var (pv 3)) (de_bin od_add (de_var (pv 4)) de_int) (fun _ _ => rfl)) (nomark _)))))
    (dss_one (ds_ret de_bl))
    dss_nil)))
    (dss_one (ds_ret de_bl)))))
theorem sc_are_peaked_in : FnScope ["book", "axis", "ballot"] ["book", "axis"] (defScope st_are_peaked_in) := ⟨rfl, rfl, rfl, by decide +kernel, rfl, by decide +kernel, by decide +kernel⟩
theorem b_are_peaked_in (Z : W K mg) : Binds K Z.d_are_peaked_in ["book", "axis"] [] := Z.F_are_peaked_in.bindsN fun _ _ _ _ _ _ us hl => match us, hl with | [_, _], _ => rfl
theorem ok_are_peaked_in (Z : W K mg) (TT : TB Z base) : FnG PP w K mg base CX0 3 Z.f_are_peaked_in Z.d_are_peaked_in ["book", "axis"] (spD ⟨K, mg, PP, w⟩ F_are_peaked_in) :=
  fnG_ok Z.F_are_peaked_in sc_are_peaked_in fun cdv A outer s H E hr gd =>
    (dss_one (ds_ret (de_callB (cd_all rfl) rfl Z.n_all (by decide +kernel) (da_cons (de_n (dn_lc rfl sc_are_peaked_in.nd (di_seq (de_fld (de_var (pv 0)) Z.k_Book (clsB_ok Z.q_Book).1 (slotB_ok Z.u0_Book).choose_spec)) (own := [("ballot", 2)]) (blkO rfl) (by decide) (fun s H C cl fp => (dg_name (pg_name (i := 2) sc_are_peaked_in.nd rfl (by first | exact Or.inl rfl | exact Or.inr rfl)))) (fun s H C cl fp => dts_nil) (fun s H C cl fp => (user_call ((ok_is_peaked_in Z TT).up (by decide)) hr gd rfl Z.g_is_peaked_in Z.F_is_peaked_in.kp (b_is_peaked_in Z) (da_cons (de_var (pv 1)) (da_cons (de_var (pv 2)) da_nil)))))) da_nil))))
theorem sc_is_axis_paper : FnScope ["book", "value"] ["book", "value"] (defScope st_is_axis_paper) := ⟨rfl, rfl, rfl, by decide +kernel, rfl, by decide +kernel, by decide +kernel⟩
theorem b_is_axis_paper (Z : W K mg) : Binds K Z.d_is_axis_paper ["book", "value"] [] := Z.F_is_axis_paper.bindsN fun _ _ _ _ _ _ us hl => match us, hl with | [_, _], _ => rfl
theorem ok_is_axis_paper (Z : W K mg) (TT : TB Z base) : FnG PP w K mg base CX0 7 Z.f_is_axis_paper Z.d_is_axis_paper ["book", "value"] (spD ⟨K, mg, PP, w⟩ F_is_axis_paper) :=
  fnG_ok Z.F_is_axis_paper sc_is_axis_paper fun cdv A outer s H E hr gd =>
    (dss_cons (ds_expr (user_call ((ok_require_book Z TT).up (by decide)) hr gd rfl Z.g_require_book Z.F_require_book.kp (b_require_book Z) (da_cons (de_var (pv 0)) da_nil)))
    (dss_cons (ds_if (dt_w (dw_or (dt_not (dt_val (de_isi (by decide) rfl Z.n_isinstance (de_var (pv 1)) rfl Z.n_tuple (by decide +kernel) (by decide +kernel)))) (dw_or1 (dt_cmp (od_ne (ru hr)) (de_callB cd_len rfl Z.n_len (by decide +kernel) (da_cons (de_var (pv 1)) da_nil)) de_int (nomark _)))))
    (dss_one (ds_ret (user_call ((ok_is_bar_in Z TT).up (by decide)) hr gd rfl Z.g_is_bar_in Z.F_is_bar_in.kp (b_is_bar_in Z) (da_cons (de_var (pv 0)) (da_cons (de_var (pv 1)) da_nil)))))
    dss_nil)
    (dss_one (ds_ret (de_and (de_cmp (od_eq (ru hr)) (de_ix (ru5 hr) (de_var (pv 1)) de_int (fun _ _ => rfl)) (de_gstr rfl Z.c_AXIS) (nomark _)) (de_and (user_call ((ok_is_row_of Z TT).up (by decide)) hr gd rfl Z.g_is_row_of Z.F_is_row_of.kp (b_is_row_of Z) (da_cons (de_fld (de_var (pv 0)) Z.k_Book (clsB_ok Z.q_Book).1 (slotB_ok Z.u1_Book).choose_spec) (da_cons (de_ix (ru5 hr) (de_var (pv 1)) de_int (fun _ _ => rfl)) da_nil))) (de_one (user_call ((ok_are_peaked_in Z TT).up (by decide)) hr gd rfl Z.g_are_peaked_in Z.F_are_peaked_in.kp (b_are_peaked_in Z) (da_cons (de_var (pv 0)) (da_cons (de_ix (ru5 hr) (de_var (pv 1)) de_int (fun _ _ => rfl)) da_nil))))))))))
theorem okx_is_axis_paper (Z : W K mg) (TT : TB Z base) : FnG PP w K mg base (L2.CX PP w) 7 Z.f_is_axis_paper Z.d_is_axis_paper ["book", "value"] (spX ⟨K, mg, PP, w⟩ X_is_axis_paper) :=
  fnX_ok Z.F_is_axis_paper sc_is_axis_paper fun cdv A outer s H E hr gd tk =>
    (sxs_head (sx_expr (ex_user ((okx_require_book Z TT).up (by decide)) hr gd tk rfl Z.g_require_book Z.F_require_book.kp (b_require_book Z) (da_cons (de_var (pv 0)) da_nil))))
theorem sc_is_bar : FnScope ["book", "value"] ["book", "value"] (defScope st_is_bar) := ⟨rfl, rfl, rfl, by decide +kernel, rfl, by decide +kernel, by decide +kernel⟩
theorem b_is_bar (Z : W K mg) : Binds K Z.d_is_bar ["book", "value"] [] := Z.F_is_bar.bindsN fun _ _ _ _ _ _ us hl => match us, hl with | [_, _], _ => rfl
theorem ok_is_bar (Z : W K mg) (TT : TB Z base) : FnG PP w K mg base CX0 7 Z.f_is_bar Z.d_is_bar ["book", "value"] (spD ⟨K, mg, PP, w⟩ F_is_bar) :=
  fnG_ok Z.F_is_bar sc_is_bar fun cdv A outer s H E hr gd =>
    (dss_cons (ds_expr (user_call ((ok_require_book Z TT).up (by decide)) hr gd rfl Z.g_require_book Z.F_require_book.kp (b_require_book Z) (da_cons (de_var (pv 0)) da_nil)))
    (dss_one (ds_ret (user_call ((ok_is_bar_in Z TT).up (by decide)) hr gd rfl Z.g_is_bar_in Z.F_is_bar_in.kp (b_is_bar_in Z) (da_cons (de_var (pv 0)) (da_cons (de_var (pv 1)) da_nil))))))
theorem okx_is_bar (Z : W K mg) (TT : TB Z base) : FnG PP w K mg base (L2.CX PP w) 7 Z.f_is_bar Z.d_is_bar ["book", "value"] (spX ⟨K, mg, PP, w⟩ X_is_bar) :=
  fnX_ok Z.F_is_bar sc_is_bar fun cdv A outer s H E hr gd tk =>
    (sxs_head (sx_expr (ex_user ((okx_require_book Z TT).up (by decide)) hr gd tk rfl Z.g_require_book Z.F_require_book.kp (b_require_book Z) (da_cons (de_var (pv 0)) da_nil))))
theorem sc_first_three : FnScope ["book"] ["book"] (defScope st_first_three) := ⟨rfl, rfl, rfl, by decide +kernel, rfl, by decide +kernel, by decide +kernel⟩
theorem b_first_three (Z : W K mg) : Binds K Z.d_first_three ["book"] [] := Z.F_first_three.bindsN fun _ _ _ _ _ _ us hl => match us, hl with | [_], _ => rfl
theorem ok_first_three (Z : W K mg) (TT : TB Z base) : FnG PP w K mg base CX0 5 Z.f_first_three Z.d_first_three ["book"] (spD ⟨K, mg, PP, w⟩ F_first_three) :=
  fnG_ok Z.F_first_three sc_first_three fun cdv A outer s H E hr gd =>
    (dss_cons (ds_expr (user_call ((ok_require_book Z TT).up (by decide)) hr gd rfl Z.g_require_book Z.F_require_book.kp (b_require_book Z) (da_cons (de_var (pv 0)) da_nil)))
    (dss_one (ds_ret (user_call ((ok_three_in Z TT).up (by decide)) hr gd rfl Z.g_three_in Z.F_three_in.kp (b_three_in Z) (da_cons (de_var (pv 0)) da_nil)))))
theorem okx_first_three (Z : W K mg) (TT : TB Z base) : FnG PP w K mg base (L2.CX PP w) 5 Z.f_first_three Z.d_first_three ["book"] (spX ⟨K, mg, PP, w⟩ X_first_three) :=
  fnX_ok Z.F_first_three sc_first_three fun cdv A outer s H E hr gd tk =>
    (sxs_head (sx_expr (ex_user ((okx_require_book Z TT).up (by decide)) hr gd tk rfl Z.g_require_book Z.F_require_book.kp (b_require_book Z) (da_cons (de_var (pv 0)) da_nil))))
theorem sc_first_four : FnScope ["book"] ["book"] (defScope st_first_four) := ⟨rfl, rfl, rfl, by decide +kernel, rfl, by decide +kernel, by decide +kernel⟩
theorem b_first_four (Z : W K mg) : Binds K Z.d_first_four ["book"] [] := Z.F_first_four.bindsN fun _ _ _ _ _ _ us hl => match us, hl with | [_], _ => rfl
theorem ok_first_four (Z : W K mg) (TT : TB Z base) : FnG PP w K mg base CX0 4 Z.f_first_four Z.d_first_four ["book"] (spD ⟨K, mg, PP, w⟩ F_first_four) :=
  fnG_ok Z.F_first_four sc_first_four fun cdv A outer s H E hr gd =>
    (dss_cons (ds_expr (user_call ((ok_require_book Z TT).up (by decide)) hr gd rfl Z.g_require_book Z.F_require_book.kp (b_require_book Z) (da_cons (de_var (pv 0)) da_nil)))
    (dss_one (ds_ret (user_call ((ok_four_in Z TT).up (by decide)) hr gd rfl Z.g_four_in Z.F_four_in.kp (b_four_in Z) (da_cons (de_var (pv 0)) da_nil)))))
theorem okx_first_four (Z : W K mg) (TT : TB Z base) : FnG PP w K mg base (L2.CX PP w) 4 Z.f_first_four Z.d_first_four ["book"] (spX ⟨K, mg, PP, w⟩ X_first_four) :=
  fnX_ok Z.F_first_four sc_first_four fun cdv A outer s H E hr gd tk =>
    (sxs_head (sx_expr (ex_user ((okx_require_book Z TT).up (by decide)) hr gd tk rfl Z.g_require_book Z.F_require_book.kp (b_require_book Z) (da_cons (de_var (pv 0)) da_nil))))
theorem sc_lots_of : FnScope ["size", "found", "option", "lot"] ["size"] (defScope st_lots_of) := ⟨rfl, rfl, rfl, by decide +kernel, rfl, by decide +kernel, by decide +kernel⟩
theorem b_lots_of (Z : W K mg) : Binds K Z.d_lots_of ["size"] [] := Z.F_lots_of.bindsN fun _ _ _ _ _ _ us hl => match us, hl with | [_], _ => rfl
theorem ok_lots_of (Z : W K mg) (TT : TB Z base) : FnG PP w K mg base CX0 1 Z.f_lots_of Z.d_lots_of ["size"] (spD ⟨K, mg, PP, w⟩ F_lots_of) :=
  fnG_ok Z.F_lots_of sc_lots_of fun cdv A outer s H E hr gd =>
    (dss_cons (ds_set (i := 1) sc_lots_of.nd rfl (by first | exact Or.inl rfl | exact Or.inr rfl) (de_n (dn_lst (da_cons (de_tup da_nil) da_nil))))
    (dss_cons (ds_for PassesOwn.never rfl (di_range1 rfl Z.n_range (da_cons (de_var (pv 0)) da_nil)) (dg_name (pg_name (i := 2) sc_lots_of.nd rfl (by first | exact Or.inl rfl | exact Or.inr rfl)))
    (dss_one (ds_set (i := 1) sc_lots_of.nd rfl (by first | exact Or.inl rfl | exact Or.inr rfl) (de_n (dn_lst (da_star (de_var (pv 1)) (da_star (de_n (dn_lc rfl sc_lots_of.nd (di_seq (de_var (pv 1))) (own := [("lot", 3)]) (blkO rfl) (by decide) (fun s H C cl fp => (dg_name (pg_name (i := 3) sc_lots_of.nd rfl (by first | exact Or.inl rfl | exact Or.inr rfl)))) (fun s H C cl fp => dts_nil) (fun s H C cl fp => (de_tup (da_star (de_var (pv 3)) (da_cons (de_var (pv 2)) da_nil)))))) da_nil)))))))
    (dss_one (ds_ret (de_var (pv 1))))))
theorem sc_kept_ballot : FnScope ["ballot", "lot", "option"] ["ballot", "lot"] (defScope st_kept_ballot) := ⟨rfl, rfl, rfl, by decide +kernel, rfl, by decide +kernel, by decide +kernel⟩
theorem b_kept_ballot (Z : W K mg) : Binds K Z.d_kept_ballot ["ballot", "lot"] [] := Z.F_kept_ballot.bindsN fun _ _ _ _ _ _ us hl => match us, hl with | [_, _], _ => rfl
theorem ok_kept_ballot (Z : W K mg) (TT : TB Z base) : FnG PP w K mg base CX0 1 Z.f_kept_ballot Z.d_kept_ballot ["ballot", "lot"] (spD ⟨K, mg, PP, w⟩ F_kept_ballot) :=
  fnG_ok Z.F_kept_ballot sc_kept_ballot fun cdv A outer s H E hr gd =>
    (dss_one (ds_ret (de_callTy cd_tuple rfl Z.n_tuple (by decide +kernel) (da_cons (de_n (dn_lc rfl sc_kept_ballot.nd (di_seq (de_var (pv 0))) (own := [("option", 2)]) (blkO rfl) (by decide) (fun s H C cl fp => (dg_name (pg_name (i := 2) sc_kept_ballot.nd rfl (by first | exact Or.inl rfl | exact Or.inr rfl)))) (fun s H C cl fp => (dts_one (dt_cmp (od_in (ru5 hr)) (de_var (pv 2)) (de_var (pv 1)) (by with_unfolding_all rfl)))) (fun s H C cl fp => (de_index (ru5 hr) (de_var (pv 1)) (de_var (pv 2)))))) da_nil))))
theorem sc_kept_in : FnScope ["book", "lot", "ballot"] ["book", "lot"] (defScope st_kept_in) := ⟨rfl, rfl, rfl, by decide +kernel, rfl, by decide +kernel, by decide +kernel⟩
theorem b_kept_in (Z : W K mg) : Binds K Z.d_kept_in ["book", "lot"] [] := Z.F_kept_in.bindsN fun _ _ _ _ _ _ us hl => match us, hl with | [_, _], _ => rfl
theorem ok_kept_in (Z : W K mg) (TT : TB Z base) : FnG PP w K mg base CX0 8 Z.f_kept_in Z.d_kept_in ["book", "lot"] (spD ⟨K, mg, PP, w⟩ F_kept_in) :=
  fnG_ok Z.F_kept_in sc_kept_in fun cdv A outer s H E hr gd =>
    (dss_one (ds_ret (de_make Z.mk_Book (ok_Book__init Z TT) (hr.mono (by decide)) gd rfl Z.k_Book (b_Book__init Z) (da_cons (de_callB cd_len rfl Z.n_len (by decide +kernel) (da_cons (de_var (pv 1)) da_nil)) (da_cons (de_callTy cd_tuple rfl Z.n_tuple (by decide +kernel) (da_cons (de_n (dn_lc rfl sc_kept_in.nd (di_seq (de_fld (de_var (pv 0)) Z.k_Book (clsB_ok Z.q_Book).1 (slotB_ok Z.u0_Book).choose_spec)) (own := [("ballot", 2)]) (blkO rfl) (by decide) (fun s H C cl fp => (dg_name (pg_name (i := 2) sc_kept_in.nd rfl (by first | exact Or.inl rfl | exact Or.inr rfl)))) (fun s H C cl fp => dts_nil) (fun s H C cl fp => (user_call ((ok_kept_ballot Z TT).up (by decide)) hr gd rfl Z.g_kept_ballot Z.F_kept_ballot.kp (b_kept_ballot Z) (da_cons (de_var (pv 2)) (da_cons (de_var (pv 1)) da_nil)))))) da_nil)) da_nil)))))
theorem sc_is_less : FnScope ["one", "other", "option"] ["one", "other"] (defScope st_is_less) := ⟨rfl, rfl, rfl, by decide +kernel, rfl, by decide +kernel, by decide +kernel⟩
theorem b_is_less (Z : W K mg) : Binds K Z.d_is_less ["one", "other"] [] := Z.F_is_less.bindsN fun _ _ _ _ _ _ us hl => match us, hl with | [_, _], _ => rfl
theorem ok_is_less (Z : W K mg) (TT : TB Z base) : FnG PP w K mg base CX0 1 Z.f_is_less Z.d_is_less ["one", "other"] (spD ⟨K, mg, PP, w⟩ F_is_less) :=
  fnG_ok Z.F_is_less sc_is_less fun cdv A outer s H E hr gd =>
    (dss_one (ds_ret (de_and (de_cmp (od_ltA (ru hr)) (de_callB cd_len rfl Z.n_len (by decide +kernel) (da_cons (de_var (pv 0)) da_nil)) (de_callB cd_len rfl Z.n_len (by decide +kernel) (da_cons (de_var (pv 1)) da_nil)) (nomark _)) (de_one (de_callB (cd_all rfl) rfl Z.n_all (by decide +kernel) (da_cons (de_n (dn_lc rfl sc_is_less.nd (di_seq (de_var (pv 0))) (own := [("option", 2)]) (blkO rfl) (by decide) (fun s H C cl fp => (dg_name (pg_name (i := 2) sc_is_less.nd rfl (by first | exact Or.inl rfl | exact Or.inr rfl)))) (fun s H C cl fp => dts_nil) (fun s H C cl fp => (de_cmp (od_in (ru5 hr)) (de_var (pv 2)) (de_var (pv 1)) (by with_unfolding_all rfl))))) da_nil))))))
theorem sc_least_without : FnScope ["book", "some", "lot", "one"] ["book"] (defScope st_least_without) := ⟨rfl, rfl, rfl, by decide +kernel, rfl, by decide +kernel, by decide +kernel⟩
theorem b_least_without (Z : W K mg) : Binds K Z.d_least_without ["book"] [] := Z.F_least_without.bindsN fun _ _ _ _ _ _ us hl => match us, hl with | [_], _ => rfl
theorem ok_least_without (Z : W K mg) (TT : TB Z base) : FnG PP w K mg base CX0 9 Z.f_least_without Z.d_least_without ["book"] (spD ⟨K, mg, PP, w⟩ F_least_without) :=
  fnG_ok Z.F_least_without sc_least_without fun cdv A outer s H E hr gd =>
    (dss_cons (ds_expr (user_call ((ok_require_book Z TT).up (by decide)) hr gd rfl Z.g_require_book Z.F_require_book.kp (b_require_book Z) (da_cons (de_var (pv 0)) da_nil)))
    (dss_cons (ds_set (i := 1) sc_least_without.nd rfl (by first | exact Or.inl rfl | exact Or.inr rfl) (de_n (dn_lc rfl sc_least_without.nd (di_seq (user_call ((ok_lots_of Z TT).up (by decide)) hr gd rfl Z.g_lots_of Z.F_lots_of.kp (b_lots_of Z) (da_cons (de_fld (de_var (pv 0)) Z.k_Book (clsB_ok Z.q_Book).1 (slotB_ok Z.u1_Book).choose_spec) da_nil))) (own := [("lot", 2)]) (blkO rfl) (by decide) (fun s H C cl fp => (dg_name (pg_name (i := 2) sc_least_without.nd rfl (by first | exact Or.inl rfl | exact Or.inr rfl)))) (fun s H C cl fp => (dts_one (dt_w (dw_and (dt_cmp (od_in (ru5 hr)) (de_callB cd_len rfl Z.n_len (by decide +kernel) (da_cons (de_var (pv 2)) da_nil)) (de_tup (da_cons de_int (da_cons de_int da_nil))) (by with_unfolding_all rfl)) (dw_and1 (dt_cmp od_notN (user_call ((ok_bar_in Z TT).up (by decide)) hr gd rfl Z.g_bar_in Z.F_bar_in.kp (b_bar_in Z) (da_cons (user_call ((ok_kept_in Z TT).up (by decide)) hr gd rfl Z.g_kept_in Z.F_kept_in.kp (b_kept_in Z) (da_cons (de_var (pv 0)) (da_cons (de_var (pv 2)) da_nil))) da_nil)) de_non (nomark _))))))) (fun s H C cl fp => (de_var (pv 2))))))
    (dss_one (ds_ret (de_callTy cd_tuple rfl Z.n_tuple (by decide +kernel) (da_cons (de_n (dn_callB (cn_sortedA (ru hr)) rfl Z.n_sorted (by decide +kernel) (da_cons (de_n (dn_lc rfl sc_least_without.nd (di_seq (de_var (pv 1))) (own := [("lot", 2)]) (blkO rfl) (by decide) (fun s H C cl fp => (dg_name (pg_name (i := 2) sc_least_without.nd rfl (by first | exact Or.inl rfl | exact Or.inr rfl)))) (fun s H C cl fp => (dts_one (dt_not (dt_val (de_callB (cd_any rfl) rfl Z.n_any (by decide +kernel) (da_cons (de_n (dn_lc rfl sc_least_without.nd (di_seq (de_var (pv 1))) (own := [("one", 3)]) (blkO rfl) (by decide) (fun s H C cl fp => (dg_name (pg_name (i := 3) sc_least_without.nd rfl (by first | exact Or.inl rfl | exact Or.inr rfl)))) (fun s H C cl fp => dts_nil) (fun s H C cl fp => (user_call ((ok_is_less Z TT).up (by decide)) hr gd rfl Z.g_is_less Z.F_is_less.kp (b_is_less Z) (da_cons (de_var (pv 3)) (da_cons (de_var (pv 2)) da_nil)))))) da_nil)))))) (fun s H C cl fp => (de_var (pv 2))))) da_nil))) da_nil))))))
theorem okx_least_without (Z : W K mg) (TT : TB Z base) : FnG PP w K mg base (L2.CX PP w) 9 Z.f_least_without Z.d_least_without ["book"] (spX ⟨K, mg, PP, w⟩ X_least_without) :=
  fnX_ok Z.F_least_without sc_least_without fun cdv A outer s H E hr gd tk =>
    (sxs_head (sx_expr (ex_user ((okx_require_book Z TT).up (by decide)) hr gd tk rfl Z.g_require_book Z.F_require_book.kp (b_require_book Z) (da_cons (de_var (pv 0)) da_nil))))
theorem sc__law_firsts : FnScope ["book", "found"] ["book"] (defScope st__law_firsts) := ⟨rfl, rfl, rfl, by decide +kernel, rfl, by decide +kernel, by decide +kernel⟩
theorem b__law_firsts (Z : W K mg) : Binds K Z.d__law_firsts ["book"] [] := Z.F__law_firsts.bindsN fun _ _ _ _ _ _ us hl => match us, hl with | [_], _ => rfl
theorem ok__law_firsts (Z : W K mg) (TT : TB Z base) : FnG PP w K mg base CX0 12 Z.f__law_firsts Z.d__law_firsts ["book"] (spD ⟨K, mg, PP, w⟩ F__law_firsts) :=
  fnG_okC Z.F__law_firsts sc__law_firsts fun cdv A outer s H E hcd hr gd =>
    (dss_cons (ds_own (i := 1) sc__law_firsts.nd rfl (by first | exact Or.inl rfl | exact Or.inr rfl) (dn_lst (da_cons (de_metT Z.F__law_met sc__law_met rfl (by first | exact Or.inl rfl | exact Or.inr (Or.inl rfl)) (b__law_met Z) rfl Z.g__law_met ⟨TT.tb__law_firsts, hcd.symm.trans Z.e__law_firsts, TT.in__law_firsts, TT.un__law_firsts, lamS_by (sc := defScope st__law_firsts) (by decide +kernel), rfl, fun _ _ _ _ _ => rfl⟩ hr gd
    (fun E A outer s H f c' hr gd => (user_call ((ok_lasts Z TT).up (by decide)) hr gd rfl Z.g_lasts Z.F_lasts.kp (b_lasts Z) (da_cons (de_var (pv 0)) da_nil)))
    (fun E A outer s H f c' hr gd tk => (ex_user ((okx_lasts Z TT).up (by decide)) hr gd tk rfl Z.g_lasts Z.F_lasts.kp (b_lasts Z) (da_cons (de_var (pv 0)) da_nil)))
    (fun cdv s H => hs__law_met Z hr gd cdv s H) (fun cdv s H => ce_str)) da_nil)))
    (dss_cons (ds_expr (de_mt F.plainAttrs_list F.slot_list_append F.type_list_append md_append (pv 1) (da_cons (de_metT Z.F__law_met sc__law_met rfl (by first | exact Or.inl rfl | exact Or.inr (Or.inl rfl)) (b__law_met Z) rfl Z.g__law_met ⟨TT.tb__law_firsts, hcd.symm.trans Z.e__law_firsts, TT.in__law_firsts, TT.un__law_firsts, lamS_by (sc := defScope st__law_firsts) (by decide +kernel), rfl, fun _ _ _ _ _ => rfl⟩ hr gd
    (fun E A outer s H f c' hr gd => (user_call ((ok_has_axis Z TT).up (by decide)) hr gd rfl Z.g_has_axis Z.F_has_axis.kp (b_has_axis Z) (da_cons (de_var (pv 0)) da_nil)))
    (fun E A outer s H f c' hr gd tk => (ex_user ((okx_has_axis Z TT).up (by decide)) hr gd tk rfl Z.g_has_axis Z.F_has_axis.kp (b_has_axis Z) (da_cons (de_var (pv 0)) da_nil)))
    (fun cdv s H => hs__law_met Z hr gd cdv s H) (fun cdv s H => ce_str)) da_nil)))
    (dss_cons (ds_expr (de_mt F.plainAttrs_list F.slot_list_append F.type_list_append md_append (pv 1) (da_cons (de_metT Z.F__law_met sc__law_met rfl (by first | exact Or.inl rfl | exact Or.inr (Or.inl rfl)) (b__law_met Z) rfl Z.g__law_met ⟨TT.tb__law_firsts, hcd.symm.trans Z.e__law_firsts, TT.in__law_firsts, TT.un__law_firsts, lamS_by (sc := defScope st__law_firsts) (by decide +kernel), rfl, fun _ _ _ _ _ => rfl⟩ hr gd
    (fun E A outer s H f c' hr gd => (user_call ((ok_axis_paper Z TT).up (by decide)) hr gd rfl Z.g_axis_paper Z.F_axis_paper.kp (b_axis_paper Z) (da_cons (de_var (pv 0)) da_nil)))
    (fun E A outer s H f c' hr gd tk => (ex_user ((okx_axis_paper Z TT).up (by decide)) hr gd tk rfl Z.g_axis_paper Z.F_axis_paper.kp (b_axis_paper Z) (da_cons (de_var (pv 0)) da_nil)))
    (fun cdv s H => hs__law_met Z hr gd cdv s H) (fun cdv s H => ce_str)) da_nil)))
    (dss_cons (ds_expr (de_mt F.plainAttrs_list F.slot_list_append F.type_list_append md_append (pv 1) (da_cons (de_metT Z.F__law_met sc__law_met rfl (by first | exact Or.inl rfl | exact Or.inr (Or.inl rfl)) (b__law_met Z) rfl Z.g__law_met ⟨TT.tb__law_firsts, hcd.symm.trans Z.e__law_firsts, TT.in__law_firsts, TT.un__law_firsts, lamS_by (sc := defScope st__law_firsts) (by decide +kernel), rfl, fun _ _ _ _ _ => rfl⟩ hr gd
    (fun E A outer s H f c' hr gd => (user_call ((ok_is_axis_paper Z TT).up (by decide)) hr gd rfl Z.g_is_axis_paper Z.F_is_axis_paper.kp (b_is_axis_paper Z) (da_cons (de_var (pv 0)) (da_cons de_non da_nil))))
    (fun E A outer s H f c' hr gd tk => (ex_user ((okx_is_axis_paper Z TT).up (by decide)) hr gd tk rfl Z.g_is_axis_paper Z.F_is_axis_paper.kp (b_is_axis_paper Z) (da_cons (de_var (pv 0)) (da_cons de_non da_nil))))
    (fun cdv s H => hs__law_met Z hr gd cdv s H) (fun cdv s H => ce_str)) da_nil)))
    (dss_cons (ds_expr (de_mt F.plainAttrs_list F.slot_list_append F.type_list_append md_append (pv 1) (da_cons (de_metT Z.F__law_met sc__law_met rfl (by first | exact Or.inl rfl | exact Or.inr (Or.inl rfl)) (b__law_met Z) rfl Z.g__law_met ⟨TT.tb__law_firsts, hcd.symm.trans Z.e__law_firsts, TT.in__law_firsts, TT.un__law_firsts, lamS_by (sc := defScope st__law_firsts) (by decide +kernel), rfl, fun _ _ _ _ _ => rfl⟩ hr gd
    (fun E A outer s H f c' hr gd => (user_call ((ok_is_bar Z TT).up (by decide)) hr gd rfl Z.g_is_bar Z.F_is_bar.kp (b_is_bar Z) (da_cons (de_var (pv 0)) (da_cons de_non da_nil))))
    (fun E A outer s H f c' hr gd tk => (ex_user ((okx_is_bar Z TT).up (by decide)) hr gd tk rfl Z.g_is_bar Z.F_is_bar.kp (b_is_bar Z) (da_cons (de_var (pv 0)) (da_cons de_non da_nil))))
    (fun cdv s H => hs__law_met Z hr gd cdv s H) (fun cdv s H => ce_str)) da_nil)))
    (dss_cons (ds_expr (de_mt F.plainAttrs_list F.slot_list_append F.type_list_append md_append (pv 1) (da_cons (de_metT Z.F__law_met sc__law_met rfl (by first | exact Or.inl rfl | exact Or.inr (Or.inl rfl)) (b__law_met Z) rfl Z.g__law_met ⟨TT.tb__law_firsts, hcd.symm.trans Z.e__law_firsts, TT.in__law_firsts, TT.un__law_firsts, lamS_by (sc := defScope st__law_firsts) (by decide +kernel), rfl, fun _ _ _ _ _ => rfl⟩ hr gd
    (fun E A outer s H f c' hr gd => (user_call ((ok_first_three Z TT).up (by decide)) hr gd rfl Z.g_first_three Z.F_first_three.kp (b_first_three Z) (da_cons (de_var (pv 0)) da_nil)))
    (fun E A outer s H f c' hr gd tk => (ex_user ((okx_first_three Z TT).up (by decide)) hr gd tk rfl Z.g_first_three Z.F_first_three.kp (b_first_three Z) (da_cons (de_var (pv 0)) da_nil)))
    (fun cdv s H => hs__law_met Z hr gd cdv s H) (fun cdv s H => ce_str)) da_nil)))
    (dss_cons (ds_expr (de_mt F.plainAttrs_list F.slot_list_append F.type_list_append md_append (pv 1) (da_cons (de_metT Z.F__law_met sc__law_met rfl (by first | exact Or.inl rfl | exact Or.inr (Or.inl rfl)) (b__law_met Z) rfl Z.g__law_met ⟨TT.tb__law_firsts, hcd.symm.trans Z.e__law_firsts, TT.in__law_firsts, TT.un__law_firsts, lamS_by (sc := defScope st__law_firsts) (by decide +kernel), rfl, fun _ _ _ _ _ => rfl⟩ hr gd
    (fun E A outer s H f c' hr gd => (user_call ((ok_first_four Z TT).up (by decide)) hr gd rfl Z.g_first_four Z.F_first_four.kp (b_first_four Z) (da_cons (de_var (pv 0)) da_nil)))
    (fun E A outer s H f c' hr gd tk => (ex_user ((okx_first_four Z TT).up (by decide)) hr gd tk rfl Z.g_first_four Z.F_first_four.kp (b_first_four Z) (da_cons (de_var (pv 0)) da_nil)))
    (fun cdv s H => hs__law_met Z hr gd cdv s H) (fun cdv s H => ce_str)) da_nil)))
    (dss_cons (ds_expr (de_mt F.plainAttrs_list F.slot_list_append F.type_list_append md_append (pv 1) (da_cons (de_metT Z.F__law_met sc__law_met rfl (by first | exact Or.inl rfl | exact Or.inr (Or.inl rfl)) (b__law_met Z) rfl Z.g__law_met ⟨TT.tb__law_firsts, hcd.symm.trans Z.e__law_firsts, TT.in__law_firsts, TT.un__law_firsts, lamS_by (sc := defScope st__law_firsts) (by decide +kernel), rfl, fun _ _ _ _ _ => rfl⟩ hr gd
    (fun E A outer s H f c' hr gd => (user_call ((ok_least_without Z TT).up (by decide)) hr gd rfl Z.g_least_without Z.F_least_without.kp (b_least_without Z) (da_cons (de_var (pv 0)) da_nil)))
    (fun E A outer s H f c' hr gd tk => (ex_user ((okx_least_without Z TT).up (by decide)) hr gd tk rfl Z.g_least_without Z.F_least_without.kp (b_least_without Z) (da_cons (de_var (pv 0)) da_nil)))
    (fun cdv s H => hs__law_met Z hr gd cdv s H) (fun cdv s H => ce_str)) da_nil)))
    (dss_one (ds_ret (de_var (pv 1))))))))))))
theorem sc_require_lot : FnScope ["size", "value"] ["size", "value"] (defScope st_require_lot) := ⟨rfl, rfl, rfl, by decide +kernel, rfl, by decide +kernel, by decide +kernel⟩
theorem b_require_lot (Z : W K mg) : Binds K Z.d_require_lot ["size", "value"] [] := Z.F_require_lot.bindsN fun _ _ _ _ _ _ us hl => match us, hl with | [_, _], _ => rfl
theorem ok_require_lot (Z : W K mg) (TT : TB Z base) : FnG PP w K mg base CX0 5 Z.f_require_lot Z.d_require_lot ["size", "value"] (spD ⟨K, mg, PP, w⟩ F_require_lot) :=
  fnG_ok Z.F_require_lot sc_require_lot fun cdv A outer s H E hr gd =>
    (dss_one (ds_if (dt_w (dw_or (dt_not (dt_val (user_call ((ok_is_lot_of Z TT).up (by decide)) hr gd rfl Z.g_is_lot_of Z.F_is_lot_of.kp (b_is_lot_of Z) (da_cons (de_var (pv 0)) (da_cons (de_var (pv 1)) da_nil))))) (dw_or1 (dt_cmp (od_eq (ru hr)) (de_var (pv 1)) (de_tup da_nil) (nomark _)))))
    (dss_one ds_never)
    dss_nil))
theorem okx_require_lot (Z : W K mg) (TT : TB Z base) : FnG PP w K mg base (L2.CX PP w) 5 Z.f_require_lot Z.d_require_lot ["size", "value"] (spX ⟨K, mg, PP, w⟩ X_require_lot) :=
  fnX_ok Z.F_require_lot sc_require_lot fun cdv A outer s H E hr gd tk =>
    (sxs_head (sx_if (dt_w (dw_or (dt_not (dt_val (user_call ((ok_is_lot_of Z TT).up (by decide)) hr gd rfl Z.g_is_lot_of Z.F_is_lot_of.kp (b_is_lot_of Z) (da_cons (de_var (pv 0)) (da_cons (de_var (pv 1)) da_nil))))) (dw_or1 (dt_cmp (od_eq (ru hr)) (de_var (pv 1)) (de_tup da_nil) (nomark _)))))
    (sxs_head (sx_raise rfl tk (mx_msg PySem.F.excBase_ValueError Z.msg_InvalidLot.1 Z.k_InvalidLot Z.msg_InvalidLot.2.1 Z.msg_InvalidLot.2.2.1 Z.msg_InvalidLot.2.2.2 rfl)))
    sxs_never))
theorem sc_require_known_lot : FnScope ["book", "lot"] ["book", "lot"] (defScope st_require_known_lot) := ⟨rfl, rfl, rfl, by decide +kernel, rfl, by decide +kernel, by decide +kernel⟩
theorem b_require_known_lot (Z : W K mg) : Binds K Z.d_require_known_lot ["book", "lot"] [] := Z.F_require_known_lot.bindsN fun _ _ _ _ _ _ us hl => match us, hl with | [_, _], _ => rfl
theorem ok_require_known_lot (Z : W K mg) (TT : TB Z base) : FnG PP w K mg base CX0 6 Z.f_require_known_lot Z.d_require_known_lot ["book", "lot"] (spD ⟨K, mg, PP, w⟩ F_require_known_lot) :=
  fnG_ok Z.F_require_known_lot sc_require_known_lot fun cdv A outer s H E hr gd =>
    (dss_cons (ds_expr (user_call ((ok_require_book Z TT).up (by decide)) hr gd rfl Z.g_require_book Z.F_require_book.kp (b_require_book Z) (da_cons (de_var (pv 0)) da_nil)))
    (dss_one (ds_expr (user_call ((ok_require_lot Z TT).up (by decide)) hr gd rfl Z.g_require_lot Z.F_require_lot.kp (b_require_lot Z) (da_cons (de_fld (de_var (pv 0)) Z.k_Book (clsB_ok Z.q_Book).1 (slotB_ok Z.u1_Book).choose_spec) (da_cons (de_var (pv 1)) da_nil))))))
theorem okx_require_known_lot (Z : W K mg) (TT : TB Z base) : FnG PP w K mg base (L2.CX PP w) 6 Z.f_require_known_lot Z.d_require_known_lot ["book", "lot"] (spX ⟨K, mg, PP, w⟩ X_require_known_lot) :=
  fnX_ok Z.F_require_known_lot sc_require_known_lot fun cdv A outer s H E hr gd tk =>
    (sxs_or (sxs_head (sx_expr (ex_user ((okx_require_book Z TT).up (by decide)) hr gd tk rfl Z.g_require_book Z.F_require_book.kp (b_require_book Z) (da_cons (de_var (pv 0)) da_nil))))
    (sxs_next (ds_expr (user_call ((ok_require_book Z TT).up (by decide)) hr gd rfl Z.g_require_book Z.F_require_book.kp (b_require_book Z) (da_cons (de_var (pv 0)) da_nil)))
    (sxs_head (sx_expr (ex_user ((okx_require_lot Z TT).up (by decide)) hr gd tk rfl Z.g_require_lot Z.F_require_lot.kp (b_require_lot Z) (da_cons (de_fld (de_var (pv 0)) Z.k_Book (clsB_ok Z.q_Book).1 (slotB_ok Z.u1_Book).choose_spec) (da_cons (de_var (pv 1)) da_nil)))))))
theorem sc_have_axis : FnScope ["book", "lot"] ["book", "lot"] (defScope st_have_axis) := ⟨rfl, rfl, rfl, by decide +kernel, rfl, by decide +kernel, by decide +kernel⟩
theorem b_have_axis (Z : W K mg) : Binds K Z.d_have_axis ["book", "lot"] [] := Z.F_have_axis.bindsN fun _ _ _ _ _ _ us hl => match us, hl with | [_, _], _ => rfl
theorem ok_have_axis (Z : W K mg) (TT : TB Z base) : FnG PP w K mg base CX0 9 Z.f_have_axis Z.d_have_axis ["book", "lot"] (spD ⟨K, mg, PP, w⟩ F_have_axis) :=
  fnG_ok Z.F_have_axis sc_have_axis fun cdv A outer s H E hr gd =>
    (dss_cons (ds_expr (user_call ((ok_require_known_lot Z TT).up (by decide)) hr gd rfl Z.g_require_known_lot Z.F_require_known_lot.kp (b_require_known_lot Z) (da_cons (de_var (pv 0)) (da_cons (de_var (pv 1)) da_nil))))
    (dss_one (ds_ret (de_cmp od_notN (user_call ((ok_axis_in Z TT).up (by decide)) hr gd rfl Z.g_axis_in Z.F_axis_in.kp (b_axis_in Z) (da_cons (user_call ((ok_kept_in Z TT).up (by decide)) hr gd rfl Z.g_kept_in Z.F_kept_in.kp (b_kept_in Z) (da_cons (de_var (pv 0)) (da_cons (de_var (pv 1)) da_nil))) da_nil)) de_non (nomark _)))))
theorem okx_have_axis (Z : W K mg) (TT : TB Z base) : FnG PP w K mg base (L2.CX PP w) 9 Z.f_have_axis Z.d_have_axis ["book", "lot"] (spX ⟨K, mg, PP, w⟩ X_have_axis) :=
  fnX_ok Z.F_have_axis sc_have_axis fun cdv A outer s H E hr gd tk =>
    (sxs_or (sxs_head (sx_expr (ex_user ((okx_require_known_lot Z TT).up (by decide)) hr gd tk rfl Z.g_require_known_lot Z.F_require_known_lot.kp (b_require_known_lot Z) (da_cons (de_var (pv 0)) (da_cons (de_var (pv 1)) da_nil)))))
    (sxs_next (ds_expr (user_call ((ok_require_known_lot Z TT).up (by decide)) hr gd rfl Z.g_require_known_lot Z.F_require_known_lot.kp (b_require_known_lot Z) (da_cons (de_var (pv 0)) (da_cons (de_var (pv 1)) da_nil))))
    (sxs_head (sx_ret (ex_cmp od_notN (ex_user ((okx_axis_in Z TT).up (by decide)) hr gd tk rfl Z.g_axis_in Z.F_axis_in.kp (b_axis_in Z) (da_cons (user_call ((ok_kept_in Z TT).up (by decide)) hr gd rfl Z.g_kept_in Z.F_kept_in.kp (b_kept_in Z) (da_cons (de_var (pv 0)) (da_cons (de_var (pv 1)) da_nil))) da_nil)) de_non (nomark _))))))
theorem sc_named_by : FnScope ["lot", "bar", "word", "options", "ballots", "option"] ["lot", "bar"] (defScope st_named_by) := ⟨rfl, rfl, rfl, by decide +kernel, rfl, by decide +kernel, by decide +kernel⟩
theorem b_named_by (Z : W K mg) : Binds K Z.d_named_by ["lot", "bar"] [] := Z.F_named_by.bindsN fun _ _ _ _ _ _ us hl => match us, hl with | [_, _], _ => rfl
theorem ok_named_by (Z : W K mg) (TT : TB Z base) : FnG PP w K mg base CX0 1 Z.f_named_by Z.d_named_by ["lot", "bar"] (spD ⟨K, mg, PP, w⟩ F_named_by) :=
  fnG_ok Z.F_named_by sc_named_by fun cdv A outer s H E hr gd =>
    (dss_cons (ds_if (dt_cmp od_isN (de_var (pv 1)) de_non (nomark _))
    (dss_one (ds_ret de_non))
    dss_nil)
    (dss_cons (ds_asg (de_var (pv 1)) (dg_tup rfl (dgs_cons (dg_name (pg_name (i := 2) sc_named_by.nd rfl (by first | exact Or.inl rfl | exact Or.inr rfl))) (dgs_cons (dg_name (pg_name (i := 3) sc_named_by.nd rfl (by first | exact Or.inl rfl | exact Or.inr rfl))) (dgs_cons (dg_name (pg_name (i := 4) sc_named_by.nd rfl (by first | exact Or.inl rfl | exact Or.inr rfl))) dgs_nil)))))
    (dss_one (ds_ret (de_tup (da_cons (de_var (pv 2)) (da_cons (de_callTy cd_tuple rfl Z.n_tuple (by decide +kernel) (da_cons (de_n (dn_lc rfl sc_named_by.nd (di_seq (de_var (pv 3))) (own := [("option", 5)]) (blkO rfl) (by decide) (fun s H C cl fp => (dg_name (pg_name (i := 5) sc_named_by.nd rfl (by first | exact Or.inl rfl | exact Or.inr rfl)))) (fun s H C cl fp => dts_nil) (fun s H C cl fp => (de_ix (ru5 hr) (de_var (pv 0)) (de_var (pv 5)) (fun _ _ => rfl))))) da_nil)) (da_cons (de_var (pv 4)) da_nil))))))))
theorem sc_bar_within : FnScope ["book", "lot"] ["book", "lot"] (defScope st_bar_within) := ⟨rfl, rfl, rfl, by decide +kernel, rfl, by decide +kernel, by decide +kernel⟩
theorem b_bar_within (Z : W K mg) : Binds K Z.d_bar_within ["book", "lot"] [] := Z.F_bar_within.bindsN fun _ _ _ _ _ _ us hl => match us, hl with | [_, _], _ => rfl
theorem ok_bar_within (Z : W K mg) (TT : TB Z base) : FnG PP w K mg base CX0 9 Z.f_bar_within Z.d_bar_within ["book", "lot"] (spD ⟨K, mg, PP, w⟩ F_bar_within) :=
  fnG_ok Z.F_bar_within sc_bar_within fun cdv A outer s H E hr gd =>
    (dss_cons (ds_expr (user_call ((ok_require_known_lot Z TT).up (by decide)) hr gd rfl Z.g_require_known_lot Z.F_require_known_lot.kp (b_require_known_lot Z) (da_cons (de_var (pv 0)) (da_cons (de_var (pv 1)) da_nil))))
    (dss_one (ds_ret (user_call ((ok_named_by Z TT).up (by decide)) hr gd rfl Z.g_named_by Z.F_named_by.kp (b_named_by Z) (da_cons (de_var (pv 1)) (da_cons (user_call ((ok_bar_in Z TT).up (by decide)) hr gd rfl Z.g_bar_in Z.F_bar_in.kp (b_bar_in Z) (da_cons (user_call ((ok_kept_in Z TT).up (by decide)) hr gd rfl Z.g_kept_in Z.F_kept_in.kp (b_kept_in Z) (da_cons (de_var (pv 0)) (da_cons (de_var (pv 1)) da_nil))) da_nil)) da_nil))))))
theorem okx_bar_within (Z : W K mg) (TT : TB Z base) : FnG PP w K mg base (L2.CX PP w) 9 Z.f_bar_within Z.d_bar_within ["book", "lot"] (spX ⟨K, mg, PP, w⟩ X_bar_within) :=
  fnX_ok Z.F_bar_within sc_bar_within fun cdv A outer s H E hr gd tk =>
    (sxs_head (sx_expr (ex_user ((okx_require_known_lot Z TT).up (by decide)) hr gd tk rfl Z.g_require_known_lot Z.F_require_known_lot.kp (b_require_known_lot Z) (da_cons (de_var (pv 0)) (da_cons (de_var (pv 1)) da_nil)))))
theorem sc_require_row : FnScope ["book", "row"] ["book", "row"] (defScope st_require_row) := ⟨rfl, rfl, rfl, by decide +kernel, rfl, by decide +kernel, by decide +kernel⟩
theorem b_require_row (Z : W K mg) : Binds K Z.d_require_row ["book", "row"] [] := Z.F_require_row.bindsN fun _ _ _ _ _ _ us hl => match us, hl with | [_, _], _ => rfl
theorem ok_require_row (Z : W K mg) (TT : TB Z base) : FnG PP w K mg base CX0 5 Z.f_require_row Z.d_require_row ["book", "row"] (spD ⟨K, mg, PP, w⟩ F_require_row) :=
  fnG_ok Z.F_require_row sc_require_row fun cdv A outer s H E hr gd =>
    (dss_cons (ds_expr (user_call ((ok_require_book Z TT).up (by decide)) hr gd rfl Z.g_require_book Z.F_require_book.kp (b_require_book Z) (da_cons (de_var (pv 0)) da_nil)))
    (dss_one (ds_if (dt_w (dw_or (dt_not (dt_val (de_isi (by decide) rfl Z.n_isinstance (de_var (pv 1)) rfl Z.n_tuple (by decide +kernel) (by decide +kernel)))) (dw_or1 (dt_not (dt_val (user_call ((ok_are_options Z TT).up (by decide)) hr gd rfl Z.g_are_options Z.F_are_options.kp (b_are_options Z) (da_cons (de_fld (de_var (pv 0)) Z.k_Book (clsB_ok Z.q_Book).1 (slotB_ok Z.u1_Book).choose_spec) (da_cons (de_var (pv 1)) (da_cons (de_callB cd_len rfl Z.n_len (by decide +kernel) (da_cons (de_var (pv 1)) da_nil)) da_nil)))))))))
    (dss_one ds_never)
    dss_nil)))
theorem okx_require_row (Z : W K mg) (TT : TB Z base) : FnG PP w K mg base (L2.CX PP w) 5 Z.f_require_row Z.d_require_row ["book", "row"] (spX ⟨K, mg, PP, w⟩ X_require_row) :=
  fnX_ok Z.F_require_row sc_require_row fun cdv A outer s H E hr gd tk =>
    (sxs_or (sxs_head (sx_expr (ex_user ((okx_require_book Z TT).up (by decide)) hr gd tk rfl Z.g_require_book Z.F_require_book.kp (b_require_book Z) (da_cons (de_var (pv 0)) da_nil))))
    (sxs_next (ds_expr (user_call ((ok_require_book Z TT).up (by decide)) hr gd rfl Z.g_require_book Z.F_require_book.kp (b_require_book Z) (da_cons (de_var (pv 0)) da_nil)))
    (sxs_head (sx_if (dt_w (dw_or (dt_not (dt_val (de_isi (by decide) rfl Z.n_isinstance (de_var (pv 1)) rfl Z.n_tuple (by decide +kernel) (by decide +kernel)))) (dw_or1 (dt_not (dt_val (user_call ((ok_are_options Z TT).up (by decide)) hr gd rfl Z.g_are_options Z.F_are_options.kp (b_are_options Z) (da_cons (de_fld (de_var (pv 0)) Z.k_Book (clsB_ok Z.q_Book).1 (slotB_ok Z.u1_Book).choose_spec) (da_cons (de_var (pv 1)) (da_cons (de_callB cd_len rfl Z.n_len (by decide +kernel) (da_cons (de_var (pv 1)) da_nil)) da_nil)))))))))
    (sxs_head (sx_raise rfl tk (mx_msg PySem.F.excBase_ValueError Z.msg_InvalidAxis.1 Z.k_InvalidAxis Z.msg_InvalidAxis.2.1 Z.msg_InvalidAxis.2.2.1 Z.msg_InvalidAxis.2.2.2 rfl)))
    sxs_never))))
theorem sc_does_begin : FnScope ["book", "row"] ["book", "row"] (defScope st_does_begin) := ⟨rfl, rfl, rfl, by decide +kernel, rfl, by decide +kernel, by decide +kernel⟩
theorem b_does_begin (Z : W K mg) : Binds K Z.d_does_begin ["book", "row"] [] := Z.F_does_begin.bindsN fun _ _ _ _ _ _ us hl => match us, hl with | [_, _], _ => rfl
theorem ok_does_begin (Z : W K mg) (TT : TB Z base) : FnG PP w K mg base CX0 6 Z.f_does_begin Z.d_does_begin ["book", "row"] (spD ⟨K, mg, PP, w⟩ F_does_begin) :=
  fnG_ok Z.F_does_begin sc_does_begin fun cdv A outer s H E hr gd =>
    (dss_cons (ds_expr (user_call ((ok_require_row Z TT).up (by decide)) hr gd rfl Z.g_require_row Z.F_require_row.kp (b_require_row Z) (da_cons (de_var (pv 0)) (da_cons (de_var (pv 1)) da_nil))))
    (dss_one (ds_ret (de_cmp od_notN (user_call ((ok_axis_behind Z TT).up (by decide)) hr gd rfl Z.g_axis_behind Z.F_axis_behind.kp (b_axis_behind Z) (da_cons (de_fld (de_var (pv 0)) Z.k_Book (clsB_ok Z.q_Book).1 (slotB_ok Z.u1_Book).choose_spec) (da_cons (user_call ((ok_lasts_of Z TT).up (by decide)) hr gd rfl Z.g_lasts_of Z.F_lasts_of.kp (b_lasts_of Z) (da_cons (de_var (pv 0)) da_nil)) (da_cons (de_var (pv 1)) (da_cons de_non da_nil))))) de_non (nomark _)))))
theorem okx_does_begin (Z : W K mg) (TT : TB Z base) : FnG PP w K mg base (L2.CX PP w) 6 Z.f_does_begin Z.d_does_begin ["book", "row"] (spX ⟨K, mg, PP, w⟩ X_does_begin) :=
  fnX_ok Z.F_does_begin sc_does_begin fun cdv A outer s H E hr gd tk =>
    (sxs_or (sxs_head (sx_expr (ex_user ((okx_require_row Z TT).up (by decide)) hr gd tk rfl Z.g_require_row Z.F_require_row.kp (b_require_row Z) (da_cons (de_var (pv 0)) (da_cons (de_var (pv 1)) da_nil)))))
    (sxs_next (ds_expr (user_call ((ok_require_row Z TT).up (by decide)) hr gd rfl Z.g_require_row Z.F_require_row.kp (b_require_row Z) (da_cons (de_var (pv 0)) (da_cons (de_var (pv 1)) da_nil))))
    (sxs_head (sx_ret (ex_cmp od_notN (ex_user ((okx_axis_behind Z TT).up (by decide)) hr gd tk rfl Z.g_axis_behind Z.F_axis_behind.kp (b_axis_behind Z) (da_cons (de_fld (de_var (pv 0)) Z.k_Book (clsB_ok Z.q_Book).1 (slotB_ok Z.u1_Book).choose_spec) (da_cons (user_call ((ok_lasts_of Z TT).up (by decide)) hr gd rfl Z.g_lasts_of Z.F_lasts_of.kp (b_lasts_of Z) (da_cons (de_var (pv 0)) da_nil)) (da_cons (de_var (pv 1)) (da_cons de_non da_nil))))) de_non (nomark _))))))
theorem sc_axis_from : FnScope ["book", "row"] ["book", "row"] (defScope st_axis_from) := ⟨rfl, rfl, rfl, by decide +kernel, rfl, by decide +kernel, by decide +kernel⟩
theorem b_axis_from (Z : W K mg) : Binds K Z.d_axis_from ["book", "row"] [] := Z.F_axis_from.bindsN fun _ _ _ _ _ _ us hl => match us, hl with | [_, _], _ => rfl
theorem ok_axis_from (Z : W K mg) (TT : TB Z base) : FnG PP w K mg base CX0 6 Z.f_axis_from Z.d_axis_from ["book", "row"] (spD ⟨K, mg, PP, w⟩ F_axis_from) :=
  fnG_ok Z.F_axis_from sc_axis_from fun cdv A outer s H E hr gd =>
    (dss_cons (ds_expr (user_call ((ok_require_row Z TT).up (by decide)) hr gd rfl Z.g_require_row Z.F_require_row.kp (b_require_row Z) (da_cons (de_var (pv 0)) (da_cons (de_var (pv 1)) da_nil))))
    (dss_one (ds_ret (user_call ((ok_axis_behind Z TT).up (by decide)) hr gd rfl Z.g_axis_behind Z.F_axis_behind.kp (b_axis_behind Z) (da_cons (de_fld (de_var (pv 0)) Z.k_Book (clsB_ok Z.q_Book).1 (slotB_ok Z.u1_Book).choose_spec) (da_cons (user_call ((ok_lasts_of Z TT).up (by decide)) hr gd rfl Z.g_lasts_of Z.F_lasts_of.kp (b_lasts_of Z) (da_cons (de_var (pv 0)) da_nil)) (da_cons (de_var (pv 1)) (da_cons de_non da_nil))))))))
theorem okx_axis_from (Z : W K mg) (TT : TB Z base) : FnG PP w K mg base (L2.CX PP w) 6 Z.f_axis_from Z.d_axis_from ["book", "row"] (spX ⟨K, mg, PP, w⟩ X_axis_from) :=
  fnX_ok Z.F_axis_from sc_axis_from fun cdv A outer s H E hr gd tk =>
    (sxs_or (sxs_head (sx_expr (ex_user ((okx_require_row Z TT).up (by decide)) hr gd tk rfl Z.g_require_row Z.F_require_row.kp (b_require_row Z) (da_cons (de_var (pv 0)) (da_cons (de_var (pv 1)) da_nil)))))
    (sxs_next (ds_expr (user_call ((ok_require_row Z TT).up (by decide)) hr gd rfl Z.g_require_row Z.F_require_row.kp (b_require_row Z) (da_cons (de_var (pv 0)) (da_cons (de_var (pv 1)) da_nil))))
    (sxs_head (sx_ret (ex_user ((okx_axis_behind Z TT).up (by decide)) hr gd tk rfl Z.g_axis_behind Z.F_axis_behind.kp (b_axis_behind Z) (da_cons (de_fld (de_var (pv 0)) Z.k_Book (clsB_ok Z.q_Book).1 (slotB_ok Z.u1_Book).choose_spec) (da_cons (user_call ((ok_lasts_of Z TT).up (by decide)) hr gd rfl Z.g_lasts_of Z.F_lasts_of.kp (b_lasts_of Z) (da_cons (de_var (pv 0)) da_nil)) (da_cons (de_var (pv 1)) (da_cons de_non da_nil)))))))))
theorem sc__law_seconds : FnScope ["book", "lot", "row", "found"] ["book", "lot", "row"] (defScope st__law_seconds) := ⟨rfl, rfl, rfl, by decide +kernel, rfl, by decide +kernel, by decide +kernel⟩
theorem b__law_seconds (Z : W K mg) : Binds K Z.d__law_seconds ["book", "lot", "row"] [] := Z.F__law_seconds.bindsN fun _ _ _ _ _ _ us hl => match us, hl with | [_, _, _], _ => rfl
theorem ok__law_seconds (Z : W K mg) (TT : TB Z base) : FnG PP w K mg base CX0 12 Z.f__law_seconds Z.d__law_seconds ["book", "lot", "row"] (spD ⟨K, mg, PP, w⟩ F__law_seconds) :=
  fnG_okC Z.F__law_seconds sc__law_seconds fun cdv A outer s H E hcd hr gd =>
    (dss_cons (ds_own (i := 3) sc__law_seconds.nd rfl (by first | exact Or.inl rfl | exact Or.inr rfl) (dn_lst (da_cons (de_metT Z.F__law_met sc__law_met rfl (by first | exact Or.inl rfl | exact Or.inr (Or.inl rfl)) (b__law_met Z) rfl Z.g__law_met ⟨TT.tb__law_seconds, hcd.symm.trans Z.e__law_seconds, TT.in__law_seconds, TT.un__law_seconds, lamS_by (sc := defScope st__law_seconds) (by decide +kernel), rfl, fun _ _ _ _ _ => rfl⟩ hr gd
    (fun E A outer s H f c' hr gd => (user_call ((ok_have_axis Z TT).up (by decide)) hr gd rfl Z.g_have_axis Z.F_have_axis.kp (b_have_axis Z) (da_cons (de_var (pv 0)) (da_cons (de_var (pv 1)) da_nil))))
    (fun E A outer s H f c' hr gd tk => (ex_user ((okx_have_axis Z TT).up (by decide)) hr gd tk rfl Z.g_have_axis Z.F_have_axis.kp (b_have_axis Z) (da_cons (de_var (pv 0)) (da_cons (de_var (pv 1)) da_nil))))
    (fun cdv s H => hs__law_met Z hr gd cdv s H) (fun cdv s H => ce_str)) da_nil)))
    (dss_cons (ds_expr (de_mt F.plainAttrs_list F.slot_list_append F.type_list_append md_append (pv 3) (da_cons (de_metT Z.F__law_met sc__law_met rfl (by first | exact Or.inl rfl | exact Or.inr (Or.inl rfl)) (b__law_met Z) rfl Z.g__law_met ⟨TT.tb__law_seconds, hcd.symm.trans Z.e__law_seconds, TT.in__law_seconds, TT.un__law_seconds, lamS_by (sc := defScope st__law_seconds) (by decide +kernel), rfl, fun _ _ _ _ _ => rfl⟩ hr gd
    (fun E A outer s H f c' hr gd => (user_call ((ok_bar_within Z TT).up (by decide)) hr gd rfl Z.g_bar_within Z.F_bar_within.kp (b_bar_within Z) (da_cons (de_var (pv 0)) (da_cons (de_var (pv 1)) da_nil))))
    (fun E A outer s H f c' hr gd tk => (ex_user ((okx_bar_within Z TT).up (by decide)) hr gd tk rfl Z.g_bar_within Z.F_bar_within.kp (b_bar_within Z) (da_cons (de_var (pv 0)) (da_cons (de_var (pv 1)) da_nil))))
    (fun cdv s H => hs__law_met Z hr gd cdv s H) (fun cdv s H => ce_str)) da_nil)))
    (dss_cons (ds_expr (de_mt F.plainAttrs_list F.slot_list_append F.type_list_append md_append (pv 3) (da_cons (de_metT Z.F__law_met sc__law_met rfl (by first | exact Or.inl rfl | exact Or.inr (Or.inl rfl)) (b__law_met Z) rfl Z.g__law_met ⟨TT.tb__law_seconds, hcd.symm.trans Z.e__law_seconds, TT.in__law_seconds, TT.un__law_seconds, lamS_by (sc := defScope st__law_seconds) (by decide +kernel), rfl, fun _ _ _ _ _ => rfl⟩ hr gd
    (fun E A outer s H f c' hr gd => (user_call ((ok_does_begin Z TT).up (by decide)) hr gd rfl Z.g_does_begin Z.F_does_begin.kp (b_does_begin Z) (da_cons (de_var (pv 0)) (da_cons (de_var (pv 2)) da_nil))))
    (fun E A outer s H f c' hr gd tk => (ex_user ((okx_does_begin Z TT).up (by decide)) hr gd tk rfl Z.g_does_begin Z.F_does_begin.kp (b_does_begin Z) (da_cons (de_var (pv 0)) (da_cons (de_var (pv 2)) da_nil))))
    (fun cdv s H => hs__law_met Z hr gd cdv s H) (fun cdv s H => ce_str)) da_nil)))
    (dss_cons (ds_expr (de_mt F.plainAttrs_list F.slot_list_append F.type_list_append md_append (pv 3) (da_cons (de_metT Z.F__law_met sc__law_met rfl (by first | exact Or.inl rfl | exact Or.inr (Or.inl rfl)) (b__law_met Z) rfl Z.g__law_met ⟨TT.tb__law_seconds, hcd.symm.trans Z.e__law_seconds, TT.in__law_seconds, TT.un__law_seconds, lamS_by (sc := defScope st__law_seconds) (by decide +kernel), rfl, fun _ _ _ _ _ => rfl⟩ hr gd
    (fun E A outer s H f c' hr gd => (user_call ((ok_axis_from Z TT).up (by decide)) hr gd rfl Z.g_axis_from Z.F_axis_from.kp (b_axis_from Z) (da_cons (de_var (pv 0)) (da_cons (de_var (pv 2)) da_nil))))
    (fun E A outer s H f c' hr gd tk => (ex_user ((okx_axis_from Z TT).up (by decide)) hr gd tk rfl Z.g_axis_from Z.F_axis_from.kp (b_axis_from Z) (da_cons (de_var (pv 0)) (da_cons (de_var (pv 2)) da_nil))))
    (fun cdv s H => hs__law_met Z hr gd cdv s H) (fun cdv s H => ce_str)) da_nil)))
    (dss_one (ds_ret (de_var (pv 3))))))))
theorem sc_require_option : FnScope ["size", "value"] ["size", "value"] (defScope st_require_option) := ⟨rfl, rfl, rfl, by decide +kernel, rfl, by decide +kernel, by decide +kernel⟩
theorem b_require_option (Z : W K mg) : Binds K Z.d_require_option ["size", "value"] [] := Z.F_require_option.bindsN fun _ _ _ _ _ _ us hl => match us, hl with | [_, _], _ => rfl
theorem ok_require_option (Z : W K mg) (TT : TB Z base) : FnG PP w K mg base CX0 4 Z.f_require_option Z.d_require_option ["size", "value"] (spD ⟨K, mg, PP, w⟩ F_require_option) :=
  fnG_ok Z.F_require_option sc_require_option fun cdv A outer s H E hr gd =>
    (dss_one (ds_if (dt_not (dt_val (user_call ((ok_is_option Z TT).up (by decide)) hr gd rfl Z.g_is_option Z.F_is_option.kp (b_is_option Z) (da_cons (de_var (pv 0)) (da_cons (de_var (pv 1)) da_nil)))))
    (dss_one ds_never)
    dss_nil))
theorem okx_require_option (Z : W K mg) (TT : TB Z base) : FnG PP w K mg base (L2.CX PP w) 4 Z.f_require_option Z.d_require_option ["size", "value"] (spX ⟨K, mg, PP, w⟩ X_require_option) :=
  fnX_ok Z.F_require_option sc_require_option fun cdv A outer s H E hr gd tk =>
    (sxs_head (sx_if (dt_not (dt_val (user_call ((ok_is_option Z TT).up (by decide)) hr gd rfl Z.g_is_option Z.F_is_option.kp (b_is_option Z) (da_cons (de_var (pv 0)) (da_cons (de_var (pv 1)) da_nil)))))
    (sxs_head (sx_raise rfl tk (mx_new Z.new_InvalidNumber hr (de_var (pv 1)) rfl)))
    sxs_never))
theorem sc_can_be_ends : FnScope ["book", "one", "other", "option"] ["book", "one", "other"] (defScope st_can_be_ends) := ⟨rfl, rfl, rfl, by decide +kernel, rfl, by decide +kernel, by decide +kernel⟩
theorem b_can_be_ends (Z : W K mg) : Binds K Z.d_can_be_ends ["book", "one", "other"] [] := Z.F_can_be_ends.bindsN fun _ _ _ _ _ _ us hl => match us, hl with | [_, _, _], _ => rfl
theorem ok_can_be_ends (Z : W K mg) (TT : TB Z base) : FnG PP w K mg base CX0 5 Z.f_can_be_ends Z.d_can_be_ends ["book", "one", "other"] (spD ⟨K, mg, PP, w⟩ F_can_be_ends) :=
  fnG_ok Z.F_can_be_ends sc_can_be_ends fun cdv A outer s H E hr gd =>
    (dss_cons (ds_expr (user_call ((ok_require_book Z TT).up (by decide)) hr gd rfl Z.g_require_book Z.F_require_book.kp (b_require_book Z) (da_cons (de_var (pv 0)) da_nil)))
    (dss_cons (ds_for PassesOwn.never rfl (di_seq (de_tup (da_cons (de_var (pv 1)) (da_cons (de_var (pv 2)) da_nil)))) (dg_name (pg_name (i := 3) sc_can_be_ends.nd rfl (by first | exact Or.inl rfl | exact Or.inr rfl)))
    (dss_one (ds_expr (user_call ((ok_require_option Z TT).up (by decide)) hr gd rfl Z.g_require_option Z.F_require_option.kp (b_require_option Z) (da_cons (de_fld (de_var (pv 0)) Z.k_Book (clsB_ok Z.q_Book).1 (slotB_ok Z.u1_Book).choose_spec) (da_cons (de_var (pv 3)) da_nil))))))
    (dss_cons (ds_if (dt_cmp (od_eq (ru hr)) (de_var (pv 1)) (de_var (pv 2)) (nomark _))
    (dss_one ds_never)
    dss_nil)
    (dss_one (ds_ret (de_cmp od_notN (user_call ((ok_axis_behind Z TT).up (by decide)) hr gd rfl Z.g_axis_behind Z.F_axis_behind.kp (b_axis_behind Z) (da_cons (de_fld (de_var (pv 0)) Z.k_Book (clsB_ok Z.q_Book).1 (slotB_ok Z.u1_Book).choose_spec) (da_cons (user_call ((ok_lasts_of Z TT).up (by decide)) hr gd rfl Z.g_lasts_of Z.F_lasts_of.kp (b_lasts_of Z) (da_cons (de_var (pv 0)) da_nil)) (da_cons (de_tup (da_cons (de_var (pv 1)) da_nil)) (da_cons (de_var (pv 2)) da_nil))))) de_non (nomark _)))))))
theorem okx_can_be_ends (Z : W K mg) (TT : TB Z base) : FnG PP w K mg base (L2.CX PP w) 5 Z.f_can_be_ends Z.d_can_be_ends ["book", "one", "other"] (spX ⟨K, mg, PP, w⟩ X_can_be_ends) :=
  fnX_ok Z.F_can_be_ends sc_can_be_ends fun cdv A outer s H E hr gd tk =>
    (sxs_or (sxs_head (sx_expr (ex_user ((okx_require_book Z TT).up (by decide)) hr gd tk rfl Z.g_require_book Z.F_require_book.kp (b_require_book Z) (da_cons (de_var (pv 0)) da_nil))))
    (sxs_next (ds_expr (user_call ((ok_require_book Z TT).up (by decide)) hr gd rfl Z.g_require_book Z.F_require_book.kp (b_require_book Z) (da_cons (de_var (pv 0)) da_nil)))
    (sxs_or (sxs_head (sx_for passX rfl (di_seq (de_tup (da_cons (de_var (pv 1)) (da_cons (de_var (pv 2)) da_nil)))) (dg_name (pg_name (i := 3) sc_can_be_ends.nd rfl (by first | exact Or.inl rfl | exact Or.inr rfl)))
    (dss_one (ds_expr (user_call ((ok_require_option Z TT).up (by decide)) hr gd rfl Z.g_require_option Z.F_require_option.kp (b_require_option Z) (da_cons (de_fld (de_var (pv 0)) Z.k_Book (clsB_ok Z.q_Book).1 (slotB_ok Z.u1_Book).choose_spec) (da_cons (de_var (pv 3)) da_nil)))))
    (sxs_head (sx_expr (ex_user ((okx_require_option Z TT).up (by decide)) hr gd tk rfl Z.g_require_option Z.F_require_option.kp (b_require_option Z) (da_cons (de_fld (de_var (pv 0)) Z.k_Book (clsB_ok Z.q_Book).1 (slotB_ok Z.u1_Book).choose_spec) (da_cons (de_var (pv 3)) da_nil)))))))
    (sxs_next (ds_for passX rfl (di_seq (de_tup (da_cons (de_var (pv 1)) (da_cons (de_var (pv 2)) da_nil)))) (dg_name (pg_name (i := 3) sc_can_be_ends.nd rfl (by first | exact Or.inl rfl | exact Or.inr rfl)))
    (dss_one (ds_expr (user_call ((ok_require_option Z TT).up (by decide)) hr gd rfl Z.g_require_option Z.F_require_option.kp (b_require_option Z) (da_cons (de_fld (de_var (pv 0)) Z.k_Book (clsB_ok Z.q_Book).1 (slotB_ok Z.u1_Book).choose_spec) (da_cons (de_var (pv 3)) da_nil))))))
    (sxs_or (sxs_head (sx_if (dt_cmp (od_eq (ru hr)) (de_var (pv 1)) (de_var (pv 2)) (nomark _))
    (sxs_head (sx_raise rfl tk (mx_msg PySem.F.excBase_ValueError Z.msg_InvalidOperation.1 Z.k_InvalidOperation Z.msg_InvalidOperation.2.1 Z.msg_InvalidOperation.2.2.1 Z.msg_InvalidOperation.2.2.2 rfl)))
    sxs_never))
    (sxs_next (ds_if (dt_cmp (od_eq (ru hr)) (de_var (pv 1)) (de_var (pv 2)) (nomark _))
    (dss_one ds_never)
    dss_nil)
    (sxs_head (sx_ret (ex_cmp od_notN (ex_user ((okx_axis_behind Z TT).up (by decide)) hr gd tk rfl Z.g_axis_behind Z.F_axis_behind.kp (b_axis_behind Z) (da_cons (de_fld (de_var (pv 0)) Z.k_Book (clsB_ok Z.q_Book).1 (slotB_ok Z.u1_Book).choose_spec) (da_cons (user_call ((ok_lasts_of Z TT).up (by decide)) hr gd rfl Z.g_lasts_of Z.F_lasts_of.kp (b_lasts_of Z) (da_cons (de_var (pv 0)) da_nil)) (da_cons (de_tup (da_cons (de_var (pv 1)) da_nil)) (da_cons (de_var (pv 2)) da_nil))))) de_non (nomark _))))))))))
theorem sc__law_right : FnScope ["bag", "book", "none", "lot", "row", "one", "other", "told"] ["bag"] (defScope st__law_right) := ⟨rfl, rfl, rfl, by decide +kernel, rfl, by decide +kernel, by decide +kernel⟩
theorem b__law_right (Z : W K mg) : Binds K Z.d__law_right ["bag"] [] := Z.F__law_right.bindsN fun _ _ _ _ _ _ us hl => match us, hl with | [_], _ => rfl
theorem ok__law_right (Z : W K mg) (TT : TB Z base) : FnG PP w K mg base CX0 13 Z.f__law_right Z.d__law_right ["bag"] (spD ⟨K, mg, PP, w⟩ F__law_right) :=
  fnG_okC Z.F__law_right sc__law_right fun cdv A outer s H E hcd hr gd =>
    (dss_cons (ds_set (i := 1) sc__law_right.nd rfl (by first | exact Or.inl rfl | exact Or.inr rfl) (de_make Z.mk_Book (ok_Book__init Z TT) (hr.mono (by decide)) gd rfl Z.k_Book (b_Book__init Z) (da_cons de_int (da_cons (de_tup (da_cons (de_tup (da_cons de_int (da_cons de_int (da_cons de_int (da_cons de_int da_nil))))) (da_cons (de_tup (da_cons de_int (da_cons de_int (da_cons de_int (da_cons de_int da_nil))))) da_nil))) da_nil))))
    (dss_cons (ds_set (i := 2) sc__law_right.nd rfl (by first | exact Or.inl rfl | exact Or.inr rfl) (user_call ((ok__law_one_of Z TT).up (by decide)) hr gd rfl Z.g__law_one_of Z.F__law_one_of.kp (b__law_one_of Z) (da_cons (de_var (pv 0)) (da_cons (de_n (dn_lst (da_cons de_non (da_cons de_int (da_cons de_str (da_cons (de_tup (da_cons de_int (da_cons (de_tup da_nil) da_nil))) (da_cons (de_n (dn_lst da_nil)) (da_cons de_dict0 da_nil)))))))) da_nil))))
    (dss_cons (ds_set (i := 3) sc__law_right.nd rfl (by first | exact Or.inl rfl | exact Or.inr rfl) (user_call ((ok__law_one_of Z TT).up (by decide)) hr gd rfl Z.g__law_one_of Z.F__law_one_of.kp (b__law_one_of Z) (da_cons (de_var (pv 0)) (da_cons (de_n (dn_lst (da_cons de_non (da_cons (de_tup da_nil) (da_cons (de_n (dn_lst (da_cons de_int da_nil))) (da_cons (de_tup (da_cons de_int da_nil)) (da_cons (de_tup (da_cons de_int (da_cons de_int da_nil))) (da_cons (de_tup (da_cons de_int (da_cons de_int da_nil))) (da_cons (de_tup (da_cons de_bl da_nil)) (da_cons (de_tup (da_cons de_str da_nil)) (da_cons (de_tup (da_cons (de_un ud_neg de_int) da_nil)) (da_cons de_int da_nil)))))))))))) da_nil))))
    (dss_cons (ds_set (i := 4) sc__law_right.nd rfl (by first | exact Or.inl rfl | exact Or.inr rfl) (user_call ((ok__law_one_of Z TT).up (by decide)) hr gd rfl Z.g__law_one_of Z.F__law_one_of.kp (b__law_one_of Z) (da_cons (de_var (pv 0)) (da_cons (de_n (dn_lst (da_cons de_non (da_cons (de_n (dn_lst (da_cons de_int da_nil))) (da_cons (de_tup (da_cons de_int da_nil)) (da_cons (de_tup (da_cons de_int (da_cons de_int da_nil))) (da_cons (de_tup (da_cons de_bl da_nil)) (da_cons (de_tup (da_cons de_str da_nil)) (da_cons (de_tup (da_cons (de_un ud_neg de_int) da_nil)) (da_cons de_int (da_cons (de_tup (da_cons de_int (da_cons de_int (da_cons de_int (da_cons de_int (da_cons de_int da_nil)))))) (da_cons (de_tup (da_cons (de_tup (da_cons de_int da_nil)) da_nil)) da_nil)))))))))))) da_nil))))
    (dss_cons (ds_asg (de_tup (da_cons (user_call ((ok__law_one_of Z TT).up (by decide)) hr gd rfl Z.g__law_one_of Z.F__law_one_of.kp (b__law_one_of Z) (da_cons (de_var (pv 0)) (da_cons (de_n (dn_lst (da_cons de_int (da_cons (de_un ud_neg de_int) (da_cons de_non (da_cons de_bl (da_cons de_str (da_cons (de_bin od_pow de_int de_int) da_nil)))))))) da_nil))) (da_cons (user_call ((ok__law_one_of Z TT).up (by decide)) hr gd rfl Z.g__law_one_of Z.F__law_one_of.kp (b__law_one_of Z) (da_cons (de_var (pv 0)) (da_cons (de_n (dn_lst (da_cons de_int (da_cons (de_un ud_neg de_int) (da_cons de_bl (da_cons (de_tup (da_cons de_int da_nil)) (da_cons de_str da_nil))))))) da_nil))) da_nil))) (dg_tup rfl (dgs_cons (dg_name (pg_name (i := 5) sc__law_right.nd rfl (by first | exact Or.inl rfl | exact Or.inr rfl))) (dgs_cons (dg_name (pg_name (i := 6) sc__law_right.nd rfl (by first | exact Or.inl rfl | exact Or.inr rfl))) dgs_nil))))
    (dss_cons (ds_if (dt_w (dw_or (dt_cmp (od_ne (ru hr)) (user_call ((ok__law_firsts Z TT).up (by decide)) hr gd rfl Z.g__law_firsts Z.F__law_firsts.kp (b__law_firsts Z) (da_cons (de_var (pv 2)) da_nil)) (de_n (dn_rep (dn_lst (da_cons de_str da_nil)) de_int)) (nomark _)) (dw_or (dt_cmp (od_ne (ru hr)) (user_call ((ok__law_seconds Z TT).up (by decide)) hr gd rfl Z.g__law_seconds Z.F__law_seconds.kp (b__law_seconds Z) (da_cons (de_var (pv 2)) (da_cons (de_var (pv 3)) (da_cons (de_var (pv 4)) da_nil)))) (de_n (dn_rep (dn_lst (da_cons de_str da_nil)) de_int)) (nomark _)) (dw_or1 (dt_cmp (od_ne (ru hr)) (user_call ((ok__law_seconds Z TT).up (by decide)) hr gd rfl Z.g__law_seconds Z.F__law_seconds.kp (b__law_seconds Z) (da_cons (de_var (pv 1)) (da_cons (de_var (pv 3)) (da_cons (de_var (pv 4)) da_nil)))) (de_bin od_add (de_n (dn_rep (dn_lst (da_cons de_str da_nil)) de_int)) (de_n (dn_rep (dn_lst (da_cons de_str da_nil)) de_int))) (nomark _))))))
    (dss_one (ds_ret de_bl))
    dss_nil)
    (dss_cons (ds_if (dt_w (dw_or (dt_cmp (od_ne (ru hr)) (user_call ((ok__law_firsts Z TT).up (by decide)) hr gd rfl Z.g__law_firsts Z.F__law_firsts.kp (b__law_firsts Z) (da_cons (de_var (pv 1)) da_nil)) (de_n (dn_rep (dn_lst (da_cons de_str da_nil)) de_int)) (nomark _)) (dw_or (dt_cmp (od_ne (ru hr)) (user_call ((ok__law_seconds Z TT).up (by decide)) hr gd rfl Z.g__law_seconds Z.F__law_seconds.kp (b__law_seconds Z) (da_cons (de_var (pv 1)) (da_cons (de_tup (da_cons de_int (da_cons de_int da_nil))) (da_cons (de_tup da_nil) da_nil)))) (de_n (dn_rep (dn_lst (da_cons de_str da_nil)) de_int)) (nomark _)) (dw_or1 (dt_cmp (od_ne (ru hr)) (user_call ((ok__law_seconds Z TT).up (by decide)) hr gd rfl Z.g__law_seconds Z.F__law_seconds.kp (b__law_seconds Z) (da_cons (de_var (pv 1)) (da_cons (de_tup (da_cons de_int da_nil)) (da_cons (de_tup (da_cons de_int (da_cons de_int (da_cons de_int (da_cons de_int da_nil))))) da_nil)))) (de_n (dn_rep (dn_lst (da_cons de_str da_nil)) de_int)) (nomark _))))))
    (dss_one (ds_ret de_bl))
    dss_nil)
    (dss_cons (ds_own (i := 7) sc__law_right.nd rfl (by first | exact Or.inl rfl | exact Or.inr rfl) (dn_lst (da_cons (de_metT Z.F__law_met sc__law_met rfl (by first | exact Or.inl rfl | exact Or.inr (Or.inl rfl)) (b__law_met Z) rfl Z.g__law_met ⟨TT.tb__law_right, hcd.symm.trans Z.e__law_right, TT.in__law_right, TT.un__law_right, lamS_by (sc := defScope st__law_right) (by decide +kernel), rfl, fun _ _ _ _ _ => rfl⟩ hr gd
    (fun E A outer s H f c' hr gd => (user_call ((ok_can_be_ends Z TT).up (by decide)) hr gd rfl Z.g_can_be_ends Z.F_can_be_ends.kp (b_can_be_ends Z) (da_cons (de_var (pv 2)) (da_cons (de_var (pv 5)) (da_cons (de_var (pv 6)) da_nil)))))
    (fun E A outer s H f c' hr gd tk => (ex_user ((okx_can_be_ends Z TT).up (by decide)) hr gd tk rfl Z.g_can_be_ends Z.F_can_be_ends.kp (b_can_be_ends Z) (da_cons (de_var (pv 2)) (da_cons (de_var (pv 5)) (da_cons (de_var (pv 6)) da_nil)))))
    (fun cdv s H => hs__law_met Z hr gd cdv s H) (fun cdv s H => ce_str)) da_nil)))
    (dss_cons (ds_expr (de_mt F.plainAttrs_list F.slot_list_append F.type_list_append md_append (pv 7) (da_cons (de_metT Z.F__law_met sc__law_met rfl (by first | exact Or.inl rfl | exact Or.inr (Or.inl rfl)) (b__law_met Z) rfl Z.g__law_met ⟨TT.tb__law_right, hcd.symm.trans Z.e__law_right, TT.in__law_right, TT.un__law_right, lamS_by (sc := defScope st__law_right) (by decide +kernel), rfl, fun _ _ _ _ _ => rfl⟩ hr gd
    (fun E A outer s H f c' hr gd => (user_call ((ok_can_be_ends Z TT).up (by decide)) hr gd rfl Z.g_can_be_ends Z.F_can_be_ends.kp (b_can_be_ends Z) (da_cons (de_var (pv 1)) (da_cons (de_var (pv 5)) (da_cons (de_var (pv 6)) da_nil)))))
    (fun E A outer s H f c' hr gd tk => (ex_user ((okx_can_be_ends Z TT).up (by decide)) hr gd tk rfl Z.g_can_be_ends Z.F_can_be_ends.kp (b_can_be_ends Z) (da_cons (de_var (pv 1)) (da_cons (de_var (pv 5)) (da_cons (de_var (pv 6)) da_nil)))))
    (fun cdv s H => hs__law_met Z hr gd cdv s H) (fun cdv s H => ce_str)) da_nil)))
    (dss_cons (ds_expr (de_mt F.plainAttrs_list F.slot_list_append F.type_list_append md_append (pv 7) (da_cons (de_metT Z.F__law_met sc__law_met rfl (by first | exact Or.inl rfl | exact Or.inr (Or.inl rfl)) (b__law_met Z) rfl Z.g__law_met ⟨TT.tb__law_right, hcd.symm.trans Z.e__law_right, TT.in__law_right, TT.un__law_right, lamS_by (sc := defScope st__law_right) (by decide +kernel), rfl, fun _ _ _ _ _ => rfl⟩ hr gd
    (fun E A outer s H f c' hr gd => (user_call ((ok_can_be_ends Z TT).up (by decide)) hr gd rfl Z.g_can_be_ends Z.F_can_be_ends.kp (b_can_be_ends Z) (da_cons (de_var (pv 1)) (da_cons de_int (da_cons (de_var (pv 6)) da_nil)))))
    (fun E A outer s H f c' hr gd tk => (ex_user ((okx_can_be_ends Z TT).up (by decide)) hr gd tk rfl Z.g_can_be_ends Z.F_can_be_ends.kp (b_can_be_ends Z) (da_cons (de_var (pv 1)) (da_cons de_int (da_cons (de_var (pv 6)) da_nil)))))
    (fun cdv s H => hs__law_met Z hr gd cdv s H) (fun cdv s H => ce_str)) da_nil)))
    (dss_cons (ds_expr (de_mt F.plainAttrs_list F.slot_list_append F.type_list_append md_append (pv 7) (da_cons (de_metT Z.F__law_met sc__law_met rfl (by first | exact Or.inl rfl | exact Or.inr (Or.inl rfl)) (b__law_met Z) rfl Z.g__law_met ⟨TT.tb__law_right, hcd.symm.trans Z.e__law_right, TT.in__law_right, TT.un__law_right, lamS_by (sc := defScope st__law_right) (by decide +kernel), rfl, fun _ _ _ _ _ => rfl⟩ hr gd
    (fun E A outer s H f c' hr gd => (user_call ((ok_can_be_ends Z TT).up (by decide)) hr gd rfl Z.g_can_be_ends Z.F_can_be_ends.kp (b_can_be_ends Z) (da_cons (de_var (pv 1)) (da_cons de_int (da_cons de_int da_nil)))))
    (fun E A outer s H f c' hr gd tk => (ex_user ((okx_can_be_ends Z TT).up (by decide)) hr gd tk rfl Z.g_can_be_ends Z.F_can_be_ends.kp (b_can_be_ends Z) (da_cons (de_var (pv 1)) (da_cons de_int (da_cons de_int da_nil)))))
    (fun cdv s H => hs__law_met Z hr gd cdv s H) (fun cdv s H => ce_str)) da_nil)))
    (dss_cons (ds_expr (de_mt F.plainAttrs_list F.slot_list_append F.type_list_append md_append (pv 7) (da_cons (de_metT Z.F__law_met sc__law_met rfl (by first | exact Or.inl rfl | exact Or.inr (Or.inl rfl)) (b__law_met Z) rfl Z.g__law_met ⟨TT.tb__law_right, hcd.symm.trans Z.e__law_right, TT.in__law_right, TT.un__law_right, lamS_by (sc := defScope st__law_right) (by decide +kernel), rfl, fun _ _ _ _ _ => rfl⟩ hr gd
    (fun E A outer s H f c' hr gd => (user_call ((ok_can_be_ends Z TT).up (by decide)) hr gd rfl Z.g_can_be_ends Z.F_can_be_ends.kp (b_can_be_ends Z) (da_cons (de_var (pv 1)) (da_cons de_int (da_cons de_int da_nil)))))
    (fun E A outer s H f c' hr gd tk => (ex_user ((okx_can_be_ends Z TT).up (by decide)) hr gd tk rfl Z.g_can_be_ends Z.F_can_be_ends.kp (b_can_be_ends Z) (da_cons (de_var (pv 1)) (da_cons de_int (da_cons de_int da_nil)))))
    (fun cdv s H => hs__law_met Z hr gd cdv s H) (fun cdv s H => ce_str)) da_nil)))
    (dss_one (ds_ret (de_cmp (od_eq (ru hr)) (de_var (pv 7)) (de_n (dn_lst (da_cons de_str (da_cons (de_bin od_add de_str (de_callB (cd_repr gd (ru hr)) rfl Z.n_repr (by decide +kernel) (da_cons (de_var (pv 5)) da_nil))) (da_cons (de_bin od_add de_str (de_callB (cd_repr gd (ru hr)) rfl Z.n_repr (by decide +kernel) (da_cons (de_var (pv 6)) da_nil))) (da_cons de_str (da_cons de_str da_nil))))))) (nomark _))))))))))))))))
theorem sc_law : FnScope ["script", "at", "bag", "book", "odd", "turn", "value"] ["script"] (defScope st_law) := ⟨rfl, rfl, rfl, by decide +kernel, rfl, by decide +kernel, by decide +kernel⟩
theorem b_law (Z : W K mg) : Binds K Z.d_law ["script"] [] := Z.F_law.bindsN fun _ _ _ _ _ _ us hl => match us, hl with | [_], _ => rfl
theorem ok_law (Z : W K mg) (TT : TB Z base) : FnG PP w K mg base CX0 14 Z.f_law Z.d_law ["script"] (spD ⟨K, mg, PP, w⟩ F_law) :=
  fnG_ok Z.F_law sc_law fun cdv A outer s H E hr gd =>
    (dss_cons (ds_for PassesOwn.never rfl (di_range1 rfl Z.n_range (da_cons (de_callB (cd_max2 rfl) rfl Z.n_max (by decide +kernel) (da_cons de_int (da_cons (de_callB (cd_min2 rfl) rfl Z.n_min (by decide +kernel) (da_cons de_int (da_cons (de_callB cd_len rfl Z.n_len (by decide +kernel) (da_cons (de_var (pv 0)) da_nil)) da_nil))) da_nil))) da_nil)) (dg_name (pg_name (i := 1) sc_law.nd rfl (by first | exact Or.inl rfl | exact Or.inr rfl)))
    (dss_cons (ds_own (i := 2) sc_law.nd rfl (by first | exact Or.inl rfl | exact Or.inr rfl) (user_callN ((ok__law_bag Z TT).up (by decide)) hr gd rfl Z.g__law_bag Z.F__law_bag.kp (b__law_bag Z) (da_cons (de_var (pv 0)) (da_cons (de_var (pv 1)) da_nil))))
    (dss_one (ds_if (dt_cmp (od_ne (ru hr)) (de_n (dn_lc rfl sc_law.nd (di_range1 rfl Z.n_range (da_cons de_int da_nil)) (own := [("turn", 5)]) (blkO rfl) (by decide) (fun s H C cl fp => (dg_name (pg_name (i := 5) sc_law.nd rfl (by first | exact Or.inl rfl | exact Or.inr rfl)))) (fun s H C cl fp => (dts_one (dt_not (dt_val (user_call ((ok__law_right Z TT).up (by decide)) hr gd rfl Z.g__law_right Z.F__law_right.kp (b__law_right Z) (da_cons (de_var (pv 2)) da_nil)))))) (fun s H C cl fp => de_int))) (de_n (dn_lst da_nil)) (nomark _))
    (dss_one (ds_ret de_bl))
    dss_nil))))
    (dss_cons (ds_set (i := 3) sc_law.nd rfl (by first | exact Or.inl rfl | exact Or.inr rfl) (de_make Z.mk_Book (ok_Book__init Z TT) (hr.mono (by decide)) gd rfl Z.k_Book (b_Book__init Z) (da_cons de_int (da_cons (de_tup (da_cons (de_tup (da_cons de_int (da_cons de_int (da_cons de_int da_nil)))) (da_cons (de_tup (da_cons de_int (da_cons de_int (da_cons de_int da_nil)))) da_nil))) da_nil))))
    (dss_cons (ds_set (i := 4) sc_law.nd rfl (by first | exact Or.inl rfl | exact Or.inr rfl) (de_n (dn_lst (da_cons de_non (da_cons de_int (da_cons (de_tup da_nil) (da_cons (de_n (dn_lst da_nil)) (da_cons de_dict0 (da_cons de_str (da_cons (de_tup (da_cons de_str da_nil)) (da_cons (de_tup (da_cons de_str (da_cons (de_tup da_nil) da_nil))) (da_cons (de_tup (da_cons de_str (da_cons de_non da_nil))) (da_cons (de_tup (da_cons de_str (da_cons (de_tup (da_cons de_int (da_cons de_int da_nil))) da_nil))) (da_cons (de_tup (da_cons de_str (da_cons (de_tup (da_cons de_int (da_cons de_int (da_cons de_int da_nil)))) da_nil))) (da_cons (de_tup (da_cons de_str (da_cons (de_tup (da_cons de_int (da_cons de_int (da_cons de_int da_nil)))) da_nil))) (da_cons (de_tup (da_cons de_str (da_cons (de_tup (da_cons de_int (da_cons de_int (da_cons de_int da_nil)))) (da_cons de_int da_nil)))) da_nil))))))))))))))))
    (dss_cons (ds_set (i := 4) sc_law.nd rfl (by first | exact Or.inl rfl | exact Or.inr rfl) (de_bin od_add (de_var (pv 4)) (de_n (dn_lst (da_cons (de_tup (da_cons de_str (da_cons (de_tup (da_cons de_int (da_cons de_int (da_cons de_int da_nil)))) da_nil))) (da_cons (de_tup (da_cons de_str (da_cons (de_tup (da_cons de_int (da_cons de_int (da_cons de_int da_nil)))) (da_cons (de_tup da_nil) da_nil)))) (da_cons (de_tup (da_cons de_str (da_cons de_non (da_cons de_non da_nil)))) (da_cons (de_tup (da_cons de_str (da_cons (de_tup (da_cons de_int (da_cons de_int (da_cons de_int da_nil)))) (da_cons (de_tup (da_cons de_int (da_cons de_int da_nil))) da_nil)))) (da_cons (de_tup (da_cons de_non (da_cons (de_tup (da_cons de_int (da_cons de_int (da_cons de_int da_nil)))) da_nil))) (da_cons (de_tup (da_cons de_str (da_cons (de_tup (da_cons de_int (da_cons de_int (da_cons de_int da_nil)))) (da_cons (de_tup (da_cons de_int (da_cons de_int (da_cons de_int da_nil)))) da_nil)))) da_nil))))))))))
    (dss_one (ds_ret (de_cmp (od_eq (ru hr)) (de_n (dn_lc rfl sc_law.nd (di_seq (de_var (pv 4))) (own := [("value", 6)]) (blkO rfl) (by decide) (fun s H C cl fp => (dg_name (pg_name (i := 6) sc_law.nd rfl (by first | exact Or.inl rfl | exact Or.inr rfl)))) (fun s H C cl fp => (dts_one (dt_w (dw_or (dt_cmp od_notB (user_call ((ok_is_axis_paper Z TT).up (by decide)) hr gd rfl Z.g_is_axis_paper Z.F_is_axis_paper.kp (b_is_axis_paper Z) (da_cons (de_var (pv 3)) (da_cons (de_var (pv 6)) da_nil))) de_bl (nomark _)) (dw_or1 (dt_cmp od_notB (user_call ((ok_is_bar Z TT).up (by decide)) hr gd rfl Z.g_is_bar Z.F_is_bar.kp (b_is_bar Z) (da_cons (de_var (pv 3)) (da_cons (de_var (pv 6)) da_nil))) de_bl (nomark _))))))) (fun s H C cl fp => (de_var (pv 6))))) (de_n (dn_lst da_nil)) (nomark _))))))))
end
theorem facts {K : PySem.W.Frag} {h : Heap} {mg : Str → Option Value} {w : World} (X : K.In h) (G : h.Ns mainGlobals mg) (c0 : He.SaysX fa fn [] tf exB w h K) : ∃ Z : W K mg, [(Z.c__law_firsts, Z.P__law_firsts), (Z.c__law_seconds, Z.P__law_seconds), (Z.c__law_right, Z.P__law_right)] = tf.map (He.cT K) := by
  have c := c0.t.d
  have n0 := c0.more
  obtain ⟨b0, n1⟩ := He.ba n0
  obtain ⟨b1, n2⟩ := He.ba n1
  obtain ⟨b2, n3⟩ := He.ba n2
  obtain ⟨b3, n4⟩ := He.ba n3
  have m0 := n4
  obtain ⟨o0, m1⟩ := He.ba m0
  obtain ⟨w0, x0, y0⟩ := newE_of (P := PP) o0 (He.glo_ok X G (c.fact 62 (f := .glo "InvalidNumber") rfl)) PySem.W.kxs_IndexError PySem.F.excBase_IndexError PySem.F.store_IndexError (beq_self_eq_true _) (by decide +kernel) (fun _ _ _ _ _ _ _ _ _ _ _ _ _ _ _ _ => rfl)
  obtain ⟨d0, e0⟩ := c.def_ 0 (d := h_is_whole) rfl
  obtain ⟨d1, e1⟩ := c.def_ 1 (d := h_is_within) rfl
  obtain ⟨d2, e2⟩ := c.def_ 2 (d := h_require_size) rfl
  obtain ⟨d3, e3⟩ := c.def_ 3 (d := h_is_option) rfl
  obtain ⟨d4, e4⟩ := c.def_ 4 (d := h_is_row_of) rfl
  obtain ⟨d5, e5⟩ := c.def_ 5 (d := h_are_ballots) rfl
  obtain ⟨d6, e6⟩ := c.def_ 6 (d := h__law_bag) rfl
  obtain ⟨d7, e7⟩ := c.def_ 7 (d := h__law_draw) rfl
  obtain ⟨d8, e8⟩ := c.def_ 8 (d := h__law_one_of) rfl
  obtain ⟨d9, e9⟩ := c.def_ 9 (d := h_require_book) rfl
  obtain ⟨d10, e10⟩ := c.def_ 10 (d := h_lasts) rfl
  obtain ⟨d11, e11⟩ := c.def_ 11 (d := h_can_stand) rfl
  obtain ⟨d12, e12⟩ := c.def_ 12 (d := h_is_begun) rfl
  obtain ⟨d13, e13⟩ := c.def_ 13 (d := h_axis_behind) rfl
  obtain ⟨d14, e14⟩ := c.def_ 14 (d := h_places_in) rfl
  obtain ⟨d15, e15⟩ := c.def_ 15 (d := h_is_last_somewhere) rfl
  obtain ⟨d16, e16⟩ := c.def_ 16 (d := h_lasts_of) rfl
  obtain ⟨d17, e17⟩ := c.def_ 17 (d := h_axis_in) rfl
  obtain ⟨d18, e18⟩ := c.def_ 18 (d := h_has_axis) rfl
  obtain ⟨d19, e19⟩ := c.def_ 19 (d := h_first_last) rfl
  obtain ⟨d20, e20⟩ := c.def_ 20 (d := h_three_in) rfl
  obtain ⟨d21, e21⟩ := c.def_ 21 (d := h_is_bent) rfl
  obtain ⟨d22, e22⟩ := c.def_ 22 (d := h_four_with) rfl
  obtain ⟨d23, e23⟩ := c.def_ 23 (d := h_four_in) rfl
  obtain ⟨d24, e24⟩ := c.def_ 24 (d := h_bar_in) rfl
  obtain ⟨d25, e25⟩ := c.def_ 25 (d := h_paper_in) rfl
  obtain ⟨d26, e26⟩ := c.def_ 26 (d := h_axis_paper) rfl
  obtain ⟨d27, e27⟩ := c.def_ 27 (d := h_are_indices) rfl
  obtain ⟨d28, e28⟩ := c.def_ 28 (d := h_are_options) rfl
  obtain ⟨d29, e29⟩ := c.def_ 29 (d := h_is_lot_of) rfl
  obtain ⟨d30, e30⟩ := c.def_ 30 (d := h_is_three_bar) rfl
  obtain ⟨d31, e31⟩ := c.def_ 31 (d := h_is_four_bar) rfl
  obtain ⟨d32, e32⟩ := c.def_ 32 (d := h_is_bar_in) rfl
  obtain ⟨d33, e33⟩ := c.def_ 33 (d := h_is_peaked_in) rfl
  obtain ⟨d34, e34⟩ := c.def_ 34 (d := h_are_peaked_in) rfl
  obtain ⟨d35, e35⟩ := c.def_ 35 (d := h_is_axis_paper) rfl
  obtain ⟨d36, e36⟩ := c.def_ 36 (d := h_is_bar) rfl
  obtain ⟨d37, e37⟩ := c.def_ 37 (d := h_first_three) rfl
  obtain ⟨d38, e38⟩ := c.def_ 38 (d := h_first_four) rfl
  obtain ⟨d39, e39⟩ := c.def_ 39 (d := h_lots_of) rfl
  obtain ⟨d40, e40⟩ := c.def_ 40 (d := h_kept_ballot) rfl
  obtain ⟨d41, e41⟩ := c.def_ 41 (d := h_kept_in) rfl
  obtain ⟨d42, e42⟩ := c.def_ 42 (d := h_is_less) rfl
  obtain ⟨d43, e43⟩ := c.def_ 43 (d := h_least_without) rfl
  obtain ⟨d44, e44⟩ := c.def_ 44 (d := h__law_firsts) rfl
  obtain ⟨d45, e45⟩ := c.def_ 45 (d := h_require_lot) rfl
  obtain ⟨d46, e46⟩ := c.def_ 46 (d := h_require_known_lot) rfl
  obtain ⟨d47, e47⟩ := c.def_ 47 (d := h_have_axis) rfl
  obtain ⟨d48, e48⟩ := c.def_ 48 (d := h_named_by) rfl
  obtain ⟨d49, e49⟩ := c.def_ 49 (d := h_bar_within) rfl
  obtain ⟨d50, e50⟩ := c.def_ 50 (d := h_require_row) rfl
  obtain ⟨d51, e51⟩ := c.def_ 51 (d := h_does_begin) rfl
  obtain ⟨d52, e52⟩ := c.def_ 52 (d := h_axis_from) rfl
  obtain ⟨d53, e53⟩ := c.def_ 53 (d := h__law_seconds) rfl
  obtain ⟨d54, e54⟩ := c.def_ 54 (d := h_require_option) rfl
  obtain ⟨d55, e55⟩ := c.def_ 55 (d := h_can_be_ends) rfl
  obtain ⟨d56, e56⟩ := c.def_ 56 (d := h__law_right) rfl
  obtain ⟨d57, e57⟩ := c.def_ 57 (d := h_law) rfl
  obtain ⟨d58, e58⟩ := c.def_ 58 (d := h__law_met) rfl
  obtain ⟨d59, e59⟩ := c.def_ 59 (d := h_Book__init) rfl
  exact ⟨⟨_, d0, e0, He.glo_ok X G (c.fact 0 (f := .glo "is_whole") rfl), _, d1, e1, He.glo_ok X G (c.fact 1 (f := .glo "is_within") rfl), _, d2, e2, He.glo_ok X G (c.fact 2 (f := .glo "require_size") rfl), _, d3, e3, He.glo_ok X G (c.fact 3 (f := .glo "is_option") rfl), _, d4, e4, He.glo_ok X G (c.fact 4 (f := .glo "is_row_of") rfl), _, d5, e5, He.glo_ok X G (c.fact 5 (f := .glo "are_ballots") rfl), _, d6, e6, He.glo_ok X G (c.fact 6 (f := .glo "_law_bag") rfl), _, d7, e7, He.glo_ok X G (c.fact 7 (f := .glo "_law_draw") rfl), _, d8, e8, He.glo_ok X G (c.fact 8 (f := .glo "_law_one_of") rfl), _, d9, e9, He.glo_ok X G (c.fact 9 (f := .glo "require_book") rfl), _, d10, e10, He.glo_ok X G (c.fact 10 (f := .glo "lasts") rfl), _, d11, e11, He.glo_ok X G (c.fact 11 (f := .glo "can_stand") rfl), _, d12, e12, He.glo_ok X G (c.fact 12 (f := .glo "is_begun") rfl), _, d13, e13, He.glo_ok X G (c.fact 13 (f := .glo "axis_behind") rfl), _, d14, e14, He.glo_ok X G (c.fact 14 (f := .glo "places_in") rfl), _, d15, e15, He.glo_ok X G (c.fact 15 (f := .glo "is_last_somewhere") rfl), _, d16, e16, He.glo_ok X G (c.fact 16 (f := .glo "lasts_of") rfl), _, d17, e17, He.glo_ok X G (c.fact 17 (f := .glo "axis_in") rfl), _, d18, e18, He.glo_ok X G (c.fact 18 (f := .glo "has_axis") rfl), _, d19, e19, He.glo_ok X G (c.fact 19 (f := .glo "first_last") rfl), _, d20, e20, He.glo_ok X G (c.fact 20 (f := .glo "three_in") rfl), _, d21, e21, He.glo_ok X G (c.fact 21 (f := .glo "is_bent") rfl), _, d22, e22, He.glo_ok X G (c.fact 22 (f := .glo "four_with") rfl), _, d23, e23, He.glo_ok X G (c.fact 23 (f := .glo "four_in") rfl), _, d24, e24, He.glo_ok X G (c.fact 24 (f := .glo "bar_in") rfl), _, d25, e25, He.glo_ok X G (c.fact 25 (f := .glo "paper_in") rfl), _, d26, e26, He.glo_ok X G (c.fact 26 (f := .glo "axis_paper") rfl), _, d27, e27, He.glo_ok X G (c.fact 27 (f := .glo "are_indices") rfl), _, d28, e28, He.glo_ok X G (c.fact 28 (f := .glo "are_options") rfl), _, d29, e29, He.glo_ok X G (c.fact 29 (f := .glo "is_lot_of") rfl), _, d30, e30, He.glo_ok X G (c.fact 30 (f := .glo "is_three_bar") rfl), _, d31, e31, He.glo_ok X G (c.fact 31 (f := .glo "is_four_bar") rfl), _, d32, e32, He.glo_ok X G (c.fact 32 (f := .glo "is_bar_in") rfl), _, d33, e33, He.glo_ok X G (c.fact 33 (f := .glo "is_peaked_in") rfl), _, d34, e34, He.glo_ok X G (c.fact 34 (f := .glo "are_peaked_in") rfl), _, d35, e35, He.glo_ok X G (c.fact 35 (f := .glo "is_axis_paper") rfl), _, d36, e36, He.glo_ok X G (c.fact 36 (f := .glo "is_bar") rfl), _, d37, e37, He.glo_ok X G (c.fact 37 (f := .glo "first_three") rfl), _, d38, e38, He.glo_ok X G (c.fact 38 (f := .glo "first_four") rfl), _, d39, e39, He.glo_ok X G (c.fact 39 (f := .glo "lots_of") rfl), _, d40, e40, He.glo_ok X G (c.fact 40 (f := .glo "kept_ballot") rfl), _, d41, e41, He.glo_ok X G (c.fact 41 (f := .glo "kept_in") rfl), _, d42, e42, He.glo_ok X G (c.fact 42 (f := .glo "is_less") rfl), _, d43, e43, He.glo_ok X G (c.fact 43 (f := .glo "least_without") rfl), _, d44, e44, He.glo_ok X G (c.fact 44 (f := .glo "_law_firsts") rfl), _, d45, e45, He.glo_ok X G (c.fact 45 (f := .glo "require_lot") rfl), _, d46, e46, He.glo_ok X G (c.fact 46 (f := .glo "require_known_lot") rfl), _, d47, e47, He.glo_ok X G (c.fact 47 (f := .glo "have_axis") rfl), _, d48, e48, He.glo_ok X G (c.fact 48 (f := .glo "named_by") rfl), _, d49, e49, He.glo_ok X G (c.fact 49 (f := .glo "bar_within") rfl), _, d50, e50, He.glo_ok X G (c.fact 50 (f := .glo "require_row") rfl), _, d51, e51, He.glo_ok X G (c.fact 51 (f := .glo "does_begin") rfl), _, d52, e52, He.glo_ok X G (c.fact 52 (f := .glo "axis_from") rfl), _, d53, e53, He.glo_ok X G (c.fact 53 (f := .glo "_law_seconds") rfl), _, d54, e54, He.glo_ok X G (c.fact 54 (f := .glo "require_option") rfl), _, d55, e55, He.glo_ok X G (c.fact 55 (f := .glo "can_be_ends") rfl), _, d56, e56, He.glo_ok X G (c.fact 56 (f := .glo "_law_right") rfl), _, d57, e57, He.glo_ok X G (c.fact 57 (f := .glo "law") rfl), _, d58, e58, He.glo_ok X G (c.fact 58 (f := .glo "_law_met") rfl), He.free_ok X G (c.fact 93 (f := .free "abs") rfl), He.free_ok X G (c.fact 94 (f := .free "all") rfl), He.free_ok X G (c.fact 95 (f := .free "any") rfl), He.free_ok X G (c.fact 96 (f := .free "bool") rfl), He.free_ok X G (c.fact 97 (f := .free "enumerate") rfl), He.free_ok X G (c.fact 98 (f := .free "int") rfl), He.free_ok X G (c.fact 99 (f := .free "isinstance") rfl), He.free_ok X G (c.fact 100 (f := .free "len") rfl), He.free_ok X G (c.fact 101 (f := .free "max") rfl), He.free_ok X G (c.fact 102 (f := .free "min") rfl), He.free_ok X G (c.fact 103 (f := .free "range") rfl), He.free_ok X G (c.fact 104 (f := .free "repr") rfl), He.free_ok X G (c.fact 105 (f := .free "set") rfl), He.free_ok X G (c.fact 106 (f := .free "sorted") rfl), He.free_ok X G (c.fact 107 (f := .free "str") rfl), He.free_ok X G (c.fact 108 (f := .free "tuple") rfl), He.free_ok X G (c.fact 109 (f := .free "zip") rfl), He.str_ok X G (c.fact 110 (f := .str "AXIS" "axis") rfl), He.str_ok X G (c.fact 111 (f := .str "FOUR" "four") rfl), He.int_ok X G (c.fact 112 (f := .int "GREAT" 1000000000000000000000000000000000000000000000000000000000000) rfl), He.int_ok X G (c.fact 113 (f := .int "MAX_BALLOTS" 40) rfl), He.int_ok X G (c.fact 114 (f := .int "MAX_OPTIONS" 9) rfl), He.str_ok X G (c.fact 115 (f := .str "THREE" "three") rfl), _, He.glo_ok X G (c.fact 59 (f := .glo "InvalidBook") rfl), He.exc_ok (c.fact 64 (f := .exc "InvalidBook") rfl), _, He.glo_ok X G (c.fact 60 (f := .glo "InvalidLot") rfl), He.exc_ok (c.fact 65 (f := .exc "InvalidLot") rfl), _, He.glo_ok X G (c.fact 61 (f := .glo "InvalidAxis") rfl), He.exc_ok (c.fact 66 (f := .exc "InvalidAxis") rfl), _, He.glo_ok X G (c.fact 62 (f := .glo "InvalidNumber") rfl), w0, x0, y0, _, He.glo_ok X G (c.fact 63 (f := .glo "InvalidOperation") rfl), He.exc_ok (c.fact 67 (f := .exc "InvalidOperation") rfl), He.exm_ok (c.fact 68 (f := .exm "InvalidBook" "InvalidBook" true) rfl), He.exm_ok (c.fact 69 (f := .exm "InvalidLot" "InvalidBook" false) rfl), He.exm_ok (c.fact 70 (f := .exm "InvalidAxis" "InvalidBook" false) rfl), He.exm_ok (c.fact 71 (f := .exm "InvalidNumber" "InvalidBook" false) rfl), He.exm_ok (c.fact 72 (f := .exm "InvalidOperation" "InvalidBook" false) rfl), He.exm_ok (c.fact 73 (f := .exm "InvalidBook" "InvalidLot" false) rfl), He.exm_ok (c.fact 74 (f := .exm "InvalidLot" "InvalidLot" true) rfl), He.exm_ok (c.fact 75 (f := .exm "InvalidAxis" "InvalidLot" false) rfl), He.exm_ok (c.fact 76 (f := .exm "InvalidNumber" "InvalidLot" false) rfl), He.exm_ok (c.fact 77 (f := .exm "InvalidOperation" "InvalidLot" false) rfl), He.exm_ok (c.fact 78 (f := .exm "InvalidBook" "InvalidAxis" false) rfl), He.exm_ok (c.fact 79 (f := .exm "InvalidLot" "InvalidAxis" false) rfl), He.exm_ok (c.fact 80 (f := .exm "InvalidAxis" "InvalidAxis" true) rfl), He.exm_ok (c.fact 81 (f := .exm "InvalidNumber" "InvalidAxis" false) rfl), He.exm_ok (c.fact 82 (f := .exm "InvalidOperation" "InvalidAxis" false) rfl), He.exm_ok (c.fact 83 (f := .exm "InvalidBook" "InvalidOperation" false) rfl), He.exm_ok (c.fact 84 (f := .exm "InvalidLot" "InvalidOperation" false) rfl), He.exm_ok (c.fact 85 (f := .exm "InvalidAxis" "InvalidOperation" false) rfl), He.exm_ok (c.fact 86 (f := .exm "InvalidNumber" "InvalidOperation" false) rfl), He.exm_ok (c.fact 87 (f := .exm "InvalidOperation" "InvalidOperation" true) rfl), He.exm_ok (c.fact 88 (f := .exm "InvalidBook" "InvalidNumber" false) rfl), He.exm_ok (c.fact 89 (f := .exm "InvalidLot" "InvalidNumber" false) rfl), He.exm_ok (c.fact 90 (f := .exm "InvalidAxis" "InvalidNumber" false) rfl), He.exm_ok (c.fact 91 (f := .exm "InvalidNumber" "InvalidNumber" true) rfl), He.exm_ok (c.fact 92 (f := .exm "InvalidOperation" "InvalidNumber" false) rfl), _, (He.cT K ("_law_firsts", none)).2, code_of e44, _, (He.cT K ("_law_seconds", none)).2, code_of e53, _, (He.cT K ("_law_right", none)).2, code_of e56, _, He.glo_ok X G (c.fact 116 (f := .glo "Book") rfl), b0, b1, b2, _, d59, e59, mkB_at b3⟩, rfl⟩
end K17
namespace Tv
open PySem PySem.Spec PyProof.Rows L2 Dv
mutual
def wf : D → Prop
  | .tup xs => xs.length ≤ 1000000 ∧ wfs xs
  | .lst xs => xs.length ≤ 1000000 ∧ wfs xs
  | .dct ks vs => wfs ks ∧ wfs vs
  | _ => True
def wfs : List D → Prop
  | [] => True
  | x :: r => wf x ∧ wfs r
end
abbrev wl (xs : List D) : Prop := xs.length ≤ 1000000 ∧ wfs xs
theorem wfs_iff : ∀ {xs : List D}, wfs xs ↔ ∀ x ∈ xs, wf x
  | [] => by simp [wfs]
  | x :: r => by simp [wfs, wfs_iff (xs := r)]
theorem wf_tup {xs : List D} : wf (.tup xs) ↔ wl xs := by rw [wf]
theorem wf_lst {xs : List D} : wf (.lst xs) ↔ wl xs := by rw [wf]
theorem wf_dct {ks vs : List D} : wf (.dct ks vs) ↔ wfs ks ∧ wfs vs := by rw [wf]
theorem wfs_app {xs ys : List D} (a : wfs xs) (b : wfs ys) : wfs (xs ++ ys) := wfs_iff.mpr fun y hy => (List.mem_append.mp hy).elim (wfs_iff.mp a y) (wfs_iff.mp b y)
theorem wfs_cons {x : D} {xs : List D} (a : wf x) (b : wfs xs) : wfs (x :: xs) := wfs_iff.mpr fun y hy => (List.mem_cons.mp hy).elim (fun h => h ▸ a) (wfs_iff.mp b y)
theorem wfs_nil : wfs [] := wfs_iff.mpr fun _ h => nomatch h
def nobo : Option SV → Prop
  | some (.bo _) => False
  | _ => True
def wfS : SV → Prop
  | .im d => wf d
  | .owd (.lst xs) => wl xs
  | .owd d => wf d
  | .bo xs => wl xs
def noow : Option SV → Prop
  | none => True
  | some (.im d) => wf d
  | _ => False
inductive Kn where
  | a
  | i
  | k (s : Option SV)
def KnOk : Kn → Option SV → Prop
  | .a, x => nobo x
  | .i, x => noow x
  | .k none, x => x = none
  | .k (some s), x => x = some s ∧ wfS s
abbrev Env := List Kn
abbrev im (d : D) : Kn := .k (some (.im d))
abbrev ow (d : List D) : Kn := .k (some (.ow d))
abbrev bo (d : List D) : Kn := .k (some (.bo d))
abbrev un : Kn := .k none
theorem noow_nobo {x : Option SV} (h : noow x) : nobo x := by
  cases x with
  | none => trivial
  | some s => cases s with
    | bo xs => exact h.elim
    | _ => trivial
inductive Ag : Env → Rho → Prop
  | nil : Ag [] []
  | cons {q : Kn} {x : Option SV} {e : Env} {r : Rho} : KnOk q x → Ag e r → Ag (q :: e) (x :: r)
theorem Ag.len {e : Env} {ρ : Rho} (h : Ag e ρ) : ρ.length = e.length := by
  induction h with
  | nil => rfl
  | cons _ _ ih => simp [ih]
theorem Ag.at {e : Env} {ρ : Rho} (h : Ag e ρ) : ∀ {i : Nat} {q : Kn}, e[i]? = some q → ∃ x, ρ[i]? = some x ∧ KnOk q x := by
  induction h with
  | nil => intro i q h; simp at h
  | cons a b ih =>
    intro i q h
    cases i with
    | zero => simp at h; subst h; exact ⟨_, rfl, a⟩
    | succ i => simpa using ih (i := i) (q := q) (by simpa using h)
theorem Ag.get {e : Env} {ρ : Rho} {i : Nat} {s : SV} (h : Ag e ρ) (q : e[i]? = some (.k (some s))) : ρ[i]? = some (some s) ∧ wfS s := by
  obtain ⟨x, h1, h2, h3⟩ := h.at q
  subst h2
  exact ⟨h1, h3⟩
theorem Ag.put {q : Kn} {x : Option SV} (k : KnOk q x) {e : Env} {ρ : Rho} (h : Ag e ρ) : ∀ {i : Nat}, Ag (e.set i q) (ρ.set i x) := by
  induction h with
  | nil => intro i; exact .nil
  | cons a b ih =>
    intro i
    cases i with
    | zero => exact .cons k b
    | succ i => exact .cons a ih
theorem Ag.set {s : SV} {e : Env} {ρ : Rho} {i : Nat} (h : Ag e ρ) (w : wfS s) : Ag (e.set i (.k (some s))) (ρ.set i (some s)) := h.put (q := .k (some s)) ⟨rfl, w⟩
theorem Ag.unset {e : Env} {ρ : Rho} {i : Nat} (h : Ag e ρ) : Ag (e.set i un) (ρ.set i none) := h.put (q := un) (by exact rfl)
inductive Wk : Env → Env → Prop
  | nil : Wk [] []
  | same {a b : Env} {s : Kn} : Wk a b → Wk (s :: a) (s :: b)
  | toA {a b : Env} {s : Kn} : (∀ x, KnOk s x → nobo x) → Wk a b → Wk (s :: a) (.a :: b)
  | toI {a b : Env} {s : Kn} : (∀ x, KnOk s x → noow x) → Wk a b → Wk (s :: a) (.i :: b)
theorem Ag.wk {a b : Env} (w : Wk a b) : ∀ {ρ : Rho}, Ag a ρ → Ag b ρ := by
  induction w with
  | nil => exact id
  | same w ih => intro ρ h; cases h with | cons k h => exact .cons k (ih h)
  | toA n w ih => intro ρ h; cases h with | cons k h => exact .cons (n _ k) (ih h)
  | toI n w ih => intro ρ h; cases h with | cons k h => exact .cons (n _ k) (ih h)
theorem wa_u {a b : Env} (w : Wk a b) : Wk (un :: a) (.a :: b) := .toA (fun x h => by rw [show x = none from h]; trivial) w
theorem wa_i {a b : Env} (w : Wk a b) : Wk (.i :: a) (.a :: b) := .toA (fun x h => noow_nobo h) w
theorem wa_m {a b : Env} {d : D} (w : Wk a b) : Wk (im d :: a) (.a :: b) := .toA (fun x h => by rw [h.1]; trivial) w
theorem wa_o {a b : Env} {d : List D} (w : Wk a b) : Wk (ow d :: a) (.a :: b) := .toA (fun x h => by rw [h.1]; trivial) w
theorem wi_u {a b : Env} (w : Wk a b) : Wk (un :: a) (.i :: b) := .toI (fun x h => by rw [show x = none from h]; trivial) w
theorem wi_m {a b : Env} {d : D} (w : Wk a b) : Wk (im d :: a) (.i :: b) := .toI (fun x h => by rw [h.1]; exact h.2) w
def bosE : Env → Outs
  | [] => []
  | .k (some (.bo xs)) :: r => some xs :: bosE r
  | _ :: r => match bosE r with
    | [] => []
    | t => none :: t
theorem bos_nb {x : Option SV} (h : nobo x) (r : Rho) : bos (x :: r) = match bos r with
    | [] => []
    | t => none :: t := by
  cases x with
  | none => rfl
  | some s => cases s with
    | bo xs => exact h.elim
    | _ => rfl
theorem Ag.bos {e : Env} {ρ : Rho} (h : Ag e ρ) : Dv.bos ρ = bosE e := by
  induction h with
  | nil => rfl
  | @cons q x e r k h ih =>
    cases q with
    | a => rw [bos_nb k, ih]; rfl
    | i => rw [bos_nb (noow_nobo k), ih]; rfl
    | k s => cases s with
      | none => rw [show x = none from k, bos_nb (x := none) trivial, ih]; rfl
      | some s =>
        rw [k.1]
        cases s with
        | bo xs => show some xs :: Dv.bos r = _; rw [ih]; rfl
        | im d => rw [bos_nb (x := some (.im d)) trivial, ih]; rfl
        | owd d => rw [bos_nb (x := some (.owd d)) trivial, ih]; rfl
def Oj {α : Type} (P : α → Prop) (t : Option α) : Prop := ∀ v, t = some v → P v
theorem oj_bind {α β : Type} {P : α → Prop} {Q : β → Prop} {t : Option α} {k : α → Option β} (h : Oj P t) (g : ∀ x, P x → Oj Q (k x)) : Oj Q (t.bind k) := fun v e => by
  cases t with
  | none => cases e
  | some x => exact g x (h x rfl) v e
theorem oj_some {α : Type} {P : α → Prop} {x : α} (h : P x) : Oj P (some x) := fun v e => by cases e; exact h
theorem oj_ite {α : Type} {P : α → Prop} {c : Bool} {a b : Option α} (h : c = true → Oj P a) (g : c = false → Oj P b) : Oj P (if c then a else b) := fun v e => by
  cases c with
  | true => exact h rfl v e
  | false => exact g rfl v e
def Pv (env : Env) (f : ES) (d : D) : Prop := ∀ ρ, Ag env ρ → (∃ r, f ρ = .ok r ρ ∧ look ρ r = some d) ∧ wf d
def Pe (env : Env) (f : ES) (d : D) : Prop := ∀ ρ, Ag env ρ → f ρ = .ok (.im d) ρ ∧ wf d
def Pb (env : Env) (g : M Bool) (b : Bool) : Prop := ∀ ρ, Ag env ρ → g ρ = .ok b ρ
def Pn (env : Env) (f : M (List D)) (xs : List D) : Prop := ∀ ρ, Ag env ρ → f ρ = .ok xs ρ ∧ wl xs
def Pas (env : Env) (f : M (List RV)) (ds : List D) : Prop := ∀ ρ, Ag env ρ → (∃ rs, f ρ = .ok rs ρ ∧ looks ρ rs = some ds) ∧ wfs ds
def Pai (env : Env) (f : M (List RV)) (ds : List D) : Prop := ∀ ρ, Ag env ρ → f ρ = .ok (ds.map .im) ρ ∧ wfs ds
def wfI : IV → Prop
  | .im d => wf d
  | .tw ds => wfs ds
def Pi (env : Env) (f : M (List IV)) (xs : List IV) : Prop := ∀ ρ, Ag env ρ → f ρ = .ok xs ρ ∧ xs.length ≤ 1000000 ∧ ∀ x ∈ xs, wfI x
def Po (env : Env) (f : M (Option Int)) (o : Option Int) : Prop := ∀ ρ, Ag env ρ → f ρ = .ok o ρ
section
variable {env : Env} {fa fb fc : ES} {ga gb gc : M Bool} {x y z d : D} {a b c : Bool} {fs : M (List RV)} {ds : List D}
theorem Pe.v (h : Pe env fa x) : Pv env fa x := fun ρ g => ⟨⟨.im x, (h ρ g).1, rfl⟩, (h ρ g).2⟩
theorem pe_var {i : Nat} (h : env[i]? = some (Tv.im d)) : Pe env (eVar i) d := fun ρ g => by
  obtain ⟨e, w⟩ := g.get h
  exact ⟨by unfold eVar; rw [e], w⟩
theorem pv_ow {i : Nat} (h : env[i]? = some (Tv.ow ds)) : Pv env (eVar i) (.lst ds) := fun ρ g => by
  obtain ⟨e, w⟩ := g.get h
  exact ⟨⟨.al i, by unfold eVar; rw [e], by simp only [look, e]⟩, wf_lst.mpr w⟩
theorem pv_bo {i : Nat} (h : env[i]? = some (Tv.bo ds)) : Pv env (eVar i) (.lst ds) := fun ρ g => by
  obtain ⟨e, w⟩ := g.get h
  exact ⟨⟨.al i, by unfold eVar; rw [e], by simp only [look, e]⟩, wf_lst.mpr w⟩
theorem pe_c (h : wf d) : Pe env (eC d) d := fun ρ g => ⟨rfl, h⟩
theorem pe_bin {g : D → D → Option D} (ha : Pv env fa x) (hb : Pv env fb y) (h : g x y = some d) (w : wf d) : Pe env (eBin g fa fb) d := fun ρ q => by
  obtain ⟨⟨r, e1, l1⟩, _⟩ := ha ρ q
  obtain ⟨⟨r2, e2, l2⟩, _⟩ := hb ρ q
  exact ⟨by simp only [eBin, M.bind, e1, e2, val, l1, l2, h, M.opt, M.ret], w⟩
theorem pe_binW {g : D → D → Option D} (ha : Pv env fa x) (hb : Pv env fb y) (h : wf x → wf y → g x y = some d ∧ wf d) : Pe env (eBin g fa fb) d := fun ρ q => by
  obtain ⟨h1, h2⟩ := h (ha ρ q).2 (hb ρ q).2
  exact pe_bin ha hb h1 h2 ρ q
theorem pe_un {g : D → Option D} (ha : Pv env fa x) (h : g x = some d) (w : wf d) : Pe env (eUn g fa) d := fun ρ q => by
  obtain ⟨⟨r, e1, l1⟩, _⟩ := ha ρ q
  exact ⟨by simp only [eUn, M.bind, e1, val, l1, h, M.opt, M.ret], w⟩
theorem pb_cmp {g : D → D → Option D} (ha : Pv env fa x) (hb : Pv env fb y) (h : g x y = some (.bl b)) : Pb env (bCmp g fa fb) b := fun ρ q => by
  simp only [bCmp, M.bind, (pe_bin (d := .bl b) ha hb h trivial ρ q).1, val, look, isBl, M.opt]
theorem oj_or {t : Option Bool} (h1 : Pb env ga a) (h2 : a = false → Oj (Pb env gb) t) : Oj (Pb env (bOr ga gb)) (if a then some true else t) := fun v e => by
  cases a with
  | false => exact fun ρ q => by simp only [bOr, M.bind, h1 ρ q]; exact h2 rfl v e ρ q
  | true => cases e; exact fun ρ q => by simp only [bOr, M.bind, h1 ρ q]; rfl
theorem oj_if {α : Type} {em : α → D} {u v : Option α} (h : Pb env ga a) (h1 : a = true → Oj (fun r => Pe env fa (em r)) u) (h2 : a = false → Oj (fun r => Pe env fb (em r)) v) : Oj (fun r => Pe env (eIf ga fa fb) (em r)) (if a then u else v) := fun r e ρ q => by
  simp only [eIf, M.bind, h ρ q]
  cases a with
  | true => exact h1 rfl r e ρ q
  | false => exact h2 rfl r e ρ q
theorem pas_nil : Pas env aNil [] := fun ρ q => ⟨⟨[], rfl, rfl⟩, wfs_nil⟩
theorem pas_cons (ha : Pv env fa x) (h : Pas env fs ds) : Pas env (aCons fa fs) (x :: ds) := fun ρ q => by
  obtain ⟨⟨r, e1, l1⟩, w1⟩ := ha ρ q
  obtain ⟨⟨rs, e2, l2⟩, w2⟩ := h ρ q
  exact ⟨⟨r :: rs, by simp only [aCons, M.bind, e1, e2, M.ret], by simp only [looks, l1, l2]⟩, wfs_cons w1 w2⟩
theorem pai_nil : Pai env aNil [] := fun ρ q => ⟨rfl, wfs_nil⟩
theorem pai_cons (ha : Pe env fa x) (h : Pai env fs ds) : Pai env (aCons fa fs) (x :: ds) := fun ρ q => by
  obtain ⟨e1, w1⟩ := ha ρ q
  obtain ⟨e2, w2⟩ := h ρ q
  exact ⟨by simp only [aCons, M.bind, e1, e2, M.ret, List.map_cons], wfs_cons w1 w2⟩
theorem imms_im : ∀ ds : List D, imms (ds.map .im) = some ds
  | [] => rfl
  | d :: ds => by simp only [List.map_cons, imms, imms_im ds]
theorem pe_tup (h : Pai env fs ds) (hf : ds.length ≤ 1000000) : Pe env (eTup fs) (.tup ds) := fun ρ q => by
  obtain ⟨e, w⟩ := h ρ q
  exact ⟨by simp only [eTup, M.bind, e, imms_im, M.opt, few, if_pos hf, M.ret], wf_tup.mpr ⟨hf, w⟩⟩
theorem pn_lst (h : Pai env fs ds) (hf : ds.length ≤ 1000000) : Pn env (nLst fs) ds := fun ρ q => by
  obtain ⟨e, w⟩ := h ρ q
  exact ⟨by simp only [nLst, M.bind, e, imms_im, M.opt, few, if_pos hf], hf, w⟩
theorem pe_n {f : M (List D)} (h : Pn env f ds) : Pe env (eN f) (.lst ds) := fun ρ q => by
  obtain ⟨e, w⟩ := h ρ q
  exact ⟨by simp only [eN, M.bind, e, M.ret], wf_lst.mpr w⟩
theorem pe_call {g : List D → Option D} (h : Pas env fs ds) (hg : g ds = some d) (w : wf d) : Pe env (eCall g fs) d := fun ρ q => by
  obtain ⟨⟨rs, e, l⟩, _⟩ := h ρ q
  exact ⟨by simp only [eCall, M.bind, e, vals, l, hg, M.opt, M.ret], w⟩
theorem pi_lst {xs : List D} (ha : Pe env fa (.lst xs)) : Pi env (iSeq fa) (xs.map .im) := fun ρ q => by
  obtain ⟨e, w⟩ := ha ρ q
  obtain ⟨w1, w2⟩ := wf_lst.mp w
  refine ⟨by simp only [iSeq, M.bind, e, imm]; rfl, by rw [List.length_map]; exact w1, fun x hx => ?_⟩
  obtain ⟨y, hy, rfl⟩ := List.mem_map.mp hx
  exact wfs_iff.mp w2 y hy
theorem pi_call {g : List D → Option (List IV)} {xs : List IV} (h : Pas env fs ds) (hg : g ds = some xs) (hl : xs.length ≤ 1000000) (w : ∀ x ∈ xs, wfI x) : Pi env (iCall g fs) xs := fun ρ q => by
  obtain ⟨⟨rs, e, l⟩, _⟩ := h ρ q
  exact ⟨by simp only [iCall, M.bind, e, vals, l, hg, M.opt], hl, w⟩
end
end Tv
namespace Tv
open PySem PySem.Spec PyProof.Rows L2 Dv
def nbE (env : Env) (i : Nat) : Bool := match env[i]? with
  | some (.k (some (.bo _))) => false
  | some _ => true
  | none => false
theorem nb_of {env : Env} {ρ : Rho} {i : Nat} (h : Ag env ρ) (q : nbE env i = true) : ∃ x, ρ[i]? = some x ∧ nobo x := by
  unfold nbE at q
  cases e : env[i]? with
  | none => rw [e] at q; cases q
  | some k =>
    obtain ⟨x, h1, h2⟩ := h.at e
    refine ⟨x, h1, ?_⟩
    rw [e] at q
    cases k with
    | a => exact h2
    | i => exact noow_nobo h2
    | k s => cases s with
      | none => rw [show x = none from h2]; trivial
      | some s =>
        rw [h2.1]
        cases s with
        | bo xs => cases q
        | _ => trivial
theorem setIm_go {ρ : Rho} {i : Nat} {x : Option SV} {d : D} (h : ρ[i]? = some x) (n : nobo x) : setIm i d ρ = .ok () (ρ.set i (some (.im d))) := by
  unfold setIm
  rw [h]
  cases x with
  | none => rfl
  | some s => cases s with
    | bo xs => exact n.elim
    | _ => rfl
theorem setOw_go {ρ : Rho} {i : Nat} {x : Option SV} {d : List D} (h : ρ[i]? = some x) (n : nobo x) : setOw i d ρ = .ok () (ρ.set i (some (.ow d))) := by
  unfold setOw
  rw [h]
  cases x with
  | none => rfl
  | some s => cases s with
    | bo xs => exact n.elim
    | _ => rfl
def Tg (env : Env) (g : IV → M Unit) (sl : List Nat) (x : IV) (env' : Env) : Prop := ∀ ρ, Ag env ρ → wfI x → ∃ ρ', g x ρ = .ok () ρ' ∧ Ag env' ρ' ∧ ρ'.length = ρ.length ∧ ∀ j, j ∉ sl → ρ'[j]? = ρ[j]?
def Tgs (env : Env) (g : List D → M Unit) (sl : List Nat) (x : List D) (env' : Env) : Prop := ∀ ρ, Ag env ρ → wfs x → ∃ ρ', g x ρ = .ok () ρ' ∧ Ag env' ρ' ∧ ρ'.length = ρ.length ∧ ∀ j, j ∉ sl → ρ'[j]? = ρ[j]?
section
variable {env env' env1 : Env} {g : IV → M Unit} {gs : List D → M Unit} {sl sl' : List Nat} {ds : List D} {d : D}
theorem tg_set {i : Nat} (h : nbE env i = true) : Tg env (gSet i) [i] (.im d) (env.set i (im d)) := fun ρ q w => by
  obtain ⟨x, h1, h2⟩ := nb_of q h
  exact ⟨_, setIm_go h1 h2, q.set w, by simp, fun j hj => by rw [List.getElem?_set_ne]; intro z; exact hj (z ▸ List.mem_cons_self)⟩
theorem tgs_nil : Tgs env gsNil [] [] env := fun ρ q w => ⟨ρ, rfl, q, rfl, fun _ _ => rfl⟩
theorem tgs_cons (h : Tg env g sl (.im d) env1) (t : Tgs env1 gs sl' ds env') : Tgs env (gsCons g gs) (sl ++ sl') (d :: ds) env' := fun ρ q w => by
  rw [wfs] at w
  obtain ⟨ρ1, e1, a1, l1, o1⟩ := h ρ q w.1
  obtain ⟨ρ2, e2, a2, l2, o2⟩ := t ρ1 a1 w.2
  refine ⟨ρ2, ?_, a2, l2.trans l1, fun j hj => ?_⟩
  · show M.bind (g (.im d)) (fun _ => gs ds) ρ = _
    simp only [M.bind, e1, e2]
  · rw [o2 j fun z => hj (List.mem_append_right _ z), o1 j fun z => hj (List.mem_append_left _ z)]
theorem tg_tup {n : Nat} (hn : ds.length = n) (t : Tgs env gs sl ds env') : Tg env (gTupD n gs) sl (.im (.tup ds)) env' := fun ρ q w => by
  obtain ⟨ρ2, e2, a2⟩ := t ρ q (wf_tup.mp w).2
  exact ⟨ρ2, by simp only [gTupD, if_pos hn]; exact e2, a2⟩
end
def okE (vs : List Nat) (env : Env) : Bool := vs.all fun i => match env[i]? with
  | some .i => true
  | some (.k none) => true
  | some (.k (some (.im _))) => true
  | _ => false
def wipeE (env : Env) : List Nat → Env
  | [] => env
  | v :: vs => (wipeE env vs).set v un
theorem okE_ok {vs : List Nat} {env : Env} {ρ : Rho} (h : Ag env ρ) (q : okE vs env = true) : okw vs ρ = true := by
  unfold okw
  unfold okE at q
  rw [List.all_eq_true] at q ⊢
  intro i hi
  have := q i hi
  cases e : env[i]? with
  | none => rw [e] at this; cases this
  | some k =>
    rw [e] at this
    obtain ⟨x, h1, h2⟩ := h.at e
    rw [h1]
    cases k with
    | a => cases this
    | i => cases x with
      | none => rfl
      | some s => cases s with
        | im d => rfl
        | _ => exact h2.elim
    | k s => cases s with
      | none => rw [show x = none from h2]
      | some s => cases s with
        | im d => rw [h2.1]
        | _ => cases this
theorem Ag.wipe {env : Env} {ρ : Rho} (h : Ag env ρ) : ∀ vs, Ag (wipeE env vs) (wipeR ρ vs)
  | [] => h
  | v :: vs => (Ag.wipe h vs).unset
theorem wipeR_in {ρ : Rho} {i : Nat} : ∀ {vs : List Nat}, i ∈ vs → i < ρ.length → (wipeR ρ vs)[i]? = some none
  | [], h, _ => nomatch h
  | v :: vs, h, l => by
    unfold wipeR
    by_cases z : v = i
    · subst z; rw [List.getElem?_set_self (by rw [wipeR_len]; exact l)]
    · rw [List.getElem?_set_ne z]
      exact wipeR_in ((List.mem_cons.mp h).resolve_left (Ne.symm z)) l
theorem wipe_same {ρ ρ1 : Rho} {vs : List Nat} (l : ρ1.length = ρ.length) (h : ∀ j, j ∉ vs → ρ1[j]? = ρ[j]?) : wipeR ρ1 vs = wipeR ρ vs := by
  apply List.ext_getElem?
  intro i
  by_cases z : i ∈ vs
  · by_cases y : i < ρ.length
    · rw [wipeR_in z y, wipeR_in z (l ▸ y)]
    · rw [List.getElem?_eq_none (by rw [wipeR_len]; omega), List.getElem?_eq_none (by rw [wipeR_len]; omega)]
  · rw [wipeR_out z, wipeR_out z, h i z]
theorem wipe_wipe {ρ : Rho} {vs : List Nat} : wipeR (wipeR ρ vs) vs = wipeR ρ vs := wipe_same (wipeR_len ρ vs) fun j hj => wipeR_out hj
def lcQ {α β : Type} (p : α → Option Bool) (h : α → Option β) : List α → Option (List β)
  | [] => some []
  | x :: xs => (p x).bind fun b => if b then (h x).bind fun y => (lcQ p h xs).map (y :: ·) else lcQ p h xs
section
variable {env env' env1 : Env} {g : IV → M Unit} {gs : List D → M Unit} {sl sl' : List Nat} {ds : List D} {d : D} {α β : Type} {iv : α → IV} {xs : List α} {em : β → D} {vs : List Nat} {E : α → Env} {fi : M (List IV)} {gt : M Bool} {fe : ES}
theorem lc_go {ρ : Rho} {p : α → Option Bool} {h : α → Option β} (hsl : ∀ j ∈ sl, j ∈ vs) (hg : ∀ x, Tg (wipeE env vs) g sl (iv x) (E x)) (hp : ∀ x, Oj (Pb (E x) gt) (p x)) (he : ∀ x, Oj (fun y => Pe (E x) fe (em y)) (h x)) (q : Ag env ρ) :
    ∀ (xs : List α) (acc : List D) (ys : List β), (∀ x ∈ xs, wfI (iv x)) → acc.length + xs.length ≤ 1000000 → lcQ p h xs = some ys → lcLoop vs g gt fe (xs.map iv) acc (wipeR ρ vs) = .ok (acc ++ ys.map em) (wipeR ρ vs) ∧ wfs (ys.map em) ∧ ys.length ≤ xs.length
  | [], acc, ys, _, _, e => by cases e; simp [lcLoop, M.ret, wfs_nil]
  | x :: xs, acc, ys, w, l, e => by
    unfold lcQ at e
    cases ep : p x with
    | none => rw [ep] at e; cases e
    | some b =>
      rw [ep] at e
      simp only [Option.bind_some] at e
      have ih := fun acc ys l e => lc_go hsl hg hp he q xs acc ys (fun y hy => w y (List.mem_cons_of_mem _ hy)) l e
      obtain ⟨ρ1, e1, a1, l1, o1⟩ := hg x (wipeR ρ vs) (q.wipe vs) (w x List.mem_cons_self)
      have e2 := hp x b ep ρ1 a1
      have ew : wipeR ρ1 vs = wipeR ρ vs := (wipe_same l1 fun j hj => o1 j fun z => hj (hsl j z)).trans wipe_wipe
      rw [List.length_cons] at l
      rw [List.map_cons]
      unfold lcLoop
      simp only [M.bind, e1, e2]
      cases b with
      | false =>
        simp only [M.bind, wipeM, ew]
        rw [if_neg (by simp)] at e
        obtain ⟨h1, h2, h3⟩ := ih acc ys (by omega) e
        exact ⟨h1, h2, by rw [List.length_cons]; omega⟩
      | true =>
        rw [if_pos rfl] at e
        cases eh : h x with
        | none => rw [eh] at e; cases e
        | some y =>
          rw [eh] at e
          simp only [Option.bind_some] at e
          cases er : lcQ p h xs with
          | none => rw [er] at e; cases e
          | some zs =>
            rw [er] at e
            cases e
            obtain ⟨e3, w3⟩ := he x y eh ρ1 a1
            have r : acc.length < 1000000 := by omega
            obtain ⟨h1, h2, h3⟩ := ih (acc ++ [em y]) zs (by simp; omega) er
            simp only [M.bind, e3, imm, M.opt, room, if_pos r, wipeM, ew]
            refine ⟨?_, ?_, by simp only [List.length_cons]; omega⟩
            · rw [h1]; simp
            · rw [List.map_cons]; exact wfs_cons w3 h2
theorem oj_lc {p : α → Option Bool} {h : α → Option β} (hi : Pi env fi (xs.map iv)) (hok : okE vs env = true) (hsl : ∀ j ∈ sl, j ∈ vs) (hg : ∀ x, Tg (wipeE env vs) g sl (iv x) (E x)) (hp : ∀ x, Oj (Pb (E x) gt) (p x))
    (he : ∀ x, Oj (fun y => Pe (E x) fe (em y)) (h x)) : Oj (fun ys => Pn env (nLc vs fi g gt fe) (ys.map em)) (lcQ p h xs) := fun ys e ρ q => by
  obtain ⟨e1, l1, w1⟩ := hi ρ q
  rw [List.length_map] at l1
  obtain ⟨h1, h2, h3⟩ := lc_go hsl hg hp he q xs [] ys (fun x hx => w1 _ (List.mem_map_of_mem hx)) (by simpa using l1) e
  refine ⟨?_, by rw [List.length_map]; omega, h2⟩
  unfold nLc
  simp only [M.bind, e1, okE_ok q hok, h1, List.nil_append, putB_wipe]
end
section
variable {env : Env} {α γ β : Type} {iv : α → IV} {jv : γ → IV} {xs : List α} {em : β → D} {vs vs1 sl sl1 : List Nat} {E : α → Env} {E1 : α → γ → Env} {fi fi1 : M (List IV)} {g g1 : IV → M Unit} {gt gt1 : M Bool} {fe : ES}
end
section
variable {env : Env} {fa : ES} {fs : M (List RV)} {ds xs : List D} {d : D} {F : FD}
theorem toSVs_im (ρ : Rho) : ∀ ds : List D, toSVs ρ (ds.map .im) = some (ds.map .im)
  | [] => rfl
  | d :: ds => by simp only [List.map_cons, toSVs, toSV, toSVs_im ρ ds]
theorem apart_im : ∀ ds : List D, apart (ds.map .im) = true
  | [] => rfl
  | d :: ds => by simp only [List.map_cons, apart, apart_im ds]
theorem allIm_im : ∀ ds : List D, allIm (ds.map .im) = true
  | [] => rfl
  | d :: ds => by simp only [List.map_cons, allIm, allIm_im ds]
theorem uCall_im {ρ : Rho} {fr : FR} (h : F (ds.map .im) = some (fr, [])) : uCall F (ds.map .im) ρ = .ok fr ρ := by
  unfold uCall
  simp only [apart_im, toSVs_im, h, putBack_im (allIm_im ds)]
theorem pe_userN (h : Pai env fs ds) (hf : wfs ds → F (ds.map .im) = some (.nw xs, []) ∧ wl xs) : Pe env (eUser F fs) (.lst xs) := fun ρ q => by
  obtain ⟨e, w⟩ := h ρ q
  obtain ⟨h1, h2⟩ := hf w
  exact ⟨by simp only [eUser, M.bind, e, uCall_im h1, M.ret], wf_lst.mpr h2⟩
theorem pn_user (h : Pai env fs ds) (hf : wfs ds → F (ds.map .im) = some (.nw xs, []) ∧ wl xs) : Pn env (nUser F fs) xs := fun ρ q => by
  obtain ⟨e, w⟩ := h ρ q
  obtain ⟨h1, h2⟩ := hf w
  exact ⟨by simp only [nUser, M.bind, e, allIm_im, uCall_im h1, M.ret], h2⟩
variable {α : Type} {em : α → D} {el : α → List D} {t : Option α}
theorem oj_userN (h : Pai env fs ds) (hf : wfs ds → Oj (fun r => F (ds.map .im) = some (.nw (el r), []) ∧ wl (el r)) t) : Oj (fun r => Pe env (eUser F fs) (.lst (el r))) t := fun r e ρ q => pe_userN h (fun w => hf w r e) ρ q
theorem on_user (h : Pai env fs ds) (hf : wfs ds → Oj (fun r => F (ds.map .im) = some (.nw (el r), []) ∧ wl (el r)) t) : Oj (fun r => Pn env (nUser F fs) (el r)) t := fun r e ρ q => pn_user h (fun w => hf w r e) ρ q
end
def wfF : Fl → Prop
  | .rt d => wf d
  | .rn xs => wl xs
  | _ => True
def Gs (env : Env) (s : SS) (P : Fl → Prop) (env' : Env) : Prop := ∀ ρ, Ag env ρ → ∃ fl ρ', s ρ = .ok fl ρ' ∧ P fl ∧ wfF fl ∧ Ag env' ρ'
def Go {R : Type} (env : Env) (s : SS) (T : Option R) (P : R → Fl → Prop) (E : R → Env) : Prop := Oj (fun r => Gs env s (P r) (E r)) T
section
variable {R : Type} {env env' : Env} {fa : ES} {rest A B s s1 s2 : SS} {T T1 T2 : Option R} {P : R → Fl → Prop} {E : R → Env} {d : D} {xs : List D} {f : M (List D)} {i : Nat} {gb : M Bool} {b : Bool} {r : R}
theorem seq_nx {ρ ρ1 : Rho} (h : s1 ρ = .ok .nx ρ1) : sSeq s1 s2 ρ = s2 ρ1 := by
  unfold sSeq
  simp only [M.bind, h]
theorem gs_seq {s' : SS} {P : Fl → Prop} {E : Env} (h : ∀ ρ, Ag env ρ → ∃ ρ1, s1 ρ = .ok .nx ρ1 ∧ Ag env' ρ1) (g : Gs env' s2 P E) : Gs env (sSeq s1 s2) P E := fun ρ q => by
  obtain ⟨ρ1, e1, a1⟩ := h ρ q
  rw [seq_nx e1]
  exact g ρ1 a1
theorem go_seq (h : ∀ ρ, Ag env ρ → ∃ ρ1, s1 ρ = .ok .nx ρ1 ∧ Ag env' ρ1) (g : Go env' s2 T P E) : Go env (sSeq s1 s2) T P E := fun r e => gs_seq (s' := s2) h (g r e)
theorem seq_nil {ρ : Rho} : sSeq s sNil ρ = s ρ := by
  unfold sSeq
  simp only [M.bind]
  cases s ρ with
  | ok fl ρ' => cases fl <;> rfl
  | _ => rfl
theorem go_last (g : Go env (sSeq s sNil) T P E) : Go env s T P E := fun r e ρ q => by
  have := g r e ρ q
  rw [seq_nil] at this
  exact this
theorem go_nil (h : P r .nx) (w : Wk env (E r)) : Go env sNil (some r) P E := oj_some fun ρ q => ⟨.nx, ρ, rfl, h, trivial, q.wk w⟩
theorem go_sn (g : Go env rest T P E) : Go env (sSeq sNil rest) T P E := go_seq (fun ρ q => ⟨ρ, rfl, q⟩) g
theorem seq_assoc {ρ : Rho} : sSeq (sSeq s1 s2) s ρ = sSeq s1 (sSeq s2 s) ρ := by
  simp only [sSeq, M.bind]
  cases s1 ρ with
  | ok fl ρ' => cases fl <;> rfl
  | _ => rfl
theorem go_assoc (g : Go env (sSeq s1 (sSeq s2 rest)) T P E) : Go env (sSeq (sSeq s1 s2) rest) T P E := fun r e ρ q => by
  have := g r e ρ q
  rw [← seq_assoc] at this
  exact this
theorem go_set (h : Pe env fa d) (n : nbE env i = true) (g : Go (env.set i (im d)) rest T P E) : Go env (sSeq (sSet i fa) rest) T P E := go_seq (fun ρ q => by
  obtain ⟨e, w⟩ := h ρ q
  obtain ⟨x, h1, h2⟩ := nb_of q n
  exact ⟨_, by simp only [sSet, M.bind, e, imm, setIm_go h1 h2, M.ret], q.set w⟩) g
theorem go_own (h : Pn env f xs) (n : nbE env i = true) (g : Go (env.set i (ow xs)) rest T P E) : Go env (sSeq (sOwn i f) rest) T P E := go_seq (fun ρ q => by
  obtain ⟨e, w⟩ := h ρ q
  obtain ⟨x, h1, h2⟩ := nb_of q n
  exact ⟨_, by simp only [sOwn, M.bind, e, setOw_go h1 h2, M.ret], q.set w⟩) g
theorem seq_out {fl : Fl} {ρ ρ1 : Rho} (h : s1 ρ = .ok fl ρ1) (n : fl ≠ .nx) : sSeq s1 s2 ρ = .ok fl ρ1 := by
  unfold sSeq
  simp only [M.bind, h]
  cases fl with
  | nx => exact absurd rfl n
  | _ => rfl
theorem go_out {fl : Fl} (h : ∀ ρ, Ag env ρ → s1 ρ = .ok fl ρ ∧ wfF fl) (n : fl ≠ .nx) (p : P r fl) (w : Wk env (E r)) : Go env (sSeq s1 rest) (some r) P E := oj_some fun ρ q => by
  obtain ⟨h1, h2⟩ := h ρ q
  exact ⟨fl, ρ, seq_out h1 n, p, h2, q.wk w⟩
theorem go_ret (h : Pe env fa d) (p : P r (.rt d)) (w : Wk env (E r)) : Go env (sSeq (sRet fa) rest) (some r) P E := go_out (fl := .rt d) (fun ρ q => by
  obtain ⟨e, w⟩ := h ρ q
  exact ⟨by simp only [sRet, M.bind, e], w⟩) (fun z => nomatch z) p w
theorem go_retO (h : env[i]? = some (ow xs)) (p : P r (.rn xs)) (w : Wk env (E r)) : Go env (sSeq (sRet (eVar i)) rest) (some r) P E := go_out (fl := .rn xs) (fun ρ q => by
  obtain ⟨e, w⟩ := q.get h
  exact ⟨by simp only [sRet, M.bind, eVar, e], w⟩) (fun z => nomatch z) p w
theorem go_retL (h : Pn env f xs) (p : P r (.rn xs)) (w : Wk env (E r)) : Go env (sSeq (sRetL f) rest) (some r) P E := go_out (fl := .rn xs) (fun ρ q => by
  obtain ⟨e, w⟩ := h ρ q
  exact ⟨by simp only [sRetL, M.bind, e, M.ret], w⟩) (fun z => nomatch z) p w
theorem go_if (h : Pb env gb b) (h1 : b = true → Go env (sSeq A rest) T1 P E) (h2 : b = false → Go env (sSeq B rest) T2 P E) : Go env (sSeq (sIf gb A B) rest) (if b then T1 else T2) P E := oj_ite (fun z r e ρ q => by
    subst z
    obtain ⟨fl, ρ', e1, r1⟩ := h1 rfl r e ρ q
    refine ⟨fl, ρ', ?_, r1⟩
    rw [← e1]
    simp only [sSeq, sIf, M.bind, h ρ q]) (fun z r e ρ q => by
    subst z
    obtain ⟨fl, ρ', e1, r1⟩ := h2 rfl r e ρ q
    refine ⟨fl, ρ', ?_, r1⟩
    rw [← e1]
    simp only [sSeq, sIf, M.bind, h ρ q])
inductive Step (σ R : Type) where
  | go (s : σ)
  | brk (s : σ)
  | out (r : R)
def foldR {σ α R : Type} (f : σ → α → Option (Step σ R)) : List α → σ → Option (Step σ R)
  | [], s => some (.go s)
  | x :: xs, s => (f s x).bind fun t => match t with
    | .go s => foldR f xs s
    | t => some t
def stepP {σ R : Type} (P : R → Fl → Prop) : Step σ R → Fl → Prop
  | .go _, fl => fl = .nx ∨ fl = .ct
  | .brk _, fl => fl = .bk
  | .out r, fl => P r fl ∧ ((∃ d, fl = .rt d) ∨ ∃ xs, fl = .rn xs)
def stepE {σ R : Type} (E' : σ → Env) (E : R → Env) : Step σ R → Env
  | .go s => E' s
  | .brk s => E' s
  | .out r => E r
def stepK {σ R : Type} (k : σ → Option R) : Step σ R → Option R
  | .go s => k s
  | .brk s => k s
  | .out r => some r
theorem forR_go {σ α : Type} {iv : α → IV} {E' : σ → Env} {E1 : σ → α → Env} {tb : σ → α → Option (Step σ R)} {g : IV → M Unit} {sl : List Nat} {body : SS} (hg : ∀ s x, Tg (E' s) g sl (iv x) (E1 s x))
    (hb : ∀ s x, Go (E1 s x) body (tb s x) (stepP P) (stepE E' E)) : ∀ (xs : List α) (s : σ) (t : Step σ R) (ρ : Rho), (∀ x ∈ xs, wfI (iv x)) → foldR tb xs s = some t → Ag (E' s) ρ → ∃ fl ρ', forL g body (xs.map iv) ρ = .ok fl ρ' ∧ Ag (stepE E' E t) ρ' ∧ wfF fl ∧ (match t with
      | .out r => P r fl ∧ fl ≠ .nx
      | _ => fl = .nx)
  | [], s, s', ρ, _, e, q => by cases e; exact ⟨_, ρ, rfl, q, trivial, rfl⟩
  | x :: xs, s, t, ρ, w, e, q => by
    unfold foldR at e
    cases e1 : tb s x with
    | none => rw [e1] at e; cases e
    | some u =>
      rw [e1] at e
      simp only [Option.bind_some] at e
      obtain ⟨ρ1, h1, a1, _⟩ := hg s x ρ q (w x List.mem_cons_self)
      obtain ⟨fl, ρ2, h2, hf, wfl, a2⟩ := hb s x u e1 ρ1 a1
      rw [List.map_cons]
      unfold forL
      simp only [M.bind, h1, h2]
      cases u with
      | go s1 =>
        obtain ⟨fl3, ρ3, h3, a3⟩ := forR_go hg hb xs s1 t ρ2 (fun y hy => w y (List.mem_cons_of_mem _ hy)) e a2
        refine ⟨fl3, ρ3, ?_, a3⟩
        rcases hf with rfl | rfl <;> exact h3
      | brk s1 =>
        cases e
        rw [show fl = .bk from hf]
        exact ⟨.nx, ρ2, rfl, a2, trivial, rfl⟩
      | out r =>
        cases e
        obtain ⟨p, ⟨d, rfl⟩ | ⟨ys, rfl⟩⟩ := hf
        · exact ⟨_, ρ2, rfl, a2, wfl, p, fun z => nomatch z⟩
        · exact ⟨_, ρ2, rfl, a2, wfl, p, fun z => nomatch z⟩
theorem after_loop {σ : Type} {E' : σ → Env} {k : σ → Option R} {t : Step σ R} {l : SS} (ht : ∀ ρ, Ag env ρ → ∃ fl ρ', l ρ = .ok fl ρ' ∧ Ag (stepE E' E t) ρ' ∧ wfF fl ∧ (match t with
      | .out r => P r fl ∧ fl ≠ .nx
      | _ => fl = .nx)) (hr : ∀ s, Go (E' s) rest (k s) P E) : Go env (sSeq l rest) (stepK k t) P E := by
  cases t with
  | go s =>
    refine go_seq (env' := E' s) (fun ρ q => ?_) (hr s)
    obtain ⟨fl, ρ', h1, h2, _, h3⟩ := ht ρ q
    rw [show fl = .nx from h3] at h1
    exact ⟨ρ', h1, h2⟩
  | brk s =>
    refine go_seq (env' := E' s) (fun ρ q => ?_) (hr s)
    obtain ⟨fl, ρ', h1, h2, _, h3⟩ := ht ρ q
    rw [show fl = .nx from h3] at h1
    exact ⟨ρ', h1, h2⟩
  | out r =>
    refine oj_some fun ρ q => ?_
    obtain ⟨fl, ρ', h1, h2, w, p, n⟩ := ht ρ q
    exact ⟨fl, ρ', seq_out h1 n, p, w, h2⟩
theorem go_forR {σ α : Type} {iv : α → IV} {E' : σ → Env} {E1 : σ → α → Env} {tb : σ → α → Option (Step σ R)} {k : σ → Option R} {g : IV → M Unit} {sl : List Nat} {body : SS} {fi : M (List IV)} {xs : List α} {s0 : σ} (hi : Pi env fi (xs.map iv)) (w0 : Wk env (E' s0)) (hg : ∀ s x, Tg (E' s) g sl (iv x) (E1 s x))
    (hb : ∀ s x, Go (E1 s x) body (tb s x) (stepP P) (stepE E' E)) (hr : ∀ s, Go (E' s) rest (k s) P E) : Go env (sSeq (sFor fi g body) rest) ((foldR tb xs s0).bind (stepK k)) P E := oj_bind (P := fun t => ∀ ρ, Ag env ρ → ∃ fl ρ', sFor fi g body ρ = .ok fl ρ' ∧ Ag (stepE E' E t) ρ' ∧ wfF fl ∧ (match t with
      | .out r => P r fl ∧ fl ≠ .nx
      | _ => fl = .nx)) (fun t e ρ q => by
    obtain ⟨e1, _, w1⟩ := hi ρ q
    obtain ⟨fl, ρ', h1, h2⟩ := forR_go hg hb xs s0 t ρ (fun x hx => w1 _ (List.mem_map_of_mem hx)) e (q.wk w0)
    exact ⟨fl, ρ', by simp only [sFor, M.bind, e1, h1], h2⟩) fun t ht => after_loop ht hr
end
end Tv
namespace Tv
open PySem PySem.Spec PyProof.Rows L2 Dv
abbrev mI : Int → D := D.int
abbrev mB : Bool → D := D.bl
abbrev mS : Str → D := D.str
abbrev mU : Unit → D := fun _ => .non
abbrev mD : D → D := fun d => d
abbrev mT {α : Type} (em : α → D) : List α → D := fun xs => .tup (xs.map em)
abbrev mL {α : Type} (em : α → D) : List α → D := fun xs => .lst (xs.map em)
abbrev mP {α β : Type} (ea : α → D) (eb : β → D) : α × β → D := fun p => .tup [ea p.1, eb p.2]
abbrev mP3 {α β γ : Type} (ea : α → D) (eb : β → D) (ec : γ → D) : α × β × γ → D := fun p => .tup [ea p.1, eb p.2.1, ec p.2.2]
abbrev mP4 {α β γ δ : Type} (ea : α → D) (eb : β → D) (ec : γ → D) (ed : δ → D) : α × β × γ × δ → D := fun p => .tup [ea p.1, eb p.2.1, ec p.2.2.1, ed p.2.2.2]
structure EqD {α : Type} (em : α → D) (n : Nat) : Prop where
  pl : ∀ m x, n ≤ m → pl m (em x) = true
  eq : ∀ x y, eqb (em x) (em y) = true ↔ x = y
theorem eqI : EqD mI 0 := ⟨fun m x _ => by cases m <;> simp [Dv.pl], fun x y => by simp [eqb]⟩
theorem pls_map {α : Type} {em : α → D} {n m : Nat} (h : EqD em n) (hm : n ≤ m) : ∀ xs : List α, pls m (xs.map em) = true
  | [] => by rw [List.map_nil, pls.eq_def]
  | x :: xs => by
    rw [List.map_cons, pls.eq_def]
    simp only [Bool.and_eq_true]
    exact ⟨h.pl m x hm, pls_map h hm xs⟩
theorem eqbs_map {α : Type} {em : α → D} {n : Nat} (h : EqD em n) : ∀ xs ys : List α, eqbs (xs.map em) (ys.map em) = true ↔ xs = ys
  | [], [] => by simp [eqbs]
  | [], y :: ys => by simp [eqbs]
  | x :: xs, [] => by simp [eqbs]
  | x :: xs, y :: ys => by
    rw [List.map_cons, List.map_cons, eqbs, Bool.and_eq_true, h.eq, eqbs_map h xs ys]
    simp
theorem eqL {α : Type} {em : α → D} {n : Nat} (h : EqD em n) : EqD (mL em) (n + 1) := ⟨fun m x hm => by
  obtain ⟨k, rfl⟩ : ∃ k, m = k + 1 := ⟨m - 1, by omega⟩
  rw [pl.eq_def]
  exact pls_map h (by omega) x, fun x y => by rw [eqb]; exact eqbs_map h x y⟩
theorem gNe_pl {x y : D} (h1 : pl 50 x = true) (h2 : pl 50 y = true) : gNe x y = some (.bl (!eqb x y)) := by
  unfold gNe
  cases e : twoS x y with
  | none => simp only [gNeP, h1, h2, Bool.and_self]
  | some b =>
    obtain ⟨a, c, rfl, rfl, rfl⟩ := twoS_ok e
    simp only [eqb]
section
variable {α β : Type} {em : α → D} {n : Nat}
theorem EqD.dec [DecidableEq α] (h : EqD em n) (x y : α) : eqb (em x) (em y) = decide (x = y) := by
  by_cases z : x = y
  · rw [(h.eq x y).mpr z, decide_eq_true z]
  · rw [decide_eq_false z]
    cases e : eqb (em x) (em y) with
    | false => rfl
    | true => exact absurd ((h.eq x y).mp e) z
theorem g_ne [DecidableEq α] (h : EqD em n) (hn : n ≤ 50) (x y : α) : gNe (em x) (em y) = some (.bl (!decide (x = y))) := by
  rw [gNe_pl (h.pl 50 x hn) (h.pl 50 y hn), h.dec]
theorem g_add (i j : Int) : gAdd (.int i) (.int j) = some (.int (i + j)) := rfl
theorem g_sub (i j : Int) : gSub (.int i) (.int j) = some (.int (i - j)) := rfl
theorem g_neg (i : Int) : gNeg (.int i) = some (.int (-i)) := rfl
theorem g_lt (i j : Int) : gLtA (.int i) (.int j) = some (.bl (decide (i < j))) := rfl
theorem g_gt (i j : Int) : gGtA (.int i) (.int j) = some (.bl (decide (j < i))) := rfl
def gateQ (c : Bool) (x : α) : Option α := if c then some x else none
theorem gate_ok {c : Bool} {x y : α} (h : gateQ c x = some y) : c = true ∧ y = x := by
  cases c with
  | true => cases h; exact ⟨rfl, rfl⟩
  | false => cases h
abbrev mulQ (i j : Int) : Option Int := gateQ (cMul i j) (i * j)
abbrev divQ (i j : Int) : Option Int := gateQ (cDiv i j) (i / j)
abbrev modQ (i j : Int) : Option Int := gateQ (decide (0 < j)) (i % j)
end
section
variable {env : Env} {fa fb fc : ES} {i j : Int}
theorem gI_gate {c : Int → Int → Bool} {f : Int → Int → Int} (ha : Pv env fa (.int i)) (hb : Pv env fb (.int j)) : Oj (fun r => Pe env (eBin (gI c fun i j => .int (f i j)) fa fb) (mI r)) (gateQ (c i j) (f i j)) := fun r e => by
  obtain ⟨h, rfl⟩ := gate_ok e
  exact pe_bin ha hb (by simp only [gI, h]; rfl) trivial
theorem gI_lit {c : Int → Int → Bool} {f : Int → Int → Int} (ha : Pv env fa (.int i)) (hb : Pv env fb (.int j)) (h : c i j = true) : Pe env (eBin (gI c fun i j => .int (f i j)) fa fb) (mI (f i j)) := pe_bin ha hb (by simp only [gI, h]; rfl) trivial
theorem c_mulL (h : i.natAbs < 2 ^ 64) : cMul i j = true := by
  unfold cMul
  simp [h]
theorem c_mulR (h : j.natAbs < 2 ^ 64) : cMul i j = true := by
  unfold cMul
  simp [h]
theorem pe_mulL (ha : Pv env fa (.int i)) (hb : Pv env fb (.int j)) (h : i.natAbs < 2 ^ 64) : Pe env (eBin gMul fa fb) (mI (i * j)) := gI_lit (c := cMul) (f := fun i j => i * j) ha hb (c_mulL h)
theorem pe_mulR (ha : Pv env fa (.int i)) (hb : Pv env fb (.int j)) (h : j.natAbs < 2 ^ 64) : Pe env (eBin gMul fa fb) (mI (i * j)) := gI_lit (c := cMul) (f := fun i j => i * j) ha hb (c_mulR h)
theorem oe_mul (ha : Pv env fa (.int i)) (hb : Pv env fb (.int j)) : Oj (fun r => Pe env (eBin gMul fa fb) (mI r)) (mulQ i j) := gI_gate (c := cMul) (f := fun i j => i * j) ha hb
theorem oe_div (ha : Pv env fa (.int i)) (hb : Pv env fb (.int j)) : Oj (fun r => Pe env (eBin gDiv fa fb) (mI r)) (divQ i j) := gI_gate (c := cDiv) (f := fun i j => i / j) ha hb
theorem oe_mod (ha : Pv env fa (.int i)) (hb : Pv env fb (.int j)) : Oj (fun r => Pe env (eBin gMod fa fb) (mI r)) (modQ i j) := gI_gate (c := fun _ j => decide (0 < j)) (f := fun i j => i % j) ha hb
theorem pe_div (ha : Pv env fa (.int i)) (hb : Pv env fb (.int j)) (h : cDiv i j = true) : Pe env (eBin gDiv fa fb) (mI (i / j)) := gI_lit (c := cDiv) (f := fun i j => i / j) ha hb h
theorem c_div (h : 0 < j) (h2 : j.natAbs < 2 ^ 64) : cDiv i j = true := by
  unfold cDiv
  simp only [Bool.and_eq_true]
  exact ⟨decide_eq_true h, decide_eq_true (Nat.lt_of_lt_of_le h2 (Nat.pow_le_pow_right (by decide) (by decide)))⟩
end
section
variable {α β : Type} {em : α → D} {env : Env} {fa fb : ES} {fs : M (List RV)} {xs ys : List α}
theorem g_lenL (xs : List α) : gLen [mL em xs] = some (.int (xs.length : Int)) := by simp [gLen]
theorem g_abs (i : Int) : gAbs [.int i] = some (.int (if i < 0 then -i else i)) := by rfl
theorem g_max2 (i j : Int) : gMax2 [.int i, .int j] = some (.int (if j > i then j else i)) := by rfl
theorem g_min2 (i j : Int) : gMin2 [.int i, .int j] = some (.int (if j < i then j else i)) := by rfl
theorem g_int (i : Int) : gInt [.int i] = some (.int i) := by rfl
theorem g_intB (b : Bool) : gInt [.bl b] = some (.int (if b then 1 else 0)) := by rfl
theorem wfs_ints (l : List Int) : wfs (l.map mI) := wfs_iff.mpr fun x hx => by
  obtain ⟨i, _, rfl⟩ := List.mem_map.mp hx
  trivial
abbrev repQ (xs : List α) (k : Int) : Option (List α) := gateQ (rangeOk k && decide (xs.length * k.toNat ≤ 1000000)) (List.replicate k.toNat xs).flatten
theorem atI_map (xs : List α) (i : Int) : atI (xs.map em) i = (atI xs i).map em := by
  unfold atI
  rw [List.length_map]
  cases ixN xs.length i with
  | none => rfl
  | some k => simp
theorem atI_mem {xs : List α} {i : Int} {x : α} (h : atI xs i = some x) : x ∈ xs := by
  unfold atI at h
  cases e : ixN xs.length i with
  | none => rw [e] at h; cases h
  | some j => rw [e] at h; exact List.mem_of_getElem? h
abbrev ixQ (xs : List α) (i : Int) : Option α := atI xs i
theorem oe_ixL {i : Int} (ha : Pv env fa (mL em xs)) (hb : Pv env fb (.int i)) : Oj (fun r => Pe env (eBin gIx fa fb) (em r)) (ixQ xs i) := fun r e => pe_binW ha hb fun w _ => by
  refine ⟨by simp only [gIx, atI_map, e, Option.map_some], wfs_iff.mp (wf_lst.mp w).2 _ (List.mem_map_of_mem (atI_mem e))⟩
abbrev catQ (xs ys : List α) : Option (List α) := gateQ (decide (xs.length + ys.length ≤ 1000000)) (xs ++ ys)
theorem oe_catL (ha : Pv env fa (mL em xs)) (hb : Pv env fb (mL em ys)) : Oj (fun r => Pe env (eBin gAdd fa fb) (mL em r)) (catQ xs ys) := fun r e => by
  obtain ⟨h, rfl⟩ := gate_ok e
  have h := of_decide_eq_true h
  exact pe_binW ha hb fun w1 w2 => ⟨by simp only [gAdd, List.length_map, if_pos h]; rw [← List.map_append], wf_lst.mpr ⟨by simpa using h, by rw [List.map_append]; exact wfs_app (wf_lst.mp w1).2 (wf_lst.mp w2).2⟩⟩
theorem ta_nil : Pai env aNil (([] : List α).map em) := pai_nil
theorem ta_cons {x : α} (ha : Pe env fa (em x)) (h : Pai env fs (xs.map em)) : Pai env (aCons fa fs) ((x :: xs).map em) := pai_cons ha h
def rngOk (a b : Int) : Bool := rangeOk a && rangeOk b && decide ((b - a).toNat ≤ 1000000)
abbrev rngQ (a b : Int) : Option (List Int) := gateQ (rngOk a b) (rgF a b)
theorem rngOk_ok {a b : Int} (h : rngOk a b = true) : rangeOk a = true ∧ rangeOk b = true ∧ (b - a).toNat ≤ 1000000 := by
  unfold rngOk at h
  simp only [Bool.and_eq_true, decide_eq_true_eq] at h
  exact ⟨h.1.1, h.1.2, h.2⟩
theorem rgF_len (a b : Int) : (rgF a b).length = (b - a).toNat := by simp [rgF]
abbrev iI : Int → IV := fun i => .im (.int i)
theorem pi_rng1 {b : Int} (h : Pas env fs [.int b]) (ok : rngOk 0 b = true) : Pi env (iCall rng1 fs) ((rgF 0 b).map iI) := by
  obtain ⟨h1, h2, h3⟩ := rngOk_ok ok
  refine pi_call h ?_ (by rw [List.length_map, rgF_len]; exact h3) (fun x hx => by obtain ⟨i, _, rfl⟩ := List.mem_map.mp hx; trivial)
  simp only [rng1, if_pos h2, rgF, List.map_map, Int.sub_zero]
  congr 2
  funext i
  simp
theorem oi_rng1 {b : Int} (h : Pas env fs [.int b]) : Oj (fun r => Pi env (iCall rng1 fs) (r.map iI)) (rngQ 0 b) := fun r e => by
  obtain ⟨h1, rfl⟩ := gate_ok e
  exact pi_rng1 h h1
theorem on_rep {f : M (List D)} {k : Int} (h : Pn env f (xs.map em)) (hb : Pv env fb (.int k)) : Oj (fun r => Pn env (nRep f fb) (r.map em)) (gateQ (rangeOk k && decide (xs.length * k.toNat ≤ 1000000)) (List.replicate k.toNat xs).flatten) := fun r e ρ q => by
  obtain ⟨h1, rfl⟩ := gate_ok e
  obtain ⟨e1, w⟩ := h ρ q
  obtain ⟨⟨r2, e2, l2⟩, _⟩ := hb ρ q
  have h2 := of_decide_eq_true (Bool.and_eq_true_iff.mp h1).2
  refine ⟨?_, ?_, ?_⟩
  · simp only [nRep, M.bind, e1, e2, val, l2, Dv.isInt, M.opt, List.length_map, if_pos h1]
    congr 1
    rw [List.map_flatten, List.map_replicate]
  · rw [List.length_map, List.length_flatten, List.map_replicate, List.sum_replicate_nat, Nat.mul_comm]; exact h2
  · refine wfs_iff.mpr fun x hx => ?_
    obtain ⟨y, hy, rfl⟩ := List.mem_map.mp hx
    obtain ⟨l, hl, hy⟩ := List.mem_flatten.mp hy
    rw [List.eq_of_mem_replicate hl] at hy
    exact wfs_iff.mp w.2 _ (List.mem_map_of_mem hy)
abbrev iM (em : α → D) : α → IV := fun x => .im (em x)
theorem ti_L (ha : Pe env fa (mL em xs)) : Pi env (iSeq fa) (xs.map (iM em)) := by
  have := pi_lst ha
  rw [List.map_map] at this
  exact this
end
end Tv
namespace Tv
open PySem PySem.Spec PyProof.Rows L2 Dv
section
variable {R α β : Type} {env env' : Env} {fa fb : ES} {rest : SS} {T : Option R} {P : R → Fl → Prop} {E : R → Env} {d x : D} {xs : List α} {em : α → D} {fs : M (List RV)} {i j : Nat}
theorem t_bl (b : Bool) : truth (mB b) = some b := rfl
def okR (d : D) : Bool := pl 50 d && decide (cost d ≤ 16000000)
theorem oe_repr (h : Pas env fs [d]) : Oj (fun r => Pe env (eCall gRepr fs) (mS r)) (gateQ (okR d) (shownD d)) := fun r e => by
  obtain ⟨h1, rfl⟩ := gate_ok e
  unfold okR at h1
  exact pe_call h (by simp only [gRepr, if_pos h1]) trivial
variable [DecidableEq α] {fr fr' : M (List RV)} {u v : α}
theorem lAt_ow {ρ : Rho} {xs : List D} (q : Ag env ρ) (h : env[i]? = some (ow xs)) : lAt ρ i = some xs ∧ ∀ ys, wl ys → lPut ρ i ys = ρ.set i (some (.ow ys)) := by
  obtain ⟨e, w⟩ := q.get h
  exact ⟨by unfold lAt; rw [e], fun ys _ => by unfold lPut; rw [e]⟩
theorem go_mt {ch : Ch} {xs ys : List D} {ds : List D} {r : D} (h : env[i]? = some (ow xs)) (ha : Pai env fs ds) (hc : wl xs → wfs ds → ch xs ds = some (r, ys) ∧ wl ys) (g : Go (env.set i (ow ys)) rest T P E) : Go env (sSeq (sExpr (eMt i ch fs)) rest) T P E := go_seq (fun ρ q => by
  obtain ⟨e, w⟩ := q.get h
  obtain ⟨e2, w2⟩ := ha ρ q
  obtain ⟨h1, h2⟩ := hc w w2
  obtain ⟨l1, l2⟩ := lAt_ow q h
  exact ⟨_, by simp only [sExpr, eMt, M.bind, l1, e2, imms_im, h1, l2 ys h2, M.ret], q.set h2⟩) g
def pushQ (xs : List β) (x : β) : Option (List β) := gateQ (decide (xs.length < 1000000)) (xs ++ [x])
theorem go_append {x : β} {xs : List β} {em : β → D} {k : List β → Option R} (h : env[i]? = some (ow (xs.map em))) (ha : Pe env fa (em x)) (g : ∀ ys, Go (env.set i (ow (ys.map em))) rest (k ys) P E) : Go env (sSeq (sExpr (eMt i cAppend (aCons fa aNil))) rest) ((pushQ xs x).bind k) P E := fun r e => by
  cases e1 : pushQ xs x with
  | none => rw [e1] at e; cases e
  | some ys =>
    rw [e1] at e
    obtain ⟨h1, rfl⟩ := gate_ok e1
    have h1 := of_decide_eq_true h1
    refine go_mt (r := .non) h (pai_cons ha pai_nil) (fun w1 w2 => ?_) (g _) r e
    refine ⟨by simp only [cAppend, List.length_map, if_pos h1, List.map_append, List.map_cons, List.map_nil], ?_, ?_⟩
    · simp only [List.map_append, List.length_append, List.length_map, List.length_cons, List.length_nil]; omega
    · rw [List.map_append]; exact wfs_app w1.2 w2
def setQ (xs : List β) (k : Int) (x : β) : Option (List β) := (ixN xs.length k).map fun j => xs.set j x
end
def entryE (m : Nat) (svs : List SV) : Env := svs.map (fun s => .k (some s)) ++ List.replicate (m - svs.length) un
theorem ag_un : ∀ n, Ag (List.replicate n un) (List.replicate n none)
  | 0 => .nil
  | n + 1 => .cons (by exact rfl) (ag_un n)
theorem ag_entry {m : Nat} : ∀ {svs : List SV} {n : Nat}, (∀ s ∈ svs, wfS s) → Ag (svs.map (fun s => .k (some s)) ++ List.replicate n un) (svs.map some ++ List.replicate n none)
  | [], n, _ => ag_un n
  | s :: svs, n, w => .cons ⟨rfl, w s List.mem_cons_self⟩ (ag_entry (m := m) fun x hx => w x (List.mem_cons_of_mem _ hx))
def flR : Fl → Option FR
  | .nx => some (.im .non)
  | .rt d => some (.im d)
  | .rn xs => some (.nw xs)
  | _ => none
def wfFR : FR → Prop
  | .im d => wf d
  | .nw xs => wl xs
theorem fd_ok {R : Type} {n m : Nat} {s : SS} {svs : List SV} {T : Option R} {fr : R → FR} {E : R → Env} (h : Go (entryE m svs) s T (fun r fl => flR fl = some (fr r)) E) (hn : svs.length = n) (w : ∀ s ∈ svs, wfS s) :
    Oj (fun r => defF n m s svs = some (fr r, bosE (E r)) ∧ wfFR (fr r)) T := fun r e => by
  obtain ⟨fl, ρ', e1, p, wf, a⟩ := h r e (entry m svs) (ag_entry (m := m) w)
  unfold defF
  rw [decide_eq_true hn]
  unfold runF
  rw [e1, ← a.bos]
  generalize fr r = f at p ⊢
  cases fl with
  | nx => cases p; exact ⟨rfl, trivial⟩
  | rt d => cases p; exact ⟨rfl, wf⟩
  | rn xs => cases p; exact ⟨rfl, wf⟩
  | bk => cases p
  | ct => cases p
theorem wf_svs {ds : List D} (w : wfs ds) : ∀ s ∈ ds.map SV.im, wfS s := fun s hs => by
  obtain ⟨d, hd, rfl⟩ := List.mem_map.mp hs
  exact wfs_iff.mp w d hd
section
variable {α β : Type} {env : Env} {fa fb : ES} {ds : List D} {d : D} {em : α → D}
theorem g_notB (a b : Bool) : gNotB (.bl a) (.bl b) = some (.bl (!decide (a = b))) := rfl
end
end Tv
namespace Tv
open PySem PySem.Spec PyProof.Rows L2 Dv
theorem go_b {R α : Type} {env : Env} {s : SS} {P : R → Fl → Prop} {E : R → Env} {Q : α → Prop} {t : Option α} {k : α → Option R} (g : ∀ x, Q x → Go env s (k x) P E) (h : Oj Q t) : Go env s (t.bind k) P E := oj_bind h g
theorem oj_b {α β : Type} {P : α → Prop} {Q : β → Prop} {t : Option α} {k : α → Option β} (g : ∀ x, P x → Oj Q (k x)) (h : Oj P t) : Oj Q (t.bind k) := oj_bind h g
end Tv
namespace Tv
open PySem PySem.Spec PyProof.Rows L2 Dv
end Tv
namespace Tv
open PySem PySem.Spec PyProof.Rows L2 Dv
def Re (env : Env) (f : ES) (d : D) (env' : Env) : Prop := ∀ ρ, Ag env ρ → (∃ ρ', f ρ = .ok (.im d) ρ' ∧ Ag env' ρ') ∧ wf d
def Rb (env : Env) (g : M Bool) (b : Bool) (env' : Env) : Prop := ∀ ρ, Ag env ρ → ∃ ρ', g ρ = .ok b ρ' ∧ Ag env' ρ'
def Rn (env : Env) (f : M (List D)) (xs : List D) (env' : Env) : Prop := ∀ ρ, Ag env ρ → (∃ ρ', f ρ = .ok xs ρ' ∧ Ag env' ρ') ∧ wl xs
def Ra (env : Env) (f : M (List RV)) (ds : List D) (env' : Env) : Prop := ∀ ρ, Ag env ρ → (∃ ρ', f ρ = .ok (ds.map .im) ρ' ∧ Ag env' ρ') ∧ wfs ds
def Ri (env : Env) (f : M (List IV)) (xs : List IV) (env' : Env) : Prop := ∀ ρ, Ag env ρ → (∃ ρ', f ρ = .ok xs ρ' ∧ Ag env' ρ') ∧ xs.length ≤ 1000000 ∧ ∀ x ∈ xs, wfI x
def Ro (env : Env) (f : M (Option Int)) (o : Option Int) (env' : Env) : Prop := ∀ ρ, Ag env ρ → ∃ ρ', f ρ = .ok o ρ' ∧ Ag env' ρ'
section
variable {env e1 e2 e3 : Env} {fa fb fc : ES} {ga gb : M Bool} {x y z d : D} {a b c : Bool} {fs : M (List RV)} {ds xs : List D} {f : M (List D)} {fi : M (List IV)} {ivs : List IV}
theorem Pe.r (h : Pe env fa d) : Re env fa d env := fun ρ q => ⟨⟨ρ, (h ρ q).1, q⟩, (h ρ q).2⟩
theorem Pb.r (h : Pb env ga b) : Rb env ga b env := fun ρ q => ⟨ρ, h ρ q, q⟩
theorem Pn.r (h : Pn env f xs) : Rn env f xs env := fun ρ q => ⟨⟨ρ, (h ρ q).1, q⟩, (h ρ q).2⟩
theorem Pai.r (h : Pai env fs ds) : Ra env fs ds env := fun ρ q => ⟨⟨ρ, (h ρ q).1, q⟩, (h ρ q).2⟩
theorem Pi.r (h : Pi env fi ivs) : Ri env fi ivs env := fun ρ q => ⟨⟨ρ, (h ρ q).1, q⟩, (h ρ q).2⟩
theorem Po.r {fo : M (Option Int)} {o : Option Int} (h : Po env fo o) : Ro env fo o env := fun ρ q => ⟨ρ, h ρ q, q⟩
theorem re_bin {g : D → D → Option D} (ha : Re env fa x e1) (hb : Re e1 fb y e2) (h : g x y = some d) (w : wf d) : Re env (eBin g fa fb) d e2 := fun ρ q => by
  obtain ⟨⟨ρ1, h1, a1⟩, _⟩ := ha ρ q
  obtain ⟨⟨ρ2, h2, a2⟩, _⟩ := hb ρ1 a1
  exact ⟨⟨ρ2, by simp only [eBin, M.bind, h1, h2, val, look, h, M.opt, M.ret], a2⟩, w⟩
theorem re_binW {g : D → D → Option D} (ha : Re env fa x e1) (hb : Re e1 fb y e2) (h : wf x → wf y → g x y = some d ∧ wf d) : Re env (eBin g fa fb) d e2 := fun ρ q => by
  obtain ⟨⟨ρ1, h1, a1⟩, w1⟩ := ha ρ q
  obtain ⟨⟨ρ2, h2, a2⟩, w2⟩ := hb ρ1 a1
  exact re_bin ha hb (h w1 w2).1 (h w1 w2).2 ρ q
theorem rb_val (ha : Re env fa x e1) (h : truth x = some b) : Rb env (bVal fa) b e1 := fun ρ q => by
  obtain ⟨⟨ρ1, h1, a1⟩, _⟩ := ha ρ q
  exact ⟨ρ1, by simp only [bVal, M.bind, h1, val, look, h, M.opt], a1⟩
theorem rb_cmp {g : D → D → Option D} (ha : Re env fa x e1) (hb : Re e1 fb y e2) (h : g x y = some (.bl b)) : Rb env (bCmp g fa fb) b e2 := fun ρ q => by
  obtain ⟨⟨ρ2, h2, a2⟩, _⟩ := re_bin (d := .bl b) ha hb h trivial ρ q
  exact ⟨ρ2, by simp only [bCmp, M.bind, h2, val, look, isBl, M.opt], a2⟩
theorem rb_not (ha : Rb env ga a e1) : Rb env (bNot ga) (!a) e1 := fun ρ q => by
  obtain ⟨ρ1, h1, a1⟩ := ha ρ q
  exact ⟨ρ1, by simp only [bNot, M.bind, h1, M.ret], a1⟩
theorem ra_nil : Ra env aNil [] env := fun ρ q => ⟨⟨ρ, rfl, q⟩, wfs_nil⟩
theorem ra_cons (ha : Re env fa x e1) (h : Ra e1 fs ds e2) : Ra env (aCons fa fs) (x :: ds) e2 := fun ρ q => by
  obtain ⟨⟨ρ1, h1, a1⟩, w1⟩ := ha ρ q
  obtain ⟨⟨ρ2, h2, a2⟩, w2⟩ := h ρ1 a1
  exact ⟨⟨ρ2, by simp only [aCons, M.bind, h1, h2, M.ret, List.map_cons], a2⟩, wfs_cons w1 w2⟩
theorem re_tup (h : Ra env fs ds e1) (hf : ds.length ≤ 1000000) : Re env (eTup fs) (.tup ds) e1 := fun ρ q => by
  obtain ⟨⟨ρ1, e, a1⟩, w⟩ := h ρ q
  exact ⟨⟨ρ1, by simp only [eTup, M.bind, e, imms_im, M.opt, few, if_pos hf, M.ret], a1⟩, wf_tup.mpr ⟨hf, w⟩⟩
theorem re_n (h : Rn env f ds e1) : Re env (eN f) (.lst ds) e1 := fun ρ q => by
  obtain ⟨⟨ρ1, e, a1⟩, w⟩ := h ρ q
  exact ⟨⟨ρ1, by simp only [eN, M.bind, e, M.ret], a1⟩, wf_lst.mpr w⟩
section
variable {α : Type} {em : α → D} {us vs : List α}
theorem or_ixL {i : Int} (ha : Re env fa (mL em us) e1) (hb : Re e1 fb (.int i) e2) : Oj (fun r => Re env (eBin gIx fa fb) (em r) e2) (ixQ us i) := fun r e => re_binW ha hb fun w _ =>
  ⟨by simp only [gIx, atI_map, e, Option.map_some], wfs_iff.mp (wf_lst.mp w).2 _ (List.mem_map_of_mem (atI_mem e))⟩
end
inductive Lent : Kn → (List D → Kn) → List D → Prop
  | ow {xs : List D} : Lent (ow xs) Tv.ow xs
  | bo {xs : List D} : Lent (bo xs) Tv.bo xs
theorem lent_at {i : Nat} {k : Kn} {K : List D → Kn} {ρ : Rho} (l : Lent k K xs) (q : Ag env ρ) (h : env[i]? = some k) : eVar i ρ = .ok (.al i) ρ ∧ toSV ρ (.al i) = some (.bo xs) ∧ lAt ρ i = some xs ∧ ∀ ys, wl ys → lPut ρ i ys = ρ.set i (some (match K [] with
      | .k (some (.ow _)) => .ow ys
      | _ => .bo ys)) ∧ Ag (env.set i (K ys)) (lPut ρ i ys) := by
  cases l with
  | ow =>
    obtain ⟨e, w⟩ := q.get h
    refine ⟨by unfold eVar; rw [e], by simp only [toSV, e], by unfold lAt; rw [e], fun ys wy => ?_⟩
    have : lPut ρ i ys = ρ.set i (some (.ow ys)) := by unfold lPut; rw [e]
    exact ⟨this, by rw [this]; exact q.set (s := .ow ys) wy⟩
  | bo =>
    obtain ⟨e, w⟩ := q.get h
    refine ⟨by unfold eVar; rw [e], by simp only [toSV, e], by unfold lAt; rw [e], fun ys wy => ?_⟩
    have : lPut ρ i ys = ρ.set i (some (.bo ys)) := by unfold lPut; rw [e]
    exact ⟨this, by rw [this]; exact q.set (s := .bo ys) wy⟩
theorem noAl_im (i : Nat) : ∀ ds : List D, noAl i (ds.map .im) = true
  | [] => rfl
  | d :: ds => by simp only [List.map_cons, noAl, noAl_im i ds]
variable {F : FD} {i : Nat} {k : Kn} {K : List D → Kn} {ys : List D}
theorem uCall_l {fr : FR} {ρ : Rho} (l : Lent k K xs) (h : e1[i]? = some k) (q : Ag e1 ρ) (hf : F (.bo xs :: ds.map .im) = some (fr, [some ys])) (wy : wl ys) : ∃ ρ', uCall F (.al i :: ds.map .im) ρ = .ok fr ρ' ∧ Ag (e1.set i (K ys)) ρ' := by
  obtain ⟨_, h2, h3, h4⟩ := lent_at l q h
  obtain ⟨h5, h6⟩ := h4 ys wy
  refine ⟨lPut ρ i ys, ?_, h6⟩
  unfold uCall
  simp only [apart, noAl_im, apart_im, Bool.and_self, toSVs, h2, toSVs_im, hf]
  unfold lAt at h3
  cases l with
  | ow =>
    obtain ⟨e, _⟩ := q.get h
    simp only [putBack, bosAt, List.getElem?_cons_zero, e, putBack_im (allIm_im ds), lPut]
  | bo =>
    obtain ⟨e, _⟩ := q.get h
    simp only [putBack, bosAt, List.getElem?_cons_zero, e, putBack_im (allIm_im ds), lPut]
theorem re_userL (l0 : Lent k K xs) (h0 : env[i]? = some k) (ha : Ra env fs ds e1) {k1 : Kn} {zs : List D} (l : Lent k1 K zs) (h : e1[i]? = some k1) (hf : wl zs → wfs ds → F (.bo zs :: ds.map .im) = some (.im d, [some ys]) ∧ wf d ∧ wl ys) : Re env (eUser F (aCons (eVar i) fs)) d (e1.set i (K ys)) := fun ρ q => by
  obtain ⟨v1, _⟩ := lent_at l0 q h0
  obtain ⟨⟨ρ1, e2, a1⟩, w⟩ := ha ρ q
  have wz : wl zs := by
    cases l with
    | ow => exact (a1.get h).2
    | bo => exact (a1.get h).2
  obtain ⟨f1, f2, f3⟩ := hf wz w
  obtain ⟨ρ2, e3, a2⟩ := uCall_l l h a1 f1 f3
  exact ⟨⟨ρ2, by simp only [eUser, M.bind, aCons, v1, e2, M.ret, e3], a2⟩, f2⟩
section
variable {α : Type} {em : α → D} {el : α → List D} {bv : α → List D} {t : Option α}
theorem or_userL (l0 : Lent k K xs) (h0 : env[i]? = some k) (ha : Ra env fs ds e1) {k1 : Kn} {zs : List D} (l : Lent k1 K zs) (h : e1[i]? = some k1) (hf : wl zs → wfs ds → Oj (fun r => F (.bo zs :: ds.map .im) = some (.im (em r), [some (bv r)]) ∧ wf (em r) ∧ wl (bv r)) t) : Oj (fun r => Re env (eUser F (aCons (eVar i) fs)) (em r) (e1.set i (K (bv r)))) t :=
  fun r e => re_userL l0 h0 ha l h fun w1 w2 => hf w1 w2 r e
end
end
section
variable {R : Type} {env e1 e2 : Env} {fa fb : ES} {rest A B : SS} {T T1 T2 : Option R} {P : R → Fl → Prop} {E : R → Env} {d : D} {xs : List D} {f : M (List D)} {i j : Nat} {gb : M Bool} {b : Bool} {r : R} {fs : M (List RV)}
theorem gr_set (h : Re env fa d e1) (n : nbE e1 i = true) (g : Go (e1.set i (im d)) rest T P E) : Go env (sSeq (sSet i fa) rest) T P E := go_seq (fun ρ q => by
  obtain ⟨⟨ρ1, e, a1⟩, w⟩ := h ρ q
  obtain ⟨x, h1, h2⟩ := nb_of a1 n
  exact ⟨_, by simp only [sSet, M.bind, e, imm, setIm_go h1 h2, M.ret], a1.set w⟩) g
theorem gr_out {s1 : SS} {fl : Fl} (h : ∀ ρ, Ag env ρ → (∃ ρ1, s1 ρ = .ok fl ρ1 ∧ Ag e1 ρ1) ∧ wfF fl) (n : fl ≠ .nx) (p : P r fl) (w : Wk e1 (E r)) : Go env (sSeq s1 rest) (some r) P E := oj_some fun ρ q => by
  obtain ⟨⟨ρ1, h1, a1⟩, h2⟩ := h ρ q
  exact ⟨fl, ρ1, seq_out h1 n, p, h2, a1.wk w⟩
theorem gr_ret (h : Re env fa d e1) (p : P r (.rt d)) (w : Wk e1 (E r)) : Go env (sSeq (sRet fa) rest) (some r) P E := gr_out (fl := .rt d) (fun ρ q => by
  obtain ⟨⟨ρ1, e, a1⟩, w⟩ := h ρ q
  exact ⟨⟨ρ1, by simp only [sRet, M.bind, e], a1⟩, w⟩) (fun z => nomatch z) p w
theorem gr_if (h : Rb env gb b e1) (h1 : b = true → Go e1 (sSeq A rest) T1 P E) (h2 : b = false → Go e1 (sSeq B rest) T2 P E) : Go env (sSeq (sIf gb A B) rest) (if b then T1 else T2) P E := oj_ite (fun z r e ρ q => by
    subst z
    obtain ⟨ρ1, p1, a1⟩ := h ρ q
    obtain ⟨fl, ρ', e1, r1⟩ := h1 rfl r e ρ1 a1
    refine ⟨fl, ρ', ?_, r1⟩
    rw [← e1]
    simp only [sSeq, sIf, M.bind, p1]) (fun z r e ρ q => by
    subst z
    obtain ⟨ρ1, p1, a1⟩ := h ρ q
    obtain ⟨fl, ρ', e1, r1⟩ := h2 rfl r e ρ1 a1
    refine ⟨fl, ρ', ?_, r1⟩
    rw [← e1]
    simp only [sSeq, sIf, M.bind, p1])
theorem gr_asg {g : IV → M Unit} {sl : List Nat} (h : Re env fa d e1) (t : Tg e1 g sl (.im d) e2) (k : Go e2 rest T P E) : Go env (sSeq (sAsg fa g) rest) T P E := go_seq (fun ρ q => by
  obtain ⟨⟨ρ1, e, a1⟩, w⟩ := h ρ q
  obtain ⟨ρ', e2, a, _⟩ := t ρ1 a1 w
  exact ⟨ρ', by simp only [sAsg, M.bind, e, imm, e2, M.ret], a⟩) k
theorem gr_setIx {β : Type} {us : List β} {x : β} {em : β → D} {t : Int} {k : List β → Option R} {k1 : Kn} {K : List D → Kn} (l : Lent k1 K (us.map em)) (h : env[i]? = some k1) (ha : Pe env fa (em x)) (hb : Pv env fb (.int t)) (g : ∀ zs, Go (env.set i (K (zs.map em))) rest (k zs) P E) : Go env (sSeq (sSetIx i fa fb) rest) ((setQ us t x).bind k) P E := fun r e => by
  cases e1 : setQ us t x with
  | none => rw [e1] at e; cases e
  | some zs =>
    rw [e1] at e
    unfold setQ at e1
    cases e2 : ixN us.length t with
    | none => rw [e2] at e1; cases e1
    | some j =>
      rw [e2] at e1
      cases e1
      refine go_seq (fun ρ q => ?_) (g _) r e
      obtain ⟨ev, _, lb, lp⟩ := lent_at l q h
      obtain ⟨e4, w4⟩ := ha ρ q
      obtain ⟨⟨r5, e5, l5⟩, _⟩ := hb ρ q
      have w : wl (us.map em) := by
        cases l with
        | ow => exact (q.get h).2
        | bo => exact (q.get h).2
      have ww : wl ((us.set j x).map em) := by
        refine ⟨by simpa using w.1, wfs_iff.mpr fun y hy => ?_⟩
        obtain ⟨z, hz, rfl⟩ := List.mem_map.mp hy
        rcases List.mem_or_eq_of_mem_set hz with hz | rfl
        · exact wfs_iff.mp w.2 _ (List.mem_map_of_mem hz)
        · exact w4
      obtain ⟨_, ag⟩ := lp _ ww
      refine ⟨_, ?_, ag⟩
      simp only [sSetIx, M.bind, e4, imm, ev, e5, val, l5, Dv.isInt, M.opt, lb, List.length_map, e2]
      rw [← List.map_set]
end
theorem ag_iff {e : Env} {ρ : Rho} : Ag e ρ ↔ ρ.length = e.length ∧ ∀ (i : Nat) q, e[i]? = some q → ∃ x, ρ[i]? = some x ∧ KnOk q x := by
  constructor
  · intro h
    exact ⟨h.len, fun i q e => h.at e⟩
  · intro ⟨l, h⟩
    induction e generalizing ρ with
    | nil =>
      cases ρ with
      | nil => exact .nil
      | cons _ _ => simp at l
    | cons q e ih =>
      cases ρ with
      | nil => simp at l
      | cons x r =>
        refine .cons ?_ (ih (by simpa using l) fun i p hp => by simpa using h (i + 1) p (by simpa using hp))
        obtain ⟨y, h1, h2⟩ := h 0 q rfl
        simp at h1
        subst h1
        exact h2
theorem wipeE_out {e : Env} {i : Nat} : ∀ {vs : List Nat}, i ∉ vs → (wipeE e vs)[i]? = e[i]?
  | [], _ => rfl
  | v :: vs, h => by
    unfold wipeE
    rw [List.getElem?_set_ne (show v ≠ i from fun z => h (by rw [z]; exact List.mem_cons_self))]
    exact wipeE_out fun z => h (List.mem_cons_of_mem _ z)
theorem wipeE_len (e : Env) : ∀ vs, (wipeE e vs).length = e.length
  | [] => rfl
  | v :: vs => by unfold wipeE; rw [List.length_set, wipeE_len e vs]
theorem ag_put {e0 e : Env} {ρ0 ρ : Rho} {vs : List Nat} (h0 : Ag e0 ρ0) (h : Ag (wipeE e vs) ρ) (hv : ∀ j ∈ vs, e[j]? = e0[j]?) : Ag e (putB ρ0 vs ρ) := by
  rw [ag_iff]
  have hl := h.len
  rw [wipeE_len] at hl
  refine ⟨by rw [putB_len]; exact hl, fun i q hq => ?_⟩
  by_cases z : i ∈ vs
  · obtain ⟨x, h1, h2⟩ := h0.at ((hv i z).symm.trans hq)
    have li : i < ρ.length := by
      rw [hl]
      rcases Nat.lt_or_ge i e.length with y | y
      · exact y
      · rw [List.getElem?_eq_none y] at hq; cases hq
    exact ⟨x, by rw [putB_in z li, h1]; rfl, h2⟩
  · rw [putB_out z]
    exact h.at (by rw [wipeE_out z]; exact hq)
def lcS {σ α β : Type} (p : α → σ → Option (Bool × σ)) (h : α → σ → Option (β × σ)) : List α → σ → Option (List β × σ)
  | [], s => some ([], s)
  | x :: xs, s => (p x s).bind fun b => if b.1 then (h x b.2).bind fun y => (lcS p h xs y.2).map fun r => (y.1 :: r.1, r.2) else lcS p h xs b.2
section
variable {env : Env} {σ α β : Type} {iv : α → IV} {xs : List α} {em : β → D} {vs sl : List Nat} {E : σ → Env} {E1 : σ → α → Env} {fi : M (List IV)} {g : IV → M Unit} {gt : M Bool} {fe : ES}
theorem lcS_go {p : α → σ → Option (Bool × σ)} {h : α → σ → Option (β × σ)} (hw : ∀ s x, wipeE (E1 s x) vs = wipeE (E s) vs) (hg : ∀ s x, Tg (wipeE (E s) vs) g sl (iv x) (E1 s x)) (hp : ∀ x s, Oj (fun q => Rb (E1 s x) gt q.1 (E1 q.2 x)) (p x s)) (he : ∀ x s, Oj (fun q => Re (E1 s x) fe (em q.1) (E1 q.2 x)) (h x s)) :
    ∀ (xs : List α) (acc : List D) (s : σ) (r : List β × σ) (ρ : Rho), (∀ x ∈ xs, wfI (iv x)) → acc.length + xs.length ≤ 1000000 → lcS p h xs s = some r → Ag (wipeE (E s) vs) ρ → ∃ ρ', lcLoop vs g gt fe (xs.map iv) acc ρ = .ok (acc ++ r.1.map em) ρ' ∧ Ag (wipeE (E r.2) vs) ρ' ∧ wfs (r.1.map em) ∧ r.1.length ≤ xs.length
  | [], acc, s, r, ρ, _, _, e, q => by cases e; exact ⟨ρ, by simp [lcLoop, M.ret], q, wfs_nil, Nat.le_refl _⟩
  | x :: xs, acc, s, r, ρ, w, l, e, q => by
    unfold lcS at e
    cases ep : p x s with
    | none => rw [ep] at e; cases e
    | some b =>
      rw [ep] at e
      simp only [Option.bind_some] at e
      have ih := fun acc s r ρ l e q => lcS_go hw hg hp he xs acc s r ρ (fun y hy => w y (List.mem_cons_of_mem _ hy)) l e q
      obtain ⟨ρ1, e1, a1, l1, o1⟩ := hg s x ρ q (w x List.mem_cons_self)
      obtain ⟨ρ2, e2, a2⟩ := hp x s b ep ρ1 a1
      rw [List.length_cons] at l
      rw [List.map_cons]
      unfold lcLoop
      simp only [M.bind, e1, e2]
      cases eb : b.1 with
      | false =>
        simp only [M.bind, wipeM]
        rw [eb, if_neg (by simp)] at e
        have := a2.wipe vs
        rw [hw] at this
        obtain ⟨ρ', h1, h2, h3, h4⟩ := ih acc b.2 r _ (by omega) e this
        exact ⟨ρ', h1, h2, h3, by rw [List.length_cons]; omega⟩
      | true =>
        rw [eb, if_pos rfl] at e
        cases eh : h x b.2 with
        | none => rw [eh] at e; cases e
        | some y =>
          rw [eh] at e
          simp only [Option.bind_some] at e
          cases er : lcS p h xs y.2 with
          | none => rw [er] at e; cases e
          | some zs =>
            rw [er] at e
            cases e
            obtain ⟨⟨ρ3, e3, a3⟩, w3⟩ := he x b.2 y eh ρ2 a2
            have rr : acc.length < 1000000 := by omega
            have := a3.wipe vs
            rw [hw] at this
            obtain ⟨ρ', h1, h2, h3, h4⟩ := ih (acc ++ [em y.1]) y.2 zs _ (by simp; omega) er this
            simp only [M.bind, e3, imm, M.opt, room, if_pos rr, wipeM]
            refine ⟨ρ', ?_, h2, ?_, by simp only [List.length_cons]; omega⟩
            · rw [h1]; simp
            · rw [List.map_cons]; exact wfs_cons w3 h3
theorem or_lc {p : α → σ → Option (Bool × σ)} {h : α → σ → Option (β × σ)} {s0 : σ} {env0 : Env} (hi : Ri env0 fi (xs.map iv) env) (w0 : Wk env (E s0)) (hok : okE vs (E s0) = true) (hv : ∀ s s', vs.map (fun j => (E s)[j]?) = vs.map (fun j => (E s')[j]?)) (hg : ∀ s x, Tg (wipeE (E s) vs) g sl (iv x) (E1 s x)) (hw : ∀ s x, wipeE (E1 s x) vs = wipeE (E s) vs)
    (hp : ∀ x s, Oj (fun q => Rb (E1 s x) gt q.1 (E1 q.2 x)) (p x s)) (he : ∀ x s, Oj (fun q => Re (E1 s x) fe (em q.1) (E1 q.2 x)) (h x s)) : Oj (fun r => Rn env0 (nLc vs fi g gt fe) (r.1.map em) (E r.2)) (lcS p h xs s0) := fun r e ρ q => by
  obtain ⟨⟨ρ1, e1, a1⟩, l1, w1⟩ := hi ρ q
  rw [List.length_map] at l1
  have a2 := a1.wk w0
  obtain ⟨ρ', h1, h2, h3, h4⟩ := lcS_go hw hg hp he xs [] s0 r _ (fun x hx => w1 _ (List.mem_map_of_mem hx)) (by simpa using l1) e (a2.wipe vs)
  refine ⟨⟨putB ρ1 vs ρ', ?_, ag_put a2 h2 fun j hj => ?_⟩, by rw [List.length_map]; omega, h3⟩
  · unfold nLc
    simp only [M.bind, e1, okE_ok a2 hok, h1, List.nil_append]
  · have := hv r.2 s0
    rw [List.map_inj_left] at this
    exact this j hj
end
theorem wf_svsB {xs ds : List D} (v : wl xs) (w : wfs ds) : ∀ s ∈ SV.bo xs :: ds.map SV.im, wfS s := fun s hs => by
  rcases List.mem_cons.mp hs with rfl | hs
  · exact v
  · exact wf_svs w s hs
section
variable {R : Type} {env e1 e2 : Env} {fa fb : ES} {f g : M (List D)} {rest : SS} {T : Option R} {P : R → Fl → Prop} {E : R → Env} {i j : Nat} {x y : D} {xs ys : List D}
end
theorem fd_okB {R : Type} {n m : Nat} {s : SS} {xs ds : List D} {T : Option R} {fr : R → FR} {bv : R → List D} {E : R → Env} (h : Go (entryE m (SV.bo xs :: ds.map SV.im)) s T (fun r fl => flR fl = some (fr r)) (fun r => bo (bv r) :: E r)) (hn : ds.length + 1 = n) (he : ∀ r, bosE (E r) = []) (v : wl xs) (w : wfs ds) :
    Oj (fun r => defF n m s (SV.bo xs :: ds.map SV.im) = some (fr r, [some (bv r)]) ∧ wfFR (fr r) ∧ wl (bv r)) T := fun r e => by
  obtain ⟨h1, h2⟩ := fd_ok (n := n) h (by simpa using hn) (wf_svsB v w) r e
  refine ⟨?_, h2, ?_⟩
  · rw [h1]
    show some (fr r, some (bv r) :: bosE (E r)) = _
    rw [he r]
  · obtain ⟨fl, ρ', _, _, _, a⟩ := h r e (entry m (SV.bo xs :: ds.map SV.im)) (ag_entry (m := m) (wf_svsB v w))
    cases a with
    | cons k _ => exact k.2
end Tv
namespace Tv
open PySem Dv
theorem go_map {R R' : Type} {env : Env} {s : SS} {P : R → Fl → Prop} {E : R → Env} {φ : R' → R} {T : Option R'} (h : Go env s T (fun r => P (φ r)) (fun r => E (φ r))) : Go env s (T.map φ) P E := fun r e => by
  cases T with
  | none => cases e
  | some x => cases e; exact h x rfl
end Tv
namespace Tv
open PySem Dv
theorem ix0 {α : Type} (a b : α) : ixQ [a, b] 0 = some a := rfl
theorem ix1 {α : Type} (a b : α) : ixQ [a, b] 1 = some b := rfl
theorem set0 {α : Type} (a b x : α) : setQ [a, b] 0 x = some [x, b] := rfl
theorem set1 {α : Type} (a b x : α) : setQ [a, b] 1 x = some [a, x] := rfl
theorem modQ_pos {i j : Int} (h : 0 < j) : modQ i j = some (i % j) := by simp [modQ, gateQ, h]
theorem divQ_pos {i j : Int} (h : 0 < j) (h2 : j < 2 ^ 64) : divQ i j = some (i / j) := by
  have : cDiv i j = true := c_div h (by omega)
  simp [divQ, gateQ, this]
theorem mulQ_ok {i j : Int} (h : cMul i j = true) : mulQ i j = some (i * j) := by simp [mulQ, gateQ, h]
theorem gate_true {α : Type} {c : Bool} {x : α} (h : c = true) : gateQ c x = some x := by rw [h]; rfl
theorem rngOk_of {a b : Int} (h1 : -1000000 ≤ a) (h2 : a ≤ 1000000) (h3 : -1000000 ≤ b) (h4 : b ≤ 1000000) (h5 : b - a ≤ 1000000) : rngOk a b = true := by
  unfold rngOk rangeOk
  simp only [Bool.and_eq_true, decide_eq_true_eq]
  refine ⟨⟨⟨?_, ?_⟩, ?_, ?_⟩, ?_⟩ <;> omega
theorem rngQ_ok {a b : Int} (h1 : -1000000 ≤ a) (h2 : a ≤ 1000000) (h3 : -1000000 ≤ b) (h4 : b ≤ 1000000) (h5 : b - a ≤ 1000000) : rngQ a b = some (rgF a b) := gate_true (rngOk_of h1 h2 h3 h4 h5)
theorem mem_rgF {a b x : Int} : x ∈ rgF a b ↔ a ≤ x ∧ x < b := by
  unfold rgF
  rw [List.mem_map]
  constructor
  · rintro ⟨i, hi, rfl⟩
    have := List.mem_range.mp hi
    omega
  · intro ⟨h1, h2⟩
    exact ⟨(x - a).toNat, List.mem_range.mpr (by omega), by omega⟩
theorem atI_ok {α : Type} {xs : List α} {i : Int} (h0 : 0 ≤ i) (h1 : i < xs.length) : ∃ x, ixQ xs i = some x ∧ x ∈ xs ∧ xs[i.toNat]? = some x := by
  have hk : i.toNat < xs.length := by omega
  have e : ixQ xs i = some xs[i.toNat] := by
    show (L2.ixN xs.length i).bind _ = _
    simp only [L2.ixN, if_pos h0, if_pos h1, Option.bind_some, List.getElem?_eq_getElem hk]
  exact ⟨_, e, List.getElem_mem hk, List.getElem?_eq_getElem hk⟩
def DrawOk (draw : List Int → Int → Option (Int × List Int)) (Ok : List Int → Prop) : Prop := ∀ b n, Ok b → 0 < n → n < 2 ^ 64 → ∃ r b', draw b n = some (r, b') ∧ 0 ≤ r ∧ r < n ∧ Ok b'
theorem one_of_ok {α : Type} {draw : List Int → Int → Option (Int × List Int)} {Ok : List Int → Prop} (hd : DrawOk draw Ok) {items : List α} {b : List Int} (hne : items ≠ []) (hl : items.length ≤ 1000000) (hb : Ok b) :
    ∃ x b', ((draw b (items.length : Int)).bind fun r => (ixQ items r.1).bind fun a => some (a, r.2)) = some (x, b') ∧ x ∈ items ∧ Ok b' := by
  have h0 : 0 < items.length := List.length_pos_iff.mpr hne
  obtain ⟨r, b', e, r0, r1, hb'⟩ := hd b items.length hb (by omega) (by omega)
  obtain ⟨x, e2, hx, _⟩ := atI_ok r0 r1
  exact ⟨x, b', by simp only [e, Option.bind_some, e2], hx, hb'⟩
theorem lcS_none {σ α β : Type} {p : α → σ → Option (Bool × σ)} {h : α → σ → Option (β × σ)} {Ok : σ → Prop} (hp : ∀ x s, Ok s → ∃ s', p x s = some (false, s') ∧ Ok s') : ∀ (xs : List α) (s : σ), Ok s → ∃ s', lcS p h xs s = some ([], s') ∧ Ok s'
  | [], s, hs => ⟨s, rfl, hs⟩
  | x :: xs, s, hs => by
    obtain ⟨s1, e, h1⟩ := hp x s hs
    obtain ⟨s2, e2, h2⟩ := lcS_none (h := h) hp xs s1 h1
    exact ⟨s2, by simp only [lcS, e, Option.bind_some, e2]; rfl, h2⟩
theorem foldR_go {σ α R : Type} {f : σ → α → Option (Step σ R)} {Inv : σ → Prop} : ∀ (xs : List α) (s : σ), (∀ x ∈ xs, ∀ s, Inv s → ∃ s', f s x = some (.go s') ∧ Inv s') → Inv s → ∃ s', foldR f xs s = some (.go s') ∧ Inv s'
  | [], s, _, hs => ⟨s, rfl, hs⟩
  | x :: xs, s, h, hs => by
    obtain ⟨s1, e, h1⟩ := h x List.mem_cons_self s hs
    obtain ⟨s2, e2, h2⟩ := foldR_go xs s1 (fun y hy => h y (List.mem_cons_of_mem _ hy)) h1
    exact ⟨s2, by simp only [foldR, e, Option.bind_some, e2], h2⟩
theorem cells_ok {n c : Int} (h0 : 0 ≤ n) (c1 : 1 ≤ c) (c9 : c ≤ 9) : 1 ≤ (if (if n < c then n else c) > 1 then (if n < c then n else c) else 1) ∧ (if (if n < c then n else c) > 1 then (if n < c then n else c) else 1) ≤ 9 := by
  split <;> split <;> omega
end Tv
namespace Tv
open PySem PySem.Spec PyProof.Rows L2 Dv
abbrev blQ (o : Option D) : Option Bool := o.bind isBl
section
variable {α : Type} {env e1 e2 : Env} {fa fb : ES} {fs : M (List RV)} {x y d : D} {em : α → D} {xs : List α}
theorem isBl_ok {d : D} {b : Bool} (h : isBl d = some b) : d = .bl b := by
  cases d <;> simp [isBl] at h
  rw [h]
theorem blQ_ok {o : Option D} {b : Bool} (h : blQ o = some b) : o = some (.bl b) := by
  cases o with
  | none => cases h
  | some d =>
    have h : isBl d = some b := by simpa using h
    rw [isBl_ok h]
theorem oe_binB {g : D → D → Option D} (ha : Pv env fa x) (hb : Pv env fb y) : Oj (fun b => Pe env (eBin g fa fb) (mB b)) (blQ (g x y)) := fun b e => pe_bin ha hb (blQ_ok e) trivial
theorem ob_cmp {g : D → D → Option D} (ha : Pv env fa x) (hb : Pv env fb y) : Oj (Pb env (bCmp g fa fb)) (blQ (g x y)) := fun b e => pb_cmp ha hb (blQ_ok e)
end
end Tv
namespace Tv
open PySem PySem.Spec PyProof.Rows L2 Dv
end Tv
namespace Tv
open PySem PySem.Spec PyProof.Rows L2 Dv
end Tv
namespace Tv
open PySem PySem.Spec PyProof.Rows L2 Dv
section
variable {α β : Type} {env : Env} {em : α → D} {xs : List α} {fs : M (List RV)}
end
mutual
def eqD : D → D → Bool
  | .non, .non => true
  | .bl a, .bl b => decide (a = b)
  | .int a, .int b => decide (a = b)
  | .str a, .str b => decide (a = b)
  | .tup a, .tup b => eqDs a b
  | .lst a, .lst b => eqDs a b
  | .dct a b, .dct c d => eqDs a c && eqDs b d
  | .set a, .set b => eqDs a b
  | .obj a b c, .obj a' b' c' => decide (a = a') && decide (b = b') && eqDs c c'
  | .ref a, .ref b => decide (a = b)
  | _, _ => false
def eqDs : List D → List D → Bool
  | [], [] => true
  | a :: as, b :: bs => eqD a b && eqDs as bs
  | _, _ => false
end
mutual
theorem eqD_refl : ∀ a : D, eqD a a = true
  | .non => rfl
  | .bl a => by simp [eqD]
  | .int a => by simp [eqD]
  | .str a => by simp [eqD]
  | .tup a => by simp only [eqD]; exact eqDs_refl a
  | .lst a => by simp only [eqD]; exact eqDs_refl a
  | .dct a b => by simp only [eqD, eqDs_refl a, eqDs_refl b]; rfl
  | .set a => by simp only [eqD]; exact eqDs_refl a
  | .obj a b c => by simp [eqD, eqDs_refl c]
  | .ref a => by simp [eqD]
theorem eqDs_refl : ∀ a : List D, eqDs a a = true
  | [] => rfl
  | a :: as => by simp only [eqDs, eqD_refl a, eqDs_refl as]; rfl
end
mutual
theorem eqD_ok : ∀ a b : D, eqD a b = true → a = b
  | .non, b, h => by cases b <;> simp [eqD] at h; rfl
  | .bl a, b, h => by cases b <;> simp [eqD] at h; rw [h]
  | .int a, b, h => by cases b <;> simp [eqD] at h; rw [h]
  | .str a, b, h => by cases b <;> simp [eqD] at h; rw [h]
  | .tup a, b, h => by cases b <;> simp [eqD] at h; rw [eqDs_ok a _ h]
  | .lst a, b, h => by cases b <;> simp [eqD] at h; rw [eqDs_ok a _ h]
  | .dct a c, b, h => by cases b <;> simp [eqD] at h; rw [eqDs_ok a _ h.1, eqDs_ok c _ h.2]
  | .set a, b, h => by cases b <;> simp [eqD] at h; rw [eqDs_ok a _ h]
  | .obj a c d, b, h => by cases b <;> simp [eqD] at h; rw [h.1.1, h.1.2, eqDs_ok d _ h.2]
  | .ref a, b, h => by cases b <;> simp [eqD] at h; rw [h]
theorem eqDs_ok : ∀ a b : List D, eqDs a b = true → a = b
  | [], b, h => by cases b <;> simp [eqDs] at h; rfl
  | a :: as, b, h => by
    cases b with
    | nil => simp [eqDs] at h
    | cons b bs => simp only [eqDs, Bool.and_eq_true] at h; rw [eqD_ok a b h.1, eqDs_ok as bs h.2]
end
instance : DecidableEq D := fun a b => decidable_of_iff (eqD a b = true) ⟨eqD_ok a b, fun h => h ▸ eqD_refl a⟩
end Tv
namespace Tv
open PySem PySem.Spec PyProof.Rows L2 Dv
section
variable {R : Type} {env e1 : Env} {rest : SS} {T : Option R} {P : R → Fl → Prop} {E : R → Env} {i : Nat}
end
section
variable {α : Type} {em : α → D} {env : Env} {fr fr' : M (List RV)} {u v : α}
end
end Tv
namespace Tv
open PySem Dv
def Bal (n : Int) (xs : List Int) : Prop := xs.Perm (rgF 0 n)
section
variable {n : Int} {xs ys : List Int}
theorem Bal.len (h : Bal n xs) : xs.length = n.toNat := by rw [h.length_eq, rgF_len]; congr 1; omega
end
end Tv
namespace Tv
open PySem Dv
abbrev ix (x : List Int) (a : Int) : Int := (x.idxOf a : Int)
def NoDent (ax b : List Int) : Prop := ∀ x y z, x ∈ ax → y ∈ ax → z ∈ ax → ix ax x < ix ax y → ix ax y < ix ax z → ix b y < ix b x ∨ ix b y < ix b z
section
variable {n : Int} {ax p q r : List Int} (ha : Bal n ax) (hp : Bal n p) (hq : Bal n q) (hr : Bal n r) (dp : NoDent ax p) (dq : NoDent ax q) (dr : NoDent ax r)
include ha hp hq hr
end
end Tv
namespace Tv
open PySem Dv
variable {env : Env} {fa : ES} {α : Type} {em : α → D} {xs : List α}
end Tv
namespace Tv
open PySem Dv
end Tv
namespace Tv
open PySem Dv
end Tv
namespace Tv
open PySem Dv
end Tv
namespace Tv
open PySem Dv
section
variable {ax : List Int} (nd : ax.Nodup)
include nd
end
section
variable {ax : List Int} (nd : ax.Nodup) (l9 : ax.length ≤ 9)
include nd l9
end
section
variable {n : Int} {ax : List Int} (ha : Bal n ax) (n1 : 1 ≤ n)
include ha n1
end
end Tv
namespace Tv
open PySem Dv
end Tv
namespace Tv
open PySem Dv
end Tv
namespace Tv
open PySem Dv
end Tv
namespace Tv
open PySem Dv
end Tv
namespace Tv
open PySem Dv
end Tv
namespace Tv
open PySem Dv
end Tv
namespace Tv
open PySem PySem.Spec PyProof.Rows L2 Dv
variable {env : Env} {fa fb : ES} {fs : M (List RV)} {ds : List D} {F : FD} {XX : FX} {fine : RV → Option D} {hk : Ex → Option D}
def strO : Option D → Option Str
  | some (.str s) => some s
  | _ => none
theorem strO_ok {o : Option D} {s : Str} (h : strO o = some s) : o = some (.str s) := by
  unfold strO at h
  split at h
  · cases h; rfl
  · cases h
def valV : FR → RV
  | .im d => .im d
  | .nw xs => .im (.lst xs)
def plainV (g : FD) (fine : RV → Option D) (ds : List D) : Option D := match g (ds.map .im) with
  | some (fr, _) => fine (valV fr)
  | none => none
def metV (g : FD) (x : FX) (fine : RV → Option D) (hk : Ex → Option D) (ds : List D) : Option D := match x (ds.map .im) with
  | some (ex, _) => hk ex
  | none => plainV g fine ds
def metQ (g : FD) (x : FX) (fine : RV → Option D) (hk : Ex → Option D) (ds : List D) : Option Str := strO (metV g x fine hk ds)
theorem uCall_any {ρ : Rho} {fr : FR} {outs : Outs} (h : F (ds.map .im) = some (fr, outs)) : uCall F (ds.map .im) ρ = .ok fr ρ := by
  unfold uCall
  simp only [apart_im, toSVs_im, h, putBack_im (allIm_im ds)]
theorem xCall_any {ρ : Rho} {ex : Ex} {outs : Outs} (h : XX (ds.map .im) = some (ex, outs)) : xCall XX (ds.map .im) ρ = .ok ex ρ := by
  unfold xCall
  simp only [apart_im, toSVs_im, h, putBack_im (allIm_im ds)]
theorem xCall_none {ρ : Rho} (h : XX (ds.map .im) = none) : xCall XX (ds.map .im) ρ = .no := by
  unfold xCall
  simp only [apart_im, toSVs_im, h]
theorem eUser_any {ρ : Rho} {fr : FR} {outs : Outs} (e : fs ρ = .ok (ds.map .im) ρ) (h : F (ds.map .im) = some (fr, outs)) : eUser F fs ρ = .ok (valV fr) ρ := by
  cases fr <;> simp only [eUser, M.bind, e, uCall_any h, M.ret, valV]
theorem plain_im {ρ : Rho} {d : D} (e : fs ρ = .ok (ds.map .im) ρ) (h : plainV F fine ds = some d) : ∃ r, eUser F fs ρ = .ok r ρ ∧ fine r = some d := by
  unfold plainV at h
  split at h
  · rename_i fr outs h1
    exact ⟨_, eUser_any e h1, h⟩
  · cases h
theorem oe_met (h : Pai env fs ds) : Oj (fun r => Pe env (eMet (eUser F fs) (xUser XX fs) fine hk) (mS r)) (metQ F XX fine hk ds) := fun r e ρ q => by
  obtain ⟨e1, w⟩ := h ρ q
  have e := strO_ok e
  unfold metV at e
  refine ⟨?_, trivial⟩
  split at e
  · rename_i ex outs h1
    have h2 : xUser XX fs ρ = .ok ex ρ := by simp only [xUser, M.bind, e1, xCall_any h1]
    simp only [eMet, h2, e]
  · rename_i h1
    have h2 : xUser XX fs ρ = .no := by simp only [xUser, M.bind, e1, xCall_none h1]
    obtain ⟨rv, h3, h4⟩ := plain_im e1 e
    simp only [eMet, h2, h3, h4]
def bolQ (g : FD) (ds : List D) : Option Bool := match g (ds.map .im) with
  | some (.im (.bl b), _) => some b
  | _ => none
theorem oe_bol (h : Pai env fs ds) : Oj (fun r => Pe env (eUser F fs) (mB r)) (bolQ F ds) := fun r e ρ q => by
  obtain ⟨e1, w⟩ := h ρ q
  unfold bolQ at e
  split at e
  · rename_i b outs h1
    cases e
    exact ⟨eUser_any e1 h1, trivial⟩
  · cases e
theorem go_append2 {R β : Type} {i : Nat} {rest : SS} {P : R → Fl → Prop} {E : R → Env} {x : β} {xs : List β} {em : β → D} {k : List β → Option R} (E2 : List β → Env) (h : env[i]? = some (ow (xs.map em))) (ha : Pe env fa (em x)) (hE : ∀ ys, env.set i (ow (ys.map em)) = E2 ys) (g : ∀ ys, Go (E2 ys) rest (k ys) P E) : Go env (sSeq (sExpr (eMt i cAppend (aCons fa aNil))) rest) ((pushQ xs x).bind k) P E :=
  go_append h ha fun ys => (hE ys).symm ▸ g ys
def catSQ (x y : Str) : Option Str := if x.length + y.length ≤ 1000000 then some (x ++ y) else none
theorem oe_catS {x y : Str} (h : Pv env fa (mS x)) (g : Pv env fb (mS y)) : Oj (fun r => Pe env (eBin gAdd fa fb) (mS r)) (catSQ x y) := fun r e => by
  unfold catSQ at e
  split at e
  · rename_i h1
    cases e
    exact pe_bin h g (by simp only [gAdd, if_pos h1]) trivial
  · cases e
theorem pe_dct0 : Pe env eDict0 (mD (.dct [] [])) := fun ρ q => ⟨rfl, wf_dct.mpr ⟨wfs_nil, wfs_nil⟩⟩
end Tv
namespace Tv
open PySem PySem.Spec PyProof.Rows L2 Dv
theorem pls_strs : ∀ (xs : List Str) (n : Nat), (∀ x ∈ xs, PyData.strOk x = true) → pls n (xs.map mS) = true
  | [], n, _ => by rw [List.map_nil, pls.eq_def]
  | x :: xs, n, h => by
    rw [List.map_cons, pls.eq_def]
    simp only [Bool.and_eq_true]
    refine ⟨?_, pls_strs xs n fun y hy => h y (List.mem_cons_of_mem _ hy)⟩
    have := h x List.mem_cons_self
    cases n <;> simpa [Dv.pl] using this
theorem eqbs_strs : ∀ (xs : List Str), eqbs (xs.map mS) (xs.map mS) = true
  | [] => by simp [eqbs]
  | x :: xs => by simp [eqbs, eqb, eqbs_strs xs]
theorem blQ_eqS (xs : List Str) (h : ∀ x ∈ xs, PyData.strOk x = true) : blQ (gEq (mL mS xs) (mL mS xs)) = some true := by
  have e1 : pl 50 (D.lst (xs.map mS)) = true := by simpa [Dv.pl] using pls_strs xs 49 h
  have e2 : eqb (D.lst (xs.map mS)) (D.lst (xs.map mS)) = true := by simpa [eqb] using eqbs_strs xs
  have e : gEq (mL mS xs) (mL mS xs) = some (.bl true) := by
    skip
    show gEqP (D.lst (xs.map mS)) (D.lst (xs.map mS)) = _
    unfold gEqP
    rw [e1, e2]
    rfl
  rw [e]; rfl
end Tv
namespace Tv
open PySem PySem.Spec PyProof.Rows L2 Dv
variable {env : Env} {fa fb : ES} {fs : M (List RV)} {ds : List D} {F : FD} {XX : FX} {fine : RV → Option D} {hk : Ex → Option D}
theorem oe_mk {c : Str} {ok : D → D → Bool} {d1 d2 : D} (h : Pai env fs [d1, d2]) : Oj (fun r => Pe env (eMk c ok fs) (mD r)) (gMk c ok d1 d2) := fun r e ρ q => by
  obtain ⟨e1, w⟩ := h ρ q
  have e2 : fs ρ = .ok [.im d1, .im d2] ρ := e1
  have wr : wf (mD r) := by
    unfold gMk at e
    split at e
    · cases e
      trivial
    · cases e
  refine ⟨?_, wr⟩
  simp only [eMk, M.bind, e2, e, M.opt, M.ret]
end Tv
namespace Tv
open PySem Dv
variable {env : Env} {fs : M (List RV)} {ds : List D} {F : FD} {XX : FX} {fine : RV → Option D} {hk : Ex → Option D} {g : D → D → Option D} {c : D}
end Tv
namespace Tv
open PySem Dv
variable {env : Env} {fs : M (List RV)} {ds : List D} {F : FD} {fine : RV → Option D} {hk : Ex → Option D}
end Tv
namespace Tv
open PySem Dv
variable {env : Env} {f : ES} {d : D} {j : Nat} {q : Kn}
end Tv
namespace Tv
open PySem Dv
variable {env : Env} {fs : M (List RV)} {fine : RV → Option D} {hk : Ex → Option D} {c : Str} {ok : D → D → Bool} {hx : D → D → Option Ex} {d1 d2 : D}
end Tv
namespace K17
open PySem Dv Tv
abbrev c_big1 : Int := 1000000000000000000
abbrev c_big2 : Int := 1000000000000000000000000000000000000000000000000000000000000
abbrev c_big3 : Int := 1000000000000
abbrev c_big4 : Int := 2305843009213693952
def T__law_bag (v_script : (List Int)) (v_at : Int) : Option (List Int) := ((if (decide (v_at < (v_script.length : Int))) then ((ixQ v_script v_at).bind fun at_1 => (some at_1)) else (some (((89 : Int) * v_at) + (41 : Int)))).bind fun if_2 => ((mulQ c_big2 c_big2).bind fun mul_3 => ((modQ (if ((if if_2 < 0 then -if_2 else if_2) - c_big1) > (0 : Int) then ((if if_2 < 0 then -if_2 else if_2) - c_big1) else (0 : Int)) mul_3).bind fun mod_4 => ((modQ (if if_2 < 0 then -if_2 else if_2) (c_big3 + (39 : Int))).bind fun mod_5 => ((modQ ((((mod_5 * (10007 : Int)) + ((509 : Int) * v_at)) + ((17 : Int) * (if (decide (if_2 < (0 : Int))) then 1 else 0))) + (1 : Int)) (c_big4 - (1 : Int))).bind fun mod_6 => (some (mod_4 :: [mod_6])))))))
theorem t__law_bag (v_script : (List Int)) (v_at : Int) (w : wfs [(mL mI) v_script, mI v_at]) : Oj (fun r => F__law_bag ([(mL mI) v_script, mI v_at].map .im) = some (.nw (r.map mI), []) ∧ wl (r.map mI)) (T__law_bag v_script v_at) :=
  fd_ok (n := 2) (m := 5) (s := s__law_bag) (fr := fun (r : (List Int)) => .nw (r.map mI)) (E := fun _ => [.a, .a, .a, .a, .a]) (by unfold T__law_bag; exact
  (go_b (fun if_2 hif_2 => (go_set hif_2 rfl (go_b (fun mul_3 hmul_3 => (go_b (fun mod_4 hmod_4 => (go_set hmod_4 rfl (go_b (fun mod_5 hmod_5 => (go_set (pe_bin (Pe.v (pe_bin (Pe.v (pe_bin (Pe.v (pe_mulR (Pe.v hmod_5) (Pe.v (pe_c (d := .int 10007) (by exact trivial))) (by decide))) (Pe.v (pe_mulL (Pe.v (pe_c (d := .int 509) (by exact trivial))) (Pe.v (pe_var rfl)) (by decide))) (g_add _ _) (by exact trivial))) (Pe.v (pe_mulL (Pe.v (pe_c (d := .int 17) (by exact trivial))) (Pe.v (pe_call (pas_cons (Pe.v (pe_bin (Pe.v (pe_var rfl)) (Pe.v (pe_c (d := .int 0) (by exact trivial))) (g_lt _ _) (by exact trivial))) pas_nil) (g_intB _) trivial)) (by decide))) (g_add _ _) (by exact trivial))) (Pe.v (pe_c (d := .int 1) (by exact trivial))) (g_add _ _) (by exact trivial)) rfl (go_last (go_b (fun mod_6 hmod_6 => (go_retL (pn_lst (ta_cons (pe_var rfl) (ta_cons hmod_6 ta_nil)) (show (2 : Nat) ≤ 1000000 by decide)) rfl (wa_m (wa_m (wa_m (wa_m (wa_m .nil)))))))
  (oe_mod (Pe.v (pe_call (pas_cons (Pe.v (pe_var rfl)) pas_nil) (g_int _) trivial)) (Pe.v (pe_bin (Pe.v (pe_bin (d := .int 2305843009213693952) (Pe.v (pe_c (d := .int 2) (by exact trivial))) (Pe.v (pe_c (d := .int 61) (by exact trivial))) (by kernel_rfl) trivial)) (Pe.v (pe_c (d := .int 1) (by exact trivial))) (g_sub _ _) (by exact trivial))))))))
  (oe_mod (Pe.v (pe_call (pas_cons (Pe.v (pe_call (pas_cons (Pe.v (pe_var rfl)) pas_nil) (g_abs _) trivial)) pas_nil) (g_int _) trivial)) (Pe.v (pe_bin (Pe.v (pe_bin (d := .int 1000000000000) (Pe.v (pe_c (d := .int 10) (by exact trivial))) (Pe.v (pe_c (d := .int 12) (by exact trivial))) (by kernel_rfl) trivial)) (Pe.v (pe_c (d := .int 39) (by exact trivial))) (g_add _ _) (by exact trivial)))))))
  (oe_mod (Pe.v (pe_call (pas_cons (Pe.v (pe_c (d := .int 0) (by exact trivial))) (pas_cons (Pe.v (pe_bin (Pe.v (pe_call (pas_cons (Pe.v (pe_var rfl)) pas_nil) (g_abs _) trivial)) (Pe.v (pe_bin (d := .int 1000000000000000000) (Pe.v (pe_c (d := .int 10) (by exact trivial))) (Pe.v (pe_c (d := .int 18) (by exact trivial))) (by kernel_rfl) trivial)) (g_sub _ _) (by exact trivial))) pas_nil)) (g_max2 _ _) trivial)) (Pe.v hmul_3))))
  (oe_mul (Pe.v (pe_bin (d := .int 1000000000000000000000000000000000000000000000000000000000000) (Pe.v (pe_c (d := .int 10) (by exact trivial))) (Pe.v (pe_c (d := .int 60) (by exact trivial))) (by kernel_rfl) trivial)) (Pe.v (pe_bin (d := .int 1000000000000000000000000000000000000000000000000000000000000) (Pe.v (pe_c (d := .int 10) (by exact trivial))) (Pe.v (pe_c (d := .int 60) (by exact trivial))) (by kernel_rfl) trivial))))))
  (oj_if (em := mI) (pb_cmp (Pe.v (pe_var rfl)) (Pe.v (pe_call (pas_cons (Pe.v (pe_var rfl)) pas_nil) (g_lenL _) trivial)) (g_lt _ _)) (fun _ => (oj_b (fun at_1 hat_1 => (oj_some (pe_call (pas_cons (Pe.v hat_1) pas_nil) (g_int _) trivial))) (oe_ixL (Pe.v (pe_var rfl)) (Pe.v (pe_var rfl))))) (fun _ => (oj_some (pe_bin (Pe.v (pe_mulL (Pe.v (pe_c (d := .int 89) (by exact trivial))) (Pe.v (pe_var rfl)) (by decide))) (Pe.v (pe_c (d := .int 41) (by exact trivial))) (g_add _ _) (by exact trivial))))))) rfl (wf_svs w)
def T__law_draw (v_bag : (List Int)) (v_many : Int) : Option (Int × (List Int)) := ((ixQ v_bag (0 : Int)).bind fun at_1 => (if (decide ((0 : Int) < at_1)) then ((ixQ v_bag (0 : Int)).bind fun at_2 => ((modQ at_2 v_many).bind fun mod_3 => ((ixQ v_bag (0 : Int)).bind fun at_4 => ((divQ at_4 v_many).bind fun div_5 => ((setQ v_bag (0 : Int) div_5).bind fun bag_6 => (some (mod_3, bag_6))))))) else ((ixQ v_bag (1 : Int)).bind fun at_7 => ((modQ ((at_7 * (6364136223 : Int)) + (1442695041 : Int)) (c_big4 - (1 : Int))).bind fun mod_8 => ((setQ v_bag (1 : Int) mod_8).bind fun bag_9 => ((ixQ bag_9 (1 : Int)).bind fun at_10 => ((modQ (at_10 / (65537 : Int)) v_many).bind fun mod_11 => (some (mod_11, bag_9)))))))))
theorem t__law_draw (v_bag : (List Int)) (v_many : Int) (v : wl (v_bag.map mI)) (w : wfs [mI v_many]) : Oj (fun r => F__law_draw (SV.bo (v_bag.map mI) :: [mI v_many].map .im) = some (.im (mI r.1), [some (r.2.map mI)]) ∧ wf (mI r.1) ∧ wl (r.2.map mI)) (T__law_draw v_bag v_many) :=
  fd_okB (n := 2) (m := 3) (s := s__law_draw) (fr := fun (r : (Int × (List Int))) => .im (mI r.1)) (bv := fun r => r.2.map mI) (E := fun _ => [.a, .a]) (by unfold T__law_draw; exact
  (go_b (fun at_1 hat_1 => (go_if (pb_cmp (Pe.v hat_1) (Pe.v (pe_c (d := .int 0) (by exact trivial))) (g_gt _ _)) (fun _ => (go_assoc (go_b (fun at_2 hat_2 => (go_b (fun mod_3 hmod_3 => (go_set hmod_3 rfl (go_assoc (go_b (fun at_4 hat_4 => (go_b (fun div_5 hdiv_5 => (gr_setIx (em := mI) .bo rfl hdiv_5 (Pe.v (pe_c (d := .int 0) (by exact trivial))) (fun bag_6 => (go_ret (pe_var rfl) rfl (.same (wa_m (wa_m .nil)))))))
  (oe_div (Pe.v hat_4) (Pe.v (pe_var rfl)))))
  (oe_ixL (pv_bo rfl) (Pe.v (pe_c (d := .int 0) (by exact trivial))))))))
  (oe_mod (Pe.v (pe_call (pas_cons (Pe.v hat_2) pas_nil) (g_int _) trivial)) (Pe.v (pe_var rfl)))))
  (oe_ixL (pv_bo rfl) (Pe.v (pe_c (d := .int 0) (by exact trivial)))))))
  (fun _ => (go_sn (go_b (fun at_7 hat_7 => (go_b (fun mod_8 hmod_8 => (gr_setIx (em := mI) .bo rfl hmod_8 (Pe.v (pe_c (d := .int 1) (by exact trivial))) (fun bag_9 => (go_last (go_b (fun at_10 hat_10 => (go_b (fun mod_11 hmod_11 => (go_ret hmod_11 rfl (.same (wa_m (wa_u .nil)))))
  (oe_mod (Pe.v (pe_call (pas_cons (Pe.v (pe_div (Pe.v hat_10) (Pe.v (pe_c (d := .int 65537) (by exact trivial))) (c_div (by decide) (by decide)))) pas_nil) (g_int _) trivial)) (Pe.v (pe_var rfl)))))
  (oe_ixL (pv_bo rfl) (Pe.v (pe_c (d := .int 1) (by exact trivial)))))))))
  (oe_mod (Pe.v (pe_call (pas_cons (Pe.v (pe_bin (Pe.v (pe_mulR (Pe.v hat_7) (Pe.v (pe_c (d := .int 6364136223) (by exact trivial))) (by decide))) (Pe.v (pe_c (d := .int 1442695041) (by exact trivial))) (g_add _ _) (by exact trivial))) pas_nil) (g_int _) trivial)) (Pe.v (pe_bin (Pe.v (pe_bin (d := .int 2305843009213693952) (Pe.v (pe_c (d := .int 2) (by exact trivial))) (Pe.v (pe_c (d := .int 61) (by exact trivial))) (by kernel_rfl) trivial)) (Pe.v (pe_c (d := .int 1) (by exact trivial))) (g_sub _ _) (by exact trivial))))))
  (oe_ixL (pv_bo rfl) (Pe.v (pe_c (d := .int 1) (by exact trivial)))))))))
  (oe_ixL (pv_bo rfl) (Pe.v (pe_c (d := .int 0) (by exact trivial)))))) rfl (fun _ => rfl) v w
def T__law_one_of (v_bag : (List Int)) (v_items : (List D)) : Option (D × (List Int)) := ((T__law_draw v_bag (v_items.length : Int)).bind fun r_1 => ((ixQ v_items r_1.1).bind fun at_2 => (some (at_2, r_1.2))))
theorem t__law_one_of (v_bag : (List Int)) (v_items : (List D)) (v : wl (v_bag.map mI)) (w : wfs [(mL mD) v_items]) : Oj (fun r => F__law_one_of (SV.bo (v_bag.map mI) :: [(mL mD) v_items].map .im) = some (.im (mD r.1), [some (r.2.map mI)]) ∧ wf (mD r.1) ∧ wl (r.2.map mI)) (T__law_one_of v_bag v_items) :=
  fd_okB (n := 2) (m := 2) (s := s__law_one_of) (fr := fun (r : (D × (List Int))) => .im (mD r.1)) (bv := fun r => r.2.map mI) (E := fun _ => [.a]) (by unfold T__law_one_of; exact
  (go_last (go_b (Q := fun (r_1 : (Int × (List Int))) => Re [bo (v_bag.map mI), im ((mL mD) v_items)] _ (mI r_1.1) [bo (r_1.2.map mI), im ((mL mD) v_items)]) (fun r_1 hr_1 => (go_b (Q := fun (at_2 : D) => Re _ _ _ [bo (r_1.2.map mI), im ((mL mD) v_items)]) (fun at_2 hat_2 => (gr_ret hat_2 rfl (.same (wa_m .nil))))
  (or_ixL (Pe.r (pe_var rfl)) hr_1)))
  (or_userL (em := fun (r : (Int × (List Int))) => mI r.1) (bv := fun (r : (Int × (List Int))) => r.2.map mI) .bo rfl (ra_cons (Pe.r (pe_call (pas_cons (Pe.v (pe_var rfl)) pas_nil) (g_lenL _) trivial)) ra_nil) .bo rfl (t__law_draw v_bag (v_items.length : Int)))))) rfl (fun _ => rfl) v w
def T__law_firsts (v_book : D) : Option (List Str) := ((metQ F_lasts X_lasts (fineC (.str "fine")) hk__law_met [v_book]).bind fun met_1 => ((metQ F_has_axis X_has_axis (fineC (.str "fine")) hk__law_met [v_book]).bind fun met_2 => ((pushQ [met_1] met_2).bind fun found_3 => ((metQ F_axis_paper X_axis_paper (fineC (.str "fine")) hk__law_met [v_book]).bind fun met_4 => ((pushQ found_3 met_4).bind fun found_5 => ((metQ F_is_axis_paper X_is_axis_paper (fineC (.str "fine")) hk__law_met [v_book, (mU ())]).bind fun met_6 => ((pushQ found_5 met_6).bind fun found_7 => ((metQ F_is_bar X_is_bar (fineC (.str "fine")) hk__law_met [v_book, (mU ())]).bind fun met_8 => ((pushQ found_7 met_8).bind fun found_9 => ((metQ F_first_three X_first_three (fineC (.str "fine")) hk__law_met [v_book]).bind fun met_10 => ((pushQ found_9 met_10).bind fun found_11 => ((metQ F_first_four X_first_four (fineC (.str "fine")) hk__law_met [v_book]).bind fun met_12 => ((pushQ found_11 met_12).bind fun found_13 => ((metQ F_least_without X_least_without (fineC (.str "fine")) hk__law_met [v_book]).bind fun met_14 => ((pushQ found_13 met_14).bind fun found_15 => (some found_15))))))))))))))))
theorem t__law_firsts (v_book : D) (w : wfs [mD v_book]) : Oj (fun r => F__law_firsts ([mD v_book].map .im) = some (.nw (r.map mS), []) ∧ wl (r.map mS)) (T__law_firsts v_book) :=
  fd_ok (n := 1) (m := 2) (s := s__law_firsts) (fr := fun (r : (List Str)) => .nw (r.map mS)) (E := fun _ => [.a, .a]) (by unfold T__law_firsts; exact
  (go_b (Q := fun (met_1 : Str) => Pe _ _ (mS met_1)) (fun met_1 hmet_1 => (go_own (xs := List.map mS [met_1]) (pn_lst (ta_cons hmet_1 ta_nil) (show (1 : Nat) ≤ 1000000 by decide)) rfl (go_b (Q := fun (met_2 : Str) => Pe _ _ (mS met_2)) (fun met_2 hmet_2 => (go_append2 (em := mS) (E2 := fun found_3 => [im (mD v_book), ow (found_3.map mS)]) rfl hmet_2 (fun _ => rfl) (fun found_3 => (go_b (Q := fun (met_4 : Str) => Pe _ _ (mS met_4)) (fun met_4 hmet_4 => (go_append2 (em := mS) (E2 := fun found_5 => [im (mD v_book), ow (found_5.map mS)]) rfl hmet_4 (fun _ => rfl) (fun found_5 => (go_b (Q := fun (met_6 : Str) => Pe _ _ (mS met_6)) (fun met_6 hmet_6 => (go_append2 (em := mS) (E2 := fun found_7 => [im (mD v_book), ow (found_7.map mS)]) rfl hmet_6 (fun _ => rfl) (fun found_7 => (go_b (Q := fun (met_8 : Str) => Pe _ _ (mS met_8)) (fun met_8 hmet_8 => (go_append2 (em := mS) (E2 := fun found_9 => [im (mD v_book), ow (found_9.map mS)]) rfl hmet_8 (fun _ => rfl) (fun found_9 => (go_b (Q := fun (met_10 : Str) => Pe _ _ (mS met_10)) (fun met_10 hmet_10 => (go_append2 (em := mS) (E2 := fun found_11 => [im (mD v_book), ow (found_11.map mS)]) rfl hmet_10 (fun _ => rfl) (fun found_11 => (go_b (Q := fun (met_12 : Str) => Pe _ _ (mS met_12)) (fun met_12 hmet_12 => (go_append2 (em := mS) (E2 := fun found_13 => [im (mD v_book), ow (found_13.map mS)]) rfl hmet_12 (fun _ => rfl) (fun found_13 => (go_b (Q := fun (met_14 : Str) => Pe _ _ (mS met_14)) (fun met_14 hmet_14 => (go_append2 (em := mS) (E2 := fun found_15 => [im (mD v_book), ow (found_15.map mS)]) rfl hmet_14 (fun _ => rfl) (fun found_15 => (go_last (go_retO rfl rfl (wa_m (wa_o .nil)))))))
  (oe_met (pai_cons (pe_var rfl) pai_nil))))))
  (oe_met (pai_cons (pe_var rfl) pai_nil))))))
  (oe_met (pai_cons (pe_var rfl) pai_nil))))))
  (oe_met (pai_cons (pe_var rfl) (pai_cons (pe_c (d := .non) (by exact trivial)) pai_nil)))))))
  (oe_met (pai_cons (pe_var rfl) (pai_cons (pe_c (d := .non) (by exact trivial)) pai_nil)))))))
  (oe_met (pai_cons (pe_var rfl) pai_nil))))))
  (oe_met (pai_cons (pe_var rfl) pai_nil)))))
  (oe_met (pai_cons (pe_var rfl) pai_nil)))) rfl (wf_svs w)
def T__law_seconds (v_book : D) (v_lot : D) (v_row : D) : Option (List Str) := ((metQ F_have_axis X_have_axis (fineC (.str "fine")) hk__law_met [v_book, v_lot]).bind fun met_1 => ((metQ F_bar_within X_bar_within (fineC (.str "fine")) hk__law_met [v_book, v_lot]).bind fun met_2 => ((pushQ [met_1] met_2).bind fun found_3 => ((metQ F_does_begin X_does_begin (fineC (.str "fine")) hk__law_met [v_book, v_row]).bind fun met_4 => ((pushQ found_3 met_4).bind fun found_5 => ((metQ F_axis_from X_axis_from (fineC (.str "fine")) hk__law_met [v_book, v_row]).bind fun met_6 => ((pushQ found_5 met_6).bind fun found_7 => (some found_7))))))))
theorem t__law_seconds (v_book : D) (v_lot : D) (v_row : D) (w : wfs [mD v_book, mD v_lot, mD v_row]) : Oj (fun r => F__law_seconds ([mD v_book, mD v_lot, mD v_row].map .im) = some (.nw (r.map mS), []) ∧ wl (r.map mS)) (T__law_seconds v_book v_lot v_row) :=
  fd_ok (n := 3) (m := 4) (s := s__law_seconds) (fr := fun (r : (List Str)) => .nw (r.map mS)) (E := fun _ => [.a, .a, .a, .a]) (by unfold T__law_seconds; exact
  (go_b (Q := fun (met_1 : Str) => Pe _ _ (mS met_1)) (fun met_1 hmet_1 => (go_own (xs := List.map mS [met_1]) (pn_lst (ta_cons hmet_1 ta_nil) (show (1 : Nat) ≤ 1000000 by decide)) rfl (go_b (Q := fun (met_2 : Str) => Pe _ _ (mS met_2)) (fun met_2 hmet_2 => (go_append2 (em := mS) (E2 := fun found_3 => [im (mD v_book), im (mD v_lot), im (mD v_row), ow (found_3.map mS)]) rfl hmet_2 (fun _ => rfl) (fun found_3 => (go_b (Q := fun (met_4 : Str) => Pe _ _ (mS met_4)) (fun met_4 hmet_4 => (go_append2 (em := mS) (E2 := fun found_5 => [im (mD v_book), im (mD v_lot), im (mD v_row), ow (found_5.map mS)]) rfl hmet_4 (fun _ => rfl) (fun found_5 => (go_b (Q := fun (met_6 : Str) => Pe _ _ (mS met_6)) (fun met_6 hmet_6 => (go_append2 (em := mS) (E2 := fun found_7 => [im (mD v_book), im (mD v_lot), im (mD v_row), ow (found_7.map mS)]) rfl hmet_6 (fun _ => rfl) (fun found_7 => (go_last (go_retO rfl rfl (wa_m (wa_m (wa_m (wa_o .nil)))))))))
  (oe_met (pai_cons (pe_var rfl) (pai_cons (pe_var rfl) pai_nil)))))))
  (oe_met (pai_cons (pe_var rfl) (pai_cons (pe_var rfl) pai_nil)))))))
  (oe_met (pai_cons (pe_var rfl) (pai_cons (pe_var rfl) pai_nil))))))
  (oe_met (pai_cons (pe_var rfl) (pai_cons (pe_var rfl) pai_nil))))) rfl (wf_svs w)
def T__law_right_t1 (p_book : D) (p_none : D) (p_lot : D) (p_row : D) (p_one : D) (p_other : D) : Option Bool := ((T__law_firsts p_none).bind fun r_7 => ((repQ [("book" : Str)] (8 : Int)).bind fun rep_9 => ((blQ (gNe ((mL mS) r_7) ((mL mS) rep_9))).bind fun b_10 => ((if b_10 then (some true) else ((T__law_seconds p_none p_lot p_row).bind fun r_11 => ((repQ [("book" : Str)] (4 : Int)).bind fun rep_13 => ((blQ (gNe ((mL mS) r_11) ((mL mS) rep_13))).bind fun b_14 => ((if b_14 then (some true) else ((T__law_seconds p_book p_lot p_row).bind fun r_15 => ((repQ [("lot" : Str)] (2 : Int)).bind fun rep_19 => ((repQ [("axis" : Str)] (2 : Int)).bind fun rep_20 => ((catQ rep_19 rep_20).bind fun cat_21 => ((blQ (gNe ((mL mS) r_15) ((mL mS) cat_21))).bind fun b_22 => (some b_22))))))).bind fun b_23 => (some b_23)))))).bind fun b_24 => (if b_24 then (some false) else ((T__law_firsts p_book).bind fun r_25 => ((repQ [("fine" : Str)] (8 : Int)).bind fun rep_27 => ((blQ (gNe ((mL mS) r_25) ((mL mS) rep_27))).bind fun b_28 => ((if b_28 then (some true) else ((T__law_seconds p_book ((mP mI mI) ((0 : Int), (3 : Int))) ((mT mI) ([] : List Int))).bind fun r_29 => ((repQ [("fine" : Str)] (4 : Int)).bind fun rep_31 => ((blQ (gNe ((mL mS) r_29) ((mL mS) rep_31))).bind fun b_32 => ((if b_32 then (some true) else ((T__law_seconds p_book ((mT mI) [(2 : Int)]) ((mP4 mI mI mI mI) ((3 : Int), (1 : Int), (0 : Int), (2 : Int)))).bind fun r_33 => ((repQ [("fine" : Str)] (4 : Int)).bind fun rep_35 => ((blQ (gNe ((mL mS) r_33) ((mL mS) rep_35))).bind fun b_36 => (some b_36))))).bind fun b_37 => (some b_37)))))).bind fun b_38 => (if b_38 then (some false) else ((metQ F_can_be_ends X_can_be_ends (fineC (.str "fine")) hk__law_met [p_none, p_one, p_other]).bind fun met_39 => ((metQ F_can_be_ends X_can_be_ends (fineC (.str "fine")) hk__law_met [p_book, p_one, p_other]).bind fun met_40 => ((pushQ [met_39] met_40).bind fun told_41 => ((metQ F_can_be_ends X_can_be_ends (fineC (.str "fine")) hk__law_met [p_book, (mI (0 : Int)), p_other]).bind fun met_42 => ((pushQ told_41 met_42).bind fun told_43 => ((metQ F_can_be_ends X_can_be_ends (fineC (.str "fine")) hk__law_met [p_book, (mI (2 : Int)), (mI (2 : Int))]).bind fun met_44 => ((pushQ told_43 met_44).bind fun told_45 => ((metQ F_can_be_ends X_can_be_ends (fineC (.str "fine")) hk__law_met [p_book, (mI (2 : Int)), (mI (0 : Int))]).bind fun met_46 => ((pushQ told_45 met_46).bind fun told_47 => ((gateQ (okR p_one) (shownD p_one)).bind fun rp_52 => ((catSQ ("number " : Str) rp_52).bind fun tx_53 => ((gateQ (okR p_other) (shownD p_other)).bind fun rp_54 => ((catSQ ("number " : Str) rp_54).bind fun tx_55 => ((blQ (gEq ((mL mS) told_47) ((mL mS) (("book" : Str) :: (tx_53 :: (tx_55 :: (("operation" : Str) :: [("fine" : Str)]))))))).bind fun b_56 => (some b_56)))))))))))))))))))))))))
def T__law_right (v_bag : (List Int)) : Option (Bool × (List Int)) := ((gMk "Book" (okMk F_require_size F_are_ballots) (mI (4 : Int)) ((mP (mP4 mI mI mI mI) (mP4 mI mI mI mI)) (((0 : Int), (1 : Int), (2 : Int), (3 : Int)), ((1 : Int), (0 : Int), (3 : Int), (2 : Int))))).bind fun bk_1 => ((T__law_one_of v_bag ((mU ()) :: ((mI (0 : Int)) :: ((mS ("book" : Str)) :: (((mP mI (mT mI)) ((4 : Int), ([] : List Int))) :: (((mL mI) ([] : List Int)) :: [(D.dct [] [])])))))).bind fun r_2 => ((T__law_one_of r_2.2 ((mU ()) :: (((mT mI) ([] : List Int)) :: (((mL mI) [(0 : Int)]) :: (((mT mI) [(4 : Int)]) :: (((mP mI mI) ((1 : Int), (0 : Int))) :: (((mP mI mI) ((0 : Int), (0 : Int))) :: (((mT mB) [true]) :: (((mT mS) [("0" : Str)]) :: (((mT mI) [(-(1 : Int))]) :: [(mI (0 : Int))])))))))))).bind fun r_3 => ((T__law_one_of r_3.2 ((mU ()) :: (((mL mI) [(0 : Int)]) :: (((mT mI) [(4 : Int)]) :: (((mP mI mI) ((0 : Int), (0 : Int))) :: (((mT mB) [true]) :: (((mT mS) [("0" : Str)]) :: (((mT mI) [(-(1 : Int))]) :: ((mI (0 : Int)) :: (((mT mI) ((0 : Int) :: ((1 : Int) :: ((2 : Int) :: ((3 : Int) :: [(0 : Int)]))))) :: [((mT (mT mI)) [[(0 : Int)]])])))))))))).bind fun r_4 => ((T__law_one_of r_4.2 ((mI (4 : Int)) :: ((mI (-(1 : Int))) :: ((mU ()) :: ((mB true) :: ((mS ("0" : Str)) :: [(mI c_big2)])))))).bind fun r_5 => ((T__law_one_of r_5.2 ((mI (5 : Int)) :: ((mI (-(2 : Int))) :: ((mB false) :: (((mT mI) [(0 : Int)]) :: [(mS ("1" : Str))]))))).bind fun r_6 => ((T__law_right_t1 bk_1 r_2.1 r_3.1 r_4.1 (r_5.1, r_6.1).1 (r_5.1, r_6.1).2).map (fun (r : Bool) => (r, r_6.2)))))))))
theorem t__law_right (v_bag : (List Int)) (v : wl (v_bag.map mI)) (w : wfs []) : Oj (fun r => F__law_right (SV.bo (v_bag.map mI) :: [].map .im) = some (.im (mB r.1), [some (r.2.map mI)]) ∧ wf (mB r.1) ∧ wl (r.2.map mI)) (T__law_right v_bag) :=
  fd_okB (n := 1) (m := 8) (s := s__law_right) (fr := fun (r : (Bool × (List Int))) => .im (mB r.1)) (bv := fun r => r.2.map mI) (E := fun _ => [.a, .a, .a, .a, .a, .a, .a]) (by unfold T__law_right; exact
  (go_b (fun bk_1 hbk_1 => (go_set hbk_1 rfl (go_b (Q := fun (r_2 : (D × (List Int))) => Re [bo (v_bag.map mI), im (mD bk_1), un, un, un, un, un, un] _ (mD r_2.1) [bo (r_2.2.map mI), im (mD bk_1), un, un, un, un, un, un]) (fun r_2 hr_2 => (gr_set hr_2 rfl (go_b (Q := fun (r_3 : (D × (List Int))) => Re [bo (r_2.2.map mI), im (mD bk_1), im (mD r_2.1), un, un, un, un, un] _ (mD r_3.1) [bo (r_3.2.map mI), im (mD bk_1), im (mD r_2.1), un, un, un, un, un]) (fun r_3 hr_3 => (gr_set hr_3 rfl (go_b (Q := fun (r_4 : (D × (List Int))) => Re [bo (r_3.2.map mI), im (mD bk_1), im (mD r_2.1), im (mD r_3.1), un, un, un, un] _ (mD r_4.1) [bo (r_4.2.map mI), im (mD bk_1), im (mD r_2.1), im (mD r_3.1), un, un, un, un]) (fun r_4 hr_4 => (gr_set hr_4 rfl (go_b (Q := fun (r_5 : (D × (List Int))) => Re [bo (r_4.2.map mI), im (mD bk_1), im (mD r_2.1), im (mD r_3.1), im (mD r_4.1), un, un, un] _ (mD r_5.1) [bo (r_5.2.map mI), im (mD bk_1), im (mD r_2.1), im (mD r_3.1), im (mD r_4.1), un, un, un]) (fun r_5 hr_5 => (go_b (Q := fun (r_6 : (D × (List Int))) => Re [bo (r_5.2.map mI), im (mD bk_1), im (mD r_2.1), im (mD r_3.1), im (mD r_4.1), un, un, un] _ (mD r_6.1) [bo (r_6.2.map mI), im (mD bk_1), im (mD r_2.1), im (mD r_3.1), im (mD r_4.1), un, un, un]) (fun r_6 hr_6 => (gr_asg (re_tup (ra_cons hr_5 (ra_cons hr_6 ra_nil)) (show (2 : Nat) ≤ 1000000 by decide)) (tg_tup rfl (tgs_cons (tg_set rfl) (tgs_cons (tg_set rfl) tgs_nil))) (go_map (φ := (fun (r : Bool) => (r, r_6.2))) (by unfold T__law_right_t1; exact
  (go_b (fun r_57 hr_57 => (go_b (fun rep_59 hrep_59 => (go_b (fun b_60 hb_60 => (go_b (fun b_74 hb_74 => (go_if hb_74 (fun _ => (go_ret (pe_c (d := .bl false) (by exact trivial)) rfl (.same (wa_m (wa_m (wa_m (wa_m (wa_m (wa_m (wa_u .nil))))))))))
  (fun _ => (go_sn (go_b (fun r_75 hr_75 => (go_b (fun rep_77 hrep_77 => (go_b (fun b_78 hb_78 => (go_b (fun b_88 hb_88 => (go_if hb_88 (fun _ => (go_ret (pe_c (d := .bl false) (by exact trivial)) rfl (.same (wa_m (wa_m (wa_m (wa_m (wa_m (wa_m (wa_u .nil))))))))))
  (fun _ => (go_sn (go_b (Q := fun (met_89 : Str) => Pe _ _ (mS met_89)) (fun met_89 hmet_89 => (go_own (xs := List.map mS [met_89]) (pn_lst (ta_cons hmet_89 ta_nil) (show (1 : Nat) ≤ 1000000 by decide)) rfl (go_b (Q := fun (met_90 : Str) => Pe _ _ (mS met_90)) (fun met_90 hmet_90 => (go_append2 (em := mS) (E2 := fun told_91 => [bo (r_6.2.map mI), im (mD bk_1), im (mD r_2.1), im (mD r_3.1), im (mD r_4.1), im (mD (r_5.1, r_6.1).1), im (mD (r_5.1, r_6.1).2), ow (told_91.map mS)]) rfl hmet_90 (fun _ => rfl) (fun told_91 => (go_b (Q := fun (met_92 : Str) => Pe _ _ (mS met_92)) (fun met_92 hmet_92 => (go_append2 (em := mS) (E2 := fun told_93 => [bo (r_6.2.map mI), im (mD bk_1), im (mD r_2.1), im (mD r_3.1), im (mD r_4.1), im (mD (r_5.1, r_6.1).1), im (mD (r_5.1, r_6.1).2), ow (told_93.map mS)]) rfl hmet_92 (fun _ => rfl) (fun told_93 => (go_b (Q := fun (met_94 : Str) => Pe _ _ (mS met_94)) (fun met_94 hmet_94 => (go_append2 (em := mS) (E2 := fun told_95 => [bo (r_6.2.map mI), im (mD bk_1), im (mD r_2.1), im (mD r_3.1), im (mD r_4.1), im (mD (r_5.1, r_6.1).1), im (mD (r_5.1, r_6.1).2), ow (told_95.map mS)]) rfl hmet_94 (fun _ => rfl) (fun told_95 => (go_b (Q := fun (met_96 : Str) => Pe _ _ (mS met_96)) (fun met_96 hmet_96 => (go_append2 (em := mS) (E2 := fun told_97 => [bo (r_6.2.map mI), im (mD bk_1), im (mD r_2.1), im (mD r_3.1), im (mD r_4.1), im (mD (r_5.1, r_6.1).1), im (mD (r_5.1, r_6.1).2), ow (told_97.map mS)]) rfl hmet_96 (fun _ => rfl) (fun told_97 => (go_last (go_b (fun rp_102 hrp_102 => (go_b (Q := fun (tx_103 : Str) => Pe _ _ (mS tx_103)) (fun tx_103 htx_103 => (go_b (fun rp_104 hrp_104 => (go_b (Q := fun (tx_105 : Str) => Pe _ _ (mS tx_105)) (fun tx_105 htx_105 => (go_b (fun b_106 hb_106 => (go_ret hb_106 rfl (.same (wa_m (wa_m (wa_m (wa_m (wa_m (wa_m (wa_o .nil))))))))))
  (oe_binB (pv_ow rfl) (Pe.v (pe_n (pn_lst (ta_cons (pe_c (d := .str "book") (by exact trivial)) (ta_cons htx_103 (ta_cons htx_105 (ta_cons (pe_c (d := .str "operation") (by exact trivial)) (ta_cons (pe_c (d := .str "fine") (by exact trivial)) ta_nil))))) (show (5 : Nat) ≤ 1000000 by decide)))))))
  (oe_catS (Pe.v (pe_c (d := .str "number ") (by exact trivial))) (Pe.v hrp_104))))
  (oe_repr (pas_cons (Pe.v (pe_var rfl)) pas_nil))))
  (oe_catS (Pe.v (pe_c (d := .str "number ") (by exact trivial))) (Pe.v hrp_102))))
  (oe_repr (pas_cons (Pe.v (pe_var rfl)) pas_nil)))))))
  (oe_met (pai_cons (pe_var rfl) (pai_cons (pe_c (d := .int 2) (by exact trivial)) (pai_cons (pe_c (d := .int 0) (by exact trivial)) pai_nil))))))))
  (oe_met (pai_cons (pe_var rfl) (pai_cons (pe_c (d := .int 2) (by exact trivial)) (pai_cons (pe_c (d := .int 2) (by exact trivial)) pai_nil))))))))
  (oe_met (pai_cons (pe_var rfl) (pai_cons (pe_c (d := .int 0) (by exact trivial)) (pai_cons (pe_var rfl) pai_nil))))))))
  (oe_met (pai_cons (pe_var rfl) (pai_cons (pe_var rfl) (pai_cons (pe_var rfl) pai_nil)))))))
  (oe_met (pai_cons (pe_var rfl) (pai_cons (pe_var rfl) (pai_cons (pe_var rfl) pai_nil)))))))))
  (oj_or hb_78 (fun _ => (oj_b (fun r_79 hr_79 => (oj_b (fun rep_81 hrep_81 => (oj_b (fun b_82 hb_82 => (oj_b (fun b_87 hb_87 => (oj_some hb_87)) (oj_or hb_82 (fun _ => (oj_b (fun r_83 hr_83 => (oj_b (fun rep_85 hrep_85 => (oj_b (fun b_86 hb_86 => (oj_some hb_86)) (ob_cmp (Pe.v hr_83) (Pe.v (pe_n hrep_85))))) (on_rep (pn_lst (ta_cons (pe_c (d := .str "fine") (by exact trivial)) ta_nil) (show (1 : Nat) ≤ 1000000 by decide)) (Pe.v (pe_c (d := .int 4) (by exact trivial)))))) (oj_userN (pai_cons (pe_var rfl) (pai_cons (pe_tup (ta_cons (pe_c (d := .int 2) (by exact trivial)) ta_nil) (show (1 : Nat) ≤ 1000000 by decide)) (pai_cons (pe_tup (pai_cons (pe_c (d := .int 3) (by exact trivial)) (pai_cons (pe_c (d := .int 1) (by exact trivial)) (pai_cons (pe_c (d := .int 0) (by exact trivial)) (pai_cons (pe_c (d := .int 2) (by exact trivial)) pai_nil)))) (show (4 : Nat) ≤ 1000000 by decide)) pai_nil))) (t__law_seconds bk_1 ((mT mI) [(2 : Int)]) ((mP4 mI mI mI mI) ((3 : Int), (1 : Int), (0 : Int), (2 : Int)))))))))) (ob_cmp (Pe.v hr_79) (Pe.v (pe_n hrep_81))))) (on_rep (pn_lst (ta_cons (pe_c (d := .str "fine") (by exact trivial)) ta_nil) (show (1 : Nat) ≤ 1000000 by decide)) (Pe.v (pe_c (d := .int 4) (by exact trivial)))))) (oj_userN (pai_cons (pe_var rfl) (pai_cons (pe_tup (pai_cons (pe_c (d := .int 0) (by exact trivial)) (pai_cons (pe_c (d := .int 3) (by exact trivial)) pai_nil)) (show (2 : Nat) ≤ 1000000 by decide)) (pai_cons (pe_tup ta_nil (show (0 : Nat) ≤ 1000000 by decide)) pai_nil))) (t__law_seconds bk_1 ((mP mI mI) ((0 : Int), (3 : Int))) ((mT mI) ([] : List Int)))))))))
  (ob_cmp (Pe.v hr_75) (Pe.v (pe_n hrep_77)))))
  (on_rep (pn_lst (ta_cons (pe_c (d := .str "fine") (by exact trivial)) ta_nil) (show (1 : Nat) ≤ 1000000 by decide)) (Pe.v (pe_c (d := .int 8) (by exact trivial))))))
  (oj_userN (pai_cons (pe_var rfl) pai_nil) (t__law_firsts bk_1)))))))
  (oj_or hb_60 (fun _ => (oj_b (fun r_61 hr_61 => (oj_b (fun rep_63 hrep_63 => (oj_b (fun b_64 hb_64 => (oj_b (fun b_73 hb_73 => (oj_some hb_73)) (oj_or hb_64 (fun _ => (oj_b (fun r_65 hr_65 => (oj_b (fun rep_69 hrep_69 => (oj_b (fun rep_70 hrep_70 => (oj_b (fun cat_71 hcat_71 => (oj_b (fun b_72 hb_72 => (oj_some hb_72)) (ob_cmp (Pe.v hr_65) (Pe.v hcat_71)))) (oe_catL (Pe.v (pe_n hrep_69)) (Pe.v (pe_n hrep_70))))) (on_rep (pn_lst (ta_cons (pe_c (d := .str "axis") (by exact trivial)) ta_nil) (show (1 : Nat) ≤ 1000000 by decide)) (Pe.v (pe_c (d := .int 2) (by exact trivial)))))) (on_rep (pn_lst (ta_cons (pe_c (d := .str "lot") (by exact trivial)) ta_nil) (show (1 : Nat) ≤ 1000000 by decide)) (Pe.v (pe_c (d := .int 2) (by exact trivial)))))) (oj_userN (pai_cons (pe_var rfl) (pai_cons (pe_var rfl) (pai_cons (pe_var rfl) pai_nil))) (t__law_seconds bk_1 r_3.1 r_4.1))))))) (ob_cmp (Pe.v hr_61) (Pe.v (pe_n hrep_63))))) (on_rep (pn_lst (ta_cons (pe_c (d := .str "book") (by exact trivial)) ta_nil) (show (1 : Nat) ≤ 1000000 by decide)) (Pe.v (pe_c (d := .int 4) (by exact trivial)))))) (oj_userN (pai_cons (pe_var rfl) (pai_cons (pe_var rfl) (pai_cons (pe_var rfl) pai_nil))) (t__law_seconds r_2.1 r_3.1 r_4.1)))))))
  (ob_cmp (Pe.v hr_57) (Pe.v (pe_n hrep_59)))))
  (on_rep (pn_lst (ta_cons (pe_c (d := .str "book") (by exact trivial)) ta_nil) (show (1 : Nat) ≤ 1000000 by decide)) (Pe.v (pe_c (d := .int 8) (by exact trivial))))))
  (oj_userN (pai_cons (pe_var rfl) pai_nil) (t__law_firsts r_2.1)))))))
  (or_userL (em := fun (r : (D × (List Int))) => mD r.1) (bv := fun (r : (D × (List Int))) => r.2.map mI) .bo rfl (ra_cons (Pe.r (pe_n (pn_lst (ta_cons (em := mD) (x := (mI (5 : Int))) (pe_c (d := .int 5) (by exact trivial)) (ta_cons (em := mD) (x := (mI (-(2 : Int)))) (pe_un (Pe.v (pe_c (d := .int 2) (by exact trivial))) (g_neg _) (by exact trivial)) (ta_cons (em := mD) (x := (mB false)) (pe_c (d := .bl false) (by exact trivial)) (ta_cons (em := mD) (x := ((mT mI) [(0 : Int)])) (pe_tup (ta_cons (pe_c (d := .int 0) (by exact trivial)) ta_nil) (show (1 : Nat) ≤ 1000000 by decide)) (ta_cons (em := mD) (x := (mS ("1" : Str))) (pe_c (d := .str "1") (by exact trivial)) ta_nil))))) (show (5 : Nat) ≤ 1000000 by decide)))) ra_nil) .bo rfl (t__law_one_of r_5.2 ((mI (5 : Int)) :: ((mI (-(2 : Int))) :: ((mB false) :: (((mT mI) [(0 : Int)]) :: [(mS ("1" : Str))]))))))))
  (or_userL (em := fun (r : (D × (List Int))) => mD r.1) (bv := fun (r : (D × (List Int))) => r.2.map mI) .bo rfl (ra_cons (Pe.r (pe_n (pn_lst (ta_cons (em := mD) (x := (mI (4 : Int))) (pe_c (d := .int 4) (by exact trivial)) (ta_cons (em := mD) (x := (mI (-(1 : Int)))) (pe_un (Pe.v (pe_c (d := .int 1) (by exact trivial))) (g_neg _) (by exact trivial)) (ta_cons (em := mD) (x := (mU ())) (pe_c (d := .non) (by exact trivial)) (ta_cons (em := mD) (x := (mB true)) (pe_c (d := .bl true) (by exact trivial)) (ta_cons (em := mD) (x := (mS ("0" : Str))) (pe_c (d := .str "0") (by exact trivial)) (ta_cons (em := mD) (x := (mI c_big2)) (pe_bin (d := .int 1000000000000000000000000000000000000000000000000000000000000) (Pe.v (pe_c (d := .int 10) (by exact trivial))) (Pe.v (pe_c (d := .int 60) (by exact trivial))) (by kernel_rfl) trivial) ta_nil)))))) (show (6 : Nat) ≤ 1000000 by decide)))) ra_nil) .bo rfl (t__law_one_of r_4.2 ((mI (4 : Int)) :: ((mI (-(1 : Int))) :: ((mU ()) :: ((mB true) :: ((mS ("0" : Str)) :: [(mI c_big2)]))))))))))
  (or_userL (em := fun (r : (D × (List Int))) => mD r.1) (bv := fun (r : (D × (List Int))) => r.2.map mI) .bo rfl (ra_cons (Pe.r (pe_n (pn_lst (ta_cons (em := mD) (x := (mU ())) (pe_c (d := .non) (by exact trivial)) (ta_cons (em := mD) (x := ((mL mI) [(0 : Int)])) (pe_n (pn_lst (ta_cons (pe_c (d := .int 0) (by exact trivial)) ta_nil) (show (1 : Nat) ≤ 1000000 by decide))) (ta_cons (em := mD) (x := ((mT mI) [(4 : Int)])) (pe_tup (ta_cons (pe_c (d := .int 4) (by exact trivial)) ta_nil) (show (1 : Nat) ≤ 1000000 by decide)) (ta_cons (em := mD) (x := ((mP mI mI) ((0 : Int), (0 : Int)))) (pe_tup (pai_cons (pe_c (d := .int 0) (by exact trivial)) (pai_cons (pe_c (d := .int 0) (by exact trivial)) pai_nil)) (show (2 : Nat) ≤ 1000000 by decide)) (ta_cons (em := mD) (x := ((mT mB) [true])) (pe_tup (ta_cons (pe_c (d := .bl true) (by exact trivial)) ta_nil) (show (1 : Nat) ≤ 1000000 by decide)) (ta_cons (em := mD) (x := ((mT mS) [("0" : Str)])) (pe_tup (ta_cons (pe_c (d := .str "0") (by exact trivial)) ta_nil) (show (1 : Nat) ≤ 1000000 by decide)) (ta_cons (em := mD) (x := ((mT mI) [(-(1 : Int))])) (pe_tup (ta_cons (pe_un (Pe.v (pe_c (d := .int 1) (by exact trivial))) (g_neg _) (by exact trivial)) ta_nil) (show (1 : Nat) ≤ 1000000 by decide)) (ta_cons (em := mD) (x := (mI (0 : Int))) (pe_c (d := .int 0) (by exact trivial)) (ta_cons (em := mD) (x := ((mT mI) ((0 : Int) :: ((1 : Int) :: ((2 : Int) :: ((3 : Int) :: [(0 : Int)])))))) (pe_tup (ta_cons (pe_c (d := .int 0) (by exact trivial)) (ta_cons (pe_c (d := .int 1) (by exact trivial)) (ta_cons (pe_c (d := .int 2) (by exact trivial)) (ta_cons (pe_c (d := .int 3) (by exact trivial)) (ta_cons (pe_c (d := .int 0) (by exact trivial)) ta_nil))))) (show (5 : Nat) ≤ 1000000 by decide)) (ta_cons (em := mD) (x := ((mT (mT mI)) [[(0 : Int)]])) (pe_tup (ta_cons (pe_tup (ta_cons (pe_c (d := .int 0) (by exact trivial)) ta_nil) (show (1 : Nat) ≤ 1000000 by decide)) ta_nil) (show (1 : Nat) ≤ 1000000 by decide)) ta_nil)))))))))) (show (10 : Nat) ≤ 1000000 by decide)))) ra_nil) .bo rfl (t__law_one_of r_3.2 ((mU ()) :: (((mL mI) [(0 : Int)]) :: (((mT mI) [(4 : Int)]) :: (((mP mI mI) ((0 : Int), (0 : Int))) :: (((mT mB) [true]) :: (((mT mS) [("0" : Str)]) :: (((mT mI) [(-(1 : Int))]) :: ((mI (0 : Int)) :: (((mT mI) ((0 : Int) :: ((1 : Int) :: ((2 : Int) :: ((3 : Int) :: [(0 : Int)]))))) :: [((mT (mT mI)) [[(0 : Int)]])]))))))))))))))
  (or_userL (em := fun (r : (D × (List Int))) => mD r.1) (bv := fun (r : (D × (List Int))) => r.2.map mI) .bo rfl (ra_cons (Pe.r (pe_n (pn_lst (ta_cons (em := mD) (x := (mU ())) (pe_c (d := .non) (by exact trivial)) (ta_cons (em := mD) (x := ((mT mI) ([] : List Int))) (pe_tup ta_nil (show (0 : Nat) ≤ 1000000 by decide)) (ta_cons (em := mD) (x := ((mL mI) [(0 : Int)])) (pe_n (pn_lst (ta_cons (pe_c (d := .int 0) (by exact trivial)) ta_nil) (show (1 : Nat) ≤ 1000000 by decide))) (ta_cons (em := mD) (x := ((mT mI) [(4 : Int)])) (pe_tup (ta_cons (pe_c (d := .int 4) (by exact trivial)) ta_nil) (show (1 : Nat) ≤ 1000000 by decide)) (ta_cons (em := mD) (x := ((mP mI mI) ((1 : Int), (0 : Int)))) (pe_tup (pai_cons (pe_c (d := .int 1) (by exact trivial)) (pai_cons (pe_c (d := .int 0) (by exact trivial)) pai_nil)) (show (2 : Nat) ≤ 1000000 by decide)) (ta_cons (em := mD) (x := ((mP mI mI) ((0 : Int), (0 : Int)))) (pe_tup (pai_cons (pe_c (d := .int 0) (by exact trivial)) (pai_cons (pe_c (d := .int 0) (by exact trivial)) pai_nil)) (show (2 : Nat) ≤ 1000000 by decide)) (ta_cons (em := mD) (x := ((mT mB) [true])) (pe_tup (ta_cons (pe_c (d := .bl true) (by exact trivial)) ta_nil) (show (1 : Nat) ≤ 1000000 by decide)) (ta_cons (em := mD) (x := ((mT mS) [("0" : Str)])) (pe_tup (ta_cons (pe_c (d := .str "0") (by exact trivial)) ta_nil) (show (1 : Nat) ≤ 1000000 by decide)) (ta_cons (em := mD) (x := ((mT mI) [(-(1 : Int))])) (pe_tup (ta_cons (pe_un (Pe.v (pe_c (d := .int 1) (by exact trivial))) (g_neg _) (by exact trivial)) ta_nil) (show (1 : Nat) ≤ 1000000 by decide)) (ta_cons (em := mD) (x := (mI (0 : Int))) (pe_c (d := .int 0) (by exact trivial)) ta_nil)))))))))) (show (10 : Nat) ≤ 1000000 by decide)))) ra_nil) .bo rfl (t__law_one_of r_2.2 ((mU ()) :: (((mT mI) ([] : List Int)) :: (((mL mI) [(0 : Int)]) :: (((mT mI) [(4 : Int)]) :: (((mP mI mI) ((1 : Int), (0 : Int))) :: (((mP mI mI) ((0 : Int), (0 : Int))) :: (((mT mB) [true]) :: (((mT mS) [("0" : Str)]) :: (((mT mI) [(-(1 : Int))]) :: [(mI (0 : Int))]))))))))))))))
  (or_userL (em := fun (r : (D × (List Int))) => mD r.1) (bv := fun (r : (D × (List Int))) => r.2.map mI) .bo rfl (ra_cons (Pe.r (pe_n (pn_lst (ta_cons (em := mD) (x := (mU ())) (pe_c (d := .non) (by exact trivial)) (ta_cons (em := mD) (x := (mI (0 : Int))) (pe_c (d := .int 0) (by exact trivial)) (ta_cons (em := mD) (x := (mS ("book" : Str))) (pe_c (d := .str "book") (by exact trivial)) (ta_cons (em := mD) (x := ((mP mI (mT mI)) ((4 : Int), ([] : List Int)))) (pe_tup (pai_cons (pe_c (d := .int 4) (by exact trivial)) (pai_cons (pe_tup ta_nil (show (0 : Nat) ≤ 1000000 by decide)) pai_nil)) (show (2 : Nat) ≤ 1000000 by decide)) (ta_cons (em := mD) (x := ((mL mI) ([] : List Int))) (pe_n (pn_lst ta_nil (show (0 : Nat) ≤ 1000000 by decide))) (ta_cons (em := mD) (x := (D.dct [] [])) pe_dct0 ta_nil)))))) (show (6 : Nat) ≤ 1000000 by decide)))) ra_nil) .bo rfl (t__law_one_of v_bag ((mU ()) :: ((mI (0 : Int)) :: ((mS ("book" : Str)) :: (((mP mI (mT mI)) ((4 : Int), ([] : List Int))) :: (((mL mI) ([] : List Int)) :: [(D.dct [] [])]))))))))))
  (oe_mk (pai_cons (pe_c (d := .int 4) (by exact trivial)) (pai_cons (pe_tup (pai_cons (pe_tup (pai_cons (pe_c (d := .int 0) (by exact trivial)) (pai_cons (pe_c (d := .int 1) (by exact trivial)) (pai_cons (pe_c (d := .int 2) (by exact trivial)) (pai_cons (pe_c (d := .int 3) (by exact trivial)) pai_nil)))) (show (4 : Nat) ≤ 1000000 by decide)) (pai_cons (pe_tup (pai_cons (pe_c (d := .int 1) (by exact trivial)) (pai_cons (pe_c (d := .int 0) (by exact trivial)) (pai_cons (pe_c (d := .int 3) (by exact trivial)) (pai_cons (pe_c (d := .int 2) (by exact trivial)) pai_nil)))) (show (4 : Nat) ≤ 1000000 by decide)) pai_nil)) (show (2 : Nat) ≤ 1000000 by decide)) pai_nil))))) rfl (fun _ => rfl) v w
def T_law (v_script : (List Int)) : Option Bool := ((rngQ 0 (if (if (v_script.length : Int) < (4 : Int) then (v_script.length : Int) else (4 : Int)) > (1 : Int) then (if (v_script.length : Int) < (4 : Int) then (v_script.length : Int) else (4 : Int)) else (1 : Int))).bind fun rg_1 => ((foldR (fun (s_2 : Unit) at_3 => ((T__law_bag v_script at_3).bind fun r_4 => ((lcS (fun turn_6 (s_5 : ((List Int))) => ((T__law_right s_5 ).bind fun r_7 => (some ((!r_7.1), r_7.2)))) (fun turn_6 s_5 => (some ((1 : Int), s_5))) (rgF 0 (4 : Int)) r_4).bind fun lc_8 => (if (!decide (lc_8.1 = ([] : List Int))) then (some (.out false)) else (some (.go ())))))) rg_1 ()).bind (stepK fun s_2 => ((gMk "Book" (okMk F_require_size F_are_ballots) (mI (3 : Int)) ((mP (mP3 mI mI mI) (mP3 mI mI mI)) (((0 : Int), (1 : Int), (2 : Int)), ((1 : Int), (2 : Int), (0 : Int))))).bind fun bk_9 => ((catQ ((mU ()) :: ((mI (0 : Int)) :: (((mT mI) ([] : List Int)) :: (((mL mI) ([] : List Int)) :: ((D.dct [] []) :: ((mS ("axis" : Str)) :: (((mT mS) [("axis" : Str)]) :: (((mP mS (mT mI)) (("axis" : Str), ([] : List Int))) :: (((mP mS mU) (("axis" : Str), ())) :: (((mP mS (mP mI mI)) (("axis" : Str), ((0 : Int), (1 : Int)))) :: (((mP mS (mP3 mI mI mI)) (("axis" : Str), ((0 : Int), (1 : Int), (1 : Int)))) :: (((mP mS (mP3 mI mI mI)) (("axis" : Str), ((0 : Int), (1 : Int), (3 : Int)))) :: [((mP3 mS (mP3 mI mI mI) mI) (("axis" : Str), ((0 : Int), (1 : Int), (2 : Int)), (0 : Int)))])))))))))))) (((mP mS (mP3 mI mI mI)) (("three" : Str), ((0 : Int), (1 : Int), (2 : Int)))) :: (((mP3 mS (mP3 mI mI mI) (mT mI)) (("three" : Str), ((0 : Int), (1 : Int), (2 : Int)), ([] : List Int))) :: (((mP3 mS mU mU) (("three" : Str), (), ())) :: (((mP3 mS (mP3 mI mI mI) (mP mI mI)) (("four" : Str), ((0 : Int), (1 : Int), (2 : Int)), ((0 : Int), (1 : Int)))) :: (((mP mU (mP3 mI mI mI)) ((), ((0 : Int), (1 : Int), (2 : Int)))) :: [((mP3 mS (mP3 mI mI mI) (mP3 mI mI mI)) (("three" : Str), ((0 : Int), (1 : Int), (2 : Int)), ((1 : Int), (0 : Int), (5 : Int))))])))))).bind fun cat_10 => ((lcQ (fun value_11 => ((bolQ F_is_axis_paper [bk_9, value_11]).bind fun op_12 => ((if (!decide (op_12 = false)) then (some true) else ((bolQ F_is_bar [bk_9, value_11]).bind fun op_13 => (some (!decide (op_13 = false))))).bind fun b_14 => (some b_14)))) (fun value_11 => (some value_11)) cat_10).bind fun lc_15 => ((blQ (gEq ((mL mD) lc_15) ((mL mI) ([] : List Int)))).bind fun b_16 => (some b_16))))))))
theorem t_law (v_script : (List Int)) (w : wfs [(mL mI) v_script]) : Oj (fun r => F_law ([(mL mI) v_script].map .im) = some (.im (mB r), []) ∧ wf (mB r)) (T_law v_script) :=
  fd_ok (n := 1) (m := 7) (s := s_law) (fr := fun r => .im (mB r)) (E := fun _ => [.a, .a, .a, .a, .a, .a, .a]) (by unfold T_law; exact
  (go_b (fun rg_1 hrg_1 => (go_forR (E' := fun (s_2 : Unit) => [im ((mL mI) v_script), .i, .a, un, un, un, un]) hrg_1 (.same (wi_u (wa_u (.same (.same (.same (.same .nil))))))) (fun s_2 at_3 => (tg_set rfl)) (fun s_2 at_3 => (go_b (fun r_4 hr_4 => (go_own (xs := List.map mI r_4) hr_4 rfl (go_last (go_b (Q := fun (lc_8 : (List Int) × ((List Int))) => Rn _ _ _ [im ((mL mI) v_script), im (mI at_3), ow (lc_8.2.map mI), un, un, un, un]) (fun lc_8 hlc_8 => (gr_if (rb_cmp (re_n hlc_8) (Pe.r (pe_n (pn_lst ta_nil (show (0 : Nat) ≤ 1000000 by decide)))) (g_ne (eqL eqI) (by decide) _ _)) (fun _ => (go_ret (pe_c (d := .bl false) (by exact trivial)) ⟨rfl, .inl ⟨_, rfl⟩⟩ (wa_m (wa_m (wa_o (wa_u (wa_u (wa_u (wa_u .nil)))))))))
  (fun _ => (go_sn (go_nil (.inl rfl) (.same (wi_m (wa_o (.same (.same (.same (.same .nil))))))))))))
  (or_lc (em := mI) (E := fun (s_5 : ((List Int))) => [im ((mL mI) v_script), im (mI at_3), ow (s_5.map mI), un, un, un, un]) (Pi.r (pi_rng1 (pas_cons (Pe.v (pe_c (d := .int 4) (by exact trivial))) pas_nil) (by decide))) (.same (.same (.same (.same (.same (.same (.same .nil))))))) rfl (fun _ _ => rfl) (fun s_5 turn_6 => (tg_set rfl)) (fun _ _ => rfl) (fun turn_6 s_5 => (oj_b (P := fun (r_7 : (Bool × (List Int))) => Re [im ((mL mI) v_script), im (mI at_3), ow (s_5.map mI), un, un, im (mI turn_6), un] _ (mB r_7.1) [im ((mL mI) v_script), im (mI at_3), ow (r_7.2.map mI), un, un, im (mI turn_6), un]) (fun r_7 hr_7 => (oj_some (rb_not (rb_val hr_7 (t_bl _))))) (or_userL (em := fun (r : (Bool × (List Int))) => mB r.1) (bv := fun (r : (Bool × (List Int))) => r.2.map mI) .ow rfl ra_nil .ow rfl (t__law_right s_5 )))) (fun turn_6 s_5 => (oj_some (Pe.r (pe_c (d := .int 1) (by exact trivial))))))))))
  (on_user (pai_cons (pe_var rfl) (pai_cons (pe_var rfl) pai_nil)) (t__law_bag v_script at_3))))
  (fun s_2 => (go_b (fun bk_9 hbk_9 => (go_set hbk_9 rfl (go_set (pe_n (pn_lst (ta_cons (em := mD) (x := (mU ())) (pe_c (d := .non) (by exact trivial)) (ta_cons (em := mD) (x := (mI (0 : Int))) (pe_c (d := .int 0) (by exact trivial)) (ta_cons (em := mD) (x := ((mT mI) ([] : List Int))) (pe_tup ta_nil (show (0 : Nat) ≤ 1000000 by decide)) (ta_cons (em := mD) (x := ((mL mI) ([] : List Int))) (pe_n (pn_lst ta_nil (show (0 : Nat) ≤ 1000000 by decide))) (ta_cons (em := mD) (x := (D.dct [] [])) pe_dct0 (ta_cons (em := mD) (x := (mS ("axis" : Str))) (pe_c (d := .str "axis") (by exact trivial)) (ta_cons (em := mD) (x := ((mT mS) [("axis" : Str)])) (pe_tup (ta_cons (pe_c (d := .str "axis") (by exact trivial)) ta_nil) (show (1 : Nat) ≤ 1000000 by decide)) (ta_cons (em := mD) (x := ((mP mS (mT mI)) (("axis" : Str), ([] : List Int)))) (pe_tup (pai_cons (pe_c (d := .str "axis") (by exact trivial)) (pai_cons (pe_tup ta_nil (show (0 : Nat) ≤ 1000000 by decide)) pai_nil)) (show (2 : Nat) ≤ 1000000 by decide)) (ta_cons (em := mD) (x := ((mP mS mU) (("axis" : Str), ()))) (pe_tup (pai_cons (pe_c (d := .str "axis") (by exact trivial)) (pai_cons (pe_c (d := .non) (by exact trivial)) pai_nil)) (show (2 : Nat) ≤ 1000000 by decide)) (ta_cons (em := mD) (x := ((mP mS (mP mI mI)) (("axis" : Str), ((0 : Int), (1 : Int))))) (pe_tup (pai_cons (pe_c (d := .str "axis") (by exact trivial)) (pai_cons (pe_tup (pai_cons (pe_c (d := .int 0) (by exact trivial)) (pai_cons (pe_c (d := .int 1) (by exact trivial)) pai_nil)) (show (2 : Nat) ≤ 1000000 by decide)) pai_nil)) (show (2 : Nat) ≤ 1000000 by decide)) (ta_cons (em := mD) (x := ((mP mS (mP3 mI mI mI)) (("axis" : Str), ((0 : Int), (1 : Int), (1 : Int))))) (pe_tup (pai_cons (pe_c (d := .str "axis") (by exact trivial)) (pai_cons (pe_tup (pai_cons (pe_c (d := .int 0) (by exact trivial)) (pai_cons (pe_c (d := .int 1) (by exact trivial)) (pai_cons (pe_c (d := .int 1) (by exact trivial)) pai_nil))) (show (3 : Nat) ≤ 1000000 by decide)) pai_nil)) (show (2 : Nat) ≤ 1000000 by decide)) (ta_cons (em := mD) (x := ((mP mS (mP3 mI mI mI)) (("axis" : Str), ((0 : Int), (1 : Int), (3 : Int))))) (pe_tup (pai_cons (pe_c (d := .str "axis") (by exact trivial)) (pai_cons (pe_tup (pai_cons (pe_c (d := .int 0) (by exact trivial)) (pai_cons (pe_c (d := .int 1) (by exact trivial)) (pai_cons (pe_c (d := .int 3) (by exact trivial)) pai_nil))) (show (3 : Nat) ≤ 1000000 by decide)) pai_nil)) (show (2 : Nat) ≤ 1000000 by decide)) (ta_cons (em := mD) (x := ((mP3 mS (mP3 mI mI mI) mI) (("axis" : Str), ((0 : Int), (1 : Int), (2 : Int)), (0 : Int)))) (pe_tup (pai_cons (pe_c (d := .str "axis") (by exact trivial)) (pai_cons (pe_tup (pai_cons (pe_c (d := .int 0) (by exact trivial)) (pai_cons (pe_c (d := .int 1) (by exact trivial)) (pai_cons (pe_c (d := .int 2) (by exact trivial)) pai_nil))) (show (3 : Nat) ≤ 1000000 by decide)) (pai_cons (pe_c (d := .int 0) (by exact trivial)) pai_nil))) (show (3 : Nat) ≤ 1000000 by decide)) ta_nil))))))))))))) (show (13 : Nat) ≤ 1000000 by decide))) rfl (go_b (fun cat_10 hcat_10 => (go_set hcat_10 rfl (go_last (go_b (fun lc_15 hlc_15 => (go_b (fun b_16 hb_16 => (go_ret hb_16 rfl (wa_m (wa_i (.same (wa_m (wa_m (wa_u (wa_u .nil)))))))))
  (oe_binB (Pe.v (pe_n hlc_15)) (Pe.v (pe_n (pn_lst ta_nil (show (0 : Nat) ≤ 1000000 by decide)))))))
  (oj_lc (em := mD) (ti_L (pe_var rfl)) rfl (by decide) (fun value_11 => (tg_set rfl)) (fun value_11 => (oj_b (P := fun (op_12 : Bool) => Pe _ _ (mB op_12)) (fun op_12 hop_12 => (oj_b (fun b_14 hb_14 => (oj_some hb_14)) (oj_or (pb_cmp (Pe.v hop_12) (Pe.v (pe_c (d := .bl false) (by exact trivial))) (g_notB _ _)) (fun _ => (oj_b (P := fun (op_13 : Bool) => Pe _ _ (mB op_13)) (fun op_13 hop_13 => (oj_some (pb_cmp (Pe.v hop_13) (Pe.v (pe_c (d := .bl false) (by exact trivial))) (g_notB _ _)))) (oe_bol (pai_cons (pe_var rfl) (pai_cons (pe_var rfl) pai_nil)))))))) (oe_bol (pai_cons (pe_var rfl) (pai_cons (pe_var rfl) pai_nil))))) (fun value_11 => (oj_some (pe_var rfl))))))))
  (oe_catL (Pe.v (pe_var rfl)) (Pe.v (pe_n (pn_lst (ta_cons (em := mD) (x := ((mP mS (mP3 mI mI mI)) (("three" : Str), ((0 : Int), (1 : Int), (2 : Int))))) (pe_tup (pai_cons (pe_c (d := .str "three") (by exact trivial)) (pai_cons (pe_tup (pai_cons (pe_c (d := .int 0) (by exact trivial)) (pai_cons (pe_c (d := .int 1) (by exact trivial)) (pai_cons (pe_c (d := .int 2) (by exact trivial)) pai_nil))) (show (3 : Nat) ≤ 1000000 by decide)) pai_nil)) (show (2 : Nat) ≤ 1000000 by decide)) (ta_cons (em := mD) (x := ((mP3 mS (mP3 mI mI mI) (mT mI)) (("three" : Str), ((0 : Int), (1 : Int), (2 : Int)), ([] : List Int)))) (pe_tup (pai_cons (pe_c (d := .str "three") (by exact trivial)) (pai_cons (pe_tup (pai_cons (pe_c (d := .int 0) (by exact trivial)) (pai_cons (pe_c (d := .int 1) (by exact trivial)) (pai_cons (pe_c (d := .int 2) (by exact trivial)) pai_nil))) (show (3 : Nat) ≤ 1000000 by decide)) (pai_cons (pe_tup ta_nil (show (0 : Nat) ≤ 1000000 by decide)) pai_nil))) (show (3 : Nat) ≤ 1000000 by decide)) (ta_cons (em := mD) (x := ((mP3 mS mU mU) (("three" : Str), (), ()))) (pe_tup (pai_cons (pe_c (d := .str "three") (by exact trivial)) (pai_cons (pe_c (d := .non) (by exact trivial)) (pai_cons (pe_c (d := .non) (by exact trivial)) pai_nil))) (show (3 : Nat) ≤ 1000000 by decide)) (ta_cons (em := mD) (x := ((mP3 mS (mP3 mI mI mI) (mP mI mI)) (("four" : Str), ((0 : Int), (1 : Int), (2 : Int)), ((0 : Int), (1 : Int))))) (pe_tup (pai_cons (pe_c (d := .str "four") (by exact trivial)) (pai_cons (pe_tup (pai_cons (pe_c (d := .int 0) (by exact trivial)) (pai_cons (pe_c (d := .int 1) (by exact trivial)) (pai_cons (pe_c (d := .int 2) (by exact trivial)) pai_nil))) (show (3 : Nat) ≤ 1000000 by decide)) (pai_cons (pe_tup (pai_cons (pe_c (d := .int 0) (by exact trivial)) (pai_cons (pe_c (d := .int 1) (by exact trivial)) pai_nil)) (show (2 : Nat) ≤ 1000000 by decide)) pai_nil))) (show (3 : Nat) ≤ 1000000 by decide)) (ta_cons (em := mD) (x := ((mP mU (mP3 mI mI mI)) ((), ((0 : Int), (1 : Int), (2 : Int))))) (pe_tup (pai_cons (pe_c (d := .non) (by exact trivial)) (pai_cons (pe_tup (pai_cons (pe_c (d := .int 0) (by exact trivial)) (pai_cons (pe_c (d := .int 1) (by exact trivial)) (pai_cons (pe_c (d := .int 2) (by exact trivial)) pai_nil))) (show (3 : Nat) ≤ 1000000 by decide)) pai_nil)) (show (2 : Nat) ≤ 1000000 by decide)) (ta_cons (em := mD) (x := ((mP3 mS (mP3 mI mI mI) (mP3 mI mI mI)) (("three" : Str), ((0 : Int), (1 : Int), (2 : Int)), ((1 : Int), (0 : Int), (5 : Int))))) (pe_tup (pai_cons (pe_c (d := .str "three") (by exact trivial)) (pai_cons (pe_tup (pai_cons (pe_c (d := .int 0) (by exact trivial)) (pai_cons (pe_c (d := .int 1) (by exact trivial)) (pai_cons (pe_c (d := .int 2) (by exact trivial)) pai_nil))) (show (3 : Nat) ≤ 1000000 by decide)) (pai_cons (pe_tup (pai_cons (pe_c (d := .int 1) (by exact trivial)) (pai_cons (pe_c (d := .int 0) (by exact trivial)) (pai_cons (pe_c (d := .int 5) (by exact trivial)) pai_nil))) (show (3 : Nat) ≤ 1000000 by decide)) pai_nil))) (show (3 : Nat) ≤ 1000000 by decide)) ta_nil)))))) (show (6 : Nat) ≤ 1000000 by decide)))))))))
  (oe_mk (pai_cons (pe_c (d := .int 3) (by exact trivial)) (pai_cons (pe_tup (pai_cons (pe_tup (pai_cons (pe_c (d := .int 0) (by exact trivial)) (pai_cons (pe_c (d := .int 1) (by exact trivial)) (pai_cons (pe_c (d := .int 2) (by exact trivial)) pai_nil))) (show (3 : Nat) ≤ 1000000 by decide)) (pai_cons (pe_tup (pai_cons (pe_c (d := .int 1) (by exact trivial)) (pai_cons (pe_c (d := .int 2) (by exact trivial)) (pai_cons (pe_c (d := .int 0) (by exact trivial)) pai_nil))) (show (3 : Nat) ≤ 1000000 by decide)) pai_nil)) (show (2 : Nat) ≤ 1000000 by decide)) pai_nil)))))))
  (oi_rng1 (pas_cons (Pe.v (pe_call (pas_cons (Pe.v (pe_c (d := .int 1) (by exact trivial))) (pas_cons (Pe.v (pe_call (pas_cons (Pe.v (pe_c (d := .int 4) (by exact trivial))) (pas_cons (Pe.v (pe_call (pas_cons (Pe.v (pe_var rfl)) pas_nil) (g_lenL _) trivial)) pas_nil)) (g_min2 _ _) trivial)) pas_nil)) (g_max2 _ _) trivial)) pas_nil)))) rfl (wf_svs w)
end K17
namespace K17
open PySem Dv Tv
def OkB (b : List Int) : Prop := ∃ g h, b = [g, h]
theorem draw_ok : DrawOk T__law_draw OkB := by
  rintro b n ⟨g, h, rfl⟩ h0 h1
  unfold T__law_draw
  have hM : (0 : Int) < c_big4 - 1 := by decide
  generalize c_big4 - (1 : Int) = M at hM
  by_cases hg : 0 < g
  · simp only [ix0, Option.bind_some, hg, decide_true, if_true, modQ_pos h0, divQ_pos h0 h1, set0]
    exact ⟨_, _, rfl, Int.emod_nonneg _ (by omega), Int.emod_lt_of_pos _ h0, _, _, rfl⟩
  · simp only [ix0, ix1, Option.bind_some, hg, decide_false, Bool.false_eq_true, if_false, modQ_pos hM, modQ_pos h0, set1]
    exact ⟨_, _, rfl, Int.emod_nonneg _ (by omega), Int.emod_lt_of_pos _ h0, _, _, rfl⟩
theorem bag_ok (sc : List Int) (at_ : Int) (h0 : 0 ≤ at_) : ∃ b, T__law_bag sc at_ = some b ∧ OkB b := by
  unfold T__law_bag
  have hM : (0 : Int) < c_big4 - 1 := by decide
  have h3 : (0 : Int) < c_big3 + 39 := by decide
  have hm : mulQ c_big2 c_big2 = some (c_big2 * c_big2) := mulQ_ok (by decide +kernel)
  have hp : (0 : Int) < c_big2 * c_big2 := by decide +kernel
  generalize c_big2 * c_big2 = G at hm hp
  generalize c_big4 - (1 : Int) = M at hM
  generalize c_big3 + (39 : Int) = N at h3
  generalize c_big1 = B
  have hc : ∃ c, (if (decide (at_ < (sc.length : Int))) = true then ((ixQ sc at_).bind fun at_1 => some at_1) else some ((89 : Int) * at_ + (41 : Int))) = some c := by
    by_cases h : at_ < (sc.length : Int)
    · obtain ⟨x, e, _⟩ := atI_ok h0 h
      exact ⟨x, by simp [h, e]⟩
    · exact ⟨89 * at_ + 41, by simp [h]⟩
  obtain ⟨c, hc⟩ := hc
  simp only [hc, Option.bind_some, hm, modQ_pos hp, modQ_pos h3, modQ_pos hM]
  exact ⟨_, rfl, _, _, rfl⟩
theorem stp {α β : Type} {t : Option α} {k : α → Option β} {x : α} {r : Option β} (h : t = some x) (g : k x = r) : t.bind k = r := by rw [h]; exact g
theorem mp {α β : Type} {t : Option α} {k : α → β} {x : α} {r : Option β} (h : t = some x) (g : some (k x) = r) : t.map k = r := by rw [h]; exact g
theorem if_no {α : Type} {a e r : Option α} (g : e = r) : (if false then a else e) = r := g
theorem if_yes {α : Type} {a e r : Option α} (g : a = r) : (if true then a else e) = r := g
theorem if_no2 {α : Type} {a e r : Option α} (g : e = r) : (if (!true) then a else e) = r := g
theorem if_yes2 {α : Type} {a e r : Option α} (g : a = r) : (if (!false) then a else e) = r := g
theorem allS_nil : ∀ x ∈ ([] : List Str), PyData.strOk x = true := fun _ h => nomatch h
theorem allS_cons {y : Str} {r : List Str} (a : PyData.strOk y = true) (b : ∀ x ∈ r, PyData.strOk x = true) : ∀ x ∈ y :: r, PyData.strOk x = true := fun x hx => (List.mem_cons.mp hx).elim (fun e => e ▸ a) (b x)
theorem tell1 {x : D} (h : okR x = true) : gateQ (okR x) (shownD x) = some (shownD x) := by rw [h]; rfl
abbrev toldnumber (x : D) : Str := ("number " : Str) ++ shownD x
abbrev Lt1 : List D := [(mU ()), (mI (0 : Int)), (mS ("book" : Str)), ((mP mI (mT mI)) ((4 : Int), ([] : List Int))), ((mL mI) ([] : List Int)), (D.dct [] [])]
abbrev Lt2 : List D := [(mU ()), ((mT mI) ([] : List Int)), ((mL mI) [(0 : Int)]), ((mT mI) [(4 : Int)]), ((mP mI mI) ((1 : Int), (0 : Int))), ((mP mI mI) ((0 : Int), (0 : Int))), ((mT mB) [true]), ((mT mS) [("0" : Str)]), ((mT mI) [(-(1 : Int))]), (mI (0 : Int))]
abbrev Lt3 : List D := [(mU ()), ((mL mI) [(0 : Int)]), ((mT mI) [(4 : Int)]), ((mP mI mI) ((0 : Int), (0 : Int))), ((mT mB) [true]), ((mT mS) [("0" : Str)]), ((mT mI) [(-(1 : Int))]), (mI (0 : Int)), ((mT mI) ((0 : Int) :: ((1 : Int) :: ((2 : Int) :: ((3 : Int) :: [(0 : Int)]))))), ((mT (mT mI)) [[(0 : Int)]])]
abbrev Lt4 : List D := [(mI (4 : Int)), (mI (-(1 : Int))), (mU ()), (mB true), (mS ("0" : Str)), (mI c_big2)]
abbrev Lt5 : List D := [(mI (5 : Int)), (mI (-(2 : Int))), (mB false), ((mT mI) [(0 : Int)]), (mS ("1" : Str))]
theorem st_if {b : Bool} {s t : Str} (h : PyData.strOk s = true) (k : PyData.strOk t = true) : PyData.strOk (if b then s else t) = true := by cases b <;> assumption
theorem ok_Lt4 : ∀ x ∈ Lt4, okR x = true := by
  intro x hx
  simp only [Lt4, List.mem_cons, List.not_mem_nil, or_false] at hx
  rcases hx with rfl | rfl | rfl | rfl | rfl | rfl
  all_goals kernel_rfl
theorem ok_Lt5 : ∀ x ∈ Lt5, okR x = true := by
  intro x hx
  simp only [Lt5, List.mem_cons, List.not_mem_nil, or_false] at hx
  rcases hx with rfl | rfl | rfl | rfl | rfl
  all_goals kernel_rfl
theorem tell_number_Lt4 : ∀ x ∈ Lt4, catSQ ("number " : Str) (shownD x) = some (toldnumber x) := by
  intro x hx
  simp only [Lt4, List.mem_cons, List.not_mem_nil, or_false] at hx
  rcases hx with rfl | rfl | rfl | rfl | rfl | rfl
  all_goals kernel_rfl
theorem tell_number_Lt5 : ∀ x ∈ Lt5, catSQ ("number " : Str) (shownD x) = some (toldnumber x) := by
  intro x hx
  simp only [Lt5, List.mem_cons, List.not_mem_nil, or_false] at hx
  rcases hx with rfl | rfl | rfl | rfl | rfl
  all_goals kernel_rfl
theorem st_number_Lt4 : ∀ x ∈ Lt4, PyData.strOk (toldnumber x) = true := by
  intro x hx
  simp only [Lt4, List.mem_cons, List.not_mem_nil, or_false] at hx
  rcases hx with rfl | rfl | rfl | rfl | rfl | rfl
  all_goals kernel_rfl
theorem st_number_Lt5 : ∀ x ∈ Lt5, PyData.strOk (toldnumber x) = true := by
  intro x hx
  simp only [Lt5, List.mem_cons, List.not_mem_nil, or_false] at hx
  rcases hx with rfl | rfl | rfl | rfl | rfl
  all_goals kernel_rfl
theorem w0 (x1 : D) (hx1 : x1 ∈ Lt1) : metQ F_lasts X_lasts (fineC (.str "fine")) hk__law_met [x1] = some ("book" : Str) := by
  ((simp only [Lt1, List.mem_cons, List.not_mem_nil, or_false] at hx1); (rcases hx1 with rfl | rfl | rfl | rfl | rfl | rfl); (all_goals kernel_rfl))
theorem w1 (x1 : D) (hx1 : x1 ∈ Lt1) : metQ F_has_axis X_has_axis (fineC (.str "fine")) hk__law_met [x1] = some ("book" : Str) := by
  ((simp only [Lt1, List.mem_cons, List.not_mem_nil, or_false] at hx1); (rcases hx1 with rfl | rfl | rfl | rfl | rfl | rfl); (all_goals kernel_rfl))
theorem w2 (x1 : D) (hx1 : x1 ∈ Lt1) : metQ F_axis_paper X_axis_paper (fineC (.str "fine")) hk__law_met [x1] = some ("book" : Str) := by
  ((simp only [Lt1, List.mem_cons, List.not_mem_nil, or_false] at hx1); (rcases hx1 with rfl | rfl | rfl | rfl | rfl | rfl); (all_goals kernel_rfl))
theorem w3 (x1 : D) (hx1 : x1 ∈ Lt1) : metQ F_is_axis_paper X_is_axis_paper (fineC (.str "fine")) hk__law_met [x1, (mU ())] = some ("book" : Str) := by
  ((simp only [Lt1, List.mem_cons, List.not_mem_nil, or_false] at hx1); (rcases hx1 with rfl | rfl | rfl | rfl | rfl | rfl); (all_goals kernel_rfl))
theorem w4 (x1 : D) (hx1 : x1 ∈ Lt1) : metQ F_is_bar X_is_bar (fineC (.str "fine")) hk__law_met [x1, (mU ())] = some ("book" : Str) := by
  ((simp only [Lt1, List.mem_cons, List.not_mem_nil, or_false] at hx1); (rcases hx1 with rfl | rfl | rfl | rfl | rfl | rfl); (all_goals kernel_rfl))
theorem w5 (x1 : D) (hx1 : x1 ∈ Lt1) : metQ F_first_three X_first_three (fineC (.str "fine")) hk__law_met [x1] = some ("book" : Str) := by
  ((simp only [Lt1, List.mem_cons, List.not_mem_nil, or_false] at hx1); (rcases hx1 with rfl | rfl | rfl | rfl | rfl | rfl); (all_goals kernel_rfl))
theorem w6 (x1 : D) (hx1 : x1 ∈ Lt1) : metQ F_first_four X_first_four (fineC (.str "fine")) hk__law_met [x1] = some ("book" : Str) := by
  ((simp only [Lt1, List.mem_cons, List.not_mem_nil, or_false] at hx1); (rcases hx1 with rfl | rfl | rfl | rfl | rfl | rfl); (all_goals kernel_rfl))
theorem w7 (x1 : D) (hx1 : x1 ∈ Lt1) : metQ F_least_without X_least_without (fineC (.str "fine")) hk__law_met [x1] = some ("book" : Str) := by
  ((simp only [Lt1, List.mem_cons, List.not_mem_nil, or_false] at hx1); (rcases hx1 with rfl | rfl | rfl | rfl | rfl | rfl); (all_goals kernel_rfl))
theorem w8 (x1 : D) (hx1 : x1 ∈ Lt1) (x2 : D) (hx2 : x2 ∈ Lt2) : metQ F_have_axis X_have_axis (fineC (.str "fine")) hk__law_met [x1, x2] = some ("book" : Str) := by
  ((simp only [Lt1, List.mem_cons, List.not_mem_nil, or_false] at hx1); (rcases hx1 with rfl | rfl | rfl | rfl | rfl | rfl); (all_goals kernel_rfl))
theorem w9 (x1 : D) (hx1 : x1 ∈ Lt1) (x2 : D) (hx2 : x2 ∈ Lt2) : metQ F_bar_within X_bar_within (fineC (.str "fine")) hk__law_met [x1, x2] = some ("book" : Str) := by
  ((simp only [Lt1, List.mem_cons, List.not_mem_nil, or_false] at hx1); (rcases hx1 with rfl | rfl | rfl | rfl | rfl | rfl); (all_goals kernel_rfl))
theorem w10 (x1 : D) (hx1 : x1 ∈ Lt1) (x3 : D) (hx3 : x3 ∈ Lt3) : metQ F_does_begin X_does_begin (fineC (.str "fine")) hk__law_met [x1, x3] = some ("book" : Str) := by
  ((simp only [Lt1, List.mem_cons, List.not_mem_nil, or_false] at hx1); (rcases hx1 with rfl | rfl | rfl | rfl | rfl | rfl); (all_goals kernel_rfl))
theorem w11 (x1 : D) (hx1 : x1 ∈ Lt1) (x3 : D) (hx3 : x3 ∈ Lt3) : metQ F_axis_from X_axis_from (fineC (.str "fine")) hk__law_met [x1, x3] = some ("book" : Str) := by
  ((simp only [Lt1, List.mem_cons, List.not_mem_nil, or_false] at hx1); (rcases hx1 with rfl | rfl | rfl | rfl | rfl | rfl); (all_goals kernel_rfl))
theorem w12 (x2 : D) (hx2 : x2 ∈ Lt2) : metQ F_have_axis X_have_axis (fineC (.str "fine")) hk__law_met [(D.obj "Book" [] [((mP (mP4 mI mI mI mI) (mP4 mI mI mI mI)) (((0 : Int), (1 : Int), (2 : Int), (3 : Int)), ((1 : Int), (0 : Int), (3 : Int), (2 : Int)))), (mI (4 : Int))]), x2] = some ("lot" : Str) := by
  ((simp only [Lt2, List.mem_cons, List.not_mem_nil, or_false] at hx2); (rcases hx2 with rfl | rfl | rfl | rfl | rfl | rfl | rfl | rfl | rfl | rfl); (all_goals kernel_rfl))
theorem w13 (x2 : D) (hx2 : x2 ∈ Lt2) : metQ F_bar_within X_bar_within (fineC (.str "fine")) hk__law_met [(D.obj "Book" [] [((mP (mP4 mI mI mI mI) (mP4 mI mI mI mI)) (((0 : Int), (1 : Int), (2 : Int), (3 : Int)), ((1 : Int), (0 : Int), (3 : Int), (2 : Int)))), (mI (4 : Int))]), x2] = some ("lot" : Str) := by
  ((simp only [Lt2, List.mem_cons, List.not_mem_nil, or_false] at hx2); (rcases hx2 with rfl | rfl | rfl | rfl | rfl | rfl | rfl | rfl | rfl | rfl); (all_goals kernel_rfl))
theorem w14 (x3 : D) (hx3 : x3 ∈ Lt3) : metQ F_does_begin X_does_begin (fineC (.str "fine")) hk__law_met [(D.obj "Book" [] [((mP (mP4 mI mI mI mI) (mP4 mI mI mI mI)) (((0 : Int), (1 : Int), (2 : Int), (3 : Int)), ((1 : Int), (0 : Int), (3 : Int), (2 : Int)))), (mI (4 : Int))]), x3] = some ("axis" : Str) := by
  ((simp only [Lt3, List.mem_cons, List.not_mem_nil, or_false] at hx3); (rcases hx3 with rfl | rfl | rfl | rfl | rfl | rfl | rfl | rfl | rfl | rfl); (all_goals kernel_rfl))
theorem w15 (x3 : D) (hx3 : x3 ∈ Lt3) : metQ F_axis_from X_axis_from (fineC (.str "fine")) hk__law_met [(D.obj "Book" [] [((mP (mP4 mI mI mI mI) (mP4 mI mI mI mI)) (((0 : Int), (1 : Int), (2 : Int), (3 : Int)), ((1 : Int), (0 : Int), (3 : Int), (2 : Int)))), (mI (4 : Int))]), x3] = some ("axis" : Str) := by
  ((simp only [Lt3, List.mem_cons, List.not_mem_nil, or_false] at hx3); (rcases hx3 with rfl | rfl | rfl | rfl | rfl | rfl | rfl | rfl | rfl | rfl); (all_goals kernel_rfl))
theorem w16 : metQ F_lasts X_lasts (fineC (.str "fine")) hk__law_met [(D.obj "Book" [] [((mP (mP4 mI mI mI mI) (mP4 mI mI mI mI)) (((0 : Int), (1 : Int), (2 : Int), (3 : Int)), ((1 : Int), (0 : Int), (3 : Int), (2 : Int)))), (mI (4 : Int))])] = some ("fine" : Str) := by
  (kernel_rfl)
theorem w17 : metQ F_has_axis X_has_axis (fineC (.str "fine")) hk__law_met [(D.obj "Book" [] [((mP (mP4 mI mI mI mI) (mP4 mI mI mI mI)) (((0 : Int), (1 : Int), (2 : Int), (3 : Int)), ((1 : Int), (0 : Int), (3 : Int), (2 : Int)))), (mI (4 : Int))])] = some ("fine" : Str) := by
  (kernel_rfl)
theorem w18 : metQ F_axis_paper X_axis_paper (fineC (.str "fine")) hk__law_met [(D.obj "Book" [] [((mP (mP4 mI mI mI mI) (mP4 mI mI mI mI)) (((0 : Int), (1 : Int), (2 : Int), (3 : Int)), ((1 : Int), (0 : Int), (3 : Int), (2 : Int)))), (mI (4 : Int))])] = some ("fine" : Str) := by
  (kernel_rfl)
theorem w19 : metQ F_is_axis_paper X_is_axis_paper (fineC (.str "fine")) hk__law_met [(D.obj "Book" [] [((mP (mP4 mI mI mI mI) (mP4 mI mI mI mI)) (((0 : Int), (1 : Int), (2 : Int), (3 : Int)), ((1 : Int), (0 : Int), (3 : Int), (2 : Int)))), (mI (4 : Int))]), (mU ())] = some ("fine" : Str) := by
  (kernel_rfl)
theorem w20 : metQ F_is_bar X_is_bar (fineC (.str "fine")) hk__law_met [(D.obj "Book" [] [((mP (mP4 mI mI mI mI) (mP4 mI mI mI mI)) (((0 : Int), (1 : Int), (2 : Int), (3 : Int)), ((1 : Int), (0 : Int), (3 : Int), (2 : Int)))), (mI (4 : Int))]), (mU ())] = some ("fine" : Str) := by
  (kernel_rfl)
theorem w21 : metQ F_first_three X_first_three (fineC (.str "fine")) hk__law_met [(D.obj "Book" [] [((mP (mP4 mI mI mI mI) (mP4 mI mI mI mI)) (((0 : Int), (1 : Int), (2 : Int), (3 : Int)), ((1 : Int), (0 : Int), (3 : Int), (2 : Int)))), (mI (4 : Int))])] = some ("fine" : Str) := by
  (kernel_rfl)
theorem w22 : metQ F_first_four X_first_four (fineC (.str "fine")) hk__law_met [(D.obj "Book" [] [((mP (mP4 mI mI mI mI) (mP4 mI mI mI mI)) (((0 : Int), (1 : Int), (2 : Int), (3 : Int)), ((1 : Int), (0 : Int), (3 : Int), (2 : Int)))), (mI (4 : Int))])] = some ("fine" : Str) := by
  (kernel_rfl)
theorem w23 : metQ F_least_without X_least_without (fineC (.str "fine")) hk__law_met [(D.obj "Book" [] [((mP (mP4 mI mI mI mI) (mP4 mI mI mI mI)) (((0 : Int), (1 : Int), (2 : Int), (3 : Int)), ((1 : Int), (0 : Int), (3 : Int), (2 : Int)))), (mI (4 : Int))])] = some ("fine" : Str) := by
  (kernel_rfl)
theorem w24 : metQ F_have_axis X_have_axis (fineC (.str "fine")) hk__law_met [(D.obj "Book" [] [((mP (mP4 mI mI mI mI) (mP4 mI mI mI mI)) (((0 : Int), (1 : Int), (2 : Int), (3 : Int)), ((1 : Int), (0 : Int), (3 : Int), (2 : Int)))), (mI (4 : Int))]), ((mP mI mI) ((0 : Int), (3 : Int)))] = some ("fine" : Str) := by
  (kernel_rfl)
theorem w25 : metQ F_bar_within X_bar_within (fineC (.str "fine")) hk__law_met [(D.obj "Book" [] [((mP (mP4 mI mI mI mI) (mP4 mI mI mI mI)) (((0 : Int), (1 : Int), (2 : Int), (3 : Int)), ((1 : Int), (0 : Int), (3 : Int), (2 : Int)))), (mI (4 : Int))]), ((mP mI mI) ((0 : Int), (3 : Int)))] = some ("fine" : Str) := by
  (kernel_rfl)
theorem w26 : metQ F_does_begin X_does_begin (fineC (.str "fine")) hk__law_met [(D.obj "Book" [] [((mP (mP4 mI mI mI mI) (mP4 mI mI mI mI)) (((0 : Int), (1 : Int), (2 : Int), (3 : Int)), ((1 : Int), (0 : Int), (3 : Int), (2 : Int)))), (mI (4 : Int))]), ((mT mI) ([] : List Int))] = some ("fine" : Str) := by
  (kernel_rfl)
theorem w27 : metQ F_axis_from X_axis_from (fineC (.str "fine")) hk__law_met [(D.obj "Book" [] [((mP (mP4 mI mI mI mI) (mP4 mI mI mI mI)) (((0 : Int), (1 : Int), (2 : Int), (3 : Int)), ((1 : Int), (0 : Int), (3 : Int), (2 : Int)))), (mI (4 : Int))]), ((mT mI) ([] : List Int))] = some ("fine" : Str) := by
  (kernel_rfl)
theorem w28 : metQ F_have_axis X_have_axis (fineC (.str "fine")) hk__law_met [(D.obj "Book" [] [((mP (mP4 mI mI mI mI) (mP4 mI mI mI mI)) (((0 : Int), (1 : Int), (2 : Int), (3 : Int)), ((1 : Int), (0 : Int), (3 : Int), (2 : Int)))), (mI (4 : Int))]), ((mT mI) [(2 : Int)])] = some ("fine" : Str) := by
  (kernel_rfl)
theorem w29 : metQ F_bar_within X_bar_within (fineC (.str "fine")) hk__law_met [(D.obj "Book" [] [((mP (mP4 mI mI mI mI) (mP4 mI mI mI mI)) (((0 : Int), (1 : Int), (2 : Int), (3 : Int)), ((1 : Int), (0 : Int), (3 : Int), (2 : Int)))), (mI (4 : Int))]), ((mT mI) [(2 : Int)])] = some ("fine" : Str) := by
  (kernel_rfl)
theorem w30 : metQ F_does_begin X_does_begin (fineC (.str "fine")) hk__law_met [(D.obj "Book" [] [((mP (mP4 mI mI mI mI) (mP4 mI mI mI mI)) (((0 : Int), (1 : Int), (2 : Int), (3 : Int)), ((1 : Int), (0 : Int), (3 : Int), (2 : Int)))), (mI (4 : Int))]), ((mP4 mI mI mI mI) ((3 : Int), (1 : Int), (0 : Int), (2 : Int)))] = some ("fine" : Str) := by
  (kernel_rfl)
theorem w31 : metQ F_axis_from X_axis_from (fineC (.str "fine")) hk__law_met [(D.obj "Book" [] [((mP (mP4 mI mI mI mI) (mP4 mI mI mI mI)) (((0 : Int), (1 : Int), (2 : Int), (3 : Int)), ((1 : Int), (0 : Int), (3 : Int), (2 : Int)))), (mI (4 : Int))]), ((mP4 mI mI mI mI) ((3 : Int), (1 : Int), (0 : Int), (2 : Int)))] = some ("fine" : Str) := by
  (kernel_rfl)
theorem w32 (x1 : D) (hx1 : x1 ∈ Lt1) (x4 : D) (hx4 : x4 ∈ Lt4) (x5 : D) (hx5 : x5 ∈ Lt5) : metQ F_can_be_ends X_can_be_ends (fineC (.str "fine")) hk__law_met [x1, x4, x5] = some ("book" : Str) := by
  ((simp only [Lt1, List.mem_cons, List.not_mem_nil, or_false] at hx1); (rcases hx1 with rfl | rfl | rfl | rfl | rfl | rfl); (all_goals kernel_rfl))
theorem w33 (x4 : D) (hx4 : x4 ∈ Lt4) (x5 : D) (hx5 : x5 ∈ Lt5) : metQ F_can_be_ends X_can_be_ends (fineC (.str "fine")) hk__law_met [(D.obj "Book" [] [((mP (mP4 mI mI mI mI) (mP4 mI mI mI mI)) (((0 : Int), (1 : Int), (2 : Int), (3 : Int)), ((1 : Int), (0 : Int), (3 : Int), (2 : Int)))), (mI (4 : Int))]), x4, x5] = some (toldnumber x4) := by
  ((simp only [Lt4, List.mem_cons, List.not_mem_nil, or_false] at hx4); (rcases hx4 with rfl | rfl | rfl | rfl | rfl | rfl); (all_goals kernel_rfl))
theorem w34 (x5 : D) (hx5 : x5 ∈ Lt5) : metQ F_can_be_ends X_can_be_ends (fineC (.str "fine")) hk__law_met [(D.obj "Book" [] [((mP (mP4 mI mI mI mI) (mP4 mI mI mI mI)) (((0 : Int), (1 : Int), (2 : Int), (3 : Int)), ((1 : Int), (0 : Int), (3 : Int), (2 : Int)))), (mI (4 : Int))]), (mI (0 : Int)), x5] = some (toldnumber x5) := by
  ((simp only [Lt5, List.mem_cons, List.not_mem_nil, or_false] at hx5); (rcases hx5 with rfl | rfl | rfl | rfl | rfl); (all_goals kernel_rfl))
theorem w35 : metQ F_can_be_ends X_can_be_ends (fineC (.str "fine")) hk__law_met [(D.obj "Book" [] [((mP (mP4 mI mI mI mI) (mP4 mI mI mI mI)) (((0 : Int), (1 : Int), (2 : Int), (3 : Int)), ((1 : Int), (0 : Int), (3 : Int), (2 : Int)))), (mI (4 : Int))]), (mI (2 : Int)), (mI (2 : Int))] = some ("operation" : Str) := by
  (kernel_rfl)
theorem w36 : metQ F_can_be_ends X_can_be_ends (fineC (.str "fine")) hk__law_met [(D.obj "Book" [] [((mP (mP4 mI mI mI mI) (mP4 mI mI mI mI)) (((0 : Int), (1 : Int), (2 : Int), (3 : Int)), ((1 : Int), (0 : Int), (3 : Int), (2 : Int)))), (mI (4 : Int))]), (mI (2 : Int)), (mI (0 : Int))] = some ("fine" : Str) := by
  (kernel_rfl)
theorem c1 (x1 : D) (hx1 : x1 ∈ Lt1) : T__law_firsts x1 = some [("book" : Str), ("book" : Str), ("book" : Str), ("book" : Str), ("book" : Str), ("book" : Str), ("book" : Str), ("book" : Str)] := by
  unfold T__law_firsts
  refine stp (x := ("book" : Str)) (w0 x1 hx1) ?_
  refine stp (x := ("book" : Str)) (w1 x1 hx1) ?_
  refine stp (x := [("book" : Str), ("book" : Str)]) (by kernel_rfl) ?_
  refine stp (x := ("book" : Str)) (w2 x1 hx1) ?_
  refine stp (x := [("book" : Str), ("book" : Str), ("book" : Str)]) (by kernel_rfl) ?_
  refine stp (x := ("book" : Str)) (w3 x1 hx1) ?_
  refine stp (x := [("book" : Str), ("book" : Str), ("book" : Str), ("book" : Str)]) (by kernel_rfl) ?_
  refine stp (x := ("book" : Str)) (w4 x1 hx1) ?_
  refine stp (x := [("book" : Str), ("book" : Str), ("book" : Str), ("book" : Str), ("book" : Str)]) (by kernel_rfl) ?_
  refine stp (x := ("book" : Str)) (w5 x1 hx1) ?_
  refine stp (x := [("book" : Str), ("book" : Str), ("book" : Str), ("book" : Str), ("book" : Str), ("book" : Str)]) (by kernel_rfl) ?_
  refine stp (x := ("book" : Str)) (w6 x1 hx1) ?_
  refine stp (x := [("book" : Str), ("book" : Str), ("book" : Str), ("book" : Str), ("book" : Str), ("book" : Str), ("book" : Str)]) (by kernel_rfl) ?_
  refine stp (x := ("book" : Str)) (w7 x1 hx1) ?_
  refine stp (x := [("book" : Str), ("book" : Str), ("book" : Str), ("book" : Str), ("book" : Str), ("book" : Str), ("book" : Str), ("book" : Str)]) (by kernel_rfl) ?_
  rfl
theorem c2 (x1 : D) (hx1 : x1 ∈ Lt1) (x2 : D) (hx2 : x2 ∈ Lt2) (x3 : D) (hx3 : x3 ∈ Lt3) : T__law_seconds x1 x2 x3 = some [("book" : Str), ("book" : Str), ("book" : Str), ("book" : Str)] := by
  unfold T__law_seconds
  refine stp (x := ("book" : Str)) (w8 x1 hx1 x2 hx2) ?_
  refine stp (x := ("book" : Str)) (w9 x1 hx1 x2 hx2) ?_
  refine stp (x := [("book" : Str), ("book" : Str)]) (by kernel_rfl) ?_
  refine stp (x := ("book" : Str)) (w10 x1 hx1 x3 hx3) ?_
  refine stp (x := [("book" : Str), ("book" : Str), ("book" : Str)]) (by kernel_rfl) ?_
  refine stp (x := ("book" : Str)) (w11 x1 hx1 x3 hx3) ?_
  refine stp (x := [("book" : Str), ("book" : Str), ("book" : Str), ("book" : Str)]) (by kernel_rfl) ?_
  rfl
theorem c3 (x2 : D) (hx2 : x2 ∈ Lt2) (x3 : D) (hx3 : x3 ∈ Lt3) : T__law_seconds (D.obj "Book" [] [((mP (mP4 mI mI mI mI) (mP4 mI mI mI mI)) (((0 : Int), (1 : Int), (2 : Int), (3 : Int)), ((1 : Int), (0 : Int), (3 : Int), (2 : Int)))), (mI (4 : Int))]) x2 x3 = some [("lot" : Str), ("lot" : Str), ("axis" : Str), ("axis" : Str)] := by
  unfold T__law_seconds
  refine stp (x := ("lot" : Str)) (w12 x2 hx2) ?_
  refine stp (x := ("lot" : Str)) (w13 x2 hx2) ?_
  refine stp (x := [("lot" : Str), ("lot" : Str)]) (by kernel_rfl) ?_
  refine stp (x := ("axis" : Str)) (w14 x3 hx3) ?_
  refine stp (x := [("lot" : Str), ("lot" : Str), ("axis" : Str)]) (by kernel_rfl) ?_
  refine stp (x := ("axis" : Str)) (w15 x3 hx3) ?_
  refine stp (x := [("lot" : Str), ("lot" : Str), ("axis" : Str), ("axis" : Str)]) (by kernel_rfl) ?_
  rfl
theorem c4 : T__law_firsts (D.obj "Book" [] [((mP (mP4 mI mI mI mI) (mP4 mI mI mI mI)) (((0 : Int), (1 : Int), (2 : Int), (3 : Int)), ((1 : Int), (0 : Int), (3 : Int), (2 : Int)))), (mI (4 : Int))]) = some [("fine" : Str), ("fine" : Str), ("fine" : Str), ("fine" : Str), ("fine" : Str), ("fine" : Str), ("fine" : Str), ("fine" : Str)] := by
  unfold T__law_firsts
  refine stp (x := ("fine" : Str)) (w16) ?_
  refine stp (x := ("fine" : Str)) (w17) ?_
  refine stp (x := [("fine" : Str), ("fine" : Str)]) (by kernel_rfl) ?_
  refine stp (x := ("fine" : Str)) (w18) ?_
  refine stp (x := [("fine" : Str), ("fine" : Str), ("fine" : Str)]) (by kernel_rfl) ?_
  refine stp (x := ("fine" : Str)) (w19) ?_
  refine stp (x := [("fine" : Str), ("fine" : Str), ("fine" : Str), ("fine" : Str)]) (by kernel_rfl) ?_
  refine stp (x := ("fine" : Str)) (w20) ?_
  refine stp (x := [("fine" : Str), ("fine" : Str), ("fine" : Str), ("fine" : Str), ("fine" : Str)]) (by kernel_rfl) ?_
  refine stp (x := ("fine" : Str)) (w21) ?_
  refine stp (x := [("fine" : Str), ("fine" : Str), ("fine" : Str), ("fine" : Str), ("fine" : Str), ("fine" : Str)]) (by kernel_rfl) ?_
  refine stp (x := ("fine" : Str)) (w22) ?_
  refine stp (x := [("fine" : Str), ("fine" : Str), ("fine" : Str), ("fine" : Str), ("fine" : Str), ("fine" : Str), ("fine" : Str)]) (by kernel_rfl) ?_
  refine stp (x := ("fine" : Str)) (w23) ?_
  refine stp (x := [("fine" : Str), ("fine" : Str), ("fine" : Str), ("fine" : Str), ("fine" : Str), ("fine" : Str), ("fine" : Str), ("fine" : Str)]) (by kernel_rfl) ?_
  rfl
theorem c5 : T__law_seconds (D.obj "Book" [] [((mP (mP4 mI mI mI mI) (mP4 mI mI mI mI)) (((0 : Int), (1 : Int), (2 : Int), (3 : Int)), ((1 : Int), (0 : Int), (3 : Int), (2 : Int)))), (mI (4 : Int))]) ((mP mI mI) ((0 : Int), (3 : Int))) ((mT mI) ([] : List Int)) = some [("fine" : Str), ("fine" : Str), ("fine" : Str), ("fine" : Str)] := by
  unfold T__law_seconds
  refine stp (x := ("fine" : Str)) (w24) ?_
  refine stp (x := ("fine" : Str)) (w25) ?_
  refine stp (x := [("fine" : Str), ("fine" : Str)]) (by kernel_rfl) ?_
  refine stp (x := ("fine" : Str)) (w26) ?_
  refine stp (x := [("fine" : Str), ("fine" : Str), ("fine" : Str)]) (by kernel_rfl) ?_
  refine stp (x := ("fine" : Str)) (w27) ?_
  refine stp (x := [("fine" : Str), ("fine" : Str), ("fine" : Str), ("fine" : Str)]) (by kernel_rfl) ?_
  rfl
theorem c6 : T__law_seconds (D.obj "Book" [] [((mP (mP4 mI mI mI mI) (mP4 mI mI mI mI)) (((0 : Int), (1 : Int), (2 : Int), (3 : Int)), ((1 : Int), (0 : Int), (3 : Int), (2 : Int)))), (mI (4 : Int))]) ((mT mI) [(2 : Int)]) ((mP4 mI mI mI mI) ((3 : Int), (1 : Int), (0 : Int), (2 : Int))) = some [("fine" : Str), ("fine" : Str), ("fine" : Str), ("fine" : Str)] := by
  unfold T__law_seconds
  refine stp (x := ("fine" : Str)) (w28) ?_
  refine stp (x := ("fine" : Str)) (w29) ?_
  refine stp (x := [("fine" : Str), ("fine" : Str)]) (by kernel_rfl) ?_
  refine stp (x := ("fine" : Str)) (w30) ?_
  refine stp (x := [("fine" : Str), ("fine" : Str), ("fine" : Str)]) (by kernel_rfl) ?_
  refine stp (x := ("fine" : Str)) (w31) ?_
  refine stp (x := [("fine" : Str), ("fine" : Str), ("fine" : Str), ("fine" : Str)]) (by kernel_rfl) ?_
  rfl
theorem c7 (x1 : D) (hx1 : x1 ∈ Lt1) (x2 : D) (hx2 : x2 ∈ Lt2) (x3 : D) (hx3 : x3 ∈ Lt3) (x4 : D) (hx4 : x4 ∈ Lt4) (x5 : D) (hx5 : x5 ∈ Lt5) : T__law_right_t1 (D.obj "Book" [] [((mP (mP4 mI mI mI mI) (mP4 mI mI mI mI)) (((0 : Int), (1 : Int), (2 : Int), (3 : Int)), ((1 : Int), (0 : Int), (3 : Int), (2 : Int)))), (mI (4 : Int))]) x1 x2 x3 x4 x5 = some true := by
  unfold T__law_right_t1
  refine stp (x := [("book" : Str), ("book" : Str), ("book" : Str), ("book" : Str), ("book" : Str), ("book" : Str), ("book" : Str), ("book" : Str)]) (c1 x1 hx1) ?_
  refine stp (x := [("book" : Str), ("book" : Str), ("book" : Str), ("book" : Str), ("book" : Str), ("book" : Str), ("book" : Str), ("book" : Str)]) (by kernel_rfl) ?_
  refine stp (x := false) (by kernel_rfl) ?_
  refine stp (x := false) (by
      refine if_no ?_
      refine stp (x := [("book" : Str), ("book" : Str), ("book" : Str), ("book" : Str)]) (c2 x1 hx1 x2 hx2 x3 hx3) ?_
      refine stp (x := [("book" : Str), ("book" : Str), ("book" : Str), ("book" : Str)]) (by kernel_rfl) ?_
      refine stp (x := false) (by kernel_rfl) ?_
      refine stp (x := false) (by
          refine if_no ?_
          refine stp (x := [("lot" : Str), ("lot" : Str), ("axis" : Str), ("axis" : Str)]) (c3 x2 hx2 x3 hx3) ?_
          refine stp (x := [("lot" : Str), ("lot" : Str)]) (by kernel_rfl) ?_
          refine stp (x := [("axis" : Str), ("axis" : Str)]) (by kernel_rfl) ?_
          refine stp (x := [("lot" : Str), ("lot" : Str), ("axis" : Str), ("axis" : Str)]) (by kernel_rfl) ?_
          refine stp (x := false) (by kernel_rfl) ?_
          rfl) ?_
      rfl) ?_
  refine if_no ?_
  refine stp (x := [("fine" : Str), ("fine" : Str), ("fine" : Str), ("fine" : Str), ("fine" : Str), ("fine" : Str), ("fine" : Str), ("fine" : Str)]) (c4) ?_
  refine stp (x := [("fine" : Str), ("fine" : Str), ("fine" : Str), ("fine" : Str), ("fine" : Str), ("fine" : Str), ("fine" : Str), ("fine" : Str)]) (by kernel_rfl) ?_
  refine stp (x := false) (by kernel_rfl) ?_
  refine stp (x := false) (by
      refine if_no ?_
      refine stp (x := [("fine" : Str), ("fine" : Str), ("fine" : Str), ("fine" : Str)]) (c5) ?_
      refine stp (x := [("fine" : Str), ("fine" : Str), ("fine" : Str), ("fine" : Str)]) (by kernel_rfl) ?_
      refine stp (x := false) (by kernel_rfl) ?_
      refine stp (x := false) (by
          refine if_no ?_
          refine stp (x := [("fine" : Str), ("fine" : Str), ("fine" : Str), ("fine" : Str)]) (c6) ?_
          refine stp (x := [("fine" : Str), ("fine" : Str), ("fine" : Str), ("fine" : Str)]) (by kernel_rfl) ?_
          refine stp (x := false) (by kernel_rfl) ?_
          rfl) ?_
      rfl) ?_
  refine if_no ?_
  refine stp (x := ("book" : Str)) (w32 x1 hx1 x4 hx4 x5 hx5) ?_
  refine stp (x := (toldnumber x4)) (w33 x4 hx4 x5 hx5) ?_
  refine stp (x := [("book" : Str), (toldnumber x4)]) (by kernel_rfl) ?_
  refine stp (x := (toldnumber x5)) (w34 x5 hx5) ?_
  refine stp (x := [("book" : Str), (toldnumber x4), (toldnumber x5)]) (by kernel_rfl) ?_
  refine stp (x := ("operation" : Str)) (w35) ?_
  refine stp (x := [("book" : Str), (toldnumber x4), (toldnumber x5), ("operation" : Str)]) (by kernel_rfl) ?_
  refine stp (x := ("fine" : Str)) (w36) ?_
  refine stp (x := [("book" : Str), (toldnumber x4), (toldnumber x5), ("operation" : Str), ("fine" : Str)]) (by kernel_rfl) ?_
  refine stp (x := (shownD x4)) (tell1 (ok_Lt4 x4 hx4)) ?_
  refine stp (x := (toldnumber x4)) (tell_number_Lt4 x4 hx4) ?_
  refine stp (x := (shownD x5)) (tell1 (ok_Lt5 x5 hx5)) ?_
  refine stp (x := (toldnumber x5)) (tell_number_Lt5 x5 hx5) ?_
  refine stp (x := true) (Eq.trans (by kernel_rfl) (blQ_eqS [("book" : Str), (toldnumber x4), (toldnumber x5), ("operation" : Str), ("fine" : Str)] (allS_cons (by kernel_rfl) (allS_cons (st_number_Lt4 x4 hx4) (allS_cons (st_number_Lt5 x5 hx5) (allS_cons (by kernel_rfl) (allS_cons (by kernel_rfl) allS_nil))))))) ?_
  rfl
theorem one_ok {items : List D} {b : List Int} (hne : items ≠ []) (hl : items.length ≤ 1000000) (hb : OkB b) : ∃ x b', T__law_one_of b items = some (x, b') ∧ x ∈ items ∧ OkB b' := one_of_ok draw_ok hne hl hb
theorem right_ok {b0 : List Int} (hb : OkB b0) : ∃ b', T__law_right b0 = some (true, b') ∧ OkB b' := by
  obtain ⟨x1, b1, ex1, hx1, k1⟩ := one_ok (items := Lt1) (by simp) (by decide) hb
  obtain ⟨x2, b2, ex2, hx2, k2⟩ := one_ok (items := Lt2) (by simp) (by decide) k1
  obtain ⟨x3, b3, ex3, hx3, k3⟩ := one_ok (items := Lt3) (by simp) (by decide) k2
  obtain ⟨x4, b4, ex4, hx4, k4⟩ := one_ok (items := Lt4) (by simp) (by decide) k3
  obtain ⟨x5, b5, ex5, hx5, k5⟩ := one_ok (items := Lt5) (by simp) (by decide) k4
  refine ⟨b5, ?_, k5⟩
  unfold T__law_right
  refine stp (x := (D.obj "Book" [] [((mP (mP4 mI mI mI mI) (mP4 mI mI mI mI)) (((0 : Int), (1 : Int), (2 : Int), (3 : Int)), ((1 : Int), (0 : Int), (3 : Int), (2 : Int)))), (mI (4 : Int))])) (by kernel_rfl) ?_
  refine stp ex1 ?_
  refine stp ex2 ?_
  refine stp ex3 ?_
  refine stp ex4 ?_
  refine stp ex5 ?_
  refine mp (x := true) (c7 x1 hx1 x2 hx2 x3 hx3 x4 hx4 x5 hx5) ?_
  rfl
theorem law_ok (ns : List Int) (hn : ns.length ≤ 63) : T_law ns = some true := by
  obtain ⟨k1, k2⟩ := cells_ok (n := (ns.length : Int)) (c := 4) (by omega) (by decide) (by decide)
  have e0 : rngQ 0 (if (if (ns.length : Int) < (4 : Int) then (ns.length : Int) else (4 : Int)) > (1 : Int) then (if (ns.length : Int) < (4 : Int) then (ns.length : Int) else (4 : Int)) else (1 : Int)) = some _ := rngQ_ok (by decide) (by decide) (by omega) (by omega) (by omega)
  unfold T_law
  rw [e0, Option.bind_some]
  have e1 := foldR_go (R := Bool) (f := fun (s_2 : Unit) at_3 => ((T__law_bag ns at_3).bind fun r_4 => ((lcS (fun turn_6 (s_5 : ((List Int))) => ((T__law_right s_5 ).bind fun r_7 => (some ((!r_7.1), r_7.2)))) (fun turn_6 s_5 => (some ((1 : Int), s_5))) (rgF 0 (4 : Int)) r_4).bind fun lc_8 => (if (!decide (lc_8.1 = ([] : List Int))) then (some (.out false)) else (some (.go ())))))) (Inv := fun _ => True) (rgF 0 (if (if (ns.length : Int) < (4 : Int) then (ns.length : Int) else (4 : Int)) > (1 : Int) then (if (ns.length : Int) < (4 : Int) then (ns.length : Int) else (4 : Int)) else (1 : Int))) () (fun a ha s _ => by
    obtain ⟨b, eb, hb⟩ := bag_ok ns a (mem_rgF.mp ha).1
    obtain ⟨b', el, _⟩ := lcS_none (p := fun (turn_6 : Int) (s_5 : ((List Int))) => ((T__law_right s_5 ).bind fun r_7 => (some ((!r_7.1), r_7.2)))) (h := fun turn_6 s_5 => (some ((1 : Int), s_5))) (Ok := OkB) (fun x s hs => by
      obtain ⟨b', e, h⟩ := right_ok hs
      exact ⟨b', by simp only [e, Option.bind_some, Bool.not_true], h⟩) (rgF 0 (4 : Int)) b hb
    exact ⟨(), by simp only [eb, Option.bind_some, el]; rfl, trivial⟩) trivial
  obtain ⟨⟨⟩, e1, _⟩ := e1
  rw [e1, Option.bind_some]
  kernel_rfl
theorem fact : ∀ ns : List Int, ns.length ≤ 63 → F_law [.im (.lst (ns.map D.int))] = some (.im (.bl true), []) := fun ns hn =>
  (t_law ns (wfs_cons (wf_lst.mpr ⟨by rw [List.length_map]; omega, wfs_ints ns⟩) wfs_nil) true (law_ok ns hn)).1
end K17
open PySem PySem.W PySem.Calls PyProof.Rows in
theorem PySem.Challenge.cw_oneaxis_k17_errors_of_axes_holds : PySem.Challenge.rw_oneaxis_k17_errors_of_axes.Holds := by
  w_on; o_law
  refine HandSHeadRun.head_any (r := OpenLaw.row PySem.Challenge.rw_oneaxis_k17_errors_of_axes) (q := view (OpenLaw.row PySem.Challenge.rw_oneaxis_k17_errors_of_axes).prog [77]) (H := K17.hk) (ob := K17.ob) (M := 12000) (loose := K17.loose) (d := HandSHeadRun.topDef (OpenLaw.row PySem.Challenge.rw_oneaxis_k17_errors_of_axes).prog 77) (kwd := []) K17.ob_eq
    (by kernel_rfl) (fun s => by kernel_rfl) K17.run (by kernel_rfl) (by kernel_rfl) (by kernel_rfl) (by rfl) (by first | assumption | decide +kernel) (by decide +kernel) ⟨rfl, rfl, rfl, rfl, rfl, by decide +kernel⟩ ?hw ?hc
  case hw => w_witness2
  case hc =>
    refine Dv.walkGT (l := PySem.Challenge.rw_oneaxis_k17_errors_of_axes) (n := 63) (k := 14) (x := "script") rfl (by decide) (by kernel_rfl) ⟨rfl, by decide, by decide⟩ ?F
    intro w mg fa h Y G hmg0
    obtain ⟨K, KX, c⟩ := Y
    have hmg : mg ("law" : PySem.Str) = some (.ref fa) := by
      have e : (HandSHeadRun.topDef (OpenLaw.row PySem.Challenge.rw_oneaxis_k17_errors_of_axes).prog 77).name = ("law" : PySem.Str) := by kernel_rfl
      rw [← e]
      exact hmg0
    obtain ⟨Z, hcs⟩ := K17.facts KX G c
    have ef := hmg.symm.trans Z.g_law
    cases ef
    have nd0 : (((K17.tf.map (He.cT K)).map (·.2)).Nodup) := by
      have m := c.more
      unfold K17.exB at m
      simp only [Bool.and_eq_true, decide_eq_true_eq] at m
      exact m.2.2.2.2.2
    have hnd : (([(Z.P__law_firsts, (("_law_firsts" : Str) ++ ".<locals>.") ++ "<lambda>"), (Z.P__law_seconds, (("_law_seconds" : Str) ++ ".<locals>.") ++ "<lambda>"), (Z.P__law_right, (("_law_right" : Str) ++ ".<locals>.") ++ "<lambda>")] : List (PySem.Addr × PySem.Str)).map (·.1)).Nodup := by
      show (([(Z.c__law_firsts, Z.P__law_firsts), (Z.c__law_seconds, Z.P__law_seconds), (Z.c__law_right, Z.P__law_right)] : List (PySem.Addr × PySem.Addr)).map (·.2)).Nodup
      rw [hcs]
      exact nd0
    refine ⟨K, Z.d_law, K17.F_law, [(Z.P__law_firsts, (("_law_firsts" : Str) ++ ".<locals>.") ++ "<lambda>"), (Z.P__law_seconds, (("_law_seconds" : Str) ++ ".<locals>.") ++ "<lambda>"), (Z.P__law_right, (("_law_right" : Str) ++ ".<locals>.") ++ "<lambda>")], [(Z.c__law_firsts, Z.P__law_firsts), (Z.c__law_seconds, Z.P__law_seconds), (Z.c__law_right, Z.P__law_right)], KX, ?_, ?_, ?_, ?_, fun s u => L2.FunD.bindsA (ps := ["script"]) Z.F_law (fun _ _ _ _ _ _ us hl => match us, hl with | [_], _ => rfl) s [u] rfl, K17.fact, fun base _ _ TBs => @K17.ok_law (Dv.Tbl.mk [(Z.P__law_firsts, (("_law_firsts" : Str) ++ ".<locals>.") ++ "<lambda>"), (Z.P__law_seconds, (("_law_seconds" : Str) ++ ".<locals>.") ++ "<lambda>"), (Z.P__law_right, (("_law_right" : Str) ++ ".<locals>.") ++ "<lambda>")]) w K mg base Z (@K17.TB.mk (Dv.Tbl.mk [(Z.P__law_firsts, (("_law_firsts" : Str) ++ ".<locals>.") ++ "<lambda>"), (Z.P__law_seconds, (("_law_seconds" : Str) ++ ".<locals>.") ++ "<lambda>"), (Z.P__law_right, (("_law_right" : Str) ++ ".<locals>.") ++ "<lambda>")]) K mg Z base (TBs (Z.c__law_firsts, Z.P__law_firsts) (List.mem_cons_self)) (List.mem_cons_self) (Dv.tab_uniq hnd (List.mem_cons_self)) (TBs (Z.c__law_seconds, Z.P__law_seconds) (List.mem_cons_of_mem _ (List.mem_cons_self))) (List.mem_cons_of_mem _ (List.mem_cons_self)) (Dv.tab_uniq hnd (List.mem_cons_of_mem _ (List.mem_cons_self))) (TBs (Z.c__law_right, Z.P__law_right) (List.mem_cons_of_mem _ (List.mem_cons_of_mem _ (List.mem_cons_self)))) (List.mem_cons_of_mem _ (List.mem_cons_of_mem _ (List.mem_cons_self))) (Dv.tab_uniq hnd (List.mem_cons_of_mem _ (List.mem_cons_of_mem _ (List.mem_cons_self)))))⟩
    · rw [hcs]
      intro p hp
      obtain ⟨q, hq, rfl⟩ := List.mem_map.mp hp
      exact c.empty q hq
    · rw [hcs]
      intro p hp
      obtain ⟨q, hq, rfl⟩ := List.mem_map.mp hp
      exact c.out q hq
    · rw [hcs]
      intro p hp
      obtain ⟨q, hq, rfl⟩ := List.mem_map.mp hp
      exact c.hd q hq
    · intro q hq
      have e1 : q.1 ∈ (([(Z.P__law_firsts, (("_law_firsts" : Str) ++ ".<locals>.") ++ "<lambda>"), (Z.P__law_seconds, (("_law_seconds" : Str) ++ ".<locals>.") ++ "<lambda>"), (Z.P__law_right, (("_law_right" : Str) ++ ".<locals>.") ++ "<lambda>")] : List (PySem.Addr × PySem.Str)).map (·.1)) := List.mem_map.mpr ⟨q, hq, rfl⟩
      have e : q.1 ∈ (([(Z.c__law_firsts, Z.P__law_firsts), (Z.c__law_seconds, Z.P__law_seconds), (Z.c__law_right, Z.P__law_right)] : List (PySem.Addr × PySem.Addr)).map (·.2)) := e1
      obtain ⟨p, hp, e2⟩ := List.mem_map.mp e
      exact ⟨p, hp, e2.symm⟩
