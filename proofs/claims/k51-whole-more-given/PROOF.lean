import PyProof.Rows.All
import Wide.All
import OpenK.AllK
import Wide.FinOn
import KE.KStateDown
import HandS.ForMost
import HandS.Walk
import HandS.More
import HandS.Exc
import HandS.WordsExc
import HandS.Defaults
import HandS.HeadEnd
import HandS.HeadHook4
import HandS.Head2
import HandS.IsInst
import HandS.Style
import HandS.Zip
import HandS.Flow
import HandS.Deep
import HandS.TupAny
import KE.KDictPairs
import HandS.NoneIn
import KE.GoesNew
import KE.KDictKeyed
import KE.SortData
import KE.GoesEnumKw
import HandS.Small
import PySem.Challenge.RW_tiekeep_k51_whole_more_given
set_option Elab.async false
set_option linter.all false
set_option maxRecDepth 100000
set_option maxHeartbeats 0
namespace Tk
open PySem PySem.Spec PyProof.Rows L2
def top (i : Nat) : Stmt := PySem.Challenge.pw_tiekeep_k51_whole_more_given.main.body.getD i (.Pass ⟨0, 0, 0, 0⟩)
abbrev sIsOf : Stmt := top 7
abbrev sIsName : Stmt := top 8
abbrev sIsRising : Stmt := top 9
abbrev sIsColumns : Stmt := top 14
abbrev sIsTie : Stmt := top 15
abbrev sIsScheme : Stmt := top 16
abbrev sNeedScheme : Stmt := top 17
abbrev sHasWord : Stmt := top 24
abbrev sRowVars : Stmt := top 25
abbrev sKindOfTies : Stmt := top 26
abbrev sIsAtomic : Stmt := top 27
abbrev sIsBody : Stmt := top 28
abbrev sFlatOf : Stmt := top 29
abbrev sNeedFlat : Stmt := top 30
abbrev sOwnReach : Stmt := top 31
abbrev sOwnStandard : Stmt := top 32
abbrev sAllSizes : Stmt := top 36
abbrev sChoicesOf : Stmt := top 37
abbrev sFInit : Stmt := inClass (top 38) 0
abbrev sFOpened : Stmt := inClass (top 38) 1
abbrev sFRowOf : Stmt := inClass (top 38) 2
abbrev sFSureness : Stmt := inClass (top 38) 3
abbrev sFOpenRow : Stmt := inClass (top 38) 4
abbrev sFLooked : Stmt := inClass (top 38) 5
abbrev sFWorldSo : Stmt := inClass (top 38) 6
abbrev sFFound : Stmt := inClass (top 38) 7
abbrev sNeedGoal : Stmt := top 39
abbrev sOwnEntail : Stmt := top 40
abbrev sEntail : Stmt := top 41
abbrev sLBegun : Stmt := top 43
abbrev sLDraw : Stmt := top 44
abbrev sLOf : Stmt := top 45
abbrev sLWords : Stmt := top 46
abbrev sLScheme : Stmt := top 47
abbrev sLRowOf : Stmt := top 48
abbrev sLAtomic : Stmt := top 49
abbrev sLBody : Stmt := top 50
abbrev sLFlatOver : Stmt := top 51
abbrev sLFlat : Stmt := top 52
abbrev sLVarsOf : Stmt := top 53
abbrev sLInnerOf : Stmt := top 54
abbrev sLShows : Stmt := top 55
abbrev sLMoreRight : Stmt := top 56
abbrev sLCutRight : Stmt := top 57
abbrev sLaw : Stmt := top 58
end Tk
namespace Tk
open PySem PySem.Spec PyProof.Rows L2
def dIsOf : He.DefD := ⟨("is_of", none), "is_of", "is_of", defArgs sIsOf, defBody sIsOf, defScope sIsOf, [], []⟩
def dIsName : He.DefD := ⟨("is_name", none), "is_name", "is_name", defArgs sIsName, defBody sIsName, defScope sIsName, [], []⟩
def dIsRising : He.DefD := ⟨("is_rising", none), "is_rising", "is_rising", defArgs sIsRising, defBody sIsRising, defScope sIsRising, [], []⟩
def dIsColumns : He.DefD := ⟨("is_columns", none), "is_columns", "is_columns", defArgs sIsColumns, defBody sIsColumns, defScope sIsColumns, [], []⟩
def dIsTie : He.DefD := ⟨("is_tie", none), "is_tie", "is_tie", defArgs sIsTie, defBody sIsTie, defScope sIsTie, [], []⟩
def dIsScheme : He.DefD := ⟨("is_scheme", none), "is_scheme", "is_scheme", defArgs sIsScheme, defBody sIsScheme, defScope sIsScheme, [], []⟩
def dNeedScheme : He.DefD := ⟨("need_scheme", none), "need_scheme", "need_scheme", defArgs sNeedScheme, defBody sNeedScheme, defScope sNeedScheme, [], []⟩
def dHasWord : He.DefD := ⟨("has_word", none), "has_word", "has_word", defArgs sHasWord, defBody sHasWord, defScope sHasWord, [], []⟩
def dRowVars : He.DefD := ⟨("row_vars", none), "row_vars", "row_vars", defArgs sRowVars, defBody sRowVars, defScope sRowVars, [], []⟩
def dKindOfTies : He.DefD := ⟨("kind_of_ties", none), "kind_of_ties", "kind_of_ties", defArgs sKindOfTies, defBody sKindOfTies, defScope sKindOfTies, [], []⟩
def dIsAtomic : He.DefD := ⟨("is_atomic", none), "is_atomic", "is_atomic", defArgs sIsAtomic, defBody sIsAtomic, defScope sIsAtomic, [], []⟩
def dIsBody : He.DefD := ⟨("is_body", none), "is_body", "is_body", defArgs sIsBody, defBody sIsBody, defScope sIsBody, [], []⟩
def dFlatOf : He.DefD := ⟨("flat_of", none), "flat_of", "flat_of", defArgs sFlatOf, defBody sFlatOf, defScope sFlatOf, [], []⟩
def dNeedFlat : He.DefD := ⟨("need_flat", none), "need_flat", "need_flat", defArgs sNeedFlat, defBody sNeedFlat, defScope sNeedFlat, [], []⟩
def dOwnReach : He.DefD := ⟨("own_reach", none), "own_reach", "own_reach", defArgs sOwnReach, defBody sOwnReach, defScope sOwnReach, [], []⟩
def dOwnStandard : He.DefD := ⟨("own_standard", none), "own_standard", "own_standard", defArgs sOwnStandard, defBody sOwnStandard, defScope sOwnStandard, [], []⟩
def dAllSizes : He.DefD := ⟨("all_sizes", none), "all_sizes", "all_sizes", defArgs sAllSizes, defBody sAllSizes, defScope sAllSizes, [], []⟩
def dChoicesOf : He.DefD := ⟨("choices_of", none), "choices_of", "choices_of", defArgs sChoicesOf, defBody sChoicesOf, defScope sChoicesOf, [], []⟩
def dFInit : He.DefD := ⟨("FlatFinding", some "__init__"), "__init__", "FlatFinding.__init__", defArgs sFInit, defBody sFInit, defScope sFInit, [], []⟩
def dFOpened : He.DefD := ⟨("FlatFinding", some "opened"), "opened", "FlatFinding.opened", defArgs sFOpened, defBody sFOpened, defScope sFOpened, [], []⟩
def dFRowOf : He.DefD := ⟨("FlatFinding", some "row_of"), "row_of", "FlatFinding.row_of", defArgs sFRowOf, defBody sFRowOf, defScope sFRowOf, [], []⟩
def dFSureness : He.DefD := ⟨("FlatFinding", some "sureness"), "sureness", "FlatFinding.sureness", defArgs sFSureness, defBody sFSureness, defScope sFSureness, [], []⟩
def dFOpenRow : He.DefD := ⟨("FlatFinding", some "open_row"), "open_row", "FlatFinding.open_row", defArgs sFOpenRow, defBody sFOpenRow, defScope sFOpenRow, [], []⟩
def dFLooked : He.DefD := ⟨("FlatFinding", some "looked"), "looked", "FlatFinding.looked", defArgs sFLooked, defBody sFLooked, defScope sFLooked, [], []⟩
def dFWorldSo : He.DefD := ⟨("FlatFinding", some "world_so"), "world_so", "FlatFinding.world_so", defArgs sFWorldSo, defBody sFWorldSo, defScope sFWorldSo, [], []⟩
def dFFound : He.DefD := ⟨("FlatFinding", some "found"), "found", "FlatFinding.found", defArgs sFFound, defBody sFFound, defScope sFFound, [], []⟩
def dNeedGoal : He.DefD := ⟨("need_goal", none), "need_goal", "need_goal", defArgs sNeedGoal, defBody sNeedGoal, defScope sNeedGoal, [], []⟩
def dOwnEntail : He.DefD := ⟨("own_entail", none), "own_entail", "own_entail", defArgs sOwnEntail, defBody sOwnEntail, defScope sOwnEntail, [], []⟩
def dEntail : He.DefD := ⟨("entail", none), "entail", "entail", defArgs sEntail, defBody sEntail, defScope sEntail, [], []⟩
def dLBegun : He.DefD := ⟨("_law_begun", none), "_law_begun", "_law_begun", defArgs sLBegun, defBody sLBegun, defScope sLBegun, [], []⟩
def dLDraw : He.DefD := ⟨("_law_draw", none), "_law_draw", "_law_draw", defArgs sLDraw, defBody sLDraw, defScope sLDraw, [], []⟩
def dLOf : He.DefD := ⟨("_law_of", none), "_law_of", "_law_of", defArgs sLOf, defBody sLOf, defScope sLOf, [], []⟩
def dLWords : He.DefD := ⟨("_law_words", none), "_law_words", "_law_words", defArgs sLWords, defBody sLWords, defScope sLWords, [], []⟩
def dLScheme : He.DefD := ⟨("_law_scheme", none), "_law_scheme", "_law_scheme", defArgs sLScheme, defBody sLScheme, defScope sLScheme, [], []⟩
def dLRowOf : He.DefD := ⟨("_law_row_of", none), "_law_row_of", "_law_row_of", defArgs sLRowOf, defBody sLRowOf, defScope sLRowOf, [], []⟩
def dLAtomic : He.DefD := ⟨("_law_atomic", none), "_law_atomic", "_law_atomic", defArgs sLAtomic, defBody sLAtomic, defScope sLAtomic, [], []⟩
def dLBody : He.DefD := ⟨("_law_body", none), "_law_body", "_law_body", defArgs sLBody, defBody sLBody, defScope sLBody, [], []⟩
def dLFlatOver : He.DefD := ⟨("_law_flat_over", none), "_law_flat_over", "_law_flat_over", defArgs sLFlatOver, defBody sLFlatOver, defScope sLFlatOver, [], []⟩
def dLFlat : He.DefD := ⟨("_law_flat", none), "_law_flat", "_law_flat", defArgs sLFlat, defBody sLFlat, defScope sLFlat, [], []⟩
def dLVarsOf : He.DefD := ⟨("_law_vars_of", none), "_law_vars_of", "_law_vars_of", defArgs sLVarsOf, defBody sLVarsOf, defScope sLVarsOf, [], []⟩
def dLInnerOf : He.DefD := ⟨("_law_inner_of", none), "_law_inner_of", "_law_inner_of", defArgs sLInnerOf, defBody sLInnerOf, defScope sLInnerOf, [], []⟩
def dLShows : He.DefD := ⟨("_law_shows", none), "_law_shows", "_law_shows", defArgs sLShows, defBody sLShows, defScope sLShows, [], []⟩
def dLMoreRight : He.DefD := ⟨("_law_more_right", none), "_law_more_right", "_law_more_right", defArgs sLMoreRight, defBody sLMoreRight, defScope sLMoreRight, [], []⟩
def dLCutRight : He.DefD := ⟨("_law_cut_right", none), "_law_cut_right", "_law_cut_right", defArgs sLCutRight, defBody sLCutRight, defScope sLCutRight, [], []⟩
def dLaw : He.DefD := ⟨("law", none), "law", "law", defArgs sLaw, defBody sLaw, defScope sLaw, [], []⟩
def fnL : List He.DefD := [dIsOf, dIsName, dIsRising, dIsColumns, dIsTie, dIsScheme, dNeedScheme, dHasWord, dRowVars, dKindOfTies, dIsAtomic, dIsBody, dFlatOf, dNeedFlat, dOwnReach, dOwnStandard, dAllSizes, dChoicesOf, dFInit, dFOpened, dFRowOf, dFSureness, dFOpenRow, dFLooked, dFWorldSo, dFFound, dNeedGoal, dOwnEntail, dEntail, dLBegun, dLDraw, dLOf, dLWords, dLScheme, dLRowOf, dLAtomic, dLBody, dLFlatOver, dLFlat, dLVarsOf, dLInnerOf, dLShows, dLMoreRight, dLCutRight, dLaw]
def faL0 : List He.Fa := [.glo "is_of", .glo "is_name", .glo "is_rising", .glo "is_columns", .glo "is_tie", .glo "is_scheme", .glo "need_scheme", .glo "has_word", .glo "row_vars", .glo "kind_of_ties", .glo "is_atomic", .glo "is_body", .glo "flat_of", .glo "need_flat", .glo "own_reach", .glo "own_standard", .glo "all_sizes", .glo "choices_of", .glo "need_goal", .glo "own_entail", .glo "entail", .glo "_law_begun", .glo "_law_draw", .glo "_law_of", .glo "_law_words", .glo "_law_scheme", .glo "_law_row_of", .glo "_law_atomic", .glo "_law_body", .glo "_law_flat_over"]
def faL1 : List He.Fa := [.glo "_law_flat", .glo "_law_vars_of", .glo "_law_inner_of", .glo "_law_shows", .glo "_law_more_right", .glo "_law_cut_right", .glo "law", .glo "FlatFinding", .glo "PAIRS", .cls "FlatFinding", .mkr "FlatFinding", .noat "FlatFinding" "own_scheme", .noat "FlatFinding" "own_atoms", .noat "FlatFinding" "flat_rows", .noat "FlatFinding" "last_goal", .noat "FlatFinding" "known_rows", .meth "FlatFinding" "opened", .meth "FlatFinding" "row_of", .meth "FlatFinding" "sureness", .meth "FlatFinding" "open_row", .meth "FlatFinding" "looked", .meth "FlatFinding" "world_so", .meth "FlatFinding" "found", .int "LONGEST" 8, .int "MOST_SORTS" 3, .int "MOST_TIES" 5, .int "MOST_COLUMNS" 3, .int "FEW" 4, .int "SAYINGS" 8, .int "OPEN" 1]
def faL2 : List He.Fa := [.int "SURE" 2, .str "SMALL" "abcdefghijklmnopqrstuvwxyz", .str "SORT_LETTERS" "abc", .str "LATE_LETTERS" "abcdefghi", .free "all", .free "any", .free "dict", .free "enumerate", .free "isinstance", .free "len", .free "list", .free "max", .free "min", .free "range", .free "sorted", .free "str", .free "tuple", .free "zip"]
def faL : List He.Fa := faL0 ++ faL1 ++ faL2
def loose0 : List PySem.Str := ["Refused", "BadScheme", "BadSaying", "SMALL", "LONGEST", "is_of", "is_name", "is_rising", "MOST_SORTS", "MOST_TIES", "MOST_COLUMNS", "is_columns", "is_tie", "is_scheme", "need_scheme", "FEW", "SAYINGS", "SORT_LETTERS", "LATE_LETTERS", "PAIRS", "has_word", "row_vars", "kind_of_ties", "is_atomic", "is_body", "flat_of", "need_flat", "own_reach", "own_standard", "OPEN"]
def loose1 : List PySem.Str := ["SURE", "all_sizes", "choices_of", "FlatFinding", "need_goal", "own_entail", "entail", "_law_begun", "_law_draw", "_law_of", "_law_words", "_law_scheme", "_law_row_of", "_law_atomic", "_law_body", "_law_flat_over", "_law_flat", "_law_vars_of", "_law_inner_of", "_law_shows", "_law_more_right", "_law_cut_right"]
abbrev looseL : List PySem.Str := loose0 ++ loose1
def exL (K : PySem.W.Frag) : Bool := He.tupB K "PAIRS" [.str "and", .str "or", .str "if"]
abbrev R : PySem.W.OpenRow := PySem.W.OpenLaw.row PySem.Challenge.rw_tiekeep_k51_whole_more_given
abbrev hk : PySem.W.Hook := He.hookX 4 faL fnL [] [] exL
def ob (s : PySem.W.SharedT) : He.AlX := He.obsX 4 faL fnL [] [] exL (HandSHeadRun.getT s)
theorem ob_eq (s : PySem.W.SharedT) : ob s = hk.obs s.abs := He.obsX_eq (HandSHeadRun.getT_eq s)
theorem run (w : World) : HandSHeadRun.RunEq R (PySem.W.view R.prog [58]) hk ob 3000 looseL w := by
  intro os
  kernel_rfl
end Tk
namespace Tk
open PySem L2
/-! ### worlds: what is held beside what is known -/
def vw (A : List Addr) (H : Hp) : Hp := fun a => if a ∈ A then none else H a
theorem vw_out {A : List Addr} {H : Hp} {a : Addr} (h : a ∉ A) : vw A H a = H a := if_neg h
theorem vw_in {A : List Addr} {H : Hp} {a : Addr} (h : a ∈ A) : vw A H a = none := if_pos h
theorem vw_le {A : List Addr} {H : Hp} : Same (vw A H) H := fun a o e => by
  by_cases h : a ∈ A
  · rw [vw_in h] at e; cases e
  · rw [vw_out h] at e; exact e
theorem vw_some {A : List Addr} {H : Hp} {a : Addr} {o : HO} (e : vw A H a = some o) : a ∉ A ∧ H a = some o := by
  by_cases h : a ∈ A
  · rw [vw_in h] at e; cases e
  · rw [vw_out h] at e; exact ⟨h, e⟩
structure Wd where
  A : List Addr
  J : Hp → Prop
  tr : ∀ {H : Hp}, J H → ∀ a ∈ A, H a ≠ none
  st : ∀ {H H' : Hp}, J H → (∀ a ∈ A, H' a = H a) → Same (vw A H) (vw A H') → J H'
abbrev Wd.v (W : Wd) (H : Hp) : Hp := vw W.A H
/-- nothing is held -/
def Wd.none : Wd := ⟨[], fun _ => True, (fun _ _ h => nomatch h), fun _ _ _ => trivial⟩
theorem Wd.out {W : Wd} {H : Hp} {p : Addr} (j : W.J H) (hp : H p = Option.none) : p ∉ W.A := fun h => W.tr j p h hp
theorem Wd.alloc {W : Wd} {H : Hp} {p : Addr} (j : W.J H) (hp : H p = Option.none) (o : HO) :
    W.J (upd H p o) ∧ Same (W.v H) (W.v (upd H p o)) ∧ W.v (upd H p o) p = some o := by
  have ho := Wd.out j hp
  have hs : Same (W.v H) (W.v (upd H p o)) := fun a u e => by
    obtain ⟨h1, h2⟩ := vw_some e
    show vw W.A _ a = _
    rw [vw_out h1, upd_ne (ne_of_none h2 hp)]
    exact h2
  refine ⟨W.st j (fun a ha => upd_ne fun e => ho (e ▸ ha)) hs, hs, ?_⟩
  show vw W.A _ p = _
  rw [vw_out ho, upd_same]
/-! ### predicates of values -/
structure Pd where
  h : V → Hp → Prop
  mono : ∀ {v : V} {H H' : Hp}, Same H H' → h v H → h v H'
def isV (v : V) : Pd := ⟨fun x _ => x = v, fun _ h => h⟩
def anyP : Pd := ⟨fun _ _ => True, fun _ h => h⟩
def exP {ι : Type} (φ : ι → Prop) (P : ι → Pd) : Pd := ⟨fun v H => ∃ x, φ x ∧ (P x).h v H, fun e ⟨x, a, b⟩ => ⟨x, a, (P x).mono e b⟩⟩
structure PdAll (Ps : List Pd) (xs : List V) (H : Hp) : Prop where
  len : Ps.length = xs.length
  at_ : ∀ (i : Nat) (P : Pd) (x : V), Ps[i]? = some P → xs[i]? = some x → P.h x H
theorem PdAll.mono {Ps : List Pd} {xs : List V} {H H' : Hp} (e : Same H H') (h : PdAll Ps xs H) : PdAll Ps xs H' := ⟨h.len, fun i P x a b => P.mono e (h.at_ i P x a b)⟩
theorem PdAll.nil {H : Hp} : PdAll [] [] H := ⟨rfl, fun _ _ _ a _ => by simp at a⟩
theorem PdAll.cons {P : Pd} {Ps : List Pd} {x : V} {xs : List V} {H : Hp} (h : P.h x H) (t : PdAll Ps xs H) : PdAll (P :: Ps) (x :: xs) H :=
  ⟨by rw [List.length_cons, List.length_cons, t.len], fun i Q y a b => by
    cases i with
    | zero => simp at a b; rw [← a, ← b]; exact h
    | succ i => simp at a b; exact t.at_ i Q y a b⟩
theorem PdAll.append {Ps Qs : List Pd} {xs ys : List V} {H : Hp} (h : PdAll Ps xs H) (t : PdAll Qs ys H) : PdAll (Ps ++ Qs) (xs ++ ys) H := by
  refine ⟨by rw [List.length_append, List.length_append, h.len, t.len], fun i P x a b => ?_⟩
  by_cases hi : i < Ps.length
  · rw [List.getElem?_append_left hi] at a
    rw [List.getElem?_append_left (h.len ▸ hi)] at b
    exact h.at_ i P x a b
  · have hi' : Ps.length ≤ i := Nat.le_of_not_lt hi
    rw [List.getElem?_append_right hi'] at a
    rw [List.getElem?_append_right (h.len ▸ hi'), ← h.len] at b
    exact t.at_ _ P x a b
theorem PdAll.uncons {P : Pd} {Ps : List Pd} {xs : List V} {H : Hp} (h : PdAll (P :: Ps) xs H) : ∃ x r, xs = x :: r ∧ P.h x H ∧ PdAll Ps r H := by
  cases xs with
  | nil => exact absurd h.len (by simp)
  | cons x r =>
    refine ⟨x, r, rfl, h.at_ 0 P x rfl rfl, ⟨?_, fun i Q y a b => h.at_ (i + 1) Q y (by simpa using a) (by simpa using b)⟩⟩
    have := h.len
    simpa using this
theorem PdAll.unnil {xs : List V} {H : Hp} (h : PdAll [] xs H) : xs = [] := by
  cases xs with
  | nil => rfl
  | cons x r => exact absurd h.len (by simp)
theorem PdAll.get {Ps : List Pd} {xs : List V} {H : Hp} (h : PdAll Ps xs H) {i : Nat} {P : Pd} (e : Ps[i]? = some P) : ∃ x, xs[i]? = some x ∧ P.h x H := by
  obtain ⟨hl, _⟩ := List.getElem?_eq_some_iff.mp e
  have hx : i < xs.length := h.len ▸ hl
  exact ⟨xs[i], List.getElem?_eq_getElem hx, h.at_ i P _ e (List.getElem?_eq_getElem hx)⟩
theorem PdAll.imp {Ps Qs : List Pd} {xs : List V} {H : Hp} (h : PdAll Ps xs H) (hl : Qs.length = Ps.length) (f : ∀ (i : Nat) (P Q : Pd) (x : V), Ps[i]? = some P → Qs[i]? = some Q → P.h x H → Q.h x H) : PdAll Qs xs H := by
  refine ⟨hl.trans h.len, fun i Q x a b => ?_⟩
  have hi : i < Ps.length := by
    obtain ⟨hi, _⟩ := List.getElem?_eq_some_iff.mp a
    omega
  exact f i _ Q x (List.getElem?_eq_getElem hi) a (h.at_ i _ x (List.getElem?_eq_getElem hi) b)
/-! ### data -/
section
variable {K : PySem.W.Frag}
theorem same_rd {H H' : Hp} {a : Addr} {u : HO} (e : Same H H') (h : Rd H a u) : Rd H' a u := by
  rcases h with h | ⟨o, h⟩
  · exact .inl (e a _ h)
  · exact .inr ⟨o, e a _ h⟩
theorem same_t {H H' : Hp} {a : Addr} {xs : List V} (e : Same H H') (h : SqT K H a xs) : SqT K H' a xs := by
  rcases h with h | h
  · exact .inl (same_rd e h)
  · exact .inr h
mutual
theorem dp_mono {H H' : Hp} (e : Same H H') : ∀ (d : PyData) (v : V), Dp K H v d → Dp K H' v d
  | .none, _, .non => .non
  | .bool _, _, .bl b => .bl b
  | .int _, _, .int i => .int i
  | .str _, _, .str x => .str x
  | .list ds, _, .lst hs ha => .lst (e.seq hs) (dpAll_mono e ds _ ha)
  | .tuple ds, _, .tup hs ha => .tup (same_t e hs) (dpAll_mono e ds _ ha)
theorem dpAll_mono {H H' : Hp} (e : Same H H') : ∀ (ds : List PyData) (vs : List V), DpAll K H vs ds → DpAll K H' vs ds
  | [], _, .nil => .nil
  | d :: ds, _, .cons h t => .cons (dp_mono e d _ h) (dpAll_mono e ds _ t)
end
def rep (K : PySem.W.Frag) (d : PyData) : Pd := ⟨fun v H => Dp K H v d, fun e h => dp_mono e d _ h⟩
theorem dp_str {H : Hp} {v : V} {x : Str} (h : Dp K H v (.str x)) : v = .str x := by cases h; rfl
theorem dp_int {H : Hp} {v : V} {x : Int} (h : Dp K H v (.int x)) : v = .int x := by cases h; rfl
theorem dp_bl {H : Hp} {v : V} {x : Bool} (h : Dp K H v (.bool x)) : v = .bl x := by cases h; rfl
theorem dp_non {H : Hp} {v : V} (h : Dp K H v .none) : v = .non := by cases h; rfl
theorem dpAll_of {H : Hp} : ∀ {ds : List PyData} {vs : List V}, DpAll K H vs ds → PdAll (ds.map (rep K)) vs H
  | [], _, .nil => .nil
  | d :: ds, _, .cons h t => .cons h (dpAll_of t)
theorem dpAll_mk {H : Hp} : ∀ {ds : List PyData} {vs : List V}, PdAll (ds.map (rep K)) vs H → DpAll K H vs ds
  | [], vs, h => by rw [h.unnil]; exact .nil
  | d :: ds, vs, h => by
    obtain ⟨x, r, e, h1, h2⟩ := PdAll.uncons h
    subst e
    exact .cons h1 (dpAll_mk h2)
/-- a tuple, a list of such things -/
def tupOf (K : PySem.W.Frag) (Ps : List Pd) : Pd := ⟨fun v H => ∃ a xs, v = .ref a ∧ SqT K H a xs ∧ PdAll Ps xs H, fun e ⟨a, xs, h1, h2, h3⟩ => ⟨a, xs, h1, same_t e h2, h3.mono e⟩⟩
def lstOf (K : PySem.W.Frag) (Ps : List Pd) : Pd := ⟨fun v H => ∃ a xs, v = .ref a ∧ SqL K H a xs ∧ PdAll Ps xs H, fun e ⟨a, xs, h1, h2, h3⟩ => ⟨a, xs, h1, e.seq h2, h3.mono e⟩⟩
theorem tup_of {H : Hp} {v : V} {ds : List PyData} (h : (rep K (.tuple ds)).h v H) : (tupOf K (ds.map (rep K))).h v H := by
  cases h with
  | tup hs ha => exact ⟨_, _, rfl, hs, dpAll_of ha⟩
theorem tup_mk {H : Hp} {v : V} {ds : List PyData} (h : (tupOf K (ds.map (rep K))).h v H) : (rep K (.tuple ds)).h v H := by
  obtain ⟨a, xs, e, hs, ha⟩ := h
  subst e
  exact .tup hs (dpAll_mk ha)
theorem lst_of {H : Hp} {v : V} {ds : List PyData} (h : (rep K (.list ds)).h v H) : (lstOf K (ds.map (rep K))).h v H := by
  cases h with
  | lst hs ha => exact ⟨_, _, rfl, hs, dpAll_of ha⟩
theorem lst_mk {H : Hp} {v : V} {ds : List PyData} (h : (lstOf K (ds.map (rep K))).h v H) : (rep K (.list ds)).h v H := by
  obtain ⟨a, xs, e, hs, ha⟩ := h
  subst e
  exact .lst hs (dpAll_mk ha)
end
/-! ### slots -/
abbrev Ctx := List (Option Pd)
structure EnvR (Γ : Ctx) (σ : L2.St) (H : Hp) : Prop where
  len : Γ.length = σ.length
  at_ : ∀ (i : Nat) (P : Pd), Γ[i]? = some (some P) → ∃ v, σ[i]? = some (some v) ∧ P.h v H
section
variable {Γ Γ' : Ctx} {σ : L2.St} {H H' : Hp}
theorem EnvR.mono (e : Same H H') (h : EnvR Γ σ H) : EnvR Γ σ H' := ⟨h.len, fun i P a => let ⟨v, b, c⟩ := h.at_ i P a; ⟨v, b, P.mono e c⟩⟩
theorem EnvR.set (h : EnvR Γ σ H) (i : Nat) {P : Pd} {v : V} (p : P.h v H) : EnvR (Γ.set i (some P)) (σ.set i (some v)) H := by
  refine ⟨by rw [List.length_set, List.length_set, h.len], fun j Q a => ?_⟩
  by_cases hij : i = j
  · subst hij
    by_cases hi : i < Γ.length
    · rw [List.getElem?_set_self hi] at a
      rw [List.getElem?_set_self (h.len ▸ hi)]
      have e : P = Q := by simpa using a
      exact ⟨v, rfl, e ▸ p⟩
    · rw [List.getElem?_eq_none (by rw [List.length_set]; omega)] at a
      cases a
  · rw [List.getElem?_set_ne hij] at a
    rw [List.getElem?_set_ne hij]
    exact h.at_ j Q a
theorem EnvR.forget (h : EnvR Γ σ H) (i : Nat) (x : Option V) : EnvR (Γ.set i none) (σ.set i x) H := by
  refine ⟨by rw [List.length_set, List.length_set, h.len], fun j Q a => ?_⟩
  by_cases hij : i = j
  · subst hij
    by_cases hi : i < Γ.length
    · rw [List.getElem?_set_self hi] at a; simp at a
    · rw [List.getElem?_eq_none (by rw [List.length_set]; omega)] at a
      cases a
  · rw [List.getElem?_set_ne hij] at a
    rw [List.getElem?_set_ne hij]
    exact h.at_ j Q a
/-- weaker knowledge of slots -/
def Le (Γ Γ' : Ctx) : Prop := Γ'.length = Γ.length ∧ ∀ (i : Nat) (P : Pd), Γ'[i]? = some (some P) → ∃ P0, Γ[i]? = some (some P0) ∧ ∀ v H, P0.h v H → P.h v H
theorem Le.refl (Γ : Ctx) : Le Γ Γ := ⟨rfl, fun i P e => ⟨P, e, fun _ _ h => h⟩⟩
theorem EnvR.le (h : EnvR Γ σ H) (l : Le Γ Γ') : EnvR Γ' σ H := ⟨l.1.trans h.len, fun i P a => by
  obtain ⟨P0, e, f⟩ := l.2 i P a
  obtain ⟨v, b, c⟩ := h.at_ i P0 e
  exact ⟨v, b, f v H c⟩⟩
theorem Le.nil : Le [] [] := Le.refl _
theorem Le.cons {a b : Option Pd} (h : b = none ∨ ∃ P Q, a = some P ∧ b = some Q ∧ ∀ v H, P.h v H → Q.h v H) (t : Le Γ Γ') : Le (a :: Γ) (b :: Γ') := by
  refine ⟨by rw [List.length_cons, List.length_cons, t.1], fun i P e => ?_⟩
  cases i with
  | zero =>
    simp at e
    rcases h with h | ⟨P0, Q, h1, h2, f⟩
    · rw [h] at e; cases e
    · subst h1; rw [h2] at e; cases e
      exact ⟨P0, rfl, f⟩
  | succ i =>
    simp at e
    obtain ⟨P0, e0, f⟩ := t.2 i P e
    exact ⟨P0, by simpa using e0, f⟩
theorem Le.same {a : Option Pd} (t : Le Γ Γ') : Le (a :: Γ) (a :: Γ') := by
  refine Le.cons ?_ t
  cases a with
  | none => exact .inl rfl
  | some P => exact .inr ⟨P, P, rfl, rfl, fun _ _ h => h⟩
theorem Le.drop {a : Option Pd} (t : Le Γ Γ') : Le (a :: Γ) (none :: Γ') := Le.cons (.inl rfl) t
theorem Le.imp {P Q : Pd} (f : ∀ v H, P.h v H → Q.h v H) (t : Le Γ Γ') : Le (some P :: Γ) (some Q :: Γ') := Le.cons (.inr ⟨P, Q, rfl, rfl, f⟩) t
def wipeG (Γ : Ctx) : List Nat → Ctx
  | [] => Γ
  | v :: vs => (wipeG Γ vs).set v none
theorem EnvR.wipe (h : EnvR Γ σ H) : ∀ vs : List Nat, EnvR (wipeG Γ vs) (wipe σ vs) H
  | [] => h
  | v :: vs => (h.wipe vs).forget v none
theorem envR_start {Ps : List Pd} {vs : List V} {N : List Str} {n : Nat} (h : PdAll Ps vs H) (hn : n = N.length - vs.length) : EnvR (Ps.map some ++ List.replicate n none) (L2.start N vs) H := by
  subst hn
  unfold L2.start
  refine ⟨by simp [h.len], fun i P a => ?_⟩
  by_cases hi : i < Ps.length
  · rw [List.getElem?_append_left (by simpa using hi), List.getElem?_map] at a
    rw [List.getElem?_append_left (by rw [List.length_map]; exact h.len ▸ hi), List.getElem?_map]
    have hx : i < vs.length := h.len ▸ hi
    rw [List.getElem?_eq_getElem hi] at a
    have e : Ps[i] = P := by simpa using a
    rw [List.getElem?_eq_getElem hx]
    exact ⟨vs[i], rfl, h.at_ i P _ (by rw [List.getElem?_eq_getElem hi, e]) (List.getElem?_eq_getElem hx)⟩
  · rw [List.getElem?_append_right (by simpa using Nat.le_of_not_lt hi)] at a
    have := List.getElem?_replicate (n := N.length - vs.length) (a := (none : Option Pd)) (i := i - (Ps.map some).length)
    rw [this] at a
    split at a <;> cases a
end
end Tk
namespace Tk
open PySem L2
/-! ### what an expression comes to -/
def TyE (W : Wd) (Γ : Ctx) (te : TE) (P : Pd) : Prop := ∀ (σ : L2.St) (H : Hp) (Q : VK), W.J H → EnvR Γ σ (W.v H) → (∀ v H', W.J H' → Same (W.v H) (W.v H') → P.h v (W.v H') → Q v H') → te σ H Q
/-- a test: its answer is one of φ -/
def TyT (W : Wd) (Γ : Ctx) (tt : TT) (φ : Bool → Prop) : Prop := ∀ (σ : L2.St) (H : Hp) (Q : Bool → Hp → Prop), W.J H → EnvR Γ σ (W.v H) → (∀ b H', φ b → W.J H' → Same (W.v H) (W.v H') → Q b H') → tt σ H Q
def TyA (W : Wd) (Γ : Ctx) (ta : TA) (Ps : List Pd) : Prop := ∀ (σ : L2.St) (H : Hp) (Q : List V → Hp → Prop), W.J H → EnvR Γ σ (W.v H) → (∀ vs H', W.J H' → Same (W.v H) (W.v H') → PdAll Ps vs (W.v H') → Q vs H') → ta σ H Q
def TyO (W : Wd) (Γ : Ctx) (to : TO) (o : Option Int) : Prop := ∀ (σ : L2.St) (H : Hp) (Q : Option Int → Hp → Prop), W.J H → EnvR Γ σ (W.v H) → (∀ H', W.J H' → Same (W.v H) (W.v H') → Q o H') → to σ H Q
def R2T (W : Wd) (r : R2) (P1 P2 P : Pd) : Prop := ∀ (x y : V) (H : Hp) (Q : VK), W.J H → P1.h x (W.v H) → P2.h y (W.v H) → (∀ v H', W.J H' → Same (W.v H) (W.v H') → P.h v (W.v H') → Q v H') → r x y H Q
def R1T (W : Wd) (r : V → Hp → VK → Prop) (P1 P : Pd) : Prop := ∀ (x : V) (H : Hp) (Q : VK), W.J H → P1.h x (W.v H) → (∀ v H', W.J H' → Same (W.v H) (W.v H') → P.h v (W.v H') → Q v H') → r x H Q
def RAT (W : Wd) (r : List V → Hp → VK → Prop) (Ps : List Pd) (P : Pd) : Prop := ∀ (xs : List V) (H : Hp) (Q : VK), W.J H → PdAll Ps xs (W.v H) → (∀ v H', W.J H' → Same (W.v H) (W.v H') → P.h v (W.v H') → Q v H') → r xs H Q
/-- a method by values -/
def RMT (W : Wd) (r : V → List V → Hp → VK → Prop) (P1 : Pd) (Ps : List Pd) (P : Pd) : Prop := ∀ (x : V) (xs : List V) (H : Hp) (Q : VK), W.J H → P1.h x (W.v H) → PdAll Ps xs (W.v H) → (∀ v H', W.J H' → Same (W.v H) (W.v H') → P.h v (W.v H') → Q v H') → r x xs H Q
section
variable {K : PySem.W.Frag} {W : Wd} {Γ Γ' : Ctx} {te ta tb tc : TE} {tt t u : TT} {P P' P1 P2 P3 : Pd} {Ps : List Pd} {tA tr : TA}
theorem TyE.imp (h : TyE W Γ te P) (f : ∀ v H, P.h v H → P'.h v H) : TyE W Γ te P' := fun σ H Q j e q => h σ H Q j e fun v H' a b c => q v H' a b (f _ _ c)
theorem TyE.le (h : TyE W Γ' te P) (l : Le Γ Γ') : TyE W Γ te P := fun σ H Q j e q => h σ H Q j (e.le l) q
theorem TyE.var {i : Nat} (h : Γ[i]? = some (some P)) : TyE W Γ (tVar i) P := fun σ H Q j e q => by
  obtain ⟨v, a, b⟩ := e.at_ i P h
  exact ⟨v, a, q v H j (Same.refl _) b⟩
theorem TyE.c {v : V} (h : ∀ H, P.h v H) : TyE W Γ (tC v) P := fun σ H Q j e q => q v H j (Same.refl _) (h _)
theorem TyE.int {i : Int} : TyE W Γ (tC (.int i)) (rep K (.int i)) := TyE.c fun _ => .int i
theorem TyE.str {i : Str} : TyE W Γ (tC (.str i)) (rep K (.str i)) := TyE.c fun _ => .str i
theorem TyE.bl {i : Bool} : TyE W Γ (tC (.bl i)) (rep K (.bool i)) := TyE.c fun _ => .bl i
theorem TyE.non : TyE W Γ (tC .non) (rep K .none) := TyE.c fun _ => .non
theorem TyE.is {v : V} : TyE W Γ (tC v) (isV v) := TyE.c fun _ => rfl
theorem TyE.op {r : R2} (ha : TyE W Γ ta P1) (hb : TyE W Γ tb P2) (hr : R2T W r P1 P2 P) : TyE W Γ (tOp r ta tb) P := fun σ H Q j e q =>
  ha σ H _ j e fun x H1 j1 s1 p1 => hb σ H1 _ j1 (e.mono s1) fun y H2 j2 s2 p2 => hr x y H2 Q j2 (P1.mono s2 p1) p2 fun v H3 j3 s3 p3 => q v H3 j3 ((s1.trans s2).trans s3) p3
theorem TyE.un {r : V → Hp → VK → Prop} (ha : TyE W Γ ta P1) (hr : R1T W r P1 P) : TyE W Γ (tUn r ta) P := fun σ H Q j e q =>
  ha σ H _ j e fun x H1 j1 s1 p1 => hr x H1 Q j1 p1 fun v H3 j3 s3 p3 => q v H3 j3 (s1.trans s3) p3
theorem R2T.ex1 {ι : Type} {φ : ι → Prop} {F : ι → Pd} {r : R2} (h : ∀ x, φ x → R2T W r (F x) P2 P) : R2T W r (exP φ F) P2 P := fun x y H Q j ⟨z, a, b⟩ p2 q => h z a x y H Q j b p2 q
theorem R2T.ex2 {ι : Type} {φ : ι → Prop} {F : ι → Pd} {r : R2} (h : ∀ x, φ x → R2T W r P1 (F x) P) : R2T W r P1 (exP φ F) P := fun x y H Q j p1 ⟨z, a, b⟩ q => h z a x y H Q j p1 b q
theorem R2T.imp {r : R2} (h : R2T W r P1 P2 P) (f : ∀ v H, P.h v H → P'.h v H) : R2T W r P1 P2 P' := fun x y H Q j p1 p2 q => h x y H Q j p1 p2 fun v H' a b c => q v H' a b (f _ _ c)
theorem R2T.pre {Q1 Q2 : Pd} {r : R2} (h : R2T W r P1 P2 P) (f1 : ∀ v H, Q1.h v H → P1.h v H) (f2 : ∀ v H, Q2.h v H → P2.h v H) : R2T W r Q1 Q2 P := fun x y H Q j p1 p2 q => h x y H Q j (f1 _ _ p1) (f2 _ _ p2) q
theorem R2T.or1 {r r' : R2} (h : R2T W r P1 P2 P) : R2T W (fun x y H Q => r x y H Q ∨ r' x y H Q) P1 P2 P := fun x y H Q j p1 p2 q => .inl (h x y H Q j p1 p2 q)
theorem R2T.or2 {r r' : R2} (h : R2T W r' P1 P2 P) : R2T W (fun x y H Q => r x y H Q ∨ r' x y H Q) P1 P2 P := fun x y H Q j p1 p2 q => .inr (h x y H Q j p1 p2 q)
/-- the value is as it is at once -/
theorem R2T.now {r : R2} (h : ∀ x y H, W.J H → P1.h x (W.v H) → P2.h y (W.v H) → ∃ v, P.h v (W.v H) ∧ ∀ Q : VK, Q v H → r x y H Q) : R2T W r P1 P2 P := fun x y H Q j p1 p2 q => by
  obtain ⟨v, a, b⟩ := h x y H j p1 p2
  exact b Q (q v H j (Same.refl _) a)
theorem TyE.ex {ι : Type} {φ : ι → Prop} {F : ι → Pd} (x : ι) (hx : φ x) (h : TyE W Γ te (F x)) : TyE W Γ te (exP φ F) := h.imp fun v H p => ⟨x, hx, p⟩
/-! ### arguments, tuples, lists -/
theorem TyA.nil : TyA W Γ tNil [] := fun σ H Q j e q => q [] H j (Same.refl _) .nil
theorem TyA.cons (h : TyE W Γ te P) (t : TyA W Γ tr Ps) : TyA W Γ (tCons te tr) (P :: Ps) := fun σ H Q j e q =>
  h σ H _ j e fun x H1 j1 s1 p1 => t σ H1 _ j1 (e.mono s1) fun xs H2 j2 s2 p2 => q _ H2 j2 (s1.trans s2) (.cons (P.mono s2 p1) p2)
theorem TyE.tup (h : TyA W Γ tA Ps) (hl : Ps.length ≤ 1000 := by exact Nat.le_of_ble_eq_true rfl) : TyE W Γ (tTup tA) (tupOf K Ps) := fun σ H Q j e q =>
  h σ H _ j e fun xs H1 j1 s1 p1 => ⟨by rw [← p1.len]; exact Nat.le_of_lt (small1000 hl), fun p hp => by
    obtain ⟨j2, s2, e2⟩ := W.alloc j1 hp (.tup xs)
    exact q _ _ j2 (s1.trans s2) ⟨p, xs, rfl, SqT.of e2, p1.mono s2⟩⟩
theorem TyE.lst (h : TyA W Γ tA Ps) (hl : Ps.length ≤ 1000 := by exact Nat.le_of_ble_eq_true rfl) : TyE W Γ (tLst tA) (lstOf K Ps) := fun σ H Q j e q =>
  h σ H _ j e fun xs H1 j1 s1 p1 => ⟨by rw [← p1.len]; exact Nat.le_of_lt (small1000 hl), fun p hp => by
    obtain ⟨j2, s2, e2⟩ := W.alloc j1 hp (.lst xs)
    exact q _ _ j2 (s1.trans s2) ⟨p, xs, rfl, SqL.of e2, p1.mono s2⟩⟩
theorem TyE.tupD {ds : List PyData} (h : TyA W Γ tA (ds.map (rep K))) (hl : ds.length ≤ 1000 := by exact Nat.le_of_ble_eq_true rfl) : TyE W Γ (tTup tA) (rep K (.tuple ds)) := (TyE.tup h (by rw [List.length_map]; exact hl)).imp fun _ _ => tup_mk
theorem TyE.lstD {ds : List PyData} (h : TyA W Γ tA (ds.map (rep K))) (hl : ds.length ≤ 1000 := by exact Nat.le_of_ble_eq_true rfl) : TyE W Γ (tLst tA) (rep K (.list ds)) := (TyE.lst h (by rw [List.length_map]; exact hl)).imp fun _ _ => lst_mk
theorem TyE.cb {r : List V → Hp → VK → Prop} (h : TyA W Γ tA Ps) (hr : RAT W r Ps P) : TyE W Γ (tCB r tA) P := fun σ H Q j e q =>
  h σ H _ j e fun xs H1 j1 s1 p1 => hr xs H1 Q j1 p1 fun v H3 j3 s3 p3 => q v H3 j3 (s1.trans s3) p3
theorem TyE.call {sp : Sp} {E : XK} (h : TyA W Γ tA Ps) (hr : RAT W (fun xs H Q => sp xs H Q E) Ps P) : TyE W Γ (tCall sp [] E tA) P := fun σ H Q j e q =>
  h σ H _ j e fun xs H1 j1 s1 p1 => by
    show sp (xs ++ []) H1 Q E
    rw [List.append_nil]
    exact hr xs H1 Q j1 p1 fun v H3 j3 s3 p3 => q v H3 j3 (s1.trans s3) p3
theorem TyO.none : TyO W Γ tNoPart none := fun σ H Q j e q => q H j (Same.refl _)
theorem TyO.some {i : Int} (h : TyE W Γ te (rep K (.int i))) : TyO W Γ (tPart te) (some i) := fun σ H Q j e q => h σ H _ j e fun v H' a b c => ⟨i, dp_int c, q H' a b⟩
/-! ### tests -/
theorem TyT.imp {φ ψ : Bool → Prop} (h : TyT W Γ tt φ) (f : ∀ b, φ b → ψ b) : TyT W Γ tt ψ := fun σ H Q j e q => h σ H Q j e fun b H' a => q b H' (f b a)
theorem TyT.test {b : Bool} (h : TyE W Γ te (rep K (.bool b))) : TyT W Γ (tTest te) (· = b) := fun σ H Q j e q => h σ H _ j e fun v H' a c p => ⟨b, dp_bl p, q b H' rfl a c⟩
theorem TyT.tB {b : Bool} (h : TyE W Γ te (rep K (.bool b))) : TyT W Γ (tB te) (· = b) := fun σ H Q j e q => h σ H _ j e fun v H' a c p => ⟨b, dp_bl p, q b H' rfl a c⟩
theorem TyT.testX {φ : Bool → Prop} (h : TyE W Γ te (exP φ fun b => rep K (.bool b))) : TyT W Γ (tTest te) φ := fun σ H Q j e q => h σ H _ j e fun v H' a c ⟨b, hb, p⟩ => ⟨b, dp_bl p, q b H' hb a c⟩
theorem TyT.tBX {φ : Bool → Prop} (h : TyE W Γ te (exP φ fun b => rep K (.bool b))) : TyT W Γ (L2.tB te) φ := fun σ H Q j e q => h σ H _ j e fun v H' a c ⟨b, hb, p⟩ => ⟨b, dp_bl p, q b H' hb a c⟩
theorem TyT.not {φ : Bool → Prop} (h : TyT W Γ t φ) : TyT W Γ (tNot t) (fun b => φ (!b)) := fun σ H Q j e q => h σ H _ j e fun b H' a c p => q (!b) H' (by show φ (!!b); rw [Bool.not_not]; exact a) c p
theorem TyT.notB {b : Bool} (h : TyT W Γ t (· = b)) : TyT W Γ (tNot t) (· = !b) := h.not.imp fun c e => by rw [← (show (!c) = b from e), Bool.not_not]
theorem TyT.and {b1 b2 : Bool} (h : TyT W Γ t (· = b1)) (g : b1 = true → TyT W Γ u (· = b2)) : TyT W Γ (tAnd t u) (· = (b1 && b2)) := fun σ H Q j e q => h σ H _ j e fun b H1 hb j1 s1 => by
  subst hb
  cases b with
  | true =>
    show u σ H1 Q
    exact g rfl σ H1 Q j1 (e.mono s1) fun c H2 hc j2 s2 => q c H2 (by rw [hc]; rfl) j2 (s1.trans s2)
  | false =>
    show Q false H1
    exact q false H1 rfl j1 s1
theorem TyT.or {b1 b2 : Bool} (h : TyT W Γ t (· = b1)) (g : b1 = false → TyT W Γ u (· = b2)) : TyT W Γ (tOr t u) (· = (b1 || b2)) := fun σ H Q j e q => h σ H _ j e fun b H1 hb j1 s1 => by
  subst hb
  cases b with
  | false =>
    show u σ H1 Q
    exact g rfl σ H1 Q j1 (e.mono s1) fun c H2 hc j2 s2 => q c H2 (by rw [hc]; rfl) j2 (s1.trans s2)
  | true =>
    show Q true H1
    exact q true H1 rfl j1 s1
/-- and, or where an answer is not known -/
theorem TyT.andX {φ ψ : Bool → Prop} (h : TyT W Γ t φ) (g : φ true → TyT W Γ u ψ) : TyT W Γ (tAnd t u) (fun b => (b = false ∧ φ false) ∨ (φ true ∧ ψ b)) := fun σ H Q j e q => h σ H _ j e fun b H1 hb j1 s1 => by
  cases b with
  | true =>
    show u σ H1 Q
    exact g hb σ H1 Q j1 (e.mono s1) fun c H2 hc j2 s2 => q c H2 (.inr ⟨hb, hc⟩) j2 (s1.trans s2)
  | false =>
    show Q false H1
    exact q false H1 (.inl ⟨rfl, hb⟩) j1 s1
theorem TyE.andV {b1 b2 : Bool} (h : TyE W Γ ta (rep K (.bool b1))) (g : b1 = true → TyE W Γ tb (rep K (.bool b2))) : TyE W Γ (tAndV ta tb) (rep K (.bool (b1 && b2))) := fun σ H Q j e q => h σ H _ j e fun x H1 j1 s1 p1 => ⟨b1, dp_bl p1, by
  cases b1 with
  | true =>
    show tb σ H1 Q
    exact g rfl σ H1 Q j1 (e.mono s1) fun v H2 j2 s2 p2 => q v H2 j2 (s1.trans s2) p2
  | false =>
    show Q (.bl false) H1
    exact q _ H1 j1 s1 (.bl false)⟩
theorem TyE.orV {b1 b2 : Bool} (h : TyE W Γ ta (rep K (.bool b1))) (g : b1 = false → TyE W Γ tb (rep K (.bool b2))) : TyE W Γ (tOrV ta tb) (rep K (.bool (b1 || b2))) := fun σ H Q j e q => h σ H _ j e fun x H1 j1 s1 p1 => ⟨b1, dp_bl p1, by
  cases b1 with
  | false =>
    show tb σ H1 Q
    exact g rfl σ H1 Q j1 (e.mono s1) fun v H2 j2 s2 p2 => q v H2 j2 (s1.trans s2) p2
  | true =>
    show Q (.bl true) H1
    exact q _ H1 j1 s1 (.bl true)⟩
theorem TyE.notV {b : Bool} (h : TyE W Γ ta (rep K (.bool b))) : TyE W Γ (tNotV ta) (rep K (.bool (!b))) := fun σ H Q j e q => h σ H _ j e fun x H1 j1 s1 p1 => ⟨b, dp_bl p1, q _ H1 j1 s1 (.bl _)⟩
theorem TyE.ifX {φ : Bool → Prop} (h : TyT W Γ t φ) (h1 : φ true → TyE W Γ ta P) (h2 : φ false → TyE W Γ tb P) : TyE W Γ (tIf t ta tb) P := fun σ H Q j e q => h σ H _ j e fun b H1 hb j1 s1 => by
  cases b with
  | true =>
    show ta σ H1 Q
    exact h1 hb σ H1 Q j1 (e.mono s1) fun v H2 j2 s2 p2 => q v H2 j2 (s1.trans s2) p2
  | false =>
    show tb σ H1 Q
    exact h2 hb σ H1 Q j1 (e.mono s1) fun v H2 j2 s2 p2 => q v H2 j2 (s1.trans s2) p2
theorem TyE.chain {r r' : R2} {b1 b2 : Bool} (ha : TyE W Γ ta P1) (hb : TyE W Γ tb P2) (hr : R2T W r P1 P2 (rep K (.bool b1))) (hc : b1 = true → TyE W Γ tc P3) (hr' : b1 = true → R2T W r' P2 P3 (rep K (.bool b2))) :
    TyE W Γ (tChain r r' ta tb tc) (rep K (.bool (b1 && b2))) := fun σ H Q j e q =>
  ha σ H _ j e fun x H1 j1 s1 p1 => hb σ H1 _ j1 (e.mono s1) fun y H2 j2 s2 p2 => hr x y H2 _ j2 (P1.mono s2 p1) p2 fun z H3 j3 s3 p3 => ⟨b1, dp_bl p3, by
    have s := (s1.trans s2).trans s3
    cases b1 with
    | true =>
      show tc σ H3 _
      exact hc rfl σ H3 _ j3 (e.mono s) fun w H4 j4 s4 p4 => hr' rfl y w H4 Q j4 (P2.mono (s3.trans s4) p2) p4 fun v H5 j5 s5 p5 => q v H5 j5 ((s.trans s4).trans s5) p5
    | false =>
      show Q (.bl false) H3
      exact q _ H3 j3 s (.bl false)⟩
end
/-! ### values: numbers, texts, tuples, lists -/
section
variable {K : PySem.W.Frag} {W : Wd}
theorem sq_t {H : Hp} {a : Addr} {xs : List V} (h : SqT K (W.v H) a xs) : SqT K H a xs := same_t vw_le h
theorem sq_l {H : Hp} {a : Addr} {xs : List V} (h : SqL K (W.v H) a xs) : SqL K H a xs := Same.seq vw_le h
theorem r_int0 {g : Int → Int → Int} {i j : Int} : R2T W (rI0 fun i j => .int (g i j)) (rep K (.int i)) (rep K (.int j)) (rep K (.int (g i j))) := .now fun x y H _ p q => ⟨_, .int _, fun Q k => ⟨i, j, dp_int p, dp_int q, k⟩⟩
theorem r_bl0 {g : Int → Int → Bool} {i j : Int} : R2T W (rI0 fun i j => .bl (g i j)) (rep K (.int i)) (rep K (.int j)) (rep K (.bool (g i j))) := .now fun x y H _ p q => ⟨_, .bl _, fun Q k => ⟨i, j, dp_int p, dp_int q, k⟩⟩
theorem r_intC {C : Int → Int → Prop} {g : Int → Int → Int} {i j : Int} (h : C i j) : R2T W (rI C fun i j => .int (g i j)) (rep K (.int i)) (rep K (.int j)) (rep K (.int (g i j))) := .now fun x y H _ p q => ⟨_, .int _, fun Q k => ⟨i, j, dp_int p, dp_int q, h, k⟩⟩
theorem r_eqS {a b : Str} : R2T W rEq (rep K (.str a)) (rep K (.str b)) (rep K (.bool (decide (a = b)))) := .now fun x y H _ p q => ⟨_, .bl _, fun Q k => by
  rw [dp_str p, dp_str q]
  refine ⟨rfl, ?_⟩
  have e : decide (V.str a = V.str b) = decide (a = b) := by simp
  rw [e]; exact k⟩
theorem r_eqI {a b : Int} : R2T W rEq (rep K (.int a)) (rep K (.int b)) (rep K (.bool (decide (a = b)))) := .now fun x y H _ p q => ⟨_, .bl _, fun Q k => by
  rw [dp_int p, dp_int q]
  refine ⟨rfl, ?_⟩
  have e : decide (V.int a = V.int b) = decide (a = b) := by simp
  rw [e]; exact k⟩
theorem r_neI {a b : Int} : R2T W rNe (rep K (.int a)) (rep K (.int b)) (rep K (.bool (!decide (a = b)))) := .now fun x y H _ p q => ⟨_, .bl _, fun Q k => by
  rw [dp_int p, dp_int q]
  refine ⟨rfl, ?_⟩
  have e : decide (V.int a = V.int b) = decide (a = b) := by simp
  rw [e]; exact k⟩
theorem r_neS {a b : Str} : R2T W rNe (rep K (.str a)) (rep K (.str b)) (rep K (.bool (!decide (a = b)))) := .now fun x y H _ p q => ⟨_, .bl _, fun Q k => by
  rw [dp_str p, dp_str q]
  refine ⟨rfl, ?_⟩
  have e : decide (V.str a = V.str b) = decide (a = b) := by simp
  rw [e]; exact k⟩
theorem r_neB {a b : Bool} : R2T W rNe (rep K (.bool a)) (rep K (.bool b)) (rep K (.bool (!decide (a = b)))) := .now fun x y H _ p q => ⟨_, .bl _, fun Q k => by
  rw [dp_bl p, dp_bl q]
  refine ⟨rfl, ?_⟩
  have e : decide (V.bl a = V.bl b) = decide (a = b) := by simp
  rw [e]; exact k⟩
theorem r_eqB {a b : Bool} : R2T W rEq (rep K (.bool a)) (rep K (.bool b)) (rep K (.bool (decide (a = b)))) := .now fun x y H _ p q => ⟨_, .bl _, fun Q k => by
  rw [dp_bl p, dp_bl q]
  refine ⟨rfl, ?_⟩
  have e : decide (V.bl a = V.bl b) = decide (a = b) := by simp
  rw [e]; exact k⟩
theorem dp_up {H : Hp} {v : V} {d : PyData} (h : Dp K (W.v H) v d) : Dp K H v d := dp_mono vw_le d v h
theorem r_eqD {d e : PyData} (hd : SeqAt.shaped d = true) (he : SeqAt.shaped e = true) : R2T W (rEqD K) (rep K d) (rep K e) (rep K (.bool (PyData.eqv d e))) := .now fun x y H _ p q => ⟨_, .bl _, fun Q k => ⟨d, e, dp_up p, dp_up q, hd, he, k⟩⟩
theorem r_neD {d e : PyData} (hd : SeqAt.shaped d = true) (he : SeqAt.shaped e = true) : R2T W (rNeD K) (rep K d) (rep K e) (rep K (.bool (!PyData.eqv d e))) := .now fun x y H _ p q => ⟨_, .bl _, fun Q k => ⟨d, e, dp_up p, dp_up q, hd, he, k⟩⟩
def rIsN : R2 := fun x y H Q => y = .non ∧ Q (.bl (decide (x = .non))) H
def rNotN : R2 := fun x y H Q => y = .non ∧ Q (.bl (!decide (x = .non))) H
theorem op_isNn {X : Cx} : OpR X (compareOp .Is) rIsN := op_isN
theorem op_notNn {X : Cx} : OpR X (compareOp .IsNot) rNotN := op_notN
def nonP (P : Pd) (b : Bool) : Prop := ∀ v H, P.h v H → decide (v = .non) = b
theorem r_isN {P : Pd} {b : Bool} (h : nonP P b) : R2T W rIsN P (rep K .none) (rep K (.bool b)) := .now fun x y H _ p q => ⟨.bl b, .bl _, fun Q k => ⟨dp_non q, by rw [h _ _ p]; exact k⟩⟩
theorem r_notN {P : Pd} {b : Bool} (h : nonP P b) : R2T W rNotN P (rep K .none) (rep K (.bool (!b))) := .now fun x y H _ p q => ⟨.bl (!b), .bl _, fun Q k => ⟨dp_non q, by rw [h _ _ p]; exact k⟩⟩
def isNone : PyData → Bool
  | .none => true
  | _ => false
theorem nonP_rep {d : PyData} : nonP (rep K d) (isNone d) := fun v H p => by
  cases p <;> rfl
theorem nonP_lst {Ps : List Pd} : nonP (lstOf K Ps) false := fun v H ⟨a, xs, e, _⟩ => by subst e; rfl
theorem nonP_tup {Ps : List Pd} : nonP (tupOf K Ps) false := fun v H ⟨a, xs, e, _⟩ => by subst e; rfl
/-! indices -/
theorem r_ixT {Ps : List Pd} {i : Nat} {P : Pd} (h : Ps[i]? = some P) : R2T W (rIxT K) (tupOf K Ps) (rep K (.int (i : Nat))) P := .now fun x y H _ ⟨a, xs, e, s, p⟩ q => by
  obtain ⟨v, e1, e2⟩ := p.get h
  exact ⟨v, e2, fun Q k => ⟨a, xs, i, v, e, dp_int q, sq_t s, atI_nat e1, k⟩⟩
theorem r_ixL {Ps : List Pd} {i : Nat} {P : Pd} (h : Ps[i]? = some P) : R2T W (rIxL K) (lstOf K Ps) (rep K (.int (i : Nat))) P := .now fun x y H _ ⟨a, xs, e, s, p⟩ q => by
  obtain ⟨v, e1, e2⟩ := p.get h
  exact ⟨v, e2, fun Q k => ⟨a, xs, i, v, e, dp_int q, sq_l s, atI_nat e1, k⟩⟩
theorem r_ixA_T {r1 r3 : R2} {P1 P2 P : Pd} (h : R2T W (rIxT K) P1 P2 P) : R2T W (rIx K) P1 P2 P := fun x y H Q j p1 p2 q => .inr (.inl (h x y H Q j p1 p2 q))
theorem r_ixAT {Ps : List Pd} {i : Nat} {P : Pd} (h : Ps[i]? = some P) : R2T W (rIx K) (tupOf K Ps) (rep K (.int (i : Nat))) P := fun x y H Q j p1 p2 q => .inr (.inl (r_ixT h x y H Q j p1 p2 q))
theorem r_ixAL {Ps : List Pd} {i : Nat} {P : Pd} (h : Ps[i]? = some P) : R2T W (rIx K) (lstOf K Ps) (rep K (.int (i : Nat))) P := fun x y H Q j p1 p2 q => .inl (r_ixL h x y H Q j p1 p2 q)
theorem map_get {ds : List PyData} {i : Nat} {d : PyData} (h : ds[i]? = some d) : (ds.map (rep K))[i]? = some (rep K d) := by rw [List.getElem?_map, h]; rfl
theorem r_ixD {ds : List PyData} {i : Nat} {d : PyData} (h : ds[i]? = some d) : R2T W (rIx K) (rep K (.tuple ds)) (rep K (.int (i : Nat))) (rep K d) := (r_ixAT (map_get h)).pre (fun _ _ => tup_of) fun _ _ h => h
theorem r_ixDL {ds : List PyData} {i : Nat} {d : PyData} (h : ds[i]? = some d) : R2T W (rIx K) (rep K (.list ds)) (rep K (.int (i : Nat))) (rep K d) := (r_ixAL (map_get h)).pre (fun _ _ => lst_of) fun _ _ h => h
end
end Tk
namespace Tk
open PySem L2
/-! ### a list of one's own, that grows -/
def hide (p : Addr) (H : Hp) : Hp := fun a => if a = p then none else H a
theorem hide_ne {p a : Addr} {H : Hp} (h : a ≠ p) : hide p H a = H a := if_neg h
theorem hide_same {p : Addr} {H : Hp} : hide p H p = none := if_pos rfl
theorem hide_le {p : Addr} {H : Hp} : Same (hide p H) H := fun a o e => by
  by_cases h : a = p
  · subst h; rw [hide_same] at e; cases e
  · rw [hide_ne h] at e; exact e
theorem hide_upd {p : Addr} {H : Hp} {o : HO} : hide p (upd H p o) = hide p H := by
  funext a
  by_cases h : a = p
  · subst h; rw [hide_same, hide_same]
  · rw [hide_ne h, hide_ne h, upd_ne h]
theorem hide_free {p : Addr} {H : Hp} (h : H p = none) : hide p H = H := by
  funext a
  by_cases e : a = p
  · subst e; rw [hide_same, h]
  · rw [hide_ne e]
theorem vw_cons {p : Addr} {A : List Addr} {H : Hp} : vw (p :: A) H = vw A (hide p H) := by
  funext a
  by_cases e : a = p
  · subst e
    rw [vw_in (List.mem_cons_self)]
    by_cases h : a ∈ A
    · rw [vw_in h]
    · rw [vw_out h, hide_same]
  · by_cases h : a ∈ A
    · rw [vw_in h, vw_in (List.mem_cons_of_mem _ h)]
    · rw [vw_out h, vw_out (fun z => (List.mem_cons.mp z).elim e h), hide_ne e]
/-- what stands at p is held, and is as φ says -/
def Wd.own (W : Wd) (p : Addr) (φ : HO → Hp → Prop) (mono : ∀ {o : HO} {H H' : Hp}, Same H H' → φ o H → φ o H') : Wd where
  A := p :: W.A
  J := fun H => W.J (hide p H) ∧ ∃ o, H p = some o ∧ φ o (vw (p :: W.A) H)
  tr := fun {H} ⟨j, o, e, _⟩ a ha => by
    rcases List.mem_cons.mp ha with h | h
    · subst h; rw [e]; exact fun z => by cases z
    · intro z
      by_cases q : a = p
      · subst q; rw [e] at z; cases z
      · exact W.tr j a h (by rw [hide_ne q]; exact z)
  st := fun {H H'} ⟨j, o, e, f⟩ ha hs => by
    refine ⟨W.st j (fun a h => ?_) ?_, o, (ha p List.mem_cons_self).trans e, mono hs f⟩
    · by_cases q : a = p
      · subst q; rw [hide_same, hide_same]
      · rw [hide_ne q, hide_ne q]
        exact ha a (List.mem_cons_of_mem _ h)
    · rw [← vw_cons, ← vw_cons]
      exact hs
def lstIs (K : PySem.W.Frag) (Ps : List Pd) : HO → Hp → Prop := fun o H => ∃ xs, o = .lst xs ∧ PdAll Ps xs H
theorem lstIs_mono {K : PySem.W.Frag} {Ps : List Pd} {o : HO} {H H' : Hp} (e : Same H H') (h : lstIs K Ps o H) : lstIs K Ps o H' := let ⟨xs, a, b⟩ := h; ⟨xs, a, b.mono e⟩
def Wd.ownL (K : PySem.W.Frag) (W : Wd) (p : Addr) (Ps : List Pd) : Wd := W.own p (lstIs K Ps) lstIs_mono
section
variable {K : PySem.W.Frag} {W : Wd} {Γ Γ' : Ctx} {te ta tb tc : TE} {tt t u : TT} {P P' P1 P2 P3 : Pd} {Ps Qs : List Pd} {tA tr : TA} {B : Hp}
theorem ownL_v {p : Addr} {H : Hp} : (W.ownL K p Ps).v H = W.v (hide p H) := vw_cons
theorem ownL_new {H : Hp} {p : Addr} (j : W.J H) (hp : H p = none) : (W.ownL K p []).J (upd H p (.lst [])) ∧ Same (W.v H) ((W.ownL K p []).v (upd H p (.lst []))) := by
  refine ⟨⟨?_, .lst [], upd_same, [], rfl, .nil⟩, ?_⟩
  · rw [hide_upd, hide_free hp]; exact j
  · rw [ownL_v, hide_upd, hide_free hp]
    exact Same.refl _
theorem ownL_app {H : Hp} {p : Addr} {x : V} (j : (W.ownL K p Ps).J H) (h : P.h x ((W.ownL K p Ps).v H)) : ∃ xs, H p = some (.lst xs) ∧ xs.length = Ps.length ∧ (W.ownL K p (Ps ++ [P])).J (upd H p (.lst (xs ++ [x]))) ∧
    (W.ownL K p (Ps ++ [P])).v (upd H p (.lst (xs ++ [x]))) = (W.ownL K p Ps).v H := by
  obtain ⟨j1, o, e, xs, rfl, f⟩ := j
  have ev : (W.ownL K p (Ps ++ [P])).v (upd H p (.lst (xs ++ [x]))) = (W.ownL K p Ps).v H := by
    rw [ownL_v, ownL_v, hide_upd]
  refine ⟨xs, e, f.len.symm, ⟨?_, _, upd_same, _, rfl, ?_⟩, ev⟩
  · rw [hide_upd]; exact j1
  · show PdAll _ _ ((W.ownL K p (Ps ++ [P])).v _)
    rw [ev]
    exact f.append (.cons h .nil)
theorem ownL_free {H : Hp} {p : Addr} (j : (W.ownL K p Ps).J H) (hp : p ∉ W.A) : W.J H ∧ Same ((W.ownL K p Ps).v H) (W.v H) ∧ (lstOf K Ps).h (.ref p) (W.v H) := by
  obtain ⟨j1, o, e, xs, rfl, f⟩ := j
  have s : Same (W.v (hide p H)) (W.v H) := fun a u q => by
    obtain ⟨h1, h2⟩ := vw_some q
    show vw W.A H a = _
    rw [vw_out h1]
    exact hide_le a u h2
  have s' : Same ((W.ownL K p Ps).v H) (W.v H) := by rw [ownL_v]; exact s
  refine ⟨W.st j1 (fun a ha => (hide_ne (p := p) (a := a) (H := H) fun (q : a = p) => hp (by rw [← q]; exact ha)).symm) s, s', p, xs, rfl, SqL.of ?_, f.mono s'⟩
  show vw W.A H p = _
  rw [vw_out hp]; exact e
/-! ### statements -/
/-- wherever Γ holds (and what B says), k does -/
def Nx (W : Wd) (B : Hp) (Γ : Ctx) (k : L2.St → Hp → Prop) : Prop := ∀ (σ : L2.St) (H : Hp), W.J H → Same B (W.v H) → EnvR Γ σ (W.v H) → k σ H
variable {D : Ends} {ts us : TS} {k k' : L2.St → Hp → Prop}
theorem Nx.imp (h : Nx W B Γ k) (f : ∀ σ H, k σ H → k' σ H) : Nx W B Γ k' := fun σ H j b e => f σ H (h σ H j b e)
theorem Nx.le (h : Nx W B Γ' k) (l : Le Γ Γ') : Nx W B Γ k := fun σ H j b e => h σ H j b (e.le l)
theorem Nx.seq (h : Nx W B Γ (ts { D with nx := us D })) : Nx W B Γ (tSeq ts us D) := h
theorem Nx.set {i : Nat} (he : TyE W Γ te P) (h : Nx W B (Γ.set i (some P)) D.nx) : Nx W B Γ (tAsg te (gName i) D) := fun σ H j b e =>
  he σ H _ j e fun v H' j' s p => h _ H' j' (b.trans s) ((e.mono s).set i p)
theorem Nx.ret (he : TyE W Γ te P) (h : ∀ v H, W.J H → Same B (W.v H) → P.h v (W.v H) → D.rt v H) : Nx W B Γ (tRet te D) := fun σ H j b e => he σ H _ j e fun v H' j' s p => h v H' j' (b.trans s) p
theorem Nx.retN (h : ∀ H, W.J H → Same B (W.v H) → D.rt .non H) : Nx W B Γ (tRetN D) := fun σ H j b e => h H j b
theorem Nx.drop (he : TyE W Γ te P) (h : Nx W B Γ D.nx) : Nx W B Γ (tDrop te D) := fun σ H j b e => he σ H _ j e fun v H' j' s p => h _ H' j' (b.trans s) (e.mono s)
theorem Nx.ifX {φ : Bool → Prop} (hc : TyT W Γ tt φ) (h1 : φ true → Nx W B Γ (ts D)) (h2 : φ false → Nx W B Γ (us D)) : Nx W B Γ (tIfS tt ts us D) := fun σ H j b e =>
  hc σ H _ j e fun c H' hc' j' s => by
    cases c with
    | true =>
      show ts D σ H'
      exact h1 hc' σ H' j' (b.trans s) (e.mono s)
    | false =>
      show us D σ H'
      exact h2 hc' σ H' j' (b.trans s) (e.mono s)
theorem Nx.ifT (hc : TyT W Γ tt (· = true)) (h : Nx W B Γ (ts D)) : Nx W B Γ (tIfS tt ts us D) := Nx.ifX hc (fun _ => h) fun z => by cases z
theorem Nx.ifF (hc : TyT W Γ tt (· = false)) (h : Nx W B Γ (us D)) : Nx W B Γ (tIfS tt ts us D) := Nx.ifX hc (fun z => by cases z) fun _ => h
theorem Nx.next (h : Nx W B Γ D.nx) : Nx W B Γ (tNext D) := h
theorem Nx.open {ι : Type} {φ : ι → Prop} {F : ι → Pd} (i : Nat) (e : Γ[i]? = some (some (exP φ F))) (h : ∀ x, φ x → Nx W B (Γ.set i (some (F x))) k) : Nx W B Γ k := fun σ H j b en => by
  obtain ⟨v, e1, x, hx, p⟩ := en.at_ i _ e
  have q := en.set i p
  have es : σ.set i (some v) = σ := by
    refine List.ext_getElem? fun m => ?_
    by_cases hm : i = m
    · subst hm
      rw [List.getElem?_set_self (List.getElem?_eq_some_iff.mp e1).1, e1]
    · rw [List.getElem?_set_ne hm]
  rw [es] at q
  exact h x hx σ H j b q
/-! targets -/
/-- storing a P by g gives Γ', touching the slots vs alone -/
def TyG (W : Wd) (Γ : Ctx) (g : TG) (P : Pd) (Γ' : Ctx) (vs : List Nat) : Prop := ∀ (σ : L2.St) (H : Hp) (v : V) (Q : L2.St → Hp → Prop), W.J H → EnvR Γ σ (W.v H) → P.h v (W.v H) →
  (∀ σ' H', W.J H' → Same (W.v H) (W.v H') → EnvR Γ' σ' (W.v H') → σ'.length = σ.length → (∀ i, i ∉ vs → σ'[i]? = σ[i]?) → Q σ' H') → g v σ H Q
def TyGs (W : Wd) (Γ : Ctx) (g : TGs) (Ps : List Pd) (Γ' : Ctx) (vs : List Nat) : Prop := ∀ (σ : L2.St) (H : Hp) (xs : List V) (Q : L2.St → Hp → Prop), W.J H → EnvR Γ σ (W.v H) → PdAll Ps xs (W.v H) →
  (∀ σ' H', W.J H' → Same (W.v H) (W.v H') → EnvR Γ' σ' (W.v H') → σ'.length = σ.length → (∀ i, i ∉ vs → σ'[i]? = σ[i]?) → Q σ' H') → g xs σ H Q
theorem TyG.name {i : Nat} {vs : List Nat} (hi : i ∈ vs := by decide) : TyG W Γ (gName i) P (Γ.set i (some P)) vs := fun σ H v Q j e p q =>
  q _ H j (Same.refl _) (e.set i p) (List.length_set ..) fun m hm => List.getElem?_set_ne fun (z : i = m) => hm (by rw [← z]; exact hi)
theorem TyGs.nil {vs : List Nat} : TyGs W Γ gNil [] Γ vs := fun σ H xs Q j e p q => ⟨p.unnil, q σ H j (Same.refl _) e rfl fun _ _ => rfl⟩
theorem TyGs.cons {g : TG} {gs : TGs} {Γ1 : Ctx} {vs : List Nat} (h : TyG W Γ g P Γ1 vs) (t : TyGs W Γ1 gs Ps Γ' vs) : TyGs W Γ (gCons g gs) (P :: Ps) Γ' vs := fun σ H xs Q j e p q => by
  obtain ⟨x, r, rfl, p1, p2⟩ := p.uncons
  exact ⟨x, r, rfl, h σ H x _ j e p1 fun σ1 H1 j1 s1 e1 l1 o1 => t σ1 H1 r Q j1 e1 (p2.mono s1) fun σ2 H2 j2 s2 e2 l2 o2 => q σ2 H2 j2 (s1.trans s2) e2 (l2.trans l1) fun i hi => (o2 i hi).trans (o1 i hi)⟩
theorem TyG.tup {gs : TGs} {n : Nat} {vs : List Nat} (h : TyGs W Γ gs Ps Γ' vs) (hn : Ps.length = n := by rfl) : TyG W Γ (gTup K n gs) (tupOf K Ps) Γ' vs := fun σ H v Q j e ⟨a, xs, e1, hs, p⟩ q =>
  ⟨a, xs, e1, sq_t hs, p.len.symm.trans hn, h σ H xs Q j e p q⟩
theorem TyG.imp {g : TG} {vs : List Nat} (h : TyG W Γ g P Γ' vs) (f : ∀ v H, P'.h v H → P.h v H) : TyG W Γ g P' Γ' vs := fun σ H v Q j e p q => h σ H v Q j e (f _ _ p) q
theorem TyG.ex {ι : Type} {φ : ι → Prop} {F : ι → Pd} {g : TG} {vs : List Nat} (h : ∀ x, φ x → TyG W Γ g (F x) Γ' vs) : TyG W Γ g (exP φ F) Γ' vs := fun σ H v Q j e ⟨x, a, p⟩ q => h x a σ H v Q j e p q
theorem Nx.asg {g : TG} {vs : List Nat} (he : TyE W Γ te P) (hg : TyG W Γ g P Γ' vs) (h : Nx W B Γ' D.nx) : Nx W B Γ (tAsg te g D) := fun σ H j b e =>
  he σ H _ j e fun v H' j' s p => hg σ H' v _ j' (e.mono s) p fun σ2 H2 j2 s2 e2 _ _ => h σ2 H2 j2 ((b.trans s).trans s2) e2
/-! the same ahead of further statements -/
theorem Nx.sIfX {φ : Bool → Prop} {vs : TS} (hc : TyT W Γ tt φ) (h1 : φ true → Nx W B Γ (ts { D with nx := us D })) (h2 : φ false → Nx W B Γ (vs { D with nx := us D })) : Nx W B Γ (tSeq (tIfS tt ts vs) us D) := Nx.ifX hc h1 h2
theorem Nx.sIfF (hc : TyT W Γ tt (· = false)) (h : Nx W B Γ (us D)) : Nx W B Γ (tSeq (tIfS tt ts tNext) us D) := Nx.ifF hc h
theorem Nx.sIf1 {φ : Bool → Prop} (hc : TyT W Γ tt φ) (h1 : φ true → Nx W B Γ (ts { D with nx := us D })) (h2 : φ false → Nx W B Γ (us D)) : Nx W B Γ (tSeq (tIfS tt ts tNext) us D) := Nx.ifX hc h1 h2
theorem Nx.sIfT {vs : TS} (hc : TyT W Γ tt (· = true)) (h : Nx W B Γ (ts { D with nx := us D })) : Nx W B Γ (tSeq (tIfS tt ts vs) us D) := Nx.ifT hc h
theorem Nx.sSet {i : Nat} (he : TyE W Γ te P) (h : Nx W B (Γ.set i (some P)) (us D)) : Nx W B Γ (tSeq (tAsg te (gName i)) us D) := Nx.set he h
theorem Nx.sAsg {g : TG} {vs : List Nat} (he : TyE W Γ te P) (hg : TyG W Γ g P Γ' vs) (h : Nx W B Γ' (us D)) : Nx W B Γ (tSeq (tAsg te g) us D) := Nx.asg he hg h
theorem Nx.sDrop (he : TyE W Γ te P) (h : Nx W B Γ (us D)) : Nx W B Γ (tSeq (tDrop te) us D) := Nx.drop he h
theorem Nx.sPar {i m : Nat} (hA : TyA W Γ tA [P1, P2]) (h : Nx W B ((Γ.set i (some P1)).set m (some P2)) (us D)) : Nx W B Γ (tSeq (tPar i m tA) us D) := fun σ H j b e =>
  hA σ H _ j e fun vs H' j' s p => by
    obtain ⟨x, r, rfl, p1, pr⟩ := p.uncons
    obtain ⟨y, r, rfl, p2, pr⟩ := pr.uncons
    have := pr.unnil
    subst this
    exact ⟨x, y, rfl, h _ H' j' (b.trans s) (((e.mono s).set i p1).set m p2)⟩
theorem wipe_get {σ : L2.St} : ∀ {vs : List Nat} {i : Nat}, i ∈ vs → i < σ.length → (wipe σ vs)[i]? = some none
  | v :: vs, i, h, hl => by
    show ((wipe σ vs).set v none)[i]? = _
    by_cases e : v = i
    · subst e
      rw [List.getElem?_set_self (by rw [wipe_length]; exact hl)]
    · rw [List.getElem?_set_ne e]
      exact wipe_get ((List.mem_cons.mp h).resolve_left fun z => e z.symm) hl
theorem wipe_eq {σ σ' : L2.St} {vs : List Nat} (hl : σ'.length = σ.length) (h : ∀ i, i ∉ vs → σ'[i]? = σ[i]?) : wipe σ' vs = wipe σ vs := by
  refine List.ext_getElem? fun i => ?_
  by_cases hi : i ∈ vs
  · by_cases hn : i < σ.length
    · rw [wipe_get hi hn, wipe_get hi (hl ▸ hn)]
    · rw [List.getElem?_eq_none (by rw [wipe_length]; omega), List.getElem?_eq_none (by rw [wipe_length]; omega)]
  · rw [wipe_out hi, wipe_out hi, h i hi]
theorem wipe_wipe (σ : L2.St) (vs : List Nat) : wipe (wipe σ vs) vs = wipe σ vs := wipe_eq (wipe_length _ _) fun i hi => wipe_out hi
/-! ### what is walked -/
structure WkI (J : It) (Ps : List Pd) (B : Hp) : Prop where
  go : ∀ (W : Wd) (H : Hp) (i : Nat), W.J H → Same B (W.v H) → i < Ps.length → J.go i H
  stop : ∀ (W : Wd) (H : Hp), W.J H → Same B (W.v H) → J.stop Ps.length H
  yld : ∀ (W : Wd) (H : Hp) (i : Nat) (x : V) (H' : Hp) (P : Pd), W.J H → Same B (W.v H) → Ps[i]? = some P → J.yld i H x H' → W.J H' ∧ Same (W.v H) (W.v H') ∧ P.h x (W.v H')
def TyI (W : Wd) (Γ : Ctx) (wi : TI) (Ps : List Pd) : Prop := ∀ (σ : L2.St) (H : Hp) (R : It → Hp → Prop), W.J H → EnvR Γ σ (W.v H) → (∀ J H1, W.J H1 → Same (W.v H) (W.v H1) → WkI J Ps (W.v H1) → R J H1) → wi σ H R
theorem wk_list {a : Addr} {xs : List V} (hs : SqL K B a xs) (p : PdAll Ps xs B) : WkI (Itl K a) Ps B where
  go := fun W H i j b hi => by
    have hx : i < xs.length := p.len ▸ hi
    exact ⟨xs, xs[i], sq_l (b.seq hs), List.getElem?_eq_getElem hx⟩
  stop := fun W H j b => ⟨xs, sq_l (b.seq hs), Nat.le_of_eq p.len.symm⟩
  yld := fun W H i x H' P j b hP hy => by
    obtain ⟨rfl, hy⟩ := hy
    exact ⟨j, Same.refl _, P.mono b (p.at_ i P x hP (hy xs (sq_l (b.seq hs))))⟩
theorem wk_tup {a : Addr} {xs : List V} (hs : SqT K B a xs) (p : PdAll Ps xs B) : WkI (Itt K a) Ps B where
  go := fun W H i j b hi => by
    have hx : i < xs.length := p.len ▸ hi
    exact ⟨xs, xs[i], sq_t (same_t b hs), List.getElem?_eq_getElem hx⟩
  stop := fun W H j b => ⟨xs, sq_t (same_t b hs), Nat.le_of_eq p.len.symm⟩
  yld := fun W H i x H' P j b hP hy => by
    obtain ⟨rfl, hy⟩ := hy
    exact ⟨j, Same.refl _, P.mono b (p.at_ i P x hP (hy xs (sq_t (same_t b hs))))⟩
theorem TyI.list (h : TyE W Γ te (lstOf K Ps)) : TyI W Γ (iList K te) Ps := fun σ H R j e r => h σ H _ j e fun v H1 j1 s1 ⟨a, xs, e1, hs, p⟩ => ⟨a, e1, ⟨xs, sq_l hs⟩, r _ H1 j1 s1 (wk_list hs p)⟩
theorem TyI.tup (h : TyE W Γ te (tupOf K Ps)) : TyI W Γ (iTup K te) Ps := fun σ H R j e r => h σ H _ j e fun v H1 j1 s1 ⟨a, xs, e1, hs, p⟩ => ⟨a, e1, ⟨xs, sq_t hs⟩, r _ H1 j1 s1 (wk_tup hs p)⟩
theorem wk_str {z : Str} : WkI (Its z) (z.cps.toList.map fun c => rep K (.str ⟨#[c]⟩)) B where
  go := fun W H i j b hi => by show i < z.cps.size; simpa using hi
  stop := fun W H j b => by show z.cps.size ≤ _; simp
  yld := fun W H i x H' P j b hP hy => by
    obtain ⟨rfl, c, hc, rfl⟩ := hy
    refine ⟨j, Same.refl _, ?_⟩
    rw [List.getElem?_map] at hP
    have hc' : z.cps.toList[i]? = some c := by rw [Array.getElem?_toList]; exact hc
    rw [hc'] at hP
    have e : rep K (.str ⟨#[c]⟩) = P := by simpa using hP
    rw [← e]
    exact .str _
theorem TyI.str {z : Str} (h : TyE W Γ te (rep K (.str z))) : TyI W Γ (iStr te) (z.cps.toList.map fun c => rep K (.str ⟨#[c]⟩)) := fun σ H R j e r => h σ H _ j e fun v H1 j1 s1 p => ⟨z, dp_str p, r _ H1 j1 s1 wk_str⟩
theorem wk_range {lo : Int} {n : Nat} : WkI (Itr lo n) ((List.range n).map fun (i : Nat) => rep K (.int (lo + i))) B where
  go := fun W H i j b hi => by show i < n; simpa using hi
  stop := fun W H j b => by show n ≤ _; simp
  yld := fun W H i x H' P j b hP hy => by
    obtain ⟨rfl, rfl⟩ := hy
    refine ⟨j, Same.refl _, ?_⟩
    rw [List.getElem?_map] at hP
    by_cases hi : i < n
    · rw [List.getElem?_range hi] at hP
      have e : rep K (.int (lo + i)) = P := by simpa using hP
      rw [← e]
      exact .int _
    · rw [List.getElem?_eq_none (by simp; omega)] at hP
      cases hP
theorem TyI.range1 {n : Nat} (h : TyA W Γ tA [rep K (.int (n : Nat))]) (hn : n ≤ 1000 := by decide) : TyI W Γ (iRng1 tA) ((List.range n).map fun (i : Nat) => rep K (.int ((0 : Int) + i))) := fun σ H R j e r => h σ H _ j e fun vs H1 j1 s1 p => by
  obtain ⟨x, q, rfl, p1, p2⟩ := p.uncons
  have := p2.unnil
  subst this
  exact ⟨(n : Int), by rw [dp_int p1], by omega, by omega, r _ H1 j1 s1 (by simpa using wk_range (K := K) (lo := 0) (n := n))⟩
/-- pairs that are made as one walks -/
theorem wk_pair {J : It} {n : Nat} {f : Nat → Pd} {g : Nat → Pd} (go : ∀ (W : Wd) (H : Hp) (i : Nat), W.J H → Same B (W.v H) → i < n → J.go i H) (stop : ∀ (W : Wd) (H : Hp), W.J H → Same B (W.v H) → J.stop n H)
    (yld : ∀ (W : Wd) (H : Hp) (i : Nat) (v : V) (H' : Hp), W.J H → Same B (W.v H) → i < n → J.yld i H v H' → ∃ T x y, v = .ref T ∧ H T = none ∧ H' = upd H T (.tup [x, y]) ∧ (f i).h x (W.v H) ∧ (g i).h y (W.v H)) :
    WkI J ((List.range n).map fun i => tupOf K [f i, g i]) B where
  go := fun W H i j b hi => go W H i j b (by simpa using hi)
  stop := fun W H j b => by have := stop W H j b; simpa using this
  yld := fun W H i x H' P j b hP hy => by
    rw [List.getElem?_map] at hP
    by_cases hi : i < n
    · rw [List.getElem?_range hi] at hP
      have e : tupOf K [f i, g i] = P := by simpa using hP
      obtain ⟨T, u, w, rfl, hT, rfl, p1, p2⟩ := yld W H i x H' j b hi hy
      obtain ⟨j2, s2, e2⟩ := W.alloc j hT (.tup [u, w])
      refine ⟨j2, s2, ?_⟩
      rw [← e]
      exact ⟨T, _, rfl, SqT.of e2, .cons ((f i).mono s2 p1) (.cons ((g i).mono s2 p2) .nil)⟩
    · rw [List.getElem?_eq_none (by simp; omega)] at hP
      cases hP
/-! ### for -/
theorem Nx.for_ {ι : Type} {wi : TI} {g : TG} {vs : List Nat} (Wi : Nat → ι → Wd) (Gi : Nat → ι → Ctx) (ok : Nat → ι → Prop) (hi : TyI W Γ wi Ps) (x0 : ι) (h0 : ok 0 x0) (hW : Wi 0 x0 = W) (hG : Le Γ (Gi 0 x0))
    (hs : ∀ (i : Nat) (P : Pd) (x : ι) (B' : Hp), Ps[i]? = some P → ok i x → Same B B' → ∃ Γ1, TyG (Wi i x) (Gi i x) g P Γ1 vs ∧
      ∀ N : L2.St → Hp → Prop, (∀ x', ok (i + 1) x' → Nx (Wi (i + 1) x') B' (Gi (i + 1) x') N) → Nx (Wi i x) B' Γ1 (ts { D with nx := N, ct := N, bk := D.nx }))
    (hd : ∀ (x : ι) (B' : Hp), ok Ps.length x → Same B B' → Nx (Wi Ps.length x) B' (Gi Ps.length x) D.nx) : Nx W B Γ (tFor wi g ts D) := fun σ H j b e =>
  hi σ H _ j e fun J H1 j1 s1 wk => by
    have bb : Same B (W.v H1) := b.trans s1
    refine ⟨fun i m σ' H' => m = Ps.length - i ∧ i ≤ Ps.length ∧ ∃ x, ok i x ∧ (Wi i x).J H' ∧ Same (W.v H1) ((Wi i x).v H') ∧ EnvR (Gi i x) σ' ((Wi i x).v H'), ⟨Ps.length, by simp, Nat.zero_le _, x0, h0, ?_⟩, ?_⟩
    · rw [hW]
      exact ⟨j1, Same.refl _, (e.mono s1).le hG⟩
    · rintro i m σ' H' ⟨rfl, hle, x, hx, j', b', e'⟩
      by_cases hlt : i < Ps.length
      · refine .inr ⟨wk.go _ _ i j' b' hlt, _, fun _ _ z => z, fun v H2 hy => ?_⟩
        obtain ⟨j2, s2, p2⟩ := wk.yld _ _ i v H2 _ j' b' (List.getElem?_eq_getElem hlt) hy
        obtain ⟨Γ1, hg, hn⟩ := hs i _ x (W.v H1) (List.getElem?_eq_getElem hlt) hx bb
        refine hg σ' H2 v _ j2 (e'.mono s2) p2 fun σ3 H3 j3 s3 e3 _ _ => ?_
        refine hn _ (fun x' hx' σ4 H4 j4 b4 e4 => ⟨Ps.length - (i + 1), by omega, rfl, hlt, x', hx', j4, b4, e4⟩) σ3 H3 j3 ((b'.trans s2).trans s3) e3
      · have ei : i = Ps.length := by omega
        subst ei
        exact .inl ⟨wk.stop _ _ j' b', hd x _ hx bb σ' H' j' b' e'⟩
/-! ### while -/
theorem Nx.while_ {ι : Type} (Wi : ι → Wd) (Gi : ι → Ctx) (μ : ι → Nat) (ok : ι → Prop) (x0 : ι) (h0 : ok x0) (hW : Wi x0 = W) (hG : Le Γ (Gi x0))
    (hs : ∀ (x : ι) (B' : Hp), ok x → Same B B' → ∃ φ, TyT (Wi x) (Gi x) tt φ ∧
      (φ true → ∀ N : L2.St → Hp → Prop, (∀ x', ok x' → μ x' < μ x → Nx (Wi x') B' (Gi x') N) → Nx (Wi x) B' (Gi x) (ts { D with nx := N, ct := N, bk := D.nx })) ∧ (φ false → Nx (Wi x) B' (Gi x) D.nx)) : Nx W B Γ (tWhile tt ts D) := fun σ H j b e => by
  refine ⟨fun m σ' H' => ∃ x, ok x ∧ m = μ x ∧ (Wi x).J H' ∧ Same B ((Wi x).v H') ∧ EnvR (Gi x) σ' ((Wi x).v H'), ⟨μ x0, x0, h0, rfl, ?_⟩, ?_⟩
  · rw [hW]
    exact ⟨j, b, e.le hG⟩
  · rintro m σ' H' ⟨x, hx, rfl, j', b', e'⟩
    obtain ⟨φ, ht, h1, h2⟩ := hs x B hx (Same.refl _)
    refine ht σ' H' _ j' e' fun c H2 hc j2 s2 => ?_
    cases c with
    | true =>
      rw [if_pos rfl]
      exact ⟨_, fun _ _ z => z, h1 hc _ (fun x' hx' hm σ4 H4 j4 b4 e4 => ⟨μ x', hm, x', hx', rfl, j4, b4, e4⟩) σ' H2 j2 (b'.trans s2) (e'.mono s2)⟩
    | false =>
      rw [if_neg Bool.false_ne_true]
      exact h2 hc σ' H2 j2 (b'.trans s2) (e'.mono s2)
/-! ### a list that grows -/
theorem Nx.sOwn {i : Nat} (h : ∀ p, p ∉ W.A → Nx (W.ownL K p []) B (Γ.set i (some (isV (.ref p)))) (us D)) : Nx W B Γ (tSeq (tAsg (tLst tNil) (gName i)) us D) := fun σ H j b e =>
  ⟨Nat.zero_le _, fun p hp => by
    obtain ⟨j2, s2⟩ := ownL_new (K := K) j hp
    exact h p (Wd.out j hp) _ _ j2 (b.trans s2) ((e.mono s2).set i rfl)⟩
theorem Nx.app {p : Addr} (ho : TyE (W.ownL K p Ps) Γ ta (isV (.ref p))) (he : TyE (W.ownL K p Ps) Γ te P) (hl : Ps.length ≤ 1000) (h : Nx (W.ownL K p (Ps ++ [P])) B Γ D.nx) : Nx (W.ownL K p Ps) B Γ (tDrop (tBM K "list" rAppend ta (tCons te tNil)) D) := fun σ H j b e =>
  ho σ H _ j e fun x H1 j1 s1 p1 => by
    have ex : x = .ref p := p1
    subst ex
    refine ⟨?_, he σ H1 _ j1 (e.mono s1) fun v H2 j2 s2 p2 => ?_⟩
    · obtain ⟨_, o, eo, xs, e3, _⟩ := id j1
      subst e3
      exact .inl ⟨rfl, xs, SqL.of eo⟩
    · obtain ⟨xs, e1, el, ja, ev⟩ := ownL_app j2 p2
      refine ⟨p, xs, v, rfl, rfl, e1, by rw [el]; exact small1000 hl, h σ _ ja ?_ ?_⟩
      · rw [ev]; exact (b.trans s1).trans s2
      · rw [ev]; exact (e.mono s1).mono s2
theorem Nx.sApp {p : Addr} (ho : TyE (W.ownL K p Ps) Γ ta (isV (.ref p))) (he : TyE (W.ownL K p Ps) Γ te P) (hl : Ps.length ≤ 1000) (h : Nx (W.ownL K p (Ps ++ [P])) B Γ (us D)) : Nx (W.ownL K p Ps) B Γ (tSeq (tDrop (tBM K "list" rAppend ta (tCons te tNil))) us D) := Nx.app ho he hl h
theorem set_at {σ : L2.St} {i : Nat} {v : V} (e : σ[i]? = some (some v)) : σ.set i (some v) = σ := by
  refine List.ext_getElem? fun m => ?_
  by_cases hm : i = m
  · subst hm
    rw [List.getElem?_set_self (List.getElem?_eq_some_iff.mp e).1, e]
  · rw [List.getElem?_set_ne hm]
/-! ### list comprehensions -/
theorem TyE.lc {wi : TI} {g : TG} {vs : List Nat} (f : Nat → Bool) (out : Nat → Pd) (hi : TyI W Γ wi Ps) (hn : Ps.length ≤ 1000)
    (hs : ∀ (i : Nat) (P : Pd) (p : Addr) (Qs : List Pd), Ps[i]? = some P → p ∉ W.A → ∃ Γ1, TyG (W.ownL K p Qs) (wipeG Γ vs) g P Γ1 vs ∧ TyT (W.ownL K p Qs) Γ1 tt (· = f i) ∧ (f i = true → TyE (W.ownL K p Qs) Γ1 te (out i))) :
    TyE W Γ (tLc wi g tt te vs) (lstOf K (((List.range Ps.length).filter f).map out)) := fun σ H Q j e q =>
  hi σ H _ j e fun J H1 j1 s1 wk p hp => by
    have hpA : p ∉ W.A := Wd.out j1 hp
    obtain ⟨jn, sn⟩ := ownL_new (K := K) j1 hp
    refine ⟨fun i m H' => m = Ps.length - i ∧ i ≤ Ps.length ∧ (W.ownL K p (((List.range i).filter f).map out)).J H' ∧ Same (W.v H1) ((W.ownL K p (((List.range i).filter f).map out)).v H'),
      ⟨Ps.length, by simp, Nat.zero_le _, jn, sn⟩, ?_⟩
    rintro i m H' ⟨rfl, hle, j', b'⟩
    by_cases hlt : i < Ps.length
    · refine .inr ⟨wk.go _ _ i j' b' hlt, _, fun _ z => z, fun v H2 hy => ?_⟩
      obtain ⟨j2, s2, p2⟩ := wk.yld _ _ i v H2 _ j' b' (List.getElem?_eq_getElem hlt) hy
      obtain ⟨Γ1, hg, ht, hE⟩ := hs i _ p _ (List.getElem?_eq_getElem hlt) hpA
      have e1 : EnvR (wipeG Γ vs) (wipe σ vs) ((W.ownL K p (((List.range i).filter f).map out)).v H2) := ((e.mono s1).mono (b'.trans s2)).wipe vs
      refine hg _ H2 v _ j2 e1 p2 fun σ3 H3 j3 s3 e3 l3 o3 => ⟨?_, ?_⟩
      · rw [wipe_eq l3 o3, wipe_wipe]
      · refine ht σ3 H3 _ j3 e3 fun b H4 hb j4 s4 => ?_
        have hb' : b = f i := hb
        subst hb'
        have b4 := ((b'.trans s2).trans s3).trans s4
        cases hf : f i with
        | true =>
          rw [if_pos rfl]
          refine hE hf σ3 H4 _ j4 (e3.mono s4) fun y H5 j5 s5 p5 => ?_
          obtain ⟨acc, ea, el, ja, ev⟩ := ownL_app (P := out i) j5 p5
          have en : ((List.range (i + 1)).filter f).map out = ((List.range i).filter f).map out ++ [out i] := by
            rw [List.range_succ, List.filter_append, List.map_append, List.filter_cons, if_pos hf] <;> rfl
          refine ⟨acc, ea, ?_, Ps.length - (i + 1), by omega, rfl, hlt, ?_⟩
          · rw [el, List.length_map]
            have h1 := List.length_filter_le f (List.range i)
            rw [List.length_range] at h1
            exact small1000 (by omega)
          · rw [en]
            exact ⟨ja, by rw [ev]; exact b4.trans s5⟩
        | false =>
          rw [if_neg Bool.false_ne_true]
          have en : ((List.range (i + 1)).filter f).map out = ((List.range i).filter f).map out := by
            rw [List.range_succ, List.filter_append, List.map_append, List.filter_cons, if_neg (by rw [hf]; decide)]
            show _ ++ [] = _
            rw [List.append_nil]
          exact ⟨Ps.length - (i + 1), by omega, rfl, hlt, by rw [en]; exact ⟨j4, b4⟩⟩
    · have ei : i = Ps.length := by omega
      subst ei
      obtain ⟨jf, sf, pf⟩ := ownL_free j' hpA
      exact .inl ⟨wk.stop _ _ j' b', q _ H' jf ((s1.trans b').trans sf) pf⟩
end
end Tk
namespace Tk
open PySem PySem.Spec PyProof.Rows L2
/-! ### defs -/
/-- a promise: from a world where ok x holds and arguments as pre x says, a value as post x says, the world kept -/
def SpF {δ : Type} (pre : δ → List Pd) (post : δ → Pd) (ok : δ → Wd → Prop) : Sp := fun vs H Q _ => ∃ (W : Wd) (x : δ), ok x W ∧ W.J H ∧ PdAll (pre x) vs (W.v H) ∧ ∀ v H', W.J H' → Same (W.v H) (W.v H') → (post x).h v (W.v H') → Q v H'
section
variable {δ : Type} {pre : δ → List Pd} {post : δ → Pd} {ok : δ → Wd → Prop} {W : Wd} {Γ : Ctx} {tA : TA} {E : XK}
theorem TyE.fn (x : δ) (hx : ok x W) (h : TyA W Γ tA (pre x)) : TyE W Γ (tCall (SpF pre post ok) [] E tA) (post x) := TyE.call h fun xs H Q j p q => ⟨W, x, hx, j, p, q⟩
abbrev FnP (K : PySem.W.Frag) (x qual : Str) (st : Stmt) (f : Addr) (fd : FuncData) : Prop := FunD K x qual (defArgs st) (defBody st) (defScope st) [] [] f fd
abbrev cxF (P : Program) (w : World) (K : PySem.W.Frag) (mg : Str → Option Value) (base : Heap) (N : List Str) (qual : Str) (st : Stmt) (f : Addr) (cdv : Value) (A : Around) (outer : List Env) (s : Shared) (H : Hp) (E : XK) : Cx :=
  (cxOf CX0 P w K mg base N qual (defScope st) f cdv A outer s H E).nox
theorem fn_ok {P : Program} {w : World} {K : PySem.W.Frag} {mg : Str → Option Value} {base : Heap} {x qual : Str} {st : Stmt} {f : Addr} {fd : FuncData} {N ps : List Str} {k : Nat} (F : FnP K x qual st f fd) (S : FnScope N ps (defScope st)) (hl : ∀ x, (pre x).length = ps.length)
    (hb : ∀ (cdv : Value) (A : Around) (outer : List Env) (s : Shared) (H : Hp) (E : XK), Room k (A.deeper (envOfC qual (defScope st) s.heap.objs.size f cdv)) →
      ∃ t, PSs (cxF P w K mg base N qual st f cdv A outer s H E) (defBody st) t ∧ ∀ (x : δ) (W : Wd), ok x W → ∀ (B : Hp) (D : Ends), (∀ σ H, W.J H → Same B (W.v H) → (post x).h .non (W.v H) → D.nx σ H) → (∀ v H, W.J H → Same B (W.v H) → (post x).h v (W.v H) → D.rt v H) →
        Nx W B ((pre x).map some ++ List.replicate (N.length - ps.length) none) (t D)) :
    FnOk P w K mg base CX0 (k + 1) f fd ps (SpF pre post ok) := by
  have hlen : ∀ vs H Q E, SpF pre post ok vs H Q E → vs.length = ps.length := fun vs H Q E ⟨W, x, _, _, p, _⟩ => by rw [← p.len, hl]
  refine F.ok S hlen fun cdv A outer s H vs Q E hr h => ?_
  obtain ⟨t, d, r⟩ := hb cdv A outer s H E hr
  refine ⟨t, d.nox, ?_⟩
  have hv := hlen vs H Q E h
  obtain ⟨W, x, hx, j, p, q⟩ := h
  refine r x W hx (W.v H) _ (fun σ H' j' b' p' => q .non H' j' b' p') (fun v H' j' b' p' => q v H' j' b' p') _ H j (Same.refl _) ?_
  exact envR_start p (by rw [hv])
end
theorem ok0 {x : δ} {W : Wd} : (fun (_ : δ) (_ : Wd) => True) x W := trivial
end Tk
namespace Tk
open PySem PySem.Spec PyProof.Rows L2
section
variable {K : PySem.W.Frag} {W : Wd} {Γ Γ' : Ctx} {te ta tb : TE} {P P' P1 P2 P3 : Pd} {Ps Qs : List Pd} {tA : TA}
/-- at once -/
theorem RAT.now {r : List V → Hp → VK → Prop} (h : ∀ xs H, W.J H → PdAll Ps xs (W.v H) → ∃ v, P.h v (W.v H) ∧ ∀ Q : VK, Q v H → r xs H Q) : RAT W r Ps P := fun xs H Q j p q => by
  obtain ⟨v, a, b⟩ := h xs H j p
  exact b Q (q v H j (Same.refl _) a)
theorem PdAll.one {xs : List V} {H : Hp} (h : PdAll [P] xs H) : ∃ x, xs = [x] ∧ P.h x H := by
  obtain ⟨x, r, rfl, p, t⟩ := h.uncons
  rw [t.unnil]
  exact ⟨x, rfl, p⟩
theorem PdAll.two {xs : List V} {H : Hp} (h : PdAll [P1, P2] xs H) : ∃ x y, xs = [x, y] ∧ P1.h x H ∧ P2.h y H := by
  obtain ⟨x, r, rfl, p, t⟩ := h.uncons
  obtain ⟨y, rfl, q⟩ := t.one
  exact ⟨x, y, rfl, p, q⟩
theorem RAT.pre {r : List V → Hp → VK → Prop} (h : RAT W r Ps P) (f : ∀ xs H, PdAll Qs xs H → PdAll Ps xs H) : RAT W r Qs P := fun xs H Q j p q => h xs H Q j (f _ _ p) q
theorem RAT.imp {r : List V → Hp → VK → Prop} (h : RAT W r Ps P) (f : ∀ v H, P.h v H → P'.h v H) : RAT W r Ps P' := fun xs H Q j p q => h xs H Q j p fun v H' a b c => q v H' a b (f _ _ c)
theorem RAT.pre1 {r : List V → Hp → VK → Prop} (h : RAT W r [P1] P) (f : ∀ v H, P2.h v H → P1.h v H) : RAT W r [P2] P := h.pre fun xs H p => by
  obtain ⟨x, rfl, p1⟩ := p.one
  exact .cons (f _ _ p1) .nil
theorem RAT.or1 {r r' : List V → Hp → VK → Prop} (h : RAT W r Ps P) : RAT W (fun xs H Q => r xs H Q ∨ r' xs H Q) Ps P := fun xs H Q j p q => .inl (h xs H Q j p q)
theorem RAT.or2 {r r' : List V → Hp → VK → Prop} (h : RAT W r' Ps P) : RAT W (fun xs H Q => r xs H Q ∨ r' xs H Q) Ps P := fun xs H Q j p q => .inr (h xs H Q j p q)
/-! ### isinstance -/
def tyN : PyData → String
  | .none => "NoneType"
  | .bool _ => "bool"
  | .int _ => "int"
  | .str _ => "str"
  | .list _ => "list"
  | .tuple _ => "tuple"
  | .dict _ => "dict"
theorem tyx_dp {H : Hp} {v : V} {d : PyData} (h : Dp K H v d) : TyX K H v (.type (tyN d)) := by
  cases h with
  | non => exact .base .non
  | bl b => exact .base (.bl b)
  | int i => exact .base (.int i)
  | str x => exact .base (.str x)
  | lst hs _ =>
    rcases hs with (hs | ⟨o, hs⟩) | ⟨o, its, n, hk, hc, _⟩
    · exact .base (.lst hs)
    · exact .base (.frz hs)
    · exact .kList hk hc
  | tup hs _ =>
    rcases hs with (hs | ⟨o, hs⟩) | ⟨o, its, n, hk, hc, _⟩
    · exact .base (.tup hs)
    · exact .fTuple hs
    · exact .kTuple hk hc
theorem ra_isi {d : PyData} {T : String} {b : Bool} (h : kitB (tyN d) T = some b) : RAT W (rIsi K) [rep K d, isV (.ty T)] (rep K (.bool b)) := .now fun xs H _ p => by
  obtain ⟨x, y, rfl, p1, p2⟩ := p.two
  exact ⟨.bl b, .bl b, fun Q q => ⟨x, y, _, _, b, rfl, by rw [show y = .ty T from p2]; exact .ty T, tyx_dp (dp_up p1), kit_ty h, q⟩⟩
theorem ra_isS {z : Str} : RAT W (rIsi K) [rep K (.str z), isV (.ty "str")] (rep K (.bool true)) := ra_isi (d := .str z) (show kitB "str" "str" = some true by decide +kernel)
theorem ra_isTD {ds : List PyData} : RAT W (rIsi K) [rep K (.tuple ds), isV (.ty "tuple")] (rep K (.bool true)) := ra_isi (d := .tuple ds) (show kitB "tuple" "tuple" = some true by decide +kernel)
theorem tyx_tup {H : Hp} {v : V} (h : (tupOf K Ps).h v H) : TyX K H v (.type "tuple") := by
  obtain ⟨a, xs, rfl, hs, _⟩ := h
  rcases hs with (hs | ⟨o, hs⟩) | ⟨o, its, n, hk, hc, _⟩
  · exact .base (.tup hs)
  · exact .fTuple hs
  · exact .kTuple hk hc
theorem tyx_lst {H : Hp} {v : V} (h : (lstOf K Ps).h v H) : TyX K H v (.type "list") := by
  obtain ⟨a, xs, rfl, hs, _⟩ := h
  rcases hs with (hs | ⟨o, hs⟩) | ⟨o, its, n, hk, hc, _⟩
  · exact .base (.lst hs)
  · exact .base (.frz hs)
  · exact .kList hk hc
theorem tup_up {H : Hp} {v : V} (h : (tupOf K Ps).h v (W.v H)) : (tupOf K Ps).h v H := Pd.mono _ vw_le h
theorem lst_up {H : Hp} {v : V} (h : (lstOf K Ps).h v (W.v H)) : (lstOf K Ps).h v H := Pd.mono _ vw_le h
theorem kit_ss : kitB "str" "str" = some true := by decide +kernel
theorem kit_tt : kitB "tuple" "tuple" = some true := by decide +kernel
theorem kit_ll : kitB "list" "list" = some true := by decide +kernel
theorem kit_lt : kitB "list" "tuple" = some false := by decide +kernel
theorem ra_isiT {T : String} {b : Bool} (h : kitB "tuple" T = some b) : RAT W (rIsi K) [tupOf K Ps, isV (.ty T)] (rep K (.bool b)) := .now fun xs H _ p => by
  obtain ⟨x, y, rfl, p1, p2⟩ := p.two
  exact ⟨.bl b, .bl b, fun Q q => ⟨x, y, _, _, b, rfl, by rw [show y = .ty T from p2]; exact .ty T, tyx_tup (tup_up p1), kit_ty h, q⟩⟩
theorem ra_isT : RAT W (rIsi K) [tupOf K Ps, isV (.ty "tuple")] (rep K (.bool true)) := ra_isiT kit_tt
theorem ra_isiL {T : String} {b : Bool} (h : kitB "list" T = some b) : RAT W (rIsi K) [lstOf K Ps, isV (.ty T)] (rep K (.bool b)) := .now fun xs H _ p => by
  obtain ⟨x, y, rfl, p1, p2⟩ := p.two
  exact ⟨.bl b, .bl b, fun Q q => ⟨x, y, _, _, b, rfl, by rw [show y = .ty T from p2]; exact .ty T, tyx_lst (lst_up p1), kit_ty h, q⟩⟩
/-! ### len, all, any -/
def rLenA (K : PySem.W.Frag) : List V → Hp → VK → Prop := fun xs H Q => ∃ x n, xs = [x] ∧ LenV K x H n ∧ Q (.int n) H
theorem call_lenA {X : Cx} : CallR X (.builtin "len") (rLenA X.K) := call_len
theorem ra_lenS {z : Str} (h : z.length ≤ 1000) : RAT W (rLenA K) [rep K (.str z)] (rep K (.int (z.length : Nat))) := .now fun xs H _ p => by
  obtain ⟨x, rfl, p1⟩ := p.one
  rw [dp_str p1]
  exact ⟨_, .int _, fun Q q => ⟨_, _, rfl, ⟨Nat.le_of_lt (small1000 h), rfl⟩, q⟩⟩
theorem ra_lenT : RAT W (rLenA K) [tupOf K Ps] (rep K (.int (Ps.length : Nat))) := .now fun xs H _ p => by
  obtain ⟨x, rfl, a, ys, rfl, hs, p1⟩ := p.one
  exact ⟨_, .int _, fun Q q => ⟨_, _, rfl, .inr ⟨ys, sq_t hs, p1.len⟩, q⟩⟩
theorem ra_lenL : RAT W (rLenA K) [lstOf K Ps] (rep K (.int (Ps.length : Nat))) := .now fun xs H _ p => by
  obtain ⟨x, rfl, a, ys, rfl, hs, p1⟩ := p.one
  exact ⟨_, .int _, fun Q q => ⟨_, _, rfl, .inl ⟨ys, sq_l hs, p1.len⟩, q⟩⟩
theorem ra_lenD {ds : List PyData} : RAT W (rLenA K) [rep K (.tuple ds)] (rep K (.int (ds.length : Nat))) := by
  have h := (ra_lenT (K := K) (W := W) (Ps := ds.map (rep K))).pre1 (P2 := rep K (.tuple ds)) fun v H => tup_of
  rw [List.length_map] at h
  exact h
theorem ra_lenDL {ds : List PyData} : RAT W (rLenA K) [rep K (.list ds)] (rep K (.int (ds.length : Nat))) := by
  have h := (ra_lenL (K := K) (W := W) (Ps := ds.map (rep K))).pre1 (P2 := rep K (.list ds)) fun v H => lst_of
  rw [List.length_map] at h
  exact h
theorem bls_of {H : Hp} : ∀ {bs : List Bool} {xs : List V}, PdAll (bs.map fun b => rep K (.bool b)) xs H → xs = bs.map V.bl
  | [], xs, h => h.unnil
  | b :: bs, xs, h => by
    obtain ⟨x, r, rfl, p, t⟩ := PdAll.uncons h
    rw [dp_bl p, bls_of t] <;> rfl
theorem strs_of {H : Hp} : ∀ {bs : List Str} {xs : List V}, PdAll (bs.map fun b => rep K (.str b)) xs H → xs = bs.map V.str
  | [], xs, h => h.unnil
  | b :: bs, xs, h => by
    obtain ⟨x, r, rfl, p, t⟩ := PdAll.uncons h
    rw [dp_str p, strs_of t] <;> rfl
theorem ints_of {H : Hp} : ∀ {bs : List Int} {xs : List V}, PdAll (bs.map fun b => rep K (.int b)) xs H → xs = bs.map V.int
  | [], xs, h => h.unnil
  | b :: bs, xs, h => by
    obtain ⟨x, r, rfl, p, t⟩ := PdAll.uncons h
    rw [dp_int p, ints_of t] <;> rfl
theorem ra_all {bs : List Bool} : RAT W (rAll K) [lstOf K (bs.map fun b => rep K (.bool b))] (rep K (.bool (bs.all id))) := .now fun xs H _ p => by
  obtain ⟨x, rfl, a, ys, rfl, hs, p1⟩ := p.one
  exact ⟨_, .bl _, fun Q q => ⟨a, bs, rfl, by rw [← bls_of p1]; exact sq_l hs, q⟩⟩
theorem ra_any {bs : List Bool} : RAT W (rAny K) [lstOf K (bs.map fun b => rep K (.bool b))] (rep K (.bool (bs.any id))) := .now fun xs H _ p => by
  obtain ⟨x, rfl, a, ys, rfl, hs, p1⟩ := p.one
  exact ⟨_, .bl _, fun Q q => ⟨a, bs, rfl, by rw [← bls_of p1]; exact sq_l hs, q⟩⟩
theorem ra_allM {α : Type} {xs : List α} {f : α → Bool} : RAT W (rAll K) [lstOf K (xs.map fun a => rep K (.bool (f a)))] (rep K (.bool (xs.all f))) := by
  have h := ra_all (K := K) (W := W) (bs := xs.map f)
  rw [List.map_map, List.all_map] at h
  exact h
theorem ra_anyM {α : Type} {xs : List α} {f : α → Bool} : RAT W (rAny K) [lstOf K (xs.map fun a => rep K (.bool (f a)))] (rep K (.bool (xs.any f))) := by
  have h := ra_any (K := K) (W := W) (bs := xs.map f)
  rw [List.map_map, List.any_map] at h
  exact h
theorem ra_allT {α : Type} {xs : List α} : RAT W (rAll K) [lstOf K (xs.map fun _ => rep K (.bool true))] (rep K (.bool true)) := by
  have h := ra_allM (K := K) (W := W) (xs := xs) (f := fun _ => true)
  rw [List.all_eq_true.mpr fun _ _ => rfl] at h
  exact h
/-- one sign in a text -/
def rInS : R2 := fun x y H Q => ∃ (c : Nat) (z : Str), x = .str ⟨#[c]⟩ ∧ y = .str z ∧ Q (.bl (decide (c ∈ z.cps.toList))) H
theorem op_inS {X : Cx} : OpR X (compareOp .In) rInS := op_in_sign
theorem r_inS {c : Nat} {z : Str} : R2T W rInS (rep K (.str ⟨#[c]⟩)) (rep K (.str z)) (rep K (.bool (decide (c ∈ z.cps.toList)))) := .now fun x y H _ p q => ⟨_, .bl _, fun Q k => ⟨c, z, dp_str p, dp_str q, k⟩⟩
theorem range_fm {α β : Type} (f : α → Bool) (G : α → β) (d : β) : ∀ xs : List α, ((List.range xs.length).filter (fun i => (xs[i]?.map f).getD false)).map (fun i => (xs[i]?.map G).getD d) = (xs.filter f).map G
  | [] => rfl
  | a :: xs => by
    have ih := range_fm f G d xs
    have e1 : (List.range (a :: xs).length) = 0 :: (List.range xs.length).map Nat.succ := by rw [List.length_cons, List.range_succ_eq_map]
    rw [e1, List.filter_cons, List.filter_map]
    have e2 : ((fun i => (((a :: xs)[i]?).map f).getD false) ∘ Nat.succ) = fun i => (xs[i]?.map f).getD false := by
      funext i; simp
    have e3 : ((fun i => (((a :: xs)[i]?).map G).getD d) ∘ Nat.succ) = fun i => (xs[i]?.map G).getD d := by
      funext i; simp
    rw [e2]
    have h0 : ((((a :: xs)[0]?).map f).getD false) = f a := by simp
    cases hf : f a with
    | true =>
      rw [if_pos (by rw [h0, hf]), List.map_cons, List.map_map, e3, ih, List.filter_cons, if_pos hf, List.map_cons]
      simp
    | false =>
      rw [if_neg (by rw [h0, hf]; decide), List.map_map, e3, ih, List.filter_cons, if_neg (by rw [hf]; decide)]
theorem TyT.yes : TyT W Γ tYes (· = true) := fun σ H Q j e q => q true H rfl j (Same.refl _)
/-- [out x for x in xs if f x] -/
theorem TyE.lcF {α : Type} {wi : TI} {g : TG} {tt : TT} {vs : List Nat} (xs : List α) (F : α → Pd) (f : α → Bool) (G : α → Pd) (hi : TyI W Γ wi (xs.map F)) (hn : xs.length ≤ 1000)
    (hs : ∀ a, a ∈ xs → ∀ (p : Addr) (Qs : List Pd), p ∉ W.A → ∃ Γ1, TyG (W.ownL K p Qs) (wipeG Γ vs) g (F a) Γ1 vs ∧ TyT (W.ownL K p Qs) Γ1 tt (· = f a) ∧ (f a = true → TyE (W.ownL K p Qs) Γ1 te (G a))) :
    TyE W Γ (tLc wi g tt te vs) (lstOf K ((xs.filter f).map G)) := by
  rw [← range_fm f G anyP xs]
  have h := TyE.lc (K := K) (W := W) (Γ := Γ) (te := te) (tt := tt) (g := g) (vs := vs) (fun i => (xs[i]?.map f).getD false) (fun i => (xs[i]?.map G).getD anyP) hi (by rw [List.length_map]; exact hn) (fun i P p Qs hP hp => by
    rw [List.getElem?_map] at hP
    cases e : xs[i]? with
    | none => rw [e] at hP; cases hP
    | some a =>
      rw [e] at hP
      have eP : F a = P := by simpa using hP
      subst eP
      exact hs a (List.mem_of_getElem? e) p Qs hp)
  rw [List.length_map] at h
  exact h
theorem TyE.lcM {α : Type} {wi : TI} {g : TG} {vs : List Nat} (xs : List α) (F : α → Pd) (G : α → Pd) (hi : TyI W Γ wi (xs.map F)) (hn : xs.length ≤ 1000)
    (hs : ∀ a, a ∈ xs → ∀ (p : Addr) (Qs : List Pd), p ∉ W.A → ∃ Γ1, TyG (W.ownL K p Qs) (wipeG Γ vs) g (F a) Γ1 vs ∧ TyE (W.ownL K p Qs) Γ1 te (G a)) :
    TyE W Γ (tLc wi g tYes te vs) (lstOf K (xs.map G)) := by
  have h := TyE.lcF (K := K) (te := te) (tt := tYes) (g := g) (vs := vs) xs F (fun _ => true) G hi hn (fun a ha p Qs hp => by
    obtain ⟨Γ1, h1, h2⟩ := hs a ha p Qs hp
    exact ⟨Γ1, h1, TyT.yes, fun _ => h2⟩)
  rw [List.filter_eq_self.mpr fun _ _ => rfl] at h
  exact h
end
/-! ### names of the module -/
section
variable {X : Cx}
theorem pe_gi {x : Str} {i : Int} {pos : Pos} (hg : Gl X x) (h : ∃ t, X.mg x = some (.int i t)) (hd : (x == ("__debug__" : Str)) = false := by decide) : PE X (.Name x pos) (tC (.int i)) := let ⟨t, e⟩ := h; pe_glob hg e ⟨t, rfl⟩ hd
theorem pe_gs {x : Str} {i : Str} {pos : Pos} (hg : Gl X x) (h : ∃ t, X.mg x = some (.str i t)) (hd : (x == ("__debug__" : Str)) = false := by decide) : PE X (.Name x pos) (tC (.str i)) := let ⟨t, e⟩ := h; pe_glob hg e ⟨t, rfl⟩ hd
def rTupOf (K : PySem.W.Frag) : List V → Hp → VK → Prop := fun xs H Q => ∃ p ys, xs = [.ref p] ∧ ((SqL K H p ys ∧ ∀ l, H l = none → Q (.ref l) (upd H l (.tup ys))) ∨ (SqT K H p ys ∧ Q (.ref p) H))
theorem call_tupOf : CallR X (.type "tuple") (rTupOf X.K) := call_tuple_of
def rLstOf (K : PySem.W.Frag) : List V → Hp → VK → Prop := fun xs H Q => ∃ p ys, xs = [.ref p] ∧ (SqL K H p ys ∨ SqT K H p ys) ∧ ∀ l, H l = none → Q (.ref l) (upd H l (.lst ys))
theorem call_lstOf : CallR X (.type "list") (rLstOf X.K) := call_list_of
def rMaxI : List V → Hp → VK → Prop := fun xs H Q => ∃ i j, xs = [.int i, .int j] ∧ Q (.int (if j > i then j else i)) H
def rMinI : List V → Hp → VK → Prop := fun xs H Q => ∃ i j, xs = [.int i, .int j] ∧ Q (.int (if j < i then j else i)) H
theorem call_maxI (hc : X.calm = true) : CallR X (.builtin "max") rMaxI := call_max2 hc
theorem call_minI (hc : X.calm = true) : CallR X (.builtin "min") rMinI := call_min2 hc
def rLtS : R2 := fun x y H Q => ∃ i j, x = .str i ∧ y = .str j ∧ Q (.bl (decide (i.cps.toList < j.cps.toList))) H
theorem op_ltS : OpR X (compareOp .Lt) rLtS := op_lt_str
def rAddS : R2 := fun x y H Q => ∃ i j, x = .str i ∧ y = .str j ∧ i.length + j.length ≤ sizeLine ∧ Q (.str (i ++ j)) H
theorem op_addS : OpR X (binaryOp .Add) rAddS := op_add_str
end
section
variable {K : PySem.W.Frag} {W : Wd} {Γ Γ' : Ctx} {te ta tb : TE} {P P' P1 P2 P3 : Pd} {Ps Qs : List Pd} {tA : TA}
theorem ra_tupL : RAT W (rTupOf K) [lstOf K Ps] (tupOf K Ps) := fun xs H Q j p q => by
  obtain ⟨x, rfl, a, ys, rfl, hs, p1⟩ := p.one
  refine ⟨a, ys, rfl, .inl ⟨sq_l hs, fun l hl => ?_⟩⟩
  obtain ⟨j2, s2, e2⟩ := W.alloc j hl (.tup ys)
  exact q _ _ j2 s2 ⟨l, ys, rfl, SqT.of e2, p1.mono s2⟩
theorem ra_lstT : RAT W (rLstOf K) [tupOf K Ps] (lstOf K Ps) := fun xs H Q j p q => by
  obtain ⟨x, rfl, a, ys, rfl, hs, p1⟩ := p.one
  refine ⟨a, ys, rfl, .inr (sq_t hs), fun l hl => ?_⟩
  obtain ⟨j2, s2, e2⟩ := W.alloc j hl (.lst ys)
  exact q _ _ j2 s2 ⟨l, ys, rfl, SqL.of e2, p1.mono s2⟩
theorem ra_max {i k : Int} : RAT W rMaxI [rep K (.int i), rep K (.int k)] (rep K (.int (if k > i then k else i))) := .now fun xs H _ p => by
  obtain ⟨x, y, rfl, p1, p2⟩ := p.two
  rw [dp_int p1, dp_int p2]
  exact ⟨_, .int _, fun Q q => ⟨i, k, rfl, q⟩⟩
theorem ra_min {i k : Int} : RAT W rMinI [rep K (.int i), rep K (.int k)] (rep K (.int (if k < i then k else i))) := .now fun xs H _ p => by
  obtain ⟨x, y, rfl, p1, p2⟩ := p.two
  rw [dp_int p1, dp_int p2]
  exact ⟨_, .int _, fun Q q => ⟨i, k, rfl, q⟩⟩
theorem r_ltS {a b : Str} : R2T W rLtS (rep K (.str a)) (rep K (.str b)) (rep K (.bool (decide (a.cps.toList < b.cps.toList)))) := .now fun x y H _ p q => ⟨_, .bl _, fun Q k => ⟨a, b, dp_str p, dp_str q, k⟩⟩
theorem r_addS {a b : Str} (h : a.length + b.length ≤ 1000) : R2T W rAddS (rep K (.str a)) (rep K (.str b)) (rep K (.str (a ++ b))) := .now fun x y H _ p q => ⟨_, .str _, fun Q k => ⟨a, b, dp_str p, dp_str q, Nat.le_of_lt (small1000 h), k⟩⟩
/-- in a tuple, a list of texts -/
theorem eqV_str {a b : Str} : eqV (.str a) (.str b) = decide (a = b) := by
  show (a == b) = _
  rw [Bool.beq_eq_decide_eq]
theorem inV_strs {a : Str} : ∀ {xs : List Str}, inV (.str a) (xs.map V.str) = decide (a ∈ xs)
  | [] => by simp [inV]
  | x :: xs => by
    have ih := inV_strs (a := a) (xs := xs)
    unfold inV at ih ⊢
    rw [List.map_cons, List.any_cons, ih, eqV_str]
    by_cases h : x = a
    · subst h; simp
    · have h' : ¬ a = x := fun z => h z.symm
      simp [h, h']
theorem flat_strs : ∀ {xs : List Str}, (xs.map V.str).all flatV = true
  | [] => rfl
  | x :: xs => by rw [List.map_cons, List.all_cons, flat_strs] <;> rfl
theorem r_inT {a : Str} {xs : List Str} : R2T W (rIn K false) (rep K (.str a)) (tupOf K (xs.map fun b => rep K (.str b))) (rep K (.bool (decide (a ∈ xs)))) := .now fun x y H _ p ⟨t, ys, e, hs, q⟩ => ⟨_, .bl _, fun Q k => by
  have e2 := strs_of q
  subst e2
  refine ⟨t, _, e, .inr (sq_t hs), ?_, flat_strs, ?_⟩
  · rw [dp_str p]; rfl
  · rw [if_neg Bool.false_ne_true, dp_str p, inV_strs]; exact k⟩
theorem r_inTn {a : Str} {xs : List Str} : R2T W (rIn K true) (rep K (.str a)) (tupOf K (xs.map fun b => rep K (.str b))) (rep K (.bool (!decide (a ∈ xs)))) := .now fun x y H _ p ⟨t, ys, e, hs, q⟩ => ⟨_, .bl _, fun Q k => by
  have e2 := strs_of q
  subst e2
  refine ⟨t, _, e, .inr (sq_t hs), ?_, flat_strs, ?_⟩
  · rw [dp_str p]; rfl
  · rw [if_pos rfl, dp_str p, inV_strs]; exact k⟩
/-- slices, sums of tuples and lists -/
theorem r_catA (hl : Ps.length + Qs.length ≤ 1000) : R2T W (rCatA K) (tupOf K Ps) (tupOf K Qs) (tupOf K (Ps ++ Qs)) := fun x y H Q j ⟨a, xs, e1, h1, p1⟩ ⟨b, ys, e2, h2, p2⟩ q => by
  refine ⟨a, b, xs, ys, e1, e2, sq_t h1, sq_t h2, ?_, fun e => ?_, fun _ e => ?_, fun _ _ p hp => ?_⟩
  · rw [← p1.len, ← p2.len]; exact Nat.le_of_lt (small1000 hl)
  · refine q _ H j (Same.refl _) ⟨b, ys, rfl, h2, ?_⟩
    have := p1.append p2
    rw [e] at this
    exact this
  · refine q _ H j (Same.refl _) ⟨a, xs, rfl, h1, ?_⟩
    have := p1.append p2
    rw [e, List.append_nil] at this
    exact this
  · obtain ⟨j2, s2, e2⟩ := W.alloc j hp (.tup (xs ++ ys))
    exact q _ _ j2 s2 ⟨p, _, rfl, SqT.of e2, (p1.append p2).mono s2⟩
/-- sums of lists that are tracked: a list's own form -/
def lstN (Ps : List Pd) : Pd := ⟨fun v H => ∃ a xs, v = .ref a ∧ H a = some (.lst xs) ∧ PdAll Ps xs H, fun e ⟨a, xs, h1, h2, h3⟩ => ⟨a, xs, h1, e _ _ h2, h3.mono e⟩⟩
theorem lstN_of {v : V} {H : Hp} (h : (lstN Ps).h v H) : (lstOf K Ps).h v H := let ⟨a, xs, e, h1, h2⟩ := h; ⟨a, xs, e, SqL.of h1, h2⟩
theorem TyE.lstN (h : TyA W Γ tA Ps) (hl : Ps.length ≤ 1000 := by exact Nat.le_of_ble_eq_true rfl) : TyE W Γ (tLst tA) (lstN Ps) := fun σ H Q j e q =>
  h σ H _ j e fun xs H1 j1 s1 p1 => ⟨by rw [← p1.len]; exact Nat.le_of_lt (small1000 hl), fun p hp => by
    obtain ⟨j2, s2, e2⟩ := W.alloc j1 hp (.lst xs)
    exact q _ _ j2 (s1.trans s2) ⟨p, xs, rfl, e2, p1.mono s2⟩⟩
theorem r_cat (hl : Ps.length + Qs.length ≤ 1000) : R2T W rCat (lstN Ps) (lstN Qs) (lstN (Ps ++ Qs)) := fun x y H Q j ⟨a, xs, e1, h1, p1⟩ ⟨b, ys, e2, h2, p2⟩ q => by
  refine ⟨a, b, xs, ys, e1, e2, (vw_some h1).2, (vw_some h2).2, ?_, fun p hp => ?_⟩
  · rw [← p1.len, ← p2.len]; exact Nat.le_of_lt (small1000 hl)
  · obtain ⟨j2, s2, e2⟩ := W.alloc j hp (.lst (xs ++ ys))
    exact q _ _ j2 s2 ⟨p, _, rfl, e2, (p1.append p2).mono s2⟩
theorem PdAll.take {xs : List V} {H : Hp} (h : PdAll Ps xs H) (n : Nat) : PdAll (Ps.take n) (xs.take n) H := ⟨by rw [List.length_take, List.length_take, h.len], fun i P x a b => by
  rw [List.getElem?_take] at a b
  by_cases hi : i < n
  · rw [if_pos hi] at a b; exact h.at_ i P x a b
  · rw [if_neg hi] at a; cases a⟩
theorem PdAll.drop {xs : List V} {H : Hp} (h : PdAll Ps xs H) (n : Nat) : PdAll (Ps.drop n) (xs.drop n) H := ⟨by rw [List.length_drop, List.length_drop, h.len], fun i P x a b => by
  rw [List.getElem?_drop] at a b
  exact h.at_ _ P x a b⟩
def cutP {α : Type} (xs : List α) (lo hi : Option Int) : List α := (xs.drop (HT.sIx xs.length 0 lo)).take (HT.sIx xs.length xs.length hi - HT.sIx xs.length 0 lo)
theorem cut_all {xs : List V} {H : Hp} (h : PdAll Ps xs H) (lo hi : Option Int) : PdAll (cutP Ps lo hi) (cutV xs lo hi) H := by
  unfold cutP cutV
  rw [h.len]
  exact (h.drop _).take _
theorem cutP_map {α β : Type} (f : α → β) (xs : List α) (lo hi : Option Int) : cutP (xs.map f) lo hi = (cutP xs lo hi).map f := by
  unfold cutP
  rw [List.length_map, List.map_take, List.map_drop]
theorem cutP_from {α : Type} (xs : List α) (k : Nat) : cutP xs (some (k : Int)) none = xs.drop k := by
  unfold cutP
  rw [HT.sIx_nat, HT.sIx_none]
  by_cases h : k ≤ xs.length
  · rw [Nat.min_eq_left h, List.take_of_length_le (by rw [List.length_drop]; exact Nat.le_refl _)]
  · rw [Nat.min_eq_right (by omega), List.drop_eq_nil_of_le (Nat.le_refl _), List.drop_eq_nil_of_le (by omega), List.take_nil]
theorem cutP_to {α : Type} (xs : List α) (k : Nat) : cutP xs none (some (k : Int)) = xs.take k := by
  unfold cutP
  rw [HT.sIx_nat, HT.sIx_none, List.drop_zero, Nat.sub_zero]
  by_cases h : k ≤ xs.length
  · rw [Nat.min_eq_left h]
  · rw [Nat.min_eq_right (by omega), List.take_of_length_le (Nat.le_refl _), List.take_of_length_le (by omega)]
variable {tl th : TO} {lo hi : Option Int}
theorem TyE.slL (he : TyE W Γ te (lstOf K Ps)) (hl : TyO W Γ tl lo) (hh : TyO W Γ th hi) : TyE W Γ (tSl (rSlL K) te tl th) (Tk.lstN (cutP Ps lo hi)) := fun σ H Q j e q =>
  he σ H _ j e fun x H1 j1 s1 p1 => hl σ H1 _ j1 (e.mono s1) fun H2 j2 s2 => hh σ H2 _ j2 (e.mono (s1.trans s2)) fun H3 j3 s3 => by
    obtain ⟨a, xs, e1, hs, p⟩ := Pd.mono _ (s2.trans s3) p1
    refine ⟨a, xs, e1, sq_l hs, fun l hl => ?_⟩
    obtain ⟨j4, s4, e4⟩ := W.alloc j3 hl (.lst (cutV xs lo hi))
    exact q _ _ j4 (((s1.trans s2).trans s3).trans s4) ⟨l, _, rfl, e4, (cut_all p lo hi).mono s4⟩
theorem TyE.slT (he : TyE W Γ te (tupOf K Ps)) (hl : TyO W Γ tl lo) (hh : TyO W Γ th hi) (hn : ¬ (HT.sIx Ps.length 0 lo = 0 ∧ HT.sIx Ps.length Ps.length hi = Ps.length)) : TyE W Γ (tSl (rSlT K) te tl th) (tupOf K (cutP Ps lo hi)) := fun σ H Q j e q =>
  he σ H _ j e fun x H1 j1 s1 p1 => hl σ H1 _ j1 (e.mono s1) fun H2 j2 s2 => hh σ H2 _ j2 (e.mono (s1.trans s2)) fun H3 j3 s3 => by
    obtain ⟨a, xs, e1, hs, p⟩ := Pd.mono _ (s2.trans s3) p1
    refine ⟨a, xs, e1, sq_t hs, by rw [← p.len]; exact hn, fun l hl => ?_⟩
    obtain ⟨j4, s4, e4⟩ := W.alloc j3 hl (.tup (cutV xs lo hi))
    exact q _ _ j4 (((s1.trans s2).trans s3).trans s4) ⟨l, _, rfl, SqT.of e4, (cut_all p lo hi).mono s4⟩
theorem TyE.slS {z : Str} (he : TyE W Γ te (rep K (.str z))) (hl : TyO W Γ tl lo) (hh : TyO W Γ th hi) (hz : z.length ≤ 1000) : TyE W Γ (tSl rSlS te tl th) (rep K (.str (cutS z lo hi))) := fun σ H Q j e q =>
  he σ H _ j e fun x H1 j1 s1 p1 => hl σ H1 _ j1 (e.mono s1) fun H2 j2 s2 => hh σ H2 _ j2 (e.mono (s1.trans s2)) fun H3 j3 s3 => ⟨z, dp_str p1, Nat.le_of_lt (small1000 hz), q _ H3 j3 ((s1.trans s2).trans s3) (.str _)⟩
end
section
variable {K : PySem.W.Frag} {W : Wd} {Γ : Ctx} {Ps : List Pd} {B : Hp} {k : L2.St → Hp → Prop}
/-- the list is given back -/
theorem Nx.free {p : Addr} (i : Nat) (hp : p ∉ W.A) (e : Γ[i]? = some (some (isV (.ref p)))) (h : Nx W B (Γ.set i (some (lstN Ps))) k) : Nx (W.ownL K p Ps) B Γ k := fun σ H j b en => by
  obtain ⟨jf, sf, pf⟩ := ownL_free j hp
  obtain ⟨v, e1, e2⟩ := en.at_ i _ e
  have ev : v = .ref p := e2
  subst ev
  have pn : (lstN Ps).h (.ref p) (W.v H) := by
    obtain ⟨_, o, eo, xs, e3, f⟩ := id j
    subst e3
    refine ⟨p, xs, rfl, ?_, f.mono sf⟩
    show vw W.A H p = _
    rw [vw_out hp]; exact eo
  have q := (en.mono sf).set i pn
  rw [set_at e1] at q
  exact h σ H jf (b.trans sf) q
theorem ra_lenO {p : Addr} : RAT (W.ownL K p Ps) (rLenA K) [isV (.ref p)] (rep K (.int (Ps.length : Nat))) := .now fun xs H j q => by
  obtain ⟨x, rfl, e⟩ := q.one
  have ex : x = .ref p := e
  subst ex
  obtain ⟨_, o, eo, ys, e3, f⟩ := id j
  subst e3
  exact ⟨_, .int _, fun Q q => ⟨_, _, rfl, .inl ⟨ys, SqL.of eo, f.len⟩, q⟩⟩
end
/-! zip -/
section
variable {K : PySem.W.Frag} {W : Wd} {Γ Γ' : Ctx} {P P' P1 P2 P3 : Pd} {Ps Qs : List Pd} {tA : TA}
theorem zipW {α β : Type} : ∀ (xs : List α) (ys : List β) (F : α → Pd) (G : β → Pd) (d : Pd), (List.range (min xs.length ys.length)).map (fun i => tupOf K [((xs.map F)[i]?).getD d, ((ys.map G)[i]?).getD d]) = (xs.zip ys).map fun p => tupOf K [F p.1, G p.2]
  | [], ys, F, G, d => by simp
  | x :: xs, [], F, G, d => by simp
  | x :: xs, y :: ys, F, G, d => by
    have ih := zipW xs ys F G d
    have e : min (x :: xs).length (y :: ys).length = min xs.length ys.length + 1 := by
      rw [List.length_cons, List.length_cons]; omega
    rw [e, List.range_succ_eq_map, List.map_cons, List.map_map, List.zip_cons_cons]
    show _ = tupOf K [F x, G y] :: ((xs.zip ys).map fun p => tupOf K [F p.1, G p.2])
    rw [← ih]
    rfl
theorem TyI.zipT {α β : Type} (xs : List α) (ys : List β) (F : α → Pd) (G : β → Pd) (h : TyA W Γ tA [tupOf K (xs.map F), tupOf K (ys.map G)]) : TyI W Γ (RZ.iZipA K tA) ((xs.zip ys).map fun p => tupOf K [F p.1, G p.2]) := fun σ H R j e r =>
  h σ H _ j e fun vs H1 j1 s1 p => by
    obtain ⟨u, v, rfl, ⟨a, us, rfl, h1, p1⟩, ⟨b, ws, rfl, h2, p2⟩⟩ := p.two
    refine ⟨a, b, us, ws, rfl, .inr ⟨sq_t h1, sq_t h2, r _ H1 j1 s1 ?_⟩⟩
    rw [← zipW (K := K) xs ys F G anyP]
    have l1 : xs.length = us.length := by rw [← p1.len, List.length_map]
    have l2 : ys.length = ws.length := by rw [← p2.len, List.length_map]
    refine wk_pair (fun W' H' i j' b' hi => ?_) (fun W' H' j' b' => ?_) fun W' H' i v H2 j' b' hi hy => ?_
    · have hu : i < us.length := by omega
      have hw : i < ws.length := by omega
      exact ⟨us, ws, _, _, sq_t (same_t b' h1), sq_t (same_t b' h2), List.getElem?_eq_getElem hu, List.getElem?_eq_getElem hw⟩
    · exact ⟨us, ws, sq_t (same_t b' h1), sq_t (same_t b' h2), by omega⟩
    · obtain ⟨T, x, y, e1, hT, e2, f1, f2⟩ := hy
      have hu : i < xs.length := by omega
      have hw : i < ys.length := by omega
      have q1 := f1 us (sq_t (same_t b' h1))
      have q2 := f2 ws (sq_t (same_t b' h2))
      refine ⟨T, x, y, e1, hT, e2, Pd.mono _ b' (p1.at_ i _ x ?_ q1), Pd.mono _ b' (p2.at_ i _ y ?_ q2)⟩
      · rw [List.getElem?_eq_getElem (by rw [List.length_map]; exact hu)]; rfl
      · rw [List.getElem?_eq_getElem (by rw [List.length_map]; exact hw)]; rfl
theorem TyI.zipL {α β : Type} (xs : List α) (ys : List β) (F : α → Pd) (G : β → Pd) (h : TyA W Γ tA [lstOf K (xs.map F), lstOf K (ys.map G)]) : TyI W Γ (iZip K tA) ((xs.zip ys).map fun p => tupOf K [F p.1, G p.2]) := fun σ H R j e r =>
  h σ H _ j e fun vs H1 j1 s1 p => by
    obtain ⟨u, v, rfl, ⟨a, us, rfl, h1, p1⟩, ⟨b, ws, rfl, h2, p2⟩⟩ := p.two
    refine ⟨a, b, us, ws, rfl, sq_l h1, sq_l h2, r _ H1 j1 s1 ?_⟩
    rw [← zipW (K := K) xs ys F G anyP]
    have l1 : xs.length = us.length := by rw [← p1.len, List.length_map]
    have l2 : ys.length = ws.length := by rw [← p2.len, List.length_map]
    refine wk_pair (fun W' H' i j' b' hi => ?_) (fun W' H' j' b' => ?_) fun W' H' i v H2 j' b' hi hy => ?_
    · have hu : i < us.length := by omega
      have hw : i < ws.length := by omega
      exact ⟨us, ws, _, _, sq_l (b'.seq h1), sq_l (b'.seq h2), List.getElem?_eq_getElem hu, List.getElem?_eq_getElem hw⟩
    · exact ⟨us, ws, sq_l (b'.seq h1), sq_l (b'.seq h2), by omega⟩
    · obtain ⟨T, x, y, e1, hT, e2, f1, f2⟩ := hy
      have hu : i < xs.length := by omega
      have hw : i < ys.length := by omega
      have q1 := f1 us (sq_l (b'.seq h1))
      have q2 := f2 ws (sq_l (b'.seq h2))
      refine ⟨T, x, y, e1, hT, e2, Pd.mono _ b' (p1.at_ i _ x ?_ q1), Pd.mono _ b' (p2.at_ i _ y ?_ q2)⟩
      · rw [List.getElem?_eq_getElem (by rw [List.length_map]; exact hu)]; rfl
      · rw [List.getElem?_eq_getElem (by rw [List.length_map]; exact hw)]; rfl
end
/-! ### the rules with the written part named (within a comprehension's block it must not hang on the block) -/
section
variable {X : Cx} (K : PySem.W.Frag)
theorem k_isi (h : X.K = K := by rfl) : CallR X (.builtin "isinstance") (rIsi K) := h ▸ call_isi
theorem k_len (h : X.K = K := by rfl) : CallR X (.builtin "len") (rLenA K) := h ▸ call_lenA
theorem k_all (hc : X.calm = true := by rfl) (h : X.K = K := by rfl) : CallR X (.builtin "all") (rAll K) := h ▸ cr_all hc
theorem k_any (hc : X.calm = true := by rfl) (h : X.K = K := by rfl) : CallR X (.builtin "any") (rAny K) := h ▸ cr_any hc
theorem k_tup (h : X.K = K := by rfl) : CallR X (.type "tuple") (rTupOf K) := h ▸ call_tupOf
theorem k_lst (h : X.K = K := by rfl) : CallR X (.type "list") (rLstOf K) := h ▸ call_lstOf
theorem k_in (h : X.K = K := by rfl) : OpR X (compareOp .In) (rIn K false) := h ▸ op_in_seq
theorem k_nin (h : X.K = K := by rfl) : OpR X (compareOp .NotIn) (rIn K true) := h ▸ op_notIn_seq
theorem k_ix (h : X.K = K := by rfl) : IxR X (rIx K) := h ▸ ix_seq
theorem k_catA (h : X.K = K := by rfl) : OpR X (binaryOp .Add) (rCatA K) := h ▸ op_catA
theorem k_slL (h : X.K = K := by rfl) : SlR X (rSlL K) := h ▸ sl_list
theorem k_slT (h : X.K = K := by rfl) : SlR X (rSlT K) := h ▸ sl_tup
theorem k_eqD (hu : X.A.units + 64 < cLine) (h : X.K = K := by rfl) : OpR X (compareOp .Eq) (rEqD K) := h ▸ op_eqD hu
theorem k_neD (hu : X.A.units + 64 < cLine) (h : X.K = K := by rfl) : OpR X (compareOp .NotEq) (rNeD K) := h ▸ op_neD hu
theorem k_nInD (hu : X.A.units + 65 < cLine) (h : X.K = K := by rfl) : OpR X (compareOp .NotIn) (rNotInD K) := h ▸ op_notInD hu
theorem k_sortS (h : X.K = K := by rfl) : CallR X (.builtin "sorted") (rSortedS K) := h ▸ cr_sortedS
variable {tg : Expr} {te : TE} {e : Expr} {pos p tpos : Pos} {ta : TA}
theorem k_list (he : PE X e te) (h : X.K = K := by rfl) : PI X tg e (iList K te) := h ▸ pi_list he
theorem k_tupI (he : PE X e te) (h : X.K = K := by rfl) : PI X tg e (iTup K te) := h ▸ pi_tup he
theorem k_enum {elts : List Expr} {kk : Nat} (hg : Gl X "enumerate") (hm : X.mg "enumerate" = none) (ha : PA X [e] ta) (h : X.K = K := by rfl) (hs : starEach [e] X.env = [(false, eval e X.env)] := by rfl) :
    PI X (.Tuple elts kk tpos) (.Call (.Name "enumerate" p) [e] [] pos) (iEnum K ta) := h ▸ pi_enum hg hm ha hs
theorem k_zip {e2 : Expr} {elts : List Expr} {kk : Nat} (hg : Gl X "zip") (hm : X.mg "zip" = none) (ha : PA X [e, e2] ta) (h : X.K = K := by rfl)
    (hs : starEach [e, e2] X.env = (false, eval e X.env) :: starEach [e2] X.env := by rfl) (hpl : (backTo pos (starEach [e2] X.env)).any (·.1) = false := by rfl) :
    PI X (.Tuple elts kk tpos) (.Call (.Name "zip" p) [e, e2] [] pos) (iZip K ta) := h ▸ pi_zip hg hm ha hs hpl
theorem k_zipT {e2 : Expr} {elts : List Expr} {kk : Nat} (hg : Gl X "zip") (hm : X.mg "zip" = none) (ha : PA X [e, e2] ta) (h : X.K = K := by rfl)
    (hs : starEach [e, e2] X.env = (false, eval e X.env) :: starEach [e2] X.env := by rfl) (hpl : (backTo pos (starEach [e2] X.env)).any (·.1) = false := by rfl) :
    PI X (.Tuple elts kk tpos) (.Call (.Name "zip" p) [e, e2] [] pos) (RZ.iZipA K ta) := h ▸ RZ.pi_zipA hg hm ha hs hpl
theorem k_gtup {es : List Expr} {k : Nat} {t : TGs} (n : Nat) (g : PGs X es t) (hc : X.calm = true := by rfl) (h : X.K = K := by rfl)
    (hn : (assignEach es X.env).length = n := by rfl) (hst : (assignEach es X.env).findIdx? (·.1) = none := by rfl) : PG X (.Tuple es k pos) (gTup K n t) := h ▸ pg_tup hc g hn hst
theorem k_fld {o : Expr} {f : Str} (he : PE X o te) (h : X.K = K := by rfl) (hb : attributeBase o f X.env (eval o X.env) = eval o X.env := by rfl) : PE X (.Attribute o f pos) (tFld K te f) := h ▸ pe_fld he hb
end
/-! ### defs as they are called -/
structure DefOk (P : Program) (w : World) (K : PySem.W.Frag) (mg : Str → Option Value) (base : Heap) (k : Nat) (x : Str) (ps : List Str) (sp : Sp) : Prop where
  ex : ∃ f fd, FnOk P w K mg base CX0 k f fd ps sp ∧ mg x = some (.ref f) ∧ PySem.W.keepIn K (.ref f) = true ∧ Binds K fd ps []
end Tk
namespace Tk
open PySem PySem.Spec PyProof.Rows L2
/-! ### a tuple whose object is known: tuple(list), dict(tuple of pairs) -/
/-- a plain tuple's object -/
def PlainT (o : Obj) : Prop := o.cls = .type "tuple" ∧ o.dict = none
section
variable {X : Cx}
def rTupF (K : PySem.W.Frag) : List V → Hp → VK → Prop := fun xs H Q => ∃ p ys, xs = [.ref p] ∧ SqL K H p ys ∧ ∀ l o, H l = none → PlainT o → Q (.ref l) (upd H l (.frz o (.tup ys)))
theorem call_tupF : CallR X (.type "tuple") (rTupF X.K) := by
  intro pins s σ H xs us Q I r h
  obtain ⟨p, ys, rfl, hq, q⟩ := h
  obtain ⟨u, rfl, rx⟩ := vals1 r
  cases rx
  obtain ⟨its, r', pl, hz⟩ := I.list hq
  have hlen := r'.length
  refine call_tuple_list pl.isList (fun h' kp => ?_) (by rw [List.size_toArray]; omega)
  have I1 : Inv X pins σ H { s with heap := h' } := I.kept (t' := s.toks) kp
  have I2 : Inv X pins σ (upd H h'.objs.size (.frz { cls := .type "tuple", data := .seq its.toArray } (.tup ys))) { s with heap := h'.push { cls := .type "tuple", data := .seq its.toArray } } :=
    I1.laid (t' := s.toks) (fun b o e => Heap.get?_push_of_some _ e) (Nat.le_refl _) (show ObjOk X.prog X.w _ _ _ (.frz _ (.tup ys)) from ⟨Heap.get?_push_size _ rfl, hz, its, r', IsTup.new _ _⟩)
  exact ⟨.ref h'.objs.size, _, I2, rfl, q _ _ (I1.hok.fresh (Nat.le_refl _)) ⟨rfl, rfl⟩⟩
theorem k_tupF (K : PySem.W.Frag) (h : X.K = K := by rfl) : CallR X (.type "tuple") (rTupF K) := h ▸ call_tupF
theorem list_choose {α β : Type} : ∀ (ps : List α) (R : Nat → α → β → Prop), (∀ j q, ps[j]? = some q → ∃ x, R j q x) → ∃ xs : List β, xs.length = ps.length ∧ ∀ j q, ps[j]? = some q → ∃ x, xs[j]? = some x ∧ R j q x
  | [], R, _ => ⟨[], rfl, fun j q e => by simp at e⟩
  | p :: ps, R, h => by
    obtain ⟨x, hx⟩ := h 0 p rfl
    obtain ⟨xs, hl, hs⟩ := list_choose ps (fun j => R (j + 1)) fun j q e => h (j + 1) q (by simpa using e)
    refine ⟨x :: xs, by rw [List.length_cons, List.length_cons, hl], fun j q e => ?_⟩
    cases j with
    | zero =>
      have e' : p = q := by simpa using e
      subst e'
      exact ⟨x, rfl, hx⟩
    | succ j => exact hs j q (by simpa using e)
def rDictT (K : PySem.W.Frag) : List V → Hp → VK → Prop := fun xs H Q => ∃ (a : Addr) (o : Obj) (ps : List Addr) (kvs : List (Key × V)), xs = [.ref a] ∧ H a = some (.frz o (.tup (ps.map V.ref))) ∧ PlainT o ∧ Paired (fun p kv => SqT K H p [kV kv.1, kv.2]) ps kvs ∧
  ∀ p, H p = none → Q (.ref p) (upd H p (.dK (mergeK [] kvs)))
theorem call_dictT (hcalm : X.calm = true) : CallR X (.type "dict") (rDictT X.K) := by
  intro pins s σ H xs us Q I r q
  obtain ⟨a, o, ps, kvs, ex, hq, ⟨hc, hd⟩, hp, q⟩ := q
  subst ex
  obtain ⟨u, eu, rx⟩ := vals1 r
  subst eu
  cases rx
  obtain ⟨ho, hz, its, rv, o2, ho2, hc2, n, hdat⟩ := I.hok a _ hq
  have eo : o2 = o := Option.some.inj (ho2.symm.trans ho)
  subst eo
  have ei := refs_at rv
  subst ei
  rw [List.length_map] at hz
  obtain ⟨prs, rel, hl, hpr⟩ := pairs_of I hp
  obtain ⟨vs, hvl, hvs⟩ := list_choose (β := Value × Value) prs (fun j q x => x.2 = q.2 ∧ ∃ b, ps[j]? = some b ∧ IsTup s.heap b #[x.1, q.2] ∧ keyIs q.1 x.1 = true) fun j q e => by
    obtain ⟨b, u, e1, e2, e3⟩ := hpr j q e
    exact ⟨(u, q.2), rfl, b, e1, e2, e3⟩
  have key : ∀ j k v, vs[j]? = some (k, v) → ∃ kk b, prs[j]? = some (kk, v) ∧ ps[j]? = some b ∧ IsTup s.heap b #[k, v] ∧ keyIs kk k = true := fun j k v e => by
    have hj : j < prs.length := by
      have := (List.getElem?_eq_some_iff.mp e).1
      omega
    obtain ⟨x, e1, e2, b, e3, e4, e5⟩ := hvs j prs[j] (List.getElem?_eq_getElem hj)
    rw [e] at e1
    have ex := Option.some.inj e1
    subst ex
    have e2' : v = prs[j].2 := e2
    subst e2'
    exact ⟨prs[j].1, b, List.getElem?_eq_getElem hj, e3, e4, e5⟩
  refine PySem.call_dict_pairs (knd := mixKind X.prog X.w) (kvs := prs) (PairArg.tuple a ((ps.map Value.ref).toArray) (fun j => ps.getD j 0) vs) (I.ok.hd hcalm) ⟨⟨o2, n, ho, hc, hd, hdat⟩, ?_, fun j k v e => ?_⟩ ⟨?_, fun i k v e => ?_⟩ ?_ fun h' tk hd' k => ?_
  · rw [List.size_toArray, List.length_map, hvl, hl]
  · obtain ⟨kk, b, _, e3, e4, _⟩ := key j k v e
    refine ⟨?_, .inl ?_⟩
    · simp [e3]
    · show s.heap.IsTuple (ps.getD j 0) #[k, v]
      rw [List.getD_eq_getElem?_getD, e3]; exact e4
  · rw [hvl]
  · obtain ⟨kk, b, e1, _, _, e5⟩ := key i k v e
    exact ⟨kk, e1, e5⟩
  · rw [hvl, hl]; exact hz
  · have hm : (s.heap.objs.size == sysModules) = false := beq_eq_false_iff_ne.mpr (Nat.ne_of_gt I.big)
    have hlen : (mergeK [] kvs).length ≤ sizeLine := by
      refine Nat.le_trans (length_mergeK kvs []) ?_
      rw [List.length_nil, Nat.zero_add, rel.length, hl]
      exact hz
    have k' : ∀ b o, s.heap.get? b = some o → h'.get? b = some o := fun b o e => k b o (by simp) e
    exact ⟨.ref s.heap.objs.size, upd H s.heap.objs.size (.dK (mergeK [] kvs)), I.laid (t' := tk) k' (Nat.le_refl _) (show ObjOk X.prog X.w _ _ _ (.dK (mergeK [] kvs)) from ⟨hlen, hm, merged [] prs, KV.merge rel .nil, hd'⟩), rfl, q _ (I.hok.fresh (Nat.le_refl _))⟩
theorem k_dictT (K : PySem.W.Frag) (hcalm : X.calm = true := by rfl) (h : X.K = K := by rfl) : CallR X (.type "dict") (rDictT K) := h ▸ call_dictT hcalm
def rDictL (K : PySem.W.Frag) : List V → Hp → VK → Prop := fun xs H Q => ∃ (a : Addr) (ps : List Addr) (kvs : List (Key × V)), xs = [.ref a] ∧ SqL K H a (ps.map V.ref) ∧ Paired (fun p kv => SqT K H p [kV kv.1, kv.2]) ps kvs ∧
  ∀ p, H p = none → Q (.ref p) (upd H p (.dK (mergeK [] kvs)))
theorem k_dictL (K : PySem.W.Frag) (hcalm : X.calm = true := by rfl) (h : X.K = K := by rfl) : CallR X (.type "dict") (rDictL K) := h ▸ call_dictP hcalm
theorem k_unl (K : PySem.W.Frag) {es : List Expr} {k : Nat} {t : TGs} (n : Nat) {pos : Pos} (g : PGs X es t) (hc : X.calm = true := by rfl) (h : X.K = K := by rfl)
    (hn : (assignEach es X.env).length = n := by rfl) (hst : (assignEach es X.env).findIdx? (·.1) = none := by rfl) : PG X (.Tuple es k pos) (gUnl K n t) := h ▸ pg_unl hc g hn hst
end
/-! ### how often a text is in a list -/
theorem cnt_eqU {k : Str} : ∀ {ns : List Str} {us : List Value}, Vals (ns.map V.str) us → us.countP (eqU (.str k)) = ns.count k
  | [], _, .nil => rfl
  | n :: ns, _, .cons r t => by
    have ih := cnt_eqU (k := k) (ns := ns) t
    rw [List.countP_cons, List.count_cons, ih, eqU_of r rfl] <;> rfl
section
variable {X : Cx}
def rCntS (K : PySem.W.Frag) : V → List V → Hp → VK → Prop := fun x xs H Q => ∃ (p : Addr) (ns : List Str) (k : Str), x = .ref p ∧ xs = [.str k] ∧ SqL K H p (ns.map V.str) ∧ Q (.int (ns.count k : Nat)) H
theorem mt_countS : MtR X "list.count" (rCntS X.K) := by
  intro pins s σ H x xs v us Q I rx rxs h
  obtain ⟨p, ns, k, e1, e2, hs, q⟩ := h
  subst e1 e2
  cases rx
  obtain ⟨u, e3, ru⟩ := rxs.one
  subst e3
  obtain ⟨its, rv, ⟨⟨cls, dd, data, sl⟩, n, ho, hc, hdn, hd⟩, _⟩ := I.list hs
  dsimp only at hc hd
  subst hc hd
  refine call_meets PySem.F.slot_list_count ⟨_, ho, rfl⟩ PySem.F.entry_list_count (PySem.F.args_list_count_2 _ _) (SeqAt.list_countAt p its.toArray n dd sl u (eqU (.str k)))
    ⟨ho, fun y hy => mem_eqAt ru rfl rv flat_strs y (by simpa using hy), ?_⟩
  have ec : its.toArray.toList.countP (eqU (.str k)) = ns.count k := cnt_eqU rv
  refine ⟨.int (ns.count k : Nat), H, I.tok _, ⟨s.toks, ?_⟩, q⟩
  show Value.int ((its.toArray.toList.countP (eqU (.str k)) : Nat) : Int) s.toks = _
  rw [ec]
theorem k_cnt (K : PySem.W.Frag) (h : X.K = K := by rfl) : MtR X "list.count" (rCntS K) := h ▸ mt_countS
end
theorem k_bm {X : Cx} (K : PySem.W.Frag) {o e : Expr} {es : List Expr} {to : TE} {t : TA} {name : Str} {apos cpos : Pos} {T id : String} {r : V → List V → Hp → VK → Prop} (pa : PlainAttrs T) (slot : Slot T name id) (hty : typeOf (.builtin id) = pure (.type "method_descriptor")) (hm : MtR X id r) (ho : PE X o to) (ha : PA X (e :: es) t)
    (h : X.K = K := by rfl) (hbase : attributeBase o name X.env (eval o X.env) = eval o X.env := by rfl)
    (hfew : ((backTo cpos (starEach (e :: es) X.env)).all (fun x => !x.1) && (backToKw cpos (keywordEach [] X.env)).all (fun x => x.1.isSome)
      && decide ((e :: es).length + ([] : List Keyword).length + (if ([] : List Keyword).isEmpty then 0 else 1) < 30)) = true := by rfl)
    (hline : (apos.endLine == cpos.line) = true := by rfl) (hs : starEach (e :: es) X.env = (false, eval e X.env) :: starEach es X.env := by rfl) (hplain : (backTo cpos (starEach es X.env)).any (·.1) = false := by rfl) :
    PE X (.Call (.Attribute o name apos) (e :: es) [] cpos) (tBM K T r to t) := h ▸ pe_bm pa slot hty hm ho ha hbase hfew hline hs hplain
theorem RMT.cnt {K : PySem.W.Frag} {W : Wd} {ns : List Str} {k : Str} : RMT W (rCntS K) (lstOf K (ns.map fun s => rep K (.str s))) [rep K (.str k)] (rep K (.int (ns.count k : Nat))) := fun x xs H Q j ⟨a, ys, e, hs, p⟩ p2 q => by
  obtain ⟨y, rfl, p3⟩ := p2.one
  have e2 := strs_of p
  subst e2
  refine ⟨a, ns, k, e, by rw [dp_str p3], sq_l hs, q _ H j (Same.refl _) (.int _)⟩
theorem tyV_lst {K : PySem.W.Frag} {W : Wd} {Ps : List Pd} {v : V} {H : Hp} (h : (lstOf K Ps).h v (W.v H)) : tyV K "list" v H := by
  obtain ⟨a, xs, e, hs, _⟩ := h
  subst e
  exact .inl ⟨rfl, xs, sq_l hs⟩
theorem TyE.bmL {K : PySem.W.Frag} {W : Wd} {Γ : Ctx} {te : TE} {tA : TA} {Ps Qs : List Pd} {P : Pd} {r : V → List V → Hp → VK → Prop} (he : TyE W Γ te (lstOf K Ps)) (ha : TyA W Γ tA Qs) (hr : RMT W r (lstOf K Ps) Qs P) : TyE W Γ (tBM K "list" r te tA) P := fun σ H Q j e q =>
  he σ H _ j e fun x H1 j1 s1 p1 => ⟨tyV_lst p1, ha σ H1 _ j1 (e.mono s1) fun xs H2 j2 s2 p2 => hr x xs H2 Q j2 (Pd.mono _ s2 p1) p2 fun v H3 j3 s3 p3 => q v H3 j3 ((s1.trans s2).trans s3) p3⟩
/-! ### dicts by text keys -/
def dctH (kvs : List (Str × Pd)) (v : V) (H : Hp) : Prop := ∃ (a : Addr) (l : List (Key × V)), v = .ref a ∧ H a = some (.dK l) ∧ l.map (·.1) = kvs.map (fun p => (Sum.inr p.1 : Key)) ∧ PdAll (kvs.map (·.2)) (l.map (·.2)) H
theorem dctH_mono {kvs : List (Str × Pd)} {v : V} {H H' : Hp} (e : Same H H') (h : dctH kvs v H) : dctH kvs v H' := by
  obtain ⟨a, l, h1, h2, h3, h4⟩ := h
  exact ⟨a, l, h1, e _ _ h2, h3, h4.mono e⟩
def dctP (kvs : List (Str × Pd)) : Pd := ⟨dctH kvs, dctH_mono⟩
theorem dct_look {H : Hp} {k : Str} : ∀ {kvs : List (Str × Pd)} {l : List (Key × V)}, l.map (·.1) = kvs.map (fun p => (Sum.inr p.1 : Key)) → PdAll (kvs.map (·.2)) (l.map (·.2)) H →
    match kvs.lookup k with
    | some P => ∃ v, valV l (.inr k) = some v ∧ P.h v H
    | none => valV l (.inr k) = none
  | [], [], _, _ => rfl
  | [], _ :: _, e, _ => by simp at e
  | _ :: _, [], e, _ => by simp at e
  | p :: kvs, q :: l, e, h => by
    rw [List.map_cons, List.map_cons] at e
    injection e with e1 e2
    rw [List.map_cons, List.map_cons] at h
    obtain ⟨x, r, e3, h1, h2⟩ := PdAll.uncons h
    injection e3 with e4 e5
    subst e4 e5
    have ih := dct_look (k := k) e2 h2
    obtain ⟨n, P⟩ := p
    by_cases hk : k = n
    · subst hk
      have hl : ((k, P) :: kvs).lookup k = some P := by rw [List.lookup_cons, beq_self_eq_true]
      rw [hl]
      exact ⟨q.2, valV_pos e1, h1⟩
    · have hl : ((n, P) :: kvs).lookup k = kvs.lookup k := by
        rw [List.lookup_cons, beq_eq_false_iff_ne.mpr hk]
      rw [hl]
      have hn : valV (q :: l) (.inr k) = valV l (.inr k) := valV_neg (by
        rw [e1]
        exact fun z => hk (Sum.inr.inj z).symm)
      rw [hn]
      exact ih
theorem putK_fresh {l : List (Key × V)} {k : Key} {v : V} (h : k ∉ l.map (·.1)) : putK l k v = l ++ [(k, v)] := by
  unfold putK
  rw [if_neg]
  intro z
  obtain ⟨p, hp, e⟩ := List.any_eq_true.mp z
  exact h (List.mem_map.mpr ⟨p, hp, of_decide_eq_true e⟩)
theorem merge_fresh : ∀ (more l : List (Key × V)), (more.map (·.1)).Nodup → (∀ k ∈ more.map (·.1), k ∉ l.map (·.1)) → mergeK l more = l ++ more
  | [], l, _, _ => by simp [mergeK]
  | p :: more, l, hn, hf => by
    obtain ⟨h1, h2⟩ := List.nodup_cons.mp hn
    have e : putK l p.1 p.2 = l ++ [p] := putK_fresh (hf p.1 (by simp))
    show mergeK (putK l p.1 p.2) more = _
    rw [e, merge_fresh more (l ++ [p]) h2 fun k hk => ?_, List.append_assoc]
    · rfl
    · rw [List.map_append, List.mem_append]
      rintro (z | z)
      · exact hf k (List.mem_cons_of_mem _ hk) z
      · have e2 : k = p.1 := by simpa using z
        rw [e2] at hk
        exact h1 hk
theorem merge_nil {more : List (Key × V)} (hn : (more.map (·.1)).Nodup) : mergeK [] more = more := by
  rw [merge_fresh more [] hn fun _ _ => by simp, List.nil_append]
section
variable {K : PySem.W.Frag} {W : Wd} {Γ Γ' : Ctx} {te ta tb td ty : TE} {P P' P1 P2 P3 : Pd} {Ps Qs : List Pd} {tA : TA} {kvs : List (Str × Pd)} {k : Str}
theorem dct_at {a : Addr} {l : List (Key × V)} {H : Hp} (h : W.v H a = some (.dK l)) : H a = some (.dK l) := (vw_some h).2
theorem TyE.dget (hd : TyE W Γ td (dctP kvs)) (hy : TyE W Γ ty (rep K (.str k))) (hk : kvs.lookup k = some P) : TyE W Γ (tDGet td ty) P := fun σ H Q j e q =>
  hd σ H _ j e fun x H1 j1 s1 p1 => hy σ H1 _ j1 (e.mono s1) fun y H2 j2 s2 p2 => by
    obtain ⟨a, l, e1, e2, e3, e4⟩ := Pd.mono _ s2 p1
    have h := dct_look (k := k) e3 e4
    rw [hk] at h
    obtain ⟨v, h1, h2⟩ := h
    refine ⟨a, v, e1, ?_, q v H2 j2 (s1.trans s2) h2⟩
    rw [dp_str p2, ← h1]
    exact DGet.k (k := .inr k) (dct_at e2)
theorem TyE.din (hy : TyE W Γ ty (rep K (.str k))) (hd : TyE W Γ td (dctP kvs)) : TyE W Γ (tDIn ty td) (rep K (.bool (kvs.lookup k).isSome)) := fun σ H Q j e q =>
  hy σ H _ j e fun y H1 j1 s1 p1 => hd σ H1 _ j1 (e.mono s1) fun x H2 j2 s2 p2 => by
    obtain ⟨a, l, e1, e2, e3, e4⟩ := p2
    have h := dct_look (k := k) e3 e4
    refine ⟨a, valV l (.inr k), e1, ?_, q _ H2 j2 (s1.trans s2) ?_⟩
    · rw [dp_str p1]
      exact DGet.k (k := .inr k) (dct_at e2)
    · cases hl : kvs.lookup k with
      | some P =>
        rw [hl] at h
        obtain ⟨v, h1, _⟩ := h
        rw [h1]
        exact .bl true
      | none =>
        rw [hl] at h
        have h1 : valV l (.inr k) = none := h
        rw [h1]
        exact .bl false
theorem TyE.dget1 (hd : TyE W Γ td (dctP kvs)) (hy : TyE W Γ ty (rep K (.str k))) (hk : kvs.lookup k = some P) : TyE W Γ (tDGet1 td ty) P := fun σ H Q j e q =>
  hd σ H _ j e fun x H1 j1 s1 p1 => by
    obtain ⟨a, l, e1, e2, e3, e4⟩ := id p1
    refine ⟨a, e1, .inl ⟨l, .inl (dct_at e2)⟩, hy σ H1 _ j1 (e.mono s1) fun y H2 j2 s2 p2 => ?_⟩
    have h := dct_look (k := k) e3 (e4.mono s2)
    rw [hk] at h
    obtain ⟨v, h1, h2⟩ := h
    refine ⟨valV l (.inr k), ?_, ?_⟩
    · rw [dp_str p2]
      exact DGet.k (k := .inr k) (dct_at (s2 _ _ e2))
    · rw [h1]
      exact q v H2 j2 (s1.trans s2) h2
/-- dict of pairs of unlike texts -/
theorem pairs_ref {α : Type} {H : Hp} {f : α → Str} {F : α → Pd} : ∀ {xs : List α} {us : List V}, PdAll (xs.map fun a => tupOf K [rep K (.str (f a)), F a]) us H →
    ∃ (ps : List Addr) (l : List (Key × V)), us = ps.map V.ref ∧ Paired (fun p kv => SqT K H p [kV kv.1, kv.2]) ps l ∧ l.map (·.1) = xs.map (fun a => (Sum.inr (f a) : Key)) ∧ PdAll (xs.map F) (l.map (·.2)) H
  | [], us, h => by
    rw [h.unnil]
    exact ⟨[], [], rfl, .nil, rfl, .nil⟩
  | a :: xs, us, h => by
    obtain ⟨u, r, rfl, ⟨p, ys, rfl, hs, hp⟩, h2⟩ := PdAll.uncons h
    obtain ⟨x, y, rfl, q1, q2⟩ := hp.two
    obtain ⟨ps, l, rfl, g1, g2, g3⟩ := pairs_ref h2
    refine ⟨p :: ps, (.inr (f a), y) :: l, rfl, .cons ?_ g1, ?_, .cons q2 g3⟩
    · rw [dp_str q1] at hs
      exact hs
    · rw [List.map_cons, List.map_cons, g2]
theorem paired_up {H H' : Hp} (e : Same H H') : ∀ {ps : List Addr} {l : List (Key × V)}, Paired (fun p kv => SqT K H p [kV kv.1, kv.2]) ps l → Paired (fun p kv => SqT K H' p [kV kv.1, kv.2]) ps l
  | _, _, .nil => .nil
  | _, _, .cons r t => .cons (same_t e r) (paired_up e t)
theorem ra_dictL {α : Type} {xs : List α} {f : α → Str} {F : α → Pd} (hn : (xs.map f).Nodup) : RAT W (rDictL K) [lstOf K (xs.map fun a => tupOf K [rep K (.str (f a)), F a])] (dctP (xs.map fun a => (f a, F a))) := fun us H Q j p q => by
  obtain ⟨x, rfl, a, ys, rfl, hs, p1⟩ := p.one
  obtain ⟨ps, l, rfl, g1, g2, g3⟩ := pairs_ref p1
  have hnd : (l.map (·.1)).Nodup := by
    rw [g2, show (fun a => (Sum.inr (f a) : Key)) = (fun s => (Sum.inr s : Key)) ∘ f from rfl, ← List.map_map]
    exact List.Pairwise.map _ (fun a b h z => h (Sum.inr.inj z)) hn
  refine ⟨a, ps, l, rfl, sq_l hs, paired_up vw_le g1, fun r hr => ?_⟩
  rw [merge_nil hnd]
  obtain ⟨j2, s2, e2⟩ := W.alloc j hr (.dK l)
  refine q _ _ j2 s2 ⟨r, l, rfl, e2, ?_, ?_⟩
  · rw [g2, List.map_map]; rfl
  · rw [List.map_map]; exact g3.mono s2
theorem ra_dictO {α : Type} {xs : List α} {f : α → Str} {F : α → Pd} {p : Addr} (hp : p ∉ W.A) (hn : (xs.map f).Nodup) : RAT (W.ownL K p (xs.map fun a => tupOf K [rep K (.str (f a)), F a])) (rDictL K) [isV (.ref p)] (dctP (xs.map fun a => (f a, F a))) := fun us H Q j q k => by
  obtain ⟨x, rfl, e⟩ := q.one
  have ex : x = .ref p := e
  subst ex
  obtain ⟨_, o, eo, ys, e3, p1⟩ := id j
  subst e3
  obtain ⟨ps, l, rfl, g1, g2, g3⟩ := pairs_ref p1
  have hnd : (l.map (·.1)).Nodup := by
    rw [g2, show (fun a => (Sum.inr (f a) : Key)) = (fun s => (Sum.inr s : Key)) ∘ f from rfl, ← List.map_map]
    exact List.Pairwise.map _ (fun a b h z => h (Sum.inr.inj z)) hn
  refine ⟨p, ps, l, rfl, SqL.of eo, paired_up vw_le g1, fun r hr => ?_⟩
  rw [merge_nil hnd]
  obtain ⟨j2, s2, e2⟩ := Wd.alloc j hr (.dK l)
  refine k _ _ j2 s2 ⟨r, l, rfl, e2, ?_, ?_⟩
  · rw [g2, List.map_map]; rfl
  · rw [List.map_map]; exact g3.mono s2
/-- a tuple that is known to its object -/
def tupZ (Ps : List Pd) : Pd := ⟨fun v H => ∃ a o xs, v = .ref a ∧ H a = some (.frz o (.tup xs)) ∧ PlainT o ∧ PdAll Ps xs H, fun e ⟨a, o, xs, h1, h2, h3, h4⟩ => ⟨a, o, xs, h1, e _ _ h2, h3, h4.mono e⟩⟩
theorem tupZ_of {v : V} {H : Hp} (h : (tupZ Ps).h v H) : (tupOf K Ps).h v H := let ⟨a, o, xs, e, h1, h2, h3⟩ := h; ⟨a, xs, e, .inl (.inr ⟨o, h1⟩), h3⟩
theorem ra_tupF : RAT W (rTupF K) [lstOf K Ps] (tupZ Ps) := fun xs H Q j p q => by
  obtain ⟨x, rfl, a, ys, rfl, hs, p1⟩ := p.one
  refine ⟨a, ys, rfl, sq_l hs, fun l o hl ho => ?_⟩
  obtain ⟨j2, s2, e2⟩ := W.alloc j hl (.frz o (.tup ys))
  exact q _ _ j2 s2 ⟨l, o, ys, rfl, e2, ho, p1.mono s2⟩
theorem ra_dictT {α : Type} {xs : List α} {f : α → Str} {F : α → Pd} (hn : (xs.map f).Nodup) : RAT W (rDictT K) [tupZ (xs.map fun a => tupOf K [rep K (.str (f a)), F a])] (dctP (xs.map fun a => (f a, F a))) := fun us H Q j p q => by
  obtain ⟨x, rfl, a, o, ys, rfl, hs, ho, p1⟩ := p.one
  obtain ⟨ps, l, rfl, g1, g2, g3⟩ := pairs_ref p1
  have hnd : (l.map (·.1)).Nodup := by
    rw [g2, show (fun a => (Sum.inr (f a) : Key)) = (fun s => (Sum.inr s : Key)) ∘ f from rfl, ← List.map_map]
    exact List.Pairwise.map _ (fun a b h z => h (Sum.inr.inj z)) hn
  refine ⟨a, o, ps, l, rfl, (vw_some hs).2, ho, paired_up vw_le g1, fun r hr => ?_⟩
  rw [merge_nil hnd]
  obtain ⟨j2, s2, e2⟩ := W.alloc j hr (.dK l)
  refine q _ _ j2 s2 ⟨r, l, rfl, e2, ?_, ?_⟩
  · rw [g2, List.map_map]; rfl
  · rw [List.map_map]; exact g3.mono s2
theorem TyG.unl {gs : TGs} {n : Nat} {vs : List Nat} (h : TyGs W Γ gs Ps Γ' vs) (hn : Ps.length = n := by rfl) : TyG W Γ (gUnl K n gs) (lstOf K Ps) Γ' vs := fun σ H v Q j e ⟨a, xs, e1, hs, p⟩ q =>
  ⟨a, xs, e1, sq_l hs, p.len.symm.trans hn, h σ H xs Q j e p q⟩
end
end Tk
namespace Tk
open PySem PySem.Spec PyProof.Rows L2
/-! ### the data in plain words -/
def isOf (s g : Str) (m : Int) : Bool := decide (1 ≤ (s.length : Int)) && decide ((s.length : Int) ≤ m) && s.cps.toList.all fun c => decide (c ∈ g.cps.toList)
abbrev smallL : Str := "abcdefghijklmnopqrstuvwxyz"
def isName (s : Str) : Bool := isOf s smallL 8
theorem isName_len {s : Str} (h : isName s = true) : s.length ≤ 1000 := by
  unfold isName isOf at h
  simp only [Bool.and_eq_true, decide_eq_true_eq] at h
  omega
def ltS (a b : Str) : Bool := decide (a.cps.toList < b.cps.toList)
def risingB (xs : List Str) : Bool := xs.all isName && (xs.zip xs.tail).all fun p => ltS p.1 p.2
def strD (s : Str) : PyData := .str s
def strsD (xs : List Str) : PyData := .tuple (xs.map .str)
structure Sch where
  sorts : List Str
  ties : List (Str × List Str)
def tieD (t : Str × List Str) : PyData := .tuple [.str t.1, strsD t.2]
def Sch.enc (S : Sch) : PyData := .tuple [strsD S.sorts, .tuple (S.ties.map tieD)]
/-- a good scheme, small -/
structure Sch.Good (S : Sch) : Prop where
  sr : risingB S.sorts = true
  s1 : 1 ≤ S.sorts.length
  s3 : S.sorts.length ≤ 3
  t1 : 1 ≤ S.ties.length
  t5 : S.ties.length ≤ 5
  tr : risingB (S.ties.map (·.1)) = true
  tc : ∀ t ∈ S.ties, 1 ≤ t.2.length ∧ t.2.length ≤ 3 ∧ ∀ s ∈ t.2, s ∈ S.sorts
section
variable {K : PySem.W.Frag} {W : Wd} {Γ : Ctx} {te : TE} {v : V} {H : Hp}
theorem strs_t {xs : List Str} (h : (rep K (strsD xs)).h v H) : (tupOf K (xs.map fun b => rep K (.str b))).h v H := by
  have := tup_of h
  rw [List.map_map] at this
  exact this
theorem strs_m {xs : List Str} (h : (tupOf K (xs.map fun b => rep K (.str b))).h v H) : (rep K (strsD xs)).h v H := by
  refine tup_mk ?_
  rw [List.map_map]
  exact h
theorem lstrs_t {xs : List Str} (h : (rep K (.list (xs.map .str))).h v H) : (lstOf K (xs.map fun b => rep K (.str b))).h v H := by
  have := lst_of h
  rw [List.map_map] at this
  exact this
theorem lstrs_m {xs : List Str} (h : (lstOf K (xs.map fun b => rep K (.str b))).h v H) : (rep K (.list (xs.map .str))).h v H := by
  refine lst_mk ?_
  rw [List.map_map]
  exact h
end
/-! ### rows, bodies, flat sayings -/
def varD (v : Str) : PyData := .tuple [.str "var", .str v]
def rowD (a : Str) : Option Str → PyData
  | none => varD a
  | some b => .tuple [.str "cross", varD a, varD b]
inductive Lk where
  | and | or | imp
  deriving DecidableEq
def Lk.w : Lk → Str
  | .and => "and"
  | .or => "or"
  | .imp => "if"
inductive Bd where
  | tie (a : Str) (b : Option Str) (t : Str)
  | same (a b s : Str)
  | neg (f : Bd)
  | bin (o : Lk) (f g : Bd)
def tieE (t : Str) : PyData := .tuple [.str "tie", .str t]
def sameE (s : Str) : PyData := .tuple [.str "same", .str s]
def Bd.enc : Bd → PyData
  | .tie a b t => .tuple [.str "in", rowD a b, tieE t]
  | .same a b s => .tuple [.str "in", rowD a (some b), sameE s]
  | .neg f => .tuple [.str "not", f.enc]
  | .bin o f g => .tuple [.str o.w, f.enc, g.enc]
def Bd.deep : Bd → Nat
  | .neg f => f.deep + 1
  | .bin _ f g => max f.deep g.deep + 1
  | _ => 0
/-- the kind of a tie, of the same of a sort -/
inductive Kd where
  | same (s : Str)
  | tie (t : Str) (cs : List Str)
def Kd.enc : Kd → PyData
  | .same s => sameE s
  | .tie t _ => tieE t
def Kd.cols : Kd → List Str
  | .same s => [s, s]
  | .tie _ cs => cs
def Kd.Ok (S : Sch) : Kd → Prop
  | .same s => s ∈ S.sorts
  | .tie t cs => (t, cs) ∈ S.ties
/-- what is said of known vars -/
def Bd.Ok (S : Sch) (kn : List (Str × Str)) : Bd → Prop
  | .tie a b t => isName a = true ∧ (∀ c, b = some c → isName c = true) ∧ ∃ cs, (t, cs) ∈ S.ties ∧ (a :: b.toList).map (fun v => kn.lookup v) = cs.map some
  | .same a b s => isName a = true ∧ isName b = true ∧ s ∈ S.sorts ∧ kn.lookup a = some s ∧ kn.lookup b = some s
  | .neg f => f.Ok S kn
  | .bin _ f g => f.Ok S kn ∧ g.Ok S kn
structure Fl where
  vars : List (Str × Str)
  body : Bd
def allD : List (Str × Str) → PyData → PyData
  | [], d => d
  | (v, s) :: r, d => .tuple [.str "all", .str v, .tuple [.str "sort", .str s], allD r d]
def Fl.enc (f : Fl) : PyData := allD f.vars f.body.enc
structure Fl.Ok (S : Sch) (f : Fl) : Prop where
  v1 : 1 ≤ f.vars.length
  v4 : f.vars.length ≤ 4
  nd : (f.vars.map (·.1)).Nodup
  nm : ∀ p ∈ f.vars, isName p.1 = true ∧ p.2 ∈ S.sorts
  bd : f.body.Ok S f.vars
  dp : f.body.deep ≤ 9
theorem rising_pw : ∀ {xs : List Str}, ((xs.zip xs.tail).all fun p => ltS p.1 p.2) = true → xs.Pairwise fun a b => a.cps.toList < b.cps.toList
  | [], _ => .nil
  | [x], _ => .cons (fun _ h => by cases h) .nil
  | x :: y :: r, h => by
    have h' : (ltS x y && ((y :: r).zip r).all fun p => ltS p.1 p.2) = true := h
    obtain ⟨h1, h2⟩ := Bool.and_eq_true_iff.mp h'
    have ih := rising_pw (xs := y :: r) h2
    refine .cons (fun z hz => ?_) ih
    have hxy : x.cps.toList < y.cps.toList := of_decide_eq_true h1
    rcases List.mem_cons.mp hz with e | hz
    · rw [e]; exact hxy
    · exact List.lt_trans hxy ((List.pairwise_cons.mp ih).1 z hz)
theorem rising_nodup {xs : List Str} (h : risingB xs = true) : xs.Nodup := by
  have h2 := rising_pw (Bool.and_eq_true_iff.mp h).2
  refine h2.imp fun {a b} hab e => ?_
  subst e
  exact List.lt_irrefl _ hab
theorem str_ok {s : Str} (h : isName s = true) : PySem.PyData.strOk s = true := by
  unfold isName isOf at h
  have h2 := (Bool.and_eq_true_iff.mp h).2
  unfold PySem.PyData.strOk
  rw [Array.all_eq_true_iff_forall_mem]
  intro c hc
  have h3 := List.all_eq_true.mp h2 c (Array.mem_toList_iff.mpr hc)
  have h4 : c ∈ (smallL : Str).cps.toList := of_decide_eq_true h3
  have h5 : ∀ c ∈ (smallL : Str).cps.toList, c < 0x110000 := by decide +kernel
  exact decide_eq_true (h5 c h4)
theorem Sch.Good.names {S : Sch} (h : S.Good) : S.sorts.all isName = true := (Bool.and_eq_true_iff.mp h.sr).1
theorem Sch.Good.nd {S : Sch} (h : S.Good) : (S.ties.map (·.1)).Nodup := rising_nodup h.tr
theorem Sch.Good.ndS {S : Sch} (h : S.Good) : S.sorts.Nodup := rising_nodup h.sr
theorem lookup_nd {α : Type} {k : Str} {v : α} : ∀ {l : List (Str × α)}, (l.map (·.1)).Nodup → (k, v) ∈ l → l.lookup k = some v
  | p :: l, hn, hm => by
    obtain ⟨h1, h2⟩ := List.nodup_cons.mp hn
    rcases List.mem_cons.mp hm with e | hm2
    · rw [← e, List.lookup_cons, beq_self_eq_true]
    · have hk : k ≠ p.1 := fun e => h1 (by show p.1 ∈ _; rw [← e]; exact List.mem_map_of_mem (f := (·.1)) hm2)
      obtain ⟨a, b⟩ := p
      rw [List.lookup_cons, beq_eq_false_iff_ne.mpr hk]
      exact lookup_nd h2 hm2
theorem strs_lay : ∀ {xs : List Str}, xs.all isName = true → PyData.canLayAll0 (xs.map .str) = true
  | [], _ => rfl
  | x :: xs, h => by
    rw [List.all_cons, Bool.and_eq_true_iff] at h
    show (PyData.canLay0 (.str x) && PyData.canLayAll0 (xs.map .str)) = true
    rw [strs_lay h.2, Bool.and_true]
    exact str_ok h.1
theorem strs_depth : ∀ {xs : List Str}, PyData.depthAll (xs.map .str) ≤ 1
  | [] => by show (0 : Nat) ≤ 1; decide
  | x :: xs => by
    show max (PyData.depth (.str x)) (PyData.depthAll (xs.map .str)) ≤ 1
    have h := strs_depth (xs := xs)
    have h2 : PyData.depth (.str x) ≤ 1 := by show (0 : Nat) ≤ 1; decide
    omega
theorem strs_shaped {xs : List Str} (h : xs.all isName = true) : SeqAt.shaped (strsD xs) = true := by
  unfold SeqAt.shaped
  rw [Bool.and_eq_true_iff]
  refine ⟨strs_lay h, decide_eq_true ?_⟩
  show PyData.depthAll (xs.map .str) + 1 ≤ 64
  have := strs_depth (xs := xs)
  omega
theorem strs_eqv {xs : List Str} (h : xs.all isName = true) : PyData.eqv (strsD xs) (strsD xs) = true := SeqAt.eqv_refl _ (strs_lay h)
/-- the scheme as it is handed about -/
def tieP (K : PySem.W.Frag) (t : Str × List Str) : Pd := tupOf K [rep K (.str t.1), rep K (strsD t.2)]
def schP (K : PySem.W.Frag) (S : Sch) : Pd := tupOf K [rep K (strsD S.sorts), tupZ (S.ties.map (tieP K))]
section
variable {K : PySem.W.Frag} {v : V} {H : Hp}
theorem tie_rep {t : Str × List Str} (h : (tieP K t).h v H) : (rep K (tieD t)).h v H := tup_mk (ds := [.str t.1, strsD t.2]) h
theorem ties_rep {ts : List (Str × List Str)} (h : (tupZ (ts.map (tieP K))).h v H) : (rep K (.tuple (ts.map tieD))).h v H := by
  refine tup_mk ?_
  rw [List.map_map]
  obtain ⟨a, xs, e, h1, h2⟩ := tupZ_of (K := K) h
  refine ⟨a, xs, e, h1, h2.imp (by rw [List.length_map, List.length_map]) fun i P Q x hP hQ hx => ?_⟩
  rw [List.getElem?_map] at hP hQ
  cases q : ts[i]? with
  | none => rw [q] at hP; cases hP
  | some t =>
    rw [q] at hP hQ
    have e1 : tieP K t = P := by simpa using hP
    have e2 : rep K (tieD t) = Q := by simpa using hQ
    rw [← e2]
    rw [← e1] at hx
    exact tie_rep hx
theorem sch_rep {S : Sch} (h : (schP K S).h v H) : (rep K S.enc).h v H := by
  obtain ⟨a, xs, e, h1, h2⟩ := h
  obtain ⟨x, y, rfl, p1, p2⟩ := h2.two
  exact tup_mk (ds := [strsD S.sorts, .tuple (S.ties.map tieD)]) ⟨a, _, e, h1, .cons p1 (.cons (ties_rep p2) .nil)⟩
end
end Tk
namespace Tk
open PySem PySem.Spec PyProof.Rows L2
/-- the module's names: the built-ins, the constants -/
structure Tx (K : PySem.W.Frag) (mg : Str → Option Value) : Prop where
  all : mg "all" = none
  any : mg "any" = none
  dict : mg "dict" = none
  enumerate : mg "enumerate" = none
  isinstance : mg "isinstance" = none
  len : mg "len" = none
  list : mg "list" = none
  max : mg "max" = none
  min : mg "min" = none
  range : mg "range" = none
  sorted : mg "sorted" = none
  str : mg "str" = none
  tuple : mg "tuple" = none
  zip : mg "zip" = none
  SMALL : ∃ t, mg "SMALL" = some (.str smallL t)
  LONGEST : ∃ t, mg "LONGEST" = some (.int 8 t)
  MOST_SORTS : ∃ t, mg "MOST_SORTS" = some (.int 3 t)
  MOST_TIES : ∃ t, mg "MOST_TIES" = some (.int 5 t)
  MOST_COLUMNS : ∃ t, mg "MOST_COLUMNS" = some (.int 3 t)
  FEW : ∃ t, mg "FEW" = some (.int 4 t)
  SAYINGS : ∃ t, mg "SAYINGS" = some (.int 8 t)
  OPEN : ∃ t, mg "OPEN" = some (.int 1 t)
  SURE : ∃ t, mg "SURE" = some (.int 2 t)
  SORT_LETTERS : ∃ t, mg "SORT_LETTERS" = some (.str "abc" t)
  LATE_LETTERS : ∃ t, mg "LATE_LETTERS" = some (.str "abcdefghi" t)
  PAIRS : ∃ a, mg "PAIRS" = some (.ref a) ∧ ∀ H, SqT K H a [.str "and", .str "or", .str "if"]
theorem bt_isinstance : bootBuiltins ("isinstance" : Str) = some (.builtin "isinstance") := by decide +kernel
theorem bt_str : bootBuiltins ("str" : Str) = some (.type "str") := by decide +kernel
theorem bt_tuple : bootBuiltins ("tuple" : Str) = some (.type "tuple") := by decide +kernel
theorem bt_list : bootBuiltins ("list" : Str) = some (.type "list") := by decide +kernel
theorem bt_dict : bootBuiltins ("dict" : Str) = some (.type "dict") := by decide +kernel
theorem bt_all : bootBuiltins ("all" : Str) = some (.builtin "all") := by decide +kernel
theorem bt_any : bootBuiltins ("any" : Str) = some (.builtin "any") := by decide +kernel
theorem bt_len : bootBuiltins ("len" : Str) = some (.builtin "len") := by decide +kernel
theorem bt_sorted : bootBuiltins ("sorted" : Str) = some (.builtin "sorted") := by decide +kernel
theorem bt_min : bootBuiltins ("min" : Str) = some (.builtin "min") := by decide +kernel
theorem bt_max : bootBuiltins ("max" : Str) = some (.builtin "max") := by decide +kernel
section
variable {P : Program} {w : World} {K : PySem.W.Frag} {mg : Str → Option Value} {base : Heap}
/-! ### words -/
def spIsOf (K : PySem.W.Frag) : Sp := SpF (δ := Str × Str × Int) (fun x => [rep K (.str x.1), rep K (.str x.2.1), rep K (.int x.2.2)]) (fun x => rep K (.bool (isOf x.1 x.2.1 x.2.2))) (fun x _ => x.1.length ≤ 1000)
theorem scIsOf : FnScope ["thing", "signs", "most", "sign"] ["thing", "signs", "most"] (defScope sIsOf) := ⟨rfl, rfl, rfl, by decide +kernel, rfl, by decide +kernel, by decide +kernel⟩
theorem ok_is_of (T : Tx K mg) {f : Addr} {fd : FuncData} (F : FnP K "is_of" "is_of" sIsOf f fd) : FnOk P w K mg base CX0 (1) f fd ["thing", "signs", "most"] (spIsOf K) := by
  refine fn_ok F scIsOf (fun _ => rfl) fun cdv A outer s H E hr => ?_
  refine ⟨_, (pss_one (ps_ret (pe_and (pe_callB (k_isi K) rfl T.isinstance bt_isinstance (pa_cons (pv 0) (pa_cons (pe_bltn (v := .ty "str") rfl T.str bt_str rfl) pa_nil))) (pe_and (pe_chain op_le op_le pe_int (pe_callB (k_len K) rfl T.len bt_len (pa_cons (pv 0) pa_nil)) (pv 2)) (pe_one (pe_callB (k_all K) rfl T.all bt_all (pa_cons (pe_lc (own := [("sign", 3)]) rfl scIsOf.nd (pi_str (pv 0)) (blkOk_by (own := [("sign", 3)]) (N := ["thing", "signs", "most", "sign"]) (sc := defScope sIsOf) (by decide +kernel)) (fun _ _ _ _ _ => (pg_name (i := 3) scIsOf.nd rfl (Or.inl rfl))) (fun _ _ _ _ _ => pts_nil) (fun _ _ _ _ _ => (pe_cmpR op_inS (pv 3) (pv 1) rfl))) pa_nil))))))), ?_⟩
  -- N: [(0, 'thing'), (1, 'signs'), (2, 'most'), (3, 'sign')]; cells: ['signs']
  rintro ⟨z, g, m⟩ W hz B D hn hR
  refine Nx.ret (TyE.andV (TyE.cb (TyA.cons (TyE.var rfl) (TyA.cons TyE.is TyA.nil)) ra_isS) fun _ =>
      TyE.andV (TyE.chain TyE.int (TyE.cb (TyA.cons (TyE.var rfl) TyA.nil) (ra_lenS hz)) r_bl0 (fun _ => TyE.var rfl) fun _ => r_bl0) fun _ =>
      TyE.cb (TyA.cons (TyE.lcM z.cps.toList (fun c => rep K (.str ⟨#[c]⟩)) _ (TyI.str (TyE.var rfl)) (by rw [Array.length_toList]; exact hz) fun c hc p Qs hp => ⟨_, TyG.name, TyE.op (TyE.var rfl) (TyE.var rfl) r_inS⟩) TyA.nil) ra_allM) fun v H j b p => hR v H j b ?_
  have e : (isOf z g m) = (true && ((decide ((1 : Int) ≤ (z.length : Nat)) && decide (((z.length : Nat) : Int) ≤ m)) && z.cps.toList.all fun c => decide (c ∈ g.cps.toList))) := by
    unfold isOf
    rw [Bool.true_and]
  show (rep K (.bool (isOf z g m))).h v _
  rw [e]
  exact p
def spIsName (K : PySem.W.Frag) : Sp := SpF (δ := Str) (fun x => [rep K (.str x)]) (fun x => rep K (.bool true)) (fun x _ => isName x = true)
theorem scIsName : FnScope ["thing"] ["thing"] (defScope sIsName) := ⟨rfl, rfl, rfl, by decide +kernel, rfl, by decide +kernel, by decide +kernel⟩
theorem ok_is_name (T : Tx K mg) {f : Addr} {fd : FuncData} (F : FnP K "is_name" "is_name" sIsName f fd) (D_is_of : DefOk P w K mg base 1 "is_of" ["thing", "signs", "most"] (spIsOf K)) : FnOk P w K mg base CX0 (2) f fd ["thing"] (spIsName K) := by
  obtain ⟨f_is_of, fd_is_of, G_is_of, m_is_of, kp_is_of, b_is_of⟩ := D_is_of.ex
  refine fn_ok F scIsName (fun _ => rfl) fun cdv A outer s H E hr => ?_
  refine ⟨_, (pss_one (ps_ret (pe_call G_is_of (hr.mono (by omega)) rfl m_is_of kp_is_of b_is_of .nil pass0 (pa_cons (pv 0) (pa_cons (pe_gs rfl T.SMALL) (pa_cons (pe_gi rfl T.LONGEST) pa_nil)))))), ?_⟩
  -- N: [(0, 'thing')]; cells: []
  intro z W hz B D hn hR
  refine Nx.ret (TyE.fn (z, smallL, 8) (isName_len hz) (TyA.cons (TyE.var rfl) (TyA.cons TyE.str (TyA.cons TyE.int TyA.nil)))) fun v H j b p => hR v H j b ?_
  show (rep K (.bool true)).h v _
  rw [← (show isOf z smallL 8 = true from hz)]
  exact p
def spIsRising (K : PySem.W.Frag) : Sp := SpF (δ := List Str) (fun xs => [rep K (strsD xs)]) (fun x => rep K (.bool true)) (fun xs _ => risingB xs = true ∧ 1 ≤ xs.length ∧ xs.length ≤ 100)
theorem zip_tail {xs : List Str} : cutP xs (some (1 : Int)) none = xs.tail := by
  rw [show (1 : Int) = ((1 : Nat) : Int) from rfl, cutP_from]
  cases xs <;> rfl
theorem scIsRising : FnScope ["thing", "one", "other"] ["thing"] (defScope sIsRising) := ⟨rfl, rfl, rfl, by decide +kernel, rfl, by decide +kernel, by decide +kernel⟩
theorem ok_is_rising (T : Tx K mg) {f : Addr} {fd : FuncData} (F : FnP K "is_rising" "is_rising" sIsRising f fd) (D_is_name : DefOk P w K mg base 2 "is_name" ["thing"] (spIsName K)) : FnOk P w K mg base CX0 (3) f fd ["thing"] (spIsRising K) := by
  obtain ⟨f_is_name, fd_is_name, G_is_name, m_is_name, kp_is_name, b_is_name⟩ := D_is_name.ex
  refine fn_ok F scIsRising (fun _ => rfl) fun cdv A outer s H E hr => ?_
  refine ⟨_, (pss_cons (ps_if (PW.pt (pw_or (pt_not (pt_val (pe_callB (k_isi K) rfl T.isinstance bt_isinstance (pa_cons (pv 0) (pa_cons (pe_bltn (v := .ty "tuple") rfl T.tuple bt_tuple rfl) pa_nil))))) (pw_or1 (pt_not (pt_val (pe_callB (k_all K) rfl T.all bt_all (pa_cons (pe_lc (own := [("one", 1)]) rfl scIsRising.nd (k_tupI K (pv 0)) (blkOk_by (own := [("one", 1)]) (N := ["thing", "one", "other"]) (sc := defScope sIsRising) (by decide +kernel)) (fun _ _ _ _ _ => (pg_name (i := 1) scIsRising.nd rfl (Or.inl rfl))) (fun _ _ _ _ _ => pts_nil) (fun _ _ _ _ _ => (pe_call G_is_name (hr.mono (by omega)) rfl m_is_name kp_is_name b_is_name .nil pass0 (pa_cons (pv 1) pa_nil)))) pa_nil))))))) (pss_one (ps_ret pe_bl)) pss_nil)
      (pss_one (ps_ret (pe_callB (k_all K) rfl T.all bt_all (pa_cons (pe_lc (own := [("one", 1), ("other", 2)]) rfl scIsRising.nd (k_zipT K rfl T.zip (pa_cons (pv 0) (pa_cons (pe_slice (k_slT K) (pv 0) (po_some pe_int) po_none) pa_nil))) (blkOk_by (own := [("one", 1), ("other", 2)]) (N := ["thing", "one", "other"]) (sc := defScope sIsRising) (by decide +kernel)) (fun _ _ _ _ _ => (k_gtup K 2 (pgs_cons (pg_name (i := 1) scIsRising.nd rfl (Or.inl rfl)) (pgs_cons (pg_name (i := 2) scIsRising.nd rfl (Or.inl rfl)) pgs_nil)))) (fun _ _ _ _ _ => pts_nil) (fun _ _ _ _ _ => (pe_cmpR op_ltS (pv 1) (pv 2) (nomark _)))) pa_nil))))), ?_⟩
  -- N: [(0, 'thing'), (1, 'one'), (2, 'other')]; cells: []
  rintro xs W ⟨hr1, h1, h2⟩ B D hn hR
  obtain ⟨ha, hb⟩ := Bool.and_eq_true_iff.mp hr1
  have hv : ∀ {W : Wd}, TyE W ([rep K (strsD xs)].map some ++ List.replicate 2 none) (tVar 0) (tupOf K (xs.map fun b => rep K (.str b))) := (TyE.var rfl).imp fun _ _ => strs_t
  refine Nx.sIfF (TyT.or (b1 := false) (b2 := false) (TyT.notB (b := true) (TyT.tB (TyE.cb (TyA.cons hv (TyA.cons TyE.is TyA.nil)) ra_isT))) fun _ =>
    TyT.notB (b := true) (TyT.tB (TyE.cb (TyA.cons (TyE.lcM xs (fun b => rep K (.str b)) (fun _ => rep K (.bool true)) (TyI.tup hv) (by omega) fun c hc p Qs hp =>
      ⟨_, TyG.name, TyE.fn c (List.all_eq_true.mp ha c hc) (TyA.cons (TyE.var rfl) TyA.nil)⟩) TyA.nil) ra_allT))) ?_
  have hsl : TyE W ([rep K (strsD xs)].map some ++ List.replicate 2 none) (tSl (rSlT K) (tVar 0) (tPart (tC (.int 1))) tNoPart) (tupOf K (xs.tail.map fun b => rep K (.str b))) := by
    have h := TyE.slT (K := K) (W := W) (hv (W := W)) (TyO.some (K := K) (TyE.int (i := 1))) TyO.none (by
      rw [List.length_map, show (1 : Int) = ((1 : Nat) : Int) from rfl, HT.sIx_nat]
      omega)
    rw [cutP_map, zip_tail] at h
    exact h
  refine Nx.ret (TyE.cb (TyA.cons (TyE.lcM (xs.zip xs.tail) (fun p => tupOf K [rep K (.str p.1), rep K (.str p.2)]) (fun p => rep K (.bool true)) (TyI.zipT xs xs.tail _ _ (TyA.cons hv (TyA.cons hsl TyA.nil))) (by rw [List.length_zip]; omega) fun c hc p Qs hp =>
    ⟨_, TyG.tup (TyGs.cons TyG.name (TyGs.cons TyG.name TyGs.nil)), (TyE.op (TyE.var rfl) (TyE.var rfl) r_ltS).imp fun v H q => ?_⟩) TyA.nil) ra_allT) hR
  have hc' := List.all_eq_true.mp hb c hc
  unfold ltS at hc'
  rw [hc'] at q
  exact q
theorem TyE.bT {W : Wd} {Γ : Ctx} {te : TE} {b : Bool} (h : TyE W Γ te (rep K (.bool b))) (e : b = true) : TyE W Γ te (rep K (.bool true)) := by subst e; exact h
theorem TyT.bE {W : Wd} {Γ : Ctx} {tt : TT} {b c : Bool} (h : TyT W Γ tt (· = b)) (e : b = c) : TyT W Γ tt (· = c) := by subst e; exact h
/-! ### schemes -/
def spIsColumns (K : PySem.W.Frag) : Sp := SpF (δ := List Str × List Str) (fun x => [rep K (strsD x.1), rep K (strsD x.2)]) (fun x => rep K (.bool true)) (fun x _ => 1 ≤ x.2.length ∧ x.2.length ≤ 3 ∧ ∀ s ∈ x.2, s ∈ x.1)
theorem scIsColumns : FnScope ["sorts", "thing", "one"] ["sorts", "thing"] (defScope sIsColumns) := ⟨rfl, rfl, rfl, by decide +kernel, rfl, by decide +kernel, by decide +kernel⟩
theorem ok_is_columns (T : Tx K mg) {f : Addr} {fd : FuncData} (F : FnP K "is_columns" "is_columns" sIsColumns f fd) : FnOk P w K mg base CX0 (1) f fd ["sorts", "thing"] (spIsColumns K) := by
  refine fn_ok F scIsColumns (fun _ => rfl) fun cdv A outer s H E hr => ?_
  refine ⟨_, (pss_cons (ps_if (PW.pt (pw_or (pt_not (pt_val (pe_callB (k_isi K) rfl T.isinstance bt_isinstance (pa_cons (pv 1) (pa_cons (pe_bltn (v := .ty "tuple") rfl T.tuple bt_tuple rfl) pa_nil))))) (pw_or1 (pt_not (pt_chain op_le op_le pe_int (pe_callB (k_len K) rfl T.len bt_len (pa_cons (pv 1) pa_nil)) (pe_gi rfl T.MOST_COLUMNS)))))) (pss_one (ps_ret pe_bl)) pss_nil)
      (pss_one (ps_ret (pe_callB (k_all K) rfl T.all bt_all (pa_cons (pe_lc (own := [("one", 2)]) rfl scIsColumns.nd (k_tupI K (pv 1)) (blkOk_by (own := [("one", 2)]) (N := ["sorts", "thing", "one"]) (sc := defScope sIsColumns) (by decide +kernel)) (fun _ _ _ _ _ => (pg_name (i := 2) scIsColumns.nd rfl (Or.inl rfl))) (fun _ _ _ _ _ => pts_nil) (fun _ _ _ _ _ => (pe_and (pe_callB (k_isi K) rfl T.isinstance bt_isinstance (pa_cons (pv 2) (pa_cons (pe_bltn (v := .ty "str") rfl T.str bt_str rfl) pa_nil))) (pe_one (pe_cmpR (k_in K) (pv 2) (pv 0) (by rfl)))))) pa_nil))))), ?_⟩
  -- N: [(0, 'sorts'), (1, 'thing'), (2, 'one')]; cells: ['sorts']
  rintro ⟨ss, cs⟩ W ⟨h1, h3, hm⟩ B D hn hR
  have h1 : 1 ≤ cs.length := h1
  have h3 : cs.length ≤ 3 := h3
  have hm : ∀ s ∈ cs, s ∈ ss := hm
  have hv : ∀ {W : Wd}, TyE W ([rep K (strsD ss), rep K (strsD cs)].map some ++ List.replicate 1 none) (tVar 1) (tupOf K (cs.map fun b => rep K (.str b))) := (TyE.var rfl).imp fun _ _ => strs_t
  refine Nx.sIfF (TyT.or (b1 := false) (b2 := false) (TyT.notB (b := true) (TyT.tB (TyE.cb (TyA.cons hv (TyA.cons TyE.is TyA.nil)) ra_isT))) fun _ =>
    TyT.notB (b := true) (TyT.test (TyE.bT (TyE.chain TyE.int (TyE.cb (TyA.cons hv TyA.nil) ra_lenT) r_bl0 (fun _ => TyE.int) fun _ => r_bl0) ?_))) ?_
  · rw [List.length_map]
    simp only [Bool.and_eq_true, decide_eq_true_eq]
    omega
  · exact Nx.ret (TyE.cb (TyA.cons (TyE.lcM cs (fun b => rep K (.str b)) (fun _ => rep K (.bool true)) (TyI.tup hv) (by omega) fun c hc p Qs hp =>
      ⟨_, TyG.name, TyE.bT (TyE.andV (TyE.cb (TyA.cons (TyE.var rfl) (TyA.cons TyE.is TyA.nil)) ra_isS) fun _ => TyE.op (TyE.var rfl) ((TyE.var rfl).imp fun _ _ => strs_t) r_inT) (by simp [hm c hc])⟩) TyA.nil) ra_allT) hR
def spIsTie (K : PySem.W.Frag) : Sp := SpF (δ := List Str × Str × List Str) (fun x => [rep K (strsD x.1), rep K (tieD x.2)]) (fun x => rep K (.bool true)) (fun x _ => isName x.2.1 = true ∧ 1 ≤ x.2.2.length ∧ x.2.2.length ≤ 3 ∧ ∀ s ∈ x.2.2, s ∈ x.1)
theorem scIsTie : FnScope ["sorts", "thing"] ["sorts", "thing"] (defScope sIsTie) := ⟨rfl, rfl, rfl, by decide +kernel, rfl, by decide +kernel, by decide +kernel⟩
theorem ok_is_tie (T : Tx K mg) {f : Addr} {fd : FuncData} (F : FnP K "is_tie" "is_tie" sIsTie f fd) (D_is_columns : DefOk P w K mg base 1 "is_columns" ["sorts", "thing"] (spIsColumns K)) (D_is_name : DefOk P w K mg base 2 "is_name" ["thing"] (spIsName K)) : FnOk P w K mg base CX0 (3) f fd ["sorts", "thing"] (spIsTie K) := by
  obtain ⟨f_is_columns, fd_is_columns, G_is_columns, m_is_columns, kp_is_columns, b_is_columns⟩ := D_is_columns.ex
  obtain ⟨f_is_name, fd_is_name, G_is_name, m_is_name, kp_is_name, b_is_name⟩ := D_is_name.ex
  refine fn_ok F scIsTie (fun _ => rfl) fun cdv A outer s H E hr => ?_
  refine ⟨_, (pss_one (ps_ret (pe_and (pe_callB (k_isi K) rfl T.isinstance bt_isinstance (pa_cons (pv 1) (pa_cons (pe_bltn (v := .ty "tuple") rfl T.tuple bt_tuple rfl) pa_nil))) (pe_and (pe_cmpR op_eq (pe_callB (k_len K) rfl T.len bt_len (pa_cons (pv 1) pa_nil)) pe_int (nomark _)) (pe_and (pe_call G_is_name (hr.mono (by omega)) rfl m_is_name kp_is_name b_is_name .nil pass0 (pa_cons (pe_ix (k_ix K) (pv 1) pe_int (fun _ _ => rfl)) pa_nil)) (pe_one (pe_call G_is_columns (hr.mono (by omega)) rfl m_is_columns kp_is_columns b_is_columns .nil pass0 (pa_cons (pv 0) (pa_cons (pe_ix (k_ix K) (pv 1) pe_int (fun _ _ => rfl)) pa_nil))))))))), ?_⟩
  -- N: [(0, 'sorts'), (1, 'thing')]; cells: []
  rintro ⟨ss, t, cs⟩ W ⟨h0, h1, h3, hm⟩ B D hn hR
  exact Nx.ret (TyE.bT (TyE.andV (TyE.cb (TyA.cons (TyE.var rfl) (TyA.cons TyE.is TyA.nil)) ra_isTD) fun _ =>
    TyE.andV (TyE.op (TyE.cb (TyA.cons (TyE.var rfl) TyA.nil) ra_lenD) TyE.int r_eqI) fun _ =>
    TyE.andV (TyE.fn t h0 (TyA.cons (TyE.op (TyE.var rfl) TyE.int (r_ixD (i := 0) rfl)) TyA.nil)) fun _ =>
    TyE.fn (ss, cs) (by exact ⟨h1, h3, hm⟩) (TyA.cons (TyE.var rfl) (TyA.cons (TyE.op (TyE.var rfl) TyE.int (r_ixD (i := 1) rfl)) TyA.nil))) rfl) hR
def spIsScheme (K : PySem.W.Frag) : Sp := SpF (δ := Sch) (fun x => [rep K x.enc]) (fun x => rep K (.bool true)) (fun x _ => x.Good)
theorem scIsScheme : FnScope ["thing", "sorts", "ties", "tie", "name", "own"] ["thing"] (defScope sIsScheme) := ⟨rfl, rfl, rfl, by decide +kernel, rfl, by decide +kernel, by decide +kernel⟩
theorem ok_is_scheme (T : Tx K mg) {f : Addr} {fd : FuncData} (F : FnP K "is_scheme" "is_scheme" sIsScheme f fd) (D_is_rising : DefOk P w K mg base 3 "is_rising" ["thing"] (spIsRising K)) (D_is_tie : DefOk P w K mg base 3 "is_tie" ["sorts", "thing"] (spIsTie K)) : FnOk P w K mg base CX0 (4) f fd ["thing"] (spIsScheme K) := by
  obtain ⟨f_is_rising, fd_is_rising, G_is_rising, m_is_rising, kp_is_rising, b_is_rising⟩ := D_is_rising.ex
  obtain ⟨f_is_tie, fd_is_tie, G_is_tie, m_is_tie, kp_is_tie, b_is_tie⟩ := D_is_tie.ex
  refine fn_ok F scIsScheme (fun _ => rfl) fun cdv A outer s H E hr => ?_
  refine ⟨_, (pss_cons (ps_if (PW.pt (pw_or (pt_not (pt_val (pe_callB (k_isi K) rfl T.isinstance bt_isinstance (pa_cons (pv 0) (pa_cons (pe_bltn (v := .ty "tuple") rfl T.tuple bt_tuple rfl) pa_nil))))) (pw_or1 (pt_cmpR op_ne (pe_callB (k_len K) rfl T.len bt_len (pa_cons (pv 0) pa_nil)) pe_int (nomark _))))) (pss_one (ps_ret pe_bl)) pss_nil)
      (pss_cons (ps_asg (pv 0) (k_gtup K 2 (pgs_cons (pg_name (i := 1) scIsScheme.nd rfl (Or.inr rfl)) (pgs_cons (pg_name (i := 2) scIsScheme.nd rfl (Or.inl rfl)) pgs_nil))))
      (pss_cons (ps_if (PW.pt (pw_or (pt_not (pt_val (pe_call G_is_rising (hr.mono (by omega)) rfl m_is_rising kp_is_rising b_is_rising .nil pass0 (pa_cons (pv 1) pa_nil)))) (pw_or1 (pt_not (pt_chain op_le op_le pe_int (pe_callB (k_len K) rfl T.len bt_len (pa_cons (pv 1) pa_nil)) (pe_gi rfl T.MOST_SORTS)))))) (pss_one (ps_ret pe_bl)) pss_nil)
      (pss_cons (ps_if (PW.pt (pw_or (pt_not (pt_val (pe_callB (k_isi K) rfl T.isinstance bt_isinstance (pa_cons (pv 2) (pa_cons (pe_bltn (v := .ty "tuple") rfl T.tuple bt_tuple rfl) pa_nil))))) (pw_or (pt_cmpR op_gt (pe_callB (k_len K) rfl T.len bt_len (pa_cons (pv 2) pa_nil)) (pe_gi rfl T.MOST_TIES) (nomark _)) (pw_or1 (pt_not (pt_val (pe_callB (k_all K) rfl T.all bt_all (pa_cons (pe_lc (own := [("tie", 3)]) rfl scIsScheme.nd (k_tupI K (pv 2)) (blkOk_by (own := [("tie", 3)]) (N := ["thing", "sorts", "ties", "tie", "name", "own"]) (sc := defScope sIsScheme) (by decide +kernel)) (fun _ _ _ _ _ => (pg_name (i := 3) scIsScheme.nd rfl (Or.inl rfl))) (fun _ _ _ _ _ => pts_nil) (fun _ _ _ _ _ => (pe_call G_is_tie (hr.mono (by omega)) rfl m_is_tie kp_is_tie b_is_tie .nil pass0 (pa_cons (pv 1) (pa_cons (pv 3) pa_nil))))) pa_nil)))))))) (pss_one (ps_ret pe_bl)) pss_nil)
      (pss_one (ps_ret (pe_call G_is_rising (hr.mono (by omega)) rfl m_is_rising kp_is_rising b_is_rising .nil pass0 (pa_cons (pe_callTy (k_tup K) rfl T.tuple bt_tuple (pa_cons (pe_lc (own := [("name", 4), ("own", 5)]) rfl scIsScheme.nd (k_tupI K (pv 2)) (blkOk_by (own := [("name", 4), ("own", 5)]) (N := ["thing", "sorts", "ties", "tie", "name", "own"]) (sc := defScope sIsScheme) (by decide +kernel)) (fun _ _ _ _ _ => (k_gtup K 2 (pgs_cons (pg_name (i := 4) scIsScheme.nd rfl (Or.inl rfl)) (pgs_cons (pg_name (i := 5) scIsScheme.nd rfl (Or.inl rfl)) pgs_nil)))) (fun _ _ _ _ _ => pts_nil) (fun _ _ _ _ _ => (pv 4))) pa_nil)) pa_nil)))))))), ?_⟩
  -- N: [(0, 'thing'), (1, 'sorts'), (2, 'ties'), (3, 'tie'), (4, 'name'), (5, 'own')]; cells: ['sorts']
  rintro S W hg B D hn hR
  have htie : ∀ {W : Wd} {Γ : Ctx}, Γ[2]? = some (some (rep K (.tuple (S.ties.map tieD)))) → TyE W Γ (tVar 2) (tupOf K (S.ties.map fun t => rep K (tieD t))) := fun h => (TyE.var h).imp fun _ _ q => by
    have := tup_of q
    rw [List.map_map] at this
    exact this
  have hsort : ∀ {W : Wd} {Γ : Ctx}, Γ[1]? = some (some (rep K (strsD S.sorts))) → TyE W Γ (tVar 1) (tupOf K (S.sorts.map fun b => rep K (.str b))) := fun h => (TyE.var h).imp fun _ _ => strs_t
  refine Nx.sIfF (TyT.or (b1 := false) (b2 := false) (TyT.notB (b := true) (TyT.tB (TyE.cb (TyA.cons (TyE.var rfl) (TyA.cons TyE.is TyA.nil)) ra_isTD))) fun _ =>
    TyT.test (TyE.op (TyE.cb (TyA.cons (TyE.var rfl) TyA.nil) ra_lenD) TyE.int r_neI)) ?_
  refine Nx.sAsg (vs := [1, 2]) ((TyE.var rfl).imp fun _ _ => tup_of) (TyG.tup (TyGs.cons TyG.name (TyGs.cons TyG.name TyGs.nil))) ?_
  refine Nx.sIfF (TyT.or (b1 := false) (b2 := false) (TyT.notB (b := true) (TyT.tB (TyE.fn S.sorts (by exact ⟨hg.sr, hg.s1, Nat.le_trans hg.s3 (by decide)⟩) (TyA.cons (TyE.var rfl) TyA.nil)))) fun _ =>
    TyT.notB (b := true) (TyT.test (TyE.bT (TyE.chain TyE.int (TyE.cb (TyA.cons (hsort rfl) TyA.nil) ra_lenT) r_bl0 (fun _ => TyE.int) fun _ => r_bl0) ?_))) ?_
  · have h1 := hg.s1
    have h3 := hg.s3
    rw [List.length_map]
    simp only [Bool.and_eq_true, decide_eq_true_eq]
    omega
  refine Nx.sIfF (TyT.or (b1 := false) (b2 := false) (TyT.notB (b := true) (TyT.tB (TyE.cb (TyA.cons (htie rfl) (TyA.cons TyE.is TyA.nil)) ra_isT))) fun _ =>
    TyT.or (b1 := false) (b2 := false) (TyT.bE (TyT.test (TyE.op (TyE.cb (TyA.cons (htie rfl) TyA.nil) ra_lenT) TyE.int r_bl0)) ?_) fun _ =>
    TyT.notB (b := true) (TyT.tB (TyE.cb (TyA.cons (TyE.lcM S.ties (fun t => rep K (tieD t)) (fun _ => rep K (.bool true)) (TyI.tup (htie rfl)) (Nat.le_trans hg.t5 (by decide)) fun c hc p Qs hp =>
      ⟨_, TyG.name, TyE.fn (S.sorts, c) (by exact ⟨List.all_eq_true.mp (Bool.and_eq_true_iff.mp hg.tr).1 c.1 (List.mem_map_of_mem hc), hg.tc c hc⟩) (TyA.cons (TyE.var rfl) (TyA.cons (TyE.var rfl) TyA.nil))⟩) TyA.nil) ra_allT))) ?_
  · have h5 := hg.t5
    rw [List.length_map]
    refine decide_eq_false ?_
    omega
  · refine Nx.ret (TyE.fn (S.ties.map (·.1)) (by exact ⟨hg.tr, by rw [List.length_map]; exact hg.t1, by rw [List.length_map]; exact Nat.le_trans hg.t5 (by decide)⟩) (TyA.cons ((TyE.cb (TyA.cons
      (TyE.lcM S.ties (fun t => rep K (tieD t)) (fun t => rep K (.str t.1)) (TyI.tup (htie rfl)) (Nat.le_trans hg.t5 (by decide)) fun c hc p Qs hp =>
        ⟨_, (TyG.tup (TyGs.cons TyG.name (TyGs.cons TyG.name TyGs.nil))).imp fun v H => tup_of (ds := [.str c.1, strsD c.2]), TyE.var rfl⟩) TyA.nil) ra_tupL).imp fun v H q => ?_) TyA.nil)) hR
    refine strs_m ?_
    rw [List.map_map]
    exact q
def spNeedScheme (K : PySem.W.Frag) : Sp := SpF (δ := Sch) (fun x => [rep K x.enc]) (fun x => rep K .none) (fun x _ => x.Good)
theorem scNeedScheme : FnScope ["scheme"] ["scheme"] (defScope sNeedScheme) := ⟨rfl, rfl, rfl, by decide +kernel, rfl, by decide +kernel, by decide +kernel⟩
theorem ok_need_scheme (T : Tx K mg) {f : Addr} {fd : FuncData} (F : FnP K "need_scheme" "need_scheme" sNeedScheme f fd) (D_is_scheme : DefOk P w K mg base 4 "is_scheme" ["thing"] (spIsScheme K)) : FnOk P w K mg base CX0 (5) f fd ["scheme"] (spNeedScheme K) := by
  obtain ⟨f_is_scheme, fd_is_scheme, G_is_scheme, m_is_scheme, kp_is_scheme, b_is_scheme⟩ := D_is_scheme.ex
  refine fn_ok F scNeedScheme (fun _ => rfl) fun cdv A outer s H E hr => ?_
  refine ⟨_, (pss_one (ps_if (pt_not (pt_val (pe_call G_is_scheme (hr.mono (by omega)) rfl m_is_scheme kp_is_scheme b_is_scheme .nil pass0 (pa_cons (pv 0) pa_nil)))) (pss_one ps_never) pss_nil)), ?_⟩
  -- N: [(0, 'scheme')]; cells: []
  rintro S W hg B D hn hR
  exact Nx.ifF (TyT.notB (b := true) (TyT.tB (TyE.fn S hg (TyA.cons (TyE.var rfl) TyA.nil)))) (Nx.next fun σ H j b e => hn σ H j b .non)
end
end Tk
namespace Tk
open PySem PySem.Spec PyProof.Rows L2
section
variable {P : Program} {w : World} {K : PySem.W.Frag} {mg : Str → Option Value} {base : Heap}
/-! ### rows, bodies -/
structure HwA where
  hd : Str
  tl : List PyData
  word : Str
  many : Nat
def HwA.ans (x : HwA) : Bool := decide (x.tl.length + 1 = x.many) && decide (x.hd = x.word)
def spHasWord (K : PySem.W.Frag) : Sp := SpF (δ := HwA) (fun x => [rep K (.tuple (.str x.hd :: x.tl)), rep K (.str x.word), rep K (.int (x.many : Nat))]) (fun x => rep K (.bool x.ans)) (fun x _ => True)
theorem scHasWord : FnScope ["thing", "word", "many"] ["thing", "word", "many"] (defScope sHasWord) := ⟨rfl, rfl, rfl, by decide +kernel, rfl, by decide +kernel, by decide +kernel⟩
theorem ok_has_word (T : Tx K mg) {f : Addr} {fd : FuncData} (F : FnP K "has_word" "has_word" sHasWord f fd) : FnOk P w K mg base CX0 (1) f fd ["thing", "word", "many"] (spHasWord K) := by
  refine fn_ok F scHasWord (fun _ => rfl) fun cdv A outer s H E hr => ?_
  refine ⟨_, (pss_one (ps_ret (pe_and (pe_callB (k_isi K) rfl T.isinstance bt_isinstance (pa_cons (pv 0) (pa_cons (pe_bltn (v := .ty "tuple") rfl T.tuple bt_tuple rfl) pa_nil))) (pe_and (pe_cmpR op_eq (pe_callB (k_len K) rfl T.len bt_len (pa_cons (pv 0) pa_nil)) (pv 2) (nomark _)) (pe_and (pe_callB (k_isi K) rfl T.isinstance bt_isinstance (pa_cons (pe_ix (k_ix K) (pv 0) pe_int (fun _ _ => rfl)) (pa_cons (pe_bltn (v := .ty "str") rfl T.str bt_str rfl) pa_nil))) (pe_one (pe_cmpR op_eq (pe_ix (k_ix K) (pv 0) pe_int (fun _ _ => rfl)) (pv 1) (nomark _)))))))), ?_⟩
  -- N: [(0, 'thing'), (1, 'word'), (2, 'many')]; cells: []
  rintro ⟨h, tl, wd, n⟩ W _ B D hn hR
  refine Nx.ret (TyE.andV (TyE.cb (TyA.cons (TyE.var rfl) (TyA.cons TyE.is TyA.nil)) ra_isTD) fun _ => TyE.andV (TyE.op (TyE.cb (TyA.cons (TyE.var rfl) TyA.nil) ra_lenD) (TyE.var rfl) r_eqI) fun _ =>
    TyE.andV (TyE.cb (TyA.cons (TyE.op (TyE.var rfl) TyE.int (r_ixD (i := 0) rfl)) (TyA.cons TyE.is TyA.nil)) ra_isS) fun _ => TyE.op (TyE.op (TyE.var rfl) TyE.int (r_ixD (i := 0) rfl)) (TyE.var rfl) r_eqS) fun v H j b p => hR v H j b ?_
  have e : HwA.ans ⟨h, tl, wd, n⟩ = (true && (decide (((.str h :: tl : List PyData).length : Int) = (n : Int)) && (true && decide (h = wd)))) := by
    unfold HwA.ans
    rw [Bool.true_and, Bool.true_and]
    congr 1
    refine decide_eq_decide.mpr ?_
    show tl.length + 1 = n ↔ ((tl.length + 1 : Nat) : Int) = (n : Int)
    omega
  show (rep K (.bool (HwA.ans ⟨h, tl, wd, n⟩))).h v _
  rw [e]
  exact p
/-- has_word's answer, told -/
theorem TyE.hw {W : Wd} {Γ : Ctx} {ta tb tc : TE} {E : XK} {h wd : Str} {tl : List PyData} {n : Nat} {b : Bool} (ha : TyE W Γ ta (rep K (.tuple (.str h :: tl)))) (hb : TyE W Γ tb (rep K (.str wd))) (hc : TyE W Γ tc (rep K (.int (n : Nat)))) (hl : decide (tl.length + 1 = n) = b) (e : decide (h = wd) = true) :
    TyE W Γ (tCall (spHasWord K) [] E (tCons ta (tCons tb (tCons tc tNil)))) (rep K (.bool b)) := by
  have e2 : HwA.ans ⟨h, tl, wd, n⟩ = b := by
    unfold HwA.ans
    rw [hl, e, Bool.and_true]
  rw [← e2]
  exact TyE.fn (⟨h, tl, wd, n⟩ : HwA) trivial (TyA.cons ha (TyA.cons hb (TyA.cons hc TyA.nil)))
theorem TyE.hwF {W : Wd} {Γ : Ctx} {ta tb tc : TE} {E : XK} {h wd : Str} {tl : List PyData} {n : Nat} (ha : TyE W Γ ta (rep K (.tuple (.str h :: tl)))) (hb : TyE W Γ tb (rep K (.str wd))) (hc : TyE W Γ tc (rep K (.int (n : Nat)))) (e : decide (h = wd) = false) :
    TyE W Γ (tCall (spHasWord K) [] E (tCons ta (tCons tb (tCons tc tNil)))) (rep K (.bool false)) := by
  have e2 : HwA.ans ⟨h, tl, wd, n⟩ = false := by
    unfold HwA.ans
    rw [e, Bool.and_false]
  rw [← e2]
  exact TyE.fn (⟨h, tl, wd, n⟩ : HwA) trivial (TyA.cons ha (TyA.cons hb (TyA.cons hc TyA.nil)))
/-- row_vars: fewer than n crosses in one another -/
structure RvA where
  a : Str
  b : Option Str
def RvA.names (x : RvA) : List Str := x.a :: x.b.toList
def RvA.deep (x : RvA) : Nat := x.b.toList.length
def spRowVars (K : PySem.W.Frag) (n : Nat) : Sp := SpF (δ := RvA) (fun x => [rep K (rowD x.a x.b)]) (fun x => lstN (x.names.map fun s => rep K (.str s))) (fun x _ => x.names.all isName = true ∧ x.deep < n)
theorem scRowVars : FnScope ["thing", "ahead"] ["thing"] (defScope sRowVars) := ⟨rfl, rfl, rfl, by decide +kernel, rfl, by decide +kernel, by decide +kernel⟩
theorem ok_row_vars (T : Tx K mg) {f : Addr} {fd : FuncData} (F : FnP K "row_vars" "row_vars" sRowVars f fd) {n : Nat} (D_row_vars : DefOk P w K mg base (n + 2) "row_vars" ["thing"] (spRowVars K n)) (D_is_name : DefOk P w K mg base 2 "is_name" ["thing"] (spIsName K)) (D_has_word : DefOk P w K mg base 1 "has_word" ["thing", "word", "many"] (spHasWord K)) : FnOk P w K mg base CX0 (n + 3) f fd ["thing"] (spRowVars K (n + 1)) := by
  obtain ⟨f_row_vars, fd_row_vars, G_row_vars, m_row_vars, kp_row_vars, b_row_vars⟩ := D_row_vars.ex
  obtain ⟨f_is_name, fd_is_name, G_is_name, m_is_name, kp_is_name, b_is_name⟩ := D_is_name.ex
  obtain ⟨f_has_word, fd_has_word, G_has_word, m_has_word, kp_has_word, b_has_word⟩ := D_has_word.ex
  refine fn_ok F scRowVars (fun _ => rfl) fun cdv A outer s H E hr => ?_
  refine ⟨_, (pss_cons (ps_if (pt_val (pe_call G_has_word (hr.mono (by omega)) rfl m_has_word kp_has_word b_has_word .nil pass0 (pa_cons (pv 0) (pa_cons pe_str (pa_cons pe_int pa_nil))))) (pss_one (ps_ret (pe_ifExp (pt_val (pe_call G_is_name (hr.mono (by omega)) rfl m_is_name kp_is_name b_is_name .nil pass0 (pa_cons (pe_ix (k_ix K) (pv 0) pe_int (fun _ _ => rfl)) pa_nil))) (pe_lst (pa_cons (pe_ix (k_ix K) (pv 0) pe_int (fun _ _ => rfl)) pa_nil)) pe_non))) pss_nil)
      (pss_cons (ps_if (PW.pt (pw_or (pt_not (pt_val (pe_call G_has_word (hr.mono (by omega)) rfl m_has_word kp_has_word b_has_word .nil pass0 (pa_cons (pv 0) (pa_cons pe_str (pa_cons pe_int pa_nil)))))) (pw_or (pt_not (pt_val (pe_call G_has_word (hr.mono (by omega)) rfl m_has_word kp_has_word b_has_word .nil pass0 (pa_cons (pe_ix (k_ix K) (pv 0) pe_int (fun _ _ => rfl)) (pa_cons pe_str (pa_cons pe_int pa_nil)))))) (pw_or1 (pt_not (pt_val (pe_call G_is_name (hr.mono (by omega)) rfl m_is_name kp_is_name b_is_name .nil pass0 (pa_cons (pe_ix (k_ix K) (pe_ix (k_ix K) (pv 0) pe_int (fun _ _ => rfl)) pe_int (fun _ _ => rfl)) pa_nil)))))))) (pss_one (ps_ret pe_non)) pss_nil)
      (pss_cons (ps_set (i := 1) scRowVars.nd rfl (Or.inl rfl) (pe_call G_row_vars (hr.mono (by omega)) rfl m_row_vars kp_row_vars b_row_vars .nil pass0 (pa_cons (pe_ix (k_ix K) (pv 0) pe_int (fun _ _ => rfl)) pa_nil)))
      (pss_one (ps_ret (pe_ifExp (pt_cmpR op_isNn (pv 1) pe_non (nomark _)) pe_non (pe_op op_cat (pv 1) (pe_lst (pa_cons (pe_ix (k_ix K) (pe_ix (k_ix K) (pv 0) pe_int (fun _ _ => rfl)) pe_int (fun _ _ => rfl)) pa_nil))))))))), ?_⟩
  -- N: [(0, 'thing'), (1, 'ahead')]; cells: []
  rintro ⟨a, b⟩ W ⟨hs, hn1⟩ B D hn hR
  cases b with
  | none =>
    have ha : isName a = true := by
      have := (Bool.and_eq_true_iff.mp (show (isName a && [].all isName) = true from hs)).1
      exact this
    have ht : ∀ {W : Wd} {Γ : Ctx}, Γ[0]? = some (some (rep K (rowD a none))) → TyE W Γ (tVar 0) (rep K (.tuple [.str "var", .str a])) := fun e => TyE.var e
    refine Nx.sIf1 (TyT.tB (TyE.hw (b := true) (n := 2) (ht rfl) TyE.str TyE.int rfl (by decide +kernel))) (fun _ => ?_) fun z => by cases z
    exact Nx.ret (TyE.ifX (TyT.tB (TyE.fn a ha (TyA.cons (TyE.op (ht rfl) TyE.int (r_ixD (i := 1) rfl)) TyA.nil))) (fun _ => TyE.lstN (TyA.cons (TyE.op (ht rfl) TyE.int (r_ixD (i := 1) rfl)) TyA.nil)) fun z => by cases z) hR
  | some b =>
    obtain ⟨ha, hb0⟩ := Bool.and_eq_true_iff.mp (show (isName a && [b].all isName) = true from hs)
    have hb : isName b = true := (Bool.and_eq_true_iff.mp (show (isName b && [].all isName) = true from hb0)).1
    have hn1 : 1 < n + 1 := hn1
    have ht : ∀ {W : Wd} {Γ : Ctx}, Γ[0]? = some (some (rep K (rowD a (some b)))) → TyE W Γ (tVar 0) (rep K (.tuple [.str "cross", varD a, varD b])) := fun e => TyE.var e
    have h2 : ∀ {W : Wd} {Γ : Ctx}, Γ[0]? = some (some (rep K (rowD a (some b)))) → TyE W Γ (tOp (rIx K) (tVar 0) (tC (.int 2))) (rep K (.tuple [.str "var", .str b])) := fun e => TyE.op (ht e) TyE.int (r_ixD (i := 2) rfl)
    refine Nx.sIfF (TyT.tB (TyE.hwF (n := 2) (ht rfl) TyE.str TyE.int (by decide +kernel))) ?_
    refine Nx.sIfF (TyT.or (b1 := false) (b2 := false) (TyT.notB (TyT.tB (TyE.hw (b := true) (n := 3) (ht rfl) TyE.str TyE.int rfl (by decide +kernel)))) fun _ => TyT.or (b1 := false) (b2 := false) (TyT.notB (TyT.tB (TyE.hw (b := true) (n := 2) (h2 rfl) TyE.str TyE.int rfl (by decide +kernel)))) fun _ =>
      TyT.notB (b := true) (TyT.tB (TyE.fn b hb (TyA.cons (TyE.op (h2 rfl) TyE.int (r_ixD (i := 1) rfl)) TyA.nil)))) ?_
    refine Nx.sSet (P := lstN [rep K (.str a)]) (TyE.fn (⟨a, none⟩ : RvA) (by exact ⟨by show (isName a && true) = true; rw [ha] <;> rfl, by show 0 < n; omega⟩) (TyA.cons (TyE.op (ht rfl) TyE.int (r_ixD (i := 1) rfl)) TyA.nil)) ?_
    exact Nx.ret (TyE.ifX (TyT.test (K := K) (TyE.op (TyE.var rfl) TyE.non (r_isN (b := false) fun v H ⟨a, xs, e, _⟩ => by subst e; rfl))) (fun z => by cases z) fun _ => TyE.op (TyE.var rfl) (TyE.lstN (TyA.cons (TyE.op (h2 rfl) TyE.int (r_ixD (i := 1) rfl)) TyA.nil)) (r_cat (Nat.le_of_ble_eq_true rfl))) hR
def spKindOf (K : PySem.W.Frag) : Sp := SpF (δ := Sch × Kd) (fun x => [schP K x.1, rep K x.2.enc]) (fun x => rep K (strsD x.2.cols)) (fun x _ => x.1.Good ∧ x.2.Ok x.1)
theorem lookup_map {α β : Type} (f : α → β) (k : Str) : ∀ l : List (Str × α), (l.map fun p => (p.1, f p.2)).lookup k = (l.lookup k).map f
  | [] => rfl
  | p :: l => by
    obtain ⟨a, b⟩ := p
    rw [List.map_cons, List.lookup_cons, List.lookup_cons]
    cases k == a with
    | true => rfl
    | false => exact lookup_map f k l
theorem scKindOfTies : FnScope ["scheme", "thing", "sorts", "ties"] ["scheme", "thing"] (defScope sKindOfTies) := ⟨rfl, rfl, rfl, by decide +kernel, rfl, by decide +kernel, by decide +kernel⟩
theorem ok_kind_of_ties (T : Tx K mg) {f : Addr} {fd : FuncData} (F : FnP K "kind_of_ties" "kind_of_ties" sKindOfTies f fd) (D_has_word : DefOk P w K mg base 1 "has_word" ["thing", "word", "many"] (spHasWord K)) : FnOk P w K mg base CX0 (2) f fd ["scheme", "thing"] (spKindOf K) := by
  obtain ⟨f_has_word, fd_has_word, G_has_word, m_has_word, kp_has_word, b_has_word⟩ := D_has_word.ex
  refine fn_ok F scKindOfTies (fun _ => rfl) fun cdv A outer s H E hr => ?_
  refine ⟨_, (pss_cons (ps_asg (pv 0) (k_gtup K 2 (pgs_cons (pg_name (i := 2) scKindOfTies.nd rfl (Or.inl rfl)) (pgs_cons (pg_name (i := 3) scKindOfTies.nd rfl (Or.inl rfl)) pgs_nil))))
      (pss_cons (ps_if (PW.pt (pw_and (pt_val (pe_call G_has_word (hr.mono (by omega)) rfl m_has_word kp_has_word b_has_word .nil pass0 (pa_cons (pv 1) (pa_cons pe_str (pa_cons pe_int pa_nil))))) (pw_and (pt_val (pe_callB (k_isi K) rfl T.isinstance bt_isinstance (pa_cons (pe_ix (k_ix K) (pv 1) pe_int (fun _ _ => rfl)) (pa_cons (pe_bltn (v := .ty "str") rfl T.str bt_str rfl) pa_nil)))) (pw_and1 (pt_cmpR (k_in K) (pe_ix (k_ix K) (pv 1) pe_int (fun _ _ => rfl)) (pv 2) (by rfl)))))) (pss_one (ps_ret (pe_tup (pa_cons (pe_ix (k_ix K) (pv 1) pe_int (fun _ _ => rfl)) (pa_cons (pe_ix (k_ix K) (pv 1) pe_int (fun _ _ => rfl)) pa_nil))))) pss_nil)
      (pss_cons (ps_if (PW.pt (pw_and (pt_val (pe_call G_has_word (hr.mono (by omega)) rfl m_has_word kp_has_word b_has_word .nil pass0 (pa_cons (pv 1) (pa_cons pe_str (pa_cons pe_int pa_nil))))) (pw_and1 (pt_val (pe_callB (k_isi K) rfl T.isinstance bt_isinstance (pa_cons (pe_ix (k_ix K) (pv 1) pe_int (fun _ _ => rfl)) (pa_cons (pe_bltn (v := .ty "str") rfl T.str bt_str rfl) pa_nil))))))) (pss_one (ps_ret (pe_dget1 (hu_of hr) (pe_callTy (k_dictT K) rfl T.dict bt_dict (pa_cons (pv 3) pa_nil)) (pe_ix (k_ix K) (pv 1) pe_int (fun _ _ => rfl)) ⟨rfl, rfl, rfl, rfl⟩))) pss_nil)
      (pss_one (ps_ret pe_non))))), ?_⟩
  -- N: [(0, 'scheme'), (1, 'thing'), (2, 'sorts'), (3, 'ties')]; cells: []
  rintro ⟨S, d⟩ W ⟨hg, hd⟩ B D hn hR
  refine Nx.sAsg (vs := [2, 3]) (TyE.var rfl) (TyG.tup (TyGs.cons TyG.name (TyGs.cons TyG.name TyGs.nil))) ?_
  cases d with
  | same s =>
    have hs : s ∈ S.sorts := hd
    have ht : ∀ {W : Wd} {Γ : Ctx}, Γ[1]? = some (some (rep K (sameE s))) → TyE W Γ (tVar 1) (rep K (.tuple [.str "same", .str s])) := fun e => TyE.var e
    have h1 : ∀ {W : Wd} {Γ : Ctx}, Γ[1]? = some (some (rep K (sameE s))) → TyE W Γ (tOp (rIx K) (tVar 1) (tC (.int 1))) (rep K (.str s)) := fun e => TyE.op (ht e) TyE.int (r_ixD (i := 1) rfl)
    refine Nx.sIf1 (TyT.and (b1 := true) (b2 := true) (TyT.tB (TyE.hw (b := true) (n := 2) (ht rfl) TyE.str TyE.int rfl (by decide +kernel))) fun _ => TyT.and (b1 := true) (b2 := true) (TyT.tB (TyE.cb (TyA.cons (h1 rfl) (TyA.cons TyE.is TyA.nil)) ra_isS)) fun _ =>
      TyT.bE (TyT.test (TyE.op (h1 rfl) ((TyE.var (i := 2) rfl).imp fun _ _ => strs_t) r_inT)) (decide_eq_true hs)) (fun _ => ?_) fun z => by cases z
    exact Nx.ret (TyE.tupD (ds := [.str s, .str s]) (TyA.cons (h1 rfl) (TyA.cons (h1 rfl) TyA.nil))) hR
  | tie t cs =>
    have hs : (t, cs) ∈ S.ties := hd
    have ht : ∀ {W : Wd} {Γ : Ctx}, Γ[1]? = some (some (rep K (tieE t))) → TyE W Γ (tVar 1) (rep K (.tuple [.str "tie", .str t])) := fun e => TyE.var e
    have h1 : ∀ {W : Wd} {Γ : Ctx}, Γ[1]? = some (some (rep K (tieE t))) → TyE W Γ (tOp (rIx K) (tVar 1) (tC (.int 1))) (rep K (.str t)) := fun e => TyE.op (ht e) TyE.int (r_ixD (i := 1) rfl)
    refine Nx.sIfF (TyT.and (b1 := false) (b2 := false) (TyT.tB (TyE.hwF (n := 2) (ht rfl) TyE.str TyE.int (by decide +kernel))) fun z => by cases z) ?_
    refine Nx.sIf1 (TyT.and (b1 := true) (b2 := true) (TyT.tB (TyE.hw (b := true) (n := 2) (ht rfl) TyE.str TyE.int rfl (by decide +kernel))) fun _ => TyT.tB (TyE.cb (TyA.cons (h1 rfl) (TyA.cons TyE.is TyA.nil)) ra_isS)) (fun _ => ?_) fun z => by cases z
    exact Nx.ret (TyE.dget1 (TyE.cb (TyA.cons (TyE.var (i := 3) rfl) TyA.nil) (ra_dictT (xs := S.ties) (f := fun t => t.1) (F := fun t => rep K (strsD t.2)) hg.nd)) (h1 rfl) (by
      rw [lookup_map (fun cs => rep K (strsD cs)) t S.ties, lookup_nd hg.nd hs] <;> rfl)) hR
/-! ### atomic ones, bodies -/
def dctS (K : PySem.W.Frag) (kn : List (Str × Str)) : Pd := dctP (kn.map fun p => (p.1, rep K (.str p.2)))
theorem dctS_look {kn : List (Str × Str)} {v s : Str} (h : kn.lookup v = some s) : (kn.map fun p => (p.1, rep K (.str p.2))).lookup v = some (rep K (.str s)) := by
  rw [lookup_map (fun s => rep K (.str s)) v kn, h] <;> rfl
structure AtA where
  S : Sch
  kn : List (Str × Str)
  r : RvA
  d : Kd
def AtA.enc (x : AtA) : PyData := .tuple [.str "in", rowD x.r.a x.r.b, x.d.enc]
structure AtA.Ok (x : AtA) : Prop where
  g : x.S.Good
  nm : x.r.names.all isName = true
  dk : x.d.Ok x.S
  eq : x.r.names.map (fun v => x.kn.lookup v) = x.d.cols.map some
def spIsAtomic (K : PySem.W.Frag) : Sp := SpF (δ := AtA) (fun x => [schP K x.S, dctS K x.kn, rep K x.enc]) (fun x => rep K (.bool true)) (fun x _ => x.Ok)
theorem look_of {kn : List (Str × Str)} : ∀ {ns cs : List Str}, ns.map (fun v => kn.lookup v) = cs.map some → ∀ v ∈ ns, ∃ s, kn.lookup v = some s
  | [], _, _, v, hv => by cases hv
  | n :: ns, [], h, _, _ => by simp at h
  | n :: ns, c :: cs, h, v, hv => by
    rw [List.map_cons, List.map_cons] at h
    injection h with h1 h2
    rcases List.mem_cons.mp hv with e | hv
    · exact ⟨c, by rw [e]; exact h1⟩
    · exact look_of h2 v hv
theorem cols_of {kn : List (Str × Str)} : ∀ {ns cs : List Str}, ns.map (fun v => kn.lookup v) = cs.map some → ns.map (fun v => (kn.lookup v).getD v) = cs
  | [], [], _ => rfl
  | [], c :: cs, h => by simp at h
  | n :: ns, [], h => by simp at h
  | n :: ns, c :: cs, h => by
    rw [List.map_cons, List.map_cons] at h
    injection h with h1 h2
    rw [List.map_cons, h1, cols_of h2] <;> rfl
theorem cols_names {S : Sch} (hg : S.Good) {d : Kd} (h : d.Ok S) : d.cols.all isName = true := by
  have hn := List.all_eq_true.mp hg.names
  refine List.all_eq_true.mpr fun s hs => ?_
  cases d with
  | same t =>
    have e : s = t := by
      have : s ∈ [t, t] := hs
      simpa using this
    rw [e]
    exact hn t h
  | tie t cs => exact hn s ((hg.tc (t, cs) h).2.2 s hs)
theorem scIsAtomic : FnScope ["scheme", "known", "thing", "names", "kind", "name"] ["scheme", "known", "thing"] (defScope sIsAtomic) := ⟨rfl, rfl, rfl, by decide +kernel, rfl, by decide +kernel, by decide +kernel⟩
theorem ok_is_atomic (T : Tx K mg) {f : Addr} {fd : FuncData} (F : FnP K "is_atomic" "is_atomic" sIsAtomic f fd) (D_kind_of_ties : DefOk P w K mg base 2 "kind_of_ties" ["scheme", "thing"] (spKindOf K)) (D_row_vars : DefOk P w K mg base 4 "row_vars" ["thing"] (spRowVars K 2)) (D_has_word : DefOk P w K mg base 1 "has_word" ["thing", "word", "many"] (spHasWord K)) : FnOk P w K mg base CX0 (5) f fd ["scheme", "known", "thing"] (spIsAtomic K) := by
  obtain ⟨f_kind_of_ties, fd_kind_of_ties, G_kind_of_ties, m_kind_of_ties, kp_kind_of_ties, b_kind_of_ties⟩ := D_kind_of_ties.ex
  obtain ⟨f_row_vars, fd_row_vars, G_row_vars, m_row_vars, kp_row_vars, b_row_vars⟩ := D_row_vars.ex
  obtain ⟨f_has_word, fd_has_word, G_has_word, m_has_word, kp_has_word, b_has_word⟩ := D_has_word.ex
  refine fn_ok F scIsAtomic (fun _ => rfl) fun cdv A outer s H E hr => ?_
  refine ⟨_, (pss_cons (ps_if (pt_not (pt_val (pe_call G_has_word (hr.mono (by omega)) rfl m_has_word kp_has_word b_has_word .nil pass0 (pa_cons (pv 2) (pa_cons pe_str (pa_cons pe_int pa_nil)))))) (pss_one (ps_ret pe_bl)) pss_nil)
      (pss_cons (ps_par (i := 3) (j := 4) rfl scIsAtomic.nd rfl rfl (by decide) rfl rfl (pa_cons (pe_call G_row_vars (hr.mono (by omega)) rfl m_row_vars kp_row_vars b_row_vars .nil pass0 (pa_cons (pe_ix (k_ix K) (pv 2) pe_int (fun _ _ => rfl)) pa_nil)) (pa_cons (pe_call G_kind_of_ties (hr.mono (by omega)) rfl m_kind_of_ties kp_kind_of_ties b_kind_of_ties .nil pass0 (pa_cons (pv 0) (pa_cons (pe_ix (k_ix K) (pv 2) pe_int (fun _ _ => rfl)) pa_nil))) pa_nil)) rfl)
      (pss_cons (ps_if (PW.pt (pw_or (pt_cmpR op_isNn (pv 3) pe_non (nomark _)) (pw_or (pt_cmpR op_isNn (pv 4) pe_non (nomark _)) (pw_or1 (pt_not (pt_val (pe_callB (k_all K) rfl T.all bt_all (pa_cons (pe_lc (own := [("name", 5)]) rfl scIsAtomic.nd (k_list K (pv 3)) (blkOk_by (own := [("name", 5)]) (N := ["scheme", "known", "thing", "names", "kind", "name"]) (sc := defScope sIsAtomic) (by decide +kernel)) (fun _ _ _ _ _ => (pg_name (i := 5) scIsAtomic.nd rfl (Or.inl rfl))) (fun _ _ _ _ _ => pts_nil) (fun _ _ _ _ _ => (pe_cmp (pc_din (hu_of hr) (pv 5) (pv 1))))) pa_nil)))))))) (pss_one (ps_ret pe_bl)) pss_nil)
      (pss_one (ps_ret (pe_cmpR (k_eqD K hr.units) (pe_callTy (k_tup K) rfl T.tuple bt_tuple (pa_cons (pe_lc (own := [("name", 5)]) rfl scIsAtomic.nd (k_list K (pv 3)) (blkOk_by (own := [("name", 5)]) (N := ["scheme", "known", "thing", "names", "kind", "name"]) (sc := defScope sIsAtomic) (by decide +kernel)) (fun _ _ _ _ _ => (pg_name (i := 5) scIsAtomic.nd rfl (Or.inl rfl))) (fun _ _ _ _ _ => pts_nil) (fun _ _ _ _ _ => (pe_dget (hu_of hr) (pv 1) (pv 5) (fun _ _ => rfl)))) pa_nil)) (pv 4) (nomark _))))))), ?_⟩
  -- N: [(0, 'scheme'), (1, 'known'), (2, 'thing'), (3, 'names'), (4, 'kind'), (5, 'name')]; cells: ['known']
  rintro ⟨S, kn, r, d⟩ W ⟨hg, hnm, hdk, heq⟩ B D hn hR
  have hnm : r.names.all isName = true := hnm
  have heq : r.names.map (fun v => kn.lookup v) = d.cols.map some := heq
  have hdk : d.Ok S := hdk
  have hlen : r.names.length ≤ 1000 := by
    show r.b.toList.length + 1 ≤ 1000
    cases r.b with
    | none => exact Nat.le_of_ble_eq_true rfl
    | some b => exact Nat.le_of_ble_eq_true rfl
  have hdeep : r.deep < 2 := by
    show r.b.toList.length < 2
    cases r.b with
    | none => exact Nat.le_of_ble_eq_true rfl
    | some b => exact Nat.le_of_ble_eq_true rfl
  have ht : ∀ {W : Wd} {Γ : Ctx}, Γ[2]? = some (some (rep K (AtA.enc ⟨S, kn, r, d⟩))) → TyE W Γ (tVar 2) (rep K (.tuple [.str "in", rowD r.a r.b, d.enc])) := fun e => TyE.var e
  refine Nx.sIfF (TyT.notB (b := true) (TyT.tB (TyE.hw (b := true) (n := 3) (ht rfl) TyE.str TyE.int rfl (by decide +kernel)))) ?_
  refine Nx.sPar (TyA.cons (TyE.fn r ⟨hnm, hdeep⟩ (TyA.cons (TyE.op (ht rfl) TyE.int (r_ixD (i := 1) rfl)) TyA.nil)) (TyA.cons (TyE.fn (S, d) ⟨hg, hdk⟩ (TyA.cons (TyE.var rfl) (TyA.cons (TyE.op (ht rfl) TyE.int (r_ixD (i := 2) rfl)) TyA.nil))) TyA.nil)) ?_
  refine Nx.sIfF (TyT.or (b1 := false) (b2 := false) (TyT.test (K := K) (TyE.op (TyE.var rfl) TyE.non (r_isN fun v H ⟨a, xs, e, _⟩ => by subst e; rfl))) fun _ =>
    TyT.or (b1 := false) (b2 := false) (TyT.test (K := K) (TyE.op (TyE.var rfl) TyE.non (r_isN (nonP_rep (d := strsD d.cols))))) fun _ =>
    TyT.notB (b := true) (TyT.tB (TyE.cb (TyA.cons (TyE.lcM r.names (fun s => rep K (.str s)) (fun _ => rep K (.bool true)) (TyI.list ((TyE.var rfl).imp fun _ _ => lstN_of)) hlen fun c hc p Qs hp => ?_) TyA.nil) ra_allT))) ?_
  · obtain ⟨s, hs⟩ := look_of heq c hc
    refine ⟨_, TyG.name, ?_⟩
    have h := TyE.din (K := K) (W := W.ownL K p Qs) (Γ := [some (schP K S), some (dctS K kn), some (rep K (AtA.enc ⟨S, kn, r, d⟩)), some (lstN (r.names.map fun s => rep K (.str s))), some (rep K (strsD d.cols)), some (rep K (.str c))]) (ty := tVar 5) (td := tVar 1) (k := c) (TyE.var rfl) (TyE.var rfl)
    rw [dctS_look hs] at h
    exact h
  · refine Nx.ret (TyE.bT (TyE.op (TyE.cb (TyA.cons (TyE.lcM r.names (fun s => rep K (.str s)) (fun v => rep K (.str ((kn.lookup v).getD v))) (TyI.list ((TyE.var rfl).imp fun _ _ => lstN_of)) hlen fun c hc p Qs hp => ?_) TyA.nil) ra_tupL) (TyE.var rfl) (R2T.pre (r_eqD (d := strsD d.cols) (e := strsD d.cols) (strs_shaped (cols_names hg hdk)) (strs_shaped (cols_names hg hdk))) (fun v H q => strs_m ?_) fun _ _ q => q)) (strs_eqv (cols_names hg hdk))) hR
    · obtain ⟨s, hs⟩ := look_of heq c hc
      refine ⟨_, TyG.name, ?_⟩
      rw [hs]
      exact TyE.dget (TyE.var rfl) (TyE.var rfl) (dctS_look hs)
    · rw [← cols_of heq, List.map_map]
      exact q
end
end Tk
namespace Tk
open PySem PySem.Spec PyProof.Rows L2
section
variable {P : Program} {w : World} {K : PySem.W.Frag} {mg : Str → Option Value} {base : Heap}
structure BoA where
  S : Sch
  kn : List (Str × Str)
  b : Bd
def spIsBody (K : PySem.W.Frag) (n : Nat) : Sp := SpF (δ := BoA) (fun x => [schP K x.S, dctS K x.kn, rep K x.b.enc]) (fun x => rep K (.bool true)) (fun x _ => x.S.Good ∧ x.b.Ok x.S x.kn ∧ x.b.deep < n)
theorem pairs_t {mg : Str → Option Value} {W : Wd} {Γ : Ctx} (h : ∃ a, mg "PAIRS" = some (.ref a) ∧ ∀ H, SqT K H a [.str "and", .str "or", .str "if"]) : TyE W Γ (tC (.ref h.choose)) (tupOf K ((["and", "or", "if"] : List Str).map fun b => rep K (.str b))) := TyE.c fun H =>
  ⟨h.choose, _, rfl, h.choose_spec.2 H, .cons (Dp.str _) (.cons (Dp.str _) (.cons (Dp.str _) .nil))⟩
theorem scIsBody : FnScope ["scheme", "known", "thing"] ["scheme", "known", "thing"] (defScope sIsBody) := ⟨rfl, rfl, rfl, by decide +kernel, rfl, by decide +kernel, by decide +kernel⟩
theorem ok_is_body (T : Tx K mg) {f : Addr} {fd : FuncData} (F : FnP K "is_body" "is_body" sIsBody f fd) {n : Nat} (D_is_atomic : DefOk P w K mg base 5 "is_atomic" ["scheme", "known", "thing"] (spIsAtomic K)) (D_is_body : DefOk P w K mg base (n + 6) "is_body" ["scheme", "known", "thing"] (spIsBody K n)) (D_has_word : DefOk P w K mg base 1 "has_word" ["thing", "word", "many"] (spHasWord K)) : FnOk P w K mg base CX0 (n + 7) f fd ["scheme", "known", "thing"] (spIsBody K (n + 1)) := by
  obtain ⟨f_is_atomic, fd_is_atomic, G_is_atomic, m_is_atomic, kp_is_atomic, b_is_atomic⟩ := D_is_atomic.ex
  obtain ⟨f_is_body, fd_is_body, G_is_body, m_is_body, kp_is_body, b_is_body⟩ := D_is_body.ex
  obtain ⟨f_has_word, fd_has_word, G_has_word, m_has_word, kp_has_word, b_has_word⟩ := D_has_word.ex
  refine fn_ok F scIsBody (fun _ => rfl) fun cdv A outer s H E hr => ?_
  refine ⟨_, (pss_cons (ps_if (pt_val (pe_call G_has_word (hr.mono (by omega)) rfl m_has_word kp_has_word b_has_word .nil pass0 (pa_cons (pv 2) (pa_cons pe_str (pa_cons pe_int pa_nil))))) (pss_one (ps_ret (pe_call G_is_body (hr.mono (by omega)) rfl m_is_body kp_is_body b_is_body .nil pass0 (pa_cons (pv 0) (pa_cons (pv 1) (pa_cons (pe_ix (k_ix K) (pv 2) pe_int (fun _ _ => rfl)) pa_nil)))))) pss_nil)
      (pss_cons (ps_if (PW.pt (pw_and (pt_val (pe_callB (k_isi K) rfl T.isinstance bt_isinstance (pa_cons (pv 2) (pa_cons (pe_bltn (v := .ty "tuple") rfl T.tuple bt_tuple rfl) pa_nil)))) (pw_and (pt_cmpR op_eq (pe_callB (k_len K) rfl T.len bt_len (pa_cons (pv 2) pa_nil)) pe_int (nomark _)) (pw_and (pt_val (pe_callB (k_isi K) rfl T.isinstance bt_isinstance (pa_cons (pe_ix (k_ix K) (pv 2) pe_int (fun _ _ => rfl)) (pa_cons (pe_bltn (v := .ty "str") rfl T.str bt_str rfl) pa_nil)))) (pw_and1 (pt_cmpR (k_in K) (pe_ix (k_ix K) (pv 2) pe_int (fun _ _ => rfl)) (pe_glob (v := .ref T.PAIRS.choose) rfl T.PAIRS.choose_spec.1 rfl) (by rfl))))))) (pss_one (ps_ret (pe_and (pe_call G_is_body (hr.mono (by omega)) rfl m_is_body kp_is_body b_is_body .nil pass0 (pa_cons (pv 0) (pa_cons (pv 1) (pa_cons (pe_ix (k_ix K) (pv 2) pe_int (fun _ _ => rfl)) pa_nil)))) (pe_one (pe_call G_is_body (hr.mono (by omega)) rfl m_is_body kp_is_body b_is_body .nil pass0 (pa_cons (pv 0) (pa_cons (pv 1) (pa_cons (pe_ix (k_ix K) (pv 2) pe_int (fun _ _ => rfl)) pa_nil)))))))) pss_nil)
      (pss_one (ps_ret (pe_call G_is_atomic (hr.mono (by omega)) rfl m_is_atomic kp_is_atomic b_is_atomic .nil pass0 (pa_cons (pv 0) (pa_cons (pv 1) (pa_cons (pv 2) pa_nil)))))))), ?_⟩
  -- N: [(0, 'scheme'), (1, 'known'), (2, 'thing')]; cells: []
  rintro ⟨S, kn, b⟩ W ⟨hg, hb, hd⟩ B D hn hR
  have hb : b.Ok S kn := hb
  have hd : b.deep < n + 1 := hd
  cases b with
  | neg f =>
    have ht : ∀ {W : Wd} {Γ : Ctx}, Γ[2]? = some (some (rep K (Bd.neg f).enc)) → TyE W Γ (tVar 2) (rep K (.tuple [.str "not", f.enc])) := fun e => TyE.var e
    refine Nx.sIf1 (TyT.tB (TyE.hw (b := true) (n := 2) (ht rfl) TyE.str TyE.int rfl (by decide +kernel))) (fun _ => ?_) fun z => by cases z
    exact Nx.ret (TyE.fn (⟨S, kn, f⟩ : BoA) ⟨hg, hb, Nat.lt_of_succ_lt_succ hd⟩ (TyA.cons (TyE.var rfl) (TyA.cons (TyE.var rfl) (TyA.cons (TyE.op (ht rfl) TyE.int (r_ixD (i := 1) rfl)) TyA.nil)))) hR
  | bin o f g =>
    have hb : f.Ok S kn ∧ g.Ok S kn := hb
    have hd : max f.deep g.deep + 1 < n + 1 := hd
    have ht : ∀ {W : Wd} {Γ : Ctx}, Γ[2]? = some (some (rep K (Bd.bin o f g).enc)) → TyE W Γ (tVar 2) (rep K (.tuple [.str o.w, f.enc, g.enc])) := fun e => TyE.var e
    have h0 : ∀ {W : Wd} {Γ : Ctx}, Γ[2]? = some (some (rep K (Bd.bin o f g).enc)) → TyE W Γ (tOp (rIx K) (tVar 2) (tC (.int 0))) (rep K (.str o.w)) := fun e => TyE.op (ht e) TyE.int (r_ixD (i := 0) rfl)
    refine Nx.sIfF (TyT.tB (TyE.hwF (n := 2) (ht rfl) TyE.str TyE.int (by cases o <;> decide +kernel))) ?_
    refine Nx.sIf1 (TyT.and (b1 := true) (b2 := true) (TyT.tB (TyE.cb (TyA.cons (ht rfl) (TyA.cons TyE.is TyA.nil)) ra_isTD)) fun _ => TyT.and (b1 := true) (b2 := true) (TyT.test (TyE.op (TyE.cb (TyA.cons (ht rfl) TyA.nil) ra_lenD) TyE.int r_eqI)) fun _ =>
      TyT.and (b1 := true) (b2 := true) (TyT.tB (TyE.cb (TyA.cons (h0 rfl) (TyA.cons TyE.is TyA.nil)) ra_isS)) fun _ => TyT.bE (TyT.test (TyE.op (h0 rfl) (pairs_t (K := K) T.PAIRS) r_inT)) (by cases o <;> decide +kernel)) (fun _ => ?_) fun z => by cases z
    exact Nx.ret (TyE.andV (TyE.fn (⟨S, kn, f⟩ : BoA) ⟨hg, hb.1, by show f.deep < n; omega⟩ (TyA.cons (TyE.var rfl) (TyA.cons (TyE.var rfl) (TyA.cons (TyE.op (ht rfl) TyE.int (r_ixD (i := 1) rfl)) TyA.nil)))) fun _ =>
      TyE.fn (⟨S, kn, g⟩ : BoA) ⟨hg, hb.2, by show g.deep < n; omega⟩ (TyA.cons (TyE.var rfl) (TyA.cons (TyE.var rfl) (TyA.cons (TyE.op (ht rfl) TyE.int (r_ixD (i := 2) rfl)) TyA.nil)))) hR
  | tie a c t =>
    obtain ⟨h1, h2, cs, h3, h4⟩ := (show isName a = true ∧ (∀ d, c = some d → isName d = true) ∧ ∃ cs, (t, cs) ∈ S.ties ∧ (a :: c.toList).map (fun v => kn.lookup v) = cs.map some from hb)
    have hnm : (RvA.mk a c).names.all isName = true := by
      show (isName a && c.toList.all isName) = true
      rw [h1, Bool.true_and]
      cases c with
      | none => rfl
      | some d =>
        show (isName d && true) = true
        rw [h2 d rfl] <;> rfl
    have ht : ∀ {W : Wd} {Γ : Ctx}, Γ[2]? = some (some (rep K (Bd.tie a c t).enc)) → TyE W Γ (tVar 2) (rep K (.tuple [.str "in", rowD a c, tieE t])) := fun e => TyE.var e
    have h0 : ∀ {W : Wd} {Γ : Ctx}, Γ[2]? = some (some (rep K (Bd.tie a c t).enc)) → TyE W Γ (tOp (rIx K) (tVar 2) (tC (.int 0))) (rep K (.str "in")) := fun e => TyE.op (ht e) TyE.int (r_ixD (i := 0) rfl)
    refine Nx.sIfF (TyT.tB (TyE.hwF (n := 2) (ht rfl) TyE.str TyE.int (by decide +kernel))) ?_
    refine Nx.sIfF (TyT.and (b1 := true) (b2 := false) (TyT.tB (TyE.cb (TyA.cons (ht rfl) (TyA.cons TyE.is TyA.nil)) ra_isTD)) fun _ => TyT.and (b1 := true) (b2 := false) (TyT.test (TyE.op (TyE.cb (TyA.cons (ht rfl) TyA.nil) ra_lenD) TyE.int r_eqI)) fun _ =>
      TyT.and (b1 := true) (b2 := false) (TyT.tB (TyE.cb (TyA.cons (h0 rfl) (TyA.cons TyE.is TyA.nil)) ra_isS)) fun _ => TyT.bE (TyT.test (TyE.op (h0 rfl) (pairs_t (K := K) T.PAIRS) r_inT)) (by decide +kernel)) ?_
    exact Nx.ret (TyE.fn (⟨S, kn, ⟨a, c⟩, .tie t cs⟩ : AtA) ⟨hg, hnm, h3, h4⟩ (TyA.cons (TyE.var rfl) (TyA.cons (TyE.var rfl) (TyA.cons (TyE.var rfl) TyA.nil)))) hR
  | same a c s =>
    obtain ⟨h1, h2, h3, h4, h5⟩ := (show isName a = true ∧ isName c = true ∧ s ∈ S.sorts ∧ kn.lookup a = some s ∧ kn.lookup c = some s from hb)
    have hnm : (RvA.mk a (some c)).names.all isName = true := by
      show (isName a && (isName c && true)) = true
      rw [h1, h2] <;> rfl
    have heq : (RvA.mk a (some c)).names.map (fun v => kn.lookup v) = (Kd.same s).cols.map some := by
      show [kn.lookup a, kn.lookup c] = [some s, some s]
      rw [h4, h5]
    have ht : ∀ {W : Wd} {Γ : Ctx}, Γ[2]? = some (some (rep K (Bd.same a c s).enc)) → TyE W Γ (tVar 2) (rep K (.tuple [.str "in", rowD a (some c), sameE s])) := fun e => TyE.var e
    have h0 : ∀ {W : Wd} {Γ : Ctx}, Γ[2]? = some (some (rep K (Bd.same a c s).enc)) → TyE W Γ (tOp (rIx K) (tVar 2) (tC (.int 0))) (rep K (.str "in")) := fun e => TyE.op (ht e) TyE.int (r_ixD (i := 0) rfl)
    refine Nx.sIfF (TyT.tB (TyE.hwF (n := 2) (ht rfl) TyE.str TyE.int (by decide +kernel))) ?_
    refine Nx.sIfF (TyT.and (b1 := true) (b2 := false) (TyT.tB (TyE.cb (TyA.cons (ht rfl) (TyA.cons TyE.is TyA.nil)) ra_isTD)) fun _ => TyT.and (b1 := true) (b2 := false) (TyT.test (TyE.op (TyE.cb (TyA.cons (ht rfl) TyA.nil) ra_lenD) TyE.int r_eqI)) fun _ =>
      TyT.and (b1 := true) (b2 := false) (TyT.tB (TyE.cb (TyA.cons (h0 rfl) (TyA.cons TyE.is TyA.nil)) ra_isS)) fun _ => TyT.bE (TyT.test (TyE.op (h0 rfl) (pairs_t (K := K) T.PAIRS) r_inT)) (by decide +kernel)) ?_
    exact Nx.ret (TyE.fn (⟨S, kn, ⟨a, some c⟩, .same s⟩ : AtA) ⟨hg, hnm, h3, heq⟩ (TyA.cons (TyE.var rfl) (TyA.cons (TyE.var rfl) (TyA.cons (TyE.var rfl) TyA.nil)))) hR
end
end Tk
namespace Tk
open PySem PySem.Spec PyProof.Rows L2
section
variable {P : Program} {w : World} {K : PySem.W.Frag} {mg : Str → Option Value} {base : Heap}
def pairD (p : Str × Str) : PyData := .tuple [.str p.1, .str p.2]
def pairP (K : PySem.W.Frag) (p : Str × Str) : Pd := tupOf K [rep K (.str p.1), rep K (.str p.2)]
def flP (K : PySem.W.Frag) (f : Fl) : Pd := tupOf K [lstN (f.vars.map (pairP K)), rep K f.body.enc]
def spFlatOf (K : PySem.W.Frag) : Sp := SpF (δ := Sch × Fl) (fun x => [schP K x.1, rep K x.2.enc]) (fun x => flP K x.2) (fun x _ => x.1.Good ∧ x.2.Ok x.1)
theorem bd_hd : ∀ b : Bd, ∃ hd tl, b.enc = .tuple (.str hd :: tl) ∧ decide (hd = "all") = false
  | .tie a b t => ⟨"in", _, rfl, by decide +kernel⟩
  | .same a b s => ⟨"in", _, rfl, by decide +kernel⟩
  | .neg f => ⟨"not", _, rfl, by decide +kernel⟩
  | .bin .and f g => ⟨"and", _, rfl, by decide +kernel⟩
  | .bin .or f g => ⟨"or", _, rfl, by decide +kernel⟩
  | .bin .imp f g => ⟨"if", _, rfl, by decide +kernel⟩
theorem lookup_notin {α : Type} {k : Str} : ∀ {l : List (Str × α)}, k ∉ l.map (·.1) → l.lookup k = none
  | [], _ => rfl
  | p :: l, h => by
    obtain ⟨a, b⟩ := p
    have h1 : ¬ k = a := fun z => h (by rw [z]; exact List.mem_cons_self)
    rw [List.lookup_cons, beq_eq_false_iff_ne.mpr h1]
    exact lookup_notin fun z => h (List.mem_cons_of_mem _ z)
theorem pairs_lay : ∀ {xs : List (Str × Str)}, (∀ p ∈ xs, isName p.1 = true ∧ isName p.2 = true) → PyData.canLayAll0 (xs.map pairD) = true
  | [], _ => rfl
  | x :: xs, h => by
    have h1 := h x (by simp)
    show (PyData.canLay0 (pairD x) && PyData.canLayAll0 (xs.map pairD)) = true
    rw [pairs_lay fun p hp => h p (List.mem_cons_of_mem _ hp), Bool.and_true]
    show (PyData.strOk x.1 && (PyData.strOk x.2 && true)) = true
    rw [str_ok h1.1, str_ok h1.2] <;> rfl
theorem pairs_depth : ∀ {xs : List (Str × Str)}, PyData.depthAll (xs.map pairD) ≤ 3
  | [] => by show (0 : Nat) ≤ 3; decide
  | x :: xs => by
    show max (PyData.depth (pairD x)) (PyData.depthAll (xs.map pairD)) ≤ 3
    have h := pairs_depth (xs := xs)
    have h2 : PyData.depth (pairD x) ≤ 3 := by show (1 : Nat) ≤ 3; decide
    omega
theorem pairs_shaped {xs : List (Str × Str)} (h : ∀ p ∈ xs, isName p.1 = true ∧ isName p.2 = true) : SeqAt.shaped (.list (xs.map pairD)) = true := by
  unfold SeqAt.shaped
  rw [Bool.and_eq_true_iff]
  refine ⟨pairs_lay h, decide_eq_true ?_⟩
  show PyData.depthAll (xs.map pairD) + 1 ≤ 64
  have := pairs_depth (xs := xs)
  omega
theorem pairsL_rep {xs : List (Str × Str)} {v : V} {H : Hp} (h : (lstN (xs.map (pairP K))).h v H) : (rep K (.list (xs.map pairD))).h v H := by
  refine lst_mk ?_
  have h2 := lstN_of (K := K) h
  rw [List.map_map]
  obtain ⟨a, ys, e, h3, h4⟩ := h2
  refine ⟨a, ys, e, h3, h4.imp (by rw [List.length_map, List.length_map]) fun i P Q x hP hQ hx => ?_⟩
  rw [List.getElem?_map] at hP hQ
  cases q : xs[i]? with
  | none => rw [q] at hP; cases hP
  | some t =>
    rw [q] at hP hQ
    have e1 : pairP K t = P := by simpa using hP
    have e2 : rep K (pairD t) = Q := by simpa using hQ
    rw [← e2]
    rw [← e1] at hx
    exact tup_mk (ds := [.str t.1, .str t.2]) hx
theorem sort_name {S : Sch} (hg : S.Good) {s : Str} (h : s ∈ S.sorts) : isName s = true := List.all_eq_true.mp hg.names s h
theorem scFlatOf : FnScope ["scheme", "thing", "found", "word", "name", "over", "inner"] ["scheme", "thing"] (defScope sFlatOf) := ⟨rfl, rfl, rfl, by decide +kernel, rfl, by decide +kernel, by decide +kernel⟩
theorem ok_flat_of (T : Tx K mg) {f : Addr} {fd : FuncData} (F : FnP K "flat_of" "flat_of" sFlatOf f fd) (D_is_body : DefOk P w K mg base 16 "is_body" ["scheme", "known", "thing"] (spIsBody K 10)) (D_has_word : DefOk P w K mg base 1 "has_word" ["thing", "word", "many"] (spHasWord K)) (D_is_name : DefOk P w K mg base 2 "is_name" ["thing"] (spIsName K)) : FnOk P w K mg base CX0 (17) f fd ["scheme", "thing"] (spFlatOf K) := by
  obtain ⟨f_is_body, fd_is_body, G_is_body, m_is_body, kp_is_body, b_is_body⟩ := D_is_body.ex
  obtain ⟨f_has_word, fd_has_word, G_has_word, m_has_word, kp_has_word, b_has_word⟩ := D_has_word.ex
  obtain ⟨f_is_name, fd_is_name, G_is_name, m_is_name, kp_is_name, b_is_name⟩ := D_is_name.ex
  refine fn_ok F scFlatOf (fun _ => rfl) fun cdv A outer s H E hr => ?_
  refine ⟨_, (pss_cons (ps_set (i := 2) scFlatOf.nd rfl (Or.inl rfl) (pe_lst pa_nil))
      (pss_cons (ps_while PassesOwn.never (PW.pt (pw_and (pt_val (pe_call G_has_word (hr.mono (by omega)) rfl m_has_word kp_has_word b_has_word .nil pass0 (pa_cons (pv 1) (pa_cons pe_str (pa_cons pe_int pa_nil))))) (pw_and1 (pt_cmpR op_lt (pe_callB (k_len K) rfl T.len bt_len (pa_cons (pv 2) pa_nil)) (pe_gi rfl T.FEW) (nomark _))))) (pss_cons (ps_asg (pv 1) (k_gtup K 4 (pgs_cons (pg_name (i := 3) scFlatOf.nd rfl (Or.inl rfl)) (pgs_cons (pg_name (i := 4) scFlatOf.nd rfl (Or.inl rfl)) (pgs_cons (pg_name (i := 5) scFlatOf.nd rfl (Or.inl rfl)) (pgs_cons (pg_name (i := 6) scFlatOf.nd rfl (Or.inl rfl)) pgs_nil))))))
      (pss_cons (ps_if (PW.pt (pw_or (pt_not (pt_val (pe_call G_is_name (hr.mono (by omega)) rfl m_is_name kp_is_name b_is_name .nil pass0 (pa_cons (pv 4) pa_nil)))) (pw_or (pt_cmp (pc_din (hu_of hr) (pv 4) (pe_callTy (k_dictL K) rfl T.dict bt_dict (pa_cons (pv 2) pa_nil)))) (pw_or1 (pt_not (pt_val (pe_call G_has_word (hr.mono (by omega)) rfl m_has_word kp_has_word b_has_word .nil pass0 (pa_cons (pv 5) (pa_cons pe_str (pa_cons pe_int pa_nil)))))))))) (pss_one (ps_ret pe_non)) pss_nil)
      (pss_cons (ps_if (PW.pt (pw_or (pt_not (pt_val (pe_callB (k_isi K) rfl T.isinstance bt_isinstance (pa_cons (pe_ix (k_ix K) (pv 5) pe_int (fun _ _ => rfl)) (pa_cons (pe_bltn (v := .ty "str") rfl T.str bt_str rfl) pa_nil))))) (pw_or1 (pt_cmpR (k_nin K) (pe_ix (k_ix K) (pv 5) pe_int (fun _ _ => rfl)) (pe_ix (k_ix K) (pv 0) pe_int (fun _ _ => rfl)) (by rfl))))) (pss_one (ps_ret pe_non)) pss_nil)
      (pss_cons (ps_expr (k_bm K PySem.F.plainAttrs_list PySem.F.slot_list_append PySem.F.type_list_append mt_append (pv 2) (pa_cons (pe_tup (pa_cons (pv 4) (pa_cons (pe_ix (k_ix K) (pv 5) pe_int (fun _ _ => rfl)) pa_nil))) pa_nil)))
      (pss_one (ps_set (i := 1) scFlatOf.nd rfl (Or.inl rfl) (pv 6))))))))
      (pss_one (ps_ret (pe_ifExp (PW.pt (pw_and (pt_cmpR (k_neD K hr.units) (pv 2) (pe_lst pa_nil) (nomark _)) (pw_and1 (pt_val (pe_call G_is_body (hr.mono (by omega)) rfl m_is_body kp_is_body b_is_body .nil pass0 (pa_cons (pv 0) (pa_cons (pe_callTy (k_dictL K) rfl T.dict bt_dict (pa_cons (pv 2) pa_nil)) (pa_cons (pv 1) pa_nil)))))))) (pe_tup (pa_cons (pv 2) (pa_cons (pv 1) pa_nil))) pe_non))))), ?_⟩
  -- N: [(0, 'scheme'), (1, 'thing'), (2, 'found'), (3, 'word'), (4, 'name'), (5, 'over'), (6, 'inner')]; cells: []
  rintro ⟨S, f⟩ W ⟨hg, hf⟩ B D hn hR
  have hf : f.Ok S := hf
  refine Nx.sOwn (K := K) fun p hp => ?_
  have hst : ∀ {W : Wd} {Γ : Ctx} {i : Nat} {h : Str} {tl : List PyData} {wd : Str} {n : Nat} {b : Bool}, True := fun {_ _ _ _ _ _ _ _} => trivial
  refine Nx.while_ (ι := Nat) (fun i => W.ownL K p ((f.vars.take i).map (pairP K))) (fun i => [some (schP K S), some (rep K (allD (f.vars.drop i) f.body.enc)), some (isV (.ref p)), none, none, none, none]) (fun i => f.vars.length - i) (fun i => i ≤ f.vars.length) 0 (Nat.zero_le _) rfl (Le.refl _) fun i B' hi hB => ?_
  have hi : i ≤ f.vars.length := hi
  by_cases hlt : i < f.vars.length
  · have ed : f.vars.drop i = f.vars[i] :: f.vars.drop (i + 1) := List.drop_eq_getElem_cons hlt
    have et : f.vars.take (i + 1) = f.vars.take i ++ [f.vars[i]] := by rw [List.take_add_one, List.getElem?_eq_getElem hlt] <;> rfl
    obtain ⟨hnm, hsrt⟩ := hf.nm f.vars[i] (List.getElem_mem hlt)
    have hnd : f.vars[i].1 ∉ (f.vars.take i).map (·.1) := fun z => by
      have h1 := hf.nd
      rw [← List.take_append_drop i f.vars, List.map_append, ed, List.map_cons] at h1
      exact (List.nodup_append.mp h1).2.2 _ z _ (List.mem_cons_self) rfl
    have hnt : ((f.vars.take i).map (·.1)).Nodup := by
      rw [List.map_take]
      exact hf.nd.sublist (List.take_sublist ..)
    refine ⟨(· = true), ?_, fun _ N hN => ?_, fun z => by cases z⟩
    · rw [ed]
      refine TyT.and (b1 := true) (b2 := true) (TyT.tB (TyE.hw (b := true) (n := 4) (TyE.var rfl) TyE.str TyE.int rfl (by decide +kernel))) fun _ => TyT.bE (TyT.test (TyE.op (TyE.cb (TyA.cons (TyE.var rfl) TyA.nil) ra_lenO) TyE.int r_bl0)) ?_
      rw [List.length_map, List.length_take]
      have := hf.v4
      refine decide_eq_true ?_
      omega
    · rw [ed]
      refine Nx.sAsg (vs := [3, 4, 5, 6]) ((TyE.var rfl).imp fun _ _ => tup_of) (TyG.tup (TyGs.cons TyG.name (TyGs.cons TyG.name (TyGs.cons TyG.name (TyGs.cons TyG.name TyGs.nil))))) ?_
      refine Nx.sIfF (TyT.or (b1 := false) (b2 := false) (TyT.notB (b := true) (TyT.tB (TyE.fn f.vars[i].1 hnm (TyA.cons (TyE.var rfl) TyA.nil)))) fun _ => TyT.or (b1 := false) (b2 := false) (TyT.bE (TyT.test (TyE.din (TyE.var rfl) (TyE.cb (TyA.cons (TyE.var rfl) TyA.nil) (ra_dictO (xs := f.vars.take i) (f := fun p => p.1) (F := fun p => rep K (.str p.2)) hp hnt)))) ?_) fun _ =>
        TyT.notB (b := true) (TyT.tB (TyE.hw (b := true) (n := 2) (TyE.var rfl) TyE.str TyE.int rfl (by decide +kernel)))) ?_
      · rw [lookup_notin (by rw [List.map_map]; exact hnd)] <;> rfl
      have hov : ∀ {W : Wd} {Γ : Ctx}, Γ[5]? = some (some (rep K (.tuple [.str "sort", .str f.vars[i].2]))) → TyE W Γ (tOp (rIx K) (tVar 5) (tC (.int 1))) (rep K (.str f.vars[i].2)) := fun e => TyE.op (TyE.var e) TyE.int (r_ixD (i := 1) rfl)
      refine Nx.sIfF (TyT.or (b1 := false) (b2 := false) (TyT.notB (b := true) (TyT.tB (TyE.cb (TyA.cons (hov rfl) (TyA.cons TyE.is TyA.nil)) ra_isS))) fun _ => TyT.bE (TyT.test (TyE.op (hov rfl) ((TyE.op (TyE.var (i := 0) rfl) TyE.int (r_ixAT (i := 0) rfl)).imp fun _ _ => strs_t) r_inTn)) ?_) ?_
      · simp [hsrt]
      refine Nx.sApp (P := pairP K f.vars[i]) (TyE.var rfl) (TyE.tup (TyA.cons (TyE.var rfl) (TyA.cons (hov rfl) TyA.nil))) (by rw [List.length_map, List.length_take]; have := hf.v4; omega) ?_
      have := hN (i + 1) hlt (by omega)
      rw [et, List.map_append] at this
      refine Nx.set (TyE.var rfl) (this.le ?_)
      refine Le.same (Le.same (Le.same (Le.drop (Le.drop (Le.drop (Le.drop Le.nil))))))
  · have ei : i = f.vars.length := by omega
    subst ei
    obtain ⟨hd, tl, eb, hh⟩ := bd_hd f.body
    have e0 : allD (f.vars.drop f.vars.length) f.body.enc = .tuple (.str hd :: tl) := by rw [List.drop_length, ← eb] <;> rfl
    refine ⟨(· = false), ?_, (fun z => by cases z), fun _ => ?_⟩
    · rw [e0]
      exact TyT.and (b1 := false) (b2 := false) (TyT.tB (TyE.hwF (n := 4) (TyE.var rfl) TyE.str TyE.int hh)) fun z => by cases z
    · rw [List.drop_length, List.take_length]
      refine Nx.free 2 hp rfl ?_
      have hvar : ∀ {W : Wd} {Γ : Ctx}, Γ[2]? = some (some (lstN (f.vars.map (pairP K)))) → TyE W Γ (tVar 2) (rep K (.list (f.vars.map pairD))) := fun e => (TyE.var e).imp fun _ _ => pairsL_rep
      have hprs : ∀ p ∈ f.vars, isName p.1 = true ∧ isName p.2 = true := fun p hp => ⟨(hf.nm p hp).1, sort_name hg (hf.nm p hp).2⟩
      refine Nx.ret (TyE.ifX (φ := (· = true)) (TyT.and (b1 := true) (b2 := true) (TyT.bE (TyT.test (TyE.op (hvar rfl) (TyE.lstD (ds := []) TyA.nil) (r_neD (pairs_shaped hprs) (by decide +kernel)))) ?_) fun _ => TyT.tB (TyE.fn (⟨S, f.vars, f.body⟩ : BoA) (by exact ⟨hg, hf.bd, Nat.lt_succ_of_le hf.dp⟩) (TyA.cons (TyE.var rfl) (TyA.cons (TyE.cb (TyA.cons ((TyE.var (i := 2) rfl).imp fun _ _ => lstN_of) TyA.nil) (ra_dictL (xs := f.vars) (f := fun p => p.1) (F := fun p => rep K (.str p.2)) hf.nd)) (TyA.cons (TyE.var rfl) TyA.nil))))) (fun _ => TyE.tup (TyA.cons (TyE.var rfl) (TyA.cons (TyE.var rfl) TyA.nil))) fun z => by cases z) fun v H j b => hR v H j (hB.trans b)
      have := hf.v1
      cases hv : f.vars with
      | nil => rw [hv] at this; exact absurd this (by decide)
      | cons a r => rfl
end
end Tk
namespace Tk
open PySem PySem.Spec PyProof.Rows L2
/-! ### zip of a text and a tuple -/
def ItzS (K : PySem.W.Frag) (z : Str) (b : Addr) : It :=
  ⟨fun i H => i < z.cps.size ∧ ∃ (ys : List V) (y : V), SqT K H b ys ∧ ys[i]? = some y,
    fun i H v H' => ∃ T c y, v = .ref T ∧ H T = none ∧ H' = upd H T (.tup [.str ⟨#[c]⟩, y]) ∧ z.cps[i]? = some c ∧ ∀ ys, SqT K H b ys → ys[i]? = some y,
    fun i H => ∃ ys : List V, SqT K H b ys ∧ i ≤ z.cps.size ∧ i ≤ ys.length ∧ (i = z.cps.size ∨ i = ys.length)⟩
def stZS (z TI TO i1 i2 b : Addr) (x : Str) (t : Tok) (i : Nat) (h : Heap) : Prop :=
  IsZip h z TI TO .none ∧ IsTupOf2 h TI (.ref i1) (.ref i2) ∧ (∃ a1 a2, IsTupOf2 h TO a1 a2) ∧ h.IsStrIter i1 (strIterType x) x t i ∧ h.IsTupleIter i2 b i
theorem turn_zipS {P : Program} {w : World} {K : PySem.W.Frag} {elts : List Expr} {kk : Nat} {tpos : Pos} {b z TI TO i1 i2 : Addr} {x : Str} {t : Tok} (hb2 : b ≠ i2) (D : ZipSep2 z TI TO i1 i2 [i1] [i2, b]) :
    Turn P w K (.Tuple elts kk tpos) (ItzS K x b) [z, TI, TO, i1, i2] z (stZS z TI TO i1 i2 b x t) where
  mem := by simp
  obj := fun i h st c hc => by
    obtain ⟨hz, hTI, ⟨u, v, hTO⟩, ⟨o1, e1, _, d1⟩, ⟨o2, e2, _, d2⟩⟩ := st
    have e' : c = z ∨ c = TI ∨ c = TO ∨ c = i1 ∨ c = i2 := by simpa using hc
    rcases e' with q | q | q | q | q
    · rw [q]; exact ⟨_, hz, fun v q => nomatch q⟩
    · rw [q]; exact ⟨_, hTI, fun v q => nomatch q⟩
    · rw [q]; exact ⟨_, hTO, fun v q => nomatch q⟩
    · rw [q]; exact ⟨o1, e1, fun v q => by rw [d1] at q; cases q⟩
    · rw [q]; exact ⟨o2, e2, fun v q => by rw [d2] at q; cases q⟩
  keep := fun i h h' st k => by
    obtain ⟨hz, hTI, ⟨u, v, hTO⟩, ⟨o, ho, r⟩, h2⟩ := st
    exact ⟨k z (by simp) _ hz, k TI (by simp) _ hTI, ⟨u, v, k TO (by simp) _ hTO⟩, ⟨o, k i1 (by simp) o ho, r⟩, h2.at fun o q => k i2 (by simp) o q⟩
  item := by
    intro X hP hw hK hc i pins s σ H E I hf st hg
    subst hP hw hK
    obtain ⟨hi, ys, y, hqy, hy⟩ := hg
    obtain ⟨its, rv, p, _⟩ := I.tuple hqy
    obtain ⟨u, hu, ru⟩ := rv.get hy
    obtain ⟨hz, hTI, hTO, h1, h2⟩ := st
    have hlt2 : i < its.toArray.size := by
      have := (List.getElem?_eq_some_iff.mp hu).1
      simpa using this
    have hd : X.A.in1.handled = none := I.ok.hd hc
    have D1 : Draws X.prog X.w X.A.in1 i1 [i1] x.cps.size _ _ := Draws.text hd i1 x t
    have D2 : Draws X.prog X.w X.A.in1 i2 [i2, b] its.toArray.size _ _ := Draws.tuple hd i2 b hb2 its.toArray
    refine (GoesN.zip2 (elts := elts) (x1 := kk) (pos := tpos) D D1 D2).goes i s _ _ (Nat.lt_min.mpr ⟨hi, hlt2⟩) ⟨hz, hTI, hTO, h1, h2, p⟩ fun v h' tk hY st' hk htk => ?_
    obtain ⟨T, a, c, rfl, hn, ⟨n, tn, hcn, rfl⟩, hc2, hT⟩ := hY
    obtain ⟨hz', hTI', hTO', h1', h2', _⟩ := st'
    have hcu : c = u := by
      have e1 : its[i]? = some c := by simpa using hc2
      rw [hu] at e1
      exact (Option.some.inj e1).symm
    subst hcu
    obtain ⟨oT, eT, cT, nT, dT⟩ := hT
    have new : ObjOk X.prog X.w (upd H T (.tup [.str ⟨#[n]⟩, y])) h' T (.tup [.str ⟨#[n]⟩, y]) :=
      ⟨by show 2 ≤ sizeLine; decide, [.str ⟨#[n]⟩ tn, c], .cons ⟨tn, rfl⟩ (.cons ru .nil), oT, eT, cT, nT, dT⟩
    have I1 : Inv X pins σ (upd H T (.tup [.str ⟨#[n]⟩, y])) { s with heap := h', toks := tk } :=
      I.turnedNew (t' := tk) (ch := [z, TI, TO, i1, i2]) (fun c o hb q => hk c o (fun hm => hb (by
        have e' : c = z ∨ c = TO ∨ c = i1 ∨ c = i2 := by simpa using hm
        rcases e' with q | q | q | q
        · rw [q]; simp
        · rw [q]; simp
        · rw [q]; simp
        · rw [q]; simp)) q) hf hn new
    refine ⟨.ref T, _, I1, rfl, ⟨T, n, y, rfl, I.hok.fresh hn, rfl, hcn, fun l hl => by rw [I.tuple_inj hl hqy]; exact hy⟩, ⟨hz', hTI', hTO', h1', h2'⟩, fun b' hb' => ?_⟩
    have e' : b' = z ∨ b' = TI ∨ b' = TO ∨ b' = i1 ∨ b' = i2 := by simpa using hb'
    have hlt : b' < s.heap.objs.size := by
      obtain ⟨_, e1, _⟩ := id h1
      obtain ⟨_, e2, _⟩ := id h2
      obtain ⟨_, _, e3⟩ := id hTO
      rcases e' with q | q | q | q | q
      · rw [q]; exact Heap.lt_size hz
      · rw [q]; exact Heap.lt_size hTI
      · rw [q]; exact Heap.lt_size e3
      · rw [q]; exact Heap.lt_size e1
      · rw [q]; exact Heap.lt_size e2
    rw [upd_ne (Nat.ne_of_lt (Nat.lt_of_lt_of_le hlt hn))]
    exact (hf b' hb').1
  done := by
    intro X hP hw hK hc i pins s σ H E I hf st hg
    subst hP hw hK
    obtain ⟨ys, hqy, hl1, hl2, hend⟩ := hg
    obtain ⟨its, rv, p, _⟩ := I.tuple hqy
    obtain ⟨hz, hTI, hTO, h1, h2⟩ := st
    have hl := rv.length
    have hd : X.A.in1.handled = none := I.ok.hd hc
    have D1 : Draws X.prog X.w X.A.in1 i1 [i1] x.cps.size _ _ := Draws.text hd i1 x t
    have D2 : Draws X.prog X.w X.A.in1 i2 [i2, b] its.toArray.size _ _ := Draws.tuple hd i2 b hb2 its.toArray
    have ei : i = min x.cps.size its.toArray.size := by
      have e1 : its.toArray.size = ys.length := by rw [hl, List.size_toArray]
      rw [e1]
      omega
    refine (GoesN.zip2 (elts := elts) (x1 := kk) (pos := tpos) D D1 D2).stops s _ _ (by rw [← ei]; exact ⟨hz, hTI, hTO, h1, h2, p⟩) fun h' tk hk htk => ?_
    exact I.turnedL (t' := tk) (ch := [z, TI, TO, i1, i2]) (fun c o hb q => hk c o (fun hm => hb (by
        have e' : c = z ∨ c = TO ∨ c = i1 ∨ c = i2 := by simpa using hm
        rcases e' with q | q | q | q
        · rw [q]; simp
        · rw [q]; simp
        · rw [q]; simp
        · rw [q]; simp)) q) hf
  self := fun A i s Q E st h => wpAny_pyIter_zip st.1 h
def iZipS (K : PySem.W.Frag) (ta : TA) : TI := fun σ H R => ta σ H fun vs H1 => ∃ z b ys, vs = [.str z, .ref b] ∧ SqT K H1 b ys ∧ R (ItzS K z b) H1
theorem pi_zipS {X : Cx} {e e2 : Expr} {ta : TA} {p pos tpos : Pos} {elts : List Expr} {kk : Nat} (hg : Gl X "zip") (hm : X.mg "zip" = none) (ha : PA X [e, e2] ta)
    (hs : starEach [e, e2] X.env = (false, eval e X.env) :: starEach [e2] X.env := by rfl) (hpl : (backTo pos (starEach [e2] X.env)).any (·.1) = false := by rfl) :
    PI X (.Tuple elts kk tpos) (.Call (.Name "zip" p) [e, e2] [] pos) (iZipS X.K ta) := by
  refine ⟨fun pins s σ H R I h => ?_⟩
  refine Call_ (ld_blt I hg hm PyProof.Rows.boot_zip (PyProof.Rows.callWith_type1 (thn (ha.run pos pins s σ H _ I h) fun us s1 ⟨vs, H1, I1, r1, q1⟩ => ?_) hs hpl))
  obtain ⟨z, b, ys, ex, hqy, q⟩ := q1
  subst ex
  cases r1 with
  | cons r rr =>
    cases rr with
    | cons r' rr =>
      cases rr
      obtain ⟨t, rfl⟩ := r
      cases r'
      have fresh5 : ∀ c, c ∈ [s1.heap.objs.size + 4, s1.heap.objs.size + 2, s1.heap.objs.size + 3, s1.heap.objs.size, s1.heap.objs.size + 1] → FpOk X pins H1 c := fun c hcm => by
        have e' : c = s1.heap.objs.size + 4 ∨ c = s1.heap.objs.size + 2 ∨ c = s1.heap.objs.size + 3 ∨ c = s1.heap.objs.size ∨ c = s1.heap.objs.size + 1 := by simpa using hcm
        have hle : s1.heap.objs.size ≤ c := by
          rcases e' with z | z | z | z | z
          · rw [z]; exact Nat.le_add_right _ _
          · rw [z]; exact Nat.le_add_right _ _
          · rw [z]; exact Nat.le_add_right _ _
          · rw [z]; exact Nat.le_refl _
          · rw [z]; exact Nat.le_add_right _ _
        exact I1.fpOk hle (I1.hok.fresh hle)
      obtain ⟨its, rv, p2, _⟩ := I1.tuple hqy
      obtain ⟨o2, ho2, _⟩ := id p2
      have hlt : b < s1.heap.objs.size := Heap.lt_size ho2
      refine zip_begins2 (begins_text z t) (begins_tuple b its.toArray) trivial p2 fun h' hz hTI hTO h1 h2 hsz hk => wpAny_pyIter_zip hz ?_
      have I2 : Inv X pins σ H1 { s1 with heap := h' } := I1.kept (t' := s1.toks) hk
      have S := zip_sep2 (N := s1.heap.objs.size) (fp1 := []) (fp2 := [b]) (fun _ h => by cases h) (fun c hc => by
        have e : c = b := by simpa using hc
        rw [e]; exact hlt)
      have hne : b ≠ s1.heap.objs.size + 1 := Nat.ne_of_lt (Nat.lt_succ_of_lt hlt)
      exact ⟨s1.heap.objs.size + 4, [s1.heap.objs.size + 4, s1.heap.objs.size + 2, s1.heap.objs.size + 3, s1.heap.objs.size, s1.heap.objs.size + 1], _, _, H1, rfl, I2, turn_zipS (t := t) hne S, ⟨hz, hTI, ⟨_, _, hTO⟩, ⟨_, h1, rfl, rfl⟩, ⟨_, h2, rfl, rfl⟩⟩, fresh5, q⟩
theorem k_zipS {X : Cx} (K : PySem.W.Frag) {e e2 : Expr} {ta : TA} {p pos tpos : Pos} {elts : List Expr} {kk : Nat} (hg : Gl X "zip") (hm : X.mg "zip" = none) (ha : PA X [e, e2] ta) (h : X.K = K := by rfl)
    (hs : starEach [e, e2] X.env = (false, eval e X.env) :: starEach [e2] X.env := by rfl) (hpl : (backTo pos (starEach [e2] X.env)).any (·.1) = false := by rfl) :
    PI X (.Tuple elts kk tpos) (.Call (.Name "zip" p) [e, e2] [] pos) (iZipS K ta) := h ▸ pi_zipS hg hm ha hs hpl
section
variable {K : PySem.W.Frag} {W : Wd} {Γ Γ' : Ctx} {tA : TA}
theorem TyI.zipS {β : Type} (z : Str) (ys : List β) (G : β → Pd) (h : TyA W Γ tA [rep K (.str z), tupOf K (ys.map G)]) : TyI W Γ (iZipS K tA) ((z.cps.toList.zip ys).map fun p => tupOf K [rep K (.str ⟨#[p.1]⟩), G p.2]) := fun σ H R j e r =>
  h σ H _ j e fun vs H1 j1 s1 p => by
    obtain ⟨u, v, rfl, p1, ⟨b, ws, rfl, h2, p2⟩⟩ := p.two
    refine ⟨z, b, ws, by rw [dp_str p1], sq_t h2, r _ H1 j1 s1 ?_⟩
    rw [← zipW (K := K) z.cps.toList ys (fun c => rep K (.str ⟨#[c]⟩)) G anyP]
    have l1 : z.cps.toList.length = z.cps.size := by simp
    have l2 : ys.length = ws.length := by rw [← p2.len, List.length_map]
    refine wk_pair (fun W' H' i j' b' hi => ?_) (fun W' H' j' b' => ?_) fun W' H' i v H2 j' b' hi hy => ?_
    · have hu : i < z.cps.size := by omega
      have hw : i < ws.length := by omega
      exact ⟨hu, ws, _, sq_t (same_t b' h2), List.getElem?_eq_getElem hw⟩
    · exact ⟨ws, sq_t (same_t b' h2), by omega, by omega, by omega⟩
    · obtain ⟨T, c, y, e1, hT, e2, f1, f2⟩ := hy
      have hu : i < z.cps.toList.length := by omega
      have hw : i < ys.length := by omega
      have q2 := f2 ws (sq_t (same_t b' h2))
      refine ⟨T, _, y, e1, hT, e2, ?_, Pd.mono _ b' (p2.at_ i _ y ?_ q2)⟩
      · rw [List.getElem?_map]
        have ec : z.cps.toList[i]? = some c := by rw [Array.getElem?_toList]; exact f1
        rw [ec]
        exact Dp.str _
      · rw [List.getElem?_eq_getElem (by rw [List.length_map]; exact hw)]; rfl
end
end Tk
namespace Tk
open PySem PySem.Spec PyProof.Rows L2
section
variable {K : PySem.W.Frag} {W : Wd} {Γ Γ' : Ctx} {te : TE} {P : Pd} {Ps : List Pd}
theorem ownL_freeN {H : Hp} {p : Addr} (j : (W.ownL K p Ps).J H) (hp : p ∉ W.A) : W.J H ∧ Same ((W.ownL K p Ps).v H) (W.v H) ∧ (lstN Ps).h (.ref p) (W.v H) := by
  obtain ⟨j1, s1, _⟩ := ownL_free j hp
  obtain ⟨_, o, eo, xs, e3, f⟩ := id j
  subst e3
  refine ⟨j1, s1, p, xs, rfl, ?_, f.mono s1⟩
  show vw W.A H p = _
  rw [vw_out hp]; exact eo
theorem ifT {a b : Prop} (h : a) : (if true = true then a else b) := by rw [if_pos rfl]; exact h
/-! ### [out for a in xs for b in inner a] -/
def fm2 {α β γ : Type} (xs : List α) (inner : α → List β) (out : α → β → γ) : List γ := xs.flatMap fun a => (inner a).map (out a)
theorem fm2_take {α β γ : Type} {xs : List α} {inner : α → List β} {out : α → β → γ} {i : Nat} (h : i < xs.length) : fm2 (xs.take (i + 1)) inner out = fm2 (xs.take i) inner out ++ (inner xs[i]).map (out xs[i]) := by
  unfold fm2
  rw [List.take_add_one, List.getElem?_eq_getElem h, List.flatMap_append]
  simp
theorem fm2_len {α β γ : Type} {xs : List α} {inner : α → List β} {out : α → β → γ} (i j : Nat) (h : i < xs.length) : (fm2 (xs.take i) inner out ++ ((inner xs[i]).take j).map (out xs[i])).length ≤ (fm2 xs inner out).length := by
  have e : fm2 xs inner out = fm2 (xs.take i) inner out ++ ((inner xs[i]).map (out xs[i]) ++ fm2 (xs.drop (i + 1)) inner out) := by
    have e1 : xs = xs.take i ++ xs[i] :: xs.drop (i + 1) := by rw [← List.drop_eq_getElem_cons h, List.take_append_drop]
    have e2 : fm2 xs inner out = fm2 (xs.take i ++ xs[i] :: xs.drop (i + 1)) inner out := congrArg (fun z => fm2 z inner out) e1
    rw [e2]
    unfold fm2
    rw [List.flatMap_append, List.flatMap_cons]
  rw [e]
  simp only [List.length_append, List.length_map, List.length_take]
  omega
theorem TyE.lc2 {α β : Type} {wi wi1 : TI} {g g1 : TG} {vs vs1 : List Nat} (xs : List α) (F : α → Pd) (inner : α → List β) (F1 : α → β → Pd) (out : α → β → Pd) (hi : TyI W Γ wi (xs.map F)) (hn : (fm2 xs inner out).length ≤ 1000)
    (hs : ∀ a, a ∈ xs → ∀ (p : Addr) (Qs : List Pd), p ∉ W.A → ∃ Γ1, TyG (W.ownL K p Qs) (wipeG Γ vs) g (F a) Γ1 vs ∧ TyI (W.ownL K p Qs) Γ1 wi1 ((inner a).map (F1 a)) ∧
      ∀ b, b ∈ inner a → ∀ (Rs : List Pd), ∃ Γ2, TyG (W.ownL K p Rs) (wipeG Γ1 vs1) g1 (F1 a b) Γ2 vs1 ∧ TyE (W.ownL K p Rs) Γ2 te (out a b)) :
    TyE W Γ (tLc2 wi g tYes wi1 g1 tYes te vs vs1) (Tk.lstN (fm2 xs inner out)) := fun σ H Q j e q =>
  hi σ H _ j e fun J H1 j1 s1 wk p hp => by
    have hpA : p ∉ W.A := Wd.out j1 hp
    obtain ⟨jn, sn⟩ := ownL_new (K := K) j1 hp
    have hlen : (xs.map F).length = xs.length := List.length_map ..
    refine ⟨fun i m H' => m = xs.length - i ∧ i ≤ xs.length ∧ (W.ownL K p (fm2 (xs.take i) inner out)).J H' ∧ Same (W.v H1) ((W.ownL K p (fm2 (xs.take i) inner out)).v H'),
      ⟨xs.length, by simp, Nat.zero_le _, jn, sn⟩, ?_⟩
    rintro i m H' ⟨rfl, hle, j', b'⟩
    by_cases hlt : i < xs.length
    · have hlt' : i < (xs.map F).length := hlen ▸ hlt
      refine .inr ⟨wk.go _ _ i j' b' hlt', _, fun _ z => z, fun v H2 hy => ?_⟩
      obtain ⟨j2, s2, p2⟩ := wk.yld _ _ i v H2 _ j' b' (List.getElem?_eq_getElem hlt') hy
      rw [List.getElem_map] at p2
      obtain ⟨Γ1, hg, hI, hE⟩ := hs xs[i] (List.getElem_mem hlt) p (fm2 (xs.take i) inner out) hpA
      have e1 : EnvR (wipeG Γ vs) (wipe σ vs) ((W.ownL K p (fm2 (xs.take i) inner out)).v H2) := ((e.mono s1).mono (b'.trans s2)).wipe vs
      refine hg _ H2 v _ j2 e1 p2 fun σ3 H3 j3 s3 e3 l3 o3 => ⟨by rw [wipe_eq l3 o3, wipe_wipe], ?_⟩
      refine hI σ3 H3 _ j3 e3 fun J1 H4 j4 s4 wk1 => ?_
      have b4 := ((b'.trans s2).trans s3).trans s4
      have hlen1 : ((inner xs[i]).map (F1 xs[i])).length = (inner xs[i]).length := List.length_map ..
      refine ⟨fun k m H' => m = (inner xs[i]).length - k ∧ k ≤ (inner xs[i]).length ∧ (W.ownL K p (fm2 (xs.take i) inner out ++ ((inner xs[i]).take k).map (out xs[i]))).J H' ∧
          Same ((W.ownL K p (fm2 (xs.take i) inner out)).v H4) ((W.ownL K p (fm2 (xs.take i) inner out ++ ((inner xs[i]).take k).map (out xs[i]))).v H'),
        ⟨(inner xs[i]).length, by simp, Nat.zero_le _, ?_, ?_⟩, ?_⟩
      · show (W.ownL K p (fm2 (xs.take i) inner out ++ [])).J H4
        rw [List.append_nil]; exact j4
      · show Same _ ((W.ownL K p (fm2 (xs.take i) inner out ++ [])).v H4)
        rw [List.append_nil]; exact Same.refl _
      rintro k m H5 ⟨rfl, hkle, j5, b5⟩
      by_cases hk : k < (inner xs[i]).length
      · have hk' : k < ((inner xs[i]).map (F1 xs[i])).length := hlen1 ▸ hk
        refine .inr ⟨wk1.go _ _ k j5 b5 hk', _, fun _ z => z, fun y H6 hy1 => ?_⟩
        obtain ⟨j6, s6, p6⟩ := wk1.yld _ _ k y H6 _ j5 b5 (List.getElem?_eq_getElem hk') hy1
        rw [List.getElem_map] at p6
        obtain ⟨Γ2, hg1, hE1⟩ := hE (inner xs[i])[k] (List.getElem_mem hk) (fm2 (xs.take i) inner out ++ ((inner xs[i]).take k).map (out xs[i]))
        have e6 := (((e3.mono s4).mono b5).mono s6).wipe vs1
        refine hg1 _ H6 y _ j6 e6 p6 fun σ7 H7 j7 s7 e7 l7 o7 => ⟨by rw [wipe_eq l7 o7, wipe_wipe], ?_⟩
        refine hE1 σ7 H7 _ j7 e7 fun z H8 j8 s8 p8 => ?_
        obtain ⟨acc, ea, el, ja, ev⟩ := ownL_app (P := out xs[i] (inner xs[i])[k]) j8 p8
        have en : fm2 (xs.take i) inner out ++ ((inner xs[i]).take (k + 1)).map (out xs[i]) = (fm2 (xs.take i) inner out ++ ((inner xs[i]).take k).map (out xs[i])) ++ [out xs[i] (inner xs[i])[k]] := by
          rw [List.take_add_one, List.getElem?_eq_getElem hk, List.map_append, List.append_assoc] <;> rfl
        refine ⟨acc, ea, ?_, (inner xs[i]).length - (k + 1), by omega, rfl, hk, ?_⟩
        · rw [el]
          exact small1000 (Nat.le_trans (fm2_len i k hlt) hn)
        · rw [en]
          exact ⟨ja, by rw [ev]; exact ((b5.trans s6).trans s7).trans s8⟩
      · have ek : k = (inner xs[i]).length := by omega
        subst ek
        rw [List.take_length, ← fm2_take hlt] at j5 b5
        refine .inl ⟨?_, xs.length - (i + 1), by omega, rfl, hlt, j5, b4.trans b5⟩
        have hst := wk1.stop _ _ j5 b5
        rw [hlen1] at hst
        exact hst
    · have ei : i = xs.length := by omega
      subst ei
      have hst := wk.stop _ _ j' b'
      rw [hlen] at hst
      rw [List.take_length] at j' b'
      obtain ⟨jf, sf, pf⟩ := ownL_freeN j' hpA
      exact .inl ⟨hst, q _ H' jf ((s1.trans b').trans sf) pf⟩
end
end Tk
namespace Tk
open PySem PySem.Spec PyProof.Rows L2
section
variable {prog : Program} {w : World} {A : Around} {E : Value → Shared → Prop} {s : Shared}
/-- d | e: a new dict -/
theorem or_dict {a b : Addr} {ks ls : List (Key × Value)} {Q : Value → Shared → Prop} (hd : (a == sysModules) = false) (he : (b == sysModules) = false) (h1 : s.heap.DictOf (mixKind prog w) a ks) (h2 : s.heap.DictOf (mixKind prog w) b ls) (hsz : ks.length + ls.length ≤ sizeLine)
    (h : ∀ h', h'.DictOf (mixKind prog w) s.heap.objs.size (merged ks ls) → (∀ c o, s.heap.get? c = some o → h'.get? c = some o) → Q (.ref s.heap.objs.size) { s with heap := h' }) : wpAny (model prog w) A (binaryOp .BitOr (.ref a) (.ref b)) Q E s := by
  obtain ⟨o, es, ep, ho, hc, hdat, hk, hp, hn⟩ := id h1
  have hes : es.size ≤ sizeLine + 1 := by
    have e1 := hp.length
    have e2 : es.toList.length = es.size := by simp
    omega
  have hbs : b < s.heap.objs.size := by
    obtain ⟨o2, _, _, ho2, _⟩ := id h2
    exact Heap.lt_size ho2
  refine wpAny_binaryOp_same (op := .BitOr) h1.typeIs h2.typeIs PySem.F.fills_dict_or PySem.F.slot_dict_or (wpAny_call_entry PySem.F.slot_dict_or h1.typeIs PySem.F.entry_dict_or ?_ (PySem.F.args_dict_or_2 _ _))
  show wpAny _ _ (Builtin.Dict.dictSlotArgs "__or__" ⟨[.ref a, .ref b], []⟩ >>= _) _ _ s
  refine wpAny_bind ?_
  unfold Builtin.Dict.dictSlotArgs
  refine wpAny_bind (wpAny_notOrdered_dict h1.typeIs ?_)
  refine wpAny_bind (wpAny_pure (wpAny_pure ?_))
  show wpAny _ _ ((isInstance (.ref a) (.type "dict") <&&> isInstance (.ref b) (.type "dict")) >>= _) _ _ s
  refine wpAny_bind ?_
  show wpAny _ _ (isInstance (.ref a) (.type "dict") >>= _) _ _ s
  refine wpAny_bind (wpAny_isInstance h1.typeIs isSubtype_dict_dict ?_)
  refine wpAny_isInstance h2.typeIs isSubtype_dict_dict ?_
  show wpAny _ _ (Builtin.Dict.copyOf "dict.__or__" (.ref a) >>= _) _ _ s
  refine wpAny_bind ?_
  unfold Builtin.Dict.copyOf
  refine wpAny_bind (wpAny_pure ?_)
  unfold Builtin.Dict.showsAll
  rw [if_neg (by rw [hd]; exact Bool.false_ne_true)]
  refine wpAny_bind (wpAny_pure ?_)
  refine wpAny_bind (wpAny_dictEntries ho hdat ?_)
  have fin : ∀ es' : Array DictEntry, es' = es → wpAny (model prog w) A.in1 (holding [.ref s.heap.objs.size] (Builtin.Dict.addrOf (.ref s.heap.objs.size) >>= fun x => Builtin.Dict.updateFrom "dict.__or__" x (.ref b) [] (.ref s.heap.objs.size))) (fun fin s' => ∃ v, fin = .done (.ret v) ∧ v ≠ .notImplemented ∧ Q v s') E { s with heap := s.heap.push { cls := .type "dict", data := .dict es' } } := by
    rintro es' rfl
    refine wpAny_holding ?_
    refine wpAny_bind (wpAny_pure ?_)
    have h1' : (s.heap.push { cls := .type "dict", data := .dict es' }).DictOf (mixKind prog w) s.heap.objs.size ks := ⟨_, es', 0, Heap.get?_push_size _ rfl, ⟨rfl, rfl, rfl⟩, rfl, hk, hp, hn⟩
    have h2' : (s.heap.push { cls := .type "dict", data := .dict es' }).DictOf (mixKind prog w) b ls := h2.push _
    unfold Builtin.Dict.updateFrom
    refine wpAny_bind (wpAny_typeOf h2'.typeIs ?_)
    rw [if_neg (by decide)]
    refine wpAny_bind ?_
    unfold Builtin.Dict.merge
    refine wpAny_bind ?_
    unfold Builtin.Dict.readDirectly
    refine wpAny_bind (wpAny_isInstance h2'.typeIs isSubtype_dict_dict ?_)
    simp only [Bool.not_true, Bool.false_eq_true, if_false]
    refine wpAny_bind (wpAny_specialOf h2'.typeIs F.slot_dict_iter.lookup (wpAny_pure ?_))
    simp only [beq_self_eq_true, if_true]
    refine wpAny_bind (wpAny_pure ?_)
    refine wpAny_mergeDict (hsz := hsz) (Ne.symm (Nat.ne_of_lt hbs)) he h1' h2' fun h' hd' ho' hs' => ?_
    show wpAny _ _ (Builtin.Dict.addKeywords s.heap.objs.size [] >>= _) _ _ _
    refine wpAny_bind (wpAny_pure (wpAny_pure ⟨_, rfl, fun z => (by cases z), ?_⟩))
    exact h h' hd' fun c o e => (hs'.2 c (Nat.ne_of_lt (Heap.lt_size e))).trans (Heap.get?_push_of_some _ e)
  by_cases hemp : es.isEmpty = true
  · rw [if_pos hemp]
    refine wpAny_bind (wpAny_rule (wpAny_newObj_type ?_))
    exact fin #[] (Array.isEmpty_iff.mp hemp).symm
  · rw [if_neg hemp]
    refine wpAny_bind ?_
    · unfold Builtin.Dict.readDirectly
      refine wpAny_bind (wpAny_isInstance h1.typeIs isSubtype_dict_dict ?_)
      simp only [Bool.not_true, Bool.false_eq_true, if_false]
      refine wpAny_bind (wpAny_specialOf h1.typeIs F.slot_dict_iter.lookup (wpAny_pure ?_))
      simp only [beq_self_eq_true, if_true]
      refine wpAny_bind (wpAny_entriesForEmpty (knd := mixKind prog w) ho hdat hk (wpAny_newObj_type ?_ hes))
      exact fin es rfl
end
def rOrD : R2 := fun x y H Q => ∃ (a b : Addr) (ks ls : List (Key × V)), x = .ref a ∧ y = .ref b ∧ H a = some (.dK ks) ∧ H b = some (.dK ls) ∧ ks.length + ls.length ≤ sizeLine ∧ ∀ p, H p = none → Q (.ref p) (upd H p (.dK (mergeK ks ls)))
theorem op_orD {X : Cx} : OpR X (binaryOp .BitOr) rOrD := by
  intro pins s σ H x y v u Q I rx ry h
  obtain ⟨a, b, ks, ls, rfl, rfl, ha, hb, hz, q⟩ := h
  cases rx
  cases ry
  obtain ⟨z1, hd1, vs1, r1, d1⟩ := dk_of I.hok ha
  obtain ⟨z2, hd2, vs2, r2, d2⟩ := dk_of I.hok hb
  refine or_dict hd1 hd2 d1 d2 (by rw [← r1.length, ← r2.length]; exact hz) fun h' dd k => ?_
  have hlen : (mergeK ks ls).length ≤ sizeLine := Nat.le_trans (length_mergeK ls ks) hz
  exact ⟨.ref s.heap.objs.size, _, I.laid (t' := s.toks) k (Nat.le_refl _) (dk_new hlen (beq_eq_false_iff_ne.mpr (Ne.symm (Nat.ne_of_lt I.big))) (KV.merge r2 r1) dd), rfl, q _ (I.hok.fresh (Nat.le_refl _))⟩
end Tk
namespace Tk
open PySem PySem.Spec PyProof.Rows L2
section
variable {K : PySem.W.Frag} {W : Wd} {Γ Γ' : Ctx} {te ta tb : TE} {P P' : Pd} {Ps Qs : List Pd}
theorem look_none {k : Str} : ∀ {l : List (Key × V)}, (Sum.inr k : Key) ∉ l.map (·.1) → valV l (.inr k) = none
  | [], _ => rfl
  | p :: l, h => by
    rw [valV_neg fun e => h (by rw [List.map_cons, e]; exact List.mem_cons_self)]
    exact look_none fun z => h (List.mem_cons_of_mem _ z)
theorem r_orD {k1 k2 : List (Str × Pd)} (hn : (k2.map (·.1)).Nodup) (hd : ∀ k ∈ k2.map (·.1), k ∉ k1.map (·.1)) (hl : k1.length + k2.length ≤ 1000) : R2T W rOrD (dctP k1) (dctP k2) (dctP (k1 ++ k2)) := fun x y H Q j ⟨a, l, e1, h1, m1, p1⟩ ⟨b, r, e2, h2, m2, p2⟩ q => by
  have hl1 : l.length = k1.length := by
    have := congrArg List.length m1
    simpa using this
  have hl2 : r.length = k2.length := by
    have := congrArg List.length m2
    simpa using this
  refine ⟨a, b, l, r, e1, e2, (vw_some h1).2, (vw_some h2).2, by rw [hl1, hl2]; exact Nat.le_of_lt (small1000 hl), fun p hp => ?_⟩
  have hm : mergeK l r = l ++ r := merge_fresh r l (by
    rw [m2, show (fun p : Str × Pd => (Sum.inr p.1 : Key)) = (fun s => (Sum.inr s : Key)) ∘ (·.1) from rfl, ← List.map_map]
    exact List.Pairwise.map _ (fun a b h z => h (Sum.inr.inj z)) hn) fun k hk => by
    rw [m2] at hk
    obtain ⟨p, hp, e⟩ := List.mem_map.mp hk
    rw [m1]
    intro z
    obtain ⟨p2, hp2, e2⟩ := List.mem_map.mp z
    rw [← e] at e2
    exact hd p.1 (List.mem_map_of_mem hp) (by rw [← Sum.inr.inj e2]; exact List.mem_map_of_mem hp2)
  rw [hm]
  obtain ⟨j2, s2, e2⟩ := W.alloc j hp (.dK (l ++ r))
  refine q _ _ j2 s2 ⟨p, l ++ r, rfl, e2, ?_, ?_⟩
  · rw [List.map_append, List.map_append, m1, m2]
  · rw [List.map_append, List.map_append]
    exact (p1.append p2).mono s2
/-! ### displays of dicts -/
def isE : HO → Hp → Prop := fun o _ => o = .dK []
theorem isE_mono {o : HO} {H H' : Hp} (_ : Same H H') (h : isE o H) : isE o H' := h
def Wd.ownE (W : Wd) (p : Addr) : Wd := W.own p isE isE_mono
def TyPs (K : PySem.W.Frag) (W : Wd) (Γ : Ctx) : List (TE × TE) → List (Str × Pd) → Prop
  | [], [] => True
  | t :: ts, k :: ks => TyE W Γ t.1 (rep K (.str k.1)) ∧ TyE W Γ t.2 k.2 ∧ TyPs K W Γ ts ks
  | _, _ => False
theorem ownE_new {H : Hp} {p : Addr} (j : W.J H) (hp : H p = none) : (W.ownE p).J (upd H p (.dK [])) ∧ Same (W.v H) ((W.ownE p).v (upd H p (.dK []))) := by
  refine ⟨⟨?_, .dK [], upd_same, rfl⟩, ?_⟩
  · rw [hide_upd, hide_free hp]; exact j
  · show Same _ (vw (p :: W.A) _)
    rw [vw_cons, hide_upd, hide_free hp]
    exact Same.refl _
theorem ownE_v {p : Addr} {H : Hp} : (W.ownE p).v H = W.v (hide p H) := vw_cons
/-- what is held is written, and given back -/
theorem ownE_put {H : Hp} {p : Addr} (j : (W.ownE p).J H) (hp : p ∉ W.A) (o : HO) : H p = some (.dK []) ∧ W.J (upd H p o) ∧ Same ((W.ownE p).v H) (W.v (upd H p o)) ∧ W.v (upd H p o) p = some o := by
  obtain ⟨j1, u, e, f⟩ := j
  have f' : u = .dK [] := f
  subst f'
  have s : Same (W.v (hide p H)) (W.v (upd H p o)) := fun a u q => by
    obtain ⟨h1, h2⟩ := vw_some q
    show vw W.A _ a = _
    rw [vw_out h1]
    by_cases ha : a = p
    · subst ha; rw [hide_same] at h2; cases h2
    · rw [hide_ne ha] at h2
      rw [upd_ne ha]; exact h2
  refine ⟨e, W.st j1 (fun a ha => ?_) s, by rw [ownE_v]; exact s, ?_⟩
  · have hne : a ≠ p := fun (q : a = p) => hp (by rw [← q]; exact ha)
    rw [upd_ne hne, hide_ne hne]
  · show vw W.A _ p = _
    rw [vw_out hp, upd_same]
theorem ty_pairs : ∀ {trs : List (TE × TE)} {ks : List (Str × Pd)}, TyPs K W Γ trs ks → ∀ (σ : L2.St) (H : Hp) (Q : List (V × V) → Hp → Prop), W.J H → EnvR Γ σ (W.v H) →
    (∀ (l : List (Key × V)) H', W.J H' → Same (W.v H) (W.v H') → l.map (·.1) = ks.map (fun p => (Sum.inr p.1 : Key)) → PdAll (ks.map (·.2)) (l.map (·.2)) (W.v H') → Q (l.map fun kv => (kV kv.1, kv.2)) H') → tPairs trs σ H Q
  | [], [], _, σ, H, Q, j, e, q => q [] H j (Same.refl _) rfl .nil
  | t :: ts, k :: ks, h, σ, H, Q, j, e, q => by
    obtain ⟨h1, h2, h3⟩ := h
    refine h1 σ H _ j e fun x H1 j1 s1 p1 => h2 σ H1 _ j1 (e.mono s1) fun y H2 j2 s2 p2 => ty_pairs h3 σ H2 _ j2 (e.mono (s1.trans s2)) fun l H3 j3 s3 m3 p3 => ?_
    have := q ((.inr k.1, y) :: l) H3 j3 ((s1.trans s2).trans s3) (by rw [List.map_cons, List.map_cons, m3]) (.cons (Pd.mono _ s3 p2) p3)
    rw [dp_str p1]
    exact this
  | [], _ :: _, h, _, _, _, _, _, _ => h.elim
  | _ :: _, [], h, _, _, _, _, _, _ => h.elim
theorem TyE.disp {trs : List (TE × TE)} {ks : List (Str × Pd)} (hn : (ks.map (·.1)).Nodup) (hl : ks.length ≤ 15) (h : ∀ p, p ∉ W.A → TyPs K (W.ownE p) Γ trs ks) : TyE W Γ (tDisp trs) (dctP ks) := fun σ H Q j e q p hp => by
  obtain ⟨j1, s1⟩ := ownE_new j hp
  have hpA := Wd.out j hp
  refine ty_pairs (h p hpA) σ _ _ j1 (e.mono s1) fun l H2 j2 s2 m2 p2 => ?_
  obtain ⟨e2, j3, s3, e3⟩ := ownE_put j2 hpA (.dK (mergeK [] l))
  refine ⟨e2, l, rfl, ?_, ?_⟩
  · have := congrArg List.length m2
    simp only [List.length_map] at this
    omega
  · have hnd : (l.map (·.1)).Nodup := by
      rw [m2, show (fun p : Str × Pd => (Sum.inr p.1 : Key)) = (fun s => (Sum.inr s : Key)) ∘ (·.1) from rfl, ← List.map_map]
      exact List.Pairwise.map _ (fun a b h z => h (Sum.inr.inj z)) hn
    rw [merge_nil hnd] at e3 j3 s3 ⊢
    exact q _ _ j3 ((s1.trans s2).trans s3) ⟨p, l, rfl, e3, m2, p2.mono s3⟩
theorem TyPs.nil : TyPs K W Γ [] [] := trivial
theorem TyPs.cons {tk tv : TE} {k : Str} {ts : List (TE × TE)} {ks : List (Str × Pd)} (h1 : TyE W Γ tk (rep K (.str k))) (h2 : TyE W Γ tv P) (h3 : TyPs K W Γ ts ks) : TyPs K W Γ ((tk, tv) :: ts) ((k, P) :: ks) := ⟨h1, h2, h3⟩
theorem TyE.dnew : TyE W Γ tDNewK (dctP []) := fun σ H Q j e q p hp => by
  obtain ⟨j2, s2, e2⟩ := W.alloc j hp (.dK [])
  exact q _ _ j2 s2 ⟨p, [], rfl, e2, rfl, .nil⟩
end
end Tk
namespace Tk
open PySem PySem.Spec PyProof.Rows L2
section
variable {P : Program} {w : World} {K : PySem.W.Frag} {mg : Str → Option Value} {base : Heap}
theorem scNeedFlat : FnScope ["scheme", "saying", "found"] ["scheme", "saying"] (defScope sNeedFlat) := ⟨rfl, rfl, rfl, by decide +kernel, rfl, by decide +kernel, by decide +kernel⟩
theorem ok_need_flat (T : Tx K mg) {f : Addr} {fd : FuncData} (F : FnP K "need_flat" "need_flat" sNeedFlat f fd) (D_flat_of : DefOk P w K mg base 17 "flat_of" ["scheme", "thing"] (spFlatOf K)) : FnOk P w K mg base CX0 (18) f fd ["scheme", "saying"] (spFlatOf K) := by
  obtain ⟨f_flat_of, fd_flat_of, G_flat_of, m_flat_of, kp_flat_of, b_flat_of⟩ := D_flat_of.ex
  refine fn_ok F scNeedFlat (fun _ => rfl) fun cdv A outer s H E hr => ?_
  refine ⟨_, (pss_cons (ps_set (i := 2) scNeedFlat.nd rfl (Or.inl rfl) (pe_call G_flat_of (hr.mono (by omega)) rfl m_flat_of kp_flat_of b_flat_of .nil pass0 (pa_cons (pv 0) (pa_cons (pv 1) pa_nil))))
      (pss_cons (ps_if (pt_cmpR op_isNn (pv 2) pe_non (nomark _)) (pss_one ps_never) pss_nil)
      (pss_one (ps_ret (pv 2))))), ?_⟩
  -- N: [(0, 'scheme'), (1, 'saying'), (2, 'found')]; cells: []
  rintro ⟨S, f⟩ W ⟨hg, hf⟩ B D hn hR
  refine Nx.sSet (TyE.fn (S, f) (by exact ⟨hg, hf⟩) (TyA.cons (TyE.var rfl) (TyA.cons (TyE.var rfl) TyA.nil))) ?_
  refine Nx.sIfF (TyT.test (K := K) (TyE.op (TyE.var rfl) TyE.non (r_isN (b := false) fun v H ⟨a, xs, e, _⟩ => by subst e; rfl))) ?_
  exact Nx.ret (TyE.var rfl) hR
def intsD (ns : List Nat) : PyData := .tuple (ns.map fun n => .int (n : Nat))
def Fl.srts (f : Fl) : List Str := f.vars.map (·.2)
def reach (S : Sch) (f : Fl) : List Nat := S.sorts.map fun s => f.srts.count s
def spOwnReach (K : PySem.W.Frag) : Sp := SpF (δ := Sch × Fl) (fun x => [schP K x.1, rep K x.2.enc]) (fun x => rep K (intsD (reach x.1 x.2))) (fun x _ => x.1.Good ∧ x.2.Ok x.1)
theorem scOwnReach : FnScope ["scheme", "goal", "some", "name", "sort"] ["scheme", "goal"] (defScope sOwnReach) := ⟨rfl, rfl, rfl, by decide +kernel, rfl, by decide +kernel, by decide +kernel⟩
theorem ok_own_reach (T : Tx K mg) {f : Addr} {fd : FuncData} (F : FnP K "own_reach" "own_reach" sOwnReach f fd) (D_flat_of : DefOk P w K mg base 17 "flat_of" ["scheme", "thing"] (spFlatOf K)) : FnOk P w K mg base CX0 (18) f fd ["scheme", "goal"] (spOwnReach K) := by
  obtain ⟨f_flat_of, fd_flat_of, G_flat_of, m_flat_of, kp_flat_of, b_flat_of⟩ := D_flat_of.ex
  refine fn_ok F scOwnReach (fun _ => rfl) fun cdv A outer s H E hr => ?_
  refine ⟨_, (pss_cons (ps_set (i := 2) scOwnReach.nd rfl (Or.inr rfl) (pe_lc (own := [("name", 3), ("sort", 4)]) rfl scOwnReach.nd (k_list K (pe_ix (k_ix K) (pe_call G_flat_of (hr.mono (by omega)) rfl m_flat_of kp_flat_of b_flat_of .nil pass0 (pa_cons (pv 0) (pa_cons (pv 1) pa_nil))) pe_int (fun _ _ => rfl))) (blkOk_by (own := [("name", 3), ("sort", 4)]) (N := ["scheme", "goal", "some", "name", "sort"]) (sc := defScope sOwnReach) (by decide +kernel)) (fun _ _ _ _ _ => (k_gtup K 2 (pgs_cons (pg_name (i := 3) scOwnReach.nd rfl (Or.inl rfl)) (pgs_cons (pg_name (i := 4) scOwnReach.nd rfl (Or.inl rfl)) pgs_nil)))) (fun _ _ _ _ _ => pts_nil) (fun _ _ _ _ _ => (pv 4))))
      (pss_one (ps_ret (pe_callTy (k_tup K) rfl T.tuple bt_tuple (pa_cons (pe_lc (own := [("sort", 4)]) rfl scOwnReach.nd (k_tupI K (pe_ix (k_ix K) (pv 0) pe_int (fun _ _ => rfl))) (blkOk_by (own := [("sort", 4)]) (N := ["scheme", "goal", "some", "name", "sort"]) (sc := defScope sOwnReach) (by decide +kernel)) (fun _ _ _ _ _ => (pg_name (i := 4) scOwnReach.nd rfl (Or.inl rfl))) (fun _ _ _ _ _ => pts_nil) (fun _ _ _ _ _ => (k_bm K PySem.F.plainAttrs_list PySem.F.slot_list_count PySem.F.type_list_count (k_cnt K) (pv 2) (pa_cons (pv 4) pa_nil)))) pa_nil))))), ?_⟩
  -- N: [(0, 'scheme'), (1, 'goal'), (2, 'some'), (3, 'name'), (4, 'sort')]; cells: ['some']
  rintro ⟨S, f⟩ W ⟨hg, hf⟩ B D hn hR
  have hf : f.Ok S := hf
  have h4 := hf.v4
  have hfl : ∀ {W : Wd} {Γ : Ctx} {E : XK}, Γ[0]? = some (some (schP K S)) → Γ[1]? = some (some (rep K f.enc)) → TyE W Γ (tOp (rIx K) (tCall (spFlatOf K) [] E (tCons (tVar 0) (tCons (tVar 1) tNil))) (tC (.int 0))) (lstN (f.vars.map (pairP K))) := fun e0 e1 =>
    TyE.op (TyE.fn (S, f) (by exact ⟨hg, hf⟩) (TyA.cons (TyE.var e0) (TyA.cons (TyE.var e1) TyA.nil))) TyE.int (r_ixAT (i := 0) rfl)
  have hs3 : S.sorts.length ≤ 1000 := Nat.le_trans hg.s3 (by decide)
  refine Nx.sSet (P := lstOf K (f.vars.map fun p => rep K (.str p.2))) (TyE.lcM f.vars (pairP K) (fun p => rep K (.str p.2)) (TyI.list ((hfl rfl rfl).imp fun _ _ => lstN_of)) (by omega) fun c hc p Qs hp =>
    ⟨_, TyG.tup (TyGs.cons TyG.name (TyGs.cons TyG.name TyGs.nil)), TyE.var rfl⟩) ?_
  have hvar : ∀ {W : Wd} {Γ : Ctx} {i : Nat}, Γ[i]? = some (some (lstOf K (f.vars.map fun p => rep K (.str p.2)))) → TyE W Γ (tVar i) (lstOf K (f.srts.map fun s => rep K (.str s))) := fun e => (TyE.var e).imp fun v H q => by
    have e2 : f.srts.map (fun s => rep K (.str s)) = f.vars.map fun p => rep K (.str p.2) := by
      unfold Fl.srts
      rw [List.map_map] <;> rfl
    rw [e2]
    exact q
  refine Nx.ret ((TyE.cb (TyA.cons (TyE.lcM S.sorts (fun s => rep K (.str s)) (fun s => rep K (.int (f.srts.count s : Nat))) (TyI.tup ((TyE.op (TyE.var (i := 0) rfl) TyE.int (r_ixAT (i := 0) rfl)).imp fun _ _ => strs_t)) hs3 fun c hc p Qs hp =>
    ⟨_, TyG.name, TyE.bmL (hvar rfl) (TyA.cons (TyE.var rfl) TyA.nil) RMT.cnt⟩) TyA.nil) ra_tupL).imp fun v H q => tup_mk ?_) hR
  show (tupOf K (List.map (rep K) (List.map (fun (n : Nat) => PyData.int (n : Nat)) (S.sorts.map fun s => f.srts.count s)))).h v H
  rw [List.map_map, List.map_map]
  exact q
/-! standard atoms -/
def stdA (n : Nat × Nat) : List Str := (("abcdefghi" : Str).cps.toList.take n.2).map fun l => ⟨#[n.1, l]⟩
def stdAs (ns : List Nat) : List (List Str) := (("abc" : Str).cps.toList.zip ns).map stdA
def atomsD (as : List (List Str)) : PyData := .tuple (as.map strsD)
def spStd (K : PySem.W.Frag) : Sp := SpF (δ := List Nat) (fun x => [rep K (intsD x)]) (fun x => rep K (atomsD (stdAs x))) (fun x _ => x.length ≤ 3)
theorem ints_t {ns : List Nat} {v : V} {H : Hp} (h : (rep K (intsD ns)).h v H) : (tupOf K (ns.map fun (n : Nat) => rep K (.int (n : Nat)))).h v H := by
  have := tup_of h
  rw [List.map_map] at this
  exact this
theorem scOwnStandard : FnScope ["sizes", "first", "many", "late"] ["sizes"] (defScope sOwnStandard) := ⟨rfl, rfl, rfl, by decide +kernel, rfl, by decide +kernel, by decide +kernel⟩
theorem ok_own_standard (T : Tx K mg) {f : Addr} {fd : FuncData} (F : FnP K "own_standard" "own_standard" sOwnStandard f fd) : FnOk P w K mg base CX0 (1) f fd ["sizes"] (spStd K) := by
  refine fn_ok F scOwnStandard (fun _ => rfl) fun cdv A outer s H E hr => ?_
  refine ⟨_, (pss_one (ps_ret (pe_callTy (k_tup K) rfl T.tuple bt_tuple (pa_cons (pe_lc (own := [("first", 1), ("many", 2)]) rfl scOwnStandard.nd (k_zipS K rfl T.zip (pa_cons (pe_gs rfl T.SORT_LETTERS) (pa_cons (pv 0) pa_nil))) (blkOk_by (own := [("first", 1), ("many", 2)]) (N := ["sizes", "first", "many", "late"]) (sc := defScope sOwnStandard) (by decide +kernel)) (fun _ _ _ _ _ => (k_gtup K 2 (pgs_cons (pg_name (i := 1) scOwnStandard.nd rfl (Or.inr rfl)) (pgs_cons (pg_name (i := 2) scOwnStandard.nd rfl (Or.inl rfl)) pgs_nil)))) (fun _ _ _ _ _ => pts_nil) (fun _ _ _ _ _ => (pe_callTy (k_tup K) rfl T.tuple bt_tuple (pa_cons (pe_lc (own := [("late", 3)]) rfl scOwnStandard.nd (pi_str (pe_slice sl_str (pe_gs rfl T.LATE_LETTERS) po_none (po_some (pv 2)))) (blkOk_by (own := [("late", 3)]) (N := ["sizes", "first", "many", "late"]) (by kernel_rfl)) (fun _ _ _ _ _ => (pg_name (i := 3) scOwnStandard.nd rfl (Or.inl rfl))) (fun _ _ _ _ _ => pts_nil) (fun _ _ _ _ _ => (pe_op op_addS (pv 1) (pv 3)))) pa_nil)))) pa_nil)))), ?_⟩
  -- N: [(0, 'sizes'), (1, 'first'), (2, 'many'), (3, 'late')]; cells: []
  rintro ns W hn3 B D hn hR
  have hn3 : ns.length ≤ 3 := hn3
  refine Nx.ret ((TyE.cb (TyA.cons (TyE.lcM (("abc" : Str).cps.toList.zip ns) (fun p => tupOf K [rep K (.str ⟨#[p.1]⟩), rep K (.int (p.2 : Nat))]) (fun p => rep K (strsD (stdA p)))
    (TyI.zipS "abc" ns (fun (n : Nat) => rep K (.int (n : Nat))) (TyA.cons TyE.str (TyA.cons ((TyE.var rfl).imp fun _ _ => ints_t) TyA.nil))) (by rw [List.length_zip]; omega) fun c hc p Qs hp =>
      ⟨_, TyG.tup (TyGs.cons TyG.name (TyGs.cons TyG.name TyGs.nil)), ?_⟩) TyA.nil) ra_tupL).imp fun v H q => tup_mk ?_) hR
  · have hsl := TyE.slS (K := K) (W := W.ownL K p Qs) (Γ := [some (rep K (intsD ns)), some (rep K (.str ⟨#[c.1]⟩)), some (rep K (.int (c.2 : Nat))), none]) (z := "abcdefghi") TyE.str TyO.none (TyO.some (TyE.var (i := 2) rfl)) (by decide +kernel)
    have ecut : (cutS "abcdefghi" none (some (c.2 : Int))).cps.toList = ("abcdefghi" : Str).cps.toList.take c.2 := by
      unfold cutS
      rw [HT.sIx_nat, HT.sIx_none, List.drop_zero, Nat.sub_zero, List.toList_toArray]
      have e9 : ("abcdefghi" : Str).length = ("abcdefghi" : Str).cps.toList.length := by simp [Str.length]
      rw [e9]
      by_cases h : c.2 ≤ ("abcdefghi" : Str).cps.toList.length
      · rw [Nat.min_eq_left h]
      · rw [Nat.min_eq_right (by omega), List.take_of_length_le (Nat.le_refl _), List.take_of_length_le (by omega)]
    refine (TyE.cb (TyA.cons (TyE.lcM (("abcdefghi" : Str).cps.toList.take c.2) (fun l => rep K (.str ⟨#[l]⟩)) (fun l => rep K (.str ⟨#[c.1, l]⟩)) (?_) ?_ fun l hl p2 Qs2 hp2 => ⟨_, TyG.name, ?_⟩) TyA.nil) ra_tupL).imp fun v H q => strs_m ?_
    · rw [← ecut]
      exact TyI.str hsl
    · rw [List.length_take]
      exact Nat.le_trans (Nat.min_le_right _ _) (by decide +kernel)
    · exact TyE.op (TyE.var rfl) (TyE.var rfl) (r_addS (Nat.le_of_ble_eq_true rfl))
    · show (tupOf K (List.map (fun b => rep K (PyData.str b)) (((("abcdefghi" : Str).cps.toList.take c.2)).map fun l => (⟨#[c.1, l]⟩ : Str)))).h v H
      rw [List.map_map]
      exact q
  · show (tupOf K (List.map (rep K) (List.map strsD (List.map stdA (("abc" : Str).cps.toList.zip ns))))).h v H
    rw [List.map_map, List.map_map]
    exact q
end
end Tk
namespace Tk
open PySem PySem.Spec PyProof.Rows L2
section
variable {P : Program} {w : World} {K : PySem.W.Frag} {mg : Str → Option Value} {base : Heap}
/-! all sizes -/
def szStep (found : List (List Nat)) (top : Nat) : List (List Nat) := fm2 found (fun _ => List.range (top + 1)) fun a o => a ++ [o]
def allSz (most : List Nat) : List (List Nat) := most.foldl szStep [[]]
def spAllSizes (K : PySem.W.Frag) : Sp := SpF (δ := List Nat) (fun x => [rep K (intsD x)]) (fun x => lstN ((allSz x).map fun ns => rep K (intsD ns))) (fun x _ => x.length ≤ 3 ∧ (∀ n ∈ x, n ≤ 4) ∧ ∀ i, (allSz (x.take i)).length ≤ 1000)
theorem allSz_take {xs : List Nat} {i : Nat} (h : i < xs.length) : allSz (xs.take (i + 1)) = szStep (allSz (xs.take i)) xs[i] := by
  unfold allSz
  rw [List.take_add_one, List.getElem?_eq_getElem h, List.foldl_append] <;> rfl
theorem allSz_len : ∀ {xs : List Nat} {f : List (List Nat)} {n : Nat}, (∀ a ∈ f, a.length = n) → ∀ a ∈ xs.foldl szStep f, a.length = n + xs.length
  | [], f, n, h, a, ha => h a ha
  | x :: xs, f, n, h, a, ha => by
    have := allSz_len (xs := xs) (f := szStep f x) (n := n + 1) (fun b hb => by
      obtain ⟨c, hc, hb⟩ := List.mem_flatMap.mp hb
      obtain ⟨o, ho, rfl⟩ := List.mem_map.mp hb
      rw [List.length_append, h c hc] <;> rfl) a ha
    rw [this, List.length_cons]; omega
theorem fm2_map {α β γ δ : Type} (f : γ → δ) (xs : List α) (inner : α → List β) (out : α → β → γ) : (fm2 xs inner out).map f = fm2 xs inner fun a b => f (out a b) := by
  unfold fm2
  rw [List.map_flatMap]
  congr 1
  funext a
  rw [List.map_map] <;> rfl
theorem int_cast {n : Nat} : ((0 : Int) + (n : Int)) = ((n : Nat) : Int) := by omega
theorem scAllSizes : FnScope ["most", "found", "top", "ahead", "one"] ["most"] (defScope sAllSizes) := ⟨rfl, rfl, rfl, by decide +kernel, rfl, by decide +kernel, by decide +kernel⟩
theorem ok_all_sizes (T : Tx K mg) {f : Addr} {fd : FuncData} (F : FnP K "all_sizes" "all_sizes" sAllSizes f fd) : FnOk P w K mg base CX0 (1) f fd ["most"] (spAllSizes K) := by
  refine fn_ok F scAllSizes (fun _ => rfl) fun cdv A outer s H E hr => ?_
  refine ⟨_, (pss_cons (ps_set (i := 1) scAllSizes.nd rfl (Or.inl rfl) (pe_lst (pa_cons (pe_tup pa_nil) pa_nil)))
      (pss_cons (ps_for PassesOwn.never rfl (k_tupI K (pv 0)) (pg_name (i := 2) scAllSizes.nd rfl (Or.inr rfl)) (pss_one (ps_setLc2 (i := 1) (own := [("ahead", 3), ("one", 4)]) (vs1 := [4]) rfl scAllSizes.nd rfl rfl (sw_true rfl rfl rfl (by decide +kernel)) (k_list K (pv 1)) (blkOk_by (own := [("ahead", 3), ("one", 4)]) (N := ["most", "found", "top", "ahead", "one"]) (sc := defScope sAllSizes) (by decide +kernel)) (by decide) (fun _ _ _ _ _ => (pg_name (i := 3) scAllSizes.nd rfl (Or.inl rfl))) (fun _ _ _ _ _ => pts_nil) (fun _ _ _ _ _ => (pi_range1 rfl T.range (pa_cons (pe_op op_add (pv 2) pe_int) pa_nil))) (fun _ _ _ _ _ => (pg_name (i := 4) scAllSizes.nd rfl (Or.inl rfl))) (fun _ _ _ _ _ => pts_nil) (fun _ _ _ _ _ => (pe_op (k_catA K) (pv 3) (pe_tup (pa_cons (pv 4) pa_nil)))))))
      (pss_one (ps_ret (pv 1))))), ?_⟩
  -- N: [(0, 'most'), (1, 'found'), (2, 'top'), (3, 'ahead'), (4, 'one')]; cells: ['top']
  rintro ns W ⟨h3, h4, hb⟩ B D hn hR
  have h4 : ∀ n ∈ ns, n ≤ 4 := h4
  have h3 : ns.length ≤ 3 := h3
  have hb : ∀ i, (allSz (ns.take i)).length ≤ 1000 := hb
  refine Nx.sSet (P := lstN [rep K (intsD [])]) (TyE.lstN (TyA.cons (TyE.tupD (ds := []) TyA.nil) TyA.nil)) ?_
  refine Nx.for_ (ι := Unit) (Ps := ns.map fun (n : Nat) => rep K (.int (n : Nat))) (vs := [2]) (fun _ _ => W) (fun i _ => [some (rep K (intsD ns)), some (lstN ((allSz (ns.take i)).map fun ns => rep K (intsD ns))), none, none, none]) (fun _ _ => True) (TyI.tup ((TyE.var rfl).imp fun _ _ => ints_t)) () trivial rfl (Le.refl _) (fun i P x B' hP _ hB => ?_) fun x B' _ hB => ?_
  · rw [List.getElem?_map] at hP
    by_cases hi : i < ns.length
    · rw [List.getElem?_eq_getElem hi] at hP
      have hP' : rep K (.int (ns[i] : Nat)) = P := by simpa using hP
      subst hP'
      refine ⟨_, TyG.name, fun N hN => ?_⟩
      have hlt : ns[i] ≤ 4 := h4 _ (List.getElem_mem hi)
      have hb1 := hb (i + 1)
      rw [allSz_take hi] at hb1
      have hl : ∀ a ∈ allSz (ns.take i), a.length = (ns.take i).length := fun a ha => by
        have := allSz_len (xs := ns.take i) (f := [[]]) (n := 0) (fun b hb => by
          have e : b = [] := by simpa using hb
          rw [e] <;> rfl) a ha
        rw [this, Nat.zero_add]
      have key := TyE.lc2 (K := K) (W := W) (Γ := [some (rep K (intsD ns)), some (lstN ((allSz (ns.take i)).map fun ns => rep K (intsD ns))), some (rep K (.int (ns[i] : Nat))), none, none]) (te := tOp (rCatA K) (tVar 3) (tTup (tCons (tVar 4) tNil))) (vs := [3, 4]) (vs1 := [4]) (g := gName 3) (g1 := gName 4) (wi := iList K (tVar 1)) (wi1 := iRng1 (tCons (tOp (rI0 fun i j => .int (i + j)) (tVar 2) (tC (.int 1))) tNil))
        (allSz (ns.take i)) (fun a => rep K (intsD a)) (fun _ => List.range (ns[i] + 1)) (fun _ b => rep K (.int ((0 : Int) + b))) (fun a b => rep K (intsD (a ++ [b]))) (TyI.list ((TyE.var rfl).imp fun _ _ => lstN_of))
        (by
          have e : (fm2 (allSz (ns.take i)) (fun _ => List.range (ns[i] + 1)) fun a b => rep K (intsD (a ++ [b]))).length = (szStep (allSz (ns.take i)) ns[i]).length := by
            unfold szStep
            rw [← fm2_map (fun a => rep K (intsD a)), List.length_map]
          rw [e]; exact hb1) (fun a ha p Qs hp => ⟨_, TyG.name, TyI.range1 (n := ns[i] + 1) (TyA.cons ?_ TyA.nil) (by omega), fun b hb Rs => ⟨_, TyG.name, ?_⟩⟩)
      · have hN' := hN () trivial
        rw [allSz_take hi] at hN'
        refine Nx.set key (hN'.le ?_)
        unfold szStep
        rw [fm2_map]
        exact Le.same (Le.same (Le.drop (Le.drop (Le.drop Le.nil))))
      · exact TyE.op (TyE.var rfl) TyE.int r_int0
      · refine (TyE.op ((TyE.var rfl).imp fun _ _ => ints_t) (TyE.tup (TyA.cons (TyE.var rfl) TyA.nil)) (r_catA ?_)).imp fun v H q => tup_mk ?_
        · have := hl a ha
          rw [List.length_take] at this
          show (a.map _).length + 1 ≤ 1000
          rw [List.length_map]
          omega
        · show (tupOf K (List.map (rep K) (List.map (fun (n : Nat) => PyData.int (n : Nat)) (a ++ [b])))).h v H
          rw [List.map_map, List.map_append]
          rw [int_cast] at q
          exact q
    · rw [List.getElem?_eq_none (by omega)] at hP
      cases hP
  · refine Nx.ret (TyE.var rfl) fun v H j b p => hR v H j (hB.trans b) ?_
    have e : ns.take (List.map (fun (n : Nat) => rep K (PyData.int (n : Nat))) ns).length = ns := by rw [List.length_map, List.take_length]
    rw [e] at p
    exact p
/-! choices -/
abbrev Ch := List (Str × Str)
def atS (sa : List (Str × List Str)) (s : Str) : List Str := (sa.lookup s).getD []
def chStep (sa : List (Str × List Str)) (found : List Ch) (v : Str × Str) : List Ch := fm2 found (fun _ => atS sa v.2) fun c a => c ++ [(v.1, a)]
def chS (sa : List (Str × List Str)) (vs : List (Str × Str)) : List Ch := vs.foldl (chStep sa) [[]]
structure ChA where
  vs : List (Str × Str)
  sa : List (Str × List Str)
structure ChA.Ok (x : ChA) : Prop where
  nd : (x.vs.map (·.1)).Nodup
  v4 : x.vs.length ≤ 4
  at_ : ∀ p ∈ x.vs, (x.sa.lookup p.2).isSome = true
  len : ∀ i, (chS x.sa (x.vs.take i)).length ≤ 1000
def spChoices (K : PySem.W.Frag) : Sp := SpF (δ := ChA) (fun x => [lstN (x.vs.map (pairP K)), dctP (x.sa.map fun p => (p.1, rep K (strsD p.2)))]) (fun x => lstN ((chS x.sa x.vs).map (dctS K))) (fun x _ => x.Ok)
theorem chS_take {sa : List (Str × List Str)} {xs : List (Str × Str)} {i : Nat} (h : i < xs.length) : chS sa (xs.take (i + 1)) = chStep sa (chS sa (xs.take i)) xs[i] := by
  unfold chS
  rw [List.take_add_one, List.getElem?_eq_getElem h, List.foldl_append] <;> rfl
theorem chS_keys {sa : List (Str × List Str)} : ∀ {xs : List (Str × Str)} {f : List Ch} {ks : List Str}, (∀ c ∈ f, c.map (·.1) = ks) → ∀ c ∈ xs.foldl (chStep sa) f, c.map (·.1) = ks ++ xs.map (·.1)
  | [], f, n, h, a, ha => by rw [h a ha, List.map_nil, List.append_nil]
  | x :: xs, f, n, h, a, ha => by
    have := chS_keys (xs := xs) (f := chStep sa f x) (ks := n ++ [x.1]) (fun b hb => by
      obtain ⟨c, hc, hb⟩ := List.mem_flatMap.mp hb
      obtain ⟨o, ho, rfl⟩ := List.mem_map.mp hb
      rw [List.map_append, h c hc] <;> rfl) a ha
    rw [this, List.append_assoc] <;> rfl
theorem chS_keys0 {sa : List (Str × List Str)} {xs : List (Str × Str)} {c : Ch} (h : c ∈ chS sa xs) : c.map (·.1) = xs.map (·.1) := by
  have := chS_keys (sa := sa) (xs := xs) (f := [[]]) (ks := []) (fun c hc => by
    have e : c = [] := by simpa using hc
    rw [e] <;> rfl) c h
  rw [this, List.nil_append]
theorem scChoicesOf : FnScope ["names", "atoms_by", "found", "name", "sort", "ahead", "atom"] ["names", "atoms_by"] (defScope sChoicesOf) := ⟨rfl, rfl, rfl, by decide +kernel, rfl, by decide +kernel, by decide +kernel⟩
theorem ok_choices_of (T : Tx K mg) {f : Addr} {fd : FuncData} (F : FnP K "choices_of" "choices_of" sChoicesOf f fd) : FnOk P w K mg base CX0 (1) f fd ["names", "atoms_by"] (spChoices K) := by
  refine fn_ok F scChoicesOf (fun _ => rfl) fun cdv A outer s H E hr => ?_
  refine ⟨_, (pss_cons (ps_set (i := 2) scChoicesOf.nd rfl (Or.inl rfl) (pe_lst (pa_cons pe_dnewK pa_nil)))
      (pss_cons (ps_for PassesOwn.never rfl (k_list K (pv 0)) (k_gtup K 2 (pgs_cons (pg_name (i := 3) scChoicesOf.nd rfl (Or.inr rfl)) (pgs_cons (pg_name (i := 4) scChoicesOf.nd rfl (Or.inr rfl)) pgs_nil))) (pss_one (ps_setLc2 (i := 2) (own := [("ahead", 5), ("atom", 6)]) (vs1 := [6]) rfl scChoicesOf.nd rfl rfl (sw_true rfl rfl rfl (by decide +kernel)) (k_list K (pv 2)) (blkOk_by (own := [("ahead", 5), ("atom", 6)]) (N := ["names", "atoms_by", "found", "name", "sort", "ahead", "atom"]) (sc := defScope sChoicesOf) (by decide +kernel)) (by decide) (fun _ _ _ _ _ => (pg_name (i := 5) scChoicesOf.nd rfl (Or.inl rfl))) (fun _ _ _ _ _ => pts_nil) (fun _ _ _ _ _ => (k_tupI K (pe_dget (hu_of hr) (pv 1) (pv 4) (fun _ _ => rfl)))) (fun _ _ _ _ _ => (pg_name (i := 6) scChoicesOf.nd rfl (Or.inl rfl))) (fun _ _ _ _ _ => pts_nil) (fun _ _ _ _ _ => (pe_op op_orD (pv 5) (pe_disp (pps_cons (pv 3) (pv 6) pps_nil) rfl rfl (fun z => by cases z) (by decide)))))))
      (pss_one (ps_ret (pv 2))))), ?_⟩
  -- N: [(0, 'names'), (1, 'atoms_by'), (2, 'found'), (3, 'name'), (4, 'sort'), (5, 'ahead'), (6, 'atom')]; cells: ['atoms_by', 'name', 'sort']
  rintro ⟨vs, sa⟩ W ⟨hnd, h4, hat, hlen⟩ B D hn hR
  have hnd : (vs.map (·.1)).Nodup := hnd
  have h4 : vs.length ≤ 4 := h4
  have hat : ∀ p ∈ vs, (sa.lookup p.2).isSome = true := hat
  have hlen : ∀ i, (chS sa (vs.take i)).length ≤ 1000 := hlen
  refine Nx.sSet (P := lstN [dctS K []]) (TyE.lstN (TyA.cons TyE.dnew TyA.nil)) ?_
  refine Nx.for_ (ι := Unit) (Ps := vs.map (pairP K)) (vs := [3, 4]) (fun _ _ => W) (fun i _ => [some (lstN (vs.map (pairP K))), some (dctP (sa.map fun p => (p.1, rep K (strsD p.2)))), some (lstN ((chS sa (vs.take i)).map (dctS K))), none, none, none, none]) (fun _ _ => True) (TyI.list ((TyE.var rfl).imp fun _ _ => lstN_of)) () trivial rfl (Le.refl _) (fun i P x B' hP _ hB => ?_) fun x B' _ hB => ?_
  · rw [List.getElem?_map] at hP
    by_cases hi : i < vs.length
    · rw [List.getElem?_eq_getElem hi] at hP
      have hP' : pairP K vs[i] = P := by simpa using hP
      subst hP'
      refine ⟨_, TyG.tup (TyGs.cons TyG.name (TyGs.cons TyG.name TyGs.nil)), fun N hN => ?_⟩
      have hb1 := hlen (i + 1)
      rw [chS_take hi] at hb1
      obtain ⟨as, has⟩ := Option.isSome_iff_exists.mp (hat _ (List.getElem_mem hi))
      have eas : atS sa vs[i].2 = as := by
        unfold atS
        rw [has] <;> rfl
      have key := TyE.lc2 (K := K) (W := W) (Γ := [some (lstN (vs.map (pairP K))), some (dctP (sa.map fun p => (p.1, rep K (strsD p.2)))), some (lstN ((chS sa (vs.take i)).map (dctS K))), some (rep K (.str vs[i].1)), some (rep K (.str vs[i].2)), none, none]) (te := tOp rOrD (tVar 5) (tDisp [(tVar 3, tVar 6)])) (vs := [5, 6]) (vs1 := [6]) (g := gName 5) (g1 := gName 6) (wi := iList K (tVar 2)) (wi1 := iTup K (tDGet (tVar 1) (tVar 4)))
        (chS sa (vs.take i)) (dctS K) (fun _ => as) (fun _ a => rep K (.str a)) (fun c a => dctS K (c ++ [(vs[i].1, a)])) (TyI.list ((TyE.var rfl).imp fun _ _ => lstN_of))
        (by
          have e : (fm2 (chS sa (vs.take i)) (fun _ => as) fun c a => dctS K (c ++ [(vs[i].1, a)])).length = (chStep sa (chS sa (vs.take i)) vs[i]).length := by
            unfold chStep
            rw [eas, ← fm2_map (dctS K), List.length_map]
          rw [e]; exact hb1) (fun c hc p Qs hp => ⟨_, TyG.name, TyI.tup ((TyE.dget (TyE.var rfl) (TyE.var rfl) (by rw [lookup_map (fun s => rep K (strsD s)) vs[i].2 sa, has] <;> rfl)).imp fun _ _ => strs_t), fun a ha Rs => ⟨_, TyG.name, ?_⟩⟩)
      · have hN' := hN () trivial
        rw [chS_take hi] at hN'
        refine Nx.set key (hN'.le ?_)
        unfold chStep
        rw [eas, fm2_map]
        exact Le.same (Le.same (Le.same (Le.drop (Le.drop (Le.drop (Le.drop Le.nil))))))
      · have hk := chS_keys0 hc
        have hnk : vs[i].1 ∉ c.map (·.1) := fun z => by
          rw [hk] at z
          have h1 := hnd
          rw [← List.take_append_drop i vs, List.map_append, List.drop_eq_getElem_cons hi, List.map_cons] at h1
          exact (List.nodup_append.mp h1).2.2 _ z _ (List.mem_cons_self) rfl
        have hl : c.length ≤ 4 := by
          have := congrArg List.length hk
          rw [List.length_map, List.length_map, List.length_take] at this
          omega
        refine (TyE.op (P2 := dctP [(vs[i].1, rep K (.str a))]) (TyE.var rfl) (TyE.disp (by simp) (Nat.le_of_ble_eq_true rfl) fun p2 hp2 => TyPs.cons (TyE.var rfl) (TyE.var rfl) TyPs.nil) (r_orD (by simp) (fun k hk z => ?_) ?_)).imp fun v H q => ?_
        · have e : k = vs[i].1 := by simpa using hk
          rw [e, List.map_map] at z
          exact hnk z
        · rw [List.length_map]
          show c.length + 1 ≤ 1000
          omega
        · unfold dctS
          rw [List.map_append]
          exact q
    · rw [List.getElem?_eq_none (by omega)] at hP
      cases hP
  · refine Nx.ret (TyE.var rfl) fun v H j b p => hR v H j (hB.trans b) ?_
    have e : vs.take (List.map (pairP K) vs).length = vs := by rw [List.length_map, List.take_length]
    rw [e] at p
    exact p
end
end Tk
namespace Tk
open PySem PySem.Spec PyProof.Rows L2
/-! ### a dict whose keys are pairs of a text and a tuple of texts, its values true or false -/
abbrev Ky := Str × List Str
def kyD (k : Ky) : PyData := .tuple [.str k.1, strsD k.2]
def nk (k : Ky) : NestedKey := .tup [.text k.1, .tup (k.2.map .text)]
abbrev KX := List (Ky × Addr × Bool)
def knC (d : Addr) (o : Obj) : HO := .ext fun h => h.get? d = some o
def nx1 (x : Ky × Addr × Bool) : NestedKey × Addr × Value := (nk x.1, x.2.1, .bool x.2.2)
def KDat (P : Program) (w : World) (o : Obj) (xs : KX) : Prop := o.ExactDict ∧ ∃ es ep, o.data = .dict es ep ∧ es.toList = (xs.map nx1).map (entryOfKey (nestedKind P w)) ∧ (xs.map (·.1)).Nodup
structure KDI (K : PySem.W.Frag) (P : Program) (w : World) (d : Addr) (xs : KX) (o : HO) (H : Hp) : Prop where
  sys : (d == sysModules) = false
  ob : ∃ b, o = knC d b ∧ KDat P w b xs
  ks : ∀ x ∈ xs, Dp K H (.ref x.2.1) (kyD x.1)
  few : xs.length ≤ 1000
theorem KDI.mono {K : PySem.W.Frag} {P : Program} {w : World} {d : Addr} {xs : KX} {o : HO} {H H' : Hp} (e : Same H H') (h : KDI K P w d xs o H) : KDI K P w d xs o H' := ⟨h.sys, h.ob, fun x hx => dp_mono e _ _ (h.ks x hx), h.few⟩
theorem nk_strs_inj : ∀ {a b : List Str}, a.map NestedKey.text = b.map NestedKey.text → a = b
  | [], [], _ => rfl
  | [], _ :: _, h => by simp at h
  | _ :: _, [], h => by simp at h
  | x :: a, y :: b, h => by
    rw [List.map_cons, List.map_cons] at h
    injection h with h1 h2
    injection h1 with h1
    rw [h1, nk_strs_inj h2]
theorem nk_inj {a b : Ky} (h : nk a = nk b) : a = b := by
  obtain ⟨a1, a2⟩ := a
  obtain ⟨b1, b2⟩ := b
  unfold nk at h
  injection h with h
  injection h with h1 h2
  injection h2 with h2 _
  injection h1 with h1
  injection h2 with h2
  have h1' : a1 = b1 := h1
  have h2' : a2 = b2 := nk_strs_inj h2
  rw [h1', h2']
section
variable {X : Cx} {pins : List (Addr × Obj)} {σ : L2.St} {H : Hp} {s : Shared} {d : Addr} {xs : KX} {o : HO}
theorem vals_strs : ∀ {ns : List Str} {us : List Value} {vs : List V}, DpAll X.K H vs (ns.map .str) → Vals vs us → PySem.NestedAll s.heap (ns.map .text) us
  | [], us, vs, h, r => by
    cases h
    cases r
    exact .nil
  | n :: ns, us, vs, h, r => by
    cases h with
    | cons h1 h2 =>
      cases r with
      | cons r1 r2 =>
        have e := dp_str h1
        rw [e] at r1
        obtain ⟨t, rfl⟩ := r1
        exact .cons (.text n t) (vals_strs h2 r2)
theorem key_nested (I : Inv X pins σ H s) {k : Ky} {v : V} {u : Value} (h : Dp X.K H v (kyD k)) (r : RelV v u) : ∃ b, v = .ref b ∧ u = .ref b ∧ (nestedKind X.prog X.w).is s.heap (nk k) b := by
  cases h with
  | tup hs ha =>
    cases r
    obtain ⟨its, rv, ob, ho, hc, n, hd⟩ := (let ⟨its, rv, p, _⟩ := I.tuple hs; ⟨its, rv, p⟩ : ∃ its, Vals _ its ∧ IsTup _ _ _)
    refine ⟨_, rfl, rfl, .tup ho hc hd ?_, ?_⟩
    · cases ha with
      | cons h1 ha =>
        cases ha with
        | cons h2 ha =>
          cases ha
          cases rv with
          | cons r1 rv =>
            cases rv with
            | cons r2 rv =>
              cases rv
              have e := dp_str h1
              rw [e] at r1
              obtain ⟨t, rfl⟩ := r1
              cases h2 with
              | tup hs2 ha2 =>
                cases r2
                obtain ⟨its2, rv2, ob2, ho2, hc2, n2, hd2⟩ := (let ⟨its, rv, p, _⟩ := I.tuple hs2; ⟨its, rv, p⟩ : ∃ its, Vals _ its ∧ IsTup _ _ _)
                exact .cons (.text _ t) (.cons (.tup ho2 hc2 hd2 (vals_strs ha2 (by simpa using rv2))) .nil)
    · have hd : ∀ ns : List Str, NestedKey.depthAll (ns.map NestedKey.text) ≤ 1 := fun ns => by
        induction ns with
        | nil => show (0 : Nat) ≤ 1; decide
        | cons n ns ih =>
          show max (NestedKey.depth (.text n)) (NestedKey.depthAll (ns.map NestedKey.text)) ≤ 1
          have : NestedKey.depth (.text n) ≤ 1 := by show (0 : Nat) ≤ 1; decide
          omega
      have := hd k.2
      show NestedKey.depth (nk k) ≤ 8
      show max (NestedKey.depth (.text k.1)) (max (NestedKey.depthAll (k.2.map NestedKey.text) + 1) 0) + 1 ≤ 8
      have : NestedKey.depth (.text k.1) ≤ 1 := by show (0 : Nat) ≤ 1; decide
      omega
theorem knC_get {b : Obj} (I : Inv X pins σ H s) (e : H d = some (knC d b)) : s.heap.get? d = some b := (I.hok d _ e).1
theorem kd_of (I : Inv X pins σ H s) (e : H d = some o) (k : KDI X.K X.prog X.w d xs o H) : s.heap.DictOfH (nestedKind X.prog X.w) d (xs.map nx1) := by
  obtain ⟨hs, ⟨b, rfl, hx, es, ep, hd, he, hn⟩, hk, _⟩ := k
  refine ⟨b, es, ep, knC_get I e, hx, hd, he, fun y hy => ?_, ?_⟩
  · obtain ⟨x, hxm, rfl⟩ := List.mem_map.mp hy
    obtain ⟨c, e1, e2, e3⟩ := key_nested I (hk x hxm) (show RelV (.ref x.2.1) (.ref x.2.1) from rfl)
    cases e1
    exact e3
  · have e : (xs.map nx1).map (·.1) = (xs.map (·.1)).map nk := by
      rw [List.map_map, List.map_map] <;> rfl
    rw [e]
    exact List.Pairwise.map _ (fun a b h z => h (nk_inj z)) hn
def kvals (xs : KX) : List (Ky × Bool) := xs.map fun x => (x.1, x.2.2)
def getKV (kv : List (Ky × Bool)) (k : Ky) : V := match kv.lookup k with
  | none => .non
  | some b => .bl b
theorem valueAt_kx (k : Ky) : ∀ xs : KX, valueAt (pairsH (xs.map nx1)) (nk k) = ((kvals xs).lookup k).map Value.bool
  | [] => rfl
  | x :: xs => by
    have ih := valueAt_kx k xs
    obtain ⟨a, b, v⟩ := x
    show valueAt ((nk a, Value.bool v) :: pairsH (xs.map nx1)) (nk k) = ((((a, v) :: kvals xs) : List (Ky × Bool)).lookup k).map Value.bool
    by_cases h : a = k
    · subst h
      rw [List.lookup_cons, beq_self_eq_true]
      simp [valueAt]
    · rw [List.lookup_cons, beq_eq_false_iff_ne.mpr fun z => h z.symm]
      have hn : ¬ nk a = nk k := fun z => h (nk_inj z)
      rw [← ih]
      simp [valueAt, hn]
theorem relV_get (kv : List (Ky × Bool)) (k : Ky) : RelV (getKV kv k) (((kv.lookup k).map Value.bool).getD .none) := by
  unfold getKV
  cases kv.lookup k with
  | none => rfl
  | some b => rfl
theorem hu8 {A : Around} (hu : A.units + 64 < cLine) : A.in1.units + 8 < cLine := by
  have := Around.in1_units A
  omega
/-- d.get(k) -/
def tKGet (K : PySem.W.Frag) (P : Program) (w : World) (td ty : TE) : TE := fun σ H Q => td σ H fun x H1 => ∃ a o xs, x = .ref a ∧ H1 a = some o ∧ KDI K P w a xs o H1 ∧ ty σ H1 fun y H2 => ∃ o2 xs2 k, H2 a = some o2 ∧ KDI K P w a xs2 o2 H2 ∧ Dp K H2 y (kyD k) ∧ Q (getKV (kvals xs2) k) H2
theorem kd_typ (I : Inv X pins σ H s) (e : H d = some o) (k : KDI X.K X.prog X.w d xs o H) : s.TypeIs (.ref d) "dict" ∧ (∀ b, Value.ref d = .ref b → ∃ ob, s.heap.get? b = some ob ∧ ob.dict = none) := by
  have h := kd_of I e k
  refine ⟨h.typeIs, fun b q => ?_⟩
  cases q
  obtain ⟨ob, _, _, h1, h2, _⟩ := h
  exact ⟨ob, h1, h2.2.1⟩
section
variable {td ty : TE} {oe e : Expr} {apos cpos : Pos}
theorem pe_kget (hu : X.A.units + 64 < cLine) (ho : PE X oe td) (he : PE X e ty) (m : M1 X oe "get" apos e cpos) : PE X (.Call (.Attribute oe "get" apos) [e] [] cpos) (tKGet X.K X.prog X.w td ty) := by
  refine ⟨fun pins s σ H Q I h => ?_⟩
  refine wpAny_Call_method m.base m.few m.line PySem.F.plainAttrs_dict PySem.F.slot_dict_get PySem.F.type_dict_get (thn (ho.run pins s σ H _ I h) fun u s1 ⟨x, H1, I1, rx, a, o, xs, ex, ea, kd, q1⟩ => ?_)
  subst ex
  obtain rfl : u = Value.ref a := rx
  obtain ⟨t1, t2⟩ := kd_typ I1 ea kd
  refine ⟨t1, t2, ?_⟩
  rw [m.trees]
  refine Calls.callWith_builtin rfl (Calls.evalArgs_plain (Calls.spliced_cons (thn (he.run pins s1 σ H1 _ I1 q1) fun iv s2 ⟨y, H2, I2, ry, o2, xs2, k, ea2, kd2, hy, q2⟩ => Calls.spliced_nil ?_)))
  obtain ⟨b, e1, e2, hk⟩ := key_nested I2 hy ry
  subst e1 e2
  refine get_keyed (knd := nestedKind X.prog X.w) (k := nk k) (hu8 hu) hk kd2.sys ⟨_, kd_of I2 ea2 kd2, rfl⟩ ⟨_, H2, I2.tok _, ?_, q2⟩
  rw [valueAt_kx]
  exact relV_get _ _
end
/-- k in d -/
def rKIn (K : PySem.W.Frag) (P : Program) (w : World) : R2 := fun x y H Q => ∃ a o xs k, y = .ref a ∧ H a = some o ∧ KDI K P w a xs o H ∧ Dp K H x (kyD k) ∧ Q (.bl ((kvals xs).lookup k).isSome) H
theorem op_kin (hu : X.A.units + 64 < cLine) : OpR X (compareOp .In) (rKIn X.K X.prog X.w) := by
  intro pins s σ H x y v u Q I rx ry h
  obtain ⟨a, o, xs, k, ey, ea, kd, hx, q⟩ := h
  subst ey
  cases ry
  obtain ⟨b, e1, e2, hk⟩ := key_nested I hx rx
  subst e1 e2
  refine in_keyed (knd := nestedKind X.prog X.w) (k := nk k) (hu8 hu) hk kd.sys ⟨_, kd_of I ea kd, rfl⟩ ⟨_, H, I.tok _, ?_, q⟩
  rw [valueAt_kx, Option.isSome_map]
  rfl
/-! writing -/
theorem Paired.keysK {xs : KX} {ys : List (NestedKey × Addr × Value)} (h : ys = xs.map nx1) : pairsH ys = (kvals xs).map fun p => (nk p.1, Value.bool p.2) := by
  subst h
  unfold pairsH kvals
  rw [List.map_map, List.map_map] <;> rfl
def putX (xs : KX) (k : Ky) (b : Addr) (v : Bool) : KX := if ((kvals xs).lookup k).isSome then xs.map (fun x => if x.1 = k then (x.1, x.2.1, v) else x) else xs ++ [(k, b, v)]
theorem atKey_kx (k : Ky) : ∀ xs : KX, (atKey (xs.map nx1) (nk k)).isSome = ((kvals xs).lookup k).isSome
  | [] => rfl
  | x :: xs => by
    have ih := atKey_kx k xs
    obtain ⟨a, b, v⟩ := x
    show (atKey ((nk a, b, Value.bool v) :: xs.map nx1) (nk k)).isSome = ((((a, v) :: kvals xs) : List (Ky × Bool)).lookup k).isSome
    by_cases h : a = k
    · subst h
      rw [List.lookup_cons, beq_self_eq_true]
      simp [atKey]
    · rw [List.lookup_cons, beq_eq_false_iff_ne.mpr fun z => h z.symm]
      have hn : ¬ nk a = nk k := fun z => h (nk_inj z)
      show _ = ((kvals xs).lookup k).isSome
      rw [← ih]
      simp [atKey, hn]
theorem stored_kx (xs : KX) (k : Ky) (b : Addr) (v : Bool) : storedH (xs.map nx1) (nk k) b (.bool v) = (putX xs k b v).map nx1 := by
  unfold storedH putX
  rw [atKey_kx]
  split
  · rw [List.map_map, List.map_map]
    refine List.map_congr_left fun x _ => ?_
    show putAt (nk k) (.bool v) (nx1 x) = nx1 (if x.1 = k then (x.1, x.2.1, v) else x)
    by_cases h : x.1 = k
    · rw [if_pos h]
      unfold putAt nx1
      rw [if_pos (by rw [h])]
    · rw [if_neg h]
      unfold putAt nx1
      rw [if_neg fun z => h (nk_inj z)]
  · rw [List.map_append] <;> rfl
def dropX (xs : KX) (k : Ky) : KX := xs.filter fun x => decide (x.1 ≠ k)
theorem dropped_kx (xs : KX) (k : Ky) : withoutH (xs.map nx1) (nk k) = (dropX xs k).map nx1 := by
  unfold withoutH dropX
  rw [List.filter_map]
  congr 1
  refine List.filter_congr fun x _ => ?_
  show decide (nk x.1 ≠ nk k) = decide (x.1 ≠ k)
  refine decide_eq_decide.mpr ⟨fun h z => h (by rw [z]), fun h z => h (nk_inj z)⟩
theorem putX_nodup {xs : KX} {k : Ky} {b : Addr} {v : Bool} (h : (xs.map (·.1)).Nodup) : ((putX xs k b v).map (·.1)).Nodup := by
  unfold putX
  split
  · have e : (xs.map fun x => if x.1 = k then (x.1, x.2.1, v) else x).map (·.1) = xs.map (·.1) := by
      rw [List.map_map]
      refine List.map_congr_left fun x _ => ?_
      show (if x.1 = k then (x.1, x.2.1, v) else x).1 = x.1
      split <;> rfl
    rw [e]; exact h
  · rename_i hn
    rw [List.map_append]
    refine List.nodup_append.mpr ⟨h, by simp, fun a ha c hc e => ?_⟩
    have ec : c = k := by simpa using hc
    rw [← e] at ec
    subst ec
    apply hn
    obtain ⟨x, hx, rfl⟩ := List.mem_map.mp ha
    have hm : (x.1, x.2.2) ∈ kvals xs := List.mem_map_of_mem (f := fun x : Ky × Addr × Bool => (x.1, x.2.2)) hx
    clear hn ha hc h
    generalize kvals xs = l at hm
    induction l with
    | nil => cases hm
    | cons q l ih =>
      obtain ⟨q1, q2⟩ := q
      rw [List.lookup_cons]
      cases hq : x.1 == q1 with
      | true => rfl
      | false =>
        rcases List.mem_cons.mp hm with e2 | hm2
        · injection e2 with e3 e4
          rw [e3, beq_self_eq_true] at hq
          cases hq
        · exact ih hm2
theorem dropX_nodup {xs : KX} {k : Ky} (h : (xs.map (·.1)).Nodup) : ((dropX xs k).map (·.1)).Nodup := h.sublist (List.Sublist.map _ List.filter_sublist)
theorem mem_putX {xs : KX} {k : Ky} {b : Addr} {v : Bool} {x : Ky × Addr × Bool} (h : x ∈ putX xs k b v) : (∃ y ∈ xs, x.1 = y.1 ∧ x.2.1 = y.2.1) ∨ (x = (k, b, v)) := by
  unfold putX at h
  split at h
  · obtain ⟨y, hy, e⟩ := List.mem_map.mp h
    refine .inl ⟨y, hy, ?_⟩
    rw [← e]
    split <;> exact ⟨rfl, rfl⟩
  · rcases List.mem_append.mp h with h | h
    · exact .inl ⟨x, h, rfl, rfl⟩
    · exact .inr (by simpa using h)
theorem putX_len {xs : KX} {k : Ky} {b : Addr} {v : Bool} : (putX xs k b v).length ≤ xs.length + 1 := by
  unfold putX
  split
  · rw [List.length_map]; omega
  · rw [List.length_append]; exact Nat.le_refl _
/-- what is written anew -/
theorem kd_written {h' : Heap} {t' : Nat} {xs ys : KX} (I : Inv X pins σ H s) (e : H d = some o) (kd : KDI X.K X.prog X.w d xs o H) (hn : (ys.map (·.1)).Nodup) (hs : Heap.SameBut d s.heap h') (hh : h'.DictOfH (nestedKind X.prog X.w) d (ys.map nx1)) :
    ∃ b, Inv X pins σ (upd H d (knC d b)) { s with heap := h', toks := t' } ∧ KDat X.prog X.w b ys := by
  obtain ⟨b, es, ep, hb, hx, hdt, he, _, _⟩ := id hh
  obtain ⟨b0, eo, _⟩ := kd.ob
  refine ⟨b, ?_, hx, es, ep, hdt, he, hn⟩
  refine d_write I ?_ hs ⟨b, hb⟩ ⟨hb, ⟨b, hb⟩, fun h1 h2 h3 h4 => h4 _ h3⟩
  rw [e, eo]
  exact True.intro
end
end Tk
namespace Tk
open PySem PySem.Spec PyProof.Rows L2
section
variable {prog : Program} {w : World} {A : Around} {E : Value → Shared → Prop} {s : Shared}
theorem nested_tup {k : NestedKey} {b : Addr} (h : (nestedKind prog w).is s.heap k b) : ∃ items, s.heap.IsTuple b items := by
  obtain ⟨x, _⟩ := h
  cases x with
  | tup h1 h2 h3 h4 => exact ⟨_, _, h1, h2, _, h3⟩
theorem tell_none {stored : List Value} {Q : Bool → Shared → Prop} (hst : ∀ v ∈ stored, ∃ k' b, v = .ref b ∧ (nestedKind prog w).is s.heap k' b) (h : Q false s) : wpAny (model prog w) A (tableMayTell .none stored) Q E s := by
  unfold tableMayTell
  split
  · exact wpAny_pure h
  · refine wpAny_bind ?_
    show wpAny _ _ (pure true) _ _ s
    refine wpAny_pure ?_
    simp only [Bool.not_true, Bool.false_eq_true, if_false]
    refine wpAny_bind ?_
    refine wpAny_forIn_list _ (fun rest r s' => s' = s ∧ r = (none, ()) ∧ ∀ v ∈ rest, ∃ k' b, v = .ref b ∧ (nestedKind prog w).is s.heap k' b) _ ?_ ?_ _ _ ⟨rfl, rfl, hst⟩
    · rintro x rest r s' ⟨rfl, rfl, hr⟩
      obtain ⟨k', b, rfl, hb⟩ := hr x List.mem_cons_self
      refine wpAny_bind ((nestedKind prog w).quiet hb ?_)
      simp only [Bool.not_true, Bool.false_eq_true, if_false]
      exact wpAny_pure ⟨rfl, rfl, fun v hv => hr v (List.mem_cons_of_mem _ hv)⟩
    · rintro r s' ⟨rfl, rfl, _⟩
      exact wpAny_pure h
theorem find_none {d : Addr} {o : Obj} {es ep} {xs : List (NestedKey × Addr × Value)} {h : Int} {Q : Option Nat → Shared → Prop} (hu : A.units < cLine)
    (ho : s.heap.get? d = some o) (hd : o.data = .dict es ep) (he : es.toList = xs.map (entryOfKey (nestedKind prog w))) (his : ∀ x ∈ xs, (nestedKind prog w).is s.heap x.1 x.2.1)
    (hnone : Q none s) : wpAny (model prog w) A (dictFind d .none h) Q E s := by
  have hmem : ∀ e ∈ es, ∃ x ∈ xs, e = entryOfKey (nestedKind prog w) x := by
    intro e hin
    have : e ∈ xs.map (entryOfKey (nestedKind prog w)) := he ▸ Array.mem_toList_iff.mpr hin
    obtain ⟨x, hx, rfl⟩ := List.mem_map.mp this
    exact ⟨x, hx, rfl⟩
  have hst : ∀ v ∈ (placesWithHash es.size (fun i => es[i]?.map (·.hash)) h).filterMap (fun i => es[i]?.map (·.key)), ∃ k' b, v = .ref b ∧ (nestedKind prog w).is s.heap k' b := by
    intro v hv
    obtain ⟨i, _, hi⟩ := List.mem_filterMap.mp hv
    cases hei : es[i]? with
    | none => rw [hei] at hi; cases hi
    | some e =>
      rw [hei] at hi
      obtain rfl : e.key = v := by simpa using hi
      obtain ⟨x, hx, rfl⟩ := hmem e (Array.mem_of_getElem? hei)
      exact ⟨x.1, x.2.1, rfl, his x hx⟩
  have hpl : ∀ i ∈ placesWithHash es.size (fun i => es[i]?.map (·.hash)) h, ∃ e, es[i]? = some e := fun i hi => by
    unfold placesWithHash at hi
    have := List.mem_range.mp (List.mem_filter.mp hi).1
    exact ⟨es[i], Array.getElem?_eq_getElem this⟩
  unfold dictFind
  try with_reducible refine wpAny_holding ?_
  refine wpAny_bind (wpAny_dictEntries ho hd ?_)
  dsimp only
  generalize hP : placesWithHash es.size (fun i => es[i]?.map (·.hash)) h = places at hst hpl
  by_cases hall : ((Value.none :: places.filterMap (fun i => es[i]?.map (·.key))).all carriedByValue) = true
  · rw [if_pos hall]
    have hpn : places = [] := by
      cases places with
      | nil => rfl
      | cons i r =>
        obtain ⟨e, hei⟩ := hpl i List.mem_cons_self
        have hm : e.key ∈ (i :: r).filterMap (fun i => es[i]?.map (·.key)) := List.mem_filterMap.mpr ⟨i, List.mem_cons_self, by rw [hei] <;> rfl⟩
        obtain ⟨k', b, eb, _⟩ := hst _ hm
        have h2 := List.all_eq_true.mp hall _ (List.mem_cons_of_mem _ hm)
        rw [eb] at h2
        cases h2
    subst hpn
    first
      | exact wpAny_bind (wpAny_pure (wpAny_pure hnone))
      | exact wpAny_pure hnone
      | (unfold dictWalkPlain; exact wpAny_bind (wpAny_pure (wpAny_pure (wpAny_pure hnone))))
      | (unfold dictWalkPlain; refine wpAny_bind ?_; first | exact wpAny_pure (wpAny_pure hnone) | exact wpAny_bind (wpAny_pure (wpAny_pure hnone)))
  · rw [if_neg hall]
    by_cases hone : ((places.filterMap (fun i => es[i]?.map (·.key))) == [Value.none]) = true <;>
    (first | rw [if_pos hone] | rw [if_neg hone]) <;> (first | refine wpAny_bind (wpAny_pure ?_) | refine wpAny_bind (tell_none hst ?_)) <;> (
      rw [if_neg (by simp)]
      refine wpAny_bind ?_
      refine wpAny_forIn_list _ (fun rest b s' => s' = s ∧ b = (none, none) ∧ ∀ i ∈ rest, ∃ e, es[i]? = some e) _ ?_ ?_ _ _ ⟨rfl, rfl, hpl⟩
      · rintro i rest b s' ⟨rfl, rfl, hr⟩
        obtain ⟨e, hei⟩ := hr i List.mem_cons_self
        obtain ⟨x, hx, ex⟩ := hmem e (Array.mem_of_getElem? hei)
        have hr' : ∀ j ∈ rest, ∃ e, es[j]? = some e := fun j hj => hr j (List.mem_cons_of_mem _ hj)
        rw [hei]
        dsimp only
        by_cases hh : (e.hash == h) = true
        · rw [if_pos hh]
          obtain ⟨items, ht⟩ := nested_tup (his x hx)
          have ek : e.key = .ref x.2.1 := by rw [ex] <;> rfl
          rw [ek]
          refine wpAny_bind (wpAny_dictEpoch ho hd (wpAny_bind (SeqAt.EqAt.tuple_none ht hu _ _ _ _ (wpAny_bind (wpAny_dictEpoch ho hd ?_)))))
          show wpAny _ _ (if (ep != ep) = true then _ else _) _ E _
          rw [if_neg (by simp)]
          simp only [Bool.false_eq_true, if_false]
          refine wpAny_bind (wpAny_rule ?_)
          first | rw [if_neg (by simp)] | skip
          first
            | exact wpAny_pure ⟨rfl, rfl, hr'⟩
            | exact wpAny_bind (wpAny_pure (wpAny_pure ⟨rfl, rfl, hr'⟩))
        · rw [if_neg hh]
          exact wpAny_pure ⟨rfl, rfl, hr'⟩
      · rintro b s' ⟨rfl, rfl, _⟩
        exact wpAny_pure hnone)
theorem in_none {d : Addr} {xs : List (NestedKey × Addr × Value)} {Q : Value → Shared → Prop} (hu : A.units + 1 < cLine) (hd : (d == sysModules) = false) (hm : s.heap.DictOfH (nestedKind prog w) d xs)
    (h : Q (.bool false) { s with toks := s.toks + 1 }) : wpAny (model prog w) A (compareOp .In .none (.ref d)) Q E s := by
  show wpAny _ _ (do return .bool (← contains (.ref d) .none)) Q E s
  refine wpAny_bind ?_
  unfold contains
  try with_reducible refine wpAny_holding ?_
  refine wpAny_bind (wpAny_specialOf hm.typeIs slot_dict_contains.lookup ?_)
  show wpAny _ _ (if (some (Value.builtin "dict.__contains__") == some Value.none) = true then _ else _) _ E s
  rw [if_neg (by rw [beq_builtin_none]; exact Bool.false_ne_true)]
  refine wpAny_bind (wpAny_callSpecialUnlessNone?_slot (name := Str.ofString "__contains__") hm.typeIs slot_dict_contains
    (wpAny_call_entry slot_dict_contains hm.typeIs entry_dict_contains ?_ (args_dict_contains _ _)))
  show wpAny _ _ (dictGet d .none >>= _) _ _ s
  refine wpAny_bind ?_
  obtain ⟨o, es, ep, ho, _, hdt, he, his, hn⟩ := hm
  unfold dictGet
  try with_reducible refine wpAny_holding ?_
  refine wpAny_bind (pyHash_leaf (k := Leaf.none) (v := .none) rfl (wpAny_bind (find_none (s := { s with toks := s.toks + 1 }) (by have := Around.in1_units A; omega) ho hdt he his ?_)))
  refine wpAny_pure ?_
  show wpAny _ _ (Builtin.Dict.pendingKey? d .none >>= _) _ _ _
  refine wpAny_bind (wpAny_pendingKey_other hd (wpAny_pure ⟨_, rfl, ?_⟩))
  first
    | exact wpAny_truthy_bool (wpAny_pure h)
    | exact h
    | exact wpAny_bind (wpAny_truthy_bool (wpAny_pure h))
end
end Tk
namespace Tk
open PySem PySem.Spec PyProof.Rows L2
section
variable {X : Cx} {pins : List (Addr × Obj)} {σ : L2.St} {H : Hp} {s : Shared} {d : Addr} {xs : KX} {o : HO}
/-- k in d, where k is None too -/
def rKInO (K : PySem.W.Frag) (P : Program) (w : World) : R2 := fun x y H Q => ∃ a o xs, y = .ref a ∧ H a = some o ∧ KDI K P w a xs o H ∧ ((x = .non ∧ Q (.bl false) H) ∨ ∃ k, Dp K H x (kyD k) ∧ Q (.bl ((kvals xs).lookup k).isSome) H)
theorem op_kinO (hu : X.A.units + 64 < cLine) : OpR X (compareOp .In) (rKInO X.K X.prog X.w) := by
  intro pins s σ H x y v u Q I rx ry h
  obtain ⟨a, o, xs, ey, ea, kd, ⟨ex, q⟩ | ⟨k, hx, q⟩⟩ := h
  · subst ey ex
    cases rx
    cases ry
    exact in_none (by omega) kd.sys (kd_of I ea kd) ⟨.bl false, H, I.tok _, rfl, q⟩
  · exact op_kin hu pins s σ H x y v u Q I rx ry ⟨a, o, xs, k, ey, ea, kd, hx, q⟩
section
variable {td ty tv : TE} {oe e i value : Expr} {apos cpos pos pos' : Pos}
/-- d[k] = true, false -/
def sKPut (K : PySem.W.Frag) (P : Program) (w : World) (td ty tv : TE) : TS := fun D σ H => tv σ H fun v H1 => td σ H1 fun x H2 => ty σ H2 fun y H3 => ∃ a o xs k bv, x = .ref a ∧ H3 a = some o ∧ KDI K P w a xs o H3 ∧ xs.length < 1000 ∧ Dp K H3 y (kyD k) ∧ v = .bl bv ∧
  ∀ b c, y = .ref c → KDat P w b (putX xs k c bv) → D.nx σ (upd H3 a (knC a b))
theorem ps_kput (hu : X.A.units + 64 < cLine) (ho : PE X oe td) (hi : PE X i ty) (hv : PE X value tv) (hs : swapsWith value (some (.Subscript oe i pos')) pos.line X.env = pure false) :
    PS X (.Assign [.Subscript oe i pos'] value pos) (sKPut X.K X.prog X.w td ty tv) := by
  refine ⟨fun pins s σ H D I h => ?_⟩
  refine wpAny_Assign_Subscript (thn (hv.run pins s σ H _ I h) fun r s1 ⟨v, H1, I1, rv, q1⟩ => thn (ho.run pins s1 σ H1 _ I1 q1) fun u s2 ⟨x, H2, I2, rx, q2⟩ => thn (hi.run pins s2 σ H2 _ I2 q2) fun iv s3 ⟨y, H3, I3, ry, a, o, xs, k, bv, ex, ea, kd, hl, hy, ev, q3⟩ => ?_) hs
  subst ex ev
  obtain rfl : u = Value.ref a := rx
  cases rv
  obtain ⟨b, e1, e2, hk⟩ := key_nested I3 hy ry
  subst e1 e2
  have hz : (xs.map nx1).length ≤ sizeLine := by rw [List.length_map]; exact Nat.le_of_lt (small1000 (Nat.le_of_lt hl))
  refine wpAny_setItem_heap (hsz := hz) (knd := nestedKind X.prog X.w) (k := nk k) (hu8 hu) hk (kd_of I3 ea kd) fun h' hm' hs' => ?_
  rw [stored_kx] at hm'
  obtain ⟨ob, I4, kdat⟩ := kd_written (t' := s3.toks + (nestedKind X.prog X.w).draws (nk k)) I3 ea kd (putX_nodup (by obtain ⟨_, _, _, _, _, _, _, hn⟩ := kd.ob; exact hn)) hs' hm'
  exact ⟨σ, _, I4, q3 ob b rfl kdat⟩
/-- d.pop(k) -/
def tKPop (K : PySem.W.Frag) (P : Program) (w : World) (td ty : TE) : TE := fun σ H Q => td σ H fun x H1 => ∃ a o xs, x = .ref a ∧ H1 a = some o ∧ KDI K P w a xs o H1 ∧ ty σ H1 fun y H2 => ∃ o2 xs2 k bv, H2 a = some o2 ∧ KDI K P w a xs2 o2 H2 ∧ Dp K H2 y (kyD k) ∧ (kvals xs2).lookup k = some bv ∧
  ∀ b, KDat P w b (dropX xs2 k) → Q (.bl bv) (upd H2 a (knC a b))
theorem pe_kpop (hu : X.A.units + 64 < cLine) (ho : PE X oe td) (he : PE X e ty) (m : M1 X oe "pop" apos e cpos) : PE X (.Call (.Attribute oe "pop" apos) [e] [] cpos) (tKPop X.K X.prog X.w td ty) := by
  refine ⟨fun pins s σ H Q I h => ?_⟩
  refine wpAny_Call_method m.base m.few m.line PySem.F.plainAttrs_dict PySem.F.slot_dict_pop PySem.F.type_dict_pop (thn (ho.run pins s σ H _ I h) fun u s1 ⟨x, H1, I1, rx, a, o, xs, ex, ea, kd, q1⟩ => ?_)
  subst ex
  obtain rfl : u = Value.ref a := rx
  obtain ⟨t1, t2⟩ := kd_typ I1 ea kd
  refine ⟨t1, t2, ?_⟩
  rw [m.trees]
  refine Calls.callWith_builtin rfl (Calls.evalArgs_plain (Calls.spliced_cons (thn (he.run pins s1 σ H1 _ I1 q1) fun iv s2 ⟨y, H2, I2, ry, o2, xs2, k, bv, ea2, kd2, hy, hl, q2⟩ => Calls.spliced_nil ?_)))
  obtain ⟨b, e1, e2, hk⟩ := key_nested I2 hy ry
  subst e1 e2
  have hz : (xs2.map nx1).length ≤ sizeLine := by rw [List.length_map]; exact Nat.le_of_lt (small1000 kd2.few)
  have hv := valueAt_kx k xs2
  rw [hl, valueAt_pairsH] at hv
  obtain ⟨p, hp, ep⟩ := Option.map_eq_some_iff.mp hv
  refine call_pop_heap (hsz := hz) (more := []) (.inl rfl) (PySem.F.args_dict_pop_2 _ _) (knd := nestedKind X.prog X.w) (k := nk k) (hu8 hu) hk kd2.sys (kd_of I2 ea2 kd2) hp fun h' hm' hs' => ?_
  rw [dropped_kx] at hm'
  obtain ⟨ob, I4, kdat⟩ := kd_written (t' := s2.toks + (nestedKind X.prog X.w).draws (nk k)) I2 ea2 kd2 (dropX_nodup (by obtain ⟨_, _, _, _, _, _, _, hn⟩ := kd2.ob; exact hn)) hs' hm'
  refine ⟨.bl bv, _, I4, ?_, q2 ob kdat⟩
  rw [ep]
  rfl
/-- {} -/
def tKNew (P : Program) (w : World) : TE := fun σ H Q => ∀ p b, H p = none → (p == sysModules) = false → KDat P w b [] → Q (.ref p) (upd H p (knC p b))
theorem pe_knew : PE X (.Dict [] [] pos) (tKNew X.prog X.w) := ⟨fun pins s σ H Q I h =>
  wpAny_Dict_empty ⟨.ref s.heap.objs.size, _, I.laid (a := s.heap.objs.size) (o := knC s.heap.objs.size { cls := .type "dict", data := .dict #[] }) (t' := s.toks) (fun _ _ q => Heap.get?_push_of_some _ q) (Nat.le_refl _)
      ⟨Heap.get?_push_size _ rfl, ⟨_, Heap.get?_push_size _ rfl⟩, fun h1 h2 h3 h4 => h4 _ h3⟩, rfl,
    h _ _ (I.hok.fresh (Nat.le_refl _)) (beq_eq_false_iff_ne.mpr (Ne.symm (Nat.ne_of_lt I.big))) ⟨⟨rfl, rfl, rfl⟩, #[], 0, rfl, rfl, List.nodup_nil⟩⟩⟩
end
/-! d.items() -/
def ItkI (d : Addr) (o : HO) (xs : KX) : It :=
  ⟨fun i H => H d = some o ∧ i < xs.length, fun i H v H' => ∃ T x, xs[i]? = some x ∧ v = .ref T ∧ H T = none ∧ H' = upd H T (.tup [.ref x.2.1, .bl x.2.2]), fun i H => H d = some o ∧ xs.length ≤ i⟩
theorem kdat_raw {P : Program} {w : World} {b : Obj} (k : KDat P w b xs) : ∃ es ep, b.ExactDict ∧ b.data = .dict es ep ∧ es.size = xs.length ∧ ∀ i (hi : i < es.size), ∃ x, xs[i]? = some x ∧ es[i].key = .ref x.2.1 ∧ es[i].val = .bool x.2.2 := by
  obtain ⟨hx, es, ep, hd, he, hn⟩ := k
  have hs := size_of_entries he
  rw [List.length_map] at hs
  refine ⟨es, ep, hx, hd, hs, fun i hi => ?_⟩
  have hxl : i < xs.length := hs ▸ hi
  have e := entry_at he i
  rw [Array.getElem?_eq_getElem hi, List.getElem?_map, List.getElem?_eq_getElem hxl, Option.map_some, Option.map_some] at e
  have e' := Option.some.inj e
  exact ⟨xs[i], List.getElem?_eq_getElem hxl, by rw [e']; rfl, by rw [e']; rfl⟩
theorem turn_kitems {P : Program} {w : World} {K : PySem.W.Frag} {b : Obj} {es : Array DictEntry} {ep : Nat} {elts : List Expr} {kk : Nat} {tpos : Pos} (it : Addr) (hx : b.ExactDict) (hod : b.data = .dict es ep) (hz : es.size = xs.length) (hen : ∀ i (hi : i < es.size), ∃ x, xs[i]? = some x ∧ es[i].key = .ref x.2.1 ∧ es[i].val = .bool x.2.2) :
    Turn P w K (.Tuple elts kk tpos) (ItkI d (knC d b) xs) [it] it (fun i h => ∃ ok ov, IsItemIter h it d i es.size ep ok ov) where
  mem := by simp
  obj := fun i h st b hb => by
    have e : b = it := by simpa using hb
    subst e
    obtain ⟨ok, ov, e⟩ := st
    exact ⟨_, e, fun v z => nomatch z⟩
  keep := fun i h h' st k => let ⟨ok, ov, e⟩ := st; ⟨ok, ov, k it (by simp) _ e⟩
  item := by
    intro X hP hw hK hc i pins s σ H E I hf st hg
    subst hP hw hK
    obtain ⟨hd, hi⟩ := hg
    have hm : s.heap.DictRaw d es ep := ⟨b, knC_get I hd, hx, hod⟩
    obtain ⟨ok, ov, he⟩ := st
    have hlt : it < s.heap.objs.size := Heap.lt_size he
    have hie : i < es.size := by rw [hz]; exact hi
    obtain ⟨x, hxi, ek, ev⟩ := hen i hie
    refine wpAny_pyNext_items_item_raw he hm hie fun h' ho hT hsz hk => ?_
    refine ⟨_, rfl, wpAny_letOwnedTupleGo_items (s := { s with heap := h' }) ho fun h'' he' sb => ?_⟩
    have hT2 : h''.get? s.heap.objs.size = some { cls := .type "tuple", data := .seq #[.ref x.2.1, .bool x.2.2] } := by
      rw [ek, ev] at hT
      exact (sb.2 _ (Nat.ne_of_gt hlt)).trans hT
    have new : ObjOk X.prog X.w (upd H s.heap.objs.size (.tup [.ref x.2.1, .bl x.2.2])) h'' s.heap.objs.size (.tup [.ref x.2.1, .bl x.2.2]) :=
      ⟨by show 2 ≤ sizeLine; decide, [.ref x.2.1, .bool x.2.2], .cons rfl (.cons rfl .nil), ⟨_, hT2, rfl, _, rfl⟩⟩
    have I1 : Inv X pins σ (upd H s.heap.objs.size (.tup [.ref x.2.1, .bl x.2.2])) { s with heap := h'' } :=
      I.turnedNew (t' := s.toks) (ch := [it]) (fun b ob hb e => (sb.2 b (by simpa using hb)).trans (hk b ob (by simpa using hb) e)) hf (Nat.le_refl _) new
    refine ⟨.ref s.heap.objs.size, _, I1, rfl, ⟨_, x, hxi, rfl, I.hok.fresh (Nat.le_refl _), rfl⟩, ⟨_, _, he'⟩, fun b hb => ?_⟩
    have e : b = it := by simpa using hb
    rw [e, upd_ne (Nat.ne_of_lt hlt)]
    exact (hf it (by simp)).1
  done := by
    intro X hP hw hK hc i pins s σ H E I hf st hg
    subst hP hw hK
    obtain ⟨hd, hi⟩ := hg
    obtain ⟨f0, f1, f2, f3, f4, f5⟩ := hf it (by simp)
    have hm : s.heap.DictRaw d es ep := ⟨b, knC_get I hd, hx, hod⟩
    obtain ⟨ok, ov, he⟩ := st
    exact wpAny_pyNext_items_end_raw (I.ok.hd hc) he hm (by rw [hz]; exact hi) fun h' eb => ⟨rfl, I.turned (t' := s.toks) (fun b ob hb e => eb b ob hb e) f0 f1 f3 f4 f5⟩
  self := fun A i s Q E st h => let ⟨_, _, e⟩ := st; PySem.W.kcp_self e h
def iKItems (K : PySem.W.Frag) (P : Program) (w : World) (td : TE) : TI := fun σ H R => td σ H fun x H1 => ∃ d o xs, x = .ref d ∧ H1 d = some o ∧ KDI K P w d xs o H1 ∧ R (ItkI d o xs) H1
theorem pi_kitems {e : Expr} {td : TE} {apos cpos tpos : Pos} {elts : List Expr} {kk : Nat} (he : PE X e td) (hbase : attributeBase e "items" X.env (eval e X.env) = eval e X.env := by rfl) (hline : (apos.endLine == cpos.line) = true := by rfl) :
    PI X (.Tuple elts kk tpos) (.Call (.Attribute e "items" apos) [] [] cpos) (iKItems X.K X.prog X.w td) := by
  refine ⟨fun pins s σ H R I h => ?_⟩
  refine wpAny_Call_method (T := "dict") (id := "dict.items") hbase rfl hline F.plainAttrs_dict F.slot_dict_items F.type_dict_items (thn (he.run pins s σ H _ I h) fun u s1 ⟨x, H1, I1, rx, d, o, xs, ex, hd, kd, q⟩ => ?_)
  subst ex
  obtain rfl : u = Value.ref d := rx
  obtain ⟨t1, t2⟩ := kd_typ I1 hd kd
  refine ⟨t1, t2, ?_⟩
  obtain ⟨b, eo, kdat⟩ := kd.ob
  subst eo
  obtain ⟨es, ep, hx, hod, hz, hen⟩ := kdat_raw kdat
  have hm : s1.heap.DictRaw d es ep := ⟨b, knC_get I1 hd, hx, hod⟩
  have I2 : Inv X pins σ H1 { s1 with heap := s1.heap.push { cls := .type "dict_items", data := .fields #[.ref d] } } := I1.kept (t' := s1.toks) fun b ob q => Heap.get?_push_of_some _ q
  have fin : wpAny (model X.prog X.w) X.A (pyIter (.ref s1.heap.objs.size)) (PIE X pins σ (.Tuple elts kk tpos) R) X.xe { s1 with heap := s1.heap.push { cls := .type "dict_items", data := .fields #[.ref d] } } := by
    refine wpAny_pyIter_items_raw (d := d) ⟨_, Heap.get?_push_size _ rfl, rfl, rfl⟩ (hm.at fun o e => Heap.get?_push_of_some _ e) (pi_one (tk := s1.toks) I2 _ (turn_kitems _ hx hod hz hen) ⟨.none, .none, ?_⟩ q)
    exact Heap.get?_push_size _ rfl
  show wpAny _ _ (callWith cpos (.builtin "dict.items") [.ref d] [] []) _ X.xe s1
  exact method_meetsIn F.slot_dict_items F.entry_dict_items rfl (PySem.evalArgs_none ⟨rfl, t1, F.args_dict_items_1 _, _, meets_dict_items_raw (prog := X.prog) (w := X.w) d kd.sys, ⟨_, _, hm⟩, fin⟩)
end
end Tk
namespace Tk
open PySem PySem.Spec PyProof.Rows L2
/-! ### sorted lists of tuples of texts -/
abbrev RwA := List Str × Addr
theorem alike_strs : ∀ a b : List Str, PySem.W.alikeAll (a.map .str) (b.map .str) = true
  | [], _ => by unfold PySem.W.alikeAll; rfl
  | _ :: _, [] => by unfold PySem.W.alikeAll; rfl
  | x :: a, y :: b => by
    show (PySem.W.alike (.str x) (.str y) && PySem.W.alikeAll (a.map .str) (b.map .str)) = true
    rw [alike_strs a b]
    rfl
theorem each_refs {s : Shared} {X : Cx} {pins : List (Addr × Obj)} {σ : L2.St} {H : Hp} (I : Inv X pins σ H s) : ∀ {xs : List RwA} {us : List Value}, Vals (xs.map fun x => V.ref x.2) us → (∀ x ∈ xs, Dp X.K H (.ref x.2) (strsD x.1)) →
    PySem.W.EachIs (fun u (x : RwA) => u = .ref x.2) us xs ∧ PySem.W.EachIs (fun u (x : RwA) => ∃ as, Reads s.heap u (strsD x.1) as) us xs
  | [], _, .nil, _ => ⟨.nil, .nil⟩
  | x :: xs, u :: us, .cons r t, h => by
    obtain ⟨h1, h2⟩ := each_refs I t fun y hy => h y (List.mem_cons_of_mem _ hy)
    have hx := h x (by simp)
    obtain ⟨as, q⟩ := Dp.reads I (strsD x.1) _ _ hx r
    exact ⟨.cons r h1, .cons ⟨as, q⟩ h2⟩
theorem refs_each : ∀ {xs : List RwA} {us : List Value}, PySem.W.EachIs (fun u (x : RwA) => u = .ref x.2) us xs → Vals (xs.map fun x => V.ref x.2) us
  | [], _, .nil => .nil
  | x :: xs, u :: us, .cons r t => by
    have r' : u = .ref x.2 := r
    subst r'
    exact .cons rfl (refs_each t)
def rSortK (K : PySem.W.Frag) : List V → Hp → VK → Prop := fun vs H Q => ∃ (a : Addr) (xs : List RwA), vs = [.ref a] ∧ SqL K H a (xs.map fun x => V.ref x.2) ∧ xs.length ≤ 1000 ∧ (∀ x ∈ xs, Dp K H (.ref x.2) (strsD x.1) ∧ 1 ≤ x.1.length) ∧
  ∀ (p : Addr) (out : List RwA), H p = none → out.length ≤ 1000 → Q (.ref p) (upd H p (.lst (out.map fun x => V.ref x.2)))
theorem cr_sortK {X : Cx} (hu : X.A.units + 64 < cLine) : CallR X (.builtin "sorted") (rSortK X.K) := by
  intro pins s σ H vs us Q I r h
  obtain ⟨a, xs, rfl, hs, hl, hx, q⟩ := h
  obtain ⟨its, rv, pl, hz⟩ := I.list hs
  rw [Vals.ref1 r]
  obtain ⟨e1, e2⟩ := each_refs I rv fun x hxm => (hx x hxm).1
  have hdep : ∀ x : RwA, (strsD x.1).depth ≤ 2 := fun x => by
    show PyData.depthAll (x.1.map .str) + 1 ≤ 2
    have := strs_depth (xs := x.1)
    omega
  refine PySem.W.sorted_data (enc := fun x : RwA => strsD x.1) (R := fun u (x : RwA) => u = .ref x.2) pl.isList e1 e2 (PySem.W.AllAlike.of fun b b' => ?_) ?_ (Nat.le_of_lt (small1000 hl)) (fun b hb => ?_) fun out h1 h2 => ?_
  · show PySem.W.alike (.tuple (b.1.map .str)) (.tuple (b'.1.map .str)) = true
    show PySem.W.alikeAll (b.1.map .str) (b'.1.map .str) = true
    exact alike_strs _ _
  · refine .inl fun d hd => ?_
    obtain ⟨b, hb, rfl⟩ := List.mem_map.mp hd
    have hne := (hx b hb).2
    obtain ⟨b1, b2⟩ := b
    cases b1 with
    | nil => exact absurd hne (by simp)
    | cons x r => exact ⟨_, _, rfl⟩
  · have := hdep b
    show X.A.units + 2 + (strsD b.1).depth < cLine
    omega
  · obtain ⟨ep, he'⟩ := PyProof.Rows.sortedAll_at s.heap its out.toArray
    have hr := refs_each h2
    have hln : out.length ≤ 1000 := by rw [h1]; exact hl
    refine ⟨.ref _, upd H (s.heap.objs.size + 1) (.lst ((xs.mergeSort (PySem.W.dataLe false fun x : RwA => strsD x.1)).map fun x => V.ref x.2)), I.laid (t' := s.toks) (fun _ _ => PyProof.Rows.sortedAll_old) (Nat.le_succ _) ⟨?_, out, ep, hr, he'⟩, rfl, q _ _ (I.hok.fresh (Nat.le_succ _)) ?_⟩
    · rw [hr.length]
      exact Nat.le_of_lt (small1000 hln)
    · have := hr.length
      rw [List.length_map] at this
      rw [this]
      exact hln
end Tk
namespace Tk
open PySem PySem.Spec PyProof.Rows L2
/-! ### zip(t, u, strict=True), dict of it -/
abbrev IsZipS (h : Heap) (z TI TO : Addr) (f0 : Value) : Prop := h.get? z = some { cls := .type "zip", dict := none, data := .fields #[f0, .bool false, .bool true, .ref TI, .ref TO], slots := #[] }
abbrev IsZipSH (h : Heap) (z TI TO T : Addr) (f : Bool) : Prop := h.get? z = some { cls := .type "zip", dict := none, data := .fields #[rawInt T, .bool f, .bool true, .ref TI, .ref TO], slots := #[] }
section
variable {prog : Program} {w : World} {A : Around} {E : Value → Shared → Prop} {s : Shared}
theorem callWith_tyK {M : Model} {pos : Pos} {T : String} {first : List Value} {args : List (Bool × Sem Value)} {keywords : List (Option Str × Sem Value)} {Q : Value → Shared → Prop}
    (hplain : args.any (·.1) = false) (hkw : keywords.any (·.1.isNone) = false)
    (h : wpAny M A (evalArgs (.type T) true args keywords) (fun a s₁ => wpAny M A (call (.type T) (first ++ a.pos) a.kw) Q E s₁) E s) :
    wpAny M A (callWith pos (.type T) first args keywords) Q E s := by
  unfold callWith
  refine wpAny_bind (wpAny_holding (wpAny_mono h (fun a s₁ h₁ => wpAny_bind (wpAny_standAt ?_)) fun _ _ x => x))
  simp only [hplain, hkw, Bool.or_false]
  refine wpAny_bind (wpAny_pure ?_)
  exact wpAny_bind (wpAny_mono h₁ (fun r s₂ hr => wpAny_bind (wpAny_holding (wpAny_point (wpAny_pure hr)))) fun _ _ x => x)
theorem typeCall_zip_s (a b c : Value) : checkTypeCall "zip" ⟨[a, b], [(Str.ofString "strict", c)]⟩ = pure () := by kernel_rfl
theorem newCall_zip_s (a b c : Value) : checkBuiltinCall "zip.__new__" ⟨[.type "zip", a, b], [(Str.ofString "strict", c)]⟩ = pure () := by kernel_rfl
theorem args_object_init_s (obj a b c : Value) : argsOk "object.__init__" ⟨[obj, a, b], [(Str.ofString "strict", c)]⟩ := by unfold argsOk; kernel_rfl
abbrev zsH1 (h : Heap) (l1 : Addr) : Heap := h.push { cls := .type "tuple_iterator", data := .fields #[.ref l1, .int 0 0] }
abbrev zsH2 (h : Heap) (l1 l2 : Addr) : Heap := (zsH1 h l1).push { cls := .type "tuple_iterator", data := .fields #[.ref l2, .int 0 0] }
abbrev zsH3 (h : Heap) (l1 l2 : Addr) : Heap := (zsH2 h l1 l2).push { cls := .type "tuple", data := .seq #[.ref h.objs.size, .ref (zsH1 h l1).objs.size] }
abbrev zsH4 (h : Heap) (l1 l2 : Addr) : Heap := (zsH3 h l1 l2).push { cls := .type "tuple", data := .seq #[.none, .none] }
abbrev zsH5 (h : Heap) (l1 l2 : Addr) : Heap := (zsH4 h l1 l2).push { cls := .type "zip", data := .fields #[.none, .bool false, .bool true, .ref (zsH2 h l1 l2).objs.size, .ref (zsH3 h l1 l2).objs.size] }
theorem meets_zipS_new (l1 l2 : Addr) (xs ys : Array Value) :
    Meets (Builtin.«zip.__new__» ⟨[.type "zip", .ref l1, .ref l2], [(Str.ofString "strict", .bool true)]⟩) (fun _ R s => s.heap.IsTuple l1 xs ∧ s.heap.IsTuple l2 ys ∧
      R (.ok (.ret (.ref (zsH4 s.heap l1 l2).objs.size))) { s with heap := zsH5 s.heap l1 l2 }) :=
  .of_wp fun prog w A R s h => by
    obtain ⟨hp, g, d, tk, os⟩ := s; obtain ⟨hl1, hl2, h⟩ := h
    have hsub := sub_zip
    have e2 : (Str.ofString "strict" != ("strict" : Str)) = false := by decide +kernel
    have hL1 : Heap.IsTuple (Shared.heap ⟨hp, g, d, tk, os⟩) l1 xs := hl1
    have hL2 : Heap.IsTuple (Shared.heap ⟨hp.push { cls := .type "tuple_iterator", data := .fields #[.ref l1, .int 0 0] }, g, d, tk, os⟩) l2 ys := Heap.IsTuple.push hl2 _
    wp_walk using wpAny_pyIter_tuple hL1, wpAny_pyIter_tuple hL2
    exact ⟨_, rfl, h⟩
end
end Tk
namespace Tk
open PySem PySem.Spec PyProof.Rows L2
section
variable {prog : Program} {w : World} {A : Around} {E : Value → Shared → Prop} {s : Shared}
theorem orEnd_item {it t : Addr} {i : Nat} {items : Array Value} {x : Value} {Q : Option Value → Shared → Prop} (hit : s.heap.IsTupleIter it t i) (ht : s.heap.IsTuple t items) (hx : items[i]? = some x)
    (hQ : ∀ h', h'.IsTupleIter it t (i + 1) → Heap.SameBut it s.heap h' → Q (some x) { s with heap := h' }) : wpAny (model prog w) A (Builtin.SmallTypes.nextOrEnd (.ref it)) Q E s := by
  unfold Builtin.SmallTypes.nextOrEnd
  exact wpAny_bind (wpAny_attempt (wpAny_nextOf_tuple_item hit ht hx fun h' a b => wpAny_pure (hQ h' a b)))
theorem orEnd_end {it t : Addr} {i : Nat} {items : Array Value} {Q : Option Value → Shared → Prop} (hh : A.handled = none) (hit : s.heap.IsTupleIter it t i) (ht : s.heap.IsTuple t items) (hx : items[i]? = none)
    (hQ : ∀ h', Heap.ExtBut it s.heap h' → Q none { s with heap := h' }) : wpAny (model prog w) A (Builtin.SmallTypes.nextOrEnd (.ref it)) Q E s := by
  unfold Builtin.SmallTypes.nextOrEnd
  refine wpAny_bind (wpAny_attempt (wpAny_nextOf_tuple_end hh hit ht hx fun h' e he hs => ?_))
  obtain ⟨o, ho, hc⟩ := hs
  refine wpAny_bind (wpAny_isInstance (T := "StopIteration") (b := true) ⟨o, ho, hc⟩ isSubtype_stop ?_)
  exact wpAny_pure (hQ _ he)
theorem held_zipS {z TI TO T : Addr} {f : Bool} {oT : Obj} {Q : Bool → Shared → Prop} (hz : IsZipSH s.heap z TI TO T f) (hT : s.heap.get? T = some oT)
    (h : ∀ h', IsZipSH h' z TI TO T true → Heap.SameBut z s.heap h' → Q false { s with heap := h' }) : wpAny (model prog w) A (Builtin.SmallTypes.ownedTupleIsFree (.ref z)) Q E s := by
  unfold Builtin.SmallTypes.ownedTupleIsFree
  refine wpAny_bind (wpAny_field hz rfl (x := rawInt T) rfl ?_)
  show wpAny _ _ (loadIfAlive ((T : Int).toNat) >>= _) _ _ _
  rw [Int.toNat_natCast]
  refine wpAny_bind (PySem.W.kdx_alive hT ?_)
  simp only [Option.isNone_some, Bool.false_eq_true, if_false]
  refine wpAny_bind (wpAny_field hz rfl (x := .bool f) rfl ?_)
  cases f with
  | true =>
    rw [if_neg (show ¬ ((Value.bool true != Value.bool true) = true) from Bool.false_ne_true)]
    exact wpAny_pure (h s.heap hz (Heap.SameBut.refl _ _))
  | false =>
    rw [if_pos (show (Value.bool false != Value.bool true) = true from rfl)]
    exact wpAny_bind (wpAny_setField_rec hz (by simp) fun h₁ hz₁ hs₁ => wpAny_pure (h h₁ hz₁ hs₁))
/-- a tuple's cells and those of the iterators lie apart -/
theorem zipS_item_held {z TI TO T i1 i2 l1 l2 : Addr} {f : Bool} {oT : Obj} {k1 k2 : Nat} {xs ys : Array Value} {x y : Value} {Q : Value → Shared → Prop} (D : ZipApart z TI TO i1 i2 l1 l2)
    (hz : IsZipSH s.heap z TI TO T f) (hT : s.heap.get? T = some oT) (hTI : IsPair s.heap TI (.ref i1) (.ref i2))
    (h1 : s.heap.IsTupleIter i1 l1 k1) (h2 : s.heap.IsTupleIter i2 l2 k2) (hl1 : s.heap.IsTuple l1 xs) (hl2 : s.heap.IsTuple l2 ys) (hx : xs[k1]? = some x) (hy : ys[k2]? = some y)
    (hQ : ∀ h', IsZipSH h' z TI TO T true → h'.IsTupleIter i1 l1 (k1 + 1) → h'.IsTupleIter i2 l2 (k2 + 1) → IsPair h' s.heap.objs.size x y → h'.objs.size = s.heap.objs.size + 1 →
      (∀ c o, c ≠ z → c ≠ i1 → c ≠ i2 → s.heap.get? c = some o → h'.get? c = some o) → Q (.ref s.heap.objs.size) { s with heap := h' }) :
    wpAny (model prog w) A (Builtin.«zip.__next__» ⟨[.ref z], []⟩) (fun fin s' => ∃ v, fin = .done (.ret v) ∧ Q v s') E s := by
  show wpAny _ _ (field (.ref z) 2 >>= _) _ _ _
  refine wpAny_bind (wpAny_field hz rfl (x := .bool true) rfl ?_)
  show wpAny _ _ (field (.ref z) 3 >>= _) _ _ _
  refine wpAny_bind (wpAny_field hz rfl (x := .ref TI) rfl ?_)
  refine wpAny_bind (wpAny_seqItems hTI rfl ?_)
  show wpAny _ _ (Builtin.SmallTypes.ownedTupleIsFree (.ref z) >>= _) _ _ _
  refine wpAny_bind (held_zipS hz hT fun h₁ hz₁ hs₁ => ?_)
  simp only [Bool.false_eq_true, if_false]
  refine wpAny_bind ?_
  rw [← Array.forIn_toList]
  simp only [List.forIn_cons, List.forIn_nil]
  refine wpAny_bind (wpAny_bind (wpAny_holding ?_))
  show wpAny _ _ (Builtin.SmallTypes.nextOrEnd (.ref i1)) _ _ _
  refine orEnd_item (s := { s with heap := h₁ }) (h1.extBut hs₁.extBut D.i1z) (hl1.extBut hs₁.extBut D.l1z) hx fun h₂ h1₂ hs₂ => ?_
  refine wpAny_pure ?_
  refine wpAny_bind (wpAny_bind (wpAny_holding ?_))
  show wpAny _ _ (Builtin.SmallTypes.nextOrEnd (.ref i2)) _ _ _
  refine orEnd_item (s := { s with heap := h₂ }) ((h2.extBut hs₁.extBut D.i2z).extBut hs₂.extBut D.i12.symm) ((hl2.extBut hs₁.extBut D.l2z).extBut hs₂.extBut D.l2i1) hy fun h₃ h2₃ hs₃ => ?_
  refine wpAny_pure (wpAny_pure ?_)
  show wpAny _ _ (newTuple [x, y] >>= _) _ _ _
  refine wpAny_bind (wpAny_newTuple ?_)
  have hsz : h₃.objs.size = s.heap.objs.size := by rw [hs₃.1, hs₂.1, hs₁.1]
  have hz₃ : IsZipSH h₃ z TI TO T true := hs₃.extBut _ _ D.i2z.symm (hs₂.extBut _ _ D.i1z.symm hz₁)
  have hk : ∀ c o, c ≠ z → c ≠ i1 → c ≠ i2 → s.heap.get? c = some o → h₃.get? c = some o := fun c o c1 c2 c3 e => hs₃.extBut _ _ c3 (hs₂.extBut _ _ c2 (hs₁.extBut _ _ c1 e))
  have h1₃ : h₃.IsTupleIter i1 l1 (k1 + 1) := h1₂.extBut hs₃.extBut D.i12
  refine wpAny_pure ⟨_, rfl, ?_⟩
  show Q (.ref h₃.objs.size) _
  have hp : IsPair (h₃.push { cls := .type "tuple", data := .seq #[x, y] }) h₃.objs.size x y := Heap.get?_push_size _ rfl
  have hz4 : (h₃.push { cls := .type "tuple", data := .seq #[x, y] }).objs.size = h₃.objs.size + 1 := Heap.size_push ..
  rw [hsz] at hp hz4 ⊢
  exact hQ _ (Heap.get?_push_of_some _ hz₃) (h1₃.at fun o e => Heap.get?_push_of_some _ e) (h2₃.at fun o e => Heap.get?_push_of_some _ e) hp hz4 fun c o c1 c2 c3 e => Heap.get?_push_of_some _ (hk c o c1 c2 c3 e)
theorem stop_raise {Q : Fin → Shared → Prop} (hh : A.handled = none) (h : ∀ h' e, (∀ c o, s.heap.get? c = some o → h'.get? c = some o) → (∃ o, h'.get? e = some o ∧ o.cls = .type "StopIteration") → E (.ref e) { s with heap := h' }) : wpAny (model prog w) A (Builtin.SmallTypes.stopIteration : Sem Fin) Q E s := by
  unfold Builtin.SmallTypes.stopIteration
  refine wpAny_bind ?_
  simp only [newExc, newTuple]
  refine wpAny_bind (wpAny_newObj_type ?_ (by size_fits))
  refine wpAny_bind (m := firstArgMember _ _) (wpAny_of_eq (a := Value.none) (by first | rfl | (simp only [firstArgMember]; rfl)) ?_)
  refine wpAny_newObj_type ?_ (by size_fits)
  simp only [raiseNew]
  refine wpAny_bind (wpAny_handled ?_)
  first | rw [show A.in1.handled = none from hh] | rw [hh]
  refine wpAny_bind (wpAny_pure (wpAny_throw ?_))
  exact h _ _ (fun c o e => Heap.get?_push_of_some _ (Heap.get?_push_of_some _ e)) ⟨_, Heap.get?_push_size _ rfl, rfl⟩
theorem zipS_end_held {z TI TO T i1 i2 l1 l2 : Addr} {f : Bool} {oT : Obj} {k1 k2 : Nat} {xs ys : Array Value} {Q : Fin → Shared → Prop} (hh : A.handled = none) (D : ZipApart z TI TO i1 i2 l1 l2)
    (hz : IsZipSH s.heap z TI TO T f) (hT : s.heap.get? T = some oT) (hTI : IsPair s.heap TI (.ref i1) (.ref i2))
    (h1 : s.heap.IsTupleIter i1 l1 k1) (h2 : s.heap.IsTupleIter i2 l2 k2) (hl1 : s.heap.IsTuple l1 xs) (hl2 : s.heap.IsTuple l2 ys) (hx : xs[k1]? = none) (hy : ys[k2]? = none)
    (hE : ∀ h' e, (∀ c o, c ≠ z → c ≠ i1 → c ≠ i2 → s.heap.get? c = some o → h'.get? c = some o) → (∃ o, h'.get? e = some o ∧ o.cls = .type "StopIteration") → E (.ref e) { s with heap := h' }) :
    wpAny (model prog w) A (Builtin.«zip.__next__» ⟨[.ref z], []⟩) Q E s := by
  show wpAny _ _ (field (.ref z) 2 >>= _) _ _ _
  refine wpAny_bind (wpAny_field hz rfl (x := .bool true) rfl ?_)
  show wpAny _ _ (field (.ref z) 3 >>= _) _ _ _
  refine wpAny_bind (wpAny_field hz rfl (x := .ref TI) rfl ?_)
  refine wpAny_bind (wpAny_seqItems hTI rfl ?_)
  show wpAny _ _ (Builtin.SmallTypes.ownedTupleIsFree (.ref z) >>= _) _ _ _
  refine wpAny_bind (held_zipS hz hT fun h₁ hz₁ hs₁ => ?_)
  simp only [Bool.false_eq_true, if_false]
  refine wpAny_bind ?_
  rw [← Array.forIn_toList]
  simp only [List.forIn_cons, List.forIn_nil]
  refine wpAny_bind (wpAny_bind (wpAny_holding ?_))
  show wpAny _ _ (Builtin.SmallTypes.nextOrEnd (.ref i1)) _ _ _
  refine orEnd_end (s := { s with heap := h₁ }) hh (h1.extBut hs₁.extBut D.i1z) (hl1.extBut hs₁.extBut D.l1z) hx fun h₂ hs₂ => ?_
  refine wpAny_bind ?_
  show wpAny _ _ (forIn ((List.drop 1 [Value.ref i1, Value.ref i2]).zipIdx 1) _ _ >>= _) _ _ _
  refine wpAny_bind ?_
  simp only [List.drop_succ_cons, List.drop_zero, List.zipIdx_cons, List.zipIdx_nil, List.forIn_cons, List.forIn_nil]
  refine wpAny_bind (wpAny_bind ?_)
  have h2b : h₂.IsTupleIter i2 l2 k2 := (h2.extBut hs₁.extBut D.i2z).extBut hs₂ D.i12.symm
  have hl2b : h₂.IsTuple l2 ys := (hl2.extBut hs₁.extBut D.l2z).extBut hs₂ D.l2i1
  refine orEnd_end (s := { s with heap := h₂ }) hh h2b hl2b hy fun h₃ hs₃ => ?_
  simp only [Option.isSome_none, Bool.false_eq_true, if_false]
  refine wpAny_pure (wpAny_pure (wpAny_bind (wpAny_rule ?_)))
  refine stop_raise (s := { s with heap := h₃ }) hh fun h' e k he => ?_
  exact hE h' e (fun c o c1 c2 c3 x => k _ _ (hs₃ _ _ c3 (hs₂ _ _ c2 (hs₁.extBut _ _ c1 x)))) he
end
end Tk
namespace Tk
open PySem PySem.Spec PyProof.Rows L2
section
variable {prog : Program} {w : World} {A : Around} {E : Value → Shared → Prop} {s : Shared}
theorem zipS_item_free {z TI TO i1 i2 l1 l2 : Addr} {n m : Nat} {us ws : Array Value} {u v a b : Value} {Q : Value → Shared → Prop} (D : ZipApart z TI TO i1 i2 l1 l2)
    (hz : IsZipS s.heap z TI TO .none) (hTI : IsPair s.heap TI (.ref i1) (.ref i2)) (hTO : IsPair s.heap TO a b)
    (t1 : s.heap.IsTupleIter i1 l1 n) (t2 : s.heap.IsTupleIter i2 l2 m) (q1 : s.heap.IsTuple l1 us) (q2 : s.heap.IsTuple l2 ws) (hu : us[n]? = some u) (hv : ws[m]? = some v)
    (hQ : ∀ g, IsZipS g z TI TO (rawInt s.heap.objs.size) → g.IsTupleIter i1 l1 (n + 1) → g.IsTupleIter i2 l2 (m + 1) → IsPair g s.heap.objs.size u v →
      (∀ c o, c ≠ z → c ≠ TO → c ≠ i1 → c ≠ i2 → s.heap.get? c = some o → g.get? c = some o) → Q (.ref s.heap.objs.size) { s with heap := g }) :
    wpAny (model prog w) A (Builtin.«zip.__next__» ⟨[.ref z], []⟩) (fun fin s' => ∃ v, fin = .done (.ret v) ∧ Q v s') E s := by
  show wpAny _ _ (field (.ref z) 2 >>= _) _ _ _
  refine wpAny_bind (wpAny_field hz rfl (x := .bool true) rfl ?_)
  show wpAny _ _ (field (.ref z) 3 >>= _) _ _ _
  refine wpAny_bind (wpAny_field hz rfl (x := .ref TI) rfl ?_)
  refine wpAny_bind (wpAny_seqItems hTI rfl ?_)
  show wpAny _ _ (Builtin.SmallTypes.ownedTupleIsFree (.ref z) >>= _) _ _ _
  refine wpAny_bind ?_
  unfold Builtin.SmallTypes.ownedTupleIsFree
  refine wpAny_bind (wpAny_field hz rfl (x := .none) rfl (wpAny_pure ?_))
  simp only [if_true]
  refine wpAny_bind (wpAny_rule ?_)
  refine wpAny_bind (wpAny_field hz rfl (x := .ref TO) rfl ?_)
  refine wpAny_bind (wpAny_setField_rec hz (by simp) fun ha za sa => ?_)
  replace za : IsZipS ha z TI TO .ellipsis := za
  refine wpAny_bind ?_
  simp only [List.zipIdx_cons, List.zipIdx_nil, List.forIn_cons, List.forIn_nil]
  refine wpAny_bind (wpAny_bind (wpAny_onRaise ?_))
  show wpAny _ _ (Builtin.SmallTypes.nextOrEnd (.ref i1)) _ _ _
  refine orEnd_item (t1.extBut sa.extBut D.i1z) (q1.extBut sa.extBut D.l1z) hu fun hb tb sb => ?_
  have oB : IsPair hb TO a b := sb.extBut _ _ D.TOi1 (sa.extBut _ _ D.TOz hTO)
  refine wpAny_bind (wpAny_seqItems oB rfl ?_)
  refine wpAny_bind (wpAny_updateSeq_pair oB fun hc oC sc => ?_)
  replace oC : IsPair hc TO u b := oC
  refine wpAny_bind (wpAny_letGo (wpAny_pure ?_))
  refine wpAny_bind (wpAny_bind (wpAny_onRaise ?_))
  show wpAny _ _ (Builtin.SmallTypes.nextOrEnd (.ref i2)) _ _ _
  refine orEnd_item (((t2.extBut sa.extBut D.i2z).extBut sb.extBut D.i12.symm).extBut sc.extBut D.TOi2.symm) (((q2.extBut sa.extBut D.l2z).extBut sb.extBut D.l2i1).extBut sc.extBut D.l2TO) hv fun hd td sd => ?_
  have oD : IsPair hd TO u b := sd.extBut _ _ D.TOi2 oC
  refine wpAny_bind (wpAny_seqItems oD rfl ?_)
  refine wpAny_bind (wpAny_updateSeq_pair oD fun he oE se => ?_)
  replace oE : IsPair he TO u v := oE
  refine wpAny_bind (wpAny_letGo (wpAny_pure (wpAny_pure ?_)))
  refine wpAny_bind (wpAny_seqItems oE rfl ?_)
  refine wpAny_bind (wpAny_newTuple ?_)
  have same : he.objs.size = s.heap.objs.size := by rw [se.1, sd.1, sc.1, sb.1, sa.1]
  have zE : IsZipS he z TI TO .ellipsis := se.extBut _ _ D.TOz.symm (sd.extBut _ _ D.i2z.symm (sc.extBut _ _ D.TOz.symm (sb.extBut _ _ D.i1z.symm za)))
  have kE : ∀ c o, c ≠ z → c ≠ TO → c ≠ i1 → c ≠ i2 → s.heap.get? c = some o → he.get? c = some o := fun c o nz nT n1 n2 x =>
    se.extBut _ _ nT (sd.extBut _ _ n2 (sc.extBut _ _ nT (sb.extBut _ _ n1 (sa.extBut _ _ nz x))))
  have tE1 : he.IsTupleIter i1 l1 (n + 1) := ((tb.extBut sc.extBut D.TOi1.symm).extBut sd.extBut D.i12).extBut se.extBut D.TOi1.symm
  have tE2 : he.IsTupleIter i2 l2 (m + 1) := td.extBut se.extBut D.TOi2.symm
  have lz : z < he.objs.size := Heap.lt_size zE
  show wpAny _ _ (Builtin.SmallTypes.ownedTupleHandOut (.ref z) (.ref he.objs.size) >>= _) _ _ _
  refine wpAny_bind ?_
  unfold Builtin.SmallTypes.ownedTupleHandOut
  have zF : IsZipS (he.push { cls := .type "tuple", data := .seq #[u, v] }) z TI TO .ellipsis := Heap.get?_push_of_some _ zE
  refine wpAny_bind (wpAny_setField_rec zF (by simp) fun hg zG sg => ?_)
  replace zG : IsZipS hg z TI TO (rawInt he.objs.size) := zG
  refine wpAny_setField_rec zG (by simp) fun hk zK sk => ?_
  replace zK : IsZipS hk z TI TO (rawInt he.objs.size) := zK
  have up : ∀ c o, c ≠ z → he.get? c = some o → hk.get? c = some o := fun c o nz x => sk.extBut _ _ nz (sg.extBut _ _ nz (Heap.get?_push_of_some _ x))
  have pK : IsPair hk he.objs.size u v := sk.extBut _ _ (Nat.ne_of_gt lz) (sg.extBut _ _ (Nat.ne_of_gt lz) (Heap.get?_push_size _ rfl))
  rw [same] at zK pK
  refine wpAny_pure ⟨_, rfl, ?_⟩
  show Q (.ref he.objs.size) _
  rw [same]
  exact hQ hk zK (tE1.at fun o x => up _ o D.i1z x) (tE2.at fun o x => up _ o D.i2z x) pK fun c o nz nT n1 n2 x => up c o nz (kE c o nz nT n1 n2 x)
theorem zipS_iter {z TI TO : Addr} {f0 : Value} {Q : Value → Shared → Prop} (hz : IsZipS s.heap z TI TO f0) (h : Q (.ref z) s) : wpAny (model prog w) A (pyIter (.ref z)) Q E s := by
  have hT : s.TypeIs (.ref z) "zip" := ⟨_, hz, rfl⟩
  refine wpAny_pyIter_slot hT F.slot_zip_iter (wpAny_call_entry F.slot_zip_iter hT F.entry_zip_iter ?_ (F.args_zip_iter_1 _))
  show wpAny _ _ (ret (.ref z)) _ _ s
  exact wpAny_pure ⟨_, rfl, "zip", _, hT, F.slot_zip_next.lookup, h⟩
theorem zipS_next {z : Addr} {o : Obj} {Q : Option Value → Shared → Prop} (hz : s.heap.get? z = some o) (hc : o.cls = .type "zip") (h : wpAny (model prog w) A.in1 (Builtin.«zip.__next__» ⟨[.ref z], []⟩) (fun fin s' => ∃ v, fin = .done (.ret v) ∧ Q (some v) s') (fun e s' => ∃ x, e = .ref x ∧ (∃ o, s'.heap.get? x = some o ∧ o.cls = .type "StopIteration") ∧ Q none s') s) :
    wpAny (model prog w) A (pyNext (.ref z)) Q E s := by
  have hT : s.TypeIs (.ref z) "zip" := ⟨_, hz, hc⟩
  unfold pyNext
  refine wpAny_bind (wpAny_attempt (wpAny_callSpecial?_slot (name := Str.ofString "__next__") hT F.slot_zip_next
    (wpAny_call_entry F.slot_zip_next hT F.entry_zip_next (wpAny_mono h (fun fin s' ⟨v, e, q⟩ => ⟨v, e, wpAny_pure q⟩) fun e s' ⟨x, ex, ⟨o, ho, hco⟩, q⟩ => ?_) (F.args_zip_next_1 _))))
  subst ex
  exact wpAny_bind (wpAny_isInstance (T := "StopIteration") (b := true) ⟨o, ho, hco⟩ isSubtype_stop (wpAny_pure q))
/-- as the argument of dict() -/
theorem pairsZS (z TI TO i1 i2 l1 l2 : Addr) (D : ZipApart z TI TO i1 i2 l1 l2) (us ws : Array Value) (n : Nat) (hn : us.size = n + 1) (hm : ws.size = n + 1) :
    PairArg prog w "zip" z [z, TI, TO, i1, i2, l1, l2] [z, TO, i1, i2] (n + 1) (fun i k v => us[i]? = some k ∧ ws[i]? = some v)
      (fun h => IsZipS h z TI TO .none ∧ IsPair h TI (.ref i1) (.ref i2) ∧ (∃ a b, IsPair h TO a b) ∧ h.IsTupleIter i1 l1 0 ∧ h.IsTupleIter i2 l2 0 ∧ h.IsTuple l1 us ∧ h.IsTuple l2 ws) where
  type := fun s ok => ⟨_, ok.1, rfl⟩
  notDict := by decide
  keep := fun h h' ok hk => by
    obtain ⟨hz, hTI, ⟨a, b, hTO⟩, t1, t2, q1, q2⟩ := ok
    exact ⟨hk _ _ hz, hk _ _ hTI, ⟨a, b, hk _ _ hTO⟩, t1.at fun o e => hk _ o e, t2.at fun o e => hk _ o e, q1.at fun o e => hk _ o e, q2.at fun o e => hk _ o e⟩
  there := fun h ok b hb => by
    obtain ⟨hz, hTI, ⟨a, c, hTO⟩, ⟨o1, e1, _⟩, ⟨o2, e2, _⟩, ⟨o3, e3, _⟩, ⟨o4, e4, _⟩⟩ := ok
    simp only [List.mem_cons, List.not_mem_nil, or_false] at hb
    rcases hb with rfl | rfl | rfl | rfl | rfl | rfl | rfl
    all_goals first | exact ⟨_, hz⟩ | exact ⟨_, hTI⟩ | exact ⟨_, hTO⟩ | exact ⟨_, e1⟩ | exact ⟨_, e2⟩ | exact ⟨_, e3⟩ | exact ⟨_, e4⟩
  sub := fun b hb => by simp at hb ⊢; rcases hb with rfl | rfl | rfl | rfl <;> simp
  noKeys := fun A s Q E hA ok h => getAttrOr_miss_zip ok.1 rfl rfl rfl zip_no_keys (by decide +kernel) hA h
  iter := fun A s d Q E hA ok hd hdf h => by
    obtain ⟨hz, hTI, ⟨a, b, hTO⟩, t1, t2, q1, q2⟩ := ok
    simp only [List.mem_cons, List.not_mem_nil, or_false, not_or] at hdf
    obtain ⟨dz, dTI, dTO, di1, di2, dl1, dl2⟩ := hdf
    refine zipS_iter hz (h z [z, TO, i1, i2] (fun i h => IsPair h TI (.ref i1) (.ref i2) ∧ h.IsTupleIter i1 l1 i ∧ h.IsTupleIter i2 l2 i ∧ h.IsTuple l1 us ∧ h.IsTuple l2 ws ∧
      ((i = 0 ∧ IsZipS h z TI TO .none ∧ ∃ a b, IsPair h TO a b) ∨ ∃ T f oT, IsZipSH h z TI TO T f ∧ h.get? T = some oT ∧ T ≠ z ∧ T ≠ i1 ∧ T ≠ i2 ∧ T ≠ d)) s.heap s.toks ?_
      ⟨hTI, t1, t2, q1, q2, .inl ⟨rfl, hz, a, b, hTO⟩⟩ (fun _ _ e => e) fun b hb => .inl hb)
    exact {
      off := fun hm => by
        simp only [List.mem_cons, List.not_mem_nil, or_false] at hm
        rcases hm with e | e | e | e
        · exact dz e
        · exact dTO e
        · exact di1 e
        · exact di2 e
      frame := fun i g g' st hk => by
        obtain ⟨hTI, t1, t2, q1, q2, hz⟩ := st
        refine ⟨hk _ _ (Ne.symm dTI) hTI, t1.at fun o e => hk _ o (Ne.symm di1) e, t2.at fun o e => hk _ o (Ne.symm di2) e, q1.at fun o e => hk _ o (Ne.symm dl1) e, q2.at fun o e => hk _ o (Ne.symm dl2) e, ?_⟩
        rcases hz with ⟨i0, hz, a, b, hTO⟩ | ⟨T, f, oT, hz, hT, r1, r2, r3, r4⟩
        · exact .inl ⟨i0, hk _ _ (Ne.symm dz) hz, a, b, hk _ _ (Ne.symm dTO) hTO⟩
        · exact .inr ⟨T, f, oT, hk _ _ (Ne.symm dz) hz, hk _ _ r4 hT, r1, r2, r3, r4⟩
      item := fun i sx Qx Ex hi st hds hQ => by
        obtain ⟨hTI, t1, t2, q1, q2, hz⟩ := st
        have eu := Array.getElem?_eq_getElem (show i < us.size by omega)
        have ew := Array.getElem?_eq_getElem (show i < ws.size by omega)
        have lt : ∀ {c o}, sx.heap.get? c = some o → sx.heap.objs.size ≠ c := fun e => Nat.ne_of_gt (Heap.lt_size e)
        have n1 : sx.heap.objs.size ≠ i1 := let ⟨_, e, _⟩ := t1; lt e
        have n2 : sx.heap.objs.size ≠ i2 := let ⟨_, e, _⟩ := t2; lt e
        rcases hz with ⟨_, hz, a, b, hTO⟩ | ⟨T, f, oT, hz, hT, r1, r2, r3, r4⟩
        · refine zipS_next hz rfl (zipS_item_free D hz hTI hTO t1 t2 q1 q2 eu ew fun g a1 a3 a4 a5 hk => ?_)
          exact hQ sx.heap.objs.size _ _ g sx.toks ⟨eu, ew⟩ (.inl ⟨_, a5, rfl, _, rfl⟩)
            ⟨hk _ _ D.TIz D.TITO D.TIi1 D.TIi2 hTI, a3, a4, q1.at fun o e => hk _ o D.l1z D.l1TO D.l1i1 D.l1i2 e, q2.at fun o e => hk _ o D.l2z D.l2TO D.l2i1 D.l2i2 e,
              .inr ⟨sx.heap.objs.size, false, _, a1, a5, lt hz, n1, n2, Nat.ne_of_gt hds⟩⟩
            fun c o hc e => hk c o (fun x => hc (by simp [x])) (fun x => hc (by simp [x])) (fun x => hc (by simp [x])) (fun x => hc (by simp [x])) e
        · refine zipS_next hz rfl (zipS_item_held D hz hT hTI t1 t2 q1 q2 eu ew fun g a1 a3 a4 a5 a6 hk => ?_)
          exact hQ sx.heap.objs.size _ _ g sx.toks ⟨eu, ew⟩ (.inl ⟨_, a5, rfl, _, rfl⟩)
            ⟨hk _ _ D.TIz D.TIi1 D.TIi2 hTI, a3, a4, q1.at fun o e => hk _ o D.l1z D.l1i1 D.l1i2 e, q2.at fun o e => hk _ o D.l2z D.l2i1 D.l2i2 e,
              .inr ⟨T, true, oT, a1, hk _ _ r1 r2 r3 hT, r1, r2, r3, r4⟩⟩
            fun c o hc e => hk c o (fun x => hc (by simp [x])) (fun x => hc (by simp [x])) (fun x => hc (by simp [x])) e
      done := fun sx Qx Ex st hQ => by
        obtain ⟨hTI, t1, t2, q1, q2, hz⟩ := st
        have eu : us[n + 1]? = none := Array.getElem?_eq_none (Nat.le_of_eq hn)
        have ew : ws[n + 1]? = none := Array.getElem?_eq_none (Nat.le_of_eq hm)
        rcases hz with ⟨i0, _⟩ | ⟨T, f, oT, hz, hT, r1, r2, r3, r4⟩
        · exact absurd i0 (Nat.succ_ne_zero _)
        · exact zipS_next hz rfl (zipS_end_held hA D hz hT hTI t1 t2 q1 q2 eu ew fun g e hk he => ⟨e, rfl, he, hQ g sx.toks fun c o hc x => hk c o (fun x => hc (by simp [x])) (fun x => hc (by simp [x])) (fun x => hc (by simp [x])) x⟩) }
theorem call_zipS {l1 l2 : Addr} {us ws : Array Value} {Q : Value → Shared → Prop} (q1 : s.heap.IsTuple l1 us) (q2 : s.heap.IsTuple l2 ws)
    (h : ∀ g, IsZipS g (s.heap.objs.size + 4) (s.heap.objs.size + 2) (s.heap.objs.size + 3) .none → IsPair g (s.heap.objs.size + 2) (.ref s.heap.objs.size) (.ref (s.heap.objs.size + 1)) →
      IsPair g (s.heap.objs.size + 3) .none .none → g.IsTupleIter s.heap.objs.size l1 0 → g.IsTupleIter (s.heap.objs.size + 1) l2 0 → (∀ c o, s.heap.get? c = some o → g.get? c = some o) → Q (.ref (s.heap.objs.size + 4)) { s with heap := g }) :
    wpAny (model prog w) A (call (.type "zip") [.ref l1, .ref l2] [(Str.ofString "strict", .bool true)]) Q E s := by
  refine callType_newKw F.called_zip (by decide) (typeCall_zip_s _ _ _) (newCall_zip_s _ _ _) (fun obj => args_object_init_s obj _ _ _) F.entry_zip_new (meets_zipS_new l1 l2 us ws) ⟨q1, q2, ?_⟩
  have n1 : (zsH1 s.heap l1).objs.size = s.heap.objs.size + 1 := Heap.size_push ..
  have n2 : (zsH2 s.heap l1 l2).objs.size = s.heap.objs.size + 2 := by rw [Heap.size_push, n1]
  have n3 : (zsH3 s.heap l1 l2).objs.size = s.heap.objs.size + 3 := by rw [Heap.size_push, n2]
  have n4 : (zsH4 s.heap l1 l2).objs.size = s.heap.objs.size + 4 := by rw [Heap.size_push, n3]
  have e5 : (zsH5 s.heap l1 l2).get? (zsH4 s.heap l1 l2).objs.size = some _ := Heap.get?_push_size _ rfl
  have e4 : (zsH5 s.heap l1 l2).get? (zsH3 s.heap l1 l2).objs.size = some _ := Heap.get?_push_of_some _ (Heap.get?_push_size _ rfl)
  have e3 : (zsH5 s.heap l1 l2).get? (zsH2 s.heap l1 l2).objs.size = some _ := Heap.get?_push_of_some _ (Heap.get?_push_of_some _ (Heap.get?_push_size _ rfl))
  have e2 : (zsH5 s.heap l1 l2).get? (zsH1 s.heap l1).objs.size = some _ := Heap.get?_push_of_some _ (Heap.get?_push_of_some _ (Heap.get?_push_of_some _ (Heap.get?_push_size _ rfl)))
  have e1 : (zsH5 s.heap l1 l2).get? s.heap.objs.size = some _ := Heap.get?_push_of_some _ (Heap.get?_push_of_some _ (Heap.get?_push_of_some _ (Heap.get?_push_of_some _ (Heap.get?_push_size _ rfl))))
  show _ ∧ _
  rw [n2, n3, n4] at e5
  rw [n1, n2] at e3
  rw [n3] at e4
  rw [n1] at e2
  rw [n4]
  exact ⟨⟨_, e5, rfl⟩, h _ e5 e3 e4 ⟨_, e1, rfl, rfl⟩ ⟨_, e2, rfl, rfl⟩ fun c o x => Heap.get?_push_of_some _ (Heap.get?_push_of_some _ (Heap.get?_push_of_some _ (Heap.get?_push_of_some _ (Heap.get?_push_of_some _ x))))⟩
end
end Tk
namespace Tk
open PySem PySem.Spec PyProof.Rows L2
/-- dict(zip(t, u, strict=True)) -/
def tDZ (K : PySem.W.Frag) (ta tk : TA) : TE := fun σ H Q => ta σ H fun vs H1 => tk σ H1 fun zs H2 => ∃ (a b : Addr) (ks : List Key) (ys : List V) (n : Nat), vs = [.ref a, .ref b] ∧ zs = [.bl true] ∧ SqT K H2 a (ks.map kV) ∧ SqT K H2 b ys ∧ ks.length = n + 1 ∧ ys.length = n + 1 ∧ n ≤ 999 ∧
  ∀ p, H2 p = none → Q (.ref p) (upd H2 p (.dK (mergeK [] (ks.zip ys))))
theorem keys_are {P : Program} {w : World} : ∀ {ks : List Key} {us : List Value}, Vals (ks.map kV) us → ∀ (i : Nat) (k : Key) (u : Value), ks[i]? = some k → us[i]? = some u → (mixKind P w).is k u = true
  | [], _, _, i, k, u, h, _ => by simp at h
  | k :: ks, u :: us, .cons r t, i, k2, u2, h1, h2 => by
    cases i with
    | zero =>
      simp at h1 h2
      subst h1 h2
      exact kV_is r
    | succ i =>
      simp at h1 h2
      exact keys_are t i k2 u2 h1 h2
theorem kv_zip : ∀ {ks : List Key} {ys : List V} {us : List Value}, Vals ys us → KV (ks.zip ys) (ks.zip us)
  | [], _, _, _ => .nil
  | _ :: _, [], _, .nil => .nil
  | k :: ks, y :: ys, u :: us, .cons r t => .cons ⟨rfl, r⟩ (kv_zip t)
section
variable {X : Cx} {e1 e2 e3 : Expr} {p1 p2 q1 q2 kp : Pos}
theorem pe_dictZip (hc : X.calm = true) (hg1 : Gl X "dict") (hm1 : X.mg "dict" = none) (hb1 : bootBuiltins "dict" = some (.type "dict")) (hg2 : Gl X "zip") (hm2 : X.mg "zip" = none) {t tk : TA} (ha : PA X [e1, e2] t) (hk : PK X [⟨some "strict", e3, kp⟩] tk)
    (he : backTo q2 (starEach [e1, e2] X.env) = (false, eval e1 X.env) :: backTo q2 (starEach [e2] X.env) := by rfl) (hpl : (backTo q2 (starEach [e1, e2] X.env)).any (·.1) = false := by rfl)
    (hall : (backToKw q2 (keywordEach [⟨some "strict", e3, kp⟩] X.env)).all (·.1.isSome) = true := by rfl) (hnone : (backToKw q2 (keywordEach [⟨some "strict", e3, kp⟩] X.env)).any (·.1.isNone) = false := by rfl) (hks : (backToKw q2 (keywordEach [⟨some "strict", e3, kp⟩] X.env)).filterMap (·.1) = [Str.ofString "strict"] := by rfl)
    (na : starEach [.Call (.Name "zip" p2) [e1, e2] [⟨some "strict", e3, kp⟩] q2] X.env = (false, eval (.Call (.Name "zip" p2) [e1, e2] [⟨some "strict", e3, kp⟩] q2) X.env) :: starEach [] X.env := by rfl) :
    PE X (.Call (.Name "dict" p1) [.Call (.Name "zip" p2) [e1, e2] [⟨some "strict", e3, kp⟩] q2] [] q1) (tDZ X.K t tk) := by
  refine ⟨fun pins s σ H Q I h => ?_⟩
  refine Call_ (ld_blt I hg1 hm1 hb1 ?_)
  refine PyProof.Rows.callWith_type1 (PyProof.Rows.args_cons ?_ na) na rfl
  refine wpAny_Call_Name_kw (ld_blt I hg2 hm2 PyProof.Rows.boot_zip ?_)
  refine callWith_tyK hpl hnone ?_
  rw [he]
  refine evalArgs_kwB hall ?_
  rw [← he]
  refine thn (ha.run q2 pins s σ H _ I h) fun us s1 ⟨vs, H1, I1, r1, z1⟩ => thn (hk.run q2 pins s1 σ H1 _ I1 z1) fun ws s2 ⟨zs, H2, I2, r2, z2⟩ => ?_
  obtain ⟨a, b, ks, ys, n, ev, ez, ha2, hb2, lk, ly, hn, q⟩ := z2
  rw [hks]
  subst ev ez
  cases r1 with
  | cons ra r1 =>
    cases r1 with
    | cons rb r1 =>
      cases r1
      cases ra
      cases rb
      cases r2 with
      | cons rc r2 =>
        cases r2
        cases rc
        obtain ⟨ia, va, pa, _⟩ := I2.tuple ha2
        obtain ⟨ib, vb, pb, _⟩ := I2.tuple hb2
        have l1 : ia.toArray.size = n + 1 := by
          have := va.length
          rw [List.length_map] at this
          rw [List.size_toArray]; omega
        have l2 : ib.toArray.size = n + 1 := by
          have := vb.length
          rw [List.size_toArray]; omega
        have hlta : a < s2.heap.objs.size := by obtain ⟨_, o, _⟩ := id pa; exact Heap.lt_size o
        have hltb : b < s2.heap.objs.size := by obtain ⟨_, o, _⟩ := id pb; exact Heap.lt_size o
        show wpAny _ _ (call (.type "zip") [.ref a, .ref b] [(Str.ofString "strict", .bool true)]) _ _ s2
        refine call_zipS (us := ia.toArray) (ws := ib.toArray) pa pb fun g gz gTI gTO g1 g2 gk => ?_
        have I3 : Inv X pins σ H2 { s2 with heap := g } := I2.kept (t' := s2.toks) gk
        refine PyProof.Rows.args_nil ?_
        have pa' : Heap.IsTuple g a ia.toArray := let ⟨o, ho, r⟩ := pa; ⟨o, gk _ _ ho, r⟩
        have pb' : Heap.IsTuple g b ib.toArray := let ⟨o, ho, r⟩ := pb; ⟨o, gk _ _ ho, r⟩
        have gzl : s2.heap.objs.size + 4 < g.objs.size := Heap.lt_size gz
        refine PySem.call_dict_pairs (knd := mixKind X.prog X.w) (kvs := ks.zip ib) (s := { s2 with heap := g }) (pairsZS (s2.heap.objs.size + 4) (s2.heap.objs.size + 2) (s2.heap.objs.size + 3) s2.heap.objs.size (s2.heap.objs.size + 1) a b (PySem.W.ktu_apart s2.heap.objs.size a b hlta hltb) ia.toArray ib.toArray n l1 l2) (I3.ok.hd hc) ⟨gz, gTI, ⟨_, _, gTO⟩, g1, g2, pa', pb'⟩ ⟨?_, fun i k v e1 => ?_⟩ ?_ fun h' tk hd' kk => ?_
        · rw [List.length_zip, lk]
          rw [List.size_toArray] at l2
          rw [l2, Nat.min_self]
        · obtain ⟨ek, ev⟩ := e1
          have ek' : ia[i]? = some k := by simpa using ek
          have ev' : ib[i]? = some v := by simpa using ev
          have hi : i < ks.length := by
            have := (List.getElem?_eq_some_iff.mp ek').1
            rw [List.size_toArray] at l1
            omega
          refine ⟨ks[i], ?_, keys_are va i _ k (List.getElem?_eq_getElem hi) ek'⟩
          rw [List.getElem?_zip_eq_some]
          exact ⟨List.getElem?_eq_getElem hi, ev'⟩
        · exact Nat.le_of_lt (small1000 (by omega))
        · have hm : (g.objs.size == sysModules) = false := beq_eq_false_iff_ne.mpr (Nat.ne_of_gt (Nat.lt_trans I2.big (Nat.lt_of_le_of_lt (Nat.le_add_right _ 4) gzl)))
          have hlen : (mergeK [] (ks.zip ys)).length ≤ sizeLine := by
            refine Nat.le_trans (length_mergeK (ks.zip ys) []) ?_
            rw [List.length_nil, Nat.zero_add, List.length_zip]
            exact Nat.le_of_lt (small1000 (by omega))
          refine ⟨.ref g.objs.size, upd H2 g.objs.size (.dK (mergeK [] (ks.zip ys))), I2.laid (t' := tk) (fun c o e => kk c o (fun z => ?_) (gk c o e)) (Nat.le_of_lt (Nat.lt_of_le_of_lt (Nat.le_add_right _ 4) gzl)) (dk_new hlen hm (KV.merge (kv_zip vb) .nil) hd'), rfl, q _ (I2.hok.fresh (Nat.le_of_lt (Nat.lt_of_le_of_lt (Nat.le_add_right _ 4) gzl)))⟩
          have hlt := Heap.lt_size e
          have z' : c = s2.heap.objs.size + 4 ∨ c = s2.heap.objs.size + 3 ∨ c = s2.heap.objs.size ∨ c = s2.heap.objs.size + 1 := by simpa using z
          rcases z' with z | z | z | z
          · rw [z] at hlt; exact absurd (Nat.lt_of_le_of_lt (Nat.le_add_right _ _) hlt) (Nat.lt_irrefl _)
          · rw [z] at hlt; exact absurd (Nat.lt_of_le_of_lt (Nat.le_add_right _ _) hlt) (Nat.lt_irrefl _)
          · rw [z] at hlt; exact absurd hlt (Nat.lt_irrefl _)
          · rw [z] at hlt; exact absurd (Nat.lt_of_le_of_lt (Nat.le_add_right _ _) hlt) (Nat.lt_irrefl _)
end
section
variable {K : PySem.W.Frag} {W : Wd} {Γ : Ctx} {t tk : TA}
theorem keys_strs : ∀ {ns : List Str}, (ns.map fun s => (Sum.inr s : Key)).map kV = ns.map V.str
  | [] => rfl
  | n :: ns => by
    rw [List.map_cons, List.map_cons, List.map_cons, keys_strs] <;> rfl
theorem zip_fst {α β : Type} : ∀ {xs : List α} {ys : List β}, xs.length = ys.length → (xs.zip ys).map (·.1) = xs
  | [], _, _ => rfl
  | x :: xs, [], h => by cases h
  | x :: xs, y :: ys, h => by
    rw [List.zip_cons_cons, List.map_cons, zip_fst (by simpa using h)]
theorem zip_snd {α β : Type} : ∀ {xs : List α} {ys : List β}, xs.length = ys.length → (xs.zip ys).map (·.2) = ys
  | [], [], _ => rfl
  | [], _ :: _, h => by cases h
  | x :: xs, [], h => by cases h
  | x :: xs, y :: ys, h => by
    rw [List.zip_cons_cons, List.map_cons, zip_snd (by simpa using h)]
theorem TyE.dictZip {α : Type} {ns : List Str} {xs : List α} {F : α → Pd} {n : Nat} (ha : TyA W Γ t [tupOf K (ns.map fun s => rep K (.str s)), tupOf K (xs.map F)]) (hk : TyA W Γ tk [isV (.bl true)]) (hnd : ns.Nodup) (h1 : ns.length = n + 1) (h2 : xs.length = n + 1) (hn : n ≤ 999) :
    TyE W Γ (tDZ K t tk) (dctP ((ns.zip xs).map fun p => (p.1, F p.2))) := fun σ H Q j e q =>
  ha σ H _ j e fun vs H1 j1 s1 p1 => hk σ H1 _ j1 (e.mono s1) fun zs H2 j2 s2 p2 => by
    obtain ⟨u, v, rfl, pu, pv⟩ := p1.two
    obtain ⟨z, rfl, ez⟩ := p2.one
    have ez' : z = .bl true := ez
    subst ez'
    obtain ⟨a, us, rfl, ha1, pa⟩ := Pd.mono _ s2 pu
    obtain ⟨b, ys, rfl, hb1, pb⟩ := Pd.mono _ s2 pv
    have eu := strs_of pa
    subst eu
    have ly : ys.length = n + 1 := by rw [← pb.len, List.length_map, h2]
    refine ⟨a, b, ns.map fun s => (Sum.inr s : Key), ys, n, rfl, rfl, by rw [keys_strs]; exact sq_t ha1, sq_t hb1, by rw [List.length_map, h1], ly, hn, fun p hp => ?_⟩
    have hlz : (ns.map fun s => (Sum.inr s : Key)).length = ys.length := by rw [List.length_map, h1, ly]
    have hm : mergeK [] ((ns.map fun s => (Sum.inr s : Key)).zip ys) = (ns.map fun s => (Sum.inr s : Key)).zip ys := merge_nil (by
      rw [zip_fst hlz]
      exact List.Pairwise.map _ (fun a b h z => h (Sum.inr.inj z)) hnd)
    rw [hm]
    obtain ⟨j3, s3, e3⟩ := W.alloc j2 hp (.dK ((ns.map fun s => (Sum.inr s : Key)).zip ys))
    refine q _ _ j3 ((s1.trans s2).trans s3) ⟨p, _, rfl, e3, ?_, ?_⟩
    · rw [zip_fst hlz, List.map_map]
      have e4 : (ns.zip xs).map (·.1) = ns := zip_fst (by rw [h1, h2])
      conv => lhs; rw [← e4]
      rw [List.map_map] <;> rfl
    · rw [zip_snd hlz, List.map_map]
      have e4 : (ns.zip xs).map (·.2) = xs := zip_snd (by rw [h1, h2])
      have pb2 := pb.mono s3
      rw [← e4, List.map_map] at pb2
      exact pb2
end
end Tk
namespace Tk
open PySem PySem.Spec PyProof.Rows L2
/-! ### the class -/
structure To (K : PySem.W.Frag) (C : Addr) : Prop where
  cl : Cls K C
  na1 : NoAttr K C "own_scheme"
  na2 : NoAttr K C "own_atoms"
  na3 : NoAttr K C "flat_rows"
  na4 : NoAttr K C "last_goal"
  na5 : NoAttr K C "known_rows"
structure MethOk (P : Program) (w : World) (K : PySem.W.Frag) (mg : Str → Option Value) (base : Heap) (k : Nat) (C : Addr) (m : Str) (ps : List Str) (sp : Sp) : Prop where
  ex : ∃ f fd, FnOk P w K mg base CX0 k f fd ps sp ∧ Meth K C m f ∧ Binds K fd ps []
structure MakeOk (P : Program) (w : World) (K : PySem.W.Frag) (mg : Str → Option Value) (base : Heap) (k : Nat) (C : Addr) (ps : List Str) (sp : Sp) : Prop where
  ex : ∃ f fd, FnOk P w K mg base CX0 k f fd ps sp ∧ Mk K C f ∧ mg "FlatFinding" = some (.ref C) ∧ Binds K fd ps []
theorem fn_okS {P : Program} {w : World} {K : PySem.W.Frag} {mg : Str → Option Value} {base : Heap} {x qual : Str} {st : Stmt} {f : Addr} {fd : FuncData} {N ps : List Str} {k : Nat} {sp : Sp} (F : FnP K x qual st f fd) (S : FnScope N ps (defScope st)) (hl : ∀ vs H Q E, sp vs H Q E → vs.length = ps.length)
    (hb : ∀ (cdv : Value) (A : Around) (outer : List Env) (s : Shared) (H : Hp) (E : XK), Room k (A.deeper (envOfC qual (defScope st) s.heap.objs.size f cdv)) →
      ∃ t, PSs (cxF P w K mg base N qual st f cdv A outer s H E) (defBody st) t ∧ ∀ (vs : List V) (H : Hp) (Q : VK) (E : XK), sp vs H Q E → t { nx := fun _ H' => Q .non H', rt := Q } (start N vs) H) :
    FnOk P w K mg base CX0 (k + 1) f fd ps sp :=
  F.ok S hl fun cdv A outer s H vs Q E hr h => by
    obtain ⟨t, d, r⟩ := hb cdv A outer s H E hr
    exact ⟨t, d.nox, r vs H Q E h⟩
/-! ### an instance that is read -/
abbrev mnames : List Str := ["opened", "row_of", "sureness", "open_row", "looked", "world_so", "found"]
/-- the instance that stands for what P says has these fields -/
def SelfRd (C : Addr) (W : Wd) (P : Pd) (fps : List (Str × Pd)) : Prop := ∀ v H, W.J H → P.h v (W.v H) → ∃ a dx fs, v = .ref a ∧ H a = some (.ins C dx fs) ∧ (∀ m ∈ mnames, fs.lookup m = none) ∧ ∀ f Q, (f, Q) ∈ fps → ∃ u, fs.lookup f = some u ∧ Q.h u (W.v H)
section
variable {K : PySem.W.Frag} {C : Addr} {W : Wd} {Γ Γ' : Ctx} {te ta : TE} {tA : TA} {P P1 P2 : Pd} {Ps Qs : List Pd} {fps : List (Str × Pd)} {f : Str} {B : Hp}
theorem TyE.fld (cl : Cls K C) (na : NoAttr K C f) (rd : SelfRd C W P1 fps) (h : TyE W Γ te P1) (hf : (f, P) ∈ fps) : TyE W Γ (tFld K te f) P := fun σ H Q j e q =>
  h σ H _ j e fun v H1 j1 s1 p1 => by
    obtain ⟨a, dx, fs, ev, ea, _, hfs⟩ := rd v H1 j1 p1
    obtain ⟨u, hu, pu⟩ := hfs f P hf
    exact ⟨a, C, dx, fs, u, ev, ea, cl, na, hu, q u H1 j1 s1 pu⟩
theorem TyE.meth {m : Str} {sp : Sp} {E : XK} (hm : m ∈ mnames) (rd : SelfRd C W P1 fps) (h : TyE W Γ te P1) (hA : TyA W Γ tA Ps) (hr : RAT W (fun xs H Q => sp xs H Q E) (P1 :: Ps) P) : TyE W Γ (tMeth C m sp [] E te tA) P := fun σ H Q j e q =>
  h σ H _ j e fun v H1 j1 s1 p1 => by
    obtain ⟨a, dx, fs, ev, ea, hn, _⟩ := rd v H1 j1 p1
    refine ⟨a, dx, fs, ev, ea, hn m hm, hA σ H1 _ j1 (e.mono s1) fun xs H2 j2 s2 p2 => ?_⟩
    show sp (v :: (xs ++ [])) H2 Q E
    rw [List.append_nil]
    exact hr (v :: xs) H2 Q j2 (.cons (P1.mono s2 p1) p2) fun u H3 j3 s3 p3 => q u H3 j3 ((s1.trans s2).trans s3) p3
/-- a method with a promise -/
theorem TyE.mfn {δ : Type} {pre : δ → List Pd} {post : δ → Pd} {ok : δ → Wd → Prop} {m : Str} {E : XK} (x : δ) (hx : ok x W) (hm : m ∈ mnames) (rd : SelfRd C W P1 fps) (h : TyE W Γ te P1) (hA : TyA W Γ tA Ps) (hp : pre x = P1 :: Ps) : TyE W Γ (tMeth C m (SpF pre post ok) [] E te tA) (post x) :=
  TyE.meth hm rd h hA fun xs H Q j p q => ⟨W, x, hx, j, by rw [hp]; exact p, q⟩
theorem SelfRd.ownL {a : Addr} {p : Addr} (rd : SelfRd C W (isV (.ref a)) fps) : SelfRd C (W.ownL K p Ps) (isV (.ref a)) fps := fun v H j hv => by
  obtain ⟨j1, _⟩ := j
  obtain ⟨b, dx, fs, ev, eb, hn, hf⟩ := rd v (hide p H) j1 hv
  refine ⟨b, dx, fs, ev, hide_le b _ eb, hn, fun f Q hq => ?_⟩
  rw [ownL_v]
  exact hf f Q hq
/-! the instance while it is made -/
def insIs (C : Addr) (fps : List (Str × Pd)) : HO → Hp → Prop := fun o H => ∃ dx fs, o = .ins C dx fs ∧ fs.map (·.1) = fps.map (·.1) ∧ PdAll (fps.map (·.2)) (fs.map (·.2)) H
theorem insIs_mono {o : HO} {H H' : Hp} (e : Same H H') (h : insIs C fps o H) : insIs C fps o H' := let ⟨dx, fs, a, b, c⟩ := h; ⟨dx, fs, a, b, c.mono e⟩
def Wd.ownI (W : Wd) (a : Addr) (C : Addr) (fps : List (Str × Pd)) : Wd := W.own a (insIs C fps) insIs_mono
theorem ownI_v {a : Addr} {H : Hp} : (W.ownI a C fps).v H = W.v (hide a H) := vw_cons
theorem fs_look {f : Str} {H : Hp} : ∀ {fps : List (Str × Pd)} {fs : List (Str × V)}, fs.map (·.1) = fps.map (·.1) → PdAll (fps.map (·.2)) (fs.map (·.2)) H → (fps.map (·.1)).Nodup → ∀ Q, (f, Q) ∈ fps → ∃ u, fs.lookup f = some u ∧ Q.h u H
  | [], _, _, _, _, Q, h => by cases h
  | _ :: _, [], e, _, _, _, _ => by simp at e
  | p :: fps, q :: fs, e, h, hn, Q, hm => by
    rw [List.map_cons, List.map_cons] at e
    injection e with e1 e2
    rw [List.map_cons, List.map_cons] at h
    obtain ⟨x, r, e3, h1, h2⟩ := PdAll.uncons h
    injection e3 with e4 e5
    subst e4 e5
    rw [List.map_cons] at hn
    obtain ⟨n1, n2⟩ := List.nodup_cons.mp hn
    obtain ⟨q1, q2⟩ := q
    have e1' : q1 = p.1 := e1
    rcases List.mem_cons.mp hm with eq | hm
    · rw [← eq] at e1' h1
      refine ⟨q2, ?_, h1⟩
      rw [e1', List.lookup_cons, beq_self_eq_true]
    · have hne : f ≠ q1 := fun z => n1 (by rw [← e1', ← z]; exact List.mem_map_of_mem (f := (·.1)) hm)
      obtain ⟨u, hu, pu⟩ := fs_look e2 h2 n2 Q hm
      exact ⟨u, by rw [List.lookup_cons, beq_eq_false_iff_ne.mpr hne]; exact hu, pu⟩
theorem fs_none {f : Str} : ∀ {fs : List (Str × V)}, f ∉ fs.map (·.1) → fs.lookup f = none
  | [], _ => rfl
  | (a, b) :: fs, h => by
    have hne : f ≠ a := fun z => h (by rw [z]; exact List.mem_cons_self)
    rw [List.lookup_cons, beq_eq_false_iff_ne.mpr hne]
    exact fs_none fun z => h (List.mem_cons_of_mem _ z)
theorem putF_new {f : Str} {v : V} : ∀ {fs : List (Str × V)}, f ∉ fs.map (·.1) → putF f v fs = fs ++ [(f, v)]
  | [], _ => rfl
  | (a, b) :: fs, h => by
    have hne : ¬ a = f := fun z => h (by rw [← z]; exact List.mem_cons_self)
    unfold putF
    rw [if_neg hne, putF_new fun z => h (List.mem_cons_of_mem _ z)] <;> rfl
theorem SelfRd.ownI {a : Addr} (hn : (fps.map (·.1)).Nodup) (hm : ∀ m ∈ mnames, m ∉ fps.map (·.1)) : SelfRd C (W.ownI a C fps) (isV (.ref a)) fps := fun v H j hv => by
  obtain ⟨_, o, eo, dx, fs, e1, e2, e3⟩ := j
  subst e1
  refine ⟨a, dx, fs, hv, eo, fun m hmm => fs_none (by rw [e2]; exact hm m hmm), fun f Q hq => ?_⟩
  rw [show (W.ownI a C fps).v H = vw (a :: W.A) H from rfl]
  exact fs_look e2 e3 hn Q hq
/-- a new field -/
theorem Nx.fldNew {D : Ends} {us : TS} {a : Addr} {tv : TE} (cl : Cls K C) (na : NoAttr K C f) (hf : f ∉ fps.map (·.1)) (hl : fps.length ≤ 100) (hv : TyE (W.ownI a C fps) Γ tv P) (ho : TyE (W.ownI a C fps) Γ ta (isV (.ref a))) (h : Nx (W.ownI a C (fps ++ [(f, P)])) B Γ (us D)) :
    Nx (W.ownI a C fps) B Γ (tSeq (sFld K ta tv f) us D) := fun σ H j b e =>
  hv σ H _ j e fun y H1 j1 s1 p1 => ho σ H1 _ j1 (e.mono s1) fun x H2 j2 s2 p2 => by
    have ex : x = .ref a := p2
    subst ex
    obtain ⟨j3, o, eo, dx, fs, e1, e2, e3⟩ := id j2
    subst e1
    have hfs : f ∉ fs.map (·.1) := by rw [e2]; exact hf
    have hlen : fs.length = fps.length := by
      have := congrArg List.length e2
      simpa using this
    refine ⟨a, C, dx, fs, rfl, eo, cl, na, by omega, ?_⟩
    rw [putF_new hfs]
    have ev : (W.ownI a C (fps ++ [(f, P)])).v (upd H2 a (.ins C dx (fs ++ [(f, y)]))) = (W.ownI a C fps).v H2 := by rw [ownI_v, ownI_v, hide_upd]
    refine h σ _ ⟨by rw [hide_upd]; exact j3, _, upd_same, dx, _, rfl, by rw [List.map_append, List.map_append, e2] <;> rfl, ?_⟩ ?_ ?_
    · show PdAll _ _ ((W.ownI a C (fps ++ [(f, P)])).v _)
      rw [ev, List.map_append, List.map_append]
      exact e3.append (.cons (P.mono s2 p1) .nil)
    · rw [ev]; exact (b.trans s1).trans s2
    · rw [ev]; exact (e.mono s1).mono s2
end
/-! ### the finding as data -/
structure Fd where
  S : Sch
  as : List (List Str)
  rows : List (List Ch × Bd)
  goal : List Ch × Bd
  d : Addr
def rowP (K : PySem.W.Frag) (r : List Ch × Bd) : Pd := tupOf K [lstN (r.1.map (dctS K)), rep K r.2.enc]
def Fd.fps (K : PySem.W.Frag) (x : Fd) : List (Str × Pd) := [("own_scheme", schP K x.S), ("own_atoms", rep K (atomsD x.as)), ("flat_rows", lstOf K (x.rows.map (rowP K))), ("last_goal", rowP K x.goal), ("known_rows", isV (.ref x.d))]
def selfP (K : PySem.W.Frag) (C : Addr) (x : Fd) : Pd := ⟨fun v H => ∃ a o, v = .ref a ∧ H a = some o ∧ insIs C (x.fps K) o H, fun e ⟨a, o, h1, h2, h3⟩ => ⟨a, o, h1, e _ _ h2, insIs_mono e h3⟩⟩
section
variable {K : PySem.W.Frag} {C : Addr} {W : Wd} {Γ Γ' : Ctx} {te ta td ty tv : TE} {tA : TA} {P : Pd} {Ps Qs : List Pd} {B : Hp} {x : Fd}
theorem fps_names : (x.fps K).map (·.1) = (["own_scheme", "own_atoms", "flat_rows", "last_goal", "known_rows"] : List Str) := rfl
theorem fps_nd : ((x.fps K).map (·.1)).Nodup := by
  rw [fps_names]
  decide +kernel
theorem fps_mn : ∀ m ∈ mnames, m ∉ (x.fps K).map (·.1) := by
  rw [fps_names]
  decide +kernel
theorem selfRd : SelfRd C W (selfP K C x) (x.fps K) := fun v H j hv => by
  obtain ⟨a, o, ev, eo, dx, fs, e1, e2, e3⟩ := hv
  subst e1
  exact ⟨a, dx, fs, ev, (vw_some eo).2, fun m hm => fs_none (by rw [e2]; exact fps_mn m hm), fun f Q hq => fs_look e2 e3 fps_nd Q hq⟩
theorem TyE.fS (O : To K C) (h : TyE W Γ te (selfP K C x)) : TyE W Γ (tFld K te "own_scheme") (schP K x.S) := TyE.fld O.cl O.na1 selfRd h (.head _)
theorem TyE.fA (O : To K C) (h : TyE W Γ te (selfP K C x)) : TyE W Γ (tFld K te "own_atoms") (rep K (atomsD x.as)) := TyE.fld O.cl O.na2 selfRd h (.tail _ (.head _))
theorem TyE.fR (O : To K C) (h : TyE W Γ te (selfP K C x)) : TyE W Γ (tFld K te "flat_rows") (lstOf K (x.rows.map (rowP K))) := TyE.fld O.cl O.na3 selfRd h (.tail _ (.tail _ (.head _)))
theorem TyE.fG (O : To K C) (h : TyE W Γ te (selfP K C x)) : TyE W Γ (tFld K te "last_goal") (rowP K x.goal) := TyE.fld O.cl O.na4 selfRd h (.tail _ (.tail _ (.tail _ (.head _))))
theorem TyE.fK (O : To K C) (h : TyE W Γ te (selfP K C x)) : TyE W Γ (tFld K te "known_rows") (isV (.ref x.d)) := TyE.fld O.cl O.na5 selfRd h (.tail _ (.tail _ (.tail _ (.tail _ (.head _)))))
end
end Tk
namespace Tk
open PySem PySem.Spec PyProof.Rows L2
/-! ### the held dict -/
abbrev KV2 := List (Ky × Bool)
def kdW (K : PySem.W.Frag) (pr : Program) (wo : World) (d : Addr) (κ : KV2) : HO → Hp → Prop := fun o H => ∃ xs, kvals xs = κ ∧ KDI K pr wo d xs o H
theorem kdW_mono {K : PySem.W.Frag} {pr : Program} {wo : World} {d : Addr} {κ : KV2} {o : HO} {H H' : Hp} (e : Same H H') (h : kdW K pr wo d κ o H) : kdW K pr wo d κ o H' := let ⟨xs, a, b⟩ := h; ⟨xs, a, b.mono e⟩
def Wd.ownK (K : PySem.W.Frag) (pr : Program) (wo : World) (W : Wd) (d : Addr) (κ : KV2) : Wd := W.own d (kdW K pr wo d κ) kdW_mono
def getD2 (κ : KV2) (k : Ky) : PyData := match κ.lookup k with
  | none => .none
  | some b => .bool b
def putL (κ : KV2) (k : Ky) (v : Bool) : KV2 := if (κ.lookup k).isSome then κ.map (fun p => if p.1 = k then (p.1, v) else p) else κ ++ [(k, v)]
def dropL (κ : KV2) (k : Ky) : KV2 := κ.filter fun p => decide (p.1 ≠ k)
theorem kvals_put {xs : KX} {k : Ky} {b : Addr} {v : Bool} : kvals (putX xs k b v) = putL (kvals xs) k v := by
  unfold putX putL
  split
  · unfold kvals
    rw [List.map_map, List.map_map]
    refine List.map_congr_left fun x _ => ?_
    show ((if x.1 = k then (x.1, x.2.1, v) else x).1, (if x.1 = k then (x.1, x.2.1, v) else x).2.2) = if x.1 = k then (x.1, v) else (x.1, x.2.2)
    split <;> rfl
  · unfold kvals
    rw [List.map_append] <;> rfl
theorem kvals_drop {xs : KX} {k : Ky} : kvals (dropX xs k) = dropL (kvals xs) k := by
  unfold dropX dropL kvals
  rw [List.filter_map] <;> rfl
section
variable {K : PySem.W.Frag} {pr : Program} {wo : World} {C : Addr} {W : Wd} {Γ Γ' : Ctx} {te ta td ty tv : TE} {tA : TA} {P : Pd} {Ps Qs : List Pd} {B : Hp} {x : Fd} {d : Addr} {κ : KV2} {k : Ky}
theorem ownK_v {H : Hp} : (W.ownK K pr wo d κ).v H = W.v (hide d H) := vw_cons
theorem ownK_at {H : Hp} (j : (W.ownK K pr wo d κ).J H) : ∃ o xs, H d = some o ∧ kvals xs = κ ∧ KDI K pr wo d xs o H := by
  obtain ⟨_, o, eo, xs, e1, e2⟩ := j
  exact ⟨o, xs, eo, e1, e2.mono vw_le⟩
theorem getKV_rep {H : Hp} : (rep K (getD2 κ k)).h (getKV κ k) H := by
  unfold getD2 getKV
  cases κ.lookup k with
  | none => exact .non
  | some b => exact .bl b
theorem TyE.kget (hd : TyE (W.ownK K pr wo d κ) Γ td (isV (.ref d))) (hy : TyE (W.ownK K pr wo d κ) Γ ty (rep K (kyD k))) : TyE (W.ownK K pr wo d κ) Γ (tKGet K pr wo td ty) (rep K (getD2 κ k)) := fun σ H Q j e q =>
  hd σ H _ j e fun v H1 j1 s1 p1 => by
    have ev : v = .ref d := p1
    subst ev
    obtain ⟨o, xs, eo, ek, kd⟩ := ownK_at j1
    refine ⟨d, o, xs, rfl, eo, kd, hy σ H1 _ j1 (e.mono s1) fun y H2 j2 s2 p2 => ?_⟩
    obtain ⟨o2, xs2, eo2, ek2, kd2⟩ := ownK_at j2
    refine ⟨o2, xs2, k, eo2, kd2, dp_up p2, ?_⟩
    rw [ek2]
    exact q _ H2 j2 (s1.trans s2) getKV_rep
/-- a key, or None -/
def keyO (o : Option Ky) : PyData := match o with
  | none => .none
  | some k => kyD k
def inO (κ : KV2) (o : Option Ky) : Bool := match o with
  | none => false
  | some k => (κ.lookup k).isSome
theorem r_kin {o : Option Ky} : R2T (W.ownK K pr wo d κ) (rKInO K pr wo) (rep K (keyO o)) (isV (.ref d)) (rep K (.bool (inO κ o))) := fun x y H Q j p1 p2 q => by
  have ey : y = .ref d := p2
  subst ey
  obtain ⟨ob, xs, eo, ek, kd⟩ := ownK_at j
  refine ⟨d, ob, xs, rfl, eo, kd, ?_⟩
  cases o with
  | none => exact .inl ⟨dp_non p1, q _ H j (Same.refl _) (.bl false)⟩
  | some k =>
    refine .inr ⟨k, dp_up p1, ?_⟩
    rw [ek]
    exact q _ H j (Same.refl _) (.bl _)
theorem ownK_put {H : Hp} {xs ys : KX} {o : HO} {b : Obj} {κ2 : KV2} (j : (W.ownK K pr wo d κ).J H) (ey : kvals ys = κ2) (kd : KDI K pr wo d xs o H) (dat : KDat pr wo b ys) (hk : ∀ y ∈ ys, Dp K ((W.ownK K pr wo d κ).v H) (.ref y.2.1) (kyD y.1)) (few : ys.length ≤ 1000) :
    (W.ownK K pr wo d κ2).J (upd H d (knC d b)) ∧ (W.ownK K pr wo d κ2).v (upd H d (knC d b)) = (W.ownK K pr wo d κ).v H := by
  have ev : (W.ownK K pr wo d κ2).v (upd H d (knC d b)) = (W.ownK K pr wo d κ).v H := by rw [ownK_v, ownK_v, hide_upd]
  obtain ⟨j1, _⟩ := j
  refine ⟨⟨by rw [hide_upd]; exact j1, _, upd_same, ys, ey, kd.sys, ⟨b, rfl, dat⟩, fun y hy => ?_, few⟩, ev⟩
  show Dp K ((W.ownK K pr wo d κ2).v (upd H d (knC d b))) _ _
  rw [ev]
  exact hk y hy
theorem own_ks {H : Hp} (j : (W.ownK K pr wo d κ).J H) : ∃ o xs, H d = some o ∧ kvals xs = κ ∧ KDI K pr wo d xs o H ∧ ∀ y ∈ xs, Dp K ((W.ownK K pr wo d κ).v H) (.ref y.2.1) (kyD y.1) := by
  obtain ⟨_, o, eo, xs, e1, e2⟩ := j
  exact ⟨o, xs, eo, e1, e2.mono vw_le, e2.ks⟩
theorem Nx.kput {D : Ends} {us : TS} {b : Bool} (hv : TyE (W.ownK K pr wo d κ) Γ tv (rep K (.bool b))) (hd : TyE (W.ownK K pr wo d κ) Γ td (isV (.ref d))) (hy : TyE (W.ownK K pr wo d κ) Γ ty (rep K (kyD k))) (hl : κ.length < 1000) (h : Nx (W.ownK K pr wo d (putL κ k b)) B Γ (us D)) :
    Nx (W.ownK K pr wo d κ) B Γ (tSeq (sKPut K pr wo td ty tv) us D) := fun σ H j bb e =>
  hv σ H _ j e fun v H1 j1 s1 p1 => hd σ H1 _ j1 (e.mono s1) fun u H2 j2 s2 p2 => hy σ H2 _ j2 (e.mono (s1.trans s2)) fun y H3 j3 s3 p3 => by
    have eu : u = .ref d := p2
    subst eu
    obtain ⟨o, xs, eo, ek, kd, ks⟩ := own_ks j3
    have hxl : xs.length < 1000 := by
      have := congrArg List.length ek
      unfold kvals at this
      rw [List.length_map] at this
      omega
    refine ⟨d, o, xs, k, b, rfl, eo, kd, hxl, dp_up p3, dp_bl p1, fun ob c ec dat => ?_⟩
    subst ec
    obtain ⟨j4, ev⟩ := ownK_put (κ2 := putL κ k b) j3 (by rw [kvals_put, ek]) kd dat (fun y hy => by
      rcases mem_putX hy with ⟨z, hz, e1, e2⟩ | e1
      · rw [e1, e2]; exact ks z hz
      · rw [e1]; exact p3) (Nat.le_trans putX_len (by omega))
    refine h σ _ j4 ?_ ?_
    · rw [ev]; exact ((bb.trans s1).trans s2).trans s3
    · rw [ev]; exact e.mono ((s1.trans s2).trans s3)
theorem Nx.kpop {D : Ends} {us : TS} {b : Bool} (hd : TyE (W.ownK K pr wo d κ) Γ td (isV (.ref d))) (hy : TyE (W.ownK K pr wo d κ) Γ ty (rep K (kyD k))) (hk : κ.lookup k = some b) (h : Nx (W.ownK K pr wo d (dropL κ k)) B Γ (us D)) :
    Nx (W.ownK K pr wo d κ) B Γ (tSeq (tDrop (tKPop K pr wo td ty)) us D) := fun σ H j bb e =>
  hd σ H _ j e fun u H1 j1 s1 p1 => by
    have eu : u = .ref d := p1
    subst eu
    obtain ⟨o, xs, eo, ek, kd⟩ := ownK_at j1
    refine ⟨d, o, xs, rfl, eo, kd, hy σ H1 _ j1 (e.mono s1) fun y H2 j2 s2 p2 => ?_⟩
    obtain ⟨o2, xs2, eo2, ek2, kd2, ks2⟩ := own_ks j2
    refine ⟨o2, xs2, k, b, eo2, kd2, dp_up p2, by rw [ek2]; exact hk, fun ob dat => ?_⟩
    obtain ⟨j3, ev⟩ := ownK_put (κ2 := dropL κ k) j2 (by rw [kvals_drop, ek2]) kd2 dat (fun y hy => ks2 y (List.mem_filter.mp hy).1) (Nat.le_trans (List.length_filter_le _ _) kd2.few)
    refine h σ _ j3 ?_ ?_
    · rw [ev]; exact (bb.trans s1).trans s2
    · rw [ev]; exact e.mono (s1.trans s2)
/-! the dict given back -/
def kvP (K : PySem.W.Frag) (pr : Program) (wo : World) (d : Addr) (κ : KV2) : Pd := ⟨fun v H => v = .ref d ∧ ∃ o, H d = some o ∧ kdW K pr wo d κ o H, fun e ⟨h1, o, h2, h3⟩ => ⟨h1, o, e _ _ h2, kdW_mono e h3⟩⟩
theorem ownK_free {H : Hp} (j : (W.ownK K pr wo d κ).J H) (hd : d ∉ W.A) : W.J H ∧ Same ((W.ownK K pr wo d κ).v H) (W.v H) ∧ (kvP K pr wo d κ).h (.ref d) (W.v H) := by
  obtain ⟨j1, o, eo, f⟩ := j
  have s : Same (W.v (hide d H)) (W.v H) := fun a u q => by
    obtain ⟨h1, h2⟩ := vw_some q
    show vw W.A H a = _
    rw [vw_out h1]
    exact hide_le a u h2
  have s' : Same ((W.ownK K pr wo d κ).v H) (W.v H) := by rw [ownK_v]; exact s
  refine ⟨W.st j1 (fun a ha => (hide_ne (p := d) (a := a) (H := H) fun (q : a = d) => hd (by rw [← q]; exact ha)).symm) s, s', rfl, o, ?_, kdW_mono s' f⟩
  show vw W.A H d = _
  rw [vw_out hd]; exact eo
end
end Tk
namespace Tk
open PySem PySem.Spec PyProof.Rows L2
section
variable {X : Cx} (K : PySem.W.Frag) (pr : Program) (wo : World) {td ty tv : TE} {oe e i value e1 e2 e3 : Expr} {apos cpos pos pos' tpos p1 p2 q1 q2 kp : Pos} {t tk : TA} {elts : List Expr} {kk : Nat}
theorem k_kget (hu : X.A.units + 64 < cLine) (ho : PE X oe td) (he : PE X e ty) (m : M1 X oe "get" apos e cpos) (h : X.K = K := by rfl) (hp : X.prog = pr := by rfl) (hw : X.w = wo := by rfl) : PE X (.Call (.Attribute oe "get" apos) [e] [] cpos) (tKGet K pr wo td ty) := by
  subst h hp hw
  exact pe_kget hu ho he m
theorem k_kpop (hu : X.A.units + 64 < cLine) (ho : PE X oe td) (he : PE X e ty) (m : M1 X oe "pop" apos e cpos) (h : X.K = K := by rfl) (hp : X.prog = pr := by rfl) (hw : X.w = wo := by rfl) : PE X (.Call (.Attribute oe "pop" apos) [e] [] cpos) (tKPop K pr wo td ty) := by
  subst h hp hw
  exact pe_kpop hu ho he m
theorem k_kin (hu : X.A.units + 64 < cLine) (h : X.K = K := by rfl) (hp : X.prog = pr := by rfl) (hw : X.w = wo := by rfl) : OpR X (compareOp .In) (rKInO K pr wo) := by
  subst h hp hw
  exact op_kinO hu
theorem k_kput (hu : X.A.units + 64 < cLine) (ho : PE X oe td) (hi : PE X i ty) (hv : PE X value tv) (hs : swapsWith value (some (.Subscript oe i pos')) pos.line X.env = pure false) (h : X.K = K := by rfl) (hp : X.prog = pr := by rfl) (hw : X.w = wo := by rfl) :
    PS X (.Assign [.Subscript oe i pos'] value pos) (sKPut K pr wo td ty tv) := by
  subst h hp hw
  exact ps_kput hu ho hi hv hs
theorem k_knew (hp : X.prog = pr := by rfl) (hw : X.w = wo := by rfl) : PE X (.Dict [] [] pos) (tKNew pr wo) := by
  subst hp hw
  exact pe_knew
theorem k_kitems (he : PE X e td) (h : X.K = K := by rfl) (hp : X.prog = pr := by rfl) (hw : X.w = wo := by rfl) (hbase : attributeBase e "items" X.env (eval e X.env) = eval e X.env := by rfl) (hline : (apos.endLine == cpos.line) = true := by rfl) :
    PI X (.Tuple elts kk tpos) (.Call (.Attribute e "items" apos) [] [] cpos) (iKItems K pr wo td) := by
  subst h hp hw
  exact pi_kitems he hbase hline
theorem k_sortK (hu : X.A.units + 64 < cLine) (h : X.K = K := by rfl) : CallR X (.builtin "sorted") (rSortK K) := by
  subst h
  exact cr_sortK hu
theorem k_dictZ (hg1 : Gl X "dict") (hm1 : X.mg "dict" = none) (hb1 : bootBuiltins "dict" = some (.type "dict")) (hg2 : Gl X "zip") (hm2 : X.mg "zip" = none) (ha : PA X [e1, e2] t) (hk : PK X [⟨some "strict", e3, kp⟩] tk) (hc : X.calm = true := by rfl) (h : X.K = K := by rfl)
    (he : backTo q2 (starEach [e1, e2] X.env) = (false, eval e1 X.env) :: backTo q2 (starEach [e2] X.env) := by rfl) (hpl : (backTo q2 (starEach [e1, e2] X.env)).any (·.1) = false := by rfl)
    (hall : (backToKw q2 (keywordEach [⟨some "strict", e3, kp⟩] X.env)).all (·.1.isSome) = true := by rfl) (hnone : (backToKw q2 (keywordEach [⟨some "strict", e3, kp⟩] X.env)).any (·.1.isNone) = false := by rfl) (hks : (backToKw q2 (keywordEach [⟨some "strict", e3, kp⟩] X.env)).filterMap (·.1) = [Str.ofString "strict"] := by rfl)
    (na : starEach [.Call (.Name "zip" p2) [e1, e2] [⟨some "strict", e3, kp⟩] q2] X.env = (false, eval (.Call (.Name "zip" p2) [e1, e2] [⟨some "strict", e3, kp⟩] q2) X.env) :: starEach [] X.env := by rfl) :
    PE X (.Call (.Name "dict" p1) [.Call (.Name "zip" p2) [e1, e2] [⟨some "strict", e3, kp⟩] q2] [] q1) (tDZ K t tk) := by
  subst h
  exact pe_dictZip hc hg1 hm1 hb1 hg2 hm2 ha hk he hpl hall hnone hks na
end
/-! ### worlds where the dict is known -/
def KdKn (K : PySem.W.Frag) (pr : Program) (wo : World) (W : Wd) (d : Addr) (κ : KV2) : Prop := ∀ H, W.J H → ∃ o xs, H d = some o ∧ kvals xs = κ ∧ KDI K pr wo d xs o H
section
variable {K : PySem.W.Frag} {pr : Program} {wo : World} {C : Addr} {W : Wd} {Γ Γ' : Ctx} {te ta td ty tv : TE} {tA : TA} {P : Pd} {Ps Qs : List Pd} {B : Hp} {x : Fd} {d : Addr} {κ : KV2} {k : Ky}
theorem KdKn.ownK : KdKn K pr wo (W.ownK K pr wo d κ) d κ := fun H j => ownK_at j
theorem KdKn.ownL {p : Addr} (kn : KdKn K pr wo W d κ) : KdKn K pr wo (W.ownL K p Ps) d κ := fun H j => by
  obtain ⟨o, xs, e1, e2, e3⟩ := kn (hide p H) j.1
  exact ⟨o, xs, hide_le d _ e1, e2, e3.mono hide_le⟩
theorem TyE.kgetW (kn : KdKn K pr wo W d κ) (hd : TyE W Γ td (isV (.ref d))) (hy : TyE W Γ ty (rep K (kyD k))) : TyE W Γ (tKGet K pr wo td ty) (rep K (getD2 κ k)) := fun σ H Q j e q =>
  hd σ H _ j e fun v H1 j1 s1 p1 => by
    have ev : v = .ref d := p1
    subst ev
    obtain ⟨o, xs, eo, ek, kd⟩ := kn H1 j1
    refine ⟨d, o, xs, rfl, eo, kd, hy σ H1 _ j1 (e.mono s1) fun y H2 j2 s2 p2 => ?_⟩
    obtain ⟨o2, xs2, eo2, ek2, kd2⟩ := kn H2 j2
    refine ⟨o2, xs2, k, eo2, kd2, dp_up p2, ?_⟩
    rw [ek2]
    exact q _ H2 j2 (s1.trans s2) getKV_rep
theorem r_kinW {o : Option Ky} (kn : KdKn K pr wo W d κ) : R2T W (rKInO K pr wo) (rep K (keyO o)) (isV (.ref d)) (rep K (.bool (inO κ o))) := fun x y H Q j p1 p2 q => by
  have ey : y = .ref d := p2
  subst ey
  obtain ⟨ob, xs, eo, ek, kd⟩ := kn H j
  refine ⟨d, ob, xs, rfl, eo, kd, ?_⟩
  cases o with
  | none => exact .inl ⟨dp_non p1, q _ H j (Same.refl _) (.bl false)⟩
  | some k =>
    refine .inr ⟨k, dp_up p1, ?_⟩
    rw [ek]
    exact q _ H j (Same.refl _) (.bl _)
theorem TyI.enumL {α : Type} (xs : List α) (F : α → Pd) (h : TyA W Γ tA [lstOf K (xs.map F)]) : TyI W Γ (iEnum K tA) ((List.range xs.length).map fun i => tupOf K [rep K (.int (i : Nat)), ((xs.map F)[i]?).getD anyP]) := fun σ H R j e r =>
  h σ H _ j e fun vs H1 j1 s1 p => by
    obtain ⟨u, rfl, a, us, rfl, h1, p1⟩ := p.one
    have l1 : xs.length = us.length := by rw [← p1.len, List.length_map]
    refine ⟨a, us, rfl, sq_l h1, r _ H1 j1 s1 (wk_pair (fun W' H' i j' b' hi => ?_) (fun W' H' j' b' => ?_) fun W' H' i v H2 j' b' hi hy => ?_)⟩
    · exact ⟨us, _, sq_l (b'.seq h1), List.getElem?_eq_getElem (by omega)⟩
    · exact ⟨us, sq_l (b'.seq h1), by omega⟩
    · obtain ⟨T, y, e1, hT, e2, f1⟩ := hy
      have q1 := f1 us (sq_l (b'.seq h1))
      refine ⟨T, _, y, e1, hT, e2, .int _, Pd.mono _ b' (p1.at_ i _ y ?_ q1)⟩
      rw [List.getElem?_eq_getElem (by rw [List.length_map]; exact hi)]; rfl
end
end Tk
namespace Tk
open PySem PySem.Spec PyProof.Rows L2
/-! ### what is known, in plain words -/
def vl (c : Ch) (v : Str) : Str := (c.lookup v).getD v
def rowK (c : Ch) (a : Str) (b : Option Str) (t : Str) : Ky := (t, (a :: b.toList).map (vl c))
def sure (κ : KV2) (c : Ch) : Bd → Nat
  | .tie a b t => match κ.lookup (rowK c a b t) with
    | none => 1
    | some true => 2
    | some false => 0
  | .same a b _ => if vl c a = vl c b then 2 else 0
  | .neg f => 2 - sure κ c f
  | .bin .and f g => min (sure κ c f) (sure κ c g)
  | .bin .or f g => max (sure κ c f) (sure κ c g)
  | .bin .imp f g => max (2 - sure κ c f) (sure κ c g)
theorem sure_le (κ : KV2) (c : Ch) : ∀ b, sure κ c b ≤ 2
  | .tie a b t => by
    unfold sure
    split <;> decide
  | .same a b s => by
    unfold sure
    split <;> decide
  | .neg f => by
    unfold sure
    omega
  | .bin .and f g => by
    have := sure_le κ c f
    unfold sure
    omega
  | .bin .or f g => by
    have := sure_le κ c f
    have := sure_le κ c g
    unfold sure
    omega
  | .bin .imp f g => by
    have := sure_le κ c g
    unfold sure
    omega
def openR (κ : KV2) (c : Ch) : Bd → Option Ky
  | .tie a b t => if (κ.lookup (rowK c a b t)).isSome then none else some (rowK c a b t)
  | .same _ _ _ => none
  | .neg f => openR κ c f
  | .bin _ f g => match openR κ c f with
    | some k => some k
    | none => openR κ c g
/-- what is said of vars that c has -/
def BdC (c : Ch) : Bd → Prop
  | .tie a b _ => (RvA.mk a b).names.all isName = true ∧ ∀ v ∈ (RvA.mk a b).names, (c.lookup v).isSome = true
  | .same a b _ => (RvA.mk a (some b)).names.all isName = true ∧ ∀ v ∈ (RvA.mk a (some b)).names, (c.lookup v).isSome = true
  | .neg f => BdC c f
  | .bin _ f g => BdC c f ∧ BdC c g
theorem lk_vl {c : Ch} {v : Str} (h : (c.lookup v).isSome = true) : c.lookup v = some (vl c v) := by
  unfold vl
  cases e : c.lookup v with
  | none => rw [e] at h; cases h
  | some s => rfl
section
variable {P : Program} {w : World} {K : PySem.W.Frag} {mg : Str → Option Value} {base : Heap}
/-! opened -/
structure OpA where
  S : Sch
  as : List (List Str)
  f : Fl
  a : Addr
def OpA.sa (x : OpA) : List (Str × List Str) := x.S.sorts.zip x.as
def OpA.out (x : OpA) : List Ch × Bd := (chS x.sa x.f.vars, x.f.body)
structure OpA.Ok (x : OpA) : Prop where
  g : x.S.Good
  f : x.f.Ok x.S
  len : x.as.length = x.S.sorts.length
  ch : ∀ i, (chS x.sa (x.f.vars.take i)).length ≤ 1000
def spOpened (K : PySem.W.Frag) (C : Addr) : Sp := SpF (δ := OpA) (fun x => [isV (.ref x.a), rep K x.f.enc]) (fun x => rowP K x.out) (fun x W => x.Ok ∧ SelfRd C W (isV (.ref x.a)) [("own_scheme", schP K x.S), ("own_atoms", rep K (atomsD x.as))])
theorem atoms_t {as : List (List Str)} {v : V} {H : Hp} (h : (rep K (atomsD as)).h v H) : (tupOf K (as.map fun a => rep K (strsD a))).h v H := by
  have := tup_of h
  rw [List.map_map] at this
  exact this
theorem lookup_zip_some {s : Str} : ∀ {ss : List Str} {as : List (List Str)}, s ∈ ss → as.length = ss.length → ((ss.zip as).lookup s).isSome = true
  | [], _, h, _ => by cases h
  | x :: ss, [], _, h => by cases h
  | x :: ss, a :: as, h, hl => by
    rw [List.zip_cons_cons, List.lookup_cons]
    by_cases e : s = x
    · rw [e, beq_self_eq_true] <;> rfl
    · rw [beq_eq_false_iff_ne.mpr e]
      exact lookup_zip_some ((List.mem_cons.mp h).resolve_left e) (by simpa using hl)
theorem scFOpened : FnScope ["self", "saying", "names", "body"] ["self", "saying"] (defScope sFOpened) := ⟨rfl, rfl, rfl, by decide +kernel, rfl, by decide +kernel, by decide +kernel⟩
theorem ok_FlatFinding_opened (T : Tx K mg) {f : Addr} {fd : FuncData} (F : FnP K "opened" "FlatFinding.opened" sFOpened f fd) {C : Addr} (O : To K C) (D_choices_of : DefOk P w K mg base 1 "choices_of" ["names", "atoms_by"] (spChoices K)) (D_flat_of : DefOk P w K mg base 17 "flat_of" ["scheme", "thing"] (spFlatOf K)) : FnOk P w K mg base CX0 (18) f fd ["self", "saying"] (spOpened K C) := by
  obtain ⟨f_choices_of, fd_choices_of, G_choices_of, m_choices_of, kp_choices_of, b_choices_of⟩ := D_choices_of.ex
  obtain ⟨f_flat_of, fd_flat_of, G_flat_of, m_flat_of, kp_flat_of, b_flat_of⟩ := D_flat_of.ex
  refine fn_ok F scFOpened (fun _ => rfl) fun cdv A outer s H E hr => ?_
  refine ⟨_, (pss_cons (ps_asg (pe_call G_flat_of (hr.mono (by omega)) rfl m_flat_of kp_flat_of b_flat_of .nil pass0 (pa_cons (k_fld K (pv 0)) (pa_cons (pv 1) pa_nil))) (k_gtup K 2 (pgs_cons (pg_name (i := 2) scFOpened.nd rfl (Or.inl rfl)) (pgs_cons (pg_name (i := 3) scFOpened.nd rfl (Or.inl rfl)) pgs_nil))))
      (pss_one (ps_ret (pe_tup (pa_cons (pe_call G_choices_of (hr.mono (by omega)) rfl m_choices_of kp_choices_of b_choices_of .nil pass0 (pa_cons (pv 2) (pa_cons (k_dictZ K rfl T.dict bt_dict rfl T.zip (pa_cons (pe_ix (k_ix K) (k_fld K (pv 0)) pe_int (fun _ _ => rfl)) (pa_cons (k_fld K (pv 0)) pa_nil)) (pk_cons pe_bl pk_nil)) pa_nil))) (pa_cons (pv 3) pa_nil)))))), ?_⟩
  -- N: [(0, 'self'), (1, 'saying'), (2, 'names'), (3, 'body')]; cells: []
  rintro ⟨S, as, f, a⟩ W ⟨⟨hg, hf, hl, hch⟩, rd⟩ B D hn hR
  have hl : as.length = S.sorts.length := hl
  have hf : f.Ok S := hf
  obtain ⟨n, hn1⟩ : ∃ n, S.sorts.length = n + 1 := ⟨S.sorts.length - 1, by have h1 : 1 ≤ S.sorts.length := hg.s1; omega⟩
  have hn3 : n ≤ 999 := by have h1 : S.sorts.length ≤ 3 := hg.s3; omega
  have hs : ∀ {W : Wd} {Γ : Ctx}, SelfRd C W (isV (.ref a)) [("own_scheme", schP K S), ("own_atoms", rep K (atomsD as))] → Γ[0]? = some (some (isV (.ref a))) → TyE W Γ (tFld K (tVar 0) "own_scheme") (schP K S) := fun rd e => TyE.fld O.cl O.na1 rd (TyE.var e) (.head _)
  have ha : ∀ {W : Wd} {Γ : Ctx}, SelfRd C W (isV (.ref a)) [("own_scheme", schP K S), ("own_atoms", rep K (atomsD as))] → Γ[0]? = some (some (isV (.ref a))) → TyE W Γ (tFld K (tVar 0) "own_atoms") (rep K (atomsD as)) := fun rd e => TyE.fld O.cl O.na2 rd (TyE.var e) (.tail _ (.head _))
  refine Nx.sAsg (vs := [2, 3]) (TyE.fn (S, f) (by exact ⟨hg, hf⟩) (TyA.cons (hs rd rfl) (TyA.cons (TyE.var rfl) TyA.nil))) (TyG.tup (TyGs.cons TyG.name (TyGs.cons TyG.name TyGs.nil))) ?_
  refine Nx.ret (TyE.tup (TyA.cons (TyE.fn (⟨f.vars, S.sorts.zip as⟩ : ChA) (by
    exact ⟨hf.nd, hf.v4, fun p hp => lookup_zip_some (hf.nm p hp).2 hl, hch⟩) (TyA.cons (TyE.var rfl) (TyA.cons (TyE.dictZip (F := fun a => rep K (strsD a)) (n := n) (TyA.cons ((TyE.op (hs rd rfl) TyE.int (r_ixAT (i := 0) rfl)).imp fun _ _ => strs_t) (TyA.cons ((ha rd rfl).imp fun _ _ => atoms_t) TyA.nil)) (TyA.cons (TyE.c fun H => rfl) TyA.nil) hg.ndS hn1 (by rw [hl, hn1]) hn3) TyA.nil))) (TyA.cons (TyE.var rfl) TyA.nil))) hR
/-! row_of -/
structure RoA where
  x : Fd
  c : Ch
  a : Str
  b : Option Str
  t : Str
def spRowOf (K : PySem.W.Frag) (C : Addr) : Sp := SpF (δ := RoA) (fun x => [selfP K C x.x, rep K (Bd.tie x.a x.b x.t).enc, dctS K x.c]) (fun x => rep K (kyD (rowK x.c x.a x.b x.t))) (fun x W => BdC x.c (.tie x.a x.b x.t))
theorem names_len (a : Str) (b : Option Str) : (RvA.mk a b).names.length ≤ 1000 := by
  show b.toList.length + 1 ≤ 1000
  cases b <;> exact Nat.le_of_ble_eq_true rfl
theorem rv_deep (a : Str) (b : Option Str) : (RvA.mk a b).deep < 2 := by
  show b.toList.length < 2
  cases b <;> exact Nat.le_of_ble_eq_true rfl
theorem scFRowOf : FnScope ["self", "said", "choice", "name"] ["self", "said", "choice"] (defScope sFRowOf) := ⟨rfl, rfl, rfl, by decide +kernel, rfl, by decide +kernel, by decide +kernel⟩
theorem ok_FlatFinding_row_of (T : Tx K mg) {f : Addr} {fd : FuncData} (F : FnP K "row_of" "FlatFinding.row_of" sFRowOf f fd) {C : Addr} (O : To K C) (D_row_vars : DefOk P w K mg base 4 "row_vars" ["thing"] (spRowVars K 2)) : FnOk P w K mg base CX0 (5) f fd ["self", "said", "choice"] (spRowOf K C) := by
  obtain ⟨f_row_vars, fd_row_vars, G_row_vars, m_row_vars, kp_row_vars, b_row_vars⟩ := D_row_vars.ex
  refine fn_ok F scFRowOf (fun _ => rfl) fun cdv A outer s H E hr => ?_
  refine ⟨_, (pss_one (ps_ret (pe_tup (pa_cons (pe_ix (k_ix K) (pe_ix (k_ix K) (pv 1) pe_int (fun _ _ => rfl)) pe_int (fun _ _ => rfl)) (pa_cons (pe_callTy (k_tup K) rfl T.tuple bt_tuple (pa_cons (pe_lc (own := [("name", 3)]) rfl scFRowOf.nd (k_list K (pe_call G_row_vars (hr.mono (by omega)) rfl m_row_vars kp_row_vars b_row_vars .nil pass0 (pa_cons (pe_ix (k_ix K) (pv 1) pe_int (fun _ _ => rfl)) pa_nil))) (blkOk_by (own := [("name", 3)]) (N := ["self", "said", "choice", "name"]) (sc := defScope sFRowOf) (by decide +kernel)) (fun _ _ _ _ _ => (pg_name (i := 3) scFRowOf.nd rfl (Or.inl rfl))) (fun _ _ _ _ _ => pts_nil) (fun _ _ _ _ _ => (pe_dget (hu_of hr) (pv 2) (pv 3) (fun _ _ => rfl)))) pa_nil)) pa_nil))))), ?_⟩
  -- N: [(0, 'self'), (1, 'said'), (2, 'choice'), (3, 'name')]; cells: ['choice']
  rintro ⟨x, c, a, b, t⟩ W ⟨hnm, hlk⟩ B D hn hR
  have hnm : (RvA.mk a b).names.all isName = true := hnm
  have hlk : ∀ v ∈ (RvA.mk a b).names, (c.lookup v).isSome = true := hlk
  have ht : ∀ {W : Wd} {Γ : Ctx}, Γ[1]? = some (some (rep K (Bd.tie a b t).enc)) → TyE W Γ (tVar 1) (rep K (.tuple [.str "in", rowD a b, tieE t])) := fun e => TyE.var e
  refine Nx.ret (TyE.tupD (ds := [.str t, strsD ((a :: b.toList).map (vl c))]) (TyA.cons (TyE.op (TyE.op (ht rfl) TyE.int (r_ixD (i := 2) rfl)) TyE.int (r_ixD (i := 1) rfl)) (TyA.cons ((TyE.cb (TyA.cons (TyE.lcM (RvA.mk a b).names (fun s => rep K (.str s)) (fun v => rep K (.str (vl c v)))
    (TyI.list ((TyE.fn (⟨a, b⟩ : RvA) ⟨hnm, rv_deep a b⟩ (TyA.cons (TyE.op (ht rfl) TyE.int (r_ixD (i := 1) rfl)) TyA.nil)).imp fun _ _ => lstN_of)) (names_len a b) fun v hv p Qs hp => ⟨_, TyG.name, TyE.dget (TyE.var rfl) (TyE.var rfl) (dctS_look (lk_vl (hlk v hv)))⟩) TyA.nil) ra_tupL).imp fun v H q => strs_m ?_) TyA.nil))) hR
  rw [List.map_map]
  exact q
/-! sureness -/
structure SuA where
  x : Fd
  κ : KV2
  b : Bd
  c : Ch
def spSure (K : PySem.W.Frag) (P : Program) (w : World) (C : Addr) (n : Nat) : Sp := SpF (δ := SuA) (fun x => [selfP K C x.x, rep K x.b.enc, dctS K x.c]) (fun x => rep K (.int (sure x.κ x.c x.b : Nat))) (fun x W => KdKn K P w W x.x.d x.κ ∧ BdC x.c x.b ∧ x.b.deep < n)
theorem sub_cast {n : Nat} (h : n ≤ 2) : (2 : Int) - (n : Int) = ((2 - n : Nat) : Int) := by omega
theorem scFSureness : FnScope ["self", "said", "choice", "word", "first", "second", "known", "one", "other"] ["self", "said", "choice"] (defScope sFSureness) := ⟨rfl, rfl, rfl, by decide +kernel, rfl, by decide +kernel, by decide +kernel⟩
theorem ok_FlatFinding_sureness (T : Tx K mg) {f : Addr} {fd : FuncData} (F : FnP K "sureness" "FlatFinding.sureness" sFSureness f fd) {n : Nat} {C : Addr} (O : To K C) (D_row_vars : DefOk P w K mg base 4 "row_vars" ["thing"] (spRowVars K 2)) (D_sureness : MethOk P w K mg base (n + 5) C "sureness" ["self", "said", "choice"] (spSure K P w C n)) (D_row_of : MethOk P w K mg base 5 C "row_of" ["self", "said", "choice"] (spRowOf K C)) : FnOk P w K mg base CX0 (n + 6) f fd ["self", "said", "choice"] (spSure K P w C (n + 1)) := by
  obtain ⟨f_sureness, fd_sureness, G_sureness, M_sureness, b_sureness⟩ := D_sureness.ex
  obtain ⟨f_row_of, fd_row_of, G_row_of, M_row_of, b_row_of⟩ := D_row_of.ex
  obtain ⟨f_row_vars, fd_row_vars, G_row_vars, m_row_vars, kp_row_vars, b_row_vars⟩ := D_row_vars.ex
  refine fn_ok F scFSureness (fun _ => rfl) fun cdv A outer s H E hr => ?_
  refine ⟨_, (pss_cons (ps_set (i := 3) scFSureness.nd rfl (Or.inl rfl) (pe_ix (k_ix K) (pv 1) pe_int (fun _ _ => rfl)))
      (pss_cons (ps_if (PW.pt (pw_and (pt_cmpR op_eq (pv 3) pe_str (nomark _)) (pw_and1 (pt_cmpR op_eq (pe_ix (k_ix K) (pe_ix (k_ix K) (pv 1) pe_int (fun _ _ => rfl)) pe_int (fun _ _ => rfl)) pe_str (nomark _))))) (pss_cons (ps_asg (pe_call G_row_vars (hr.mono (by omega)) rfl m_row_vars kp_row_vars b_row_vars .nil pass0 (pa_cons (pe_ix (k_ix K) (pv 1) pe_int (fun _ _ => rfl)) pa_nil)) (k_unl K 2 (pgs_cons (pg_name (i := 7) scFSureness.nd rfl (Or.inl rfl)) (pgs_cons (pg_name (i := 8) scFSureness.nd rfl (Or.inl rfl)) pgs_nil))))
      (pss_one (ps_ret (pe_ifExp (pt_cmpR op_eq (pe_dget (hu_of hr) (pv 2) (pv 7) (fun _ _ => rfl)) (pe_dget (hu_of hr) (pv 2) (pv 8) (fun _ _ => rfl)) (nomark _)) (pe_gi rfl T.SURE) pe_int)))) pss_nil)
      (pss_cons (ps_if (pt_cmpR op_eq (pv 3) pe_str (nomark _)) (pss_cons (ps_set (i := 6) scFSureness.nd rfl (Or.inl rfl) (k_kget K P w hr.units (k_fld K (pv 0)) (pe_meth (pv 0) O.cl M_row_of G_row_of (hr.mono (by omega)) b_row_of .nil pass0 (pa_cons (pv 1) (pa_cons (pv 2) pa_nil))) ⟨rfl, rfl, rfl, rfl⟩))
      (pss_one (ps_ret (pe_ifExp (pt_cmpR op_isNn (pv 6) pe_non (nomark _)) (pe_gi rfl T.OPEN) (pe_ifExp (pt_val (pv 6)) (pe_gi rfl T.SURE) pe_int))))) pss_nil)
      (pss_cons (ps_set (i := 4) scFSureness.nd rfl (Or.inl rfl) (pe_meth (pv 0) O.cl M_sureness G_sureness (hr.mono (by omega)) b_sureness .nil pass0 (pa_cons (pe_ix (k_ix K) (pv 1) pe_int (fun _ _ => rfl)) (pa_cons (pv 2) pa_nil))))
      (pss_cons (ps_if (pt_cmpR op_eq (pv 3) pe_str (nomark _)) (pss_one (ps_ret (pe_op op_sub (pe_gi rfl T.SURE) (pv 4)))) pss_nil)
      (pss_cons (ps_set (i := 4) scFSureness.nd rfl (Or.inl rfl) (pe_ifExp (pt_cmpR op_eq (pv 3) pe_str (nomark _)) (pe_op op_sub (pe_gi rfl T.SURE) (pv 4)) (pv 4)))
      (pss_cons (ps_if (pt_cmpR op_eq (pv 4) (pe_ifExp (pt_cmpR op_eq (pv 3) pe_str (nomark _)) pe_int (pe_gi rfl T.SURE)) (nomark _)) (pss_one (ps_ret (pv 4))) pss_nil)
      (pss_cons (ps_set (i := 5) scFSureness.nd rfl (Or.inl rfl) (pe_meth (pv 0) O.cl M_sureness G_sureness (hr.mono (by omega)) b_sureness .nil pass0 (pa_cons (pe_ix (k_ix K) (pv 1) pe_int (fun _ _ => rfl)) (pa_cons (pv 2) pa_nil))))
      (pss_one (ps_ret (pe_ifExp (pt_cmpR op_eq (pv 3) pe_str (nomark _)) (pe_callB (call_minI rfl) rfl T.min bt_min (pa_cons (pv 4) (pa_cons (pv 5) pa_nil))) (pe_callB (call_maxI rfl) rfl T.max bt_max (pa_cons (pv 4) (pa_cons (pv 5) pa_nil)))))))))))))), ?_⟩
  -- N: [(0, 'self'), (1, 'said'), (2, 'choice'), (3, 'word'), (4, 'first'), (5, 'second'), (6, 'known'), (7, 'one'), (8, 'other')]; cells: []
  rintro ⟨x, κ, b, c⟩ W ⟨kn, hb, hd⟩ B D hn hR
  have hb : BdC c b := hb
  have kn : KdKn K P w W x.d κ := kn
  have hd : b.deep < n + 1 := hd
  have hw : ∀ {W : Wd} {Γ : Ctx} {h : Str} {tl : List PyData}, b.enc = .tuple (.str h :: tl) → Γ[1]? = some (some (rep K b.enc)) → TyE W Γ (tOp (rIx K) (tVar 1) (tC (.int 0))) (rep K (.str h)) := fun e0 e => TyE.op ((TyE.var e).imp fun _ _ q => by rw [e0] at q; exact q) TyE.int (r_ixD (i := 0) rfl)
  have hself : ∀ {W : Wd} {Γ : Ctx}, Γ[0]? = some (some (selfP K C x)) → TyE W Γ (tVar 0) (selfP K C x) := fun e => TyE.var e
  cases b with
  | tie a b t =>
    have ht : ∀ {W : Wd} {Γ : Ctx}, Γ[1]? = some (some (rep K (Bd.tie a b t).enc)) → TyE W Γ (tVar 1) (rep K (.tuple [.str "in", rowD a b, tieE t])) := fun e => TyE.var e
    refine Nx.sSet (P := rep K (.str "in")) (hw rfl rfl) ?_
    refine Nx.sIfF (TyT.and (b1 := true) (b2 := false) (TyT.bE (TyT.test (TyE.op (TyE.var rfl) TyE.str r_eqS)) (by decide +kernel)) fun _ => TyT.bE (TyT.test (TyE.op (TyE.op (TyE.op (ht rfl) TyE.int (r_ixD (i := 2) rfl)) TyE.int (r_ixD (ds := [.str "tie", .str t]) (i := 0) rfl)) TyE.str r_eqS)) (by decide +kernel)) ?_
    refine Nx.sIfT (TyT.bE (TyT.test (TyE.op (TyE.var rfl) TyE.str r_eqS)) (by decide +kernel)) ?_
    refine Nx.sSet (P := rep K (getD2 κ (rowK c a b t))) (TyE.kgetW kn (TyE.fK O (hself rfl)) (TyE.mfn (⟨x, c, a, b, t⟩ : RoA) (by exact hb) (by decide +kernel) selfRd (hself rfl) (TyA.cons (ht rfl) (TyA.cons (TyE.var rfl) TyA.nil)) rfl)) ?_
    refine Nx.ret ?_ hR
    show TyE W _ _ (rep K (.int (sure κ c (.tie a b t) : Nat)))
    unfold sure getD2
    cases κ.lookup (rowK c a b t) with
    | none => exact TyE.ifX (TyT.test (K := K) (TyE.op (TyE.var rfl) TyE.non (r_isN (nonP_rep (d := .none))))) (fun _ => TyE.int) fun z => by cases z
    | some v =>
      refine TyE.ifX (TyT.test (K := K) (TyE.op (TyE.var rfl) TyE.non (r_isN (nonP_rep (d := .bool v))))) (fun z => by cases z) fun _ => ?_
      cases v with
      | true => exact TyE.ifX (TyT.test (K := K) (b := true) (TyE.var rfl)) (fun _ => TyE.int) fun z => by cases z
      | false => exact TyE.ifX (TyT.test (K := K) (b := false) (TyE.var rfl)) (fun z => by cases z) fun _ => TyE.int
  | same a b s =>
    have ht : ∀ {W : Wd} {Γ : Ctx}, Γ[1]? = some (some (rep K (Bd.same a b s).enc)) → TyE W Γ (tVar 1) (rep K (.tuple [.str "in", rowD a (some b), sameE s])) := fun e => TyE.var e
    obtain ⟨hnm, hlk⟩ := (show (RvA.mk a (some b)).names.all isName = true ∧ ∀ v ∈ (RvA.mk a (some b)).names, (c.lookup v).isSome = true from hb)
    refine Nx.sSet (P := rep K (.str "in")) (hw rfl rfl) ?_
    refine Nx.sIfT (TyT.and (b1 := true) (b2 := true) (TyT.bE (TyT.test (TyE.op (TyE.var rfl) TyE.str r_eqS)) (by decide +kernel)) fun _ => TyT.bE (TyT.test (TyE.op (TyE.op (TyE.op (ht rfl) TyE.int (r_ixD (i := 2) rfl)) TyE.int (r_ixD (ds := [.str "same", .str s]) (i := 0) rfl)) TyE.str r_eqS)) (by decide +kernel)) ?_
    refine Nx.sAsg (vs := [7, 8]) (P := lstOf K [rep K (.str a), rep K (.str b)]) ((TyE.fn (⟨a, some b⟩ : RvA) ⟨hnm, rv_deep a (some b)⟩ (TyA.cons (TyE.op (ht rfl) TyE.int (r_ixD (i := 1) rfl)) TyA.nil)).imp fun _ _ => lstN_of) (TyG.unl (TyGs.cons TyG.name (TyGs.cons TyG.name TyGs.nil))) ?_
    refine Nx.ret ?_ hR
    show TyE W _ _ (rep K (.int (sure κ c (.same a b s) : Nat)))
    have h1 := lk_vl (hlk a (.head _))
    have h2 := lk_vl (hlk b (.tail _ (.head _)))
    have heq := TyT.test (K := K) (TyE.op (W := W) (Γ := [some (selfP K C x), some (rep K (Bd.same a b s).enc), some (dctS K c), some (rep K (.str "in")), none, none, none, some (rep K (.str a)), some (rep K (.str b))]) (TyE.dget (K := K) (td := tVar 2) (ty := tVar 7) (TyE.var rfl) (TyE.var rfl) (dctS_look h1)) (TyE.dget (K := K) (td := tVar 2) (ty := tVar 8) (TyE.var rfl) (TyE.var rfl) (dctS_look h2)) r_eqS)
    unfold sure
    by_cases hv : vl c a = vl c b
    · rw [if_pos hv]
      exact TyE.ifX (TyT.bE heq (decide_eq_true hv)) (fun _ => TyE.int) fun z => by cases z
    · rw [if_neg hv]
      exact TyE.ifX (TyT.bE heq (decide_eq_false hv)) (fun z => by cases z) fun _ => TyE.int
  | neg f =>
    have ht : ∀ {W : Wd} {Γ : Ctx}, Γ[1]? = some (some (rep K (Bd.neg f).enc)) → TyE W Γ (tVar 1) (rep K (.tuple [.str "not", f.enc])) := fun e => TyE.var e
    have hd1 : f.deep < n := Nat.lt_of_succ_lt_succ hd
    refine Nx.sSet (P := rep K (.str "not")) (hw rfl rfl) ?_
    refine Nx.sIfF (TyT.and (b1 := false) (b2 := false) (TyT.bE (TyT.test (TyE.op (TyE.var rfl) TyE.str r_eqS)) (by decide +kernel)) fun z => by cases z) ?_
    refine Nx.sIfF (TyT.bE (TyT.test (TyE.op (TyE.var rfl) TyE.str r_eqS)) (by decide +kernel)) ?_
    refine Nx.sSet (P := rep K (.int (sure κ c f : Nat))) (TyE.mfn (⟨x, κ, f, c⟩ : SuA) (by exact ⟨kn, hb, hd1⟩) (by decide +kernel) selfRd (hself rfl) (TyA.cons (TyE.op (ht rfl) TyE.int (r_ixD (i := 1) rfl)) (TyA.cons (TyE.var rfl) TyA.nil)) rfl) ?_
    refine Nx.sIfT (TyT.bE (TyT.test (TyE.op (TyE.var rfl) TyE.str r_eqS)) (by decide +kernel)) ?_
    refine Nx.ret (TyE.op TyE.int (TyE.var rfl) r_int0) fun v H j b p => hR v H j b ?_
    rw [sub_cast (sure_le κ c f)] at p
    exact p
  | bin o f g =>
    obtain ⟨hbf, hbg⟩ := (show BdC c f ∧ BdC c g from hb)
    have hd : max f.deep g.deep + 1 < n + 1 := hd
    have hdf : f.deep < n := by omega
    have hdg : g.deep < n := by omega
    have ht : ∀ {W : Wd} {Γ : Ctx}, Γ[1]? = some (some (rep K (Bd.bin o f g).enc)) → TyE W Γ (tVar 1) (rep K (.tuple [.str o.w, f.enc, g.enc])) := fun e => TyE.var e
    have lf := sure_le κ c f
    have lg := sure_le κ c g
    refine Nx.sSet (P := rep K (.str o.w)) (hw rfl rfl) ?_
    refine Nx.sIfF (TyT.and (b1 := false) (b2 := false) (TyT.bE (TyT.test (TyE.op (TyE.var rfl) TyE.str r_eqS)) (by cases o <;> decide +kernel)) fun z => by cases z) ?_
    refine Nx.sIfF (TyT.bE (TyT.test (TyE.op (TyE.var rfl) TyE.str r_eqS)) (by cases o <;> decide +kernel)) ?_
    refine Nx.sSet (P := rep K (.int (sure κ c f : Nat))) (TyE.mfn (⟨x, κ, f, c⟩ : SuA) (by exact ⟨kn, hbf, hdf⟩) (by decide +kernel) selfRd (hself rfl) (TyA.cons (TyE.op (ht rfl) TyE.int (r_ixD (i := 1) rfl)) (TyA.cons (TyE.var rfl) TyA.nil)) rfl) ?_
    refine Nx.sIfF (TyT.bE (TyT.test (TyE.op (TyE.var rfl) TyE.str r_eqS)) (by cases o <;> decide +kernel)) ?_
    have hsec : ∀ {W : Wd} {Γ : Ctx} {E : XK}, KdKn K P w W x.d κ → Γ[0]? = some (some (selfP K C x)) → Γ[1]? = some (some (rep K (Bd.bin o f g).enc)) → Γ[2]? = some (some (dctS K c)) → TyE W Γ (tMeth C "sureness" (spSure K P w C n) [] E (tVar 0) (tCons (tOp (rIx K) (tVar 1) (tC (.int 2))) (tCons (tVar 2) tNil))) (rep K (.int (sure κ c g : Nat))) := fun kn e0 e1 e2 =>
      TyE.mfn (⟨x, κ, g, c⟩ : SuA) (by exact ⟨kn, hbg, hdg⟩) (by decide +kernel) selfRd (hself e0) (TyA.cons (TyE.op (ht e1) TyE.int (r_ixD (i := 2) rfl)) (TyA.cons (TyE.var e2) TyA.nil)) rfl
    cases o with
    | and =>
      refine Nx.sSet (P := rep K (.int (sure κ c f : Nat))) (TyE.ifX (φ := (· = false)) (TyT.bE (TyT.test (TyE.op (TyE.var rfl) TyE.str r_eqS)) (by decide +kernel)) (fun z => by cases z) fun _ => TyE.var rfl) ?_
      have hcmp : TyE W [some (selfP K C x), some (rep K (Bd.bin .and f g).enc), some (dctS K c), some (rep K (.str "and")), some (rep K (.int (sure κ c f : Nat))), none, none, none, none] _ (rep K (.int 0)) := TyE.ifX (ta := tC (.int 0)) (tb := tC (.int 2)) (φ := (· = true)) (TyT.bE (TyT.test (TyE.op (ta := tVar 3) (TyE.var rfl) TyE.str (r_eqS (b := "and")))) (by decide +kernel)) (fun _ => TyE.int) fun z => by cases z
      by_cases hz : sure κ c f = 0
      · refine Nx.sIfT (TyT.bE (TyT.test (TyE.op (TyE.var rfl) hcmp r_eqI)) (decide_eq_true (by omega))) ?_
        refine Nx.ret (TyE.var rfl) fun v H j b p => hR v H j b ?_
        have e : sure κ c (.bin .and f g) = sure κ c f := by
          show min (sure κ c f) (sure κ c g) = _
          omega
        show (rep K (.int (sure κ c (.bin .and f g) : Nat))).h v _
        rw [e]; exact p
      · refine Nx.sIfF (TyT.bE (TyT.test (TyE.op (TyE.var rfl) hcmp r_eqI)) (decide_eq_false (by omega))) ?_
        refine Nx.sSet (P := rep K (.int (sure κ c g : Nat))) (hsec kn rfl rfl rfl) ?_
        refine Nx.ret (TyE.ifX (φ := (· = true)) (TyT.bE (TyT.test (TyE.op (TyE.var rfl) TyE.str r_eqS)) (by decide +kernel)) (fun _ => TyE.cb (TyA.cons (TyE.var rfl) (TyA.cons (TyE.var rfl) TyA.nil)) ra_min) fun z => by cases z) fun v H j b p => hR v H j b ?_
        have e : (if ((sure κ c g : Nat) : Int) < ((sure κ c f : Nat) : Int) then ((sure κ c g : Nat) : Int) else ((sure κ c f : Nat) : Int)) = ((sure κ c (.bin .and f g) : Nat) : Int) := by
          show _ = ((min (sure κ c f) (sure κ c g) : Nat) : Int)
          split <;> omega
        rw [e] at p
        exact p
    | or =>
      refine Nx.sSet (P := rep K (.int (sure κ c f : Nat))) (TyE.ifX (φ := (· = false)) (TyT.bE (TyT.test (TyE.op (TyE.var rfl) TyE.str r_eqS)) (by decide +kernel)) (fun z => by cases z) fun _ => TyE.var rfl) ?_
      have hcmp : TyE W [some (selfP K C x), some (rep K (Bd.bin .or f g).enc), some (dctS K c), some (rep K (.str "or")), some (rep K (.int (sure κ c f : Nat))), none, none, none, none] _ (rep K (.int 2)) := TyE.ifX (ta := tC (.int 0)) (tb := tC (.int 2)) (φ := (· = false)) (TyT.bE (TyT.test (TyE.op (ta := tVar 3) (TyE.var rfl) TyE.str (r_eqS (b := "and")))) (by decide +kernel)) (fun z => by cases z) fun _ => TyE.int
      by_cases hz : sure κ c f = 2
      · refine Nx.sIfT (TyT.bE (TyT.test (TyE.op (TyE.var rfl) hcmp r_eqI)) (decide_eq_true (by omega))) ?_
        refine Nx.ret (TyE.var rfl) fun v H j b p => hR v H j b ?_
        have e : sure κ c (.bin .or f g) = sure κ c f := by
          show max (sure κ c f) (sure κ c g) = _
          omega
        show (rep K (.int (sure κ c (.bin .or f g) : Nat))).h v _
        rw [e]; exact p
      · refine Nx.sIfF (TyT.bE (TyT.test (TyE.op (TyE.var rfl) hcmp r_eqI)) (decide_eq_false (by omega))) ?_
        refine Nx.sSet (P := rep K (.int (sure κ c g : Nat))) (hsec kn rfl rfl rfl) ?_
        refine Nx.ret (TyE.ifX (φ := (· = false)) (TyT.bE (TyT.test (TyE.op (TyE.var rfl) TyE.str r_eqS)) (by decide +kernel)) (fun z => by cases z) fun _ => TyE.cb (TyA.cons (TyE.var rfl) (TyA.cons (TyE.var rfl) TyA.nil)) ra_max) fun v H j b p => hR v H j b ?_
        have e : (if ((sure κ c g : Nat) : Int) > ((sure κ c f : Nat) : Int) then ((sure κ c g : Nat) : Int) else ((sure κ c f : Nat) : Int)) = ((sure κ c (.bin .or f g) : Nat) : Int) := by
          show _ = ((max (sure κ c f) (sure κ c g) : Nat) : Int)
          split <;> omega
        rw [e] at p
        exact p
    | imp =>
      have ec : (2 : Int) - ((sure κ c f : Nat) : Int) = ((2 - sure κ c f : Nat) : Int) := sub_cast lf
      refine Nx.sSet (P := rep K (.int ((2 - sure κ c f : Nat) : Nat))) ((TyE.ifX (P := rep K (.int ((2 : Int) - ((sure κ c f : Nat) : Int)))) (φ := (· = true)) (TyT.bE (TyT.test (TyE.op (TyE.var rfl) TyE.str r_eqS)) (by decide +kernel)) (fun _ => TyE.op TyE.int (TyE.var rfl) r_int0) fun z => by cases z).imp fun v H q => by rw [ec] at q; exact q) ?_
      have hcmp : TyE W [some (selfP K C x), some (rep K (Bd.bin .imp f g).enc), some (dctS K c), some (rep K (.str "if")), some (rep K (.int ((2 - sure κ c f : Nat) : Nat))), none, none, none, none] _ (rep K (.int 2)) := TyE.ifX (ta := tC (.int 0)) (tb := tC (.int 2)) (φ := (· = false)) (TyT.bE (TyT.test (TyE.op (ta := tVar 3) (TyE.var rfl) TyE.str (r_eqS (b := "and")))) (by decide +kernel)) (fun z => by cases z) fun _ => TyE.int
      by_cases hz : 2 - sure κ c f = 2
      · refine Nx.sIfT (TyT.bE (TyT.test (TyE.op (TyE.var rfl) hcmp r_eqI)) (decide_eq_true (by omega))) ?_
        refine Nx.ret (TyE.var rfl) fun v H j b p => hR v H j b ?_
        have e : sure κ c (.bin .imp f g) = 2 - sure κ c f := by
          show max (2 - sure κ c f) (sure κ c g) = _
          omega
        show (rep K (.int (sure κ c (.bin .imp f g) : Nat))).h v _
        rw [e]; exact p
      · refine Nx.sIfF (TyT.bE (TyT.test (TyE.op (TyE.var rfl) hcmp r_eqI)) (decide_eq_false (by omega))) ?_
        refine Nx.sSet (P := rep K (.int (sure κ c g : Nat))) (hsec kn rfl rfl rfl) ?_
        refine Nx.ret (TyE.ifX (φ := (· = false)) (TyT.bE (TyT.test (TyE.op (TyE.var rfl) TyE.str r_eqS)) (by decide +kernel)) (fun z => by cases z) fun _ => TyE.cb (TyA.cons (TyE.var rfl) (TyA.cons (TyE.var rfl) TyA.nil)) ra_max) fun v H j b p => hR v H j b ?_
        have e : (if ((sure κ c g : Nat) : Int) > ((2 - sure κ c f : Nat) : Int) then ((sure κ c g : Nat) : Int) else ((2 - sure κ c f : Nat) : Int)) = ((sure κ c (.bin .imp f g) : Nat) : Int) := by
          show _ = ((max (2 - sure κ c f) (sure κ c g) : Nat) : Int)
          split <;> omega
        rw [e] at p
        exact p
end
end Tk
namespace Tk
open PySem PySem.Spec PyProof.Rows L2
def firstR (κ : KV2) (c : Ch) : List Bd → Option Ky
  | [] => none
  | p :: ps => match openR κ c p with
    | some k => some k
    | none => firstR κ c ps
theorem firstR_none {κ : KV2} {c : Ch} : ∀ {ps : List Bd}, (∀ (j : Nat) (p : Bd), ps[j]? = some p → openR κ c p = none) → firstR κ c ps = none
  | [], _ => rfl
  | p :: ps, h => by
    unfold firstR
    rw [h 0 p rfl]
    exact firstR_none fun j q e => h (j + 1) q (by simpa using e)
theorem firstR_some {κ : KV2} {c : Ch} {k : Ky} : ∀ {ps : List Bd} {i : Nat} {p : Bd}, (∀ (j : Nat) (q : Bd), j < i → ps[j]? = some q → openR κ c q = none) → ps[i]? = some p → openR κ c p = some k → firstR κ c ps = some k
  | [], i, p, _, h, _ => by simp at h
  | q :: ps, 0, p, _, h, e => by
    have eq : q = p := by simpa using h
    subst eq
    unfold firstR
    rw [e]
  | q :: ps, i + 1, p, hn, h, e => by
    unfold firstR
    rw [hn 0 q (Nat.succ_pos _) rfl]
    exact firstR_some (fun j r hj er => hn (j + 1) r (Nat.succ_lt_succ hj) (by simpa using er)) (by simpa using h) e
section
variable {P : Program} {w : World} {K : PySem.W.Frag} {mg : Str → Option Value} {base : Heap}
def spOpenRow (K : PySem.W.Frag) (P : Program) (w : World) (C : Addr) (n : Nat) : Sp := SpF (δ := SuA) (fun x => [selfP K C x.x, rep K x.b.enc, dctS K x.c]) (fun x => rep K (keyO (openR x.κ x.c x.b))) (fun x W => KdKn K P w W x.x.d x.κ ∧ BdC x.c x.b ∧ x.b.deep < n)
theorem isNone_key {o : Option Ky} : isNone (keyO o) = o.isNone := by
  cases o <;> rfl
theorem bd_parts {κ : KV2} {c : Ch} {n : Nat} : ∀ {b : Bd}, BdC c b → b.deep < n + 1 → (∃ (h : Str) (ps : List Bd), b.enc = .tuple (.str h :: ps.map Bd.enc) ∧ decide (h = "in") = false ∧ (∀ p ∈ ps, BdC c p ∧ p.deep < n) ∧ openR κ c b = firstR κ c ps ∧ ps.length ≤ 2) ∨ (∃ a b' t, b = .tie a b' t) ∨ ∃ a b' s, b = .same a b' s
  | .tie a b t, _, _ => .inr (.inl ⟨a, b, t, rfl⟩)
  | .same a b s, _, _ => .inr (.inr ⟨a, b, s, rfl⟩)
  | .neg f, hb, hd => by
    refine .inl ⟨"not", [f], rfl, by decide +kernel, fun p hp => ?_, ?_, Nat.le_of_ble_eq_true rfl⟩
    · have e : p = f := by simpa using hp
      subst e
      exact ⟨hb, Nat.lt_of_succ_lt_succ hd⟩
    · show openR κ c f = _
      unfold firstR
      cases openR κ c f <;> rfl
  | .bin o f g, hb, hd => by
    obtain ⟨hbf, hbg⟩ := (show BdC c f ∧ BdC c g from hb)
    have hd : max f.deep g.deep + 1 < n + 1 := hd
    refine .inl ⟨o.w, [f, g], rfl, by cases o <;> decide +kernel, fun p hp => ?_, ?_, Nat.le_of_ble_eq_true rfl⟩
    · have e : p = f ∨ p = g := by simpa using hp
      rcases e with e | e
      · subst e; exact ⟨hbf, by omega⟩
      · subst e; exact ⟨hbg, by omega⟩
    · show (match openR κ c f with | some k => some k | none => openR κ c g) = _
      unfold firstR firstR
      cases openR κ c f with
      | some k => rfl
      | none =>
        cases openR κ c g <;> rfl
theorem scFOpenRow : FnScope ["self", "said", "choice", "part", "key", "found"] ["self", "said", "choice"] (defScope sFOpenRow) := ⟨rfl, rfl, rfl, by decide +kernel, rfl, by decide +kernel, by decide +kernel⟩
theorem ok_FlatFinding_open_row (T : Tx K mg) {f : Addr} {fd : FuncData} (F : FnP K "open_row" "FlatFinding.open_row" sFOpenRow f fd) {n : Nat} {C : Addr} (O : To K C) (D_open_row : MethOk P w K mg base (n + 5) C "open_row" ["self", "said", "choice"] (spOpenRow K P w C n)) (D_row_of : MethOk P w K mg base 5 C "row_of" ["self", "said", "choice"] (spRowOf K C)) : FnOk P w K mg base CX0 (n + 6) f fd ["self", "said", "choice"] (spOpenRow K P w C (n + 1)) := by
  obtain ⟨f_open_row, fd_open_row, G_open_row, M_open_row, b_open_row⟩ := D_open_row.ex
  obtain ⟨f_row_of, fd_row_of, G_row_of, M_row_of, b_row_of⟩ := D_row_of.ex
  refine fn_ok F scFOpenRow (fun _ => rfl) fun cdv A outer s H E hr => ?_
  refine ⟨_, (pss_cons (ps_if (pt_cmpR op_eq (pe_ix (k_ix K) (pv 1) pe_int (fun _ _ => rfl)) pe_str (nomark _)) (pss_cons (ps_set (i := 4) scFOpenRow.nd rfl (Or.inl rfl) (pe_ifExp (pt_cmpR op_eq (pe_ix (k_ix K) (pe_ix (k_ix K) (pv 1) pe_int (fun _ _ => rfl)) pe_int (fun _ _ => rfl)) pe_str (nomark _)) pe_non (pe_meth (pv 0) O.cl M_row_of G_row_of (hr.mono (by omega)) b_row_of .nil pass0 (pa_cons (pv 1) (pa_cons (pv 2) pa_nil)))))
      (pss_one (ps_ret (pe_ifExp (pt_cmpR (k_kin K P w hr.units) (pv 4) (k_fld K (pv 0)) (by rfl)) pe_non (pv 4))))) pss_nil)
      (pss_cons (ps_for PassesOwn.never rfl (k_tupI K (pe_slice (k_slT K) (pv 1) (po_some pe_int) po_none)) (pg_name (i := 3) scFOpenRow.nd rfl (Or.inl rfl)) (pss_cons (ps_set (i := 5) scFOpenRow.nd rfl (Or.inl rfl) (pe_meth (pv 0) O.cl M_open_row G_open_row (hr.mono (by omega)) b_open_row .nil pass0 (pa_cons (pv 3) (pa_cons (pv 2) pa_nil))))
      (pss_one (ps_if (pt_cmpR op_notNn (pv 5) pe_non (nomark _)) (pss_one (ps_ret (pv 5))) pss_nil))))
      (pss_one (ps_ret pe_non)))), ?_⟩
  -- N: [(0, 'self'), (1, 'said'), (2, 'choice'), (3, 'part'), (4, 'key'), (5, 'found')]; cells: []
  rintro ⟨x, κ, b, c⟩ W ⟨kn, hb, hd⟩ B D hn hR
  have hb : BdC c b := hb
  have kn : KdKn K P w W x.d κ := kn
  have hd : b.deep < n + 1 := hd
  have hw : ∀ {W : Wd} {Γ : Ctx} {h : Str} {tl : List PyData}, b.enc = .tuple (.str h :: tl) → Γ[1]? = some (some (rep K b.enc)) → TyE W Γ (tOp (rIx K) (tVar 1) (tC (.int 0))) (rep K (.str h)) := fun e0 e => TyE.op ((TyE.var e).imp fun _ _ q => by rw [e0] at q; exact q) TyE.int (r_ixD (i := 0) rfl)
  have hself : ∀ {W : Wd} {Γ : Ctx}, Γ[0]? = some (some (selfP K C x)) → TyE W Γ (tVar 0) (selfP K C x) := fun e => TyE.var e
  rcases bd_parts (κ := κ) hb hd with ⟨h, ps, he, hh, hps, ho, hl⟩ | ⟨a, b', t, rfl⟩ | ⟨a, b', s, rfl⟩
  · refine Nx.sIfF (TyT.bE (TyT.test (TyE.op (hw he rfl) TyE.str r_eqS)) hh) ?_
    have hsl : TyE W ([selfP K C x, rep K b.enc, dctS K c].map some ++ List.replicate 3 none) (tSl (rSlT K) (tVar 1) (tPart (tC (.int 1))) tNoPart) (tupOf K (ps.map fun p => rep K p.enc)) := by
      have h1 : TyE W ([selfP K C x, rep K b.enc, dctS K c].map some ++ List.replicate 3 none) (tVar 1) (tupOf K (rep K (.str h) :: ps.map fun p => rep K p.enc)) := (TyE.var (i := 1) rfl).imp fun v H q => by
        rw [he] at q
        have := tup_of q
        rw [List.map_cons, List.map_map] at this
        exact this
      have h2 := TyE.slT (K := K) (W := W) h1 (TyO.some (K := K) (TyE.int (i := 1))) TyO.none (by
        rw [List.length_cons, show (1 : Int) = ((1 : Nat) : Int) from rfl, HT.sIx_nat]
        omega)
      rw [show (1 : Int) = ((1 : Nat) : Int) from rfl, cutP_from] at h2
      exact h2
    refine Nx.for_ (ι := Unit) (Ps := ps.map fun p => rep K p.enc) (vs := [3]) (fun _ _ => W) (fun _ _ => [some (selfP K C x), some (rep K b.enc), some (dctS K c), none, none, none]) (fun i _ => ∀ j q, j < i → ps[j]? = some q → openR κ c q = none) (TyI.tup hsl) () (fun j q hj => absurd hj (Nat.not_lt_zero _)) rfl (Le.refl _) (fun i P u B' hP hok hB => ?_) fun u B' hok hB => ?_
    · rw [List.getElem?_map] at hP
      cases hpi : ps[i]? with
      | none => rw [hpi] at hP; cases hP
      | some p =>
        rw [hpi] at hP
        have hP' : rep K p.enc = P := by simpa using hP
        subst hP'
        obtain ⟨hp1, hp2⟩ := hps p (List.mem_of_getElem? hpi)
        refine ⟨_, TyG.name, fun N hN => ?_⟩
        refine Nx.sSet (P := rep K (keyO (openR κ c p))) (TyE.mfn (⟨x, κ, p, c⟩ : SuA) (by exact ⟨kn, hp1, hp2⟩) (by decide +kernel) selfRd (hself rfl) (TyA.cons (TyE.var rfl) (TyA.cons (TyE.var rfl) TyA.nil)) rfl) ?_
        cases hop : openR κ c p with
        | none =>
          refine Nx.ifF (TyT.test (K := K) (TyE.op (TyE.var rfl) TyE.non (r_notN (b := true) (nonP_rep (d := .none))))) (Nx.next ?_)
          refine (hN () fun j q hj eq => ?_).le (Le.same (Le.same (Le.same (Le.drop (Le.drop (Le.drop Le.nil))))))
          by_cases hji : j < i
          · exact hok j q hji eq
          · have : j = i := by omega
            subst this
            rw [hpi] at eq
            have := Option.some.inj eq
            subst this
            exact hop
        | some k =>
          refine Nx.ifT (TyT.test (K := K) (TyE.op (TyE.var rfl) TyE.non (r_notN (b := false) (nonP_rep (d := kyD k))))) ?_
          refine Nx.ret (TyE.var rfl) fun v H j b p => hR v H j (hB.trans b) ?_
          show (rep K (keyO (openR κ c _))).h v _
          rw [ho, firstR_some hok hpi hop]
          exact p
    · refine Nx.ret (TyE.non (K := K)) fun v H j b p => hR v H j (hB.trans b) ?_
      show (rep K (keyO (openR κ c _))).h v _
      rw [ho, firstR_none fun j q e => hok j q (by
        have := (List.getElem?_eq_some_iff.mp e).1
        rw [List.length_map]; exact this) e]
      exact p
  · have ht : ∀ {W : Wd} {Γ : Ctx}, Γ[1]? = some (some (rep K (Bd.tie a b' t).enc)) → TyE W Γ (tVar 1) (rep K (.tuple [.str "in", rowD a b', tieE t])) := fun e => TyE.var e
    refine Nx.sIfT (TyT.bE (TyT.test (TyE.op (hw rfl rfl) TyE.str r_eqS)) (by decide +kernel)) ?_
    refine Nx.sSet (P := rep K (keyO (some (rowK c a b' t)))) (TyE.ifX (φ := (· = false)) (TyT.bE (TyT.test (TyE.op (TyE.op (TyE.op (ht rfl) TyE.int (r_ixD (i := 2) rfl)) TyE.int (r_ixD (ds := [.str "tie", .str t]) (i := 0) rfl)) TyE.str r_eqS)) (by decide +kernel)) (fun z => by cases z) fun _ => TyE.mfn (⟨x, c, a, b', t⟩ : RoA) (by exact hb) (by decide +kernel) selfRd (hself rfl) (TyA.cons (ht rfl) (TyA.cons (TyE.var rfl) TyA.nil)) rfl) ?_
    refine Nx.ret ?_ hR
    show TyE W _ _ (rep K (keyO (openR κ c (.tie a b' t))))
    have hin := TyT.test (K := K) (TyE.op (W := W) (Γ := [some (selfP K C x), some (rep K (Bd.tie a b' t).enc), some (dctS K c), none, some (rep K (keyO (some (rowK c a b' t)))), none]) (ta := tVar 4) (tb := tFld K (tVar 0) "known_rows") (TyE.var rfl) (TyE.fK O (hself rfl)) (r_kinW (o := some (rowK c a b' t)) kn))
    unfold openR
    cases hl : (κ.lookup (rowK c a b' t)).isSome with
    | true => exact TyE.ifX (φ := (· = true)) (TyT.bE hin hl) (fun _ => TyE.non) fun z => by cases z
    | false => exact TyE.ifX (φ := (· = false)) (TyT.bE hin hl) (fun z => by cases z) fun _ => TyE.var rfl
  · have ht : ∀ {W : Wd} {Γ : Ctx}, Γ[1]? = some (some (rep K (Bd.same a b' s).enc)) → TyE W Γ (tVar 1) (rep K (.tuple [.str "in", rowD a (some b'), sameE s])) := fun e => TyE.var e
    refine Nx.sIfT (TyT.bE (TyT.test (TyE.op (hw rfl rfl) TyE.str r_eqS)) (by decide +kernel)) ?_
    refine Nx.sSet (P := rep K (keyO none)) (TyE.ifX (φ := (· = true)) (TyT.bE (TyT.test (TyE.op (TyE.op (TyE.op (ht rfl) TyE.int (r_ixD (i := 2) rfl)) TyE.int (r_ixD (ds := [.str "same", .str s]) (i := 0) rfl)) TyE.str r_eqS)) (by decide +kernel)) (fun _ => TyE.non) fun z => by cases z) ?_
    refine Nx.ret ?_ hR
    show TyE W _ _ (rep K (keyO (openR κ c (.same a b' s))))
    have hin := TyT.test (K := K) (TyE.op (W := W) (Γ := [some (selfP K C x), some (rep K (Bd.same a b' s).enc), some (dctS K c), none, some (rep K (keyO none)), none]) (ta := tVar 4) (tb := tFld K (tVar 0) "known_rows") (TyE.var rfl) (TyE.fK O (hself rfl)) (r_kinW (o := none) kn))
    exact TyE.ifX (φ := (· = false)) hin (fun z => by cases z) fun _ => TyE.var rfl
end
end Tk
namespace Tk
open PySem PySem.Spec PyProof.Rows L2
/-! ### where to look next -/
abbrev Row := List Ch × Bd
def stepC (κ : KV2) (b : Bd) (acc : Option Ky) (c : Ch) : Option Ky := if sure κ c b = 1 ∧ acc = none then openR κ c b else acc
def zeroIn (κ : KV2) (r : Row) : Bool := r.1.any fun c => decide (sure κ c r.2 = 0)
def wants (κ : KV2) (rows : List Row) : Option Ky := rows.foldl (fun acc r => r.1.foldl (stepC κ r.2) acc) none
def goalSure (κ : KV2) (g : Row) : Bool := g.1.all fun c => decide (sure κ c g.2 = 2)
def goalOpen (κ : KV2) (g : Row) : Bool := !(g.1.any fun c => decide (sure κ c g.2 = 0))
def firstOpen (κ : KV2) (g : Row) : Option Ky := match g.1.filter (fun c => decide (sure κ c g.2 = 1)) with
  | [] => none
  | c :: _ => openR κ c g.2
def looked (κ : KV2) (rows : List Row) (g : Row) : Option Nat × Option Ky :=
  match rows.findIdx? (zeroIn κ) with
  | some n => (some n, none)
  | none => if goalSure κ g then (some rows.length, none) else if wants κ rows = none ∧ goalOpen κ g = true then (none, firstOpen κ g) else (none, wants κ rows)
def numD : Option Nat → PyData
  | none => .none
  | some n => .int (n : Nat)
/-- a row whose body speaks of what its choices have -/
def RowOk (r : Row) : Prop := (∀ c ∈ r.1, BdC c r.2) ∧ r.2.deep < 10 ∧ r.1.length ≤ 1000
structure Fd.Ok (x : Fd) : Prop where
  rows : ∀ r ∈ x.rows, RowOk r
  goal : RowOk x.goal
  few : x.rows.length ≤ 1000
theorem Nx.wk {W : Wd} {B B2 : Hp} {Γ : Ctx} {k : L2.St → Hp → Prop} (h : Nx W B Γ k) (s : Same B B2) : Nx W B2 Γ k := fun σ H j b e => h σ H j (s.trans b) e
section
variable {P : Program} {w : World} {K : PySem.W.Frag} {mg : Str → Option Value} {base : Heap}
structure LoA where
  x : Fd
  κ : KV2
def spLooked (K : PySem.W.Frag) (P : Program) (w : World) (C : Addr) : Sp := SpF (δ := LoA) (fun x => [selfP K C x.x]) (fun x => tupOf K [rep K (numD (looked x.κ x.x.rows x.x.goal).1), rep K (keyO (looked x.κ x.x.rows x.x.goal).2)]) (fun x W => KdKn K P w W x.x.d x.κ ∧ x.x.Ok)
theorem findIdx_at {α : Type} {p : α → Bool} : ∀ {xs : List α} {i : Nat} {a : α}, (∀ (j : Nat) (b : α), j < i → xs[j]? = some b → p b = false) → xs[i]? = some a → p a = true → xs.findIdx? p = some i
  | [], i, a, _, h, _ => by simp at h
  | x :: xs, 0, a, _, h, ha => by
    have e : x = a := by simpa using h
    subst e
    rw [List.findIdx?_cons, ha] <;> rfl
  | x :: xs, i + 1, a, hn, h, ha => by
    rw [List.findIdx?_cons, hn 0 x (Nat.succ_pos _) rfl, findIdx_at (fun j b hj e => hn (j + 1) b (Nat.succ_lt_succ hj) (by simpa using e)) (by simpa using h) ha] <;> rfl
theorem findIdx_none {α : Type} {p : α → Bool} : ∀ {xs : List α}, (∀ (j : Nat) (b : α), j < xs.length → xs[j]? = some b → p b = false) → xs.findIdx? p = none
  | [], _ => rfl
  | x :: xs, hn => by
    rw [List.findIdx?_cons, hn 0 x (Nat.succ_pos _) rfl, findIdx_none (fun j b hj e => hn (j + 1) b (Nat.succ_lt_succ hj) (by simpa using e))] <;> rfl
theorem zero_all {κ : KV2} {b : Bd} {cs : List Ch} (h : ∀ (j : Nat) (c : Ch), j < cs.length → cs[j]? = some c → sure κ c b ≠ 0) : zeroIn κ (cs, b) = false := by
  refine Bool.eq_false_iff.mpr fun z => ?_
  obtain ⟨c, hc, e⟩ := List.any_eq_true.mp z
  obtain ⟨j, hj⟩ := List.mem_iff_getElem?.mp hc
  exact h j c (List.getElem?_eq_some_iff.mp hj).1 hj (of_decide_eq_true e)
theorem scFLooked : FnScope ["self", "wanted", "some", "number", "choice", "choices", "body", "sure"] ["self"] (defScope sFLooked) := ⟨rfl, rfl, rfl, by decide +kernel, rfl, by decide +kernel, by decide +kernel⟩
theorem ok_FlatFinding_looked (T : Tx K mg) {f : Addr} {fd : FuncData} (F : FnP K "looked" "FlatFinding.looked" sFLooked f fd) {C : Addr} (O : To K C) (D_open_row : MethOk P w K mg base 15 C "open_row" ["self", "said", "choice"] (spOpenRow K P w C 10)) (D_sureness : MethOk P w K mg base 15 C "sureness" ["self", "said", "choice"] (spSure K P w C 10)) : FnOk P w K mg base CX0 (16) f fd ["self"] (spLooked K P w C) := by
  obtain ⟨f_open_row, fd_open_row, G_open_row, M_open_row, b_open_row⟩ := D_open_row.ex
  obtain ⟨f_sureness, fd_sureness, G_sureness, M_sureness, b_sureness⟩ := D_sureness.ex
  refine fn_ok F scFLooked (fun _ => rfl) fun cdv A outer s H E hr => ?_
  refine ⟨_, (pss_cons (ps_set (i := 1) scFLooked.nd rfl (Or.inl rfl) pe_non)
      (pss_cons (ps_for PassesOwn.never rfl (k_enum K rfl T.enumerate (pa_cons (k_fld K (pv 0)) pa_nil)) (k_gtup K 2 (pgs_cons (pg_name (i := 3) scFLooked.nd rfl (Or.inl rfl)) (pgs_cons (k_gtup K 2 (pgs_cons (pg_name (i := 5) scFLooked.nd rfl (Or.inl rfl)) (pgs_cons (pg_name (i := 6) scFLooked.nd rfl (Or.inr rfl)) pgs_nil))) pgs_nil))) (pss_one (ps_for PassesOwn.never rfl (k_list K (pv 5)) (pg_name (i := 4) scFLooked.nd rfl (Or.inl rfl)) (pss_cons (ps_set (i := 7) scFLooked.nd rfl (Or.inl rfl) (pe_meth (pv 0) O.cl M_sureness G_sureness (hr.mono (by omega)) b_sureness .nil pass0 (pa_cons (pv 6) (pa_cons (pv 4) pa_nil))))
      (pss_cons (ps_if (pt_cmpR op_eq (pv 7) pe_int (nomark _)) (pss_one (ps_ret (pe_tup (pa_cons (pv 3) (pa_cons pe_non pa_nil))))) pss_nil)
      (pss_one (ps_if (PW.pt (pw_and (pt_cmpR op_eq (pv 7) (pe_gi rfl T.OPEN) (nomark _)) (pw_and1 (pt_cmpR op_isNn (pv 1) pe_non (nomark _))))) (pss_one (ps_set (i := 1) scFLooked.nd rfl (Or.inl rfl) (pe_meth (pv 0) O.cl M_open_row G_open_row (hr.mono (by omega)) b_open_row .nil pass0 (pa_cons (pv 6) (pa_cons (pv 4) pa_nil))))) pss_nil)))))))
      (pss_cons (ps_asg (k_fld K (pv 0)) (k_gtup K 2 (pgs_cons (pg_name (i := 5) scFLooked.nd rfl (Or.inl rfl)) (pgs_cons (pg_name (i := 6) scFLooked.nd rfl (Or.inr rfl)) pgs_nil))))
      (pss_cons (ps_setLc (i := 2) (own := [("choice", 4)]) rfl scFLooked.nd rfl rfl (sw_true rfl rfl rfl (by decide +kernel)) (k_list K (pv 5)) (blkOk_by (own := [("choice", 4)]) (N := ["self", "wanted", "some", "number", "choice", "choices", "body", "sure"]) (sc := defScope sFLooked) (by decide +kernel)) (fun _ _ _ _ _ => (pg_name (i := 4) scFLooked.nd rfl (Or.inl rfl))) (fun _ _ _ _ _ => pts_nil) (fun _ _ _ _ _ => (pe_tup (pa_cons (pe_meth (pv 0) O.cl M_sureness G_sureness (hr.mono (by omega)) b_sureness .nil pass0 (pa_cons (pv 6) (pa_cons (pv 4) pa_nil))) (pa_cons (pv 4) pa_nil)))))
      (pss_cons (ps_if (pt_val (pe_callB (k_all K) rfl T.all bt_all (pa_cons (pe_lc (own := [("sure", 7), ("choice", 4)]) rfl scFLooked.nd (k_list K (pv 2)) (blkOk_by (own := [("sure", 7), ("choice", 4)]) (N := ["self", "wanted", "some", "number", "choice", "choices", "body", "sure"]) (sc := defScope sFLooked) (by decide +kernel)) (fun _ _ _ _ _ => (k_gtup K 2 (pgs_cons (pg_name (i := 7) scFLooked.nd rfl (Or.inl rfl)) (pgs_cons (pg_name (i := 4) scFLooked.nd rfl (Or.inl rfl)) pgs_nil)))) (fun _ _ _ _ _ => pts_nil) (fun _ _ _ _ _ => (pe_cmpR op_eq (pv 7) (pe_gi rfl T.SURE) (nomark _)))) pa_nil))) (pss_one (ps_ret (pe_tup (pa_cons (pe_callB (k_len K) rfl T.len bt_len (pa_cons (k_fld K (pv 0)) pa_nil)) (pa_cons pe_non pa_nil))))) pss_nil)
      (pss_cons (ps_if (PW.pt (pw_and (pt_cmpR op_isNn (pv 1) pe_non (nomark _)) (pw_and1 (pt_not (pt_val (pe_callB (k_any K) rfl T.any bt_any (pa_cons (pe_lc (own := [("sure", 7), ("choice", 4)]) rfl scFLooked.nd (k_list K (pv 2)) (blkOk_by (own := [("sure", 7), ("choice", 4)]) (N := ["self", "wanted", "some", "number", "choice", "choices", "body", "sure"]) (sc := defScope sFLooked) (by decide +kernel)) (fun _ _ _ _ _ => (k_gtup K 2 (pgs_cons (pg_name (i := 7) scFLooked.nd rfl (Or.inl rfl)) (pgs_cons (pg_name (i := 4) scFLooked.nd rfl (Or.inl rfl)) pgs_nil)))) (fun _ _ _ _ _ => pts_nil) (fun _ _ _ _ _ => (pe_cmpR op_eq (pv 7) pe_int (nomark _)))) pa_nil))))))) (pss_one (ps_set (i := 1) scFLooked.nd rfl (Or.inl rfl) (pe_ix (k_ix K) (pe_lc (own := [("sure", 7), ("choice", 4)]) rfl scFLooked.nd (k_list K (pv 2)) (blkOk_by (own := [("sure", 7), ("choice", 4)]) (N := ["self", "wanted", "some", "number", "choice", "choices", "body", "sure"]) (sc := defScope sFLooked) (by decide +kernel)) (fun _ _ _ _ _ => (k_gtup K 2 (pgs_cons (pg_name (i := 7) scFLooked.nd rfl (Or.inl rfl)) (pgs_cons (pg_name (i := 4) scFLooked.nd rfl (Or.inl rfl)) pgs_nil)))) (fun _ _ _ _ _ => (pts_one (pt_cmpR op_eq (pv 7) (pe_gi rfl T.OPEN) (nomark _)))) (fun _ _ _ _ _ => (pe_meth (pv 0) O.cl M_open_row G_open_row (hr.mono (by omega)) b_open_row .nil pass0 (pa_cons (pv 6) (pa_cons (pv 4) pa_nil))))) pe_int (fun _ _ => rfl)))) pss_nil)
      (pss_one (ps_ret (pe_tup (pa_cons pe_non (pa_cons (pv 1) pa_nil))))))))))), ?_⟩
  -- N: [(0, 'self'), (1, 'wanted'), (2, 'some'), (3, 'number'), (4, 'choice'), (5, 'choices'), (6, 'body'), (7, 'sure')]; cells: ['body', 'self']
  rintro ⟨x, κ⟩ W ⟨kn, hx⟩ B D hn hR
  have kn : KdKn K P w W x.d κ := kn
  have hx : x.Ok := hx
  have hself : ∀ {W : Wd} {Γ : Ctx}, Γ[0]? = some (some (selfP K C x)) → TyE W Γ (tVar 0) (selfP K C x) := fun e => TyE.var e
  have hsu : ∀ {W : Wd} {Γ : Ctx} {E : XK} {b : Bd} {c : Ch}, KdKn K P w W x.d κ → BdC c b → b.deep < 10 → Γ[0]? = some (some (selfP K C x)) → Γ[6]? = some (some (rep K b.enc)) → Γ[4]? = some (some (dctS K c)) →
      TyE W Γ (tMeth C "sureness" (spSure K P w C 10) [] E (tVar 0) (tCons (tVar 6) (tCons (tVar 4) tNil))) (rep K (.int (sure κ c b : Nat))) := fun {_ _ _ b c} kn hb hd e0 e6 e4 =>
    TyE.mfn (⟨x, κ, b, c⟩ : SuA) (by exact ⟨kn, hb, hd⟩) (by decide +kernel) selfRd (hself e0) (TyA.cons (TyE.var e6) (TyA.cons (TyE.var e4) TyA.nil)) rfl
  have hop : ∀ {W : Wd} {Γ : Ctx} {E : XK} {b : Bd} {c : Ch}, KdKn K P w W x.d κ → BdC c b → b.deep < 10 → Γ[0]? = some (some (selfP K C x)) → Γ[6]? = some (some (rep K b.enc)) → Γ[4]? = some (some (dctS K c)) →
      TyE W Γ (tMeth C "open_row" (spOpenRow K P w C 10) [] E (tVar 0) (tCons (tVar 6) (tCons (tVar 4) tNil))) (rep K (keyO (openR κ c b))) := fun {_ _ _ b c} kn hb hd e0 e6 e4 =>
    TyE.mfn (⟨x, κ, b, c⟩ : SuA) (by exact ⟨kn, hb, hd⟩) (by decide +kernel) selfRd (hself e0) (TyA.cons (TyE.var e6) (TyA.cons (TyE.var e4) TyA.nil)) rfl
  refine Nx.sSet (P := rep K (keyO none)) (TyE.non (K := K)) ?_
  refine Nx.for_ (ι := Option Ky) (vs := [3, 5, 6]) (fun _ _ => W) (fun _ wt => [some (selfP K C x), some (rep K (keyO wt)), none, none, none, none, none, none])
    (fun i wt => (∀ (j : Nat) (r : Row), j < i → x.rows[j]? = some r → zeroIn κ r = false) ∧ wt = wants κ (x.rows.take i)) (TyI.enumL x.rows (rowP K) (TyA.cons (TyE.fR O (hself rfl)) TyA.nil)) none ⟨fun j r hj => absurd hj (Nat.not_lt_zero _), rfl⟩ rfl (Le.refl _) (fun i P wt B' hP hok hB => ?_) fun wt B' hok hB => ?_
  · rw [List.getElem?_map] at hP
    by_cases hi : i < x.rows.length
    · rw [List.getElem?_range hi] at hP
      have hri : (x.rows.map (rowP K))[i]? = some (rowP K x.rows[i]) := by rw [List.getElem?_map, List.getElem?_eq_getElem hi] <;> rfl
      rw [Option.map_some, hri] at hP
      have hP' : tupOf K [rep K (.int (i : Nat)), rowP K x.rows[i]] = P := by simpa using hP
      subst hP'
      obtain ⟨hrc, hrd, hrl⟩ := hx.rows x.rows[i] (List.getElem_mem hi)
      obtain ⟨hz, hwt⟩ := hok
      subst hwt
      generalize hr : x.rows[i] = r at *
      obtain ⟨cs, b⟩ := r
      have hrc : ∀ c ∈ cs, BdC c b := hrc
      have hrd : b.deep < 10 := hrd
      refine ⟨_, TyG.tup (TyGs.cons TyG.name (TyGs.cons (TyG.tup (TyGs.cons TyG.name (TyGs.cons TyG.name TyGs.nil))) TyGs.nil)), fun N hN => ?_⟩
      refine Nx.for_ (ι := Option Ky) (Ps := cs.map (dctS K)) (vs := [4]) (fun _ _ => W) (fun _ wt => [some (selfP K C x), some (rep K (keyO wt)), none, some (rep K (.int (i : Nat))), none, none, some (rep K b.enc), none])
        (fun m wt => (∀ (j : Nat) (c : Ch), j < m → cs[j]? = some c → sure κ c b ≠ 0) ∧ wt = (cs.take m).foldl (stepC κ b) (wants κ (x.rows.take i))) (TyI.list ((TyE.var rfl).imp fun _ _ => lstN_of)) (wants κ (x.rows.take i)) ⟨fun j c hj => absurd hj (Nat.not_lt_zero _), rfl⟩ rfl
        (Le.same (Le.same (Le.drop (Le.same (Le.drop (Le.drop (Le.same (Le.drop Le.nil)))))))) (fun m P wt B2 hP hok2 hB2 => ?_) fun wt B2 hok2 hB2 => ?_
      · rw [List.getElem?_map] at hP
        cases hcm : cs[m]? with
        | none => rw [hcm] at hP; cases hP
        | some c =>
          rw [hcm] at hP
          have hP' : dctS K c = P := by simpa using hP
          subst hP'
          have hbc := hrc c (List.mem_of_getElem? hcm)
          obtain ⟨hz2, hwt2⟩ := hok2
          have etk : cs.take (m + 1) = cs.take m ++ [c] := by rw [List.take_add_one, hcm] <;> rfl
          refine ⟨_, TyG.name, fun N2 hN2 => ?_⟩
          refine Nx.sSet (P := rep K (.int (sure κ c b : Nat))) (hsu kn hbc hrd rfl rfl rfl) ?_
          by_cases hs0 : sure κ c b = 0
          · refine Nx.sIfT (TyT.bE (TyT.test (TyE.op (TyE.var rfl) TyE.int r_eqI)) (decide_eq_true (by omega))) ?_
            refine Nx.ret (TyE.tup (K := K) (TyA.cons (TyE.var rfl) (TyA.cons (TyE.non (K := K)) TyA.nil))) fun v H j bb p => hR v H j ((hB.trans hB2).trans bb) ?_
            have hzi : zeroIn κ (cs, b) = true := List.any_eq_true.mpr ⟨c, List.mem_of_getElem? hcm, decide_eq_true hs0⟩
            have el : looked κ x.rows x.goal = (some i, none) := by
              unfold looked
              rw [findIdx_at (a := (cs, b)) hz (by rw [List.getElem?_eq_getElem hi, hr]) hzi]
            show (tupOf K [rep K (numD (looked κ x.rows x.goal).1), rep K (keyO (looked κ x.rows x.goal).2)]).h v _
            rw [el]
            exact p
          · refine Nx.sIfF (TyT.bE (TyT.test (TyE.op (TyE.var rfl) TyE.int r_eqI)) (decide_eq_false (by omega))) ?_
            have hnext : ∀ wt', wt' = stepC κ b wt c → Nx W B2 [some (selfP K C x), some (rep K (keyO wt')), none, some (rep K (.int (i : Nat))), none, none, some (rep K b.enc), none] N2 := fun wt' e => hN2 wt' ⟨fun j c2 hj e2 => by
              by_cases hjm : j < m
              · exact hz2 j c2 hjm e2
              · have : j = m := by omega
                subst this
                rw [hcm] at e2
                have := Option.some.inj e2
                subst this
                exact hs0, by rw [etk, List.foldl_append, ← hwt2]; exact e⟩
            by_cases hs1 : sure κ c b = 1
            · cases hw : wt with
              | none =>
                subst hw
                refine Nx.ifT (TyT.and (b1 := true) (b2 := true) (TyT.bE (TyT.test (TyE.op (TyE.var rfl) TyE.int r_eqI)) (decide_eq_true (by omega))) fun _ => TyT.test (K := K) (TyE.op (TyE.var rfl) TyE.non (r_isN (nonP_rep (d := .none))))) ?_
                refine Nx.set (P := rep K (keyO (openR κ c b))) (hop kn hbc hrd rfl rfl rfl) ((hnext (openR κ c b) ?_).le ?_)
                · unfold stepC
                  rw [if_pos ⟨hs1, rfl⟩]
                · exact Le.same (Le.same (Le.drop (Le.same (Le.drop (Le.drop (Le.same (Le.drop Le.nil)))))))
              | some k =>
                subst hw
                refine Nx.ifF (TyT.and (b1 := true) (b2 := false) (TyT.bE (TyT.test (TyE.op (TyE.var rfl) TyE.int r_eqI)) (decide_eq_true (by omega))) fun _ => TyT.test (K := K) (TyE.op (TyE.var rfl) TyE.non (r_isN (nonP_rep (d := kyD k))))) (Nx.next ((hnext (some k) ?_).le ?_))
                · unfold stepC
                  rw [if_neg fun z => by cases z.2]
                · exact Le.same (Le.same (Le.drop (Le.same (Le.drop (Le.drop (Le.same (Le.drop Le.nil)))))))
            · refine Nx.ifF (TyT.and (b1 := false) (b2 := false) (TyT.bE (TyT.test (TyE.op (TyE.var rfl) TyE.int r_eqI)) (decide_eq_false (by omega))) fun z => by cases z) (Nx.next ((hnext wt ?_).le ?_))
              · unfold stepC
                rw [if_neg fun z => hs1 z.1]
              · exact Le.same (Le.same (Le.drop (Le.same (Le.drop (Le.drop (Le.same (Le.drop Le.nil)))))))
      · obtain ⟨hz2, hwt2⟩ := hok2
        rw [List.length_map] at hz2 hwt2
        refine ((hN wt ⟨fun j r2 hj e2 => ?_, ?_⟩).wk hB2).le (Le.same (Le.same (Le.drop (Le.drop (Le.drop (Le.drop (Le.drop (Le.drop Le.nil))))))))
        · by_cases hji : j < i
          · exact hz j r2 hji e2
          · have : j = i := by omega
            subst this
            rw [List.getElem?_eq_getElem hi, hr] at e2
            have := Option.some.inj e2
            subst this
            exact zero_all hz2
        · rw [hwt2, List.take_length]
          unfold wants
          rw [List.take_add_one, List.getElem?_eq_getElem hi, List.foldl_append, hr] <;> rfl
    · rw [List.getElem?_eq_none (by rw [List.length_range]; omega)] at hP
      cases hP
  · obtain ⟨hz, hwt⟩ := hok
    rw [List.length_map, List.length_range] at hz hwt
    rw [List.take_length] at hwt
    subst hwt
    obtain ⟨hgc, hgd, hgl⟩ := hx.goal
    have hG : ∀ {W : Wd} {Γ : Ctx}, Γ[0]? = some (some (selfP K C x)) → TyE W Γ (tFld K (tVar 0) "last_goal") (rowP K x.goal) := fun e => TyE.fG O (hself e)
    have hno : x.rows.findIdx? (zeroIn κ) = none := findIdx_none hz
    have hlk : looked κ x.rows x.goal = if goalSure κ x.goal then (some x.rows.length, none) else if wants κ x.rows = none ∧ goalOpen κ x.goal = true then (none, firstOpen κ x.goal) else (none, wants κ x.rows) := by
      unfold looked
      rw [hno]
    generalize hg : x.goal = g at *
    obtain ⟨cs, b⟩ := g
    have hgc : ∀ c ∈ cs, BdC c b := hgc
    have hgd : b.deep < 10 := hgd
    have hgl : cs.length ≤ 1000 := hgl
    refine Nx.sAsg (vs := [5, 6]) (hG rfl) (TyG.tup (TyGs.cons TyG.name (TyGs.cons TyG.name TyGs.nil))) ?_
    refine Nx.sSet (P := lstOf K (cs.map fun c => tupOf K [rep K (.int (sure κ c b : Nat)), dctS K c])) (TyE.lcM cs (dctS K) _ (TyI.list ((TyE.var rfl).imp fun _ _ => lstN_of)) hgl fun c hc p Qs hp => ⟨_, TyG.name, TyE.tup (TyA.cons (hsu kn.ownL (hgc c hc) hgd rfl rfl rfl) (TyA.cons (TyE.var rfl) TyA.nil))⟩) ?_
    have hsome : ∀ {W : Wd} {Γ : Ctx}, Γ[2]? = some (some (lstOf K (cs.map fun c => tupOf K [rep K (.int (sure κ c b : Nat)), dctS K c]))) → TyE W Γ (tVar 2) (lstOf K (cs.map fun c => tupOf K [rep K (.int (sure κ c b : Nat)), dctS K c])) := fun e => TyE.var e
    have e2 : ∀ c, decide (((sure κ c b : Nat) : Int) = (2 : Int)) = decide (sure κ c b = 2) := fun c => decide_eq_decide.mpr (by omega)
    have e0 : ∀ c, decide (((sure κ c b : Nat) : Int) = (0 : Int)) = decide (sure κ c b = 0) := fun c => decide_eq_decide.mpr (by omega)
    have e1 : ∀ c, decide (((sure κ c b : Nat) : Int) = (1 : Int)) = decide (sure κ c b = 1) := fun c => decide_eq_decide.mpr (by omega)
    cases hgs : goalSure κ (cs, b) with
    | true =>
      refine Nx.sIfT (TyT.bE (TyT.tB (TyE.cb (TyA.cons (TyE.lcM cs (fun c => tupOf K [rep K (.int (sure κ c b : Nat)), dctS K c]) (fun c => rep K (.bool (decide (sure κ c b = 2)))) (TyI.list (hsome rfl)) hgl fun c hc p Qs hp => ⟨_, TyG.tup (TyGs.cons TyG.name (TyGs.cons TyG.name TyGs.nil)), (TyE.op (TyE.var rfl) TyE.int r_eqI).imp fun v H q => by rw [e2] at q; exact q⟩) TyA.nil) ra_allM)) hgs) ?_
      refine Nx.ret (TyE.tup (K := K) (TyA.cons (TyE.cb (TyA.cons (TyE.fR O (hself rfl)) TyA.nil) ra_lenL) (TyA.cons (TyE.non (K := K)) TyA.nil))) fun v H j bb p => hR v H j (hB.trans bb) ?_
      show (tupOf K [rep K (numD (looked κ x.rows (cs, b)).1), rep K (keyO (looked κ x.rows (cs, b)).2)]).h v _
      rw [hlk, if_pos hgs]
      rw [List.length_map] at p
      exact p
    | false =>
      refine Nx.sIfF (TyT.bE (TyT.tB (TyE.cb (TyA.cons (TyE.lcM cs (fun c => tupOf K [rep K (.int (sure κ c b : Nat)), dctS K c]) (fun c => rep K (.bool (decide (sure κ c b = 2)))) (TyI.list (hsome rfl)) hgl fun c hc p Qs hp => ⟨_, TyG.tup (TyGs.cons TyG.name (TyGs.cons TyG.name TyGs.nil)), (TyE.op (TyE.var rfl) TyE.int r_eqI).imp fun v H q => by rw [e2] at q; exact q⟩) TyA.nil) ra_allM)) hgs) ?_
      have hret : ∀ {Γ : Ctx} {o : Option Ky}, looked κ x.rows (cs, b) = (none, o) → Γ[1]? = some (some (rep K (keyO o))) → Nx W B' Γ (tRet (tTup (tCons (tC .non) (tCons (tVar 1) tNil))) D) := fun e eΓ =>
        Nx.ret (TyE.tup (K := K) (TyA.cons (TyE.non (K := K)) (TyA.cons (TyE.var eΓ) TyA.nil))) fun v H j bb p => hR v H j (hB.trans bb) (by
          show (tupOf K [rep K (numD (looked κ x.rows (cs, b)).1), rep K (keyO (looked κ x.rows (cs, b)).2)]).h v _
          rw [e]
          exact p)
      rw [hgs, if_neg Bool.false_ne_true] at hlk
      cases hw : wants κ x.rows with
      | some k =>
        rw [hw] at hlk
        refine Nx.sIfF (TyT.and (b1 := false) (b2 := false) (TyT.test (K := K) (TyE.op (TyE.var rfl) TyE.non (r_isN (nonP_rep (d := kyD k))))) fun z => by cases z) ?_
        exact hret (o := some k) (by rw [hlk, if_neg fun z => by cases z.1]) rfl
      | none =>
        rw [hw] at hlk
        cases hgo : goalOpen κ (cs, b) with
        | false =>
          refine Nx.sIfF (TyT.and (b1 := true) (b2 := false) (TyT.test (K := K) (TyE.op (TyE.var rfl) TyE.non (r_isN (nonP_rep (d := .none))))) fun _ => TyT.bE (TyT.notB (TyT.tB (TyE.cb (TyA.cons (TyE.lcM cs (fun c => tupOf K [rep K (.int (sure κ c b : Nat)), dctS K c]) (fun c => rep K (.bool (decide (sure κ c b = 0)))) (TyI.list (hsome rfl)) hgl fun c hc p Qs hp => ⟨_, TyG.tup (TyGs.cons TyG.name (TyGs.cons TyG.name TyGs.nil)), (TyE.op (TyE.var rfl) TyE.int r_eqI).imp fun v H q => by rw [e0] at q; exact q⟩) TyA.nil) ra_anyM))) hgo) ?_
          exact hret (o := none) (by rw [hlk, hgo, if_neg fun z => by cases z.2]) rfl
        | true =>
          refine Nx.sIfT (TyT.and (b1 := true) (b2 := true) (TyT.test (K := K) (TyE.op (TyE.var rfl) TyE.non (r_isN (nonP_rep (d := .none))))) fun _ => TyT.bE (TyT.notB (TyT.tB (TyE.cb (TyA.cons (TyE.lcM cs (fun c => tupOf K [rep K (.int (sure κ c b : Nat)), dctS K c]) (fun c => rep K (.bool (decide (sure κ c b = 0)))) (TyI.list (hsome rfl)) hgl fun c hc p Qs hp => ⟨_, TyG.tup (TyGs.cons TyG.name (TyGs.cons TyG.name TyGs.nil)), (TyE.op (TyE.var rfl) TyE.int r_eqI).imp fun v H q => by rw [e0] at q; exact q⟩) TyA.nil) ra_anyM))) hgo) ?_
          have hex : ∃ c r, cs.filter (fun c => decide (sure κ c b = 1)) = c :: r := by
            cases hf : cs.filter (fun c => decide (sure κ c b = 1)) with
            | cons c r => exact ⟨c, r, rfl⟩
            | nil =>
              exfalso
              have h1 : ∀ c ∈ cs, sure κ c b ≠ 1 := fun c hc e => by
                have := List.filter_eq_nil_iff.mp hf c hc
                exact this (decide_eq_true e)
              have h0 : ∀ c ∈ cs, sure κ c b ≠ 0 := fun c hc e => by
                have hno : (cs.any fun c => decide (sure κ c b = 0)) = false := by
                  have := hgo
                  unfold goalOpen at this
                  simpa using this
                have h2 : (cs.any fun c => decide (sure κ c b = 0)) = true := List.any_eq_true.mpr ⟨c, hc, decide_eq_true e⟩
                rw [hno] at h2
                cases h2
              have hyes : goalSure κ (cs, b) = true := List.all_eq_true.mpr fun c hc => decide_eq_true (by
                have q1 := sure_le κ c b
                have q2 := h1 c hc
                have q3 := h0 c hc
                show sure κ c b = 2
                omega)
              rw [hyes] at hgs
              cases hgs
          obtain ⟨c0, r0, hf⟩ := hex
          have hfo : firstOpen κ (cs, b) = openR κ c0 b := by
            unfold firstOpen
            rw [hf]
          refine Nx.set (P := rep K (keyO (openR κ c0 b))) (TyE.op (TyE.lcF cs (fun c => tupOf K [rep K (.int (sure κ c b : Nat)), dctS K c]) (fun c => decide (sure κ c b = 1)) (fun c => rep K (keyO (openR κ c b))) (TyI.list (hsome rfl)) hgl fun c hc p Qs hp => ⟨_, TyG.tup (vs := [7, 4]) (TyGs.cons (TyG.name (i := 7)) (TyGs.cons (TyG.name (i := 4)) TyGs.nil)), ?_, fun _ => hop kn.ownL (hgc c hc) hgd rfl rfl rfl⟩) TyE.int (r_ixAL (i := 0) (by rw [hf] <;> rfl))) (hret (by rw [hlk, hgo, if_pos ⟨rfl, rfl⟩, hfo]) rfl)
          exact TyT.bE (TyT.test (K := K) (TyE.op (ta := tVar 7) (TyE.var rfl) TyE.int r_eqI)) (e1 c)
end
end Tk
namespace Tk
open PySem PySem.Spec PyProof.Rows L2
/-! ### the dict seen -/
def selfVP (K : PySem.W.Frag) (pr : Program) (wo : World) (C : Addr) (x : Fd) (κ : KV2) : Pd := ⟨fun v H => (selfP K C x).h v H ∧ (kvP K pr wo x.d κ).h (.ref x.d) H, fun e ⟨a, b⟩ => ⟨Pd.mono _ e a, Pd.mono _ e b⟩⟩
section
variable {K : PySem.W.Frag} {pr : Program} {wo : World} {C : Addr} {W : Wd} {Γ Γ' : Ctx} {te ta td ty tv : TE} {tA : TA} {P : Pd} {Ps Qs : List Pd} {B : Hp} {x : Fd} {d : Addr} {κ : KV2} {k : Ky}
def fpsV (K : PySem.W.Frag) (pr : Program) (wo : World) (x : Fd) (κ : KV2) : List (Str × Pd) := [("own_scheme", schP K x.S), ("own_atoms", rep K (atomsD x.as)), ("known_rows", kvP K pr wo x.d κ)]
theorem selfRdV : SelfRd C W (selfVP K pr wo C x κ) (fpsV K pr wo x κ) := fun v H j ⟨hv, hk⟩ => by
  obtain ⟨a, dx, fs, e1, e2, e3, e4⟩ := selfRd v H j hv
  refine ⟨a, dx, fs, e1, e2, e3, fun f Q hq => ?_⟩
  rcases List.mem_cons.mp hq with e | hq
  · injection e with e5 e6
    subst e5 e6
    exact e4 _ _ (.head _)
  · rcases List.mem_cons.mp hq with e | hq
    · injection e with e5 e6
      subst e5 e6
      exact e4 _ _ (.tail _ (.head _))
    · have e : (f, Q) = (("known_rows" : Str), kvP K pr wo x.d κ) := List.mem_singleton.mp hq
      injection e with e5 e6
      subst e5 e6
      obtain ⟨u, hu, pu⟩ := e4 "known_rows" (isV (.ref x.d)) (.tail _ (.tail _ (.tail _ (.tail _ (.head _)))))
      have pu' : u = .ref x.d := pu
      exact ⟨u, hu, by rw [pu']; exact hk⟩
theorem TyI.kitems (h : TyE W Γ te (kvP K pr wo d κ)) : TyI W Γ (iKItems K pr wo te) (κ.map fun p => tupOf K [rep K (kyD p.1), rep K (.bool p.2)]) := fun σ H R j e r =>
  h σ H _ j e fun v H1 j1 s1 ⟨ev, o, eo, xs, ek, kd⟩ => by
    have eo1 := (vw_some eo).2
    refine ⟨d, o, xs, ev, eo1, kd.mono vw_le, r _ H1 j1 s1 ?_⟩
    have hl : (κ.map fun p => tupOf K [rep K (kyD p.1), rep K (.bool p.2)]).length = xs.length := by
      rw [List.length_map, ← ek]
      unfold kvals
      rw [List.length_map]
    refine ⟨fun W' H' i j' b' hi => ⟨(vw_some (b' _ _ eo)).2, hl ▸ hi⟩, fun W' H' j' b' => ⟨(vw_some (b' _ _ eo)).2, Nat.le_of_eq hl.symm⟩, fun W' H' i v H2 P j' b' hP hy => ?_⟩
    obtain ⟨T, y, hy1, ev2, hT, eH⟩ := hy
    subst ev2 eH
    obtain ⟨j2, s2, e2⟩ := W'.alloc j' hT (.tup [.ref y.2.1, .bl y.2.2])
    refine ⟨j2, s2, ?_⟩
    have hk : κ[i]? = some (y.1, y.2.2) := by
      rw [← ek]
      unfold kvals
      rw [List.getElem?_map, hy1] <;> rfl
    rw [List.getElem?_map, hk] at hP
    have hP' : tupOf K [rep K (kyD y.1), rep K (.bool y.2.2)] = P := by simpa using hP
    subst hP'
    exact ⟨T, _, rfl, SqT.of e2, .cons (Pd.mono (rep K (kyD y.1)) s2 (Pd.mono (rep K (kyD y.1)) b' (kd.ks y (List.mem_of_getElem? hy1)))) (.cons (.bl _) .nil)⟩
def lstA (K : PySem.W.Frag) : Pd := ⟨fun v H => ∃ a xs, v = .ref a ∧ SqL K H a xs, fun e ⟨a, xs, h1, h2⟩ => ⟨a, xs, h1, e.seq h2⟩⟩
theorem ra_tupA : RAT W (rTupOf K) [lstA K] anyP := fun xs H Q j p q => by
  obtain ⟨u, rfl, a, ys, rfl, hs⟩ := p.one
  refine ⟨a, ys, rfl, .inl ⟨sq_l hs, fun l hl => ?_⟩⟩
  obtain ⟨j2, s2, e2⟩ := W.alloc j hl (.tup ys)
  exact q _ _ j2 s2 trivial
theorem refs_of {H : Hp} : ∀ {rs : List (List Str)} {us : List V}, PdAll (rs.map fun r => rep K (strsD r)) us H → ∃ xs : List RwA, us = xs.map (fun x => V.ref x.2) ∧ xs.length = rs.length ∧ ∀ x ∈ xs, Dp K H (.ref x.2) (strsD x.1) ∧ x.1 ∈ rs
  | [], us, h => ⟨[], h.unnil, rfl, fun x hx => by cases hx⟩
  | r :: rs, us, h => by
    obtain ⟨u, vs, rfl, h1, h2⟩ := PdAll.uncons h
    obtain ⟨xs, e, hl, hx⟩ := refs_of h2
    have h1' : Dp K H u (strsD r) := h1
    have hu : ∃ b, u = .ref b := by
      cases h1' with
      | tup hs _ => exact ⟨_, rfl⟩
    obtain ⟨b, rfl⟩ := hu
    refine ⟨(r, b) :: xs, by rw [e] <;> rfl, by rw [List.length_cons, List.length_cons, hl], fun x hx2 => ?_⟩
    rcases List.mem_cons.mp hx2 with e2 | hx2
    · rw [e2]; exact ⟨h1', .head _⟩
    · exact ⟨(hx x hx2).1, .tail _ (hx x hx2).2⟩
theorem ra_sortK {rs : List (List Str)} (hl : rs.length ≤ 1000) (h1 : ∀ r ∈ rs, 1 ≤ r.length) : RAT W (rSortK K) [lstOf K (rs.map fun r => rep K (strsD r))] (lstA K) := fun us H Q j p q => by
  obtain ⟨u, rfl, a, ys, rfl, hs, p1⟩ := p.one
  obtain ⟨xs, rfl, hxl, hx⟩ := refs_of p1
  refine ⟨a, xs, rfl, sq_l hs, by omega, fun x hxm => ⟨dp_up (hx x hxm).1, h1 _ (hx x hxm).2⟩, fun p out hp ho => ?_⟩
  obtain ⟨j2, s2, e2⟩ := W.alloc j hp (.lst (out.map fun x => V.ref x.2))
  exact q _ _ j2 s2 ⟨p, _, rfl, SqL.of e2⟩
end
section
variable {P : Program} {w : World} {K : PySem.W.Frag} {mg : Str → Option Value} {base : Heap}
def spWorldSo (K : PySem.W.Frag) (P : Program) (w : World) (C : Addr) : Sp := SpF (δ := LoA) (fun x => [selfVP K P w C x.x x.κ]) (fun x => anyP) (fun x W => x.x.S.Good ∧ x.κ.length ≤ 1000 ∧ ∀ p ∈ x.κ, 1 ≤ p.1.2.length)
theorem scFWorldSo : FnScope ["self", "rows", "tie", "own", "is_so", "name", "row"] ["self"] (defScope sFWorldSo) := ⟨rfl, rfl, rfl, by decide +kernel, rfl, by decide +kernel, by decide +kernel⟩
theorem ok_FlatFinding_world_so (T : Tx K mg) {f : Addr} {fd : FuncData} (F : FnP K "world_so" "FlatFinding.world_so" sFWorldSo f fd) {C : Addr} (O : To K C) : FnOk P w K mg base CX0 (1) f fd ["self"] (spWorldSo K P w C) := by
  refine fn_ok F scFWorldSo (fun _ => rfl) fun cdv A outer s H E hr => ?_
  refine ⟨_, (pss_cons (ps_set (i := 1) scFWorldSo.nd rfl (Or.inl rfl) (pe_lst pa_nil))
      (pss_cons (ps_for PassesOwn.never rfl (k_tupI K (pe_ix (k_ix K) (k_fld K (pv 0)) pe_int (fun _ _ => rfl))) (k_gtup K 2 (pgs_cons (pg_name (i := 2) scFWorldSo.nd rfl (Or.inr rfl)) (pgs_cons (pg_name (i := 3) scFWorldSo.nd rfl (Or.inl rfl)) pgs_nil))) (pss_one (ps_expr (k_bm K PySem.F.plainAttrs_list PySem.F.slot_list_append PySem.F.type_list_append mt_append (pv 1) (pa_cons (pe_callTy (k_tup K) rfl T.tuple bt_tuple (pa_cons (pe_callB (k_sortK K hr.units) rfl T.sorted bt_sorted (pa_cons (pe_lc (own := [("is_so", 4), ("name", 5), ("row", 6)]) rfl scFWorldSo.nd (k_kitems K P w (k_fld K (pv 0))) (blkOk_by (own := [("is_so", 4), ("name", 5), ("row", 6)]) (N := ["self", "rows", "tie", "own", "is_so", "name", "row"]) (sc := defScope sFWorldSo) (by decide +kernel)) (fun _ _ _ _ _ => (k_gtup K 2 (pgs_cons (k_gtup K 2 (pgs_cons (pg_name (i := 5) scFWorldSo.nd rfl (Or.inl rfl)) (pgs_cons (pg_name (i := 6) scFWorldSo.nd rfl (Or.inl rfl)) pgs_nil))) (pgs_cons (pg_name (i := 4) scFWorldSo.nd rfl (Or.inl rfl)) pgs_nil)))) (fun _ _ _ _ _ => (pts_one (PW.pt (pw_and (pt_val (pv 4)) (pw_and1 (pt_cmpR op_eq (pv 5) (pv 2) (nomark _))))))) (fun _ _ _ _ _ => (pv 6))) pa_nil)) pa_nil)) pa_nil)))))
      (pss_one (ps_ret (pe_tup (pa_cons (k_fld K (pv 0)) (pa_cons (pe_callTy (k_tup K) rfl T.tuple bt_tuple (pa_cons (pv 1) pa_nil)) pa_nil))))))), ?_⟩
  -- N: [(0, 'self'), (1, 'rows'), (2, 'tie'), (3, 'own'), (4, 'is_so'), (5, 'name'), (6, 'row')]; cells: ['tie']
  rintro ⟨x, κ⟩ W ⟨hg, hl, hk⟩ B D hn hR
  have hg : x.S.Good := hg
  have hl : κ.length ≤ 1000 := hl
  have hk : ∀ p ∈ κ, 1 ≤ p.1.2.length := hk
  have h5 := hg.t5
  have hs : ∀ {W : Wd} {Γ : Ctx}, Γ[0]? = some (some (selfVP K P w C x κ)) → TyE W Γ (tFld K (tVar 0) "own_scheme") (schP K x.S) := fun e => TyE.fld O.cl O.na1 selfRdV (TyE.var e) (.head _)
  have ha : ∀ {W : Wd} {Γ : Ctx}, Γ[0]? = some (some (selfVP K P w C x κ)) → TyE W Γ (tFld K (tVar 0) "own_atoms") (rep K (atomsD x.as)) := fun e => TyE.fld O.cl O.na2 selfRdV (TyE.var e) (.tail _ (.head _))
  have hkr : ∀ {W : Wd} {Γ : Ctx}, Γ[0]? = some (some (selfVP K P w C x κ)) → TyE W Γ (tFld K (tVar 0) "known_rows") (kvP K P w x.d κ) := fun e => TyE.fld O.cl O.na5 selfRdV (TyE.var e) (.tail _ (.tail _ (.head _)))
  refine Nx.sOwn (K := K) fun p hp => ?_
  refine Nx.for_ (ι := Unit) (vs := [2, 3]) (fun i _ => W.ownL K p (List.replicate i anyP)) (fun _ _ => [some (selfVP K P w C x κ), some (isV (.ref p)), none, none, none, none, none]) (fun _ _ => True)
    (TyI.tup ((TyE.op (hs rfl) TyE.int (r_ixAT (i := 1) rfl)).imp fun v H q => tupZ_of q)) () trivial rfl (Le.refl _) (fun i Pt u B' hP _ hB => ?_) fun u B' _ hB => ?_
  · rw [List.getElem?_map] at hP
    cases ht : x.S.ties[i]? with
    | none => rw [ht] at hP; cases hP
    | some t =>
      rw [ht] at hP
      have hP' : tieP K t = Pt := by simpa using hP
      subst hP'
      have hi : i < x.S.ties.length := (List.getElem?_eq_some_iff.mp ht).1
      refine ⟨_, TyG.tup (TyGs.cons TyG.name (TyGs.cons TyG.name TyGs.nil)), fun N hN => ?_⟩
      have hN' := hN () trivial
      rw [List.replicate_succ'] at hN'
      refine Nx.app (P := anyP) (TyE.var rfl) (TyE.cb (TyA.cons (TyE.cb (TyA.cons ((TyE.lcF (K := K) κ (fun p => tupOf K [rep K (kyD p.1), rep K (.bool p.2)]) (fun p => p.2 && decide (p.1.1 = t.1)) (fun p => rep K (strsD p.1.2)) (TyI.kitems (hkr rfl)) hl fun p hp2 q Qs hq =>
        ⟨_, TyG.tup (TyGs.cons ((TyG.tup (TyGs.cons TyG.name (TyGs.cons TyG.name TyGs.nil))).imp fun v H => tup_of (ds := [.str p.1.1, strsD p.1.2])) (TyGs.cons TyG.name TyGs.nil)),
          TyT.and (TyT.test (K := K) (b := p.2) (TyE.var rfl)) fun _ => TyT.test (TyE.op (TyE.var rfl) (TyE.var rfl) r_eqS), fun _ => TyE.var rfl⟩).imp fun v H q => ?_) TyA.nil) (ra_sortK (rs := (κ.filter fun p => p.2 && decide (p.1.1 = t.1)).map fun p => p.1.2) ?_ ?_)) TyA.nil) ra_tupA) (by rw [List.length_replicate]; omega) (hN'.le (Le.same (Le.same (Le.drop (Le.drop (Le.drop (Le.drop (Le.drop Le.nil))))))))
      · rw [List.map_map]
        exact q
      · rw [List.length_map]
        exact Nat.le_trans (List.length_filter_le _ _) hl
      · intro r hr
        obtain ⟨p, hp3, rfl⟩ := List.mem_map.mp hr
        exact hk p (List.mem_filter.mp hp3).1
  · refine Nx.free 1 hp rfl ?_
    refine Nx.ret ((TyE.tup (K := K) (TyA.cons (ha rfl) (TyA.cons (TyE.cb (TyA.cons ((TyE.var rfl).imp fun _ _ => lstN_of) TyA.nil) ra_tupL) TyA.nil))).imp fun _ _ _ => trivial) fun v H j bb p => hR v H j (hB.trans bb) p
end
end Tk
namespace Tk
open PySem PySem.Spec PyProof.Rows L2
/-! ### what is found -/
def fnd (rows : List Row) (g : Row) : Nat → KV2 → Bool
  | 0, _ => true
  | n + 1, κ => match looked κ rows g with
    | (some _, _) => true
    | (none, none) => false
    | (none, some k) => fnd rows g n (κ ++ [(k, false)]) && fnd rows g n (κ ++ [(k, true)])
def Fuel (rows : List Row) (g : Row) : Nat → KV2 → Prop
  | 0, _ => False
  | n + 1, κ => ∀ k, looked κ rows g = (none, some k) → Fuel rows g n (κ ++ [(k, false)]) ∧ Fuel rows g n (κ ++ [(k, true)])
/-- a key that is asked for -/
def KeyNew (κ : KV2) (k : Ky) : Prop := κ.lookup k = none ∧ 1 ≤ k.2.length
theorem openR_new {κ : KV2} {c : Ch} {k : Ky} : ∀ {b : Bd}, openR κ c b = some k → KeyNew κ k
  | .tie a b t, h => by
    unfold openR at h
    split at h
    · cases h
    · rename_i hn
      have e := Option.some.inj h
      subst e
      refine ⟨?_, ?_⟩
      · cases hl : κ.lookup (rowK c a b t) with
        | none => rfl
        | some v => rw [hl] at hn; exact absurd rfl hn
      · show 1 ≤ ((a :: b.toList).map (vl c)).length
        rw [List.length_map, List.length_cons]; omega
  | .same a b s, h => by cases h
  | .neg f, h => openR_new (b := f) h
  | .bin o f g, h => by
    have h' : (match openR κ c f with | some k => some k | none => openR κ c g) = some k := h
    cases hf : openR κ c f with
    | some k2 =>
      rw [hf] at h'
      have e := Option.some.inj h'
      subst e
      exact openR_new hf
    | none =>
      rw [hf] at h'
      exact openR_new (b := g) h'
theorem foldC_new {κ : KV2} {b : Bd} {k : Ky} : ∀ {cs : List Ch} {acc : Option Ky}, (∀ k, acc = some k → KeyNew κ k) → cs.foldl (stepC κ b) acc = some k → KeyNew κ k
  | [], acc, ha, h => ha k h
  | c :: cs, acc, ha, h => by
    refine foldC_new (cs := cs) (acc := stepC κ b acc c) (fun k2 e => ?_) h
    unfold stepC at e
    split at e
    · exact openR_new e
    · exact ha k2 e
theorem foldR_new {κ : KV2} {k : Ky} : ∀ {rows : List Row} {acc : Option Ky}, (∀ k, acc = some k → KeyNew κ k) → rows.foldl (fun acc r => r.1.foldl (stepC κ r.2) acc) acc = some k → KeyNew κ k
  | [], acc, ha, h => ha k h
  | r :: rows, acc, ha, h => foldR_new (rows := rows) (acc := r.1.foldl (stepC κ r.2) acc) (fun k2 e => foldC_new ha e) h
theorem looked_new {κ : KV2} {rows : List Row} {g : Row} {k : Ky} {o : Option Nat} (h : looked κ rows g = (o, some k)) : KeyNew κ k := by
  unfold looked at h
  split at h
  · cases h
  · split at h
    · cases h
    · split at h
      · injection h with _ h2
        unfold firstOpen at h2
        split at h2
        · cases h2
        · exact openR_new h2
      · injection h with _ h2
        exact foldR_new (fun _ e => by cases e) h2
theorem put_new {κ : KV2} {k : Ky} {v : Bool} (h : κ.lookup k = none) : putL κ k v = κ ++ [(k, v)] := by
  unfold putL
  rw [h]
  rfl
theorem lookup_snoc {κ : KV2} {k : Ky} {v : Bool} (h : κ.lookup k = none) : (κ ++ [(k, v)]).lookup k = some v := by
  induction κ with
  | nil =>
    show List.lookup k [(k, v)] = _
    rw [List.lookup_cons, beq_self_eq_true]
  | cons p κ ih =>
    obtain ⟨a, b⟩ := p
    rw [List.lookup_cons] at h
    cases hk : k == a with
    | true => rw [hk] at h; cases h
    | false =>
      rw [hk] at h
      rw [List.cons_append, List.lookup_cons, hk]
      exact ih h
theorem not_key {κ : KV2} {k : Ky} (h : κ.lookup k = none) : ∀ p ∈ κ, ¬ p.1 = k := by
  induction κ with
  | nil => intro p hp; cases hp
  | cons q κ ih =>
    obtain ⟨a, b⟩ := q
    rw [List.lookup_cons] at h
    cases hk : k == a with
    | true => rw [hk] at h; cases h
    | false =>
      rw [hk] at h
      intro p hp
      rcases List.mem_cons.mp hp with e | hp
      · rw [e]
        intro z
        have z' : a = k := z
        rw [z', beq_self_eq_true] at hk
        cases hk
      · exact ih h p hp
theorem put_again {κ : KV2} {k : Ky} {v u : Bool} (h : κ.lookup k = none) : putL (κ ++ [(k, v)]) k u = κ ++ [(k, u)] := by
  unfold putL
  rw [lookup_snoc h, Option.isSome_some, if_pos rfl, List.map_append]
  have e : κ.map (fun p => if p.1 = k then (p.1, u) else p) = κ := by
    refine (List.map_congr_left fun p hp => ?_).trans (List.map_id κ)
    show (if p.1 = k then (p.1, u) else p) = p
    rw [if_neg (not_key h p hp)]
  rw [e]
  show κ ++ [if k = k then (k, u) else (k, v)] = _
  rw [if_pos rfl]
theorem drop_snoc {κ : KV2} {k : Ky} {v : Bool} (h : κ.lookup k = none) : dropL (κ ++ [(k, v)]) k = κ := by
  unfold dropL
  rw [List.filter_append]
  have e : κ.filter (fun p => decide (p.1 ≠ k)) = κ := List.filter_eq_self.mpr fun p hp => decide_eq_true (not_key h p hp)
  rw [e]
  show κ ++ [(k, v)].filter (fun p => decide (p.1 ≠ k)) = κ
  rw [List.filter_cons, if_neg (by simp)]
  exact List.append_nil κ
/-! ### worlds that hold two things -/
section
variable {K : PySem.W.Frag} {pr : Program} {wo : World} {C : Addr} {W : Wd} {Γ Γ' : Ctx} {Ps : List Pd} {B : Hp} {x : Fd} {d p : Addr} {κ : KV2} {k : L2.St → Hp → Prop}
theorem hide_hide {a b : Addr} {H : Hp} : hide a (hide b H) = hide b (hide a H) := by
  funext c
  by_cases h1 : c = a
  · by_cases h2 : c = b
    · subst h1 h2; rfl
    · subst h1; rw [hide_same, hide_ne h2, hide_same]
  · by_cases h2 : c = b
    · subst h2; rw [hide_ne h1, hide_same, hide_same]
    · rw [hide_ne h1, hide_ne h2, hide_ne h2, hide_ne h1]
theorem swap_v {H : Hp} : ((W.ownL K p Ps).ownK K pr wo d κ).v H = ((W.ownK K pr wo d κ).ownL K p Ps).v H := by
  rw [ownK_v, ownL_v, ownL_v, ownK_v, hide_hide]
theorem swap_J {H : Hp} (hpd : p ≠ d) : ((W.ownL K p Ps).ownK K pr wo d κ).J H ↔ ((W.ownK K pr wo d κ).ownL K p Ps).J H := by
  have e1 : vw (d :: (W.ownL K p Ps).A) H = vw (p :: (W.ownK K pr wo d κ).A) H := swap_v (W := W)
  have e2 : vw (p :: W.A) (hide d H) = vw (d :: (W.ownL K p Ps).A) H := by rw [vw_cons (p := d)] <;> rfl
  have e3 : vw (d :: W.A) (hide p H) = vw (p :: (W.ownK K pr wo d κ).A) H := by rw [vw_cons (p := p)] <;> rfl
  constructor
  · rintro ⟨⟨j, o, eo, f⟩, o2, eo2, f2⟩
    rw [hide_ne hpd] at eo
    refine ⟨⟨by rw [hide_hide]; exact j, o2, by rw [hide_ne (Ne.symm hpd)]; exact eo2, ?_⟩, o, eo, ?_⟩
    · rw [e3, ← e1]; exact f2
    · rw [← e1, ← e2]; exact f
  · rintro ⟨⟨j, o, eo, f⟩, o2, eo2, f2⟩
    rw [hide_ne (Ne.symm hpd)] at eo
    refine ⟨⟨by rw [hide_hide]; exact j, o2, by rw [hide_ne hpd]; exact eo2, ?_⟩, o, eo, ?_⟩
    · rw [e2, e1]; exact f2
    · rw [e1, ← e3]; exact f
theorem Nx.toK (hpd : p ≠ d) (h : Nx ((W.ownL K p Ps).ownK K pr wo d κ) B Γ k) : Nx ((W.ownK K pr wo d κ).ownL K p Ps) B Γ k := fun σ H j b e => h σ H ((swap_J hpd).mpr j) (by rw [swap_v]; exact b) (by rw [swap_v]; exact e)
theorem Nx.toL (hpd : p ≠ d) (h : Nx ((W.ownK K pr wo d κ).ownL K p Ps) B Γ k) : Nx ((W.ownL K p Ps).ownK K pr wo d κ) B Γ k := fun σ H j b e => h σ H ((swap_J hpd).mp j) (by rw [← swap_v]; exact b) (by rw [← swap_v]; exact e)
theorem Nx.freeK (hd : x.d ∉ W.A) (e : Γ[0]? = some (some (selfP K C x))) (h : Nx W B (Γ.set 0 (some (selfVP K pr wo C x κ))) k) : Nx (W.ownK K pr wo x.d κ) B Γ k := fun σ H j b en => by
  obtain ⟨jf, sf, pf⟩ := ownK_free j hd
  obtain ⟨v, e1, e2⟩ := en.at_ 0 _ e
  have q := (en.mono sf).set 0 (P := selfVP K pr wo C x κ) (v := v) ⟨Pd.mono _ sf e2, pf⟩
  rw [set_at e1] at q
  exact h σ H jf (b.trans sf) q
end
section
variable {P : Program} {w : World} {K : PySem.W.Frag} {mg : Str → Option Value} {base : Heap}
structure FoOk (x : Fd) (n : Nat) (κ : KV2) : Prop where
  ok : x.Ok
  g : x.S.Good
  fuel : Fuel x.rows x.goal n κ
  few : κ.length + n ≤ 500
  ks : ∀ p ∈ κ, 1 ≤ p.1.2.length
def ansP (K : PySem.W.Frag) (s : Str) : Pd := tupOf K [rep K (.str s), anyP]
def spFound (K : PySem.W.Frag) (P : Program) (w : World) (C : Addr) (n : Nat) : Sp := fun vs H Q _ => ∃ (W : Wd) (x : Fd) (κ : KV2), FoOk x n κ ∧ x.d ∉ W.A ∧ (W.ownK K P w x.d κ).J H ∧ PdAll [selfP K C x] vs ((W.ownK K P w x.d κ).v H) ∧
  (fnd x.rows x.goal n κ = true → ∀ v H', (W.ownK K P w x.d κ).J H' → Same ((W.ownK K P w x.d κ).v H) ((W.ownK K P w x.d κ).v H') → (ansP K "none").h v ((W.ownK K P w x.d κ).v H') → Q v H') ∧
  (fnd x.rows x.goal n κ = false → ∀ v H', W.J H' → Same ((W.ownK K P w x.d κ).v H) (W.v H') → (ansP K "world").h v (W.v H') → Q v H')
/-- word, told = self.found() -/
theorem Nx.sFound {C : Addr} {W : Wd} {B : Hp} {Γ : Ctx} {D : Ends} {us : TS} {E : XK} {n i1 i2 : Nat} {x : Fd} {κ : KV2} (hx : FoOk x n κ) (hd : x.d ∉ W.A) (e0 : Γ[0]? = some (some (selfP K C x)))
    (h1 : fnd x.rows x.goal n κ = true → Nx (W.ownK K P w x.d κ) B ((Γ.set i1 (some (rep K (.str "none")))).set i2 (some anyP)) (us D)) (h2 : fnd x.rows x.goal n κ = false → Nx W B ((Γ.set i1 (some (rep K (.str "world")))).set i2 (some anyP)) (us D)) :
    Nx (W.ownK K P w x.d κ) B Γ (tSeq (tAsg (tMeth C "found" (spFound K P w C n) [] E (tVar 0) tNil) (gTup K 2 (gCons (gName i1) (gCons (gName i2) gNil)))) us D) := fun σ H j b en => by
  obtain ⟨v, e1, e2⟩ := en.at_ 0 _ e0
  refine ⟨v, e1, ?_⟩
  obtain ⟨a, dx, fs, ev, ea, hnm, _⟩ := selfRd v H j e2
  refine ⟨a, dx, fs, ev, ea, hnm "found" (by decide +kernel), ?_⟩
  refine ⟨W, x, κ, hx, hd, j, .cons e2 .nil, fun hf u H' j' s' p' => ?_, fun hf u H' j' s' p' => ?_⟩
  · obtain ⟨t, xs, rfl, hs, hp⟩ := p'
    obtain ⟨y, z, rfl, py, pz⟩ := hp.two
    refine ⟨t, _, rfl, sq_t hs, rfl, y, _, rfl, z, _, rfl, rfl, ?_⟩
    exact h1 hf _ H' j' (b.trans s') (((en.mono s').set i1 py).set i2 pz)
  · obtain ⟨t, xs, rfl, hs, hp⟩ := p'
    obtain ⟨y, z, rfl, py, pz⟩ := hp.two
    refine ⟨t, _, rfl, sq_t hs, rfl, y, _, rfl, z, _, rfl, rfl, ?_⟩
    exact h2 hf _ H' j' (b.trans s') (((en.mono s').set i1 py).set i2 pz)
theorem tup_any {P1 P2 : Pd} {v : V} {H : Hp} (h : (tupOf K [P1, P2]).h v H) : (tupOf K [P1, anyP]).h v H := by
  obtain ⟨a, xs, e, hs, hp⟩ := h
  obtain ⟨y, z, rfl, py, pz⟩ := hp.two
  exact ⟨a, _, e, hs, .cons py (.cons trivial .nil)⟩
theorem len_found {C : Addr} {n : Nat} : ∀ vs H Q E, spFound K P w C n vs H Q E → vs.length = [("self" : Str)].length := fun vs H Q E ⟨W, x, κ, _, _, _, p, _⟩ => by rw [← p.len] <;> rfl
theorem scFFound : FnScope ["self", "trees", "is_so", "number", "key", "word", "told"] ["self"] (defScope sFFound) := ⟨rfl, rfl, rfl, by decide +kernel, rfl, by decide +kernel, by decide +kernel⟩
theorem ok_FlatFinding_found (T : Tx K mg) {f : Addr} {fd : FuncData} (F : FnP K "found" "FlatFinding.found" sFFound f fd) {n : Nat} {C : Addr} (O : To K C) (D_found : MethOk P w K mg base (n + 16) C "found" ["self"] (spFound K P w C n)) (D_world_so : MethOk P w K mg base 1 C "world_so" ["self"] (spWorldSo K P w C)) (D_looked : MethOk P w K mg base 16 C "looked" ["self"] (spLooked K P w C)) : FnOk P w K mg base CX0 (n + 17) f fd ["self"] (spFound K P w C (n + 1)) := by
  obtain ⟨f_found, fd_found, G_found, M_found, b_found⟩ := D_found.ex
  obtain ⟨f_world_so, fd_world_so, G_world_so, M_world_so, b_world_so⟩ := D_world_so.ex
  obtain ⟨f_looked, fd_looked, G_looked, M_looked, b_looked⟩ := D_looked.ex
  refine fn_okS F scFFound len_found fun cdv A outer s H E hr => ?_
  refine ⟨_, (pss_cons (ps_asg (pe_meth0 (pv 0) O.cl M_looked G_looked (hr.mono (by omega)) b_looked .nil pass0) (k_gtup K 2 (pgs_cons (pg_name (i := 3) scFFound.nd rfl (Or.inl rfl)) (pgs_cons (pg_name (i := 4) scFFound.nd rfl (Or.inl rfl)) pgs_nil))))
      (pss_cons (ps_if (pt_cmpR op_notNn (pv 3) pe_non (nomark _)) (pss_one (ps_ret (pe_tup (pa_cons pe_str (pa_cons (pe_tup (pa_cons pe_str (pa_cons (pv 3) pa_nil))) pa_nil))))) pss_nil)
      (pss_cons (ps_if (pt_cmpR op_isNn (pv 4) pe_non (nomark _)) (pss_one (ps_ret (pe_tup (pa_cons pe_str (pa_cons (pe_meth0 (pv 0) O.cl M_world_so G_world_so (hr.mono (by omega)) b_world_so .nil pass0) pa_nil))))) pss_nil)
      (pss_cons (ps_set (i := 1) scFFound.nd rfl (Or.inl rfl) (pe_lst pa_nil))
      (pss_cons (ps_for PassesOwn.never rfl (k_tupI K (pe_tup (pa_cons pe_bl (pa_cons pe_bl pa_nil)))) (pg_name (i := 2) scFFound.nd rfl (Or.inl rfl)) (pss_cons (k_kput K P w hr.units (k_fld K (pv 0)) (pv 4) (pv 2) rfl)
      (pss_cons (ps_asg (pe_meth0 (pv 0) O.cl M_found G_found (hr.mono (by omega)) b_found .nil pass0) (k_gtup K 2 (pgs_cons (pg_name (i := 5) scFFound.nd rfl (Or.inl rfl)) (pgs_cons (pg_name (i := 6) scFFound.nd rfl (Or.inl rfl)) pgs_nil))))
      (pss_cons (ps_if (pt_cmpR op_eq (pv 5) pe_str (nomark _)) (pss_one (ps_ret (pe_tup (pa_cons (pv 5) (pa_cons (pv 6) pa_nil))))) pss_nil)
      (pss_one (ps_expr (k_bm K PySem.F.plainAttrs_list PySem.F.slot_list_append PySem.F.type_list_append mt_append (pv 1) (pa_cons (pv 6) pa_nil))))))))
      (pss_cons (ps_expr (k_kpop K P w hr.units (k_fld K (pv 0)) (pv 4) ⟨rfl, rfl, rfl, rfl⟩))
      (pss_one (ps_ret (pe_tup (pa_cons pe_str (pa_cons (pe_tup (pa_cons pe_str (pa_cons (pe_ix (k_ix K) (pv 4) pe_int (fun _ _ => rfl)) (pa_cons (pe_ix (k_ix K) (pv 4) pe_int (fun _ _ => rfl)) (pa_cons (pe_ix (k_ix K) (pv 1) pe_int (fun _ _ => rfl)) (pa_cons (pe_ix (k_ix K) (pv 1) pe_int (fun _ _ => rfl)) pa_nil)))))) pa_nil))))))))))), ?_⟩
  -- N: [(0, 'self'), (1, 'trees'), (2, 'is_so'), (3, 'number'), (4, 'key'), (5, 'word'), (6, 'told')]; cells: []
  rintro vs H Q E ⟨W, x, κ, hx, hd, j, pv, hT, hF⟩
  refine (?_ : Nx (W.ownK K P w x.d κ) ((W.ownK K P w x.d κ).v H) ([selfP K C x].map some ++ List.replicate 6 none) _) _ H j (Same.refl _) (envR_start pv (by rw [← pv.len] <;> rfl))
  clear pv j
  generalize (W.ownK K P w x.d κ).v H = B at *
  have hself : ∀ {W : Wd} {Γ : Ctx}, Γ[0]? = some (some (selfP K C x)) → TyE W Γ (tVar 0) (selfP K C x) := fun e => TyE.var e
  refine Nx.sAsg (vs := [3, 4]) (TyE.mfn (Ps := []) (⟨x, κ⟩ : LoA) (by exact ⟨KdKn.ownK, hx.ok⟩) (by decide +kernel) selfRd (hself rfl) TyA.nil rfl) (TyG.tup (TyGs.cons TyG.name (TyGs.cons TyG.name TyGs.nil))) ?_
  cases hlk : looked κ x.rows x.goal with
  | mk num key =>
    cases num with
    | some m =>
      have hf : fnd x.rows x.goal (n + 1) κ = true := by
        unfold fnd
        rw [hlk]
      refine Nx.sIfT (TyT.test (K := K) (TyE.op (TyE.var rfl) TyE.non (r_notN (b := false) (nonP_rep (d := .int (m : Nat)))))) ?_
      exact Nx.ret ((TyE.tup (K := K) (TyA.cons (TyE.str (K := K)) (TyA.cons (TyE.tup (K := K) (TyA.cons (TyE.str (K := K)) (TyA.cons (TyE.var rfl) TyA.nil))) TyA.nil))).imp fun v H => tup_any) fun v H' j' b' p' => hT hf v H' j' b' p'
    | none =>
      refine Nx.sIfF (TyT.test (K := K) (TyE.op (TyE.var rfl) TyE.non (r_notN (b := true) (nonP_rep (d := .none))))) ?_
      cases key with
      | none =>
        have hf : fnd x.rows x.goal (n + 1) κ = false := by
          unfold fnd
          rw [hlk]
        refine Nx.sIfT (TyT.test (K := K) (TyE.op (TyE.var rfl) TyE.non (r_isN (nonP_rep (d := .none))))) ?_
        refine Nx.freeK hd rfl ?_
        exact Nx.ret ((TyE.tup (K := K) (TyA.cons (TyE.str (K := K)) (TyA.cons (TyE.mfn (Ps := []) (⟨x, κ⟩ : LoA) (by exact ⟨hx.g, by show κ.length ≤ 1000; have := hx.few; omega, hx.ks⟩) (by decide +kernel) selfRdV (TyE.var rfl) TyA.nil rfl) TyA.nil))).imp fun v H => tup_any) fun v H' j' b' p' => hF hf v H' j' b' p'
      | some k =>
        obtain ⟨hkn, hk1⟩ := looked_new hlk
        obtain ⟨fu1, fu2⟩ := hx.fuel k hlk
        have hfew := hx.few
        have hnext : ∀ v, Fuel x.rows x.goal n (κ ++ [(k, v)]) → FoOk x n (κ ++ [(k, v)]) := fun v fu => ⟨hx.ok, hx.g, fu, by rw [List.length_append]; show κ.length + 1 + n ≤ 500; omega, fun p hp => by
          rcases List.mem_append.mp hp with hp | hp
          · exact hx.ks p hp
          · have e : p = (k, v) := by simpa using hp
            rw [e]; exact hk1⟩
        have hf1 : fnd x.rows x.goal (n + 1) κ = (fnd x.rows x.goal n (κ ++ [(k, false)]) && fnd x.rows x.goal n (κ ++ [(k, true)])) := by
          show (match looked κ x.rows x.goal with | (some _, _) => true | (none, none) => false | (none, some k) => fnd x.rows x.goal n (κ ++ [(k, false)]) && fnd x.rows x.goal n (κ ++ [(k, true)])) = _
          rw [hlk]
        refine Nx.sIfF (TyT.test (K := K) (TyE.op (TyE.var rfl) TyE.non (r_isN (nonP_rep (d := kyD k))))) ?_
        refine Nx.sOwn (K := K) fun p hp => ?_
        have hp2 : p ∉ x.d :: W.A := hp
        have hpd : p ≠ x.d := fun e => hp2 (by rw [e]; exact .head _)
        have hpA : p ∉ W.A := fun e => hp2 (.tail _ e)
        have hdA : ∀ Ps, x.d ∉ (W.ownL K p Ps).A := fun Ps e => by
          rcases List.mem_cons.mp (show x.d ∈ p :: W.A from e) with e | e
          · exact hpd e.symm
          · exact hd e
        refine Nx.toK hpd ?_
        refine Nx.for_ (ι := Unit) (Ps := [rep K (.bool false), rep K (.bool true)]) (vs := [2]) (fun i _ => (W.ownL K p (List.replicate i anyP)).ownK K P w x.d (match i with | 0 => κ | 1 => κ ++ [(k, false)] | _ => κ ++ [(k, true)]))
          (fun _ _ => [some (selfP K C x), some (isV (.ref p)), none, none, some (rep K (kyD k)), none, none]) (fun i _ => (1 ≤ i → fnd x.rows x.goal n (κ ++ [(k, false)]) = true) ∧ (2 ≤ i → fnd x.rows x.goal n (κ ++ [(k, true)]) = true))
          (TyI.tup (TyE.tup (K := K) (TyA.cons (TyE.bl (K := K)) (TyA.cons (TyE.bl (K := K)) TyA.nil)))) () ⟨fun h => absurd h (by decide), fun h => absurd h (by decide)⟩ rfl (Le.same (Le.same (Le.drop (Le.drop (Le.same (Le.drop (Le.drop Le.nil))))))) (fun i Pt u B' hP hok hB => ?_) fun u B' hok hB => ?_
        · rcases i with _ | _ | i
          · have hP' : rep K (.bool false) = Pt := by simpa using hP
            subst hP'
            refine ⟨_, TyG.name, fun N hN => ?_⟩
            refine Nx.kput (b := false) (k := k) (TyE.var rfl) (TyE.fK O (hself rfl)) (TyE.var rfl) (by show κ.length < 1000; omega) ?_
            show Nx (Wd.ownK K P w (Wd.ownL K W p (List.replicate 0 anyP)) x.d (putL κ k false)) _ _ _
            rw [put_new hkn]
            refine Nx.sFound (n := n) (hnext false fu1) (hdA _) rfl (fun hf => ?_) fun hf => ?_
            · refine Nx.sIfF (TyT.bE (TyT.test (K := K) (TyE.op (TyE.var rfl) (TyE.str (K := K)) r_eqS)) (by decide +kernel)) ?_
              refine Nx.toL hpd ?_
              have hN' := hN () ⟨fun _ => hf, fun h2 => absurd h2 (by decide)⟩
              refine Nx.app (P := anyP) (TyE.var rfl) (TyE.var rfl) (by rw [List.length_replicate]; exact Nat.le_of_ble_eq_true rfl) ((Nx.toK hpd hN').le (Le.same (Le.same (Le.drop (Le.drop (Le.same (Le.drop (Le.drop Le.nil))))))))
            · refine Nx.free 1 hpA rfl ?_
              refine Nx.sIfT (TyT.bE (TyT.test (K := K) (TyE.op (TyE.var rfl) (TyE.str (K := K)) r_eqS)) (by decide +kernel)) ?_
              have hf0 : fnd x.rows x.goal (n + 1) κ = false := by
                rw [hf1, hf] <;> rfl
              exact Nx.ret (TyE.tup (K := K) (TyA.cons (TyE.var rfl) (TyA.cons (TyE.var rfl) TyA.nil))) fun v H' j' b' p' => hF hf0 v H' j' (hB.trans b') p'
          · have hP' : rep K (.bool true) = Pt := by simpa using hP
            subst hP'
            refine ⟨_, TyG.name, fun N hN => ?_⟩
            refine Nx.kput (b := true) (k := k) (TyE.var rfl) (TyE.fK O (hself rfl)) (TyE.var rfl) (by show (κ ++ [(k, false)]).length < 1000; rw [List.length_append]; show κ.length + 1 < 1000; omega) ?_
            show Nx (Wd.ownK K P w (Wd.ownL K W p (List.replicate 1 anyP)) x.d (putL (κ ++ [(k, false)]) k true)) _ _ _
            rw [put_again hkn]
            refine Nx.sFound (n := n) (hnext true fu2) (hdA _) rfl (fun hf => ?_) fun hf => ?_
            · refine Nx.sIfF (TyT.bE (TyT.test (K := K) (TyE.op (TyE.var rfl) (TyE.str (K := K)) r_eqS)) (by decide +kernel)) ?_
              refine Nx.toL hpd ?_
              have hN' := hN () ⟨fun _ => hok.1 (Nat.le_refl 1), fun h2 => hf⟩
              refine Nx.app (P := anyP) (TyE.var rfl) (TyE.var rfl) (by rw [List.length_replicate]; exact Nat.le_of_ble_eq_true rfl) ((Nx.toK hpd hN').le (Le.same (Le.same (Le.drop (Le.drop (Le.same (Le.drop (Le.drop Le.nil))))))))
            · refine Nx.free 1 hpA rfl ?_
              refine Nx.sIfT (TyT.bE (TyT.test (K := K) (TyE.op (TyE.var rfl) (TyE.str (K := K)) r_eqS)) (by decide +kernel)) ?_
              have hf0 : fnd x.rows x.goal (n + 1) κ = false := by
                rw [hf1, hf, Bool.and_false]
              exact Nx.ret (TyE.tup (K := K) (TyA.cons (TyE.var rfl) (TyA.cons (TyE.var rfl) TyA.nil))) fun v H' j' b' p' => hF hf0 v H' j' (hB.trans b') p'
          · simp at hP
        · have hok2 := hok
          refine Nx.kpop (b := true) (k := k) (TyE.fK O (hself rfl)) (TyE.var rfl) (lookup_snoc hkn) ?_
          have ed : dropL (κ ++ [(k, true)]) k = κ := drop_snoc hkn
          show Nx ((W.ownL K p [anyP, anyP]).ownK K P w x.d (dropL (κ ++ [(k, true)]) k)) _ _ _
          rw [ed]
          refine Nx.toL hpd ?_
          refine Nx.free 1 hp rfl ?_
          have hf : fnd x.rows x.goal (n + 1) κ = true := by
            rw [hf1, hok.1 (Nat.le_of_ble_eq_true rfl), hok.2 (Nat.le_of_ble_eq_true rfl)] <;> rfl
          have htr : ∀ {W : Wd} {Γ : Ctx} {i : Nat}, i < 2 → Γ[1]? = some (some (lstN [anyP, anyP])) → TyE W Γ (tOp (rIx K) (tVar 1) (tC (.int (i : Nat)))) anyP := fun {_ _ i} hi e => TyE.op ((TyE.var e).imp fun _ _ => lstN_of) (TyE.int (K := K)) (r_ixAL (i := i) (by
            rcases i with _ | _ | i
            · rfl
            · rfl
            · omega))
          exact Nx.ret ((TyE.tup (K := K) (TyA.cons (TyE.str (K := K)) (TyA.cons (TyE.tup (K := K) (TyA.cons (TyE.str (K := K)) (TyA.cons (TyE.op (TyE.var rfl) (TyE.int (K := K)) (r_ixD (ds := [.str k.1, strsD k.2]) (i := 0) rfl)) (TyA.cons (TyE.op (TyE.var rfl) (TyE.int (K := K)) (r_ixD (ds := [.str k.1, strsD k.2]) (i := 1) rfl)) (TyA.cons (htr (i := 0) (by decide) rfl) (TyA.cons (htr (i := 1) (by decide) rfl) TyA.nil)))))) TyA.nil))).imp fun v H => tup_any) fun v H' j' b' p' => hT hf v H' j' (hB.trans b') p'
end
end Tk
namespace Tk
open PySem PySem.Spec PyProof.Rows L2
section
variable {X : Cx} (K : PySem.W.Frag)
theorem k_isiT (h : X.K = K := by rfl) : CallR X (.builtin "isinstance") (rIsiT K) := h ▸ call_isiT
end
section
variable {P : Program} {w : World} {K : PySem.W.Frag} {mg : Str → Option Value} {base : Heap}
section
variable {W : Wd} {Γ : Ctx} {tA : TA} {Ps : List Pd} {C : Addr} {fps fps' : List (Str × Pd)} {P1 : Pd} {B : Hp} {ta : TE} {a : Addr}
/-- a tuple just laid -/
def tupN (Ps : List Pd) : Pd := ⟨fun v H => ∃ a xs, v = .ref a ∧ H a = some (.tup xs) ∧ PdAll Ps xs H, fun e ⟨a, xs, h1, h2, h3⟩ => ⟨a, xs, h1, e _ _ h2, h3.mono e⟩⟩
theorem TyE.tupN (h : TyA W Γ tA Ps) (hl : Ps.length ≤ 1000 := by exact Nat.le_of_ble_eq_true rfl) : TyE W Γ (tTup tA) (tupN Ps) := fun σ H Q j e q =>
  h σ H _ j e fun xs H1 j1 s1 p1 => ⟨by rw [← p1.len]; exact Nat.le_of_lt (small1000 hl), fun p hp => by
    obtain ⟨j2, s2, e2⟩ := W.alloc j1 hp (.tup xs)
    exact q _ _ j2 (s1.trans s2) ⟨p, xs, rfl, e2, p1.mono s2⟩⟩
theorem ra_isiLT : RAT W (rIsiT K) [lstOf K Ps, tupN [isV (.ty "list"), isV (.ty "tuple")]] (rep K (.bool true)) := .now fun xs H _ p => by
  obtain ⟨x, y, rfl, p1, ⟨t, cs, rfl, ht, pc⟩⟩ := p.two
  obtain ⟨c1, c2, rfl, q1, q2⟩ := pc.two
  have e1 : c1 = .ty "list" := q1
  have e2 : c2 = .ty "tuple" := q2
  subst e1 e2
  exact ⟨.bl true, .bl true, fun Q q => ⟨x, t, _, _, [.type "list", .type "tuple"], true, rfl, (vw_some ht).2, .cons (.ty "list") (.cons (.ty "tuple") .nil), tyx_lst (lst_up p1),
    kitAny_cons (b := true) (kit_ty kit_ll) (fun z => by cases z) fun _ => rfl, q⟩⟩
theorem SelfRd.sub (rd : SelfRd C W P1 fps) (h : ∀ p ∈ fps', p ∈ fps) : SelfRd C W P1 fps' := fun v H j hv => by
  obtain ⟨b, dx, fs, ev, eb, hn, hf⟩ := rd v H j hv
  exact ⟨b, dx, fs, ev, eb, hn, fun f Q hq => hf f Q (h _ hq)⟩
/-- the last field: the empty dict, held from now on -/
theorem Nx.fldK {D : Ends} (cl : Cls K C) (na : NoAttr K C "known_rows") (hf : ("known_rows" : Str) ∉ fps.map (·.1)) (hl : fps.length ≤ 100) (ha : a ∉ W.A) (ho : TyE (W.ownI a C fps) Γ (tVar 0) (isV (.ref a))) (e0 : Γ[0]? = some (some (isV (.ref a))))
    (h : ∀ (σ : L2.St) (H : Hp) (d : Addr), d ∉ W.A → (W.ownK K P w d []).J H → Same B ((W.ownK K P w d []).v H) → (∃ o, (W.ownK K P w d []).v H a = some o ∧ insIs C (fps ++ [(("known_rows" : Str), isV (.ref d))]) o ((W.ownK K P w d []).v H)) → D.nx σ H) :
    Nx (W.ownI a C fps) B Γ (sFld K (tVar 0) (tKNew P w) "known_rows" D) := fun σ H j b e => by
  intro d ob hd hsys hdat
  obtain ⟨u, e1, e2⟩ := e.at_ 0 _ e0
  have e2' : u = .ref a := e2
  subst e2'
  refine ⟨.ref a, e1, ?_⟩
  obtain ⟨j3, o, eo, dx, fs, ei, em, ep⟩ := id j
  subst ei
  have had : a ≠ d := fun z => by rw [← z, eo] at hd; cases hd
  have hdA : d ∉ W.A := fun z => by
    have := Wd.tr W j3 d z
    rw [hide_ne (Ne.symm had)] at this
    exact this hd
  have hfs : ("known_rows" : Str) ∉ fs.map (·.1) := by rw [em]; exact hf
  have hlen : fs.length = fps.length := by
    have := congrArg List.length em
    simpa using this
  refine ⟨a, C, dx, fs, rfl, by rw [upd_ne had]; exact eo, cl, na, by omega, ?_⟩
  rw [putF_new hfs]
  generalize ho2 : HO.ins C dx (fs ++ [(Str.ofString "known_rows", V.ref d)]) = o2
  have e3 : hide d (upd (upd H d (knC d ob)) a o2) = upd H a o2 := by
    funext c
    by_cases h1 : c = d
    · rw [h1, hide_same, upd_ne (Ne.symm had), hd]
    · rw [hide_ne h1]
      by_cases h2 : c = a
      · rw [h2, upd_same, upd_same]
      · rw [upd_ne h2, upd_ne h1, upd_ne h2]
  have s : Same (W.v (hide a H)) (W.v (upd H a o2)) := fun c u q => by
    obtain ⟨h1, h2⟩ := vw_some q
    show vw W.A _ c = _
    rw [vw_out h1]
    by_cases hc : c = a
    · rw [hc, hide_same] at h2; cases h2
    · rw [hide_ne hc] at h2
      rw [upd_ne hc]; exact h2
  have jW : W.J (upd H a o2) := W.st j3 (fun c hc => by
    have hne : c ≠ a := fun z => ha (by rw [← z]; exact hc)
    rw [upd_ne hne, hide_ne hne]) s
  have ev : (W.ownK K P w d []).v (upd (upd H d (knC d ob)) a o2) = W.v (upd H a o2) := by rw [ownK_v, e3]
  refine h σ _ d hdA ⟨by rw [e3]; exact jW, _, by rw [upd_ne (Ne.symm had)]; exact upd_same, [], rfl, hsys, ⟨ob, rfl, hdat⟩, fun x hx => (by cases hx), Nat.zero_le _⟩ ?_ ?_
  · rw [ev]
    refine b.trans ?_
    rw [ownI_v]; exact s
  · rw [ev]
    refine ⟨o2, ?_, dx, _, ho2.symm, by rw [List.map_append, List.map_append, em] <;> rfl, ?_⟩
    · show vw W.A _ a = _
      rw [vw_out ha, upd_same]
    · rw [List.map_append, List.map_append]
      have ep2 : PdAll (fps.map (·.2)) (fs.map (·.2)) (W.v (hide a H)) := by
        have := ep
        rw [show vw (a :: W.A) H = W.v (hide a H) from vw_cons] at this
        exact this
      exact (ep2.mono s).append (.cons rfl .nil)
end
/-! the finding made -/
structure InA where
  S : Sch
  as : List (List Str)
  gs : List Fl
  g : Fl
def mkRow (S : Sch) (as : List (List Str)) (f : Fl) : Row := (chS (S.sorts.zip as) f.vars, f.body)
def InA.fd (x : InA) (d : Addr) : Fd := ⟨x.S, x.as, x.gs.map (mkRow x.S x.as), mkRow x.S x.as x.g, d⟩
structure InA.Ok (x : InA) : Prop where
  s : x.S.Good
  len : x.as.length = x.S.sorts.length
  gs : ∀ f ∈ x.gs, f.Ok x.S ∧ ∀ i, (chS (x.S.sorts.zip x.as) (f.vars.take i)).length ≤ 1000
  g : x.g.Ok x.S ∧ ∀ i, (chS (x.S.sorts.zip x.as) (x.g.vars.take i)).length ≤ 1000
  few : x.gs.length ≤ 1000
def spInit (K : PySem.W.Frag) (P : Program) (w : World) (C : Addr) : Sp := fun vs H Q _ => ∃ (W : Wd) (x : InA) (a : Addr), x.Ok ∧ a ∉ W.A ∧ (W.ownI a C []).J H ∧ PdAll [isV (.ref a), schP K x.S, rep K (atomsD x.as), lstOf K (x.gs.map fun f => rep K f.enc), rep K x.g.enc] vs ((W.ownI a C []).v H) ∧
  ∀ H' d, d ∉ W.A → (W.ownK K P w d []).J H' → Same ((W.ownI a C []).v H) ((W.ownK K P w d []).v H') → (selfP K C (x.fd d)).h (.ref a) ((W.ownK K P w d []).v H') → Q .non H'
theorem len_init {C : Addr} : ∀ vs H Q E, spInit K P w C vs H Q E → vs.length = [("self" : Str), "scheme", "atoms", "given", "goal"].length := fun vs H Q E ⟨W, x, a, _, _, _, p, _⟩ => by rw [← p.len] <;> rfl
theorem scFInit : FnScope ["self", "scheme", "atoms", "given", "goal", "saying"] ["self", "scheme", "atoms", "given", "goal"] (defScope sFInit) := ⟨rfl, rfl, rfl, by decide +kernel, rfl, by decide +kernel, by decide +kernel⟩
theorem ok_FlatFinding___init__ (T : Tx K mg) {f : Addr} {fd : FuncData} (F : FnP K "__init__" "FlatFinding.__init__" sFInit f fd) {C : Addr} (O : To K C) (D_opened : MethOk P w K mg base 18 C "opened" ["self", "saying"] (spOpened K C)) : FnOk P w K mg base CX0 (19) f fd ["self", "scheme", "atoms", "given", "goal"] (spInit K P w C) := by
  obtain ⟨f_opened, fd_opened, G_opened, M_opened, b_opened⟩ := D_opened.ex
  refine fn_okS F scFInit len_init fun cdv A outer s H E hr => ?_
  refine ⟨_, (pss_cons (ps_fld (pv 0) (pv 1) rfl)
      (pss_cons (ps_fld (pv 0) (pv 2) rfl)
      (pss_cons (ps_fld (pv 0) (pe_lc (own := [("saying", 5)]) rfl scFInit.nd (k_list K (pv 3)) (blkOk_by (own := [("saying", 5)]) (N := ["self", "scheme", "atoms", "given", "goal", "saying"]) (sc := defScope sFInit) (by decide +kernel)) (fun _ _ _ _ _ => (pg_name (i := 5) scFInit.nd rfl (Or.inl rfl))) (fun _ _ _ _ _ => pts_nil) (fun _ _ _ _ _ => (pe_meth (pv 0) O.cl M_opened G_opened (hr.mono (by omega)) b_opened .nil pass0 (pa_cons (pv 5) pa_nil)))) rfl)
      (pss_cons (ps_fld (pv 0) (pe_meth (pv 0) O.cl M_opened G_opened (hr.mono (by omega)) b_opened .nil pass0 (pa_cons (pv 4) pa_nil)) rfl)
      (pss_one (ps_fld (pv 0) (k_knew P w) rfl)))))), ?_⟩
  -- N: [(0, 'self'), (1, 'scheme'), (2, 'atoms'), (3, 'given'), (4, 'goal'), (5, 'saying')]; cells: ['self']
  rintro vs H Q E ⟨W, x, a, hx, ha, j, pv, hQ⟩
  refine (?_ : Nx (W.ownI a C []) ((W.ownI a C []).v H) ([isV (.ref a), schP K x.S, rep K (atomsD x.as), lstOf K (x.gs.map fun f => rep K f.enc), rep K x.g.enc].map some ++ List.replicate 1 none) _) _ H j (Same.refl _) (envR_start pv (by rw [← pv.len] <;> rfl))
  clear pv j
  generalize (W.ownI a C []).v H = B at *
  have hrd : ∀ {W : Wd} (fps : List (Str × Pd)), (fps.map (·.1)).Nodup → (∀ m ∈ mnames, m ∉ fps.map (·.1)) → SelfRd C (W.ownI a C fps) (isV (.ref a)) fps := fun fps h1 h2 => SelfRd.ownI h1 h2
  refine Nx.fldNew O.cl O.na1 (by decide +kernel) (Nat.le_of_ble_eq_true rfl) (TyE.var rfl) (TyE.var rfl) ?_
  refine Nx.fldNew O.cl O.na2 (by show ("own_atoms" : Str) ∉ (["own_scheme"] : List Str); decide +kernel) (Nat.le_of_ble_eq_true rfl) (TyE.var rfl) (TyE.var rfl) ?_
  have r2 : ∀ {W : Wd}, SelfRd C (W.ownI a C ([] ++ [(("own_scheme" : Str), schP K x.S)] ++ [(("own_atoms" : Str), rep K (atomsD x.as))])) (isV (.ref a)) [(("own_scheme" : Str), schP K x.S), (("own_atoms" : Str), rep K (atomsD x.as))] := hrd _ (by show ((["own_scheme", "own_atoms"] : List Str)).Nodup; decide +kernel) (by show ∀ m ∈ mnames, m ∉ (["own_scheme", "own_atoms"] : List Str); decide +kernel)
  have hop : ∀ {W : Wd} {Γ : Ctx} {E : XK} {i : Nat} {f : Fl}, SelfRd C W (isV (.ref a)) [(("own_scheme" : Str), schP K x.S), (("own_atoms" : Str), rep K (atomsD x.as))] → f.Ok x.S → (∀ i, (chS (x.S.sorts.zip x.as) (f.vars.take i)).length ≤ 1000) → Γ[0]? = some (some (isV (.ref a))) → Γ[i]? = some (some (rep K f.enc)) → TyE W Γ (tMeth C "opened" (spOpened K C) [] E (tVar 0) (tCons (tVar i) tNil)) (rowP K (mkRow x.S x.as f)) := fun {_ _ _ _ f} rd hf hc e0 ei =>
    TyE.mfn (⟨x.S, x.as, f, a⟩ : OpA) (by exact ⟨⟨hx.s, hf, hx.len, hc⟩, rd⟩) (by decide +kernel) rd (TyE.var e0) (TyA.cons (TyE.var ei) TyA.nil) rfl
  refine Nx.fldNew (P := lstOf K (x.gs.map fun f => rowP K (mkRow x.S x.as f))) O.cl O.na3 (by show ("flat_rows" : Str) ∉ (["own_scheme", "own_atoms"] : List Str); decide +kernel) (Nat.le_of_ble_eq_true rfl) (TyE.lcM x.gs (fun f => rep K f.enc) (fun f => rowP K (mkRow x.S x.as f)) (TyI.list (TyE.var rfl)) hx.few fun f hf p Qs hp => ⟨_, TyG.name, hop r2.ownL (hx.gs f hf).1 (hx.gs f hf).2 rfl rfl⟩) (TyE.var rfl) ?_
  refine Nx.fldNew (P := rowP K (mkRow x.S x.as x.g)) O.cl O.na4 (by show ("last_goal" : Str) ∉ (["own_scheme", "own_atoms", "flat_rows"] : List Str); decide +kernel) (Nat.le_of_ble_eq_true rfl) (hop ((hrd ([] ++ [(("own_scheme" : Str), schP K x.S)] ++ [(("own_atoms" : Str), rep K (atomsD x.as))] ++ [(("flat_rows" : Str), lstOf K (x.gs.map fun f => rowP K (mkRow x.S x.as f)))]) (by show ((["own_scheme", "own_atoms", "flat_rows"] : List Str)).Nodup; decide +kernel) (by show ∀ m ∈ mnames, m ∉ (["own_scheme", "own_atoms", "flat_rows"] : List Str); decide +kernel)).sub fun p hp => by
    rcases List.mem_cons.mp hp with e | hp
    · rw [e]; exact .head _
    · rcases List.mem_cons.mp hp with e | hp
      · rw [e]; exact .tail _ (.head _)
      · cases hp) hx.g.1 hx.g.2 rfl rfl) (TyE.var rfl) ?_
  refine Nx.fldK O.cl O.na5 (by show ("known_rows" : Str) ∉ (["own_scheme", "own_atoms", "flat_rows", "last_goal"] : List Str); decide +kernel) (Nat.le_of_ble_eq_true rfl) ha (TyE.var rfl) rfl fun σ H' d hdA j' b' hv => ?_
  obtain ⟨o, eo, hins⟩ := hv
  refine hQ H' d hdA j' b' ⟨a, o, rfl, eo, ?_⟩
  have e : (x.fd d).fps K = [] ++ [(("own_scheme" : Str), schP K x.S)] ++ [(("own_atoms" : Str), rep K (atomsD x.as))] ++ [(("flat_rows" : Str), lstOf K (x.gs.map fun f => rowP K (mkRow x.S x.as f)))] ++ [(("last_goal" : Str), rowP K (mkRow x.S x.as x.g))] ++ [(("known_rows" : Str), isV (.ref d))] := by
    unfold Fd.fps InA.fd
    rw [List.map_map] <;> rfl
  rw [e]
  exact hins
end
end Tk
namespace Tk
open PySem PySem.Spec PyProof.Rows L2
section
variable {P : Program} {w : World} {K : PySem.W.Frag} {mg : Str → Option Value} {base : Heap}
def fuel : Nat := 13
def runs (S : Sch) (gs : List Fl) (g : Fl) (ns : List Nat) : Bool := fnd (gs.map (mkRow S (stdAs ns))) (mkRow S (stdAs ns) g) fuel []
/-- all is small enough for one size -/
structure RunOk (S : Sch) (gs : List Fl) (g : Fl) (ns : List Nat) : Prop where
  i : (InA.mk S (stdAs ns) gs g).Ok
  f : ∀ d, ((InA.mk S (stdAs ns) gs g).fd d).Ok
  u : Fuel (gs.map (mkRow S (stdAs ns))) (mkRow S (stdAs ns) g) fuel []
theorem ownI_new {W : Wd} {C : Addr} {H : Hp} {a dx : Addr} (j : W.J H) (hp : H a = none) : (W.ownI a C []).J (upd H a (.ins C dx [])) ∧ Same (W.v H) ((W.ownI a C []).v (upd H a (.ins C dx []))) := by
  refine ⟨⟨?_, _, upd_same, dx, [], rfl, rfl, .nil⟩, ?_⟩
  · rw [hide_upd, hide_free hp]; exact j
  · rw [ownI_v, hide_upd, hide_free hp]
    exact Same.refl _
/-- word, told = FlatFinding(..).found() -/
theorem Nx.sRun {C : Addr} {W : Wd} {B : Hp} {Γ : Ctx} {D : Ends} {us : TS} {E E' : XK} {i1 i2 : Nat} {S : Sch} {gs : List Fl} {g : Fl} {ns : List Nat} {tA : TA} (hx : RunOk S gs g ns) (hA : TyA W Γ tA [schP K S, rep K (atomsD (stdAs ns)), lstOf K (gs.map fun f => rep K f.enc), rep K g.enc])
    (h1 : runs S gs g ns = true → Nx W B ((Γ.set i1 (some (rep K (.str "none")))).set i2 (some anyP)) (us D)) (h2 : runs S gs g ns = false → Nx W B ((Γ.set i1 (some (rep K (.str "world")))).set i2 (some anyP)) (us D)) :
    Nx W B Γ (tSeq (tAsg (tMeth C "found" (spFound K P w C fuel) [] E (tMake C (spInit K P w C) [] E' tA) tNil) (gTup K 2 (gCons (gName i1) (gCons (gName i2) gNil)))) us D) := fun σ H j b en => by
  refine hA σ H _ j en fun vs H1 j1 s1 p1 => fun a dx ha hdx hne => ?_
  obtain ⟨j2, s2, e2⟩ := W.alloc j1 hdx (.own a)
  have ha2 : (upd H1 dx (.own a)) a = none := by rw [upd_ne (Ne.symm hne)]; exact ha
  have haA := Wd.out j2 ha2
  obtain ⟨j3, s3⟩ := ownI_new (C := C) (dx := dx) j2 ha2
  have s123 := (s1.trans s2).trans s3
  refine ⟨W, ⟨S, stdAs ns, gs, g⟩, a, hx.i, haA, j3, .cons rfl ?_, fun H2 d hdA j4 s4 hv => ⟨rfl, ?_⟩⟩
  · rw [List.append_nil]
    exact p1.mono (s2.trans s3)
  have s1234 := s123.trans s4
  obtain ⟨a2, dx2, fs, ev, ea, hnm, _⟩ := selfRd (W := W.ownK K P w d []) (.ref a) H2 j4 hv
  refine ⟨a2, dx2, fs, ev, ea, hnm "found" (by decide +kernel), ?_⟩
  refine ⟨W, (InA.mk S (stdAs ns) gs g).fd d, [], ⟨hx.f d, hx.i.s, hx.u, by decide, fun p hp => by cases hp⟩, hdA, j4, .cons hv .nil, fun hf u H' j' s' p' => ?_, fun hf u H' j' s' p' => ?_⟩
  · obtain ⟨jf, sf, _⟩ := ownK_free j' hdA
    have p'' := Pd.mono _ sf p'
    have sAll := (s1234.trans s').trans sf
    obtain ⟨t, xs, rfl, hs, hp⟩ := p''
    obtain ⟨y, z, rfl, py, pz⟩ := hp.two
    refine ⟨t, _, rfl, sq_t hs, rfl, y, _, rfl, z, _, rfl, rfl, ?_⟩
    exact h1 hf _ H' jf (b.trans sAll) (((en.mono sAll).set i1 py).set i2 pz)
  · have sAll := s1234.trans s'
    obtain ⟨t, xs, rfl, hs, hp⟩ := p'
    obtain ⟨y, z, rfl, py, pz⟩ := hp.two
    refine ⟨t, _, rfl, sq_t hs, rfl, y, _, rfl, z, _, rfl, rfl, ?_⟩
    exact h2 hf _ H' j' (b.trans sAll) (((en.mono sAll).set i1 py).set i2 pz)
structure EnA where
  S : Sch
  gs : List Fl
  g : Fl
structure EnA.Ok (x : EnA) : Prop where
  s : x.S.Good
  gs : ∀ f ∈ x.gs, f.Ok x.S
  g : x.g.Ok x.S
  few : x.gs.length ≤ 8
  runs : ∀ ns ∈ allSz (reach x.S x.g), RunOk x.S x.gs x.g ns
  sz : ∀ i, (allSz ((reach x.S x.g).take i)).length ≤ 1000
def shown (S : Sch) (gs : List Fl) (g : Fl) : Bool := (allSz (reach S g)).all (runs S gs g)
def spEntail (K : PySem.W.Frag) : Sp := SpF (δ := EnA) (fun x => [schP K x.S, lstOf K (x.gs.map fun f => rep K f.enc), rep K x.g.enc]) (fun x => ansP K (if shown x.S x.gs x.g = true then "shown" else "fails")) (fun x _ => x.Ok)
def spNeedGoal (K : PySem.W.Frag) : Sp := SpF (δ := EnA) (fun x => [schP K x.S, lstOf K (x.gs.map fun f => rep K f.enc), rep K x.g.enc]) (fun x => anyP) (fun x _ => x.Ok)
theorem scNeedGoal : FnScope ["scheme", "given", "goal", "saying"] ["scheme", "given", "goal"] (defScope sNeedGoal) := ⟨rfl, rfl, rfl, by decide +kernel, rfl, by decide +kernel, by decide +kernel⟩
theorem ok_need_goal (T : Tx K mg) {f : Addr} {fd : FuncData} (F : FnP K "need_goal" "need_goal" sNeedGoal f fd) (D_need_flat : DefOk P w K mg base 18 "need_flat" ["scheme", "saying"] (spFlatOf K)) (D_need_scheme : DefOk P w K mg base 5 "need_scheme" ["scheme"] (spNeedScheme K)) : FnOk P w K mg base CX0 (19) f fd ["scheme", "given", "goal"] (spNeedGoal K) := by
  obtain ⟨f_need_flat, fd_need_flat, G_need_flat, m_need_flat, kp_need_flat, b_need_flat⟩ := D_need_flat.ex
  obtain ⟨f_need_scheme, fd_need_scheme, G_need_scheme, m_need_scheme, kp_need_scheme, b_need_scheme⟩ := D_need_scheme.ex
  refine fn_ok F scNeedGoal (fun _ => rfl) fun cdv A outer s H E hr => ?_
  refine ⟨_, (pss_cons (ps_expr (pe_call G_need_scheme (hr.mono (by omega)) rfl m_need_scheme kp_need_scheme b_need_scheme .nil pass0 (pa_cons (pv 0) pa_nil)))
      (pss_cons (ps_if (PW.pt (pw_or (pt_not (pt_val (pe_callB (k_isiT K) rfl T.isinstance bt_isinstance (pa_cons (pv 1) (pa_cons (pe_tup (pa_cons (pe_bltn (v := .ty "list") rfl T.list bt_list rfl) (pa_cons (pe_bltn (v := .ty "tuple") rfl T.tuple bt_tuple rfl) pa_nil))) pa_nil))))) (pw_or1 (pt_cmpR op_gt (pe_callB (k_len K) rfl T.len bt_len (pa_cons (pv 1) pa_nil)) (pe_gi rfl T.SAYINGS) (nomark _))))) (pss_one ps_never) pss_nil)
      (pss_cons (ps_for PassesOwn.never rfl (k_list K (pv 1)) (pg_name (i := 3) scNeedGoal.nd rfl (Or.inl rfl)) (pss_one (ps_expr (pe_call G_need_flat (hr.mono (by omega)) rfl m_need_flat kp_need_flat b_need_flat .nil pass0 (pa_cons (pv 0) (pa_cons (pv 3) pa_nil))))))
      (pss_one (ps_expr (pe_call G_need_flat (hr.mono (by omega)) rfl m_need_flat kp_need_flat b_need_flat .nil pass0 (pa_cons (pv 0) (pa_cons (pv 2) pa_nil)))))))), ?_⟩
  -- N: [(0, 'scheme'), (1, 'given'), (2, 'goal'), (3, 'saying')]; cells: []
  rintro x W hx B D hn hR
  refine Nx.sDrop (TyE.fn x.S hx.s (TyA.cons ((TyE.var rfl).imp fun _ _ => sch_rep) TyA.nil)) ?_
  refine Nx.sIfF (TyT.or (b1 := false) (b2 := false) (TyT.notB (b := true) (TyT.tB (TyE.cb (TyA.cons (TyE.var rfl) (TyA.cons (TyE.tupN (TyA.cons (TyE.c fun _ => rfl) (TyA.cons (TyE.c fun _ => rfl) TyA.nil))) TyA.nil)) ra_isiLT))) fun _ => TyT.bE (TyT.test (TyE.op (TyE.cb (TyA.cons (TyE.var rfl) TyA.nil) ra_lenL) (TyE.int (K := K)) r_bl0)) ?_) ?_
  · rw [List.length_map]
    have := hx.few
    refine decide_eq_false ?_
    omega
  refine Nx.for_ (ι := Unit) (Ps := x.gs.map fun f => rep K f.enc) (vs := [3]) (fun _ _ => W) (fun _ _ => [some (schP K x.S), some (lstOf K (x.gs.map fun f => rep K f.enc)), some (rep K x.g.enc), none]) (fun _ _ => True) (TyI.list (TyE.var rfl)) () trivial rfl (Le.refl _) (fun i Pt u B' hP _ hB => ?_) fun u B' _ hB => ?_
  · rw [List.getElem?_map] at hP
    cases hf : x.gs[i]? with
    | none => rw [hf] at hP; cases hP
    | some f =>
      rw [hf] at hP
      have hP' : rep K f.enc = Pt := by simpa using hP
      subst hP'
      refine ⟨_, TyG.name, fun N hN => Nx.drop (TyE.fn (x.S, f) (by exact ⟨hx.s, hx.gs f (List.mem_of_getElem? hf)⟩) (TyA.cons (TyE.var rfl) (TyA.cons (TyE.var rfl) TyA.nil))) ((hN () trivial).le (Le.same (Le.same (Le.same (Le.drop Le.nil)))))⟩
  · dsimp only
    refine Nx.drop (D := D) (TyE.fn (x.S, x.g) (by exact ⟨hx.s, hx.g⟩) (TyA.cons (TyE.var rfl) (TyA.cons (TyE.var rfl) TyA.nil))) fun σ H j b e => hn σ H j (hB.trans b) trivial
theorem reach_len {S : Sch} {g : Fl} : (reach S g).length = S.sorts.length := List.length_map ..
theorem reach_le {S : Sch} {g : Fl} (hg : g.Ok S) : ∀ n ∈ reach S g, n ≤ 4 := fun n hn => by
  obtain ⟨s, _, rfl⟩ := List.mem_map.mp hn
  have h1 : g.srts.count s ≤ g.srts.length := List.count_le_length
  have h2 : g.srts.length = g.vars.length := List.length_map ..
  have := hg.v4
  omega
theorem scOwnEntail : FnScope ["scheme", "given", "goal", "found", "sizes", "word", "told"] ["scheme", "given", "goal"] (defScope sOwnEntail) := ⟨rfl, rfl, rfl, by decide +kernel, rfl, by decide +kernel, by decide +kernel⟩
theorem ok_own_entail (T : Tx K mg) {f : Addr} {fd : FuncData} (F : FnP K "own_entail" "own_entail" sOwnEntail f fd) {C : Addr} (O : To K C) (D_all_sizes : DefOk P w K mg base 1 "all_sizes" ["most"] (spAllSizes K)) (D_own_reach : DefOk P w K mg base 18 "own_reach" ["scheme", "goal"] (spOwnReach K)) (D_own_standard : DefOk P w K mg base 1 "own_standard" ["sizes"] (spStd K)) (D_found : MethOk P w K mg base 29 C "found" ["self"] (spFound K P w C fuel)) (D_FlatFinding : MakeOk P w K mg base 19 C ["self", "scheme", "atoms", "given", "goal"] (spInit K P w C)) : FnOk P w K mg base CX0 (40) f fd ["scheme", "given", "goal"] (spEntail K) := by
  obtain ⟨f_all_sizes, fd_all_sizes, G_all_sizes, m_all_sizes, kp_all_sizes, b_all_sizes⟩ := D_all_sizes.ex
  obtain ⟨f_own_reach, fd_own_reach, G_own_reach, m_own_reach, kp_own_reach, b_own_reach⟩ := D_own_reach.ex
  obtain ⟨f_found, fd_found, G_found, M_found, b_found⟩ := D_found.ex
  obtain ⟨f_FlatFinding, fd_FlatFinding, G_FlatFinding, Mk_FlatFinding, m_FlatFinding, b_FlatFinding⟩ := D_FlatFinding.ex
  obtain ⟨f_own_standard, fd_own_standard, G_own_standard, m_own_standard, kp_own_standard, b_own_standard⟩ := D_own_standard.ex
  refine fn_ok F scOwnEntail (fun _ => rfl) fun cdv A outer s H E hr => ?_
  refine ⟨_, (pss_cons (ps_set (i := 3) scOwnEntail.nd rfl (Or.inl rfl) (pe_lst pa_nil))
      (pss_cons (ps_for PassesOwn.never rfl (k_list K (pe_call G_all_sizes (hr.mono (by omega)) rfl m_all_sizes kp_all_sizes b_all_sizes .nil pass0 (pa_cons (pe_call G_own_reach (hr.mono (by omega)) rfl m_own_reach kp_own_reach b_own_reach .nil pass0 (pa_cons (pv 0) (pa_cons (pv 2) pa_nil))) pa_nil))) (pg_name (i := 4) scOwnEntail.nd rfl (Or.inl rfl)) (pss_cons (ps_asg (pe_meth0 (pe_make Mk_FlatFinding G_FlatFinding (hr.mono (by omega)) rfl m_FlatFinding b_FlatFinding .nil pass0 (pa_cons (pv 0) (pa_cons (pe_call G_own_standard (hr.mono (by omega)) rfl m_own_standard kp_own_standard b_own_standard .nil pass0 (pa_cons (pv 4) pa_nil)) (pa_cons (pv 1) (pa_cons (pv 2) pa_nil))))) O.cl M_found G_found (hr.mono (by omega)) b_found .nil pass0) (k_gtup K 2 (pgs_cons (pg_name (i := 5) scOwnEntail.nd rfl (Or.inl rfl)) (pgs_cons (pg_name (i := 6) scOwnEntail.nd rfl (Or.inl rfl)) pgs_nil))))
      (pss_cons (ps_if (pt_cmpR op_eq (pv 5) pe_str (nomark _)) (pss_one (ps_ret (pe_tup (pa_cons pe_str (pa_cons (pv 6) pa_nil))))) pss_nil)
      (pss_one (ps_expr (k_bm K PySem.F.plainAttrs_list PySem.F.slot_list_append PySem.F.type_list_append mt_append (pv 3) (pa_cons (pe_tup (pa_cons (pv 4) (pa_cons (pv 6) pa_nil))) pa_nil)))))))
      (pss_one (ps_ret (pe_tup (pa_cons pe_str (pa_cons (pe_callTy (k_tup K) rfl T.tuple bt_tuple (pa_cons (pv 3) pa_nil)) pa_nil))))))), ?_⟩
  -- N: [(0, 'scheme'), (1, 'given'), (2, 'goal'), (3, 'found'), (4, 'sizes'), (5, 'word'), (6, 'told')]; cells: []
  rintro x W hx B D hn hR
  have h3 := hx.s.s3
  refine Nx.sOwn (K := K) fun p hp => ?_
  refine Nx.for_ (ι := Unit) (Ps := (allSz (reach x.S x.g)).map fun ns => rep K (intsD ns)) (vs := [4]) (fun i _ => W.ownL K p (List.replicate i anyP)) (fun _ _ => [some (schP K x.S), some (lstOf K (x.gs.map fun f => rep K f.enc)), some (rep K x.g.enc), some (isV (.ref p)), none, none, none])
    (fun i _ => ∀ (j : Nat) (ns : List Nat), j < i → (allSz (reach x.S x.g))[j]? = some ns → runs x.S x.gs x.g ns = true) (TyI.list ((TyE.fn (reach x.S x.g) (by exact ⟨by rw [reach_len]; exact h3, reach_le hx.g, hx.sz⟩) (TyA.cons (TyE.fn (x.S, x.g) (by exact ⟨hx.s, hx.g⟩) (TyA.cons (TyE.var rfl) (TyA.cons (TyE.var rfl) TyA.nil))) TyA.nil)).imp fun _ _ => lstN_of)) () (fun j ns hj => absurd hj (Nat.not_lt_zero _)) rfl (Le.refl _) (fun i Pt u B' hP hok hB => ?_) fun u B' hok hB => ?_
  · rw [List.getElem?_map] at hP
    cases hns : (allSz (reach x.S x.g))[i]? with
    | none => rw [hns] at hP; cases hP
    | some ns =>
      rw [hns] at hP
      have hP' : rep K (intsD ns) = Pt := by simpa using hP
      subst hP'
      have hmem := List.mem_of_getElem? hns
      have hnl : ns.length = (reach x.S x.g).length := by
        have := allSz_len (xs := reach x.S x.g) (f := [[]]) (n := 0) (fun b hb => by
          have e : b = [] := by simpa using hb
          rw [e] <;> rfl) ns hmem
        rw [this, Nat.zero_add]
      have hil : i < (allSz (reach x.S x.g)).length := (List.getElem?_eq_some_iff.mp hns).1
      have hsz : (allSz (reach x.S x.g)).length ≤ 1000 := by
        have := hx.sz (reach x.S x.g).length
        rw [List.take_length] at this
        exact this
      refine ⟨_, TyG.name, fun N hN => ?_⟩
      refine Nx.sRun (hx.runs ns hmem) (TyA.cons (TyE.var rfl) (TyA.cons (TyE.fn ns (by show ns.length ≤ 3; rw [hnl, reach_len]; exact h3) (TyA.cons (TyE.var rfl) TyA.nil)) (TyA.cons (TyE.var rfl) (TyA.cons (TyE.var rfl) TyA.nil)))) (fun hr => ?_) fun hr => ?_
      · refine Nx.sIfF (TyT.bE (TyT.test (K := K) (TyE.op (TyE.var rfl) (TyE.str (K := K)) r_eqS)) (by decide +kernel)) ?_
        have hN' := hN () fun j ns2 hj e => by
          by_cases hji : j < i
          · exact hok j ns2 hji e
          · have : j = i := by omega
            subst this
            rw [hns] at e
            have := Option.some.inj e
            subst this
            exact hr
        rw [List.replicate_succ'] at hN'
        refine Nx.app (P := anyP) (TyE.var rfl) ((TyE.tup (K := K) (TyA.cons (TyE.var rfl) (TyA.cons (TyE.var rfl) TyA.nil))).imp fun _ _ _ => trivial) (by rw [List.length_replicate]; omega) (hN'.le (Le.same (Le.same (Le.same (Le.same (Le.drop (Le.drop (Le.drop Le.nil))))))))
      · refine Nx.sIfT (TyT.bE (TyT.test (K := K) (TyE.op (TyE.var rfl) (TyE.str (K := K)) r_eqS)) (by decide +kernel)) ?_
        refine Nx.free 3 hp rfl ?_
        refine Nx.ret (TyE.tup (K := K) (TyA.cons (TyE.str (K := K)) (TyA.cons (TyE.var rfl) TyA.nil))) fun v H' j' b' p' => hR v H' j' (hB.trans b') ?_
        have e : shown x.S x.gs x.g = false := by
          refine Bool.eq_false_iff.mpr fun z => ?_
          have := List.all_eq_true.mp z ns hmem
          rw [hr] at this
          cases this
        show (ansP K (if shown x.S x.gs x.g = true then "shown" else "fails")).h v _
        rw [e]
        exact tup_any p'
  · refine Nx.free 3 hp rfl ?_
    refine Nx.ret (TyE.tup (K := K) (TyA.cons (TyE.str (K := K)) (TyA.cons (TyE.cb (TyA.cons ((TyE.var rfl).imp fun _ _ => lstN_of) TyA.nil) ra_tupL) TyA.nil))) fun v H' j' b' p' => hR v H' j' (hB.trans b') ?_
    have e : shown x.S x.gs x.g = true := List.all_eq_true.mpr fun ns hns => by
      obtain ⟨j, hj⟩ := List.mem_iff_getElem?.mp hns
      exact hok j ns (by rw [List.length_map]; exact (List.getElem?_eq_some_iff.mp hj).1) hj
    show (ansP K (if shown x.S x.gs x.g = true then "shown" else "fails")).h v _
    rw [e]
    exact tup_any p'
theorem scEntail : FnScope ["scheme", "given", "goal"] ["scheme", "given", "goal"] (defScope sEntail) := ⟨rfl, rfl, rfl, by decide +kernel, rfl, by decide +kernel, by decide +kernel⟩
theorem ok_entail (T : Tx K mg) {f : Addr} {fd : FuncData} (F : FnP K "entail" "entail" sEntail f fd) (D_own_entail : DefOk P w K mg base 40 "own_entail" ["scheme", "given", "goal"] (spEntail K)) (D_need_goal : DefOk P w K mg base 19 "need_goal" ["scheme", "given", "goal"] (spNeedGoal K)) : FnOk P w K mg base CX0 (41) f fd ["scheme", "given", "goal"] (spEntail K) := by
  obtain ⟨f_own_entail, fd_own_entail, G_own_entail, m_own_entail, kp_own_entail, b_own_entail⟩ := D_own_entail.ex
  obtain ⟨f_need_goal, fd_need_goal, G_need_goal, m_need_goal, kp_need_goal, b_need_goal⟩ := D_need_goal.ex
  refine fn_ok F scEntail (fun _ => rfl) fun cdv A outer s H E hr => ?_
  refine ⟨_, (pss_cons (ps_expr (pe_call G_need_goal (hr.mono (by omega)) rfl m_need_goal kp_need_goal b_need_goal .nil pass0 (pa_cons (pv 0) (pa_cons (pv 1) (pa_cons (pv 2) pa_nil)))))
      (pss_one (ps_ret (pe_call G_own_entail (hr.mono (by omega)) rfl m_own_entail kp_own_entail b_own_entail .nil pass0 (pa_cons (pv 0) (pa_cons (pv 1) (pa_cons (pv 2) pa_nil))))))), ?_⟩
  -- N: [(0, 'scheme'), (1, 'given'), (2, 'goal')]; cells: []
  rintro x W hx B D hn hR
  refine Nx.sDrop (TyE.fn x hx (TyA.cons (TyE.var rfl) (TyA.cons (TyE.var rfl) (TyA.cons (TyE.var rfl) TyA.nil)))) ?_
  exact Nx.ret (TyE.fn x hx (TyA.cons (TyE.var rfl) (TyA.cons (TyE.var rfl) (TyA.cons (TyE.var rfl) TyA.nil)))) hR
end
end Tk
namespace Tk
open PySem PySem.Spec PyProof.Rows L2
section
variable {X : Cx} (K : PySem.W.Frag)
theorem k_setL (h : X.K = K := by rfl) : PSet X rSetL := set_list
end
/-! ### what the drawing keeps -/
def stL (r t : Int) (pg : Addr) : List (Key × V) := [(.inr "run", .int r), (.inr "great", .ref pg), (.inr "turn", .int t)]
structure Cap (W : Wd) (pm pg : Addr) (n : Nat) : Prop where
  ne : pm ≠ pg
  few : n ≤ 1000
  rd : ∀ H, W.J H → ∃ (r t : Int) (ns : List Int), H pm = some (.dK (stL r t pg)) ∧ H pg = some (.lst (ns.map V.int)) ∧ ns.length = n
  wm : ∀ H r t, W.J H → W.J (upd H pm (.dK (stL r t pg))) ∧ W.v (upd H pm (.dK (stL r t pg))) = W.v H
  wg : ∀ H (ns : List Int), W.J H → ns.length = n → W.J (upd H pg (.lst (ns.map V.int))) ∧ W.v (upd H pg (.lst (ns.map V.int))) = W.v H
theorem hide_updN {p a : Addr} {H : Hp} {o : HO} (h : a ≠ p) : hide p (upd H a o) = upd (hide p H) a o := by
  funext c
  by_cases h1 : c = p
  · rw [h1, hide_same, upd_ne (Ne.symm h), hide_same]
  · rw [hide_ne h1]
    by_cases h2 : c = a
    · rw [h2, upd_same, upd_same]
    · rw [upd_ne h2, upd_ne h2, hide_ne h1]
theorem Cap.ownL {K : PySem.W.Frag} {W : Wd} {pm pg : Addr} {n : Nat} {p : Addr} {Ps : List Pd} (c : Cap W pm pg n) : Cap (W.ownL K p Ps) pm pg n where
  ne := c.ne
  few := c.few
  rd := fun H ⟨j, _⟩ => by
    obtain ⟨r, t, ns, h1, h2, h3⟩ := c.rd _ j
    exact ⟨r, t, ns, hide_le _ _ h1, hide_le _ _ h2, h3⟩
  wm := fun H r t ⟨j, o, eo, f⟩ => by
    obtain ⟨r0, t0, ns0, h1, h2, h3⟩ := c.rd _ j
    have hne : pm ≠ p := fun e => by rw [e, hide_same] at h1; cases h1
    obtain ⟨j2, ev⟩ := c.wm _ r t j
    have ev2 : (W.ownL K p Ps).v (upd H pm (.dK (stL r t pg))) = (W.ownL K p Ps).v H := by rw [ownL_v, ownL_v, hide_updN hne, ev]
    refine ⟨⟨by rw [hide_updN hne]; exact j2, o, by rw [upd_ne (Ne.symm hne)]; exact eo, ?_⟩, ev2⟩
    show lstIs K Ps o ((W.ownL K p Ps).v _)
    rw [ev2]; exact f
  wg := fun H ns ⟨j, o, eo, f⟩ hn => by
    obtain ⟨r0, t0, ns0, h1, h2, h3⟩ := c.rd _ j
    have hne : pg ≠ p := fun e => by rw [e, hide_same] at h2; cases h2
    obtain ⟨j2, ev⟩ := c.wg _ ns j hn
    have ev2 : (W.ownL K p Ps).v (upd H pg (.lst (ns.map V.int))) = (W.ownL K p Ps).v H := by rw [ownL_v, ownL_v, hide_updN hne, ev]
    refine ⟨⟨by rw [hide_updN hne]; exact j2, o, by rw [upd_ne (Ne.symm hne)]; exact eo, ?_⟩, ev2⟩
    show lstIs K Ps o ((W.ownL K p Ps).v _)
    rw [ev2]; exact f
/-- nothing is held but that -/
def Wd.cap (pm pg : Addr) (n : Nat) (ne : pm ≠ pg) : Wd where
  A := [pm, pg]
  J := fun H => ∃ (r t : Int) (ns : List Int), H pm = some (.dK (stL r t pg)) ∧ H pg = some (.lst (ns.map V.int)) ∧ ns.length = n
  tr := fun {H} ⟨r, t, ns, h1, h2, h3⟩ a ha => by
    have e : a = pm ∨ a = pg := by simpa using ha
    rcases e with e | e
    · rw [e, h1]; exact fun z => by cases z
    · rw [e, h2]; exact fun z => by cases z
  st := fun {H H'} ⟨r, t, ns, h1, h2, h3⟩ ha _ => ⟨r, t, ns, by rw [ha pm (by simp)]; exact h1, by rw [ha pg (by simp)]; exact h2, h3⟩
theorem vw_updM {A : List Addr} {H : Hp} {a : Addr} {o : HO} (h : a ∈ A) : vw A (upd H a o) = vw A H := by
  funext c
  by_cases hc : c ∈ A
  · rw [vw_in hc, vw_in hc]
  · rw [vw_out hc, vw_out hc, upd_ne fun e => hc (by rw [e]; exact h)]
theorem cap_of {pm pg : Addr} {n : Nat} (ne : pm ≠ pg) (hn : n ≤ 1000) : Cap (Wd.cap pm pg n ne) pm pg n where
  ne := ne
  few := hn
  rd := fun H j => j
  wm := fun H r t ⟨r0, t0, ns, h1, h2, h3⟩ => ⟨⟨r, t, ns, upd_same, by rw [upd_ne (Ne.symm ne)]; exact h2, h3⟩, vw_updM (by show pm ∈ [pm, pg]; simp)⟩
  wg := fun H ns ⟨r0, t0, ns0, h1, h2, h3⟩ hl => ⟨⟨r0, t0, ns, by rw [upd_ne ne]; exact h1, upd_same, hl⟩, vw_updM (by show pg ∈ [pm, pg]; simp)⟩
def anyI (K : PySem.W.Frag) : Pd := exP (fun _ : Int => True) fun i => rep K (.int i)
def below (K : PySem.W.Frag) (n : Nat) : Pd := exP (fun i : Nat => i < n) fun i => rep K (.int (i : Nat))
section
variable {K : PySem.W.Frag} {W : Wd} {Γ Γ' : Ctx} {te ta td : TE} {P P1 P2 : Pd} {pm pg : Addr} {n : Nat} {B : Hp}
theorem anyI_of {v : V} {H : Hp} {i : Int} (h : v = .int i) : (anyI K).h v H := ⟨i, trivial, by rw [h]; exact .int i⟩
theorem TyE.capTurn (c : Cap W pm pg n) (h : TyE W Γ td (isV (.ref pm))) : TyE W Γ (tDGet td (tC (.str "turn"))) (anyI K) := fun σ H Q j e q =>
  h σ H _ j e fun x H1 j1 s1 p1 => by
    have ex : x = .ref pm := p1
    subst ex
    obtain ⟨r, t, ns, h1, h2, h3⟩ := c.rd H1 j1
    refine ⟨pm, .int t, rfl, ?_, q _ H1 j1 s1 (anyI_of rfl)⟩
    exact DGet.k (k := .inr "turn") h1
theorem TyE.capRun (c : Cap W pm pg n) (h : TyE W Γ td (isV (.ref pm))) : TyE W Γ (tDGet td (tC (.str "run"))) (anyI K) := fun σ H Q j e q =>
  h σ H _ j e fun x H1 j1 s1 p1 => by
    have ex : x = .ref pm := p1
    subst ex
    obtain ⟨r, t, ns, h1, h2, h3⟩ := c.rd H1 j1
    refine ⟨pm, .int r, rfl, ?_, q _ H1 j1 s1 (anyI_of rfl)⟩
    exact DGet.k (k := .inr "run") h1
theorem TyE.capGreat (c : Cap W pm pg n) (h : TyE W Γ td (isV (.ref pm))) : TyE W Γ (tDGet td (tC (.str "great"))) (isV (.ref pg)) := fun σ H Q j e q =>
  h σ H _ j e fun x H1 j1 s1 p1 => by
    have ex : x = .ref pm := p1
    subst ex
    obtain ⟨r, t, ns, h1, h2, h3⟩ := c.rd H1 j1
    refine ⟨pm, .ref pg, rfl, ?_, q _ H1 j1 s1 rfl⟩
    exact DGet.k (k := .inr "great") h1
theorem kn1 : ¬ ((Sum.inr ("run" : Str) : Key) = Sum.inr ("turn" : Str)) := by decide +kernel
theorem kn2 : ¬ ((Sum.inr ("great" : Str) : Key) = Sum.inr ("turn" : Str)) := by decide +kernel
theorem kn3 : ¬ ((Sum.inr ("great" : Str) : Key) = Sum.inr ("run" : Str)) := by decide +kernel
theorem kn4 : ¬ ((Sum.inr ("turn" : Str) : Key) = Sum.inr ("run" : Str)) := by decide +kernel
theorem put_turn {r t t' : Int} : putK (stL r t pg) (.inr "turn") (.int t') = stL r t' pg := by
  unfold putK stL
  rw [if_pos (by rw [List.any_cons, List.any_cons, List.any_cons, decide_eq_true (p := (Sum.inr ("turn" : Str) : Key) = Sum.inr ("turn" : Str)) rfl, Bool.true_or, Bool.or_true, Bool.or_true])]
  rw [List.map_cons, List.map_cons, List.map_cons, if_neg kn1, if_neg kn2, if_pos rfl] <;> rfl
theorem put_run {r r' t : Int} : putK (stL r t pg) (.inr "run") (.int r') = stL r' t pg := by
  unfold putK stL
  rw [if_pos (by rw [List.any_cons, decide_eq_true (p := (Sum.inr ("run" : Str) : Key) = Sum.inr ("run" : Str)) rfl, Bool.true_or])]
  rw [List.map_cons, List.map_cons, List.map_cons, if_pos rfl, if_neg kn3, if_neg kn4] <;> rfl
theorem TyG.capTurn {i : Nat} {vs : List Nat} (c : Cap W pm pg n) (h : Γ[i]? = some (some (isV (.ref pm)))) : TyG W Γ (gSub (tVar i) (tC (.str "turn")) rSetD) (anyI K) Γ vs := fun σ H v Q j e ⟨t', _, p⟩ q => by
  obtain ⟨u, e1, e2⟩ := e.at_ i _ h
  have eu : u = .ref pm := e2
  subst eu
  obtain ⟨r, t, ns, h1, h2, h3⟩ := c.rd H j
  obtain ⟨j2, ev⟩ := c.wm H r t' j
  refine ⟨.ref pm, e1, pm, upd H pm (.dK (stL r t' pg)), rfl, ?_, ?_⟩
  · rw [dp_int p, ← put_turn (t := t)]
    exact DPut.k (k := .inr "turn") h1 (by rw [sizeLine_eq]; exact Nat.lt_of_lt_of_le (show (stL r t pg).length < 4 from Nat.le_refl _) (by decide))
  · exact q σ _ j2 (by rw [ev]; exact Same.refl _) (by rw [ev]; exact e) rfl fun _ _ => rfl
theorem Nx.capRun {D : Ends} {us : TS} {tv : TE} (c : Cap W pm pg n) (hv : TyE W Γ tv (anyI K)) (hd : TyE W Γ td (isV (.ref pm))) (h : Nx W B Γ (us D)) : Nx W B Γ (tSeq (sDPut td (tC (.str "run")) tv) us D) := fun σ H j b e =>
  hv σ H _ j e fun v H1 j1 s1 ⟨r', _, p⟩ => hd σ H1 _ j1 (e.mono s1) fun x H2 j2 s2 p2 => by
    have ex : x = .ref pm := p2
    subst ex
    obtain ⟨r, t, ns, h1, h2, h3⟩ := c.rd H2 j2
    obtain ⟨j3, ev⟩ := c.wm H2 r' t j2
    refine ⟨pm, upd H2 pm (.dK (stL r' t pg)), rfl, ?_, ?_⟩
    · rw [dp_int p, ← put_run (r := r)]
      exact DPut.k (k := .inr "run") h1 (by rw [sizeLine_eq]; exact Nat.lt_of_lt_of_le (show (stL r t pg).length < 4 from Nat.le_refl _) (by decide))
    · exact h σ _ j3 (by rw [ev]; exact (b.trans s1).trans s2) (by rw [ev]; exact e.mono (s1.trans s2))
theorem ra_capLen (c : Cap W pm pg n) : RAT W (rLenA K) [isV (.ref pg)] (rep K (.int (n : Nat))) := .now fun xs H j q => by
  obtain ⟨x, rfl, e⟩ := q.one
  have ex : x = .ref pg := e
  subst ex
  obtain ⟨r, t, ns, h1, h2, h3⟩ := c.rd H j
  exact ⟨_, .int _, fun Q q => ⟨_, _, rfl, .inl ⟨ns.map V.int, SqL.of h2, by rw [List.length_map]; exact h3.symm⟩, q⟩⟩
theorem ints_lay : ∀ {ns : List Int}, PyData.canLayAll0 (ns.map .int) = true
  | [] => rfl
  | n :: ns => by
    show (PyData.canLay0 (.int n) && PyData.canLayAll0 (ns.map .int)) = true
    rw [ints_lay] <;> rfl
theorem ints_depth : ∀ {ns : List Int}, PyData.depthAll (ns.map .int) ≤ 1
  | [] => by show (0 : Nat) ≤ 1; decide
  | n :: ns => by
    show max (PyData.depth (.int n)) (PyData.depthAll (ns.map .int)) ≤ 1
    have h := ints_depth (ns := ns)
    have h2 : PyData.depth (.int n) ≤ 1 := by show (0 : Nat) ≤ 1; decide
    omega
theorem ints_all {H : Hp} : ∀ {ns : List Int}, DpAll K H (ns.map V.int) (ns.map .int)
  | [] => .nil
  | n :: ns => .cons (.int n) ints_all
theorem r_capNe (c : Cap W pm pg n) : R2T W (rNeD K) (isV (.ref pg)) (rep K (.list [])) (rep K (.bool (decide (n ≠ 0)))) := .now fun x y H j p q => by
  have ex : x = .ref pg := p
  subst ex
  obtain ⟨r, t, ns, h1, h2, h3⟩ := c.rd H j
  refine ⟨_, .bl _, fun Q k => ⟨.list (ns.map .int), .list [], .lst (SqL.of h2) ints_all, dp_up q, ?_, by decide +kernel, ?_⟩⟩
  · unfold SeqAt.shaped
    rw [Bool.and_eq_true_iff]
    refine ⟨ints_lay, decide_eq_true ?_⟩
    show PyData.depthAll (ns.map .int) + 1 ≤ 64
    have := ints_depth (ns := ns)
    omega
  · have e : (!PyData.eqv (.list (ns.map .int)) (.list [])) = decide (n ≠ 0) := by
      subst h3
      cases ns <;> rfl
    rw [e]; exact k
theorem r_capIx (c : Cap W pm pg n) {i : Nat} (hi : i < n) : R2T W (rIx K) (isV (.ref pg)) (rep K (.int (i : Nat))) (anyI K) := .now fun x y H j p q => by
  have ex : x = .ref pg := p
  subst ex
  obtain ⟨r, t, ns, h1, h2, h3⟩ := c.rd H j
  have hl : i < ns.length := by omega
  refine ⟨.int ns[i], anyI_of rfl, fun Q k => .inl ⟨pg, ns.map V.int, i, .int ns[i], rfl, dp_int q, SqL.of h2, ?_, k⟩⟩
  exact atI_nat (by rw [List.getElem?_map, List.getElem?_eq_getElem hl] <;> rfl)
theorem set_ints {ns : List Int} {i : Nat} {x : Int} : (ns.map V.int).set i (.int x) = (ns.set i x).map V.int := by rw [List.map_set]
theorem ixN_nat {n i : Nat} (h : i < n) : ixN n (i : Int) = some i := by
  unfold ixN
  simp [h]
theorem TyG.capSet {i k : Nat} {vs : List Nat} {m : Nat} (c : Cap W pm pg n) (h : Γ[i]? = some (some (isV (.ref pg)))) (hk : Γ[k]? = some (some (rep K (.int (m : Nat))))) (hm : m < n) : TyG W Γ (gSub (tVar i) (tVar k) rSetL) (anyI K) Γ vs := fun σ H v Q j e ⟨z, _, p⟩ q => by
  obtain ⟨u, e1, e2⟩ := e.at_ i _ h
  have eu : u = .ref pg := e2
  subst eu
  obtain ⟨y, e3, e4⟩ := e.at_ k _ hk
  obtain ⟨r, t, ns, h1, h2, h3⟩ := c.rd H j
  have hl : m < ns.length := by omega
  obtain ⟨j2, ev⟩ := c.wg H (ns.set m z) j (by rw [List.length_set]; exact h3)
  refine ⟨.ref pg, e1, y, e3, pg, ns.map V.int, (m : Int), m, rfl, dp_int e4, h2, by rw [List.length_map]; exact ixN_nat hl, ?_⟩
  rw [dp_int p, set_ints]
  exact q σ _ j2 (by rw [ev]; exact Same.refl _) (by rw [ev]; exact e) rfl fun _ _ => rfl
end
end Tk
namespace Tk
open PySem PySem.Spec PyProof.Rows L2
section
variable {P : Program} {w : World} {K : PySem.W.Frag} {mg : Str → Option Value} {base : Heap}
structure DrA where
  pm : Addr
  pg : Addr
  n : Nat
  top : Nat
def spDraw (K : PySem.W.Frag) : Sp := SpF (δ := DrA) (fun x => [isV (.ref x.pm), rep K (.int (x.top : Nat))]) (fun x => below K x.top) (fun x W => Cap W x.pm x.pg x.n ∧ 1 ≤ x.top ∧ x.top ≤ 100000)
section
variable {W : Wd} {Γ : Ctx} {te ta tb : TE} {P1 P2 Q1 : Pd} {r : R2}
/-- whole numbers, whichever -/
theorem r_anyI {g : Int → Int → Int} : R2T W (rI0 fun i j => .int (g i j)) (anyI K) (anyI K) (anyI K) := R2T.ex1 fun i _ => R2T.ex2 fun j _ => r_int0.imp fun v H p => ⟨_, trivial, p⟩
theorem r_anyC {C : Int → Int → Prop} {g : Int → Int → Int} {j : Int} (h : ∀ i, C i j) : R2T W (rI C fun i j => .int (g i j)) (anyI K) (rep K (.int j)) (anyI K) := R2T.ex1 fun i _ => (r_intC (h i)).imp fun v H p => ⟨_, trivial, p⟩
theorem TyE.anyC {i : Int} : TyE W Γ (tC (.int i)) (anyI K) := (TyE.int (K := K) (i := i)).imp fun v H p => ⟨i, trivial, p⟩
theorem TyE.toAny {i : Int} (h : TyE W Γ te (rep K (.int i))) : TyE W Γ te (anyI K) := h.imp fun v H p => ⟨i, trivial, p⟩
/-- i % top -/
theorem r_modB {n : Nat} (hn : 1 ≤ n) : R2T W (rI (fun _ j => 0 < j) fun i j => .int (i % j)) (anyI K) (rep K (.int (n : Nat))) (below K n) := R2T.ex1 fun i _ => (r_intC (K := K) (g := fun i j => i % j) (i := i) (j := (n : Nat)) (by omega)).imp fun v H p => by
  have h0 : 0 ≤ i % (n : Int) := Int.emod_nonneg _ (by omega)
  have h1 : i % (n : Int) < n := Int.emod_lt_of_pos _ (by omega)
  refine ⟨(i % (n : Int)).toNat, by omega, ?_⟩
  show (rep K (.int (((i % (n : Int)).toNat : Nat) : Int))).h v H
  rw [show (((i % (n : Int)).toNat : Nat) : Int) = i % (n : Int) by omega]
  exact p
end
theorem scLDraw : FnScope ["_law_m", "_law_top", "_law_at", "_law_great", "_law_found"] ["_law_m", "_law_top"] (defScope sLDraw) := ⟨rfl, rfl, rfl, by decide +kernel, rfl, by decide +kernel, by decide +kernel⟩
theorem ok__law_draw (T : Tx K mg) {f : Addr} {fd : FuncData} (F : FnP K "_law_draw" "_law_draw" sLDraw f fd) : FnOk P w K mg base CX0 (1) f fd ["_law_m", "_law_top"] (spDraw K) := by
  refine fn_ok F scLDraw (fun _ => rfl) fun cdv A outer s H E hr => ?_
  refine ⟨_, (pss_cons (ps_asg (pe_tup (pa_cons (pe_op op_add (pe_dget (hu_of hr) (pv 0) pe_str (fun _ _ => rfl)) pe_int) (pa_cons (pe_dget (hu_of hr) (pv 0) pe_str (fun _ _ => rfl)) pa_nil))) (k_gtup K 2 (pgs_cons (pg_sub (pv 0) pe_str (set_dict (hu_of hr))) (pgs_cons (pg_name (i := 3) scLDraw.nd rfl (Or.inl rfl)) pgs_nil))))
      (pss_cons (ps_set (i := 2) scLDraw.nd rfl (Or.inl rfl) (pe_op op_mod (pe_dget (hu_of hr) (pv 0) pe_str (fun _ _ => rfl)) (pe_callB (call_maxI rfl) rfl T.max bt_max (pa_cons pe_int (pa_cons (pe_callB (k_len K) rfl T.len bt_len (pa_cons (pv 3) pa_nil)) pa_nil)))))
      (pss_cons (ps_if (PW.pt (pw_and (pt_cmpR (k_neD K hr.units) (pv 3) (pe_lst pa_nil) (nomark _)) (pw_and1 (pt_cmpR op_gt (pe_ix (k_ix K) (pv 3) (pv 2) (fun _ _ => rfl)) pe_int (nomark _))))) (pss_cons (ps_set (i := 4) scLDraw.nd rfl (Or.inl rfl) (pe_op op_mod (pe_ix (k_ix K) (pv 3) (pv 2) (fun _ _ => rfl)) (pv 1)))
      (pss_cons (ps_asg (pe_op op_fdiv (pe_ix (k_ix K) (pv 3) (pv 2) (fun _ _ => rfl)) (pv 1)) (pg_sub (pv 3) (pv 2) (k_setL K)))
      (pss_one (ps_ret (pv 4))))) pss_nil)
      (pss_cons (ps_dput (hu_of hr) (pv 0) pe_str (pe_op op_mod (pe_op op_add (pe_op op_add (pe_op op_mul (pe_dget (hu_of hr) (pv 0) pe_str (fun _ _ => rfl)) pe_int) (pe_op op_mul pe_int (pe_dget (hu_of hr) (pv 0) pe_str (fun _ _ => rfl)))) pe_int) pe_int) rfl)
      (pss_one (ps_ret (pe_op op_mod (pe_op op_fdiv (pe_dget (hu_of hr) (pv 0) pe_str (fun _ _ => rfl)) pe_int) (pv 1)))))))), ?_⟩
  -- N: [(0, '_law_m'), (1, '_law_top'), (2, '_law_at'), (3, '_law_great'), (4, '_law_found')]; cells: []
  rintro ⟨pm, pg, n, top⟩ W ⟨c, ht1, ht2⟩ B D hn hR
  have c : Cap W pm pg n := c
  have ht1 : 1 ≤ top := ht1
  have ht2 : top ≤ 100000 := ht2
  have hpm : ∀ {Γ : Ctx}, Γ[0]? = some (some (isV (.ref pm))) → TyE W Γ (tVar 0) (isV (.ref pm)) := fun e => TyE.var e
  refine Nx.sAsg (vs := [3]) (TyE.tup (K := K) (TyA.cons (TyE.op (TyE.capTurn (K := K) c (hpm rfl)) TyE.anyC r_anyI) (TyA.cons (TyE.capGreat c (hpm rfl)) TyA.nil))) (TyG.tup (TyGs.cons (TyG.capTurn c rfl) (TyGs.cons TyG.name TyGs.nil))) ?_
  have hmx : ∀ {Γ : Ctx}, Γ[3]? = some (some (isV (.ref pg))) → TyE W Γ _ (rep K (.int ((max 1 n : Nat) : Nat))) := fun e => (TyE.cb (TyA.cons (TyE.int (K := K) (i := 1)) (TyA.cons (TyE.cb (TyA.cons (TyE.var (i := 3) e) TyA.nil) (ra_capLen (K := K) c)) TyA.nil)) ra_max).imp fun v H p => by
    have ee : (if ((n : Nat) : Int) > 1 then ((n : Nat) : Int) else 1) = ((max 1 n : Nat) : Int) := by
      split <;> omega
    rw [ee] at p
    exact p
  refine Nx.sSet (P := below K (max 1 n)) (TyE.op (TyE.capTurn (K := K) c (hpm rfl)) (hmx rfl) (r_modB (by omega))) ?_
  refine Nx.open 2 rfl fun at_ hat => ?_
  have hix : ∀ {Γ : Ctx}, n ≠ 0 → Γ[3]? = some (some (isV (.ref pg))) → Γ[2]? = some (some (rep K (.int (at_ : Nat)))) → TyE W Γ (tOp (rIx K) (tVar 3) (tVar 2)) (anyI K) := fun hn0 e3 e2 => TyE.op (TyE.var e3) (TyE.var e2) (r_capIx c (by omega))
  refine Nx.sIf1 (TyT.andX (TyT.test (K := K) (TyE.op (TyE.var rfl) (TyE.lstD (ds := []) TyA.nil) (r_capNe c))) (ψ := fun _ => True) fun hne => ?_) (fun hne => ?_) fun _ => ?_
  · have hn0 : n ≠ 0 := of_decide_eq_true hne.symm
    exact TyT.testX (K := K) (TyE.op (hix hn0 rfl rfl) (TyE.int (K := K)) (R2T.ex1 fun i _ => (r_bl0 (K := K)).imp fun v H p => ⟨_, trivial, p⟩))
  · have hn0 : n ≠ 0 := by
      rcases hne with ⟨z, _⟩ | ⟨z, _⟩
      · cases z
      · exact of_decide_eq_true z.symm
    refine Nx.sSet (P := below K top) (TyE.op (hix hn0 rfl rfl) (TyE.var rfl) (r_modB ht1)) ?_
    refine Nx.sAsg (vs := []) (TyE.op (hix hn0 rfl rfl) (TyE.var rfl) (r_anyC fun i => (by show 0 < ((top : Nat) : Int) ∧ ((top : Nat) : Int) < 1073741824; omega))) (TyG.capSet c rfl rfl (by omega)) ?_
    exact Nx.ret (TyE.var rfl) hR
  · refine Nx.capRun (K := K) c ?_ (hpm rfl) ?_
    · refine TyE.op (TyE.op (TyE.op (TyE.op (TyE.capRun (K := K) c (hpm rfl)) (TyE.int (K := K)) (r_anyC fun i => .inr (by decide))) (TyE.op (TyE.int (K := K)) (TyE.capTurn (K := K) c (hpm rfl)) ?_) r_anyI) TyE.anyC r_anyI) (TyE.int (K := K)) (r_anyC fun i => by decide)
      exact R2T.ex2 fun j _ => (r_intC (K := K) (.inl (by decide))).imp fun v H p => ⟨_, trivial, p⟩
    · exact Nx.ret (TyE.op (TyE.op (TyE.capRun (K := K) c (hpm rfl)) (TyE.int (K := K)) (r_anyC fun i => (by show (0 : Int) < 49157 ∧ (49157 : Int) < 1073741824; decide))) (TyE.var rfl) (r_modB ht1)) hR
/-! _law_of -/
structure OfA where
  pm : Addr
  pg : Addr
  n : Nat
  Ps : List Pd
def pick (Ps : List Pd) : Pd := exP (fun i : Nat => i < Ps.length) fun i => (Ps[i]?).getD anyP
def spOf (K : PySem.W.Frag) : Sp := SpF (δ := OfA) (fun x => [isV (.ref x.pm), lstOf K x.Ps]) (fun x => pick x.Ps) (fun x W => Cap W x.pm x.pg x.n ∧ 1 ≤ x.Ps.length ∧ x.Ps.length ≤ 1000)
theorem r_ixB {W : Wd} {Ps : List Pd} : R2T W (rIx K) (lstOf K Ps) (below K Ps.length) (pick Ps) := R2T.ex2 fun i hi => (r_ixAL (i := i) (P := (Ps[i]?).getD anyP) (by rw [List.getElem?_eq_getElem hi] <;> rfl)).imp fun v H p => ⟨i, hi, p⟩
theorem pick_map {α : Type} {xs : List α} {F : α → Pd} {v : V} {H : Hp} (h : (pick (xs.map F)).h v H) : (exP (· ∈ xs) F).h v H := by
  obtain ⟨i, hi, p⟩ := h
  rw [List.length_map] at hi
  have e : ((xs.map F)[i]?).getD anyP = F xs[i] := by rw [List.getElem?_map, List.getElem?_eq_getElem hi] <;> rfl
  have p' : (((xs.map F)[i]?).getD anyP).h v H := p
  rw [e] at p'
  exact ⟨xs[i], List.getElem_mem hi, p'⟩
theorem scLOf : FnScope ["_law_m", "_law_some"] ["_law_m", "_law_some"] (defScope sLOf) := ⟨rfl, rfl, rfl, by decide +kernel, rfl, by decide +kernel, by decide +kernel⟩
theorem ok__law_of (T : Tx K mg) {f : Addr} {fd : FuncData} (F : FnP K "_law_of" "_law_of" sLOf f fd) (D__law_draw : DefOk P w K mg base 1 "_law_draw" ["_law_m", "_law_top"] (spDraw K)) : FnOk P w K mg base CX0 (2) f fd ["_law_m", "_law_some"] (spOf K) := by
  obtain ⟨f__law_draw, fd__law_draw, G__law_draw, m__law_draw, kp__law_draw, b__law_draw⟩ := D__law_draw.ex
  refine fn_ok F scLOf (fun _ => rfl) fun cdv A outer s H E hr => ?_
  refine ⟨_, (pss_one (ps_ret (pe_ix (k_ix K) (pv 1) (pe_call G__law_draw (hr.mono (by omega)) rfl m__law_draw kp__law_draw b__law_draw .nil pass0 (pa_cons (pv 0) (pa_cons (pe_callB (k_len K) rfl T.len bt_len (pa_cons (pv 1) pa_nil)) pa_nil))) (fun _ _ => rfl)))), ?_⟩
  -- N: [(0, '_law_m'), (1, '_law_some')]; cells: []
  rintro ⟨pm, pg, n, Ps⟩ W ⟨c, h1, h2⟩ B D hn hR
  have h1 : 1 ≤ Ps.length := h1
  have h2 : Ps.length ≤ 1000 := h2
  refine Nx.ret (TyE.op (TyE.var rfl) (TyE.fn (⟨pm, pg, n, Ps.length⟩ : DrA) (by exact ⟨c, h1, Nat.le_trans h2 (by decide)⟩) (TyA.cons (TyE.var rfl) (TyA.cons (TyE.cb (TyA.cons (TyE.var rfl) TyA.nil) ra_lenL) TyA.nil))) r_ixB) hR
/-- one of some -/
theorem TyE.of {α : Type} {W : Wd} {Γ : Ctx} {ta tb : TE} {E : XK} {pm pg : Addr} {n : Nat} (xs : List α) (F : α → Pd) (c : Cap W pm pg n) (ha : TyE W Γ ta (isV (.ref pm))) (hb : TyE W Γ tb (lstOf K (xs.map F))) (h1 : 1 ≤ xs.length) (h2 : xs.length ≤ 1000) :
    TyE W Γ (tCall (spOf K) [] E (tCons ta (tCons tb tNil))) (exP (· ∈ xs) F) := (TyE.fn (⟨pm, pg, n, xs.map F⟩ : OfA) (by exact ⟨c, by show 1 ≤ (xs.map F).length; rw [List.length_map]; exact h1, by show (xs.map F).length ≤ 1000; rw [List.length_map]; exact h2⟩) (TyA.cons ha (TyA.cons hb TyA.nil))).imp fun v H => pick_map
end
end Tk
namespace Tk
open PySem PySem.Spec PyProof.Rows L2
/-! ### what is held to the letter -/
def isX (o : HO) : HO → Hp → Prop := fun u _ => u = o
theorem isX_mono {o u : HO} {H H' : Hp} (_ : Same H H') (h : isX o u H) : isX o u H' := h
def Wd.ownX (W : Wd) (p : Addr) (o : HO) : Wd := W.own p (isX o) isX_mono
section
variable {K : PySem.W.Frag} {W : Wd} {Γ : Ctx} {p q pm pg : Addr} {n : Nat} {o o' : HO} {B : Hp} {k : L2.St → Hp → Prop}
theorem ownX_v {H : Hp} : (W.ownX p o).v H = W.v (hide p H) := vw_cons
theorem ownX_at {H : Hp} (j : (W.ownX p o).J H) : H p = some o := by
  obtain ⟨_, u, e, f⟩ := j
  have f' : u = o := f
  rw [← f']; exact e
theorem ownX_new {H : Hp} (j : W.J H) (hp : H p = none) : (W.ownX p o).J (upd H p o) ∧ (W.ownX p o).v (upd H p o) = W.v H := ⟨⟨by rw [hide_upd, hide_free hp]; exact j, o, upd_same, rfl⟩, by rw [ownX_v, hide_upd, hide_free hp]⟩
theorem ownX_put {H : Hp} (j : (W.ownX p o).J H) : (W.ownX p o').J (upd H p o') ∧ (W.ownX p o').v (upd H p o') = (W.ownX p o).v H := ⟨⟨by rw [hide_upd]; exact j.1, o', upd_same, rfl⟩, by rw [ownX_v, ownX_v, hide_upd]⟩
theorem ownX_in {H : Hp} {u : HO} (hpq : p ≠ q) (j : ((W.ownX p o).ownX q u).J H) : H p = some o ∧ ((W.ownX p o').ownX q u).J (upd H p o') ∧ ((W.ownX p o').ownX q u).v (upd H p o') = ((W.ownX p o).ownX q u).v H := by
  obtain ⟨j1, x, ex, fx⟩ := j
  have hp := ownX_at j1
  rw [hide_ne hpq] at hp
  obtain ⟨j2, e2⟩ := ownX_put (o' := o') j1
  refine ⟨hp, ⟨by rw [hide_updN hpq]; exact j2, x, by rw [upd_ne (Ne.symm hpq)]; exact ex, fx⟩, ?_⟩
  rw [ownX_v (W := W.ownX p o'), ownX_v (W := W.ownX p o), hide_updN hpq, e2]
theorem Cap.own {φ : HO → Hp → Prop} {mono : ∀ {o : HO} {H H' : Hp}, Same H H' → φ o H → φ o H'} (c : Cap W pm pg n) : Cap (W.own p φ mono) pm pg n where
  ne := c.ne
  few := c.few
  rd := fun H ⟨j, _⟩ => by
    obtain ⟨r, t, ns, h1, h2, h3⟩ := c.rd _ j
    exact ⟨r, t, ns, hide_le _ _ h1, hide_le _ _ h2, h3⟩
  wm := fun H r t ⟨j, o, eo, f⟩ => by
    obtain ⟨r0, t0, ns0, h1, h2, h3⟩ := c.rd _ j
    have hne : pm ≠ p := fun e => by rw [e, hide_same] at h1; cases h1
    obtain ⟨j2, ev⟩ := c.wm _ r t j
    have ev2 : (W.own p φ mono).v (upd H pm (.dK (stL r t pg))) = (W.own p φ mono).v H := by
      show vw (p :: W.A) _ = vw (p :: W.A) _
      rw [vw_cons, vw_cons, hide_updN hne]; exact ev
    refine ⟨⟨by rw [hide_updN hne]; exact j2, o, by rw [upd_ne (Ne.symm hne)]; exact eo, ?_⟩, ev2⟩
    show φ o ((W.own p φ mono).v _)
    rw [ev2]; exact f
  wg := fun H ns ⟨j, o, eo, f⟩ hn => by
    obtain ⟨r0, t0, ns0, h1, h2, h3⟩ := c.rd _ j
    have hne : pg ≠ p := fun e => by rw [e, hide_same] at h2; cases h2
    obtain ⟨j2, ev⟩ := c.wg _ ns j hn
    have ev2 : (W.own p φ mono).v (upd H pg (.lst (ns.map V.int))) = (W.own p φ mono).v H := by
      show vw (p :: W.A) _ = vw (p :: W.A) _
      rw [vw_cons, vw_cons, hide_updN hne]; exact ev
    refine ⟨⟨by rw [hide_updN hne]; exact j2, o, by rw [upd_ne (Ne.symm hne)]; exact eo, ?_⟩, ev2⟩
    show φ o ((W.own p φ mono).v _)
    rw [ev2]; exact f
theorem ownX_free {H : Hp} (j : (W.ownX p o).J H) (hp : p ∉ W.A) : W.J H ∧ Same ((W.ownX p o).v H) (W.v H) := by
  obtain ⟨j1, _⟩ := j
  have s : Same (W.v (hide p H)) (W.v H) := fun a u q => by
    obtain ⟨h1, h2⟩ := vw_some q
    show vw W.A H a = _
    rw [vw_out h1]
    exact hide_le a u h2
  exact ⟨W.st j1 (fun a ha => (hide_ne (p := p) (a := a) (H := H) fun (q : a = p) => hp (by rw [← q]; exact ha)).symm) s, by rw [ownX_v]; exact s⟩
/-- name = [texts], held -/
theorem Nx.sOwnX {D : Ends} {us : TS} {i : Nat} {tA : TA} {xs : List Str} (hA : TyA W Γ tA (xs.map fun s => rep K (.str s))) (hl : xs.length ≤ 1000) (h : ∀ p, p ∉ W.A → Nx (W.ownX p (.lst (xs.map V.str))) B (Γ.set i (some (isV (.ref p)))) (us D)) : Nx W B Γ (tSeq (tAsg (tLst tA) (gName i)) us D) := fun σ H j b e =>
  hA σ H _ j e fun vs H1 j1 s1 p1 => by
    have ev := strs_of p1
    subst ev
    refine ⟨by rw [List.length_map]; exact Nat.le_of_lt (small1000 hl), fun p hp => ?_⟩
    obtain ⟨j2, e2⟩ := ownX_new (o := .lst (xs.map V.str)) j1 hp
    exact h p (Wd.out j1 hp) _ _ j2 (by rw [e2]; exact b.trans s1) (by rw [e2]; exact (e.mono s1).set i rfl)
end
/-! ### words -/
abbrev pool0 : List Str := ["all", "and", "in", "no", "not", "one", "or", "row", "some", "sort", "tie", "var", "x", "y", "abcdefgh"]
theorem pool_names : pool0.all isName = true := by decide +kernel
theorem pool_nd : pool0.Nodup := by decide +kernel
theorem lists_three : ∀ a b : List Nat, a < b ∨ a = b ∨ b < a
  | [], [] => .inr (.inl rfl)
  | [], b :: l => .inl (List.nil_lt_cons b l)
  | a :: l, [] => .inr (.inr (List.nil_lt_cons a l))
  | a :: l, b :: m => by
    rcases Nat.lt_trichotomy a b with h | h | h
    · exact .inl (List.cons_lt_cons_iff.mpr (.inl h))
    · subst h
      rcases lists_three l m with h | h | h
      · exact .inl (List.cons_lt_cons_iff.mpr (.inr ⟨rfl, h⟩))
      · exact .inr (.inl (by rw [h]))
      · exact .inr (.inr (List.cons_lt_cons_iff.mpr (.inr ⟨rfl, h⟩)))
    · exact .inr (.inr (List.cons_lt_cons_iff.mpr (.inl h)))
theorem str_cps {a b : Str} (h : a.cps.toList = b.cps.toList) : a = b := by
  obtain ⟨x⟩ := a
  obtain ⟨y⟩ := b
  have h' : x = y := Array.toList_inj.mp h
  rw [h']
theorem rises_of : ∀ {x : Str} {r : List Str}, risingS x r = true → (x :: r).Nodup → ((x :: r).zip r).all (fun p => ltS p.1 p.2) = true
  | x, [], _, _ => rfl
  | x, y :: r, h, hn => by
    have h' : (!ltCps y.cps.toList x.cps.toList && risingS y r) = true := h
    obtain ⟨h1, h2⟩ := Bool.and_eq_true_iff.mp h'
    obtain ⟨n1, n2⟩ := List.nodup_cons.mp hn
    show (ltS x y && ((y :: r).zip r).all fun p => ltS p.1 p.2) = true
    rw [rises_of h2 n2, Bool.and_true]
    rw [ltCps_eq] at h1
    have h3 : ¬ y.cps.toList < x.cps.toList := by simpa using h1
    refine decide_eq_true ?_
    rcases lists_three x.cps.toList y.cps.toList with h4 | h4 | h4
    · exact h4
    · exact absurd (str_cps h4) fun e => n1 (by rw [e]; exact .head _)
    · exact absurd h4 h3
theorem rising_sorted {ys : List Str} (h : sortedS ys = true) (hn : ys.Nodup) (ha : ys.all isName = true) : risingB ys = true := by
  unfold risingB
  rw [ha, Bool.true_and]
  cases ys with
  | nil => rfl
  | cons x r => exact rises_of h hn
section
variable {P : Program} {w : World} {K : PySem.W.Frag} {mg : Str → Option Value} {base : Heap}
section
variable {W : Wd} {Γ : Ctx} {p q : Addr} {rs fs : List Str} {B : Hp} {D : Ends} {tk : TE}
theorem ra_lenX {φ : HO → Hp → Prop} {mono : ∀ {o : HO} {H H' : Hp}, Same H H' → φ o H → φ o H'} (hpq : p ≠ q) : RAT ((W.ownX p (.lst (rs.map V.str))).own q φ mono) (rLenA K) [isV (.ref p)] (rep K (.int (rs.length : Nat))) := .now fun xs H j e => by
  obtain ⟨x, rfl, e1⟩ := e.one
  have ex : x = .ref p := e1
  subst ex
  have hp := ownX_at j.1
  rw [hide_ne hpq] at hp
  exact ⟨_, .int _, fun Q q => ⟨_, _, rfl, .inl ⟨rs.map V.str, SqL.of hp, by rw [List.length_map]⟩, q⟩⟩
theorem erase_map {α β : Type} (f : α → β) : ∀ (l : List α) (j : Nat), (l.map f).eraseIdx j = (l.eraseIdx j).map f
  | [], _ => rfl
  | _ :: _, 0 => rfl
  | x :: l, j + 1 => by
    show f x :: (l.map f).eraseIdx j = f x :: (l.eraseIdx j).map f
    rw [erase_map f l j]
theorem seq_nat {i n : Nat} (h : i < n) : seqIndex? (i : Int) n = some i := by
  unfold seqIndex?
  have h0 : ¬ ((i : Int) < 0) := by omega
  simp [h0, h]
theorem Nx.popApp {i2 i3 : Nat} (hpq : p ≠ q) (hr : rs.length ≤ 100) (hf : fs.length ≤ 100) (e2 : Γ[i2]? = some (some (isV (.ref p)))) (e3 : Γ[i3]? = some (some (isV (.ref q)))) (hk : TyE ((W.ownX p (.lst (rs.map V.str))).ownX q (.lst (fs.map V.str))) Γ tk (below K rs.length))
    (h : ∀ i (hi : i < rs.length), Nx ((W.ownX p (.lst ((rs.eraseIdx i).map V.str))).ownX q (.lst ((fs ++ [rs[i]]).map V.str))) B Γ D.nx) :
    Nx ((W.ownX p (.lst (rs.map V.str))).ownX q (.lst (fs.map V.str))) B Γ (tDrop (tBM K "list" rAppend (tVar i3) (tCons (tBM K "list" rPopAt (tVar i2) (tCons tk tNil)) tNil)) D) := fun σ H j b e => by
  obtain ⟨u, a1, a2⟩ := e.at_ i3 _ e3
  have eu : u = .ref q := a2
  subst eu
  obtain ⟨y, b1, b2⟩ := e.at_ i2 _ e2
  have ey : y = .ref p := b2
  subst ey
  have hq := ownX_at j
  have hp := (ownX_in (o' := .lst []) hpq j).1
  refine ⟨.ref q, a1, .inl ⟨rfl, _, SqL.of hq⟩, ?_⟩
  refine ⟨.ref p, b1, .inl ⟨rfl, _, SqL.of hp⟩, hk σ H _ j e fun v H1 j1 s1 ⟨i, hi, pi⟩ => ?_⟩
  obtain ⟨hp1, j2, ev2⟩ := ownX_in (o' := .lst ((rs.eraseIdx i).map V.str)) hpq j1
  have hgi : (rs.map V.str)[i]? = some (.str rs[i]) := by rw [List.getElem?_map, List.getElem?_eq_getElem hi] <;> rfl
  have ev : v = .int (i : Nat) := dp_int pi
  subst ev
  refine ⟨p, rs.map V.str, (i : Int), i, .str rs[i], rfl, rfl, hp1, by omega, by omega, by rw [List.length_map]; exact seq_nat hi, hgi, ?_⟩
  rw [erase_map]
  have hq2 := ownX_at j2
  obtain ⟨j3, ev3⟩ := ownX_put (o' := .lst ((fs ++ [rs[i]]).map V.str)) j2
  refine ⟨q, fs.map V.str, .str rs[i], rfl, rfl, hq2, by rw [List.length_map]; exact small1000 (by omega), ?_⟩
  have em : fs.map V.str ++ [V.str rs[i]] = (fs ++ [rs[i]]).map V.str := by rw [List.map_append] <;> rfl
  rw [em]
  refine h i hi σ _ j3 ?_ ?_
  · rw [ev3, ev2]; exact b.trans s1
  · rw [ev3, ev2]; exact e.mono s1
theorem strs_all {H : Hp} : ∀ {ys : List Str}, PdAll (ys.map fun s => rep K (.str s)) (ys.map V.str) H
  | [] => .nil
  | y :: ys => .cons (.str y) strs_all
theorem Nx.retSort {i3 : Nat} (hp : p ∉ W.A) (hq : q ∉ (W.ownX p (.lst (rs.map V.str))).A) (hf : fs.length < 64) (e3 : Γ[i3]? = some (some (isV (.ref q)))) (h : ∀ (ys : List Str) v H, ys.Perm fs → sortedS ys = true → W.J H → Same B (W.v H) → (lstN (ys.map fun s => rep K (.str s))).h v (W.v H) → D.rt v H) :
    Nx ((W.ownX p (.lst (rs.map V.str))).ownX q (.lst (fs.map V.str))) B Γ (tRet (tCB (rSortedS K) (tCons (tVar i3) tNil)) D) := fun σ H j b e => by
  obtain ⟨u, a1, a2⟩ := e.at_ i3 _ e3
  have eu : u = .ref q := a2
  subst eu
  have hqq := ownX_at j
  obtain ⟨j1, s1⟩ := ownX_free j hq
  obtain ⟨j2, s2⟩ := ownX_free j1 hp
  refine ⟨.ref q, a1, q, fs, rfl, SqL.of hqq, hf, fun ys r hpm hs hr => ?_⟩
  obtain ⟨j3, s3, e3⟩ := W.alloc j2 hr (.lst (ys.map V.str))
  refine h ys _ _ hpm hs j3 (((b.trans s1).trans s2).trans s3) ⟨r, _, rfl, e3, ?_⟩
  exact strs_all
end
theorem erase_perm {α : Type} : ∀ (l : List α) (k : Nat) (h : k < l.length), (l[k] :: l.eraseIdx k).Perm l
  | [], k, h => absurd h (Nat.not_lt_zero _)
  | x :: l, 0, h => List.Perm.refl _
  | x :: l, k + 1, h => by
    have hk : k < l.length := by simpa using h
    have ih := erase_perm l k hk
    show (l[k] :: x :: l.eraseIdx k).Perm (x :: l)
    exact (List.Perm.swap x l[k] (l.eraseIdx k)).trans (ih.cons x)
structure WoA where
  pm : Addr
  pg : Addr
  n : Nat
  many : Nat
def wordsP (K : PySem.W.Frag) (many : Nat) : Pd := exP (fun ws : List Str => ws.length = many ∧ risingB ws = true) fun ws => lstN (ws.map fun s => rep K (.str s))
def spWords (K : PySem.W.Frag) : Sp := SpF (δ := WoA) (fun x => [isV (.ref x.pm), rep K (.int (x.many : Nat))]) (fun x => wordsP K x.many) (fun x W => Cap W x.pm x.pg x.n ∧ x.many ≤ 14)
theorem scLWords : FnScope ["_law_m", "_law_many", "_law_pool", "_law_found", "_law_k"] ["_law_m", "_law_many"] (defScope sLWords) := ⟨rfl, rfl, rfl, by decide +kernel, rfl, by decide +kernel, by decide +kernel⟩
theorem ok__law_words (T : Tx K mg) {f : Addr} {fd : FuncData} (F : FnP K "_law_words" "_law_words" sLWords f fd) (D__law_draw : DefOk P w K mg base 1 "_law_draw" ["_law_m", "_law_top"] (spDraw K)) : FnOk P w K mg base CX0 (2) f fd ["_law_m", "_law_many"] (spWords K) := by
  obtain ⟨f__law_draw, fd__law_draw, G__law_draw, m__law_draw, kp__law_draw, b__law_draw⟩ := D__law_draw.ex
  refine fn_ok F scLWords (fun _ => rfl) fun cdv A outer s H E hr => ?_
  refine ⟨_, (pss_cons (ps_set (i := 2) scLWords.nd rfl (Or.inl rfl) (pe_lst (pa_cons pe_str (pa_cons pe_str (pa_cons pe_str (pa_cons pe_str (pa_cons pe_str (pa_cons pe_str (pa_cons pe_str (pa_cons pe_str (pa_cons pe_str (pa_cons pe_str (pa_cons pe_str (pa_cons pe_str (pa_cons pe_str (pa_cons pe_str (pa_cons pe_str pa_nil)))))))))))))))))
      (pss_cons (ps_set (i := 3) scLWords.nd rfl (Or.inl rfl) (pe_lst pa_nil))
      (pss_cons (ps_for PassesOwn.never rfl (pi_range1 rfl T.range (pa_cons (pv 1) pa_nil)) (pg_name (i := 4) scLWords.nd rfl (Or.inl rfl)) (pss_one (ps_expr (k_bm K PySem.F.plainAttrs_list PySem.F.slot_list_append PySem.F.type_list_append mt_append (pv 3) (pa_cons (k_bm K PySem.F.plainAttrs_list PySem.F.slot_list_pop PySem.F.type_list_pop mt_popAt (pv 2) (pa_cons (pe_call G__law_draw (hr.mono (by omega)) rfl m__law_draw kp__law_draw b__law_draw .nil pass0 (pa_cons (pv 0) (pa_cons (pe_callB (k_len K) rfl T.len bt_len (pa_cons (pv 2) pa_nil)) pa_nil))) pa_nil)) pa_nil)))))
      (pss_one (ps_ret (pe_callB (k_sortS K) rfl T.sorted bt_sorted (pa_cons (pv 3) pa_nil))))))), ?_⟩
  -- N: [(0, '_law_m'), (1, '_law_many'), (2, '_law_pool'), (3, '_law_found'), (4, '_law_k')]; cells: []
  rintro ⟨pm, pg, n, many⟩ W ⟨c, hm⟩ B D hn hR
  have c : Cap W pm pg n := c
  have hm : many ≤ 14 := hm
  refine Nx.sOwnX (K := K) (xs := pool0) (TyA.cons TyE.str (TyA.cons TyE.str (TyA.cons TyE.str (TyA.cons TyE.str (TyA.cons TyE.str (TyA.cons TyE.str (TyA.cons TyE.str (TyA.cons TyE.str (TyA.cons TyE.str (TyA.cons TyE.str (TyA.cons TyE.str (TyA.cons TyE.str (TyA.cons TyE.str (TyA.cons TyE.str (TyA.cons TyE.str TyA.nil))))))))))))))) (by decide) fun p hp => ?_
  refine Nx.sOwnX (K := K) (xs := []) TyA.nil (by decide) fun q hq => ?_
  have hpq : p ≠ q := fun e => hq (by rw [e]; exact .head _)
  refine Nx.for_ (ι := List Str × List Str) (vs := [4]) (fun _ x => (W.ownX p (.lst (x.1.map V.str))).ownX q (.lst (x.2.map V.str))) (fun _ _ => [some (isV (.ref pm)), some (rep K (.int (many : Nat))), some (isV (.ref p)), some (isV (.ref q)), none])
    (fun i x => x.1.length + i = 15 ∧ x.2.length = i ∧ (x.2 ++ x.1).Nodup ∧ ∀ s ∈ x.2 ++ x.1, s ∈ pool0) (TyI.range1 (n := many) (TyA.cons (TyE.var rfl) TyA.nil) (by omega)) (pool0, []) ⟨rfl, rfl, pool_nd, fun s hs => hs⟩ rfl (Le.refl _) (fun i Pt x B' hP hok hB => ?_) fun x B' hok hB => ?_
  · obtain ⟨rs, fs⟩ := x
    obtain ⟨h1, h2, h3, h4⟩ := hok
    have h1 : rs.length + i = 15 := h1
    have h2 : fs.length = i := h2
    have hi : i < many := by
      have := (List.getElem?_eq_some_iff.mp hP).1
      rw [List.length_map, List.length_range] at this
      exact this
    rw [List.getElem?_map, List.getElem?_range hi] at hP
    have hP' : rep K (.int ((0 : Int) + (i : Nat))) = Pt := by simpa using hP
    subst hP'
    refine ⟨_, TyG.name, fun N hN => ?_⟩
    refine Nx.popApp hpq (by omega) (by omega) rfl rfl (TyE.fn (⟨pm, pg, n, rs.length⟩ : DrA) (by exact ⟨Cap.own (Cap.own c), by show 1 ≤ rs.length; omega, by show rs.length ≤ 100000; omega⟩) (TyA.cons (TyE.var rfl) (TyA.cons (TyE.cb (TyA.cons (TyE.var rfl) TyA.nil) (ra_lenX hpq)) TyA.nil))) fun k hk => ?_
    have hsub : (rs.eraseIdx k).Sublist rs := List.eraseIdx_sublist ..
    refine (hN (rs.eraseIdx k, fs ++ [rs[k]]) ⟨?_, ?_, ?_, ?_⟩).le (Le.same (Le.same (Le.same (Le.same (Le.drop Le.nil)))))
    · show (rs.eraseIdx k).length + (i + 1) = 15
      rw [List.length_eraseIdx, if_pos hk]
      omega
    · show (fs ++ [rs[k]]).length = i + 1
      rw [List.length_append, h2] <;> rfl
    · show (fs ++ [rs[k]] ++ rs.eraseIdx k).Nodup
      refine (List.Perm.nodup_iff ?_).mpr h3
      rw [List.append_assoc]
      refine List.Perm.append_left fs ?_
      show (rs[k] :: rs.eraseIdx k).Perm rs
      exact erase_perm rs k hk
    · intro s hs
      refine h4 s ?_
      rcases List.mem_append.mp hs with hs | hs
      · rcases List.mem_append.mp hs with hs | hs
        · exact List.mem_append_left _ hs
        · have e : s = rs[k] := by simpa using hs
          rw [e]; exact List.mem_append_right _ (List.getElem_mem hk)
      · exact List.mem_append_right _ (hsub.mem hs)
  · obtain ⟨rs, fs⟩ := x
    obtain ⟨h1, h2, h3, h4⟩ := hok
    have h2 : fs.length = many := by
      rw [List.length_map, List.length_range] at h2
      exact h2
    refine Nx.retSort hp hq (by omega) rfl fun ys v H hpm hs j b p => hR v H j (hB.trans b) ⟨ys, ⟨by rw [hpm.length_eq]; exact h2, rising_sorted hs ?_ ?_⟩, p⟩
    · exact (List.Perm.nodup_iff hpm).mpr (List.nodup_append.mp h3).1
    · refine List.all_eq_true.mpr fun s hs2 => List.all_eq_true.mp pool_names s (h4 s (List.mem_append_left _ (hpm.mem_iff.mp hs2)))
end
end Tk
namespace Tk
open PySem PySem.Spec PyProof.Rows L2
/-! ### what is laid anew, where nothing stood before -/
def frP (φ : Addr → Prop) (P : Pd) : Pd := ⟨fun v H => P.h v H ∧ ∃ a, v = .ref a ∧ φ a, fun e ⟨h, r⟩ => ⟨P.mono e h, r⟩⟩
section
variable {K : PySem.W.Frag} {W : Wd} {Γ Γ' : Ctx} {te ta tb : TE} {tt : TT} {P P' P1 P2 P3 : Pd} {Ps Qs : List Pd} {tA : TA} {φ : Addr → Prop}
theorem TyE.lcN {wi : TI} {g : TG} {vs : List Nat} (f : Nat → Bool) (out : Nat → Pd) (hφ : ∀ H p, W.J H → H p = none → φ p) (hi : TyI W Γ wi Ps) (hn : Ps.length ≤ 1000)
    (hs : ∀ (i : Nat) (P : Pd) (p : Addr) (Qs : List Pd), Ps[i]? = some P → p ∉ W.A → ∃ Γ1, TyG (W.ownL K p Qs) (wipeG Γ vs) g P Γ1 vs ∧ TyT (W.ownL K p Qs) Γ1 tt (· = f i) ∧ (f i = true → TyE (W.ownL K p Qs) Γ1 te (out i))) :
    TyE W Γ (tLc wi g tt te vs) (frP φ (Tk.lstN (((List.range Ps.length).filter f).map out))) := fun σ H Q j e q =>
  hi σ H _ j e fun J H1 j1 s1 wk p hp => by
    have hpA : p ∉ W.A := Wd.out j1 hp
    have hpφ : φ p := hφ H1 p j1 hp
    obtain ⟨jn, sn⟩ := ownL_new (K := K) j1 hp
    refine ⟨fun i m H' => m = Ps.length - i ∧ i ≤ Ps.length ∧ (W.ownL K p (((List.range i).filter f).map out)).J H' ∧ Same (W.v H1) ((W.ownL K p (((List.range i).filter f).map out)).v H'),
      ⟨Ps.length, by simp, Nat.zero_le _, jn, sn⟩, ?_⟩
    rintro i m H' ⟨rfl, hle, j', b'⟩
    by_cases hlt : i < Ps.length
    · refine .inr ⟨wk.go _ _ i j' b' hlt, _, fun _ z => z, fun v H2 hy => ?_⟩
      obtain ⟨j2, s2, p2⟩ := wk.yld _ _ i v H2 _ j' b' (List.getElem?_eq_getElem hlt) hy
      obtain ⟨Γ1, hg, ht, hE⟩ := hs i _ p _ (List.getElem?_eq_getElem hlt) hpA
      have e1 : EnvR (wipeG Γ vs) (wipe σ vs) ((W.ownL K p (((List.range i).filter f).map out)).v H2) := ((e.mono s1).mono (b'.trans s2)).wipe vs
      refine hg _ H2 v _ j2 e1 p2 fun σ3 H3 j3 s3 e3 l3 o3 => ⟨?_, ?_⟩
      · rw [wipe_eq l3 o3, wipe_wipe]
      · refine ht σ3 H3 _ j3 e3 fun b H4 hb j4 s4 => ?_
        have hb' : b = f i := hb
        subst hb'
        have b4 := ((b'.trans s2).trans s3).trans s4
        cases hf : f i with
        | true =>
          rw [if_pos rfl]
          refine hE hf σ3 H4 _ j4 (e3.mono s4) fun y H5 j5 s5 p5 => ?_
          obtain ⟨acc, ea, el, ja, ev⟩ := ownL_app (P := out i) j5 p5
          have en : ((List.range (i + 1)).filter f).map out = ((List.range i).filter f).map out ++ [out i] := by
            rw [List.range_succ, List.filter_append, List.map_append, List.filter_cons, if_pos hf] <;> rfl
          refine ⟨acc, ea, ?_, Ps.length - (i + 1), by omega, rfl, hlt, ?_⟩
          · rw [el, List.length_map]
            have h1 := List.length_filter_le f (List.range i)
            rw [List.length_range] at h1
            exact small1000 (by omega)
          · rw [en]
            exact ⟨ja, by rw [ev]; exact b4.trans s5⟩
        | false =>
          rw [if_neg Bool.false_ne_true]
          have en : ((List.range (i + 1)).filter f).map out = ((List.range i).filter f).map out := by
            rw [List.range_succ, List.filter_append, List.map_append, List.filter_cons, if_neg (by rw [hf]; decide)]
            show _ ++ [] = _
            rw [List.append_nil]
          exact ⟨Ps.length - (i + 1), by omega, rfl, hlt, by rw [en]; exact ⟨j4, b4⟩⟩
    · have ei : i = Ps.length := by omega
      subst ei
      obtain ⟨jf, sf, pf⟩ := ownL_freeN j' hpA
      exact .inl ⟨wk.stop _ _ j' b', q _ H' jf ((s1.trans b').trans sf) ⟨pf, p, rfl, hpφ⟩⟩
theorem TyE.lcFN {α : Type} {wi : TI} {g : TG} {tt : TT} {vs : List Nat} (xs : List α) (F : α → Pd) (f : α → Bool) (G : α → Pd) (hφ : ∀ H p, W.J H → H p = none → φ p) (hi : TyI W Γ wi (xs.map F)) (hn : xs.length ≤ 1000)
    (hs : ∀ a, a ∈ xs → ∀ (p : Addr) (Qs : List Pd), p ∉ W.A → ∃ Γ1, TyG (W.ownL K p Qs) (wipeG Γ vs) g (F a) Γ1 vs ∧ TyT (W.ownL K p Qs) Γ1 tt (· = f a) ∧ (f a = true → TyE (W.ownL K p Qs) Γ1 te (G a))) :
    TyE W Γ (tLc wi g tt te vs) (frP φ (Tk.lstN ((xs.filter f).map G))) := by
  rw [← range_fm f G anyP xs]
  have h := TyE.lcN (K := K) (W := W) (Γ := Γ) (te := te) (tt := tt) (g := g) (vs := vs) (fun i => (xs[i]?.map f).getD false) (fun i => (xs[i]?.map G).getD anyP) hφ hi (by rw [List.length_map]; exact hn) (fun i P p Qs hP hp => by
    rw [List.getElem?_map] at hP
    cases e : xs[i]? with
    | none => rw [e] at hP; cases hP
    | some a =>
      rw [e] at hP
      have eP : F a = P := by simpa using hP
      subst eP
      exact hs a (List.mem_of_getElem? e) p Qs hp)
  rw [List.length_map] at h
  exact h
theorem TyE.dispN {trs : List (TE × TE)} {ks : List (Str × Pd)} (hφ : ∀ H p, W.J H → H p = none → φ p) (hn : (ks.map (·.1)).Nodup) (hl : ks.length ≤ 15) (h : ∀ p, p ∉ W.A → TyPs K (W.ownE p) Γ trs ks) : TyE W Γ (tDisp trs) (frP φ (dctP ks)) := fun σ H Q j e q p hp => by
  obtain ⟨j1, s1⟩ := ownE_new j hp
  have hpA := Wd.out j hp
  have hpφ : φ p := hφ H p j hp
  refine ty_pairs (h p hpA) σ _ _ j1 (e.mono s1) fun l H2 j2 s2 m2 p2 => ?_
  obtain ⟨e2, j3, s3, e3⟩ := ownE_put j2 hpA (.dK (mergeK [] l))
  refine ⟨e2, l, rfl, ?_, ?_⟩
  · have := congrArg List.length m2
    simp only [List.length_map] at this
    omega
  · have hnd : (l.map (·.1)).Nodup := by
      rw [m2, show (fun p : Str × Pd => (Sum.inr p.1 : Key)) = (fun s => (Sum.inr s : Key)) ∘ (·.1) from rfl, ← List.map_map]
      exact List.Pairwise.map _ (fun a b h z => h (Sum.inr.inj z)) hn
    rw [merge_nil hnd] at e3 j3 s3 ⊢
    exact q _ _ j3 ((s1.trans s2).trans s3) ⟨⟨p, l, rfl, e3, m2, p2.mono s3⟩, p, rfl, hpφ⟩
end
/-- nothing is held, all of B stands -/
def Wd.base (B : Hp) : Wd := ⟨[], fun H => Same B H, (fun _ _ h => nomatch h), fun {H H'} j _ s => j.trans s⟩
theorem vw_nil {H : Hp} : vw [] H = H := by
  funext a
  exact vw_out (by simp)
theorem base_new {B : Hp} : ∀ H p, (Wd.base B).J H → H p = none → B p = none := fun H p j hp => by
  cases h : B p with
  | none => rfl
  | some o => rw [show H p = some o from j p o h] at hp; cases hp
theorem base_newE {B : Hp} {q : Addr} : ∀ H p, ((Wd.base B).ownE q).J H → H p = none → B p = none := fun H p j hp => base_new _ p j.1 (by
  by_cases h : p = q
  · rw [h, hide_same]
  · rw [hide_ne h]; exact hp)
abbrev ge18 : Int → Bool := fun a => decide ((10 : Int) ^ (18 : Int).toNat ≤ a)
/-- the drawing begun -/
def spBegun (K : PySem.W.Frag) : Sp := fun vs H Q _ => ∃ ns : List Int, ns.length ≤ 100 ∧ PdAll [lstOf K (ns.map fun i => rep K (.int i))] vs H ∧ ∀ (pm pg : Addr) (n : Nat) (ne : pm ≠ pg) H', n ≤ 1000 → (Wd.cap pm pg n ne).J H' → Same H ((Wd.cap pm pg n ne).v H') → Q (.ref pm) H'
theorem nd3 : (["run", "great", "turn"] : List Str).Nodup := by decide +kernel
theorem pow18 : CPow 10 18 := by unfold CPow; decide
theorem len_begun {K : PySem.W.Frag} : ∀ vs H Q E, spBegun K vs H Q E → vs.length = 1 := fun vs H Q E ⟨ns, _, p, _⟩ => by rw [← p.len] <;> rfl
section
variable {P : Program} {w : World} {K : PySem.W.Frag} {mg : Str → Option Value} {base : Heap}
theorem scLBegun : FnScope ["_law_script", "_law_stirred", "_law_k", "_law_cell"] ["_law_script"] (defScope sLBegun) := ⟨rfl, rfl, rfl, by decide +kernel, rfl, by decide +kernel, by decide +kernel⟩
theorem ok__law_begun (T : Tx K mg) {f : Addr} {fd : FuncData} (F : FnP K "_law_begun" "_law_begun" sLBegun f fd) : FnOk P w K mg base CX0 (1) f fd ["_law_script"] (spBegun K) := by
  refine fn_okS F scLBegun len_begun fun cdv A outer s H E hr => ?_
  refine ⟨_, (pss_cons (ps_set (i := 1) scLBegun.nd rfl (Or.inl rfl) (pe_op op_add pe_int (pe_op op_mul pe_int (pe_callB (k_len K) rfl T.len bt_len (pa_cons (pv 0) pa_nil)))))
      (pss_cons (ps_for PassesOwn.never rfl (k_enum K rfl T.enumerate (pa_cons (pv 0) pa_nil)) (k_gtup K 2 (pgs_cons (pg_name (i := 2) scLBegun.nd rfl (Or.inl rfl)) (pgs_cons (pg_name (i := 3) scLBegun.nd rfl (Or.inl rfl)) pgs_nil))) (pss_one (ps_set (i := 1) scLBegun.nd rfl (Or.inl rfl) (pe_op op_mod (pe_op op_add (pe_op op_add (pe_op op_mul (pv 1) pe_int) (pv 3)) (pe_op op_mul pe_int (pv 2))) pe_int))))
      (pss_one (ps_ret (pe_disp (pps_cons pe_str (pv 1) (pps_cons pe_str (pe_lc (own := [("_law_cell", 3)]) rfl scLBegun.nd (k_list K (pv 0)) (blkOk_by (own := [("_law_cell", 3)]) (N := ["_law_script", "_law_stirred", "_law_k", "_law_cell"]) (sc := defScope sLBegun) (by decide +kernel)) (fun _ _ _ _ _ => (pg_name (i := 3) scLBegun.nd rfl (Or.inl rfl))) (fun _ _ _ _ _ => (pts_one (pt_cmpR op_ge (pv 3) (pe_op op_pow pe_int pe_int) (nomark _)))) (fun _ _ _ _ _ => (pv 3))) (pps_cons pe_str pe_int pps_nil))) rfl rfl (fun z => by cases z) (by decide)))))), ?_⟩
  -- N: [(0, '_law_script'), (1, '_law_stirred'), (2, '_law_k'), (3, '_law_cell')]; cells: []
  rintro vs H Q E ⟨ns, hl, pv, hQ⟩
  have hxl : (ns.map fun i => rep K (.int i)).length = ns.length := List.length_map ..
  suffices hh : Nx (Wd.base H) H ([some (lstOf K (ns.map fun i => rep K (.int i)))] ++ List.replicate 3 none) _ from hh (start _ vs) H (Same.refl _) (by rw [show (Wd.base H).v H = H from vw_nil]; exact Same.refl _) (by rw [show (Wd.base H).v H = H from vw_nil]; exact envR_start pv (by rw [len_begun vs H Q E ⟨ns, hl, pv, hQ⟩] <;> rfl))
  refine Nx.sSet (P := anyI K) (TyE.op (TyE.int (K := K)) (TyE.op (TyE.int (K := K)) (TyE.cb (TyA.cons (TyE.var rfl) TyA.nil) ra_lenL) (r_intC (.inl (by decide)))) (r_int0.imp fun v H p => ⟨_, trivial, p⟩)) ?_
  refine Nx.for_ (ι := Unit) (vs := [2, 3]) (fun _ _ => Wd.base H) (fun _ _ => [some (lstOf K (ns.map fun i => rep K (.int i))), some (anyI K), none, none]) (fun _ _ => True) (TyI.enumL ns (fun i => rep K (.int i)) (TyA.cons (TyE.var rfl) TyA.nil)) () trivial rfl (Le.refl _) (fun i Pt x B' hP _ hB => ?_) fun x B' _ hB => ?_
  · rw [List.getElem?_map] at hP
    by_cases hi : i < ns.length
    · rw [List.getElem?_range hi] at hP
      have hP' : tupOf K [rep K (.int (i : Nat)), rep K (.int ns[i])] = Pt := by
        rw [← Option.some.inj hP]
        show _ = tupOf K [rep K (.int (i : Nat)), ((ns.map fun i => rep K (.int i))[i]?).getD anyP]
        rw [List.getElem?_map, List.getElem?_eq_getElem hi] <;> rfl
      subst hP'
      refine ⟨_, TyG.tup (TyGs.cons TyG.name (TyGs.cons TyG.name TyGs.nil)), fun N hN => ?_⟩
      refine Nx.set (P := anyI K) (TyE.op (TyE.op (TyE.op (TyE.op (TyE.var rfl) (TyE.int (K := K)) (r_anyC fun i => .inr (by decide))) ((TyE.var rfl).imp (P' := anyI K) fun v H p => ⟨_, trivial, p⟩) r_anyI) ((TyE.op (TyE.int (K := K)) (TyE.var rfl) (r_intC (.inl (by decide)))).imp (P' := anyI K) fun v H p => ⟨_, trivial, p⟩) r_anyI) (TyE.int (K := K)) (r_anyC fun i => by decide)) ?_
      exact (hN () trivial).le (Le.same (Le.same (Le.drop (Le.drop Le.nil))))
    · rw [List.getElem?_eq_none (by simp; omega)] at hP
      cases hP
  · dsimp only
    refine Nx.ret (P := frP (fun a => H a = none) (dctP [("run", anyI K), ("great", frP (fun a => H a = none) (lstN ((ns.filter ge18).map fun i => rep K (.int i)))), ("turn", anyI K)])) (TyE.dispN base_new nd3 (show (3 : Nat) ≤ 15 by decide) fun p hp => TyPs.cons (TyE.str (K := K)) (TyE.var rfl) (TyPs.cons (TyE.str (K := K)) (TyE.lcFN (K := K) (vs := [3]) ns (fun i => rep K (.int i)) ge18 (fun i => rep K (.int i)) base_newE (TyI.list (TyE.var rfl)) (by omega) fun a ha p Qs hp => ⟨_, TyG.name (i := 3), TyT.test (K := K) (TyE.op (TyE.var rfl) (TyE.op (TyE.int (K := K)) (TyE.int (K := K)) (r_intC (C := CPow) (g := fun i j => i ^ j.toNat) pow18)) r_bl0), fun _ => TyE.var rfl⟩) (TyPs.cons (TyE.str (K := K)) ((TyE.int (K := K)).imp fun v H p => ⟨_, trivial, p⟩) TyPs.nil))) fun v H' j' b' p' => ?_
    rw [show (Wd.base H).v H' = H' from vw_nil] at p'
    have j' : Same H H' := j'
    obtain ⟨⟨pm, l, ev, em, ek, el⟩, a2, ev2, hpm⟩ := p'
    rw [ev] at ev2
    have ea : pm = a2 := by injection ev2
    subst ea
    obtain ⟨x1, r1, e1, ⟨rn, _, q1⟩, el⟩ := el.uncons
    obtain ⟨x2, r2, e2, ⟨⟨pg, ys, e4, eg, py⟩, a3, e5, hpg⟩, el⟩ := el.uncons
    obtain ⟨x3, e3, ⟨tn, _, q3⟩⟩ := el.one
    rw [e4] at e5
    have ea : pg = a3 := by injection e5
    subst ea
    have eys := ints_of py
    have ell : l = stL rn tn pg := by
      subst e3 e2
      obtain ⟨k1, l1, rfl⟩ : ∃ k l1, l = k :: l1 := by
        cases l with
        | nil => cases ek
        | cons k l1 => exact ⟨k, l1, rfl⟩
      obtain ⟨k2, l2, rfl⟩ : ∃ k l2, l1 = k :: l2 := by
        cases l1 with
        | nil => simp at ek
        | cons k l1 => exact ⟨k, l1, rfl⟩
      obtain ⟨k3, l3, rfl⟩ : ∃ k l3, l2 = k :: l3 := by
        cases l2 with
        | nil => simp at ek
        | cons k l1 => exact ⟨k, l1, rfl⟩
      obtain ⟨k1, v1⟩ := k1
      obtain ⟨k2, v2⟩ := k2
      obtain ⟨k3, v3⟩ := k3
      cases l3 with
      | cons k l4 => simp at ek
      | nil =>
        have f1 : k1 = .inr "run" := (List.cons.inj ek).1
        have f2 : k2 = .inr "great" := (List.cons.inj (List.cons.inj ek).2).1
        have f3 : k3 = .inr "turn" := (List.cons.inj (List.cons.inj (List.cons.inj ek).2).2).1
        have g1 : v1 = x1 := (List.cons.inj e1).1
        have g2 : v2 = x2 := (List.cons.inj (List.cons.inj e1).2).1
        have g3 : v3 = x3 := (List.cons.inj (List.cons.inj (List.cons.inj e1).2).2).1
        subst f1 f2 f3 g1 g2 g3
        rw [dp_int q1, dp_int q3, e4] <;> rfl
    rw [ell] at em
    rw [eys] at eg
    have hne : pm ≠ pg := fun z => by rw [z, eg] at em; cases em
    rw [ev]
    refine hQ pm pg _ hne H' (Nat.le_trans (List.length_filter_le ge18 ns) (by omega)) ⟨rn, tn, _, em, eg, rfl⟩ fun a o ea => ?_
    show vw [pm, pg] H' a = some o
    rw [vw_out, j' a o ea]
    intro z
    have z' : a = pm ∨ a = pg := by simpa using z
    rcases z' with z' | z'
    · rw [z', hpm] at ea; cases ea
    · rw [z', hpg] at ea; cases ea
end
end Tk
namespace Tk
open PySem PySem.Spec PyProof.Rows L2
abbrev Shp := Nat × List (List Nat)
structure Shp.Ok (s : Shp) : Prop where
  n1 : 1 ≤ s.1
  n2 : s.1 ≤ 2
  r1 : 1 ≤ s.2.length
  r2 : s.2.length ≤ 2
  ro : ∀ r ∈ s.2, 1 ≤ r.length ∧ r.length ≤ 2 ∧ ∀ k ∈ r, k < s.1
def rowsP (K : PySem.W.Frag) (rs : List (List Nat)) : Pd := lstOf K (rs.map fun r => lstOf K (r.map fun k => rep K (.int (k : Nat))))
def shP (K : PySem.W.Frag) (s : Shp) : Pd := tupOf K [rep K (.int (s.1 : Nat)), rowsP K s.2]
structure SmallS (S : Sch) : Prop where
  g : S.Good
  s2 : S.sorts.length ≤ 2
  t2 : S.ties.length ≤ 2
  a2 : ∀ t ∈ S.ties, t.2.length ≤ 2
structure ScA where
  pm : Addr
  pg : Addr
  n : Nat
  shs : List Shp
def spScheme (K : PySem.W.Frag) : Sp := SpF (δ := ScA) (fun x => [isV (.ref x.pm), lstOf K (x.shs.map (shP K))]) (fun x => exP SmallS (schP K)) (fun x W => Cap W x.pm x.pg x.n ∧ 1 ≤ x.shs.length ∧ x.shs.length ≤ 1000 ∧ ∀ s ∈ x.shs, s.Ok)
def mkKd (ws : List Str) (r : List Nat) : List Str := r.map fun k => ws.getD k ""
def mkSch (ws ns : List Str) (rs : List (List Nat)) : Sch := ⟨ws, ns.zip (rs.map (mkKd ws))⟩
theorem mkSch_small {s : Shp} {ws ns : List Str} (h : s.Ok) (hw : ws.length = s.1) (hwr : risingB ws = true) (hn : ns.length = s.2.length) (hnr : risingB ns = true) : SmallS (mkSch ws ns s.2) := by
  have hl : (mkSch ws ns s.2).ties.length = s.2.length := by
    show (ns.zip (s.2.map (mkKd ws))).length = _
    rw [List.length_zip, List.length_map, hn, Nat.min_self]
  have hm : ∀ t ∈ (mkSch ws ns s.2).ties, ∃ r ∈ s.2, t.2 = mkKd ws r := fun t ht => by
    obtain ⟨a, b⟩ := t
    have := List.of_mem_zip ht
    obtain ⟨r, h1, h2⟩ := List.mem_map.mp this.2
    exact ⟨r, h1, h2.symm⟩
  have hk : ∀ r, (mkKd ws r).length = r.length := fun r => List.length_map ..
  refine ⟨⟨hwr, ?_, ?_, ?_, ?_, ?_, fun t ht => ?_⟩, ?_, ?_, fun t ht => ?_⟩
  · show 1 ≤ ws.length
    rw [hw]; exact h.n1
  · show ws.length ≤ 3
    rw [hw]; exact Nat.le_trans h.n2 (by decide)
  · rw [hl]; exact h.r1
  · rw [hl]; exact Nat.le_trans h.r2 (by decide)
  · have e : (mkSch ws ns s.2).ties.map (·.1) = ns := zip_fst (by rw [List.length_map, hn])
    rw [e]; exact hnr
  · obtain ⟨r, hr, e⟩ := hm t ht
    obtain ⟨h1, h2, h3⟩ := h.ro r hr
    rw [e, hk]
    refine ⟨h1, Nat.le_trans h2 (by decide), fun x hx => ?_⟩
    obtain ⟨k, hkr, rfl⟩ := List.mem_map.mp hx
    have hlt : k < ws.length := by rw [hw]; exact h3 k hkr
    rw [List.getD_eq_getElem?_getD, List.getElem?_eq_getElem hlt]
    exact List.getElem_mem hlt
  · show ws.length ≤ 2
    rw [hw]; exact h.n2
  · rw [hl]; exact h.r2
  · obtain ⟨r, hr, e⟩ := hm t ht
    rw [e, hk]; exact (h.ro r hr).2.1
section
variable {P : Program} {w : World} {K : PySem.W.Frag} {mg : Str → Option Value} {base : Heap}
theorem scLScheme : FnScope ["_law_m", "_law_shapes", "_law_shape", "_law_kinds", "_law_sorts", "_law_names", "_law_row", "_law_k", "_law_name", "_law_one"] ["_law_m", "_law_shapes"] (defScope sLScheme) := ⟨rfl, rfl, rfl, by decide +kernel, rfl, by decide +kernel, by decide +kernel⟩
theorem ok__law_scheme (T : Tx K mg) {f : Addr} {fd : FuncData} (F : FnP K "_law_scheme" "_law_scheme" sLScheme f fd) (D__law_words : DefOk P w K mg base 2 "_law_words" ["_law_m", "_law_many"] (spWords K)) (D__law_of : DefOk P w K mg base 2 "_law_of" ["_law_m", "_law_some"] (spOf K)) : FnOk P w K mg base CX0 (3) f fd ["_law_m", "_law_shapes"] (spScheme K) := by
  obtain ⟨f__law_words, fd__law_words, G__law_words, m__law_words, kp__law_words, b__law_words⟩ := D__law_words.ex
  obtain ⟨f__law_of, fd__law_of, G__law_of, m__law_of, kp__law_of, b__law_of⟩ := D__law_of.ex
  refine fn_ok F scLScheme (fun _ => rfl) fun cdv A outer s H E hr => ?_
  refine ⟨_, (pss_cons (ps_set (i := 2) scLScheme.nd rfl (Or.inl rfl) (pe_call G__law_of (hr.mono (by omega)) rfl m__law_of kp__law_of b__law_of .nil pass0 (pa_cons (pv 0) (pa_cons (pv 1) pa_nil))))
      (pss_cons (ps_asg (pe_tup (pa_cons (pe_call G__law_words (hr.mono (by omega)) rfl m__law_words kp__law_words b__law_words .nil pass0 (pa_cons (pv 0) (pa_cons (pe_ix (k_ix K) (pv 2) pe_int (fun _ _ => rfl)) pa_nil))) (pa_cons (pe_call G__law_words (hr.mono (by omega)) rfl m__law_words kp__law_words b__law_words .nil pass0 (pa_cons (pv 0) (pa_cons (pe_callB (k_len K) rfl T.len bt_len (pa_cons (pe_ix (k_ix K) (pv 2) pe_int (fun _ _ => rfl)) pa_nil)) pa_nil))) pa_nil))) (k_gtup K 2 (pgs_cons (pg_name (i := 4) scLScheme.nd rfl (Or.inr rfl)) (pgs_cons (pg_name (i := 5) scLScheme.nd rfl (Or.inl rfl)) pgs_nil))))
      (pss_cons (ps_setLc (i := 3) (own := [("_law_row", 6)]) rfl scLScheme.nd rfl rfl (sw_true rfl rfl rfl (by decide +kernel)) (k_list K (pe_ix (k_ix K) (pv 2) pe_int (fun _ _ => rfl))) (blkOk_by (own := [("_law_row", 6)]) (N := ["_law_m", "_law_shapes", "_law_shape", "_law_kinds", "_law_sorts", "_law_names", "_law_row", "_law_k", "_law_name", "_law_one"]) (sc := defScope sLScheme) (by decide +kernel)) (fun _ _ _ _ _ => (pg_name (i := 6) scLScheme.nd rfl (Or.inl rfl))) (fun _ _ _ _ _ => pts_nil) (fun _ _ _ _ _ => (pe_callTy (k_tup K) rfl T.tuple bt_tuple (pa_cons (pe_lc (own := [("_law_k", 7)]) rfl scLScheme.nd (k_list K (pv 6)) (blkOk_by (own := [("_law_k", 7)]) (N := ["_law_m", "_law_shapes", "_law_shape", "_law_kinds", "_law_sorts", "_law_names", "_law_row", "_law_k", "_law_name", "_law_one"]) (by kernel_rfl)) (fun _ _ _ _ _ => (pg_name (i := 7) scLScheme.nd rfl (Or.inl rfl))) (fun _ _ _ _ _ => pts_nil) (fun _ _ _ _ _ => (pe_ix (k_ix K) (pv 4) (pv 7) (fun _ _ => rfl)))) pa_nil))))
      (pss_one (ps_ret (pe_tup (pa_cons (pe_callTy (k_tup K) rfl T.tuple bt_tuple (pa_cons (pv 4) pa_nil)) (pa_cons (pe_callTy (k_tupF K) rfl T.tuple bt_tuple (pa_cons (pe_lc (own := [("_law_name", 8), ("_law_one", 9)]) rfl scLScheme.nd (k_zip K rfl T.zip (pa_cons (pv 5) (pa_cons (pv 3) pa_nil))) (blkOk_by (own := [("_law_name", 8), ("_law_one", 9)]) (N := ["_law_m", "_law_shapes", "_law_shape", "_law_kinds", "_law_sorts", "_law_names", "_law_row", "_law_k", "_law_name", "_law_one"]) (sc := defScope sLScheme) (by decide +kernel)) (fun _ _ _ _ _ => (k_gtup K 2 (pgs_cons (pg_name (i := 8) scLScheme.nd rfl (Or.inl rfl)) (pgs_cons (pg_name (i := 9) scLScheme.nd rfl (Or.inl rfl)) pgs_nil)))) (fun _ _ _ _ _ => pts_nil) (fun _ _ _ _ _ => (pe_tup (pa_cons (pv 8) (pa_cons (pv 9) pa_nil))))) pa_nil)) pa_nil)))))))), ?_⟩
  -- N: [(0, '_law_m'), (1, '_law_shapes'), (2, '_law_shape'), (3, '_law_kinds'), (4, '_law_sorts'), (5, '_law_names'), (6, '_law_row'), (7, '_law_k'), (8, '_law_name'), (9, '_law_one')]; cells: ['_law_sorts']
  rintro ⟨pm, pg, n, shs⟩ W ⟨c, h1, h2, hs⟩ B D hn hR
  have c : Cap W pm pg n := c
  have h1 : 1 ≤ shs.length := h1
  have h2 : shs.length ≤ 1000 := h2
  have hs : ∀ s ∈ shs, s.Ok := hs
  refine Nx.sSet (TyE.of shs (shP K) c (TyE.var rfl) (TyE.var rfl) h1 h2) ?_
  refine Nx.open (φ := (· ∈ shs)) (F := shP K) 2 rfl fun s hm => ?_
  have ok := hs s hm
  obtain ⟨k, rs⟩ := s
  have hk2 : k ≤ 2 := ok.n2
  have hr2 : rs.length ≤ 2 := ok.r2
  refine Nx.sAsg (vs := [4, 5]) (TyE.tup (K := K) (TyA.cons (TyE.fn (⟨pm, pg, n, k⟩ : WoA) (by exact ⟨c, by show k ≤ 14; omega⟩) (TyA.cons (TyE.var rfl) (TyA.cons (TyE.op (P2 := rep K (.int (0 : Nat))) (TyE.var rfl) (TyE.int (K := K)) (r_ixAT rfl)) TyA.nil))) (TyA.cons (TyE.fn (⟨pm, pg, n, rs.length⟩ : WoA) (by exact ⟨c, by show rs.length ≤ 14; omega⟩) (TyA.cons (TyE.var rfl) (TyA.cons ((TyE.cb (TyA.cons (TyE.op (P2 := rep K (.int (1 : Nat))) (P := rowsP K rs) (TyE.var rfl) (TyE.int (K := K)) (r_ixAT rfl)) TyA.nil) ra_lenL).imp (P' := rep K (.int (rs.length : Nat))) fun v H p => by rw [List.length_map] at p; exact p) TyA.nil))) TyA.nil))) (TyG.tup (TyGs.cons TyG.name (TyGs.cons TyG.name TyGs.nil))) ?_
  refine Nx.open (φ := fun ws : List Str => ws.length = k ∧ risingB ws = true) (F := fun ws => lstN (ws.map fun s => rep K (.str s))) 4 rfl fun ws ⟨hw, hwr⟩ => ?_
  refine Nx.open (φ := fun ws : List Str => ws.length = rs.length ∧ risingB ws = true) (F := fun ws => lstN (ws.map fun s => rep K (.str s))) 5 rfl fun ns ⟨hnl, hnr⟩ => ?_
  refine Nx.sSet (P := lstOf K (rs.map fun r => rep K (strsD (mkKd ws r)))) ?_ ?_
  · refine TyE.lcM (K := K) rs (fun r => lstOf K (r.map fun k => rep K (.int (k : Nat)))) (fun r => rep K (strsD (mkKd ws r))) (TyI.list (TyE.op (P2 := rep K (.int (1 : Nat))) (P := rowsP K rs) (TyE.var rfl) (TyE.int (K := K)) (r_ixAT rfl))) (by omega) fun r hr p Qs hp => ⟨_, TyG.name (i := 6), ?_⟩
    obtain ⟨hr1, hr2, hr3⟩ := ok.ro r hr
    have hr3 : ∀ j ∈ r, j < k := hr3
    refine (TyE.cb (TyA.cons (TyE.lcM (K := K) r (fun j => rep K (.int (j : Nat))) (fun j => rep K (.str (ws.getD j ""))) (TyI.list (TyE.var rfl)) (by omega) fun j hj p Qs hp => ⟨_, TyG.name (i := 7), ?_⟩) TyA.nil) ra_tupL).imp fun v H q => strs_m (xs := mkKd ws r) (by unfold mkKd; rw [List.map_map]; exact q)
    have hlt : j < ws.length := by rw [hw]; exact hr3 j hj
    refine TyE.op ((TyE.var rfl).imp fun _ _ => lstN_of) (TyE.var rfl) (r_ixAL (P := rep K (.str (ws.getD j ""))) ?_)
    rw [List.getElem?_map, List.getD_eq_getElem?_getD, List.getElem?_eq_getElem hlt] <;> rfl
  · refine Nx.ret (TyE.tup (K := K) (TyA.cons ((TyE.cb (TyA.cons ((TyE.var rfl).imp fun _ _ => lstN_of) TyA.nil) ra_tupL).imp (P' := rep K (strsD ws)) fun v H q => strs_m q) (TyA.cons (TyE.cb (TyA.cons (TyE.lcM (K := K) (ns.zip (rs.map (mkKd ws))) (fun t => tupOf K [rep K (.str t.1), rep K (strsD t.2)]) (tieP K) (TyI.zipL ns (rs.map (mkKd ws)) (fun s => rep K (.str s)) (fun ks => rep K (strsD ks)) (TyA.cons ((TyE.var rfl).imp fun _ _ => lstN_of) (TyA.cons ((TyE.var rfl).imp fun v H q => ?_) TyA.nil))) ?_ fun t ht p Qs hp => ⟨_, TyG.tup (TyGs.cons (TyG.name (i := 8)) (TyGs.cons (TyG.name (i := 9)) TyGs.nil)), TyE.tup (K := K) (TyA.cons (TyE.var rfl) (TyA.cons (TyE.var rfl) TyA.nil))⟩) TyA.nil) ra_tupF) TyA.nil))) fun v H' j' b' p' => hR v H' j' b' ?_
    · rw [List.map_map]; exact q
    · rw [List.length_zip, List.length_map]; omega
    · exact ⟨mkSch ws ns rs, mkSch_small (s := (k, rs)) ok hw hwr hnl hnr, p'⟩
end
end Tk
namespace Tk
open PySem PySem.Spec PyProof.Rows L2
theorem u65 {k : Nat} {A : Around} (r : Room k A) : A.units + 65 < cLine := by have := r.un; omega
section
variable {X : Cx} (K : PySem.W.Frag) {e : Expr} {te : TE} {k : Nat} {p1 p2 p3 pos : Pos}
theorem k_revL (he : PE X e te) (h : X.K = K := by rfl) : PE X (.Subscript e (.Slice none none (some (.UnaryOp .USub (.Constant (.int 1) k p1) p2)) p3) pos) (tRevL K te) := h ▸ pe_revL he
end
section
variable {K : PySem.W.Frag} {W : Wd} {Γ Γ' : Ctx} {te ta tb : TE} {tt : TT} {P P' P1 P2 P3 : Pd} {Ps Qs : List Pd} {tA : TA}
theorem PdAll.rev : ∀ {Ps : List Pd} {xs : List V} {H : Hp}, PdAll Ps xs H → PdAll Ps.reverse xs.reverse H
  | [], xs, H, h => by rw [h.unnil]; exact .nil
  | P :: Ps, xs, H, h => by
    obtain ⟨x, r, rfl, p, t⟩ := h.uncons
    rw [List.reverse_cons, List.reverse_cons]
    exact (PdAll.rev t).append (.cons p .nil)
theorem TyE.revL (h : TyE W Γ te (lstOf K Ps)) : TyE W Γ (tRevL K te) (Tk.lstN Ps.reverse) := fun σ H Q j e q =>
  h σ H _ j e fun x H1 j1 s1 ⟨a, xs, e1, hs, p⟩ => by
    refine ⟨a, xs, e1, sq_l hs, fun r hr => ?_⟩
    obtain ⟨j2, s2, e2⟩ := W.alloc j1 hr (.lst xs.reverse)
    exact q _ _ j2 (s1.trans s2) ⟨r, _, rfl, e2, p.rev.mono s2⟩
/-- a list whose things are each one of some -/
theorem pds_ex {α β : Type} {φ : α → β → Prop} {F : β → Pd} {H : Hp} : ∀ {xs : List α} {us : List V}, PdAll (xs.map fun a => exP (φ a) F) us H → ∃ ys : List β, ys.length = xs.length ∧ (∀ (i : Nat) (a : α) (b : β), xs[i]? = some a → ys[i]? = some b → φ a b) ∧ PdAll (ys.map F) us H
  | [], us, h => ⟨[], rfl, fun i a b e => by simp at e, by rw [h.unnil]; exact .nil⟩
  | x :: xs, us, h => by
    obtain ⟨u, r, rfl, ⟨y, hy, p⟩, t⟩ := PdAll.uncons h
    obtain ⟨ys, e1, e2, e3⟩ := pds_ex t
    refine ⟨y :: ys, by rw [List.length_cons, List.length_cons, e1], fun i a b ea eb => ?_, .cons p e3⟩
    cases i with
    | zero =>
      have ha : x = a := by simpa using ea
      have hb : y = b := by simpa using eb
      rw [← ha, ← hb]; exact hy
    | succ i => exact e2 i a b (by simpa using ea) (by simpa using eb)
theorem lst_ex {α β : Type} {φ : α → β → Prop} {F : β → Pd} {xs : List α} {v : V} {H : Hp} (h : (lstOf K (xs.map fun a => exP (φ a) F)).h v H) : (exP (fun ys : List β => ys.length = xs.length ∧ ∀ (i : Nat) (a : α) (b : β), xs[i]? = some a → ys[i]? = some b → φ a b) fun ys => lstOf K (ys.map F)).h v H := by
  obtain ⟨a, us, e, hs, p⟩ := h
  obtain ⟨ys, e1, e2, e3⟩ := pds_ex p
  exact ⟨ys, ⟨e1, e2⟩, a, us, e, hs, e3⟩
/-- a call with a thing that is one of some -/
theorem TyE.fnX {δ ι : Type} {pre : δ → List Pd} {post : δ → Pd} {ok : δ → Wd → Prop} {E : XK} {φ : ι → Prop} {F : ι → Pd} (f : ι → δ) (hf : ∀ i, φ i → ok (f i) W) (hp : ∀ i, pre (f i) = [F i]) (h : TyE W Γ te (exP φ F)) : TyE W Γ (tCall (SpF pre post ok) [] E (tCons te tNil)) (exP φ fun i => post (f i)) :=
  TyE.call (TyA.cons h TyA.nil) fun xs H Q j p q => by
    obtain ⟨y, rfl, i, hi, pi⟩ := p.one
    exact ⟨W, f i, hf i hi, j, by rw [hp]; exact .cons pi .nil, fun v H' a b c => q v H' a b ⟨i, hi, c⟩⟩
end
section
variable {P : Program} {w : World} {K : PySem.W.Frag} {mg : Str → Option Value} {base : Heap}
structure RwB where
  a : Str
  b : Option Str
def spLRow (K : PySem.W.Frag) : Sp := SpF (δ := RwB) (fun x => [lstOf K ((x.a :: x.b.toList).map fun s => rep K (.str s))]) (fun x => rep K (rowD x.a x.b)) (fun _ _ => True)
theorem TyE.varD {W : Wd} {Γ : Ctx} {te : TE} {s : Str} (h : TyE W Γ te (rep K (.str s))) : TyE W Γ (tTup (tCons (tC (.str "var")) (tCons te tNil))) (rep K (varD s)) := TyE.tupD (ds := [.str "var", .str s]) (TyA.cons TyE.str (TyA.cons h TyA.nil))
theorem scLRowOf : FnScope ["_law_names", "_law_found", "_law_name"] ["_law_names"] (defScope sLRowOf) := ⟨rfl, rfl, rfl, by decide +kernel, rfl, by decide +kernel, by decide +kernel⟩
theorem ok__law_row_of (T : Tx K mg) {f : Addr} {fd : FuncData} (F : FnP K "_law_row_of" "_law_row_of" sLRowOf f fd) : FnOk P w K mg base CX0 (1) f fd ["_law_names"] (spLRow K) := by
  refine fn_ok F scLRowOf (fun _ => rfl) fun cdv A outer s H E hr => ?_
  refine ⟨_, (pss_cons (ps_set (i := 1) scLRowOf.nd rfl (Or.inl rfl) (pe_tup (pa_cons pe_str (pa_cons (pe_ix (k_ix K) (pv 0) pe_int (fun _ _ => rfl)) pa_nil))))
      (pss_cons (ps_for PassesOwn.never rfl (k_list K (pe_slice (k_slL K) (pv 0) (po_some pe_int) po_none)) (pg_name (i := 2) scLRowOf.nd rfl (Or.inl rfl)) (pss_one (ps_set (i := 1) scLRowOf.nd rfl (Or.inl rfl) (pe_tup (pa_cons pe_str (pa_cons (pv 1) (pa_cons (pe_tup (pa_cons pe_str (pa_cons (pv 2) pa_nil))) pa_nil)))))))
      (pss_one (ps_ret (pv 1))))), ?_⟩
  -- N: [(0, '_law_names'), (1, '_law_found'), (2, '_law_name')]; cells: []
  rintro ⟨a, b⟩ W _ B D hn hR
  refine Nx.sSet (TyE.varD (K := K) (TyE.op (P2 := rep K (.int (0 : Nat))) (TyE.var rfl) (TyE.int (K := K)) (r_ixAL rfl))) ?_
  cases b with
  | none =>
    refine Nx.for_ (ι := Unit) (vs := [2]) (Ps := []) (fun _ _ => W) (fun _ _ => [some (lstOf K ([a].map fun s => rep K (.str s))), some (rep K (varD a)), none]) (fun _ _ => True) (TyI.list (((TyE.slL (lo := some (1 : Nat)) (hi := none) (TyE.var rfl) (TyO.some (TyE.int (K := K))) TyO.none).imp fun _ _ => lstN_of))) () trivial rfl (Le.refl _) (fun i Pt x B' hP _ hB => ?_) fun x B' _ hB => ?_
    · simp at hP
    · exact Nx.ret (TyE.var rfl) fun v H j b => hR v H j (hB.trans b)
  | some c =>
    refine Nx.for_ (ι := Unit) (vs := [2]) (Ps := [rep K (.str c)]) (fun _ _ => W) (fun i _ => [some (lstOf K ([a, c].map fun s => rep K (.str s))), some (if i = 0 then rep K (varD a) else rep K (rowD a (some c))), none]) (fun _ _ => True) (TyI.list (((TyE.slL (lo := some (1 : Nat)) (hi := none) (TyE.var rfl) (TyO.some (TyE.int (K := K))) TyO.none).imp fun _ _ => lstN_of))) () trivial rfl (Le.refl _) (fun i Pt x B' hP _ hB => ?_) fun x B' _ hB => ?_
    · cases i with
      | succ i => simp at hP
      | zero =>
        have hP' : rep K (.str c) = Pt := by simpa using hP
        subst hP'
        refine ⟨_, TyG.name, fun N hN => ?_⟩
        exact Nx.set (TyE.tupD (K := K) (ds := [.str "cross", varD a, varD c]) (TyA.cons TyE.str (TyA.cons (TyE.var rfl) (TyA.cons (TyE.varD (TyE.var rfl)) TyA.nil)))) ((hN () trivial).le (Le.same (Le.same (Le.drop Le.nil))))
    · exact Nx.ret (TyE.var rfl) fun v H j b => hR v H j (hB.trans b)
end
end Tk
namespace Tk
open PySem PySem.Spec PyProof.Rows L2
section
variable {K : PySem.W.Frag} {W : Wd} {Γ Γ' : Ctx} {te ta tb tn ts tof : TE} {tt : TT} {P P' P1 P2 P3 : Pd} {Ps Qs : List Pd} {tA : TA} {B : Hp} {D : Ends} {us : TS}
theorem Nx.sAsgX {ι : Type} {φ : ι → Prop} {F : ι → Pd} {g : TG} {vs : List Nat} (Γ' : ι → Ctx) (he : TyE W Γ te (exP φ F)) (hg : ∀ x, φ x → TyG W Γ g (F x) (Γ' x) vs) (h : ∀ x, φ x → Nx W B (Γ' x) (us D)) : Nx W B Γ (tSeq (tAsg te g) us D) := fun σ H j b e =>
  he σ H _ j e fun v H' j' s ⟨x, hx, p⟩ => hg x hx σ H' v _ j' (e.mono s) p fun σ2 H2 j2 s2 e2 _ _ => h x hx σ2 H2 j2 ((b.trans s).trans s2) e2
theorem tup3_ex {ι : Type} {φ : ι → Prop} {F : ι → Pd} {v : V} {H : Hp} (h : (tupOf K [P1, exP φ F, P3]).h v H) : (exP φ fun i => tupOf K [P1, F i, P3]).h v H := by
  obtain ⟨a, xs, e, hs, p⟩ := h
  obtain ⟨x, r, rfl, p1, pr⟩ := p.uncons
  obtain ⟨y, r, rfl, ⟨i, hi, p2⟩, pr⟩ := pr.uncons
  exact ⟨i, hi, a, _, e, hs, .cons p1 (.cons p2 pr)⟩
theorem tup2_ex {ι : Type} {φ : ι → Prop} {F : ι → Pd} {v : V} {H : Hp} (h : (tupOf K [P1, exP φ F]).h v H) : (exP φ fun i => tupOf K [P1, F i]).h v H := by
  obtain ⟨a, xs, e, hs, p⟩ := h
  obtain ⟨x, r, rfl, p1, pr⟩ := p.uncons
  obtain ⟨y, r, rfl, ⟨i, hi, p2⟩, pr⟩ := pr.uncons
  exact ⟨i, hi, a, _, e, hs, .cons p1 (.cons p2 pr)⟩
theorem lst2_ex {ι : Type} {φ : ι → Prop} {F : ι → Pd} {v : V} {H : Hp} (h : (lstOf K [P1, exP φ F]).h v H) : (exP φ fun i => lstOf K [P1, F i]).h v H := by
  obtain ⟨a, xs, e, hs, p⟩ := h
  obtain ⟨x, r, rfl, p1, pr⟩ := p.uncons
  obtain ⟨y, r, rfl, ⟨i, hi, p2⟩, pr⟩ := pr.uncons
  exact ⟨i, hi, a, _, e, hs, .cons p1 (.cons p2 pr)⟩
theorem lists_lay : ∀ {ds : List (List Str)}, (∀ l ∈ ds, l.all isName = true) → PyData.canLayAll0 (ds.map fun l => .list (l.map .str)) = true
  | [], _ => rfl
  | x :: xs, h => by
    show (PyData.canLayAll0 (x.map .str) && PyData.canLayAll0 (xs.map fun l => .list (l.map .str))) = true
    rw [lists_lay fun l hl => h l (List.mem_cons_of_mem _ hl), strs_lay (h x (by simp))] <;> rfl
theorem lists_depth : ∀ {ds : List (List Str)}, PyData.depthAll (ds.map fun l => .list (l.map .str)) ≤ 3
  | [] => by show (0 : Nat) ≤ 3; decide
  | x :: xs => by
    show max (PyData.depthAll (x.map .str) + 1) (PyData.depthAll (xs.map fun l => .list (l.map .str))) ≤ 3
    have h := lists_depth (ds := xs)
    have h2 := strs_depth (xs := x)
    omega
theorem lists_shaped {ds : List (List Str)} (h : ∀ l ∈ ds, l.all isName = true) : SeqAt.shaped (.list (ds.map fun l => .list (l.map .str))) = true := by
  unfold SeqAt.shaped
  rw [Bool.and_eq_true_iff]
  refine ⟨lists_lay h, decide_eq_true ?_⟩
  show PyData.depthAll (ds.map fun l => .list (l.map .str)) + 1 ≤ 64
  have := lists_depth (ds := ds)
  omega
theorem lists_rep {ds : List (List Str)} {v : V} {H : Hp} (h : (lstOf K (ds.map fun l => lstOf K (l.map fun s => rep K (.str s)))).h v H) : (rep K (.list (ds.map fun l => .list (l.map .str)))).h v H := by
  refine lst_mk ?_
  rw [List.map_map]
  obtain ⟨a, xs, e, h1, h2⟩ := h
  refine ⟨a, xs, e, h1, h2.imp (by rw [List.length_map, List.length_map]) fun i P Q x hP hQ hx => ?_⟩
  rw [List.getElem?_map] at hP hQ
  cases q : ds[i]? with
  | none => rw [q] at hP; cases hP
  | some t =>
    rw [q] at hP hQ
    have e1 : lstOf K (t.map fun s => rep K (.str s)) = P := by simpa using hP
    have e2 : rep K (.list (t.map .str)) = Q := by simpa using hQ
    rw [← e2]
    rw [← e1] at hx
    exact lstrs_m hx
theorem nil_eqv (l : List Str) : PyData.eqv (.list (l.map .str)) (.list []) = l.isEmpty := by cases l <;> rfl
/-- [] not in lists of texts -/
theorem r_nilNot {ds : List (List Str)} (h : ∀ l ∈ ds, l.all isName = true) : R2T W (rNotInD K) (rep K (.list [])) (lstOf K (ds.map fun l => lstOf K (l.map fun s => rep K (.str s)))) (rep K (.bool (!ds.any fun l => l.isEmpty))) := .now fun x y H _ p q => ⟨_, .bl _, fun Q k => by
  refine ⟨.list [], _, dp_up p, dp_up (lists_rep q), by decide +kernel, lists_shaped h, ?_⟩
  have e : (ds.map fun l : List Str => PyData.list (l.map .str)).any (fun z => PyData.eqv z (.list [])) = ds.any fun l => l.isEmpty := by
    rw [List.any_map]
    congr 1
    funext l
    exact nil_eqv l
  rw [e]; exact k⟩
end
/-- vars that are known, with their sorts -/
structure KnOk (S : Sch) (kn : List (Str × Str)) : Prop where
  k1 : 1 ≤ kn.length
  k2 : kn.length ≤ 2
  nd : (kn.map (·.1)).Nodup
  nm : ∀ p ∈ kn, isName p.1 = true ∧ p.2 ∈ S.sorts
def bodyP (K : PySem.W.Frag) (S : Sch) (kn : List (Str × Str)) (d : Nat) : Pd := exP (fun b : Bd => b.Ok S kn ∧ b.deep ≤ d) fun b => rep K b.enc
structure LaA where
  pm : Addr
  pg : Addr
  n : Nat
  S : Sch
  kn : List (Str × Str)
def spLAtomic (K : PySem.W.Frag) : Sp := SpF (δ := LaA) (fun x => [isV (.ref x.pm), schP K x.S, lstOf K (x.kn.map (pairP K))]) (fun x => bodyP K x.S x.kn 0) (fun x W => Cap W x.pm x.pg x.n ∧ SmallS x.S ∧ KnOk x.S x.kn)
def picks (kn : List (Str × Str)) (s : Str) : List Str := (kn.filter fun p => decide (p.2 = s)).map (·.1)
theorem picks_mem {kn : List (Str × Str)} {s v : Str} : v ∈ picks kn s ↔ (v, s) ∈ kn := by
  unfold picks
  constructor
  · intro h
    obtain ⟨p, hp, e⟩ := List.mem_map.mp h
    obtain ⟨h1, h2⟩ := List.mem_filter.mp hp
    have h3 := of_decide_eq_true h2
    obtain ⟨a, b⟩ := p
    have e : a = v := e
    have h3 : b = s := h3
    subst e h3
    exact h1
  · intro h
    exact List.mem_map.mpr ⟨(v, s), List.mem_filter.mpr ⟨h, decide_eq_true rfl⟩, rfl⟩
theorem picks_len {kn : List (Str × Str)} {s : Str} (h : kn.length ≤ 2) : (picks kn s).length ≤ 2 := by
  unfold picks
  rw [List.length_map]
  exact Nat.le_trans (List.length_filter_le _ _) h
section
variable {P : Program} {w : World} {K : PySem.W.Frag} {mg : Str → Option Value} {base : Heap}
theorem TyE.picksC {W : Wd} {Γ : Ctx} {vs : List Nat} {wi : TI} {g : TG} {tc : TT} {to : TE} (kn : List (Str × Str)) (s : Str) (h2 : kn.length ≤ 2) (hi : TyI W Γ wi (kn.map (pairP K)))
    (hs : ∀ p ∈ kn, ∀ (q : Addr) (Qs : List Pd), q ∉ W.A → ∃ Γ1, TyG (W.ownL K q Qs) (wipeG Γ vs) g (pairP K p) Γ1 vs ∧ TyT (W.ownL K q Qs) Γ1 tc (· = decide (p.2 = s)) ∧ TyE (W.ownL K q Qs) Γ1 to (rep K (.str p.1))) :
    TyE W Γ (tLc wi g tc to vs) (lstOf K ((Tk.picks kn s).map fun v => rep K (.str v))) := by
  have h := TyE.lcF (K := K) (te := to) (tt := tc) (g := g) (vs := vs) kn (pairP K) (fun p => decide (p.2 = s)) (fun p => rep K (.str p.1)) hi (by omega) fun p hp q Qs hq => by
    obtain ⟨Γ1, h1, h2, h3⟩ := hs p hp q Qs hq
    exact ⟨Γ1, h1, h2, fun _ => h3⟩
  unfold Tk.picks
  rw [List.map_map]
  exact h
/-- ("in", _law_row_of([one, of]), ("same", sort)) -/
theorem TyE.sameB {W : Wd} {Γ : Ctx} {E : XK} {tn ts tof : TE} {S : Sch} {kn : List (Str × Str)} {v s : Str} (hk : KnOk S kn) (hv : (v, s) ∈ kn) (hn : TyE W Γ tn (rep K (.str v))) (ho : TyE W Γ tof (exP (· ∈ picks kn s) fun v => rep K (.str v))) (hs : TyE W Γ ts (rep K (.str s))) :
    TyE W Γ (tTup (tCons (tC (.str "in")) (tCons (tCall (spLRow K) [] E (tCons (tLst (tCons tn (tCons tof tNil))) tNil)) (tCons (tTup (tCons (tC (.str "same")) (tCons ts tNil))) tNil)))) (bodyP K S kn 0) := by
  refine (TyE.tup (K := K) (TyA.cons (TyE.str (K := K)) (TyA.cons (TyE.fnX (φ := (· ∈ picks kn s)) (F := fun u => lstOf K [rep K (.str v), rep K (.str u)]) (fun u => (⟨v, some u⟩ : RwB)) (fun _ _ => trivial) (fun _ => rfl) ((TyE.lst (K := K) (TyA.cons hn (TyA.cons ho TyA.nil))).imp fun _ _ => lst2_ex)) (TyA.cons (TyE.tupD (K := K) (ds := [.str "same", .str s]) (TyA.cons TyE.str (TyA.cons hs TyA.nil))) TyA.nil)))).imp fun x H h => ?_
  obtain ⟨u, hu, h⟩ := tup3_ex h
  have hu' := picks_mem.mp hu
  exact ⟨.same v u s, ⟨⟨(hk.nm _ hv).1, (hk.nm _ hu').1, (hk.nm _ hv).2, lookup_nd hk.nd hv, lookup_nd hk.nd hu'⟩, Nat.le_refl _⟩, tup_mk (ds := [.str "in", rowD v (some u), sameE s]) h⟩
/-- ("in", _law_row_of(texts), ("tie", far)) -/
theorem TyE.tieB {W : Wd} {Γ : Ctx} {E : XK} {tl ts : TE} {S : Sch} {kn : List (Str × Str)} {t : Str × List Str} (hS : SmallS S) (hk : KnOk S kn) (ht : t ∈ S.ties) (hl : TyE W Γ tl (lstOf K (t.2.map fun s => exP (· ∈ picks kn s) fun v => rep K (.str v)))) (hs : TyE W Γ ts (rep K (.str t.1))) :
    TyE W Γ (tTup (tCons (tC (.str "in")) (tCons (tCall (spLRow K) [] E (tCons tl tNil)) (tCons (tTup (tCons (tC (.str "tie")) (tCons ts tNil))) tNil)))) (bodyP K S kn 0) := by
  refine (TyE.tup (K := K) (TyA.cons (TyE.str (K := K)) (TyA.cons (TyE.fnX (φ := fun r : RwB => (r.a :: r.b.toList).map (fun v => kn.lookup v) = t.2.map some ∧ isName r.a = true ∧ ∀ c, r.b = some c → isName c = true) (F := fun r => lstOf K ((r.a :: r.b.toList).map fun s => rep K (.str s))) (fun r => r) (fun _ _ => trivial) (fun _ => rfl) (hl.imp fun x H h => ?_)) (TyA.cons (TyE.tupD (K := K) (ds := [.str "tie", .str t.1]) (TyA.cons TyE.str (TyA.cons hs TyA.nil))) TyA.nil)))).imp fun x H h => ?_
  · obtain ⟨ys, ⟨e1, e2⟩, h0⟩ := lst_ex h
    clear h
    have hy : ∀ (i : Nat) (s y : Str), t.2[i]? = some s → ys[i]? = some y → kn.lookup y = some s ∧ isName y = true := fun i s y es ey => by
      have h2 := picks_mem.mp (e2 i s y es ey)
      exact ⟨lookup_nd hk.nd h2, (hk.nm _ h2).1⟩
    have ht1 := (hS.g.tc t ht).1
    have ht2 := hS.a2 t ht
    obtain ⟨tn, tc⟩ := t
    dsimp only at *
    match tc, ys, e1, hy, h0 with
    | [s], [y], _, hy, h =>
      obtain ⟨h1, h2⟩ := hy 0 s y rfl rfl
      exact ⟨⟨y, none⟩, ⟨by show [kn.lookup y] = [some s]; rw [h1], h2, fun c z => by cases z⟩, h⟩
    | [s, s'], [y, y'], _, hy, h =>
      obtain ⟨h1, h2⟩ := hy 0 s y rfl rfl
      obtain ⟨h3, h4⟩ := hy 1 s' y' rfl rfl
      exact ⟨⟨y, some y'⟩, ⟨by show [kn.lookup y, kn.lookup y'] = [some s, some s']; rw [h1, h3], h2, fun c z => by cases z; exact h4⟩, h⟩
    | [], _, _, _, _ => simp at ht1
    | _ :: _ :: _ :: _, _, _, _, _ => simp at ht2
  · obtain ⟨r, ⟨h1, h2, h3⟩, h⟩ := tup3_ex h
    exact ⟨.tie r.a r.b t.1, ⟨⟨h2, h3, t.2, ht, h1⟩, Nat.le_refl _⟩, tup_mk (ds := [.str "in", rowD r.a r.b, tieE t.1]) h⟩
end
end Tk
namespace Tk
open PySem PySem.Spec PyProof.Rows L2
section
variable {P : Program} {w : World} {K : PySem.W.Frag} {mg : Str → Option Value} {base : Heap}
theorem TyE.drawB {W : Wd} {Γ : Ctx} {te tk : TE} {E : XK} {pm pg : Addr} {n top : Nat} (c : Cap W pm pg n) (h1 : 1 ≤ top) (h2 : top ≤ 100000) (hm : TyE W Γ te (isV (.ref pm))) (hk : TyE W Γ tk (rep K (.int (top : Nat)))) : TyE W Γ (tCall (spDraw K) [] E (tCons te (tCons tk tNil))) (below K top) :=
  TyE.fn (⟨pm, pg, n, top⟩ : DrA) (by exact ⟨c, h1, h2⟩) (TyA.cons hm (TyA.cons hk TyA.nil))
theorem ties_ne {S : Sch} (h : S.Good) : PyData.eqv (.tuple (S.ties.map tieD)) (.tuple []) = false := by
  have h1 := h.t1
  cases e : S.ties with
  | nil => rw [e] at h1; simp at h1
  | cons t r => rfl
theorem ties_lay {S : List Str} (hS : S.all isName = true) : ∀ {ts : List (Str × List Str)}, (ts.map (·.1)).all isName = true → (∀ t ∈ ts, ∀ s ∈ t.2, s ∈ S) → PyData.canLayAll0 (ts.map tieD) = true
  | [], _, _ => rfl
  | t :: ts, h, hc => by
    rw [List.map_cons, List.all_cons, Bool.and_eq_true_iff] at h
    have h2 : t.2.all isName = true := List.all_eq_true.mpr fun s hs => List.all_eq_true.mp hS s (hc t (by simp) s hs)
    show ((PyData.strOk t.1 && (PyData.canLayAll0 (t.2.map .str) && true)) && PyData.canLayAll0 (ts.map tieD)) = true
    rw [ties_lay hS h.2 fun u hu => hc u (List.mem_cons_of_mem _ hu), str_ok h.1, strs_lay h2] <;> rfl
theorem ties_depth : ∀ {ts : List (Str × List Str)}, PyData.depthAll (ts.map tieD) ≤ 4
  | [] => by show (0 : Nat) ≤ 4; decide
  | t :: ts => by
    show max (max 0 (max (PyData.depthAll (t.2.map .str) + 1) 0) + 1) (PyData.depthAll (ts.map tieD)) ≤ 4
    have h := ties_depth (ts := ts)
    have h2 := strs_depth (xs := t.2)
    omega
theorem ties_shaped {S : Sch} (h : S.Good) : SeqAt.shaped (.tuple (S.ties.map tieD)) = true := by
  unfold SeqAt.shaped
  rw [Bool.and_eq_true_iff]
  refine ⟨ties_lay h.names (Bool.and_eq_true_iff.mp h.tr).1 fun t ht => (h.tc t ht).2.2, decide_eq_true ?_⟩
  show PyData.depthAll (S.ties.map tieD) + 1 ≤ 64
  have := ties_depth (ts := S.ties)
  omega
theorem picks_names {S : Sch} {kn : List (Str × Str)} {s : Str} (h : KnOk S kn) : (picks kn s).all isName = true := List.all_eq_true.mpr fun v hv => (h.nm _ (picks_mem.mp hv)).1
theorem picks_ne {kn : List (Str × Str)} {s v : Str} (h : (v, s) ∈ kn) : 1 ≤ (picks kn s).length := List.length_pos_of_mem (picks_mem.mpr h)
theorem scLAtomic : FnScope ["_law_m", "_law_scheme_here", "_law_known", "_law_name", "_law_sort", "_law_picks", "_law_far", "_law_kinds", "_law_want", "_law_one", "_law_own", "_law_some"] ["_law_m", "_law_scheme_here", "_law_known"] (defScope sLAtomic) := ⟨rfl, rfl, rfl, by decide +kernel, rfl, by decide +kernel, by decide +kernel⟩
theorem ok__law_atomic (T : Tx K mg) {f : Addr} {fd : FuncData} (F : FnP K "_law_atomic" "_law_atomic" sLAtomic f fd) (D__law_row_of : DefOk P w K mg base 1 "_law_row_of" ["_law_names"] (spLRow K)) (D__law_of : DefOk P w K mg base 2 "_law_of" ["_law_m", "_law_some"] (spOf K)) (D__law_draw : DefOk P w K mg base 1 "_law_draw" ["_law_m", "_law_top"] (spDraw K)) : FnOk P w K mg base CX0 (3) f fd ["_law_m", "_law_scheme_here", "_law_known"] (spLAtomic K) := by
  obtain ⟨f__law_row_of, fd__law_row_of, G__law_row_of, m__law_row_of, kp__law_row_of, b__law_row_of⟩ := D__law_row_of.ex
  obtain ⟨f__law_of, fd__law_of, G__law_of, m__law_of, kp__law_of, b__law_of⟩ := D__law_of.ex
  obtain ⟨f__law_draw, fd__law_draw, G__law_draw, m__law_draw, kp__law_draw, b__law_draw⟩ := D__law_draw.ex
  refine fn_ok F scLAtomic (fun _ => rfl) fun cdv A outer s H E hr => ?_
  refine ⟨_, (pss_cons (ps_asg (pe_call G__law_of (hr.mono (by omega)) rfl m__law_of kp__law_of b__law_of .nil pass0 (pa_cons (pv 0) (pa_cons (pv 2) pa_nil))) (k_gtup K 2 (pgs_cons (pg_name (i := 3) scLAtomic.nd rfl (Or.inl rfl)) (pgs_cons (pg_name (i := 4) scLAtomic.nd rfl (Or.inr rfl)) pgs_nil))))
      (pss_cons (ps_if (PW.pt (pw_and (pt_cmpR (k_neD K hr.units) (pe_ix (k_ix K) (pv 1) pe_int (fun _ _ => rfl)) (pe_tup pa_nil) (nomark _)) (pw_and1 (pt_cmpR op_gt (pe_call G__law_draw (hr.mono (by omega)) rfl m__law_draw kp__law_draw b__law_draw .nil pass0 (pa_cons (pv 0) (pa_cons pe_int pa_nil))) pe_int (nomark _))))) (pss_cons (ps_asg (pe_call G__law_of (hr.mono (by omega)) rfl m__law_of kp__law_of b__law_of .nil pass0 (pa_cons (pv 0) (pa_cons (pe_callTy (k_lst K) rfl T.list bt_list (pa_cons (pe_ix (k_ix K) (pv 1) pe_int (fun _ _ => rfl)) pa_nil)) pa_nil))) (k_gtup K 2 (pgs_cons (pg_name (i := 6) scLAtomic.nd rfl (Or.inl rfl)) (pgs_cons (pg_name (i := 7) scLAtomic.nd rfl (Or.inl rfl)) pgs_nil))))
      (pss_cons (ps_setLc (i := 5) (own := [("_law_want", 8)]) rfl scLAtomic.nd rfl rfl (sw_true rfl rfl rfl (by decide +kernel)) (k_tupI K (pv 7)) (blkOk_by (own := [("_law_want", 8)]) (N := ["_law_m", "_law_scheme_here", "_law_known", "_law_name", "_law_sort", "_law_picks", "_law_far", "_law_kinds", "_law_want", "_law_one", "_law_own", "_law_some"]) (sc := defScope sLAtomic) (by decide +kernel)) (fun _ _ _ _ _ => (pg_name (i := 8) scLAtomic.nd rfl (Or.inr rfl))) (fun _ _ _ _ _ => pts_nil) (fun _ _ _ _ _ => (pe_lc (own := [("_law_one", 9), ("_law_own", 10)]) rfl scLAtomic.nd (k_list K (pv 2)) (blkOk_by (own := [("_law_one", 9), ("_law_own", 10)]) (N := ["_law_m", "_law_scheme_here", "_law_known", "_law_name", "_law_sort", "_law_picks", "_law_far", "_law_kinds", "_law_want", "_law_one", "_law_own", "_law_some"]) (by kernel_rfl)) (fun _ _ _ _ _ => (k_gtup K 2 (pgs_cons (pg_name (i := 9) scLAtomic.nd rfl (Or.inl rfl)) (pgs_cons (pg_name (i := 10) scLAtomic.nd rfl (Or.inl rfl)) pgs_nil)))) (fun _ _ _ _ _ => (pts_one (pt_cmpR op_eq (pv 10) (pv 8) (nomark _)))) (fun _ _ _ _ _ => (pv 9)))))
      (pss_one (ps_if (pt_cmpR (k_nInD K (u65 hr)) (pe_lst pa_nil) (pv 5) (by rfl)) (pss_one (ps_ret (pe_tup (pa_cons pe_str (pa_cons (pe_call G__law_row_of (hr.mono (by omega)) rfl m__law_row_of kp__law_row_of b__law_row_of .nil pass0 (pa_cons (pe_lc (own := [("_law_some", 11)]) rfl scLAtomic.nd (k_list K (pv 5)) (blkOk_by (own := [("_law_some", 11)]) (N := ["_law_m", "_law_scheme_here", "_law_known", "_law_name", "_law_sort", "_law_picks", "_law_far", "_law_kinds", "_law_want", "_law_one", "_law_own", "_law_some"]) (sc := defScope sLAtomic) (by decide +kernel)) (fun _ _ _ _ _ => (pg_name (i := 11) scLAtomic.nd rfl (Or.inl rfl))) (fun _ _ _ _ _ => pts_nil) (fun _ _ _ _ _ => (pe_call G__law_of (hr.mono (by omega)) rfl m__law_of kp__law_of b__law_of .nil pass0 (pa_cons (pv 0) (pa_cons (pv 11) pa_nil))))) pa_nil)) (pa_cons (pe_tup (pa_cons pe_str (pa_cons (pv 6) pa_nil))) pa_nil)))))) pss_nil)))) pss_nil)
      (pss_one (ps_ret (pe_tup (pa_cons pe_str (pa_cons (pe_call G__law_row_of (hr.mono (by omega)) rfl m__law_row_of kp__law_row_of b__law_row_of .nil pass0 (pa_cons (pe_lst (pa_cons (pv 3) (pa_cons (pe_call G__law_of (hr.mono (by omega)) rfl m__law_of kp__law_of b__law_of .nil pass0 (pa_cons (pv 0) (pa_cons (pe_lc (own := [("_law_one", 9), ("_law_own", 10)]) rfl scLAtomic.nd (k_list K (pv 2)) (blkOk_by (own := [("_law_one", 9), ("_law_own", 10)]) (N := ["_law_m", "_law_scheme_here", "_law_known", "_law_name", "_law_sort", "_law_picks", "_law_far", "_law_kinds", "_law_want", "_law_one", "_law_own", "_law_some"]) (sc := defScope sLAtomic) (by decide +kernel)) (fun _ _ _ _ _ => (k_gtup K 2 (pgs_cons (pg_name (i := 9) scLAtomic.nd rfl (Or.inl rfl)) (pgs_cons (pg_name (i := 10) scLAtomic.nd rfl (Or.inl rfl)) pgs_nil)))) (fun _ _ _ _ _ => (pts_one (pt_cmpR op_eq (pv 10) (pv 4) (nomark _)))) (fun _ _ _ _ _ => (pv 9))) pa_nil))) pa_nil))) pa_nil)) (pa_cons (pe_tup (pa_cons pe_str (pa_cons (pv 4) pa_nil))) pa_nil)))))))), ?_⟩
  -- N: [(0, '_law_m'), (1, '_law_scheme_here'), (2, '_law_known'), (3, '_law_name'), (4, '_law_sort'), (5, '_law_picks'), (6, '_law_far'), (7, '_law_kinds'), (8, '_law_want'), (9, '_law_one'), (10, '_law_own'), (11, '_law_some')]; cells: ['_law_known', '_law_m', '_law_sort']
  rintro ⟨pm, pg, n, S, kn⟩ W ⟨c, hS, hk⟩ B D hn hR
  have c : Cap W pm pg n := c
  have hS : SmallS S := hS
  have hk : KnOk S kn := hk
  have hk2 := hk.k2
  refine Nx.sAsgX (vs := [3, 4]) (φ := (· ∈ kn)) (F := pairP K) (fun p => [some (isV (.ref pm)), some (schP K S), some (lstOf K (kn.map (pairP K))), some (rep K (.str p.1)), some (rep K (.str p.2)), none, none, none, none, none, none, none]) (TyE.of kn (pairP K) c (TyE.var rfl) (TyE.var rfl) hk.k1 (by omega)) (fun p hp => TyG.tup (TyGs.cons TyG.name (TyGs.cons TyG.name TyGs.nil))) fun p hp => ?_
  have htl : S.ties.length ≤ 2 := hS.t2
  refine Nx.sIf1 (φ := fun _ => True) ((TyT.andX (φ := (· = true)) (ψ := fun _ => True) (TyT.bE (TyT.test (K := K) (TyE.op (P1 := rep K (.tuple (S.ties.map tieD))) (P2 := rep K (.tuple [])) ((TyE.op (P2 := rep K (.int (1 : Nat))) (P := tupZ (S.ties.map (tieP K))) (TyE.var rfl) (TyE.int (K := K)) (r_ixAT rfl)).imp fun _ _ => ties_rep) (TyE.tupD (K := K) (ds := []) TyA.nil) (r_neD (ties_shaped hS.g) (by decide +kernel)))) (by rw [ties_ne hS.g] <;> rfl)) fun _ => TyT.testX (TyE.op (P1 := below K 6) (P2 := rep K (.int 0)) (P := exP (fun _ => True) fun b => rep K (.bool b)) (TyE.drawB c (by decide) (by decide) (TyE.var rfl) (TyE.int (K := K))) (TyE.int (K := K)) (R2T.ex1 fun i _ => (r_bl0 (K := K)).imp fun v H q => ⟨_, trivial, q⟩))).imp fun _ _ => trivial) (fun _ => ?_) fun _ => ?_
  · refine Nx.sAsgX (vs := [6, 7]) (φ := (· ∈ S.ties)) (F := tieP K) (fun t => [some (isV (.ref pm)), some (schP K S), some (lstOf K (kn.map (pairP K))), some (rep K (.str p.1)), some (rep K (.str p.2)), none, some (rep K (.str t.1)), some (rep K (strsD t.2)), none, none, none, none]) (TyE.of S.ties (tieP K) c (TyE.var rfl) (TyE.cb (TyA.cons ((TyE.op (P2 := rep K (.int (1 : Nat))) (P := tupZ (S.ties.map (tieP K))) (TyE.var rfl) (TyE.int (K := K)) (r_ixAT rfl)).imp (P' := tupOf K (S.ties.map (tieP K))) fun _ _ => tupZ_of) TyA.nil) ra_lstT) hS.g.t1 (by omega)) (fun t ht => TyG.tup (TyGs.cons TyG.name (TyGs.cons TyG.name TyGs.nil))) fun t ht => ?_
    have ht2 := hS.a2 t ht
    refine Nx.sSet (P := lstOf K (t.2.map fun s => lstOf K ((picks kn s).map fun v => rep K (.str v)))) (TyE.lcM (K := K) t.2 (fun s => rep K (.str s)) (fun s => lstOf K ((picks kn s).map fun v => rep K (.str v))) (TyI.tup ((TyE.var rfl).imp fun _ _ => strs_t)) (by omega) fun s hs q Qs hq => ⟨_, TyG.name (i := 8), TyE.picksC kn s hk2 (TyI.list (TyE.var rfl)) fun u hu q2 Q2 hq2 => ⟨_, TyG.tup (TyGs.cons (TyG.name (i := 9)) (TyGs.cons (TyG.name (i := 10)) TyGs.nil)), TyT.test (K := K) (TyE.op (TyE.var rfl) (TyE.var rfl) r_eqS), TyE.var rfl⟩⟩) ?_
    refine Nx.ifX (φ := (· = !(t.2.map (picks kn)).any fun l => l.isEmpty)) (TyT.test (K := K) (TyE.op (P1 := rep K (.list [])) (P2 := lstOf K ((t.2.map (picks kn)).map fun l => lstOf K (l.map fun s => rep K (.str s)))) (TyE.lstD (K := K) (ds := []) TyA.nil) ((TyE.var rfl).imp fun v H q => ?_) (r_nilNot fun l hl => ?_))) (fun hb => ?_) fun _ => ?_
    · rw [List.map_map]; exact q
    · obtain ⟨s, _, rfl⟩ := List.mem_map.mp hl
      exact picks_names hk
    · have hne : ∀ s ∈ t.2, 1 ≤ (picks kn s).length := fun s hs => by
        have h1 : ((t.2.map (picks kn)).any fun l => l.isEmpty) = false := by
          cases h : (t.2.map (picks kn)).any fun l => l.isEmpty with
          | false => rfl
          | true => rw [h] at hb; cases hb
        have h2 := List.any_eq_false.mp h1 (picks kn s) (List.mem_map_of_mem hs)
        cases h3 : picks kn s with
        | nil => rw [h3] at h2; exact absurd rfl h2
        | cons a b => simp
      refine Nx.ret (TyE.tieB (t := t) hS hk ht (TyE.lcM (K := K) t.2 (fun s => lstOf K ((picks kn s).map fun v => rep K (.str v))) (fun s => exP (· ∈ picks kn s) fun v => rep K (.str v)) (TyI.list (TyE.var rfl)) (by omega) fun s hs q Qs hq => ⟨_, TyG.name (i := 11), TyE.of (picks kn s) (fun v => rep K (.str v)) (Cap.ownL c) (TyE.var rfl) (TyE.var rfl) (hne s hs) (Nat.le_trans (picks_len hk2) (by decide))⟩) (TyE.var rfl)) hR
    · exact Nx.ret (TyE.sameB (v := p.1) (s := p.2) hk hp (TyE.var rfl) (TyE.of (picks kn p.2) (fun v => rep K (.str v)) c (TyE.var rfl) (TyE.picksC kn p.2 hk2 (TyI.list (TyE.var rfl)) fun u hu q2 Q2 hq2 => ⟨_, TyG.tup (TyGs.cons (TyG.name (i := 9)) (TyGs.cons (TyG.name (i := 10)) TyGs.nil)), TyT.test (K := K) (TyE.op (TyE.var rfl) (TyE.var rfl) r_eqS), TyE.var rfl⟩) (picks_ne hp) (Nat.le_trans (picks_len hk2) (by decide))) (TyE.var rfl)) hR
  · exact Nx.ret (TyE.sameB (v := p.1) (s := p.2) hk hp (TyE.var rfl) (TyE.of (picks kn p.2) (fun v => rep K (.str v)) c (TyE.var rfl) (TyE.picksC kn p.2 hk2 (TyI.list (TyE.var rfl)) fun u hu q2 Q2 hq2 => ⟨_, TyG.tup (TyGs.cons (TyG.name (i := 9)) (TyGs.cons (TyG.name (i := 10)) TyGs.nil)), TyT.test (K := K) (TyE.op (TyE.var rfl) (TyE.var rfl) r_eqS), TyE.var rfl⟩) (picks_ne hp) (Nat.le_trans (picks_len hk2) (by decide))) (TyE.var rfl)) hR
end
end Tk
namespace Tk
open PySem PySem.Spec PyProof.Rows L2
section
variable {P : Program} {w : World} {K : PySem.W.Frag} {mg : Str → Option Value} {base : Heap}
structure LbA where
  pm : Addr
  pg : Addr
  n : Nat
  S : Sch
  kn : List (Str × Str)
  d : Nat
def spLBody (K : PySem.W.Frag) (m : Nat) : Sp := SpF (δ := LbA) (fun x => [isV (.ref x.pm), schP K x.S, lstOf K (x.kn.map (pairP K)), rep K (.int (x.d : Nat))]) (fun x => bodyP K x.S x.kn x.d) (fun x W => Cap W x.pm x.pg x.n ∧ SmallS x.S ∧ KnOk x.S x.kn ∧ x.d < m)
theorem TyE.lbody {W : Wd} {Γ : Ctx} {ta tb tc td : TE} {E : XK} {m : Nat} {pm pg : Addr} {n d : Nat} {S : Sch} {kn : List (Str × Str)} (c : Cap W pm pg n) (hS : SmallS S) (hk : KnOk S kn) (hd : d < m) (ha : TyE W Γ ta (isV (.ref pm))) (hb : TyE W Γ tb (schP K S)) (hc : TyE W Γ tc (lstOf K (kn.map (pairP K)))) (he : TyE W Γ td (rep K (.int (d : Nat)))) :
    TyE W Γ (tCall (spLBody K m) [] E (tCons ta (tCons tb (tCons tc (tCons td tNil))))) (bodyP K S kn d) := TyE.fn (⟨pm, pg, n, S, kn, d⟩ : LbA) (by exact ⟨c, hS, hk, hd⟩) (TyA.cons ha (TyA.cons hb (TyA.cons hc (TyA.cons he TyA.nil))))
def lkN : Nat → Lk
  | 0 => .and
  | 1 => .or
  | _ => .imp
theorem scLBody : FnScope ["_law_m", "_law_scheme_here", "_law_known", "_law_deep", "_law_road", "_law_word"] ["_law_m", "_law_scheme_here", "_law_known", "_law_deep"] (defScope sLBody) := ⟨rfl, rfl, rfl, by decide +kernel, rfl, by decide +kernel, by decide +kernel⟩
theorem ok__law_body (T : Tx K mg) {f : Addr} {fd : FuncData} (F : FnP K "_law_body" "_law_body" sLBody f fd) {m : Nat} (D__law_body : DefOk P w K mg base (m + 3) "_law_body" ["_law_m", "_law_scheme_here", "_law_known", "_law_deep"] (spLBody K m)) (D__law_atomic : DefOk P w K mg base 3 "_law_atomic" ["_law_m", "_law_scheme_here", "_law_known"] (spLAtomic K)) (D__law_draw : DefOk P w K mg base 1 "_law_draw" ["_law_m", "_law_top"] (spDraw K)) : FnOk P w K mg base CX0 (m + 4) f fd ["_law_m", "_law_scheme_here", "_law_known", "_law_deep"] (spLBody K (m + 1)) := by
  obtain ⟨f__law_body, fd__law_body, G__law_body, m__law_body, kp__law_body, b__law_body⟩ := D__law_body.ex
  obtain ⟨f__law_atomic, fd__law_atomic, G__law_atomic, m__law_atomic, kp__law_atomic, b__law_atomic⟩ := D__law_atomic.ex
  obtain ⟨f__law_draw, fd__law_draw, G__law_draw, m__law_draw, kp__law_draw, b__law_draw⟩ := D__law_draw.ex
  refine fn_ok F scLBody (fun _ => rfl) fun cdv A outer s H E hr => ?_
  refine ⟨_, (pss_cons (ps_set (i := 4) scLBody.nd rfl (Or.inl rfl) (pe_call G__law_draw (hr.mono (by omega)) rfl m__law_draw kp__law_draw b__law_draw .nil pass0 (pa_cons (pv 0) (pa_cons pe_int pa_nil))))
      (pss_cons (ps_if (PW.pt (pw_or (pt_cmpR op_lt (pv 3) pe_int (nomark _)) (pw_or1 (pt_cmpR op_eq (pv 4) pe_int (nomark _))))) (pss_one (ps_ret (pe_call G__law_atomic (hr.mono (by omega)) rfl m__law_atomic kp__law_atomic b__law_atomic .nil pass0 (pa_cons (pv 0) (pa_cons (pv 1) (pa_cons (pv 2) pa_nil)))))) pss_nil)
      (pss_cons (ps_if (pt_cmpR op_eq (pv 4) pe_int (nomark _)) (pss_one (ps_ret (pe_tup (pa_cons pe_str (pa_cons (pe_call G__law_body (hr.mono (by omega)) rfl m__law_body kp__law_body b__law_body .nil pass0 (pa_cons (pv 0) (pa_cons (pv 1) (pa_cons (pv 2) (pa_cons (pe_op op_sub (pv 3) pe_int) pa_nil))))) pa_nil))))) pss_nil)
      (pss_cons (ps_set (i := 5) scLBody.nd rfl (Or.inl rfl) (pe_ix (k_ix K) (pe_lst (pa_cons pe_str (pa_cons pe_str (pa_cons pe_str (pa_cons pe_str pa_nil))))) (pe_op op_sub (pv 4) pe_int) (fun _ _ => rfl)))
      (pss_one (ps_ret (pe_tup (pa_cons (pv 5) (pa_cons (pe_call G__law_body (hr.mono (by omega)) rfl m__law_body kp__law_body b__law_body .nil pass0 (pa_cons (pv 0) (pa_cons (pv 1) (pa_cons (pv 2) (pa_cons (pe_op op_sub (pv 3) pe_int) pa_nil))))) (pa_cons (pe_call G__law_body (hr.mono (by omega)) rfl m__law_body kp__law_body b__law_body .nil pass0 (pa_cons (pv 0) (pa_cons (pv 1) (pa_cons (pv 2) (pa_cons (pe_op op_sub (pv 3) pe_int) pa_nil))))) pa_nil)))))))))), ?_⟩
  -- N: [(0, '_law_m'), (1, '_law_scheme_here'), (2, '_law_known'), (3, '_law_deep'), (4, '_law_road'), (5, '_law_word')]; cells: []
  rintro ⟨pm, pg, n, S, kn, d⟩ W ⟨c, hS, hk, hd⟩ B D hn hR
  have c : Cap W pm pg n := c
  have hS : SmallS S := hS
  have hk : KnOk S kn := hk
  have hd : d < m + 1 := hd
  refine Nx.sSet (TyE.drawB (top := 6) c (by decide) (by decide) (TyE.var rfl) (TyE.int (K := K))) ?_
  refine Nx.open (φ := fun i : Nat => i < 6) (F := fun i => rep K (.int (i : Nat))) 4 rfl fun i hi => ?_
  refine Nx.sIf1 (φ := (· = (decide (d < 1) || decide (i = 0)))) (TyT.or (TyT.bE (TyT.test (TyE.op (TyE.var rfl) (TyE.int (K := K)) r_bl0)) (decide_eq_decide.mpr (by show ((d : Nat) : Int) < 1 ↔ d < 1; omega))) fun _ => TyT.bE (TyT.test (TyE.op (TyE.var rfl) (TyE.int (K := K)) r_eqI)) (by simp)) (fun _ => ?_) fun h => ?_
  · refine Nx.ret (P := bodyP K S kn d) ((TyE.fn (⟨pm, pg, n, S, kn⟩ : LaA) (by exact ⟨c, hS, hk⟩) (TyA.cons (TyE.var rfl) (TyA.cons (TyE.var rfl) (TyA.cons (TyE.var rfl) TyA.nil)))).imp fun v H ⟨b, ⟨h1, h2⟩, p⟩ => ⟨b, ⟨h1, Nat.le_trans h2 (Nat.zero_le _)⟩, p⟩) hR
  have h' : ¬ d < 1 ∧ ¬ i = 0 := by
    have := h.symm
    rw [Bool.or_eq_false_iff] at this
    exact ⟨of_decide_eq_false this.1, of_decide_eq_false this.2⟩
  have hdd : d - 1 < m := by omega
  have hsub : ∀ {Γ : Ctx}, Γ[3]? = some (some (rep K (.int (d : Nat)))) → TyE W Γ (tOp (rI0 fun i j => .int (i - j)) (tVar 3) (tC (.int 1))) (rep K (.int ((d - 1 : Nat) : Nat))) := fun e => (TyE.op (TyE.var e) (TyE.int (K := K)) (r_int0 (K := K))).imp fun v H p => by
    have e1 : ((d : Nat) : Int) - 1 = ((d - 1 : Nat) : Int) := by omega
    rw [e1] at p; exact p
  refine Nx.sIf1 (φ := (· = decide (i = 1))) (TyT.bE (TyT.test (TyE.op (TyE.var rfl) (TyE.int (K := K)) r_eqI)) (decide_eq_decide.mpr (by show ((i : Nat) : Int) = 1 ↔ i = 1; omega))) (fun _ => ?_) fun h1 => ?_
  · refine Nx.ret (P := bodyP K S kn d) ((TyE.tup (K := K) (TyA.cons (TyE.str (K := K)) (TyA.cons (TyE.lbody c hS hk hdd (TyE.var rfl) (TyE.var rfl) (TyE.var rfl) (hsub rfl)) TyA.nil))).imp fun v H q => ?_) hR
    obtain ⟨b, ⟨b1, b2⟩, q⟩ := tup2_ex q
    exact ⟨.neg b, ⟨b1, by show b.deep + 1 ≤ d; omega⟩, tup_mk (ds := [.str "not", b.enc]) q⟩
  have h1' : ¬ i = 1 := of_decide_eq_false h1.symm
  refine Nx.sSet (P := rep K (.str (lkN (i - 2)).w)) (TyE.op (TyE.lst (K := K) (TyA.cons (TyE.str (K := K)) (TyA.cons (TyE.str (K := K)) (TyA.cons (TyE.str (K := K)) (TyA.cons (TyE.str (K := K)) TyA.nil))))) ((TyE.op (TyE.var rfl) (TyE.int (K := K)) (r_int0 (K := K))).imp (P' := rep K (.int ((i - 2 : Nat) : Nat))) fun v H p => ?_) (r_ixAL ?_)) ?_
  · have e1 : ((i : Nat) : Int) - 2 = ((i - 2 : Nat) : Int) := by omega
    rw [e1] at p; exact p
  · rcases (show i = 2 ∨ i = 3 ∨ i = 4 ∨ i = 5 by omega) with e | e | e | e <;> subst e <;> rfl
  · refine Nx.ret (P := bodyP K S kn d) ((TyE.tup (K := K) (TyA.cons (TyE.var rfl) (TyA.cons (TyE.lbody c hS hk hdd (TyE.var rfl) (TyE.var rfl) (TyE.var rfl) (hsub rfl)) (TyA.cons (TyE.lbody c hS hk hdd (TyE.var rfl) (TyE.var rfl) (TyE.var rfl) (hsub rfl)) TyA.nil)))).imp fun v H q => ?_) hR
    obtain ⟨a, xs, e, hs, p⟩ := q
    obtain ⟨x, r, rfl, p1, pr⟩ := p.uncons
    obtain ⟨y, r, rfl, ⟨f, ⟨f1, f2⟩, p2⟩, pr⟩ := pr.uncons
    obtain ⟨z, r, rfl, ⟨g, ⟨g1, g2⟩, p3⟩, pr⟩ := pr.uncons
    exact ⟨.bin (lkN (i - 2)) f g, ⟨⟨f1, g1⟩, by show max f.deep g.deep + 1 ≤ d; omega⟩, tup_mk (ds := [.str (lkN (i - 2)).w, f.enc, g.enc]) ⟨a, _, e, hs, .cons p1 (.cons p2 (.cons p3 pr))⟩⟩
end
end Tk
namespace Tk
open PySem PySem.Spec PyProof.Rows L2
section
variable {P : Program} {w : World} {K : PySem.W.Frag} {mg : Str → Option Value} {base : Heap}
theorem TyE.fnX2 {W : Wd} {Γ : Ctx} {ta tb : TE} {P1 : Pd} {δ ι : Type} {pre : δ → List Pd} {post : δ → Pd} {ok : δ → Wd → Prop} {E : XK} {φ : ι → Prop} {F : ι → Pd} (f : ι → δ) (hf : ∀ i, φ i → ok (f i) W) (hp : ∀ i, pre (f i) = [P1, F i]) (h1 : TyE W Γ ta P1) (h2 : TyE W Γ tb (exP φ F)) : TyE W Γ (tCall (SpF pre post ok) [] E (tCons ta (tCons tb tNil))) (exP φ fun i => post (f i)) :=
  TyE.call (TyA.cons h1 (TyA.cons h2 TyA.nil)) fun xs H Q j p q => by
    obtain ⟨x, y, rfl, px, i, hi, pi⟩ := p.two
    exact ⟨W, f i, hf i hi, j, by rw [hp]; exact .cons px (.cons pi .nil), fun v H' a b c => q v H' a b ⟨i, hi, c⟩⟩
structure OvA where
  kn : List (Str × Str)
  d : PyData
def spOver (K : PySem.W.Frag) : Sp := SpF (δ := OvA) (fun x => [lstOf K (x.kn.map (pairP K)), rep K x.d]) (fun x => rep K (allD x.kn x.d)) (fun _ _ => True)
theorem drop_last {α : Type} {kn : List α} {i : Nat} (h : i < kn.length) : kn.drop (kn.length - (i + 1)) = kn[kn.length - (i + 1)]'(by omega) :: kn.drop (kn.length - i) := by
  rw [List.drop_eq_getElem_cons (by omega)]
  congr 2
  omega
theorem scLFlatOver : FnScope ["_law_known", "_law_inner", "_law_name", "_law_sort"] ["_law_known", "_law_inner"] (defScope sLFlatOver) := ⟨rfl, rfl, rfl, by decide +kernel, rfl, by decide +kernel, by decide +kernel⟩
theorem ok__law_flat_over (T : Tx K mg) {f : Addr} {fd : FuncData} (F : FnP K "_law_flat_over" "_law_flat_over" sLFlatOver f fd) : FnOk P w K mg base CX0 (1) f fd ["_law_known", "_law_inner"] (spOver K) := by
  refine fn_ok F scLFlatOver (fun _ => rfl) fun cdv A outer s H E hr => ?_
  refine ⟨_, (pss_cons (ps_for PassesOwn.never rfl (k_list K (k_revL K (pv 0))) (k_gtup K 2 (pgs_cons (pg_name (i := 2) scLFlatOver.nd rfl (Or.inl rfl)) (pgs_cons (pg_name (i := 3) scLFlatOver.nd rfl (Or.inl rfl)) pgs_nil))) (pss_one (ps_set (i := 1) scLFlatOver.nd rfl (Or.inl rfl) (pe_tup (pa_cons pe_str (pa_cons (pv 2) (pa_cons (pe_tup (pa_cons pe_str (pa_cons (pv 3) pa_nil))) (pa_cons (pv 1) pa_nil))))))))
      (pss_one (ps_ret (pv 1)))), ?_⟩
  -- N: [(0, '_law_known'), (1, '_law_inner'), (2, '_law_name'), (3, '_law_sort')]; cells: []
  rintro ⟨kn, d⟩ W _ B D hn hR
  refine Nx.for_ (ι := Unit) (vs := [2, 3]) (fun _ _ => W) (fun i _ => [some (lstOf K (kn.map (pairP K))), some (rep K (allD (kn.drop (kn.length - i)) d)), none, none]) (fun _ _ => True) (TyI.list ((TyE.revL (TyE.var rfl)).imp fun _ _ => lstN_of)) () trivial rfl (Le.same (Le.imp (fun v H p => ?_) (Le.same (Le.same Le.nil)))) (fun i Pt x B' hP _ hB => ?_) fun x B' _ hB => ?_
  · show (rep K (allD (kn.drop (kn.length - 0)) d)).h v H
    rw [Nat.sub_zero, List.drop_length]; exact p
  · have hil : i < kn.length := by
      have := (List.getElem?_eq_some_iff.mp hP).1
      simpa using this
    have hml : (kn.map (pairP K)).length = kn.length := List.length_map ..
    have hP' : (kn.map (pairP K)).reverse[i]? = some Pt := hP
    rw [List.getElem?_reverse (by rw [hml]; exact hil), List.getElem?_map, hml, show kn.length - 1 - i = kn.length - (i + 1) by omega, List.getElem?_eq_getElem (by omega)] at hP'
    have hP2 : pairP K (kn[kn.length - (i + 1)]'(by omega)) = Pt := by simpa using hP'
    subst hP2
    refine ⟨_, TyG.tup (TyGs.cons TyG.name (TyGs.cons TyG.name TyGs.nil)), fun N hN => ?_⟩
    have hN' := hN () trivial
    rw [drop_last hil] at hN'
    refine Nx.set (TyE.tupD (K := K) (ds := [.str "all", .str _, .tuple [.str "sort", .str _], _]) (TyA.cons TyE.str (TyA.cons (TyE.var rfl) (TyA.cons (TyE.tupD (K := K) (ds := [.str "sort", .str _]) (TyA.cons TyE.str (TyA.cons (TyE.var rfl) TyA.nil))) (TyA.cons (TyE.var rfl) TyA.nil))))) (hN'.le (Le.same (Le.same (Le.drop (Le.drop Le.nil)))))
  · dsimp only
    refine Nx.ret ((TyE.var rfl).imp fun v H p => ?_) fun v H j b p => hR v H j (hB.trans b) p
    have p' : (rep K (allD (kn.drop (kn.length - ((kn.map (pairP K)).reverse.length))) d)).h v H := p
    rw [List.length_reverse, List.length_map, Nat.sub_self] at p'
    exact p'
def FlS (S : Sch) (f : Fl) : Prop := KnOk S f.vars ∧ f.body.Ok S f.vars ∧ f.body.deep ≤ 2
theorem FlS.ok {S : Sch} {f : Fl} (h : FlS S f) : f.Ok S := ⟨h.1.k1, Nat.le_trans h.1.k2 (by decide), h.1.nd, h.1.nm, h.2.1, Nat.le_trans h.2.2 (by decide)⟩
structure LfA where
  pm : Addr
  pg : Addr
  n : Nat
  S : Sch
  d : Nat
def flSP (K : PySem.W.Frag) (S : Sch) : Pd := exP (FlS S) fun f => rep K f.enc
def spLFlat (K : PySem.W.Frag) : Sp := SpF (δ := LfA) (fun x => [isV (.ref x.pm), schP K x.S, rep K (.int (2 : Nat)), rep K (.int (x.d : Nat))]) (fun x => flSP K x.S) (fun x W => Cap W x.pm x.pg x.n ∧ SmallS x.S ∧ x.d ≤ 2)
theorem scLFlat : FnScope ["_law_m", "_law_scheme_here", "_law_many", "_law_deep", "_law_names", "_law_known", "_law_name"] ["_law_m", "_law_scheme_here", "_law_many", "_law_deep"] (defScope sLFlat) := ⟨rfl, rfl, rfl, by decide +kernel, rfl, by decide +kernel, by decide +kernel⟩
theorem ok__law_flat (T : Tx K mg) {f : Addr} {fd : FuncData} (F : FnP K "_law_flat" "_law_flat" sLFlat f fd) (D__law_flat_over : DefOk P w K mg base 1 "_law_flat_over" ["_law_known", "_law_inner"] (spOver K)) (D__law_body : DefOk P w K mg base 6 "_law_body" ["_law_m", "_law_scheme_here", "_law_known", "_law_deep"] (spLBody K 3)) (D__law_draw : DefOk P w K mg base 1 "_law_draw" ["_law_m", "_law_top"] (spDraw K)) (D__law_of : DefOk P w K mg base 2 "_law_of" ["_law_m", "_law_some"] (spOf K)) (D__law_words : DefOk P w K mg base 2 "_law_words" ["_law_m", "_law_many"] (spWords K)) : FnOk P w K mg base CX0 (8) f fd ["_law_m", "_law_scheme_here", "_law_many", "_law_deep"] (spLFlat K) := by
  obtain ⟨f__law_flat_over, fd__law_flat_over, G__law_flat_over, m__law_flat_over, kp__law_flat_over, b__law_flat_over⟩ := D__law_flat_over.ex
  obtain ⟨f__law_body, fd__law_body, G__law_body, m__law_body, kp__law_body, b__law_body⟩ := D__law_body.ex
  obtain ⟨f__law_draw, fd__law_draw, G__law_draw, m__law_draw, kp__law_draw, b__law_draw⟩ := D__law_draw.ex
  obtain ⟨f__law_of, fd__law_of, G__law_of, m__law_of, kp__law_of, b__law_of⟩ := D__law_of.ex
  obtain ⟨f__law_words, fd__law_words, G__law_words, m__law_words, kp__law_words, b__law_words⟩ := D__law_words.ex
  refine fn_ok F scLFlat (fun _ => rfl) fun cdv A outer s H E hr => ?_
  refine ⟨_, (pss_cons (ps_set (i := 4) scLFlat.nd rfl (Or.inl rfl) (pe_call G__law_words (hr.mono (by omega)) rfl m__law_words kp__law_words b__law_words .nil pass0 (pa_cons (pv 0) (pa_cons (pe_op op_add pe_int (pe_call G__law_draw (hr.mono (by omega)) rfl m__law_draw kp__law_draw b__law_draw .nil pass0 (pa_cons (pv 0) (pa_cons (pv 2) pa_nil)))) pa_nil))))
      (pss_cons (ps_setLc (i := 5) (own := [("_law_name", 6)]) rfl scLFlat.nd rfl rfl (sw_true rfl rfl rfl (by decide +kernel)) (k_list K (pv 4)) (blkOk_by (own := [("_law_name", 6)]) (N := ["_law_m", "_law_scheme_here", "_law_many", "_law_deep", "_law_names", "_law_known", "_law_name"]) (sc := defScope sLFlat) (by decide +kernel)) (fun _ _ _ _ _ => (pg_name (i := 6) scLFlat.nd rfl (Or.inl rfl))) (fun _ _ _ _ _ => pts_nil) (fun _ _ _ _ _ => (pe_tup (pa_cons (pv 6) (pa_cons (pe_call G__law_of (hr.mono (by omega)) rfl m__law_of kp__law_of b__law_of .nil pass0 (pa_cons (pv 0) (pa_cons (pe_callTy (k_lst K) rfl T.list bt_list (pa_cons (pe_ix (k_ix K) (pv 1) pe_int (fun _ _ => rfl)) pa_nil)) pa_nil))) pa_nil)))))
      (pss_cons (ps_set (i := 5) scLFlat.nd rfl (Or.inl rfl) (pe_ifExp (pt_cmpR op_eq (pe_call G__law_draw (hr.mono (by omega)) rfl m__law_draw kp__law_draw b__law_draw .nil pass0 (pa_cons (pv 0) (pa_cons pe_int pa_nil))) pe_int (nomark _)) (k_revL K (pv 5)) (pv 5)))
      (pss_one (ps_ret (pe_call G__law_flat_over (hr.mono (by omega)) rfl m__law_flat_over kp__law_flat_over b__law_flat_over .nil pass0 (pa_cons (pv 5) (pa_cons (pe_call G__law_body (hr.mono (by omega)) rfl m__law_body kp__law_body b__law_body .nil pass0 (pa_cons (pv 0) (pa_cons (pv 1) (pa_cons (pv 5) (pa_cons (pv 3) pa_nil))))) pa_nil)))))))), ?_⟩
  -- N: [(0, '_law_m'), (1, '_law_scheme_here'), (2, '_law_many'), (3, '_law_deep'), (4, '_law_names'), (5, '_law_known'), (6, '_law_name')]; cells: ['_law_m', '_law_scheme_here']
  rintro ⟨pm, pg, n, S, d⟩ W ⟨c, hS, hd⟩ B D hn hR
  have c : Cap W pm pg n := c
  have hS : SmallS S := hS
  have hd : d ≤ 2 := hd
  have hsl := hS.s2
  refine Nx.sSet (TyE.fnX2 (φ := fun i : Nat => 1 ≤ i ∧ i < 3) (F := fun i => rep K (.int (i : Nat))) (fun i => (⟨pm, pg, n, i⟩ : WoA)) (fun i hi => ⟨c, by show i ≤ 14; omega⟩) (fun _ => rfl) (TyE.var rfl) (TyE.op (TyE.int (K := K)) (TyE.drawB (top := 2) c (by decide) (by decide) (TyE.var rfl) (TyE.var rfl)) (R2T.ex2 fun i hi => (r_int0 (K := K)).imp fun v H p => ?_))) ?_
  · refine ⟨1 + i, by omega, ?_⟩
    have e1 : (1 : Int) + (i : Nat) = ((1 + i : Nat) : Int) := by omega
    show (rep K (.int ((1 + i : Nat) : Int))).h v H
    rw [← e1]; exact p
  refine Nx.open (φ := fun i : Nat => 1 ≤ i ∧ i < 3) (F := fun i => wordsP K i) 4 rfl fun i ⟨hi1, hi⟩ => ?_
  refine Nx.open (φ := fun ws : List Str => ws.length = i ∧ risingB ws = true) (F := fun ws => lstN (ws.map fun s => rep K (.str s))) 4 rfl fun ws ⟨hw, hwr⟩ => ?_
  refine Nx.sSet (P := exP (KnOk S) fun kn => lstOf K (kn.map (pairP K))) ((TyE.lcM (K := K) ws (fun s => rep K (.str s)) (fun s => exP (fun p : Str × Str => p.1 = s ∧ p.2 ∈ S.sorts) (pairP K)) (TyI.list ((TyE.var rfl).imp fun _ _ => lstN_of)) (by omega) fun s hs q Qs hq => ⟨_, TyG.name (i := 6), (TyE.tup (K := K) (TyA.cons (TyE.var rfl) (TyA.cons (TyE.of S.sorts (fun s => rep K (.str s)) (Cap.ownL c) (TyE.var rfl) (TyE.cb (TyA.cons ((TyE.op (P2 := rep K (.int (0 : Nat))) (P := rep K (strsD S.sorts)) (TyE.var rfl) (TyE.int (K := K)) (r_ixAT rfl)).imp fun _ _ => strs_t) TyA.nil) ra_lstT) hS.g.s1 (by omega)) TyA.nil))).imp fun v H p => ?_⟩).imp fun v H p => ?_) ?_
  · obtain ⟨t, ht, p⟩ := tup2_ex p
    exact ⟨(s, t), ⟨rfl, ht⟩, p⟩
  · obtain ⟨kn, ⟨e1, e2⟩, p⟩ := lst_ex p
    have em : kn.map (·.1) = ws := by
      refine List.ext_getElem? fun m => ?_
      rw [List.getElem?_map]
      by_cases hm : m < ws.length
      · have hm2 : m < kn.length := by omega
        rw [List.getElem?_eq_getElem hm, List.getElem?_eq_getElem hm2]
        have := (e2 m ws[m] kn[m] (List.getElem?_eq_getElem hm) (List.getElem?_eq_getElem hm2)).1
        show some kn[m].1 = some ws[m]
        rw [this]
      · rw [List.getElem?_eq_none (by omega), List.getElem?_eq_none (by omega)] <;> rfl
    refine ⟨kn, ⟨by omega, by omega, by rw [em]; exact rising_nodup hwr, fun p hp => ?_⟩, p⟩
    obtain ⟨m, hm, rfl⟩ := List.mem_iff_getElem.mp hp
    have hm2 : m < ws.length := by omega
    obtain ⟨h1, h2⟩ := e2 m ws[m] kn[m] (List.getElem?_eq_getElem hm2) (List.getElem?_eq_getElem hm)
    refine ⟨?_, h2⟩
    rw [h1]
    exact List.all_eq_true.mp (Bool.and_eq_true_iff.mp hwr).1 _ (List.getElem_mem hm2)
  refine Nx.open (φ := KnOk S) (F := fun kn => lstOf K (kn.map (pairP K))) 5 rfl fun kn hk => ?_
  refine Nx.sSet (P := exP (KnOk S) fun kn => lstOf K (kn.map (pairP K))) (TyE.ifX (φ := fun _ => True) (TyT.testX (TyE.op (P1 := below K 3) (P2 := rep K (.int 0)) (P := exP (fun _ => True) fun b => rep K (.bool b)) (TyE.drawB c (by decide) (by decide) (TyE.var rfl) (TyE.int (K := K))) (TyE.int (K := K)) (R2T.ex1 fun i _ => (r_eqI (K := K)).imp fun v H q => ⟨_, trivial, q⟩))) (fun _ => ((TyE.revL (TyE.var rfl)).imp fun v H p => ⟨kn.reverse, ⟨by rw [List.length_reverse]; exact hk.k1, by rw [List.length_reverse]; exact hk.k2, by rw [List.map_reverse]; exact (List.reverse_perm _).nodup_iff.mpr hk.nd, fun p hp => hk.nm p (List.mem_reverse.mp hp)⟩, ?_⟩)) fun _ => (TyE.var rfl).imp fun v H p => ⟨kn, hk, p⟩) ?_
  · show (lstOf K (kn.reverse.map (pairP K))).h v H
    rw [List.map_reverse]
    exact lstN_of p
  refine Nx.open (φ := KnOk S) (F := fun kn => lstOf K (kn.map (pairP K))) 5 rfl fun kn hk => ?_
  refine Nx.ret ((TyE.fnX2 (φ := fun b : Bd => b.Ok S kn ∧ b.deep ≤ d) (F := fun b => rep K b.enc) (fun b => (⟨kn, b.enc⟩ : OvA)) (fun _ _ => trivial) (fun _ => rfl) (TyE.var rfl) (TyE.lbody c hS hk (by omega) (TyE.var rfl) (TyE.var rfl) (TyE.var rfl) (TyE.var rfl))).imp fun v H p => ?_) hR
  obtain ⟨b, ⟨b1, b2⟩, p⟩ := p
  exact ⟨⟨kn, b⟩, ⟨hk, b1, by show b.deep ≤ 2; omega⟩, p⟩
end
end Tk
namespace Tk
open PySem PySem.Spec PyProof.Rows L2
section
variable {P : Program} {w : World} {K : PySem.W.Frag} {mg : Str → Option Value} {base : Heap}
theorem Nx.par {W : Wd} {B : Hp} {Γ : Ctx} {D : Ends} {tA : TA} {P1 P2 : Pd} {i m : Nat} (hA : TyA W Γ tA [P1, P2]) (h : Nx W B ((Γ.set i (some P1)).set m (some P2)) D.nx) : Nx W B Γ (tPar i m tA D) := fun σ H j b e =>
  hA σ H _ j e fun vs H' j' s p => by
    obtain ⟨x, r, rfl, p1, pr⟩ := p.uncons
    obtain ⟨y, r, rfl, p2, pr⟩ := pr.uncons
    have := pr.unnil
    subst this
    exact ⟨x, y, rfl, h _ H' j' (b.trans s) (((e.mono s).set i p1).set m p2)⟩
def hdS : Bd → Str
  | .tie _ _ _ => "in"
  | .same _ _ _ => "in"
  | .neg _ => "not"
  | .bin o _ _ => o.w
theorem hdS_enc (b : Bd) : ∃ ds, b.enc = .tuple (.str (hdS b) :: ds) := by cases b <;> exact ⟨_, rfl⟩
theorem ne_in : decide (("in" : Str) = "all") = false := by decide +kernel
theorem ne_not : decide (("not" : Str) = "all") = false := by decide +kernel
theorem ne_lk (o : Lk) : decide (o.w = "all") = false := by cases o <;> decide +kernel
theorem eq_all : decide (("all" : Str) = "all") = true := by decide +kernel
theorem hdS_ne (b : Bd) : decide (hdS b = "all") = false := by
  cases b with
  | tie a b t => exact ne_in
  | same a b t => exact ne_in
  | neg f => exact ne_not
  | bin o f g => exact ne_lk o
theorem TyT.isAll {W : Wd} {Γ : Ctx} {te : TE} {vs : List (Str × Str)} {b : Bd} (h : TyE W Γ te (rep K (allD vs b.enc))) : TyT W Γ (tTest (tOp rEq (tOp (rIx K) te (tC (.int 0))) (tC (.str "all")))) (· = !vs.isEmpty) := by
  cases vs with
  | nil =>
    obtain ⟨ds, e⟩ := hdS_enc b
    have h' : TyE W Γ te (rep K (.tuple (.str (hdS b) :: ds))) := by rw [← e]; exact h
    exact TyT.bE (TyT.test (K := K) (TyE.op (TyE.op (P2 := rep K (.int (0 : Nat))) h' (TyE.int (K := K)) (r_ixD rfl)) (TyE.str (K := K)) r_eqS)) (hdS_ne b)
  | cons v r =>
    obtain ⟨x, s⟩ := v
    have h' : TyE W Γ te (rep K (.tuple [.str "all", .str x, .tuple [.str "sort", .str s], allD r b.enc])) := h
    exact TyT.bE (TyT.test (K := K) (TyE.op (TyE.op (P2 := rep K (.int (0 : Nat))) h' (TyE.int (K := K)) (r_ixD rfl)) (TyE.str (K := K)) r_eqS)) eq_all
def spVarsOf (K : PySem.W.Frag) : Sp := SpF (δ := Fl) (fun f => [rep K f.enc]) (fun f => lstOf K (f.vars.map (pairP K))) (fun f _ => f.vars.length ≤ 2)
def spInner (K : PySem.W.Frag) : Sp := SpF (δ := Fl) (fun f => [rep K f.enc]) (fun f => rep K f.body.enc) (fun f _ => f.vars.length ≤ 2)
theorem all_cons {f : Fl} {i : Nat} (h : i < f.vars.length) : allD (f.vars.drop i) f.body.enc = .tuple [.str "all", .str f.vars[i].1, .tuple [.str "sort", .str f.vars[i].2], allD (f.vars.drop (i + 1)) f.body.enc] := by
  rw [List.drop_eq_getElem_cons h] <;> rfl
theorem scLVarsOf : FnScope ["_law_said", "_law_found"] ["_law_said"] (defScope sLVarsOf) := ⟨rfl, rfl, rfl, by decide +kernel, rfl, by decide +kernel, by decide +kernel⟩
theorem ok__law_vars_of (T : Tx K mg) {f : Addr} {fd : FuncData} (F : FnP K "_law_vars_of" "_law_vars_of" sLVarsOf f fd) : FnOk P w K mg base CX0 (1) f fd ["_law_said"] (spVarsOf K) := by
  refine fn_ok F scLVarsOf (fun _ => rfl) fun cdv A outer s H E hr => ?_
  refine ⟨_, (pss_cons (ps_set (i := 1) scLVarsOf.nd rfl (Or.inl rfl) (pe_lst pa_nil))
      (pss_cons (ps_while PassesOwn.never (pt_cmpR op_eq (pe_ix (k_ix K) (pv 0) pe_int (fun _ _ => rfl)) pe_str (nomark _)) (pss_one (ps_par (i := 1) (j := 0) rfl scLVarsOf.nd rfl rfl (by decide) rfl rfl (pa_cons (pe_op op_cat (pv 1) (pe_lst (pa_cons (pe_tup (pa_cons (pe_ix (k_ix K) (pv 0) pe_int (fun _ _ => rfl)) (pa_cons (pe_ix (k_ix K) (pe_ix (k_ix K) (pv 0) pe_int (fun _ _ => rfl)) pe_int (fun _ _ => rfl)) pa_nil))) pa_nil))) (pa_cons (pe_ix (k_ix K) (pv 0) pe_int (fun _ _ => rfl)) pa_nil)) rfl)))
      (pss_one (ps_ret (pv 1))))), ?_⟩
  -- N: [(0, '_law_said'), (1, '_law_found')]; cells: []
  rintro f W hl B D hn hR
  have hl : f.vars.length ≤ 2 := hl
  refine Nx.sSet (P := lstN []) (TyE.lstN TyA.nil) ?_
  refine Nx.while_ (ι := Nat) (fun _ => W) (fun i => [some (rep K (allD (f.vars.drop i) f.body.enc)), some (lstN ((f.vars.take i).map (pairP K)))]) (fun i => f.vars.length - i) (fun i => i ≤ f.vars.length) 0 (Nat.zero_le _) rfl (Le.refl _) fun i B' hi hB => ⟨_, TyT.isAll (TyE.var rfl), fun ht N hN => ?_, fun hf => ?_⟩
  · have hil : i < f.vars.length := by
      rcases Nat.lt_or_eq_of_le hi with h | h
      · exact h
      · rw [h, List.drop_length] at ht; cases ht
    have hg : ∀ {Γ : Ctx}, Γ[0]? = some (some (rep K (allD (f.vars.drop i) f.body.enc))) → TyE W Γ (tVar 0) (rep K (.tuple [.str "all", .str f.vars[i].1, .tuple [.str "sort", .str f.vars[i].2], allD (f.vars.drop (i + 1)) f.body.enc])) := fun e => (TyE.var e).imp fun v H p => by rw [← all_cons hil]; exact p
    have hN' := hN (i + 1) hil (by show f.vars.length - (i + 1) < f.vars.length - i; omega)
    rw [List.take_add_one, List.getElem?_eq_getElem hil, List.map_append] at hN'
    have htl : (f.vars.take i).length ≤ 2 := Nat.le_trans (List.length_take_le' ..) hl
    refine Nx.par (TyA.cons (TyE.op (P2 := lstN [pairP K f.vars[i]]) (TyE.var rfl) (TyE.lstN (TyA.cons (TyE.tup (K := K) (TyA.cons (TyE.op (P2 := rep K (.int (1 : Nat))) (hg rfl) (TyE.int (K := K)) (r_ixD rfl)) (TyA.cons (TyE.op (P2 := rep K (.int (1 : Nat))) (TyE.op (P2 := rep K (.int (2 : Nat))) (hg rfl) (TyE.int (K := K)) (r_ixD rfl)) (TyE.int (K := K)) (r_ixD rfl)) TyA.nil))) TyA.nil)) ?_) (TyA.cons (TyE.op (P2 := rep K (.int (3 : Nat))) (hg rfl) (TyE.int (K := K)) (r_ixD rfl)) TyA.nil)) (hN'.le (Le.same (Le.same Le.nil)))
    exact r_cat (by rw [List.length_map]; show _ + 1 ≤ 1000; omega)
  · have hie : i = f.vars.length := by
      refine Nat.le_antisymm hi (Nat.le_of_not_lt fun h => ?_)
      rw [List.drop_eq_getElem_cons h] at hf
      cases hf
    subst hie
    refine Nx.ret ((TyE.var rfl).imp fun v H p => ?_) fun v H j b p => hR v H j (hB.trans b) p
    have p' : (lstN ((f.vars.take f.vars.length).map (pairP K))).h v H := p
    rw [List.take_length] at p'
    exact lstN_of p'
theorem scLInnerOf : FnScope ["_law_said"] ["_law_said"] (defScope sLInnerOf) := ⟨rfl, rfl, rfl, by decide +kernel, rfl, by decide +kernel, by decide +kernel⟩
theorem ok__law_inner_of (T : Tx K mg) {f : Addr} {fd : FuncData} (F : FnP K "_law_inner_of" "_law_inner_of" sLInnerOf f fd) : FnOk P w K mg base CX0 (1) f fd ["_law_said"] (spInner K) := by
  refine fn_ok F scLInnerOf (fun _ => rfl) fun cdv A outer s H E hr => ?_
  refine ⟨_, (pss_cons (ps_while PassesOwn.never (pt_cmpR op_eq (pe_ix (k_ix K) (pv 0) pe_int (fun _ _ => rfl)) pe_str (nomark _)) (pss_one (ps_set (i := 0) scLInnerOf.nd rfl (Or.inl rfl) (pe_ix (k_ix K) (pv 0) pe_int (fun _ _ => rfl)))))
      (pss_one (ps_ret (pv 0)))), ?_⟩
  -- N: [(0, '_law_said')]; cells: []
  rintro f W hl B D hn hR
  have hl : f.vars.length ≤ 2 := hl
  refine Nx.seq (Nx.while_ (ι := Nat) (fun _ => W) (fun i => [some (rep K (allD (f.vars.drop i) f.body.enc))]) (fun i => f.vars.length - i) (fun i => i ≤ f.vars.length) 0 (Nat.zero_le _) rfl (Le.refl _) fun i B' hi hB => ⟨_, TyT.isAll (TyE.var rfl), fun ht N hN => ?_, fun hf => ?_⟩)
  · have hil : i < f.vars.length := by
      rcases Nat.lt_or_eq_of_le hi with h | h
      · exact h
      · rw [h, List.drop_length] at ht; cases ht
    have hg : ∀ {Γ : Ctx}, Γ[0]? = some (some (rep K (allD (f.vars.drop i) f.body.enc))) → TyE W Γ (tVar 0) (rep K (.tuple [.str "all", .str f.vars[i].1, .tuple [.str "sort", .str f.vars[i].2], allD (f.vars.drop (i + 1)) f.body.enc])) := fun e => (TyE.var e).imp fun v H p => by rw [← all_cons hil]; exact p
    have hN' := hN (i + 1) hil (by show f.vars.length - (i + 1) < f.vars.length - i; omega)
    exact Nx.set (TyE.op (P2 := rep K (.int (3 : Nat))) (hg rfl) (TyE.int (K := K)) (r_ixD rfl)) (hN'.le (Le.same Le.nil))
  · have hie : i = f.vars.length := by
      refine Nat.le_antisymm hi (Nat.le_of_not_lt fun h => ?_)
      rw [List.drop_eq_getElem_cons h] at hf
      cases hf
    subst hie
    refine Nx.ret ((TyE.var rfl).imp fun v H p => ?_) fun v H j b p => hR v H j (hB.trans b) p
    have p' : (rep K (allD (f.vars.drop f.vars.length) f.body.enc)).h v H := p
    rw [List.drop_length] at p'
    exact p'
def spShows (K : PySem.W.Frag) : Sp := SpF (δ := EnA) (fun x => [schP K x.S, lstOf K (x.gs.map fun f => rep K f.enc), rep K x.g.enc]) (fun x => rep K (.bool (shown x.S x.gs x.g))) (fun x _ => x.Ok)
theorem shown_is (b : Bool) : decide ((if b = true then ("shown" : Str) else "fails") = "shown") = b := by cases b <;> decide +kernel
theorem scLShows : FnScope ["_law_scheme_here", "_law_given", "_law_goal"] ["_law_scheme_here", "_law_given", "_law_goal"] (defScope sLShows) := ⟨rfl, rfl, rfl, by decide +kernel, rfl, by decide +kernel, by decide +kernel⟩
theorem ok__law_shows (T : Tx K mg) {f : Addr} {fd : FuncData} (F : FnP K "_law_shows" "_law_shows" sLShows f fd) (D_entail : DefOk P w K mg base 41 "entail" ["scheme", "given", "goal"] (spEntail K)) : FnOk P w K mg base CX0 (42) f fd ["_law_scheme_here", "_law_given", "_law_goal"] (spShows K) := by
  obtain ⟨f_entail, fd_entail, G_entail, m_entail, kp_entail, b_entail⟩ := D_entail.ex
  refine fn_ok F scLShows (fun _ => rfl) fun cdv A outer s H E hr => ?_
  refine ⟨_, (pss_one (ps_ret (pe_cmpR op_eq (pe_ix (k_ix K) (pe_call G_entail (hr.mono (by omega)) rfl m_entail kp_entail b_entail .nil pass0 (pa_cons (pv 0) (pa_cons (pv 1) (pa_cons (pv 2) pa_nil)))) pe_int (fun _ _ => rfl)) pe_str (nomark _)))), ?_⟩
  -- N: [(0, '_law_scheme_here'), (1, '_law_given'), (2, '_law_goal')]; cells: []
  rintro x W hx B D hn hR
  refine Nx.ret ((TyE.op (TyE.op (P2 := rep K (.int (0 : Nat))) (P := rep K (.str (if shown x.S x.gs x.g = true then "shown" else "fails"))) (TyE.fn x hx (TyA.cons (TyE.var rfl) (TyA.cons (TyE.var rfl) (TyA.cons (TyE.var rfl) TyA.nil)))) (TyE.int (K := K)) (r_ixAT rfl)) (TyE.str (K := K)) r_eqS).imp fun v H p => ?_) hR
  rw [shown_is] at p
  exact p
end
end Tk
namespace Tk
open PySem PySem.Spec PyProof.Rows L2
/-- a flat saying of one or two vars -/
def FlM (S : Sch) (f : Fl) : Prop := KnOk S f.vars ∧ f.body.Ok S f.vars ∧ f.body.deep ≤ 9
theorem FlS.m {S : Sch} {f : Fl} (h : FlS S f) : FlM S f := ⟨h.1, h.2.1, Nat.le_trans h.2.2 (by decide)⟩
theorem FlM.ok {S : Sch} {f : Fl} (h : FlM S f) : f.Ok S := ⟨h.1.k1, Nat.le_trans h.1.k2 (by decide), h.1.nd, h.1.nm, h.2.1, h.2.2⟩
/-- what is asked whether it is shown -/
structure Ask (S : Sch) (gs : List Fl) (g : Fl) : Prop where
  s : SmallS S
  al : ∀ f ∈ gs, FlM S f
  g : FlM S g
  few : gs.length ≤ 8
end Tk
namespace Tk
open PySem PySem.Spec PyProof.Rows L2
/-! ### truth in a world of sizes, and that the finding tells it -/
abbrev Vn := Ky → Bool
def tru (v : Vn) (c : Ch) : Bd → Bool
  | .tie a b t => v (rowK c a b t)
  | .same a b _ => decide (vl c a = vl c b)
  | .neg f => !tru v c f
  | .bin .and f g => tru v c f && tru v c g
  | .bin .or f g => tru v c f || tru v c g
  | .bin .imp f g => !tru v c f || tru v c g
def Ag (κ : KV2) (v : Vn) : Prop := ∀ k b, κ.lookup k = some b → v k = b
theorem sure_tru {κ : KV2} {v : Vn} {c : Ch} (h : Ag κ v) : ∀ b : Bd, (sure κ c b = 2 → tru v c b = true) ∧ (sure κ c b = 0 → tru v c b = false)
  | .tie a b t => by
    unfold sure tru
    cases e : κ.lookup (rowK c a b t) with
    | none => exact ⟨fun z => (by cases z), fun z => (by cases z)⟩
    | some x =>
      have := h _ _ e
      cases x with
      | true => exact ⟨fun _ => this, fun z => (by cases z)⟩
      | false => exact ⟨fun z => (by cases z), fun _ => this⟩
  | .same a b s => by
    unfold sure tru
    by_cases e : vl c a = vl c b
    · rw [if_pos e]; exact ⟨fun _ => decide_eq_true e, fun z => (by cases z)⟩
    · rw [if_neg e]; exact ⟨fun z => by (cases z), fun _ => decide_eq_false e⟩
  | .neg f => by
    have ih := sure_tru (c := c) h f
    have hl := sure_le κ c f
    unfold sure tru
    refine ⟨fun z => ?_, fun z => ?_⟩
    · rw [ih.2 (by omega)] <;> rfl
    · rw [ih.1 (by omega)] <;> rfl
  | .bin .and f g => by
    have i1 := sure_tru (c := c) h f
    have i2 := sure_tru (c := c) h g
    have h1 := sure_le κ c f
    have h2 := sure_le κ c g
    unfold sure tru
    refine ⟨fun z => ?_, fun z => ?_⟩
    · rw [i1.1 (by omega), i2.1 (by omega)] <;> rfl
    · rcases (show sure κ c f = 0 ∨ sure κ c g = 0 by omega) with z | z
      · rw [i1.2 z, Bool.false_and]
      · rw [i2.2 z, Bool.and_false]
  | .bin .or f g => by
    have i1 := sure_tru (c := c) h f
    have i2 := sure_tru (c := c) h g
    have h1 := sure_le κ c f
    have h2 := sure_le κ c g
    unfold sure tru
    refine ⟨fun z => ?_, fun z => ?_⟩
    · rcases (show sure κ c f = 2 ∨ sure κ c g = 2 by omega) with z | z
      · rw [i1.1 z, Bool.true_or]
      · rw [i2.1 z, Bool.or_true]
    · rw [i1.2 (by omega), i2.2 (by omega)] <;> rfl
  | .bin .imp f g => by
    have i1 := sure_tru (c := c) h f
    have i2 := sure_tru (c := c) h g
    have h1 := sure_le κ c f
    have h2 := sure_le κ c g
    unfold sure tru
    refine ⟨fun z => ?_, fun z => ?_⟩
    · rcases (show sure κ c f = 0 ∨ sure κ c g = 2 by omega) with z | z
      · rw [i1.2 z] <;> rfl
      · rw [i2.1 z, Bool.or_true]
    · rw [i1.1 (by omega), i2.2 (by omega)] <;> rfl
theorem openR_bin {κ : KV2} {c : Ch} {o : Lk} {f g : Bd} (h : (∃ k, openR κ c f = some k) ∨ ∃ k, openR κ c g = some k) : ∃ k, openR κ c (.bin o f g) = some k := by
  have e : openR κ c (.bin o f g) = (match openR κ c f with | some k => some k | none => openR κ c g) := rfl
  rw [e]
  cases hf : openR κ c f with
  | some k => exact ⟨k, rfl⟩
  | none =>
    rcases h with ⟨k, h⟩ | h
    · rw [hf] at h; cases h
    · exact h
theorem openR_some {κ : KV2} {c : Ch} : ∀ {b : Bd}, sure κ c b = 1 → ∃ k, openR κ c b = some k
  | .tie a b t, h => by
    unfold sure at h
    unfold openR
    cases e : κ.lookup (rowK c a b t) with
    | none => exact ⟨_, by rw [if_neg (by simp)]⟩
    | some x =>
      rw [e] at h
      cases x <;> cases h
  | .same a b s, h => by
    unfold sure at h
    split at h <;> cases h
  | .neg f, h => by
    have hl := sure_le κ c f
    unfold sure at h
    exact openR_some (b := f) (by omega)
  | .bin .and f g, h => by
    have h1 := sure_le κ c f
    have h2 := sure_le κ c g
    unfold sure at h
    rcases (show sure κ c f = 1 ∨ sure κ c g = 1 by omega) with z | z
    · exact openR_bin (.inl (openR_some z))
    · exact openR_bin (.inr (openR_some z))
  | .bin .or f g, h => by
    have h1 := sure_le κ c f
    have h2 := sure_le κ c g
    unfold sure at h
    rcases (show sure κ c f = 1 ∨ sure κ c g = 1 by omega) with z | z
    · exact openR_bin (.inl (openR_some z))
    · exact openR_bin (.inr (openR_some z))
  | .bin .imp f g, h => by
    have h1 := sure_le κ c f
    have h2 := sure_le κ c g
    unfold sure at h
    rcases (show sure κ c f = 1 ∨ sure κ c g = 1 by omega) with z | z
    · exact openR_bin (.inl (openR_some z))
    · exact openR_bin (.inr (openR_some z))
theorem stepC_none {κ : KV2} {b : Bd} {acc : Option Ky} {c : Ch} (h : stepC κ b acc c = none) : acc = none ∧ sure κ c b ≠ 1 := by
  unfold stepC at h
  split at h
  · rename_i hc
    obtain ⟨k, hk⟩ := openR_some hc.1
    rw [hk] at h; cases h
  · rename_i hc
    exact ⟨h, fun z => hc ⟨z, h⟩⟩
theorem foldC_none {κ : KV2} {b : Bd} : ∀ {cs : List Ch} {acc : Option Ky}, cs.foldl (stepC κ b) acc = none → acc = none ∧ ∀ c ∈ cs, sure κ c b ≠ 1
  | [], acc, h => ⟨h, fun c hc => by cases hc⟩
  | c :: cs, acc, h => by
    obtain ⟨h1, h2⟩ := foldC_none (cs := cs) (acc := stepC κ b acc c) h
    obtain ⟨h3, h4⟩ := stepC_none h1
    refine ⟨h3, fun d hd => ?_⟩
    rcases List.mem_cons.mp hd with e | hd
    · rw [e]; exact h4
    · exact h2 d hd
theorem foldR_none {κ : KV2} : ∀ {rows : List Row} {acc : Option Ky}, rows.foldl (fun acc r => r.1.foldl (stepC κ r.2) acc) acc = none → acc = none ∧ ∀ r ∈ rows, ∀ c ∈ r.1, sure κ c r.2 ≠ 1
  | [], acc, h => ⟨h, fun c hc => by cases hc⟩
  | r :: rows, acc, h => by
    obtain ⟨h1, h2⟩ := foldR_none (rows := rows) (acc := r.1.foldl (stepC κ r.2) acc) h
    obtain ⟨h3, h4⟩ := foldC_none h1
    refine ⟨h3, fun d hd => ?_⟩
    rcases List.mem_cons.mp hd with e | hd
    · rw [e]; exact h4
    · exact h2 d hd
/-- the givens' rows hold, so does the goal's -/
def Hold (v : Vn) (r : Row) : Prop := ∀ c ∈ r.1, tru v c r.2 = true
def EntR (κ : KV2) (rows : List Row) (g : Row) : Prop := ∀ v, Ag κ v → (∀ r ∈ rows, Hold v r) → Hold v g
def valK (κ : KV2) : Vn := fun k => (κ.lookup k).getD false
theorem ag_val (κ : KV2) : Ag κ (valK κ) := fun k b e => by
  unfold valK
  rw [e] <;> rfl
theorem ag_ext {κ : KV2} {v : Vn} {k : Ky} {b : Bool} (h : Ag (κ ++ [(k, b)]) v) : Ag κ v := fun k' b' e => h k' b' (by rw [List.lookup_append, e] <;> rfl)
theorem ag_add {κ : KV2} {v : Vn} {k : Ky} (hk : κ.lookup k = none) (h : Ag κ v) : Ag (κ ++ [(k, v k)]) v := fun k' b' e => by
  rw [List.lookup_append] at e
  cases e1 : κ.lookup k' with
  | some x =>
    rw [e1] at e
    have e2 : x = b' := by simpa using e
    rw [← e2]; exact h k' x e1
  | none =>
    rw [e1] at e
    by_cases hkk : k' = k
    · rw [hkk] at e ⊢
      rw [List.lookup_cons, beq_self_eq_true] at e
      simpa using e
    · rw [List.lookup_cons, beq_eq_false_iff_ne.mpr hkk] at e
      simp at e
theorem looked_true {κ : KV2} {rows : List Row} {g : Row} {n : Nat} {o : Option Ky} (h : looked κ rows g = (some n, o)) : EntR κ rows g := by
  intro v ha hr c hc
  unfold looked at h
  split at h
  · rename_i m hm
    obtain ⟨hlt, hz, _⟩ := List.findIdx?_eq_some_iff_getElem.mp hm
    obtain ⟨d, hd, hs⟩ := List.any_eq_true.mp hz
    have := (sure_tru ha rows[m].2).2 (of_decide_eq_true hs)
    rw [hr _ (List.getElem_mem hlt) d hd] at this
    cases this
  · split at h
    · rename_i hg
      exact (sure_tru ha g.2).1 (of_decide_eq_true (List.all_eq_true.mp hg c hc))
    · split at h <;> cases h
theorem rows_two {κ : KV2} {rows : List Row} (hz : rows.findIdx? (zeroIn κ) = none) (hw : wants κ rows = none) : ∀ r ∈ rows, ∀ c ∈ r.1, sure κ c r.2 = 2 := fun r hr c hc => by
  have h1 : zeroIn κ r = false := by
    have := List.findIdx?_eq_none_iff.mp hz r hr
    simpa using this
  have h2 := (foldR_none hw).2 r hr c hc
  have h3 := List.any_eq_false.mp h1 c hc
  have h4 : ¬ sure κ c r.2 = 0 := by simpa using h3
  have h5 := sure_le κ c r.2
  omega
theorem looked_false {κ : KV2} {rows : List Row} {g : Row} (h : looked κ rows g = (none, none)) : ¬ EntR κ rows g := by
  intro hE
  unfold looked at h
  split at h
  · cases h
  · rename_i hz
    split at h
    · cases h
    · rename_i hg
      have hgs : ∃ c ∈ g.1, sure κ c g.2 ≠ 2 := by
        have h1 : goalSure κ g = false := by simpa using hg
        obtain ⟨c, hc, h2⟩ := List.all_eq_false.mp h1
        exact ⟨c, hc, by simpa using h2⟩
      have fin : wants κ rows = none → (∃ c ∈ g.1, sure κ c g.2 = 0) → False := fun hw ⟨c, hc, h0⟩ => by
        have := hE (valK κ) (ag_val κ) (fun r hr d hd => (sure_tru (ag_val κ) r.2).1 (rows_two hz hw r hr d hd)) c hc
        rw [(sure_tru (ag_val κ) g.2).2 h0] at this
        cases this
      split at h
      · rename_i hw
        have h3 : firstOpen κ g = none := (Prod.mk.inj h).2
        unfold firstOpen at h3
        split at h3
        · rename_i hf
          obtain ⟨c, hc, h2⟩ := hgs
          have h4 := List.filter_eq_nil_iff.mp hf c hc
          have h5 : ¬ sure κ c g.2 = 1 := by simpa using h4
          have h6 := sure_le κ c g.2
          exact fin hw.1 ⟨c, hc, by omega⟩
        · rename_i c cs hf
          have hm : c ∈ g.1.filter fun c => decide (sure κ c g.2 = 1) := by rw [hf]; exact .head _
          obtain ⟨k, hk⟩ := openR_some (of_decide_eq_true (List.mem_filter.mp hm).2)
          rw [hk] at h3; cases h3
      · rename_i hw
        have h3 : wants κ rows = none := (Prod.mk.inj h).2
        have h4 : goalOpen κ g = false := by
          cases e : goalOpen κ g with
          | false => rfl
          | true => exact absurd ⟨h3, e⟩ hw
        unfold goalOpen at h4
        have h5 : (g.1.any fun c => decide (sure κ c g.2 = 0)) = true := by simpa using h4
        obtain ⟨c, hc, h6⟩ := List.any_eq_true.mp h5
        exact fin h3 ⟨c, hc, of_decide_eq_true h6⟩
theorem fnd_iff {rows : List Row} {g : Row} : ∀ {n : Nat} {κ : KV2}, Fuel rows g n κ → (fnd rows g n κ = true ↔ EntR κ rows g)
  | 0, κ, h => h.elim
  | n + 1, κ, h => by
    have e : fnd rows g (n + 1) κ = (match looked κ rows g with | (some _, _) => true | (none, none) => false | (none, some k) => fnd rows g n (κ ++ [(k, false)]) && fnd rows g n (κ ++ [(k, true)])) := rfl
    rw [e]
    cases hl : looked κ rows g with
    | mk a b =>
      cases a with
      | some m => exact ⟨fun _ => looked_true hl, fun _ => rfl⟩
      | none =>
        cases b with
        | none => exact ⟨fun z => (by cases z), fun z => absurd z (looked_false hl)⟩
        | some k =>
          obtain ⟨f1, f2⟩ := h k hl
          have i1 := fnd_iff f1
          have i2 := fnd_iff f2
          have hk : κ.lookup k = none := (looked_new hl).1
          show (fnd rows g n (κ ++ [(k, false)]) && fnd rows g n (κ ++ [(k, true)])) = true ↔ _
          rw [Bool.and_eq_true_iff, i1, i2]
          refine ⟨fun ⟨z1, z2⟩ v ha hr => ?_, fun z => ⟨fun v ha hr => z v (ag_ext ha) hr, fun v ha hr => z v (ag_ext ha) hr⟩⟩
          have ha' := ag_add hk ha
          cases hv : v k with
          | false => rw [hv] at ha'; exact z1 v ha' hr
          | true => rw [hv] at ha'; exact z2 v ha' hr
end Tk
namespace Tk
open PySem PySem.Spec PyProof.Rows L2
/-! ### choices, sizes, keys -/
def Fits (sa : List (Str × List Str)) : List (Str × Str) → Ch → Prop
  | [], [] => True
  | v :: vs, p :: c => (p.1 = v.1 ∧ p.2 ∈ atS sa v.2) ∧ Fits sa vs c
  | _, _ => False
theorem fold_mem {sa : List (Str × List Str)} : ∀ {vs : List (Str × Str)} {F : List Ch} {c : Ch}, c ∈ vs.foldl (chStep sa) F ↔ ∃ c0 ∈ F, ∃ c1, Fits sa vs c1 ∧ c = c0 ++ c1
  | [], F, c => by
    refine ⟨fun h => ⟨c, h, [], trivial, by rw [List.append_nil]⟩, fun ⟨c0, h0, c1, h1, e⟩ => ?_⟩
    cases c1 with
    | nil => rw [e, List.append_nil]; exact h0
    | cons p c1 => exact h1.elim
  | v :: vs, F, c => by
    rw [List.foldl_cons, fold_mem]
    constructor
    · rintro ⟨c0, h0, c1, h1, e⟩
      obtain ⟨d, hd, h2⟩ := List.mem_flatMap.mp h0
      obtain ⟨a, ha, e2⟩ := List.mem_map.mp h2
      refine ⟨d, hd, (v.1, a) :: c1, ⟨⟨rfl, ha⟩, h1⟩, ?_⟩
      rw [e, ← e2, List.append_assoc] <;> rfl
    · rintro ⟨c0, h0, c1, h1, e⟩
      cases c1 with
      | nil => exact h1.elim
      | cons p c1 =>
        obtain ⟨⟨e1, e2⟩, h1⟩ := h1
        refine ⟨c0 ++ [p], List.mem_flatMap.mpr ⟨c0, h0, List.mem_map.mpr ⟨p.2, e2, by rw [← e1]⟩⟩, c1, h1, ?_⟩
        rw [e, List.append_assoc] <;> rfl
theorem chS_mem {sa : List (Str × List Str)} {vs : List (Str × Str)} {c : Ch} : c ∈ chS sa vs ↔ Fits sa vs c := by
  unfold chS
  rw [fold_mem]
  constructor
  · rintro ⟨c0, h0, c1, h1, e⟩
    have e0 : c0 = [] := by simpa using h0
    rw [e, e0, List.nil_append]; exact h1
  · exact fun h => ⟨[], by simp, c, h, rfl⟩
theorem fold_len {sa : List (Str × List Str)} {m : Nat} (hm : ∀ s, (atS sa s).length ≤ m) : ∀ {vs : List (Str × Str)} {F : List Ch}, (vs.foldl (chStep sa) F).length ≤ F.length * m ^ vs.length
  | [], F => by show F.length ≤ F.length * 1; omega
  | v :: vs, F => by
    have h := fold_len (vs := vs) (F := chStep sa F v) hm
    rw [List.foldl_cons]
    have h2 : (chStep sa F v).length ≤ F.length * m := by
      unfold chStep fm2
      rw [List.length_flatMap]
      have : ∀ G : List Ch, (G.map fun c => ((atS sa v.2).map fun a => c ++ [(v.1, a)]).length).sum ≤ G.length * m := fun G => by
        induction G with
        | nil => exact Nat.zero_le _
        | cons g G ih =>
          rw [List.map_cons, List.sum_cons, List.length_map, List.length_cons, Nat.succ_mul]
          have := hm v.2
          omega
      exact this F
    rw [List.length_cons, Nat.pow_succ, Nat.mul_comm (m ^ vs.length) m, ← Nat.mul_assoc]
    exact Nat.le_trans h (Nat.mul_le_mul_right _ h2)
theorem chS_le {sa : List (Str × List Str)} {vs : List (Str × Str)} (hm : ∀ s, (atS sa s).length ≤ 2) (hv : vs.length ≤ 2) : (chS sa vs).length ≤ 4 := by
  have h := fold_len hm (vs := vs) (F := [[]])
  have h2 : (2 : Nat) ^ vs.length ≤ 2 ^ 2 := Nat.pow_le_pow_right (by decide) hv
  have h3 : ([[]] : List Ch).length = 1 := rfl
  rw [h3, Nat.one_mul] at h
  exact Nat.le_trans h h2
def FitN : List Nat → List Nat → Prop
  | [], [] => True
  | m :: ms, n :: ns => n ≤ m ∧ FitN ms ns
  | _, _ => False
theorem foldN_mem : ∀ {ms : List Nat} {F : List (List Nat)} {c : List Nat}, c ∈ ms.foldl szStep F ↔ ∃ c0 ∈ F, ∃ c1, FitN ms c1 ∧ c = c0 ++ c1
  | [], F, c => by
    refine ⟨fun h => ⟨c, h, [], trivial, by rw [List.append_nil]⟩, fun ⟨c0, h0, c1, h1, e⟩ => ?_⟩
    cases c1 with
    | nil => rw [e, List.append_nil]; exact h0
    | cons p c1 => exact h1.elim
  | v :: vs, F, c => by
    rw [List.foldl_cons, foldN_mem]
    constructor
    · rintro ⟨c0, h0, c1, h1, e⟩
      obtain ⟨d, hd, h2⟩ := List.mem_flatMap.mp h0
      obtain ⟨a, ha, e2⟩ := List.mem_map.mp h2
      refine ⟨d, hd, a :: c1, ⟨Nat.le_of_lt_succ (List.mem_range.mp ha), h1⟩, ?_⟩
      rw [e, ← e2, List.append_assoc] <;> rfl
    · rintro ⟨c0, h0, c1, h1, e⟩
      cases c1 with
      | nil => exact h1.elim
      | cons p c1 =>
        obtain ⟨e1, h1⟩ := h1
        refine ⟨c0 ++ [p], List.mem_flatMap.mpr ⟨c0, h0, List.mem_map.mpr ⟨p, List.mem_range.mpr (Nat.lt_succ_of_le e1), rfl⟩⟩, c1, h1, ?_⟩
        rw [e, List.append_assoc] <;> rfl
theorem allSz_mem {ms ns : List Nat} : ns ∈ allSz ms ↔ FitN ms ns := by
  unfold allSz
  rw [foldN_mem]
  constructor
  · rintro ⟨c0, h0, c1, h1, e⟩
    have e0 : c0 = [] := by simpa using h0
    rw [e, e0, List.nil_append]; exact h1
  · exact fun h => ⟨[], by simp, ns, h, rfl⟩
theorem foldN_len {m : Nat} : ∀ {ms : List Nat} {F : List (List Nat)}, (∀ n ∈ ms, n ≤ m) → (ms.foldl szStep F).length ≤ F.length * (m + 1) ^ ms.length
  | [], F, _ => by show F.length ≤ F.length * 1; omega
  | v :: vs, F, hm => by
    have h := foldN_len (ms := vs) (F := szStep F v) fun n hn => hm n (List.mem_cons_of_mem _ hn)
    rw [List.foldl_cons]
    have hv := hm v (by simp)
    have h2 : (szStep F v).length ≤ F.length * (m + 1) := by
      unfold szStep fm2
      rw [List.length_flatMap]
      have : ∀ G : List (List Nat), (G.map fun c => ((List.range (v + 1)).map fun a => c ++ [a]).length).sum ≤ G.length * (m + 1) := fun G => by
        induction G with
        | nil => exact Nat.zero_le _
        | cons g G ih =>
          rw [List.map_cons, List.sum_cons, List.length_map, List.length_range, List.length_cons, Nat.succ_mul]
          omega
      exact this F
    rw [List.length_cons, Nat.pow_succ, Nat.mul_comm ((m + 1) ^ vs.length) (m + 1), ← Nat.mul_assoc]
    exact Nat.le_trans h (Nat.mul_le_mul_right _ h2)
theorem allSz_le {ms : List Nat} (hm : ∀ n ∈ ms, n ≤ 2) (hl : ms.length ≤ 2) : (allSz ms).length ≤ 9 := by
  have h := foldN_len hm (F := [[]])
  have h2 : (3 : Nat) ^ ms.length ≤ 3 ^ 2 := Nat.pow_le_pow_right (by decide) hl
  have h3 : ([[]] : List (List Nat)).length = 1 := rfl
  rw [h3, Nat.one_mul] at h
  exact Nat.le_trans h h2
theorem fitN_le {m : Nat} : ∀ {ms ns : List Nat}, FitN ms ns → (∀ n ∈ ms, n ≤ m) → ∀ n ∈ ns, n ≤ m
  | [], [], _, _, n, hn => by cases hn
  | [], _ :: _, h, _, _, _ => h.elim
  | _ :: _, [], h, _, _, _ => h.elim
  | a :: ms, b :: ns, h, hm, n, hn => by
    obtain ⟨h1, h2⟩ := h
    rcases List.mem_cons.mp hn with e | hn
    · rw [e]; exact Nat.le_trans h1 (hm a (by simp))
    · exact fitN_le h2 (fun x hx => hm x (List.mem_cons_of_mem _ hx)) n hn
theorem fitN_len : ∀ {ms ns : List Nat}, FitN ms ns → ns.length = ms.length
  | [], [], _ => rfl
  | [], _ :: _, h => h.elim
  | _ :: _, [], h => h.elim
  | a :: ms, b :: ns, h => by rw [List.length_cons, List.length_cons, fitN_len h.2]
/-! vars and what a choice gives them -/
theorem fits_keys {sa : List (Str × List Str)} : ∀ {vs : List (Str × Str)} {c : Ch}, Fits sa vs c → c.map (·.1) = vs.map (·.1)
  | [], [], _ => rfl
  | [], _ :: _, h => h.elim
  | _ :: _, [], h => h.elim
  | v :: vs, p :: c, h => by rw [List.map_cons, List.map_cons, fits_keys h.2, h.1.1]
theorem fits_look {sa : List (Str × List Str)} {x s : Str} : ∀ {vs : List (Str × Str)} {c : Ch}, Fits sa vs c → vs.lookup x = some s → ∃ a, c.lookup x = some a ∧ a ∈ atS sa s
  | [], _, _, h => by simp at h
  | _ :: _, [], h, _ => h.elim
  | v :: vs, p :: c, h, hx => by
    obtain ⟨v1, v2⟩ := v
    obtain ⟨p1, p2⟩ := p
    obtain ⟨⟨e1, e2⟩, h2⟩ := h
    have e1 : p1 = v1 := e1
    subst e1
    by_cases hk : x = p1
    · subst hk
      rw [List.lookup_cons, beq_self_eq_true] at hx ⊢
      have e3 : v2 = s := by simpa using hx
      rw [← e3]
      exact ⟨p2, rfl, e2⟩
    · rw [List.lookup_cons, beq_eq_false_iff_ne.mpr hk] at hx ⊢
      exact fits_look h2 hx
theorem fits_vl {sa : List (Str × List Str)} {x s : Str} {vs : List (Str × Str)} {c : Ch} (h : Fits sa vs c) (hx : vs.lookup x = some s) : vl c x ∈ atS sa s := by
  obtain ⟨a, e, ha⟩ := fits_look h hx
  unfold vl
  rw [e]
  exact ha
theorem body_bdc {sa : List (Str × List Str)} {S : Sch} {vs : List (Str × Str)} {c : Ch} (h : Fits sa vs c) : ∀ {b : Bd}, b.Ok S vs → BdC c b
  | .tie a b t, hb => by
    obtain ⟨h1, h2, cs, hcs, hm⟩ := hb
    refine ⟨?_, fun v hv => ?_⟩
    · show (a :: b.toList).all isName = true
      rw [List.all_cons, h1, Bool.true_and]
      cases b with
      | none => rfl
      | some b => show (isName b && true) = true; rw [h2 b rfl] <;> rfl
    · have hv : v ∈ a :: b.toList := hv
      have h3 : vs.lookup v ∈ cs.map some := by rw [← hm]; exact List.mem_map_of_mem hv
      obtain ⟨s, _, e⟩ := List.mem_map.mp h3
      obtain ⟨x, ex, _⟩ := fits_look h e.symm
      rw [ex] <;> rfl
  | .same a b s, hb => by
    obtain ⟨h1, h2, _, h4, h5⟩ := hb
    refine ⟨?_, fun v hv => ?_⟩
    · show (isName a && (isName b && true)) = true
      rw [h1, h2] <;> rfl
    · have hv : v ∈ [a, b] := hv
      have hv : v = a ∨ v = b := by simpa using hv
      rcases hv with e | e
      · rw [e]
        obtain ⟨x, ex, _⟩ := fits_look h h4
        rw [ex] <;> rfl
      · rw [e]
        obtain ⟨x, ex, _⟩ := fits_look h h5
        rw [ex] <;> rfl
  | .neg f, hb => body_bdc h (b := f) hb
  | .bin _ f g, hb => ⟨body_bdc h (b := f) hb.1, body_bdc h (b := g) hb.2⟩
/-! keys that may be asked for -/
def rowsOf (sa : List (Str × List Str)) : List Str → List (List Str)
  | [] => [[]]
  | s :: cs => (atS sa s).flatMap fun a => (rowsOf sa cs).map fun r => a :: r
theorem rowsOf_len {sa : List (Str × List Str)} (hm : ∀ s, (atS sa s).length ≤ 2) : ∀ cs : List Str, (rowsOf sa cs).length ≤ 2 ^ cs.length
  | [] => Nat.le_refl _
  | s :: cs => by
    have ih := rowsOf_len hm cs
    unfold rowsOf
    rw [List.length_flatMap]
    have : ∀ G : List Str, (G.map fun a => ((rowsOf sa cs).map fun r => a :: r).length).sum ≤ G.length * 2 ^ cs.length := fun G => by
      induction G with
      | nil => exact Nat.zero_le _
      | cons g G ihh =>
        rw [List.map_cons, List.sum_cons, List.length_map, List.length_cons, Nat.succ_mul]
        omega
    refine Nat.le_trans (this _) ?_
    rw [List.length_cons, Nat.pow_succ, Nat.mul_comm (2 ^ cs.length) 2]
    exact Nat.mul_le_mul_right _ (hm s)
theorem rowsOf_mem {sa : List (Str × List Str)} {vs : List (Str × Str)} {c : Ch} (h : Fits sa vs c) : ∀ {xs cs : List Str}, xs.map (fun v => vs.lookup v) = cs.map some → xs.map (vl c) ∈ rowsOf sa cs
  | [], [], _ => by show [] ∈ [[]]; simp
  | [], _ :: _, e => by simp at e
  | _ :: _, [], e => by simp at e
  | x :: xs, s :: cs, e => by
    rw [List.map_cons, List.map_cons] at e
    injection e with e1 e2
    exact List.mem_flatMap.mpr ⟨_, fits_vl h e1, List.mem_map.mpr ⟨_, rowsOf_mem h e2, rfl⟩⟩
def univ (S : Sch) (sa : List (Str × List Str)) : List Ky := S.ties.flatMap fun t => (rowsOf sa t.2).map fun r => (t.1, r)
theorem univ_len {S : Sch} {sa : List (Str × List Str)} (hS : SmallS S) (hm : ∀ s, (atS sa s).length ≤ 2) : (univ S sa).length ≤ 8 := by
  unfold univ
  rw [List.length_flatMap]
  have : ∀ G : List (Str × List Str), (∀ t ∈ G, t.2.length ≤ 2) → (G.map fun t => ((rowsOf sa t.2).map fun r => (t.1, r)).length).sum ≤ G.length * 4 := fun G => by
    induction G with
    | nil => exact fun _ => Nat.zero_le _
    | cons g G ih =>
      intro hG
      have h1 := ih fun t ht => hG t (List.mem_cons_of_mem _ ht)
      have h2 := rowsOf_len hm g.2
      have h3 : (2 : Nat) ^ g.2.length ≤ 2 ^ 2 := Nat.pow_le_pow_right (by decide) (hG g (by simp))
      rw [List.map_cons, List.sum_cons, List.length_map, List.length_cons, Nat.succ_mul]
      omega
  have h := this S.ties hS.a2
  have := hS.t2
  omega
theorem openR_univ {sa : List (Str × List Str)} {S : Sch} {vs : List (Str × Str)} {c : Ch} {κ : KV2} {k : Ky} (h : Fits sa vs c) : ∀ {b : Bd}, b.Ok S vs → openR κ c b = some k → k ∈ univ S sa
  | .tie a b t, hb, e => by
    unfold openR at e
    split at e
    · cases e
    · have e1 := Option.some.inj e
      subst e1
      obtain ⟨_, _, cs, hcs, hm⟩ := hb
      exact List.mem_flatMap.mpr ⟨(t, cs), hcs, List.mem_map.mpr ⟨_, rowsOf_mem h hm, rfl⟩⟩
  | .same a b s, hb, e => by cases e
  | .neg f, hb, e => openR_univ h (b := f) hb e
  | .bin o f g, hb, e => by
    have e' : (match openR κ c f with | some k => some k | none => openR κ c g) = some k := e
    cases hf : openR κ c f with
    | some k2 =>
      rw [hf] at e'
      have := Option.some.inj e'
      subst this
      exact openR_univ h (b := f) hb.1 hf
    | none =>
      rw [hf] at e'
      exact openR_univ h (b := g) hb.2 e'
theorem foldC_from {κ : KV2} {b : Bd} {k : Ky} {φ : Ky → Prop} : ∀ {cs : List Ch} {acc : Option Ky}, (∀ c ∈ cs, ∀ k, openR κ c b = some k → φ k) → (∀ k, acc = some k → φ k) → cs.foldl (stepC κ b) acc = some k → φ k
  | [], acc, _, ha, h => ha k h
  | c :: cs, acc, hc, ha, h => by
    refine foldC_from (cs := cs) (acc := stepC κ b acc c) (fun d hd => hc d (List.mem_cons_of_mem _ hd)) (fun k2 e => ?_) h
    unfold stepC at e
    split at e
    · exact hc c (by simp) k2 e
    · exact ha k2 e
theorem foldR_from {κ : KV2} {k : Ky} {φ : Ky → Prop} : ∀ {rows : List Row} {acc : Option Ky}, (∀ r ∈ rows, ∀ c ∈ r.1, ∀ k, openR κ c r.2 = some k → φ k) → (∀ k, acc = some k → φ k) → rows.foldl (fun acc r => r.1.foldl (stepC κ r.2) acc) acc = some k → φ k
  | [], acc, _, ha, h => ha k h
  | r :: rows, acc, hr, ha, h => foldR_from (rows := rows) (acc := r.1.foldl (stepC κ r.2) acc) (fun d hd => hr d (List.mem_cons_of_mem _ hd)) (fun k2 e => foldC_from (fun c hc => hr r (by simp) c hc) ha e) h
theorem looked_from {κ : KV2} {rows : List Row} {g : Row} {k : Ky} {o : Option Nat} {φ : Ky → Prop} (hr : ∀ r ∈ rows, ∀ c ∈ r.1, ∀ k, openR κ c r.2 = some k → φ k) (hg : ∀ c ∈ g.1, ∀ k, openR κ c g.2 = some k → φ k) (h : looked κ rows g = (o, some k)) : φ k := by
  unfold looked at h
  split at h
  · cases h
  · split at h
    · cases h
    · split at h
      · have h3 : firstOpen κ g = some k := (Prod.mk.inj h).2
        unfold firstOpen at h3
        split at h3
        · cases h3
        · rename_i c cs hf
          have hm : c ∈ g.1.filter fun c => decide (sure κ c g.2 = 1) := by rw [hf]; exact .head _
          exact hg c (List.mem_filter.mp hm).1 k h3
      · have h3 : wants κ rows = some k := (Prod.mk.inj h).2
        exact foldR_from hr (fun k e => by cases e) h3
def unk (U : List Ky) (κ : KV2) : Nat := (U.filter fun k => (κ.lookup k).isNone).length
theorem unk_less {U : List Ky} {κ : KV2} {k : Ky} {b : Bool} (hk : k ∈ U) (hn : κ.lookup k = none) : unk U (κ ++ [(k, b)]) < unk U κ := by
  unfold unk
  have e : (U.filter fun x => ((κ ++ [(k, b)]).lookup x).isNone) = (U.filter fun x => (κ.lookup x).isNone).filter fun x => ((κ ++ [(k, b)]).lookup x).isNone := by
    rw [List.filter_filter]
    refine List.filter_congr fun x _ => ?_
    rw [List.lookup_append]
    cases κ.lookup x <;> simp
  rw [e]
  refine List.length_filter_lt_length_iff_exists.mpr ⟨k, List.mem_filter.mpr ⟨hk, by rw [hn] <;> rfl⟩, ?_⟩
  rw [List.lookup_append, hn, List.lookup_cons, beq_self_eq_true]
  simp
theorem fuel_ok {rows : List Row} {g : Row} {U : List Ky} (hU : ∀ κ k, looked κ rows g = (none, some k) → k ∈ U) : ∀ {n : Nat} {κ : KV2}, unk U κ < n → Fuel rows g n κ
  | 0, κ, h => absurd h (Nat.not_lt_zero _)
  | n + 1, κ, h => fun k hl => by
    have h1 := hU κ k hl
    have h2 := (looked_new hl).1
    have h3 := unk_less (b := false) h1 h2
    have h4 := unk_less (b := true) h1 h2
    exact ⟨fuel_ok hU (by omega), fuel_ok hU (by omega)⟩
end Tk
namespace Tk
open PySem PySem.Spec PyProof.Rows L2
/-! ### what is asked is small, and what it comes to -/
theorem lookup_mem {α : Type} {k : Str} {v : α} : ∀ {l : List (Str × α)}, l.lookup k = some v → (k, v) ∈ l
  | [], h => by simp at h
  | (a, b) :: l, h => by
    by_cases e : k = a
    · subst e
      rw [List.lookup_cons, beq_self_eq_true] at h
      have e2 : b = v := by simpa using h
      rw [e2]; exact .head _
    · rw [List.lookup_cons, beq_eq_false_iff_ne.mpr e] at h
      exact .tail _ (lookup_mem h)
abbrev saOf (S : Sch) (ns : List Nat) : List (Str × List Str) := S.sorts.zip (stdAs ns)
theorem abc_len : ("abc" : Str).cps.toList.length = 3 := by decide +kernel
theorem std_len (ns : List Nat) : (stdAs ns).length = min 3 ns.length := by
  unfold stdAs
  rw [List.length_map, List.length_zip, abc_len]
theorem stdA_len (p : Nat × Nat) : (stdA p).length ≤ p.2 := by
  unfold stdA
  rw [List.length_map, List.length_take]
  omega
theorem at_small {S : Sch} {ns : List Nat} {m : Nat} (h : ∀ n ∈ ns, n ≤ m) (s : Str) : (atS (saOf S ns) s).length ≤ m := by
  unfold atS
  cases e : (saOf S ns).lookup s with
  | none => exact Nat.zero_le _
  | some A =>
    have h1 := (List.of_mem_zip (lookup_mem e)).2
    obtain ⟨p, hp, rfl⟩ := List.mem_map.mp h1
    obtain ⟨a, b⟩ := p
    exact Nat.le_trans (stdA_len _) (h b (List.of_mem_zip hp).2)
theorem reach_two {S : Sch} {g : Fl} (hg : g.vars.length ≤ 2) : ∀ n ∈ reach S g, n ≤ 2 := fun n hn => by
  obtain ⟨s, _, rfl⟩ := List.mem_map.mp hn
  have h1 : g.srts.count s ≤ g.srts.length := List.count_le_length
  have h2 : g.srts.length = g.vars.length := List.length_map ..
  omega
theorem row_ok {S : Sch} {ns : List Nat} {f : Fl} (hn : ∀ n ∈ ns, n ≤ 2) (hf : FlM S f) : RowOk (mkRow S (stdAs ns) f) := by
  refine ⟨fun c hc => body_bdc (chS_mem.mp hc) hf.2.1, Nat.lt_succ_of_le hf.2.2, ?_⟩
  exact Nat.le_trans (chS_le (fun s => at_small hn s) hf.1.k2) (by decide)
theorem run_ok {S : Sch} {gs : List Fl} {g : Fl} (h : Ask S gs g) {ns : List Nat} (hf : FitN (reach S g) ns) : RunOk S gs g ns := by
  have hn : ∀ n ∈ ns, n ≤ 2 := fitN_le hf (reach_two h.g.1.k2)
  have hl : ns.length = S.sorts.length := by rw [fitN_len hf]; exact List.length_map ..
  have hs2 := h.s.s2
  have hfew := h.few
  have ch : ∀ f, FlM S f → ∀ i, (chS (S.sorts.zip (stdAs ns)) (f.vars.take i)).length ≤ 1000 := fun f hf i => by
    refine Nat.le_trans (chS_le (fun s => at_small hn s) ?_) (by decide)
    rw [List.length_take]
    have := hf.1.k2
    omega
  refine ⟨⟨h.s.g, ?_, fun f hf => ⟨(h.al f hf).ok, ch f (h.al f hf)⟩, ⟨h.g.ok, ch g h.g⟩, ?_⟩, fun d => ⟨fun r hr => ?_, ?_, ?_⟩, ?_⟩
  · show (stdAs ns).length = S.sorts.length
    rw [std_len, hl]; omega
  · show gs.length ≤ 1000
    omega
  · have hr : r ∈ gs.map (mkRow S (stdAs ns)) := hr
    obtain ⟨f, hf, rfl⟩ := List.mem_map.mp hr
    exact row_ok hn (h.al f hf)
  · exact row_ok hn h.g
  · show (gs.map (mkRow S (stdAs ns))).length ≤ 1000
    rw [List.length_map]; omega
  · refine fuel_ok (U := univ S (saOf S ns)) (fun κ k hk => looked_from (φ := (· ∈ univ S (saOf S ns))) (fun r hr c hc k e => ?_) (fun c hc k e => ?_) hk) ?_
    · obtain ⟨f, hf, rfl⟩ := List.mem_map.mp hr
      exact openR_univ (chS_mem.mp hc) (h.al f hf).2.1 e
    · exact openR_univ (chS_mem.mp hc) h.g.2.1 e
    · have := univ_len (sa := saOf S ns) h.s fun s => at_small hn s
      have h2 : unk (univ S (saOf S ns)) [] ≤ (univ S (saOf S ns)).length := List.length_filter_le _ _
      show _ < 13
      omega
theorem ask_ok {S : Sch} {gs : List Fl} {g : Fl} (h : Ask S gs g) : (EnA.mk S gs g).Ok := by
  have hs2 := h.s.s2
  refine ⟨h.s.g, fun f hf => (h.al f hf).ok, h.g.ok, h.few, fun ns hns => run_ok h (allSz_mem.mp hns), fun i => ?_⟩
  refine Nat.le_trans (allSz_le (fun n hn => reach_two h.g.1.k2 n (List.mem_of_mem_take hn)) ?_) (by decide)
  show ((reach S g).take i).length ≤ 2
  rw [List.length_take, reach_len]
  omega
def EntS (S : Sch) (gs : List Fl) (g : Fl) (ns : List Nat) : Prop := ∀ v : Vn, (∀ f ∈ gs, Hold v (mkRow S (stdAs ns) f)) → Hold v (mkRow S (stdAs ns) g)
theorem shown_iff {S : Sch} {gs : List Fl} {g : Fl} (h : Ask S gs g) : shown S gs g = true ↔ ∀ ns, FitN (reach S g) ns → EntS S gs g ns := by
  unfold shown
  rw [List.all_eq_true]
  have key : ∀ ns, FitN (reach S g) ns → (runs S gs g ns = true ↔ EntS S gs g ns) := fun ns hf => by
    unfold runs
    rw [fnd_iff (run_ok h hf).u]
    refine ⟨fun z v hv => z v (fun k b e => by simp at e) fun r hr => ?_, fun z v _ hv => z v fun f hf => hv _ (List.mem_map_of_mem hf)⟩
    obtain ⟨f, hf, rfl⟩ := List.mem_map.mp hr
    exact hv f hf
  exact ⟨fun z ns hf => (key ns hf).mp (z ns (allSz_mem.mpr hf)), fun z ns hm => (key ns (allSz_mem.mp hm)).mpr (z ns (allSz_mem.mp hm))⟩
theorem shown_mono {S : Sch} {gs hs : List Fl} {g : Fl} (h : Ask S gs g) (h' : Ask S hs g) (hm : ∀ f ∈ gs, f ∈ hs) (hs' : shown S gs g = true) : shown S hs g = true :=
  (shown_iff h').mpr fun ns hf v hv => (shown_iff h).mp hs' ns hf v fun f hfm => hv f (hm f hfm)
theorem shown_mem {S : Sch} {gs : List Fl} {g : Fl} (h : Ask S gs g) (hm : g ∈ gs) : shown S gs g = true := (shown_iff h).mpr fun ns hf v hv => hv g hm
theorem shown_both {S : Sch} {gs : List Fl} {vs : List (Str × Str)} {b : Bd} (h : Ask S gs ⟨vs, b⟩) (hb : b.deep ≤ 7) : (shown S gs ⟨vs, b⟩ && shown S gs ⟨vs, .neg b⟩) = shown S gs ⟨vs, .bin .and b (.neg b)⟩ := by
  have h1 : Ask S gs ⟨vs, .neg b⟩ := ⟨h.s, h.al, ⟨h.g.1, h.g.2.1, by show b.deep + 1 ≤ 9; omega⟩, h.few⟩
  have h2 : Ask S gs ⟨vs, .bin .and b (.neg b)⟩ := ⟨h.s, h.al, ⟨h.g.1, ⟨h.g.2.1, h.g.2.1⟩, by show max b.deep (b.deep + 1) + 1 ≤ 9; omega⟩, h.few⟩
  rw [Bool.eq_iff_iff, Bool.and_eq_true_iff, shown_iff h, shown_iff h1, shown_iff h2]
  constructor
  · rintro ⟨z1, z2⟩ ns hf v hv c hc
    have e1 : tru v c b = true := z1 ns hf v hv c hc
    have e2 : (!tru v c b) = true := z2 ns hf v hv c hc
    show (tru v c b && !tru v c b) = true
    rw [e2, e1] <;> rfl
  · intro z
    refine ⟨fun ns hf v hv c hc => ?_, fun ns hf v hv c hc => ?_⟩
    · have e : (tru v c b && !tru v c b) = true := z ns hf v hv c hc
      exact (Bool.and_eq_true_iff.mp e).1
    · have e : (tru v c b && !tru v c b) = true := z ns hf v hv c hc
      exact (Bool.and_eq_true_iff.mp e).2
end Tk
namespace Tk
open PySem PySem.Spec PyProof.Rows L2
/-! ### the cut: a failing choice uses few atoms, and what is given holds of these -/
def ddp : List Str → List Str
  | [] => []
  | x :: xs => if x ∈ xs then ddp xs else x :: ddp xs
theorem ddp_mem {a : Str} : ∀ {xs : List Str}, a ∈ ddp xs ↔ a ∈ xs
  | [] => Iff.rfl
  | x :: xs => by
    have ih := ddp_mem (a := a) (xs := xs)
    unfold ddp
    by_cases h : x ∈ xs
    · rw [if_pos h, ih, List.mem_cons]
      refine ⟨.inr, fun z => z.elim (fun e => by rw [e]; exact h) id⟩
    · rw [if_neg h, List.mem_cons, List.mem_cons, ih]
theorem ddp_nd : ∀ {xs : List Str}, (ddp xs).Nodup
  | [] => .nil
  | x :: xs => by
    unfold ddp
    by_cases h : x ∈ xs
    · rw [if_pos h]; exact ddp_nd
    · rw [if_neg h]; exact List.nodup_cons.mpr ⟨fun z => h (ddp_mem.mp z), ddp_nd⟩
theorem ddp_len : ∀ {xs : List Str}, (ddp xs).length ≤ xs.length
  | [] => Nat.le_refl _
  | x :: xs => by
    have ih := ddp_len (xs := xs)
    unfold ddp
    by_cases h : x ∈ xs
    · rw [if_pos h, List.length_cons]; omega
    · rw [if_neg h, List.length_cons, List.length_cons]; omega
/-! pairs of two lists -/
theorem zl_mem {a : Str} : ∀ {A B : List Str}, A.length = B.length → a ∈ A → ∃ b, (A.zip B).lookup a = some b ∧ b ∈ B
  | [], _, _, h => by cases h
  | _ :: _, [], e, _ => by simp at e
  | x :: A, y :: B, e, h => by
    by_cases hx : a = x
    · subst hx
      exact ⟨y, by rw [List.zip_cons_cons, List.lookup_cons, beq_self_eq_true], .head _⟩
    · obtain ⟨b, h1, h2⟩ := zl_mem (A := A) (B := B) (by simpa using e) ((List.mem_cons.mp h).resolve_left hx)
      exact ⟨b, by rw [List.zip_cons_cons, List.lookup_cons, beq_eq_false_iff_ne.mpr hx]; exact h1, .tail _ h2⟩
theorem zl_surj {b : Str} : ∀ {A B : List Str}, A.Nodup → A.length = B.length → b ∈ B → ∃ a ∈ A, (A.zip B).lookup a = some b
  | _, [], _, _, h => by cases h
  | [], _ :: _, _, e, _ => by simp at e
  | x :: A, y :: B, hn, e, h => by
    obtain ⟨n1, n2⟩ := List.nodup_cons.mp hn
    rcases List.mem_cons.mp h with hb | hb
    · subst hb
      exact ⟨x, .head _, by rw [List.zip_cons_cons, List.lookup_cons, beq_self_eq_true]⟩
    · obtain ⟨a, h1, h2⟩ := zl_surj (A := A) (B := B) n2 (by simpa using e) hb
      have hx : a ≠ x := fun z => n1 (by rw [← z]; exact h1)
      exact ⟨a, .tail _ h1, by rw [List.zip_cons_cons, List.lookup_cons, beq_eq_false_iff_ne.mpr hx]; exact h2⟩
theorem zl_inj {a a' b : Str} : ∀ {A B : List Str}, B.Nodup → (A.zip B).lookup a = some b → (A.zip B).lookup a' = some b → a = a'
  | [], B, _, h, _ => by simp at h
  | _ :: _, [], _, h, _ => by simp at h
  | x :: A, y :: B, hn, h, h' => by
    obtain ⟨n1, n2⟩ := List.nodup_cons.mp hn
    rw [List.zip_cons_cons, List.lookup_cons] at h h'
    by_cases hx : a = x
    · subst hx
      rw [beq_self_eq_true] at h
      have hb : y = b := by simpa using h
      by_cases hx' : a' = a
      · exact hx'.symm
      · rw [beq_eq_false_iff_ne.mpr hx'] at h'
        exact absurd (by rw [hb]; exact (List.of_mem_zip (lookup_mem h')).2) n1
    · rw [beq_eq_false_iff_ne.mpr hx] at h
      by_cases hx' : a' = x
      · subst hx'
        rw [beq_self_eq_true] at h'
        have hb : y = b := by simpa using h'
        exact absurd (by rw [hb]; exact (List.of_mem_zip (lookup_mem h)).2) n1
      · rw [beq_eq_false_iff_ne.mpr hx'] at h'
        exact zl_inj n2 h h'
/-! standard atoms of sorts -/
theorem at_std {h : Str → Nat} {s : Str} : ∀ {sorts : List Str} {L : List Nat}, s ∈ sorts → sorts.length ≤ L.length → ∃ l, (sorts.zip ((L.zip (sorts.map h)).map stdA)).lookup s = some (stdA (l, h s))
  | [], _, hs, _ => by cases hs
  | x :: sorts, [], _, hl => by simp at hl
  | x :: sorts, l :: L, hs, hl => by
    rw [List.map_cons, List.zip_cons_cons, List.map_cons, List.zip_cons_cons, List.lookup_cons]
    by_cases hx : s = x
    · subst hx
      rw [beq_self_eq_true]
      exact ⟨l, rfl⟩
    · rw [beq_eq_false_iff_ne.mpr hx]
      exact at_std (sorts := sorts) ((List.mem_cons.mp hs).resolve_left hx) (by simpa using hl)
theorem late_nd : ("abcdefghi" : Str).cps.toList.Nodup := by decide +kernel
theorem late_len : ("abcdefghi" : Str).cps.toList.length = 9 := by decide +kernel
theorem stdA_nd {l n : Nat} : (stdA (l, n)).Nodup := by
  unfold stdA
  refine List.Pairwise.map _ (fun a b h z => h ?_) (late_nd.sublist (List.take_sublist n _))
  have e1 : #[l, a] = #[l, b] := congrArg Str.cps z
  have e2 : [l, a] = [l, b] := by
    have := congrArg Array.toList e1
    exact this
  simpa using e2
theorem stdA_full {l n : Nat} (h : n ≤ 9) : (stdA (l, n)).length = n := by
  unfold stdA
  rw [List.length_map, List.length_take, late_len]
  show min n 9 = n
  omega
/-! a choice taken along -/
abbrev Mp := Str → Str → Str
def mapC (e : Mp) : List (Str × Str) → Ch → Ch
  | v :: vs, p :: c => (p.1, e v.2 p.2) :: mapC e vs c
  | _, _ => []
theorem mapC_fits {e : Mp} {sa sa' : List (Str × List Str)} : ∀ {vs : List (Str × Str)} {c : Ch}, (∀ p ∈ vs, ∀ a ∈ atS sa' p.2, e p.2 a ∈ atS sa p.2) → Fits sa' vs c → Fits sa vs (mapC e vs c)
  | [], [], _, _ => trivial
  | [], _ :: _, _, h => h.elim
  | _ :: _, [], _, h => h.elim
  | v :: vs, p :: c, he, h => ⟨⟨h.1.1, he v (by simp) p.2 h.1.2⟩, mapC_fits (fun q hq => he q (List.mem_cons_of_mem _ hq)) h.2⟩
theorem mapC_look {e : Mp} {sa' : List (Str × List Str)} {x s : Str} : ∀ {vs : List (Str × Str)} {c : Ch}, Fits sa' vs c → vs.lookup x = some s → ∃ a, c.lookup x = some a ∧ (mapC e vs c).lookup x = some (e s a)
  | [], _, _, h => by simp at h
  | _ :: _, [], h, _ => h.elim
  | v :: vs, p :: c, h, hx => by
    obtain ⟨v1, v2⟩ := v
    obtain ⟨p1, p2⟩ := p
    obtain ⟨⟨e1, e2⟩, h2⟩ := h
    have e1 : p1 = v1 := e1
    subst e1
    show ∃ a, ((p1, p2) :: c).lookup x = some a ∧ ((p1, e v2 p2) :: mapC e vs c).lookup x = some (e s a)
    by_cases hk : x = p1
    · subst hk
      rw [List.lookup_cons, beq_self_eq_true] at hx
      have e3 : v2 = s := by simpa using hx
      rw [← e3]
      exact ⟨p2, by rw [List.lookup_cons, beq_self_eq_true], by rw [List.lookup_cons, beq_self_eq_true]⟩
    · rw [List.lookup_cons, beq_eq_false_iff_ne.mpr hk] at hx
      obtain ⟨a, h3, h4⟩ := mapC_look h2 hx
      exact ⟨a, by rw [List.lookup_cons, beq_eq_false_iff_ne.mpr hk]; exact h3, by rw [List.lookup_cons, beq_eq_false_iff_ne.mpr hk]; exact h4⟩
theorem mapC_vl {e : Mp} {sa' : List (Str × List Str)} {x s : Str} {vs : List (Str × Str)} {c : Ch} (h : Fits sa' vs c) (hx : vs.lookup x = some s) : vl (mapC e vs c) x = e s (vl c x) := by
  obtain ⟨a, h1, h2⟩ := mapC_look (e := e) h hx
  unfold vl
  rw [h1, h2] <;> rfl
theorem mapC_row {e : Mp} {sa' : List (Str × List Str)} {vs : List (Str × Str)} {c : Ch} (h : Fits sa' vs c) : ∀ {xs cs : List Str}, xs.map (fun v => vs.lookup v) = cs.map some → xs.map (vl (mapC e vs c)) = List.zipWith e cs (xs.map (vl c))
  | [], [], _ => rfl
  | [], _ :: _, z => by simp at z
  | _ :: _, [], z => by simp at z
  | x :: xs, s :: cs, z => by
    rw [List.map_cons, List.map_cons] at z
    injection z with z1 z2
    rw [List.map_cons, List.map_cons, List.zipWith_cons_cons, mapC_vl h z1, mapC_row h z2]
theorem mapC_back {e : Mp} {sa sa' : List (Str × List Str)} : ∀ {vs : List (Str × Str)} {c : Ch}, Fits sa vs c → (∀ q ∈ vs.zip c, ∃ a ∈ atS sa' q.1.2, e q.1.2 a = q.2.2) → ∃ c', Fits sa' vs c' ∧ mapC e vs c' = c
  | [], [], _, _ => ⟨[], trivial, rfl⟩
  | [], _ :: _, h, _ => h.elim
  | _ :: _, [], h, _ => h.elim
  | v :: vs, p :: c, h, hq => by
    obtain ⟨a, ha, ea⟩ := hq (v, p) (by rw [List.zip_cons_cons]; exact .head _)
    obtain ⟨c', h1, h2⟩ := mapC_back h.2 fun q hm => hq q (by rw [List.zip_cons_cons]; exact .tail _ hm)
    refine ⟨(p.1, a) :: c', ⟨⟨h.1.1, ha⟩, h1⟩, ?_⟩
    show (p.1, e v.2 a) :: mapC e vs c' = p :: c
    rw [h2, ea]
def colsOf (S : Sch) (t : Str) : List Str := (S.ties.lookup t).getD []
def pullV (S : Sch) (e : Mp) (v : Vn) : Vn := fun k => v (k.1, List.zipWith e (colsOf S k.1) k.2)
theorem tru_pull {S : Sch} (hS : S.Good) {e : Mp} {v : Vn} {sa' : List (Str × List Str)} (he : ∀ s ∈ S.sorts, ∀ a ∈ atS sa' s, ∀ b ∈ atS sa' s, e s a = e s b → a = b) {kn : List (Str × Str)} {c : Ch} (h : Fits sa' kn c) : ∀ {b : Bd}, b.Ok S kn → tru (pullV S e v) c b = tru v (mapC e kn c) b
  | .tie a b t, hb => by
    obtain ⟨_, _, cs, hcs, hm⟩ := hb
    show v (t, List.zipWith e (colsOf S t) ((a :: b.toList).map (vl c))) = v (t, (a :: b.toList).map (vl (mapC e kn c)))
    have ec : colsOf S t = cs := by
      unfold colsOf
      rw [lookup_nd hS.nd hcs] <;> rfl
    rw [ec, mapC_row h hm]
  | .same a b s, hb => by
    obtain ⟨_, _, hs, h4, h5⟩ := hb
    show decide (vl c a = vl c b) = decide (vl (mapC e kn c) a = vl (mapC e kn c) b)
    rw [mapC_vl h h4, mapC_vl h h5]
    refine decide_eq_decide.mpr ⟨fun z => by rw [z], fun z => he s hs _ (fits_vl h h4) _ (fits_vl h h5) z⟩
  | .neg f, hb => by
    show (!tru (pullV S e v) c f) = !tru v (mapC e kn c) f
    rw [tru_pull hS he h (b := f) hb]
  | .bin .and f g, hb => by
    show (tru (pullV S e v) c f && tru (pullV S e v) c g) = (tru v (mapC e kn c) f && tru v (mapC e kn c) g)
    rw [tru_pull hS he h (b := f) hb.1, tru_pull hS he h (b := g) hb.2]
  | .bin .or f g, hb => by
    show (tru (pullV S e v) c f || tru (pullV S e v) c g) = (tru v (mapC e kn c) f || tru v (mapC e kn c) g)
    rw [tru_pull hS he h (b := f) hb.1, tru_pull hS he h (b := g) hb.2]
  | .bin .imp f g, hb => by
    show (!tru (pullV S e v) c f || tru (pullV S e v) c g) = (!tru v (mapC e kn c) f || tru v (mapC e kn c) g)
    rw [tru_pull hS he h (b := f) hb.1, tru_pull hS he h (b := g) hb.2]
/-! the atoms that a choice uses -/
def used (vs : List (Str × Str)) (c : Ch) (s : Str) : List Str := ddp (((vs.zip c).filter fun q => decide (q.1.2 = s)).map fun q => q.2.2)
theorem used_mem {vs : List (Str × Str)} {c : Ch} {s a : Str} : a ∈ used vs c s ↔ ∃ q ∈ vs.zip c, q.1.2 = s ∧ q.2.2 = a := by
  unfold used
  rw [ddp_mem, List.mem_map]
  constructor
  · rintro ⟨q, hq, e⟩
    obtain ⟨h1, h2⟩ := List.mem_filter.mp hq
    exact ⟨q, h1, of_decide_eq_true h2, e⟩
  · rintro ⟨q, hq, e1, e2⟩
    exact ⟨q, List.mem_filter.mpr ⟨hq, decide_eq_true e1⟩, e2⟩
theorem zip_count {s : Str} : ∀ {vs : List (Str × Str)} {c : Ch}, ((vs.zip c).filter fun q => decide (q.1.2 = s)).length ≤ (vs.map (·.2)).count s
  | [], c => by simp
  | v :: vs, [] => by simp
  | v :: vs, p :: c => by
    have ih := zip_count (s := s) (vs := vs) (c := c)
    rw [List.zip_cons_cons, List.filter_cons, List.map_cons, List.count_cons]
    by_cases h : v.2 = s
    · rw [if_pos (decide_eq_true h), List.length_cons, if_pos (beq_iff_eq.mpr h)]
      omega
    · rw [if_neg (by simpa using h)]
      omega
theorem used_len {vs : List (Str × Str)} {c : Ch} {s : Str} : (used vs c s).length ≤ (vs.map (·.2)).count s := by
  unfold used
  refine Nat.le_trans ddp_len ?_
  rw [List.length_map]
  exact zip_count
theorem fits_zip {sa : List (Str × List Str)} : ∀ {vs : List (Str × Str)} {c : Ch}, Fits sa vs c → ∀ q ∈ vs.zip c, q.2.2 ∈ atS sa q.1.2
  | [], [], _, q, hq => by cases hq
  | [], _ :: _, h, _, _ => h.elim
  | _ :: _, [], h, _, _ => h.elim
  | v :: vs, p :: c, h, q, hq => by
    rw [List.zip_cons_cons] at hq
    rcases List.mem_cons.mp hq with e | hq
    · rw [e]; exact h.1.2
    · exact fits_zip h.2 q hq
theorem fitN_map {α : Type} {h k : α → Nat} : ∀ {l : List α}, (∀ s ∈ l, h s ≤ k s) → FitN (l.map k) (l.map h)
  | [], _ => trivial
  | x :: l, hh => ⟨hh x (by simp), fitN_map fun s hs => hh s (List.mem_cons_of_mem _ hs)⟩
theorem cut_at {S : Sch} {gs : List Fl} {f : Fl} (h : Ask S gs f) (hs : shown S gs f = true) {ns : List Nat} {v : Vn} (hv : ∀ x ∈ gs, Hold v (mkRow S (stdAs ns) x)) : Hold v (mkRow S (stdAs ns) f) := by
  intro c hc
  have hc : Fits (saOf S ns) f.vars c := chS_mem.mp hc
  have hS := h.s.g
  let U := used f.vars c
  let ns' := S.sorts.map fun s => (U s).length
  have hfit : FitN (reach S f) ns' := fitN_map fun s _ => used_len
  let sa' := saOf S ns'
  let e : Mp := fun s a => (((atS sa' s).zip (U s)).lookup a).getD a
  have hU9 : ∀ s, (U s).length ≤ 9 := fun s => by
    have h1 : (U s).length ≤ (f.vars.map (·.2)).count s := used_len
    have h2 : (f.vars.map (·.2)).count s ≤ (f.vars.map (·.2)).length := List.count_le_length
    rw [List.length_map] at h2
    have := h.g.1.k2
    omega
  have hat : ∀ s ∈ S.sorts, (atS sa' s).Nodup ∧ (atS sa' s).length = (U s).length := fun s hm => by
    obtain ⟨l, hl⟩ := at_std (h := fun s => (U s).length) (L := ("abc" : Str).cps.toList) hm (by rw [abc_len]; exact hS.s3)
    have ea : atS sa' s = stdA (l, (U s).length) := by
      show ((saOf S ns').lookup s).getD [] = _
      have : (saOf S ns').lookup s = some (stdA (l, (U s).length)) := hl
      rw [this] <;> rfl
    rw [ea]
    exact ⟨stdA_nd, stdA_full (hU9 s)⟩
  have he1 : ∀ s ∈ S.sorts, ∀ a ∈ atS sa' s, e s a ∈ U s := fun s hm a ha => by
    obtain ⟨b, h1, h2⟩ := zl_mem (hat s hm).2 ha
    show ((((atS sa' s).zip (U s)).lookup a).getD a) ∈ U s
    rw [h1]; exact h2
  have he2 : ∀ s ∈ S.sorts, ∀ a ∈ atS sa' s, ∀ b ∈ atS sa' s, e s a = e s b → a = b := fun s hm a ha b hb z => by
    obtain ⟨x, h1, _⟩ := zl_mem (hat s hm).2 ha
    obtain ⟨y, h2, _⟩ := zl_mem (hat s hm).2 hb
    have z' : ((((atS sa' s).zip (U s)).lookup a).getD a) = ((((atS sa' s).zip (U s)).lookup b).getD b) := z
    rw [h1, h2] at z'
    have exy : x = y := z'
    subst exy
    exact zl_inj (B := U s) ddp_nd h1 h2
  have he3 : ∀ s ∈ S.sorts, ∀ b ∈ U s, ∃ a ∈ atS sa' s, e s a = b := fun s hm b hb => by
    obtain ⟨a, h1, h2⟩ := zl_surj (hat s hm).1 (hat s hm).2 hb
    refine ⟨a, h1, ?_⟩
    show ((((atS sa' s).zip (U s)).lookup a).getD a) = b
    rw [h2] <;> rfl
  have hUs : ∀ s, ∀ a ∈ U s, a ∈ atS (saOf S ns) s := fun s a ha => by
    obtain ⟨q, hq, e1, e2⟩ := used_mem.mp ha
    rw [← e1, ← e2]
    exact fits_zip hc q hq
  have hsrt : ∀ p ∈ f.vars, p.2 ∈ S.sorts := fun p hp => (h.g.1.nm p hp).2
  obtain ⟨c', h1, h2⟩ := mapC_back (e := e) (sa' := sa') hc fun q hq => by
    have hq1 : q.1 ∈ f.vars := (List.of_mem_zip hq).1
    exact he3 q.1.2 (hsrt _ hq1) q.2.2 (used_mem.mpr ⟨q, hq, rfl, rfl⟩)
  have hold := (shown_iff h).mp hs ns' hfit (pullV S e v) fun x hx d hd => by
    have hd : Fits sa' x.vars d := chS_mem.mp hd
    have hx2 := h.al x hx
    show tru (pullV S e v) d x.body = true
    rw [tru_pull hS he2 hd hx2.2.1]
    exact hv x hx _ (chS_mem.mpr (mapC_fits (fun p hp a ha => hUs _ _ (he1 _ (hx2.1.nm p hp).2 a ha)) hd))
  have ht : tru (pullV S e v) c' f.body = true := hold c' (chS_mem.mpr h1)
  rw [tru_pull hS he2 h1 h.g.2.1, h2] at ht
  exact ht
theorem shown_cut {S : Sch} {gs : List Fl} {f g : Fl} (h : Ask S gs f) (h' : Ask S (gs ++ [f]) g) (h1 : shown S gs f = true) (h2 : shown S (gs ++ [f]) g = true) : shown S gs g = true := by
  have h3 : Ask S gs g := ⟨h.s, h.al, h'.g, h.few⟩
  refine (shown_iff h3).mpr fun ns hf v hv => (shown_iff h').mp h2 ns hf v fun x hx => ?_
  rcases List.mem_append.mp hx with hx | hx
  · exact hv x hx
  · have e : x = f := by simpa using hx
    rw [e]
    exact cut_at h h1 hv
end Tk
namespace Tk
open PySem PySem.Spec PyProof.Rows L2
section
variable {P : Program} {w : World} {K : PySem.W.Frag} {mg : Str → Option Value} {base : Heap}
def gsP (K : PySem.W.Frag) (gs : List Fl) : Pd := lstN (gs.map fun f => rep K f.enc)
theorem TyE.shows {W : Wd} {Γ : Ctx} {ta tb tc : TE} {E : XK} {S : Sch} {gs : List Fl} {g : Fl} (h : Ask S gs g) (ha : TyE W Γ ta (schP K S)) (hb : TyE W Γ tb (gsP K gs)) (hc : TyE W Γ tc (rep K g.enc)) : TyE W Γ (tCall (spShows K) [] E (tCons ta (tCons tb (tCons tc tNil)))) (rep K (.bool (shown S gs g))) :=
  TyE.fn (⟨S, gs, g⟩ : EnA) (ask_ok h) (TyA.cons ha (TyA.cons (hb.imp fun _ _ => lstN_of) (TyA.cons hc TyA.nil)))
structure MrA where
  pm : Addr
  pg : Addr
  n : Nat
  S : Sch
  gs : List Fl
  g : Fl
structure MrA.Ok (x : MrA) : Prop where
  s : SmallS x.S
  al : ∀ f ∈ x.gs, FlS x.S f
  g : FlS x.S x.g
  l1 : 1 ≤ x.gs.length
  l3 : x.gs.length ≤ 3
def spMore (K : PySem.W.Frag) : Sp := SpF (δ := MrA) (fun x => [isV (.ref x.pm), schP K x.S, gsP K x.gs, rep K x.g.enc]) (fun _ => rep K (.bool true)) (fun x W => Cap W x.pm x.pg x.n ∧ x.Ok)
theorem TyE.gsTo {W : Wd} {Γ : Ctx} {te : TE} {gs : List Fl} {k : Nat} {th : TO} (h : TyE W Γ te (gsP K gs)) (ho : TyO W Γ th (some (k : Int))) : TyE W Γ (tSl (rSlL K) te tNoPart th) (gsP K (gs.take k)) := (TyE.slL (h.imp fun _ _ => lstN_of) TyO.none ho).imp fun v H p => by
  rw [cutP_map, cutP_to] at p
  exact p
theorem TyE.gsFrom {W : Wd} {Γ : Ctx} {te : TE} {gs : List Fl} {k : Nat} {th : TO} (h : TyE W Γ te (gsP K gs)) (ho : TyO W Γ th (some (k : Int))) : TyE W Γ (tSl (rSlL K) te th tNoPart) (gsP K (gs.drop k)) := (TyE.slL (h.imp fun _ _ => lstN_of) ho TyO.none).imp fun v H p => by
  rw [cutP_map, cutP_from] at p
  exact p
theorem r_gsCat {W : Wd} {gs hs : List Fl} (hl : gs.length + hs.length ≤ 1000) : R2T W rCat (gsP K gs) (gsP K hs) (gsP K (gs ++ hs)) := by
  unfold gsP
  rw [List.map_append]
  exact r_cat (by rw [List.length_map, List.length_map]; exact hl)
theorem R2T.exI {ι : Type} {W : Wd} {r : R2} {φ : ι → Prop} {P1 P2 : Pd} {F : ι → Pd} (x : ι) (hx : φ x) (h : R2T W r P1 P2 (F x)) : R2T W r P1 P2 (exP φ F) := h.imp fun v H p => ⟨x, hx, p⟩
theorem scLMoreRight : FnScope ["_law_m", "_law_scheme_here", "_law_given", "_law_goal", "_law_more", "_law_is_so", "_law_k"] ["_law_m", "_law_scheme_here", "_law_given", "_law_goal"] (defScope sLMoreRight) := ⟨rfl, rfl, rfl, by decide +kernel, rfl, by decide +kernel, by decide +kernel⟩
theorem ok__law_more_right (T : Tx K mg) {f : Addr} {fd : FuncData} (F : FnP K "_law_more_right" "_law_more_right" sLMoreRight f fd) (D__law_shows : DefOk P w K mg base 42 "_law_shows" ["_law_scheme_here", "_law_given", "_law_goal"] (spShows K)) (D__law_flat : DefOk P w K mg base 8 "_law_flat" ["_law_m", "_law_scheme_here", "_law_many", "_law_deep"] (spLFlat K)) (D__law_draw : DefOk P w K mg base 1 "_law_draw" ["_law_m", "_law_top"] (spDraw K)) : FnOk P w K mg base CX0 (43) f fd ["_law_m", "_law_scheme_here", "_law_given", "_law_goal"] (spMore K) := by
  obtain ⟨f__law_shows, fd__law_shows, G__law_shows, m__law_shows, kp__law_shows, b__law_shows⟩ := D__law_shows.ex
  obtain ⟨f__law_flat, fd__law_flat, G__law_flat, m__law_flat, kp__law_flat, b__law_flat⟩ := D__law_flat.ex
  obtain ⟨f__law_draw, fd__law_draw, G__law_draw, m__law_draw, kp__law_draw, b__law_draw⟩ := D__law_draw.ex
  refine fn_ok F scLMoreRight (fun _ => rfl) fun cdv A outer s H E hr => ?_
  refine ⟨_, (pss_cons (ps_par (i := 5) (j := 6) rfl scLMoreRight.nd rfl rfl (by decide) rfl rfl (pa_cons (pe_call G__law_shows (hr.mono (by omega)) rfl m__law_shows kp__law_shows b__law_shows .nil pass0 (pa_cons (pv 1) (pa_cons (pv 2) (pa_cons (pv 3) pa_nil)))) (pa_cons (pe_call G__law_draw (hr.mono (by omega)) rfl m__law_draw kp__law_draw b__law_draw .nil pass0 (pa_cons (pv 0) (pa_cons (pe_op op_add (pe_callB (k_len K) rfl T.len bt_len (pa_cons (pv 2) pa_nil)) pe_int) pa_nil))) pa_nil)) rfl)
      (pss_cons (ps_set (i := 4) scLMoreRight.nd rfl (Or.inl rfl) (pe_op op_cat (pe_op op_cat (pe_op op_cat (pe_slice (k_slL K) (pv 2) (po_some (pv 6)) po_none) (pe_lst (pa_cons (pe_call G__law_flat (hr.mono (by omega)) rfl m__law_flat kp__law_flat b__law_flat .nil pass0 (pa_cons (pv 0) (pa_cons (pv 1) (pa_cons pe_int (pa_cons pe_int pa_nil))))) pa_nil))) (pe_slice (k_slL K) (pv 2) po_none (po_some (pv 6)))) (pe_slice (k_slL K) (pv 2) po_none (po_some pe_int))))
      (pss_cons (ps_if (PW.pt (pw_and (pt_val (pv 5)) (pw_and1 (pt_not (pt_val (pe_call G__law_shows (hr.mono (by omega)) rfl m__law_shows kp__law_shows b__law_shows .nil pass0 (pa_cons (pv 1) (pa_cons (pv 4) (pa_cons (pv 3) pa_nil))))))))) (pss_one (ps_ret pe_bl)) pss_nil)
      (pss_cons (ps_if (PW.pt (pw_and (pt_not (pt_val (pv 5))) (pw_and1 (pt_val (pe_call G__law_shows (hr.mono (by omega)) rfl m__law_shows kp__law_shows b__law_shows .nil pass0 (pa_cons (pv 1) (pa_cons (pe_slice (k_slL K) (pv 2) po_none (po_some (pv 6))) (pa_cons (pv 3) pa_nil)))))))) (pss_one (ps_ret pe_bl)) pss_nil)
      (pss_one (ps_ret (pe_cmpR op_eq (pe_call G__law_shows (hr.mono (by omega)) rfl m__law_shows kp__law_shows b__law_shows .nil pass0 (pa_cons (pv 1) (pa_cons (pe_op op_cat (k_revL K (pv 2)) (pv 2)) (pa_cons (pv 3) pa_nil)))) (pv 5) (nomark _)))))))), ?_⟩
  -- N: [(0, '_law_m'), (1, '_law_scheme_here'), (2, '_law_given'), (3, '_law_goal'), (4, '_law_more'), (5, '_law_is_so'), (6, '_law_k')]; cells: []
  rintro ⟨pm, pg, n, S, gs, g⟩ W ⟨c, hx⟩ B D hn hR
  have c : Cap W pm pg n := c
  have hS : SmallS S := hx.s
  have hal : ∀ f ∈ gs, FlM S f := fun f hf => (hx.al f hf).m
  have hg : FlM S g := FlS.m hx.g
  have hl : gs.length ≤ 3 := hx.l3
  have ask0 : Ask S gs g := ⟨hS, hal, hg, by omega⟩
  refine Nx.sPar (TyA.cons (TyE.shows ask0 (TyE.var rfl) (TyE.var rfl) (TyE.var rfl)) (TyA.cons (TyE.drawB (top := gs.length + 1) c (by omega) (by omega) (TyE.var rfl) ((TyE.op (TyE.cb (TyA.cons ((TyE.var rfl).imp fun _ _ => lstN_of) TyA.nil) ra_lenL) (TyE.int (K := K)) (r_int0 (K := K))).imp fun v H p => ?_)) TyA.nil)) ?_
  · rw [List.length_map] at p; exact p
  refine Nx.open (φ := fun k : Nat => k < gs.length + 1) (F := fun k => rep K (.int (k : Nat))) 6 rfl fun k hk => ?_
  refine Nx.sSet (P := exP (FlS S) fun f => gsP K (gs.drop k ++ [f] ++ gs.take k ++ gs.take 1)) (TyE.op (P1 := exP (FlS S) fun f => gsP K (gs.drop k ++ [f] ++ gs.take k)) (TyE.op (P1 := exP (FlS S) fun f => gsP K (gs.drop k ++ [f])) (TyE.op (P2 := exP (FlS S) fun f => gsP K [f]) (TyE.gsFrom (TyE.var rfl) (TyO.some (TyE.var rfl))) ((TyE.lstN (TyA.cons (TyE.fn (⟨pm, pg, n, S, 1⟩ : LfA) (by exact ⟨c, hS, by show (1 : Nat) ≤ 2; decide⟩) (TyA.cons (TyE.var rfl) (TyA.cons (TyE.var rfl) (TyA.cons (TyE.int (K := K)) (TyA.cons (TyE.int (K := K)) TyA.nil))))) TyA.nil)).imp fun v H p => ?_) (R2T.ex2 fun f hf => R2T.exI f hf (r_gsCat ?_))) (TyE.gsTo (TyE.var rfl) (TyO.some (TyE.var rfl))) (R2T.ex1 fun f hf => R2T.exI f hf (r_gsCat ?_))) (TyE.gsTo (k := 1) (TyE.var rfl) (TyO.some (TyE.int (K := K)))) (R2T.ex1 fun f hf => R2T.exI f hf (r_gsCat ?_))) ?_
  · obtain ⟨a, xs, e, hs, p⟩ := p
    obtain ⟨x, rfl, f, hf, p⟩ := p.one
    exact ⟨f, hf, a, _, e, hs, .cons p .nil⟩
  · show (gs.drop k).length + 1 ≤ 1000
    rw [List.length_drop]; omega
  · rw [List.length_append, List.length_drop, List.length_take]
    show gs.length - k + 1 + min k gs.length ≤ 1000
    omega
  · rw [List.length_append, List.length_append, List.length_drop, List.length_take, List.length_take]
    show gs.length - k + 1 + min k gs.length + min 1 gs.length ≤ 1000
    omega
  refine Nx.open (φ := FlS S) (F := fun f => gsP K (gs.drop k ++ [f] ++ gs.take k ++ gs.take 1)) 4 rfl fun f hf => ?_
  have hmem : ∀ x ∈ gs, x ∈ gs.drop k ++ [f] ++ gs.take k ++ gs.take 1 := fun x hx => by
    have hx' : x ∈ gs.take k ++ gs.drop k := by rw [List.take_append_drop]; exact hx
    simp only [List.mem_append] at hx' ⊢
    rcases hx' with h | h
    · exact .inl (.inr h)
    · exact .inl (.inl (.inl h))
  have hmem2 : ∀ x ∈ gs.drop k ++ [f] ++ gs.take k ++ gs.take 1, FlM S x := fun x hx => by
    simp only [List.mem_append] at hx
    rcases hx with ((h | h) | h) | h
    · exact hal x (List.mem_of_mem_drop h)
    · have e : x = f := by simpa using h
      rw [e]; exact hf.m
    · exact hal x (List.mem_of_mem_take h)
    · exact hal x (List.mem_of_mem_take h)
  have ask1 : Ask S (gs.drop k ++ [f] ++ gs.take k ++ gs.take 1) g := ⟨hS, hmem2, hg, by
    rw [List.length_append, List.length_append, List.length_append, List.length_drop, List.length_take, List.length_take]
    show gs.length - k + 1 + min k gs.length + min 1 gs.length ≤ 8
    omega⟩
  have ask2 : Ask S (gs.take k) g := ⟨hS, fun x hx => hal x (List.mem_of_mem_take hx), hg, by rw [List.length_take]; omega⟩
  have ask3 : Ask S (gs.reverse ++ gs) g := ⟨hS, fun x hx => by
    rcases List.mem_append.mp hx with h | h
    · exact hal x (List.mem_reverse.mp h)
    · exact hal x h, hg, by rw [List.length_append, List.length_reverse]; omega⟩
  refine Nx.sIfF (TyT.bE (TyT.and (TyT.tB (TyE.var rfl)) fun _ => TyT.notB (TyT.tB (TyE.shows ask1 (TyE.var rfl) (TyE.var rfl) (TyE.var rfl)))) ?_) ?_
  · cases h : shown S gs g with
    | false => rfl
    | true => rw [shown_mono ask0 ask1 hmem h] <;> rfl
  refine Nx.sIfF (TyT.bE (TyT.and (TyT.notB (TyT.tB (TyE.var rfl))) fun _ => TyT.tB (TyE.shows ask2 (TyE.var rfl) (TyE.gsTo (TyE.var rfl) (TyO.some (TyE.var rfl))) (TyE.var rfl))) ?_) ?_
  · cases h : shown S (gs.take k) g with
    | false => rw [Bool.and_false]
    | true => rw [shown_mono ask2 ask0 (fun x hx => List.mem_of_mem_take hx) h] <;> rfl
  refine Nx.ret (TyE.bT (TyE.op (TyE.shows ask3 (TyE.var rfl) (TyE.op ((TyE.revL ((TyE.var rfl).imp fun _ _ => lstN_of)).imp (P' := gsP K gs.reverse) fun v H p => ?_) (TyE.var rfl) (r_gsCat (by rw [List.length_reverse]; show gs.length + gs.length ≤ 1000; omega))) (TyE.var rfl)) (TyE.var rfl) r_eqB) ?_) hR
  · unfold gsP
    rw [List.map_reverse]
    exact p
  · refine decide_eq_true ?_
    cases h : shown S gs g with
    | true => exact shown_mono ask0 ask3 (fun x hx => List.mem_append_right _ hx) h
    | false =>
      cases h3 : shown S (gs.reverse ++ gs) g with
      | false => rfl
      | true =>
        rw [shown_mono ask3 ask0 (fun x hx => by
          rcases List.mem_append.mp hx with h | h
          · exact List.mem_reverse.mp h
          · exact h) h3] at h
        cases h
structure CrA where
  S : Sch
  gs : List Fl
  f : Fl
  g : Fl
structure CrA.Ok (x : CrA) : Prop where
  s : SmallS x.S
  al : ∀ f ∈ x.gs, FlS x.S f
  f : FlS x.S x.f
  g : FlS x.S x.g
  l3 : x.gs.length ≤ 3
def spCut (K : PySem.W.Frag) : Sp := SpF (δ := CrA) (fun x => [schP K x.S, gsP K x.gs, rep K x.f.enc, rep K x.g.enc]) (fun _ => rep K (.bool true)) (fun x W => x.Ok)
theorem scLCutRight : FnScope ["_law_scheme_here", "_law_given", "_law_between", "_law_goal"] ["_law_scheme_here", "_law_given", "_law_between", "_law_goal"] (defScope sLCutRight) := ⟨rfl, rfl, rfl, by decide +kernel, rfl, by decide +kernel, by decide +kernel⟩
theorem ok__law_cut_right (T : Tx K mg) {f : Addr} {fd : FuncData} (F : FnP K "_law_cut_right" "_law_cut_right" sLCutRight f fd) (D__law_shows : DefOk P w K mg base 42 "_law_shows" ["_law_scheme_here", "_law_given", "_law_goal"] (spShows K)) : FnOk P w K mg base CX0 (43) f fd ["_law_scheme_here", "_law_given", "_law_between", "_law_goal"] (spCut K) := by
  obtain ⟨f__law_shows, fd__law_shows, G__law_shows, m__law_shows, kp__law_shows, b__law_shows⟩ := D__law_shows.ex
  refine fn_ok F scLCutRight (fun _ => rfl) fun cdv A outer s H E hr => ?_
  refine ⟨_, (pss_cons (ps_if (PW.pt (pw_or (pt_not (pt_val (pe_call G__law_shows (hr.mono (by omega)) rfl m__law_shows kp__law_shows b__law_shows .nil pass0 (pa_cons (pv 0) (pa_cons (pv 1) (pa_cons (pv 2) pa_nil)))))) (pw_or1 (pt_not (pt_val (pe_call G__law_shows (hr.mono (by omega)) rfl m__law_shows kp__law_shows b__law_shows .nil pass0 (pa_cons (pv 0) (pa_cons (pe_op op_cat (pv 1) (pe_lst (pa_cons (pv 2) pa_nil))) (pa_cons (pv 3) pa_nil))))))))) (pss_one (ps_ret pe_bl)) pss_nil)
      (pss_one (ps_ret (pe_call G__law_shows (hr.mono (by omega)) rfl m__law_shows kp__law_shows b__law_shows .nil pass0 (pa_cons (pv 0) (pa_cons (pv 1) (pa_cons (pv 3) pa_nil))))))), ?_⟩
  -- N: [(0, '_law_scheme_here'), (1, '_law_given'), (2, '_law_between'), (3, '_law_goal')]; cells: []
  rintro ⟨S, gs, f, g⟩ W hx B D hn hR
  have hS : SmallS S := hx.s
  have hal : ∀ f ∈ gs, FlM S f := fun f hf => (hx.al f hf).m
  have hf : FlM S f := FlS.m hx.f
  have hg : FlM S g := FlS.m hx.g
  have hl : gs.length ≤ 3 := hx.l3
  have ask0 : Ask S gs f := ⟨hS, hal, hf, by omega⟩
  have ask1 : Ask S gs g := ⟨hS, hal, hg, by omega⟩
  have ask2 : Ask S (gs ++ [f]) g := ⟨hS, fun x hx => by
    rcases List.mem_append.mp hx with h | h
    · exact hal x h
    · have e : x = f := by simpa using h
      rw [e]; exact hf, hg, by rw [List.length_append]; show gs.length + 1 ≤ 8; omega⟩
  refine Nx.sIf1 (TyT.or (TyT.notB (TyT.tB (TyE.shows ask0 (TyE.var rfl) (TyE.var rfl) (TyE.var rfl)))) fun _ => TyT.notB (TyT.tB (TyE.shows ask2 (TyE.var rfl) (TyE.op (P2 := gsP K [f]) (TyE.var rfl) (TyE.lstN (TyA.cons (TyE.var rfl) TyA.nil)) (r_gsCat (by show gs.length + 1 ≤ 1000; omega))) (TyE.var rfl)))) (fun _ => ?_) fun h => ?_
  · exact Nx.ret TyE.bl hR
  · have h' := Bool.or_eq_false_iff.mp h.symm
    have h1 : shown S gs f = true := by simpa using h'.1
    have h2 : shown S (gs ++ [f]) g = true := by simpa using h'.2
    exact Nx.ret (TyE.bT (TyE.shows ask1 (TyE.var rfl) (TyE.var rfl) (TyE.var rfl)) (shown_cut ask0 ask2 h1 h2)) hR
end
end Tk
namespace Tk
open PySem PySem.Spec PyProof.Rows L2
section
variable {P : Program} {w : World} {K : PySem.W.Frag} {mg : Str → Option Value} {base : Heap}
theorem none_v {H : Hp} : Wd.none.v H = H := vw_nil
theorem Nx.sBegun {B : Hp} {Γ : Ctx} {ts : TE} {E : XK} {i : Nat} {D : Ends} {us : TS} {ns : List Int} (hl : ns.length ≤ 100) (hs : TyE Wd.none Γ ts (lstOf K (ns.map fun i => rep K (.int i))))
    (h : ∀ (pm pg : Addr) (n : Nat) (ne : pm ≠ pg), n ≤ 1000 → Nx (Wd.cap pm pg n ne) B (Γ.set i (some (isV (.ref pm)))) (us D)) : Nx Wd.none B Γ (tSeq (tAsg (tCall (spBegun K) [] E (tCons ts tNil)) (gName i)) us D) := fun σ H j b e =>
  hs σ H _ j e fun x H1 j1 s1 p1 => by
    rw [none_v] at p1
    refine ⟨ns, hl, .cons p1 .nil, fun pm pg n ne H' hn j' s' => ?_⟩
    have s2 : Same (Wd.none.v H) ((Wd.cap pm pg n ne).v H') := s1.trans (by rw [none_v]; exact s')
    exact h pm pg n ne hn _ H' j' (b.trans s2) ((e.mono s2).set i rfl)
theorem TyE.rngX {W : Wd} {Γ : Ctx} {tA : TA} {g : TG} {tt : TT} {te : TE} {vs : List Nat} {φ : Nat → Prop} {F : Nat → Pd} (hA : TyA W Γ tA [exP φ fun n : Nat => rep K (.int (n : Nat))]) (h : ∀ n, φ n → TyE W Γ (tLc (iRng1 (fun σ H Q => Q [.int (n : Nat)] H)) g tt te vs) (F n)) :
    TyE W Γ (tLc (iRng1 tA) g tt te vs) (exP φ F) := fun σ H Q j e q =>
  hA σ H _ j e fun xs H1 j1 s1 p => by
    obtain ⟨x, rfl, n, hn, p⟩ := p.one
    have ex : x = .int (n : Nat) := dp_int p
    subst ex
    exact h n hn σ H1 Q j1 (e.mono s1) fun v H2 j2 s2 p2 => q v H2 j2 (s1.trans s2) ⟨n, hn, p2⟩
theorem TyA.int1 {W : Wd} {Γ : Ctx} {n : Nat} : TyA W Γ (fun σ H Q => Q [.int (n : Nat)] H) [rep K (.int (n : Nat))] := fun σ H Q j e q => q _ H j (Same.refl _) (.cons (.int _) .nil)
theorem TyE.showsT {W : Wd} {Γ : Ctx} {ta tb tc : TE} {E : XK} {S : Sch} {gs : List Fl} (h : ∀ f ∈ gs, Ask S gs f) (ha : TyE W Γ ta (schP K S)) (hb : TyE W Γ tb (gsP K gs)) (hc : TyE W Γ tc (exP (· ∈ gs) fun f => rep K f.enc)) : TyE W Γ (tCall (spShows K) [] E (tCons ta (tCons tb (tCons tc tNil)))) (rep K (.bool true)) :=
  TyE.call (TyA.cons ha (TyA.cons hb (TyA.cons hc TyA.nil))) fun xs H Q j p q => by
    obtain ⟨x, r, rfl, p1, pr⟩ := p.uncons
    obtain ⟨y, z, rfl, p2, f, hf, p3⟩ := pr.two
    refine ⟨W, ⟨S, gs, f⟩, ask_ok (h f hf), j, .cons p1 (.cons (lstN_of p2) (.cons p3 .nil)), fun v H' a b c => q v H' a b ?_⟩
    have c' : (rep K (.bool (shown S gs f))).h v (W.v H') := c
    rw [shown_mem (h f hf) hf] at c'
    exact c'
abbrev shapes0 : List Shp := [(1, [[0, 0]]), (1, [[0], [0]]), (2, [[0, 1]]), (2, [[0], [1]]), (1, [[0, 0], [0]])]
theorem shapes_ok : ∀ s ∈ shapes0, Shp.Ok s := by
  intro s hs
  simp only [List.mem_cons, List.not_mem_nil, or_false] at hs
  rcases hs with rfl | rfl | rfl | rfl | rfl <;> exact ⟨by decide, by decide, by decide, by decide, by decide⟩
def spLaw (K : PySem.W.Frag) : Sp := fun vs H Q _ => ∃ (a : Addr) (ns : List Int), vs = [.ref a] ∧ SqL K H a (ns.map V.int) ∧ ns.length ≤ 63 ∧ ∀ H', Q (.bl true) H'
theorem len_law : ∀ vs H Q E, spLaw K vs H Q E → vs.length = 1 := fun vs H Q E ⟨a, ns, e, _⟩ => by rw [e] <;> rfl
theorem ints_pds {H : Hp} : ∀ {ns : List Int}, PdAll (ns.map fun i => rep K (.int i)) (ns.map V.int) H
  | [] => .nil
  | n :: ns => .cons (.int n) ints_pds
theorem scLaw : FnScope ["_law_script", "_law_m", "_law_shapes", "_law_turn", "_law_scheme_here", "_law_given", "_law_other", "_law_both", "_law_goal", "_law_between", "_law_known", "_law_inner", "_law_k"] ["_law_script"] (defScope sLaw) := ⟨rfl, rfl, rfl, by decide +kernel, rfl, by decide +kernel, by decide +kernel⟩
theorem ok_law (T : Tx K mg) {f : Addr} {fd : FuncData} (F : FnP K "law" "law" sLaw f fd) (D__law_shows : DefOk P w K mg base 42 "_law_shows" ["_law_scheme_here", "_law_given", "_law_goal"] (spShows K)) (D__law_flat_over : DefOk P w K mg base 1 "_law_flat_over" ["_law_known", "_law_inner"] (spOver K)) (D__law_inner_of : DefOk P w K mg base 1 "_law_inner_of" ["_law_said"] (spInner K)) (D__law_vars_of : DefOk P w K mg base 1 "_law_vars_of" ["_law_said"] (spVarsOf K)) (D__law_of : DefOk P w K mg base 2 "_law_of" ["_law_m", "_law_some"] (spOf K)) (D__law_cut_right : DefOk P w K mg base 43 "_law_cut_right" ["_law_scheme_here", "_law_given", "_law_between", "_law_goal"] (spCut K)) (D__law_more_right : DefOk P w K mg base 43 "_law_more_right" ["_law_m", "_law_scheme_here", "_law_given", "_law_goal"] (spMore K)) (D__law_flat : DefOk P w K mg base 8 "_law_flat" ["_law_m", "_law_scheme_here", "_law_many", "_law_deep"] (spLFlat K)) (D__law_draw : DefOk P w K mg base 1 "_law_draw" ["_law_m", "_law_top"] (spDraw K)) (D__law_scheme : DefOk P w K mg base 3 "_law_scheme" ["_law_m", "_law_shapes"] (spScheme K)) (D__law_begun : DefOk P w K mg base 1 "_law_begun" ["_law_script"] (spBegun K)) : FnOk P w K mg base CX0 (44) f fd ["_law_script"] (spLaw K) := by
  obtain ⟨f__law_shows, fd__law_shows, G__law_shows, m__law_shows, kp__law_shows, b__law_shows⟩ := D__law_shows.ex
  obtain ⟨f__law_flat_over, fd__law_flat_over, G__law_flat_over, m__law_flat_over, kp__law_flat_over, b__law_flat_over⟩ := D__law_flat_over.ex
  obtain ⟨f__law_inner_of, fd__law_inner_of, G__law_inner_of, m__law_inner_of, kp__law_inner_of, b__law_inner_of⟩ := D__law_inner_of.ex
  obtain ⟨f__law_vars_of, fd__law_vars_of, G__law_vars_of, m__law_vars_of, kp__law_vars_of, b__law_vars_of⟩ := D__law_vars_of.ex
  obtain ⟨f__law_of, fd__law_of, G__law_of, m__law_of, kp__law_of, b__law_of⟩ := D__law_of.ex
  obtain ⟨f__law_cut_right, fd__law_cut_right, G__law_cut_right, m__law_cut_right, kp__law_cut_right, b__law_cut_right⟩ := D__law_cut_right.ex
  obtain ⟨f__law_more_right, fd__law_more_right, G__law_more_right, m__law_more_right, kp__law_more_right, b__law_more_right⟩ := D__law_more_right.ex
  obtain ⟨f__law_flat, fd__law_flat, G__law_flat, m__law_flat, kp__law_flat, b__law_flat⟩ := D__law_flat.ex
  obtain ⟨f__law_draw, fd__law_draw, G__law_draw, m__law_draw, kp__law_draw, b__law_draw⟩ := D__law_draw.ex
  obtain ⟨f__law_scheme, fd__law_scheme, G__law_scheme, m__law_scheme, kp__law_scheme, b__law_scheme⟩ := D__law_scheme.ex
  obtain ⟨f__law_begun, fd__law_begun, G__law_begun, m__law_begun, kp__law_begun, b__law_begun⟩ := D__law_begun.ex
  refine fn_okS F scLaw len_law fun cdv A outer s H E hr => ?_
  refine ⟨_, (pss_cons (ps_set (i := 1) scLaw.nd rfl (Or.inr rfl) (pe_call G__law_begun (hr.mono (by omega)) rfl m__law_begun kp__law_begun b__law_begun .nil pass0 (pa_cons (pv 0) pa_nil)))
      (pss_cons (ps_set (i := 2) scLaw.nd rfl (Or.inl rfl) (pe_lst (pa_cons (pe_tup (pa_cons pe_int (pa_cons (pe_lst (pa_cons (pe_lst (pa_cons pe_int (pa_cons pe_int pa_nil))) pa_nil)) pa_nil))) (pa_cons (pe_tup (pa_cons pe_int (pa_cons (pe_lst (pa_cons (pe_lst (pa_cons pe_int pa_nil)) (pa_cons (pe_lst (pa_cons pe_int pa_nil)) pa_nil))) pa_nil))) (pa_cons (pe_tup (pa_cons pe_int (pa_cons (pe_lst (pa_cons (pe_lst (pa_cons pe_int (pa_cons pe_int pa_nil))) pa_nil)) pa_nil))) (pa_cons (pe_tup (pa_cons pe_int (pa_cons (pe_lst (pa_cons (pe_lst (pa_cons pe_int pa_nil)) (pa_cons (pe_lst (pa_cons pe_int pa_nil)) pa_nil))) pa_nil))) (pa_cons (pe_tup (pa_cons pe_int (pa_cons (pe_lst (pa_cons (pe_lst (pa_cons pe_int (pa_cons pe_int pa_nil))) (pa_cons (pe_lst (pa_cons pe_int pa_nil)) pa_nil))) pa_nil))) pa_nil)))))))
      (pss_cons (ps_for PassesOwn.never rfl (pi_range1 rfl T.range (pa_cons (pe_op op_add pe_int (pe_callB (call_minI rfl) rfl T.min bt_min (pa_cons pe_int (pa_cons (pe_op op_fdiv (pe_callB (k_len K) rfl T.len bt_len (pa_cons (pv 0) pa_nil)) pe_int) pa_nil)))) pa_nil)) (pg_name (i := 3) scLaw.nd rfl (Or.inl rfl)) (pss_cons (ps_set (i := 4) scLaw.nd rfl (Or.inr rfl) (pe_call G__law_scheme (hr.mono (by omega)) rfl m__law_scheme kp__law_scheme b__law_scheme .nil pass0 (pa_cons (pv 1) (pa_cons (pv 2) pa_nil))))
      (pss_cons (ps_setLc (i := 5) (own := [("_law_k", 12)]) rfl scLaw.nd rfl rfl (sw_true rfl rfl rfl (by decide +kernel)) (pi_range1 rfl T.range (pa_cons (pe_op op_add pe_int (pe_call G__law_draw (hr.mono (by omega)) rfl m__law_draw kp__law_draw b__law_draw .nil pass0 (pa_cons (pv 1) (pa_cons pe_int pa_nil)))) pa_nil)) (blkOk_by (own := [("_law_k", 12)]) (N := ["_law_script", "_law_m", "_law_shapes", "_law_turn", "_law_scheme_here", "_law_given", "_law_other", "_law_both", "_law_goal", "_law_between", "_law_known", "_law_inner", "_law_k"]) (sc := defScope sLaw) (by decide +kernel)) (fun _ _ _ _ _ => (pg_name (i := 12) scLaw.nd rfl (Or.inl rfl))) (fun _ _ _ _ _ => pts_nil) (fun _ _ _ _ _ => (pe_call G__law_flat (hr.mono (by omega)) rfl m__law_flat kp__law_flat b__law_flat .nil pass0 (pa_cons (pv 1) (pa_cons (pv 4) (pa_cons pe_int (pa_cons pe_int pa_nil)))))))
      (pss_cons (ps_par (i := 8) (j := 9) rfl scLaw.nd rfl rfl (by decide) rfl rfl (pa_cons (pe_call G__law_flat (hr.mono (by omega)) rfl m__law_flat kp__law_flat b__law_flat .nil pass0 (pa_cons (pv 1) (pa_cons (pv 4) (pa_cons pe_int (pa_cons pe_int pa_nil))))) (pa_cons (pe_call G__law_flat (hr.mono (by omega)) rfl m__law_flat kp__law_flat b__law_flat .nil pass0 (pa_cons (pv 1) (pa_cons (pv 4) (pa_cons pe_int (pa_cons pe_int pa_nil))))) pa_nil)) rfl)
      (pss_cons (ps_if (PW.pt (pw_or (pt_not (pt_val (pe_call G__law_more_right (hr.mono (by omega)) rfl m__law_more_right kp__law_more_right b__law_more_right .nil pass0 (pa_cons (pv 1) (pa_cons (pv 4) (pa_cons (pv 5) (pa_cons (pv 8) pa_nil))))))) (pw_or1 (pt_not (pt_val (pe_call G__law_cut_right (hr.mono (by omega)) rfl m__law_cut_right kp__law_cut_right b__law_cut_right .nil pass0 (pa_cons (pv 4) (pa_cons (pv 5) (pa_cons (pv 9) (pa_cons (pv 8) pa_nil)))))))))) (pss_one (ps_ret pe_bl)) pss_nil)
      (pss_cons (ps_if (PW.pt (pw_or (pt_not (pt_val (pe_call G__law_shows (hr.mono (by omega)) rfl m__law_shows kp__law_shows b__law_shows .nil pass0 (pa_cons (pv 4) (pa_cons (pe_op op_cat (pe_lst (pa_cons (pv 8) pa_nil)) (pv 5)) (pa_cons (pv 8) pa_nil)))))) (pw_or1 (pt_not (pt_val (pe_call G__law_shows (hr.mono (by omega)) rfl m__law_shows kp__law_shows b__law_shows .nil pass0 (pa_cons (pv 4) (pa_cons (pv 5) (pa_cons (pe_call G__law_of (hr.mono (by omega)) rfl m__law_of kp__law_of b__law_of .nil pass0 (pa_cons (pv 1) (pa_cons (pv 5) pa_nil))) pa_nil))))))))) (pss_one (ps_ret pe_bl)) pss_nil)
      (pss_cons (ps_par (i := 10) (j := 11) rfl scLaw.nd rfl rfl (by decide) rfl rfl (pa_cons (pe_call G__law_vars_of (hr.mono (by omega)) rfl m__law_vars_of kp__law_vars_of b__law_vars_of .nil pass0 (pa_cons (pv 8) pa_nil)) (pa_cons (pe_call G__law_inner_of (hr.mono (by omega)) rfl m__law_inner_of kp__law_inner_of b__law_inner_of .nil pass0 (pa_cons (pv 8) pa_nil)) pa_nil)) rfl)
      (pss_cons (ps_set (i := 6) scLaw.nd rfl (Or.inl rfl) (pe_call G__law_flat_over (hr.mono (by omega)) rfl m__law_flat_over kp__law_flat_over b__law_flat_over .nil pass0 (pa_cons (pv 10) (pa_cons (pe_tup (pa_cons pe_str (pa_cons (pv 11) pa_nil))) pa_nil))))
      (pss_cons (ps_set (i := 7) scLaw.nd rfl (Or.inl rfl) (pe_call G__law_flat_over (hr.mono (by omega)) rfl m__law_flat_over kp__law_flat_over b__law_flat_over .nil pass0 (pa_cons (pv 10) (pa_cons (pe_tup (pa_cons pe_str (pa_cons (pv 11) (pa_cons (pe_tup (pa_cons pe_str (pa_cons (pv 11) pa_nil))) pa_nil)))) pa_nil))))
      (pss_one (ps_if (pt_cmpR op_ne (pe_and (pe_call G__law_shows (hr.mono (by omega)) rfl m__law_shows kp__law_shows b__law_shows .nil pass0 (pa_cons (pv 4) (pa_cons (pv 5) (pa_cons (pv 8) pa_nil)))) (pe_one (pe_call G__law_shows (hr.mono (by omega)) rfl m__law_shows kp__law_shows b__law_shows .nil pass0 (pa_cons (pv 4) (pa_cons (pv 5) (pa_cons (pv 6) pa_nil)))))) (pe_call G__law_shows (hr.mono (by omega)) rfl m__law_shows kp__law_shows b__law_shows .nil pass0 (pa_cons (pv 4) (pa_cons (pv 5) (pa_cons (pv 7) pa_nil)))) (nomark _)) (pss_one (ps_ret pe_bl)) pss_nil)))))))))))
      (pss_one (ps_ret pe_bl))))), ?_⟩
  -- N: [(0, '_law_script'), (1, '_law_m'), (2, '_law_shapes'), (3, '_law_turn'), (4, '_law_scheme_here'), (5, '_law_given'), (6, '_law_other'), (7, '_law_both'), (8, '_law_goal'), (9, '_law_between'), (10, '_law_known'), (11, '_law_inner'), (12, '_law_k')]; cells: ['_law_m', '_law_scheme_here']
  rintro vs H Q E ⟨a, ns, rfl, hsq, hl, hQ⟩
  have hpd : PdAll [lstOf K (ns.map fun i => rep K (.int i))] [.ref a] H := .cons ⟨a, _, rfl, hsq, ints_pds⟩ .nil
  suffices hh : Nx Wd.none H ([some (lstOf K (ns.map fun i => rep K (.int i)))] ++ List.replicate 12 none) _ from hh (start _ [.ref a]) H trivial (by rw [none_v]; exact Same.refl _) (by rw [none_v]; exact envR_start hpd rfl)
  refine Nx.sBegun (ns := ns) (by omega) (TyE.var rfl) fun pm pg n ne hn => ?_
  have c := cap_of ne hn
  refine Nx.sSet (P := lstOf K (shapes0.map (shP K))) (TyE.lst (K := K) (TyA.cons (TyE.tup (K := K) (TyA.cons (TyE.int (K := K)) (TyA.cons (TyE.lst (K := K) (TyA.cons (TyE.lst (K := K) (TyA.cons (TyE.int (K := K)) (TyA.cons (TyE.int (K := K)) TyA.nil))) TyA.nil)) TyA.nil)))
    (TyA.cons (TyE.tup (K := K) (TyA.cons (TyE.int (K := K)) (TyA.cons (TyE.lst (K := K) (TyA.cons (TyE.lst (K := K) (TyA.cons (TyE.int (K := K)) TyA.nil)) (TyA.cons (TyE.lst (K := K) (TyA.cons (TyE.int (K := K)) TyA.nil)) TyA.nil))) TyA.nil)))
    (TyA.cons (TyE.tup (K := K) (TyA.cons (TyE.int (K := K)) (TyA.cons (TyE.lst (K := K) (TyA.cons (TyE.lst (K := K) (TyA.cons (TyE.int (K := K)) (TyA.cons (TyE.int (K := K)) TyA.nil))) TyA.nil)) TyA.nil)))
    (TyA.cons (TyE.tup (K := K) (TyA.cons (TyE.int (K := K)) (TyA.cons (TyE.lst (K := K) (TyA.cons (TyE.lst (K := K) (TyA.cons (TyE.int (K := K)) TyA.nil)) (TyA.cons (TyE.lst (K := K) (TyA.cons (TyE.int (K := K)) TyA.nil)) TyA.nil))) TyA.nil)))
    (TyA.cons (TyE.tup (K := K) (TyA.cons (TyE.int (K := K)) (TyA.cons (TyE.lst (K := K) (TyA.cons (TyE.lst (K := K) (TyA.cons (TyE.int (K := K)) (TyA.cons (TyE.int (K := K)) TyA.nil))) (TyA.cons (TyE.lst (K := K) (TyA.cons (TyE.int (K := K)) TyA.nil)) TyA.nil))) TyA.nil))) TyA.nil)))))) ?_
  refine Nx.for_ (ι := Unit) (vs := [3]) (fun _ _ => Wd.cap pm pg n ne) (fun _ _ => [none, some (isV (.ref pm)), some (lstOf K (shapes0.map (shP K))), none, none, none, none, none, none, none, none, none, none]) (fun _ _ => True) (TyI.range1 (K := K) (n := 1 + min 1 (ns.length / 16)) (TyA.cons ((TyE.op (TyE.int (K := K)) (TyE.cb (TyA.cons (TyE.int (K := K)) (TyA.cons (TyE.op (TyE.cb (TyA.cons (TyE.var rfl) TyA.nil) ra_lenL) (TyE.int (K := K)) (r_intC (by show (0 : Int) < 16 ∧ (16 : Int) < 1073741824; decide))) TyA.nil)) ra_min) (r_int0 (K := K))).imp fun v H p => ?_) TyA.nil) (by omega)) () trivial rfl (Le.drop (Le.same (Le.same (Le.same (Le.refl _))))) (fun i Pt x B' hP _ hB => ?_) fun x B' _ hB => ?_
  · have e : ∀ L : Nat, (1 : Int) + (if (((L : Nat) : Int) / 16) < 1 then (((L : Nat) : Int) / 16) else 1) = ((1 + min 1 (L / 16) : Nat) : Int) := fun L => by
      split <;> omega
    rw [List.length_map] at p
    rw [← e]
    exact p
  · refine ⟨_, TyG.name, fun N hN => ?_⟩
    refine Nx.sSet (TyE.fn (⟨pm, pg, n, shapes0⟩ : ScA) (by exact ⟨c, by show (1 : Nat) ≤ 5; decide, by show (5 : Nat) ≤ 1000; decide, shapes_ok⟩) (TyA.cons (TyE.var rfl) (TyA.cons (TyE.var rfl) TyA.nil))) ?_
    refine Nx.open (φ := SmallS) (F := schP K) 4 rfl fun S hS => ?_
    refine Nx.sSet (P := exP (fun gs : List Fl => (2 ≤ gs.length ∧ gs.length ≤ 3) ∧ ∀ f ∈ gs, FlS S f) (gsP K)) ((TyE.rngX (K := K) (φ := fun k => 2 ≤ k ∧ k ≤ 3) (F := fun k => frP (fun _ => True) (lstN ((List.range k).map fun _ => flSP K S))) (TyA.cons (TyE.op (P2 := below K 2) (TyE.int (K := K)) (TyE.drawB (top := 2) c (by decide) (by decide) (TyE.var rfl) (TyE.int (K := K))) (R2T.ex2 fun k hk => (r_int0 (K := K)).imp fun v H p => ?_)) TyA.nil) fun k hk => ?_).imp fun v H p => ?_) ?_
    · refine ⟨2 + k, by omega, ?_⟩
      have e1 : (2 : Int) + (k : Nat) = ((2 + k : Nat) : Int) := by omega
      show (rep K (.int ((2 + k : Nat) : Int))).h v H
      rw [← e1]; exact p
    · show TyE _ _ _ (frP (fun _ => True) (lstN ((List.range k).map fun _ => flSP K S)))
      rw [show (List.range k).map (fun _ => flSP K S) = ((List.range k).filter fun _ => true).map (fun _ => flSP K S) by rw [List.filter_eq_self.mpr fun _ _ => rfl]]
      exact TyE.lcFN (K := K) (φ := fun _ => True) (List.range k) (fun i : Nat => rep K (.int ((0 : Int) + i))) (fun _ => true) (fun _ => flSP K S) (fun _ _ _ _ => trivial) (TyI.range1 TyA.int1 (by omega)) (by rw [List.length_range]; omega) fun i hi p Qs hp => ⟨_, TyG.name (i := 12), TyT.yes, fun _ => TyE.fn (⟨pm, pg, n, S, 2⟩ : LfA) (by exact ⟨Cap.ownL c, hS, Nat.le_refl _⟩) (TyA.cons (TyE.var rfl) (TyA.cons (TyE.var rfl) (TyA.cons (TyE.int (K := K)) (TyA.cons (TyE.int (K := K)) TyA.nil))))⟩
    · obtain ⟨k, hk, ⟨a, us, e, hs, p⟩, _⟩ := p
      obtain ⟨gs, e1, e2, e3⟩ := pds_ex (φ := fun _ : Nat => FlS S) p
      rw [List.length_range] at e1
      refine ⟨gs, ⟨by omega, fun f hf => ?_⟩, a, us, e, hs, e3⟩
      obtain ⟨m, hm, rfl⟩ := List.mem_iff_getElem.mp hf
      exact e2 m m gs[m] (List.getElem?_range (by omega)) (List.getElem?_eq_getElem hm)
    refine Nx.open (φ := fun gs : List Fl => (2 ≤ gs.length ∧ gs.length ≤ 3) ∧ ∀ f ∈ gs, FlS S f) (F := gsP K) 5 rfl fun gs ⟨⟨hl2, hl3⟩, hgs⟩ => ?_
    refine Nx.sPar (P1 := flSP K S) (P2 := flSP K S) (TyA.cons (TyE.fn (⟨pm, pg, n, S, 1⟩ : LfA) (by exact ⟨c, hS, by show (1 : Nat) ≤ 2; decide⟩) (TyA.cons (TyE.var rfl) (TyA.cons (TyE.var rfl) (TyA.cons (TyE.int (K := K)) (TyA.cons (TyE.int (K := K)) TyA.nil))))) (TyA.cons (TyE.fn (⟨pm, pg, n, S, 1⟩ : LfA) (by exact ⟨c, hS, by show (1 : Nat) ≤ 2; decide⟩) (TyA.cons (TyE.var rfl) (TyA.cons (TyE.var rfl) (TyA.cons (TyE.int (K := K)) (TyA.cons (TyE.int (K := K)) TyA.nil))))) TyA.nil)) ?_
    refine Nx.open (φ := FlS S) (F := fun f => rep K f.enc) 8 rfl fun g hg => ?_
    refine Nx.open (φ := FlS S) (F := fun f => rep K f.enc) 9 rfl fun f hf => ?_
    have ask : ∀ x, FlM S x → Ask S gs x := fun x hx => ⟨hS, fun y hy => (hgs y hy).m, hx, by omega⟩
    refine Nx.sIfF (TyT.or (b1 := false) (b2 := false) (TyT.notB (b := true) (TyT.tB (TyE.fn (⟨pm, pg, n, S, gs, g⟩ : MrA) (by exact ⟨c, hS, hgs, hg, by show 1 ≤ gs.length; omega, hl3⟩) (TyA.cons (TyE.var rfl) (TyA.cons (TyE.var rfl) (TyA.cons (TyE.var rfl) (TyA.cons (TyE.var rfl) TyA.nil))))))) fun _ => TyT.notB (b := true) (TyT.tB (TyE.fn (⟨S, gs, f, g⟩ : CrA) (by exact ⟨hS, hgs, hf, hg, hl3⟩) (TyA.cons (TyE.var rfl) (TyA.cons (TyE.var rfl) (TyA.cons (TyE.var rfl) (TyA.cons (TyE.var rfl) TyA.nil))))))) ?_
    have ask2 : Ask S ([g] ++ gs) g := ⟨hS, fun y hy => by
      rcases List.mem_append.mp hy with h | h
      · have e : y = g := by simpa using h
        rw [e]; exact hg.m
      · exact (hgs y h).m, hg.m, by rw [List.length_append]; show 1 + gs.length ≤ 8; omega⟩
    refine Nx.sIfF (TyT.or (b1 := false) (b2 := false) (TyT.notB (b := true) (TyT.tB (TyE.bT (TyE.shows ask2 (TyE.var rfl) (TyE.op (P1 := gsP K [g]) (TyE.lstN (TyA.cons (TyE.var rfl) TyA.nil)) (TyE.var rfl) (r_gsCat (by show 1 + gs.length ≤ 1000; omega))) (TyE.var rfl)) (shown_mem ask2 (by simp))))) fun _ => TyT.notB (b := true) (TyT.tB (TyE.showsT (gs := gs) (fun x hx => ask x (hgs x hx).m) (TyE.var rfl) (TyE.var rfl) (TyE.of gs (fun f => rep K f.enc) c (TyE.var rfl) ((TyE.var rfl).imp fun _ _ => lstN_of) (by omega) (by omega))))) ?_
    have hgv : g.vars.length ≤ 2 := hg.1.k2
    refine Nx.sPar (P1 := lstOf K (g.vars.map (pairP K))) (P2 := rep K g.body.enc) (TyA.cons (TyE.fn g (by exact hgv) (TyA.cons (TyE.var rfl) TyA.nil)) (TyA.cons (TyE.fn g (by exact hgv) (TyA.cons (TyE.var rfl) TyA.nil)) TyA.nil)) ?_
    have hdp := hg.2.2
    have hno : FlM S ⟨g.vars, .neg g.body⟩ := ⟨hg.1, hg.2.1, by show g.body.deep + 1 ≤ 9; omega⟩
    have hbo : FlM S ⟨g.vars, .bin .and g.body (.neg g.body)⟩ := ⟨hg.1, ⟨hg.2.1, hg.2.1⟩, by show max g.body.deep (g.body.deep + 1) + 1 ≤ 9; omega⟩
    refine Nx.sSet (P := rep K (Fl.mk g.vars (.neg g.body)).enc) (TyE.fn (⟨g.vars, (Bd.neg g.body).enc⟩ : OvA) trivial (TyA.cons (TyE.var rfl) (TyA.cons (TyE.tupD (K := K) (ds := [.str "not", g.body.enc]) (TyA.cons TyE.str (TyA.cons (TyE.var rfl) TyA.nil))) TyA.nil))) ?_
    refine Nx.sSet (P := rep K (Fl.mk g.vars (.bin .and g.body (.neg g.body))).enc) (TyE.fn (⟨g.vars, (Bd.bin .and g.body (.neg g.body)).enc⟩ : OvA) trivial (TyA.cons (TyE.var rfl) (TyA.cons (TyE.tupD (K := K) (ds := [.str "and", g.body.enc, (Bd.neg g.body).enc]) (TyA.cons TyE.str (TyA.cons (TyE.var rfl) (TyA.cons (TyE.tupD (K := K) (ds := [.str "not", g.body.enc]) (TyA.cons TyE.str (TyA.cons (TyE.var rfl) TyA.nil))) TyA.nil)))) TyA.nil))) ?_
    refine Nx.ifF (TyT.bE (TyT.test (TyE.op (TyE.andV (TyE.shows (ask g hg.m) (TyE.var rfl) (TyE.var rfl) (TyE.var rfl)) fun _ => TyE.shows (ask _ hno) (TyE.var rfl) (TyE.var rfl) (TyE.var rfl)) (TyE.shows (ask _ hbo) (TyE.var rfl) (TyE.var rfl) (TyE.var rfl)) r_neB)) ?_) ?_
    · rw [shown_both (ask g hg.m) (by omega), decide_eq_true rfl] <;> rfl
    · exact (hN () trivial).le (Le.drop (Le.same (Le.same (Le.drop (Le.drop (Le.drop (Le.drop (Le.drop (Le.drop (Le.drop (Le.drop (Le.drop (Le.drop Le.nil)))))))))))))
  · dsimp only
    exact Nx.ret (P := rep K (.bool true)) TyE.bl fun v H' _ _ p => by
      have e : v = .bl true := dp_bl p
      rw [e]; exact hQ H'
end
end Tk
namespace Tk
open PySem PySem.Spec PyProof.Rows L2
/-! ### every def keeps its promise -/
theorem fn_vac {P : Program} {w : World} {K : PySem.W.Frag} {mg : Str → Option Value} {base : Heap} {k : Nat} {f : Addr} {fd : FuncData} {ps : List Str} {sp : Sp} (hv : ∀ vs H Q E, ¬ sp vs H Q E) : FnOk P w K mg base CX0 k f fd ps sp :=
  ⟨fun vs H Q E h => (hv vs H Q E h).elim, fun _ _ _ H _ _ vs Q E _ _ _ _ h => (hv vs H Q E h).elim⟩
theorem sp_vac {δ : Type} {pre : δ → List Pd} {post : δ → Pd} {ok : δ → Wd → Prop} (h : ∀ x W, ¬ ok x W) : ∀ vs H Q E, ¬ SpF pre post ok vs H Q E := fun vs H Q E ⟨W, x, hx, _⟩ => h x W hx
section
variable {P : Program} {w : World} {K : PySem.W.Frag} {mg : Str → Option Value} {h0 h : Heap}
theorem tx_ok (X : K.In h) (G : h.Ns mainGlobals mg) (c : He.SaysX faL fnL [] [] exL w h0 K) : Tx K mg :=
  ⟨(He.free_ok X G (c.t.d.fact 64 (f := .free "all") rfl)), (He.free_ok X G (c.t.d.fact 65 (f := .free "any") rfl)), (He.free_ok X G (c.t.d.fact 66 (f := .free "dict") rfl)), (He.free_ok X G (c.t.d.fact 67 (f := .free "enumerate") rfl)), (He.free_ok X G (c.t.d.fact 68 (f := .free "isinstance") rfl)), (He.free_ok X G (c.t.d.fact 69 (f := .free "len") rfl)), (He.free_ok X G (c.t.d.fact 70 (f := .free "list") rfl)), (He.free_ok X G (c.t.d.fact 71 (f := .free "max") rfl)), (He.free_ok X G (c.t.d.fact 72 (f := .free "min") rfl)), (He.free_ok X G (c.t.d.fact 73 (f := .free "range") rfl)), (He.free_ok X G (c.t.d.fact 74 (f := .free "sorted") rfl)), (He.free_ok X G (c.t.d.fact 75 (f := .free "str") rfl)), (He.free_ok X G (c.t.d.fact 76 (f := .free "tuple") rfl)), (He.free_ok X G (c.t.d.fact 77 (f := .free "zip") rfl)), (He.str_ok X G (c.t.d.fact 61 (f := .str "SMALL" "abcdefghijklmnopqrstuvwxyz") rfl)), (He.int_ok X G (c.t.d.fact 53 (f := .int "LONGEST" 8) rfl)), (He.int_ok X G (c.t.d.fact 54 (f := .int "MOST_SORTS" 3) rfl)), (He.int_ok X G (c.t.d.fact 55 (f := .int "MOST_TIES" 5) rfl)), (He.int_ok X G (c.t.d.fact 56 (f := .int "MOST_COLUMNS" 3) rfl)), (He.int_ok X G (c.t.d.fact 57 (f := .int "FEW" 4) rfl)), (He.int_ok X G (c.t.d.fact 58 (f := .int "SAYINGS" 8) rfl)), (He.int_ok X G (c.t.d.fact 59 (f := .int "OPEN" 1) rfl)), (He.int_ok X G (c.t.d.fact 60 (f := .int "SURE" 2) rfl)), (He.str_ok X G (c.t.d.fact 62 (f := .str "SORT_LETTERS" "abc") rfl)), (He.str_ok X G (c.t.d.fact 63 (f := .str "LATE_LETTERS" "abcdefghi") rfl)), ⟨_, (He.glo_ok X G (c.t.d.fact 38 (f := .glo "PAIRS") rfl)), fun H => He.tupB_ok (vs := [.str "and", .str "or", .str "if"]) c.more H⟩⟩
abbrev cF (K : PySem.W.Frag) : Addr := He.ga K "FlatFinding"
theorem to_ok (X : K.In h) (G : h.Ns mainGlobals mg) (c : He.SaysX faL fnL [] [] exL w h0 K) : To K (cF K) := ⟨He.cls_ok (c.t.d.fact 39 (f := .cls "FlatFinding") rfl), He.noat_ok (c.t.d.fact 41 (f := .noat "FlatFinding" "own_scheme") rfl), He.noat_ok (c.t.d.fact 42 (f := .noat "FlatFinding" "own_atoms") rfl), He.noat_ok (c.t.d.fact 43 (f := .noat "FlatFinding" "flat_rows") rfl), He.noat_ok (c.t.d.fact 44 (f := .noat "FlatFinding" "last_goal") rfl), He.noat_ok (c.t.d.fact 45 (f := .noat "FlatFinding" "known_rows") rfl)⟩
theorem at_is_of (X : K.In h) (G : h.Ns mainGlobals mg) (c : He.SaysX faL fnL [] [] exL w h0 K) {base : Heap} (HB : K.In base) (GB : base.Ns mainGlobals mg) : DefOk P w K mg base (1) "is_of" ["thing", "signs", "most"] (spIsOf K) := by
  obtain ⟨fd, F⟩ := c.t.d.def_ 0 (d := dIsOf) rfl
  exact ⟨_, fd, ok_is_of (base := base) (tx_ok X G c) F , (He.glo_ok X G (c.t.d.fact 0 (f := .glo "is_of") rfl)), F.kp, F.bindsN fun _ _ _ _ _ _ us hl => match us, hl with | [_, _, _], _ => rfl⟩
theorem at_is_name (X : K.In h) (G : h.Ns mainGlobals mg) (c : He.SaysX faL fnL [] [] exL w h0 K) {base : Heap} (HB : K.In base) (GB : base.Ns mainGlobals mg) : DefOk P w K mg base (2) "is_name" ["thing"] (spIsName K) := by
  obtain ⟨fd, F⟩ := c.t.d.def_ 1 (d := dIsName) rfl
  exact ⟨_, fd, ok_is_name (base := base) (tx_ok X G c) F (D_is_of := at_is_of X G c HB GB), (He.glo_ok X G (c.t.d.fact 1 (f := .glo "is_name") rfl)), F.kp, F.bindsN fun _ _ _ _ _ _ us hl => match us, hl with | [_], _ => rfl⟩
theorem at_is_rising (X : K.In h) (G : h.Ns mainGlobals mg) (c : He.SaysX faL fnL [] [] exL w h0 K) {base : Heap} (HB : K.In base) (GB : base.Ns mainGlobals mg) : DefOk P w K mg base (3) "is_rising" ["thing"] (spIsRising K) := by
  obtain ⟨fd, F⟩ := c.t.d.def_ 2 (d := dIsRising) rfl
  exact ⟨_, fd, ok_is_rising (base := base) (tx_ok X G c) F (D_is_name := at_is_name X G c HB GB), (He.glo_ok X G (c.t.d.fact 2 (f := .glo "is_rising") rfl)), F.kp, F.bindsN fun _ _ _ _ _ _ us hl => match us, hl with | [_], _ => rfl⟩
theorem at_is_columns (X : K.In h) (G : h.Ns mainGlobals mg) (c : He.SaysX faL fnL [] [] exL w h0 K) {base : Heap} (HB : K.In base) (GB : base.Ns mainGlobals mg) : DefOk P w K mg base (1) "is_columns" ["sorts", "thing"] (spIsColumns K) := by
  obtain ⟨fd, F⟩ := c.t.d.def_ 3 (d := dIsColumns) rfl
  exact ⟨_, fd, ok_is_columns (base := base) (tx_ok X G c) F , (He.glo_ok X G (c.t.d.fact 3 (f := .glo "is_columns") rfl)), F.kp, F.bindsN fun _ _ _ _ _ _ us hl => match us, hl with | [_, _], _ => rfl⟩
theorem at_is_tie (X : K.In h) (G : h.Ns mainGlobals mg) (c : He.SaysX faL fnL [] [] exL w h0 K) {base : Heap} (HB : K.In base) (GB : base.Ns mainGlobals mg) : DefOk P w K mg base (3) "is_tie" ["sorts", "thing"] (spIsTie K) := by
  obtain ⟨fd, F⟩ := c.t.d.def_ 4 (d := dIsTie) rfl
  exact ⟨_, fd, ok_is_tie (base := base) (tx_ok X G c) F (D_is_columns := at_is_columns X G c HB GB) (D_is_name := at_is_name X G c HB GB), (He.glo_ok X G (c.t.d.fact 4 (f := .glo "is_tie") rfl)), F.kp, F.bindsN fun _ _ _ _ _ _ us hl => match us, hl with | [_, _], _ => rfl⟩
theorem at_is_scheme (X : K.In h) (G : h.Ns mainGlobals mg) (c : He.SaysX faL fnL [] [] exL w h0 K) {base : Heap} (HB : K.In base) (GB : base.Ns mainGlobals mg) : DefOk P w K mg base (4) "is_scheme" ["thing"] (spIsScheme K) := by
  obtain ⟨fd, F⟩ := c.t.d.def_ 5 (d := dIsScheme) rfl
  exact ⟨_, fd, ok_is_scheme (base := base) (tx_ok X G c) F (D_is_rising := at_is_rising X G c HB GB) (D_is_tie := at_is_tie X G c HB GB), (He.glo_ok X G (c.t.d.fact 5 (f := .glo "is_scheme") rfl)), F.kp, F.bindsN fun _ _ _ _ _ _ us hl => match us, hl with | [_], _ => rfl⟩
theorem at_need_scheme (X : K.In h) (G : h.Ns mainGlobals mg) (c : He.SaysX faL fnL [] [] exL w h0 K) {base : Heap} (HB : K.In base) (GB : base.Ns mainGlobals mg) : DefOk P w K mg base (5) "need_scheme" ["scheme"] (spNeedScheme K) := by
  obtain ⟨fd, F⟩ := c.t.d.def_ 6 (d := dNeedScheme) rfl
  exact ⟨_, fd, ok_need_scheme (base := base) (tx_ok X G c) F (D_is_scheme := at_is_scheme X G c HB GB), (He.glo_ok X G (c.t.d.fact 6 (f := .glo "need_scheme") rfl)), F.kp, F.bindsN fun _ _ _ _ _ _ us hl => match us, hl with | [_], _ => rfl⟩
theorem at_has_word (X : K.In h) (G : h.Ns mainGlobals mg) (c : He.SaysX faL fnL [] [] exL w h0 K) {base : Heap} (HB : K.In base) (GB : base.Ns mainGlobals mg) : DefOk P w K mg base (1) "has_word" ["thing", "word", "many"] (spHasWord K) := by
  obtain ⟨fd, F⟩ := c.t.d.def_ 7 (d := dHasWord) rfl
  exact ⟨_, fd, ok_has_word (base := base) (tx_ok X G c) F , (He.glo_ok X G (c.t.d.fact 7 (f := .glo "has_word") rfl)), F.kp, F.bindsN fun _ _ _ _ _ _ us hl => match us, hl with | [_, _, _], _ => rfl⟩
theorem at_row_vars (X : K.In h) (G : h.Ns mainGlobals mg) (c : He.SaysX faL fnL [] [] exL w h0 K) {base : Heap} (HB : K.In base) (GB : base.Ns mainGlobals mg) : ∀ n : Nat, DefOk P w K mg base (n + 2) "row_vars" ["thing"] (spRowVars K n)
  | 0 => by
    obtain ⟨fd, F⟩ := c.t.d.def_ 8 (d := dRowVars) rfl
    exact ⟨_, fd, fn_vac (sp_vac fun x W z => absurd z.2 (Nat.not_lt_zero _)), (He.glo_ok X G (c.t.d.fact 8 (f := .glo "row_vars") rfl)), F.kp, F.bindsN fun _ _ _ _ _ _ us hl => match us, hl with | [_], _ => rfl⟩
  | n + 1 => by
    have ih := at_row_vars X G c HB GB n
    obtain ⟨fd, F⟩ := c.t.d.def_ 8 (d := dRowVars) rfl
    exact ⟨_, fd, ok_row_vars (base := base) (tx_ok X G c) F (D_row_vars := ih) (D_is_name := at_is_name X G c HB GB) (D_has_word := at_has_word X G c HB GB), (He.glo_ok X G (c.t.d.fact 8 (f := .glo "row_vars") rfl)), F.kp, F.bindsN fun _ _ _ _ _ _ us hl => match us, hl with | [_], _ => rfl⟩
theorem at_kind_of_ties (X : K.In h) (G : h.Ns mainGlobals mg) (c : He.SaysX faL fnL [] [] exL w h0 K) {base : Heap} (HB : K.In base) (GB : base.Ns mainGlobals mg) : DefOk P w K mg base (2) "kind_of_ties" ["scheme", "thing"] (spKindOf K) := by
  obtain ⟨fd, F⟩ := c.t.d.def_ 9 (d := dKindOfTies) rfl
  exact ⟨_, fd, ok_kind_of_ties (base := base) (tx_ok X G c) F (D_has_word := at_has_word X G c HB GB), (He.glo_ok X G (c.t.d.fact 9 (f := .glo "kind_of_ties") rfl)), F.kp, F.bindsN fun _ _ _ _ _ _ us hl => match us, hl with | [_, _], _ => rfl⟩
theorem at_is_atomic (X : K.In h) (G : h.Ns mainGlobals mg) (c : He.SaysX faL fnL [] [] exL w h0 K) {base : Heap} (HB : K.In base) (GB : base.Ns mainGlobals mg) : DefOk P w K mg base (5) "is_atomic" ["scheme", "known", "thing"] (spIsAtomic K) := by
  obtain ⟨fd, F⟩ := c.t.d.def_ 10 (d := dIsAtomic) rfl
  exact ⟨_, fd, ok_is_atomic (base := base) (tx_ok X G c) F (D_kind_of_ties := at_kind_of_ties X G c HB GB) (D_row_vars := at_row_vars X G c HB GB 2) (D_has_word := at_has_word X G c HB GB), (He.glo_ok X G (c.t.d.fact 10 (f := .glo "is_atomic") rfl)), F.kp, F.bindsN fun _ _ _ _ _ _ us hl => match us, hl with | [_, _, _], _ => rfl⟩
theorem at_is_body (X : K.In h) (G : h.Ns mainGlobals mg) (c : He.SaysX faL fnL [] [] exL w h0 K) {base : Heap} (HB : K.In base) (GB : base.Ns mainGlobals mg) : ∀ n : Nat, DefOk P w K mg base (n + 6) "is_body" ["scheme", "known", "thing"] (spIsBody K n)
  | 0 => by
    obtain ⟨fd, F⟩ := c.t.d.def_ 11 (d := dIsBody) rfl
    exact ⟨_, fd, fn_vac (sp_vac fun x W z => absurd z.2.2 (Nat.not_lt_zero _)), (He.glo_ok X G (c.t.d.fact 11 (f := .glo "is_body") rfl)), F.kp, F.bindsN fun _ _ _ _ _ _ us hl => match us, hl with | [_, _, _], _ => rfl⟩
  | n + 1 => by
    have ih := at_is_body X G c HB GB n
    obtain ⟨fd, F⟩ := c.t.d.def_ 11 (d := dIsBody) rfl
    exact ⟨_, fd, ok_is_body (base := base) (tx_ok X G c) F (D_is_atomic := at_is_atomic X G c HB GB) (D_is_body := ih) (D_has_word := at_has_word X G c HB GB), (He.glo_ok X G (c.t.d.fact 11 (f := .glo "is_body") rfl)), F.kp, F.bindsN fun _ _ _ _ _ _ us hl => match us, hl with | [_, _, _], _ => rfl⟩
theorem at_flat_of (X : K.In h) (G : h.Ns mainGlobals mg) (c : He.SaysX faL fnL [] [] exL w h0 K) {base : Heap} (HB : K.In base) (GB : base.Ns mainGlobals mg) : DefOk P w K mg base (17) "flat_of" ["scheme", "thing"] (spFlatOf K) := by
  obtain ⟨fd, F⟩ := c.t.d.def_ 12 (d := dFlatOf) rfl
  exact ⟨_, fd, ok_flat_of (base := base) (tx_ok X G c) F (D_is_body := at_is_body X G c HB GB 10) (D_has_word := at_has_word X G c HB GB) (D_is_name := at_is_name X G c HB GB), (He.glo_ok X G (c.t.d.fact 12 (f := .glo "flat_of") rfl)), F.kp, F.bindsN fun _ _ _ _ _ _ us hl => match us, hl with | [_, _], _ => rfl⟩
theorem at_need_flat (X : K.In h) (G : h.Ns mainGlobals mg) (c : He.SaysX faL fnL [] [] exL w h0 K) {base : Heap} (HB : K.In base) (GB : base.Ns mainGlobals mg) : DefOk P w K mg base (18) "need_flat" ["scheme", "saying"] (spFlatOf K) := by
  obtain ⟨fd, F⟩ := c.t.d.def_ 13 (d := dNeedFlat) rfl
  exact ⟨_, fd, ok_need_flat (base := base) (tx_ok X G c) F (D_flat_of := at_flat_of X G c HB GB), (He.glo_ok X G (c.t.d.fact 13 (f := .glo "need_flat") rfl)), F.kp, F.bindsN fun _ _ _ _ _ _ us hl => match us, hl with | [_, _], _ => rfl⟩
theorem at_own_reach (X : K.In h) (G : h.Ns mainGlobals mg) (c : He.SaysX faL fnL [] [] exL w h0 K) {base : Heap} (HB : K.In base) (GB : base.Ns mainGlobals mg) : DefOk P w K mg base (18) "own_reach" ["scheme", "goal"] (spOwnReach K) := by
  obtain ⟨fd, F⟩ := c.t.d.def_ 14 (d := dOwnReach) rfl
  exact ⟨_, fd, ok_own_reach (base := base) (tx_ok X G c) F (D_flat_of := at_flat_of X G c HB GB), (He.glo_ok X G (c.t.d.fact 14 (f := .glo "own_reach") rfl)), F.kp, F.bindsN fun _ _ _ _ _ _ us hl => match us, hl with | [_, _], _ => rfl⟩
theorem at_own_standard (X : K.In h) (G : h.Ns mainGlobals mg) (c : He.SaysX faL fnL [] [] exL w h0 K) {base : Heap} (HB : K.In base) (GB : base.Ns mainGlobals mg) : DefOk P w K mg base (1) "own_standard" ["sizes"] (spStd K) := by
  obtain ⟨fd, F⟩ := c.t.d.def_ 15 (d := dOwnStandard) rfl
  exact ⟨_, fd, ok_own_standard (base := base) (tx_ok X G c) F , (He.glo_ok X G (c.t.d.fact 15 (f := .glo "own_standard") rfl)), F.kp, F.bindsN fun _ _ _ _ _ _ us hl => match us, hl with | [_], _ => rfl⟩
theorem at_all_sizes (X : K.In h) (G : h.Ns mainGlobals mg) (c : He.SaysX faL fnL [] [] exL w h0 K) {base : Heap} (HB : K.In base) (GB : base.Ns mainGlobals mg) : DefOk P w K mg base (1) "all_sizes" ["most"] (spAllSizes K) := by
  obtain ⟨fd, F⟩ := c.t.d.def_ 16 (d := dAllSizes) rfl
  exact ⟨_, fd, ok_all_sizes (base := base) (tx_ok X G c) F , (He.glo_ok X G (c.t.d.fact 16 (f := .glo "all_sizes") rfl)), F.kp, F.bindsN fun _ _ _ _ _ _ us hl => match us, hl with | [_], _ => rfl⟩
theorem at_choices_of (X : K.In h) (G : h.Ns mainGlobals mg) (c : He.SaysX faL fnL [] [] exL w h0 K) {base : Heap} (HB : K.In base) (GB : base.Ns mainGlobals mg) : DefOk P w K mg base (1) "choices_of" ["names", "atoms_by"] (spChoices K) := by
  obtain ⟨fd, F⟩ := c.t.d.def_ 17 (d := dChoicesOf) rfl
  exact ⟨_, fd, ok_choices_of (base := base) (tx_ok X G c) F , (He.glo_ok X G (c.t.d.fact 17 (f := .glo "choices_of") rfl)), F.kp, F.bindsN fun _ _ _ _ _ _ us hl => match us, hl with | [_, _], _ => rfl⟩
theorem at_F_opened (X : K.In h) (G : h.Ns mainGlobals mg) (c : He.SaysX faL fnL [] [] exL w h0 K) {base : Heap} (HB : K.In base) (GB : base.Ns mainGlobals mg) : MethOk P w K mg base (18) (cF K) "opened" ["self", "saying"] (spOpened K (cF K)) := by
  obtain ⟨fd, F⟩ := c.t.d.def_ 19 (d := dFOpened) rfl
  exact ⟨_, fd, ok_FlatFinding_opened (base := base) (tx_ok X G c) F (to_ok X G c) (D_choices_of := at_choices_of X G c HB GB) (D_flat_of := at_flat_of X G c HB GB), He.meth_ok (c.t.d.fact 46 (f := .meth "FlatFinding" "opened") rfl), F.bindsN fun _ _ _ _ _ _ us hl => match us, hl with | [_, _], _ => rfl⟩
theorem at_F_row_of (X : K.In h) (G : h.Ns mainGlobals mg) (c : He.SaysX faL fnL [] [] exL w h0 K) {base : Heap} (HB : K.In base) (GB : base.Ns mainGlobals mg) : MethOk P w K mg base (5) (cF K) "row_of" ["self", "said", "choice"] (spRowOf K (cF K)) := by
  obtain ⟨fd, F⟩ := c.t.d.def_ 20 (d := dFRowOf) rfl
  exact ⟨_, fd, ok_FlatFinding_row_of (base := base) (tx_ok X G c) F (to_ok X G c) (D_row_vars := at_row_vars X G c HB GB 2), He.meth_ok (c.t.d.fact 47 (f := .meth "FlatFinding" "row_of") rfl), F.bindsN fun _ _ _ _ _ _ us hl => match us, hl with | [_, _, _], _ => rfl⟩
theorem at_F_sureness (X : K.In h) (G : h.Ns mainGlobals mg) (c : He.SaysX faL fnL [] [] exL w h0 K) {base : Heap} (HB : K.In base) (GB : base.Ns mainGlobals mg) : ∀ n : Nat, MethOk P w K mg base (n + 5) (cF K) "sureness" ["self", "said", "choice"] (spSure K P w (cF K) n)
  | 0 => by
    obtain ⟨fd, F⟩ := c.t.d.def_ 21 (d := dFSureness) rfl
    exact ⟨_, fd, fn_vac (sp_vac fun x W z => absurd z.2.2 (Nat.not_lt_zero _)), He.meth_ok (c.t.d.fact 48 (f := .meth "FlatFinding" "sureness") rfl), F.bindsN fun _ _ _ _ _ _ us hl => match us, hl with | [_, _, _], _ => rfl⟩
  | n + 1 => by
    have ih := at_F_sureness X G c HB GB n
    obtain ⟨fd, F⟩ := c.t.d.def_ 21 (d := dFSureness) rfl
    exact ⟨_, fd, ok_FlatFinding_sureness (base := base) (tx_ok X G c) F (to_ok X G c) (D_row_vars := at_row_vars X G c HB GB 2) (D_sureness := ih) (D_row_of := at_F_row_of X G c HB GB), He.meth_ok (c.t.d.fact 48 (f := .meth "FlatFinding" "sureness") rfl), F.bindsN fun _ _ _ _ _ _ us hl => match us, hl with | [_, _, _], _ => rfl⟩
theorem at_F_open_row (X : K.In h) (G : h.Ns mainGlobals mg) (c : He.SaysX faL fnL [] [] exL w h0 K) {base : Heap} (HB : K.In base) (GB : base.Ns mainGlobals mg) : ∀ n : Nat, MethOk P w K mg base (n + 5) (cF K) "open_row" ["self", "said", "choice"] (spOpenRow K P w (cF K) n)
  | 0 => by
    obtain ⟨fd, F⟩ := c.t.d.def_ 22 (d := dFOpenRow) rfl
    exact ⟨_, fd, fn_vac (sp_vac fun x W z => absurd z.2.2 (Nat.not_lt_zero _)), He.meth_ok (c.t.d.fact 49 (f := .meth "FlatFinding" "open_row") rfl), F.bindsN fun _ _ _ _ _ _ us hl => match us, hl with | [_, _, _], _ => rfl⟩
  | n + 1 => by
    have ih := at_F_open_row X G c HB GB n
    obtain ⟨fd, F⟩ := c.t.d.def_ 22 (d := dFOpenRow) rfl
    exact ⟨_, fd, ok_FlatFinding_open_row (base := base) (tx_ok X G c) F (to_ok X G c) (D_open_row := ih) (D_row_of := at_F_row_of X G c HB GB), He.meth_ok (c.t.d.fact 49 (f := .meth "FlatFinding" "open_row") rfl), F.bindsN fun _ _ _ _ _ _ us hl => match us, hl with | [_, _, _], _ => rfl⟩
theorem at_F_looked (X : K.In h) (G : h.Ns mainGlobals mg) (c : He.SaysX faL fnL [] [] exL w h0 K) {base : Heap} (HB : K.In base) (GB : base.Ns mainGlobals mg) : MethOk P w K mg base (16) (cF K) "looked" ["self"] (spLooked K P w (cF K)) := by
  obtain ⟨fd, F⟩ := c.t.d.def_ 23 (d := dFLooked) rfl
  exact ⟨_, fd, ok_FlatFinding_looked (base := base) (tx_ok X G c) F (to_ok X G c) (D_open_row := at_F_open_row X G c HB GB 10) (D_sureness := at_F_sureness X G c HB GB 10), He.meth_ok (c.t.d.fact 50 (f := .meth "FlatFinding" "looked") rfl), F.bindsN fun _ _ _ _ _ _ us hl => match us, hl with | [_], _ => rfl⟩
theorem at_F_world_so (X : K.In h) (G : h.Ns mainGlobals mg) (c : He.SaysX faL fnL [] [] exL w h0 K) {base : Heap} (HB : K.In base) (GB : base.Ns mainGlobals mg) : MethOk P w K mg base (1) (cF K) "world_so" ["self"] (spWorldSo K P w (cF K)) := by
  obtain ⟨fd, F⟩ := c.t.d.def_ 24 (d := dFWorldSo) rfl
  exact ⟨_, fd, ok_FlatFinding_world_so (base := base) (tx_ok X G c) F (to_ok X G c) , He.meth_ok (c.t.d.fact 51 (f := .meth "FlatFinding" "world_so") rfl), F.bindsN fun _ _ _ _ _ _ us hl => match us, hl with | [_], _ => rfl⟩
theorem at_F_found (X : K.In h) (G : h.Ns mainGlobals mg) (c : He.SaysX faL fnL [] [] exL w h0 K) {base : Heap} (HB : K.In base) (GB : base.Ns mainGlobals mg) : ∀ n : Nat, MethOk P w K mg base (n + 16) (cF K) "found" ["self"] (spFound K P w (cF K) n)
  | 0 => by
    obtain ⟨fd, F⟩ := c.t.d.def_ 25 (d := dFFound) rfl
    exact ⟨_, fd, fn_vac (fun vs H Q E ⟨_, _, _, z, _⟩ => z.fuel), He.meth_ok (c.t.d.fact 52 (f := .meth "FlatFinding" "found") rfl), F.bindsN fun _ _ _ _ _ _ us hl => match us, hl with | [_], _ => rfl⟩
  | n + 1 => by
    have ih := at_F_found X G c HB GB n
    obtain ⟨fd, F⟩ := c.t.d.def_ 25 (d := dFFound) rfl
    exact ⟨_, fd, ok_FlatFinding_found (base := base) (tx_ok X G c) F (to_ok X G c) (D_found := ih) (D_world_so := at_F_world_so X G c HB GB) (D_looked := at_F_looked X G c HB GB), He.meth_ok (c.t.d.fact 52 (f := .meth "FlatFinding" "found") rfl), F.bindsN fun _ _ _ _ _ _ us hl => match us, hl with | [_], _ => rfl⟩
theorem at_F___init__ (X : K.In h) (G : h.Ns mainGlobals mg) (c : He.SaysX faL fnL [] [] exL w h0 K) {base : Heap} (HB : K.In base) (GB : base.Ns mainGlobals mg) : MakeOk P w K mg base (19) (cF K) ["self", "scheme", "atoms", "given", "goal"] (spInit K P w (cF K)) := by
  obtain ⟨fd, F⟩ := c.t.d.def_ 18 (d := dFInit) rfl
  exact ⟨_, fd, ok_FlatFinding___init__ (base := base) (tx_ok X G c) F (to_ok X G c) (D_opened := at_F_opened X G c HB GB), He.mkr_ok (c.t.d.fact 40 (f := .mkr "FlatFinding") rfl), (He.glo_ok X G (c.t.d.fact 37 (f := .glo "FlatFinding") rfl)), F.bindsN fun _ _ _ _ _ _ us hl => match us, hl with | [_, _, _, _, _], _ => rfl⟩
theorem at_need_goal (X : K.In h) (G : h.Ns mainGlobals mg) (c : He.SaysX faL fnL [] [] exL w h0 K) {base : Heap} (HB : K.In base) (GB : base.Ns mainGlobals mg) : DefOk P w K mg base (19) "need_goal" ["scheme", "given", "goal"] (spNeedGoal K) := by
  obtain ⟨fd, F⟩ := c.t.d.def_ 26 (d := dNeedGoal) rfl
  exact ⟨_, fd, ok_need_goal (base := base) (tx_ok X G c) F (D_need_flat := at_need_flat X G c HB GB) (D_need_scheme := at_need_scheme X G c HB GB), (He.glo_ok X G (c.t.d.fact 18 (f := .glo "need_goal") rfl)), F.kp, F.bindsN fun _ _ _ _ _ _ us hl => match us, hl with | [_, _, _], _ => rfl⟩
theorem at_own_entail (X : K.In h) (G : h.Ns mainGlobals mg) (c : He.SaysX faL fnL [] [] exL w h0 K) {base : Heap} (HB : K.In base) (GB : base.Ns mainGlobals mg) : DefOk P w K mg base (40) "own_entail" ["scheme", "given", "goal"] (spEntail K) := by
  obtain ⟨fd, F⟩ := c.t.d.def_ 27 (d := dOwnEntail) rfl
  exact ⟨_, fd, ok_own_entail (base := base) (tx_ok X G c) F (to_ok X G c) (D_all_sizes := at_all_sizes X G c HB GB) (D_own_reach := at_own_reach X G c HB GB) (D_own_standard := at_own_standard X G c HB GB) (D_found := at_F_found X G c HB GB 13) (D_FlatFinding := at_F___init__ X G c HB GB), (He.glo_ok X G (c.t.d.fact 19 (f := .glo "own_entail") rfl)), F.kp, F.bindsN fun _ _ _ _ _ _ us hl => match us, hl with | [_, _, _], _ => rfl⟩
theorem at_entail (X : K.In h) (G : h.Ns mainGlobals mg) (c : He.SaysX faL fnL [] [] exL w h0 K) {base : Heap} (HB : K.In base) (GB : base.Ns mainGlobals mg) : DefOk P w K mg base (41) "entail" ["scheme", "given", "goal"] (spEntail K) := by
  obtain ⟨fd, F⟩ := c.t.d.def_ 28 (d := dEntail) rfl
  exact ⟨_, fd, ok_entail (base := base) (tx_ok X G c) F (D_own_entail := at_own_entail X G c HB GB) (D_need_goal := at_need_goal X G c HB GB), (He.glo_ok X G (c.t.d.fact 20 (f := .glo "entail") rfl)), F.kp, F.bindsN fun _ _ _ _ _ _ us hl => match us, hl with | [_, _, _], _ => rfl⟩
theorem at__law_begun (X : K.In h) (G : h.Ns mainGlobals mg) (c : He.SaysX faL fnL [] [] exL w h0 K) {base : Heap} (HB : K.In base) (GB : base.Ns mainGlobals mg) : DefOk P w K mg base (1) "_law_begun" ["_law_script"] (spBegun K) := by
  obtain ⟨fd, F⟩ := c.t.d.def_ 29 (d := dLBegun) rfl
  exact ⟨_, fd, ok__law_begun (base := base) (tx_ok X G c) F , (He.glo_ok X G (c.t.d.fact 21 (f := .glo "_law_begun") rfl)), F.kp, F.bindsN fun _ _ _ _ _ _ us hl => match us, hl with | [_], _ => rfl⟩
theorem at__law_draw (X : K.In h) (G : h.Ns mainGlobals mg) (c : He.SaysX faL fnL [] [] exL w h0 K) {base : Heap} (HB : K.In base) (GB : base.Ns mainGlobals mg) : DefOk P w K mg base (1) "_law_draw" ["_law_m", "_law_top"] (spDraw K) := by
  obtain ⟨fd, F⟩ := c.t.d.def_ 30 (d := dLDraw) rfl
  exact ⟨_, fd, ok__law_draw (base := base) (tx_ok X G c) F , (He.glo_ok X G (c.t.d.fact 22 (f := .glo "_law_draw") rfl)), F.kp, F.bindsN fun _ _ _ _ _ _ us hl => match us, hl with | [_, _], _ => rfl⟩
theorem at__law_of (X : K.In h) (G : h.Ns mainGlobals mg) (c : He.SaysX faL fnL [] [] exL w h0 K) {base : Heap} (HB : K.In base) (GB : base.Ns mainGlobals mg) : DefOk P w K mg base (2) "_law_of" ["_law_m", "_law_some"] (spOf K) := by
  obtain ⟨fd, F⟩ := c.t.d.def_ 31 (d := dLOf) rfl
  exact ⟨_, fd, ok__law_of (base := base) (tx_ok X G c) F (D__law_draw := at__law_draw X G c HB GB), (He.glo_ok X G (c.t.d.fact 23 (f := .glo "_law_of") rfl)), F.kp, F.bindsN fun _ _ _ _ _ _ us hl => match us, hl with | [_, _], _ => rfl⟩
theorem at__law_words (X : K.In h) (G : h.Ns mainGlobals mg) (c : He.SaysX faL fnL [] [] exL w h0 K) {base : Heap} (HB : K.In base) (GB : base.Ns mainGlobals mg) : DefOk P w K mg base (2) "_law_words" ["_law_m", "_law_many"] (spWords K) := by
  obtain ⟨fd, F⟩ := c.t.d.def_ 32 (d := dLWords) rfl
  exact ⟨_, fd, ok__law_words (base := base) (tx_ok X G c) F (D__law_draw := at__law_draw X G c HB GB), (He.glo_ok X G (c.t.d.fact 24 (f := .glo "_law_words") rfl)), F.kp, F.bindsN fun _ _ _ _ _ _ us hl => match us, hl with | [_, _], _ => rfl⟩
theorem at__law_scheme (X : K.In h) (G : h.Ns mainGlobals mg) (c : He.SaysX faL fnL [] [] exL w h0 K) {base : Heap} (HB : K.In base) (GB : base.Ns mainGlobals mg) : DefOk P w K mg base (3) "_law_scheme" ["_law_m", "_law_shapes"] (spScheme K) := by
  obtain ⟨fd, F⟩ := c.t.d.def_ 33 (d := dLScheme) rfl
  exact ⟨_, fd, ok__law_scheme (base := base) (tx_ok X G c) F (D__law_words := at__law_words X G c HB GB) (D__law_of := at__law_of X G c HB GB), (He.glo_ok X G (c.t.d.fact 25 (f := .glo "_law_scheme") rfl)), F.kp, F.bindsN fun _ _ _ _ _ _ us hl => match us, hl with | [_, _], _ => rfl⟩
theorem at__law_row_of (X : K.In h) (G : h.Ns mainGlobals mg) (c : He.SaysX faL fnL [] [] exL w h0 K) {base : Heap} (HB : K.In base) (GB : base.Ns mainGlobals mg) : DefOk P w K mg base (1) "_law_row_of" ["_law_names"] (spLRow K) := by
  obtain ⟨fd, F⟩ := c.t.d.def_ 34 (d := dLRowOf) rfl
  exact ⟨_, fd, ok__law_row_of (base := base) (tx_ok X G c) F , (He.glo_ok X G (c.t.d.fact 26 (f := .glo "_law_row_of") rfl)), F.kp, F.bindsN fun _ _ _ _ _ _ us hl => match us, hl with | [_], _ => rfl⟩
theorem at__law_atomic (X : K.In h) (G : h.Ns mainGlobals mg) (c : He.SaysX faL fnL [] [] exL w h0 K) {base : Heap} (HB : K.In base) (GB : base.Ns mainGlobals mg) : DefOk P w K mg base (3) "_law_atomic" ["_law_m", "_law_scheme_here", "_law_known"] (spLAtomic K) := by
  obtain ⟨fd, F⟩ := c.t.d.def_ 35 (d := dLAtomic) rfl
  exact ⟨_, fd, ok__law_atomic (base := base) (tx_ok X G c) F (D__law_row_of := at__law_row_of X G c HB GB) (D__law_of := at__law_of X G c HB GB) (D__law_draw := at__law_draw X G c HB GB), (He.glo_ok X G (c.t.d.fact 27 (f := .glo "_law_atomic") rfl)), F.kp, F.bindsN fun _ _ _ _ _ _ us hl => match us, hl with | [_, _, _], _ => rfl⟩
theorem at__law_body (X : K.In h) (G : h.Ns mainGlobals mg) (c : He.SaysX faL fnL [] [] exL w h0 K) {base : Heap} (HB : K.In base) (GB : base.Ns mainGlobals mg) : ∀ n : Nat, DefOk P w K mg base (n + 3) "_law_body" ["_law_m", "_law_scheme_here", "_law_known", "_law_deep"] (spLBody K n)
  | 0 => by
    obtain ⟨fd, F⟩ := c.t.d.def_ 36 (d := dLBody) rfl
    exact ⟨_, fd, fn_vac (sp_vac fun x W z => absurd z.2.2.2 (Nat.not_lt_zero _)), (He.glo_ok X G (c.t.d.fact 28 (f := .glo "_law_body") rfl)), F.kp, F.bindsN fun _ _ _ _ _ _ us hl => match us, hl with | [_, _, _, _], _ => rfl⟩
  | n + 1 => by
    have ih := at__law_body X G c HB GB n
    obtain ⟨fd, F⟩ := c.t.d.def_ 36 (d := dLBody) rfl
    exact ⟨_, fd, ok__law_body (base := base) (tx_ok X G c) F (D__law_body := ih) (D__law_atomic := at__law_atomic X G c HB GB) (D__law_draw := at__law_draw X G c HB GB), (He.glo_ok X G (c.t.d.fact 28 (f := .glo "_law_body") rfl)), F.kp, F.bindsN fun _ _ _ _ _ _ us hl => match us, hl with | [_, _, _, _], _ => rfl⟩
theorem at__law_flat_over (X : K.In h) (G : h.Ns mainGlobals mg) (c : He.SaysX faL fnL [] [] exL w h0 K) {base : Heap} (HB : K.In base) (GB : base.Ns mainGlobals mg) : DefOk P w K mg base (1) "_law_flat_over" ["_law_known", "_law_inner"] (spOver K) := by
  obtain ⟨fd, F⟩ := c.t.d.def_ 37 (d := dLFlatOver) rfl
  exact ⟨_, fd, ok__law_flat_over (base := base) (tx_ok X G c) F , (He.glo_ok X G (c.t.d.fact 29 (f := .glo "_law_flat_over") rfl)), F.kp, F.bindsN fun _ _ _ _ _ _ us hl => match us, hl with | [_, _], _ => rfl⟩
theorem at__law_flat (X : K.In h) (G : h.Ns mainGlobals mg) (c : He.SaysX faL fnL [] [] exL w h0 K) {base : Heap} (HB : K.In base) (GB : base.Ns mainGlobals mg) : DefOk P w K mg base (8) "_law_flat" ["_law_m", "_law_scheme_here", "_law_many", "_law_deep"] (spLFlat K) := by
  obtain ⟨fd, F⟩ := c.t.d.def_ 38 (d := dLFlat) rfl
  exact ⟨_, fd, ok__law_flat (base := base) (tx_ok X G c) F (D__law_flat_over := at__law_flat_over X G c HB GB) (D__law_body := at__law_body X G c HB GB 3) (D__law_draw := at__law_draw X G c HB GB) (D__law_of := at__law_of X G c HB GB) (D__law_words := at__law_words X G c HB GB), (He.glo_ok X G (c.t.d.fact 30 (f := .glo "_law_flat") rfl)), F.kp, F.bindsN fun _ _ _ _ _ _ us hl => match us, hl with | [_, _, _, _], _ => rfl⟩
theorem at__law_vars_of (X : K.In h) (G : h.Ns mainGlobals mg) (c : He.SaysX faL fnL [] [] exL w h0 K) {base : Heap} (HB : K.In base) (GB : base.Ns mainGlobals mg) : DefOk P w K mg base (1) "_law_vars_of" ["_law_said"] (spVarsOf K) := by
  obtain ⟨fd, F⟩ := c.t.d.def_ 39 (d := dLVarsOf) rfl
  exact ⟨_, fd, ok__law_vars_of (base := base) (tx_ok X G c) F , (He.glo_ok X G (c.t.d.fact 31 (f := .glo "_law_vars_of") rfl)), F.kp, F.bindsN fun _ _ _ _ _ _ us hl => match us, hl with | [_], _ => rfl⟩
theorem at__law_inner_of (X : K.In h) (G : h.Ns mainGlobals mg) (c : He.SaysX faL fnL [] [] exL w h0 K) {base : Heap} (HB : K.In base) (GB : base.Ns mainGlobals mg) : DefOk P w K mg base (1) "_law_inner_of" ["_law_said"] (spInner K) := by
  obtain ⟨fd, F⟩ := c.t.d.def_ 40 (d := dLInnerOf) rfl
  exact ⟨_, fd, ok__law_inner_of (base := base) (tx_ok X G c) F , (He.glo_ok X G (c.t.d.fact 32 (f := .glo "_law_inner_of") rfl)), F.kp, F.bindsN fun _ _ _ _ _ _ us hl => match us, hl with | [_], _ => rfl⟩
theorem at__law_shows (X : K.In h) (G : h.Ns mainGlobals mg) (c : He.SaysX faL fnL [] [] exL w h0 K) {base : Heap} (HB : K.In base) (GB : base.Ns mainGlobals mg) : DefOk P w K mg base (42) "_law_shows" ["_law_scheme_here", "_law_given", "_law_goal"] (spShows K) := by
  obtain ⟨fd, F⟩ := c.t.d.def_ 41 (d := dLShows) rfl
  exact ⟨_, fd, ok__law_shows (base := base) (tx_ok X G c) F (D_entail := at_entail X G c HB GB), (He.glo_ok X G (c.t.d.fact 33 (f := .glo "_law_shows") rfl)), F.kp, F.bindsN fun _ _ _ _ _ _ us hl => match us, hl with | [_, _, _], _ => rfl⟩
theorem at__law_more_right (X : K.In h) (G : h.Ns mainGlobals mg) (c : He.SaysX faL fnL [] [] exL w h0 K) {base : Heap} (HB : K.In base) (GB : base.Ns mainGlobals mg) : DefOk P w K mg base (43) "_law_more_right" ["_law_m", "_law_scheme_here", "_law_given", "_law_goal"] (spMore K) := by
  obtain ⟨fd, F⟩ := c.t.d.def_ 42 (d := dLMoreRight) rfl
  exact ⟨_, fd, ok__law_more_right (base := base) (tx_ok X G c) F (D__law_shows := at__law_shows X G c HB GB) (D__law_flat := at__law_flat X G c HB GB) (D__law_draw := at__law_draw X G c HB GB), (He.glo_ok X G (c.t.d.fact 34 (f := .glo "_law_more_right") rfl)), F.kp, F.bindsN fun _ _ _ _ _ _ us hl => match us, hl with | [_, _, _, _], _ => rfl⟩
theorem at__law_cut_right (X : K.In h) (G : h.Ns mainGlobals mg) (c : He.SaysX faL fnL [] [] exL w h0 K) {base : Heap} (HB : K.In base) (GB : base.Ns mainGlobals mg) : DefOk P w K mg base (43) "_law_cut_right" ["_law_scheme_here", "_law_given", "_law_between", "_law_goal"] (spCut K) := by
  obtain ⟨fd, F⟩ := c.t.d.def_ 43 (d := dLCutRight) rfl
  exact ⟨_, fd, ok__law_cut_right (base := base) (tx_ok X G c) F (D__law_shows := at__law_shows X G c HB GB), (He.glo_ok X G (c.t.d.fact 35 (f := .glo "_law_cut_right") rfl)), F.kp, F.bindsN fun _ _ _ _ _ _ us hl => match us, hl with | [_, _, _, _], _ => rfl⟩
theorem law_ok (X : K.In h) (G : h.Ns mainGlobals mg) (c : He.SaysX faL fnL [] [] exL w h0 K) {f : Addr} (hfa : mg ("law" : Str) = some (.ref f)) : ∃ fd : FuncData, (∀ (s : Shared) (v : Value), BindsTo s fd ⟨[v], []⟩ [("_law_script", v)]) ∧ ∀ base : Heap, K.In base → base.Ns mainGlobals mg → FnOk P w K mg base CX0 44 f fd ["_law_script"] (spLaw K) := by
  obtain ⟨fd, F⟩ := c.t.d.def_ 44 (d := dLaw) rfl
  have e := hfa.symm.trans (He.glo_ok X G (c.t.d.fact 36 (f := .glo "law") rfl))
  cases e
  have b := FunD.bindsA (ps := ["_law_script"]) F fun _ _ _ _ _ _ us hl => match us, hl with | [_], _ => rfl
  exact ⟨fd, fun s v => b s [v] rfl, fun base HB GB => ok_law (base := base) (tx_ok X G c) F (D__law_shows := at__law_shows X G c HB GB) (D__law_flat_over := at__law_flat_over X G c HB GB) (D__law_inner_of := at__law_inner_of X G c HB GB) (D__law_vars_of := at__law_vars_of X G c HB GB) (D__law_of := at__law_of X G c HB GB) (D__law_cut_right := at__law_cut_right X G c HB GB) (D__law_more_right := at__law_more_right X G c HB GB) (D__law_flat := at__law_flat X G c HB GB) (D__law_draw := at__law_draw X G c HB GB) (D__law_scheme := at__law_scheme X G c HB GB) (D__law_begun := at__law_begun X G c HB GB)⟩
end
end Tk
open PySem PySem.W PySem.Calls PyProof.Rows
theorem PySem.Challenge.cw_tiekeep_k51_whole_more_given_holds : PySem.Challenge.rw_tiekeep_k51_whole_more_given.Holds := by
  w_on; o_law
  refine HandSHeadRun.head_any (r := OpenLaw.row PySem.Challenge.rw_tiekeep_k51_whole_more_given) (q := view (OpenLaw.row PySem.Challenge.rw_tiekeep_k51_whole_more_given).prog [58]) (H := Tk.hk) (ob := Tk.ob) (M := 3000) (loose := Tk.looseL) (d := HandSHeadRun.topDef (OpenLaw.row PySem.Challenge.rw_tiekeep_k51_whole_more_given).prog 58) (kwd := []) Tk.ob_eq
    (by kernel_rfl) (fun s => by kernel_rfl) Tk.run (by kernel_rfl) (by kernel_rfl) (by kernel_rfl) (by rfl) (by first | assumption | decide +kernel) (by decide +kernel) ⟨rfl, rfl, rfl, rfl, rfl, by decide +kernel⟩ ?hw ?hc
  case hw => w_witness2
  case hc =>
    refine L2.walk_ofE (l := PySem.Challenge.rw_tiekeep_k51_whole_more_given) (n := 63) (k := 44) (x := "_law_script") (CX := L2.CX0) rfl (by decide) (by kernel_rfl) ⟨rfl, by decide, by decide⟩ ?F (fun _ _ _ _ z => z)
    intro w mg fa h Y G hmg0
    obtain ⟨K, KX, c⟩ := Y
    have hmg : mg ("law" : PySem.Str) = some (.ref fa) := by
      have e : (HandSHeadRun.topDef (OpenLaw.row PySem.Challenge.rw_tiekeep_k51_whole_more_given).prog 58).name = ("law" : PySem.Str) := by kernel_rfl
      rw [← e]
      exact hmg0
    obtain ⟨fd, hb, hF⟩ := Tk.law_ok (P := (PySem.Challenge.rw_tiekeep_k51_whole_more_given).prog) (w := w) KX G c hmg
    exact ⟨K, fd, Tk.spLaw K, KX, hb, fun H a ns hl _ hS => ⟨a, ns, rfl, hS, hl, fun _ => rfl⟩, hF⟩
